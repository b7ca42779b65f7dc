/-
Texts of the walk, joined: what each one proves stands at its theorems.
-/
import Derived.Test.YthlfmbbaomdciaaGreatDoorB0DatL
set_option linter.unusedSimpArgs false
set_option linter.unusedVariables false
set_option linter.unnecessarySimpa false
namespace Go.Proofs.YthlfmbbaomdciaaGreatDoor
open Go Go.RowKit
/-- A step: who, which call. -/
structure SP where
 proc : Int
 call : CL
def k0 : CL := ⟨0, [], [], 0, 0, []⟩
def a0_ : AN := ⟨0, 0, []⟩
def p0_ : SP := ⟨0, k0⟩
def encK (c : CL) : List Value := [.int .i64 c.kind, str c.name, str c.to_, .int .i64 c.a, .int .i64 c.b, str c.text]
def encA (a : AN) : List Value := [.int .i64 a.code, .int .i64 a.n, str a.text]
def encP (p : SP) : List Value := [.int .i64 p.proc, .int .i64 p.call.kind, str p.call.name, str p.call.to_, .int .i64 p.call.a, .int .i64 p.call.b, str p.call.text]
theorem encK_len (c : CL) : (encK c).length = 6 := rfl
theorem encA_len (a : AN) : (encA a).length = 3 := rfl
theorem encP_len (p : SP) : (encP p).length = 7 := rfl
section
variable {α : Type} {enc : α → List Value} {k : Nat}
theorem flat_one (h : ∀ x, ∀ u ∈ enc x, u.oneCell' = true) (l : List α) : ∀ u ∈ l.flatMap enc, u.oneCell' = true := fun u hu => by
 obtain ⟨c, _, hc⟩ := List.mem_flatMap.1 hu
 exact h c u hc
theorem flat_part (hk : ∀ x, (enc x).length = k) (d : α) (xs : List α) (i f m : Nat) (hi : i < xs.length) (hf : f + m ≤ k) : ((xs.flatMap enc).drop (i * k + f)).take m = ((enc (xs.getD i d)).drop f).take m := by
 rw [← flat_take hk d xs i hi, ← List.drop_drop, List.drop_take, List.take_take, Nat.min_eq_left (by omega)]
theorem flat_set1 (hk : ∀ x, (enc x).length = k) (d : α) {s : List α} {i f : Nat} {v : Value} {y : α} (h : i < s.length) (hf : f < k) (hy : (enc (s.getD i d)).set f v = enc y) :
   (s.flatMap enc).take (i * k + f) ++ [v] ++ (s.flatMap enc).drop (i * k + f + 1) = (s.set i y).flatMap enc := by
 have hl := flat_length hk s
 have hx : (s.flatMap enc) = (s.flatMap enc).take (i * k) ++ enc (s.getD i d) ++ (s.flatMap enc).drop (i * k + k) := by
   have h1 := flat_take hk d s i h
   have h2 : (s.flatMap enc) = (s.flatMap enc).take (i * k) ++ (s.flatMap enc).drop (i * k) := (List.take_append_drop _ _).symm
   have h3 : (s.flatMap enc).drop (i * k) = ((s.flatMap enc).drop (i * k)).take k ++ ((s.flatMap enc).drop (i * k)).drop k := (List.take_append_drop _ _).symm
   rw [h1, List.drop_drop] at h3
   rw [List.append_assoc, ← h3]
   exact h2
 have hle : i * k + k ≤ s.length * k := by
   have : (i + 1) * k ≤ s.length * k := Nat.mul_le_mul_right k h
   rwa [Nat.succ_mul] at this
 have hlen : ((s.flatMap enc).take (i * k)).length = i * k := by rw [List.length_take, hl]; omega
 have hset : (s.flatMap enc).set (i * k + f) v = (s.set i y).flatMap enc := by
   rw [← flat_set hk s i y h, ← hy]
   conv => lhs; rw [hx]
   rw [List.append_assoc, List.set_append_right _ _ (by omega), hlen, show i * k + f - i * k = f by omega, List.set_append_left _ _ (by rw [hk]; exact hf), List.append_assoc]
 rw [← hset, List.set_eq_take_append_cons_drop, if_pos (by rw [hl]; omega)]
 simp
end
theorem oneK (l : List CL) : ∀ u ∈ l.flatMap encK, u.oneCell' = true := flat_one (fun c u hu => by
 simp only [encK, List.mem_cons, List.not_mem_nil, or_false] at hu
 rcases hu with rfl | rfl | rfl | rfl | rfl | rfl <;> rfl) l
theorem oneA (l : List AN) : ∀ u ∈ l.flatMap encA, u.oneCell' = true := flat_one (fun c u hu => by
 simp only [encA, List.mem_cons, List.not_mem_nil, or_false] at hu
 rcases hu with rfl | rfl | rfl <;> rfl) l
theorem oneP (l : List SP) : ∀ u ∈ l.flatMap encP, u.oneCell' = true := flat_one (fun c u hu => by
 simp only [encP, List.mem_cons, List.not_mem_nil, or_false] at hu
 rcases hu with rfl | rfl | rfl | rfl | rfl | rfl | rfl <;> rfl) l
instance decCL : DecidableEq CL := fun a b => decidable_of_iff (a.kind = b.kind ∧ a.name = b.name ∧ a.to_ = b.to_ ∧ a.a = b.a ∧ a.b = b.b ∧ a.text = b.text) (by cases a; cases b; simp)
instance decAN : DecidableEq AN := fun a b => decidable_of_iff (a.code = b.code ∧ a.n = b.n ∧ a.text = b.text) (by cases a; cases b; simp)
instance decSP : DecidableEq SP := fun a b => decidable_of_iff (a.proc = b.proc ∧ a.call = b.call) (by cases a; cases b; simp)
/-- A transaction; where its five rows lie. -/
structure TD where
 id : Int
 age : Int
 proc : Int
 began : Int
 calls : List CL
 ans : List AN
 rd : List Str
 wr : List Str
 marks : List Int
 state : Int
structure TA where
 a0 : Option Addr
 c0 : Nat
 a1 : Option Addr
 c1 : Nat
 a2 : Option Addr
 c2 : Nat
 a3 : Option Addr
 c3 : Nat
 a4 : Option Addr
 c4 : Nat
def TD.mark (t : TD) : TD × Int :=
 if t.state = 1 ∧ (t.marks.length : Int) < 4 then ({ t with marks := t.marks ++ [(t.calls.length : Int)] }, ((t.marks.length + 1 : Nat) : Int)) else (t, 0)
def TD.back (t : TD) (k : Int) : TD × Bool :=
 if t.state = 1 ∧ 1 ≤ k ∧ k ≤ (t.marks.length : Int) then
   ({ t with calls := t.calls.take (bro (t.marks.getD (k - 1).toNat 0) t.calls.length), ans := t.ans.take (bro (t.marks.getD (k - 1).toNat 0) t.ans.length), marks := t.marks.take (k - 1).toNat }, true)
 else (t, false)
structure TD.ok (t : TD) (n : Nat) : Prop where
 h1 : -9223372036854775808 ≤ t.id ∧ t.id ≤ 9223372036854775807
 h2 : -9223372036854775808 ≤ t.age ∧ t.age ≤ 9223372036854775807
 h3 : -9223372036854775808 ≤ t.proc ∧ t.proc ≤ 9223372036854775807
 h4 : -9223372036854775808 ≤ t.began ∧ t.began ≤ 9223372036854775807
 h5 : -9223372036854775808 ≤ t.state ∧ t.state ≤ 9223372036854775807
 hc : t.calls.length ≤ n
 ha : t.ans.length ≤ n
 hr : t.rd.length ≤ n
 hw : t.wr.length ≤ n
 hm : t.marks.length ≤ n
/-- A told row can be read; each of some. -/
def RD.sees (w : World) (r : RD) : Prop := Sees w r.v r.k r.n r.cs
def SeesA (w : World) (rs : List RD) : Prop := ∀ r ∈ rs, r.sees w
section
variable {w0 w : World} {D : List Nat} {L F : List Res} {rs A B C : List RD} {r : RD}
theorem SeesA.nil : SeesA w [] := fun _ h => by cases h
theorem SeesA.cons (h : r.sees w) (h' : SeesA w rs) : SeesA w (r :: rs) := fun q hq => by
 rcases List.mem_cons.1 hq with rfl | hq
 · exact h
 · exact h' q hq
theorem SeesA.head (h : SeesA w (r :: rs)) : r.sees w := h r (List.mem_cons_self ..)
theorem SeesA.tail (h : SeesA w (r :: rs)) : SeesA w rs := fun q hq => h q (List.mem_cons_of_mem _ hq)
theorem ownsR_sees {t k n : Nat} {v : Value} {cs : List Value} (h : World.ownsR w 0 t k v n cs) : Sees w v k n cs := by
 refine ⟨h.1, ?_⟩
 rcases h.2 with ⟨hv, rfl⟩ | ⟨g, cap, cur, hv, _, hg, h1, h2, h3, h4⟩
 · exact .inl ⟨hv, rfl⟩
 · subst hv
   refine .inr ⟨g, 0, cap, rfl, h1, h2, hg.lt, fun j u hj => ?_⟩
   obtain ⟨g', hg', hcell⟩ := row_cell h hj
   simp only [Option.some.injEq, Addr.mk.injEq, and_true] at hg'
   rw [Nat.zero_add, hg']
   exact hcell
theorem St.seeRows (hw : St w0 D L w) (i : Nat) (hL : L[i]? = some (.rows rs)) : SeesA w rs := fun r hr => ownsR_sees (hw.get hL r hr)
theorem St.seeOutA (hw : St w0 D L w) (hs : SeesA w0 rs) (hD : ∀ r ∈ rs, ∀ b, r.v.ownBlock = some b → b ∉ D) : SeesA w rs := fun r hr => hw.seeOut_ (hs r hr) (hD r hr)
theorem nMA : ∀ r ∈ rs, ∀ b, r.v.ownBlock = some b → b ∉ ([] : List Nat) := fun _ _ _ _ => List.not_mem_nil
/-- It can be read, or it is empty, wherever it points. -/
def SeesE (w : World) (v : Value) (k m : Nat) (cs : List Value) : Prop := Sees w v k m cs ∨ ((∃ a, v = .slice a 0 0) ∧ m = 0 ∧ cs = [])
def SeesAE (w : World) (rs : List RD) : Prop := ∀ r ∈ rs, SeesE w r.v r.k r.n r.cs
theorem SeesAE.nil : SeesAE w [] := fun _ h => by cases h
theorem SeesAE.cons (h : SeesE w r.v r.k r.n r.cs) (h' : SeesAE w rs) : SeesAE w (r :: rs) := fun q hq => by
 rcases List.mem_cons.1 hq with rfl | hq
 · exact h
 · exact h' q hq
theorem SeesAE.head (h : SeesAE w (r :: rs)) : SeesE w r.v r.k r.n r.cs := h r (List.mem_cons_self ..)
theorem SeesAE.tail (h : SeesAE w (r :: rs)) : SeesAE w rs := fun q hq => h q (List.mem_cons_of_mem _ hq)
theorem St.openR (i : Nat) (hp : pick [i] L = some ([.rows A], F)) (hw : St w0 D L w) : St w0 D (A.map RD.res ++ F) w := St.openRows (hw.perm (pick_perm [i] hp).symm)
theorem St.closeR (is : List Nat) (hp : pick is L = some (A.map RD.res, F)) (hw : St w0 D L w) : St w0 D (.rows A :: F) w := St.closeRows (hw.perm (pick_perm is hp).symm)
end
section
variable {P : Program} {ops : Array Oper} {Q : Exit → Act → World → Prop} {n : Nat} {w0 : World} {D : List Nat} {L L' : List Res} {e : Env}
theorem JL.ghost {l : List Oper} (g : ∀ w, St w0 D L w → St w0 D L' w) (h : JL P ops Q n w0 D L' l e) : JL P ops Q n w0 D L l e := fun w hw => h w (g w hw)
theorem JC.ghost {c : Code} (g : ∀ w, St w0 D L w → St w0 D L' w) (h : JC P Q n w0 D L' c e) : JC P Q n w0 D L c e := fun w hw => h w (g w hw)
theorem jw {x : Exit} (g : ∀ w, St w0 D L w → St w0 D L' w) (h : JQ Q x n w0 D L' e) : JQ Q x n w0 D L e := fun w hw => h w (g w hw)
theorem St.eqL {w : World} (hL : L = L') (hw : St w0 D L w) : St w0 D L' w := hL ▸ hw
end
end Go.Proofs.YthlfmbbaomdciaaGreatDoor
namespace Go.Proofs.YthlfmbbaomdciaaGreatDoor
open Go Go.RowKit
inductive Pr (α : Type) where
 | ret (a : α)
 | look (k : Str) (f : Str → Pr α)
 | lay (k v : Str) (p : Pr α)
 | under (k : Str) (f : List Str → Pr α)
namespace Pr
variable {α : Type}
def run : Pr α → MS → MS × α
 | .ret a, m => (m, a)
 | .look k f, m => (f (m.look k).2).run (m.look k).1
 | .lay k v p, m => p.run (m.lay k v)
 | .under k f, m => (f (m.under k).2).run (m.under k).1
theorem ite_run {β : Type} {c : Prop} [d : Decidable c] {X Y : MS × α} {P Q : MS × β} {f : β → Pr α} (h1 : X = (f P.2).run P.1) (h2 : Y = (f Q.2).run Q.1) : (if c then X else Y) = (f (if c then P else Q).2).run (if c then P else Q).1 := by split <;> assumption
theorem run_ite {c : Prop} [d : Decidable c] {p q : Pr α} {m : MS} : (if c then p else q).run m = if c then p.run m else q.run m := by split <;> rfl
def num (k : Str) (f : Int → Pr α) : Pr α := .look k fun v => f (numOf v)
def setNum (k : Str) (n : Int) (p : Pr α) : Pr α := .lay k (if 1 ≤ n ∧ n ≤ 999 then dec n else []) p
def bump (k : Str) (f : Int → Pr α) : Pr α := num k fun n => if 999 < n + 1 then f 0 else setNum k (n + 1) (f (n + 1))
def message (k : Str) (f : Str → Pr α) : Pr α := .look k fun v => f (messageOf v)
def fileOf (n : Str) (f : Int → Pr α) : Pr α := if nameOk n = true then num (([110, 47] : Str) ++ n) f else f 0
def makeName (name : Str) (f : Int → Int → Pr α) : Pr α :=
 if nameOk name = true then fileOf name fun id => if id = 0 then num ([99, 47, 102, 105, 108, 101] : Str) fun n => if 20 ≤ n then f 0 3 else
   bump ([99, 47, 102, 105, 108, 101] : Str) fun id => setNum (([110, 47] : Str) ++ name) id <| setNum (keyNum ([105, 47] : Str) id ([47, 108] : Str)) 1 <| f id 0
 else f 0 1 else f 0 4
def linkName (from_ to_ : Str) (f : Int → Pr α) : Pr α :=
 if nameOk from_ = true then if nameOk to_ = true then fileOf from_ fun id => if id = 0 then f 2 else fileOf to_ fun o => if o = 0 then
   num (keyNum ([105, 47] : Str) id ([47, 108] : Str)) fun n => if 4 ≤ n then f 3 else setNum (([110, 47] : Str) ++ to_) id <| setNum (keyNum ([105, 47] : Str) id ([47, 108] : Str)) (n + 1) <| f 0
 else f 1 else f 4 else f 4
def wipeL : List Str → Pr α → Pr α
 | [], p => p
 | k :: l, p => .lay k [] (wipeL l p)
def wipe' (k : Str) (p : Pr α) : Pr α := .under k fun l => wipeL l p
def unlinkName (name : Str) (f : Int → Pr α) : Pr α :=
 if nameOk name = true then fileOf name fun id => if id = 0 then f 2 else .lay (([110, 47] : Str) ++ name) [] <| num (keyNum ([105, 47] : Str) id ([47, 108] : Str)) fun n =>
   if 1 < n then setNum (keyNum ([105, 47] : Str) id ([47, 108] : Str)) (n - 1) <| f 0 else wipe' (keyNum ([105, 47] : Str) id ([47] : Str)) <| f 0
 else f 4
def renameName (from_ to_ : Str) (f : Int → Pr α) : Pr α :=
 if nameOk from_ = true then if nameOk to_ = true then fileOf from_ fun id => if id = 0 then f 2 else fileOf to_ fun o => if o = id then f 0 else
   if o = 0 then setNum (([110, 47] : Str) ++ to_) id <| .lay (([110, 47] : Str) ++ from_) [] <| f 0 else
     unlinkName to_ fun _ => setNum (([110, 47] : Str) ++ to_) id <| .lay (([110, 47] : Str) ++ from_) [] <| f 0
 else f 4 else f 4
def names (f : List Str → Pr α) : Pr α := .under ([110, 47] : Str) fun l => f (dropAcc 2 l [])
def sizeOf (id : Int) (f : Int → Pr α) : Pr α := num (keyNum ([105, 47] : Str) id ([47, 115] : Str)) f
def block (id place : Int) (f : Str → Pr α) : Pr α := .look (keyNum (keyNum ([105, 47] : Str) id ([47, 98, 47] : Str)) place []) fun v => f (unhex v).1
def makePipe (f : Int → Int → Pr α) : Pr α := num ([99, 47, 112, 105, 112, 101] : Str) fun n => if 8 ≤ n then f 0 3 else
 bump ([99, 47, 112, 105, 112, 101] : Str) fun id => setNum (keyNum ([112, 47] : Str) id ([47, 111] : Str)) 1 <| f id 0
def isPipe (id : Int) (f : Bool → Pr α) : Pr α := num (keyNum ([112, 47] : Str) id ([47, 111] : Str)) fun n => f (decide (n = 1))
def putPipe (id : Int) (text : Str) (f : Int → Pr α) : Pr α := isPipe id fun b => if b = true then if 20 < (text.length : Int) then f 4 else
   num (keyNum ([112, 47] : Str) id ([47, 116] : Str)) fun t => num (keyNum ([112, 47] : Str) id ([47, 104] : Str)) fun h => if 4 ≤ t - h then f 5 else if 999 ≤ t then f 3 else
     setNum (keyNum ([112, 47] : Str) id ([47, 116] : Str)) (t + 1) <| .lay (keyNum (keyNum ([112, 47] : Str) id ([47, 113, 47] : Str)) (t + 1) []) (([45] : Str) ++ hexS text) <| f 0
 else f 2
def takePipe (id : Int) (f : Str → Int → Pr α) : Pr α := isPipe id fun b => if b = true then
   num (keyNum ([112, 47] : Str) id ([47, 104] : Str)) fun h => num (keyNum ([112, 47] : Str) id ([47, 116] : Str)) fun t => if t = h then f [] 5 else
     message (keyNum (keyNum ([112, 47] : Str) id ([47, 113, 47] : Str)) (h + 1) []) fun x => .lay (keyNum (keyNum ([112, 47] : Str) id ([47, 113, 47] : Str)) (h + 1) []) [] <| setNum (keyNum ([112, 47] : Str) id ([47, 104] : Str)) (h + 1) <| f x 0
 else f [] 2
def state (id : Int) (f : Int → Pr α) : Pr α := num (keyNum ([114, 47] : Str) id ([47, 115] : Str)) f
def spawn (parent : Int) (f : Int → Int → Pr α) : Pr α := num ([99, 47, 112, 114, 111, 99] : Str) fun n => if 12 ≤ n then f 0 3 else
 bump ([99, 47, 112, 114, 111, 99] : Str) fun id => setNum (keyNum ([114, 47] : Str) id ([47, 115] : Str)) 1 <| setNum (keyNum ([114, 47] : Str) id ([47, 112] : Str)) parent <| f id 0
def endProc (id n : Int) (f : Int → Pr α) : Pr α := state id fun s => if s = 1 then if 0 ≤ n ∧ n ≤ 100 then
   setNum (keyNum ([114, 47] : Str) id ([47, 115] : Str)) 2 <| setNum (keyNum ([114, 47] : Str) id ([47, 120] : Str)) (n + 1) <| f 0 else f 4 else f 2
def reap (parent id : Int) (f : Int → Int → Pr α) : Pr α := num (keyNum ([114, 47] : Str) id ([47, 112] : Str)) fun own => if own = 0 then f 0 2 else if own = parent then
   state id fun s => if s = 1 then f 0 5 else if s = 2 then num (keyNum ([114, 47] : Str) id ([47, 120] : Str)) fun n => wipe' (keyNum ([114, 47] : Str) id ([47] : Str)) <| f (n - 1) 0 else f 0 2
 else f 0 2
def kidsL (parent : Int) : List Str → List Int → (List Int → Pr α) → Pr α
 | [], out, f => f out
 | k :: l, out, f => if MS.isKid k = true then num k fun n => if n = parent then kidsL parent l (out ++ [numOf ((k.take (k.length - 2)).drop 2)]) f else kidsL parent l out f else kidsL parent l out f
def kids (parent : Int) (f : List Int → Pr α) : Pr α := .under ([114, 47] : Str) fun l => kidsL parent l [] f
def send (to_ n : Int) (f : Int → Pr α) : Pr α := state to_ fun s => if s = 1 then if 1 ≤ n ∧ n ≤ 31 then
     num (keyNum ([103, 47] : Str) to_ ([47, 116] : Str)) fun t => num (keyNum ([103, 47] : Str) to_ ([47, 104] : Str)) fun h => if 4 ≤ t - h then f 5 else if 999 ≤ t then f 3 else
       setNum (keyNum ([103, 47] : Str) to_ ([47, 116] : Str)) (t + 1) <| setNum (keyNum (keyNum ([103, 47] : Str) to_ ([47, 113, 47] : Str)) (t + 1) []) n <| f 0
   else f 4 else f 2
def takeSignal (id : Int) (f : Int → Int → Pr α) : Pr α := num (keyNum ([103, 47] : Str) id ([47, 104] : Str)) fun h => num (keyNum ([103, 47] : Str) id ([47, 116] : Str)) fun t => if t = h then f 0 5 else
 num (keyNum (keyNum ([103, 47] : Str) id ([47, 113, 47] : Str)) (h + 1) []) fun n => .lay (keyNum (keyNum ([103, 47] : Str) id ([47, 113, 47] : Str)) (h + 1) []) [] <| setNum (keyNum ([103, 47] : Str) id ([47, 104] : Str)) (h + 1) <| f n 0
def setTimer (id at_ : Int) (f : Int → Pr α) : Pr α := if 0 ≤ at_ ∧ at_ ≤ 999 then setNum (keyNum ([116, 47] : Str) id []) at_ <| f 0 else f 4
def tickL (clock : Int) : List Str → Int → (Int → Pr α) → Pr α
 | [], k, f => f k
 | x :: l, k, f => num x fun n => if clock < n then tickL clock l k f else .lay x [] <| send (numOf (x.drop 2)) 14 fun _ => tickL clock l (k + 1) f
def tick (n : Int) (f : Int → Int → Pr α) : Pr α := if n < 1 then f 0 4 else num ([99, 47, 99, 108, 111, 99, 107] : Str) fun c => if 999 - c < n then f 0 3 else
 setNum ([99, 47, 99, 108, 111, 99, 107] : Str) (c + n) <| .under ([116, 47] : Str) fun l => tickL (c + n) l 0 fun k => f k 0
def storePage (id page : Int) (text : Str) (f : Int → Pr α) : Pr α := if 0 ≤ page ∧ page ≤ 3 then if 20 < (text.length : Int) then f 4 else
   .lay (keyNum (keyNum ([109, 47] : Str) id ([47] : Str)) page []) (if text = [] then [] else ([45] : Str) ++ hexS text) <| f 0 else f 4
def loadPage (id page : Int) (f : Str → Int → Pr α) : Pr α := if 0 ≤ page ∧ page ≤ 3 then message (keyNum (keyNum ([109, 47] : Str) id ([47] : Str)) page []) fun x => f x 0 else f [] 4
def forkL (k : Nat) (to_ : Int) : List Str → Pr α → Pr α
 | [], p => p
 | x :: l, p => .look x fun v => .lay (keyNum ([109, 47] : Str) to_ ([47] : Str) ++ x.drop k) v <| forkL k to_ l p
def forkPages (from_ to_ : Int) (p : Pr α) : Pr α := .under (keyNum ([109, 47] : Str) from_ ([47] : Str)) fun l => forkL (keyNum ([109, 47] : Str) from_ ([47] : Str)).length to_ l p
def dropPages (id : Int) (p : Pr α) : Pr α := wipe' (keyNum ([109, 47] : Str) id ([47] : Str)) p
def putOut (text : Str) (f : Int → Pr α) : Pr α := if 1 ≤ (text.length : Int) ∧ (text.length : Int) ≤ 20 then num ([100, 47, 110] : Str) fun n => if 40 ≤ n then f 3 else
 setNum ([100, 47, 110] : Str) (n + 1) <| .lay (keyNum ([100, 47] : Str) (n + 1) []) (([45] : Str) ++ hexS text) <| f 0 else f 4
def readL (id : Int) (a e : Nat) : Nat → Nat → Str → (Str → Pr α) → Pr α
 | 0, _, out, f => f out
 | k + 1, p, out, f => if p * 8 < e then block id (p : Int) fun b => readL id a e k (p + 1) (out ++ piece b (a - p * 8) (min (min (e - p * 8) 8) b.length)) f else f out
def readFile (id at_ n : Int) (f : Str → Pr α) : Pr α := sizeOf id fun size => if at_ < 0 ∨ n < 1 ∨ size ≤ at_ then f [] else readL id at_.toNat (at_ + min n (size - at_)).toNat (130 - at_.toNat / 8) (at_.toNat / 8) [] f
def writeL (id : Int) (text : Str) (a e : Nat) : Nat → Nat → Pr α → Pr α
 | 0, _, q => q
 | k + 1, p, q => if p * 8 < e then block id (p : Int) fun b => .lay (MS.blockKey id p) (hexS (overTo text a (p * 8) b (min e (p * 8 + 8) - max a (p * 8)))) <| writeL id text a e k (p + 1) q else q
def writeFile (id at_ : Int) (text : Str) (f : Int → Pr α) : Pr α := sizeOf id fun size => if at_ < 0 ∨ size < at_ ∨ (text.length : Int) = 0 then f 4 else
   if 64 < at_ + (text.length : Int) then f 3 else
   if size < at_ + (text.length : Int) then writeL id text at_.toNat (at_.toNat + text.length) (130 - at_.toNat / 8) (at_.toNat / 8) <| setNum (keyNum ([105, 47] : Str) id ([47, 115] : Str)) ((at_.toNat + text.length : Nat) : Int) <| f 0
   else writeL id text at_.toNat (at_.toNat + text.length) (130 - at_.toNat / 8) (at_.toNat / 8) <| f 0
def cutL (id : Int) (z : Nat) : Nat → Nat → Pr α → Pr α
 | 0, _, q => q
 | k + 1, p, q => if p * 8 < z then .lay (MS.blockKey id p) [] <| cutL id z k (p + 1) q else q
def cutFile (id n : Int) (f : Int → Pr α) : Pr α := sizeOf id fun size => if n < 0 ∨ size < n then f 4 else
   if 0 < n.toNat % 8 then
     block id ((n.toNat / 8 : Nat) : Int) fun b => .lay (MS.blockKey id (n.toNat / 8)) (hexS (b.take (min (n.toNat % 8) b.length))) <| cutL id size.toNat (130 - (n.toNat / 8 + 1)) (n.toNat / 8 + 1) <| setNum (keyNum ([105, 47] : Str) id ([47, 115] : Str)) n <| f 0
   else cutL id size.toNat (130 - n.toNat / 8) (n.toNat / 8) <| setNum (keyNum ([105, 47] : Str) id ([47, 115] : Str)) n <| f 0
def doFile (c : CL) (f : AN → Pr α) : Pr α := fileOf c.name fun id => if id = 0 then f ⟨2, 0, []⟩ else
   if c.kind = 6 then readFile id c.a c.b fun t => f ⟨0, 0, t⟩ else
   if c.kind = 7 then writeFile id c.a c.text fun k => f ⟨k, 0, []⟩ else cutFile id c.a fun k => f ⟨k, 0, []⟩
def doProc (proc : Int) (c : CL) (f : AN → Pr α) : Pr α :=
 if c.kind = 12 then spawn proc fun id k => if k = 0 then forkPages proc id <| f ⟨k, id, []⟩ else f ⟨k, id, []⟩ else
 if c.kind = 13 then endProc proc c.a fun k => if k = 0 then dropPages proc <| f ⟨k, 0, []⟩ else f ⟨k, 0, []⟩ else
 if c.kind = 14 then reap proc c.a fun n k => f ⟨k, n, []⟩ else kids proc fun l => f ⟨0, 0, joinD l []⟩
def doKind (proc : Int) (c : CL) (f : AN → Pr α) : Pr α :=
 if c.kind = 1 then makeName c.name fun n k => f ⟨k, n, []⟩ else
 if c.kind = 2 then linkName c.name c.to_ fun k => f ⟨k, 0, []⟩ else
 if c.kind = 3 then unlinkName c.name fun k => f ⟨k, 0, []⟩ else
 if c.kind = 4 then renameName c.name c.to_ fun k => f ⟨k, 0, []⟩ else
 if c.kind = 5 then names fun l => f ⟨0, 0, joinL l []⟩ else
 if c.kind = 6 then doFile c f else
 if c.kind = 7 then doFile c f else
 if c.kind = 8 then doFile c f else
 if c.kind = 9 then makePipe fun n k => f ⟨k, n, []⟩ else
 if c.kind = 10 then putPipe c.a c.text fun k => f ⟨k, 0, []⟩ else
 if c.kind = 11 then takePipe c.a fun t k => f ⟨k, 0, t⟩ else
 if c.kind = 16 then send c.a c.b fun k => f ⟨k, 0, []⟩ else
 if c.kind = 17 then takeSignal proc fun n k => f ⟨k, n, []⟩ else
 if c.kind = 18 then setTimer proc c.a fun k => f ⟨k, 0, []⟩ else
 if c.kind = 19 then tick c.a fun n k => f ⟨k, n, []⟩ else
 if c.kind = 20 then storePage proc c.a c.text fun k => f ⟨k, 0, []⟩ else
 if c.kind = 21 then loadPage proc c.a fun t k => f ⟨k, 0, t⟩ else
 if c.kind = 22 then putOut c.text fun k => f ⟨k, 0, []⟩ else doProc proc c f
def doCall (proc : Int) (c : CL) : Pr AN := state proc fun s => if s = 1 then (if callOk c = true then doKind proc c .ret else .ret ⟨4, 0, []⟩) else .ret ⟨2, 0, []⟩
theorem run_setNum {k : Str} {n : Int} {p : Pr α} {m : MS} : (setNum k n p).run m = p.run (m.setNum k n) := rfl
theorem run_num (k : Str) (f) (m : MS) : (num k f : Pr α).run m = (f (m.num k).2).run (m.num k).1 := by
 unfold num MS.num
 (try dsimp only)
 simp only [run_ite, run, run_setNum]
 repeat' (first | rfl | split)
theorem run_bump (k : Str) (f) (m : MS) : (bump k f : Pr α).run m = (f (m.bump k).2).run (m.bump k).1 := by
 unfold bump MS.bump
 (try dsimp only)
 simp only [run_ite, run, run_setNum, run_num]
 repeat' (first | rfl | split)
theorem run_message (k : Str) (f) (m : MS) : (message k f : Pr α).run m = (f (m.message k).2).run (m.message k).1 := by
 unfold message MS.message
 (try dsimp only)
 simp only [run_ite, run, run_setNum, run_num, run_bump]
 repeat' (first | rfl | split)
theorem run_fileOf (n : Str) (f) (m : MS) : (fileOf n f : Pr α).run m = (f (m.fileOf n).2).run (m.fileOf n).1 := by
 unfold fileOf MS.fileOf
 (try dsimp only)
 simp only [run_ite, run, run_setNum, run_num, run_bump, run_message]
 repeat' (first | rfl | split)
theorem run_makeName (n : Str) (f) (m : MS) : (makeName n f : Pr α).run m = (f (m.makeName n).2.1 (m.makeName n).2.2).run (m.makeName n).1 := by
 unfold makeName MS.makeName
 (try dsimp only)
 simp only [run_ite, run, run_setNum, run_num, run_bump, run_message, run_fileOf]
 repeat' (first | rfl | split)
theorem run_linkName (a b : Str) (f) (m : MS) : (linkName a b f : Pr α).run m = (f (m.linkName a b).2).run (m.linkName a b).1 := by
 unfold linkName MS.linkName
 (try dsimp only)
 simp only [run_ite, run, run_setNum, run_num, run_bump, run_message, run_fileOf, run_makeName]
 repeat' (first | rfl | split)
theorem run_wipeL {p : Pr α} : ∀ (l : List Str) (m : MS), (wipeL l p).run m = p.run (MS.wipeL l m)
 | [], m => rfl
 | k :: l, m => run_wipeL l (m.lay k [])
theorem run_wipe' (k : Str) (p : Pr α) (m : MS) : (wipe' k p).run m = p.run (m.wipe' k) := by
 unfold wipe' MS.wipe'
 (try dsimp only)
 simp only [run_ite, run, run_setNum, run_num, run_bump, run_message, run_fileOf, run_makeName, run_linkName, run_wipeL]
 repeat' (first | rfl | split)
theorem run_unlinkName (n : Str) (f) (m : MS) : (unlinkName n f : Pr α).run m = (f (m.unlinkName n).2).run (m.unlinkName n).1 := by
 unfold unlinkName MS.unlinkName
 (try dsimp only)
 simp only [run_ite, run, run_setNum, run_num, run_bump, run_message, run_fileOf, run_makeName, run_linkName, run_wipeL, run_wipe']
 repeat' (first | rfl | split)
theorem run_renameName (a b : Str) (f) (m : MS) : (renameName a b f : Pr α).run m = (f (m.renameName a b).2).run (m.renameName a b).1 := by
 unfold renameName MS.renameName
 (try dsimp only)
 simp only [run_ite, run, run_setNum, run_num, run_bump, run_message, run_fileOf, run_makeName, run_linkName, run_wipeL, run_wipe', run_unlinkName]
 repeat' (first | rfl | split)
theorem run_names  (f) (m : MS) : (names  f : Pr α).run m = (f (m.names).2).run (m.names).1 := by
 unfold names MS.names
 (try dsimp only)
 simp only [run_ite, run, run_setNum, run_num, run_bump, run_message, run_fileOf, run_makeName, run_linkName, run_wipeL, run_wipe', run_unlinkName, run_renameName]
 repeat' (first | rfl | split)
theorem run_sizeOf (a : Int) (f) (m : MS) : (sizeOf a f : Pr α).run m = (f (m.sizeOf a).2).run (m.sizeOf a).1 := by
 unfold sizeOf MS.sizeOf
 (try dsimp only)
 simp only [run_ite, run, run_setNum, run_num, run_bump, run_message, run_fileOf, run_makeName, run_linkName, run_wipeL, run_wipe', run_unlinkName, run_renameName, run_names]
 repeat' (first | rfl | split)
theorem run_block (a b : Int) (f) (m : MS) : (block a b f : Pr α).run m = (f (m.block a b).2).run (m.block a b).1 := by
 unfold block MS.block
 (try dsimp only)
 simp only [run_ite, run, run_setNum, run_num, run_bump, run_message, run_fileOf, run_makeName, run_linkName, run_wipeL, run_wipe', run_unlinkName, run_renameName, run_names, run_sizeOf]
 repeat' (first | rfl | split)
theorem run_makePipe  (f) (m : MS) : (makePipe  f : Pr α).run m = (f (m.makePipe).2.1 (m.makePipe).2.2).run (m.makePipe).1 := by
 unfold makePipe MS.makePipe
 (try dsimp only)
 simp only [run_ite, run, run_setNum, run_num, run_bump, run_message, run_fileOf, run_makeName, run_linkName, run_wipeL, run_wipe', run_unlinkName, run_renameName, run_names, run_sizeOf, run_block]
 repeat' (first | rfl | split)
theorem run_isPipe (a : Int) (f) (m : MS) : (isPipe a f : Pr α).run m = (f (m.isPipe a).2).run (m.isPipe a).1 := by
 unfold isPipe MS.isPipe
 (try dsimp only)
 simp only [run_ite, run, run_setNum, run_num, run_bump, run_message, run_fileOf, run_makeName, run_linkName, run_wipeL, run_wipe', run_unlinkName, run_renameName, run_names, run_sizeOf, run_block, run_makePipe]
 repeat' (first | rfl | split)
theorem run_putPipe (a : Int) (x : Str) (f) (m : MS) : (putPipe a x f : Pr α).run m = (f (m.putPipe a x).2).run (m.putPipe a x).1 := by
 unfold putPipe MS.putPipe
 (try dsimp only)
 simp only [run_ite, run, run_setNum, run_num, run_bump, run_message, run_fileOf, run_makeName, run_linkName, run_wipeL, run_wipe', run_unlinkName, run_renameName, run_names, run_sizeOf, run_block, run_makePipe, run_isPipe]
 repeat' (first | rfl | split)
theorem run_takePipe (a : Int) (f) (m : MS) : (takePipe a f : Pr α).run m = (f (m.takePipe a).2.1 (m.takePipe a).2.2).run (m.takePipe a).1 := by
 unfold takePipe MS.takePipe
 (try dsimp only)
 simp only [run_ite, run, run_setNum, run_num, run_bump, run_message, run_fileOf, run_makeName, run_linkName, run_wipeL, run_wipe', run_unlinkName, run_renameName, run_names, run_sizeOf, run_block, run_makePipe, run_isPipe, run_putPipe]
 repeat' (first | rfl | split)
theorem run_state (a : Int) (f) (m : MS) : (state a f : Pr α).run m = (f (m.state a).2).run (m.state a).1 := by
 unfold state MS.state
 (try dsimp only)
 simp only [run_ite, run, run_setNum, run_num, run_bump, run_message, run_fileOf, run_makeName, run_linkName, run_wipeL, run_wipe', run_unlinkName, run_renameName, run_names, run_sizeOf, run_block, run_makePipe, run_isPipe, run_putPipe, run_takePipe]
 repeat' (first | rfl | split)
theorem run_spawn (a : Int) (f) (m : MS) : (spawn a f : Pr α).run m = (f (m.spawn a).2.1 (m.spawn a).2.2).run (m.spawn a).1 := by
 unfold spawn MS.spawn
 (try dsimp only)
 simp only [run_ite, run, run_setNum, run_num, run_bump, run_message, run_fileOf, run_makeName, run_linkName, run_wipeL, run_wipe', run_unlinkName, run_renameName, run_names, run_sizeOf, run_block, run_makePipe, run_isPipe, run_putPipe, run_takePipe, run_state]
 repeat' (first | rfl | split)
theorem run_endProc (a b : Int) (f) (m : MS) : (endProc a b f : Pr α).run m = (f (m.endProc a b).2).run (m.endProc a b).1 := by
 unfold endProc MS.endProc
 (try dsimp only)
 simp only [run_ite, run, run_setNum, run_num, run_bump, run_message, run_fileOf, run_makeName, run_linkName, run_wipeL, run_wipe', run_unlinkName, run_renameName, run_names, run_sizeOf, run_block, run_makePipe, run_isPipe, run_putPipe, run_takePipe, run_state, run_spawn]
 repeat' (first | rfl | split)
theorem run_reap (a b : Int) (f) (m : MS) : (reap a b f : Pr α).run m = (f (m.reap a b).2.1 (m.reap a b).2.2).run (m.reap a b).1 := by
 unfold reap MS.reap
 (try dsimp only)
 simp only [run_ite, run, run_setNum, run_num, run_bump, run_message, run_fileOf, run_makeName, run_linkName, run_wipeL, run_wipe', run_unlinkName, run_renameName, run_names, run_sizeOf, run_block, run_makePipe, run_isPipe, run_putPipe, run_takePipe, run_state, run_spawn, run_endProc]
 repeat' (first | rfl | split)
theorem run_kidsL {a : Int} {f : List Int → Pr α} : ∀ (l : List Str) (o : List Int) (m : MS), (kidsL a l o f).run m = (f (MS.kidsL a l m o).2).run (MS.kidsL a l m o).1
 | [], o, m => rfl
 | k :: l, o, m => by
   unfold kidsL MS.kidsL
   dsimp only
   simp only [run_ite, run_num, run_kidsL]
   repeat' (first | rfl | split)
theorem run_kids (a : Int) (f) (m : MS) : (kids a f : Pr α).run m = (f (m.kids a).2).run (m.kids a).1 := by
 unfold kids MS.kids
 (try dsimp only)
 simp only [run_ite, run, run_setNum, run_num, run_bump, run_message, run_fileOf, run_makeName, run_linkName, run_wipeL, run_wipe', run_unlinkName, run_renameName, run_names, run_sizeOf, run_block, run_makePipe, run_isPipe, run_putPipe, run_takePipe, run_state, run_spawn, run_endProc, run_reap, run_kidsL]
 repeat' (first | rfl | split)
theorem run_send (a b : Int) (f) (m : MS) : (send a b f : Pr α).run m = (f (m.send a b).2).run (m.send a b).1 := by
 unfold send MS.send
 (try dsimp only)
 simp only [run_ite, run, run_setNum, run_num, run_bump, run_message, run_fileOf, run_makeName, run_linkName, run_wipeL, run_wipe', run_unlinkName, run_renameName, run_names, run_sizeOf, run_block, run_makePipe, run_isPipe, run_putPipe, run_takePipe, run_state, run_spawn, run_endProc, run_reap, run_kidsL, run_kids]
 repeat' (first | rfl | split)
theorem run_takeSignal (a : Int) (f) (m : MS) : (takeSignal a f : Pr α).run m = (f (m.takeSignal a).2.1 (m.takeSignal a).2.2).run (m.takeSignal a).1 := by
 unfold takeSignal MS.takeSignal
 (try dsimp only)
 simp only [run_ite, run, run_setNum, run_num, run_bump, run_message, run_fileOf, run_makeName, run_linkName, run_wipeL, run_wipe', run_unlinkName, run_renameName, run_names, run_sizeOf, run_block, run_makePipe, run_isPipe, run_putPipe, run_takePipe, run_state, run_spawn, run_endProc, run_reap, run_kidsL, run_kids, run_send]
 repeat' (first | rfl | split)
theorem run_setTimer (a b : Int) (f) (m : MS) : (setTimer a b f : Pr α).run m = (f (m.setTimer a b).2).run (m.setTimer a b).1 := by
 unfold setTimer MS.setTimer
 (try dsimp only)
 simp only [run_ite, run, run_setNum, run_num, run_bump, run_message, run_fileOf, run_makeName, run_linkName, run_wipeL, run_wipe', run_unlinkName, run_renameName, run_names, run_sizeOf, run_block, run_makePipe, run_isPipe, run_putPipe, run_takePipe, run_state, run_spawn, run_endProc, run_reap, run_kidsL, run_kids, run_send, run_takeSignal]
 repeat' (first | rfl | split)
theorem run_tickL {a : Int} {f : Int → Pr α} : ∀ (l : List Str) (o : Int) (m : MS), (tickL a l o f).run m = (f (MS.tickL a l m o).2).run (MS.tickL a l m o).1
 | [], o, m => rfl
 | k :: l, o, m => by
   unfold tickL MS.tickL
   dsimp only
   simp only [run_ite, run_num, run, run_send, run_tickL]
   repeat' (first | rfl | split)
theorem run_tick (a : Int) (f) (m : MS) : (tick a f : Pr α).run m = (f (m.tick a).2.1 (m.tick a).2.2).run (m.tick a).1 := by
 unfold tick MS.tick
 (try dsimp only)
 simp only [run_ite, run, run_setNum, run_num, run_bump, run_message, run_fileOf, run_makeName, run_linkName, run_wipeL, run_wipe', run_unlinkName, run_renameName, run_names, run_sizeOf, run_block, run_makePipe, run_isPipe, run_putPipe, run_takePipe, run_state, run_spawn, run_endProc, run_reap, run_kidsL, run_kids, run_send, run_takeSignal, run_setTimer, run_tickL]
 repeat' (first | rfl | split)
theorem run_storePage (a b : Int) (x : Str) (f) (m : MS) : (storePage a b x f : Pr α).run m = (f (m.storePage a b x).2).run (m.storePage a b x).1 := by
 unfold storePage MS.storePage
 (try dsimp only)
 simp only [run_ite, run, run_setNum, run_num, run_bump, run_message, run_fileOf, run_makeName, run_linkName, run_wipeL, run_wipe', run_unlinkName, run_renameName, run_names, run_sizeOf, run_block, run_makePipe, run_isPipe, run_putPipe, run_takePipe, run_state, run_spawn, run_endProc, run_reap, run_kidsL, run_kids, run_send, run_takeSignal, run_setTimer, run_tickL, run_tick]
 repeat' (first | rfl | split)
theorem run_loadPage (a b : Int) (f) (m : MS) : (loadPage a b f : Pr α).run m = (f (m.loadPage a b).2.1 (m.loadPage a b).2.2).run (m.loadPage a b).1 := by
 unfold loadPage MS.loadPage
 (try dsimp only)
 simp only [run_ite, run, run_setNum, run_num, run_bump, run_message, run_fileOf, run_makeName, run_linkName, run_wipeL, run_wipe', run_unlinkName, run_renameName, run_names, run_sizeOf, run_block, run_makePipe, run_isPipe, run_putPipe, run_takePipe, run_state, run_spawn, run_endProc, run_reap, run_kidsL, run_kids, run_send, run_takeSignal, run_setTimer, run_tickL, run_tick, run_storePage]
 repeat' (first | rfl | split)
theorem run_forkL {k : Nat} {a : Int} {p : Pr α} : ∀ (l : List Str) (m : MS), (forkL k a l p).run m = p.run (MS.forkL k a l m)
 | [], m => rfl
 | x :: l, m => run_forkL l _
theorem run_forkPages (a b : Int) (p : Pr α) (m : MS) : (forkPages a b p).run m = p.run (m.forkPages a b) := by
 unfold forkPages MS.forkPages
 (try dsimp only)
 simp only [run_ite, run, run_setNum, run_num, run_bump, run_message, run_fileOf, run_makeName, run_linkName, run_wipeL, run_wipe', run_unlinkName, run_renameName, run_names, run_sizeOf, run_block, run_makePipe, run_isPipe, run_putPipe, run_takePipe, run_state, run_spawn, run_endProc, run_reap, run_kidsL, run_kids, run_send, run_takeSignal, run_setTimer, run_tickL, run_tick, run_storePage, run_loadPage, run_forkL]
 repeat' (first | rfl | split)
theorem run_dropPages (a : Int) (p : Pr α) (m : MS) : (dropPages a p).run m = p.run (m.dropPages a) := by
 unfold dropPages MS.dropPages
 (try dsimp only)
 simp only [run_ite, run, run_setNum, run_num, run_bump, run_message, run_fileOf, run_makeName, run_linkName, run_wipeL, run_wipe', run_unlinkName, run_renameName, run_names, run_sizeOf, run_block, run_makePipe, run_isPipe, run_putPipe, run_takePipe, run_state, run_spawn, run_endProc, run_reap, run_kidsL, run_kids, run_send, run_takeSignal, run_setTimer, run_tickL, run_tick, run_storePage, run_loadPage, run_forkL, run_forkPages]
 repeat' (first | rfl | split)
theorem run_putOut (x : Str) (f) (m : MS) : (putOut x f : Pr α).run m = (f (m.putOut x).2).run (m.putOut x).1 := by
 unfold putOut MS.putOut
 (try dsimp only)
 simp only [run_ite, run, run_setNum, run_num, run_bump, run_message, run_fileOf, run_makeName, run_linkName, run_wipeL, run_wipe', run_unlinkName, run_renameName, run_names, run_sizeOf, run_block, run_makePipe, run_isPipe, run_putPipe, run_takePipe, run_state, run_spawn, run_endProc, run_reap, run_kidsL, run_kids, run_send, run_takeSignal, run_setTimer, run_tickL, run_tick, run_storePage, run_loadPage, run_forkL, run_forkPages, run_dropPages]
 repeat' (first | rfl | split)
theorem run_readL {a : Int} {b e : Nat} {f : Str → Pr α} : ∀ (k p : Nat) (o : Str) (m : MS), (readL a b e k p o f).run m = (f (MS.readL a b e k p m o).2).run (MS.readL a b e k p m o).1
 | 0, p, o, m => rfl
 | k + 1, p, o, m => by
   unfold readL MS.readL
   dsimp only
   simp only [run_ite, run_block, run_readL]
   repeat' (first | rfl | split)
theorem run_readFile (a b c : Int) (f) (m : MS) : (readFile a b c f : Pr α).run m = (f (m.readFile a b c).2).run (m.readFile a b c).1 := by
 unfold readFile MS.readFile
 (try dsimp only)
 simp only [run_ite, run, run_setNum, run_num, run_bump, run_message, run_fileOf, run_makeName, run_linkName, run_wipeL, run_wipe', run_unlinkName, run_renameName, run_names, run_sizeOf, run_block, run_makePipe, run_isPipe, run_putPipe, run_takePipe, run_state, run_spawn, run_endProc, run_reap, run_kidsL, run_kids, run_send, run_takeSignal, run_setTimer, run_tickL, run_tick, run_storePage, run_loadPage, run_forkL, run_forkPages, run_dropPages, run_putOut, run_readL]
 repeat' (first | rfl | split)
theorem run_writeL {a : Int} {x : Str} {b e : Nat} {q : Pr α} : ∀ (k p : Nat) (m : MS), (writeL a x b e k p q).run m = q.run (MS.writeL a x b e k p m)
 | 0, p, m => rfl
 | k + 1, p, m => by
   unfold writeL MS.writeL
   dsimp only
   simp only [run_ite, run_block, run, run_writeL]
   repeat' (first | rfl | split)
theorem run_writeFile (a b : Int) (x : Str) (f) (m : MS) : (writeFile a b x f : Pr α).run m = (f (m.writeFile a b x).2).run (m.writeFile a b x).1 := by
 unfold writeFile MS.writeFile
 (try dsimp only)
 simp only [run_ite, run, run_setNum, run_num, run_bump, run_message, run_fileOf, run_makeName, run_linkName, run_wipeL, run_wipe', run_unlinkName, run_renameName, run_names, run_sizeOf, run_block, run_makePipe, run_isPipe, run_putPipe, run_takePipe, run_state, run_spawn, run_endProc, run_reap, run_kidsL, run_kids, run_send, run_takeSignal, run_setTimer, run_tickL, run_tick, run_storePage, run_loadPage, run_forkL, run_forkPages, run_dropPages, run_putOut, run_readL, run_readFile, run_writeL]
 repeat' (first | rfl | split)
theorem run_cutL {a : Int} {z : Nat} {q : Pr α} : ∀ (k p : Nat) (m : MS), (cutL a z k p q).run m = q.run (MS.cutL a z k p m)
 | 0, p, m => rfl
 | k + 1, p, m => by
   unfold cutL MS.cutL
   simp only [run_ite, run, run_cutL]
   repeat' (first | rfl | split)
theorem run_cutFile (a b : Int) (f) (m : MS) : (cutFile a b f : Pr α).run m = (f (m.cutFile a b).2).run (m.cutFile a b).1 := by
 unfold cutFile MS.cutFile
 (try dsimp only)
 simp only [run_ite, run, run_setNum, run_num, run_bump, run_message, run_fileOf, run_makeName, run_linkName, run_wipeL, run_wipe', run_unlinkName, run_renameName, run_names, run_sizeOf, run_block, run_makePipe, run_isPipe, run_putPipe, run_takePipe, run_state, run_spawn, run_endProc, run_reap, run_kidsL, run_kids, run_send, run_takeSignal, run_setTimer, run_tickL, run_tick, run_storePage, run_loadPage, run_forkL, run_forkPages, run_dropPages, run_putOut, run_readL, run_readFile, run_writeL, run_writeFile, run_cutL]
 repeat' (first | rfl | split)
theorem run_doFile (c : CL) (f) (m : MS) : (doFile c f : Pr α).run m = (f (m.doFile c).2).run (m.doFile c).1 := by
 unfold doFile MS.doFile
 (try dsimp only)
 simp only [run_ite, run, run_setNum, run_num, run_bump, run_message, run_fileOf, run_makeName, run_linkName, run_wipeL, run_wipe', run_unlinkName, run_renameName, run_names, run_sizeOf, run_block, run_makePipe, run_isPipe, run_putPipe, run_takePipe, run_state, run_spawn, run_endProc, run_reap, run_kidsL, run_kids, run_send, run_takeSignal, run_setTimer, run_tickL, run_tick, run_storePage, run_loadPage, run_forkL, run_forkPages, run_dropPages, run_putOut, run_readL, run_readFile, run_writeL, run_writeFile, run_cutL, run_cutFile]
 repeat' (first | rfl | split)
theorem run_doProc (a : Int) (c : CL) (f) (m : MS) : (doProc a c f : Pr α).run m = (f (m.doProc a c).2).run (m.doProc a c).1 := by
 unfold doProc MS.doProc
 (try dsimp only)
 simp only [run_ite, run, run_setNum, run_num, run_bump, run_message, run_fileOf, run_makeName, run_linkName, run_wipeL, run_wipe', run_unlinkName, run_renameName, run_names, run_sizeOf, run_block, run_makePipe, run_isPipe, run_putPipe, run_takePipe, run_state, run_spawn, run_endProc, run_reap, run_kidsL, run_kids, run_send, run_takeSignal, run_setTimer, run_tickL, run_tick, run_storePage, run_loadPage, run_forkL, run_forkPages, run_dropPages, run_putOut, run_readL, run_readFile, run_writeL, run_writeFile, run_cutL, run_cutFile, run_doFile]
 repeat' (first | rfl | split)
theorem run_doKind (a : Int) (c : CL) (f) (m : MS) : (doKind a c f : Pr α).run m = (f (m.doKind a c).2).run (m.doKind a c).1 := by
 unfold doKind MS.doKind
 (try dsimp only)
 simp only [run_ite, run, run_setNum, run_num, run_bump, run_message, run_fileOf, run_makeName, run_linkName, run_wipeL, run_wipe', run_unlinkName, run_renameName, run_names, run_sizeOf, run_block, run_makePipe, run_isPipe, run_putPipe, run_takePipe, run_state, run_spawn, run_endProc, run_reap, run_kidsL, run_kids, run_send, run_takeSignal, run_setTimer, run_tickL, run_tick, run_storePage, run_loadPage, run_forkL, run_forkPages, run_dropPages, run_putOut, run_readL, run_readFile, run_writeL, run_writeFile, run_cutL, run_cutFile, run_doFile, run_doProc]
 (repeat (refine ite_run rfl ?_))
 rfl
theorem run_doCall (a : Int) (c : CL) (m : MS) : (doCall a c).run m = m.doCall a c := by
 unfold doCall MS.doCall
 dsimp only
 simp only [run_ite, run, run_state, run_doKind]
 repeat' (first | rfl | split)
end Pr
end Go.Proofs.YthlfmbbaomdciaaGreatDoor
namespace Go.Proofs.YthlfmbbaomdciaaGreatDoor
open Go Go.RowKit
theorem bl_irr : ∀ a : Str, Op.bytesLess a a = false
 | [] => rfl
 | x :: a => by simp [Op.bytesLess, bl_irr a]
theorem bl_trans : ∀ {a b c : Str}, Op.bytesLess a b = true → Op.bytesLess b c = true → Op.bytesLess a c = true
 | _, [], _, h, _ => by simp [Op.bytesLess] at h
 | _, _ :: _, [], _, h => by simp [Op.bytesLess] at h
 | [], _ :: _, _ :: _, _, _ => rfl
 | x :: a, y :: b, z :: c, h1, h2 => by
   simp only [Op.bytesLess, Bool.or_eq_true, Bool.and_eq_true, decide_eq_true_eq, beq_iff_eq, UInt8.lt_iff_toNat_lt] at *
   rcases h1 with h1 | ⟨rfl, h1⟩ <;> rcases h2 with h2 | ⟨rfl, h2⟩
   · exact .inl (by omega)
   · exact .inl h1
   · exact .inl h2
   · exact .inr ⟨rfl, bl_trans h1 h2⟩
theorem bl_tot : ∀ {a b : Str}, Op.bytesLess a b = false → ¬ a = b → Op.bytesLess b a = true
 | [], [], _, h => absurd rfl h
 | [], _ :: _, h, _ => by simp [Op.bytesLess] at h
 | _ :: _, [], _, _ => rfl
 | x :: a, y :: b, h, hn => by
   simp only [Op.bytesLess, Bool.or_eq_true, Bool.or_eq_false_iff, Bool.and_eq_true, Bool.and_eq_false_iff, decide_eq_true_eq, decide_eq_false_iff_not, beq_iff_eq, UInt8.lt_iff_toNat_lt] at *
   by_cases hxy : x = y
   · subst hxy
     exact .inr ⟨rfl, bl_tot (by simpa using h.2) fun he => hn (by rw [he])⟩
   · exact .inl (by have : ¬ x.toNat = y.toNat := fun e => hxy (UInt8.toNat_inj.1 e); omega)
theorem addSpan_nil (x : Str) : addSpan [] x = [x] := rfl
theorem addSpan_cons (y x : Str) (l : List Str) : addSpan (y :: l) x = if Op.bytesLess y x = true then y :: addSpan l x else if y = x then y :: l else x :: y :: l := by
 unfold addSpan insertAt
 by_cases h : Op.bytesLess y x = true
 · have hg : geqB y x = false := by simp only [geqB, h, Bool.not_true]
   simp only [findAt, hg, h, Bool.false_eq_true, if_false, if_true, List.length_cons, List.getD_cons_succ, List.take_succ_cons, List.drop_succ_cons, List.cons_append, Nat.add_lt_add_iff_right]
   by_cases h1 : findAt (fun y => geqB y x) l < l.length
   · by_cases h2 : l.getD (findAt (fun y => geqB y x) l) [] = x
     · simp only [if_pos h1, if_pos h2]
     · simp only [if_pos h1, if_neg h2]
   · simp only [if_neg h1]
 · have hf : Op.bytesLess y x = false := by simpa using h
   have hg : geqB y x = true := by simp only [geqB, hf, Bool.not_false]
   simp only [findAt, hg, hf, if_true, if_false, Bool.false_eq_true, List.length_cons, Nat.zero_lt_succ, List.getD_cons_zero, List.take_zero, List.drop_zero, List.nil_append]
theorem mem_addSpan {y x : Str} : ∀ {l : List Str}, y ∈ addSpan l x ↔ y = x ∨ y ∈ l
 | [] => by simp [addSpan_nil]
 | z :: l => by
   rw [addSpan_cons]
   have ih := mem_addSpan (y := y) (x := x) (l := l)
   split
   · simp only [List.mem_cons, ih]
     constructor
     · rintro (h | h | h) <;> simp [h]
     · rintro (h | h | h) <;> simp [h]
   · split
     · rename_i h
       simp only [List.mem_cons, h]
       constructor
       · intro h; exact .inr h
       · rintro (h | h)
         · exact .inl h
         · exact h
     · simp only [List.mem_cons]
def srt (l : List Str) : Prop := l.Pairwise fun a b => Op.bytesLess a b = true
theorem srt.add {x : Str} : ∀ {l : List Str}, srt l → srt (addSpan l x)
 | [], _ => List.pairwise_singleton ..
 | y :: l, h => by
   obtain ⟨h1, h2⟩ := List.pairwise_cons.1 h
   rw [addSpan_cons]
   split
   · rename_i hlt
     refine List.pairwise_cons.2 ⟨fun z hz => ?_, srt.add h2⟩
     rcases mem_addSpan.1 hz with rfl | hz
     · exact hlt
     · exact h1 z hz
   · split
     · exact h
     · rename_i hn hne
       have hxy := bl_tot (by simpa using hn) hne
       refine List.pairwise_cons.2 ⟨fun z hz => ?_, h⟩
       rcases List.mem_cons.1 hz with rfl | hz
       · exact hxy
       · exact bl_trans hxy (h1 z hz)
theorem mem_addAll {y : Str} : ∀ {xs l : List Str}, y ∈ xs.foldl addSpan l ↔ y ∈ xs ∨ y ∈ l
 | [], l => by simp
 | x :: xs, l => by
   rw [List.foldl_cons, mem_addAll, mem_addSpan, List.mem_cons]
   constructor
   · rintro (h | h | h) <;> simp [h]
   · rintro ((h | h) | h) <;> simp [h]
theorem srt.addAll : ∀ {xs l : List Str}, srt l → srt (xs.foldl addSpan l)
 | [], l, h => h
 | x :: xs, l, h => srt.addAll (xs := xs) h.add
theorem srt_ext : ∀ {a b : List Str}, srt a → srt b → (∀ x, x ∈ a ↔ x ∈ b) → a = b
 | [], [], _, _, _ => rfl
 | [], y :: b, _, _, h => by have := (h y).2 (List.mem_cons_self ..); cases this
 | x :: a, [], _, _, h => by have := (h x).1 (List.mem_cons_self ..); cases this
 | x :: a, y :: b, ha, hb, h => by
   obtain ⟨a1, a2⟩ := List.pairwise_cons.1 ha
   obtain ⟨b1, b2⟩ := List.pairwise_cons.1 hb
   have hxy : x = y := by
     rcases List.mem_cons.1 ((h x).1 (List.mem_cons_self ..)) with h1 | h1
     · exact h1
     · rcases List.mem_cons.1 ((h y).2 (List.mem_cons_self ..)) with h2 | h2
       · exact h2.symm
       · have h3 := bl_trans (a1 y h2) (b1 x h1)
         rw [bl_irr] at h3; cases h3
   subst hxy
   rw [srt_ext a2 b2 fun z => ⟨fun hz => ?_, fun hz => ?_⟩]
   · rcases List.mem_cons.1 ((h z).1 (List.mem_cons_of_mem _ hz)) with rfl | h1
     · have h3 := a1 z hz; rw [bl_irr] at h3; cases h3
     · exact h1
   · rcases List.mem_cons.1 ((h z).2 (List.mem_cons_of_mem _ hz)) with rfl | h1
     · have h3 := b1 z hz; rw [bl_irr] at h3; cases h3
     · exact h1
structure Tr (α : Type) where
 s : List Cell
 v : α
 r : List Str
 w : List Str
def Pr.tr {α : Type} : Pr α → List Cell → Tr α
 | .ret a, s => ⟨s, a, [], []⟩
 | .look k f, s => let t := (f (getKey s k)).tr s; ⟨t.s, t.v, k :: t.r, t.w⟩
 | .lay k v p, s => let t := p.tr (putKey s k v); ⟨t.s, t.v, t.r, k :: t.w⟩
 | .under k f, s => let t := (f (keysUnder s k)).tr s; ⟨t.s, t.v, (k ++ [42]) :: t.r, t.w⟩
theorem Pr.run_tr {α : Type} : ∀ (p : Pr α) (m : MS), p.run m = (⟨(p.tr m.s).s, (p.tr m.s).r.foldl addSpan m.r, (p.tr m.s).w.foldl addSpan m.w⟩, (p.tr m.s).v)
 | .ret a, m => rfl
 | .look k f, m => Pr.run_tr (f (getKey m.s k)) (m.look k).1
 | .lay k v p, m => Pr.run_tr p (m.lay k v)
 | .under k f, m => Pr.run_tr (f (keysUnder m.s k)) (m.under k).1
/-- What a call reads and lays on a store. -/
def callTr (s : List Cell) (a : Int) (c : CL) : Tr AN := (Pr.doCall a c).tr s
theorem doCall_tr (m : MS) (a : Int) (c : CL) : m.doCall a c = (⟨(callTr m.s a c).s, (callTr m.s a c).r.foldl addSpan m.r, (callTr m.s a c).w.foldl addSpan m.w⟩, (callTr m.s a c).v) := by
 rw [← Pr.run_doCall, Pr.run_tr]; rfl
theorem doCall_s (m : MS) (a : Int) (c : CL) : (m.doCall a c).1.s = (callTr m.s a c).s := by rw [doCall_tr]
/-- The touches of a call by itself, added: as those of its way. -/
theorem fresh_all {xs l : List Str} (h : srt l) : (xs.foldl addSpan []).foldl addSpan l = xs.foldl addSpan l :=
 srt_ext h.addAll h.addAll fun x => by rw [mem_addAll, mem_addAll, mem_addAll]; simp
def ordC (s : List Cell) : Prop := s.Pairwise fun a b => Op.bytesLess a.1 b.1 = true
structure stOk (s : List Cell) : Prop where
 o : ordC s
 c : ∀ c ∈ s, keyOk c.1 = true ∧ ¬ c.2 = [] ∧ c.2.length ≤ 60
theorem stOk.nil : stOk [] := ⟨List.Pairwise.nil, fun _ h => by cases h⟩
theorem ordC.ins {k v : Str} : ∀ {s : List Cell}, ordC s → (∀ c ∈ s, ¬ c.1 = k) → ordC (insertAt (findAt (fun c => gtrB c.1 k) s) (k, v) s)
 | [], _, _ => List.pairwise_singleton ..
 | c :: s, h, hn => by
   obtain ⟨h1, h2⟩ := List.pairwise_cons.1 h
   have hc := hn c (List.mem_cons_self ..)
   unfold findAt
   by_cases hg : gtrB c.1 k = true
   · rw [if_pos hg]
     refine List.pairwise_cons.2 ⟨fun d hd => ?_, h⟩
     have hck : Op.bytesLess k c.1 = true := bl_tot (by simp only [gtrB, Bool.and_eq_true, Bool.not_eq_true'] at hg; exact hg.1) hc
     rcases List.mem_cons.1 hd with rfl | hd
     · exact hck
     · exact bl_trans hck (h1 d hd)
   · rw [if_neg hg]
     show ordC (c :: insertAt _ _ s)
     refine List.pairwise_cons.2 ⟨fun d hd => ?_, ordC.ins h2 fun d hd => hn d (List.mem_cons_of_mem _ hd)⟩
     rcases insertAt_mem hd with rfl | hd
     · cases hb : Op.bytesLess c.1 k with
       | true => rfl
       | false => exact absurd (by rw [gtrB, hb, decide_eq_false hc]; rfl) hg
     · exact h1 d hd
theorem stOk.put {s : List Cell} (h : stOk s) (k v : Str) : stOk (putKey s k v) := by
 unfold putKey
 split
 · exact h
 · rename_i hk
   simp only [Bool.or_eq_true, Bool.not_eq_true', decide_eq_true_eq, not_or, Bool.not_eq_false] at hk
   have hf : ordC (s.filter (fun c => !decide (c.1 = k))) := h.o.filter _
   dsimp only
   split
   · exact ⟨hf, fun c hc => h.c c (List.mem_filter.1 hc).1⟩
   · rename_i hv
     refine ⟨hf.ins fun c hc => by simpa using (List.mem_filter.1 hc).2, fun c hc => ?_⟩
     rcases insertAt_mem hc with rfl | hc
     · exact ⟨hk.1, hv, by dsimp only; omega⟩
     · exact h.c c (List.mem_filter.1 hc).1
theorem stOk.tr {α : Type} : ∀ (p : Pr α) {s : List Cell}, stOk s → stOk (p.tr s).s
 | .ret a, s, h => h
 | .look k f, s, h => stOk.tr (f (getKey s k)) h
 | .lay k v p, s, h => stOk.tr p (h.put k v)
 | .under k f, s, h => stOk.tr (f (keysUnder s k)) h
theorem stOk.call {s : List Cell} {a : Int} {c : CL} {m : MS} {r : AN} (h : stOk s) (e : (⟨s, [], []⟩ : MS).doCall a c = (m, r)) : stOk m.s := by
 have h1 := doCall_s ⟨s, [], []⟩ a c
 rw [e] at h1
 rw [h1]
 exact h.tr (Pr.doCall a c)
end Go.Proofs.YthlfmbbaomdciaaGreatDoor
