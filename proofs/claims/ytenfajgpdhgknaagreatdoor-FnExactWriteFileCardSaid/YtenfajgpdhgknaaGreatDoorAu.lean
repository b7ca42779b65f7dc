/-
  Machines by name: the base calls hand back fresh machines with an equation that says what they are.
-/
import Derived.Test.YtenfajgpdhgknaaGreatDoorS11SMACH
import Derived.Test.YtenfajgpdhgknaaGreatDoorDatC
set_option linter.unusedSimpArgs false
set_option linter.unusedVariables false
set_option linter.unnecessarySimpa false
namespace Go.Proofs.YtenfajgpdhgknaaGreatDoor
open Go Go.RowKit

/-- Where the three lists of a machine lie. -/
structure MA where
  a0 : Option Addr
  c0 : Nat
  a1 : Option Addr
  c1 : Nat
  a2 : Option Addr
  c2 : Nat
@[reducible] def rC (a : Option Addr) (c : Nat) (s : List Cell) : Res := .row (.slice a s.length c) 113 2 s.length (s.flatMap encC)
@[reducible] def rS (a : Option Addr) (c : Nat) (l : List Str) : Res := .row (.slice a l.length c) 9 1 l.length (l.map str)
@[reducible] def rI (a : Option Addr) (c : Nat) (l : List Int) : Res := .row (.slice a l.length c) 3 1 l.length (l.map (Value.int .i64))
@[reducible] def mv (x : MA) (m : MS) : Value := .agg #[.slice x.a0 m.s.length x.c0, .slice x.a1 m.r.length x.c1, .slice x.a2 m.w.length x.c2]
@[reducible] def mr (x : MA) (m : MS) : List Res := [rC x.a0 x.c0 m.s, rS x.a1 x.c1 m.r, rS x.a2 x.c2 m.w]
@[reducible] def mb (p : Nat) (x : MA) (m : MS) : Res := bk p 32 [.slice x.a0 m.s.length x.c0, .slice x.a1 m.r.length x.c1, .slice x.a2 m.w.length x.c2]
@[reducible] def seesM (w : World) (x : MA) (m : MS) : Prop := Sees w (.slice x.a0 m.s.length x.c0) 2 m.s.length (m.s.flatMap encC) ∧ Sees w (.slice x.a1 m.r.length x.c1) 1 m.r.length (m.r.map str) ∧ Sees w (.slice x.a2 m.w.length x.c2) 1 m.w.length (m.w.map str)

theorem Ct.weak {P : Program} {f : FuncId} {args : List Value} {A : List Res} {Pre Pre' : World → Prop} {Post Post' : Value → List Res → Prop} (h : Ct P f args A Pre Post) (hp : ∀ w, Pre' w → Pre w) (hq : ∀ v A', Post v A' → Post' v A') : Ct P f args A Pre' Post' :=
  fun w hA hw => (h w hA (hp w hw)).mono fun _ _ ⟨v, A', he, hv, hs⟩ => ⟨v, A', he, hq v A' hv, hs⟩

theorem Ct.introL {P : Program} {n : Nat} {f : FuncId} {fn : Func} {c : Code} {args : List Value} {A : List Res} {Pre : World → Prop} {Post : Value → List Res → Prop}
    (hf : P.funcs[f]? = some fn) (hb : fn.body = some c) (hn : fn.ntmps = n) (hle : args.length ≤ n)
    (h : ∀ w0, Pre w0 → (∀ i ∈ idsOf A, GB ≤ i) → JC P (bodyPost P fn (Done w0 (idsOf A) Post)) n w0 (idsOf A) A c (argEnv args)) : Ct P f args A Pre Post := fun w hA hpre => by
  refine calls_of_wp hf hb ?_
  rw [hn, act_args n args hle]
  exact h w hpre hA.low w (St.start hA)
theorem St.hex {w0 w : World} {D : List Nat} {L : List Res} (hw : St w0 D L w) (hlow : ∀ i ∈ D, GB ≤ i) (h : HexOk w0) : HexOk w :=
  h.keep (hw.keep _ h.lt fun hD => by have := hlow _ hD; have := hexLow; omega)

/-- A nil slice is a row that nobody owns a block for. -/
theorem St.nilRow {w0 w : World} {D : List Nat} {L : List Res} (hw : St w0 D L w) (t k : Nat) : St w0 D (.row (.slice none 0 0) t k 0 [] :: L) w := by
  have e : idsOf (.row (.slice none 0 0) t k 0 [] :: L) = idsOf L := by rw [idsOf_cons]; simp [Res.ids, Value.ownBlock]
  refine ⟨⟨fun r hr => ?_, by rw [e]; exact hw.nodup, by rw [e]; exact hw.low, hw.room, hw.glob⟩, hw.os, hw.tape, hw.output, hw.size, by rw [e]; exact hw.fresh, hw.keep⟩
  simp only [List.mem_cons] at hr
  rcases hr with rfl | hr
  · exact ⟨by simp, .inl ⟨rfl, rfl⟩⟩
  · exact hw.holds r hr
theorem JL.nilRow {P : Program} {ops : Array Oper} {Q : Exit → Act → World → Prop} {n : Nat} {w0 : World} {D : List Nat} {L : List Res} {e : Env} {l : List Oper} (t k : Nat) (h : JL P ops Q n w0 D (.row (.slice none 0 0) t k 0 [] :: L) l e) : JL P ops Q n w0 D L l e := fun w hw => h w (hw.nilRow t k)
theorem JC.nilRow {P : Program} {Q : Exit → Act → World → Prop} {n : Nat} {w0 : World} {D : List Nat} {L : List Res} {e : Env} {c : Code} (t k : Nat) (h : JC P Q n w0 D (.row (.slice none 0 0) t k 0 [] :: L) c e) : JC P Q n w0 D L c e := fun w hw => h w (hw.nilRow t k)

theorem JQ.nilRow {Q : Exit → Act → World → Prop} {x : Exit} {n : Nat} {w0 : World} {D : List Nat} {L : List Res} {e : Env} (t k : Nat) (h : JQ Q x n w0 D (.row (.slice none 0 0) t k 0 [] :: L) e) : JQ Q x n w0 D L e := fun w hw => h w (hw.nilRow t k)
theorem JA.nilRow {P : Program} {ops : Array Oper} {Q : Exit → Act → World → Prop} {n : Nat} {w0 : World} {D : List Nat} {L M : List Res} {e : Env} {z fuel : Nat} {listed : Array Bool} (t k : Nat) (h : JA P ops Q n w0 D M z fuel listed (.row (.slice none 0 0) t k 0 [] :: L) e) : JA P ops Q n w0 D M z fuel listed L e := fun w hw hq => h w (hw.nilRow t k) hq

section
variable {P : Program} {ops : Array Oper} {Q : Exit → Act → World → Prop} {n : Nat} {w0 : World} {D : List Nat} {L M : List Res} {e : Env} {z fuel : Nat} {listed : Array Bool}
/-- A guard that was itself not asked. -/
theorem JL.guardOffU {o : Oper} {rest : List Oper} {j : Nat} {b : Bool} {t : Tmp} (hg : o.guard = some (j, b)) (hj : (ops[j]?).bind (·.dst) = some t) (ht : Nat.blt t n = true) (hv : e t = undef)
    (h : JL P ops Q n w0 D L rest (updO e o.dst undef)) : JL P ops Q n w0 D L (o :: rest) e := fun w hw => by
  have hlt : t < n := (Nat.blt_eq (x := t) (y := n)) ▸ ht
  have hy : yielded ops (act n e).tmps j = none := by simp [yielded, hj, act, hlt, hv, undef]
  refine wpList_step fun K hK => ?_
  rw [if_neg (by simp [Region.wanted, hg, hy]), act_put]
  exact hK _ _ (h w hw)
theorem JA.takeOffU (i : Nat) {oi : Oper} {j : Nat} {b : Bool} {t : Tmp} (hi : ops[i]? = some oi) (hs : Region.noSelect ops = true) (hQ : NP Q) (hf : Region.free .any ops listed i = true) (hr : (Region.ready .any ops listed).contains i = true)
    (hg : oi.guard = some (j, b)) (hj : (ops[j]?).bind (·.dst) = some t) (ht : Nat.blt t n = true) (hv : e t = undef) (h : JA P ops Q n w0 D M z fuel (listed.setIfInBounds i true) L (updO e oi.dst undef)) :
    JA P ops Q n w0 D M z (fuel + 1) listed L e := fun w hw hq => by
  have hlt : t < n := (Nat.blt_eq (x := t) (y := n)) ▸ ht
  have hyy : yielded ops (act n e).tmps j = none := by simp [yielded, hj, act, hlt, hv, undef]
  exact anyC.firstP hi hs hQ fuel listed (act n e) w (Region.free_spec hi hf) (by simpa using hr) (.inr ⟨by simp [Region.wanted, hg, hyy], rfl⟩) (by rw [act_put]; exact h w hw hq)
end

theorem N_look (p : Nat) (x : MA) (m : MS) {S T : Nat} (hk : m.ok S T) (hS : S ≤ 1000000000) (hT : T ≤ 1000000000) (key : Str) :
    Ct Tryz.prog 264 [.pointer (some ⟨p, 0, none⟩), str key] (mb p x m :: mr x m) (fun _ => True) (fun v A' => ∃ x' m' u, m.look key = (m', u) ∧ m'.ok S (T + 1) ∧ u.length ≤ 1048576 ∧ v = str u ∧ A' = mb p x' m' :: mr x' m') :=
  (C_look p x.a0 x.a1 x.a2 x.c0 x.c1 x.c2 m key (by have := hk.1; omega) (by have := hk.2.1; omega) (by have := hk.2.2.1; omega)).weak (fun _ h => h) fun v A' ⟨x0, y0, x1, y1, x2, y2, hv, hA⟩ => ⟨⟨x0, y0, x1, y1, x2, y2⟩, (m.look key).1, (m.look key).2, rfl, hk.look key, hk.getKey key, hv, hA⟩

theorem N_lay (p : Nat) (x : MA) (m : MS) {S T : Nat} (hk : m.ok S T) (hS : S ≤ 1000000000) (hT : T ≤ 1000000000) (key : Str) (val : Str) (hkey : key.length ≤ 1000000000000) :
    Ct Tryz.prog 240 [.pointer (some ⟨p, 0, none⟩), str key, str val] (mb p x m :: mr x m) (fun _ => True) (fun v A' => ∃ x' m', m.lay key val = m' ∧ m'.ok (S + 1) (T + 1) ∧ v = .tuple #[] ∧ A' = mb p x' m' :: mr x' m') :=
  (C_lay p x.a0 x.a1 x.a2 x.c0 x.c1 x.c2 m key val (by have := hk.1; omega) (by have := hk.2.1; omega) (by have := hk.2.2.1; omega) hkey).weak (fun _ h => h) fun v A' ⟨x0, y0, x1, y1, x2, y2, hv, hA⟩ => ⟨⟨x0, y0, x1, y1, x2, y2⟩, m.lay key val, rfl, hk.lay key val, hv, hA⟩

theorem N_layNil (p : Nat) (x : MA) (m : MS) {S T : Nat} (hk : m.ok S T) (hS : S ≤ 1000000000) (hT : T ≤ 1000000000) (key : Str) (hkey : key.length ≤ 1000000000000) :
    Ct Tryz.prog 240 [.pointer (some ⟨p, 0, none⟩), str key, str []] (mb p x m :: mr x m) (fun _ => True) (fun v A' => ∃ x' m', m.lay key [] = m' ∧ m'.ok S (T + 1) ∧ v = .tuple #[] ∧ A' = mb p x' m' :: mr x' m') :=
  (C_lay p x.a0 x.a1 x.a2 x.c0 x.c1 x.c2 m key [] (by have := hk.1; omega) (by have := hk.2.1; omega) (by have := hk.2.2.1; omega) hkey).weak (fun _ h => h) fun v A' ⟨x0, y0, x1, y1, x2, y2, hv, hA⟩ => ⟨⟨x0, y0, x1, y1, x2, y2⟩, m.lay key [], rfl, hk.layNil key, hv, hA⟩

theorem N_num (p : Nat) (x : MA) (m : MS) {S T : Nat} (hk : m.ok S T) (hS : S ≤ 1000000000) (hT : T ≤ 1000000000) (key : Str) :
    Ct Tryz.prog 170 [.pointer (some ⟨p, 0, none⟩), str key] (mb p x m :: mr x m) (fun _ => True) (fun v A' => ∃ x' m' n, m.num key = (m', n) ∧ m'.ok S (T + 1) ∧ (0 ≤ n ∧ n ≤ 999) ∧ v = .int .i64 n ∧ A' = mb p x' m' :: mr x' m') :=
  (C_num p x.a0 x.a1 x.a2 x.c0 x.c1 x.c2 m key (by have := hk.1; omega) (by have := hk.2.1; omega) (by have := hk.2.2.1; omega) (Nat.le_trans (hk.getKey key) (by decide))).weak (fun _ h => h) fun v A' ⟨x0, y0, x1, y1, x2, y2, hv, hA⟩ => ⟨⟨x0, y0, x1, y1, x2, y2⟩, (m.num key).1, (m.num key).2, rfl, hk.look key, numOf_lo _, hv, hA⟩

theorem N_setNum (p : Nat) (x : MA) (m : MS) {S T : Nat} (hk : m.ok S T) (hS : S ≤ 1000000000) (hT : T ≤ 1000000000) (key : Str) (n : Int) (hkey : key.length ≤ 1000000000000) (hn : -9223372036854775808 ≤ n ∧ n ≤ 9223372036854775807) :
    Ct Tryz.prog 241 [.pointer (some ⟨p, 0, none⟩), str key, .int .i64 n] (mb p x m :: mr x m) (fun _ => True) (fun v A' => ∃ x' m', m.setNum key n = m' ∧ m'.ok (S + 1) (T + 1) ∧ v = .tuple #[] ∧ A' = mb p x' m' :: mr x' m') :=
  (C_setNum p x.a0 x.a1 x.a2 x.c0 x.c1 x.c2 m key n (by have := hk.1; omega) (by have := hk.2.1; omega) (by have := hk.2.2.1; omega) hkey hn.1 hn.2).weak (fun _ h => h) fun v A' ⟨x0, y0, x1, y1, x2, y2, hv, hA⟩ => ⟨⟨x0, y0, x1, y1, x2, y2⟩, m.setNum key n, rfl, hk.lay key _, hv, hA⟩

theorem N_bump (p : Nat) (x : MA) (m : MS) {S T : Nat} (hk : m.ok S T) (hS : S ≤ 1000000000) (hT : T ≤ 1000000000) (key : Str) (hkey : key.length ≤ 1000000000000) :
    Ct Tryz.prog 252 [.pointer (some ⟨p, 0, none⟩), str key] (mb p x m :: mr x m) (fun _ => True) (fun v A' => ∃ x' m' n, m.bump key = (m', n) ∧ m'.ok (S + 1) (T + 1) ∧ (0 ≤ n ∧ n ≤ 999) ∧ v = .int .i64 n ∧ A' = mb p x' m' :: mr x' m') :=
  (C_bump p x.a0 x.a1 x.a2 x.c0 x.c1 x.c2 m key (by have := hk.1; omega) (by have := hk.2.1; omega) (by have := hk.2.2.1; omega) (Nat.le_trans (hk.getKey key) (by decide)) hkey).weak (fun _ h => h) fun v A' ⟨x0, y0, x1, y1, x2, y2, hv, hA⟩ => ⟨⟨x0, y0, x1, y1, x2, y2⟩, (m.bump key).1, (m.bump key).2, rfl, hk.bump key, (bump_lo m key), hv, hA⟩

theorem N_clone (x : MA) (m : MS) {S T : Nat} (hk : m.ok S T) (hS : S ≤ 1000000000) (hT : T ≤ 1000000000) :
    Ct Tryz.prog 127 [mv x m] ([]) (fun w => seesM w x m) (fun v A' => ∃ x' m', m = m' ∧ m'.ok S T ∧ v = mv x' m' ∧ A' = mr x' m') :=
  (C_cloneMach x.a0 x.a1 x.a2 x.c0 x.c1 x.c2 m (by have := hk.1; omega) (by have := hk.2.1; omega) (by have := hk.2.2.1; omega)).weak (fun _ h => h) fun v A' ⟨x0, y0, x1, y1, x2, y2, hv, hA⟩ => ⟨⟨x0, y0, x1, y1, x2, y2⟩, m, rfl, hk, hv, hA⟩

theorem N_sLook (x : MA) (m : MS) {S T : Nat} (hk : m.ok S T) (hS : S ≤ 1000000000) (hT : T ≤ 1000000000) (key : Str) :
    Ct Tryz.prog 230 [mv x m, str key] (mr x m) (fun _ => True) (fun v A' => ∃ x' m' u, m.look key = (m', u) ∧ m'.ok S (T + 1) ∧ u.length ≤ 1048576 ∧ v = .tuple #[mv x' m', str u] ∧ A' = mr x' m') :=
  (C_sLook x.a0 x.a1 x.a2 x.c0 x.c1 x.c2 m key (by have := hk.1; omega) (by have := hk.2.1; omega) (by have := hk.2.2.1; omega)).weak (fun _ h => h) fun v A' ⟨x0, y0, x1, y1, x2, y2, hv, hA⟩ => ⟨⟨x0, y0, x1, y1, x2, y2⟩, (m.look key).1, (m.look key).2, rfl, hk.look key, hk.getKey key, hv, hA⟩

theorem N_sLay (x : MA) (m : MS) {S T : Nat} (hk : m.ok S T) (hS : S ≤ 1000000000) (hT : T ≤ 1000000000) (key : Str) (val : Str) (hkey : key.length ≤ 1000000000000) :
    Ct Tryz.prog 232 [mv x m, str key, str val] (mr x m) (fun _ => True) (fun v A' => ∃ x' m', m.lay key val = m' ∧ m'.ok (S + 1) (T + 1) ∧ v = mv x' m' ∧ A' = mr x' m') :=
  (C_sLay x.a0 x.a1 x.a2 x.c0 x.c1 x.c2 m key val (by have := hk.1; omega) (by have := hk.2.1; omega) (by have := hk.2.2.1; omega) hkey).weak (fun _ h => h) fun v A' ⟨x0, y0, x1, y1, x2, y2, hv, hA⟩ => ⟨⟨x0, y0, x1, y1, x2, y2⟩, m.lay key val, rfl, hk.lay key val, hv, hA⟩

theorem N_sLayNil (x : MA) (m : MS) {S T : Nat} (hk : m.ok S T) (hS : S ≤ 1000000000) (hT : T ≤ 1000000000) (key : Str) (hkey : key.length ≤ 1000000000000) :
    Ct Tryz.prog 232 [mv x m, str key, str []] (mr x m) (fun _ => True) (fun v A' => ∃ x' m', m.lay key [] = m' ∧ m'.ok S (T + 1) ∧ v = mv x' m' ∧ A' = mr x' m') :=
  (C_sLay x.a0 x.a1 x.a2 x.c0 x.c1 x.c2 m key [] (by have := hk.1; omega) (by have := hk.2.1; omega) (by have := hk.2.2.1; omega) hkey).weak (fun _ h => h) fun v A' ⟨x0, y0, x1, y1, x2, y2, hv, hA⟩ => ⟨⟨x0, y0, x1, y1, x2, y2⟩, m.lay key [], rfl, hk.layNil key, hv, hA⟩

theorem N_sBump (x : MA) (m : MS) {S T : Nat} (hk : m.ok S T) (hS : S ≤ 1000000000) (hT : T ≤ 1000000000) (key : Str) (hkey : key.length ≤ 1000000000000) :
    Ct Tryz.prog 255 [mv x m, str key] (mr x m) (fun _ => True) (fun v A' => ∃ x' m' n, m.bump key = (m', n) ∧ m'.ok (S + 1) (T + 1) ∧ (0 ≤ n ∧ n ≤ 999) ∧ v = .tuple #[mv x' m', .int .i64 n] ∧ A' = mr x' m') :=
  (C_sBump x.a0 x.a1 x.a2 x.c0 x.c1 x.c2 m key (by have := hk.1; omega) (by have := hk.2.1; omega) (by have := hk.2.2.1; omega) (Nat.le_trans (hk.getKey key) (by decide)) hkey).weak (fun _ h => h) fun v A' ⟨x0, y0, x1, y1, x2, y2, hv, hA⟩ => ⟨⟨x0, y0, x1, y1, x2, y2⟩, (m.bump key).1, (m.bump key).2, rfl, hk.bump key, (bump_lo m key), hv, hA⟩

theorem N_copy (x : MA) (m : MS) {S T : Nat} (hk : m.ok S T) (hS : S ≤ 1000000000) (hT : T ≤ 1000000000) :
    Ct Tryz.prog 124 [mv x m] ([]) (fun w => seesM w x m) (fun v A' => ∃ x' m', m = m' ∧ m'.ok S T ∧ v = mv x' m' ∧ A' = mr x' m') :=
  (C_copy x.a0 x.a1 x.a2 x.c0 x.c1 x.c2 m (by have := hk.1; omega) (by have := hk.2.1; omega) (by have := hk.2.2.1; omega)).weak (fun _ h => h) fun v A' ⟨x0, y0, x1, y1, x2, y2, hv, hA⟩ => ⟨⟨x0, y0, x1, y1, x2, y2⟩, m, rfl, hk, hv, hA⟩

end Go.Proofs.YtenfajgpdhgknaaGreatDoor
