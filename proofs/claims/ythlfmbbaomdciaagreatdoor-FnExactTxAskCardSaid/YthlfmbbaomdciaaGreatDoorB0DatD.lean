/-
Texts of the walk, joined: what each one proves stands at its theorems.
-/
import Derived.Test.YthlfmbbaomdciaaGreatDoorB0S11SMACH
set_option linter.unusedSimpArgs false
set_option linter.unusedVariables false
set_option linter.unnecessarySimpa false
namespace Go.Proofs.YthlfmbbaomdciaaGreatDoor
open Go Go.RowKit
/-- Where the three lists of a machine lie. -/
structure MA where
 a0 : Option Addr
 c0 : Nat
 a1 : Option Addr
 c1 : Nat
 a2 : Option Addr
 c2 : Nat
@[reducible] def mc (x : MA) (m : MS) : List Value := [.slice x.a0 m.s.length x.c0, .slice x.a1 m.r.length x.c1, .slice x.a2 m.w.length x.c2]
@[reducible] def mv (x : MA) (m : MS) : Value := .agg #[.slice x.a0 m.s.length x.c0, .slice x.a1 m.r.length x.c1, .slice x.a2 m.w.length x.c2]
@[reducible] def mr (x : MA) (m : MS) : List Res := [rC x.a0 x.c0 m.s, rS x.a1 x.c1 m.r, rS x.a2 x.c2 m.w]
@[reducible] def mb (p : Nat) (x : MA) (m : MS) : Res := bk p 60 [.slice x.a0 m.s.length x.c0, .slice x.a1 m.r.length x.c1, .slice x.a2 m.w.length x.c2]
theorem Ct.introL {P : Program} {n : Nat} {f : FuncId} {fn : Func} {c : Code} {args : List Value} {A : List Res} {Pre : World → Prop} {Post : Value → List Res → Prop}
   (hf : P.funcs[f]? = some fn) (hb : fn.body = some c) (hn : fn.ntmps = n) (hle : args.length ≤ n)
   (h : ∀ w0, Pre w0 → (∀ i ∈ idsOf A, GB ≤ i) → JC P (bodyPost P fn (Done w0 (idsOf A) Post)) n w0 (idsOf A) A c (argEnv args)) : Ct P f args A Pre Post := fun w hA hpre => by
 refine calls_of_wp hf hb ?_
 rw [hn, act_args n args hle]
 exact h w hpre hA.low w (St.start hA)
theorem St.hex {w0 w : World} {D : List Nat} {L : List Res} (hw : St w0 D L w) (hlow : ∀ i ∈ D, GB ≤ i) (h : HexOk w0) : HexOk w :=
 h.keep (hw.keep _ h.lt fun hD => by have := hlow _ hD; have := hexLow; omega)

theorem N_look (p : Nat) (x : MA) (m : MS) {S T : Nat} (hk : m.ok S T) (hS : S ≤ 1000000000) (hT : T ≤ 1900000000) (key : Str) :
   Ct Tryz.prog 307 [.pointer (some ⟨p, 0, none⟩), str key] (mb p x m :: mr x m) (fun _ => True) (fun v A' => ∃ x' m' u, m.look key = (m', u) ∧ m'.ok S (T + 1) ∧ u.length ≤ 1048576 ∧ v = str u ∧ A' = mb p x' m' :: mr x' m') :=
 (C_look p x.a0 x.a1 x.a2 x.c0 x.c1 x.c2 m key (by have := hk.1; omega) (by have := hk.2.1; omega) (by have := hk.2.2.1; omega)).weak (fun _ h => h) fun v A' ⟨x0, y0, x1, y1, x2, y2, hv, hA⟩ => ⟨⟨x0, y0, x1, y1, x2, y2⟩, (m.look key).1, (m.look key).2, rfl, hk.look key, hk.getKey key, hv, hA⟩

theorem N_lay (p : Nat) (x : MA) (m : MS) {S T : Nat} (hk : m.ok S T) (hS : S ≤ 1000000000) (hT : T ≤ 1900000000) (key : Str) (val : Str) (hkey : key.length ≤ 1000000000000) :
   Ct Tryz.prog 295 [.pointer (some ⟨p, 0, none⟩), str key, str val] (mb p x m :: mr x m) (fun _ => True) (fun v A' => ∃ x' m', m.lay key val = m' ∧ m'.ok (S + 1) (T + 1) ∧ v = .tuple #[] ∧ A' = mb p x' m' :: mr x' m') :=
 (C_lay p x.a0 x.a1 x.a2 x.c0 x.c1 x.c2 m key val (by have := hk.1; omega) (by have := hk.2.1; omega) (by have := hk.2.2.1; omega) hkey).weak (fun _ h => h) fun v A' ⟨x0, y0, x1, y1, x2, y2, hv, hA⟩ => ⟨⟨x0, y0, x1, y1, x2, y2⟩, m.lay key val, rfl, hk.lay key val, hv, hA⟩

theorem N_layNil (p : Nat) (x : MA) (m : MS) {S T : Nat} (hk : m.ok S T) (hS : S ≤ 1000000000) (hT : T ≤ 1900000000) (key : Str) (hkey : key.length ≤ 1000000000000) :
   Ct Tryz.prog 295 [.pointer (some ⟨p, 0, none⟩), str key, str []] (mb p x m :: mr x m) (fun _ => True) (fun v A' => ∃ x' m', m.lay key [] = m' ∧ m'.ok S (T + 1) ∧ v = .tuple #[] ∧ A' = mb p x' m' :: mr x' m') :=
 (C_lay p x.a0 x.a1 x.a2 x.c0 x.c1 x.c2 m key [] (by have := hk.1; omega) (by have := hk.2.1; omega) (by have := hk.2.2.1; omega) hkey).weak (fun _ h => h) fun v A' ⟨x0, y0, x1, y1, x2, y2, hv, hA⟩ => ⟨⟨x0, y0, x1, y1, x2, y2⟩, m.lay key [], rfl, hk.layNil key, hv, hA⟩

theorem N_num (p : Nat) (x : MA) (m : MS) {S T : Nat} (hk : m.ok S T) (hS : S ≤ 1000000000) (hT : T ≤ 1900000000) (key : Str) :
   Ct Tryz.prog 248 [.pointer (some ⟨p, 0, none⟩), str key] (mb p x m :: mr x m) (fun _ => True) (fun v A' => ∃ x' m' n, m.num key = (m', n) ∧ m'.ok S (T + 1) ∧ (0 ≤ n ∧ n ≤ 999) ∧ v = .int .i64 n ∧ A' = mb p x' m' :: mr x' m') :=
 (C_num p x.a0 x.a1 x.a2 x.c0 x.c1 x.c2 m key (by have := hk.1; omega) (by have := hk.2.1; omega) (by have := hk.2.2.1; omega) (Nat.le_trans (hk.getKey key) (by decide))).weak (fun _ h => h) fun v A' ⟨x0, y0, x1, y1, x2, y2, hv, hA⟩ => ⟨⟨x0, y0, x1, y1, x2, y2⟩, (m.num key).1, (m.num key).2, rfl, hk.look key, numOf_lo _, hv, hA⟩

theorem N_setNum (p : Nat) (x : MA) (m : MS) {S T : Nat} (hk : m.ok S T) (hS : S ≤ 1000000000) (hT : T ≤ 1900000000) (key : Str) (n : Int) (hkey : key.length ≤ 1000000000000) (hn : -9223372036854775808 ≤ n ∧ n ≤ 9223372036854775807) :
   Ct Tryz.prog 250 [.pointer (some ⟨p, 0, none⟩), str key, .int .i64 n] (mb p x m :: mr x m) (fun _ => True) (fun v A' => ∃ x' m', m.setNum key n = m' ∧ m'.ok (S + 1) (T + 1) ∧ v = .tuple #[] ∧ A' = mb p x' m' :: mr x' m') :=
 (C_setNum p x.a0 x.a1 x.a2 x.c0 x.c1 x.c2 m key n (by have := hk.1; omega) (by have := hk.2.1; omega) (by have := hk.2.2.1; omega) hkey hn.1 hn.2).weak (fun _ h => h) fun v A' ⟨x0, y0, x1, y1, x2, y2, hv, hA⟩ => ⟨⟨x0, y0, x1, y1, x2, y2⟩, m.setNum key n, rfl, hk.lay key _, hv, hA⟩

theorem N_bump (p : Nat) (x : MA) (m : MS) {S T : Nat} (hk : m.ok S T) (hS : S ≤ 1000000000) (hT : T ≤ 1900000000) (key : Str) (hkey : key.length ≤ 1000000000000) :
   Ct Tryz.prog 249 [.pointer (some ⟨p, 0, none⟩), str key] (mb p x m :: mr x m) (fun _ => True) (fun v A' => ∃ x' m' n, m.bump key = (m', n) ∧ m'.ok (S + 1) (T + 1) ∧ (0 ≤ n ∧ n ≤ 999) ∧ v = .int .i64 n ∧ A' = mb p x' m' :: mr x' m') :=
 (C_bump p x.a0 x.a1 x.a2 x.c0 x.c1 x.c2 m key (by have := hk.1; omega) (by have := hk.2.1; omega) (by have := hk.2.2.1; omega) (Nat.le_trans (hk.getKey key) (by decide)) hkey).weak (fun _ h => h) fun v A' ⟨x0, y0, x1, y1, x2, y2, hv, hA⟩ => ⟨⟨x0, y0, x1, y1, x2, y2⟩, (m.bump key).1, (m.bump key).2, rfl, hk.bump key, (bump_lo m key), hv, hA⟩

theorem N_sLook (x : MA) (m : MS) {S T : Nat} (hk : m.ok S T) (hS : S ≤ 1000000000) (hT : T ≤ 1900000000) (key : Str) :
   Ct Tryz.prog 117 [mv x m, str key] (mr x m) (fun _ => True) (fun v A' => ∃ x' m' u, m.look key = (m', u) ∧ m'.ok S (T + 1) ∧ u.length ≤ 1048576 ∧ v = .tuple #[mv x' m', str u] ∧ A' = mr x' m') :=
 (C_sLook x.a0 x.a1 x.a2 x.c0 x.c1 x.c2 m key (by have := hk.1; omega) (by have := hk.2.1; omega) (by have := hk.2.2.1; omega)).weak (fun _ h => h) fun v A' ⟨x0, y0, x1, y1, x2, y2, hv, hA⟩ => ⟨⟨x0, y0, x1, y1, x2, y2⟩, (m.look key).1, (m.look key).2, rfl, hk.look key, hk.getKey key, hv, hA⟩

theorem N_sLay (x : MA) (m : MS) {S T : Nat} (hk : m.ok S T) (hS : S ≤ 1000000000) (hT : T ≤ 1900000000) (key : Str) (val : Str) (hkey : key.length ≤ 1000000000000) :
   Ct Tryz.prog 281 [mv x m, str key, str val] (mr x m) (fun _ => True) (fun v A' => ∃ x' m', m.lay key val = m' ∧ m'.ok (S + 1) (T + 1) ∧ v = mv x' m' ∧ A' = mr x' m') :=
 (C_sLay x.a0 x.a1 x.a2 x.c0 x.c1 x.c2 m key val (by have := hk.1; omega) (by have := hk.2.1; omega) (by have := hk.2.2.1; omega) hkey).weak (fun _ h => h) fun v A' ⟨x0, y0, x1, y1, x2, y2, hv, hA⟩ => ⟨⟨x0, y0, x1, y1, x2, y2⟩, m.lay key val, rfl, hk.lay key val, hv, hA⟩

theorem N_sLayNil (x : MA) (m : MS) {S T : Nat} (hk : m.ok S T) (hS : S ≤ 1000000000) (hT : T ≤ 1900000000) (key : Str) (hkey : key.length ≤ 1000000000000) :
   Ct Tryz.prog 281 [mv x m, str key, str []] (mr x m) (fun _ => True) (fun v A' => ∃ x' m', m.lay key [] = m' ∧ m'.ok S (T + 1) ∧ v = mv x' m' ∧ A' = mr x' m') :=
 (C_sLay x.a0 x.a1 x.a2 x.c0 x.c1 x.c2 m key [] (by have := hk.1; omega) (by have := hk.2.1; omega) (by have := hk.2.2.1; omega) hkey).weak (fun _ h => h) fun v A' ⟨x0, y0, x1, y1, x2, y2, hv, hA⟩ => ⟨⟨x0, y0, x1, y1, x2, y2⟩, m.lay key [], rfl, hk.layNil key, hv, hA⟩

theorem N_sBump (x : MA) (m : MS) {S T : Nat} (hk : m.ok S T) (hS : S ≤ 1000000000) (hT : T ≤ 1900000000) (key : Str) (hkey : key.length ≤ 1000000000000) :
   Ct Tryz.prog 196 [mv x m, str key] (mr x m) (fun _ => True) (fun v A' => ∃ x' m' n, m.bump key = (m', n) ∧ m'.ok (S + 1) (T + 1) ∧ (0 ≤ n ∧ n ≤ 999) ∧ v = .tuple #[mv x' m', .int .i64 n] ∧ A' = mr x' m') :=
 (C_sBump x.a0 x.a1 x.a2 x.c0 x.c1 x.c2 m key (by have := hk.1; omega) (by have := hk.2.1; omega) (by have := hk.2.2.1; omega) (Nat.le_trans (hk.getKey key) (by decide)) hkey).weak (fun _ h => h) fun v A' ⟨x0, y0, x1, y1, x2, y2, hv, hA⟩ => ⟨⟨x0, y0, x1, y1, x2, y2⟩, (m.bump key).1, (m.bump key).2, rfl, hk.bump key, (bump_lo m key), hv, hA⟩
end Go.Proofs.YthlfmbbaomdciaaGreatDoor
set_option maxHeartbeats 4000000
set_option maxRecDepth 4000
namespace Go.Proofs.YthlfmbbaomdciaaGreatDoor
open Go Go.RowKit
attribute [local irreducible] JL JC JQ JO LO PO JA JX Ct
theorem tmod10 (k : Nat) : (-((k : Nat) : Int)).tmod 10 = -((k % 10 : Nat) : Int) := by
 rw [Int.neg_tmod]; rfl
theorem tdiv10 (k : Nat) : (-((k : Nat) : Int)).tdiv 10 = -((k / 10 : Nat) : Int) := by
 rw [Int.neg_tdiv]; rfl
theorem dec_neg {k : Nat} (h : 0 < k) : dec (-((k : Nat) : Int)) = 45 :: mtAcc k [] := by
 unfold dec Lib.itoa
 rw [if_pos (by omega), show (-((k : Nat) : Int)).natAbs = k by omega, mtAcc_dec k k h (Nat.le_refl _)]

theorem C_sDecM (k : Nat) (h0 : 0 < k) (h1 : k ≤ 9223372036854775808) :
   Ct Tryz.prog 131 [.int .i64 (-((k : Nat) : Int))] [] (fun _ => True) (fun v A' => v = str (dec (-((k : Nat) : Int))) ∧ A' = []) := by
 refine Ct.intro Tryz.func131 rfl Tryz.ntmps131 (lb rfl) fun w0 hpre => ?_
 refine go ?_
 by_cases h_1 : (-((k : Nat) : Int)) = 0
 · exfalso; omega
 refine go ?_
 refine jL (fun k_ e_ L_ => ∃ k1 : Nat, ∃ o_ : Str, (k1 ≤ k) ∧ (o_.length = 0 ∨ o_.length + k1 ≤ k / 2 + 1) ∧ (mtAcc k1 o_ = mtAcc k []) ∧ EL e_ [(0, iv (-((k1 : Nat) : Int))), (2, str []), (3, .bool (decide ((-((k : Nat) : Int)) < 0))), (4, str o_)] ∧ L_ = [] ∧ k_ = k1 + 1) _ ⟨k, [], by omega, (by simp), rfl, EL.go, rfl, rfl⟩ ?_
 rintro _ _ _ ⟨k1, o_, hk, hl, hR, ⟨_, rfl⟩, rfl, rfl⟩
 refine go ?_
 by_cases h_2 : (-((k1 : Nat) : Int)) = 0
 · refine go ?_
   by_cases h_3 : (-((k : Nat) : Int)) < 0
   · refine go ?_
     refine jE (.inl rfl) rfl (jC (v := str ([45] ++ o_)) rfl) (List.nil_sublist _) ?_
     refine ⟨?_, rfl⟩
     rw [dec_neg (by omega), ← hR, mtAcc_zero (by omega)]
     rfl
   exfalso; omega
 refine go ?_
 refine jK (PO.rem (c := -((k1 % 10 : Nat) : Int)) rfl rfl (by omega) (tmod10 k1)) ?_
 refine go ?_
 by_cases h_4 : (-((k1 % 10 : Nat) : Int)) < 0
 · refine go ?_
   refine jK (PO.neg (c := ((k1 % 10 : Nat) : Int)) rfl (wr (by omega))) ?_
   refine go ?_
   refine jN [] (C_figure (k1 % 10) (by omega)) ?_
   refine jF rfl (jR (ps := [(0, .int .u8 ((48 + (k1 % 10) : Nat) : Int))]) (cur := #[.int .u8 ((48 + (k1 % 10) : Nat) : Int)]) kN kg kj rfl (by kernel_rfl) (by decide) (by decide)) ?_
   rintro _ _ ⟨a_5, rfl, rfl⟩
   refine jU (LO.toStr 0 [UInt8.ofNat (48 + (k1 % 10))] rfl kN kU kO rfl (by rw [List.map_cons, List.map_nil, encB_of _ (by omega)])) ?_
   refine go ?_
   refine jK (PO.quo (c := -((k1 / 10 : Nat) : Int)) rfl rfl (by omega) ((congrArg _ (tdiv10 k1)).trans (wr (by omega)))) ?_
   refine go ?_
   exact jP [] ⟨(k1 / 10), [UInt8.ofNat (48 + (k1 % 10))] ++ o_, by omega, (by simp only [List.length_append, List.length_cons, List.length_nil]; omega), (by rw [mtAcc_step (by omega)]; exact hR), EL.go, rfl, rfl⟩
 have hz_6 : -((k1 % 10 : Nat) : Int) = ((k1 % 10 : Nat) : Int) := by omega
 have hz_7 : -((k1 % 10 : Nat) : Int) = ((k1 % 10 : Nat) : Int) := by omega
 have hz_8 : -((k1 % 10 : Nat) : Int) = ((k1 % 10 : Nat) : Int) := by omega
 first | refine kA 5 (v := iv ((k1 % 10 : Nat) : Int)) (congrArg (Value.int .i64) hz_7) ?_ | refine jv 5 (v := iv ((k1 % 10 : Nat) : Int)) (congrArg (Value.int .i64) hz_7) ?_ | refine kB 5 (v := iv ((k1 % 10 : Nat) : Int)) (congrArg (Value.int .i64) hz_7) ?_ | refine kC 5 (v := iv ((k1 % 10 : Nat) : Int)) (congrArg (Value.int .i64) hz_7) ?_
 refine go ?_
 refine jN [] (C_figure (k1 % 10) (by omega)) ?_
 refine jF rfl (jR (ps := [(0, .int .u8 ((48 + (k1 % 10) : Nat) : Int))]) (cur := #[.int .u8 ((48 + (k1 % 10) : Nat) : Int)]) kN kg kj rfl (by kernel_rfl) (by decide) (by decide)) ?_
 rintro _ _ ⟨a_9, rfl, rfl⟩
 refine jU (LO.toStr 0 [UInt8.ofNat (48 + (k1 % 10))] rfl kN kU kO rfl (by rw [List.map_cons, List.map_nil, encB_of _ (by omega)])) ?_
 refine go ?_
 refine jK (PO.quo (c := -((k1 / 10 : Nat) : Int)) rfl rfl (by omega) ((congrArg _ (tdiv10 k1)).trans (wr (by omega)))) ?_
 refine go ?_
 exact jP [] ⟨(k1 / 10), [UInt8.ofNat (48 + (k1 % 10))] ++ o_, by omega, (by simp only [List.length_append, List.length_cons, List.length_nil]; omega), (by rw [mtAcc_step (by omega)]; exact hR), EL.go, rfl, rfl⟩

theorem C_sDecP (k : Nat) (h1 : k ≤ 9223372036854775807) :
   Ct Tryz.prog 131 [.int .i64 ((k : Nat) : Int)] [] (fun _ => True) (fun v A' => v = str (dec ((k : Nat) : Int)) ∧ A' = []) := by
 refine Ct.intro Tryz.func131 rfl Tryz.ntmps131 (lb rfl) fun w0 hpre => ?_
 refine go ?_
 by_cases h_1 : ((k : Nat) : Int) = 0
 · refine go ?_
   refine jE (.inl rfl) rfl (jC (v := str [48]) rfl) (List.nil_sublist _) ?_
   refine ⟨?_, rfl⟩
   rw [show ((k : Nat) : Int) = 0 by omega, dec_zero]
 refine go ?_
 refine jL (fun k_ e_ L_ => ∃ k1 : Nat, ∃ o_ : Str, (k1 ≤ k) ∧ (o_.length + k1 ≤ k) ∧ (mtAcc k1 o_ = mtAcc k []) ∧ EL e_ [(0, nv k1), (2, str []), (3, .bool (decide (((k : Nat) : Int) < 0))), (4, str o_)] ∧ L_ = [] ∧ k_ = k1 + 1) _ ⟨k, [], by omega, (by simp), rfl, EL.go, rfl, rfl⟩ ?_
 rintro _ _ _ ⟨k1, o_, hk, hl, hR, ⟨_, rfl⟩, rfl, rfl⟩
 refine go ?_
 by_cases h_2 : ((k1 : Nat) : Int) = 0
 · refine go ?_
   by_cases h_3 : ((k : Nat) : Int) < 0
   · exfalso; omega
   refine go ?_
   refine jE (.inl rfl) rfl (jC (v := str o_) rfl) (List.nil_sublist _) ?_
   refine ⟨?_, rfl⟩
   rw [dec_nat (by omega), ← hR, mtAcc_zero (by omega)]
 refine go ?_
 by_cases h_4 : ((k1 % 10 : Nat) : Int) < 0
 · exfalso; omega
 refine go ?_
 refine jN [] (C_figure (k1 % 10) (by omega)) ?_
 refine jF rfl (jR (ps := [(0, .int .u8 ((48 + (k1 % 10) : Nat) : Int))]) (cur := #[.int .u8 ((48 + (k1 % 10) : Nat) : Int)]) kN kg kj rfl (by kernel_rfl) (by decide) (by decide)) ?_
 rintro _ _ ⟨a_5, rfl, rfl⟩
 refine jU (LO.toStr 0 [UInt8.ofNat (48 + (k1 % 10))] rfl kN kU kO rfl (by rw [List.map_cons, List.map_nil, encB_of _ (by omega)])) ?_
 refine go ?_
 exact jP [] ⟨(k1 / 10), [UInt8.ofNat (48 + (k1 % 10))] ++ o_, by omega, (by simp only [List.length_append, List.length_cons, List.length_nil]; omega), (by rw [mtAcc_step (by omega)]; exact hR), EL.go, rfl, rfl⟩

theorem N_sDec (n : Int) (hn : -9223372036854775808 ≤ n ∧ n ≤ 9223372036854775807) : Ct Tryz.prog 131 [.int .i64 n] [] (fun _ => True) (fun v A' => ∃ r0, dec n = r0 ∧ r0.length ≤ 21 ∧ v = str r0 ∧ A' = []) := by
 have h21 := dec_len21 hn.1 hn.2
 by_cases h : 0 ≤ n
 · have := C_sDecP n.toNat (by omega)
   rw [Int.toNat_of_nonneg h] at this
   exact this.weak (fun _ h => h) fun v A' ⟨h1, h2⟩ => ⟨_, rfl, h21, h1, h2⟩
 · have := C_sDecM (-n).toNat (by omega) (by omega)
   rw [Int.toNat_of_nonneg (by omega), Int.neg_neg] at this
   exact this.weak (fun _ h => h) fun v A' ⟨h1, h2⟩ => ⟨_, rfl, h21, h1, h2⟩

theorem N_dec (n : Int) (hn : -9223372036854775808 ≤ n ∧ n ≤ 9223372036854775807) : Ct Tryz.prog 129 [.int .i64 n] [] (fun _ => True) (fun v A' => ∃ r0, dec n = r0 ∧ r0.length ≤ 21 ∧ v = str r0 ∧ A' = []) :=
 (C_decimal n hn.1 hn.2).weak (fun _ h => h) fun v A' ⟨h1, h2⟩ => ⟨_, rfl, dec_len21 hn.1 hn.2, h1, h2⟩

theorem N_numOf (t : Str) (ht : t.length ≤ 1000000000000) : Ct Tryz.prog 309 [str t] [] (fun _ => True) (fun v A' => ∃ r0, numOf t = r0 ∧ (0 ≤ r0 ∧ r0 ≤ 999) ∧ v = .int .i64 r0 ∧ A' = []) :=
 (C_numOf t (by omega)).weak (fun _ h => h) fun v A' ⟨h1, h2⟩ => ⟨_, rfl, numOf_lo t, h1, h2⟩

theorem N_sNumOf (t : Str) (ht : t.length ≤ 1000000000000) : Ct Tryz.prog 280 [str t] [] (fun _ => True) (fun v A' => ∃ r0, numOf t = r0 ∧ (0 ≤ r0 ∧ r0 ≤ 999) ∧ v = .int .i64 r0 ∧ A' = []) :=
 (C_sNumOf t (by omega)).weak (fun _ h => h) fun v A' ⟨h1, h2⟩ => ⟨_, rfl, numOf_lo t, h1, h2⟩

theorem N_sNumAt (x : MA) (m : MS) {S T : Nat} (hk : m.ok S T) (hS : S ≤ 900000000) (hT : T ≤ 1850000000) (key : Str) :
   Ct Tryz.prog 195 [mv x m, str key] (mr x m) (fun _ => True) (fun v A' => ∃ x' m' r0, MS.num m key = (m', r0) ∧ m'.ok (S) (T + 1) ∧ (0 ≤ r0 ∧ r0 ≤ 999) ∧ v = .tuple #[mv x' m', .int .i64 r0] ∧ A' = mr x' m') := by
 refine Ct.intro Tryz.func195 rfl Tryz.ntmps195 (lb rfl) fun w0 hpre => ?_
 refine go ?_
 refine jM (mc x m) fun b_1 => ?_
 refine jG zC fun b_2 => ?_
 refine go ?_
 refine jA [2, 2, 2] (N_sLook x m hk (by omega) (by omega) key) ?_
 rintro _ _ ⟨x_5, m_6, u_7, e_3, k_4, f_8, rfl, rfl⟩
 refine go ?_
 refine jD 4 (mc x_5 m_6) ?_
 refine go ?_
 refine jH [4] 3 ?_
 refine go ?_
 refine jB (i := 2) ?_
 refine jI [] (N_sNumOf u_7 (by omega)) ?_
 rintro _ _ ⟨n_15, e_13, f_16, rfl, rfl⟩
 refine jB (i := 3) ?_
 refine jf 3 (mc x_5 m_6) ?_
 refine go ?_
 exact jQ [0, 0, 0] ⟨x_5, m_6, n_15, (by simp only [MS.num, e_3, e_13, SB]; (repeat (first | rw [if_pos (by omega)] | rw [if_neg (by omega)])); all_goals (first | rfl | simp only [SB, e_3, e_13])), (k_4.mono (by omega) (by omega)), (by first | omega | (simp only [LE]; omega)), rfl, rfl⟩

theorem N_sSetNum (x : MA) (m : MS) {S T : Nat} (hk : m.ok S T) (hS : S ≤ 900000000) (hT : T ≤ 1850000000) (key : Str) (n : Int) (hkey : key.length ≤ 1000000000000) (hn : -9223372036854775808 ≤ n ∧ n ≤ 9223372036854775807) :
   Ct Tryz.prog 197 [mv x m, str key, .int .i64 n] (mr x m) (fun _ => True) (fun v A' => ∃ x' m', MS.setNum m key n = m' ∧ m'.ok (S + 1) (T + 1) ∧ v = mv x' m' ∧ A' = mr x' m') := by
 refine Ct.intro Tryz.func197 rfl Tryz.ntmps197 (lb rfl) fun w0 hpre => ?_
 refine go ?_
 refine jM (mc x m) fun b_1 => ?_
 refine jG zC fun b_2 => ?_
 refine go ?_
 refine jN [] (C_l01In n 1 999) ?_
 refine go ?_
 rcases Bool.eq_false_or_eq_true (decide (1 ≤ n) && decide (n ≤ 999)) with h_3 | h_3
 · have h_3d := h_3
   simp only [Bool.and_eq_true, Bool.and_eq_false_iff, decide_eq_true_eq, decide_eq_false_iff_not] at h_3d
   refine go ?_
   refine jH [1] 4 ?_
   refine go ?_
   refine jB (i := 3) ?_
   refine jI [] (N_sDec n (by omega)) ?_
   rintro _ _ ⟨u_10, e_8, f_11, rfl, rfl⟩
   refine jB (i := 4) ?_
   refine kE [2, 2, 2] (N_sLay x m hk (by omega) (by omega) key u_10 (by omega)) ?_
   rintro _ _ ⟨x_18, m_19, e_16, k_17, rfl, rfl⟩
   refine jB (i := 5) ?_
   refine jS 3 (mc x_18 m_19) ?_
   refine go ?_
   exact jJ [0, 0, 0] ⟨x_18, m_19, (by simp only [MS.setNum, h_3, e_8, e_16, SB]; (repeat (first | rw [if_pos (by omega)] | rw [if_neg (by omega)])); all_goals (first | rfl | simp only [SB, h_3, e_8, e_16])), (k_17.mono (by omega) (by omega)), rfl, rfl⟩
 have h_3d := h_3
 simp only [Bool.and_eq_true, Bool.and_eq_false_iff, decide_eq_true_eq, decide_eq_false_iff_not] at h_3d
 refine go ?_
 refine jA [2, 2, 2] (N_sLayNil x m hk (by omega) (by omega) key (by omega)) ?_
 rintro _ _ ⟨x_22, m_23, e_20, k_21, rfl, rfl⟩
 refine jD 3 (mc x_22 m_23) ?_
 refine go ?_
 exact jJ [0, 0, 0] ⟨x_22, m_23, (by simp only [MS.setNum, h_3, e_20, SB]; (repeat (first | rw [if_pos (by omega)] | rw [if_neg (by omega)])); all_goals (first | rfl | simp only [SB, h_3, e_20])), (k_21.mono (by omega) (by omega)), rfl, rfl⟩

theorem N_keyNum {hb tb : Nat} (h : Str) (n : Int) (t : Str) (hh : h.length ≤ hb) (hn : -9223372036854775808 ≤ n ∧ n ≤ 9223372036854775807) (ht : t.length ≤ tb) (hq : hb + tb ≤ 1000000) :
   Ct Tryz.prog 297 [str h, .int .i64 n, str t] ([]) (fun _ => True) (fun v A' => ∃ r0, keyNum h n t = r0 ∧ r0.length ≤ hb + 21 + tb ∧ v = str r0 ∧ A' = []) := by
 refine Ct.intro Tryz.func297 rfl Tryz.ntmps297 (lb rfl) fun w0 hpre => ?_
 refine go ?_
 refine jA [] (N_dec n (by omega)) ?_
 rintro _ _ ⟨u_3, e_1, f_4, rfl, rfl⟩
 refine go ?_
 exact jJ [] ⟨((h ++ u_3) ++ t), (by simp only [keyNum, e_1, SB]; (repeat (first | rw [if_pos (by omega)] | rw [if_neg (by omega)])); all_goals (first | rfl | simp only [SB, e_1])), (by first | omega | (simp only [LE]; omega)), rfl, rfl⟩

theorem N_sKeyNum {hb tb : Nat} (h : Str) (n : Int) (t : Str) (hh : h.length ≤ hb) (hn : -9223372036854775808 ≤ n ∧ n ≤ 9223372036854775807) (ht : t.length ≤ tb) (hq : hb + tb ≤ 1000000) :
   Ct Tryz.prog 282 [str h, .int .i64 n, str t] ([]) (fun _ => True) (fun v A' => ∃ r0, keyNum h n t = r0 ∧ r0.length ≤ hb + 21 + tb ∧ v = str r0 ∧ A' = []) := by
 refine Ct.intro Tryz.func282 rfl Tryz.ntmps282 (lb rfl) fun w0 hpre => ?_
 refine go ?_
 refine jA [] (N_sDec n (by omega)) ?_
 rintro _ _ ⟨u_3, e_1, f_4, rfl, rfl⟩
 refine go ?_
 exact jJ [] ⟨((h ++ u_3) ++ t), (by simp only [keyNum, e_1, SB]; (repeat (first | rw [if_pos (by omega)] | rw [if_neg (by omega)])); all_goals (first | rfl | simp only [SB, e_1])), (by first | omega | (simp only [LE]; omega)), rfl, rfl⟩

theorem N_pipeKey {tb : Nat} (id : Int) (t : Str) (hid : -9223372036854775808 ≤ id ∧ id ≤ 9223372036854775807) (ht : t.length ≤ tb) (hq : tb ≤ 900000) :
   Ct Tryz.prog 302 [.int .i64 id, str t] ([]) (fun _ => True) (fun v A' => ∃ r0, keyNum ([112, 47] : Str) id t = r0 ∧ r0.length ≤ 2 + 21 + tb ∧ v = str r0 ∧ A' = []) := by
 refine Ct.intro Tryz.func302 rfl Tryz.ntmps302 (lb rfl) fun w0 hpre => ?_
 refine go ?_
 refine jA [] (N_keyNum [112, 47] id t (show List.length ([112, 47] : Str) ≤ 2 by decide) (by omega) (Nat.le_refl _) (by omega)) ?_
 rintro _ _ ⟨u_3, e_1, f_4, rfl, rfl⟩
 refine go ?_
 exact jJ [] ⟨u_3, (by simp only [if_true, e_1, SB]; (repeat (first | rw [if_pos (by omega)] | rw [if_neg (by omega)])); all_goals (first | rfl | simp only [SB, e_1])), (by first | omega | (simp only [LE]; omega)), rfl, rfl⟩

theorem N_procKey {tb : Nat} (id : Int) (t : Str) (hid : -9223372036854775808 ≤ id ∧ id ≤ 9223372036854775807) (ht : t.length ≤ tb) (hq : tb ≤ 900000) :
   Ct Tryz.prog 251 [.int .i64 id, str t] ([]) (fun _ => True) (fun v A' => ∃ r0, keyNum ([114, 47] : Str) id t = r0 ∧ r0.length ≤ 2 + 21 + tb ∧ v = str r0 ∧ A' = []) := by
 refine Ct.intro Tryz.func251 rfl Tryz.ntmps251 (lb rfl) fun w0 hpre => ?_
 refine go ?_
 refine jA [] (N_keyNum [114, 47] id t (show List.length ([114, 47] : Str) ≤ 2 by decide) (by omega) (Nat.le_refl _) (by omega)) ?_
 rintro _ _ ⟨u_3, e_1, f_4, rfl, rfl⟩
 refine go ?_
 exact jJ [] ⟨u_3, (by simp only [if_true, e_1, SB]; (repeat (first | rw [if_pos (by omega)] | rw [if_neg (by omega)])); all_goals (first | rfl | simp only [SB, e_1])), (by first | omega | (simp only [LE]; omega)), rfl, rfl⟩

theorem N_signalKey {tb : Nat} (id : Int) (t : Str) (hid : -9223372036854775808 ≤ id ∧ id ≤ 9223372036854775807) (ht : t.length ≤ tb) (hq : tb ≤ 900000) :
   Ct Tryz.prog 310 [.int .i64 id, str t] ([]) (fun _ => True) (fun v A' => ∃ r0, keyNum ([103, 47] : Str) id t = r0 ∧ r0.length ≤ 2 + 21 + tb ∧ v = str r0 ∧ A' = []) := by
 refine Ct.intro Tryz.func310 rfl Tryz.ntmps310 (lb rfl) fun w0 hpre => ?_
 refine go ?_
 refine jA [] (N_keyNum [103, 47] id t (show List.length ([103, 47] : Str) ≤ 2 by decide) (by omega) (Nat.le_refl _) (by omega)) ?_
 rintro _ _ ⟨u_3, e_1, f_4, rfl, rfl⟩
 refine go ?_
 exact jJ [] ⟨u_3, (by simp only [if_true, e_1, SB]; (repeat (first | rw [if_pos (by omega)] | rw [if_neg (by omega)])); all_goals (first | rfl | simp only [SB, e_1])), (by first | omega | (simp only [LE]; omega)), rfl, rfl⟩

theorem N_l08Key {tb : Nat} (id : Int) (t : Str) (hid : -9223372036854775808 ≤ id ∧ id ≤ 9223372036854775807) (ht : t.length ≤ tb) (hq : tb ≤ 900000) :
   Ct Tryz.prog 318 [.int .i64 id, str t] ([]) (fun _ => True) (fun v A' => ∃ r0, keyNum ([112, 47] : Str) id t = r0 ∧ r0.length ≤ 2 + 21 + tb ∧ v = str r0 ∧ A' = []) := by
 refine Ct.intro Tryz.func318 rfl Tryz.ntmps318 (lb rfl) fun w0 hpre => ?_
 refine go ?_
 refine jA [] (N_sKeyNum [112, 47] id t (show List.length ([112, 47] : Str) ≤ 2 by decide) (by omega) (Nat.le_refl _) (by omega)) ?_
 rintro _ _ ⟨u_3, e_1, f_4, rfl, rfl⟩
 refine go ?_
 exact jJ [] ⟨u_3, (by simp only [if_true, e_1, SB]; (repeat (first | rw [if_pos (by omega)] | rw [if_neg (by omega)])); all_goals (first | rfl | simp only [SB, e_1])), (by first | omega | (simp only [LE]; omega)), rfl, rfl⟩

theorem N_l09Key {tb : Nat} (id : Int) (t : Str) (hid : -9223372036854775808 ≤ id ∧ id ≤ 9223372036854775807) (ht : t.length ≤ tb) (hq : tb ≤ 900000) :
   Ct Tryz.prog 198 [.int .i64 id, str t] ([]) (fun _ => True) (fun v A' => ∃ r0, keyNum ([114, 47] : Str) id t = r0 ∧ r0.length ≤ 2 + 21 + tb ∧ v = str r0 ∧ A' = []) := by
 refine Ct.intro Tryz.func198 rfl Tryz.ntmps198 (lb rfl) fun w0 hpre => ?_
 refine go ?_
 refine jA [] (N_sKeyNum [114, 47] id t (show List.length ([114, 47] : Str) ≤ 2 by decide) (by omega) (Nat.le_refl _) (by omega)) ?_
 rintro _ _ ⟨u_3, e_1, f_4, rfl, rfl⟩
 refine go ?_
 exact jJ [] ⟨u_3, (by simp only [if_true, e_1, SB]; (repeat (first | rw [if_pos (by omega)] | rw [if_neg (by omega)])); all_goals (first | rfl | simp only [SB, e_1])), (by first | omega | (simp only [LE]; omega)), rfl, rfl⟩

theorem N_l10Key {tb : Nat} (id : Int) (t : Str) (hid : -9223372036854775808 ≤ id ∧ id ≤ 9223372036854775807) (ht : t.length ≤ tb) (hq : tb ≤ 900000) :
   Ct Tryz.prog 322 [.int .i64 id, str t] ([]) (fun _ => True) (fun v A' => ∃ r0, keyNum ([103, 47] : Str) id t = r0 ∧ r0.length ≤ 2 + 21 + tb ∧ v = str r0 ∧ A' = []) := by
 refine Ct.intro Tryz.func322 rfl Tryz.ntmps322 (lb rfl) fun w0 hpre => ?_
 refine go ?_
 refine jA [] (N_sKeyNum [103, 47] id t (show List.length ([103, 47] : Str) ≤ 2 by decide) (by omega) (Nat.le_refl _) (by omega)) ?_
 rintro _ _ ⟨u_3, e_1, f_4, rfl, rfl⟩
 refine go ?_
 exact jJ [] ⟨u_3, (by simp only [if_true, e_1, SB]; (repeat (first | rw [if_pos (by omega)] | rw [if_neg (by omega)])); all_goals (first | rfl | simp only [SB, e_1])), (by first | omega | (simp only [LE]; omega)), rfl, rfl⟩

theorem N_linksKey (id : Int) (hid : -9223372036854775808 ≤ id ∧ id ≤ 9223372036854775807) :
   Ct Tryz.prog 294 [.int .i64 id] ([]) (fun _ => True) (fun v A' => ∃ r0, (fun i => keyNum ([105, 47] : Str) i ([47, 108] : Str)) id = r0 ∧ r0.length ≤ 30 ∧ v = str r0 ∧ A' = []) := by
 refine Ct.intro Tryz.func294 rfl Tryz.ntmps294 (lb rfl) fun w0 hpre => ?_
 refine go ?_
 refine jA [] (N_keyNum [105, 47] id [47, 108] (show List.length ([105, 47] : Str) ≤ 2 by decide) (by omega) (show List.length ([47, 108] : Str) ≤ 2 by decide) (by omega)) ?_
 rintro _ _ ⟨u_3, e_1, f_4, rfl, rfl⟩
 refine go ?_
 exact jJ [] ⟨u_3, (by simp only [if_true, e_1, SB]; (repeat (first | rw [if_pos (by omega)] | rw [if_neg (by omega)])); all_goals (first | rfl | simp only [SB, e_1])), (by first | omega | (simp only [LE]; omega)), rfl, rfl⟩

theorem N_sizeKey (id : Int) (hid : -9223372036854775808 ≤ id ∧ id ≤ 9223372036854775807) :
   Ct Tryz.prog 347 [.int .i64 id] ([]) (fun _ => True) (fun v A' => ∃ r0, (fun i => keyNum ([105, 47] : Str) i ([47, 115] : Str)) id = r0 ∧ r0.length ≤ 30 ∧ v = str r0 ∧ A' = []) := by
 refine Ct.intro Tryz.func347 rfl Tryz.ntmps347 (lb rfl) fun w0 hpre => ?_
 refine go ?_
 refine jA [] (N_keyNum [105, 47] id [47, 115] (show List.length ([105, 47] : Str) ≤ 2 by decide) (by omega) (show List.length ([47, 115] : Str) ≤ 2 by decide) (by omega)) ?_
 rintro _ _ ⟨u_3, e_1, f_4, rfl, rfl⟩
 refine go ?_
 exact jJ [] ⟨u_3, (by simp only [if_true, e_1, SB]; (repeat (first | rw [if_pos (by omega)] | rw [if_neg (by omega)])); all_goals (first | rfl | simp only [SB, e_1])), (by first | omega | (simp only [LE]; omega)), rfl, rfl⟩

theorem N_pagesKey (id : Int) (hid : -9223372036854775808 ≤ id ∧ id ≤ 9223372036854775807) :
   Ct Tryz.prog 306 [.int .i64 id] ([]) (fun _ => True) (fun v A' => ∃ r0, (fun i => keyNum ([109, 47] : Str) i ([47] : Str)) id = r0 ∧ r0.length ≤ 30 ∧ v = str r0 ∧ A' = []) := by
 refine Ct.intro Tryz.func306 rfl Tryz.ntmps306 (lb rfl) fun w0 hpre => ?_
 refine go ?_
 refine jA [] (N_keyNum [109, 47] id [47] (show List.length ([109, 47] : Str) ≤ 2 by decide) (by omega) (show List.length ([47] : Str) ≤ 1 by decide) (by omega)) ?_
 rintro _ _ ⟨u_3, e_1, f_4, rfl, rfl⟩
 refine go ?_
 exact jJ [] ⟨u_3, (by simp only [if_true, e_1, SB]; (repeat (first | rw [if_pos (by omega)] | rw [if_neg (by omega)])); all_goals (first | rfl | simp only [SB, e_1])), (by first | omega | (simp only [LE]; omega)), rfl, rfl⟩

theorem N_l11Head (id : Int) (hid : -9223372036854775808 ≤ id ∧ id ≤ 9223372036854775807) :
   Ct Tryz.prog 325 [.int .i64 id] ([]) (fun _ => True) (fun v A' => ∃ r0, (fun i => keyNum ([109, 47] : Str) i ([47] : Str)) id = r0 ∧ r0.length ≤ 30 ∧ v = str r0 ∧ A' = []) := by
 refine Ct.intro Tryz.func325 rfl Tryz.ntmps325 (lb rfl) fun w0 hpre => ?_
 refine go ?_
 refine jA [] (N_sKeyNum [109, 47] id [47] (show List.length ([109, 47] : Str) ≤ 2 by decide) (by omega) (show List.length ([47] : Str) ≤ 1 by decide) (by omega)) ?_
 rintro _ _ ⟨u_3, e_1, f_4, rfl, rfl⟩
 refine go ?_
 exact jJ [] ⟨u_3, (by simp only [if_true, e_1, SB]; (repeat (first | rw [if_pos (by omega)] | rw [if_neg (by omega)])); all_goals (first | rfl | simp only [SB, e_1])), (by first | omega | (simp only [LE]; omega)), rfl, rfl⟩

theorem N_blockKey (id : Int) (k : Int) (hid : -9223372036854775808 ≤ id ∧ id ≤ 9223372036854775807) (hk : -9223372036854775808 ≤ k ∧ k ≤ 9223372036854775807) :
   Ct Tryz.prog 349 [.int .i64 id, .int .i64 k] ([]) (fun _ => True) (fun v A' => ∃ r0, (fun i k => keyNum (keyNum ([105, 47] : Str) i ([47, 98, 47] : Str)) k []) id k = r0 ∧ r0.length ≤ 60 ∧ v = str r0 ∧ A' = []) := by
 refine Ct.intro Tryz.func349 rfl Tryz.ntmps349 (lb rfl) fun w0 hpre => ?_
 refine go ?_
 refine jA [] (N_keyNum [105, 47] id [47, 98, 47] (show List.length ([105, 47] : Str) ≤ 2 by decide) (by omega) (show List.length ([47, 98, 47] : Str) ≤ 3 by decide) (by omega)) ?_
 rintro _ _ ⟨u_3, e_1, f_4, rfl, rfl⟩
 refine go ?_
 refine jA [] (N_keyNum u_3 k [] (Nat.le_refl _) (by omega) (show List.length ([] : Str) ≤ 0 by decide) (by omega)) ?_
 rintro _ _ ⟨u_7, e_5, f_8, rfl, rfl⟩
 refine go ?_
 exact jJ [] ⟨u_7, (by simp only [if_true, e_1, e_5, SB]; (repeat (first | rw [if_pos (by omega)] | rw [if_neg (by omega)])); all_goals (first | rfl | simp only [SB, e_1, e_5])), (by first | omega | (simp only [LE]; omega)), rfl, rfl⟩

theorem N_l07Block (id : Int) (k : Int) (hid : -9223372036854775808 ≤ id ∧ id ≤ 9223372036854775807) (hk : -9223372036854775808 ≤ k ∧ k ≤ 9223372036854775807) :
   Ct Tryz.prog 357 [.int .i64 id, .int .i64 k] ([]) (fun _ => True) (fun v A' => ∃ r0, (fun i k => keyNum (keyNum ([105, 47] : Str) i ([47, 98, 47] : Str)) k []) id k = r0 ∧ r0.length ≤ 60 ∧ v = str r0 ∧ A' = []) := by
 refine Ct.intro Tryz.func357 rfl Tryz.ntmps357 (lb rfl) fun w0 hpre => ?_
 refine go ?_
 refine jA [] (N_sKeyNum [105, 47] id [47, 98, 47] (show List.length ([105, 47] : Str) ≤ 2 by decide) (by omega) (show List.length ([47, 98, 47] : Str) ≤ 3 by decide) (by omega)) ?_
 rintro _ _ ⟨u_3, e_1, f_4, rfl, rfl⟩
 refine go ?_
 refine jA [] (N_sKeyNum u_3 k [] (Nat.le_refl _) (by omega) (show List.length ([] : Str) ≤ 0 by decide) (by omega)) ?_
 rintro _ _ ⟨u_7, e_5, f_8, rfl, rfl⟩
 refine go ?_
 exact jJ [] ⟨u_7, (by simp only [if_true, e_1, e_5, SB]; (repeat (first | rw [if_pos (by omega)] | rw [if_neg (by omega)])); all_goals (first | rfl | simp only [SB, e_1, e_5])), (by first | omega | (simp only [LE]; omega)), rfl, rfl⟩

theorem N_l08Message (id : Int) (k : Int) (hid : -9223372036854775808 ≤ id ∧ id ≤ 9223372036854775807) (hk : -9223372036854775808 ≤ k ∧ k ≤ 9223372036854775807) :
   Ct Tryz.prog 320 [.int .i64 id, .int .i64 k] ([]) (fun _ => True) (fun v A' => ∃ r0, (fun i k => keyNum (keyNum ([112, 47] : Str) i ([47, 113, 47] : Str)) k []) id k = r0 ∧ r0.length ≤ 60 ∧ v = str r0 ∧ A' = []) := by
 refine Ct.intro Tryz.func320 rfl Tryz.ntmps320 (lb rfl) fun w0 hpre => ?_
 refine go ?_
 refine jA [] (N_l08Key id [47, 113, 47] (by omega) (show List.length ([47, 113, 47] : Str) ≤ 3 by decide) (by omega)) ?_
 rintro _ _ ⟨u_3, e_1, f_4, rfl, rfl⟩
 refine go ?_
 refine jA [] (N_sKeyNum u_3 k [] (Nat.le_refl _) (by omega) (show List.length ([] : Str) ≤ 0 by decide) (by omega)) ?_
 rintro _ _ ⟨u_7, e_5, f_8, rfl, rfl⟩
 refine go ?_
 exact jJ [] ⟨u_7, (by simp only [if_true, e_1, e_5, SB]; (repeat (first | rw [if_pos (by omega)] | rw [if_neg (by omega)])); all_goals (first | rfl | simp only [SB, e_1, e_5])), (by first | omega | (simp only [LE]; omega)), rfl, rfl⟩

theorem N_l10Signal (id : Int) (k : Int) (hid : -9223372036854775808 ≤ id ∧ id ≤ 9223372036854775807) (hk : -9223372036854775808 ≤ k ∧ k ≤ 9223372036854775807) :
   Ct Tryz.prog 323 [.int .i64 id, .int .i64 k] ([]) (fun _ => True) (fun v A' => ∃ r0, (fun i k => keyNum (keyNum ([103, 47] : Str) i ([47, 113, 47] : Str)) k []) id k = r0 ∧ r0.length ≤ 60 ∧ v = str r0 ∧ A' = []) := by
 refine Ct.intro Tryz.func323 rfl Tryz.ntmps323 (lb rfl) fun w0 hpre => ?_
 refine go ?_
 refine jA [] (N_l10Key id [47, 113, 47] (by omega) (show List.length ([47, 113, 47] : Str) ≤ 3 by decide) (by omega)) ?_
 rintro _ _ ⟨u_3, e_1, f_4, rfl, rfl⟩
 refine go ?_
 refine jA [] (N_sKeyNum u_3 k [] (Nat.le_refl _) (by omega) (show List.length ([] : Str) ≤ 0 by decide) (by omega)) ?_
 rintro _ _ ⟨u_7, e_5, f_8, rfl, rfl⟩
 refine go ?_
 exact jJ [] ⟨u_7, (by simp only [if_true, e_1, e_5, SB]; (repeat (first | rw [if_pos (by omega)] | rw [if_neg (by omega)])); all_goals (first | rfl | simp only [SB, e_1, e_5])), (by first | omega | (simp only [LE]; omega)), rfl, rfl⟩

theorem N_nameKey (s : Str) (hs : s.length ≤ 1000000000000) :
   Ct Tryz.prog 293 [str s] ([]) (fun _ => True) (fun v A' => ∃ r0, (fun t => ([110, 47] : Str) ++ t) s = r0 ∧ r0.length ≤ s.length + 2 ∧ v = str r0 ∧ A' = []) := by
 refine Ct.intro Tryz.func293 rfl Tryz.ntmps293 (lb rfl) fun w0 hpre => ?_
 refine go ?_
 exact jJ [] ⟨([110, 47] ++ s), (by simp only [if_true, SB]; (repeat (first | rw [if_pos (by omega)] | rw [if_neg (by omega)])); all_goals (first | rfl | simp only [SB])), (by first | omega | (simp only [LE]; omega)), rfl, rfl⟩

theorem N_nameOk (key : Str) (hkey : key.length ≤ 1000000000000) :
   Ct Tryz.prog 291 [str key] ([]) (fun _ => True) (fun v A' => ∃ r0, nameOk key = r0 ∧ v = .bool r0 ∧ A' = []) := by
 refine Ct.intro Tryz.func291 rfl Tryz.ntmps291 (lb rfl) fun w0 hpre => ?_
 refine go ?_
 refine jL (fun k_ e_ L_ => ∃ j : Nat, (j ≤ key.length) ∧ (∀ i, i < j → i < key.length → nameByte (key.getD i 0) = true) ∧ EL e_ [(0, str key), (6, iv (key.length : Int)), (7, nv j)] ∧ L_ = [] ∧ k_ = key.length - j) _ ⟨0, by omega, (fun i hi => absurd hi (Nat.not_lt_zero i)), EL.go, rfl, rfl⟩ ?_
 rintro _ _ _ ⟨j, hj, hN, ⟨_, rfl⟩, rfl, rfl⟩
 refine go ?_
 by_cases h_1 : ((j : Nat) : Int) < (key.length : Int)
 · refine go ?_
   have hu_2 := UInt8.toNat_lt (key.getD j 0)
   refine go ?_
   by_cases h_3 : 97 ≤ ((key.getD j 0).toNat : Int)
   · refine go ?_
     by_cases h_4 : ((key.getD j 0).toNat : Int) ≤ 122
     · refine go ?_
       refine jV (key.length - (j + 1)) (by omega) ⟨j + 1, by omega, (fun i hi hl => if h : i = j then h ▸ (by simp only [nameByte, Bool.and_eq_true, Bool.and_eq_false_iff, Bool.or_eq_true, Bool.or_eq_false_iff, decide_eq_true_eq, decide_eq_false_iff_not, Bool.not_eq_true', Bool.not_eq_false']; omega : nameByte (key.getD j 0) = true) else hN i (by omega) hl), EL.go, rfl, rfl⟩
     refine go ?_
     by_cases h_5 : 48 ≤ ((key.getD j 0).toNat : Int)
     · refine go ?_
       by_cases h_6 : ((key.getD j 0).toNat : Int) ≤ 57
       · refine go ?_
         refine jV (key.length - (j + 1)) (by omega) ⟨j + 1, by omega, (fun i hi hl => if h : i = j then h ▸ (by simp only [nameByte, Bool.and_eq_true, Bool.and_eq_false_iff, Bool.or_eq_true, Bool.or_eq_false_iff, decide_eq_true_eq, decide_eq_false_iff_not, Bool.not_eq_true', Bool.not_eq_false']; omega : nameByte (key.getD j 0) = true) else hN i (by omega) hl), EL.go, rfl, rfl⟩
       refine go ?_
       by_cases h_7 : ((key.getD j 0).toNat : Int) = 46
       · refine go ?_
         refine jV (key.length - (j + 1)) (by omega) ⟨j + 1, by omega, (fun i hi hl => if h : i = j then h ▸ (by simp only [nameByte, Bool.and_eq_true, Bool.and_eq_false_iff, Bool.or_eq_true, Bool.or_eq_false_iff, decide_eq_true_eq, decide_eq_false_iff_not, Bool.not_eq_true', Bool.not_eq_false']; omega : nameByte (key.getD j 0) = true) else hN i (by omega) hl), EL.go, rfl, rfl⟩
       refine go ?_
       by_cases h_8 : ((key.getD j 0).toNat : Int) = 45
       · refine go ?_
         refine jV (key.length - (j + 1)) (by omega) ⟨j + 1, by omega, (fun i hi hl => if h : i = j then h ▸ (by simp only [nameByte, Bool.and_eq_true, Bool.and_eq_false_iff, Bool.or_eq_true, Bool.or_eq_false_iff, decide_eq_true_eq, decide_eq_false_iff_not, Bool.not_eq_true', Bool.not_eq_false']; omega : nameByte (key.getD j 0) = true) else hN i (by omega) hl), EL.go, rfl, rfl⟩
       refine go ?_
       refine jE (.inl rfl) rfl (jC (v := .bool false) rfl) (List.nil_sublist _) ?_
       refine ⟨_, ?_, rfl, rfl⟩
       rw [nameOk_bad (j := j) (by omega) (by simp only [nameByte, Bool.and_eq_true, Bool.and_eq_false_iff, Bool.or_eq_true, Bool.or_eq_false_iff, decide_eq_true_eq, decide_eq_false_iff_not, Bool.not_eq_true', Bool.not_eq_false']; omega)]
     refine go ?_
     by_cases h_9 : ((key.getD j 0).toNat : Int) = 46
     · refine go ?_
       refine jV (key.length - (j + 1)) (by omega) ⟨j + 1, by omega, (fun i hi hl => if h : i = j then h ▸ (by simp only [nameByte, Bool.and_eq_true, Bool.and_eq_false_iff, Bool.or_eq_true, Bool.or_eq_false_iff, decide_eq_true_eq, decide_eq_false_iff_not, Bool.not_eq_true', Bool.not_eq_false']; omega : nameByte (key.getD j 0) = true) else hN i (by omega) hl), EL.go, rfl, rfl⟩
     refine go ?_
     by_cases h_10 : ((key.getD j 0).toNat : Int) = 45
     · refine go ?_
       refine jV (key.length - (j + 1)) (by omega) ⟨j + 1, by omega, (fun i hi hl => if h : i = j then h ▸ (by simp only [nameByte, Bool.and_eq_true, Bool.and_eq_false_iff, Bool.or_eq_true, Bool.or_eq_false_iff, decide_eq_true_eq, decide_eq_false_iff_not, Bool.not_eq_true', Bool.not_eq_false']; omega : nameByte (key.getD j 0) = true) else hN i (by omega) hl), EL.go, rfl, rfl⟩
     refine go ?_
     refine jE (.inl rfl) rfl (jC (v := .bool false) rfl) (List.nil_sublist _) ?_
     refine ⟨_, ?_, rfl, rfl⟩
     rw [nameOk_bad (j := j) (by omega) (by simp only [nameByte, Bool.and_eq_true, Bool.and_eq_false_iff, Bool.or_eq_true, Bool.or_eq_false_iff, decide_eq_true_eq, decide_eq_false_iff_not, Bool.not_eq_true', Bool.not_eq_false']; omega)]
   refine go ?_
   by_cases h_11 : 48 ≤ ((key.getD j 0).toNat : Int)
   · refine go ?_
     by_cases h_12 : ((key.getD j 0).toNat : Int) ≤ 57
     · refine go ?_
       refine jV (key.length - (j + 1)) (by omega) ⟨j + 1, by omega, (fun i hi hl => if h : i = j then h ▸ (by simp only [nameByte, Bool.and_eq_true, Bool.and_eq_false_iff, Bool.or_eq_true, Bool.or_eq_false_iff, decide_eq_true_eq, decide_eq_false_iff_not, Bool.not_eq_true', Bool.not_eq_false']; omega : nameByte (key.getD j 0) = true) else hN i (by omega) hl), EL.go, rfl, rfl⟩
     refine go ?_
     by_cases h_13 : ((key.getD j 0).toNat : Int) = 46
     · refine go ?_
       refine jV (key.length - (j + 1)) (by omega) ⟨j + 1, by omega, (fun i hi hl => if h : i = j then h ▸ (by simp only [nameByte, Bool.and_eq_true, Bool.and_eq_false_iff, Bool.or_eq_true, Bool.or_eq_false_iff, decide_eq_true_eq, decide_eq_false_iff_not, Bool.not_eq_true', Bool.not_eq_false']; omega : nameByte (key.getD j 0) = true) else hN i (by omega) hl), EL.go, rfl, rfl⟩
     refine go ?_
     by_cases h_14 : ((key.getD j 0).toNat : Int) = 45
     · refine go ?_
       refine jV (key.length - (j + 1)) (by omega) ⟨j + 1, by omega, (fun i hi hl => if h : i = j then h ▸ (by simp only [nameByte, Bool.and_eq_true, Bool.and_eq_false_iff, Bool.or_eq_true, Bool.or_eq_false_iff, decide_eq_true_eq, decide_eq_false_iff_not, Bool.not_eq_true', Bool.not_eq_false']; omega : nameByte (key.getD j 0) = true) else hN i (by omega) hl), EL.go, rfl, rfl⟩
     refine go ?_
     refine jE (.inl rfl) rfl (jC (v := .bool false) rfl) (List.nil_sublist _) ?_
     refine ⟨_, ?_, rfl, rfl⟩
     rw [nameOk_bad (j := j) (by omega) (by simp only [nameByte, Bool.and_eq_true, Bool.and_eq_false_iff, Bool.or_eq_true, Bool.or_eq_false_iff, decide_eq_true_eq, decide_eq_false_iff_not, Bool.not_eq_true', Bool.not_eq_false']; omega)]
   refine go ?_
   by_cases h_15 : ((key.getD j 0).toNat : Int) = 46
   · refine go ?_
     refine jV (key.length - (j + 1)) (by omega) ⟨j + 1, by omega, (fun i hi hl => if h : i = j then h ▸ (by simp only [nameByte, Bool.and_eq_true, Bool.and_eq_false_iff, Bool.or_eq_true, Bool.or_eq_false_iff, decide_eq_true_eq, decide_eq_false_iff_not, Bool.not_eq_true', Bool.not_eq_false']; omega : nameByte (key.getD j 0) = true) else hN i (by omega) hl), EL.go, rfl, rfl⟩
   refine go ?_
   by_cases h_16 : ((key.getD j 0).toNat : Int) = 45
   · refine go ?_
     refine jV (key.length - (j + 1)) (by omega) ⟨j + 1, by omega, (fun i hi hl => if h : i = j then h ▸ (by simp only [nameByte, Bool.and_eq_true, Bool.and_eq_false_iff, Bool.or_eq_true, Bool.or_eq_false_iff, decide_eq_true_eq, decide_eq_false_iff_not, Bool.not_eq_true', Bool.not_eq_false']; omega : nameByte (key.getD j 0) = true) else hN i (by omega) hl), EL.go, rfl, rfl⟩
   refine go ?_
   refine jE (.inl rfl) rfl (jC (v := .bool false) rfl) (List.nil_sublist _) ?_
   refine ⟨_, ?_, rfl, rfl⟩
   rw [nameOk_bad (j := j) (by omega) (by simp only [nameByte, Bool.and_eq_true, Bool.and_eq_false_iff, Bool.or_eq_true, Bool.or_eq_false_iff, decide_eq_true_eq, decide_eq_false_iff_not, Bool.not_eq_true', Bool.not_eq_false']; omega)]
 refine go ?_
 refine jN [] (C_within (key.length : Int) 1 12) ?_
 refine go ?_
 refine jE (.inl rfl) rfl (jC (v := .bool (decide (1 ≤ (key.length : Int)) && decide ((key.length : Int) ≤ 12))) rfl) (List.nil_sublist _) ?_
 refine ⟨_, ?_, rfl, rfl⟩
 rw [nameOk_good (j := j) (by omega) hN]
 congr 1 <;> exact decide_eq_decide.2 (by omega)

theorem N_sNameOk (key : Str) (hkey : key.length ≤ 1000000000000) :
   Ct Tryz.prog 311 [str key] ([]) (fun _ => True) (fun v A' => ∃ r0, nameOk key = r0 ∧ v = .bool r0 ∧ A' = []) := by
 refine Ct.intro Tryz.func311 rfl Tryz.ntmps311 (lb rfl) fun w0 hpre => ?_
 refine go ?_
 refine jL (fun k_ e_ L_ => ∃ j : Nat, (j ≤ key.length) ∧ (∀ i, i < j → i < key.length → nameByte (key.getD i 0) = true) ∧ EL e_ [(0, str key), (3, nv j)] ∧ L_ = [] ∧ k_ = key.length - j) _ ⟨0, by omega, (fun i hi => absurd hi (Nat.not_lt_zero i)), EL.go, rfl, rfl⟩ ?_
 rintro _ _ _ ⟨j, hj, hN, ⟨_, rfl⟩, rfl, rfl⟩
 refine go ?_
 by_cases h_1 : ((j : Nat) : Int) < (key.length : Int)
 · refine go ?_
   have hu_2 := UInt8.toNat_lt (key.getD j 0)
   refine go ?_
   refine jK (PO.convI (c := ((key.getD j 0).toNat : Int)) kU kW rfl (wr (by omega))) ?_
   refine jN [] (C_l01In ((key.getD j 0).toNat : Int) 97 122) ?_
   refine go ?_
   rcases Bool.eq_false_or_eq_true (decide (97 ≤ ((key.getD j 0).toNat : Int)) && decide (((key.getD j 0).toNat : Int) ≤ 122)) with h_3 | h_3
   · have h_3d := h_3
     simp only [Bool.and_eq_true, Bool.and_eq_false_iff, decide_eq_true_eq, decide_eq_false_iff_not] at h_3d
     refine go ?_
     refine jV (key.length - (j + 1)) (by omega) ⟨j + 1, by omega, (fun i hi hl => if h : i = j then h ▸ (by simp only [nameByte, Bool.and_eq_true, Bool.and_eq_false_iff, Bool.or_eq_true, Bool.or_eq_false_iff, decide_eq_true_eq, decide_eq_false_iff_not, Bool.not_eq_true', Bool.not_eq_false']; omega : nameByte (key.getD j 0) = true) else hN i (by omega) hl), EL.go, rfl, rfl⟩
   have h_3d := h_3
   simp only [Bool.and_eq_true, Bool.and_eq_false_iff, decide_eq_true_eq, decide_eq_false_iff_not] at h_3d
   refine go ?_
   refine jW rfl rfl rfl (cB (cN h_3)) (jm (LO.pure (PO.convI (c := ((key.getD j 0).toNat : Int)) kU kW rfl (wr (by omega))))) ?_
   rintro _ _ ⟨rfl, rfl⟩
   refine jW rfl rfl rfl (cB (cN h_3)) (jO [] Tryz.call153 rfl (C_l01In ((key.getD j 0).toNat : Int) 48 57) rfl (fun _ _ => trivial)) ?_
   rintro _ _ ⟨_, ⟨rfl, rfl⟩, rfl⟩
   refine go ?_
   rcases Bool.eq_false_or_eq_true (decide (48 ≤ ((key.getD j 0).toNat : Int)) && decide (((key.getD j 0).toNat : Int) ≤ 57)) with h_4 | h_4
   · have h_4d := h_4
     simp only [Bool.and_eq_true, Bool.and_eq_false_iff, decide_eq_true_eq, decide_eq_false_iff_not] at h_4d
     refine go ?_
     refine jV (key.length - (j + 1)) (by omega) ⟨j + 1, by omega, (fun i hi hl => if h : i = j then h ▸ (by simp only [nameByte, Bool.and_eq_true, Bool.and_eq_false_iff, Bool.or_eq_true, Bool.or_eq_false_iff, decide_eq_true_eq, decide_eq_false_iff_not, Bool.not_eq_true', Bool.not_eq_false']; omega : nameByte (key.getD j 0) = true) else hN i (by omega) hl), EL.go, rfl, rfl⟩
   have h_4d := h_4
   simp only [Bool.and_eq_true, Bool.and_eq_false_iff, decide_eq_true_eq, decide_eq_false_iff_not] at h_4d
   refine go ?_
   by_cases h_5 : ((key.getD j 0).toNat : Int) = 46
   · refine go ?_
     refine jV (key.length - (j + 1)) (by omega) ⟨j + 1, by omega, (fun i hi hl => if h : i = j then h ▸ (by simp only [nameByte, Bool.and_eq_true, Bool.and_eq_false_iff, Bool.or_eq_true, Bool.or_eq_false_iff, decide_eq_true_eq, decide_eq_false_iff_not, Bool.not_eq_true', Bool.not_eq_false']; omega : nameByte (key.getD j 0) = true) else hN i (by omega) hl), EL.go, rfl, rfl⟩
   refine go ?_
   by_cases h_6 : ((key.getD j 0).toNat : Int) = 45
   · refine go ?_
     refine jV (key.length - (j + 1)) (by omega) ⟨j + 1, by omega, (fun i hi hl => if h : i = j then h ▸ (by simp only [nameByte, Bool.and_eq_true, Bool.and_eq_false_iff, Bool.or_eq_true, Bool.or_eq_false_iff, decide_eq_true_eq, decide_eq_false_iff_not, Bool.not_eq_true', Bool.not_eq_false']; omega : nameByte (key.getD j 0) = true) else hN i (by omega) hl), EL.go, rfl, rfl⟩
   refine go ?_
   refine jE (.inl rfl) rfl (jC (v := .bool false) rfl) (List.nil_sublist _) ?_
   refine ⟨_, ?_, rfl, rfl⟩
   rw [nameOk_bad (j := j) (by omega) (by simp only [nameByte, Bool.and_eq_true, Bool.and_eq_false_iff, Bool.or_eq_true, Bool.or_eq_false_iff, decide_eq_true_eq, decide_eq_false_iff_not, Bool.not_eq_true', Bool.not_eq_false']; omega)]
 refine go ?_
 refine jN [] (C_l01In (key.length : Int) 1 12) ?_
 refine go ?_
 refine jE (.inl rfl) rfl (jC (v := .bool (decide (1 ≤ (key.length : Int)) && decide ((key.length : Int) ≤ 12))) rfl) (List.nil_sublist _) ?_
 refine ⟨_, ?_, rfl, rfl⟩
 rw [nameOk_good (j := j) (by omega) hN]
 congr 1 <;> exact decide_eq_decide.2 (by omega)
end Go.Proofs.YthlfmbbaomdciaaGreatDoor
namespace Go.Proofs.YthlfmbbaomdciaaGreatDoor
open Go Go.RowKit
def underL (p : Str) : List Cell → List Str → List Str
 | [], out => out
 | c :: s, out => if prefixB c.1 p = true then underL p s (out ++ [c.1]) else underL p s out
theorem underL_app (p : Str) : ∀ (s : List Cell) (out : List Str), underL p s out = out ++ keysUnder s p
 | [], out => by simp [underL, keysUnder]
 | c :: s, out => by
   unfold underL
   cases h : prefixB c.1 p with
   | true => rw [if_pos rfl, underL_app p s]; simp [keysUnder, h]
   | false => rw [if_neg (by simp), underL_app p s]; simp [keysUnder, h]
theorem underL_nil (p : Str) (s : List Cell) : underL p s [] = keysUnder s p := by rw [underL_app]; rfl
theorem begins_eq (s p : Str) : prefixB s p = (decide ((p.length : Int) ≤ s.length) && decide (s.take p.length = p)) := by
 unfold prefixB
 congr 1
 exact decide_eq_decide.2 (by omega)
theorem isKid_short {k : Str} (h : ¬ (5 : Int) ≤ (k.length : Int)) : MS.isKid k = false := by
 unfold MS.isKid
 rw [decide_eq_false (by omega)]; rfl
theorem isKid_short' {k : Str} (h : (k.length : Int) < 5) : MS.isKid k = false := isKid_short (by omega)
theorem isKid_yes {k : Str} (h : (5 : Int) ≤ (k.length : Int)) (h2 : k.drop (k.length - 2) = [47, 112]) : MS.isKid k = true := by
 unfold MS.isKid
 rw [decide_eq_true (by omega), decide_eq_true h2]; rfl
theorem isKid_no {k : Str} (h2 : ¬ k.drop (k.length - 2) = [47, 112]) : MS.isKid k = false := by
 unfold MS.isKid
 rw [decide_eq_false h2, Bool.and_false]
theorem cutSuf_kid {k u : Str} {b : Bool} (h : cutSuf k [47, 112] = (u, b)) (h5 : (5 : Int) ≤ (k.length : Int)) : MS.isKid k = b := by
 unfold cutSuf suffixB at h
 simp only [List.length_cons, List.length_nil] at h
 rw [decide_eq_true (by omega), Bool.true_and] at h
 by_cases h2 : k.drop (k.length - (0 + 1 + 1)) = [47, 112]
 · rw [isKid_yes h5 h2]
   simp [h2] at h
   exact h.2.symm
 · rw [isKid_no h2]
   simp [h2] at h
   exact h.2.symm
theorem cutSuf_kidT {k u : Str} (h : cutSuf k [47, 112] = (u, true)) (h5 : (5 : Int) ≤ (k.length : Int)) : k.take (k.length - 2) = u ∧ 3 ≤ u.length := by
 unfold cutSuf at h
 split at h
 · simp only [Prod.mk.injEq, and_true] at h
   refine ⟨h, ?_⟩
   rw [← h, List.length_take]
   simp only [List.length_cons, List.length_nil]
   omega
 · simp at h
theorem drop_take2 (k : Str) (n : Nat) : (k.take n).drop 2 = (k.drop 2).take (n - 2) := by rw [List.drop_take]
end Go.Proofs.YthlfmbbaomdciaaGreatDoor
