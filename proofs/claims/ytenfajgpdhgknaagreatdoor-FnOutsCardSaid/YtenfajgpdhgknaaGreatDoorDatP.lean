/-
  Texts of the walk, joined: what each one proves stands at its theorems.
-/
import Derived.Test.YtenfajgpdhgknaaGreatDoorDatF
import Derived.Lib.MinMax
set_option linter.unusedSimpArgs false
set_option linter.unusedVariables false
set_option linter.unnecessarySimpa false
namespace Go.Proofs.YtenfajgpdhgknaaGreatDoor
open Go Go.RowKit

theorem unhexL_hexB' : ∀ r : Str, unhexL (hexB r) = some r
  | [] => rfl
  | c :: r => by
    have hc := UInt8.toNat_lt c
    have hv : ∀ n : Fin 16, hexVal (hexFig n.val) = some n.val := by decide +kernel
    rw [hexB, unhexL, hv ⟨c.toNat / 16, by omega⟩, hv ⟨c.toNat % 16, by omega⟩, unhexL_hexB' r]
    simp only
    rw [show 16 * (c.toNat / 16) + c.toNat % 16 = c.toNat by omega, UInt8.ofNat_toNat]
theorem getKey_mid_ne {key k2 val : Str} (h : ¬ key = k2) : ∀ (a b : List Cell), getKey (a ++ (key, val) :: b) k2 = getKey (a ++ b) k2
  | [], b => by rw [List.nil_append, List.nil_append, getKey, if_neg h]
  | c :: a, b => by
    rw [List.cons_append, List.cons_append, getKey, getKey, getKey_mid_ne h a b]
theorem getKey_filter_ne {key k2 : Str} (h : ¬ key = k2) : ∀ s : List Cell, getKey (s.filter (fun c => !decide (c.1 = key))) k2 = getKey s k2
  | [] => rfl
  | c :: s => by
    by_cases hc : c.1 = key
    · rw [List.filter_cons_of_neg (by simp [hc]), getKey_filter_ne h s, getKey, if_neg (by rw [hc]; exact h)]
    · rw [List.filter_cons_of_pos (by simp [hc]), getKey, getKey, getKey_filter_ne h s]
theorem getKey_put_ne {s : List Cell} {key k2 val : Str} (h : ¬ key = k2) : getKey (putKey s key val) k2 = getKey s k2 := by
  unfold putKey
  split
  · rfl
  · simp only
    split
    · exact getKey_filter_ne h s
    · unfold insertAt
      rw [getKey_mid_ne h, List.take_append_drop, getKey_filter_ne h s]
theorem getKey_absent {key : Str} : ∀ {s : List Cell}, (∀ c ∈ s, ¬ c.1 = key) → getKey s key = []
  | [], _ => rfl
  | c :: s, h => by rw [getKey, if_neg (h c (List.mem_cons_self ..)), getKey_absent fun d hd => h d (List.mem_cons_of_mem _ hd)]
theorem getKey_put_nil {s : List Cell} {key : Str} (hk : keyOk key = true) : getKey (putKey s key []) key = [] := by
  rw [putKey_nil hk (by simp) rfl]
  exact getKey_absent fun c hc => by simpa using (List.mem_filter.1 hc).2
theorem numOf_nil : numOf [] = 0 := by decide +kernel
theorem numKey {m m2 : MS} {key : Str} {n : Int} (e : m.num key = (m2, n)) : m2.s = m.s ∧ n = numOf (getKey m.s key) := by
  exact ⟨(show m.s = m2.s from congrArg (fun p => p.1.s) e).symm, (congrArg Prod.snd e).symm⟩
theorem setNum_s {m : MS} {key : Str} {n : Int} (h0 : 1 ≤ n) (h1 : n ≤ 999) : (m.setNum key n).s = putKey m.s key (dec n) := by
  show putKey m.s key _ = _
  rw [if_pos ⟨h0, h1⟩]
theorem getNum_put {s : List Cell} {key : Str} {n : Int} (hk : keyOk key = true) (h0 : 1 ≤ n) (h1 : n ≤ 999) : numOf (getKey (putKey s key (dec n)) key) = n := by
  obtain ⟨hn, hne⟩ := numOf_dec h0 h1
  have hl := dec_len21 (n := n) (by omega) (by omega)
  rw [getKey_put hk hne (by omega), hn]

/- names -/
theorem nameByte_key {c : UInt8} (h : nameByte c = true) : keyByte c = true := by
  unfold nameByte at h
  unfold keyByte
  simp only [Bool.or_eq_true, Bool.and_eq_true, decide_eq_true_eq, Bool.not_eq_true', decide_eq_false_iff_not] at h ⊢
  omega
theorem keyOk_name {name : Str} (h : nameOk name = true) : keyOk (([110, 47] : Str) ++ name) = true := by
  unfold nameOk at h
  simp only [Bool.and_eq_true, decide_eq_true_eq, List.all_eq_true] at h
  unfold keyOk
  simp only [Bool.and_eq_true, decide_eq_true_eq, List.all_eq_true, List.length_append, List.length_cons, List.length_nil]
  refine ⟨⟨fun x hx => ?_, by omega⟩, by omega⟩
  rcases List.mem_append.1 hx with hx | hx
  · simp only [List.mem_cons, List.not_mem_nil, or_false] at hx
    rcases hx with rfl | rfl <;> decide
  · exact nameByte_key (h.1.1 x hx)
theorem name_ne {name t : Str} {id : Int} : ¬ keyNum ([105, 47] : Str) id t = ([110, 47] : Str) ++ name := by
  unfold keyNum
  simp
theorem name_ne' {name t : Str} {id : Int} : ¬ ([110, 47] : Str) ++ name = keyNum ([105, 47] : Str) id t := fun h => name_ne h.symm
theorem fileOf_eq {m m2 : MS} {name : Str} {f : Int} (e : m.fileOf name = (m2, f)) : m2.s = m.s ∧ (nameOk name = true → f = numOf (getKey m.s (([110, 47] : Str) ++ name))) ∧ (nameOk name = false → f = 0) ∧ 0 ≤ f ∧ f ≤ 999 := by
  unfold MS.fileOf at e
  split at e
  · rename_i h
    obtain ⟨h1, h2⟩ := numKey e
    have := numOf_lo (getKey m.s (([110, 47] : Str) ++ name))
    exact ⟨h1, fun _ => h2, fun h0 => absurd (h0.symm.trans h) (by simp), by omega, by omega⟩
  · rename_i h
    simp only [Prod.mk.injEq] at e
    exact ⟨by rw [← e.1], fun h0 => absurd h0 h, fun _ => e.2.symm, by omega, by omega⟩
theorem makeName_cases {m x : MS} {name : Str} {id n : Int} (e : m.makeName name = (x, id, n)) :
    (n ≠ 0 ∧ id = 0 ∧ x.s = m.s) ∨ (n = 0 ∧ nameOk name = true ∧ 1 ≤ id ∧ id ≤ 20 ∧ x.s = putKey (putKey (putKey m.s ([99, 47, 102, 105, 108, 101] : Str) (dec id)) (([110, 47] : Str) ++ name) (dec id)) (keyNum ([105, 47] : Str) id ([47, 108] : Str)) (dec 1)) := by
  unfold MS.makeName at e
  split at e
  · rename_i hn
    rcases hf : m.fileOf name with ⟨m1, f⟩
    rw [hf] at e
    obtain ⟨hs1, -, -, -, -⟩ := fileOf_eq hf
    simp only at e
    split at e
    · rcases hq : m1.num ([99, 47, 102, 105, 108, 101] : Str) with ⟨m2, q⟩
      rw [hq] at e
      obtain ⟨hs2, hq2⟩ := numKey hq
      have hq3 := numOf_lo (getKey m1.s ([99, 47, 102, 105, 108, 101] : Str))
      simp only at e
      split at e
      · simp only [Prod.mk.injEq] at e
        obtain ⟨rfl, rfl, rfl⟩ := e
        exact .inl ⟨by decide, rfl, hs2.trans hs1⟩
      · rcases hb : m2.bump ([99, 47, 102, 105, 108, 101] : Str) with ⟨m3, i⟩
        rw [hb] at e
        simp only [Prod.mk.injEq] at e
        obtain ⟨rfl, rfl, rfl⟩ := e
        unfold MS.bump at hb
        rcases hr : m2.num ([99, 47, 102, 105, 108, 101] : Str) with ⟨m4, r⟩
        obtain ⟨hs4, hr2⟩ := numKey hr
        rw [hs2] at hr2
        rw [hr] at hb
        simp only at hb
        rw [if_neg (by omega)] at hb
        simp only [Prod.mk.injEq] at hb
        obtain ⟨rfl, rfl⟩ := hb
        refine .inr ⟨rfl, hn, by omega, by omega, ?_⟩
        rw [setNum_s (by omega) (by omega), setNum_s (by omega) (by omega), setNum_s (by omega) (by omega), hs4, hs2, hs1]
    · simp only [Prod.mk.injEq] at e
      obtain ⟨rfl, rfl, rfl⟩ := e
      exact .inl ⟨by decide, rfl, hs1⟩
  · simp only [Prod.mk.injEq] at e
    obtain ⟨rfl, rfl, rfl⟩ := e
    exact .inl ⟨by decide, rfl, rfl⟩
theorem pl_make_no {m x : MS} {name : Str} {id n : Int} (e : m.makeName name = (x, id, n)) (h : ¬ n = 0) : id = 0 ∧ x.s = m.s := by
  rcases makeName_cases e with ⟨_, h1, h2⟩ | ⟨h1, _⟩
  · exact ⟨h1, h2⟩
  · exact absurd h1 h
theorem pl_make_yes {m x y z : MS} {name : Str} {id n f a b : Int} (e : m.makeName name = (x, id, n)) (h : n = 0) (ef : x.fileOf name = (y, f)) (em : x.makeName name = (z, a, b)) : f = id ∧ b = 1 := by
  rcases makeName_cases e with ⟨h1, _⟩ | ⟨_, hn, h1, h2, hs⟩
  · exact absurd h h1
  · have hk := keyOk_name hn
    obtain ⟨-, hf, -, -, -⟩ := fileOf_eq ef
    have hf1 : f = id := by
      rw [hf hn, hs, getKey_put_ne name_ne, getNum_put hk h1 (by omega)]
    refine ⟨hf1, ?_⟩
    unfold MS.makeName at em
    rw [if_pos hn, ef] at em
    simp only at em
    rw [if_neg (by omega)] at em
    simp only [Prod.mk.injEq] at em
    exact em.2.2.symm
theorem pl_make_base {b c d : MS} {one two x y : Int} (e0 : MS.empty = b) (e1 : b.makeName ([120] : Str) = (c, one, x)) (e2 : c.makeName ([121] : Str) = (d, two, y)) : one = 1 ∧ two = 2 := by
  subst e0
  have h1 : (MS.makeName MS.empty ([120] : Str)).2.1 = 1 := by decide +kernel
  have h2 : ((MS.makeName MS.empty ([120] : Str)).1.makeName ([121] : Str)).2.1 = 2 := by decide +kernel
  rw [e1] at h1 h2
  rw [show (c, one, x).1 = c from rfl, e2] at h2
  exact ⟨h1, h2⟩

theorem linkName_cases {m x : MS} {p q : Str} {n : Int} (e : m.linkName p q = (x, n)) :
    n ≠ 0 ∨ (n = 0 ∧ nameOk p = true ∧ nameOk q = true ∧ ∃ (id : Int) (v : Str), 1 ≤ id ∧ id ≤ 999 ∧ id = numOf (getKey m.s (([110, 47] : Str) ++ p)) ∧ x.s = putKey (putKey m.s (([110, 47] : Str) ++ q) (dec id)) (keyNum ([105, 47] : Str) id ([47, 108] : Str)) v) := by
  unfold MS.linkName at e
  split at e
  · rename_i hp
    split at e
    · rename_i hq
      rcases hf : m.fileOf p with ⟨m1, f⟩
      rw [hf] at e
      obtain ⟨hs1, hf1, -, hf2, hf3⟩ := fileOf_eq hf
      simp only at e
      split at e
      · simp only [Prod.mk.injEq] at e; exact .inl (by omega)
      · rcases hg : m1.fileOf q with ⟨m2, g⟩
        rw [hg] at e
        obtain ⟨hs2, -, -, -, -⟩ := fileOf_eq hg
        simp only at e
        split at e
        · rcases hl : m2.num (keyNum ([105, 47] : Str) f ([47, 108] : Str)) with ⟨m3, l⟩
          rw [hl] at e
          obtain ⟨hs3, hl3⟩ := numKey hl
          simp only at e
          split at e
          · simp only [Prod.mk.injEq] at e; exact .inl (by omega)
          · simp only [Prod.mk.injEq] at e
            obtain ⟨rfl, rfl⟩ := e
            refine .inr ⟨rfl, hp, hq, f, (if 1 ≤ l + 1 ∧ l + 1 ≤ 999 then dec (l + 1) else []), by omega, by omega, hf1 hp, ?_⟩
            show putKey (MS.setNum m3 _ f).s _ _ = _
            rw [setNum_s (by omega) (by omega), hs3, hs2, hs1]
        · simp only [Prod.mk.injEq] at e; exact .inl (by omega)
    · simp only [Prod.mk.injEq] at e; exact .inl (by omega)
  · simp only [Prod.mk.injEq] at e; exact .inl (by omega)
theorem pl_link {m x y z : MS} {p q : Str} {n i w : Int} (e : m.linkName p q = (x, n)) (e1 : x.fileOf q = (y, i)) (e2 : m.fileOf p = (z, w)) : n ≠ 0 ∨ i = w := by
  rcases linkName_cases e with h | ⟨_, hp, hq, id, v, h1, h2, h3, hs⟩
  · exact .inl h
  · right
    obtain ⟨-, hi, -, -, -⟩ := fileOf_eq e1
    obtain ⟨-, hw, -, -, -⟩ := fileOf_eq e2
    rw [hi hq, hs, getKey_put_ne name_ne, getNum_put (keyOk_name hq) h1 h2, hw hp, h3]
theorem wipeL_s {p : Str} : ∀ (l : List Str) (m : MS) (k : Str), (∀ x ∈ l, ¬ x = k) → getKey (MS.wipeL l m).s k = getKey m.s k
  | [], m, k, _ => rfl
  | x :: l, m, k, h => by
    rw [MS.wipeL, wipeL_s (p := p) l _ k fun y hy => h y (List.mem_cons_of_mem _ hy)]
    exact getKey_put_ne (h x (List.mem_cons_self ..))
theorem wipe_s {m : MS} {p k : Str} (h : prefixB k p = false) : getKey (m.wipe' p).s k = getKey m.s k := by
  unfold MS.wipe'
  show getKey (MS.wipeL (keysUnder m.s p) (m.under p).1).s k = _
  rw [wipeL_s (p := p)]
  · rfl
  · intro x hx hxk
    subst hxk
    unfold keysUnder at hx
    obtain ⟨c, hc, rfl⟩ := List.mem_map.1 hx
    rw [(List.mem_filter.1 hc).2] at h
    cases h
theorem unlink_cases {m x : MS} {name : Str} {n : Int} (e : m.unlinkName name = (x, n)) : (n ≠ 0 ∧ x.s = m.s) ∨ (n = 0 ∧ ∀ k : Str, (∀ t id, ¬ keyNum ([105, 47] : Str) id t = k) → prefixB k ([105, 47] : Str) = false → getKey x.s k = getKey (putKey m.s (([110, 47] : Str) ++ name) []) k) := by
  unfold MS.unlinkName at e
  split at e
  · rename_i hp
    rcases hf : m.fileOf name with ⟨m1, f⟩
    rw [hf] at e
    obtain ⟨hs1, hf1, -, hf2, hf3⟩ := fileOf_eq hf
    simp only at e
    split at e
    · simp only [Prod.mk.injEq] at e
      obtain ⟨rfl, rfl⟩ := e
      exact .inl ⟨by decide, hs1⟩
    · rcases hl : (m1.lay (([110, 47] : Str) ++ name) []).num (keyNum ([105, 47] : Str) f ([47, 108] : Str)) with ⟨m3, l⟩
      rw [hl] at e
      obtain ⟨hs3, hl3⟩ := numKey hl
      simp only at e
      split at e
      · simp only [Prod.mk.injEq] at e
        obtain ⟨rfl, rfl⟩ := e
        refine .inr ⟨rfl, fun k hk hk2 => ?_⟩
        show getKey (putKey m3.s _ _) k = _
        rw [getKey_put_ne (hk _ _), hs3]
        show getKey (putKey m1.s _ _) k = _
        rw [hs1]
      · simp only [Prod.mk.injEq] at e
        obtain ⟨rfl, rfl⟩ := e
        refine .inr ⟨rfl, fun k hk hk2 => ?_⟩
        rw [wipe_s, hs3]
        · show getKey (putKey m1.s _ _) k = _
          rw [hs1]
        · cases hpk : prefixB k (keyNum ([105, 47] : Str) f ([47] : Str)) with
          | false => rfl
          | true =>
            exfalso
            unfold prefixB at hpk hk2
            simp only [Bool.and_eq_true, decide_eq_true_eq, Bool.and_eq_false_iff, decide_eq_false_iff_not] at hpk hk2
            obtain ⟨ha, hb⟩ := hpk
            have hlen : 2 ≤ (keyNum ([105, 47] : Str) f ([47] : Str)).length := by unfold keyNum; simp only [List.length_append, List.length_cons, List.length_nil]; omega
            rcases hk2 with hk2 | hk2
            · simp only [List.length_cons, List.length_nil] at hk2; omega
            · apply hk2
              have h3 : (k.take (keyNum ([105, 47] : Str) f ([47] : Str)).length).take 2 = k.take 2 := by rw [List.take_take, Nat.min_eq_left hlen]
              show k.take 2 = _
              rw [← h3, hb]
              unfold keyNum
              rfl
  · simp only [Prod.mk.injEq] at e
    obtain ⟨rfl, rfl⟩ := e
    exact .inl ⟨by decide, rfl⟩
theorem pl_unlink {m x : MS} {name : Str} {n : Int} (e : m.unlinkName name = (x, n)) : n = 0 ∨ x.s = m.s := by
  rcases unlink_cases e with ⟨_, h⟩ | ⟨h, _⟩
  · exact .inr h
  · exact .inl h
theorem pl_link_base {b m1 m2 m3 m4 y : MS} {id x n2 n3 n4 other : Int} {g : List Str} (e0 : MS.empty = b) (e1 : b.makeName ([120] : Str) = (m1, id, x)) (e2 : m1.linkName ([120] : Str) ([121] : Str) = (m2, n2)) (e3 : m2.unlinkName ([120] : Str) = (m3, n3))
    (e4 : m3.fileOf ([121] : Str) = (y, other)) (e5 : m3.unlinkName ([121] : Str) = (m4, n4)) (e6 : keysUnder m4.s ([105, 47] : Str) = g) : other = id ∧ id = 1 ∧ g.length = 0 := by
  subst e0
  have h1 : (MS.makeName MS.empty ([120] : Str)).2.1 = 1 := by decide +kernel
  have h2 : ((((MS.makeName MS.empty ([120] : Str)).1.linkName ([120] : Str) ([121] : Str)).1.unlinkName ([120] : Str)).1.fileOf ([121] : Str)).2 = 1 := by decide +kernel
  have h3 : (keysUnder ((((MS.makeName MS.empty ([120] : Str)).1.linkName ([120] : Str) ([121] : Str)).1.unlinkName ([120] : Str)).1.unlinkName ([121] : Str)).1.s ([105, 47] : Str)).length = 0 := by decide +kernel
  simp only [e1, e2, e3, e4, e5, e6] at h1 h2 h3
  exact ⟨by omega, h1, h3⟩
theorem n_nopre (name : Str) : prefixB (([110, 47] : Str) ++ name) ([105, 47] : Str) = false := by
  unfold prefixB
  simp
theorem name_inj {a b : Str} (h : ¬ a = b) : ¬ ([110, 47] : Str) ++ a = ([110, 47] : Str) ++ b := by simpa using h
theorem pl_rename {m x y1 y2 y3 y4 : MS} {p q : Str} {n old was now left : Int} (e : m.renameName p q = (x, n)) (e1 : m.fileOf p = (y1, old)) (e2 : m.fileOf q = (y2, was)) (e3 : x.fileOf q = (y3, now)) (e4 : x.fileOf p = (y4, left)) :
    n ≠ 0 ∨ (now = old ∧ (left = 0 ∨ was = old)) := by
  unfold MS.renameName at e
  split at e
  · rename_i hp
    split at e
    · rename_i hq
      rw [e1] at e
      obtain ⟨hs1, hf1, -, hf2, hf3⟩ := fileOf_eq e1
      obtain ⟨-, hw1, -, hw2, hw3⟩ := fileOf_eq e2
      obtain ⟨-, hn1, -, -, -⟩ := fileOf_eq e3
      obtain ⟨-, hl1, -, -, -⟩ := fileOf_eq e4
      simp only at e
      split at e
      · simp only [Prod.mk.injEq] at e; exact .inl (by omega)
      · rcases hg : y1.fileOf q with ⟨m2, g⟩
        rw [hg] at e
        obtain ⟨hs2, hg1, -, -, -⟩ := fileOf_eq hg
        have hgw : g = was := by rw [hg1 hq, hs1, ← hw1 hq]
        simp only at e
        split at e
        · simp only [Prod.mk.injEq] at e
          obtain ⟨rfl, rfl⟩ := e
          right
          exact ⟨by rw [hn1 hq, hs2, hs1, ← hw1 hq]; omega, .inr (by omega)⟩
        · rename_i hgo
          have hpq : ¬ p = q := fun h => by subst h; exact hgo (by rw [hgw, hw1 hp, ← hf1 hp])
          have fin : ∀ m3 : MS, x.s = putKey (putKey m3.s (([110, 47] : Str) ++ q) (dec old)) (([110, 47] : Str) ++ p) [] → now = old ∧ left = 0 := fun m3 hx => by
            refine ⟨?_, ?_⟩
            · rw [hn1 hq, hx, getKey_put_ne (name_inj hpq), getNum_put (keyOk_name hq) (by omega) (by omega)]
            · rw [hl1 hp, hx, getKey_put_nil (keyOk_name hp), numOf_nil]
          split at e
          · simp only [Prod.mk.injEq] at e
            obtain ⟨rfl, rfl⟩ := e
            obtain ⟨h1, h2⟩ := fin m2 (by show putKey (MS.setNum m2 _ old).s _ _ = _; rw [setNum_s (by omega) (by omega)])
            exact .inr ⟨h1, .inl h2⟩
          · rcases hu : m2.unlinkName q with ⟨m3, u⟩
            rw [hu] at e
            simp only [Prod.mk.injEq] at e
            obtain ⟨rfl, rfl⟩ := e
            obtain ⟨h1, h2⟩ := fin m3 (by show putKey (MS.setNum m3 _ old).s _ _ = _; rw [setNum_s (by omega) (by omega)])
            exact .inr ⟨h1, .inl h2⟩
    · simp only [Prod.mk.injEq] at e; exact .inl (by omega)
  · simp only [Prod.mk.injEq] at e; exact .inl (by omega)
theorem pl_rename_base {b m1 m2 m3 : MS} {id x n2 : Int} {g : List Str} (e0 : MS.empty = b) (e1 : b.makeName ([120] : Str) = (m1, id, x)) (e2 : m1.renameName ([120] : Str) ([121] : Str) = (m2, n2)) (e3 : m2.names = (m3, g)) : g = [([121] : Str)] ∧ id = 1 := by
  subst e0
  have h1 : (MS.makeName MS.empty ([120] : Str)).2.1 = 1 := by decide +kernel
  have h2 : ((MS.makeName MS.empty ([120] : Str)).1.renameName ([120] : Str) ([121] : Str)).1.names.2 = [([121] : Str)] := by decide +kernel
  simp only [e1, e2, e3] at h1 h2
  exact ⟨h2, h1⟩

/- processes -/
theorem procsF : ∀ k : Fin 101, let a := (MS.spawn MS.empty 0); let b := a.1.spawn a.2.1; let c := b.1.endProc b.2.1 ((k.val : Nat) : Int); let d := c.1.reap a.2.1 b.2.1
    a.2.1 = 1 ∧ (b.1.kids a.2.1).2 = [2] ∧ d.2.1 = ((k.val : Nat) : Int) ∧ d.2.2 = 0 ∧ (d.1.reap a.2.1 b.2.1).2.2 = 2 := by decide +kernel
theorem pl_procs {m0 m1 m2 m3 m4 m5 m6 : MS} {a1 a2 b1 b2 c t ok u v k : Int} {l : List Int} (e0 : MS.empty = m0) (h0 : 0 ≤ k) (h1 : k ≤ 100) (e1 : m0.spawn 0 = (m1, a1, a2)) (e2 : m1.spawn a1 = (m2, b1, b2)) (e3 : m2.kids a1 = (m6, l)) (e4 : m2.endProc b1 k = (m3, c))
    (e5 : m3.reap a1 b1 = (m4, t, ok)) (e6 : m4.reap a1 b1 = (m5, u, v)) : a1 = 1 ∧ l = [2] ∧ t = k ∧ ok = 0 ∧ v = 2 := by
  subst e0
  have h := procsF ⟨k.toNat, by omega⟩
  simp only [Int.toNat_of_nonneg h0, e1, e2, e3, e4, e5, e6] at h
  exact h
/- signals -/
theorem signalsF : ∀ k : Fin 50, let a := (MS.spawn MS.empty 0); let w := 1 + ((k.val : Nat) : Int); let b := a.1.setTimer 1 w; let c := b.1.tick w; let d := c.1.takeSignal 1
    c.2.1 = 1 ∧ d.2.1 = 14 ∧ d.2.2 = 0 ∧ (c.1.tick 5).2.1 = 0 ∧ (1 < w → ((b.1.tick (w - 1)).1.takeSignal 1).2.2 = 5) := by decide +kernel
theorem pl_signals {m0 m1 m2 m3 m4 m5 : MS} {a1 a2 b1 none c1 sig ok tw d k : Int} (e0 : MS.empty = m0) (h0 : 1 ≤ k) (h1 : k ≤ 50) (e1 : m0.spawn 0 = (m1, a1, a2)) (e2 : m1.setTimer 1 k = (m2, b1)) (e3 : m2.tick k = (m3, none, c1)) (e4 : m3.takeSignal 1 = (m4, sig, ok)) (e5 : m3.tick 5 = (m5, tw, d)) :
    none = 1 ∧ sig = 14 ∧ ok = 0 ∧ tw = 0 := by
  subst e0
  have h := signalsF ⟨(k - 1).toNat, by omega⟩
  simp only [Int.toNat_of_nonneg (show 0 ≤ k - 1 by omega), show 1 + (k - 1) = k by omega, e1, e2, e3, e4, e5] at h
  exact ⟨h.1, h.2.1, h.2.2.1, h.2.2.2.1⟩
theorem pl_signals_early {m0 m1 m2 m6 m7 : MS} {a1 a2 b1 x y u v k : Int} (e0 : MS.empty = m0) (h0 : 1 < k) (h1 : k ≤ 50) (e1 : m0.spawn 0 = (m1, a1, a2)) (e2 : m1.setTimer 1 k = (m2, b1)) (e6 : m2.tick (k - 1) = (m6, x, y)) (e7 : m6.takeSignal 1 = (m7, u, v)) : v = 5 := by
  subst e0
  have h := signalsF ⟨(k - 1).toNat, by omega⟩
  simp only [Int.toNat_of_nonneg (show 0 ≤ k - 1 by omega), show 1 + (k - 1) = k by omega, e1, e2, e6, e7] at h
  exact h.2.2.2.2 h0
/- files -/
theorem pl_write {m x : MS} {id at_ n : Int} {text : Str} (e : m.writeFile id at_ text = (x, n)) : n = 0 ∨ x.s = m.s := by
  unfold MS.writeFile at e
  rcases hz : m.sizeOf id with ⟨m1, z⟩
  obtain ⟨h1, -⟩ := numKey hz
  rw [hz] at e
  simp only at e
  split at e
  · simp only [Prod.mk.injEq] at e; exact .inr (by rw [← e.1, h1])
  · split at e
    · simp only [Prod.mk.injEq] at e; exact .inr (by rw [← e.1, h1])
    · split at e <;> (simp only [Prod.mk.injEq] at e; exact .inl e.2.symm)
def hello : Str := ([104, 101, 108, 108, 111, 32, 119, 111, 114, 108, 100] : Str)
def hellw : Str := ([104, 101, 108, 108, 111, 32, 119, 48, 114, 108, 100] : Str)
theorem bytesF : (MS.writeFile MS.empty 1 0 hello).2 = 0 ∧ ((MS.writeFile MS.empty 1 0 hello).1.writeFile 1 6 ([119, 48] : Str)).2 = 0 ∧ (((MS.writeFile MS.empty 1 0 hello).1.writeFile 1 6 ([119, 48] : Str)).1.readFile 1 0 999).2 = hellw := by decide +kernel
theorem partF : ∀ i j : Fin 12, (((MS.writeFile MS.empty 1 0 hello).1.writeFile 1 6 ([119, 48] : Str)).1.readFile 1 ((i.val : Nat) : Int) ((1 + j.val : Nat) : Int)).2 = if i.val < 11 then (hellw.drop i.val).take (min (i.val + (1 + j.val)) 11 - i.val) else [] := by decide +kernel
theorem pl_bytes {b m1 m2 m3 : MS} {x y : Int} {all : Str} (e0 : MS.empty = b) (e1 : b.writeFile 1 0 ([104, 101, 108, 108, 111, 32, 119, 111, 114, 108, 100] : Str) = (m1, x)) (e2 : m1.writeFile 1 6 ([119, 48] : Str) = (m2, y)) (e3 : m2.readFile 1 0 999 = (m3, all)) : x = 0 ∧ y = 0 ∧ all = ([104, 101, 108, 108, 111, 32, 119, 48, 114, 108, 100] : Str) := by
  subst e0
  have h := bytesF
  unfold hello hellw at h
  simp only [e1, e2, e3] at h
  exact h
theorem pl_part_out {b m1 m2 m4 : MS} {x y : Int} {p : Str} {i j : Nat} (e0 : MS.empty = b) (e1 : b.writeFile 1 0 ([104, 101, 108, 108, 111, 32, 119, 111, 114, 108, 100] : Str) = (m1, x)) (e2 : m1.writeFile 1 6 ([119, 48] : Str) = (m2, y)) (e4 : m2.readFile 1 ((i % 12 : Nat) : Int) ((1 + j % 12 : Nat) : Int) = (m4, p)) (h : ¬ i % 12 < 11) : p = [] := by
  subst e0
  have h1 := partF ⟨i % 12, Nat.mod_lt _ (by decide)⟩ ⟨j % 12, Nat.mod_lt _ (by decide)⟩
  unfold hello at h1
  simp only [e1, e2, e4, if_neg h] at h1
  exact h1
theorem pl_part_in {b m1 m2 m4 : MS} {x y : Int} {p : Str} {i j E : Nat} (e0 : MS.empty = b) (e1 : b.writeFile 1 0 ([104, 101, 108, 108, 111, 32, 119, 111, 114, 108, 100] : Str) = (m1, x)) (e2 : m1.writeFile 1 6 ([119, 48] : Str) = (m2, y)) (e4 : m2.readFile 1 ((i % 12 : Nat) : Int) ((1 + j % 12 : Nat) : Int) = (m4, p)) (h : i % 12 < 11) (hE : E = min (i % 12 + (1 + j % 12)) 11) :
    p = ((([104, 101, 108, 108, 111, 32, 119, 48, 114, 108, 100] : Str)).drop (i % 12)).take (E - i % 12) := by
  subst e0 hE
  have h1 := partF ⟨i % 12, Nat.mod_lt _ (by decide)⟩ ⟨j % 12, Nat.mod_lt _ (by decide)⟩
  unfold hello hellw at h1
  simp only [e1, e2, e4, if_pos h] at h1
  exact h1
theorem cutF : ((MS.writeFile MS.empty 1 0 hello).1.cutFile 1 9).2 = 0 ∧ (((MS.writeFile MS.empty 1 0 hello).1.cutFile 1 9).1.readFile 1 0 999).2 = ([104, 101, 108, 108, 111, 32, 119, 111, 114] : Str) ∧ (keysUnder ((MS.writeFile MS.empty 1 0 hello).1.cutFile 1 9).1.s ([105, 47, 49, 47, 98, 47] : Str)).length = 2 := by decide +kernel
theorem pl_cut0 {b m1 m2 m3 : MS} {x y : Int} {left : Str} (e0 : MS.empty = b) (e1 : b.writeFile 1 0 ([104, 101, 108, 108, 111, 32, 119, 111, 114, 108, 100] : Str) = (m1, x)) (e2 : m1.cutFile 1 9 = (m2, y)) (e3 : m2.readFile 1 0 999 = (m3, left)) : y = 0 ∧ left = ([104, 101, 108, 108, 111, 32, 119, 111, 114] : Str) := by
  subst e0
  have h := cutF
  unfold hello at h
  simp only [e1, e2, e3] at h
  exact ⟨h.1, h.2.1⟩
theorem pl_cut {b m1 m2 m3 : MS} {x y : Int} {left : Str} {g : List Str} (e0 : MS.empty = b) (e1 : b.writeFile 1 0 ([104, 101, 108, 108, 111, 32, 119, 111, 114, 108, 100] : Str) = (m1, x)) (e2 : m1.cutFile 1 9 = (m2, y)) (e3 : m2.readFile 1 0 999 = (m3, left)) (e4 : keysUnder m2.s ([105, 47, 49, 47, 98, 47] : Str) = g) : y = 0 ∧ left = ([104, 101, 108, 108, 111, 32, 119, 111, 114] : Str) ∧ g.length = 2 := by
  subst e0
  have h := cutF
  unfold hello at h
  simp only [e1, e2, e3, e4] at h
  exact h

/- pipes -/
def qk (i : Nat) : Str := keyNum (keyNum ([112, 47] : Str) 1 ([47, 113, 47] : Str)) ((i : Nat) : Int) []
def pk (t : Str) : Str := keyNum ([112, 47] : Str) 1 t
theorem qkF : ∀ i : Fin 10, keyOk (qk i.val) = true ∧ ¬ qk i.val = pk ([47, 111] : Str) ∧ ¬ qk i.val = pk ([47, 104] : Str) ∧ ¬ qk i.val = pk ([47, 116] : Str) := by decide +kernel
theorem qkI : ∀ i j : Fin 10, ¬ i.val = j.val → ¬ qk i.val = qk j.val := by decide +kernel
theorem pkF : keyOk (pk ([47, 111] : Str)) = true ∧ keyOk (pk ([47, 104] : Str)) = true ∧ keyOk (pk ([47, 116] : Str)) = true ∧ ¬ pk ([47, 111] : Str) = pk ([47, 104] : Str) ∧ ¬ pk ([47, 111] : Str) = pk ([47, 116] : Str) ∧ ¬ pk ([47, 104] : Str) = pk ([47, 116] : Str) := by decide +kernel
structure PS (s : List Cell) (h t : Nat) (f : Nat → Str) : Prop where
  fo : numOf (getKey s (pk ([47, 111] : Str))) = 1
  fh : numOf (getKey s (pk ([47, 104] : Str))) = ((h : Nat) : Int)
  ft : numOf (getKey s (pk ([47, 116] : Str))) = ((t : Nat) : Int)
  fq : ∀ i, h < i → i ≤ t → getKey s (qk i) = 45 :: hexS (f i)
theorem hexS_short {x : Str} (h : x.length ≤ 20) : (45 :: hexS x).length ≤ 60 := by
  unfold hexS
  rw [if_neg (by omega)]
  simp only [List.length_cons, hexB_len]
  omega
theorem isPipe_PS {m : MS} {h t : Nat} {f : Nat → Str} (p : PS m.s h t f) : ∃ m1, m.isPipe 1 = (m1, true) ∧ m1.s = m.s := by
  unfold MS.isPipe
  rcases hz : m.num (keyNum ([112, 47] : Str) 1 ([47, 111] : Str)) with ⟨m1, z⟩
  obtain ⟨h1, h2⟩ := numKey hz
  have h3 := p.fo
  unfold pk at h3
  exact ⟨m1, by simp only [h2, h3]; rfl, h1⟩
theorem put_PS {m m' : MS} {h t : Nat} {f : Nat → Str} {c : Int} {x : Str} (p : PS m.s h t f) (hx : x = f (t + 1)) (hr : t < h + 4) (ht : t < 9) (hh : h ≤ t) (hl : x.length ≤ 20) (e : m.putPipe 1 x = (m', c)) : c = 0 ∧ PS m'.s h (t + 1) f := by
  obtain ⟨m1, e1, hs1⟩ := isPipe_PS p
  unfold MS.putPipe at e
  rw [e1] at e
  simp only [if_true] at e
  rw [if_neg (by omega)] at e
  rcases h2 : m1.num (keyNum ([112, 47] : Str) 1 ([47, 116] : Str)) with ⟨m2, z2⟩
  obtain ⟨hs2, hz2⟩ := numKey h2
  rw [hs1, show keyNum ([112, 47] : Str) 1 ([47, 116] : Str) = pk ([47, 116] : Str) from rfl, p.ft] at hz2
  rw [h2] at e
  simp only at e
  rcases h3 : m2.num (keyNum ([112, 47] : Str) 1 ([47, 104] : Str)) with ⟨m3, z3⟩
  obtain ⟨hs3, hz3⟩ := numKey h3
  rw [hs2, hs1, show keyNum ([112, 47] : Str) 1 ([47, 104] : Str) = pk ([47, 104] : Str) from rfl, p.fh] at hz3
  rw [h3] at e
  simp only at e
  subst hz2 hz3
  rw [if_neg (by omega), if_neg (by omega)] at e
  simp only [Prod.mk.injEq] at e
  obtain ⟨rfl, rfl⟩ := e
  refine ⟨rfl, ?_⟩
  have hs : (((m3.setNum (keyNum ([112, 47] : Str) 1 ([47, 116] : Str)) (((t : Nat) : Int) + 1)).lay (keyNum (keyNum ([112, 47] : Str) 1 ([47, 113, 47] : Str)) (((t : Nat) : Int) + 1) []) (([45] : Str) ++ hexS x))).s = putKey (putKey m.s (pk ([47, 116] : Str)) (dec (((t + 1 : Nat) : Int)))) (qk (t + 1)) (45 :: hexS (f (t + 1))) := by
    show putKey (MS.setNum m3 _ _).s _ _ = _
    rw [setNum_s (by omega) (by omega), hs3, hs2, hs1, hx]
    rfl
  have hq := qkF ⟨t + 1, by omega⟩
  have hp := pkF
  simp only at hq
  rw [hs]
  refine ⟨?_, ?_, ?_, fun i hi hi2 => ?_⟩
  · rw [getKey_put_ne hq.2.1, getKey_put_ne (fun h => hp.2.2.2.2.1 h.symm)]; exact p.fo
  · rw [getKey_put_ne hq.2.2.1, getKey_put_ne (fun h => hp.2.2.2.2.2 h.symm)]; exact p.fh
  · rw [getKey_put_ne hq.2.2.2]; exact getNum_put hp.2.2.1 (by omega) (by omega)
  · by_cases hi3 : i = t + 1
    · subst hi3
      exact getKey_put hq.1 (by simp) (hexS_short (hx ▸ hl))
    · have := qkI ⟨t + 1, by omega⟩ ⟨i, by omega⟩ (by simp only; omega)
      simp only at this
      have hqi := qkF ⟨i, by omega⟩
      simp only at hqi
      rw [getKey_put_ne this, getKey_put_ne (fun h => hqi.2.2.2 h.symm)]
      exact p.fq i hi (by omega)
theorem full_PS {m : MS} {h : Nat} {f : Nat → Str} {x : Str} (p : PS m.s h (h + 4) f) (hl : x.length ≤ 20) : (m.putPipe 1 x).2 = 5 := by
  obtain ⟨m1, e1, hs1⟩ := isPipe_PS p
  unfold MS.putPipe
  rw [e1]
  simp only [if_true]
  rw [if_neg (by omega)]
  rcases h2 : m1.num (keyNum ([112, 47] : Str) 1 ([47, 116] : Str)) with ⟨m2, z2⟩
  obtain ⟨hs2, hz2⟩ := numKey h2
  rw [hs1, show keyNum ([112, 47] : Str) 1 ([47, 116] : Str) = pk ([47, 116] : Str) from rfl, p.ft] at hz2
  simp only
  rcases h3 : m2.num (keyNum ([112, 47] : Str) 1 ([47, 104] : Str)) with ⟨m3, z3⟩
  obtain ⟨hs3, hz3⟩ := numKey h3
  rw [hs2, hs1, show keyNum ([112, 47] : Str) 1 ([47, 104] : Str) = pk ([47, 104] : Str) from rfl, p.fh] at hz3
  simp only
  subst hz2 hz3
  rw [if_pos (by omega)]
theorem message_PS {m m1 : MS} {k x u : Str} (hk : getKey m.s k = 45 :: hexS x) (hl : x.length ≤ 20) (e : m.message k = (m1, u)) : m1.s = m.s ∧ u = x := by
  unfold MS.message MS.look at e
  simp only [Prod.mk.injEq] at e
  obtain ⟨rfl, rfl⟩ := e
  refine ⟨rfl, ?_⟩
  rw [hk]
  unfold messageOf
  simp only [if_true]
  have h1 : hexS x = hexB x := by
    unfold hexS
    rw [if_neg (by omega)]
  rw [h1]
  unfold unhex
  rw [if_neg (by rw [hexB_len]; omega), unhexL_hexB']
theorem take_PS {m m' : MS} {h t : Nat} {f : Nat → Str} {c : Int} {x : Str} (p : PS m.s h t f) (ht : t ≤ 9) (hh : h < t) (hl : (f (h + 1)).length ≤ 20) (e : m.takePipe 1 = (m', x, c)) : x = f (h + 1) ∧ c = 0 ∧ PS m'.s (h + 1) t f := by
  obtain ⟨m1, e1, hs1⟩ := isPipe_PS p
  unfold MS.takePipe at e
  rw [e1] at e
  simp only [if_true] at e
  rcases h3 : m1.num (keyNum ([112, 47] : Str) 1 ([47, 104] : Str)) with ⟨m3, z3⟩
  obtain ⟨hs3, hz3⟩ := numKey h3
  rw [hs1, show keyNum ([112, 47] : Str) 1 ([47, 104] : Str) = pk ([47, 104] : Str) from rfl, p.fh] at hz3
  rw [h3] at e
  simp only at e
  rcases h2 : m3.num (keyNum ([112, 47] : Str) 1 ([47, 116] : Str)) with ⟨m2, z2⟩
  obtain ⟨hs2, hz2⟩ := numKey h2
  rw [hs3, hs1, show keyNum ([112, 47] : Str) 1 ([47, 116] : Str) = pk ([47, 116] : Str) from rfl, p.ft] at hz2
  rw [h2] at e
  simp only at e
  subst hz2 hz3
  rw [if_neg (by omega)] at e
  have hkq : keyNum (keyNum ([112, 47] : Str) 1 ([47, 113, 47] : Str)) (((h : Nat) : Int) + 1) [] = qk (h + 1) := rfl
  rw [hkq] at e
  rcases h4 : m2.message (qk (h + 1)) with ⟨m4, u⟩
  obtain ⟨hs4, hu⟩ := message_PS (x := f (h + 1)) (by rw [hs2, hs3, hs1]; exact p.fq _ (by omega) (by omega)) hl h4
  rw [h4] at e
  simp only [Prod.mk.injEq] at e
  obtain ⟨rfl, rfl, rfl⟩ := e
  refine ⟨hu, rfl, ?_⟩
  have hs : ((m4.lay (qk (h + 1)) []).setNum (keyNum ([112, 47] : Str) 1 ([47, 104] : Str)) (((h : Nat) : Int) + 1)).s = putKey (putKey m.s (qk (h + 1)) []) (pk ([47, 104] : Str)) (dec (((h + 1 : Nat) : Int))) := by
    rw [setNum_s (by omega) (by omega)]
    show putKey (putKey m4.s _ _) _ _ = _
    rw [hs4, hs2, hs3, hs1]
    rfl
  have hq := qkF ⟨h + 1, by omega⟩
  have hp := pkF
  simp only at hq
  rw [hs]
  refine ⟨?_, ?_, ?_, fun i hi hi2 => ?_⟩
  · rw [getKey_put_ne (fun h => hp.2.2.2.1 h.symm), getKey_put_ne hq.2.1]; exact p.fo
  · exact getNum_put hp.2.1 (by omega) (by omega)
  · rw [getKey_put_ne hp.2.2.2.2.2, getKey_put_ne hq.2.2.2]; exact p.ft
  · have hqi := qkF ⟨i, by omega⟩
    have := qkI ⟨h + 1, by omega⟩ ⟨i, by omega⟩ (by simp only; omega)
    simp only at this hqi
    rw [getKey_put_ne (fun h => hqi.2.2.1 h.symm), getKey_put_ne this]
    exact p.fq i (by omega) hi2
theorem empty_PS {m : MS} {t : Nat} {f : Nat → Str} (p : PS m.s t t f) : (m.takePipe 1).2.2 = 5 := by
  obtain ⟨m1, e1, hs1⟩ := isPipe_PS p
  unfold MS.takePipe
  rw [e1]
  simp only [if_true]
  rcases h3 : m1.num (keyNum ([112, 47] : Str) 1 ([47, 104] : Str)) with ⟨m3, z3⟩
  obtain ⟨hs3, hz3⟩ := numKey h3
  rw [hs1, show keyNum ([112, 47] : Str) 1 ([47, 104] : Str) = pk ([47, 104] : Str) from rfl, p.fh] at hz3
  simp only
  rcases h2 : m3.num (keyNum ([112, 47] : Str) 1 ([47, 116] : Str)) with ⟨m2, z2⟩
  obtain ⟨hs2, hz2⟩ := numKey h2
  rw [hs3, hs1, show keyNum ([112, 47] : Str) 1 ([47, 116] : Str) = pk ([47, 116] : Str) from rfl, p.ft] at hz2
  simp only
  rw [if_pos (by omega)]
def putsI (id : Int) (l : List Int) : Nat → Nat → MS → Int → MS × Int
  | 0, _, m, n => (m, n)
  | k + 1, i, m, n => match m.putPipe id (dec (l.getD i 0)) with | (m, c) => putsI id l k (i + 1) m (n + c)
def takesM (id : Int) : Nat → MS → MS
  | 0, m => m
  | i + 1, m => ((takesM id i m).takePipe id).1
theorem puts_PS {l : List Int} (hl : ∀ i, (dec (l.getD i 0)).length ≤ 20) : ∀ (k i : Nat) (m m' : MS) (n n' : Int), PS m.s 0 i (fun i => dec (l.getD (i - 1) 0)) → i + k ≤ 4 → putsI 1 l k i m n = (m', n') → n' = n ∧ PS m'.s 0 (i + k) (fun i => dec (l.getD (i - 1) 0))
  | 0, i, m, m', n, n', p, h, e => by
    simp only [putsI, Prod.mk.injEq] at e
    obtain ⟨rfl, rfl⟩ := e
    exact ⟨rfl, p⟩
  | k + 1, i, m, m', n, n', p, h, e => by
    unfold putsI at e
    rcases h1 : m.putPipe 1 (dec (l.getD i 0)) with ⟨m1, c⟩
    obtain ⟨rfl, p1⟩ := put_PS p (by simp) (by omega) (by omega) (by omega) (hl i) h1
    rw [h1] at e
    simp only at e
    obtain ⟨h2, p2⟩ := puts_PS hl k (i + 1) m1 m' _ n' p1 (by omega) e
    exact ⟨by omega, by rw [show i + (k + 1) = i + 1 + k by omega]; exact p2⟩
theorem takes_PS {f : Nat → Str} (hl : ∀ i, (f i).length ≤ 20) {m : MS} (p : PS m.s 0 4 f) : ∀ i, i ≤ 4 → PS (takesM 1 i m).s i 4 f
  | 0, _ => p
  | i + 1, h => by
    have p1 := takes_PS hl p i (by omega)
    rcases h1 : (takesM 1 i m).takePipe 1 with ⟨m1, x, c⟩
    obtain ⟨_, _, p2⟩ := take_PS p1 (by omega) (by omega) (hl _) h1
    unfold takesM
    rw [h1]
    exact p2
theorem pipe0F : (MS.makePipe MS.empty).2.1 = 1 ∧ numOf (getKey (MS.makePipe MS.empty).1.s (pk ([47, 111] : Str))) = 1 ∧ numOf (getKey (MS.makePipe MS.empty).1.s (pk ([47, 104] : Str))) = 0 ∧ numOf (getKey (MS.makePipe MS.empty).1.s (pk ([47, 116] : Str))) = 0 := by decide +kernel
theorem pl_pipes {b m0 m4 : MS} {one x full : Int} {l : List Int} (e0 : MS.empty = b) (e1 : b.makePipe = (m0, one, x)) (hl : l.length = 12 ∧ ∀ y ∈ l, 0 ≤ y ∧ y ≤ 9999) (e2 : (m4, full) = putsI one l 4 0 m0 0) :
    one = 1 ∧ full = 0 ∧ (m4.putPipe one ([120] : Str)).2 = 5 ∧ ((takesM one 4 m4).takePipe one).2.2 = 5 ∧ ∀ i, i < 4 → ((takesM one i m4).takePipe one).2.1 = dec (l.getD i 0) := by
  subst e0
  obtain ⟨h1, h2, h3, h4⟩ := pipe0F
  rw [e1] at h1 h2 h3 h4
  simp only at h1 h2 h3 h4
  subst h1
  have hd : ∀ i, (dec (l.getD i 0)).length ≤ 20 := fun i => by
    by_cases hi : i < l.length
    · have := hl.2 _ (getD_mem (d := 0) hi)
      exact Nat.le_trans (dec_len (by omega) (by omega)) (by decide)
    · rw [List.getD_eq_getElem?_getD, List.getElem?_eq_none (by omega)]
      decide +kernel
  have p0 : PS m0.s 0 0 (fun i => dec (l.getD (i - 1) 0)) := ⟨h2, h3, h4, fun i hi hi2 => by omega⟩
  obtain ⟨h5, p4⟩ := puts_PS hd 4 0 m0 m4 0 full p0 (by omega) e2.symm
  have pt := takes_PS (fun i => hd (i - 1)) p4
  refine ⟨rfl, h5, full_PS (h := 0) p4 (by decide), empty_PS (pt 4 (by omega)), fun i hi => ?_⟩
  rcases h6 : (takesM 1 i m4).takePipe 1 with ⟨m1, u, c⟩
  obtain ⟨h7, _, _⟩ := take_PS (pt i (by omega)) (by omega) hi (hd _) h6
  simpa using h7
end Go.Proofs.YtenfajgpdhgknaaGreatDoor

set_option linter.unusedSimpArgs false
set_option linter.unusedVariables false
set_option linter.unnecessarySimpa false
namespace Go.Proofs.YtenfajgpdhgknaaGreatDoor
open Go Go.RowKit
attribute [local irreducible] JL JC JQ JO LO PO JA JX Ct

theorem N_figure (k : Nat) (h : k < 16) :
    Ct Tryz.prog 285 [.int .i64 ((k : Nat) : Int)] [] (fun _ => True) (fun v A' => v = .int .u8 (((hexFig k).toNat : Nat) : Int) ∧ A' = []) := by
  refine Ct.intro Tryz.func285 rfl Tryz.ntmps285 (Nat.le_of_ble_eq_true rfl) fun w0 hpre => ?_
  refine JC.seq ?_
  refine JC.region ?_
  refine JL.pure rfl (PO.assign (v := .int .u8 0) rfl) ?_
  refine JL.nil ?_
  refine JQ.seq ?_
  refine JC.seq ?_
  refine JC.seq ?_
  refine JC.region ?_
  refine JL.pure rfl (PO.move (v := .int .i64 ((k : Nat) : Int)) rfl) ?_
  refine JL.pure rfl (PO.lss rfl rfl) ?_
  refine JL.nil ?_
  refine JQ.seq ?_
  by_cases h_1 : ((k : Nat) : Int) < 10
  · skip
    refine JC.condT (congrArg Value.bool (decide_eq_true h_1)) ?_
    refine JC.seq ?_
    refine JC.region ?_
    refine JL.pure rfl (PO.move (v := .int .i64 ((k : Nat) : Int)) rfl) ?_
    refine JL.pure rfl (PO.add (c := ((48 + k : Nat) : Int)) rfl rfl (wr (by omega))) ?_
    refine JL.pure rfl (PO.convI (c := (((UInt8.ofNat (48 + k)).toNat : Nat) : Int)) Tryz.underlying3 Tryz.underlying5 rfl (wr8u (c := UInt8.ofNat (48 + k)) (by omega) (by rw [Int.toNat_natCast]))) ?_
    refine JL.pure rfl (PO.assign (v := .int .u8 (((UInt8.ofNat (48 + k)).toNat : Nat) : Int)) rfl) ?_
    refine JL.nil ?_
    refine JQ.seq ?_
    refine JC.ret ?_
    refine JQ.thenRet ?_
    refine Done.one (.inl rfl) rfl (RV.tmp (v := .int .u8 (((UInt8.ofNat (48 + k)).toNat : Nat) : Int)) rfl) (List.nil_sublist _) ?_
    refine ⟨?_, rfl⟩
    exact congrArg (fun q : Nat => Value.int .u8 (q : Int)) (by first | (rw [hexFig_lo (by omega), UInt8.toNat_ofNat_of_lt' (by show _ < 256; omega)]) | (rw [hexFig_hi (by omega) (by omega), UInt8.toNat_ofNat_of_lt' (by show _ < 256; omega)]; omega))
  · skip
    refine JC.condF (congrArg Value.bool (decide_eq_false h_1)) ?_
    refine JC.skip ?_
    refine JQ.seq ?_
    refine JC.seq ?_
    refine JC.region ?_
    refine JL.pure rfl (PO.move (v := .int .i64 ((k : Nat) : Int)) rfl) ?_
    refine JL.pure rfl (PO.add (c := ((97 + k : Nat) : Int)) rfl rfl (wr (by omega))) ?_
    refine JL.pure rfl (PO.sub (c := ((97 + k : Nat) : Int) - 10) rfl rfl (wr (by omega))) ?_
    refine JL.pure rfl (PO.convI (c := (((UInt8.ofNat (((97 + k : Nat) : Int) - 10).toNat).toNat : Nat) : Int)) Tryz.underlying3 Tryz.underlying5 rfl (wr8u (by omega) rfl)) ?_
    refine JL.pure rfl (PO.assign (v := .int .u8 (((UInt8.ofNat (((97 + k : Nat) : Int) - 10).toNat).toNat : Nat) : Int)) rfl) ?_
    refine JL.nil ?_
    refine JQ.seq ?_
    refine JC.ret ?_
    refine Done.one (.inl rfl) rfl (RV.tmp (v := .int .u8 (((UInt8.ofNat (((97 + k : Nat) : Int) - 10).toNat).toNat : Nat) : Int)) rfl) (List.nil_sublist _) ?_
    refine ⟨?_, rfl⟩
    exact congrArg (fun q : Nat => Value.int .u8 (q : Int)) (by first | (rw [hexFig_lo (by omega), UInt8.toNat_ofNat_of_lt' (by show _ < 256; omega)]) | (rw [hexFig_hi (by omega) (by omega), UInt8.toNat_ofNat_of_lt' (by show _ < 256; omega)]; omega))

theorem N_value (c : UInt8) :
    Ct Tryz.prog 277 [.int .u8 ((c.toNat : Nat) : Int)] [] (fun _ => True) (fun v A' => ∃ r0, hexV c = r0 ∧ (-1 ≤ r0 ∧ r0 ≤ 15) ∧ v = .int .i64 r0 ∧ A' = []) := by
  have hc8 := UInt8.toNat_lt c
  refine Ct.intro Tryz.func277 rfl Tryz.ntmps277 (Nat.le_of_ble_eq_true rfl) fun w0 hpre => ?_
  refine JC.seq ?_
  refine JC.region ?_
  refine JL.pure rfl (PO.assign (v := .int .i64 0) rfl) ?_
  refine JL.nil ?_
  refine JQ.seq ?_
  refine JC.seq ?_
  refine JC.seq ?_
  refine JC.region ?_
  refine JL.pure rfl (PO.move (v := .int .u8 ((c.toNat : Nat) : Int)) rfl) ?_
  refine JL.pure rfl (PO.geq rfl rfl) ?_
  refine JL.pure rfl (PO.move (v := .bool (decide (48 ≤ ((c.toNat : Nat) : Int)))) rfl) ?_
  by_cases h_1 : 48 ≤ ((c.toNat : Nat) : Int)
  · skip
    refine JL.guardOn rfl rfl rfl (congrArg Value.bool (decide_eq_true h_1)) (JO.ofLO (LO.pure (PO.move (v := .int .u8 ((c.toNat : Nat) : Int)) rfl))) ?_
    rintro _ _ ⟨rfl, rfl⟩
    refine JL.guardOn rfl rfl rfl (congrArg Value.bool (decide_eq_true h_1)) (JO.ofLO (LO.pure (PO.leq rfl rfl))) ?_
    rintro _ _ ⟨rfl, rfl⟩
    refine JL.pure rfl (PO.pickT (v := .bool (decide (((c.toNat : Nat) : Int) ≤ 57))) (congrArg Value.bool (decide_eq_true h_1)) rfl) ?_
    refine JL.nil ?_
    refine JQ.seq ?_
    by_cases h_2 : ((c.toNat : Nat) : Int) ≤ 57
    · skip
      refine JC.condT (congrArg Value.bool (decide_eq_true h_2)) ?_
      refine JC.seq ?_
      refine JC.region ?_
      refine JL.pure rfl (PO.move (v := .int .u8 ((c.toNat : Nat) : Int)) rfl) ?_
      refine JL.pure rfl (PO.convI (c := ((c.toNat : Nat) : Int)) Tryz.underlying5 Tryz.underlying3 rfl (wr (by omega))) ?_
      refine JL.pure rfl (PO.sub (c := ((c.toNat : Nat) : Int) - 48) rfl rfl (wr (by omega))) ?_
      refine JL.pure rfl (PO.assign (v := .int .i64 (((c.toNat : Nat) : Int) - 48)) rfl) ?_
      refine JL.nil ?_
      refine JQ.seq ?_
      refine JC.ret ?_
      refine JQ.thenRet ?_
      refine Done.one (.inl rfl) rfl (RV.tmp (v := .int .i64 (((c.toNat : Nat) : Int) - 48)) rfl) (List.nil_sublist _) ?_
      refine ⟨_, ?_, ?_, rfl, rfl⟩
      · first | exact hexV_a (by omega) (by omega) | exact hexV_b (by omega) (by omega) | exact hexV_c (by omega) (by omega)
      · omega
    · skip
      refine JC.condF (congrArg Value.bool (decide_eq_false h_2)) ?_
      refine JC.skip ?_
      refine JQ.seq ?_
      refine JC.seq ?_
      refine JC.seq ?_
      refine JC.region ?_
      refine JL.pure rfl (PO.move (v := .int .u8 ((c.toNat : Nat) : Int)) rfl) ?_
      refine JL.pure rfl (PO.geq rfl rfl) ?_
      refine JL.pure rfl (PO.move (v := .bool (decide (97 ≤ ((c.toNat : Nat) : Int)))) rfl) ?_
      by_cases h_3 : 97 ≤ ((c.toNat : Nat) : Int)
      · skip
        refine JL.guardOn rfl rfl rfl (congrArg Value.bool (decide_eq_true h_3)) (JO.ofLO (LO.pure (PO.move (v := .int .u8 ((c.toNat : Nat) : Int)) rfl))) ?_
        rintro _ _ ⟨rfl, rfl⟩
        refine JL.guardOn rfl rfl rfl (congrArg Value.bool (decide_eq_true h_3)) (JO.ofLO (LO.pure (PO.leq rfl rfl))) ?_
        rintro _ _ ⟨rfl, rfl⟩
        refine JL.pure rfl (PO.pickT (v := .bool (decide (((c.toNat : Nat) : Int) ≤ 102))) (congrArg Value.bool (decide_eq_true h_3)) rfl) ?_
        refine JL.nil ?_
        refine JQ.seq ?_
        by_cases h_4 : ((c.toNat : Nat) : Int) ≤ 102
        · skip
          refine JC.condT (congrArg Value.bool (decide_eq_true h_4)) ?_
          refine JC.seq ?_
          refine JC.region ?_
          refine JL.pure rfl (PO.move (v := .int .u8 ((c.toNat : Nat) : Int)) rfl) ?_
          refine JL.pure rfl (PO.convI (c := ((c.toNat : Nat) : Int)) Tryz.underlying5 Tryz.underlying3 rfl (wr (by omega))) ?_
          refine JL.pure rfl (PO.sub (c := ((c.toNat : Nat) : Int) - 97) rfl rfl (wr (by omega))) ?_
          refine JL.pure rfl (PO.add (c := (((c.toNat : Nat) : Int) - 97) + 10) rfl rfl (wr (by omega))) ?_
          refine JL.pure rfl (PO.assign (v := .int .i64 ((((c.toNat : Nat) : Int) - 97) + 10)) rfl) ?_
          refine JL.nil ?_
          refine JQ.seq ?_
          refine JC.ret ?_
          refine JQ.thenRet ?_
          refine Done.one (.inl rfl) rfl (RV.tmp (v := .int .i64 ((((c.toNat : Nat) : Int) - 97) + 10)) rfl) (List.nil_sublist _) ?_
          refine ⟨_, ?_, ?_, rfl, rfl⟩
          · first | exact hexV_a (by omega) (by omega) | exact hexV_b (by omega) (by omega) | exact hexV_c (by omega) (by omega)
          · omega
        · skip
          refine JC.condF (congrArg Value.bool (decide_eq_false h_4)) ?_
          refine JC.skip ?_
          refine JQ.seq ?_
          refine JC.seq ?_
          refine JC.region ?_
          refine JL.pure rfl (PO.assign (v := .int .i64 (-1)) rfl) ?_
          refine JL.nil ?_
          refine JQ.seq ?_
          refine JC.ret ?_
          refine Done.one (.inl rfl) rfl (RV.tmp (v := .int .i64 (-1)) rfl) (List.nil_sublist _) ?_
          refine ⟨_, ?_, ?_, rfl, rfl⟩
          · first | exact hexV_a (by omega) (by omega) | exact hexV_b (by omega) (by omega) | exact hexV_c (by omega) (by omega)
          · omega
      · skip
        refine JL.guardOff (b := false) rfl rfl rfl (congrArg Value.bool (decide_eq_false h_3)) ?_
        refine JL.guardOff (b := false) rfl rfl rfl (congrArg Value.bool (decide_eq_false h_3)) ?_
        refine JL.pure rfl (PO.pickF (v := .bool false) (congrArg Value.bool (decide_eq_false h_3)) rfl) ?_
        refine JL.nil ?_
        refine JQ.seq ?_
        refine JC.condF (congrArg Value.bool rfl) ?_
        refine JC.skip ?_
        refine JQ.seq ?_
        refine JC.seq ?_
        refine JC.region ?_
        refine JL.pure rfl (PO.assign (v := .int .i64 (-1)) rfl) ?_
        refine JL.nil ?_
        refine JQ.seq ?_
        refine JC.ret ?_
        refine Done.one (.inl rfl) rfl (RV.tmp (v := .int .i64 (-1)) rfl) (List.nil_sublist _) ?_
        refine ⟨_, ?_, ?_, rfl, rfl⟩
        · first | exact hexV_a (by omega) (by omega) | exact hexV_b (by omega) (by omega) | exact hexV_c (by omega) (by omega)
        · omega
  · skip
    refine JL.guardOff (b := false) rfl rfl rfl (congrArg Value.bool (decide_eq_false h_1)) ?_
    refine JL.guardOff (b := false) rfl rfl rfl (congrArg Value.bool (decide_eq_false h_1)) ?_
    refine JL.pure rfl (PO.pickF (v := .bool false) (congrArg Value.bool (decide_eq_false h_1)) rfl) ?_
    refine JL.nil ?_
    refine JQ.seq ?_
    refine JC.condF (congrArg Value.bool rfl) ?_
    refine JC.skip ?_
    refine JQ.seq ?_
    refine JC.seq ?_
    refine JC.seq ?_
    refine JC.region ?_
    refine JL.pure rfl (PO.move (v := .int .u8 ((c.toNat : Nat) : Int)) rfl) ?_
    refine JL.pure rfl (PO.geq rfl rfl) ?_
    refine JL.pure rfl (PO.move (v := .bool (decide (97 ≤ ((c.toNat : Nat) : Int)))) rfl) ?_
    by_cases h_5 : 97 ≤ ((c.toNat : Nat) : Int)
    · skip
      refine JL.guardOn rfl rfl rfl (congrArg Value.bool (decide_eq_true h_5)) (JO.ofLO (LO.pure (PO.move (v := .int .u8 ((c.toNat : Nat) : Int)) rfl))) ?_
      rintro _ _ ⟨rfl, rfl⟩
      refine JL.guardOn rfl rfl rfl (congrArg Value.bool (decide_eq_true h_5)) (JO.ofLO (LO.pure (PO.leq rfl rfl))) ?_
      rintro _ _ ⟨rfl, rfl⟩
      refine JL.pure rfl (PO.pickT (v := .bool (decide (((c.toNat : Nat) : Int) ≤ 102))) (congrArg Value.bool (decide_eq_true h_5)) rfl) ?_
      refine JL.nil ?_
      refine JQ.seq ?_
      by_cases h_6 : ((c.toNat : Nat) : Int) ≤ 102
      · skip
        refine JC.condT (congrArg Value.bool (decide_eq_true h_6)) ?_
        refine JC.seq ?_
        refine JC.region ?_
        refine JL.pure rfl (PO.move (v := .int .u8 ((c.toNat : Nat) : Int)) rfl) ?_
        refine JL.pure rfl (PO.convI (c := ((c.toNat : Nat) : Int)) Tryz.underlying5 Tryz.underlying3 rfl (wr (by omega))) ?_
        refine JL.pure rfl (PO.sub (c := ((c.toNat : Nat) : Int) - 97) rfl rfl (wr (by omega))) ?_
        refine JL.pure rfl (PO.add (c := (((c.toNat : Nat) : Int) - 97) + 10) rfl rfl (wr (by omega))) ?_
        refine JL.pure rfl (PO.assign (v := .int .i64 ((((c.toNat : Nat) : Int) - 97) + 10)) rfl) ?_
        refine JL.nil ?_
        refine JQ.seq ?_
        refine JC.ret ?_
        refine JQ.thenRet ?_
        refine Done.one (.inl rfl) rfl (RV.tmp (v := .int .i64 ((((c.toNat : Nat) : Int) - 97) + 10)) rfl) (List.nil_sublist _) ?_
        refine ⟨_, ?_, ?_, rfl, rfl⟩
        · first | exact hexV_a (by omega) (by omega) | exact hexV_b (by omega) (by omega) | exact hexV_c (by omega) (by omega)
        · omega
      · skip
        refine JC.condF (congrArg Value.bool (decide_eq_false h_6)) ?_
        refine JC.skip ?_
        refine JQ.seq ?_
        refine JC.seq ?_
        refine JC.region ?_
        refine JL.pure rfl (PO.assign (v := .int .i64 (-1)) rfl) ?_
        refine JL.nil ?_
        refine JQ.seq ?_
        refine JC.ret ?_
        refine Done.one (.inl rfl) rfl (RV.tmp (v := .int .i64 (-1)) rfl) (List.nil_sublist _) ?_
        refine ⟨_, ?_, ?_, rfl, rfl⟩
        · first | exact hexV_a (by omega) (by omega) | exact hexV_b (by omega) (by omega) | exact hexV_c (by omega) (by omega)
        · omega
    · skip
      refine JL.guardOff (b := false) rfl rfl rfl (congrArg Value.bool (decide_eq_false h_5)) ?_
      refine JL.guardOff (b := false) rfl rfl rfl (congrArg Value.bool (decide_eq_false h_5)) ?_
      refine JL.pure rfl (PO.pickF (v := .bool false) (congrArg Value.bool (decide_eq_false h_5)) rfl) ?_
      refine JL.nil ?_
      refine JQ.seq ?_
      refine JC.condF (congrArg Value.bool rfl) ?_
      refine JC.skip ?_
      refine JQ.seq ?_
      refine JC.seq ?_
      refine JC.region ?_
      refine JL.pure rfl (PO.assign (v := .int .i64 (-1)) rfl) ?_
      refine JL.nil ?_
      refine JQ.seq ?_
      refine JC.ret ?_
      refine Done.one (.inl rfl) rfl (RV.tmp (v := .int .i64 (-1)) rfl) (List.nil_sublist _) ?_
      refine ⟨_, ?_, ?_, rfl, rfl⟩
      · first | exact hexV_a (by omega) (by omega) | exact hexV_b (by omega) (by omega) | exact hexV_c (by omega) (by omega)
      · omega

theorem N_sHex (s : Str) (hs : s.length ≤ 1000000000000) :
    Ct Tryz.prog 263 [str s] ([]) (fun _ => True) (fun v A' => ∃ r0 r1, hexP s = (r0, r1) ∧ r0.length ≤ 40000 ∧ v = .tuple #[str r0, .bool r1] ∧ A' = []) := by
  refine Ct.intro Tryz.func263 rfl Tryz.ntmps263 (Nat.le_of_ble_eq_true rfl) fun w0 hpre => ?_
  refine JC.seq ?_
  refine JC.region ?_
  refine JL.pure rfl (PO.assign (v := str []) rfl) ?_
  refine JL.pure rfl (PO.assign (v := .bool false) rfl) ?_
  refine JL.nil ?_
  refine JQ.seq ?_
  refine JC.seq ?_
  refine JC.seq ?_
  refine JC.region ?_
  refine JL.pure rfl (PO.move (v := str s) rfl) ?_
  refine JL.pure rfl (PO.lenS Tryz.underlying9 rfl) ?_
  refine JL.pure rfl (PO.gtr rfl rfl) ?_
  refine JL.nil ?_
  refine JQ.seq ?_
  by_cases h_1 : 20000 < (s.length : Int)
  · skip
    refine JC.condT (congrArg Value.bool (decide_eq_true h_1)) ?_
    refine JC.seq ?_
    refine JC.region ?_
    refine JL.pure rfl (PO.assign (v := str []) rfl) ?_
    refine JL.pure rfl (PO.assign (v := .bool false) rfl) ?_
    refine JL.nil ?_
    refine JQ.seq ?_
    refine JC.ret ?_
    refine JQ.thenRet ?_
    refine Done.two (.inl rfl) rfl (RV.tmp (v := str []) rfl) (RV.tmp (v := .bool false) rfl) (List.nil_sublist _) ?_
    exact ⟨[], false, (by first | exact hexP_yes (by assumption) | (rw [hexP_no (by assumption), ← hexAcc_nil, hE])), (by first | omega | (simp only [List.length_append, List.length_cons, List.length_nil, List.length_take, List.length_drop]; omega)), rfl, rfl⟩
  · skip
    refine JC.condF (congrArg Value.bool (decide_eq_false h_1)) ?_
    refine JC.skip ?_
    refine JQ.seq ?_
    refine JC.seq ?_
    refine JC.region ?_
    refine JL.op rfl (JO.buildSlice (ps := []) (cur := #[]) Tryz.underlying44 Tryz.sizeOf5 Tryz.zeroValue5 rfl (by kernel_rfl) (by decide) (by decide)) ?_
    rintro _ _ ⟨a_2, rfl, rfl⟩
    refine JL.pure rfl (PO.assign (v := .slice a_2 0 0) rfl) ?_
    refine JL.nil ?_
    refine JQ.seq ?_
    refine JC.seq ?_
    refine JC.seq ?_
    refine JC.region ?_
    refine JL.pure rfl (PO.assign (v := .int .i64 0) rfl) ?_
    refine JL.nil ?_
    refine JQ.seq ?_
    refine JC.block ?_
    refine JC.loop (fun k_ e_ L_ => ∃ j : Nat, ∃ out_a : Option Addr, ∃ out_c : Nat, ∃ out_ : Str, (j ≤ s.length) ∧ (out_.length ≤ 2 * j) ∧ (hexAcc (s.drop j) out_ = hexAcc s ([] : List UInt8)) ∧ e_ 0 = str s ∧ e_ 2 = str [] ∧ e_ 3 = .bool false ∧ e_ 4 = .slice out_a out_.length out_c ∧ e_ 5 = .int .i64 ((j : Nat) : Int) ∧ L_ = [Res.row (.slice out_a out_.length out_c) 5 1 out_.length (out_.map encB)] ∧ k_ = s.length - j) _ ⟨0, a_2, 0, ([] : List UInt8), by omega, (by first | omega | (simp only [List.length_append, List.length_cons, List.length_nil, List.length_take, List.length_drop]; omega)), rfl, rfl, rfl, rfl, rfl, rfl, rfl, rfl⟩ ?_
    rintro _ e_3 _ ⟨j, out_a, out_c, out_, hj, ho, hR, he_4, he_5, he_6, he_7, he_8, rfl, rfl⟩
    refine JC.seq ?_
    refine JC.seq ?_
    refine JC.region ?_
    refine JL.pure rfl (PO.move (v := .int .i64 ((j : Nat) : Int)) he_8) ?_
    refine JL.pure rfl (PO.move (v := str s) he_4) ?_
    refine JL.pure rfl (PO.lenS Tryz.underlying9 rfl) ?_
    refine JL.pure rfl (PO.lss rfl rfl) ?_
    refine JL.nil ?_
    refine JQ.seq ?_
    by_cases h_9 : ((j : Nat) : Int) < (s.length : Int)
    · skip
      have hlt : j < s.length := by omega
      have hu8 := UInt8.toNat_lt (s.getD j 0)
      refine JC.condT (congrArg Value.bool (decide_eq_true h_9)) ?_
      refine JC.skip ?_
      refine JQ.seq ?_
      refine JC.seq ?_
      refine JC.block ?_
      refine JC.regionA [] 15 mixed (by simp) ?_
      refine JA.takeP 0 rfl (by kernel_rfl) (NP.bl (NP.th (NP.th (NP.bl (NP.th NP.body))))) (by kernel_rfl) (by kernel_rfl) rfl (PO.move (v := .slice out_a out_.length out_c) he_7) ?_
      refine JA.takeP 1 rfl (by kernel_rfl) (NP.bl (NP.th (NP.th (NP.bl (NP.th NP.body))))) (by kernel_rfl) (by kernel_rfl) rfl (PO.move (v := str s) he_4) ?_
      refine JA.takeP 2 rfl (by kernel_rfl) (NP.bl (NP.th (NP.th (NP.bl (NP.th NP.body))))) (by kernel_rfl) (by kernel_rfl) rfl (PO.move (v := .int .i64 ((j : Nat) : Int)) he_8) ?_
      refine JA.takeP 3 rfl (by kernel_rfl) (NP.bl (NP.th (NP.th (NP.bl (NP.th NP.body))))) (by kernel_rfl) (by kernel_rfl) rfl (PO.indexS (i := j) (c := s.getD j 0) Tryz.underlying9 rfl rfl (getD_some (by omega))) ?_
      refine JA.takeP 4 rfl (by kernel_rfl) (NP.bl (NP.th (NP.th (NP.bl (NP.th NP.body))))) (by kernel_rfl) (by kernel_rfl) rfl (PO.convI (c := ((s.getD j 0).toNat : Int)) Tryz.underlying5 Tryz.underlying3 rfl (wr (by omega))) ?_
      refine JA.takeP 5 rfl (by kernel_rfl) (NP.bl (NP.th (NP.th (NP.bl (NP.th NP.body))))) (by kernel_rfl) (by kernel_rfl) rfl (PO.quoN (c := ((((s.getD j 0).toNat) / 16 : Nat) : Int)) rfl rfl (by omega) (by omega) (by omega) (wr (by omega))) ?_
      refine JA.takeP 7 rfl (by kernel_rfl) (NP.bl (NP.th (NP.th (NP.bl (NP.th NP.body))))) (by kernel_rfl) (by kernel_rfl) rfl (PO.move (v := str s) he_4) ?_
      refine JA.takeP 8 rfl (by kernel_rfl) (NP.bl (NP.th (NP.th (NP.bl (NP.th NP.body))))) (by kernel_rfl) (by kernel_rfl) rfl (PO.move (v := .int .i64 ((j : Nat) : Int)) he_8) ?_
      refine JA.takeP 9 rfl (by kernel_rfl) (NP.bl (NP.th (NP.th (NP.bl (NP.th NP.body))))) (by kernel_rfl) (by kernel_rfl) rfl (PO.indexS (i := j) (c := s.getD j 0) Tryz.underlying9 rfl rfl (getD_some (by omega))) ?_
      refine JA.takeP 10 rfl (by kernel_rfl) (NP.bl (NP.th (NP.th (NP.bl (NP.th NP.body))))) (by kernel_rfl) (by kernel_rfl) rfl (PO.convI (c := ((s.getD j 0).toNat : Int)) Tryz.underlying5 Tryz.underlying3 rfl (wr (by omega))) ?_
      refine JA.takeP 11 rfl (by kernel_rfl) (NP.bl (NP.th (NP.th (NP.bl (NP.th NP.body))))) (by kernel_rfl) (by kernel_rfl) rfl (PO.remN (c := ((((s.getD j 0).toNat) % 16 : Nat) : Int)) rfl rfl (by omega) (by omega) (by omega)) ?_
      refine JA.one (i := 6) (by kernel_rfl) ?_
      refine JX.op rfl rfl (JO.call [] Tryz.call285 rfl (N_figure (((s.getD j 0).toNat) / 16) (by omega)) rfl (fun _ _ => trivial)) ?_
      rintro _ _ ⟨_, ⟨rfl, rfl⟩, rfl⟩
      refine ⟨(fun _ h => by cases h), ?_⟩
      refine JA.one (i := 12) (by kernel_rfl) ?_
      refine JX.op rfl rfl (JO.call [] Tryz.call285 rfl (N_figure (((s.getD j 0).toNat) % 16) (by omega)) rfl (fun _ _ => trivial)) ?_
      rintro _ _ ⟨_, ⟨rfl, rfl⟩, rfl⟩
      refine ⟨(fun _ h => by cases h), ?_⟩
      refine JA.one (i := 13) (by kernel_rfl) ?_
      refine JX.op rfl rfl (JO.buildSlice (ps := [(0, .int .u8 (((hexFig (((s.getD j 0).toNat) / 16)).toNat : Nat) : Int)), (1, .int .u8 (((hexFig (((s.getD j 0).toNat) % 16)).toNat : Nat) : Int))]) (cur := #[.int .u8 (((hexFig (((s.getD j 0).toNat) / 16)).toNat : Nat) : Int), .int .u8 (((hexFig (((s.getD j 0).toNat) % 16)).toNat : Nat) : Int)]) Tryz.underlying44 Tryz.sizeOf5 Tryz.zeroValue5 rfl (by kernel_rfl) (by decide) (by decide)) ?_
      rintro _ _ ⟨a_11, rfl, rfl⟩
      refine ⟨(fun _ h => by cases h), ?_⟩
      refine JA.one (i := 14) (by kernel_rfl) ?_
      refine JX.op rfl rfl (JO.append' 1 (q := 2) (news := ([hexFig (((s.getD j 0).toNat) / 16), hexFig (((s.getD j 0).toNat) % 16)] : List UInt8).map encB) (n' := (out_ ++ ([hexFig (((s.getD j 0).toNat) / 16), hexFig (((s.getD j 0).toNat) % 16)] : List UInt8)).length) (cs' := (out_ ++ ([hexFig (((s.getD j 0).toNat) / 16), hexFig (((s.getD j 0).toNat) % 16)] : List UInt8)).map encB) rfl Tryz.underlying44 Tryz.underlying44 Tryz.typeInfo5 rfl (by' := 1) rfl rfl rfl rfl rfl (fun w hw => Src.sees (hw.see (i := 0) rfl) (oneB _)) (by (try simp only [List.length_append, List.length_cons, List.length_nil, List.length_take, List.length_drop]); omega) (by (try simp only [List.length_append, List.length_cons, List.length_nil, List.length_take, List.length_drop]); omega) (by simp only [List.length_append, List.length_take, List.length_drop, List.length_cons, List.length_nil] <;> first | rfl | omega) (by simp only [List.map_append])) ?_
      rintro _ _ ⟨a_14, c_15, rfl, rfl⟩
      refine ⟨(fun _ h => by cases h), ?_⟩
      refine JA.takeP 15 rfl (by kernel_rfl) (NP.bl (NP.th (NP.th (NP.bl (NP.th NP.body))))) (by kernel_rfl) (by kernel_rfl) rfl (PO.assign (v := .slice a_14 ((out_ ++ ([hexFig (((s.getD j 0).toNat) / 16), hexFig (((s.getD j 0).toNat) % 16)] : List UInt8)).length) c_15) rfl) ?_
      refine JA.done (by kernel_rfl) ?_
      refine JQ.blockN ?_
      refine JQ.seq ?_
      refine JC.region ?_
      refine JL.pure rfl (PO.move (v := .int .i64 ((j : Nat) : Int)) he_8) ?_
      refine JL.pure rfl (PO.add (c := ((j + 1 : Nat) : Int)) rfl rfl (wr (by omega))) ?_
      refine JL.pure rfl (PO.assign (v := .int .i64 ((j + 1 : Nat) : Int)) rfl) ?_
      refine JL.nil ?_
      refine JQ.pick [1] (A := [Res.row (.slice a_14 ((out_ ++ ([hexFig (((s.getD j 0).toNat) / 16), hexFig (((s.getD j 0).toNat) % 16)] : List UInt8)).length) c_15) 5 1 ((out_ ++ ([hexFig (((s.getD j 0).toNat) / 16), hexFig (((s.getD j 0).toNat) % 16)] : List UInt8)).length) ((out_ ++ ([hexFig (((s.getD j 0).toNat) / 16), hexFig (((s.getD j 0).toNat) % 16)] : List UInt8)).map encB)]) rfl ?_
      refine JQ.again (s.length - (j + 1)) (by omega) ⟨j + 1, a_14, c_15, (out_ ++ ([hexFig (((s.getD j 0).toNat) / 16), hexFig (((s.getD j 0).toNat) % 16)] : List UInt8)), by omega, (by first | omega | (simp only [List.length_append, List.length_cons, List.length_nil, List.length_take, List.length_drop]; omega)), (by rw [drop_at (getD_some (d := 0) hlt)] at hR; simp only [hexAcc, h_1, h_9, if_true, if_false, Bool.false_eq_true, Bool.not_true, Bool.not_false] at hR; (repeat (first | rw [if_pos (by omega)] at hR | rw [if_neg (by omega)] at hR)); exact hR), he_4, he_5, he_6, rfl, rfl, rfl, rfl⟩
    · skip
      rw [List.drop_of_length_le (by omega)] at hR
      simp only [hexAcc] at hR
      have hE := hR.symm
      refine JC.condF (congrArg Value.bool (decide_eq_false h_9)) ?_
      refine JC.exit ?_
      refine JQ.thenExit ?_
      refine JQ.thenExit ?_
      refine JQ.blockE ?_
      refine JQ.seq ?_
      refine JC.seq ?_
      refine JC.region ?_
      refine JL.pure rfl (PO.move (v := .slice out_a out_.length out_c) he_7) ?_
      refine JL.ld rfl (LO.toStr 0 out_ rfl Tryz.underlying44 Tryz.underlying5 Tryz.underlying9 rfl rfl) ?_
      refine JL.pure rfl (PO.assign (v := str out_) rfl) ?_
      refine JL.pure rfl (PO.assign (v := .bool true) rfl) ?_
      refine JL.nil ?_
      refine JQ.seq ?_
      refine JC.ret ?_
      refine Done.two (.inl rfl) rfl (RV.tmp (v := str out_) rfl) (RV.tmp (v := .bool true) rfl) (List.nil_sublist _) ?_
      exact ⟨out_, true, (by first | exact hexP_yes (by assumption) | (rw [hexP_no (by assumption), ← hexAcc_nil, hE])), (by first | omega | (simp only [List.length_append, List.length_cons, List.length_nil, List.length_take, List.length_drop]; omega)), rfl, rfl⟩

theorem N_hex (s : Str) (hs : s.length ≤ 1000000000000) :
    Ct Tryz.prog 283 [str s] ([]) (fun _ => True) (fun v A' => ∃ r0 r1, hexP s = (r0, r1) ∧ r0.length ≤ 40000 ∧ v = .tuple #[str r0, .bool r1] ∧ A' = []) := by
  refine Ct.intro Tryz.func283 rfl Tryz.ntmps283 (Nat.le_of_ble_eq_true rfl) fun w0 hpre => ?_
  refine JC.seq ?_
  refine JC.region ?_
  refine JL.pure rfl (PO.assign (v := str []) rfl) ?_
  refine JL.pure rfl (PO.assign (v := .bool false) rfl) ?_
  refine JL.nil ?_
  refine JQ.seq ?_
  refine JC.seq ?_
  refine JC.seq ?_
  refine JC.region ?_
  refine JL.pure rfl (PO.move (v := str s) rfl) ?_
  refine JL.pure rfl (PO.lenS Tryz.underlying9 rfl) ?_
  refine JL.pure rfl (PO.gtr rfl rfl) ?_
  refine JL.nil ?_
  refine JQ.seq ?_
  by_cases h_1 : 20000 < (s.length : Int)
  · skip
    refine JC.condT (congrArg Value.bool (decide_eq_true h_1)) ?_
    refine JC.seq ?_
    refine JC.region ?_
    refine JL.pure rfl (PO.assign (v := str []) rfl) ?_
    refine JL.pure rfl (PO.assign (v := .bool false) rfl) ?_
    refine JL.nil ?_
    refine JQ.seq ?_
    refine JC.ret ?_
    refine JQ.thenRet ?_
    refine Done.two (.inl rfl) rfl (RV.tmp (v := str []) rfl) (RV.tmp (v := .bool false) rfl) (List.nil_sublist _) ?_
    exact ⟨[], false, (by first | exact hexP_yes (by assumption) | exact hexP_no (by assumption)), (by first | (rw [hexB_len]; omega) | (simp only [List.length_nil]; omega)), rfl, rfl⟩
  · skip
    refine JC.condF (congrArg Value.bool (decide_eq_false h_1)) ?_
    refine JC.skip ?_
    refine JQ.seq ?_
    refine JC.seq ?_
    refine JC.region ?_
    refine JL.pure rfl (PO.move (v := str s) rfl) ?_
    refine JL.op rfl (JO.toBytes Tryz.underlying9 Tryz.underlying44 Tryz.underlying5 rfl (by unfold maxLen; omega)) ?_
    rintro _ _ ⟨a_2, c_3, rfl, rfl⟩
    refine JL.op rfl (JO.call [] Tryz.call289 rfl (N_hexEnc a_2 c_3 s (by omega)) rfl (fun w hw => hw.see (i := 0) rfl)) ?_
    rintro _ _ ⟨_, ⟨rfl, rfl⟩, rfl⟩
    refine JL.pure rfl (PO.assign (v := str (hexB s)) rfl) ?_
    refine JL.pure rfl (PO.assign (v := .bool true) rfl) ?_
    refine JL.nil ?_
    refine JQ.seq ?_
    refine JC.ret ?_
    refine Done.two (.inl rfl) rfl (RV.tmp (v := str (hexB s)) rfl) (RV.tmp (v := .bool true) rfl) (List.nil_sublist _) ?_
    exact ⟨(hexB s), true, (by first | exact hexP_yes (by assumption) | exact hexP_no (by assumption)), (by first | (rw [hexB_len]; omega) | (simp only [List.length_nil]; omega)), rfl, rfl⟩

theorem N_hexOf (s : Str) (hs : s.length ≤ 1000000000000) :
    Ct Tryz.prog 250 [str s] ([]) (fun _ => True) (fun v A' => ∃ r0, hexS s = r0 ∧ r0.length ≤ 40000 ∧ v = str r0 ∧ A' = []) := by
  refine Ct.intro Tryz.func250 rfl Tryz.ntmps250 (Nat.le_of_ble_eq_true rfl) fun w0 hpre => ?_
  refine JC.seq ?_
  refine JC.region ?_
  refine JL.pure rfl (PO.assign (v := str []) rfl) ?_
  refine JL.nil ?_
  refine JQ.seq ?_
  refine JC.seq ?_
  refine JC.region ?_
  refine JL.pure rfl (PO.move (v := str s) rfl) ?_
  refine JL.op rfl (JO.call [] Tryz.call283 rfl (N_hex s (by omega)) rfl (fun _ _ => trivial)) ?_
  rintro _ _ ⟨_, ⟨u_3, b_5, e_1, f_4, rfl, rfl⟩, rfl⟩
  refine JL.pure rfl (PO.move (v := .tuple #[str u_3, .bool b_5]) rfl) ?_
  refine JL.pure rfl (PO.extract (v := str u_3) rfl rfl) ?_
  refine JL.pure rfl (PO.extract (v := .bool b_5) rfl rfl) ?_
  refine JL.pure rfl (PO.assign (v := str u_3) rfl) ?_
  refine JL.pure rfl (PO.assign (v := .bool b_5) rfl) ?_
  refine JL.nil ?_
  refine JQ.seq ?_
  refine JC.seq ?_
  refine JC.region ?_
  refine JL.pure rfl (PO.move (v := str u_3) rfl) ?_
  refine JL.pure rfl (PO.assign (v := str u_3) rfl) ?_
  refine JL.nil ?_
  refine JQ.seq ?_
  refine JC.ret ?_
  refine Done.one (.inl rfl) rfl (RV.tmp (v := str u_3) rfl) (List.nil_sublist _) ?_
  exact ⟨u_3, (by simp only [hexS_P, e_1, if_true, if_false, Bool.false_eq_true, Bool.not_true, Bool.not_false]; (repeat (first | rw [if_pos (by omega)] | rw [if_neg (by omega)])); all_goals (first | rfl | simp only [if_true, if_false, Bool.false_eq_true, Bool.not_true, Bool.not_false, e_1])), (by first | omega | (simp only [List.length_append, List.length_cons, List.length_nil, List.length_take, List.length_drop]; omega)), rfl, rfl⟩

theorem N_unhex (t : Str) (ht : t.length ≤ 1000000000000) :
    Ct Tryz.prog 272 [str t] ([]) (fun w => HexOk w) (fun v A' => ∃ r0 r1, unhex t = (r0, r1) ∧ r0.length ≤ 20000 ∧ v = .tuple #[str r0, .bool r1] ∧ A' = []) := by
  refine Ct.introL Tryz.func272 rfl Tryz.ntmps272 (Nat.le_of_ble_eq_true rfl) fun w0 hpre hlow => ?_
  refine JC.seq ?_
  refine JC.region ?_
  refine JL.pure rfl (PO.assign (v := str []) rfl) ?_
  refine JL.pure rfl (PO.assign (v := .bool false) rfl) ?_
  refine JL.nil ?_
  refine JQ.seq ?_
  refine JC.seq ?_
  refine JC.region ?_
  refine JL.pure rfl (PO.move (v := str t) rfl) ?_
  refine JL.op rfl (JO.call [] Tryz.call288 rfl (N_hexDec t (by omega)) rfl (fun w hw => hw.hex hlow hpre)) ?_
  rintro _ _ ⟨_, ⟨da, dc, dr, ⟨hd, rfl⟩ | ⟨hd, te, pe, rfl⟩, rfl⟩, rfl⟩
  · skip
    refine JL.pure rfl (PO.move (v := .tuple #[.slice da dr.length dc, .nilIface]) rfl) ?_
    refine JL.pure rfl (PO.extract (v := .slice da dr.length dc) rfl rfl) ?_
    refine JL.pure rfl (PO.extract (v := .nilIface) rfl rfl) ?_
    refine JL.pure rfl (PO.assign (v := .slice da dr.length dc) rfl) ?_
    refine JL.pure rfl (PO.assign (v := .nilIface) rfl) ?_
    refine JL.nil ?_
    refine JQ.seq ?_
    refine JC.seq ?_
    refine JC.seq ?_
    refine JC.region ?_
    refine JL.pure rfl (PO.move (v := .nilIface) rfl) ?_
    refine JL.pure rfl (PO.neqIfN Tryz.underlying176 rfl rfl) ?_
    refine JL.pure rfl (PO.move (v := .bool false) rfl) ?_
    refine JL.guardOn rfl rfl rfl (congrArg Value.bool rfl) (JO.ofLO (LO.pure (PO.move (v := .slice da dr.length dc) rfl))) ?_
    rintro _ _ ⟨rfl, rfl⟩
    refine JL.guardOn rfl rfl rfl (congrArg Value.bool rfl) (JO.ofLO (LO.pure (PO.lenV Tryz.underlying44 rfl))) ?_
    rintro _ _ ⟨rfl, rfl⟩
    refine JL.guardOn rfl rfl rfl (congrArg Value.bool rfl) (JO.ofLO (LO.pure (PO.gtr rfl rfl))) ?_
    rintro _ _ ⟨rfl, rfl⟩
    refine JL.pure rfl (PO.pickF (v := .bool (decide (20000 < ((dr.length : Nat) : Int)))) (congrArg Value.bool rfl) rfl) ?_
    refine JL.pure rfl (PO.move (v := .bool (decide (20000 < ((dr.length : Nat) : Int)))) rfl) ?_
    by_cases h_1 : 20000 < ((dr.length : Nat) : Int)
    · skip
      refine JL.guardOff (b := true) rfl rfl rfl (congrArg Value.bool (decide_eq_true h_1)) ?_
      refine JL.guardOff (b := true) rfl rfl rfl (congrArg Value.bool (decide_eq_true h_1)) ?_
      refine JL.guardOff (b := true) rfl rfl rfl (congrArg Value.bool (decide_eq_true h_1)) ?_
      refine JL.guardOff (b := true) rfl rfl rfl (congrArg Value.bool (decide_eq_true h_1)) ?_
      refine JL.pure rfl (PO.pickT (v := .bool true) (congrArg Value.bool (decide_eq_true h_1)) rfl) ?_
      refine JL.nil ?_
      refine JQ.seq ?_
      refine JC.condT (congrArg Value.bool rfl) ?_
      refine JC.seq ?_
      refine JC.region ?_
      refine JL.pure rfl (PO.assign (v := str []) rfl) ?_
      refine JL.pure rfl (PO.assign (v := .bool false) rfl) ?_
      refine JL.nil ?_
      refine JQ.seq ?_
      refine JC.ret ?_
      refine JQ.thenRet ?_
      refine Done.two (.inl rfl) rfl (RV.tmp (v := str []) rfl) (RV.tmp (v := .bool false) rfl) (List.nil_sublist _) ?_
      exact ⟨[], false, (by first | exact unhex_err hd | exact unhex_long hd (by assumption) | exact unhex_ne hd (by assumption) | exact unhex_yes hd (by assumption) (by assumption)), (by first | omega | (simp only [List.length_append, List.length_cons, List.length_nil, List.length_take, List.length_drop]; omega)), rfl, rfl⟩
    · skip
      refine JL.guardOn rfl rfl rfl (congrArg Value.bool (decide_eq_false h_1)) (JO.ofLO (LO.pure (PO.move (v := .slice da dr.length dc) rfl))) ?_
      rintro _ _ ⟨rfl, rfl⟩
      refine JL.guardOn rfl rfl rfl (congrArg Value.bool (decide_eq_false h_1)) (JO.call [] Tryz.call289 rfl (N_hexEnc da dc dr (by omega)) rfl (fun w hw => hw.see (i := 0) rfl)) ?_
      rintro _ _ ⟨_, ⟨rfl, rfl⟩, rfl⟩
      refine JL.guardOn rfl rfl rfl (congrArg Value.bool (decide_eq_false h_1)) (JO.ofLO (LO.pure (PO.move (v := str t) rfl))) ?_
      rintro _ _ ⟨rfl, rfl⟩
      refine JL.guardOn rfl rfl rfl (congrArg Value.bool (decide_eq_false h_1)) (JO.ofLO (LO.pure (PO.neqS rfl rfl))) ?_
      rintro _ _ ⟨rfl, rfl⟩
      refine JL.pure rfl (PO.pickF (v := .bool (!(decide ((hexB dr) = t)))) (congrArg Value.bool (decide_eq_false h_1)) rfl) ?_
      refine JL.nil ?_
      refine JQ.seq ?_
      by_cases h_2 : (hexB dr) = t
      · skip
        refine JC.condF (congrArg Value.bool (congrArg Bool.not (decide_eq_true h_2))) ?_
        refine JC.skip ?_
        refine JQ.seq ?_
        refine JC.seq ?_
        refine JC.region ?_
        refine JL.pure rfl (PO.move (v := .slice da dr.length dc) rfl) ?_
        refine JL.ld rfl (LO.toStr 0 dr rfl Tryz.underlying44 Tryz.underlying5 Tryz.underlying9 rfl rfl) ?_
        refine JL.pure rfl (PO.assign (v := str dr) rfl) ?_
        refine JL.pure rfl (PO.assign (v := .bool true) rfl) ?_
        refine JL.nil ?_
        refine JQ.seq ?_
        refine JC.ret ?_
        refine Done.two (.inl rfl) rfl (RV.tmp (v := str dr) rfl) (RV.tmp (v := .bool true) rfl) (List.nil_sublist _) ?_
        exact ⟨dr, true, (by first | exact unhex_err hd | exact unhex_long hd (by assumption) | exact unhex_ne hd (by assumption) | exact unhex_yes hd (by assumption) (by assumption)), (by first | omega | (simp only [List.length_append, List.length_cons, List.length_nil, List.length_take, List.length_drop]; omega)), rfl, rfl⟩
      · skip
        refine JC.condT (congrArg Value.bool (congrArg Bool.not (decide_eq_false h_2))) ?_
        refine JC.seq ?_
        refine JC.region ?_
        refine JL.pure rfl (PO.assign (v := str []) rfl) ?_
        refine JL.pure rfl (PO.assign (v := .bool false) rfl) ?_
        refine JL.nil ?_
        refine JQ.seq ?_
        refine JC.ret ?_
        refine JQ.thenRet ?_
        refine Done.two (.inl rfl) rfl (RV.tmp (v := str []) rfl) (RV.tmp (v := .bool false) rfl) (List.nil_sublist _) ?_
        exact ⟨[], false, (by first | exact unhex_err hd | exact unhex_long hd (by assumption) | exact unhex_ne hd (by assumption) | exact unhex_yes hd (by assumption) (by assumption)), (by first | omega | (simp only [List.length_append, List.length_cons, List.length_nil, List.length_take, List.length_drop]; omega)), rfl, rfl⟩
  · skip
    refine JL.pure rfl (PO.move (v := .tuple #[.slice da dr.length dc, (.iface te pe)]) rfl) ?_
    refine JL.pure rfl (PO.extract (v := .slice da dr.length dc) rfl rfl) ?_
    refine JL.pure rfl (PO.extract (v := (.iface te pe)) rfl rfl) ?_
    refine JL.pure rfl (PO.assign (v := .slice da dr.length dc) rfl) ?_
    refine JL.pure rfl (PO.assign (v := (.iface te pe)) rfl) ?_
    refine JL.nil ?_
    refine JQ.seq ?_
    refine JC.seq ?_
    refine JC.seq ?_
    refine JC.region ?_
    refine JL.pure rfl (PO.move (v := (.iface te pe)) rfl) ?_
    refine JL.pure rfl (PO.neqIfS Tryz.underlying176 rfl rfl) ?_
    refine JL.pure rfl (PO.move (v := .bool true) rfl) ?_
    refine JL.guardOff (b := true) rfl rfl rfl (congrArg Value.bool rfl) ?_
    refine JL.guardOff (b := true) rfl rfl rfl (congrArg Value.bool rfl) ?_
    refine JL.guardOff (b := true) rfl rfl rfl (congrArg Value.bool rfl) ?_
    refine JL.pure rfl (PO.pickT (v := .bool true) (congrArg Value.bool rfl) rfl) ?_
    refine JL.pure rfl (PO.move (v := .bool true) rfl) ?_
    refine JL.guardOff (b := true) rfl rfl rfl (congrArg Value.bool rfl) ?_
    refine JL.guardOff (b := true) rfl rfl rfl (congrArg Value.bool rfl) ?_
    refine JL.guardOff (b := true) rfl rfl rfl (congrArg Value.bool rfl) ?_
    refine JL.guardOff (b := true) rfl rfl rfl (congrArg Value.bool rfl) ?_
    refine JL.pure rfl (PO.pickT (v := .bool true) (congrArg Value.bool rfl) rfl) ?_
    refine JL.nil ?_
    refine JQ.seq ?_
    refine JC.condT (congrArg Value.bool rfl) ?_
    refine JC.seq ?_
    refine JC.region ?_
    refine JL.pure rfl (PO.assign (v := str []) rfl) ?_
    refine JL.pure rfl (PO.assign (v := .bool false) rfl) ?_
    refine JL.nil ?_
    refine JQ.seq ?_
    refine JC.ret ?_
    refine JQ.thenRet ?_
    refine Done.two (.inl rfl) rfl (RV.tmp (v := str []) rfl) (RV.tmp (v := .bool false) rfl) (List.nil_sublist _) ?_
    exact ⟨[], false, (by first | exact unhex_err hd | exact unhex_long hd (by assumption) | exact unhex_ne hd (by assumption) | exact unhex_yes hd (by assumption) (by assumption)), (by first | omega | (simp only [List.length_append, List.length_cons, List.length_nil, List.length_take, List.length_drop]; omega)), rfl, rfl⟩

theorem N_messageOf (q : Str) (hq : q.length ≤ 1000000000000) :
    Ct Tryz.prog 213 [str q] ([]) (fun w => HexOk w) (fun v A' => ∃ r0, messageOf q = r0 ∧ r0.length ≤ 20000 ∧ v = str r0 ∧ A' = []) := by
  refine Ct.introL Tryz.func213 rfl Tryz.ntmps213 (Nat.le_of_ble_eq_true rfl) fun w0 hpre hlow => ?_
  refine JC.seq ?_
  refine JC.region ?_
  refine JL.pure rfl (PO.assign (v := str []) rfl) ?_
  refine JL.nil ?_
  refine JQ.seq ?_
  refine JC.seq ?_
  refine JC.region ?_
  refine JL.pure rfl (PO.move (v := str q) rfl) ?_
  refine JL.op rfl (JO.call [] Tryz.call273 rfl (N_cutPrefix q [45]) rfl (fun _ _ => trivial)) ?_
  rintro _ _ ⟨_, ⟨u_3, b_5, e_1, f_4, rfl, rfl⟩, rfl⟩
  refine JL.pure rfl (PO.move (v := .tuple #[str u_3, .bool b_5]) rfl) ?_
  refine JL.pure rfl (PO.extract (v := str u_3) rfl rfl) ?_
  refine JL.pure rfl (PO.extract (v := .bool b_5) rfl rfl) ?_
  refine JL.pure rfl (PO.assign (v := str u_3) rfl) ?_
  refine JL.pure rfl (PO.assign (v := .bool b_5) rfl) ?_
  refine JL.nil ?_
  refine JQ.seq ?_
  refine JC.seq ?_
  refine JC.seq ?_
  refine JC.region ?_
  refine JL.pure rfl (PO.move (v := .bool b_5) rfl) ?_
  refine JL.pure rfl (PO.not rfl) ?_
  refine JL.nil ?_
  refine JQ.seq ?_
  rcases Bool.eq_false_or_eq_true (b_5) with h_6 | h_6
  · skip
    have hm := messageOf_cutT (e_1.trans (congrArg _ h_6))
    refine JC.condF (congrArg Value.bool (congrArg Bool.not h_6)) ?_
    refine JC.skip ?_
    refine JQ.seq ?_
    refine JC.seq ?_
    refine JC.region ?_
    refine JL.pure rfl (PO.move (v := str u_3) rfl) ?_
    refine JL.op rfl (JO.call [] Tryz.call272 rfl (N_unhex u_3 (by omega)) rfl (fun w hw => hw.hex hlow hpre)) ?_
    rintro _ _ ⟨_, ⟨u_9, b_11, e_7, f_10, rfl, rfl⟩, rfl⟩
    refine JL.pure rfl (PO.move (v := .tuple #[str u_9, .bool b_11]) rfl) ?_
    refine JL.pure rfl (PO.extract (v := str u_9) rfl rfl) ?_
    refine JL.pure rfl (PO.extract (v := .bool b_11) rfl rfl) ?_
    refine JL.pure rfl (PO.assign (v := str u_9) rfl) ?_
    refine JL.pure rfl (PO.assign (v := .bool b_11) rfl) ?_
    refine JL.nil ?_
    refine JQ.seq ?_
    refine JC.seq ?_
    refine JC.region ?_
    refine JL.pure rfl (PO.move (v := str u_9) rfl) ?_
    refine JL.pure rfl (PO.assign (v := str u_9) rfl) ?_
    refine JL.nil ?_
    refine JQ.seq ?_
    refine JC.ret ?_
    refine Done.one (.inl rfl) rfl (RV.tmp (v := str u_9) rfl) (List.nil_sublist _) ?_
    exact ⟨u_9, (by simp only [if_true, e_1, h_6, hm, e_7, if_true, if_false, Bool.false_eq_true, Bool.not_true, Bool.not_false]; (repeat (first | rw [if_pos (by omega)] | rw [if_neg (by omega)])); all_goals (first | rfl | simp only [if_true, if_false, Bool.false_eq_true, Bool.not_true, Bool.not_false, e_1, h_6, hm, e_7])), (by first | omega | (simp only [List.length_append, List.length_cons, List.length_nil, List.length_take, List.length_drop]; omega)), rfl, rfl⟩
  · skip
    have hm := messageOf_cutF (e_1.trans (congrArg _ h_6))
    refine JC.condT (congrArg Value.bool (congrArg Bool.not h_6)) ?_
    refine JC.seq ?_
    refine JC.region ?_
    refine JL.pure rfl (PO.assign (v := str []) rfl) ?_
    refine JL.nil ?_
    refine JQ.seq ?_
    refine JC.ret ?_
    refine JQ.thenRet ?_
    refine Done.one (.inl rfl) rfl (RV.tmp (v := str []) rfl) (List.nil_sublist _) ?_
    exact ⟨[], (by simp only [if_true, e_1, h_6, hm, if_true, if_false, Bool.false_eq_true, Bool.not_true, Bool.not_false]; (repeat (first | rw [if_pos (by omega)] | rw [if_neg (by omega)])); all_goals (first | rfl | simp only [if_true, if_false, Bool.false_eq_true, Bool.not_true, Bool.not_false, e_1, h_6, hm])), (by first | omega | (simp only [List.length_append, List.length_cons, List.length_nil, List.length_take, List.length_drop]; omega)), rfl, rfl⟩

theorem N_sUnhex (t : Str) (ht : t.length ≤ 1000000000000) :
    Ct Tryz.prog 220 [str t] ([]) (fun _ => True) (fun v A' => ∃ r0 r1, unhex t = (r0, r1) ∧ r0.length ≤ 20000 ∧ v = .tuple #[str r0, .bool r1] ∧ A' = []) := by
  refine Ct.intro Tryz.func220 rfl Tryz.ntmps220 (Nat.le_of_ble_eq_true rfl) fun w0 hpre => ?_
  refine JC.seq ?_
  refine JC.region ?_
  refine JL.pure rfl (PO.assign (v := str []) rfl) ?_
  refine JL.pure rfl (PO.assign (v := .bool false) rfl) ?_
  refine JL.nil ?_
  refine JQ.seq ?_
  refine JC.seq ?_
  refine JC.seq ?_
  refine JC.region ?_
  refine JL.pure rfl (PO.move (v := str t) rfl) ?_
  refine JL.pure rfl (PO.lenS Tryz.underlying9 rfl) ?_
  refine JL.pure rfl (PO.gtr rfl rfl) ?_
  refine JL.pure rfl (PO.move (v := .bool (decide (40000 < (t.length : Int)))) rfl) ?_
  by_cases h_1 : 40000 < (t.length : Int)
  · skip
    refine JL.guardOff (b := true) rfl rfl rfl (congrArg Value.bool (decide_eq_true h_1)) ?_
    refine JL.guardOff (b := true) rfl rfl rfl (congrArg Value.bool (decide_eq_true h_1)) ?_
    refine JL.guardOff (b := true) rfl rfl rfl (congrArg Value.bool (decide_eq_true h_1)) ?_
    refine JL.guardOff (b := true) rfl rfl rfl (congrArg Value.bool (decide_eq_true h_1)) ?_
    refine JL.pure rfl (PO.pickT (v := .bool true) (congrArg Value.bool (decide_eq_true h_1)) rfl) ?_
    refine JL.nil ?_
    refine JQ.seq ?_
    refine JC.condT (congrArg Value.bool rfl) ?_
    refine JC.seq ?_
    refine JC.region ?_
    refine JL.pure rfl (PO.assign (v := str []) rfl) ?_
    refine JL.pure rfl (PO.assign (v := .bool false) rfl) ?_
    refine JL.nil ?_
    refine JQ.seq ?_
    refine JC.ret ?_
    refine JQ.thenRet ?_
    refine Done.two (.inl rfl) rfl (RV.tmp (v := str []) rfl) (RV.tmp (v := .bool false) rfl) (List.nil_sublist _) ?_
    exact ⟨[], false, (by first | exact unhex_bad (by omega) | exact unhex_some (by rw [List.drop_of_length_le (by omega)] at hR; rw [← hR]; simp [unhexL]) (by assumption) | exact unhex_none (by rw [unhexL_step (by omega)] at hR; simp only [if_true] at hR; rw [if_pos (by omega)] at hR; exact hR.symm)), (by first | omega | (simp only [List.length_append, List.length_cons, List.length_nil, List.length_take, List.length_drop]; omega)), rfl, rfl⟩
  · skip
    refine JL.guardOn rfl rfl rfl (congrArg Value.bool (decide_eq_false h_1)) (JO.ofLO (LO.pure (PO.move (v := str t) rfl))) ?_
    rintro _ _ ⟨rfl, rfl⟩
    refine JL.guardOn rfl rfl rfl (congrArg Value.bool (decide_eq_false h_1)) (JO.ofLO (LO.pure (PO.lenS Tryz.underlying9 rfl))) ?_
    rintro _ _ ⟨rfl, rfl⟩
    refine JL.guardOn rfl rfl rfl (congrArg Value.bool (decide_eq_false h_1)) (JO.ofLO (LO.pure (PO.remN (c := ((t.length % 2 : Nat) : Int)) rfl rfl (by omega) (by omega) (by omega)))) ?_
    rintro _ _ ⟨rfl, rfl⟩
    refine JL.guardOn rfl rfl rfl (congrArg Value.bool (decide_eq_false h_1)) (JO.ofLO (LO.pure (PO.neqI rfl rfl))) ?_
    rintro _ _ ⟨rfl, rfl⟩
    refine JL.pure rfl (PO.pickF (v := .bool (!(decide (((t.length % 2 : Nat) : Int) = 0)))) (congrArg Value.bool (decide_eq_false h_1)) rfl) ?_
    refine JL.nil ?_
    refine JQ.seq ?_
    by_cases h_2 : ((t.length % 2 : Nat) : Int) = 0
    · skip
      refine JC.condF (congrArg Value.bool (congrArg Bool.not (decide_eq_true h_2))) ?_
      refine JC.skip ?_
      refine JQ.seq ?_
      refine JC.seq ?_
      refine JC.region ?_
      refine JL.op rfl (JO.buildSlice (ps := []) (cur := #[]) Tryz.underlying44 Tryz.sizeOf5 Tryz.zeroValue5 rfl (by kernel_rfl) (by decide) (by decide)) ?_
      rintro _ _ ⟨a_3, rfl, rfl⟩
      refine JL.pure rfl (PO.assign (v := .slice a_3 0 0) rfl) ?_
      refine JL.nil ?_
      refine JQ.seq ?_
      refine JC.seq ?_
      refine JC.seq ?_
      refine JC.region ?_
      refine JL.pure rfl (PO.assign (v := .int .i64 0) rfl) ?_
      refine JL.nil ?_
      refine JQ.seq ?_
      refine JC.block ?_
      refine JC.loop (fun k_ e_ L_ => ∃ j : Nat, ∃ oa : Option Addr, ∃ oc : Nat, ∃ o_ : Str, (j ≤ t.length) ∧ ((t.length - j) % 2 = 0) ∧ (o_.length * 2 ≤ j) ∧ ((unhexL (t.drop j)).map (o_ ++ ·) = unhexL t) ∧ e_ 0 = str t ∧ e_ 4 = .slice oa o_.length oc ∧ e_ 5 = .int .i64 ((j : Nat) : Int) ∧ L_ = [Res.row (.slice oa o_.length oc) 5 1 o_.length (o_.map encB)] ∧ k_ = t.length - j) _ ⟨0, a_3, 0, [], by omega, by omega, (by simp), (by simp), rfl, rfl, rfl, rfl, rfl⟩ ?_
      rintro _ e_4 _ ⟨j, oa, oc, o_, hj, hj2, ho, hR, he_5, he_6, he_7, rfl, rfl⟩
      refine JC.seq ?_
      refine JC.seq ?_
      refine JC.region ?_
      refine JL.pure rfl (PO.move (v := .int .i64 ((j : Nat) : Int)) he_7) ?_
      refine JL.pure rfl (PO.move (v := str t) he_5) ?_
      refine JL.pure rfl (PO.lenS Tryz.underlying9 rfl) ?_
      refine JL.pure rfl (PO.lss rfl rfl) ?_
      refine JL.nil ?_
      refine JQ.seq ?_
      by_cases h_8 : ((j : Nat) : Int) < (t.length : Int)
      · skip
        refine JC.condT (congrArg Value.bool (decide_eq_true h_8)) ?_
        refine JC.skip ?_
        refine JQ.seq ?_
        refine JC.seq ?_
        refine JC.block ?_
        refine JC.seq ?_
        refine JC.region ?_
        refine JL.pure rfl (PO.move (v := str t) he_5) ?_
        refine JL.pure rfl (PO.move (v := .int .i64 ((j : Nat) : Int)) he_7) ?_
        refine JL.pure rfl (PO.indexS (i := j) (c := t.getD j 0) Tryz.underlying9 rfl rfl (getD_some (by omega))) ?_
        have hu_9 := UInt8.toNat_lt (t.getD j 0)
        refine JL.op rfl (JO.call [] Tryz.call277 rfl (N_value (t.getD j 0)) rfl (fun _ _ => trivial)) ?_
        rintro _ _ ⟨_, ⟨n_10, e_11, f_12, rfl, rfl⟩, rfl⟩
        refine JL.pure rfl (PO.assign (v := .int .i64 n_10) rfl) ?_
        refine JL.nil ?_
        refine JQ.seq ?_
        refine JC.seq ?_
        refine JC.region ?_
        refine JL.pure rfl (PO.move (v := str t) he_5) ?_
        refine JL.pure rfl (PO.move (v := .int .i64 ((j : Nat) : Int)) he_7) ?_
        refine JL.pure rfl (PO.add (c := ((j + 1 : Nat) : Int)) rfl rfl (wr (by omega))) ?_
        refine JL.pure rfl (PO.indexS (i := j + 1) (c := t.getD (j + 1) 0) Tryz.underlying9 rfl rfl (getD_some (by omega))) ?_
        have hu_13 := UInt8.toNat_lt (t.getD (j + 1) 0)
        refine JL.op rfl (JO.call [] Tryz.call277 rfl (N_value (t.getD (j + 1) 0)) rfl (fun _ _ => trivial)) ?_
        rintro _ _ ⟨_, ⟨n_14, e_15, f_16, rfl, rfl⟩, rfl⟩
        refine JL.pure rfl (PO.assign (v := .int .i64 n_14) rfl) ?_
        refine JL.nil ?_
        refine JQ.seq ?_
        refine JC.seq ?_
        refine JC.seq ?_
        refine JC.region ?_
        refine JL.pure rfl (PO.move (v := .int .i64 n_10) rfl) ?_
        refine JL.pure rfl (PO.lss rfl rfl) ?_
        refine JL.pure rfl (PO.move (v := .bool (decide (n_10 < 0))) rfl) ?_
        by_cases h_17 : n_10 < 0
        · skip
          refine JL.guardOff (b := true) rfl rfl rfl (congrArg Value.bool (decide_eq_true h_17)) ?_
          refine JL.guardOff (b := true) rfl rfl rfl (congrArg Value.bool (decide_eq_true h_17)) ?_
          refine JL.pure rfl (PO.pickT (v := .bool true) (congrArg Value.bool (decide_eq_true h_17)) rfl) ?_
          refine JL.nil ?_
          refine JQ.seq ?_
          refine JC.condT (congrArg Value.bool rfl) ?_
          refine JC.seq ?_
          refine JC.region ?_
          refine JL.pure rfl (PO.assign (v := str []) rfl) ?_
          refine JL.pure rfl (PO.assign (v := .bool false) rfl) ?_
          refine JL.nil ?_
          refine JQ.seq ?_
          refine JC.ret ?_
          refine JQ.thenRet ?_
          refine JQ.blockRet ?_
          refine JQ.thenRet ?_
          refine JQ.thenRet ?_
          refine JQ.blockRet ?_
          refine JQ.thenRet ?_
          refine Done.two (.inl rfl) rfl (RV.tmp (v := str []) rfl) (RV.tmp (v := .bool false) rfl) (List.nil_sublist _) ?_
          exact ⟨[], false, (by first | exact unhex_bad (by omega) | exact unhex_some (by rw [List.drop_of_length_le (by omega)] at hR; rw [← hR]; simp [unhexL]) (by assumption) | exact unhex_none (by rw [unhexL_step (by omega)] at hR; simp only [e_11, e_15] at hR; rw [if_pos (by omega)] at hR; exact hR.symm)), (by first | omega | (simp only [List.length_append, List.length_cons, List.length_nil, List.length_take, List.length_drop]; omega)), rfl, rfl⟩
        · skip
          refine JL.guardOn rfl rfl rfl (congrArg Value.bool (decide_eq_false h_17)) (JO.ofLO (LO.pure (PO.move (v := .int .i64 n_14) rfl))) ?_
          rintro _ _ ⟨rfl, rfl⟩
          refine JL.guardOn rfl rfl rfl (congrArg Value.bool (decide_eq_false h_17)) (JO.ofLO (LO.pure (PO.lss rfl rfl))) ?_
          rintro _ _ ⟨rfl, rfl⟩
          refine JL.pure rfl (PO.pickF (v := .bool (decide (n_14 < 0))) (congrArg Value.bool (decide_eq_false h_17)) rfl) ?_
          refine JL.nil ?_
          refine JQ.seq ?_
          by_cases h_18 : n_14 < 0
          · skip
            refine JC.condT (congrArg Value.bool (decide_eq_true h_18)) ?_
            refine JC.seq ?_
            refine JC.region ?_
            refine JL.pure rfl (PO.assign (v := str []) rfl) ?_
            refine JL.pure rfl (PO.assign (v := .bool false) rfl) ?_
            refine JL.nil ?_
            refine JQ.seq ?_
            refine JC.ret ?_
            refine JQ.thenRet ?_
            refine JQ.blockRet ?_
            refine JQ.thenRet ?_
            refine JQ.thenRet ?_
            refine JQ.blockRet ?_
            refine JQ.thenRet ?_
            refine Done.two (.inl rfl) rfl (RV.tmp (v := str []) rfl) (RV.tmp (v := .bool false) rfl) (List.nil_sublist _) ?_
            exact ⟨[], false, (by first | exact unhex_bad (by omega) | exact unhex_some (by rw [List.drop_of_length_le (by omega)] at hR; rw [← hR]; simp [unhexL]) (by assumption) | exact unhex_none (by rw [unhexL_step (by omega)] at hR; simp only [e_11, e_15] at hR; rw [if_pos (by omega)] at hR; exact hR.symm)), (by first | omega | (simp only [List.length_append, List.length_cons, List.length_nil, List.length_take, List.length_drop]; omega)), rfl, rfl⟩
          · skip
            refine JC.condF (congrArg Value.bool (decide_eq_false h_18)) ?_
            refine JC.skip ?_
            refine JQ.seq ?_
            refine JC.region ?_
            refine JL.pure rfl (PO.move (v := .slice oa o_.length oc) he_6) ?_
            refine JL.pure rfl (PO.move (v := .int .i64 n_10) rfl) ?_
            refine JL.pure rfl (PO.mul (c := 16 * n_10) rfl rfl (wr (by omega))) ?_
            refine JL.pure rfl (PO.move (v := .int .i64 n_14) rfl) ?_
            refine JL.pure rfl (PO.add (c := (16 * n_10) + n_14) rfl rfl (wr (by omega))) ?_
            refine JL.pure rfl (PO.convI (c := (((UInt8.ofNat ((16 * n_10) + n_14).toNat).toNat : Nat) : Int)) Tryz.underlying3 Tryz.underlying5 rfl (wr8u (by omega) rfl)) ?_
            refine JL.op rfl (JO.buildSlice (ps := [(0, .int .u8 (((UInt8.ofNat ((16 * n_10) + n_14).toNat).toNat : Nat) : Int))]) (cur := #[.int .u8 (((UInt8.ofNat ((16 * n_10) + n_14).toNat).toNat : Nat) : Int)]) Tryz.underlying44 Tryz.sizeOf5 Tryz.zeroValue5 rfl (by kernel_rfl) (by decide) (by decide)) ?_
            rintro _ _ ⟨a_19, rfl, rfl⟩
            refine JL.op rfl (JO.append' 1 (q := 1) (news := ([UInt8.ofNat ((16 * n_10) + n_14).toNat] : List UInt8).map encB) (n' := (o_ ++ ([UInt8.ofNat ((16 * n_10) + n_14).toNat] : List UInt8)).length) (cs' := (o_ ++ ([UInt8.ofNat ((16 * n_10) + n_14).toNat] : List UInt8)).map encB) rfl Tryz.underlying44 Tryz.underlying44 Tryz.typeInfo5 rfl (by' := 1) rfl rfl rfl rfl rfl (fun w hw => Src.sees (hw.see (i := 0) rfl) (oneB _)) (by (try simp only [List.length_append, List.length_cons, List.length_nil, List.length_take, List.length_drop]); omega) (by (try simp only [List.length_append, List.length_cons, List.length_nil, List.length_take, List.length_drop]); omega) (by simp only [List.length_append, List.length_take, List.length_drop, List.length_cons, List.length_nil] <;> first | rfl | omega) (by simp only [List.map_append])) ?_
            rintro _ _ ⟨a_20, c_21, rfl, rfl⟩
            refine JL.pure rfl (PO.assign (v := .slice a_20 ((o_ ++ ([UInt8.ofNat ((16 * n_10) + n_14).toNat] : List UInt8)).length) c_21) rfl) ?_
            refine JL.nil ?_
            refine JQ.blockN ?_
            refine JQ.seq ?_
            refine JC.region ?_
            refine JL.pure rfl (PO.move (v := .int .i64 ((j : Nat) : Int)) he_7) ?_
            refine JL.pure rfl (PO.add (c := ((j + 2 : Nat) : Int)) rfl rfl (wr (by omega))) ?_
            refine JL.pure rfl (PO.assign (v := .int .i64 ((j + 2 : Nat) : Int)) rfl) ?_
            refine JL.nil ?_
            refine JQ.pick [1] (A := [Res.row (.slice a_20 ((o_ ++ ([UInt8.ofNat ((16 * n_10) + n_14).toNat] : List UInt8)).length) c_21) 5 1 ((o_ ++ ([UInt8.ofNat ((16 * n_10) + n_14).toNat] : List UInt8)).length) ((o_ ++ ([UInt8.ofNat ((16 * n_10) + n_14).toNat] : List UInt8)).map encB)]) rfl ?_
            refine JQ.again (t.length - (j + 2)) (by omega) ⟨j + 2, a_20, c_21, (o_ ++ ([UInt8.ofNat ((16 * n_10) + n_14).toNat] : List UInt8)), by omega, by omega, (by simp only [List.length_append, List.length_cons, List.length_nil]; omega), (by rw [unhexL_step (by omega)] at hR; simp only [e_11, e_15] at hR; rw [if_neg (by omega)] at hR; exact hR), he_5, rfl, rfl, rfl, rfl⟩
      · skip
        refine JC.condF (congrArg Value.bool (decide_eq_false h_8)) ?_
        refine JC.exit ?_
        refine JQ.thenExit ?_
        refine JQ.thenExit ?_
        refine JQ.blockE ?_
        refine JQ.seq ?_
        refine JC.seq ?_
        refine JC.region ?_
        refine JL.pure rfl (PO.move (v := .slice oa o_.length oc) he_6) ?_
        refine JL.ld rfl (LO.toStr 0 o_ rfl Tryz.underlying44 Tryz.underlying5 Tryz.underlying9 rfl rfl) ?_
        refine JL.pure rfl (PO.assign (v := str o_) rfl) ?_
        refine JL.pure rfl (PO.assign (v := .bool true) rfl) ?_
        refine JL.nil ?_
        refine JQ.seq ?_
        refine JC.ret ?_
        refine Done.two (.inl rfl) rfl (RV.tmp (v := str o_) rfl) (RV.tmp (v := .bool true) rfl) (List.nil_sublist _) ?_
        exact ⟨o_, true, (unhex_some (by rw [List.drop_of_length_le (by omega)] at hR; exact hR.symm.trans (by simp [unhexL])) (by omega)), (by first | omega | (simp only [List.length_append, List.length_cons, List.length_nil, List.length_take, List.length_drop]; omega)), rfl, rfl⟩
    · skip
      refine JC.condT (congrArg Value.bool (congrArg Bool.not (decide_eq_false h_2))) ?_
      refine JC.seq ?_
      refine JC.region ?_
      refine JL.pure rfl (PO.assign (v := str []) rfl) ?_
      refine JL.pure rfl (PO.assign (v := .bool false) rfl) ?_
      refine JL.nil ?_
      refine JQ.seq ?_
      refine JC.ret ?_
      refine JQ.thenRet ?_
      refine Done.two (.inl rfl) rfl (RV.tmp (v := str []) rfl) (RV.tmp (v := .bool false) rfl) (List.nil_sublist _) ?_
      exact ⟨[], false, (by first | exact unhex_bad (by omega) | exact unhex_some (by rw [List.drop_of_length_le (by omega)] at hR; rw [← hR]; simp [unhexL]) (by assumption) | exact unhex_none (by rw [unhexL_step (by omega)] at hR; simp only [if_true] at hR; rw [if_pos (by omega)] at hR; exact hR.symm)), (by first | omega | (simp only [List.length_append, List.length_cons, List.length_nil, List.length_take, List.length_drop]; omega)), rfl, rfl⟩

end Go.Proofs.YtenfajgpdhgknaaGreatDoor

set_option linter.unusedSimpArgs false
set_option linter.unusedVariables false
set_option linter.unnecessarySimpa false
namespace Go.Proofs.YtenfajgpdhgknaaGreatDoor
open Go Go.RowKit
attribute [local irreducible] JL JC JQ JO LO PO JA JX Ct

theorem N_putOut (p : Nat) (x : MA) (m : MS) {S T : Nat} (hk : m.ok S T) (hS : S ≤ 50000000) (hT : T ≤ 50000000) (text : Str) (htext : text.length ≤ 1000000000000) :
    Ct Tryz.prog 211 [.pointer (some ⟨p, 0, none⟩), str text] (mb p x m :: mr x m) (fun _ => True) (fun v A' => ∃ x' m' r0, MS.putOut m text = (m', r0) ∧ m'.ok (S + 2) (T + 3) ∧ (0 ≤ r0 ∧ r0 ≤ 9) ∧ v = .int .i64 r0 ∧ A' = mb p x' m' :: mr x' m') := by
  refine Ct.intro Tryz.func211 rfl Tryz.ntmps211 (Nat.le_of_ble_eq_true rfl) fun w0 hpre => ?_
  refine JC.seq ?_
  refine JC.region ?_
  refine JL.pure rfl (PO.assign (v := .int .i64 0) rfl) ?_
  refine JL.nil ?_
  refine JQ.seq ?_
  refine JC.seq ?_
  refine JC.seq ?_
  refine JC.region ?_
  refine JL.pure rfl (PO.move (v := str text) rfl) ?_
  refine JL.pure rfl (PO.lenS Tryz.underlying9 rfl) ?_
  refine JL.op rfl (JO.call [] Tryz.call143 rfl (C_within (text.length : Int) 1 20) rfl (fun _ _ => trivial)) ?_
  rintro _ _ ⟨_, ⟨rfl, rfl⟩, rfl⟩
  refine JL.pure rfl (PO.not rfl) ?_
  refine JL.nil ?_
  refine JQ.seq ?_
  rcases Bool.eq_false_or_eq_true (decide (1 ≤ (text.length : Int)) && decide ((text.length : Int) ≤ 20)) with h_1 | h_1
  · skip
    have h_1d := h_1
    simp only [Bool.and_eq_true, Bool.and_eq_false_iff, decide_eq_true_eq, decide_eq_false_iff_not] at h_1d
    refine JC.condF (congrArg Value.bool (congrArg Bool.not h_1)) ?_
    refine JC.skip ?_
    refine JQ.seq ?_
    refine JC.seq ?_
    refine JC.region ?_
    refine JL.pure rfl (PO.move (v := .pointer (some ⟨p, 0, none⟩)) rfl) ?_
    refine JL.op rfl (JO.call [0, 0, 0, 0] Tryz.call170 rfl (N_num p x m hk (by omega) (by omega) [100, 47, 110]) rfl (fun _ _ => trivial)) ?_
    rintro _ _ ⟨_, ⟨x_4, m_5, n_6, e_2, k_3, f_7, rfl, rfl⟩, rfl⟩
    refine JL.pure rfl (PO.assign (v := .int .i64 n_6) rfl) ?_
    refine JL.nil ?_
    refine JQ.seq ?_
    refine JC.seq ?_
    refine JC.seq ?_
    refine JC.region ?_
    refine JL.pure rfl (PO.move (v := .int .i64 n_6) rfl) ?_
    refine JL.pure rfl (PO.geq rfl rfl) ?_
    refine JL.nil ?_
    refine JQ.seq ?_
    by_cases h_8 : 40 ≤ n_6
    · skip
      refine JC.condT (congrArg Value.bool (decide_eq_true h_8)) ?_
      refine JC.seq ?_
      refine JC.region ?_
      refine JL.pure rfl (PO.assign (v := .int .i64 3) rfl) ?_
      refine JL.nil ?_
      refine JQ.seq ?_
      refine JC.ret ?_
      refine JQ.thenRet ?_
      refine Done.one (.inl rfl) rfl (RV.tmp (v := .int .i64 3) rfl) (List.Sublist.refl _) ?_
      exact ⟨x_4, m_5, 3, (by simp only [MS.putOut, h_1, e_2, h_8, if_true, if_false, Bool.false_eq_true, Bool.not_true, Bool.not_false]; (repeat (first | rw [if_pos (by omega)] | rw [if_neg (by omega)])); all_goals (first | rfl | simp only [if_true, if_false, Bool.false_eq_true, Bool.not_true, Bool.not_false, h_1, e_2, h_8])), (k_3.mono (by omega) (by omega)), (by first | omega | (simp only [List.length_append, List.length_cons, List.length_nil, List.length_take, List.length_drop]; omega)), rfl, rfl⟩
    · skip
      refine JC.condF (congrArg Value.bool (decide_eq_false h_8)) ?_
      refine JC.skip ?_
      refine JQ.seq ?_
      refine JC.seq ?_
      refine JC.region ?_
      refine JL.pure rfl (PO.move (v := .pointer (some ⟨p, 0, none⟩)) rfl) ?_
      refine JL.pure rfl (PO.move (v := .int .i64 n_6) rfl) ?_
      refine JL.pure rfl (PO.add (c := n_6 + 1) rfl rfl (wr (by omega))) ?_
      refine JL.op rfl (JO.call [0, 0, 0, 0] Tryz.call241 rfl (N_setNum p x_4 m_5 k_3 (by omega) (by omega) [100, 47, 110] (n_6 + 1) (by decide) (by omega)) rfl (fun _ _ => trivial)) ?_
      rintro _ _ ⟨_, ⟨x_11, m_12, e_9, k_10, rfl, rfl⟩, rfl⟩
      refine JL.nil ?_
      refine JQ.seq ?_
      refine JC.seq ?_
      refine JC.region ?_
      refine JL.pure rfl (PO.move (v := .pointer (some ⟨p, 0, none⟩)) rfl) ?_
      refine JL.pure rfl (PO.move (v := .int .i64 n_6) rfl) ?_
      refine JL.pure rfl (PO.add (c := n_6 + 1) rfl rfl (wr (by omega))) ?_
      refine JL.op rfl (JO.call [] Tryz.call215 rfl (N_keyNum [100, 47] (n_6 + 1) [] (show List.length ([100, 47] : Str) ≤ 2 by decide) (by omega) (show List.length ([] : Str) ≤ 0 by decide) (by omega)) rfl (fun _ _ => trivial)) ?_
      rintro _ _ ⟨_, ⟨u_15, e_13, f_16, rfl, rfl⟩, rfl⟩
      refine JL.pure rfl (PO.move (v := str text) rfl) ?_
      refine JL.op rfl (JO.call [] Tryz.call250 rfl (N_hexOf text (by omega)) rfl (fun _ _ => trivial)) ?_
      rintro _ _ ⟨_, ⟨u_19, e_17, f_20, rfl, rfl⟩, rfl⟩
      refine JL.pure rfl (PO.addS rfl rfl (by (try simp only [List.length_append, List.length_cons, List.length_nil, List.length_drop, List.length_take]); omega)) ?_
      refine JL.op rfl (JO.call [0, 0, 0, 0] Tryz.call240 rfl (N_lay p x_11 m_12 k_10 (by omega) (by omega) u_15 ([45] ++ u_19) (by omega)) rfl (fun _ _ => trivial)) ?_
      rintro _ _ ⟨_, ⟨x_23, m_24, e_21, k_22, rfl, rfl⟩, rfl⟩
      refine JL.nil ?_
      refine JQ.seq ?_
      refine JC.seq ?_
      refine JC.region ?_
      refine JL.pure rfl (PO.assign (v := .int .i64 0) rfl) ?_
      refine JL.nil ?_
      refine JQ.seq ?_
      refine JC.ret ?_
      refine Done.one (.inl rfl) rfl (RV.tmp (v := .int .i64 0) rfl) (List.Sublist.refl _) ?_
      exact ⟨x_23, m_24, 0, (by simp only [MS.putOut, h_1, e_2, h_8, e_9, e_13, e_17, e_21, if_true, if_false, Bool.false_eq_true, Bool.not_true, Bool.not_false]; (repeat (first | rw [if_pos (by omega)] | rw [if_neg (by omega)])); all_goals (first | rfl | simp only [if_true, if_false, Bool.false_eq_true, Bool.not_true, Bool.not_false, h_1, e_2, h_8, e_9, e_13, e_17, e_21])), (k_22.mono (by omega) (by omega)), (by first | omega | (simp only [List.length_append, List.length_cons, List.length_nil, List.length_take, List.length_drop]; omega)), rfl, rfl⟩
  · skip
    have h_1d := h_1
    simp only [Bool.and_eq_true, Bool.and_eq_false_iff, decide_eq_true_eq, decide_eq_false_iff_not] at h_1d
    refine JC.condT (congrArg Value.bool (congrArg Bool.not h_1)) ?_
    refine JC.seq ?_
    refine JC.region ?_
    refine JL.pure rfl (PO.assign (v := .int .i64 4) rfl) ?_
    refine JL.nil ?_
    refine JQ.seq ?_
    refine JC.ret ?_
    refine JQ.thenRet ?_
    refine Done.one (.inl rfl) rfl (RV.tmp (v := .int .i64 4) rfl) (List.Sublist.refl _) ?_
    exact ⟨x, m, 4, (by simp only [MS.putOut, h_1, if_true, if_false, Bool.false_eq_true, Bool.not_true, Bool.not_false]; (repeat (first | rw [if_pos (by omega)] | rw [if_neg (by omega)])); all_goals (first | rfl | simp only [if_true, if_false, Bool.false_eq_true, Bool.not_true, Bool.not_false, h_1])), (hk.mono (by omega) (by omega)), (by first | omega | (simp only [List.length_append, List.length_cons, List.length_nil, List.length_take, List.length_drop]; omega)), rfl, rfl⟩

theorem M_putOut (x : MA) (m : MS) {S T : Nat} (hk : m.ok S T) (hS : S ≤ 50000000) (hT : T ≤ 50000000) (text : Str) (htext : text.length ≤ 1000000000000) :
    Ct Tryz.prog 212 [mv x m, str text] (mr x m) (fun _ => True) (fun v A' => ∃ x' m' r0, MS.putOut m text = (m', r0) ∧ m'.ok (S + 2) (T + 3) ∧ (0 ≤ r0 ∧ r0 ≤ 9) ∧ v = .tuple #[mv x' m', .int .i64 r0] ∧ A' = mr x' m') := by
  refine Ct.intro Tryz.func212 rfl Tryz.ntmps212 (Nat.le_of_ble_eq_true rfl) fun w0 hpre => ?_
  refine JC.seq ?_
  refine JC.region ?_
  refine JL.op rfl (JO.box (cs := [.slice x.a0 m.s.length x.c0, .slice x.a1 m.r.length x.c1, .slice x.a2 m.w.length x.c2]) rfl rfl) ?_
  rintro _ _ ⟨b_1, rfl, rfl⟩
  refine JL.op rfl (JO.alloc (z := .agg #[.slice none 0 0, .slice none 0 0, .slice none 0 0]) (cs := [.slice none 0 0, .slice none 0 0, .slice none 0 0]) Tryz.zeroValue32 rfl) ?_
  rintro _ _ ⟨b_2, rfl, rfl⟩
  refine JL.pure rfl (PO.assign (v := .int .i64 0) rfl) ?_
  refine JL.nil ?_
  refine JQ.seq ?_
  refine JC.seq ?_
  refine JC.seq ?_
  refine JC.region ?_
  refine JL.pure rfl (PO.move (v := str text) rfl) ?_
  refine JL.pure rfl (PO.eqlS rfl rfl) ?_
  refine JL.pure rfl (PO.move (v := .bool (decide (text = []))) rfl) ?_
  by_cases h_3 : text = []
  · skip
    have h_3l : text.length = 0 := by rw [h_3]; rfl
    refine JL.guardOff (b := true) rfl rfl rfl (congrArg Value.bool (decide_eq_true h_3)) ?_
    refine JL.guardOff (b := true) rfl rfl rfl (congrArg Value.bool (decide_eq_true h_3)) ?_
    refine JL.guardOff (b := true) rfl rfl rfl (congrArg Value.bool (decide_eq_true h_3)) ?_
    refine JL.pure rfl (PO.pickT (v := .bool true) (congrArg Value.bool (decide_eq_true h_3)) rfl) ?_
    refine JL.nil ?_
    refine JQ.seq ?_
    refine JC.condT (congrArg Value.bool rfl) ?_
    refine JC.seq ?_
    refine JC.region ?_
    refine JL.ld rfl (LO.loadK 1 (vs := [.slice x.a0 m.s.length x.c0, .slice x.a1 m.r.length x.c1, .slice x.a2 m.w.length x.c2]) rfl rfl Tryz.isAgg32 Tryz.sizeOf32 rfl rfl) ?_
    refine JL.op rfl (JO.store 0 (vs := [.slice x.a0 m.s.length x.c0, .slice x.a1 m.r.length x.c1, .slice x.a2 m.w.length x.c2]) (cs' := [.slice x.a0 m.s.length x.c0, .slice x.a1 m.r.length x.c1, .slice x.a2 m.w.length x.c2]) rfl rfl rfl rfl Tryz.sizeOf32 rfl rfl (Nat.le_of_ble_eq_true rfl) rfl) ?_
    rintro _ _ rfl
    refine JL.pure rfl (PO.assign (v := .int .i64 4) rfl) ?_
    refine JL.nil ?_
    refine JQ.seq ?_
    refine JC.ret ?_
    refine JQ.thenRet ?_
    refine JQ.perm (pick_perm [2, 2, 2] (A := [rC x.a0 x.c0 m.s, rS x.a1 x.c1 m.r, rS x.a2 x.c2 m.w]) (F := [mb b_2 x m, mb b_1 x m]) rfl).symm ?_
    refine Done.two (.inl rfl) rfl (RV.cell1 (LO.loadK 3 (vs := [.slice x.a0 m.s.length x.c0, .slice x.a1 m.r.length x.c1, .slice x.a2 m.w.length x.c2]) rfl rfl Tryz.isAgg32 Tryz.sizeOf32 rfl rfl) ⟨_, rfl⟩) (RV.tmp (v := .int .i64 4) rfl) (List.sublist_append_left [rC x.a0 x.c0 m.s, rS x.a1 x.c1 m.r, rS x.a2 x.c2 m.w] [mb b_2 x m, mb b_1 x m]) ?_
    exact ⟨x, m, 4, (by simp only [MS.putOut, hexS_P, h_3, if_true, if_false, Bool.false_eq_true, Bool.not_true, Bool.not_false]; (repeat (first | rw [if_pos (by omega)] | rw [if_neg (by omega)])); all_goals (first | rfl | simp only [if_true, if_false, Bool.false_eq_true, Bool.not_true, Bool.not_false, h_3])), (hk.mono (by omega) (by omega)), (by first | omega | (simp only [List.length_append, List.length_cons, List.length_nil, List.length_take, List.length_drop]; omega)), rfl, rfl⟩
  · skip
    have h_3l := List.length_pos_iff.2 h_3
    refine JL.guardOn rfl rfl rfl (congrArg Value.bool (decide_eq_false h_3)) (JO.ofLO (LO.pure (PO.move (v := str text) rfl))) ?_
    rintro _ _ ⟨rfl, rfl⟩
    refine JL.guardOn rfl rfl rfl (congrArg Value.bool (decide_eq_false h_3)) (JO.ofLO (LO.pure (PO.lenS Tryz.underlying9 rfl))) ?_
    rintro _ _ ⟨rfl, rfl⟩
    refine JL.guardOn rfl rfl rfl (congrArg Value.bool (decide_eq_false h_3)) (JO.ofLO (LO.pure (PO.gtr rfl rfl))) ?_
    rintro _ _ ⟨rfl, rfl⟩
    refine JL.pure rfl (PO.pickF (v := .bool (decide (20 < (text.length : Int)))) (congrArg Value.bool (decide_eq_false h_3)) rfl) ?_
    refine JL.nil ?_
    refine JQ.seq ?_
    by_cases h_4 : 20 < (text.length : Int)
    · skip
      refine JC.condT (congrArg Value.bool (decide_eq_true h_4)) ?_
      refine JC.seq ?_
      refine JC.region ?_
      refine JL.ld rfl (LO.loadK 1 (vs := [.slice x.a0 m.s.length x.c0, .slice x.a1 m.r.length x.c1, .slice x.a2 m.w.length x.c2]) rfl rfl Tryz.isAgg32 Tryz.sizeOf32 rfl rfl) ?_
      refine JL.op rfl (JO.store 0 (vs := [.slice x.a0 m.s.length x.c0, .slice x.a1 m.r.length x.c1, .slice x.a2 m.w.length x.c2]) (cs' := [.slice x.a0 m.s.length x.c0, .slice x.a1 m.r.length x.c1, .slice x.a2 m.w.length x.c2]) rfl rfl rfl rfl Tryz.sizeOf32 rfl rfl (Nat.le_of_ble_eq_true rfl) rfl) ?_
      rintro _ _ rfl
      refine JL.pure rfl (PO.assign (v := .int .i64 4) rfl) ?_
      refine JL.nil ?_
      refine JQ.seq ?_
      refine JC.ret ?_
      refine JQ.thenRet ?_
      refine JQ.perm (pick_perm [2, 2, 2] (A := [rC x.a0 x.c0 m.s, rS x.a1 x.c1 m.r, rS x.a2 x.c2 m.w]) (F := [mb b_2 x m, mb b_1 x m]) rfl).symm ?_
      refine Done.two (.inl rfl) rfl (RV.cell1 (LO.loadK 3 (vs := [.slice x.a0 m.s.length x.c0, .slice x.a1 m.r.length x.c1, .slice x.a2 m.w.length x.c2]) rfl rfl Tryz.isAgg32 Tryz.sizeOf32 rfl rfl) ⟨_, rfl⟩) (RV.tmp (v := .int .i64 4) rfl) (List.sublist_append_left [rC x.a0 x.c0 m.s, rS x.a1 x.c1 m.r, rS x.a2 x.c2 m.w] [mb b_2 x m, mb b_1 x m]) ?_
      exact ⟨x, m, 4, (by simp only [MS.putOut, hexS_P, h_3, h_4, if_true, if_false, Bool.false_eq_true, Bool.not_true, Bool.not_false]; (repeat (first | rw [if_pos (by omega)] | rw [if_neg (by omega)])); all_goals (first | rfl | simp only [if_true, if_false, Bool.false_eq_true, Bool.not_true, Bool.not_false, h_3, h_4])), (hk.mono (by omega) (by omega)), (by first | omega | (simp only [List.length_append, List.length_cons, List.length_nil, List.length_take, List.length_drop]; omega)), rfl, rfl⟩
    · skip
      refine JC.condF (congrArg Value.bool (decide_eq_false h_4)) ?_
      refine JC.skip ?_
      refine JQ.seq ?_
      refine JC.seq ?_
      refine JC.region ?_
      refine JL.ld rfl (LO.loadK 1 (vs := [.slice x.a0 m.s.length x.c0, .slice x.a1 m.r.length x.c1, .slice x.a2 m.w.length x.c2]) rfl rfl Tryz.isAgg32 Tryz.sizeOf32 rfl rfl) ?_
      refine JL.op rfl (JO.call [2, 2, 2] Tryz.call228 rfl (N_sNumAt x m hk (by omega) (by omega) [100, 47, 110]) rfl (fun _ _ => trivial)) ?_
      rintro _ _ ⟨_, ⟨x_7, m_8, n_9, e_5, k_6, f_10, rfl, rfl⟩, rfl⟩
      refine JL.pure rfl (PO.move (v := .tuple #[mv x_7 m_8, .int .i64 n_9]) rfl) ?_
      refine JL.pure rfl (PO.extract (v := mv x_7 m_8) rfl rfl) ?_
      refine JL.pure rfl (PO.extract (v := .int .i64 n_9) rfl rfl) ?_
      refine JL.op rfl (JO.store 4 (vs := [.slice x_7.a0 m_8.s.length x_7.c0, .slice x_7.a1 m_8.r.length x_7.c1, .slice x_7.a2 m_8.w.length x_7.c2]) (cs' := [.slice x_7.a0 m_8.s.length x_7.c0, .slice x_7.a1 m_8.r.length x_7.c1, .slice x_7.a2 m_8.w.length x_7.c2]) rfl rfl rfl rfl Tryz.sizeOf32 rfl rfl (Nat.le_of_ble_eq_true rfl) rfl) ?_
      rintro _ _ rfl
      refine JL.pure rfl (PO.assign (v := .int .i64 n_9) rfl) ?_
      refine JL.nil ?_
      refine JQ.seq ?_
      refine JC.seq ?_
      refine JC.seq ?_
      refine JC.region ?_
      refine JL.pure rfl (PO.move (v := .int .i64 n_9) rfl) ?_
      refine JL.pure rfl (PO.geq rfl rfl) ?_
      refine JL.nil ?_
      refine JQ.seq ?_
      by_cases h_11 : 40 ≤ n_9
      · skip
        refine JC.condT (congrArg Value.bool (decide_eq_true h_11)) ?_
        refine JC.seq ?_
        refine JC.region ?_
        refine JL.ld rfl (LO.loadK 4 (vs := [.slice x_7.a0 m_8.s.length x_7.c0, .slice x_7.a1 m_8.r.length x_7.c1, .slice x_7.a2 m_8.w.length x_7.c2]) rfl rfl Tryz.isAgg32 Tryz.sizeOf32 rfl rfl) ?_
        refine JL.op rfl (JO.store 3 (vs := [.slice x_7.a0 m_8.s.length x_7.c0, .slice x_7.a1 m_8.r.length x_7.c1, .slice x_7.a2 m_8.w.length x_7.c2]) (cs' := [.slice x_7.a0 m_8.s.length x_7.c0, .slice x_7.a1 m_8.r.length x_7.c1, .slice x_7.a2 m_8.w.length x_7.c2]) rfl rfl rfl rfl Tryz.sizeOf32 rfl rfl (Nat.le_of_ble_eq_true rfl) rfl) ?_
        rintro _ _ rfl
        refine JL.pure rfl (PO.assign (v := .int .i64 3) rfl) ?_
        refine JL.nil ?_
        refine JQ.seq ?_
        refine JC.ret ?_
        refine JQ.thenRet ?_
        refine Done.two (.inl rfl) rfl (RV.cell1 (LO.loadK 3 (vs := [.slice x_7.a0 m_8.s.length x_7.c0, .slice x_7.a1 m_8.r.length x_7.c1, .slice x_7.a2 m_8.w.length x_7.c2]) rfl rfl Tryz.isAgg32 Tryz.sizeOf32 rfl rfl) ⟨_, rfl⟩) (RV.tmp (v := .int .i64 3) rfl) (List.sublist_append_left [rC x_7.a0 x_7.c0 m_8.s, rS x_7.a1 x_7.c1 m_8.r, rS x_7.a2 x_7.c2 m_8.w] [mb b_2 x_7 m_8, mb b_1 x_7 m_8]) ?_
        exact ⟨x_7, m_8, 3, (by simp only [MS.putOut, hexS_P, h_3, h_4, e_5, h_11, if_true, if_false, Bool.false_eq_true, Bool.not_true, Bool.not_false]; (repeat (first | rw [if_pos (by omega)] | rw [if_neg (by omega)])); all_goals (first | rfl | simp only [if_true, if_false, Bool.false_eq_true, Bool.not_true, Bool.not_false, h_3, h_4, e_5, h_11])), (k_6.mono (by omega) (by omega)), (by first | omega | (simp only [List.length_append, List.length_cons, List.length_nil, List.length_take, List.length_drop]; omega)), rfl, rfl⟩
      · skip
        refine JC.condF (congrArg Value.bool (decide_eq_false h_11)) ?_
        refine JC.skip ?_
        refine JQ.seq ?_
        refine JC.seq ?_
        refine JC.region ?_
        refine JL.pure rfl (PO.move (v := str text) rfl) ?_
        refine JL.op rfl (JO.call [] Tryz.call263 rfl (N_sHex text (by omega)) rfl (fun _ _ => trivial)) ?_
        rintro _ _ ⟨_, ⟨u_14, b_16, e_12, f_15, rfl, rfl⟩, rfl⟩
        refine JL.pure rfl (PO.move (v := .tuple #[str u_14, .bool b_16]) rfl) ?_
        refine JL.pure rfl (PO.extract (v := str u_14) rfl rfl) ?_
        refine JL.pure rfl (PO.extract (v := .bool b_16) rfl rfl) ?_
        refine JL.pure rfl (PO.assign (v := str u_14) rfl) ?_
        refine JL.pure rfl (PO.assign (v := .bool b_16) rfl) ?_
        refine JL.nil ?_
        refine JQ.seq ?_
        refine JC.seq ?_
        refine JC.region ?_
        refine JL.ld rfl (LO.loadK 4 (vs := [.slice x_7.a0 m_8.s.length x_7.c0, .slice x_7.a1 m_8.r.length x_7.c1, .slice x_7.a2 m_8.w.length x_7.c2]) rfl rfl Tryz.isAgg32 Tryz.sizeOf32 rfl rfl) ?_
        refine JL.pure rfl (PO.move (v := .int .i64 n_9) rfl) ?_
        refine JL.pure rfl (PO.add (c := n_9 + 1) rfl rfl (wr (by omega))) ?_
        refine JL.op rfl (JO.call [0, 0, 0] Tryz.call233 rfl (N_sSetNum x_7 m_8 k_6 (by omega) (by omega) [100, 47, 110] (n_9 + 1) (by decide) (by omega)) rfl (fun _ _ => trivial)) ?_
        rintro _ _ ⟨_, ⟨x_19, m_20, e_17, k_18, rfl, rfl⟩, rfl⟩
        refine JL.op rfl (JO.store 4 (vs := [.slice x_19.a0 m_20.s.length x_19.c0, .slice x_19.a1 m_20.r.length x_19.c1, .slice x_19.a2 m_20.w.length x_19.c2]) (cs' := [.slice x_19.a0 m_20.s.length x_19.c0, .slice x_19.a1 m_20.r.length x_19.c1, .slice x_19.a2 m_20.w.length x_19.c2]) rfl rfl rfl rfl Tryz.sizeOf32 rfl rfl (Nat.le_of_ble_eq_true rfl) rfl) ?_
        rintro _ _ rfl
        refine JL.nil ?_
        refine JQ.seq ?_
        refine JC.seq ?_
        refine JC.regionA [mb b_1 x_19 m_20] 6 mixed (by simp) ?_
        refine JA.take 0 rfl (by kernel_rfl) (NP.th NP.body) (by kernel_rfl) (by kernel_rfl) (by kernel_rfl) rfl (LO.loadK 0 (vs := [.slice x_19.a0 m_20.s.length x_19.c0, .slice x_19.a1 m_20.r.length x_19.c1, .slice x_19.a2 m_20.w.length x_19.c2]) rfl rfl Tryz.isAgg32 Tryz.sizeOf32 rfl rfl) ?_
        refine JA.takeP 1 rfl (by kernel_rfl) (NP.th NP.body) (by kernel_rfl) (by kernel_rfl) rfl (PO.move (v := .int .i64 n_9) rfl) ?_
        refine JA.takeP 2 rfl (by kernel_rfl) (NP.th NP.body) (by kernel_rfl) (by kernel_rfl) rfl (PO.add (c := n_9 + 1) rfl rfl (wr (by omega))) ?_
        refine JA.takeP 4 rfl (by kernel_rfl) (NP.th NP.body) (by kernel_rfl) (by kernel_rfl) rfl (PO.move (v := str u_14) rfl) ?_
        refine JA.takeP 5 rfl (by kernel_rfl) (NP.th NP.body) (by kernel_rfl) (by kernel_rfl) rfl (PO.addS rfl rfl (by (try simp only [List.length_append, List.length_cons, List.length_nil, List.length_drop, List.length_take]); omega)) ?_
        refine JA.one (i := 3) (by kernel_rfl) ?_
        refine JX.op rfl rfl (JO.call [] Tryz.call219 rfl (N_sKeyNum [100, 47] (n_9 + 1) [] (show List.length ([100, 47] : Str) ≤ 2 by decide) (by omega) (show List.length ([] : Str) ≤ 0 by decide) (by omega)) rfl (fun _ _ => trivial)) ?_
        rintro _ _ ⟨_, ⟨u_35, e_33, f_36, rfl, rfl⟩, rfl⟩
        refine ⟨(by simp), ?_⟩
        refine JA.one (i := 6) (by kernel_rfl) ?_
        refine JX.late rfl rfl (by decide) (by kernel_rfl) (JO.call [0, 0, 0] Tryz.call232 rfl (N_sLay x_19 m_20 k_18 (by omega) (by omega) u_35 ([45] ++ u_14) (by omega)) rfl (fun _ _ => trivial)) ?_
        rintro _ _ ⟨_, ⟨x_43, m_44, e_41, k_42, rfl, rfl⟩, rfl⟩
        refine JA.one (i := 7) (by kernel_rfl) ?_
        refine JX.late rfl rfl (by decide) (by kernel_rfl) (JO.store 3 (vs := [.slice x_43.a0 m_44.s.length x_43.c0, .slice x_43.a1 m_44.r.length x_43.c1, .slice x_43.a2 m_44.w.length x_43.c2]) (cs' := [.slice x_43.a0 m_44.s.length x_43.c0, .slice x_43.a1 m_44.r.length x_43.c1, .slice x_43.a2 m_44.w.length x_43.c2]) rfl rfl rfl rfl Tryz.sizeOf32 rfl rfl (Nat.le_of_ble_eq_true rfl) rfl) ?_
        rintro _ _ rfl
        refine JA.takeP 8 rfl (by kernel_rfl) (NP.th NP.body) (by kernel_rfl) (by kernel_rfl) rfl (PO.assign (v := .int .i64 0) rfl) ?_
        refine JA.done (by kernel_rfl) ?_
        refine JQ.seq ?_
        refine JC.ret ?_
        refine Done.two (.inl rfl) rfl (RV.cell1 (LO.loadK 3 (vs := [.slice x_43.a0 m_44.s.length x_43.c0, .slice x_43.a1 m_44.r.length x_43.c1, .slice x_43.a2 m_44.w.length x_43.c2]) rfl rfl Tryz.isAgg32 Tryz.sizeOf32 rfl rfl) ⟨_, rfl⟩) (RV.tmp (v := .int .i64 0) rfl) (List.sublist_append_left [rC x_43.a0 x_43.c0 m_44.s, rS x_43.a1 x_43.c1 m_44.r, rS x_43.a2 x_43.c2 m_44.w] [mb b_2 x_43 m_44, mb b_1 x_19 m_20]) ?_
        exact ⟨x_43, m_44, 0, (by simp only [MS.putOut, hexS_P, h_3, h_4, e_5, h_11, e_12, e_17, e_33, e_41, if_true, if_false, Bool.false_eq_true, Bool.not_true, Bool.not_false]; (repeat (first | rw [if_pos (by omega)] | rw [if_neg (by omega)])); all_goals (first | rfl | simp only [if_true, if_false, Bool.false_eq_true, Bool.not_true, Bool.not_false, h_3, h_4, e_5, h_11, e_12, e_17, e_33, e_41])), (k_42.mono (by omega) (by omega)), (by first | omega | (simp only [List.length_append, List.length_cons, List.length_nil, List.length_take, List.length_drop]; omega)), rfl, rfl⟩

theorem P_putOut (x : MA) (m : MS) {S T : Nat} (hk : m.ok S T) (hS : S ≤ 49000000) (hT : T ≤ 49000000) (text : Str) (htext : text.length ≤ 1000000000000) :
    Ct Tryz.prog 109 [mv x m, str text] ([]) (fun w => seesM w x m) (fun v A' => ∃ x' m' r0, MS.putOut m text = (m', r0) ∧ m'.ok (S + 2) (T + 3) ∧ (0 ≤ r0 ∧ r0 ≤ 9) ∧ v = .tuple #[mv x' m', .int .i64 r0] ∧ A' = mr x' m') := by
  refine Ct.intro Tryz.func109 rfl Tryz.ntmps109 (Nat.le_of_ble_eq_true rfl) fun w0 hpre => ?_
  have hs_x_a0 : Sees w0 _ _ _ _ := hpre.1
  have hs_x_a1 : Sees w0 _ _ _ _ := hpre.2.1
  have hs_x_a2 : Sees w0 _ _ _ _ := hpre.2.2
  refine JC.seq ?_
  refine JC.region ?_
  refine JL.op rfl (JO.box (cs := [.slice x.a0 m.s.length x.c0, .slice x.a1 m.r.length x.c1, .slice x.a2 m.w.length x.c2]) rfl rfl) ?_
  rintro _ _ ⟨b_1, rfl, rfl⟩
  refine JL.op rfl (JO.alloc (z := .agg #[.slice none 0 0, .slice none 0 0, .slice none 0 0]) (cs := [.slice none 0 0, .slice none 0 0, .slice none 0 0]) Tryz.zeroValue32 rfl) ?_
  rintro _ _ ⟨b_2, rfl, rfl⟩
  refine JL.pure rfl (PO.assign (v := .int .i64 0) rfl) ?_
  refine JL.nil ?_
  refine JQ.seq ?_
  refine JC.seq ?_
  refine JC.region ?_
  refine JL.ld rfl (LO.loadK 1 (vs := [.slice x.a0 m.s.length x.c0, .slice x.a1 m.r.length x.c1, .slice x.a2 m.w.length x.c2]) rfl rfl Tryz.isAgg32 Tryz.sizeOf32 rfl rfl) ?_
  refine JL.op rfl (JO.call [] Tryz.call127 rfl (N_clone x m hk (by omega) (by omega)) rfl (fun w hw => ⟨hw.seeOut_ hs_x_a0 (fun _ _ => List.not_mem_nil), hw.seeOut_ hs_x_a1 (fun _ _ => List.not_mem_nil), hw.seeOut_ hs_x_a2 (fun _ _ => List.not_mem_nil)⟩)) ?_
  rintro _ _ ⟨_, ⟨x_5, m_6, rfl, k_4, rfl, rfl⟩, rfl⟩
  refine JL.op rfl (JO.store 4 (vs := [.slice x_5.a0 m.s.length x_5.c0, .slice x_5.a1 m.r.length x_5.c1, .slice x_5.a2 m.w.length x_5.c2]) (cs' := [.slice x_5.a0 m.s.length x_5.c0, .slice x_5.a1 m.r.length x_5.c1, .slice x_5.a2 m.w.length x_5.c2]) rfl rfl rfl rfl Tryz.sizeOf32 rfl rfl (Nat.le_of_ble_eq_true rfl) rfl) ?_
  rintro _ _ rfl
  refine JL.nil ?_
  refine JQ.seq ?_
  refine JC.seq ?_
  refine JC.region ?_
  refine JL.pure rfl (PO.move (v := str text) rfl) ?_
  refine JL.op rfl (JO.call [4, 0, 0, 0] Tryz.call211 rfl (N_putOut b_1 x_5 m k_4 (by omega) (by omega) text (by omega)) rfl (fun _ _ => trivial)) ?_
  rintro _ _ ⟨_, ⟨x_9, m_10, n_11, e_7, k_8, f_12, rfl, rfl⟩, rfl⟩
  refine JL.pure rfl (PO.assign (v := .int .i64 n_11) rfl) ?_
  refine JL.nil ?_
  refine JQ.seq ?_
  refine JC.seq ?_
  refine JC.region ?_
  refine JL.ld rfl (LO.loadK 0 (vs := [.slice x_9.a0 m_10.s.length x_9.c0, .slice x_9.a1 m_10.r.length x_9.c1, .slice x_9.a2 m_10.w.length x_9.c2]) rfl rfl Tryz.isAgg32 Tryz.sizeOf32 rfl rfl) ?_
  refine JL.pure rfl (PO.move (v := .int .i64 n_11) rfl) ?_
  refine JL.op rfl (JO.store 4 (vs := [.slice x_9.a0 m_10.s.length x_9.c0, .slice x_9.a1 m_10.r.length x_9.c1, .slice x_9.a2 m_10.w.length x_9.c2]) (cs' := [.slice x_9.a0 m_10.s.length x_9.c0, .slice x_9.a1 m_10.r.length x_9.c1, .slice x_9.a2 m_10.w.length x_9.c2]) rfl rfl rfl rfl Tryz.sizeOf32 rfl rfl (Nat.le_of_ble_eq_true rfl) rfl) ?_
  rintro _ _ rfl
  refine JL.pure rfl (PO.assign (v := .int .i64 n_11) rfl) ?_
  refine JL.nil ?_
  refine JQ.seq ?_
  refine JC.ret ?_
  refine JQ.perm (pick_perm [1, 1, 1] (A := [rC x_9.a0 x_9.c0 m_10.s, rS x_9.a1 x_9.c1 m_10.r, rS x_9.a2 x_9.c2 m_10.w]) (F := [mb b_1 x_9 m_10, mb b_2 x_9 m_10]) rfl).symm ?_
  refine Done.two (.inl rfl) rfl (RV.cell1 (LO.loadK 4 (vs := [.slice x_9.a0 m_10.s.length x_9.c0, .slice x_9.a1 m_10.r.length x_9.c1, .slice x_9.a2 m_10.w.length x_9.c2]) rfl rfl Tryz.isAgg32 Tryz.sizeOf32 rfl rfl) ⟨_, rfl⟩) (RV.tmp (v := .int .i64 n_11) rfl) (List.sublist_append_left [rC x_9.a0 x_9.c0 m_10.s, rS x_9.a1 x_9.c1 m_10.r, rS x_9.a2 x_9.c2 m_10.w] [mb b_1 x_9 m_10, mb b_2 x_9 m_10]) ?_
  exact ⟨x_9, m_10, n_11, (by simp only [if_true, e_7, if_true, if_false, Bool.false_eq_true, Bool.not_true, Bool.not_false]; (repeat (first | rw [if_pos (by omega)] | rw [if_neg (by omega)])); all_goals (first | rfl | simp only [if_true, if_false, Bool.false_eq_true, Bool.not_true, Bool.not_false, e_7])), (k_8.mono (by omega) (by omega)), (by first | omega | (simp only [List.length_append, List.length_cons, List.length_nil, List.length_take, List.length_drop]; omega)), rfl, rfl⟩

theorem Q_putOut (x : MA) (m : MS) {S T : Nat} (hk : m.ok S T) (hS : S ≤ 49000000) (hT : T ≤ 49000000) (text : Str) (htext : text.length ≤ 1000000000000) :
    Ct Tryz.prog 110 [mv x m, str text] ([]) (fun w => seesM w x m) (fun v A' => ∃ x' m' r0, MS.putOut m text = (m', r0) ∧ m'.ok (S + 2) (T + 3) ∧ (0 ≤ r0 ∧ r0 ≤ 9) ∧ v = .tuple #[mv x' m', .int .i64 r0] ∧ A' = mr x' m') := by
  refine Ct.intro Tryz.func110 rfl Tryz.ntmps110 (Nat.le_of_ble_eq_true rfl) fun w0 hpre => ?_
  have hs_x_a0 : Sees w0 _ _ _ _ := hpre.1
  have hs_x_a1 : Sees w0 _ _ _ _ := hpre.2.1
  have hs_x_a2 : Sees w0 _ _ _ _ := hpre.2.2
  refine JC.seq ?_
  refine JC.region ?_
  refine JL.op rfl (JO.box (cs := [.slice x.a0 m.s.length x.c0, .slice x.a1 m.r.length x.c1, .slice x.a2 m.w.length x.c2]) rfl rfl) ?_
  rintro _ _ ⟨b_1, rfl, rfl⟩
  refine JL.op rfl (JO.alloc (z := .agg #[.slice none 0 0, .slice none 0 0, .slice none 0 0]) (cs := [.slice none 0 0, .slice none 0 0, .slice none 0 0]) Tryz.zeroValue32 rfl) ?_
  rintro _ _ ⟨b_2, rfl, rfl⟩
  refine JL.pure rfl (PO.assign (v := .int .i64 0) rfl) ?_
  refine JL.nil ?_
  refine JQ.seq ?_
  refine JC.seq ?_
  refine JC.region ?_
  refine JL.ld rfl (LO.loadK 1 (vs := [.slice x.a0 m.s.length x.c0, .slice x.a1 m.r.length x.c1, .slice x.a2 m.w.length x.c2]) rfl rfl Tryz.isAgg32 Tryz.sizeOf32 rfl rfl) ?_
  refine JL.op rfl (JO.call [] Tryz.call124 rfl (N_copy x m hk (by omega) (by omega)) rfl (fun w hw => ⟨hw.seeOut_ hs_x_a0 (fun _ _ => List.not_mem_nil), hw.seeOut_ hs_x_a1 (fun _ _ => List.not_mem_nil), hw.seeOut_ hs_x_a2 (fun _ _ => List.not_mem_nil)⟩)) ?_
  rintro _ _ ⟨_, ⟨x_5, m_6, rfl, k_4, rfl, rfl⟩, rfl⟩
  refine JL.pure rfl (PO.move (v := str text) rfl) ?_
  refine JL.op rfl (JO.call [0, 0, 0] Tryz.call212 rfl (M_putOut x_5 m k_4 (by omega) (by omega) text (by omega)) rfl (fun _ _ => trivial)) ?_
  rintro _ _ ⟨_, ⟨x_9, m_10, n_11, e_7, k_8, f_12, rfl, rfl⟩, rfl⟩
  refine JL.pure rfl (PO.extract (v := mv x_9 m_10) rfl rfl) ?_
  refine JL.pure rfl (PO.extract (v := .int .i64 n_11) rfl rfl) ?_
  refine JL.op rfl (JO.store 3 (vs := [.slice x_9.a0 m_10.s.length x_9.c0, .slice x_9.a1 m_10.r.length x_9.c1, .slice x_9.a2 m_10.w.length x_9.c2]) (cs' := [.slice x_9.a0 m_10.s.length x_9.c0, .slice x_9.a1 m_10.r.length x_9.c1, .slice x_9.a2 m_10.w.length x_9.c2]) rfl rfl rfl rfl Tryz.sizeOf32 rfl rfl (Nat.le_of_ble_eq_true rfl) rfl) ?_
  rintro _ _ rfl
  refine JL.pure rfl (PO.assign (v := .int .i64 n_11) rfl) ?_
  refine JL.nil ?_
  refine JQ.seq ?_
  refine JC.ret ?_
  refine Done.two (.inl rfl) rfl (RV.cell1 (LO.loadK 3 (vs := [.slice x_9.a0 m_10.s.length x_9.c0, .slice x_9.a1 m_10.r.length x_9.c1, .slice x_9.a2 m_10.w.length x_9.c2]) rfl rfl Tryz.isAgg32 Tryz.sizeOf32 rfl rfl) ⟨_, rfl⟩) (RV.tmp (v := .int .i64 n_11) rfl) (List.sublist_append_left [rC x_9.a0 x_9.c0 m_10.s, rS x_9.a1 x_9.c1 m_10.r, rS x_9.a2 x_9.c2 m_10.w] [mb b_2 x_9 m_10, mb b_1 x m]) ?_
  exact ⟨x_9, m_10, n_11, (by simp only [if_true, e_7, if_true, if_false, Bool.false_eq_true, Bool.not_true, Bool.not_false]; (repeat (first | rw [if_pos (by omega)] | rw [if_neg (by omega)])); all_goals (first | rfl | simp only [if_true, if_false, Bool.false_eq_true, Bool.not_true, Bool.not_false, e_7])), (k_8.mono (by omega) (by omega)), (by first | omega | (simp only [List.length_append, List.length_cons, List.length_nil, List.length_take, List.length_drop]; omega)), rfl, rfl⟩

end Go.Proofs.YtenfajgpdhgknaaGreatDoor

set_option linter.unusedSimpArgs false
set_option linter.unusedVariables false
set_option linter.unnecessarySimpa false
namespace Go.Proofs.YtenfajgpdhgknaaGreatDoor
open Go Go.RowKit
section
variable {P : Program} {n : Nat} {e : Env} {d : Option Tmp} {ty : TypeId} {pos : String} {aft : Array Edge} {gd : Option (Nat × Bool)}
theorem PO.min2 {x y : Operand} {a b c : Int} {ts : Array TypeId} (hx : rd n e x = .int .i64 a) (hy : rd n e y = .int .i64 b) (hc : min a b = c) : PO P n e ⟨d, .call ⟨.builtin .min, #[x, y], ts⟩, ty, pos, aft, gd⟩ (.int .i64 c) := fun w => by
  subst hc
  simp [execOp, resolve, invoke, builtin, hx, hy, Lib.run_min_ints]
theorem PO.max2 {x y : Operand} {a b c : Int} {ts : Array TypeId} (hx : rd n e x = .int .i64 a) (hy : rd n e y = .int .i64 b) (hc : max a b = c) : PO P n e ⟨d, .call ⟨.builtin .max, #[x, y], ts⟩, ty, pos, aft, gd⟩ (.int .i64 c) := fun w => by
  subst hc
  simp [execOp, resolve, invoke, builtin, hx, hy, Lib.run_max_ints]
end
attribute [local irreducible] JL JC JQ JO LO PO JA JX Ct

end Go.Proofs.YtenfajgpdhgknaaGreatDoor

set_option linter.unusedSimpArgs false
set_option linter.unusedVariables false
set_option linter.unnecessarySimpa false
namespace Go.Proofs.YtenfajgpdhgknaaGreatDoor
open Go Go.RowKit
attribute [local irreducible] JL JC JQ JO LO PO JA JX Ct

theorem D_mach12 (qb : Nat) (qa : Option Addr) (qc : Nat) (ql : Str) (qp : Nat) (qs : Int) (hql : ql.length ≤ 1048576) (hqp : qp ≤ ql.length)  :
    Ct Tryz.prog 210 [.pointer (some ⟨qb, 0, none⟩)] [cb qb qa qc ql qp qs] (fun w => seesC w qa qc ql [cb qb qa qc ql qp qs]) (fun v A' => ∃ qp' qs' r0x r0, qp' ≤ ql.length ∧ r0.ok (12) (20) ∧ v = mv r0x r0 ∧ A' = cb qb qa qc ql qp' qs' :: mr r0x r0) := by
  refine Ct.intro Tryz.func210 rfl Tryz.ntmps210 (Nat.le_of_ble_eq_true rfl) fun w0 hpre => ?_
  have hs_qa : Sees w0 _ _ _ _ := hpre.1
  refine JC.seq ?_
  refine JC.region ?_
  refine JL.op rfl (JO.alloc (z := .agg #[.slice none 0 0, .slice none 0 0, .slice none 0 0]) (cs := [.slice none 0 0, .slice none 0 0, .slice none 0 0]) Tryz.zeroValue32 rfl) ?_
  rintro _ _ ⟨b_1, rfl, rfl⟩
  refine JL.nil ?_
  refine JQ.seq ?_
  refine JC.seq ?_
  refine JC.region ?_
  refine JL.op rfl (JO.buildSlice (ps := []) (cur := #[]) Tryz.underlying29 Tryz.sizeOf113 Tryz.zeroValue113 rfl (by kernel_rfl) (by decide) (by decide)) ?_
  rintro _ _ ⟨a_2, rfl, rfl⟩
  refine JL.op rfl (JO.call [] Tryz.call147 rfl (D_machOf a_2 0 ([] : List Cell) (by first | omega | simp) 0 ⟨by simp, fun c hc => by cases hc⟩) rfl (fun w hw => hw.see (i := 0) rfl)) ?_
  rintro _ _ ⟨_, ⟨x_3, m_4, e_6, k_5, rfl, rfl⟩, rfl⟩
  refine JL.op rfl (JO.alloc (z := .agg #[.slice none 0 0, .slice none 0 0, .slice none 0 0]) (cs := [.slice none 0 0, .slice none 0 0, .slice none 0 0]) Tryz.zeroValue32 rfl) ?_
  rintro _ _ ⟨b_7, rfl, rfl⟩
  refine JL.op rfl (JO.store 0 (vs := [.slice x_3.a0 m_4.s.length x_3.c0, .slice x_3.a1 m_4.r.length x_3.c1, .slice x_3.a2 m_4.w.length x_3.c2]) (cs' := [.slice x_3.a0 m_4.s.length x_3.c0, .slice x_3.a1 m_4.r.length x_3.c1, .slice x_3.a2 m_4.w.length x_3.c2]) rfl rfl rfl rfl Tryz.sizeOf32 rfl rfl (Nat.le_of_ble_eq_true rfl) rfl) ?_
  rintro _ _ rfl
  refine JL.nil ?_
  refine JQ.seq ?_
  refine JC.seq ?_
  refine JC.seq ?_
  refine JC.region ?_
  refine JL.pure rfl (PO.assign (v := .int .i64 0) rfl) ?_
  refine JL.nil ?_
  refine JQ.seq ?_
  refine JC.block ?_
  refine JC.loop (fun k_ e_ L_ => ∃ i_ : Nat, ∃ p_q : Nat, ∃ s_q : Int, ∃ x1 : MA, ∃ mm : MS, (p_q ≤ ql.length) ∧ (mm.ok (2 * i_) (3 * i_)) ∧ (i_ ≤ 5) ∧ e_ 0 = .pointer (some ⟨qb, 0, none⟩) ∧ e_ 2 = .pointer (some ⟨b_1, 0, none⟩) ∧ e_ 3 = .pointer (some ⟨b_7, 0, none⟩) ∧ e_ 4 = .int .i64 ((i_ : Nat) : Int) ∧ L_ = [mb b_7 x1 mm, rC x1.a0 x1.c0 mm.s, rS x1.a1 x1.c1 mm.r, rS x1.a2 x1.c2 mm.w, Res.row (.slice a_2 0 0) 113 2 0 (([] : List Cell).flatMap encC), bk b_1 32 [.slice none 0 0, .slice none 0 0, .slice none 0 0], cb qb qa qc ql p_q s_q] ∧ k_ = 6 - i_) _ ⟨0, qp, qs, x_3, m_4, (by omega), (k_5.mono (by omega) (by omega)), (by omega), rfl, rfl, rfl, rfl, rfl, rfl⟩ ?_
  rintro _ e_8 _ ⟨i_, p_q, s_q, x1, mm, hpq_, hkmm, hi, he_9, he_10, he_11, he_12, rfl, rfl⟩
  refine JC.seq ?_
  refine JC.seq ?_
  refine JC.region ?_
  refine JL.pure rfl (PO.move (v := .int .i64 ((i_ : Nat) : Int)) he_12) ?_
  refine JL.pure rfl (PO.move (v := .pointer (some ⟨qb, 0, none⟩)) he_9) ?_
  refine JL.op rfl (JO.call [6] Tryz.call173 rfl (D_below qb qa qc ql p_q s_q (by omega) (by omega) 5 (by omega)) rfl (fun w hw => ⟨hw.seeOut_ hs_qa (hpre.2), hw.apart hs_qa (hpre.2) (by simp)⟩)) ?_
  rintro _ _ ⟨_, ⟨qp_13, qs_14, n_16, fq_15, f_17, rfl, rfl⟩, rfl⟩
  refine JL.pure rfl (PO.lss rfl rfl) ?_
  refine JL.nil ?_
  refine JQ.seq ?_
  by_cases h_19 : ((i_ : Nat) : Int) < ((n_16 : Nat) : Int)
  · skip
    refine JC.condT (congrArg Value.bool (decide_eq_true h_19)) ?_
    refine JC.skip ?_
    refine JQ.seq ?_
    refine JC.seq ?_
    refine JC.block ?_
    refine JC.regionA [mb b_7 x1 mm] 9 mixed (by simp) ?_
    refine JA.take 0 rfl (by kernel_rfl) (NP.bl (NP.th (NP.th (NP.bl (NP.th NP.body))))) (by kernel_rfl) (by kernel_rfl) (by kernel_rfl) rfl (LO.loadK 0 (vs := [.slice x1.a0 mm.s.length x1.c0, .slice x1.a1 mm.r.length x1.c1, .slice x1.a2 mm.w.length x1.c2]) rfl he_11 Tryz.isAgg32 Tryz.sizeOf32 rfl rfl) ?_
    refine JA.takeP 1 rfl (by kernel_rfl) (NP.bl (NP.th (NP.th (NP.bl (NP.th NP.body))))) (by kernel_rfl) (by kernel_rfl) rfl (PO.move (v := .pointer (some ⟨qb, 0, none⟩)) he_9) ?_
    refine JA.takeP 2 rfl (by kernel_rfl) (NP.bl (NP.th (NP.th (NP.bl (NP.th NP.body))))) (by kernel_rfl) (by kernel_rfl) rfl (PO.move (v := .pointer (some ⟨qb, 0, none⟩)) he_9) ?_
    refine JA.one (i := 3) (by kernel_rfl) ?_
    refine JX.op rfl rfl (JO.call [0] Tryz.call173 rfl (D_below qb qa qc ql qp_13 qs_14 (by omega) (by omega) 4 (by omega)) rfl (fun w hw => ⟨hw.seeOut_ hs_qa (hpre.2), hw.apart hs_qa (hpre.2) (by simp)⟩)) ?_
    rintro _ _ ⟨_, ⟨qp_26, qs_27, n_29, fq_28, f_30, rfl, rfl⟩, rfl⟩
    refine ⟨(by simp), ?_⟩
    refine JA.one (i := 4) (by kernel_rfl) ?_
    refine JX.op rfl rfl (JO.call [0] Tryz.call161 rfl (D_text qb qa qc ql qp_26 qs_27 (by omega) (by omega) ((n_29 : Nat) : Int) (by omega)) rfl (fun w hw => ⟨hw.seeOut_ hs_qa (hpre.2), hw.apart hs_qa (hpre.2) (by simp)⟩)) ?_
    rintro _ _ ⟨_, ⟨qp_38, qs_39, u_41, fq_40, f_42, rfl, rfl⟩, rfl⟩
    refine ⟨(by simp), ?_⟩
    refine JA.one (i := 5) (by kernel_rfl) ?_
    refine JX.op rfl rfl (JO.call [2, 2, 2] Tryz.call212 rfl (M_putOut x1 mm hkmm (by omega) (by omega) u_41 (by omega)) rfl (fun _ _ => trivial)) ?_
    rintro _ _ ⟨_, ⟨x_52, m_53, n_54, e_50, k_51, f_55, rfl, rfl⟩, rfl⟩
    refine ⟨(by simp), ?_⟩
    refine JA.takeP 6 rfl (by kernel_rfl) (NP.bl (NP.th (NP.th (NP.bl (NP.th NP.body))))) (by kernel_rfl) (by kernel_rfl) rfl (PO.move (v := .tuple #[mv x_52 m_53, .int .i64 n_54]) rfl) ?_
    refine JA.takeP 7 rfl (by kernel_rfl) (NP.bl (NP.th (NP.th (NP.bl (NP.th NP.body))))) (by kernel_rfl) (by kernel_rfl) rfl (PO.extract (v := mv x_52 m_53) rfl rfl) ?_
    refine JA.takeP 8 rfl (by kernel_rfl) (NP.bl (NP.th (NP.th (NP.bl (NP.th NP.body))))) (by kernel_rfl) (by kernel_rfl) rfl (PO.extract (v := .int .i64 n_54) rfl rfl) ?_
    refine JA.one (i := 9) (by kernel_rfl) ?_
    refine JX.last rfl rfl (by decide) (by kernel_rfl) (JO.store 4 (vs := [.slice x_52.a0 m_53.s.length x_52.c0, .slice x_52.a1 m_53.r.length x_52.c1, .slice x_52.a2 m_53.w.length x_52.c2]) (cs' := [.slice x_52.a0 m_53.s.length x_52.c0, .slice x_52.a1 m_53.r.length x_52.c1, .slice x_52.a2 m_53.w.length x_52.c2]) rfl he_11 rfl rfl Tryz.sizeOf32 rfl rfl (Nat.le_of_ble_eq_true rfl) rfl) ?_
    rintro _ _ rfl
    refine JQ.blockN ?_
    refine JQ.seq ?_
    refine JC.region ?_
    refine JL.pure rfl (PO.move (v := .int .i64 ((i_ : Nat) : Int)) he_12) ?_
    refine JL.pure rfl (PO.add (c := ((i_ + 1 : Nat) : Int)) rfl rfl (wr (by omega))) ?_
    refine JL.pure rfl (PO.assign (v := .int .i64 ((i_ + 1 : Nat) : Int)) rfl) ?_
    refine JL.nil ?_
    refine JQ.pick [4, 0, 0, 0, 1, 1, 0] (A := [mb b_7 x_52 m_53, rC x_52.a0 x_52.c0 m_53.s, rS x_52.a1 x_52.c1 m_53.r, rS x_52.a2 x_52.c2 m_53.w, Res.row (.slice a_2 0 0) 113 2 0 (([] : List Cell).flatMap encC), bk b_1 32 [.slice none 0 0, .slice none 0 0, .slice none 0 0], cb qb qa qc ql qp_38 qs_39]) rfl ?_
    refine JQ.again (6 - (i_ + 1)) (by omega) ⟨(i_ + 1), qp_38, qs_39, x_52, m_53, (by omega), (k_51.mono (by omega) (by omega)), (by omega), he_9, he_10, he_11, rfl, rfl, rfl⟩
  · skip
    refine JC.condF (congrArg Value.bool (decide_eq_false h_19)) ?_
    refine JC.exit ?_
    refine JQ.thenExit ?_
    refine JQ.thenExit ?_
    refine JQ.blockE ?_
    refine JQ.seq ?_
    refine JC.seq ?_
    refine JC.seq ?_
    refine JC.region ?_
    refine JL.pure rfl (PO.move (v := .pointer (some ⟨qb, 0, none⟩)) he_9) ?_
    refine JL.op rfl (JO.call [0] Tryz.call173 rfl (D_below qb qa qc ql qp_13 qs_14 (by omega) (by omega) 10 (by omega)) rfl (fun w hw => ⟨hw.seeOut_ hs_qa (hpre.2), hw.apart hs_qa (hpre.2) (by simp)⟩)) ?_
    rintro _ _ ⟨_, ⟨qp_56, qs_57, n_59, fq_58, f_60, rfl, rfl⟩, rfl⟩
    refine JL.nil ?_
    refine JQ.seq ?_
    refine JC.block ?_
    refine JC.seq ?_
    refine JC.region ?_
    refine JL.pure rfl (PO.eqlI rfl rfl) ?_
    refine JL.pure rfl (PO.assign (v := .bool (decide (((n_59 : Nat) : Int) = 0))) rfl) ?_
    refine JL.nil ?_
    refine JQ.seq ?_
    by_cases h_62 : ((n_59 : Nat) : Int) = 0
    · skip
      refine JC.condT (congrArg Value.bool (decide_eq_true h_62)) ?_
      refine JC.regionA [mb b_7 x1 mm] 4 mixed (by simp) ?_
      refine JA.take 0 rfl (by kernel_rfl) (NP.bl (NP.th NP.body)) (by kernel_rfl) (by kernel_rfl) (by kernel_rfl) rfl (LO.loadK 0 (vs := [.slice x1.a0 mm.s.length x1.c0, .slice x1.a1 mm.r.length x1.c1, .slice x1.a2 mm.w.length x1.c2]) rfl he_11 Tryz.isAgg32 Tryz.sizeOf32 rfl rfl) ?_
      refine JA.takeP 1 rfl (by kernel_rfl) (NP.bl (NP.th NP.body)) (by kernel_rfl) (by kernel_rfl) rfl (PO.move (v := .pointer (some ⟨qb, 0, none⟩)) he_9) ?_
      refine JA.one (i := 2) (by kernel_rfl) ?_
      refine JX.op rfl rfl (JO.call [0] Tryz.call173 rfl (D_below qb qa qc ql qp_56 qs_57 (by omega) (by omega) 3 (by omega)) rfl (fun w hw => ⟨hw.seeOut_ hs_qa (hpre.2), hw.apart hs_qa (hpre.2) (by simp)⟩)) ?_
      rintro _ _ ⟨_, ⟨qp_69, qs_70, n_72, fq_71, f_73, rfl, rfl⟩, rfl⟩
      refine ⟨(by simp), ?_⟩
      refine JA.takeP 3 rfl (by kernel_rfl) (NP.bl (NP.th NP.body)) (by kernel_rfl) (by kernel_rfl) rfl (PO.add (c := ((39 + n_72 : Nat) : Int)) rfl rfl (wr (by omega))) ?_
      refine JA.one (i := 4) (by kernel_rfl) ?_
      refine JX.late rfl rfl (by decide) (by kernel_rfl) (JO.call [2, 2, 2] Tryz.call233 rfl (N_sSetNum x1 mm hkmm (by omega) (by omega) [100, 47, 110] ((39 + n_72 : Nat) : Int) (by decide) (by omega)) rfl (fun _ _ => trivial)) ?_
      rintro _ _ ⟨_, ⟨x_81, m_82, e_79, k_80, rfl, rfl⟩, rfl⟩
      refine JA.one (i := 5) (by kernel_rfl) ?_
      refine JX.last rfl rfl (by decide) (by kernel_rfl) (JO.store 4 (vs := [.slice x_81.a0 m_82.s.length x_81.c0, .slice x_81.a1 m_82.r.length x_81.c1, .slice x_81.a2 m_82.w.length x_81.c2]) (cs' := [.slice x_81.a0 m_82.s.length x_81.c0, .slice x_81.a1 m_82.r.length x_81.c1, .slice x_81.a2 m_82.w.length x_81.c2]) rfl he_11 rfl rfl Tryz.sizeOf32 rfl rfl (Nat.le_of_ble_eq_true rfl) rfl) ?_
      rintro _ _ rfl
      refine JQ.blockN ?_
      refine JQ.seq ?_
      refine JC.seq ?_
      refine JC.region ?_
      refine JL.ld rfl (LO.loadK 4 (vs := [.slice x_81.a0 m_82.s.length x_81.c0, .slice x_81.a1 m_82.r.length x_81.c1, .slice x_81.a2 m_82.w.length x_81.c2]) rfl he_11 Tryz.isAgg32 Tryz.sizeOf32 rfl rfl) ?_
      refine JL.op rfl (JO.store 6 (vs := [.slice x_81.a0 m_82.s.length x_81.c0, .slice x_81.a1 m_82.r.length x_81.c1, .slice x_81.a2 m_82.w.length x_81.c2]) (cs' := [.slice x_81.a0 m_82.s.length x_81.c0, .slice x_81.a1 m_82.r.length x_81.c1, .slice x_81.a2 m_82.w.length x_81.c2]) rfl he_10 rfl rfl Tryz.sizeOf32 rfl rfl (Nat.le_of_ble_eq_true rfl) rfl) ?_
      rintro _ _ rfl
      refine JL.nil ?_
      refine JQ.seq ?_
      refine JC.ret ?_
      refine JQ.perm (pick_perm [3, 0, 0, 0] (A := [cb qb qa qc ql qp_69 qs_70, rC x_81.a0 x_81.c0 m_82.s, rS x_81.a1 x_81.c1 m_82.r, rS x_81.a2 x_81.c2 m_82.w]) (F := [mb b_7 x_81 m_82, Res.row (.slice a_2 0 0) 113 2 0 (([] : List Cell).flatMap encC), mb b_1 x_81 m_82]) rfl).symm ?_
      refine Done.one (.inl rfl) rfl (RV.cell1 (LO.loadK 6 (vs := [.slice x_81.a0 m_82.s.length x_81.c0, .slice x_81.a1 m_82.r.length x_81.c1, .slice x_81.a2 m_82.w.length x_81.c2]) rfl he_10 Tryz.isAgg32 Tryz.sizeOf32 rfl rfl) ⟨_, he_10⟩) (List.sublist_append_left [cb qb qa qc ql qp_69 qs_70, rC x_81.a0 x_81.c0 m_82.s, rS x_81.a1 x_81.c1 m_82.r, rS x_81.a2 x_81.c2 m_82.w] [mb b_7 x_81 m_82, Res.row (.slice a_2 0 0) 113 2 0 (([] : List Cell).flatMap encC), mb b_1 x_81 m_82]) ?_
      exact ⟨qp_69, qs_70, x_81, m_82, (by omega), (k_80.mono (by omega) (by omega)), rfl, rfl⟩
    · skip
      refine JC.condF (congrArg Value.bool (decide_eq_false h_62)) ?_
      refine JC.seq ?_
      refine JC.region ?_
      refine JL.pure rfl (PO.eqlI rfl rfl) ?_
      refine JL.pure rfl (PO.assign (v := .bool (decide (((n_59 : Nat) : Int) = 1))) rfl) ?_
      refine JL.nil ?_
      refine JQ.seq ?_
      by_cases h_83 : ((n_59 : Nat) : Int) = 1
      · skip
        refine JC.condT (congrArg Value.bool (decide_eq_true h_83)) ?_
        refine JC.regionA [mb b_7 x1 mm] 5 mixed (by simp) ?_
        refine JA.take 0 rfl (by kernel_rfl) (NP.bl (NP.th NP.body)) (by kernel_rfl) (by kernel_rfl) (by kernel_rfl) rfl (LO.loadK 0 (vs := [.slice x1.a0 mm.s.length x1.c0, .slice x1.a1 mm.r.length x1.c1, .slice x1.a2 mm.w.length x1.c2]) rfl he_11 Tryz.isAgg32 Tryz.sizeOf32 rfl rfl) ?_
        refine JA.takeP 1 rfl (by kernel_rfl) (NP.bl (NP.th NP.body)) (by kernel_rfl) (by kernel_rfl) rfl (PO.move (v := .pointer (some ⟨qb, 0, none⟩)) he_9) ?_
        refine JA.one (i := 2) (by kernel_rfl) ?_
        refine JX.op rfl rfl (JO.buildSlice (ps := [(0, str [120]), (1, str [45, 122, 122]), (2, str [])]) (cur := #[str [120], str [45, 122, 122], str []]) Tryz.underlying23 Tryz.sizeOf9 Tryz.zeroValue9 rfl (by kernel_rfl) (by decide) (by decide)) ?_
        rintro _ _ ⟨a_85, rfl, rfl⟩
        refine ⟨(by simp), ?_⟩
        refine JA.one (i := 3) (by kernel_rfl) ?_
        refine JX.op rfl rfl (JO.call [1, 0] Tryz.call259 rfl (D_pick qb qa qc ql qp_56 qs_57 a_85 3 ([[120], [45, 122, 122], []] : List Str) (by omega) (by omega) (by simp) (by simp)) rfl (fun w hw => ⟨hw.seeOut_ hs_qa (hpre.2), hw.apart hs_qa (hpre.2) (by simp)⟩)) ?_
        rintro _ _ ⟨_, ⟨qp_92, qs_93, u_95, fq_94, f_96, rfl, rfl⟩, rfl⟩
        have hlu_95 : u_95.length ≤ 64 := by have hx_ := f_96; simp only [List.mem_cons, List.not_mem_nil, or_false] at hx_; rcases hx_ with hx_ | hx_ | hx_ <;> first | (rw [hx_]; decide) | (rw [hx_]; omega)
        refine ⟨(by simp), ?_⟩
        refine JA.one (i := 4) (by kernel_rfl) ?_
        refine JX.op rfl rfl (JO.call [2, 2, 2] Tryz.call232 rfl (N_sLay x1 mm hkmm (by omega) (by omega) [100, 47, 49] u_95 (by decide)) rfl (fun _ _ => trivial)) ?_
        rintro _ _ ⟨_, ⟨x_104, m_105, e_102, k_103, rfl, rfl⟩, rfl⟩
        refine ⟨(by simp), ?_⟩
        refine JA.one (i := 5) (by kernel_rfl) ?_
        refine JX.last rfl rfl (by decide) (by kernel_rfl) (JO.store 4 (vs := [.slice x_104.a0 m_105.s.length x_104.c0, .slice x_104.a1 m_105.r.length x_104.c1, .slice x_104.a2 m_105.w.length x_104.c2]) (cs' := [.slice x_104.a0 m_105.s.length x_104.c0, .slice x_104.a1 m_105.r.length x_104.c1, .slice x_104.a2 m_105.w.length x_104.c2]) rfl he_11 rfl rfl Tryz.sizeOf32 rfl rfl (Nat.le_of_ble_eq_true rfl) rfl) ?_
        rintro _ _ rfl
        refine JQ.blockN ?_
        refine JQ.seq ?_
        refine JC.seq ?_
        refine JC.region ?_
        refine JL.ld rfl (LO.loadK 4 (vs := [.slice x_104.a0 m_105.s.length x_104.c0, .slice x_104.a1 m_105.r.length x_104.c1, .slice x_104.a2 m_105.w.length x_104.c2]) rfl he_11 Tryz.isAgg32 Tryz.sizeOf32 rfl rfl) ?_
        refine JL.op rfl (JO.store 6 (vs := [.slice x_104.a0 m_105.s.length x_104.c0, .slice x_104.a1 m_105.r.length x_104.c1, .slice x_104.a2 m_105.w.length x_104.c2]) (cs' := [.slice x_104.a0 m_105.s.length x_104.c0, .slice x_104.a1 m_105.r.length x_104.c1, .slice x_104.a2 m_105.w.length x_104.c2]) rfl he_10 rfl rfl Tryz.sizeOf32 rfl rfl (Nat.le_of_ble_eq_true rfl) rfl) ?_
        rintro _ _ rfl
        refine JL.nil ?_
        refine JQ.seq ?_
        refine JC.ret ?_
        refine JQ.perm (pick_perm [3, 0, 0, 0] (A := [cb qb qa qc ql qp_92 qs_93, rC x_104.a0 x_104.c0 m_105.s, rS x_104.a1 x_104.c1 m_105.r, rS x_104.a2 x_104.c2 m_105.w]) (F := [mb b_7 x_104 m_105, Res.row (.slice a_2 0 0) 113 2 0 (([] : List Cell).flatMap encC), mb b_1 x_104 m_105]) rfl).symm ?_
        refine Done.one (.inl rfl) rfl (RV.cell1 (LO.loadK 6 (vs := [.slice x_104.a0 m_105.s.length x_104.c0, .slice x_104.a1 m_105.r.length x_104.c1, .slice x_104.a2 m_105.w.length x_104.c2]) rfl he_10 Tryz.isAgg32 Tryz.sizeOf32 rfl rfl) ⟨_, he_10⟩) (List.sublist_append_left [cb qb qa qc ql qp_92 qs_93, rC x_104.a0 x_104.c0 m_105.s, rS x_104.a1 x_104.c1 m_105.r, rS x_104.a2 x_104.c2 m_105.w] [mb b_7 x_104 m_105, Res.row (.slice a_2 0 0) 113 2 0 (([] : List Cell).flatMap encC), mb b_1 x_104 m_105]) ?_
        exact ⟨qp_92, qs_93, x_104, m_105, (by omega), (k_103.mono (by omega) (by omega)), rfl, rfl⟩
      · skip
        refine JC.condF (congrArg Value.bool (decide_eq_false h_83)) ?_
        refine JC.skip ?_
        refine JQ.blockN ?_
        refine JQ.seq ?_
        refine JC.seq ?_
        refine JC.region ?_
        refine JL.ld rfl (LO.loadK 1 (vs := [.slice x1.a0 mm.s.length x1.c0, .slice x1.a1 mm.r.length x1.c1, .slice x1.a2 mm.w.length x1.c2]) rfl he_11 Tryz.isAgg32 Tryz.sizeOf32 rfl rfl) ?_
        refine JL.op rfl (JO.store 6 (vs := [.slice x1.a0 mm.s.length x1.c0, .slice x1.a1 mm.r.length x1.c1, .slice x1.a2 mm.w.length x1.c2]) (cs' := [.slice x1.a0 mm.s.length x1.c0, .slice x1.a1 mm.r.length x1.c1, .slice x1.a2 mm.w.length x1.c2]) rfl he_10 rfl rfl Tryz.sizeOf32 rfl rfl (Nat.le_of_ble_eq_true rfl) rfl) ?_
        rintro _ _ rfl
        refine JL.nil ?_
        refine JQ.seq ?_
        refine JC.ret ?_
        refine JQ.perm (pick_perm [0, 1, 1, 1] (A := [cb qb qa qc ql qp_56 qs_57, rC x1.a0 x1.c0 mm.s, rS x1.a1 x1.c1 mm.r, rS x1.a2 x1.c2 mm.w]) (F := [mb b_7 x1 mm, Res.row (.slice a_2 0 0) 113 2 0 (([] : List Cell).flatMap encC), mb b_1 x1 mm]) rfl).symm ?_
        refine Done.one (.inl rfl) rfl (RV.cell1 (LO.loadK 6 (vs := [.slice x1.a0 mm.s.length x1.c0, .slice x1.a1 mm.r.length x1.c1, .slice x1.a2 mm.w.length x1.c2]) rfl he_10 Tryz.isAgg32 Tryz.sizeOf32 rfl rfl) ⟨_, he_10⟩) (List.sublist_append_left [cb qb qa qc ql qp_56 qs_57, rC x1.a0 x1.c0 mm.s, rS x1.a1 x1.c1 mm.r, rS x1.a2 x1.c2 mm.w] [mb b_7 x1 mm, Res.row (.slice a_2 0 0) 113 2 0 (([] : List Cell).flatMap encC), mb b_1 x1 mm]) ?_
        exact ⟨qp_56, qs_57, x1, mm, (by omega), (hkmm.mono (by omega) (by omega)), rfl, rfl⟩

theorem D_dPutOut (pa : Option Addr) (pc : Nat) (p : Str) (hp : p.length ≤ 1048576)  :
    Ct Tryz.prog 108 [.slice pa p.length pc] [] (fun w => Sees w (.slice pa p.length pc) 1 p.length (p.map encB)) (fun v A' => ∃ r0x r0 r1, r0.ok (12) (20) ∧ (r1.length ≤ 5000) ∧ v = .tuple #[mv r0x r0, str r1] ∧ A' = mr r0x r0) := by
  refine Ct.intro Tryz.func108 rfl Tryz.ntmps108 (Nat.le_of_ble_eq_true rfl) fun w0 hpre => ?_
  have hs_pa : Sees w0 _ _ _ _ := hpre
  refine JC.seq ?_
  refine JC.region ?_
  refine JL.op rfl (JO.alloc (z := .agg #[.slice none 0 0, .slice none 0 0, .slice none 0 0]) (cs := [.slice none 0 0, .slice none 0 0, .slice none 0 0]) Tryz.zeroValue32 rfl) ?_
  rintro _ _ ⟨b_1, rfl, rfl⟩
  refine JL.pure rfl (PO.assign (v := str []) rfl) ?_
  refine JL.nil ?_
  refine JQ.seq ?_
  refine JC.seq ?_
  refine JC.region ?_
  refine JL.pure rfl (PO.move (v := .slice pa p.length pc) rfl) ?_
  refine JL.op rfl (JO.call [] Tryz.call157 rfl (D_new pa pc p (by omega)) rfl (fun w hw => hw.seeOut_ hs_pa (fun _ _ => List.not_mem_nil))) ?_
  rintro _ _ ⟨_, ⟨c_2, qs_3, -, rfl, rfl⟩, rfl⟩
  refine JL.pure rfl (PO.assign (v := .pointer (some ⟨c_2, 0, none⟩)) rfl) ?_
  refine JL.nil ?_
  refine JQ.seq ?_
  refine JC.seq ?_
  refine JC.region ?_
  refine JL.pure rfl (PO.move (v := .pointer (some ⟨c_2, 0, none⟩)) rfl) ?_
  refine JL.op rfl (JO.call [0] Tryz.call210 rfl (D_mach12 c_2 pa pc p 0 qs_3 (by omega) (by omega)) rfl (fun w hw => ⟨hw.seeOut_ hs_pa (fun _ _ => List.not_mem_nil), hw.apart hs_pa (fun _ _ => List.not_mem_nil) (by simp)⟩)) ?_
  rintro _ _ ⟨_, ⟨qp_5, qs_6, x_8, m_9, fq_7, k_10, rfl, rfl⟩, rfl⟩
  refine JL.pure rfl (PO.move (v := .pointer (some ⟨c_2, 0, none⟩)) rfl) ?_
  refine JL.pure rfl (PO.move (v := .pointer (some ⟨c_2, 0, none⟩)) rfl) ?_
  refine JL.op rfl (JO.buildSlice (ps := [(0, .int .i64 0), (1, .int .i64 1), (2, .int .i64 3), (3, .int .i64 20), (4, .int .i64 21)]) (cur := #[.int .i64 0, .int .i64 1, .int .i64 3, .int .i64 20, .int .i64 21]) Tryz.underlying70 Tryz.sizeOf3 Tryz.zeroValue3 rfl (by kernel_rfl) (by decide) (by decide)) ?_
  rintro _ _ ⟨a_12, rfl, rfl⟩
  refine JL.op rfl (JO.call [1, 0] Tryz.call162 rfl (D_pickInt c_2 pa pc p qp_5 qs_6 a_12 5 ([0, 1, 3, 20, 21] : List Int) (by omega) (by omega) (by simp) (by simp)) rfl (fun w hw => ⟨hw.seeOut_ hs_pa (fun _ _ => List.not_mem_nil), hw.apart hs_pa (fun _ _ => List.not_mem_nil) (by simp)⟩)) ?_
  rintro _ _ ⟨_, ⟨qp_13, qs_14, n_16, fq_15, f_17, rfl, rfl⟩, rfl⟩
  have hbn_16 : -9223372036854775808 ≤ n_16 ∧ n_16 ≤ 9223372036854775807 := by have hx_ := f_17; simp only [List.mem_cons, List.not_mem_nil, or_false] at hx_; omega
  refine JL.op rfl (JO.call [0] Tryz.call161 rfl (D_text c_2 pa pc p qp_13 qs_14 (by omega) (by omega) n_16 (by omega)) rfl (fun w hw => ⟨hw.seeOut_ hs_pa (fun _ _ => List.not_mem_nil), hw.apart hs_pa (fun _ _ => List.not_mem_nil) (by simp)⟩)) ?_
  rintro _ _ ⟨_, ⟨qp_19, qs_20, u_22, fq_21, f_23, rfl, rfl⟩, rfl⟩
  refine JL.op rfl (JO.store 4 (vs := [.slice x_8.a0 m_9.s.length x_8.c0, .slice x_8.a1 m_9.r.length x_8.c1, .slice x_8.a2 m_9.w.length x_8.c2]) (cs' := [.slice x_8.a0 m_9.s.length x_8.c0, .slice x_8.a1 m_9.r.length x_8.c1, .slice x_8.a2 m_9.w.length x_8.c2]) rfl rfl rfl rfl Tryz.sizeOf32 rfl rfl (Nat.le_of_ble_eq_true rfl) rfl) ?_
  rintro _ _ rfl
  refine JL.pure rfl (PO.assign (v := str u_22) rfl) ?_
  refine JL.nil ?_
  refine JQ.seq ?_
  refine JC.ret ?_
  refine JQ.perm (pick_perm [1, 1, 1] (A := [rC x_8.a0 x_8.c0 m_9.s, rS x_8.a1 x_8.c1 m_9.r, rS x_8.a2 x_8.c2 m_9.w]) (F := [cb c_2 pa pc p qp_19 qs_20, mb b_1 x_8 m_9]) rfl).symm ?_
  refine Done.two (.inl rfl) rfl (RV.cell1 (LO.loadK 4 (vs := [.slice x_8.a0 m_9.s.length x_8.c0, .slice x_8.a1 m_9.r.length x_8.c1, .slice x_8.a2 m_9.w.length x_8.c2]) rfl rfl Tryz.isAgg32 Tryz.sizeOf32 rfl rfl) ⟨_, rfl⟩) (RV.tmp (v := str u_22) rfl) (List.sublist_append_left [rC x_8.a0 x_8.c0 m_9.s, rS x_8.a1 x_8.c1 m_9.r, rS x_8.a2 x_8.c2 m_9.w] [cb c_2 pa pc p qp_19 qs_20, mb b_1 x_8 m_9]) ?_
  exact ⟨x_8, m_9, u_22, (k_10.mono (by omega) (by omega)), (by first | omega | (simp only [List.length_append, List.length_cons, List.length_nil, List.length_take, List.length_drop]; omega)), rfl, rfl⟩

end Go.Proofs.YtenfajgpdhgknaaGreatDoor

set_option linter.unusedSimpArgs false
set_option linter.unusedVariables false
set_option linter.unnecessarySimpa false
namespace Go.Proofs.YtenfajgpdhgknaaGreatDoor
open Go Go.RowKit
def outCount (s : List Cell) : Int := min (numOf (getKey s ([100, 47, 110] : Str))) 40
def outsI (s : List Cell) : Nat → Nat → List Str → List Str
  | 0, _, out => out
  | f + 1, i, out => if ((i : Nat) : Int) ≤ outCount s then outsI s f (i + 1) (out ++ [messageOf (getKey s (keyNum ([100, 47] : Str) ((i : Nat) : Int) []))]) else out
theorem outsI_stop {s : List Cell} {f i : Nat} {out : List Str} (h : ¬ ((i : Nat) : Int) ≤ outCount s) : outsI s f i out = out := by
  cases f with
  | zero => rfl
  | succ f => rw [outsI, if_neg h]
def outsIn (s : List Cell) : List Str := outsI s 40 1 []
def bro (x : Int) (y : Nat) : Nat := min x.toNat y
theorem bro_le (x : Int) (y : Nat) : bro x y ≤ y := Nat.min_le_right _ _
theorem bro_out {s : List Cell} {n : Int} (e : numOf (getKey s ([100, 47, 110] : Str)) = n) (h : 0 ≤ n) : outCount s = ((bro n 40 : Nat) : Int) := by
  unfold outCount bro
  rw [e]
  omega
def outsFrom (s : List Cell) (k : Int) : List Str := ((outsIn s).drop (bro k (outsIn s).length)).take ((outsIn s).length - bro k (outsIn s).length)
def outsGoOn (a b : List Str) : Bool := decide (a.length ≤ b.length) && decide (a = b.take a.length)
theorem outsI_len {s : List Cell} {n : Nat} (hc : outCount s = (n : Int)) : ∀ (f i : Nat) (out : List Str), i ≤ n + 1 → n + 1 ≤ i + f → (outsI s f i out).length = out.length + (n + 1 - i) := by
  intro f
  induction f with
  | zero => intro i out h1 h2; rw [outsI]; omega
  | succ f ih =>
    intro i out h1 h2
    rw [outsI, hc]
    by_cases h : ((i : Nat) : Int) ≤ (n : Int)
    · rw [if_pos h, ih (i + 1) _ (by omega) (by omega)]
      simp only [List.length_append, List.length_cons, List.length_nil]
      omega
    · rw [if_neg h]; omega
theorem pl_outCount {s : List Cell} {n : Int} {l : List Str} (e : outCount s = n) (h : 0 ≤ n ∧ n ≤ 40) (e2 : outsIn s = l) : n = ((l.length : Nat) : Int) := by
  obtain ⟨k, hk⟩ : ∃ k : Nat, n = (k : Int) := ⟨n.toNat, by omega⟩
  subst e2
  have := outsI_len (s := s) (n := k) (by rw [e, hk]) 40 1 [] (by omega) (by omega)
  unfold outsIn
  rw [this, hk]
  simp
theorem outsF : outsIn ((MS.putOut MS.empty ([97, 98] : Str)).1.putOut ([99] : Str)).1.s = [([97, 98] : Str), ([99] : Str)] ∧ outsGoOn (outsIn (MS.putOut MS.empty ([97, 98] : Str)).1.s) (outsIn ((MS.putOut MS.empty ([97, 98] : Str)).1.putOut ([99] : Str)).1.s) = true ∧ outsGoOn [([97] : Str)] [] = false := by decide +kernel
theorem pl_outs {b m1 m2 : MS} {x y : Int} (e0 : MS.empty = b) (e1 : b.putOut ([97, 98] : Str) = (m1, x)) (e2 : m1.putOut ([99] : Str) = (m2, y)) : outsIn m2.s = [([97, 98] : Str), ([99] : Str)] ∧ outsGoOn (outsIn m1.s) (outsIn m2.s) = true ∧ outsGoOn [([97] : Str)] [] = false := by
  subst e0
  have h := outsF
  simp only [e1, e2] at h
  exact h
theorem okC_get {n : Nat} {s : List Cell} (h : s.length ≤ n ∧ ∀ c ∈ s, c.1.length ≤ 1048576 ∧ c.2.length ≤ 1048576) (key : Str) : (getKey s key).length ≤ 1048576 := by
  rcases getKey_mem (s := s) (key := key) with h0 | ⟨c, hc, _, h2⟩
  · rw [h0]; simp
  · rw [← h2]; exact (h.2 c hc).2
end Go.Proofs.YtenfajgpdhgknaaGreatDoor
