/-
  Texts of the walk, joined: what each one proves stands at its theorems.
-/
import Derived.Test.YtenfajgpdhgknaaGreatDoorDatF
import Derived.Lib.MinMax
set_option linter.unusedSimpArgs false
set_option linter.unusedVariables false
set_option linter.unnecessarySimpa false
namespace Go.Proofs.YtenfajgpdhgknaaGreatDoor
open Go Go.RowKit

theorem unhexL_hexB' : ∀ r : Str, unhexL (hexB r) = some r
  | [] => rfl
  | c :: r => by
    have hc := UInt8.toNat_lt c
    have hv : ∀ n : Fin 16, hexVal (hexFig n.val) = some n.val := by decide +kernel
    rw [hexB, unhexL, hv ⟨c.toNat / 16, by omega⟩, hv ⟨c.toNat % 16, by omega⟩, unhexL_hexB' r]
    simp only
    rw [show 16 * (c.toNat / 16) + c.toNat % 16 = c.toNat by omega, UInt8.ofNat_toNat]
theorem getKey_mid_ne {key k2 val : Str} (h : ¬ key = k2) : ∀ (a b : List Cell), getKey (a ++ (key, val) :: b) k2 = getKey (a ++ b) k2
  | [], b => by rw [List.nil_append, List.nil_append, getKey, if_neg h]
  | c :: a, b => by
    rw [List.cons_append, List.cons_append, getKey, getKey, getKey_mid_ne h a b]
theorem getKey_filter_ne {key k2 : Str} (h : ¬ key = k2) : ∀ s : List Cell, getKey (s.filter (fun c => !decide (c.1 = key))) k2 = getKey s k2
  | [] => rfl
  | c :: s => by
    by_cases hc : c.1 = key
    · rw [List.filter_cons_of_neg (by simp [hc]), getKey_filter_ne h s, getKey, if_neg (by rw [hc]; exact h)]
    · rw [List.filter_cons_of_pos (by simp [hc]), getKey, getKey, getKey_filter_ne h s]
theorem getKey_put_ne {s : List Cell} {key k2 val : Str} (h : ¬ key = k2) : getKey (putKey s key val) k2 = getKey s k2 := by
  unfold putKey
  split
  · rfl
  · simp only
    split
    · exact getKey_filter_ne h s
    · unfold insertAt
      rw [getKey_mid_ne h, List.take_append_drop, getKey_filter_ne h s]
theorem getKey_absent {key : Str} : ∀ {s : List Cell}, (∀ c ∈ s, ¬ c.1 = key) → getKey s key = []
  | [], _ => rfl
  | c :: s, h => by rw [getKey, if_neg (h c (List.mem_cons_self ..)), getKey_absent fun d hd => h d (List.mem_cons_of_mem _ hd)]
theorem getKey_put_nil {s : List Cell} {key : Str} (hk : keyOk key = true) : getKey (putKey s key []) key = [] := by
  rw [putKey_nil hk (by simp) rfl]
  exact getKey_absent fun c hc => by simpa using (List.mem_filter.1 hc).2
theorem numOf_nil : numOf [] = 0 := by decide +kernel
theorem numKey {m m2 : MS} {key : Str} {n : Int} (e : m.num key = (m2, n)) : m2.s = m.s ∧ n = numOf (getKey m.s key) := by
  exact ⟨(show m.s = m2.s from congrArg (fun p => p.1.s) e).symm, (congrArg Prod.snd e).symm⟩
theorem setNum_s {m : MS} {key : Str} {n : Int} (h0 : 1 ≤ n) (h1 : n ≤ 999) : (m.setNum key n).s = putKey m.s key (dec n) := by
  show putKey m.s key _ = _
  rw [if_pos ⟨h0, h1⟩]
theorem getNum_put {s : List Cell} {key : Str} {n : Int} (hk : keyOk key = true) (h0 : 1 ≤ n) (h1 : n ≤ 999) : numOf (getKey (putKey s key (dec n)) key) = n := by
  obtain ⟨hn, hne⟩ := numOf_dec h0 h1
  have hl := dec_len21 (n := n) (by omega) (by omega)
  rw [getKey_put hk hne (by omega), hn]

/- names -/
theorem nameByte_key {c : UInt8} (h : nameByte c = true) : keyByte c = true := by
  unfold nameByte at h
  unfold keyByte
  simp only [Bool.or_eq_true, Bool.and_eq_true, decide_eq_true_eq, Bool.not_eq_true', decide_eq_false_iff_not] at h ⊢
  omega
theorem keyOk_name {name : Str} (h : nameOk name = true) : keyOk (([110, 47] : Str) ++ name) = true := by
  unfold nameOk at h
  simp only [Bool.and_eq_true, decide_eq_true_eq, List.all_eq_true] at h
  unfold keyOk
  simp only [Bool.and_eq_true, decide_eq_true_eq, List.all_eq_true, List.length_append, List.length_cons, List.length_nil]
  refine ⟨⟨fun x hx => ?_, by omega⟩, by omega⟩
  rcases List.mem_append.1 hx with hx | hx
  · simp only [List.mem_cons, List.not_mem_nil, or_false] at hx
    rcases hx with rfl | rfl <;> decide
  · exact nameByte_key (h.1.1 x hx)
theorem name_ne {name t : Str} {id : Int} : ¬ keyNum ([105, 47] : Str) id t = ([110, 47] : Str) ++ name := by
  unfold keyNum
  simp
theorem name_ne' {name t : Str} {id : Int} : ¬ ([110, 47] : Str) ++ name = keyNum ([105, 47] : Str) id t := fun h => name_ne h.symm
theorem fileOf_eq {m m2 : MS} {name : Str} {f : Int} (e : m.fileOf name = (m2, f)) : m2.s = m.s ∧ (nameOk name = true → f = numOf (getKey m.s (([110, 47] : Str) ++ name))) ∧ (nameOk name = false → f = 0) ∧ 0 ≤ f ∧ f ≤ 999 := by
  unfold MS.fileOf at e
  split at e
  · rename_i h
    obtain ⟨h1, h2⟩ := numKey e
    have := numOf_lo (getKey m.s (([110, 47] : Str) ++ name))
    exact ⟨h1, fun _ => h2, fun h0 => absurd (h0.symm.trans h) (by simp), by omega, by omega⟩
  · rename_i h
    simp only [Prod.mk.injEq] at e
    exact ⟨by rw [← e.1], fun h0 => absurd h0 h, fun _ => e.2.symm, by omega, by omega⟩
theorem makeName_cases {m x : MS} {name : Str} {id n : Int} (e : m.makeName name = (x, id, n)) :
    (n ≠ 0 ∧ id = 0 ∧ x.s = m.s) ∨ (n = 0 ∧ nameOk name = true ∧ 1 ≤ id ∧ id ≤ 20 ∧ x.s = putKey (putKey (putKey m.s ([99, 47, 102, 105, 108, 101] : Str) (dec id)) (([110, 47] : Str) ++ name) (dec id)) (keyNum ([105, 47] : Str) id ([47, 108] : Str)) (dec 1)) := by
  unfold MS.makeName at e
  split at e
  · rename_i hn
    rcases hf : m.fileOf name with ⟨m1, f⟩
    rw [hf] at e
    obtain ⟨hs1, -, -, -, -⟩ := fileOf_eq hf
    simp only at e
    split at e
    · rcases hq : m1.num ([99, 47, 102, 105, 108, 101] : Str) with ⟨m2, q⟩
      rw [hq] at e
      obtain ⟨hs2, hq2⟩ := numKey hq
      have hq3 := numOf_lo (getKey m1.s ([99, 47, 102, 105, 108, 101] : Str))
      simp only at e
      split at e
      · simp only [Prod.mk.injEq] at e
        obtain ⟨rfl, rfl, rfl⟩ := e
        exact .inl ⟨by decide, rfl, hs2.trans hs1⟩
      · rcases hb : m2.bump ([99, 47, 102, 105, 108, 101] : Str) with ⟨m3, i⟩
        rw [hb] at e
        simp only [Prod.mk.injEq] at e
        obtain ⟨rfl, rfl, rfl⟩ := e
        unfold MS.bump at hb
        rcases hr : m2.num ([99, 47, 102, 105, 108, 101] : Str) with ⟨m4, r⟩
        obtain ⟨hs4, hr2⟩ := numKey hr
        rw [hs2] at hr2
        rw [hr] at hb
        simp only at hb
        rw [if_neg (by omega)] at hb
        simp only [Prod.mk.injEq] at hb
        obtain ⟨rfl, rfl⟩ := hb
        refine .inr ⟨rfl, hn, by omega, by omega, ?_⟩
        rw [setNum_s (by omega) (by omega), setNum_s (by omega) (by omega), setNum_s (by omega) (by omega), hs4, hs2, hs1]
    · simp only [Prod.mk.injEq] at e
      obtain ⟨rfl, rfl, rfl⟩ := e
      exact .inl ⟨by decide, rfl, hs1⟩
  · simp only [Prod.mk.injEq] at e
    obtain ⟨rfl, rfl, rfl⟩ := e
    exact .inl ⟨by decide, rfl, rfl⟩
theorem pl_make_no {m x : MS} {name : Str} {id n : Int} (e : m.makeName name = (x, id, n)) (h : ¬ n = 0) : id = 0 ∧ x.s = m.s := by
  rcases makeName_cases e with ⟨_, h1, h2⟩ | ⟨h1, _⟩
  · exact ⟨h1, h2⟩
  · exact absurd h1 h
theorem pl_make_yes {m x y z : MS} {name : Str} {id n f a b : Int} (e : m.makeName name = (x, id, n)) (h : n = 0) (ef : x.fileOf name = (y, f)) (em : x.makeName name = (z, a, b)) : f = id ∧ b = 1 := by
  rcases makeName_cases e with ⟨h1, _⟩ | ⟨_, hn, h1, h2, hs⟩
  · exact absurd h h1
  · have hk := keyOk_name hn
    obtain ⟨-, hf, -, -, -⟩ := fileOf_eq ef
    have hf1 : f = id := by
      rw [hf hn, hs, getKey_put_ne name_ne, getNum_put hk h1 (by omega)]
    refine ⟨hf1, ?_⟩
    unfold MS.makeName at em
    rw [if_pos hn, ef] at em
    simp only at em
    rw [if_neg (by omega)] at em
    simp only [Prod.mk.injEq] at em
    exact em.2.2.symm
theorem pl_make_base {b c d : MS} {one two x y : Int} (e0 : MS.empty = b) (e1 : b.makeName ([120] : Str) = (c, one, x)) (e2 : c.makeName ([121] : Str) = (d, two, y)) : one = 1 ∧ two = 2 := by
  subst e0
  have h1 : (MS.makeName MS.empty ([120] : Str)).2.1 = 1 := by decide +kernel
  have h2 : ((MS.makeName MS.empty ([120] : Str)).1.makeName ([121] : Str)).2.1 = 2 := by decide +kernel
  rw [e1] at h1 h2
  rw [show (c, one, x).1 = c from rfl, e2] at h2
  exact ⟨h1, h2⟩

theorem linkName_cases {m x : MS} {p q : Str} {n : Int} (e : m.linkName p q = (x, n)) :
    n ≠ 0 ∨ (n = 0 ∧ nameOk p = true ∧ nameOk q = true ∧ ∃ (id : Int) (v : Str), 1 ≤ id ∧ id ≤ 999 ∧ id = numOf (getKey m.s (([110, 47] : Str) ++ p)) ∧ x.s = putKey (putKey m.s (([110, 47] : Str) ++ q) (dec id)) (keyNum ([105, 47] : Str) id ([47, 108] : Str)) v) := by
  unfold MS.linkName at e
  split at e
  · rename_i hp
    split at e
    · rename_i hq
      rcases hf : m.fileOf p with ⟨m1, f⟩
      rw [hf] at e
      obtain ⟨hs1, hf1, -, hf2, hf3⟩ := fileOf_eq hf
      simp only at e
      split at e
      · simp only [Prod.mk.injEq] at e; exact .inl (by omega)
      · rcases hg : m1.fileOf q with ⟨m2, g⟩
        rw [hg] at e
        obtain ⟨hs2, -, -, -, -⟩ := fileOf_eq hg
        simp only at e
        split at e
        · rcases hl : m2.num (keyNum ([105, 47] : Str) f ([47, 108] : Str)) with ⟨m3, l⟩
          rw [hl] at e
          obtain ⟨hs3, hl3⟩ := numKey hl
          simp only at e
          split at e
          · simp only [Prod.mk.injEq] at e; exact .inl (by omega)
          · simp only [Prod.mk.injEq] at e
            obtain ⟨rfl, rfl⟩ := e
            refine .inr ⟨rfl, hp, hq, f, (if 1 ≤ l + 1 ∧ l + 1 ≤ 999 then dec (l + 1) else []), by omega, by omega, hf1 hp, ?_⟩
            show putKey (MS.setNum m3 _ f).s _ _ = _
            rw [setNum_s (by omega) (by omega), hs3, hs2, hs1]
        · simp only [Prod.mk.injEq] at e; exact .inl (by omega)
    · simp only [Prod.mk.injEq] at e; exact .inl (by omega)
  · simp only [Prod.mk.injEq] at e; exact .inl (by omega)
theorem pl_link {m x y z : MS} {p q : Str} {n i w : Int} (e : m.linkName p q = (x, n)) (e1 : x.fileOf q = (y, i)) (e2 : m.fileOf p = (z, w)) : n ≠ 0 ∨ i = w := by
  rcases linkName_cases e with h | ⟨_, hp, hq, id, v, h1, h2, h3, hs⟩
  · exact .inl h
  · right
    obtain ⟨-, hi, -, -, -⟩ := fileOf_eq e1
    obtain ⟨-, hw, -, -, -⟩ := fileOf_eq e2
    rw [hi hq, hs, getKey_put_ne name_ne, getNum_put (keyOk_name hq) h1 h2, hw hp, h3]
theorem wipeL_s {p : Str} : ∀ (l : List Str) (m : MS) (k : Str), (∀ x ∈ l, ¬ x = k) → getKey (MS.wipeL l m).s k = getKey m.s k
  | [], m, k, _ => rfl
  | x :: l, m, k, h => by
    rw [MS.wipeL, wipeL_s (p := p) l _ k fun y hy => h y (List.mem_cons_of_mem _ hy)]
    exact getKey_put_ne (h x (List.mem_cons_self ..))
theorem wipe_s {m : MS} {p k : Str} (h : prefixB k p = false) : getKey (m.wipe' p).s k = getKey m.s k := by
  unfold MS.wipe'
  show getKey (MS.wipeL (keysUnder m.s p) (m.under p).1).s k = _
  rw [wipeL_s (p := p)]
  · rfl
  · intro x hx hxk
    subst hxk
    unfold keysUnder at hx
    obtain ⟨c, hc, rfl⟩ := List.mem_map.1 hx
    rw [(List.mem_filter.1 hc).2] at h
    cases h
theorem unlink_cases {m x : MS} {name : Str} {n : Int} (e : m.unlinkName name = (x, n)) : (n ≠ 0 ∧ x.s = m.s) ∨ (n = 0 ∧ ∀ k : Str, (∀ t id, ¬ keyNum ([105, 47] : Str) id t = k) → prefixB k ([105, 47] : Str) = false → getKey x.s k = getKey (putKey m.s (([110, 47] : Str) ++ name) []) k) := by
  unfold MS.unlinkName at e
  split at e
  · rename_i hp
    rcases hf : m.fileOf name with ⟨m1, f⟩
    rw [hf] at e
    obtain ⟨hs1, hf1, -, hf2, hf3⟩ := fileOf_eq hf
    simp only at e
    split at e
    · simp only [Prod.mk.injEq] at e
      obtain ⟨rfl, rfl⟩ := e
      exact .inl ⟨by decide, hs1⟩
    · rcases hl : (m1.lay (([110, 47] : Str) ++ name) []).num (keyNum ([105, 47] : Str) f ([47, 108] : Str)) with ⟨m3, l⟩
      rw [hl] at e
      obtain ⟨hs3, hl3⟩ := numKey hl
      simp only at e
      split at e
      · simp only [Prod.mk.injEq] at e
        obtain ⟨rfl, rfl⟩ := e
        refine .inr ⟨rfl, fun k hk hk2 => ?_⟩
        show getKey (putKey m3.s _ _) k = _
        rw [getKey_put_ne (hk _ _), hs3]
        show getKey (putKey m1.s _ _) k = _
        rw [hs1]
      · simp only [Prod.mk.injEq] at e
        obtain ⟨rfl, rfl⟩ := e
        refine .inr ⟨rfl, fun k hk hk2 => ?_⟩
        rw [wipe_s, hs3]
        · show getKey (putKey m1.s _ _) k = _
          rw [hs1]
        · cases hpk : prefixB k (keyNum ([105, 47] : Str) f ([47] : Str)) with
          | false => rfl
          | true =>
            exfalso
            unfold prefixB at hpk hk2
            simp only [Bool.and_eq_true, decide_eq_true_eq, Bool.and_eq_false_iff, decide_eq_false_iff_not] at hpk hk2
            obtain ⟨ha, hb⟩ := hpk
            have hlen : 2 ≤ (keyNum ([105, 47] : Str) f ([47] : Str)).length := by unfold keyNum; simp only [List.length_append, List.length_cons, List.length_nil]; omega
            rcases hk2 with hk2 | hk2
            · simp only [List.length_cons, List.length_nil] at hk2; omega
            · apply hk2
              have h3 : (k.take (keyNum ([105, 47] : Str) f ([47] : Str)).length).take 2 = k.take 2 := by rw [List.take_take, Nat.min_eq_left hlen]
              show k.take 2 = _
              rw [← h3, hb]
              unfold keyNum
              rfl
  · simp only [Prod.mk.injEq] at e
    obtain ⟨rfl, rfl⟩ := e
    exact .inl ⟨by decide, rfl⟩
theorem pl_unlink {m x : MS} {name : Str} {n : Int} (e : m.unlinkName name = (x, n)) : n = 0 ∨ x.s = m.s := by
  rcases unlink_cases e with ⟨_, h⟩ | ⟨h, _⟩
  · exact .inr h
  · exact .inl h
theorem pl_link_base {b m1 m2 m3 m4 y : MS} {id x n2 n3 n4 other : Int} {g : List Str} (e0 : MS.empty = b) (e1 : b.makeName ([120] : Str) = (m1, id, x)) (e2 : m1.linkName ([120] : Str) ([121] : Str) = (m2, n2)) (e3 : m2.unlinkName ([120] : Str) = (m3, n3))
    (e4 : m3.fileOf ([121] : Str) = (y, other)) (e5 : m3.unlinkName ([121] : Str) = (m4, n4)) (e6 : keysUnder m4.s ([105, 47] : Str) = g) : other = id ∧ id = 1 ∧ g.length = 0 := by
  subst e0
  have h1 : (MS.makeName MS.empty ([120] : Str)).2.1 = 1 := by decide +kernel
  have h2 : ((((MS.makeName MS.empty ([120] : Str)).1.linkName ([120] : Str) ([121] : Str)).1.unlinkName ([120] : Str)).1.fileOf ([121] : Str)).2 = 1 := by decide +kernel
  have h3 : (keysUnder ((((MS.makeName MS.empty ([120] : Str)).1.linkName ([120] : Str) ([121] : Str)).1.unlinkName ([120] : Str)).1.unlinkName ([121] : Str)).1.s ([105, 47] : Str)).length = 0 := by decide +kernel
  simp only [e1, e2, e3, e4, e5, e6] at h1 h2 h3
  exact ⟨by omega, h1, h3⟩
theorem n_nopre (name : Str) : prefixB (([110, 47] : Str) ++ name) ([105, 47] : Str) = false := by
  unfold prefixB
  simp
theorem name_inj {a b : Str} (h : ¬ a = b) : ¬ ([110, 47] : Str) ++ a = ([110, 47] : Str) ++ b := by simpa using h
theorem pl_rename {m x y1 y2 y3 y4 : MS} {p q : Str} {n old was now left : Int} (e : m.renameName p q = (x, n)) (e1 : m.fileOf p = (y1, old)) (e2 : m.fileOf q = (y2, was)) (e3 : x.fileOf q = (y3, now)) (e4 : x.fileOf p = (y4, left)) :
    n ≠ 0 ∨ (now = old ∧ (left = 0 ∨ was = old)) := by
  unfold MS.renameName at e
  split at e
  · rename_i hp
    split at e
    · rename_i hq
      rw [e1] at e
      obtain ⟨hs1, hf1, -, hf2, hf3⟩ := fileOf_eq e1
      obtain ⟨-, hw1, -, hw2, hw3⟩ := fileOf_eq e2
      obtain ⟨-, hn1, -, -, -⟩ := fileOf_eq e3
      obtain ⟨-, hl1, -, -, -⟩ := fileOf_eq e4
      simp only at e
      split at e
      · simp only [Prod.mk.injEq] at e; exact .inl (by omega)
      · rcases hg : y1.fileOf q with ⟨m2, g⟩
        rw [hg] at e
        obtain ⟨hs2, hg1, -, -, -⟩ := fileOf_eq hg
        have hgw : g = was := by rw [hg1 hq, hs1, ← hw1 hq]
        simp only at e
        split at e
        · simp only [Prod.mk.injEq] at e
          obtain ⟨rfl, rfl⟩ := e
          right
          exact ⟨by rw [hn1 hq, hs2, hs1, ← hw1 hq]; omega, .inr (by omega)⟩
        · rename_i hgo
          have hpq : ¬ p = q := fun h => by subst h; exact hgo (by rw [hgw, hw1 hp, ← hf1 hp])
          have fin : ∀ m3 : MS, x.s = putKey (putKey m3.s (([110, 47] : Str) ++ q) (dec old)) (([110, 47] : Str) ++ p) [] → now = old ∧ left = 0 := fun m3 hx => by
            refine ⟨?_, ?_⟩
            · rw [hn1 hq, hx, getKey_put_ne (name_inj hpq), getNum_put (keyOk_name hq) (by omega) (by omega)]
            · rw [hl1 hp, hx, getKey_put_nil (keyOk_name hp), numOf_nil]
          split at e
          · simp only [Prod.mk.injEq] at e
            obtain ⟨rfl, rfl⟩ := e
            obtain ⟨h1, h2⟩ := fin m2 (by show putKey (MS.setNum m2 _ old).s _ _ = _; rw [setNum_s (by omega) (by omega)])
            exact .inr ⟨h1, .inl h2⟩
          · rcases hu : m2.unlinkName q with ⟨m3, u⟩
            rw [hu] at e
            simp only [Prod.mk.injEq] at e
            obtain ⟨rfl, rfl⟩ := e
            obtain ⟨h1, h2⟩ := fin m3 (by show putKey (MS.setNum m3 _ old).s _ _ = _; rw [setNum_s (by omega) (by omega)])
            exact .inr ⟨h1, .inl h2⟩
    · simp only [Prod.mk.injEq] at e; exact .inl (by omega)
  · simp only [Prod.mk.injEq] at e; exact .inl (by omega)
theorem pl_rename_base {b m1 m2 m3 : MS} {id x n2 : Int} {g : List Str} (e0 : MS.empty = b) (e1 : b.makeName ([120] : Str) = (m1, id, x)) (e2 : m1.renameName ([120] : Str) ([121] : Str) = (m2, n2)) (e3 : m2.names = (m3, g)) : g = [([121] : Str)] ∧ id = 1 := by
  subst e0
  have h1 : (MS.makeName MS.empty ([120] : Str)).2.1 = 1 := by decide +kernel
  have h2 : ((MS.makeName MS.empty ([120] : Str)).1.renameName ([120] : Str) ([121] : Str)).1.names.2 = [([121] : Str)] := by decide +kernel
  simp only [e1, e2, e3] at h1 h2
  exact ⟨h2, h1⟩

/- processes -/
theorem procsF : ∀ k : Fin 101, let a := (MS.spawn MS.empty 0); let b := a.1.spawn a.2.1; let c := b.1.endProc b.2.1 ((k.val : Nat) : Int); let d := c.1.reap a.2.1 b.2.1
    a.2.1 = 1 ∧ (b.1.kids a.2.1).2 = [2] ∧ d.2.1 = ((k.val : Nat) : Int) ∧ d.2.2 = 0 ∧ (d.1.reap a.2.1 b.2.1).2.2 = 2 := by decide +kernel
theorem pl_procs {m0 m1 m2 m3 m4 m5 m6 : MS} {a1 a2 b1 b2 c t ok u v k : Int} {l : List Int} (e0 : MS.empty = m0) (h0 : 0 ≤ k) (h1 : k ≤ 100) (e1 : m0.spawn 0 = (m1, a1, a2)) (e2 : m1.spawn a1 = (m2, b1, b2)) (e3 : m2.kids a1 = (m6, l)) (e4 : m2.endProc b1 k = (m3, c))
    (e5 : m3.reap a1 b1 = (m4, t, ok)) (e6 : m4.reap a1 b1 = (m5, u, v)) : a1 = 1 ∧ l = [2] ∧ t = k ∧ ok = 0 ∧ v = 2 := by
  subst e0
  have h := procsF ⟨k.toNat, by omega⟩
  simp only [Int.toNat_of_nonneg h0, e1, e2, e3, e4, e5, e6] at h
  exact h
/- signals -/
theorem signalsF : ∀ k : Fin 50, let a := (MS.spawn MS.empty 0); let w := 1 + ((k.val : Nat) : Int); let b := a.1.setTimer 1 w; let c := b.1.tick w; let d := c.1.takeSignal 1
    c.2.1 = 1 ∧ d.2.1 = 14 ∧ d.2.2 = 0 ∧ (c.1.tick 5).2.1 = 0 ∧ (1 < w → ((b.1.tick (w - 1)).1.takeSignal 1).2.2 = 5) := by decide +kernel
theorem pl_signals {m0 m1 m2 m3 m4 m5 : MS} {a1 a2 b1 none c1 sig ok tw d k : Int} (e0 : MS.empty = m0) (h0 : 1 ≤ k) (h1 : k ≤ 50) (e1 : m0.spawn 0 = (m1, a1, a2)) (e2 : m1.setTimer 1 k = (m2, b1)) (e3 : m2.tick k = (m3, none, c1)) (e4 : m3.takeSignal 1 = (m4, sig, ok)) (e5 : m3.tick 5 = (m5, tw, d)) :
    none = 1 ∧ sig = 14 ∧ ok = 0 ∧ tw = 0 := by
  subst e0
  have h := signalsF ⟨(k - 1).toNat, by omega⟩
  simp only [Int.toNat_of_nonneg (show 0 ≤ k - 1 by omega), show 1 + (k - 1) = k by omega, e1, e2, e3, e4, e5] at h
  exact ⟨h.1, h.2.1, h.2.2.1, h.2.2.2.1⟩
theorem pl_signals_early {m0 m1 m2 m6 m7 : MS} {a1 a2 b1 x y u v k : Int} (e0 : MS.empty = m0) (h0 : 1 < k) (h1 : k ≤ 50) (e1 : m0.spawn 0 = (m1, a1, a2)) (e2 : m1.setTimer 1 k = (m2, b1)) (e6 : m2.tick (k - 1) = (m6, x, y)) (e7 : m6.takeSignal 1 = (m7, u, v)) : v = 5 := by
  subst e0
  have h := signalsF ⟨(k - 1).toNat, by omega⟩
  simp only [Int.toNat_of_nonneg (show 0 ≤ k - 1 by omega), show 1 + (k - 1) = k by omega, e1, e2, e6, e7] at h
  exact h.2.2.2.2 h0
/- files -/
theorem pl_write {m x : MS} {id at_ n : Int} {text : Str} (e : m.writeFile id at_ text = (x, n)) : n = 0 ∨ x.s = m.s := by
  unfold MS.writeFile at e
  rcases hz : m.sizeOf id with ⟨m1, z⟩
  obtain ⟨h1, -⟩ := numKey hz
  rw [hz] at e
  simp only at e
  split at e
  · simp only [Prod.mk.injEq] at e; exact .inr (by rw [← e.1, h1])
  · split at e
    · simp only [Prod.mk.injEq] at e; exact .inr (by rw [← e.1, h1])
    · split at e <;> (simp only [Prod.mk.injEq] at e; exact .inl e.2.symm)
def hello : Str := ([104, 101, 108, 108, 111, 32, 119, 111, 114, 108, 100] : Str)
def hellw : Str := ([104, 101, 108, 108, 111, 32, 119, 48, 114, 108, 100] : Str)
theorem bytesF : (MS.writeFile MS.empty 1 0 hello).2 = 0 ∧ ((MS.writeFile MS.empty 1 0 hello).1.writeFile 1 6 ([119, 48] : Str)).2 = 0 ∧ (((MS.writeFile MS.empty 1 0 hello).1.writeFile 1 6 ([119, 48] : Str)).1.readFile 1 0 999).2 = hellw := by decide +kernel
theorem partF : ∀ i j : Fin 12, (((MS.writeFile MS.empty 1 0 hello).1.writeFile 1 6 ([119, 48] : Str)).1.readFile 1 ((i.val : Nat) : Int) ((1 + j.val : Nat) : Int)).2 = if i.val < 11 then (hellw.drop i.val).take (min (i.val + (1 + j.val)) 11 - i.val) else [] := by decide +kernel
theorem pl_bytes {b m1 m2 m3 : MS} {x y : Int} {all : Str} (e0 : MS.empty = b) (e1 : b.writeFile 1 0 ([104, 101, 108, 108, 111, 32, 119, 111, 114, 108, 100] : Str) = (m1, x)) (e2 : m1.writeFile 1 6 ([119, 48] : Str) = (m2, y)) (e3 : m2.readFile 1 0 999 = (m3, all)) : x = 0 ∧ y = 0 ∧ all = ([104, 101, 108, 108, 111, 32, 119, 48, 114, 108, 100] : Str) := by
  subst e0
  have h := bytesF
  unfold hello hellw at h
  simp only [e1, e2, e3] at h
  exact h
theorem pl_part_out {b m1 m2 m4 : MS} {x y : Int} {p : Str} {i j : Nat} (e0 : MS.empty = b) (e1 : b.writeFile 1 0 ([104, 101, 108, 108, 111, 32, 119, 111, 114, 108, 100] : Str) = (m1, x)) (e2 : m1.writeFile 1 6 ([119, 48] : Str) = (m2, y)) (e4 : m2.readFile 1 ((i % 12 : Nat) : Int) ((1 + j % 12 : Nat) : Int) = (m4, p)) (h : ¬ i % 12 < 11) : p = [] := by
  subst e0
  have h1 := partF ⟨i % 12, Nat.mod_lt _ (by decide)⟩ ⟨j % 12, Nat.mod_lt _ (by decide)⟩
  unfold hello at h1
  simp only [e1, e2, e4, if_neg h] at h1
  exact h1
theorem pl_part_in {b m1 m2 m4 : MS} {x y : Int} {p : Str} {i j E : Nat} (e0 : MS.empty = b) (e1 : b.writeFile 1 0 ([104, 101, 108, 108, 111, 32, 119, 111, 114, 108, 100] : Str) = (m1, x)) (e2 : m1.writeFile 1 6 ([119, 48] : Str) = (m2, y)) (e4 : m2.readFile 1 ((i % 12 : Nat) : Int) ((1 + j % 12 : Nat) : Int) = (m4, p)) (h : i % 12 < 11) (hE : E = min (i % 12 + (1 + j % 12)) 11) :
    p = ((([104, 101, 108, 108, 111, 32, 119, 48, 114, 108, 100] : Str)).drop (i % 12)).take (E - i % 12) := by
  subst e0 hE
  have h1 := partF ⟨i % 12, Nat.mod_lt _ (by decide)⟩ ⟨j % 12, Nat.mod_lt _ (by decide)⟩
  unfold hello hellw at h1
  simp only [e1, e2, e4, if_pos h] at h1
  exact h1
theorem cutF : ((MS.writeFile MS.empty 1 0 hello).1.cutFile 1 9).2 = 0 ∧ (((MS.writeFile MS.empty 1 0 hello).1.cutFile 1 9).1.readFile 1 0 999).2 = ([104, 101, 108, 108, 111, 32, 119, 111, 114] : Str) ∧ (keysUnder ((MS.writeFile MS.empty 1 0 hello).1.cutFile 1 9).1.s ([105, 47, 49, 47, 98, 47] : Str)).length = 2 := by decide +kernel
theorem pl_cut0 {b m1 m2 m3 : MS} {x y : Int} {left : Str} (e0 : MS.empty = b) (e1 : b.writeFile 1 0 ([104, 101, 108, 108, 111, 32, 119, 111, 114, 108, 100] : Str) = (m1, x)) (e2 : m1.cutFile 1 9 = (m2, y)) (e3 : m2.readFile 1 0 999 = (m3, left)) : y = 0 ∧ left = ([104, 101, 108, 108, 111, 32, 119, 111, 114] : Str) := by
  subst e0
  have h := cutF
  unfold hello at h
  simp only [e1, e2, e3] at h
  exact ⟨h.1, h.2.1⟩
theorem pl_cut {b m1 m2 m3 : MS} {x y : Int} {left : Str} {g : List Str} (e0 : MS.empty = b) (e1 : b.writeFile 1 0 ([104, 101, 108, 108, 111, 32, 119, 111, 114, 108, 100] : Str) = (m1, x)) (e2 : m1.cutFile 1 9 = (m2, y)) (e3 : m2.readFile 1 0 999 = (m3, left)) (e4 : keysUnder m2.s ([105, 47, 49, 47, 98, 47] : Str) = g) : y = 0 ∧ left = ([104, 101, 108, 108, 111, 32, 119, 111, 114] : Str) ∧ g.length = 2 := by
  subst e0
  have h := cutF
  unfold hello at h
  simp only [e1, e2, e3, e4] at h
  exact h

/- pipes -/
def qk (i : Nat) : Str := keyNum (keyNum ([112, 47] : Str) 1 ([47, 113, 47] : Str)) ((i : Nat) : Int) []
def pk (t : Str) : Str := keyNum ([112, 47] : Str) 1 t
theorem qkF : ∀ i : Fin 10, keyOk (qk i.val) = true ∧ ¬ qk i.val = pk ([47, 111] : Str) ∧ ¬ qk i.val = pk ([47, 104] : Str) ∧ ¬ qk i.val = pk ([47, 116] : Str) := by decide +kernel
theorem qkI : ∀ i j : Fin 10, ¬ i.val = j.val → ¬ qk i.val = qk j.val := by decide +kernel
theorem pkF : keyOk (pk ([47, 111] : Str)) = true ∧ keyOk (pk ([47, 104] : Str)) = true ∧ keyOk (pk ([47, 116] : Str)) = true ∧ ¬ pk ([47, 111] : Str) = pk ([47, 104] : Str) ∧ ¬ pk ([47, 111] : Str) = pk ([47, 116] : Str) ∧ ¬ pk ([47, 104] : Str) = pk ([47, 116] : Str) := by decide +kernel
structure PS (s : List Cell) (h t : Nat) (f : Nat → Str) : Prop where
  fo : numOf (getKey s (pk ([47, 111] : Str))) = 1
  fh : numOf (getKey s (pk ([47, 104] : Str))) = ((h : Nat) : Int)
  ft : numOf (getKey s (pk ([47, 116] : Str))) = ((t : Nat) : Int)
  fq : ∀ i, h < i → i ≤ t → getKey s (qk i) = 45 :: hexS (f i)
theorem hexS_short {x : Str} (h : x.length ≤ 20) : (45 :: hexS x).length ≤ 60 := by
  unfold hexS
  rw [if_neg (by omega)]
  simp only [List.length_cons, hexB_len]
  omega
theorem isPipe_PS {m : MS} {h t : Nat} {f : Nat → Str} (p : PS m.s h t f) : ∃ m1, m.isPipe 1 = (m1, true) ∧ m1.s = m.s := by
  unfold MS.isPipe
  rcases hz : m.num (keyNum ([112, 47] : Str) 1 ([47, 111] : Str)) with ⟨m1, z⟩
  obtain ⟨h1, h2⟩ := numKey hz
  have h3 := p.fo
  unfold pk at h3
  exact ⟨m1, by simp only [h2, h3]; rfl, h1⟩
theorem put_PS {m m' : MS} {h t : Nat} {f : Nat → Str} {c : Int} {x : Str} (p : PS m.s h t f) (hx : x = f (t + 1)) (hr : t < h + 4) (ht : t < 9) (hh : h ≤ t) (hl : x.length ≤ 20) (e : m.putPipe 1 x = (m', c)) : c = 0 ∧ PS m'.s h (t + 1) f := by
  obtain ⟨m1, e1, hs1⟩ := isPipe_PS p
  unfold MS.putPipe at e
  rw [e1] at e
  simp only [if_true] at e
  rw [if_neg (by omega)] at e
  rcases h2 : m1.num (keyNum ([112, 47] : Str) 1 ([47, 116] : Str)) with ⟨m2, z2⟩
  obtain ⟨hs2, hz2⟩ := numKey h2
  rw [hs1, show keyNum ([112, 47] : Str) 1 ([47, 116] : Str) = pk ([47, 116] : Str) from rfl, p.ft] at hz2
  rw [h2] at e
  simp only at e
  rcases h3 : m2.num (keyNum ([112, 47] : Str) 1 ([47, 104] : Str)) with ⟨m3, z3⟩
  obtain ⟨hs3, hz3⟩ := numKey h3
  rw [hs2, hs1, show keyNum ([112, 47] : Str) 1 ([47, 104] : Str) = pk ([47, 104] : Str) from rfl, p.fh] at hz3
  rw [h3] at e
  simp only at e
  subst hz2 hz3
  rw [if_neg (by omega), if_neg (by omega)] at e
  simp only [Prod.mk.injEq] at e
  obtain ⟨rfl, rfl⟩ := e
  refine ⟨rfl, ?_⟩
  have hs : (((m3.setNum (keyNum ([112, 47] : Str) 1 ([47, 116] : Str)) (((t : Nat) : Int) + 1)).lay (keyNum (keyNum ([112, 47] : Str) 1 ([47, 113, 47] : Str)) (((t : Nat) : Int) + 1) []) (([45] : Str) ++ hexS x))).s = putKey (putKey m.s (pk ([47, 116] : Str)) (dec (((t + 1 : Nat) : Int)))) (qk (t + 1)) (45 :: hexS (f (t + 1))) := by
    show putKey (MS.setNum m3 _ _).s _ _ = _
    rw [setNum_s (by omega) (by omega), hs3, hs2, hs1, hx]
    rfl
  have hq := qkF ⟨t + 1, by omega⟩
  have hp := pkF
  simp only at hq
  rw [hs]
  refine ⟨?_, ?_, ?_, fun i hi hi2 => ?_⟩
  · rw [getKey_put_ne hq.2.1, getKey_put_ne (fun h => hp.2.2.2.2.1 h.symm)]; exact p.fo
  · rw [getKey_put_ne hq.2.2.1, getKey_put_ne (fun h => hp.2.2.2.2.2 h.symm)]; exact p.fh
  · rw [getKey_put_ne hq.2.2.2]; exact getNum_put hp.2.2.1 (by omega) (by omega)
  · by_cases hi3 : i = t + 1
    · subst hi3
      exact getKey_put hq.1 (by simp) (hexS_short (hx ▸ hl))
    · have := qkI ⟨t + 1, by omega⟩ ⟨i, by omega⟩ (by simp only; omega)
      simp only at this
      have hqi := qkF ⟨i, by omega⟩
      simp only at hqi
      rw [getKey_put_ne this, getKey_put_ne (fun h => hqi.2.2.2 h.symm)]
      exact p.fq i hi (by omega)
theorem full_PS {m : MS} {h : Nat} {f : Nat → Str} {x : Str} (p : PS m.s h (h + 4) f) (hl : x.length ≤ 20) : (m.putPipe 1 x).2 = 5 := by
  obtain ⟨m1, e1, hs1⟩ := isPipe_PS p
  unfold MS.putPipe
  rw [e1]
  simp only [if_true]
  rw [if_neg (by omega)]
  rcases h2 : m1.num (keyNum ([112, 47] : Str) 1 ([47, 116] : Str)) with ⟨m2, z2⟩
  obtain ⟨hs2, hz2⟩ := numKey h2
  rw [hs1, show keyNum ([112, 47] : Str) 1 ([47, 116] : Str) = pk ([47, 116] : Str) from rfl, p.ft] at hz2
  simp only
  rcases h3 : m2.num (keyNum ([112, 47] : Str) 1 ([47, 104] : Str)) with ⟨m3, z3⟩
  obtain ⟨hs3, hz3⟩ := numKey h3
  rw [hs2, hs1, show keyNum ([112, 47] : Str) 1 ([47, 104] : Str) = pk ([47, 104] : Str) from rfl, p.fh] at hz3
  simp only
  subst hz2 hz3
  rw [if_pos (by omega)]
theorem message_PS {m m1 : MS} {k x u : Str} (hk : getKey m.s k = 45 :: hexS x) (hl : x.length ≤ 20) (e : m.message k = (m1, u)) : m1.s = m.s ∧ u = x := by
  unfold MS.message MS.look at e
  simp only [Prod.mk.injEq] at e
  obtain ⟨rfl, rfl⟩ := e
  refine ⟨rfl, ?_⟩
  rw [hk]
  unfold messageOf
  simp only [if_true]
  have h1 : hexS x = hexB x := by
    unfold hexS
    rw [if_neg (by omega)]
  rw [h1]
  unfold unhex
  rw [if_neg (by rw [hexB_len]; omega), unhexL_hexB']
theorem take_PS {m m' : MS} {h t : Nat} {f : Nat → Str} {c : Int} {x : Str} (p : PS m.s h t f) (ht : t ≤ 9) (hh : h < t) (hl : (f (h + 1)).length ≤ 20) (e : m.takePipe 1 = (m', x, c)) : x = f (h + 1) ∧ c = 0 ∧ PS m'.s (h + 1) t f := by
  obtain ⟨m1, e1, hs1⟩ := isPipe_PS p
  unfold MS.takePipe at e
  rw [e1] at e
  simp only [if_true] at e
  rcases h3 : m1.num (keyNum ([112, 47] : Str) 1 ([47, 104] : Str)) with ⟨m3, z3⟩
  obtain ⟨hs3, hz3⟩ := numKey h3
  rw [hs1, show keyNum ([112, 47] : Str) 1 ([47, 104] : Str) = pk ([47, 104] : Str) from rfl, p.fh] at hz3
  rw [h3] at e
  simp only at e
  rcases h2 : m3.num (keyNum ([112, 47] : Str) 1 ([47, 116] : Str)) with ⟨m2, z2⟩
  obtain ⟨hs2, hz2⟩ := numKey h2
  rw [hs3, hs1, show keyNum ([112, 47] : Str) 1 ([47, 116] : Str) = pk ([47, 116] : Str) from rfl, p.ft] at hz2
  rw [h2] at e
  simp only at e
  subst hz2 hz3
  rw [if_neg (by omega)] at e
  have hkq : keyNum (keyNum ([112, 47] : Str) 1 ([47, 113, 47] : Str)) (((h : Nat) : Int) + 1) [] = qk (h + 1) := rfl
  rw [hkq] at e
  rcases h4 : m2.message (qk (h + 1)) with ⟨m4, u⟩
  obtain ⟨hs4, hu⟩ := message_PS (x := f (h + 1)) (by rw [hs2, hs3, hs1]; exact p.fq _ (by omega) (by omega)) hl h4
  rw [h4] at e
  simp only [Prod.mk.injEq] at e
  obtain ⟨rfl, rfl, rfl⟩ := e
  refine ⟨hu, rfl, ?_⟩
  have hs : ((m4.lay (qk (h + 1)) []).setNum (keyNum ([112, 47] : Str) 1 ([47, 104] : Str)) (((h : Nat) : Int) + 1)).s = putKey (putKey m.s (qk (h + 1)) []) (pk ([47, 104] : Str)) (dec (((h + 1 : Nat) : Int))) := by
    rw [setNum_s (by omega) (by omega)]
    show putKey (putKey m4.s _ _) _ _ = _
    rw [hs4, hs2, hs3, hs1]
    rfl
  have hq := qkF ⟨h + 1, by omega⟩
  have hp := pkF
  simp only at hq
  rw [hs]
  refine ⟨?_, ?_, ?_, fun i hi hi2 => ?_⟩
  · rw [getKey_put_ne (fun h => hp.2.2.2.1 h.symm), getKey_put_ne hq.2.1]; exact p.fo
  · exact getNum_put hp.2.1 (by omega) (by omega)
  · rw [getKey_put_ne hp.2.2.2.2.2, getKey_put_ne hq.2.2.2]; exact p.ft
  · have hqi := qkF ⟨i, by omega⟩
    have := qkI ⟨h + 1, by omega⟩ ⟨i, by omega⟩ (by simp only; omega)
    simp only at this hqi
    rw [getKey_put_ne (fun h => hqi.2.2.1 h.symm), getKey_put_ne this]
    exact p.fq i (by omega) hi2
theorem empty_PS {m : MS} {t : Nat} {f : Nat → Str} (p : PS m.s t t f) : (m.takePipe 1).2.2 = 5 := by
  obtain ⟨m1, e1, hs1⟩ := isPipe_PS p
  unfold MS.takePipe
  rw [e1]
  simp only [if_true]
  rcases h3 : m1.num (keyNum ([112, 47] : Str) 1 ([47, 104] : Str)) with ⟨m3, z3⟩
  obtain ⟨hs3, hz3⟩ := numKey h3
  rw [hs1, show keyNum ([112, 47] : Str) 1 ([47, 104] : Str) = pk ([47, 104] : Str) from rfl, p.fh] at hz3
  simp only
  rcases h2 : m3.num (keyNum ([112, 47] : Str) 1 ([47, 116] : Str)) with ⟨m2, z2⟩
  obtain ⟨hs2, hz2⟩ := numKey h2
  rw [hs3, hs1, show keyNum ([112, 47] : Str) 1 ([47, 116] : Str) = pk ([47, 116] : Str) from rfl, p.ft] at hz2
  simp only
  rw [if_pos (by omega)]
def putsI (id : Int) (l : List Int) : Nat → Nat → MS → Int → MS × Int
  | 0, _, m, n => (m, n)
  | k + 1, i, m, n => match m.putPipe id (dec (l.getD i 0)) with | (m, c) => putsI id l k (i + 1) m (n + c)
def takesM (id : Int) : Nat → MS → MS
  | 0, m => m
  | i + 1, m => ((takesM id i m).takePipe id).1
theorem puts_PS {l : List Int} (hl : ∀ i, (dec (l.getD i 0)).length ≤ 20) : ∀ (k i : Nat) (m m' : MS) (n n' : Int), PS m.s 0 i (fun i => dec (l.getD (i - 1) 0)) → i + k ≤ 4 → putsI 1 l k i m n = (m', n') → n' = n ∧ PS m'.s 0 (i + k) (fun i => dec (l.getD (i - 1) 0))
  | 0, i, m, m', n, n', p, h, e => by
    simp only [putsI, Prod.mk.injEq] at e
    obtain ⟨rfl, rfl⟩ := e
    exact ⟨rfl, p⟩
  | k + 1, i, m, m', n, n', p, h, e => by
    unfold putsI at e
    rcases h1 : m.putPipe 1 (dec (l.getD i 0)) with ⟨m1, c⟩
    obtain ⟨rfl, p1⟩ := put_PS p (by simp) (by omega) (by omega) (by omega) (hl i) h1
    rw [h1] at e
    simp only at e
    obtain ⟨h2, p2⟩ := puts_PS hl k (i + 1) m1 m' _ n' p1 (by omega) e
    exact ⟨by omega, by rw [show i + (k + 1) = i + 1 + k by omega]; exact p2⟩
theorem takes_PS {f : Nat → Str} (hl : ∀ i, (f i).length ≤ 20) {m : MS} (p : PS m.s 0 4 f) : ∀ i, i ≤ 4 → PS (takesM 1 i m).s i 4 f
  | 0, _ => p
  | i + 1, h => by
    have p1 := takes_PS hl p i (by omega)
    rcases h1 : (takesM 1 i m).takePipe 1 with ⟨m1, x, c⟩
    obtain ⟨_, _, p2⟩ := take_PS p1 (by omega) (by omega) (hl _) h1
    unfold takesM
    rw [h1]
    exact p2
theorem pipe0F : (MS.makePipe MS.empty).2.1 = 1 ∧ numOf (getKey (MS.makePipe MS.empty).1.s (pk ([47, 111] : Str))) = 1 ∧ numOf (getKey (MS.makePipe MS.empty).1.s (pk ([47, 104] : Str))) = 0 ∧ numOf (getKey (MS.makePipe MS.empty).1.s (pk ([47, 116] : Str))) = 0 := by decide +kernel
theorem pl_pipes {b m0 m4 : MS} {one x full : Int} {l : List Int} (e0 : MS.empty = b) (e1 : b.makePipe = (m0, one, x)) (hl : l.length = 12 ∧ ∀ y ∈ l, 0 ≤ y ∧ y ≤ 9999) (e2 : (m4, full) = putsI one l 4 0 m0 0) :
    one = 1 ∧ full = 0 ∧ (m4.putPipe one ([120] : Str)).2 = 5 ∧ ((takesM one 4 m4).takePipe one).2.2 = 5 ∧ ∀ i, i < 4 → ((takesM one i m4).takePipe one).2.1 = dec (l.getD i 0) := by
  subst e0
  obtain ⟨h1, h2, h3, h4⟩ := pipe0F
  rw [e1] at h1 h2 h3 h4
  simp only at h1 h2 h3 h4
  subst h1
  have hd : ∀ i, (dec (l.getD i 0)).length ≤ 20 := fun i => by
    by_cases hi : i < l.length
    · have := hl.2 _ (getD_mem (d := 0) hi)
      exact Nat.le_trans (dec_len (by omega) (by omega)) (by decide)
    · rw [List.getD_eq_getElem?_getD, List.getElem?_eq_none (by omega)]
      decide +kernel
  have p0 : PS m0.s 0 0 (fun i => dec (l.getD (i - 1) 0)) := ⟨h2, h3, h4, fun i hi hi2 => by omega⟩
  obtain ⟨h5, p4⟩ := puts_PS hd 4 0 m0 m4 0 full p0 (by omega) e2.symm
  have pt := takes_PS (fun i => hd (i - 1)) p4
  refine ⟨rfl, h5, full_PS (h := 0) p4 (by decide), empty_PS (pt 4 (by omega)), fun i hi => ?_⟩
  rcases h6 : (takesM 1 i m4).takePipe 1 with ⟨m1, u, c⟩
  obtain ⟨h7, _, _⟩ := take_PS (pt i (by omega)) (by omega) hi (hd _) h6
  simpa using h7
end Go.Proofs.YtenfajgpdhgknaaGreatDoor

set_option linter.unusedSimpArgs false
set_option linter.unusedVariables false
set_option linter.unnecessarySimpa false
namespace Go.Proofs.YtenfajgpdhgknaaGreatDoor
open Go Go.RowKit
attribute [local irreducible] JL JC JQ JO LO PO JA JX Ct

theorem N_tick (p : Nat) (x : MA) (m : MS) {S T : Nat} (hk : m.ok S T) (hS : S ≤ 4000000) (hT : T ≤ 4000000) (n : Int) (hn : -9223372036854775808 ≤ n ∧ n ≤ 9223372036854775807) :
    Ct Tryz.prog 195 [.pointer (some ⟨p, 0, none⟩), .int .i64 n] (mb p x m :: mr x m) (fun _ => True) (fun v A' => ∃ x' m' r0 r1, MS.tick m n = (m', r0, r1) ∧ m'.ok (3 * S + 3) (T + 7 * S + 10) ∧ (0 ≤ r0 ∧ r0 ≤ 1000000000) ∧ (0 ≤ r1 ∧ r1 ≤ 9) ∧ v = .tuple #[.int .i64 r0, .int .i64 r1] ∧ A' = mb p x' m' :: mr x' m') := by
  refine Ct.intro Tryz.func195 rfl Tryz.ntmps195 (Nat.le_of_ble_eq_true rfl) fun w0 hpre => ?_
  refine JC.seq ?_
  refine JC.region ?_
  refine JL.pure rfl (PO.assign (v := .int .i64 0) rfl) ?_
  refine JL.pure rfl (PO.assign (v := .int .i64 0) rfl) ?_
  refine JL.nil ?_
  refine JQ.seq ?_
  refine JC.seq ?_
  refine JC.seq ?_
  refine JC.region ?_
  refine JL.pure rfl (PO.move (v := .int .i64 n) rfl) ?_
  refine JL.pure rfl (PO.lss rfl rfl) ?_
  refine JL.nil ?_
  refine JQ.seq ?_
  by_cases h_1 : n < 1
  · skip
    refine JC.condT (congrArg Value.bool (decide_eq_true h_1)) ?_
    refine JC.seq ?_
    refine JC.region ?_
    refine JL.pure rfl (PO.assign (v := .int .i64 0) rfl) ?_
    refine JL.pure rfl (PO.assign (v := .int .i64 4) rfl) ?_
    refine JL.nil ?_
    refine JQ.seq ?_
    refine JC.ret ?_
    refine JQ.thenRet ?_
    refine Done.two (.inl rfl) rfl (RV.tmp (v := .int .i64 0) rfl) (RV.tmp (v := .int .i64 4) rfl) (List.Sublist.refl _) ?_
    exact ⟨x, m, 0, 4, (by simp only [MS.tick, h_1, if_true, if_false, Bool.false_eq_true, Bool.not_true, Bool.not_false]; (repeat (first | rw [if_pos (by omega)] | rw [if_neg (by omega)])); all_goals (first | rfl | simp only [if_true, if_false, Bool.false_eq_true, Bool.not_true, Bool.not_false, h_1])), (hk.mono (by omega) (by omega)), (by first | omega | (simp only [List.length_append, List.length_cons, List.length_nil, List.length_take, List.length_drop]; omega)), (by first | omega | (simp only [List.length_append, List.length_cons, List.length_nil, List.length_take, List.length_drop]; omega)), rfl, rfl⟩
  · skip
    refine JC.condF (congrArg Value.bool (decide_eq_false h_1)) ?_
    refine JC.skip ?_
    refine JQ.seq ?_
    refine JC.seq ?_
    refine JC.region ?_
    refine JL.pure rfl (PO.move (v := .pointer (some ⟨p, 0, none⟩)) rfl) ?_
    refine JL.op rfl (JO.call [0, 0, 0, 0] Tryz.call170 rfl (N_num p x m hk (by omega) (by omega) [99, 47, 99, 108, 111, 99, 107]) rfl (fun _ _ => trivial)) ?_
    rintro _ _ ⟨_, ⟨x_4, m_5, n_6, e_2, k_3, f_7, rfl, rfl⟩, rfl⟩
    refine JL.pure rfl (PO.assign (v := .int .i64 n_6) rfl) ?_
    refine JL.nil ?_
    refine JQ.seq ?_
    refine JC.seq ?_
    refine JC.seq ?_
    refine JC.region ?_
    refine JL.pure rfl (PO.move (v := .int .i64 n) rfl) ?_
    refine JL.pure rfl (PO.move (v := .int .i64 n_6) rfl) ?_
    refine JL.pure rfl (PO.sub (c := 999 - n_6) rfl rfl (wr (by omega))) ?_
    refine JL.pure rfl (PO.gtr rfl rfl) ?_
    refine JL.nil ?_
    refine JQ.seq ?_
    by_cases h_8 : (999 - n_6) < n
    · skip
      refine JC.condT (congrArg Value.bool (decide_eq_true h_8)) ?_
      refine JC.seq ?_
      refine JC.region ?_
      refine JL.pure rfl (PO.assign (v := .int .i64 0) rfl) ?_
      refine JL.pure rfl (PO.assign (v := .int .i64 3) rfl) ?_
      refine JL.nil ?_
      refine JQ.seq ?_
      refine JC.ret ?_
      refine JQ.thenRet ?_
      refine Done.two (.inl rfl) rfl (RV.tmp (v := .int .i64 0) rfl) (RV.tmp (v := .int .i64 3) rfl) (List.Sublist.refl _) ?_
      exact ⟨x_4, m_5, 0, 3, (by simp only [MS.tick, h_1, e_2, h_8, if_true, if_false, Bool.false_eq_true, Bool.not_true, Bool.not_false]; (repeat (first | rw [if_pos (by omega)] | rw [if_neg (by omega)])); all_goals (first | rfl | simp only [if_true, if_false, Bool.false_eq_true, Bool.not_true, Bool.not_false, h_1, e_2, h_8])), (k_3.mono (by omega) (by omega)), (by first | omega | (simp only [List.length_append, List.length_cons, List.length_nil, List.length_take, List.length_drop]; omega)), (by first | omega | (simp only [List.length_append, List.length_cons, List.length_nil, List.length_take, List.length_drop]; omega)), rfl, rfl⟩
    · skip
      refine JC.condF (congrArg Value.bool (decide_eq_false h_8)) ?_
      refine JC.skip ?_
      refine JQ.seq ?_
      refine JC.seq ?_
      refine JC.region ?_
      refine JL.pure rfl (PO.move (v := .int .i64 n_6) rfl) ?_
      refine JL.pure rfl (PO.move (v := .int .i64 n) rfl) ?_
      refine JL.pure rfl (PO.add (c := n_6 + n) rfl rfl (wr (by omega))) ?_
      refine JL.pure rfl (PO.assign (v := .int .i64 (n_6 + n)) rfl) ?_
      refine JL.nil ?_
      refine JQ.seq ?_
      refine JC.seq ?_
      refine JC.region ?_
      refine JL.pure rfl (PO.move (v := .pointer (some ⟨p, 0, none⟩)) rfl) ?_
      refine JL.pure rfl (PO.move (v := .int .i64 (n_6 + n)) rfl) ?_
      refine JL.op rfl (JO.call [0, 0, 0, 0] Tryz.call241 rfl (N_setNum p x_4 m_5 k_3 (by omega) (by omega) [99, 47, 99, 108, 111, 99, 107] (n_6 + n) (by decide) (by omega)) rfl (fun _ _ => trivial)) ?_
      rintro _ _ ⟨_, ⟨x_11, m_12, e_9, k_10, rfl, rfl⟩, rfl⟩
      refine JL.nil ?_
      refine JQ.seq ?_
      refine JC.seq ?_
      refine JC.region ?_
      refine JL.pure rfl (PO.assign (v := .int .i64 0) rfl) ?_
      refine JL.nil ?_
      refine JQ.seq ?_
      refine JC.seq ?_
      refine JC.seq ?_
      refine JC.region ?_
      refine JL.pure rfl (PO.move (v := .pointer (some ⟨p, 0, none⟩)) rfl) ?_
      refine JL.op rfl (JO.call [0, 0, 0, 0] Tryz.call260 rfl (N_under p x_11 m_12 k_10 (by omega) (by omega) [116, 47] (by decide)) rfl (fun _ _ => trivial)) ?_
      rintro _ _ ⟨_, ⟨x_15, m_16, l_17a, l_17c, l_17, e_13, k_14, f_18, rfl, rfl⟩, rfl⟩
      refine JL.pure rfl (PO.lenV Tryz.underlying23 rfl) ?_
      refine JL.pure rfl (PO.move (v := .int .i64 0) rfl) ?_
      refine JL.nil ?_
      refine JQ.seq ?_
      refine JC.block ?_
      have hll := f_18.1
      refine JC.loop (fun k_ e_ L_ => ∃ j : Nat, ∃ x : MA, ∃ mm : MS, ∃ expired_ : Int, (j ≤ l_17.length) ∧ (mm.ok ((S + 1) + 2 * j) (((T + 1) + 1) + 1 + 7 * j)) ∧ (0 ≤ expired_ ∧ expired_ ≤ ((j : Nat) : Int)) ∧ (MS.tickL (n_6 + n) (l_17.drop j) mm expired_ = MS.tickL (n_6 + n) l_17 m_16 0) ∧ e_ 0 = .pointer (some ⟨p, 0, none⟩) ∧ e_ 4 = .int .i64 0 ∧ e_ 5 = .int .i64 0 ∧ e_ 6 = .int .i64 (n_6 + n) ∧ e_ 7 = .int .i64 expired_ ∧ e_ 25 = .slice l_17a l_17.length l_17c ∧ e_ 26 = .int .i64 ((l_17.length : Nat) : Int) ∧ e_ 27 = .int .i64 ((j : Nat) : Int) ∧ L_ = [mb p x mm, rC x.a0 x.c0 mm.s, rS x.a1 x.c1 mm.r, rS x.a2 x.c2 mm.w, rS l_17a l_17c l_17] ∧ k_ = l_17.length - j) _ ⟨0, x_15, m_16, 0, by omega, (k_14.mono (by omega) (by omega)), (by first | omega | (simp only [List.length_append, List.length_cons, List.length_nil, List.length_take, List.length_drop]; omega)), rfl, rfl, rfl, rfl, rfl, rfl, rfl, rfl, rfl, rfl, rfl⟩ ?_
      rintro _ e_19 _ ⟨j, x, mm, expired_, hj, hkmm, hx, hR, he_20, he_21, he_22, he_23, he_24, he_25, he_26, he_27, rfl, rfl⟩
      refine JC.seq ?_
      refine JC.region ?_
      refine JL.pure rfl (PO.lss he_27 he_26) ?_
      refine JL.nil ?_
      refine JQ.seq ?_
      refine JC.seq ?_
      by_cases h_28 : ((j : Nat) : Int) < ((l_17.length : Nat) : Int)
      · skip
        have hlt : j < l_17.length := by omega
        have hbj := f_18.2 j hlt
        try simp only [List.length_cons, List.length_nil] at hbj
        refine JC.condT (congrArg Value.bool (decide_eq_true h_28)) ?_
        refine JC.skip ?_
        refine JQ.seq ?_
        refine JC.seq ?_
        refine JC.block ?_
        refine JC.seq ?_
        refine JC.region ?_
        refine JL.facts fun hst => ?_
        obtain ⟨hr_29, hr_29b, -⟩ := row_some 4 rfl (by omega) hst
        refine JL.pure rfl (PO.indexAddrV (i := j) Tryz.underlying23 Tryz.sizeOf9 hr_29 hr_29b he_25 he_27 (by omega)) ?_
        refine JL.ld rfl (LO.loadR1 4 (v := str (l_17.getD j [])) rfl rfl Tryz.isAgg9 (atS (by omega))) ?_
        refine JL.pure rfl (PO.assign (v := str (l_17.getD j [])) rfl) ?_
        refine JL.nil ?_
        refine JQ.seq ?_
        refine JC.seq ?_
        refine JC.seq ?_
        refine JC.region ?_
        refine JL.pure rfl (PO.move (v := .pointer (some ⟨p, 0, none⟩)) he_20) ?_
        refine JL.pure rfl (PO.move (v := str (l_17.getD j [])) rfl) ?_
        refine JL.op rfl (JO.call [0, 0, 0, 0] Tryz.call170 rfl (N_num p x mm hkmm (by omega) (by omega) (l_17.getD j [])) rfl (fun _ _ => trivial)) ?_
        rintro _ _ ⟨_, ⟨x_32, m_33, n_34, e_30, k_31, f_35, rfl, rfl⟩, rfl⟩
        refine JL.pure rfl (PO.move (v := .int .i64 (n_6 + n)) he_23) ?_
        refine JL.pure rfl (PO.gtr rfl rfl) ?_
        refine JL.nil ?_
        refine JQ.seq ?_
        by_cases h_36 : (n_6 + n) < n_34
        · skip
          refine JC.condT (congrArg Value.bool (decide_eq_true h_36)) ?_
          refine JC.exit ?_
          refine JQ.thenExit ?_
          refine JQ.blockE ?_
          refine JQ.seq ?_
          refine JC.region ?_
          refine JL.pure rfl (PO.add (c := ((j + 1 : Nat) : Int)) he_27 rfl (wr (by omega))) ?_
          refine JL.pure rfl (PO.move (v := .int .i64 ((j + 1 : Nat) : Int)) rfl) ?_
          refine JL.nil ?_
          refine JQ.pick [0, 0, 0, 0, 0] (A := [mb p x_32 m_33, rC x_32.a0 x_32.c0 m_33.s, rS x_32.a1 x_32.c1 m_33.r, rS x_32.a2 x_32.c2 m_33.w, rS l_17a l_17c l_17]) rfl ?_
          refine JQ.again (l_17.length - (j + 1)) (by omega) ⟨j + 1, x_32, m_33, expired_, by omega, (k_31.mono (by omega) (by omega)), (by first | omega | (simp only [List.length_append, List.length_cons, List.length_nil, List.length_take, List.length_drop]; omega)), (by rw [drop_at (getD_some (d := []) hlt)] at hR; simp only [MS.tickL, h_1, e_2, h_8, e_9, e_13, h_28, e_30, h_36, if_true, if_false, Bool.false_eq_true, Bool.not_true, Bool.not_false] at hR; (repeat (first | rw [if_pos (by omega)] at hR | rw [if_neg (by omega)] at hR)); exact hR), he_20, he_21, he_22, he_23, he_24, he_25, he_26, rfl, rfl, rfl⟩
        · skip
          refine JC.condF (congrArg Value.bool (decide_eq_false h_36)) ?_
          refine JC.skip ?_
          refine JQ.seq ?_
          refine JC.seq ?_
          refine JC.region ?_
          refine JL.pure rfl (PO.move (v := .pointer (some ⟨p, 0, none⟩)) he_20) ?_
          refine JL.pure rfl (PO.move (v := str (l_17.getD j [])) rfl) ?_
          refine JL.op rfl (JO.call [0, 0, 0, 0] Tryz.call240 rfl (N_layNil p x_32 m_33 k_31 (by omega) (by omega) (l_17.getD j []) (by omega)) rfl (fun _ _ => trivial)) ?_
          rintro _ _ ⟨_, ⟨x_39, m_40, e_37, k_38, rfl, rfl⟩, rfl⟩
          refine JL.nil ?_
          refine JQ.seq ?_
          refine JC.seq ?_
          refine JC.region ?_
          refine JL.pure rfl (PO.move (v := .pointer (some ⟨p, 0, none⟩)) he_20) ?_
          refine JL.pure rfl (PO.move (v := str (l_17.getD j [])) rfl) ?_
          refine JL.pure rfl (PO.sliceSl (i := 2) Tryz.underlying9 rfl rfl (by omega)) ?_
          refine JL.op rfl (JO.call [] Tryz.call221 rfl (N_numOf ((l_17.getD j []).drop 2) (by first | omega | (simp only [List.length_append, List.length_cons, List.length_nil, List.length_take, List.length_drop]; omega))) rfl (fun _ _ => trivial)) ?_
          rintro _ _ ⟨_, ⟨n_43, e_41, f_44, rfl, rfl⟩, rfl⟩
          refine JL.op rfl (JO.call [0, 0, 0, 0] Tryz.call189 rfl (N_send p x_39 m_40 k_38 (by omega) (by omega) n_43 14 (by omega) (by omega)) rfl (fun _ _ => trivial)) ?_
          rintro _ _ ⟨_, ⟨x_47, m_48, n_49, e_45, k_46, f_50, rfl, rfl⟩, rfl⟩
          refine JL.nil ?_
          refine JQ.seq ?_
          refine JC.region ?_
          refine JL.pure rfl (PO.move (v := .int .i64 expired_) he_24) ?_
          refine JL.pure rfl (PO.add (c := expired_ + 1) rfl rfl (wr (by omega))) ?_
          refine JL.pure rfl (PO.assign (v := .int .i64 (expired_ + 1)) rfl) ?_
          refine JL.nil ?_
          refine JQ.blockN ?_
          refine JQ.seq ?_
          refine JC.region ?_
          refine JL.pure rfl (PO.add (c := ((j + 1 : Nat) : Int)) he_27 rfl (wr (by omega))) ?_
          refine JL.pure rfl (PO.move (v := .int .i64 ((j + 1 : Nat) : Int)) rfl) ?_
          refine JL.nil ?_
          refine JQ.pick [0, 0, 0, 0, 0] (A := [mb p x_47 m_48, rC x_47.a0 x_47.c0 m_48.s, rS x_47.a1 x_47.c1 m_48.r, rS x_47.a2 x_47.c2 m_48.w, rS l_17a l_17c l_17]) rfl ?_
          refine JQ.again (l_17.length - (j + 1)) (by omega) ⟨j + 1, x_47, m_48, (expired_ + 1), by omega, (k_46.mono (by omega) (by omega)), (by first | omega | (simp only [List.length_append, List.length_cons, List.length_nil, List.length_take, List.length_drop]; omega)), (by rw [drop_at (getD_some (d := []) hlt)] at hR; simp only [MS.tickL, h_1, e_2, h_8, e_9, e_13, h_28, e_30, h_36, e_37, e_41, e_45, if_true, if_false, Bool.false_eq_true, Bool.not_true, Bool.not_false] at hR; (repeat (first | rw [if_pos (by omega)] at hR | rw [if_neg (by omega)] at hR)); exact hR), he_20, he_21, he_22, he_23, rfl, he_25, he_26, rfl, rfl, rfl⟩
      · skip
        rw [List.drop_of_length_le (by omega)] at hR
        simp only [MS.tickL] at hR
        have hE := hR.symm
        refine JC.condF (congrArg Value.bool (decide_eq_false h_28)) ?_
        refine JC.exit ?_
        refine JQ.thenExit ?_
        refine JQ.thenExit ?_
        refine JQ.blockE ?_
        refine JQ.seq ?_
        refine JC.seq ?_
        refine JC.region ?_
        refine JL.pure rfl (PO.move (v := .int .i64 expired_) he_24) ?_
        refine JL.pure rfl (PO.assign (v := .int .i64 expired_) rfl) ?_
        refine JL.pure rfl (PO.assign (v := .int .i64 0) rfl) ?_
        refine JL.nil ?_
        refine JQ.seq ?_
        refine JC.ret ?_
        refine Done.two (.inl rfl) rfl (RV.tmp (v := .int .i64 expired_) rfl) (RV.tmp (v := .int .i64 0) rfl) (List.sublist_append_left [mb p x mm, rC x.a0 x.c0 mm.s, rS x.a1 x.c1 mm.r, rS x.a2 x.c2 mm.w] [rS l_17a l_17c l_17]) ?_
        exact ⟨x, mm, expired_, 0, (by simp only [MS.tick, h_1, e_2, h_8, e_9, e_13, h_28, hE, if_true, if_false, Bool.false_eq_true, Bool.not_true, Bool.not_false]; (repeat (first | rw [if_pos (by omega)] | rw [if_neg (by omega)])); all_goals (first | rfl | simp only [if_true, if_false, Bool.false_eq_true, Bool.not_true, Bool.not_false, h_1, e_2, h_8, e_9, e_13, h_28, hE])), (hkmm.mono (by omega) (by omega)), (by first | omega | (simp only [List.length_append, List.length_cons, List.length_nil, List.length_take, List.length_drop]; omega)), (by first | omega | (simp only [List.length_append, List.length_cons, List.length_nil, List.length_take, List.length_drop]; omega)), rfl, rfl⟩

theorem M_tick (x : MA) (m : MS) {S T : Nat} (hk : m.ok S T) (hS : S ≤ 4000000) (hT : T ≤ 4000000) (n : Int) (hn : -9223372036854775808 ≤ n ∧ n ≤ 9223372036854775807) :
    Ct Tryz.prog 196 [mv x m, .int .i64 n] (mr x m) (fun _ => True) (fun v A' => ∃ x' m' r0 r1, MS.tick m n = (m', r0, r1) ∧ m'.ok (3 * S + 3) (T + 7 * S + 10) ∧ (0 ≤ r0 ∧ r0 ≤ 1000000000) ∧ (0 ≤ r1 ∧ r1 ≤ 9) ∧ v = .tuple #[mv x' m', .int .i64 r0, .int .i64 r1] ∧ A' = mr x' m') := by
  refine Ct.intro Tryz.func196 rfl Tryz.ntmps196 (Nat.le_of_ble_eq_true rfl) fun w0 hpre => ?_
  refine JC.seq ?_
  refine JC.region ?_
  refine JL.op rfl (JO.box (cs := [.slice x.a0 m.s.length x.c0, .slice x.a1 m.r.length x.c1, .slice x.a2 m.w.length x.c2]) rfl rfl) ?_
  rintro _ _ ⟨b_1, rfl, rfl⟩
  refine JL.op rfl (JO.alloc (z := .agg #[.slice none 0 0, .slice none 0 0, .slice none 0 0]) (cs := [.slice none 0 0, .slice none 0 0, .slice none 0 0]) Tryz.zeroValue32 rfl) ?_
  rintro _ _ ⟨b_2, rfl, rfl⟩
  refine JL.pure rfl (PO.assign (v := .int .i64 0) rfl) ?_
  refine JL.pure rfl (PO.assign (v := .int .i64 0) rfl) ?_
  refine JL.nil ?_
  refine JQ.seq ?_
  refine JC.seq ?_
  refine JC.seq ?_
  refine JC.region ?_
  refine JL.pure rfl (PO.move (v := .int .i64 n) rfl) ?_
  refine JL.pure rfl (PO.lss rfl rfl) ?_
  refine JL.nil ?_
  refine JQ.seq ?_
  by_cases h_3 : n < 1
  · skip
    refine JC.condT (congrArg Value.bool (decide_eq_true h_3)) ?_
    refine JC.seq ?_
    refine JC.region ?_
    refine JL.ld rfl (LO.loadK 1 (vs := [.slice x.a0 m.s.length x.c0, .slice x.a1 m.r.length x.c1, .slice x.a2 m.w.length x.c2]) rfl rfl Tryz.isAgg32 Tryz.sizeOf32 rfl rfl) ?_
    refine JL.op rfl (JO.store 0 (vs := [.slice x.a0 m.s.length x.c0, .slice x.a1 m.r.length x.c1, .slice x.a2 m.w.length x.c2]) (cs' := [.slice x.a0 m.s.length x.c0, .slice x.a1 m.r.length x.c1, .slice x.a2 m.w.length x.c2]) rfl rfl rfl rfl Tryz.sizeOf32 rfl rfl (Nat.le_of_ble_eq_true rfl) rfl) ?_
    rintro _ _ rfl
    refine JL.pure rfl (PO.assign (v := .int .i64 0) rfl) ?_
    refine JL.pure rfl (PO.assign (v := .int .i64 4) rfl) ?_
    refine JL.nil ?_
    refine JQ.seq ?_
    refine JC.ret ?_
    refine JQ.thenRet ?_
    refine JQ.perm (pick_perm [2, 2, 2] (A := [rC x.a0 x.c0 m.s, rS x.a1 x.c1 m.r, rS x.a2 x.c2 m.w]) (F := [mb b_2 x m, mb b_1 x m]) rfl).symm ?_
    refine Done.three (.inl rfl) rfl (RV.cell1 (LO.loadK 3 (vs := [.slice x.a0 m.s.length x.c0, .slice x.a1 m.r.length x.c1, .slice x.a2 m.w.length x.c2]) rfl rfl Tryz.isAgg32 Tryz.sizeOf32 rfl rfl) ⟨_, rfl⟩) (RV.tmp (v := .int .i64 0) rfl) (RV.tmp (v := .int .i64 4) rfl) (List.sublist_append_left [rC x.a0 x.c0 m.s, rS x.a1 x.c1 m.r, rS x.a2 x.c2 m.w] [mb b_2 x m, mb b_1 x m]) ?_
    exact ⟨x, m, 0, 4, (by simp only [MS.tick, h_3, if_true, if_false, Bool.false_eq_true, Bool.not_true, Bool.not_false]; (repeat (first | rw [if_pos (by omega)] | rw [if_neg (by omega)])); all_goals (first | rfl | simp only [if_true, if_false, Bool.false_eq_true, Bool.not_true, Bool.not_false, h_3])), (hk.mono (by omega) (by omega)), (by first | omega | (simp only [List.length_append, List.length_cons, List.length_nil, List.length_take, List.length_drop]; omega)), (by first | omega | (simp only [List.length_append, List.length_cons, List.length_nil, List.length_take, List.length_drop]; omega)), rfl, rfl⟩
  · skip
    refine JC.condF (congrArg Value.bool (decide_eq_false h_3)) ?_
    refine JC.skip ?_
    refine JQ.seq ?_
    refine JC.seq ?_
    refine JC.region ?_
    refine JL.ld rfl (LO.loadK 1 (vs := [.slice x.a0 m.s.length x.c0, .slice x.a1 m.r.length x.c1, .slice x.a2 m.w.length x.c2]) rfl rfl Tryz.isAgg32 Tryz.sizeOf32 rfl rfl) ?_
    refine JL.op rfl (JO.call [2, 2, 2] Tryz.call228 rfl (N_sNumAt x m hk (by omega) (by omega) [99, 47, 99, 108, 111, 99, 107]) rfl (fun _ _ => trivial)) ?_
    rintro _ _ ⟨_, ⟨x_6, m_7, n_8, e_4, k_5, f_9, rfl, rfl⟩, rfl⟩
    refine JL.pure rfl (PO.move (v := .tuple #[mv x_6 m_7, .int .i64 n_8]) rfl) ?_
    refine JL.pure rfl (PO.extract (v := mv x_6 m_7) rfl rfl) ?_
    refine JL.pure rfl (PO.extract (v := .int .i64 n_8) rfl rfl) ?_
    refine JL.op rfl (JO.store 4 (vs := [.slice x_6.a0 m_7.s.length x_6.c0, .slice x_6.a1 m_7.r.length x_6.c1, .slice x_6.a2 m_7.w.length x_6.c2]) (cs' := [.slice x_6.a0 m_7.s.length x_6.c0, .slice x_6.a1 m_7.r.length x_6.c1, .slice x_6.a2 m_7.w.length x_6.c2]) rfl rfl rfl rfl Tryz.sizeOf32 rfl rfl (Nat.le_of_ble_eq_true rfl) rfl) ?_
    rintro _ _ rfl
    refine JL.pure rfl (PO.assign (v := .int .i64 n_8) rfl) ?_
    refine JL.nil ?_
    refine JQ.seq ?_
    refine JC.seq ?_
    refine JC.seq ?_
    refine JC.region ?_
    refine JL.pure rfl (PO.move (v := .int .i64 n) rfl) ?_
    refine JL.pure rfl (PO.move (v := .int .i64 n_8) rfl) ?_
    refine JL.pure rfl (PO.sub (c := 999 - n_8) rfl rfl (wr (by omega))) ?_
    refine JL.pure rfl (PO.gtr rfl rfl) ?_
    refine JL.nil ?_
    refine JQ.seq ?_
    by_cases h_10 : (999 - n_8) < n
    · skip
      refine JC.condT (congrArg Value.bool (decide_eq_true h_10)) ?_
      refine JC.seq ?_
      refine JC.region ?_
      refine JL.ld rfl (LO.loadK 4 (vs := [.slice x_6.a0 m_7.s.length x_6.c0, .slice x_6.a1 m_7.r.length x_6.c1, .slice x_6.a2 m_7.w.length x_6.c2]) rfl rfl Tryz.isAgg32 Tryz.sizeOf32 rfl rfl) ?_
      refine JL.op rfl (JO.store 3 (vs := [.slice x_6.a0 m_7.s.length x_6.c0, .slice x_6.a1 m_7.r.length x_6.c1, .slice x_6.a2 m_7.w.length x_6.c2]) (cs' := [.slice x_6.a0 m_7.s.length x_6.c0, .slice x_6.a1 m_7.r.length x_6.c1, .slice x_6.a2 m_7.w.length x_6.c2]) rfl rfl rfl rfl Tryz.sizeOf32 rfl rfl (Nat.le_of_ble_eq_true rfl) rfl) ?_
      rintro _ _ rfl
      refine JL.pure rfl (PO.assign (v := .int .i64 0) rfl) ?_
      refine JL.pure rfl (PO.assign (v := .int .i64 3) rfl) ?_
      refine JL.nil ?_
      refine JQ.seq ?_
      refine JC.ret ?_
      refine JQ.thenRet ?_
      refine Done.three (.inl rfl) rfl (RV.cell1 (LO.loadK 3 (vs := [.slice x_6.a0 m_7.s.length x_6.c0, .slice x_6.a1 m_7.r.length x_6.c1, .slice x_6.a2 m_7.w.length x_6.c2]) rfl rfl Tryz.isAgg32 Tryz.sizeOf32 rfl rfl) ⟨_, rfl⟩) (RV.tmp (v := .int .i64 0) rfl) (RV.tmp (v := .int .i64 3) rfl) (List.sublist_append_left [rC x_6.a0 x_6.c0 m_7.s, rS x_6.a1 x_6.c1 m_7.r, rS x_6.a2 x_6.c2 m_7.w] [mb b_2 x_6 m_7, mb b_1 x_6 m_7]) ?_
      exact ⟨x_6, m_7, 0, 3, (by simp only [MS.tick, h_3, e_4, h_10, if_true, if_false, Bool.false_eq_true, Bool.not_true, Bool.not_false]; (repeat (first | rw [if_pos (by omega)] | rw [if_neg (by omega)])); all_goals (first | rfl | simp only [if_true, if_false, Bool.false_eq_true, Bool.not_true, Bool.not_false, h_3, e_4, h_10])), (k_5.mono (by omega) (by omega)), (by first | omega | (simp only [List.length_append, List.length_cons, List.length_nil, List.length_take, List.length_drop]; omega)), (by first | omega | (simp only [List.length_append, List.length_cons, List.length_nil, List.length_take, List.length_drop]; omega)), rfl, rfl⟩
    · skip
      refine JC.condF (congrArg Value.bool (decide_eq_false h_10)) ?_
      refine JC.skip ?_
      refine JQ.seq ?_
      refine JC.seq ?_
      refine JC.region ?_
      refine JL.ld rfl (LO.loadK 4 (vs := [.slice x_6.a0 m_7.s.length x_6.c0, .slice x_6.a1 m_7.r.length x_6.c1, .slice x_6.a2 m_7.w.length x_6.c2]) rfl rfl Tryz.isAgg32 Tryz.sizeOf32 rfl rfl) ?_
      refine JL.pure rfl (PO.move (v := .int .i64 n_8) rfl) ?_
      refine JL.pure rfl (PO.move (v := .int .i64 n) rfl) ?_
      refine JL.pure rfl (PO.add (c := n_8 + n) rfl rfl (wr (by omega))) ?_
      refine JL.op rfl (JO.call [0, 0, 0] Tryz.call233 rfl (N_sSetNum x_6 m_7 k_5 (by omega) (by omega) [99, 47, 99, 108, 111, 99, 107] (n_8 + n) (by decide) (by omega)) rfl (fun _ _ => trivial)) ?_
      rintro _ _ ⟨_, ⟨x_13, m_14, e_11, k_12, rfl, rfl⟩, rfl⟩
      refine JL.op rfl (JO.store 4 (vs := [.slice x_13.a0 m_14.s.length x_13.c0, .slice x_13.a1 m_14.r.length x_13.c1, .slice x_13.a2 m_14.w.length x_13.c2]) (cs' := [.slice x_13.a0 m_14.s.length x_13.c0, .slice x_13.a1 m_14.r.length x_13.c1, .slice x_13.a2 m_14.w.length x_13.c2]) rfl rfl rfl rfl Tryz.sizeOf32 rfl rfl (Nat.le_of_ble_eq_true rfl) rfl) ?_
      rintro _ _ rfl
      refine JL.nil ?_
      refine JQ.seq ?_
      refine JC.seq ?_
      refine JC.region ?_
      refine JL.ld rfl (LO.loadK 4 (vs := [.slice x_13.a0 m_14.s.length x_13.c0, .slice x_13.a1 m_14.r.length x_13.c1, .slice x_13.a2 m_14.w.length x_13.c2]) rfl rfl Tryz.isAgg32 Tryz.sizeOf32 rfl rfl) ?_
      refine JL.op rfl (JO.call [0, 0, 0] Tryz.call261 rfl (N_sUnder x_13 m_14 k_12 (by omega) (by omega) [116, 47] (by decide)) rfl (fun _ _ => trivial)) ?_
      rintro _ _ ⟨_, ⟨x_17, m_18, l_19a, l_19c, l_19, e_15, k_16, f_20, rfl, rfl⟩, rfl⟩
      refine JL.pure rfl (PO.move (v := .tuple #[mv x_17 m_18, .slice l_19a l_19.length l_19c]) rfl) ?_
      refine JL.pure rfl (PO.extract (v := mv x_17 m_18) rfl rfl) ?_
      refine JL.pure rfl (PO.extract (v := .slice l_19a l_19.length l_19c) rfl rfl) ?_
      refine JL.op rfl (JO.store 5 (vs := [.slice x_17.a0 m_18.s.length x_17.c0, .slice x_17.a1 m_18.r.length x_17.c1, .slice x_17.a2 m_18.w.length x_17.c2]) (cs' := [.slice x_17.a0 m_18.s.length x_17.c0, .slice x_17.a1 m_18.r.length x_17.c1, .slice x_17.a2 m_18.w.length x_17.c2]) rfl rfl rfl rfl Tryz.sizeOf32 rfl rfl (Nat.le_of_ble_eq_true rfl) rfl) ?_
      rintro _ _ rfl
      refine JL.pure rfl (PO.assign (v := .slice l_19a l_19.length l_19c) rfl) ?_
      refine JL.nil ?_
      refine JQ.seq ?_
      refine JC.seq ?_
      refine JC.region ?_
      refine JL.pure rfl (PO.assign (v := .int .i64 0) rfl) ?_
      refine JL.nil ?_
      refine JQ.seq ?_
      refine JC.seq ?_
      refine JC.seq ?_
      refine JC.region ?_
      refine JL.pure rfl (PO.assign (v := .int .i64 0) rfl) ?_
      refine JL.nil ?_
      refine JQ.seq ?_
      refine JC.block ?_
      have hll := f_20.1
      refine JC.perm (pick_perm [5, 0, 0, 0, 0, 0] (A := [mb b_1 x_17 m_18, rC x_17.a0 x_17.c0 m_18.s, rS x_17.a1 x_17.c1 m_18.r, rS x_17.a2 x_17.c2 m_18.w, rS l_19a l_19c l_19, bk b_2 32 [.slice none 0 0, .slice none 0 0, .slice none 0 0]]) (F := []) rfl).symm ?_
      refine JC.loop (fun k_ e_ L_ => ∃ j : Nat, ∃ x : MA, ∃ mm : MS, ∃ kv9_ : Int, (j ≤ l_19.length) ∧ (mm.ok ((S + 1) + 2 * j) (((T + 1) + 1) + 1 + 7 * j)) ∧ (0 ≤ kv9_ ∧ kv9_ ≤ ((j : Nat) : Int)) ∧ (MS.tickL (n_8 + n) (l_19.drop j) mm kv9_ = MS.tickL (n_8 + n) l_19 m_18 0) ∧ e_ 1 = .int .i64 n ∧ e_ 2 = .pointer (some ⟨b_1, 0, none⟩) ∧ e_ 4 = .pointer (some ⟨b_2, 0, none⟩) ∧ e_ 5 = .int .i64 0 ∧ e_ 6 = .int .i64 0 ∧ e_ 7 = .int .i64 n_8 ∧ e_ 8 = .slice l_19a l_19.length l_19c ∧ e_ 9 = .int .i64 kv9_ ∧ e_ 10 = .int .i64 ((j : Nat) : Int) ∧ L_ = [mb b_1 x mm, rC x.a0 x.c0 mm.s, rS x.a1 x.c1 mm.r, rS x.a2 x.c2 mm.w, rS l_19a l_19c l_19, bk b_2 32 [.slice none 0 0, .slice none 0 0, .slice none 0 0]] ∧ k_ = l_19.length - j) _ ⟨0, x_17, m_18, 0, by omega, (k_16.mono (by omega) (by omega)), (by first | omega | (simp only [List.length_append, List.length_cons, List.length_nil, List.length_take, List.length_drop]; omega)), rfl, rfl, rfl, rfl, rfl, rfl, rfl, rfl, rfl, rfl, rfl, rfl⟩ ?_
      rintro _ e_21 _ ⟨j, x, mm, kv9_, hj, hkmm, hx, hR, he_22, he_23, he_24, he_25, he_26, he_27, he_28, he_29, he_30, rfl, rfl⟩
      refine JC.seq ?_
      refine JC.seq ?_
      refine JC.region ?_
      refine JL.pure rfl (PO.move (v := .int .i64 ((j : Nat) : Int)) he_30) ?_
      refine JL.pure rfl (PO.move (v := .slice l_19a l_19.length l_19c) he_28) ?_
      refine JL.pure rfl (PO.lenV Tryz.underlying23 rfl) ?_
      refine JL.pure rfl (PO.lss rfl rfl) ?_
      refine JL.nil ?_
      refine JQ.seq ?_
      by_cases h_31 : ((j : Nat) : Int) < ((l_19.length : Nat) : Int)
      · skip
        have hlt : j < l_19.length := by omega
        have hbj := f_20.2 j hlt
        try simp only [List.length_cons, List.length_nil] at hbj
        refine JC.condT (congrArg Value.bool (decide_eq_true h_31)) ?_
        refine JC.skip ?_
        refine JQ.seq ?_
        refine JC.seq ?_
        refine JC.block ?_
        refine JC.seq ?_
        refine JC.region ?_
        refine JL.pure rfl (PO.assign (v := .int .i64 0) rfl) ?_
        refine JL.nil ?_
        refine JQ.seq ?_
        refine JC.seq ?_
        refine JC.regionA [mb b_1 x mm] 9 mixed (by simp) ?_
        refine JA.take 0 rfl (by kernel_rfl) (NP.th (NP.bl (NP.th (NP.th (NP.bl (NP.th NP.body)))))) (by kernel_rfl) (by kernel_rfl) (by kernel_rfl) rfl (LO.loadK 0 (vs := [.slice x.a0 mm.s.length x.c0, .slice x.a1 mm.r.length x.c1, .slice x.a2 mm.w.length x.c2]) rfl he_23 Tryz.isAgg32 Tryz.sizeOf32 rfl rfl) ?_
        refine JA.takeP 1 rfl (by kernel_rfl) (NP.th (NP.bl (NP.th (NP.th (NP.bl (NP.th NP.body)))))) (by kernel_rfl) (by kernel_rfl) rfl (PO.move (v := .slice l_19a l_19.length l_19c) he_28) ?_
        refine JA.takeP 2 rfl (by kernel_rfl) (NP.th (NP.bl (NP.th (NP.th (NP.bl (NP.th NP.body)))))) (by kernel_rfl) (by kernel_rfl) rfl (PO.move (v := .int .i64 ((j : Nat) : Int)) he_30) ?_
        refine JA.facts fun hst => ?_
        obtain ⟨hr_32, hr_32b, -⟩ := row_some 4 rfl (by omega) hst
        refine JA.takeP 3 rfl (by kernel_rfl) (NP.th (NP.bl (NP.th (NP.th (NP.bl (NP.th NP.body)))))) (by kernel_rfl) (by kernel_rfl) rfl (PO.indexAddrV (i := j) Tryz.underlying23 Tryz.sizeOf9 hr_32 hr_32b rfl rfl (by omega)) ?_
        refine JA.one (i := 4) (by kernel_rfl) ?_
        refine JX.op rfl rfl (JO.ofLO (LO.loadR1 4 (v := str (l_19.getD j [])) rfl rfl Tryz.isAgg9 (atS (by omega)))) ?_
        rintro _ _ ⟨rfl, rfl⟩
        refine ⟨(by simp), ?_⟩
        refine JA.one (i := 5) (by kernel_rfl) ?_
        refine JX.op rfl rfl (JO.call [1, 1, 1] Tryz.call228 rfl (N_sNumAt x mm hkmm (by omega) (by omega) (l_19.getD j [])) rfl (fun _ _ => trivial)) ?_
        rintro _ _ ⟨_, ⟨x_41, m_42, n_43, e_39, k_40, f_44, rfl, rfl⟩, rfl⟩
        refine ⟨(by simp), ?_⟩
        refine JA.takeP 6 rfl (by kernel_rfl) (NP.th (NP.bl (NP.th (NP.th (NP.bl (NP.th NP.body)))))) (by kernel_rfl) (by kernel_rfl) rfl (PO.move (v := .tuple #[mv x_41 m_42, .int .i64 n_43]) rfl) ?_
        refine JA.takeP 7 rfl (by kernel_rfl) (NP.th (NP.bl (NP.th (NP.th (NP.bl (NP.th NP.body)))))) (by kernel_rfl) (by kernel_rfl) rfl (PO.extract (v := mv x_41 m_42) rfl rfl) ?_
        refine JA.takeP 8 rfl (by kernel_rfl) (NP.th (NP.bl (NP.th (NP.th (NP.bl (NP.th NP.body)))))) (by kernel_rfl) (by kernel_rfl) rfl (PO.extract (v := .int .i64 n_43) rfl rfl) ?_
        refine JA.one (i := 9) (by kernel_rfl) ?_
        refine JX.late rfl rfl (by decide) (by kernel_rfl) (JO.store 3 (vs := [.slice x_41.a0 m_42.s.length x_41.c0, .slice x_41.a1 m_42.r.length x_41.c1, .slice x_41.a2 m_42.w.length x_41.c2]) (cs' := [.slice x_41.a0 m_42.s.length x_41.c0, .slice x_41.a1 m_42.r.length x_41.c1, .slice x_41.a2 m_42.w.length x_41.c2]) rfl he_23 rfl rfl Tryz.sizeOf32 rfl rfl (Nat.le_of_ble_eq_true rfl) rfl) ?_
        rintro _ _ rfl
        refine JA.takeP 10 rfl (by kernel_rfl) (NP.th (NP.bl (NP.th (NP.th (NP.bl (NP.th NP.body)))))) (by kernel_rfl) (by kernel_rfl) rfl (PO.assign (v := .int .i64 n_43) rfl) ?_
        refine JA.done (by kernel_rfl) ?_
        refine JQ.seq ?_
        refine JC.seq ?_
        refine JC.region ?_
        refine JL.pure rfl (PO.move (v := .int .i64 n_43) rfl) ?_
        refine JL.pure rfl (PO.move (v := .int .i64 n_8) he_27) ?_
        refine JL.pure rfl (PO.move (v := .int .i64 n) he_22) ?_
        refine JL.pure rfl (PO.add (c := n_8 + n) rfl rfl (wr (by omega))) ?_
        refine JL.pure rfl (PO.leq rfl rfl) ?_
        refine JL.nil ?_
        refine JQ.seq ?_
        by_cases h_45 : n_43 ≤ (n_8 + n)
        · skip
          refine JC.condT (congrArg Value.bool (decide_eq_true h_45)) ?_
          refine JC.seq ?_
          refine JC.regionA [mb b_1 x_41 m_42] 5 mixed (by simp) ?_
          refine JA.take 0 rfl (by kernel_rfl) (NP.th (NP.bl (NP.th (NP.th (NP.bl (NP.th NP.body)))))) (by kernel_rfl) (by kernel_rfl) (by kernel_rfl) rfl (LO.loadK 0 (vs := [.slice x_41.a0 m_42.s.length x_41.c0, .slice x_41.a1 m_42.r.length x_41.c1, .slice x_41.a2 m_42.w.length x_41.c2]) rfl he_23 Tryz.isAgg32 Tryz.sizeOf32 rfl rfl) ?_
          refine JA.takeP 1 rfl (by kernel_rfl) (NP.th (NP.bl (NP.th (NP.th (NP.bl (NP.th NP.body)))))) (by kernel_rfl) (by kernel_rfl) rfl (PO.move (v := .slice l_19a l_19.length l_19c) he_28) ?_
          refine JA.takeP 2 rfl (by kernel_rfl) (NP.th (NP.bl (NP.th (NP.th (NP.bl (NP.th NP.body)))))) (by kernel_rfl) (by kernel_rfl) rfl (PO.move (v := .int .i64 ((j : Nat) : Int)) he_30) ?_
          refine JA.takeP 3 rfl (by kernel_rfl) (NP.th (NP.bl (NP.th (NP.th (NP.bl (NP.th NP.body)))))) (by kernel_rfl) (by kernel_rfl) rfl (PO.indexAddrV (i := j) Tryz.underlying23 Tryz.sizeOf9 hr_32 hr_32b rfl rfl (by omega)) ?_
          refine JA.one (i := 4) (by kernel_rfl) ?_
          refine JX.op rfl rfl (JO.ofLO (LO.loadR1 4 (v := str (l_19.getD j [])) rfl rfl Tryz.isAgg9 (atS (by omega)))) ?_
          rintro _ _ ⟨rfl, rfl⟩
          refine ⟨(by simp), ?_⟩
          refine JA.one (i := 5) (by kernel_rfl) ?_
          refine JX.late rfl rfl (by decide) (by kernel_rfl) (JO.call [0, 0, 0] Tryz.call232 rfl (N_sLayNil x_41 m_42 k_40 (by omega) (by omega) (l_19.getD j []) (by omega)) rfl (fun _ _ => trivial)) ?_
          rintro _ _ ⟨_, ⟨x_52, m_53, e_50, k_51, rfl, rfl⟩, rfl⟩
          refine JA.one (i := 6) (by kernel_rfl) ?_
          refine JX.last rfl rfl (by decide) (by kernel_rfl) (JO.store 3 (vs := [.slice x_52.a0 m_53.s.length x_52.c0, .slice x_52.a1 m_53.r.length x_52.c1, .slice x_52.a2 m_53.w.length x_52.c2]) (cs' := [.slice x_52.a0 m_53.s.length x_52.c0, .slice x_52.a1 m_53.r.length x_52.c1, .slice x_52.a2 m_53.w.length x_52.c2]) rfl he_23 rfl rfl Tryz.sizeOf32 rfl rfl (Nat.le_of_ble_eq_true rfl) rfl) ?_
          rintro _ _ rfl
          refine JQ.seq ?_
          refine JC.seq ?_
          refine JC.regionA [mb b_1 x_52 m_53] 11 mixed (by simp) ?_
          refine JA.take 0 rfl (by kernel_rfl) (NP.th (NP.bl (NP.th (NP.th (NP.bl (NP.th NP.body)))))) (by kernel_rfl) (by kernel_rfl) (by kernel_rfl) rfl (LO.loadK 0 (vs := [.slice x_52.a0 m_53.s.length x_52.c0, .slice x_52.a1 m_53.r.length x_52.c1, .slice x_52.a2 m_53.w.length x_52.c2]) rfl he_23 Tryz.isAgg32 Tryz.sizeOf32 rfl rfl) ?_
          refine JA.takeP 1 rfl (by kernel_rfl) (NP.th (NP.bl (NP.th (NP.th (NP.bl (NP.th NP.body)))))) (by kernel_rfl) (by kernel_rfl) rfl (PO.move (v := .slice l_19a l_19.length l_19c) he_28) ?_
          refine JA.takeP 2 rfl (by kernel_rfl) (NP.th (NP.bl (NP.th (NP.th (NP.bl (NP.th NP.body)))))) (by kernel_rfl) (by kernel_rfl) rfl (PO.move (v := .int .i64 ((j : Nat) : Int)) he_30) ?_
          refine JA.takeP 3 rfl (by kernel_rfl) (NP.th (NP.bl (NP.th (NP.th (NP.bl (NP.th NP.body)))))) (by kernel_rfl) (by kernel_rfl) rfl (PO.indexAddrV (i := j) Tryz.underlying23 Tryz.sizeOf9 hr_32 hr_32b rfl rfl (by omega)) ?_
          refine JA.one (i := 4) (by kernel_rfl) ?_
          refine JX.op rfl rfl (JO.ofLO (LO.loadR1 4 (v := str (l_19.getD j [])) rfl rfl Tryz.isAgg9 (atS (by omega)))) ?_
          rintro _ _ ⟨rfl, rfl⟩
          refine ⟨(by simp), ?_⟩
          refine JA.takeP 5 rfl (by kernel_rfl) (NP.th (NP.bl (NP.th (NP.th (NP.bl (NP.th NP.body)))))) (by kernel_rfl) (by kernel_rfl) rfl (PO.sliceSl (i := 2) Tryz.underlying9 rfl rfl (by omega)) ?_
          refine JA.one (i := 6) (by kernel_rfl) ?_
          refine JX.op rfl rfl (JO.call [] Tryz.call217 rfl (N_sNumOf ((l_19.getD j []).drop 2) (by first | omega | (simp only [List.length_append, List.length_cons, List.length_nil, List.length_take, List.length_drop]; omega))) rfl (fun _ _ => trivial)) ?_
          rintro _ _ ⟨_, ⟨n_60, e_58, f_61, rfl, rfl⟩, rfl⟩
          refine ⟨(by simp), ?_⟩
          refine JA.one (i := 7) (by kernel_rfl) ?_
          refine JX.op rfl rfl (JO.call [0, 0, 0] Tryz.call190 rfl (M_send x_52 m_53 k_51 (by omega) (by omega) n_60 14 (by omega) (by omega)) rfl (fun _ _ => trivial)) ?_
          rintro _ _ ⟨_, ⟨x_70, m_71, n_72, e_68, k_69, f_73, rfl, rfl⟩, rfl⟩
          refine ⟨(by simp), ?_⟩
          refine JA.takeP 8 rfl (by kernel_rfl) (NP.th (NP.bl (NP.th (NP.th (NP.bl (NP.th NP.body)))))) (by kernel_rfl) (by kernel_rfl) rfl (PO.move (v := .tuple #[mv x_70 m_71, .int .i64 n_72]) rfl) ?_
          refine JA.takeP 9 rfl (by kernel_rfl) (NP.th (NP.bl (NP.th (NP.th (NP.bl (NP.th NP.body)))))) (by kernel_rfl) (by kernel_rfl) rfl (PO.extract (v := mv x_70 m_71) rfl rfl) ?_
          refine JA.takeP 10 rfl (by kernel_rfl) (NP.th (NP.bl (NP.th (NP.th (NP.bl (NP.th NP.body)))))) (by kernel_rfl) (by kernel_rfl) rfl (PO.extract (v := .int .i64 n_72) rfl rfl) ?_
          refine JA.one (i := 11) (by kernel_rfl) ?_
          refine JX.last rfl rfl (by decide) (by kernel_rfl) (JO.store 3 (vs := [.slice x_70.a0 m_71.s.length x_70.c0, .slice x_70.a1 m_71.r.length x_70.c1, .slice x_70.a2 m_71.w.length x_70.c2]) (cs' := [.slice x_70.a0 m_71.s.length x_70.c0, .slice x_70.a1 m_71.r.length x_70.c1, .slice x_70.a2 m_71.w.length x_70.c2]) rfl he_23 rfl rfl Tryz.sizeOf32 rfl rfl (Nat.le_of_ble_eq_true rfl) rfl) ?_
          rintro _ _ rfl
          refine JQ.seq ?_
          refine JC.region ?_
          refine JL.pure rfl (PO.move (v := .int .i64 kv9_) he_29) ?_
          refine JL.pure rfl (PO.add (c := kv9_ + 1) rfl rfl (wr (by omega))) ?_
          refine JL.pure rfl (PO.assign (v := .int .i64 (kv9_ + 1)) rfl) ?_
          refine JL.nil ?_
          refine JQ.blockN ?_
          refine JQ.seq ?_
          refine JC.region ?_
          refine JL.pure rfl (PO.move (v := .int .i64 ((j : Nat) : Int)) he_30) ?_
          refine JL.pure rfl (PO.add (c := ((j + 1 : Nat) : Int)) rfl rfl (wr (by omega))) ?_
          refine JL.pure rfl (PO.assign (v := .int .i64 ((j + 1 : Nat) : Int)) rfl) ?_
          refine JL.nil ?_
          refine JQ.pick [3, 0, 0, 0, 0, 0] (A := [mb b_1 x_70 m_71, rC x_70.a0 x_70.c0 m_71.s, rS x_70.a1 x_70.c1 m_71.r, rS x_70.a2 x_70.c2 m_71.w, rS l_19a l_19c l_19, bk b_2 32 [.slice none 0 0, .slice none 0 0, .slice none 0 0]]) rfl ?_
          refine JQ.again (l_19.length - (j + 1)) (by omega) ⟨j + 1, x_70, m_71, (kv9_ + 1), by omega, (k_69.mono (by omega) (by omega)), (by first | omega | (simp only [List.length_append, List.length_cons, List.length_nil, List.length_take, List.length_drop]; omega)), (by rw [drop_at (getD_some (d := []) hlt)] at hR; simp only [MS.tickL, h_3, e_4, h_10, e_11, e_15, h_31, e_39, h_45, e_50, e_58, e_68, if_true, if_false, Bool.false_eq_true, Bool.not_true, Bool.not_false] at hR; (repeat (first | rw [if_pos (by omega)] at hR | rw [if_neg (by omega)] at hR)); exact hR), he_22, he_23, he_24, he_25, he_26, he_27, he_28, rfl, rfl, rfl, rfl⟩
        · skip
          refine JC.condF (congrArg Value.bool (decide_eq_false h_45)) ?_
          refine JC.skip ?_
          refine JQ.blockN ?_
          refine JQ.seq ?_
          refine JC.region ?_
          refine JL.pure rfl (PO.move (v := .int .i64 ((j : Nat) : Int)) he_30) ?_
          refine JL.pure rfl (PO.add (c := ((j + 1 : Nat) : Int)) rfl rfl (wr (by omega))) ?_
          refine JL.pure rfl (PO.assign (v := .int .i64 ((j + 1 : Nat) : Int)) rfl) ?_
          refine JL.nil ?_
          refine JQ.pick [3, 0, 0, 0, 0, 0] (A := [mb b_1 x_41 m_42, rC x_41.a0 x_41.c0 m_42.s, rS x_41.a1 x_41.c1 m_42.r, rS x_41.a2 x_41.c2 m_42.w, rS l_19a l_19c l_19, bk b_2 32 [.slice none 0 0, .slice none 0 0, .slice none 0 0]]) rfl ?_
          refine JQ.again (l_19.length - (j + 1)) (by omega) ⟨j + 1, x_41, m_42, kv9_, by omega, (k_40.mono (by omega) (by omega)), (by first | omega | (simp only [List.length_append, List.length_cons, List.length_nil, List.length_take, List.length_drop]; omega)), (by rw [drop_at (getD_some (d := []) hlt)] at hR; simp only [MS.tickL, h_3, e_4, h_10, e_11, e_15, h_31, e_39, h_45, if_true, if_false, Bool.false_eq_true, Bool.not_true, Bool.not_false] at hR; (repeat (first | rw [if_pos (by omega)] at hR | rw [if_neg (by omega)] at hR)); exact hR), he_22, he_23, he_24, he_25, he_26, he_27, he_28, he_29, rfl, rfl, rfl⟩
      · skip
        rw [List.drop_of_length_le (by omega)] at hR
        simp only [MS.tickL] at hR
        have hE := hR.symm
        refine JC.condF (congrArg Value.bool (decide_eq_false h_31)) ?_
        refine JC.exit ?_
        refine JQ.thenExit ?_
        refine JQ.thenExit ?_
        refine JQ.blockE ?_
        refine JQ.seq ?_
        refine JC.seq ?_
        refine JC.region ?_
        refine JL.ld rfl (LO.loadK 0 (vs := [.slice x.a0 mm.s.length x.c0, .slice x.a1 mm.r.length x.c1, .slice x.a2 mm.w.length x.c2]) rfl he_23 Tryz.isAgg32 Tryz.sizeOf32 rfl rfl) ?_
        refine JL.pure rfl (PO.move (v := .int .i64 kv9_) he_29) ?_
        refine JL.op rfl (JO.store 5 (vs := [.slice x.a0 mm.s.length x.c0, .slice x.a1 mm.r.length x.c1, .slice x.a2 mm.w.length x.c2]) (cs' := [.slice x.a0 mm.s.length x.c0, .slice x.a1 mm.r.length x.c1, .slice x.a2 mm.w.length x.c2]) rfl he_24 rfl rfl Tryz.sizeOf32 rfl rfl (Nat.le_of_ble_eq_true rfl) rfl) ?_
        rintro _ _ rfl
        refine JL.pure rfl (PO.assign (v := .int .i64 kv9_) rfl) ?_
        refine JL.pure rfl (PO.assign (v := .int .i64 0) rfl) ?_
        refine JL.nil ?_
        refine JQ.seq ?_
        refine JC.ret ?_
        refine JQ.perm (pick_perm [1, 1, 1] (A := [rC x.a0 x.c0 mm.s, rS x.a1 x.c1 mm.r, rS x.a2 x.c2 mm.w]) (F := [mb b_1 x mm, rS l_19a l_19c l_19, mb b_2 x mm]) rfl).symm ?_
        refine Done.three (.inl rfl) rfl (RV.cell1 (LO.loadK 5 (vs := [.slice x.a0 mm.s.length x.c0, .slice x.a1 mm.r.length x.c1, .slice x.a2 mm.w.length x.c2]) rfl he_24 Tryz.isAgg32 Tryz.sizeOf32 rfl rfl) ⟨_, he_24⟩) (RV.tmp (v := .int .i64 kv9_) rfl) (RV.tmp (v := .int .i64 0) rfl) (List.sublist_append_left [rC x.a0 x.c0 mm.s, rS x.a1 x.c1 mm.r, rS x.a2 x.c2 mm.w] [mb b_1 x mm, rS l_19a l_19c l_19, mb b_2 x mm]) ?_
        exact ⟨x, mm, kv9_, 0, (by simp only [MS.tick, h_3, e_4, h_10, e_11, e_15, h_31, hE, if_true, if_false, Bool.false_eq_true, Bool.not_true, Bool.not_false]; (repeat (first | rw [if_pos (by omega)] | rw [if_neg (by omega)])); all_goals (first | rfl | simp only [if_true, if_false, Bool.false_eq_true, Bool.not_true, Bool.not_false, h_3, e_4, h_10, e_11, e_15, h_31, hE])), (hkmm.mono (by omega) (by omega)), (by first | omega | (simp only [List.length_append, List.length_cons, List.length_nil, List.length_take, List.length_drop]; omega)), (by first | omega | (simp only [List.length_append, List.length_cons, List.length_nil, List.length_take, List.length_drop]; omega)), rfl, rfl⟩

theorem P_tick (x : MA) (m : MS) {S T : Nat} (hk : m.ok S T) (hS : S ≤ 3000000) (hT : T ≤ 3000000) (n : Int) (hn : -9223372036854775808 ≤ n ∧ n ≤ 9223372036854775807) :
    Ct Tryz.prog 90 [mv x m, .int .i64 n] ([]) (fun w => seesM w x m) (fun v A' => ∃ x' m' r0 r1, MS.tick m n = (m', r0, r1) ∧ m'.ok (3 * S + 3) (T + 7 * S + 10) ∧ (0 ≤ r0 ∧ r0 ≤ 1000000000) ∧ (0 ≤ r1 ∧ r1 ≤ 9) ∧ v = .tuple #[mv x' m', .int .i64 r0, .int .i64 r1] ∧ A' = mr x' m') := by
  refine Ct.intro Tryz.func90 rfl Tryz.ntmps90 (Nat.le_of_ble_eq_true rfl) fun w0 hpre => ?_
  have hs_x_a0 : Sees w0 _ _ _ _ := hpre.1
  have hs_x_a1 : Sees w0 _ _ _ _ := hpre.2.1
  have hs_x_a2 : Sees w0 _ _ _ _ := hpre.2.2
  refine JC.seq ?_
  refine JC.region ?_
  refine JL.op rfl (JO.box (cs := [.slice x.a0 m.s.length x.c0, .slice x.a1 m.r.length x.c1, .slice x.a2 m.w.length x.c2]) rfl rfl) ?_
  rintro _ _ ⟨b_1, rfl, rfl⟩
  refine JL.op rfl (JO.alloc (z := .agg #[.slice none 0 0, .slice none 0 0, .slice none 0 0]) (cs := [.slice none 0 0, .slice none 0 0, .slice none 0 0]) Tryz.zeroValue32 rfl) ?_
  rintro _ _ ⟨b_2, rfl, rfl⟩
  refine JL.pure rfl (PO.assign (v := .int .i64 0) rfl) ?_
  refine JL.pure rfl (PO.assign (v := .int .i64 0) rfl) ?_
  refine JL.nil ?_
  refine JQ.seq ?_
  refine JC.seq ?_
  refine JC.region ?_
  refine JL.ld rfl (LO.loadK 1 (vs := [.slice x.a0 m.s.length x.c0, .slice x.a1 m.r.length x.c1, .slice x.a2 m.w.length x.c2]) rfl rfl Tryz.isAgg32 Tryz.sizeOf32 rfl rfl) ?_
  refine JL.op rfl (JO.call [] Tryz.call127 rfl (N_clone x m hk (by omega) (by omega)) rfl (fun w hw => ⟨hw.seeOut_ hs_x_a0 (fun _ _ => List.not_mem_nil), hw.seeOut_ hs_x_a1 (fun _ _ => List.not_mem_nil), hw.seeOut_ hs_x_a2 (fun _ _ => List.not_mem_nil)⟩)) ?_
  rintro _ _ ⟨_, ⟨x_5, m_6, rfl, k_4, rfl, rfl⟩, rfl⟩
  refine JL.op rfl (JO.store 4 (vs := [.slice x_5.a0 m.s.length x_5.c0, .slice x_5.a1 m.r.length x_5.c1, .slice x_5.a2 m.w.length x_5.c2]) (cs' := [.slice x_5.a0 m.s.length x_5.c0, .slice x_5.a1 m.r.length x_5.c1, .slice x_5.a2 m.w.length x_5.c2]) rfl rfl rfl rfl Tryz.sizeOf32 rfl rfl (Nat.le_of_ble_eq_true rfl) rfl) ?_
  rintro _ _ rfl
  refine JL.nil ?_
  refine JQ.seq ?_
  refine JC.seq ?_
  refine JC.region ?_
  refine JL.pure rfl (PO.move (v := .int .i64 n) rfl) ?_
  refine JL.op rfl (JO.call [4, 0, 0, 0] Tryz.call195 rfl (N_tick b_1 x_5 m k_4 (by omega) (by omega) n (by omega)) rfl (fun _ _ => trivial)) ?_
  rintro _ _ ⟨_, ⟨x_9, m_10, n_11, n_13, e_7, k_8, f_12, f_14, rfl, rfl⟩, rfl⟩
  refine JL.pure rfl (PO.move (v := .tuple #[.int .i64 n_11, .int .i64 n_13]) rfl) ?_
  refine JL.pure rfl (PO.extract (v := .int .i64 n_11) rfl rfl) ?_
  refine JL.pure rfl (PO.extract (v := .int .i64 n_13) rfl rfl) ?_
  refine JL.pure rfl (PO.assign (v := .int .i64 n_11) rfl) ?_
  refine JL.pure rfl (PO.assign (v := .int .i64 n_13) rfl) ?_
  refine JL.nil ?_
  refine JQ.seq ?_
  refine JC.seq ?_
  refine JC.region ?_
  refine JL.ld rfl (LO.loadK 0 (vs := [.slice x_9.a0 m_10.s.length x_9.c0, .slice x_9.a1 m_10.r.length x_9.c1, .slice x_9.a2 m_10.w.length x_9.c2]) rfl rfl Tryz.isAgg32 Tryz.sizeOf32 rfl rfl) ?_
  refine JL.pure rfl (PO.move (v := .int .i64 n_11) rfl) ?_
  refine JL.pure rfl (PO.move (v := .int .i64 n_13) rfl) ?_
  refine JL.op rfl (JO.store 4 (vs := [.slice x_9.a0 m_10.s.length x_9.c0, .slice x_9.a1 m_10.r.length x_9.c1, .slice x_9.a2 m_10.w.length x_9.c2]) (cs' := [.slice x_9.a0 m_10.s.length x_9.c0, .slice x_9.a1 m_10.r.length x_9.c1, .slice x_9.a2 m_10.w.length x_9.c2]) rfl rfl rfl rfl Tryz.sizeOf32 rfl rfl (Nat.le_of_ble_eq_true rfl) rfl) ?_
  rintro _ _ rfl
  refine JL.pure rfl (PO.assign (v := .int .i64 n_11) rfl) ?_
  refine JL.pure rfl (PO.assign (v := .int .i64 n_13) rfl) ?_
  refine JL.nil ?_
  refine JQ.seq ?_
  refine JC.ret ?_
  refine JQ.perm (pick_perm [1, 1, 1] (A := [rC x_9.a0 x_9.c0 m_10.s, rS x_9.a1 x_9.c1 m_10.r, rS x_9.a2 x_9.c2 m_10.w]) (F := [mb b_1 x_9 m_10, mb b_2 x_9 m_10]) rfl).symm ?_
  refine Done.three (.inl rfl) rfl (RV.cell1 (LO.loadK 4 (vs := [.slice x_9.a0 m_10.s.length x_9.c0, .slice x_9.a1 m_10.r.length x_9.c1, .slice x_9.a2 m_10.w.length x_9.c2]) rfl rfl Tryz.isAgg32 Tryz.sizeOf32 rfl rfl) ⟨_, rfl⟩) (RV.tmp (v := .int .i64 n_11) rfl) (RV.tmp (v := .int .i64 n_13) rfl) (List.sublist_append_left [rC x_9.a0 x_9.c0 m_10.s, rS x_9.a1 x_9.c1 m_10.r, rS x_9.a2 x_9.c2 m_10.w] [mb b_1 x_9 m_10, mb b_2 x_9 m_10]) ?_
  exact ⟨x_9, m_10, n_11, n_13, (by simp only [if_true, e_7, if_true, if_false, Bool.false_eq_true, Bool.not_true, Bool.not_false]; (repeat (first | rw [if_pos (by omega)] | rw [if_neg (by omega)])); all_goals (first | rfl | simp only [if_true, if_false, Bool.false_eq_true, Bool.not_true, Bool.not_false, e_7])), (k_8.mono (by omega) (by omega)), (by first | omega | (simp only [List.length_append, List.length_cons, List.length_nil, List.length_take, List.length_drop]; omega)), (by first | omega | (simp only [List.length_append, List.length_cons, List.length_nil, List.length_take, List.length_drop]; omega)), rfl, rfl⟩

theorem Q_tick (x : MA) (m : MS) {S T : Nat} (hk : m.ok S T) (hS : S ≤ 3000000) (hT : T ≤ 3000000) (n : Int) (hn : -9223372036854775808 ≤ n ∧ n ≤ 9223372036854775807) :
    Ct Tryz.prog 91 [mv x m, .int .i64 n] ([]) (fun w => seesM w x m) (fun v A' => ∃ x' m' r0 r1, MS.tick m n = (m', r0, r1) ∧ m'.ok (3 * S + 3) (T + 7 * S + 10) ∧ (0 ≤ r0 ∧ r0 ≤ 1000000000) ∧ (0 ≤ r1 ∧ r1 ≤ 9) ∧ v = .tuple #[mv x' m', .int .i64 r0, .int .i64 r1] ∧ A' = mr x' m') := by
  refine Ct.intro Tryz.func91 rfl Tryz.ntmps91 (Nat.le_of_ble_eq_true rfl) fun w0 hpre => ?_
  have hs_x_a0 : Sees w0 _ _ _ _ := hpre.1
  have hs_x_a1 : Sees w0 _ _ _ _ := hpre.2.1
  have hs_x_a2 : Sees w0 _ _ _ _ := hpre.2.2
  refine JC.seq ?_
  refine JC.region ?_
  refine JL.op rfl (JO.box (cs := [.slice x.a0 m.s.length x.c0, .slice x.a1 m.r.length x.c1, .slice x.a2 m.w.length x.c2]) rfl rfl) ?_
  rintro _ _ ⟨b_1, rfl, rfl⟩
  refine JL.op rfl (JO.alloc (z := .agg #[.slice none 0 0, .slice none 0 0, .slice none 0 0]) (cs := [.slice none 0 0, .slice none 0 0, .slice none 0 0]) Tryz.zeroValue32 rfl) ?_
  rintro _ _ ⟨b_2, rfl, rfl⟩
  refine JL.pure rfl (PO.assign (v := .int .i64 0) rfl) ?_
  refine JL.pure rfl (PO.assign (v := .int .i64 0) rfl) ?_
  refine JL.nil ?_
  refine JQ.seq ?_
  refine JC.seq ?_
  refine JC.region ?_
  refine JL.ld rfl (LO.loadK 1 (vs := [.slice x.a0 m.s.length x.c0, .slice x.a1 m.r.length x.c1, .slice x.a2 m.w.length x.c2]) rfl rfl Tryz.isAgg32 Tryz.sizeOf32 rfl rfl) ?_
  refine JL.op rfl (JO.call [] Tryz.call124 rfl (N_copy x m hk (by omega) (by omega)) rfl (fun w hw => ⟨hw.seeOut_ hs_x_a0 (fun _ _ => List.not_mem_nil), hw.seeOut_ hs_x_a1 (fun _ _ => List.not_mem_nil), hw.seeOut_ hs_x_a2 (fun _ _ => List.not_mem_nil)⟩)) ?_
  rintro _ _ ⟨_, ⟨x_5, m_6, rfl, k_4, rfl, rfl⟩, rfl⟩
  refine JL.pure rfl (PO.move (v := .int .i64 n) rfl) ?_
  refine JL.op rfl (JO.call [0, 0, 0] Tryz.call196 rfl (M_tick x_5 m k_4 (by omega) (by omega) n (by omega)) rfl (fun _ _ => trivial)) ?_
  rintro _ _ ⟨_, ⟨x_9, m_10, n_11, n_13, e_7, k_8, f_12, f_14, rfl, rfl⟩, rfl⟩
  refine JL.pure rfl (PO.extract (v := mv x_9 m_10) rfl rfl) ?_
  refine JL.pure rfl (PO.extract (v := .int .i64 n_11) rfl rfl) ?_
  refine JL.pure rfl (PO.extract (v := .int .i64 n_13) rfl rfl) ?_
  refine JL.op rfl (JO.store 3 (vs := [.slice x_9.a0 m_10.s.length x_9.c0, .slice x_9.a1 m_10.r.length x_9.c1, .slice x_9.a2 m_10.w.length x_9.c2]) (cs' := [.slice x_9.a0 m_10.s.length x_9.c0, .slice x_9.a1 m_10.r.length x_9.c1, .slice x_9.a2 m_10.w.length x_9.c2]) rfl rfl rfl rfl Tryz.sizeOf32 rfl rfl (Nat.le_of_ble_eq_true rfl) rfl) ?_
  rintro _ _ rfl
  refine JL.pure rfl (PO.assign (v := .int .i64 n_11) rfl) ?_
  refine JL.pure rfl (PO.assign (v := .int .i64 n_13) rfl) ?_
  refine JL.nil ?_
  refine JQ.seq ?_
  refine JC.ret ?_
  refine Done.three (.inl rfl) rfl (RV.cell1 (LO.loadK 3 (vs := [.slice x_9.a0 m_10.s.length x_9.c0, .slice x_9.a1 m_10.r.length x_9.c1, .slice x_9.a2 m_10.w.length x_9.c2]) rfl rfl Tryz.isAgg32 Tryz.sizeOf32 rfl rfl) ⟨_, rfl⟩) (RV.tmp (v := .int .i64 n_11) rfl) (RV.tmp (v := .int .i64 n_13) rfl) (List.sublist_append_left [rC x_9.a0 x_9.c0 m_10.s, rS x_9.a1 x_9.c1 m_10.r, rS x_9.a2 x_9.c2 m_10.w] [mb b_2 x_9 m_10, mb b_1 x m]) ?_
  exact ⟨x_9, m_10, n_11, n_13, (by simp only [if_true, e_7, if_true, if_false, Bool.false_eq_true, Bool.not_true, Bool.not_false]; (repeat (first | rw [if_pos (by omega)] | rw [if_neg (by omega)])); all_goals (first | rfl | simp only [if_true, if_false, Bool.false_eq_true, Bool.not_true, Bool.not_false, e_7])), (k_8.mono (by omega) (by omega)), (by first | omega | (simp only [List.length_append, List.length_cons, List.length_nil, List.length_take, List.length_drop]; omega)), (by first | omega | (simp only [List.length_append, List.length_cons, List.length_nil, List.length_take, List.length_drop]; omega)), rfl, rfl⟩

end Go.Proofs.YtenfajgpdhgknaaGreatDoor

set_option linter.unusedSimpArgs false
set_option linter.unusedVariables false
set_option linter.unnecessarySimpa false
namespace Go.Proofs.YtenfajgpdhgknaaGreatDoor
open Go Go.RowKit
attribute [local irreducible] JL JC JQ JO LO PO JA JX Ct

theorem P_clock (x : MA) (m : MS) {S T : Nat} (hk : m.ok S T) (hS : S ≤ 40000000) (hT : T ≤ 40000000)  :
    Ct Tryz.prog 93 [mv x m] ([]) (fun w => seesM w x m) (fun v A' => ∃ x' m' r0, (fun m => MS.num m ([99, 47, 99, 108, 111, 99, 107] : Str)) m = (m', r0) ∧ m'.ok (S) (T + 1) ∧ (0 ≤ r0 ∧ r0 ≤ 999) ∧ v = .tuple #[mv x' m', .int .i64 r0] ∧ A' = mr x' m') := by
  refine Ct.intro Tryz.func93 rfl Tryz.ntmps93 (Nat.le_of_ble_eq_true rfl) fun w0 hpre => ?_
  have hs_x_a0 : Sees w0 _ _ _ _ := hpre.1
  have hs_x_a1 : Sees w0 _ _ _ _ := hpre.2.1
  have hs_x_a2 : Sees w0 _ _ _ _ := hpre.2.2
  refine JC.seq ?_
  refine JC.region ?_
  refine JL.op rfl (JO.box (cs := [.slice x.a0 m.s.length x.c0, .slice x.a1 m.r.length x.c1, .slice x.a2 m.w.length x.c2]) rfl rfl) ?_
  rintro _ _ ⟨b_1, rfl, rfl⟩
  refine JL.op rfl (JO.alloc (z := .agg #[.slice none 0 0, .slice none 0 0, .slice none 0 0]) (cs := [.slice none 0 0, .slice none 0 0, .slice none 0 0]) Tryz.zeroValue32 rfl) ?_
  rintro _ _ ⟨b_2, rfl, rfl⟩
  refine JL.pure rfl (PO.assign (v := .int .i64 0) rfl) ?_
  refine JL.nil ?_
  refine JQ.seq ?_
  refine JC.seq ?_
  refine JC.region ?_
  refine JL.ld rfl (LO.loadK 1 (vs := [.slice x.a0 m.s.length x.c0, .slice x.a1 m.r.length x.c1, .slice x.a2 m.w.length x.c2]) rfl rfl Tryz.isAgg32 Tryz.sizeOf32 rfl rfl) ?_
  refine JL.op rfl (JO.call [] Tryz.call197 rfl (P_num x m hk (by omega) (by omega) [99, 47, 99, 108, 111, 99, 107]) rfl (fun w hw => ⟨hw.seeOut_ hs_x_a0 (fun _ _ => List.not_mem_nil), hw.seeOut_ hs_x_a1 (fun _ _ => List.not_mem_nil), hw.seeOut_ hs_x_a2 (fun _ _ => List.not_mem_nil)⟩)) ?_
  rintro _ _ ⟨_, ⟨x_5, m_6, n_7, e_3, k_4, f_8, rfl, rfl⟩, rfl⟩
  refine JL.pure rfl (PO.extract (v := mv x_5 m_6) rfl rfl) ?_
  refine JL.pure rfl (PO.extract (v := .int .i64 n_7) rfl rfl) ?_
  refine JL.op rfl (JO.store 3 (vs := [.slice x_5.a0 m_6.s.length x_5.c0, .slice x_5.a1 m_6.r.length x_5.c1, .slice x_5.a2 m_6.w.length x_5.c2]) (cs' := [.slice x_5.a0 m_6.s.length x_5.c0, .slice x_5.a1 m_6.r.length x_5.c1, .slice x_5.a2 m_6.w.length x_5.c2]) rfl rfl rfl rfl Tryz.sizeOf32 rfl rfl (Nat.le_of_ble_eq_true rfl) rfl) ?_
  rintro _ _ rfl
  refine JL.pure rfl (PO.assign (v := .int .i64 n_7) rfl) ?_
  refine JL.nil ?_
  refine JQ.seq ?_
  refine JC.ret ?_
  refine Done.two (.inl rfl) rfl (RV.cell1 (LO.loadK 3 (vs := [.slice x_5.a0 m_6.s.length x_5.c0, .slice x_5.a1 m_6.r.length x_5.c1, .slice x_5.a2 m_6.w.length x_5.c2]) rfl rfl Tryz.isAgg32 Tryz.sizeOf32 rfl rfl) ⟨_, rfl⟩) (RV.tmp (v := .int .i64 n_7) rfl) (List.sublist_append_left [rC x_5.a0 x_5.c0 m_6.s, rS x_5.a1 x_5.c1 m_6.r, rS x_5.a2 x_5.c2 m_6.w] [mb b_2 x_5 m_6, mb b_1 x m]) ?_
  exact ⟨x_5, m_6, n_7, (by simp only [if_true, e_3, if_true, if_false, Bool.false_eq_true, Bool.not_true, Bool.not_false]; (repeat (first | rw [if_pos (by omega)] | rw [if_neg (by omega)])); all_goals (first | rfl | simp only [if_true, if_false, Bool.false_eq_true, Bool.not_true, Bool.not_false, e_3])), (k_4.mono (by omega) (by omega)), (by first | omega | (simp only [List.length_append, List.length_cons, List.length_nil, List.length_take, List.length_drop]; omega)), rfl, rfl⟩

theorem M_clock (x : MA) (m : MS) {S T : Nat} (hk : m.ok S T) (hS : S ≤ 40000000) (hT : T ≤ 40000000)  :
    Ct Tryz.prog 198 [mv x m] (mr x m) (fun _ => True) (fun v A' => ∃ x' m' r0, (fun m => MS.num m ([99, 47, 99, 108, 111, 99, 107] : Str)) m = (m', r0) ∧ m'.ok (S) (T + 1) ∧ (0 ≤ r0 ∧ r0 ≤ 999) ∧ v = .tuple #[mv x' m', .int .i64 r0] ∧ A' = mr x' m') := by
  refine Ct.intro Tryz.func198 rfl Tryz.ntmps198 (Nat.le_of_ble_eq_true rfl) fun w0 hpre => ?_
  refine JC.seq ?_
  refine JC.region ?_
  refine JL.op rfl (JO.box (cs := [.slice x.a0 m.s.length x.c0, .slice x.a1 m.r.length x.c1, .slice x.a2 m.w.length x.c2]) rfl rfl) ?_
  rintro _ _ ⟨b_1, rfl, rfl⟩
  refine JL.op rfl (JO.alloc (z := .agg #[.slice none 0 0, .slice none 0 0, .slice none 0 0]) (cs := [.slice none 0 0, .slice none 0 0, .slice none 0 0]) Tryz.zeroValue32 rfl) ?_
  rintro _ _ ⟨b_2, rfl, rfl⟩
  refine JL.pure rfl (PO.assign (v := .int .i64 0) rfl) ?_
  refine JL.nil ?_
  refine JQ.seq ?_
  refine JC.seq ?_
  refine JC.region ?_
  refine JL.ld rfl (LO.loadK 1 (vs := [.slice x.a0 m.s.length x.c0, .slice x.a1 m.r.length x.c1, .slice x.a2 m.w.length x.c2]) rfl rfl Tryz.isAgg32 Tryz.sizeOf32 rfl rfl) ?_
  refine JL.op rfl (JO.call [2, 2, 2] Tryz.call228 rfl (N_sNumAt x m hk (by omega) (by omega) [99, 47, 99, 108, 111, 99, 107]) rfl (fun _ _ => trivial)) ?_
  rintro _ _ ⟨_, ⟨x_5, m_6, n_7, e_3, k_4, f_8, rfl, rfl⟩, rfl⟩
  refine JL.pure rfl (PO.extract (v := mv x_5 m_6) rfl rfl) ?_
  refine JL.pure rfl (PO.extract (v := .int .i64 n_7) rfl rfl) ?_
  refine JL.op rfl (JO.store 3 (vs := [.slice x_5.a0 m_6.s.length x_5.c0, .slice x_5.a1 m_6.r.length x_5.c1, .slice x_5.a2 m_6.w.length x_5.c2]) (cs' := [.slice x_5.a0 m_6.s.length x_5.c0, .slice x_5.a1 m_6.r.length x_5.c1, .slice x_5.a2 m_6.w.length x_5.c2]) rfl rfl rfl rfl Tryz.sizeOf32 rfl rfl (Nat.le_of_ble_eq_true rfl) rfl) ?_
  rintro _ _ rfl
  refine JL.pure rfl (PO.assign (v := .int .i64 n_7) rfl) ?_
  refine JL.nil ?_
  refine JQ.seq ?_
  refine JC.ret ?_
  refine Done.two (.inl rfl) rfl (RV.cell1 (LO.loadK 3 (vs := [.slice x_5.a0 m_6.s.length x_5.c0, .slice x_5.a1 m_6.r.length x_5.c1, .slice x_5.a2 m_6.w.length x_5.c2]) rfl rfl Tryz.isAgg32 Tryz.sizeOf32 rfl rfl) ⟨_, rfl⟩) (RV.tmp (v := .int .i64 n_7) rfl) (List.sublist_append_left [rC x_5.a0 x_5.c0 m_6.s, rS x_5.a1 x_5.c1 m_6.r, rS x_5.a2 x_5.c2 m_6.w] [mb b_2 x_5 m_6, mb b_1 x m]) ?_
  exact ⟨x_5, m_6, n_7, (by simp only [if_true, e_3, if_true, if_false, Bool.false_eq_true, Bool.not_true, Bool.not_false]; (repeat (first | rw [if_pos (by omega)] | rw [if_neg (by omega)])); all_goals (first | rfl | simp only [if_true, if_false, Bool.false_eq_true, Bool.not_true, Bool.not_false, e_3])), (k_4.mono (by omega) (by omega)), (by first | omega | (simp only [List.length_append, List.length_cons, List.length_nil, List.length_take, List.length_drop]; omega)), rfl, rfl⟩

theorem Q_clock (x : MA) (m : MS) {S T : Nat} (hk : m.ok S T) (hS : S ≤ 40000000) (hT : T ≤ 40000000)  :
    Ct Tryz.prog 94 [mv x m] ([]) (fun w => seesM w x m) (fun v A' => ∃ x' m' r0, (fun m => MS.num m ([99, 47, 99, 108, 111, 99, 107] : Str)) m = (m', r0) ∧ m'.ok (S) (T + 1) ∧ (0 ≤ r0 ∧ r0 ≤ 999) ∧ v = .tuple #[mv x' m', .int .i64 r0] ∧ A' = mr x' m') := by
  refine Ct.intro Tryz.func94 rfl Tryz.ntmps94 (Nat.le_of_ble_eq_true rfl) fun w0 hpre => ?_
  have hs_x_a0 : Sees w0 _ _ _ _ := hpre.1
  have hs_x_a1 : Sees w0 _ _ _ _ := hpre.2.1
  have hs_x_a2 : Sees w0 _ _ _ _ := hpre.2.2
  refine JC.seq ?_
  refine JC.region ?_
  refine JL.op rfl (JO.box (cs := [.slice x.a0 m.s.length x.c0, .slice x.a1 m.r.length x.c1, .slice x.a2 m.w.length x.c2]) rfl rfl) ?_
  rintro _ _ ⟨b_1, rfl, rfl⟩
  refine JL.op rfl (JO.alloc (z := .agg #[.slice none 0 0, .slice none 0 0, .slice none 0 0]) (cs := [.slice none 0 0, .slice none 0 0, .slice none 0 0]) Tryz.zeroValue32 rfl) ?_
  rintro _ _ ⟨b_2, rfl, rfl⟩
  refine JL.pure rfl (PO.assign (v := .int .i64 0) rfl) ?_
  refine JL.nil ?_
  refine JQ.seq ?_
  refine JC.seq ?_
  refine JC.region ?_
  refine JL.ld rfl (LO.loadK 1 (vs := [.slice x.a0 m.s.length x.c0, .slice x.a1 m.r.length x.c1, .slice x.a2 m.w.length x.c2]) rfl rfl Tryz.isAgg32 Tryz.sizeOf32 rfl rfl) ?_
  refine JL.op rfl (JO.call [] Tryz.call124 rfl (N_copy x m hk (by omega) (by omega)) rfl (fun w hw => ⟨hw.seeOut_ hs_x_a0 (fun _ _ => List.not_mem_nil), hw.seeOut_ hs_x_a1 (fun _ _ => List.not_mem_nil), hw.seeOut_ hs_x_a2 (fun _ _ => List.not_mem_nil)⟩)) ?_
  rintro _ _ ⟨_, ⟨x_5, m_6, rfl, k_4, rfl, rfl⟩, rfl⟩
  refine JL.op rfl (JO.call [0, 0, 0] Tryz.call198 rfl (M_clock x_5 m k_4 (by omega) (by omega)) rfl (fun _ _ => trivial)) ?_
  rintro _ _ ⟨_, ⟨x_9, m_10, n_11, e_7, k_8, f_12, rfl, rfl⟩, rfl⟩
  refine JL.pure rfl (PO.extract (v := mv x_9 m_10) rfl rfl) ?_
  refine JL.pure rfl (PO.extract (v := .int .i64 n_11) rfl rfl) ?_
  refine JL.op rfl (JO.store 3 (vs := [.slice x_9.a0 m_10.s.length x_9.c0, .slice x_9.a1 m_10.r.length x_9.c1, .slice x_9.a2 m_10.w.length x_9.c2]) (cs' := [.slice x_9.a0 m_10.s.length x_9.c0, .slice x_9.a1 m_10.r.length x_9.c1, .slice x_9.a2 m_10.w.length x_9.c2]) rfl rfl rfl rfl Tryz.sizeOf32 rfl rfl (Nat.le_of_ble_eq_true rfl) rfl) ?_
  rintro _ _ rfl
  refine JL.pure rfl (PO.assign (v := .int .i64 n_11) rfl) ?_
  refine JL.nil ?_
  refine JQ.seq ?_
  refine JC.ret ?_
  refine Done.two (.inl rfl) rfl (RV.cell1 (LO.loadK 3 (vs := [.slice x_9.a0 m_10.s.length x_9.c0, .slice x_9.a1 m_10.r.length x_9.c1, .slice x_9.a2 m_10.w.length x_9.c2]) rfl rfl Tryz.isAgg32 Tryz.sizeOf32 rfl rfl) ⟨_, rfl⟩) (RV.tmp (v := .int .i64 n_11) rfl) (List.sublist_append_left [rC x_9.a0 x_9.c0 m_10.s, rS x_9.a1 x_9.c1 m_10.r, rS x_9.a2 x_9.c2 m_10.w] [mb b_2 x_9 m_10, mb b_1 x m]) ?_
  exact ⟨x_9, m_10, n_11, (by simp only [if_true, e_7, if_true, if_false, Bool.false_eq_true, Bool.not_true, Bool.not_false]; (repeat (first | rw [if_pos (by omega)] | rw [if_neg (by omega)])); all_goals (first | rfl | simp only [if_true, if_false, Bool.false_eq_true, Bool.not_true, Bool.not_false, e_7])), (k_8.mono (by omega) (by omega)), (by first | omega | (simp only [List.length_append, List.length_cons, List.length_nil, List.length_take, List.length_drop]; omega)), rfl, rfl⟩

theorem D_dPlaces (pa : Option Addr) (pc : Nat) (p : Str) (hp : p.length ≤ 1048576)  :
    Ct Tryz.prog 63 [.slice pa p.length pc] [] (fun w => Sees w (.slice pa p.length pc) 1 p.length (p.map encB)) (fun v A' => ∃ r0a r0c r0, (r0.length = 12 ∧ ∀ x ∈ r0, 0 ≤ x ∧ x ≤ 9999) ∧ v = .slice r0a r0.length r0c ∧ A' = [rI r0a r0c r0]) := by
  refine Ct.intro Tryz.func63 rfl Tryz.ntmps63 (Nat.le_of_ble_eq_true rfl) fun w0 hpre => ?_
  have hs_pa : Sees w0 _ _ _ _ := hpre
  refine JC.seq ?_
  refine JC.region ?_
  refine JL.pure rfl (PO.assign (v := .slice none 0 0) rfl) ?_
  refine JL.nil ?_
  refine JQ.seq ?_
  refine JC.seq ?_
  refine JC.region ?_
  refine JL.pure rfl (PO.move (v := .slice pa p.length pc) rfl) ?_
  refine JL.op rfl (JO.call [] Tryz.call157 rfl (D_new pa pc p (by omega)) rfl (fun w hw => hw.seeOut_ hs_pa (fun _ _ => List.not_mem_nil))) ?_
  rintro _ _ ⟨_, ⟨c_1, qs_2, -, rfl, rfl⟩, rfl⟩
  refine JL.pure rfl (PO.assign (v := .pointer (some ⟨c_1, 0, none⟩)) rfl) ?_
  refine JL.nil ?_
  refine JQ.seq ?_
  refine JC.seq ?_
  refine JC.region ?_
  refine JL.op rfl (JO.buildSlice (ps := []) (cur := #[]) Tryz.underlying70 Tryz.sizeOf3 Tryz.zeroValue3 rfl (by kernel_rfl) (by decide) (by decide)) ?_
  rintro _ _ ⟨a_4, rfl, rfl⟩
  refine JL.pure rfl (PO.assign (v := .slice a_4 0 0) rfl) ?_
  refine JL.nil ?_
  refine JQ.seq ?_
  refine JC.seq ?_
  refine JC.seq ?_
  refine JC.region ?_
  refine JL.pure rfl (PO.assign (v := .int .i64 0) rfl) ?_
  refine JL.nil ?_
  refine JQ.seq ?_
  refine JC.block ?_
  refine JC.loop (fun k_ e_ L_ => ∃ i_ : Nat, ∃ p_q : Nat, ∃ s_q : Int, ∃ o_a : Option Addr, ∃ o_c : Nat, ∃ o_ : List Int, (p_q ≤ p.length) ∧ (i_ ≤ 12) ∧ (o_.length = i_) ∧ (∀ x ∈ o_, 0 ≤ x ∧ x ≤ 9999) ∧ e_ 2 = .slice none 0 0 ∧ e_ 3 = .pointer (some ⟨c_1, 0, none⟩) ∧ e_ 4 = .slice o_a o_.length o_c ∧ e_ 5 = .int .i64 ((i_ : Nat) : Int) ∧ L_ = [rI o_a o_c o_, cb c_1 pa pc p p_q s_q] ∧ k_ = 13 - i_) _ ⟨0, 0, qs_2, a_4, 0, ([] : List Int), (by omega), (by omega), (by rfl), (by simp), rfl, rfl, rfl, rfl, rfl, rfl⟩ ?_
  rintro _ e_5 _ ⟨i_, p_q, s_q, o_a, o_c, o_, hpq_, hi, hol, ho, he_6, he_7, he_8, he_9, rfl, rfl⟩
  refine JC.seq ?_
  refine JC.seq ?_
  refine JC.region ?_
  refine JL.pure rfl (PO.move (v := .int .i64 ((i_ : Nat) : Int)) he_9) ?_
  refine JL.pure rfl (PO.lss rfl rfl) ?_
  refine JL.nil ?_
  refine JQ.seq ?_
  by_cases h_10 : ((i_ : Nat) : Int) < 12
  · skip
    refine JC.condT (congrArg Value.bool (decide_eq_true h_10)) ?_
    refine JC.skip ?_
    refine JQ.seq ?_
    refine JC.seq ?_
    refine JC.block ?_
    refine JC.region ?_
    refine JL.pure rfl (PO.move (v := .slice o_a o_.length o_c) he_8) ?_
    refine JL.pure rfl (PO.move (v := .pointer (some ⟨c_1, 0, none⟩)) he_7) ?_
    refine JL.op rfl (JO.call [1] Tryz.call173 rfl (D_below c_1 pa pc p p_q s_q (by omega) (by omega) 10000 (by omega)) rfl (fun w hw => ⟨hw.seeOut_ hs_pa (fun _ _ => List.not_mem_nil), hw.apart hs_pa (fun _ _ => List.not_mem_nil) (by simp)⟩)) ?_
    rintro _ _ ⟨_, ⟨qp_11, qs_12, n_14, fq_13, f_15, rfl, rfl⟩, rfl⟩
    refine JL.op rfl (JO.buildSlice (ps := [(0, .int .i64 ((n_14 : Nat) : Int))]) (cur := #[.int .i64 ((n_14 : Nat) : Int)]) Tryz.underlying70 Tryz.sizeOf3 Tryz.zeroValue3 rfl (by kernel_rfl) (by decide) (by decide)) ?_
    rintro _ _ ⟨a_17, rfl, rfl⟩
    refine JL.op rfl (JO.append' 2 (q := 1) (news := ([((n_14 : Nat) : Int)] : List Int).map (Value.int .i64)) (n' := (o_ ++ ([((n_14 : Nat) : Int)] : List Int)).length) (cs' := (o_ ++ ([((n_14 : Nat) : Int)] : List Int)).map (Value.int .i64)) rfl Tryz.underlying70 Tryz.underlying70 Tryz.typeInfo3 rfl (by' := 8) rfl rfl rfl rfl rfl (fun w hw => Src.sees (hw.see (i := 0) rfl) (oneI _)) (by (try simp only [List.length_append, List.length_cons, List.length_nil, List.length_take, List.length_drop]); omega) (by (try simp only [List.length_append, List.length_cons, List.length_nil, List.length_take, List.length_drop]); omega) (by simp only [List.length_append, List.length_take, List.length_drop, List.length_cons, List.length_nil] <;> first | rfl | omega) (by simp only [List.map_append])) ?_
    rintro _ _ ⟨a_18, c_19, rfl, rfl⟩
    refine JL.pure rfl (PO.assign (v := .slice a_18 ((o_ ++ ([((n_14 : Nat) : Int)] : List Int)).length) c_19) rfl) ?_
    refine JL.nil ?_
    refine JQ.blockN ?_
    refine JQ.seq ?_
    refine JC.region ?_
    refine JL.pure rfl (PO.move (v := .int .i64 ((i_ : Nat) : Int)) he_9) ?_
    refine JL.pure rfl (PO.add (c := ((i_ + 1 : Nat) : Int)) rfl rfl (wr (by omega))) ?_
    refine JL.pure rfl (PO.assign (v := .int .i64 ((i_ + 1 : Nat) : Int)) rfl) ?_
    refine JL.nil ?_
    refine JQ.pick [2, 1] (A := [rI a_18 c_19 (o_ ++ ([((n_14 : Nat) : Int)] : List Int)), cb c_1 pa pc p qp_11 qs_12]) rfl ?_
    refine JQ.again (13 - (i_ + 1)) (by omega) ⟨(i_ + 1), qp_11, qs_12, a_18, c_19, (o_ ++ ([((n_14 : Nat) : Int)] : List Int)), (by omega), (by omega), (by first | omega | (simp only [List.length_append, List.length_cons, List.length_nil, List.length_set]; omega)), (fun x hx => by rcases List.mem_append.1 hx with hx | hx; exact ho x hx; simp only [List.mem_cons, List.not_mem_nil, or_false] at hx; subst hx; omega), he_6, he_7, rfl, rfl, rfl, rfl⟩
  · skip
    refine JC.condF (congrArg Value.bool (decide_eq_false h_10)) ?_
    refine JC.exit ?_
    refine JQ.thenExit ?_
    refine JQ.thenExit ?_
    refine JQ.blockE ?_
    refine JQ.seq ?_
    refine JC.seq ?_
    refine JC.region ?_
    refine JL.pure rfl (PO.move (v := .slice o_a o_.length o_c) he_8) ?_
    refine JL.pure rfl (PO.assign (v := .slice o_a o_.length o_c) rfl) ?_
    refine JL.nil ?_
    refine JQ.seq ?_
    refine JC.ret ?_
    refine Done.one (.inl rfl) rfl (RV.tmp (v := .slice o_a o_.length o_c) rfl) (List.sublist_append_left [rI o_a o_c o_] [cb c_1 pa pc p p_q s_q]) ?_
    exact ⟨o_a, o_c, o_, ⟨by omega, by assumption⟩, rfl, rfl⟩

end Go.Proofs.YtenfajgpdhgknaaGreatDoor
