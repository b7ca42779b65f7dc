/-
  What the laws on names, files, processes, signals say of machines, in plain words. No program in sight.
-/
import Derived.Test.YtenfajgpdhgknaaGreatDoorDatG
import Derived.Test.YtenfajgpdhgknaaGreatDoorDatF
set_option linter.unusedSimpArgs false
set_option linter.unusedVariables false
set_option linter.unnecessarySimpa false
namespace Go.Proofs.YtenfajgpdhgknaaGreatDoor
open Go Go.RowKit

theorem unhexL_hexB' : ∀ r : Str, unhexL (hexB r) = some r
  | [] => rfl
  | c :: r => by
    have hc := UInt8.toNat_lt c
    have hv : ∀ n : Fin 16, hexVal (hexFig n.val) = some n.val := by decide +kernel
    rw [hexB, unhexL, hv ⟨c.toNat / 16, by omega⟩, hv ⟨c.toNat % 16, by omega⟩, unhexL_hexB' r]
    simp only
    rw [show 16 * (c.toNat / 16) + c.toNat % 16 = c.toNat by omega, UInt8.ofNat_toNat]
theorem getKey_mid_ne {key k2 val : Str} (h : ¬ key = k2) : ∀ (a b : List Cell), getKey (a ++ (key, val) :: b) k2 = getKey (a ++ b) k2
  | [], b => by rw [List.nil_append, List.nil_append, getKey, if_neg h]
  | c :: a, b => by
    rw [List.cons_append, List.cons_append, getKey, getKey, getKey_mid_ne h a b]
theorem getKey_filter_ne {key k2 : Str} (h : ¬ key = k2) : ∀ s : List Cell, getKey (s.filter (fun c => !decide (c.1 = key))) k2 = getKey s k2
  | [] => rfl
  | c :: s => by
    by_cases hc : c.1 = key
    · rw [List.filter_cons_of_neg (by simp [hc]), getKey_filter_ne h s, getKey, if_neg (by rw [hc]; exact h)]
    · rw [List.filter_cons_of_pos (by simp [hc]), getKey, getKey, getKey_filter_ne h s]
theorem getKey_put_ne {s : List Cell} {key k2 val : Str} (h : ¬ key = k2) : getKey (putKey s key val) k2 = getKey s k2 := by
  unfold putKey
  split
  · rfl
  · simp only
    split
    · exact getKey_filter_ne h s
    · unfold insertAt
      rw [getKey_mid_ne h, List.take_append_drop, getKey_filter_ne h s]
theorem getKey_absent {key : Str} : ∀ {s : List Cell}, (∀ c ∈ s, ¬ c.1 = key) → getKey s key = []
  | [], _ => rfl
  | c :: s, h => by rw [getKey, if_neg (h c (List.mem_cons_self ..)), getKey_absent fun d hd => h d (List.mem_cons_of_mem _ hd)]
theorem getKey_put_nil {s : List Cell} {key : Str} (hk : keyOk key = true) : getKey (putKey s key []) key = [] := by
  rw [putKey_nil hk (by simp) rfl]
  exact getKey_absent fun c hc => by simpa using (List.mem_filter.1 hc).2
theorem numOf_nil : numOf [] = 0 := by decide +kernel
theorem numKey {m m2 : MS} {key : Str} {n : Int} (e : m.num key = (m2, n)) : m2.s = m.s ∧ n = numOf (getKey m.s key) := by
  exact ⟨(show m.s = m2.s from congrArg (fun p => p.1.s) e).symm, (congrArg Prod.snd e).symm⟩
theorem setNum_s {m : MS} {key : Str} {n : Int} (h0 : 1 ≤ n) (h1 : n ≤ 999) : (m.setNum key n).s = putKey m.s key (dec n) := by
  show putKey m.s key _ = _
  rw [if_pos ⟨h0, h1⟩]
theorem getNum_put {s : List Cell} {key : Str} {n : Int} (hk : keyOk key = true) (h0 : 1 ≤ n) (h1 : n ≤ 999) : numOf (getKey (putKey s key (dec n)) key) = n := by
  obtain ⟨hn, hne⟩ := numOf_dec h0 h1
  have hl := dec_len21 (n := n) (by omega) (by omega)
  rw [getKey_put hk hne (by omega), hn]

/- names -/
theorem nameByte_key {c : UInt8} (h : nameByte c = true) : keyByte c = true := by
  unfold nameByte at h
  unfold keyByte
  simp only [Bool.or_eq_true, Bool.and_eq_true, decide_eq_true_eq, Bool.not_eq_true', decide_eq_false_iff_not] at h ⊢
  omega
theorem keyOk_name {name : Str} (h : nameOk name = true) : keyOk (([110, 47] : Str) ++ name) = true := by
  unfold nameOk at h
  simp only [Bool.and_eq_true, decide_eq_true_eq, List.all_eq_true] at h
  unfold keyOk
  simp only [Bool.and_eq_true, decide_eq_true_eq, List.all_eq_true, List.length_append, List.length_cons, List.length_nil]
  refine ⟨⟨fun x hx => ?_, by omega⟩, by omega⟩
  rcases List.mem_append.1 hx with hx | hx
  · simp only [List.mem_cons, List.not_mem_nil, or_false] at hx
    rcases hx with rfl | rfl <;> decide
  · exact nameByte_key (h.1.1 x hx)
theorem name_ne {name t : Str} {id : Int} : ¬ keyNum ([105, 47] : Str) id t = ([110, 47] : Str) ++ name := by
  unfold keyNum
  simp
theorem name_ne' {name t : Str} {id : Int} : ¬ ([110, 47] : Str) ++ name = keyNum ([105, 47] : Str) id t := fun h => name_ne h.symm
theorem fileOf_eq {m m2 : MS} {name : Str} {f : Int} (e : m.fileOf name = (m2, f)) : m2.s = m.s ∧ (nameOk name = true → f = numOf (getKey m.s (([110, 47] : Str) ++ name))) ∧ (nameOk name = false → f = 0) ∧ 0 ≤ f ∧ f ≤ 999 := by
  unfold MS.fileOf at e
  split at e
  · rename_i h
    obtain ⟨h1, h2⟩ := numKey e
    have := numOf_lo (getKey m.s (([110, 47] : Str) ++ name))
    exact ⟨h1, fun _ => h2, fun h0 => absurd (h0.symm.trans h) (by simp), by omega, by omega⟩
  · rename_i h
    simp only [Prod.mk.injEq] at e
    exact ⟨by rw [← e.1], fun h0 => absurd h0 h, fun _ => e.2.symm, by omega, by omega⟩
theorem makeName_cases {m x : MS} {name : Str} {id n : Int} (e : m.makeName name = (x, id, n)) :
    (n ≠ 0 ∧ id = 0 ∧ x.s = m.s) ∨ (n = 0 ∧ nameOk name = true ∧ 1 ≤ id ∧ id ≤ 20 ∧ x.s = putKey (putKey (putKey m.s ([99, 47, 102, 105, 108, 101] : Str) (dec id)) (([110, 47] : Str) ++ name) (dec id)) (keyNum ([105, 47] : Str) id ([47, 108] : Str)) (dec 1)) := by
  unfold MS.makeName at e
  split at e
  · rename_i hn
    rcases hf : m.fileOf name with ⟨m1, f⟩
    rw [hf] at e
    obtain ⟨hs1, -, -, -, -⟩ := fileOf_eq hf
    simp only at e
    split at e
    · rcases hq : m1.num ([99, 47, 102, 105, 108, 101] : Str) with ⟨m2, q⟩
      rw [hq] at e
      obtain ⟨hs2, hq2⟩ := numKey hq
      have hq3 := numOf_lo (getKey m1.s ([99, 47, 102, 105, 108, 101] : Str))
      simp only at e
      split at e
      · simp only [Prod.mk.injEq] at e
        obtain ⟨rfl, rfl, rfl⟩ := e
        exact .inl ⟨by decide, rfl, hs2.trans hs1⟩
      · rcases hb : m2.bump ([99, 47, 102, 105, 108, 101] : Str) with ⟨m3, i⟩
        rw [hb] at e
        simp only [Prod.mk.injEq] at e
        obtain ⟨rfl, rfl, rfl⟩ := e
        unfold MS.bump at hb
        rcases hr : m2.num ([99, 47, 102, 105, 108, 101] : Str) with ⟨m4, r⟩
        obtain ⟨hs4, hr2⟩ := numKey hr
        rw [hs2] at hr2
        rw [hr] at hb
        simp only at hb
        rw [if_neg (by omega)] at hb
        simp only [Prod.mk.injEq] at hb
        obtain ⟨rfl, rfl⟩ := hb
        refine .inr ⟨rfl, hn, by omega, by omega, ?_⟩
        rw [setNum_s (by omega) (by omega), setNum_s (by omega) (by omega), setNum_s (by omega) (by omega), hs4, hs2, hs1]
    · simp only [Prod.mk.injEq] at e
      obtain ⟨rfl, rfl, rfl⟩ := e
      exact .inl ⟨by decide, rfl, hs1⟩
  · simp only [Prod.mk.injEq] at e
    obtain ⟨rfl, rfl, rfl⟩ := e
    exact .inl ⟨by decide, rfl, rfl⟩
theorem pl_make_no {m x : MS} {name : Str} {id n : Int} (e : m.makeName name = (x, id, n)) (h : ¬ n = 0) : id = 0 ∧ x.s = m.s := by
  rcases makeName_cases e with ⟨_, h1, h2⟩ | ⟨h1, _⟩
  · exact ⟨h1, h2⟩
  · exact absurd h1 h
theorem pl_make_yes {m x y z : MS} {name : Str} {id n f a b : Int} (e : m.makeName name = (x, id, n)) (h : n = 0) (ef : x.fileOf name = (y, f)) (em : x.makeName name = (z, a, b)) : f = id ∧ b = 1 := by
  rcases makeName_cases e with ⟨h1, _⟩ | ⟨_, hn, h1, h2, hs⟩
  · exact absurd h h1
  · have hk := keyOk_name hn
    obtain ⟨-, hf, -, -, -⟩ := fileOf_eq ef
    have hf1 : f = id := by
      rw [hf hn, hs, getKey_put_ne name_ne, getNum_put hk h1 (by omega)]
    refine ⟨hf1, ?_⟩
    unfold MS.makeName at em
    rw [if_pos hn, ef] at em
    simp only at em
    rw [if_neg (by omega)] at em
    simp only [Prod.mk.injEq] at em
    exact em.2.2.symm
theorem pl_make_base {b c d : MS} {one two x y : Int} (e0 : MS.empty = b) (e1 : b.makeName ([120] : Str) = (c, one, x)) (e2 : c.makeName ([121] : Str) = (d, two, y)) : one = 1 ∧ two = 2 := by
  subst e0
  have h1 : (MS.makeName MS.empty ([120] : Str)).2.1 = 1 := by decide +kernel
  have h2 : ((MS.makeName MS.empty ([120] : Str)).1.makeName ([121] : Str)).2.1 = 2 := by decide +kernel
  rw [e1] at h1 h2
  rw [show (c, one, x).1 = c from rfl, e2] at h2
  exact ⟨h1, h2⟩

theorem linkName_cases {m x : MS} {p q : Str} {n : Int} (e : m.linkName p q = (x, n)) :
    n ≠ 0 ∨ (n = 0 ∧ nameOk p = true ∧ nameOk q = true ∧ ∃ (id : Int) (v : Str), 1 ≤ id ∧ id ≤ 999 ∧ id = numOf (getKey m.s (([110, 47] : Str) ++ p)) ∧ x.s = putKey (putKey m.s (([110, 47] : Str) ++ q) (dec id)) (keyNum ([105, 47] : Str) id ([47, 108] : Str)) v) := by
  unfold MS.linkName at e
  split at e
  · rename_i hp
    split at e
    · rename_i hq
      rcases hf : m.fileOf p with ⟨m1, f⟩
      rw [hf] at e
      obtain ⟨hs1, hf1, -, hf2, hf3⟩ := fileOf_eq hf
      simp only at e
      split at e
      · simp only [Prod.mk.injEq] at e; exact .inl (by omega)
      · rcases hg : m1.fileOf q with ⟨m2, g⟩
        rw [hg] at e
        obtain ⟨hs2, -, -, -, -⟩ := fileOf_eq hg
        simp only at e
        split at e
        · rcases hl : m2.num (keyNum ([105, 47] : Str) f ([47, 108] : Str)) with ⟨m3, l⟩
          rw [hl] at e
          obtain ⟨hs3, hl3⟩ := numKey hl
          simp only at e
          split at e
          · simp only [Prod.mk.injEq] at e; exact .inl (by omega)
          · simp only [Prod.mk.injEq] at e
            obtain ⟨rfl, rfl⟩ := e
            refine .inr ⟨rfl, hp, hq, f, (if 1 ≤ l + 1 ∧ l + 1 ≤ 999 then dec (l + 1) else []), by omega, by omega, hf1 hp, ?_⟩
            show putKey (MS.setNum m3 _ f).s _ _ = _
            rw [setNum_s (by omega) (by omega), hs3, hs2, hs1]
        · simp only [Prod.mk.injEq] at e; exact .inl (by omega)
    · simp only [Prod.mk.injEq] at e; exact .inl (by omega)
  · simp only [Prod.mk.injEq] at e; exact .inl (by omega)
theorem pl_link {m x y z : MS} {p q : Str} {n i w : Int} (e : m.linkName p q = (x, n)) (e1 : x.fileOf q = (y, i)) (e2 : m.fileOf p = (z, w)) : n ≠ 0 ∨ i = w := by
  rcases linkName_cases e with h | ⟨_, hp, hq, id, v, h1, h2, h3, hs⟩
  · exact .inl h
  · right
    obtain ⟨-, hi, -, -, -⟩ := fileOf_eq e1
    obtain ⟨-, hw, -, -, -⟩ := fileOf_eq e2
    rw [hi hq, hs, getKey_put_ne name_ne, getNum_put (keyOk_name hq) h1 h2, hw hp, h3]
theorem wipeL_s {p : Str} : ∀ (l : List Str) (m : MS) (k : Str), (∀ x ∈ l, ¬ x = k) → getKey (MS.wipeL l m).s k = getKey m.s k
  | [], m, k, _ => rfl
  | x :: l, m, k, h => by
    rw [MS.wipeL, wipeL_s (p := p) l _ k fun y hy => h y (List.mem_cons_of_mem _ hy)]
    exact getKey_put_ne (h x (List.mem_cons_self ..))
theorem wipe_s {m : MS} {p k : Str} (h : prefixB k p = false) : getKey (m.wipe' p).s k = getKey m.s k := by
  unfold MS.wipe'
  show getKey (MS.wipeL (keysUnder m.s p) (m.under p).1).s k = _
  rw [wipeL_s (p := p)]
  · rfl
  · intro x hx hxk
    subst hxk
    unfold keysUnder at hx
    obtain ⟨c, hc, rfl⟩ := List.mem_map.1 hx
    rw [(List.mem_filter.1 hc).2] at h
    cases h
theorem unlink_cases {m x : MS} {name : Str} {n : Int} (e : m.unlinkName name = (x, n)) : (n ≠ 0 ∧ x.s = m.s) ∨ (n = 0 ∧ ∀ k : Str, (∀ t id, ¬ keyNum ([105, 47] : Str) id t = k) → prefixB k ([105, 47] : Str) = false → getKey x.s k = getKey (putKey m.s (([110, 47] : Str) ++ name) []) k) := by
  unfold MS.unlinkName at e
  split at e
  · rename_i hp
    rcases hf : m.fileOf name with ⟨m1, f⟩
    rw [hf] at e
    obtain ⟨hs1, hf1, -, hf2, hf3⟩ := fileOf_eq hf
    simp only at e
    split at e
    · simp only [Prod.mk.injEq] at e
      obtain ⟨rfl, rfl⟩ := e
      exact .inl ⟨by decide, hs1⟩
    · rcases hl : (m1.lay (([110, 47] : Str) ++ name) []).num (keyNum ([105, 47] : Str) f ([47, 108] : Str)) with ⟨m3, l⟩
      rw [hl] at e
      obtain ⟨hs3, hl3⟩ := numKey hl
      simp only at e
      split at e
      · simp only [Prod.mk.injEq] at e
        obtain ⟨rfl, rfl⟩ := e
        refine .inr ⟨rfl, fun k hk hk2 => ?_⟩
        show getKey (putKey m3.s _ _) k = _
        rw [getKey_put_ne (hk _ _), hs3]
        show getKey (putKey m1.s _ _) k = _
        rw [hs1]
      · simp only [Prod.mk.injEq] at e
        obtain ⟨rfl, rfl⟩ := e
        refine .inr ⟨rfl, fun k hk hk2 => ?_⟩
        rw [wipe_s, hs3]
        · show getKey (putKey m1.s _ _) k = _
          rw [hs1]
        · cases hpk : prefixB k (keyNum ([105, 47] : Str) f ([47] : Str)) with
          | false => rfl
          | true =>
            exfalso
            unfold prefixB at hpk hk2
            simp only [Bool.and_eq_true, decide_eq_true_eq, Bool.and_eq_false_iff, decide_eq_false_iff_not] at hpk hk2
            obtain ⟨ha, hb⟩ := hpk
            have hlen : 2 ≤ (keyNum ([105, 47] : Str) f ([47] : Str)).length := by unfold keyNum; simp only [List.length_append, List.length_cons, List.length_nil]; omega
            rcases hk2 with hk2 | hk2
            · simp only [List.length_cons, List.length_nil] at hk2; omega
            · apply hk2
              have h3 : (k.take (keyNum ([105, 47] : Str) f ([47] : Str)).length).take 2 = k.take 2 := by rw [List.take_take, Nat.min_eq_left hlen]
              show k.take 2 = _
              rw [← h3, hb]
              unfold keyNum
              rfl
  · simp only [Prod.mk.injEq] at e
    obtain ⟨rfl, rfl⟩ := e
    exact .inl ⟨by decide, rfl⟩
theorem pl_unlink {m x : MS} {name : Str} {n : Int} (e : m.unlinkName name = (x, n)) : n = 0 ∨ x.s = m.s := by
  rcases unlink_cases e with ⟨_, h⟩ | ⟨h, _⟩
  · exact .inr h
  · exact .inl h
theorem pl_link_base {b m1 m2 m3 m4 y : MS} {id x n2 n3 n4 other : Int} {g : List Str} (e0 : MS.empty = b) (e1 : b.makeName ([120] : Str) = (m1, id, x)) (e2 : m1.linkName ([120] : Str) ([121] : Str) = (m2, n2)) (e3 : m2.unlinkName ([120] : Str) = (m3, n3))
    (e4 : m3.fileOf ([121] : Str) = (y, other)) (e5 : m3.unlinkName ([121] : Str) = (m4, n4)) (e6 : keysUnder m4.s ([105, 47] : Str) = g) : other = id ∧ id = 1 ∧ g.length = 0 := by
  subst e0
  have h1 : (MS.makeName MS.empty ([120] : Str)).2.1 = 1 := by decide +kernel
  have h2 : ((((MS.makeName MS.empty ([120] : Str)).1.linkName ([120] : Str) ([121] : Str)).1.unlinkName ([120] : Str)).1.fileOf ([121] : Str)).2 = 1 := by decide +kernel
  have h3 : (keysUnder ((((MS.makeName MS.empty ([120] : Str)).1.linkName ([120] : Str) ([121] : Str)).1.unlinkName ([120] : Str)).1.unlinkName ([121] : Str)).1.s ([105, 47] : Str)).length = 0 := by decide +kernel
  simp only [e1, e2, e3, e4, e5, e6] at h1 h2 h3
  exact ⟨by omega, h1, h3⟩
theorem n_nopre (name : Str) : prefixB (([110, 47] : Str) ++ name) ([105, 47] : Str) = false := by
  unfold prefixB
  simp
theorem name_inj {a b : Str} (h : ¬ a = b) : ¬ ([110, 47] : Str) ++ a = ([110, 47] : Str) ++ b := by simpa using h
theorem pl_rename {m x y1 y2 y3 y4 : MS} {p q : Str} {n old was now left : Int} (e : m.renameName p q = (x, n)) (e1 : m.fileOf p = (y1, old)) (e2 : m.fileOf q = (y2, was)) (e3 : x.fileOf q = (y3, now)) (e4 : x.fileOf p = (y4, left)) :
    n ≠ 0 ∨ (now = old ∧ (left = 0 ∨ was = old)) := by
  unfold MS.renameName at e
  split at e
  · rename_i hp
    split at e
    · rename_i hq
      rw [e1] at e
      obtain ⟨hs1, hf1, -, hf2, hf3⟩ := fileOf_eq e1
      obtain ⟨-, hw1, -, hw2, hw3⟩ := fileOf_eq e2
      obtain ⟨-, hn1, -, -, -⟩ := fileOf_eq e3
      obtain ⟨-, hl1, -, -, -⟩ := fileOf_eq e4
      simp only at e
      split at e
      · simp only [Prod.mk.injEq] at e; exact .inl (by omega)
      · rcases hg : y1.fileOf q with ⟨m2, g⟩
        rw [hg] at e
        obtain ⟨hs2, hg1, -, -, -⟩ := fileOf_eq hg
        have hgw : g = was := by rw [hg1 hq, hs1, ← hw1 hq]
        simp only at e
        split at e
        · simp only [Prod.mk.injEq] at e
          obtain ⟨rfl, rfl⟩ := e
          right
          exact ⟨by rw [hn1 hq, hs2, hs1, ← hw1 hq]; omega, .inr (by omega)⟩
        · rename_i hgo
          have hpq : ¬ p = q := fun h => by subst h; exact hgo (by rw [hgw, hw1 hp, ← hf1 hp])
          have fin : ∀ m3 : MS, x.s = putKey (putKey m3.s (([110, 47] : Str) ++ q) (dec old)) (([110, 47] : Str) ++ p) [] → now = old ∧ left = 0 := fun m3 hx => by
            refine ⟨?_, ?_⟩
            · rw [hn1 hq, hx, getKey_put_ne (name_inj hpq), getNum_put (keyOk_name hq) (by omega) (by omega)]
            · rw [hl1 hp, hx, getKey_put_nil (keyOk_name hp), numOf_nil]
          split at e
          · simp only [Prod.mk.injEq] at e
            obtain ⟨rfl, rfl⟩ := e
            obtain ⟨h1, h2⟩ := fin m2 (by show putKey (MS.setNum m2 _ old).s _ _ = _; rw [setNum_s (by omega) (by omega)])
            exact .inr ⟨h1, .inl h2⟩
          · rcases hu : m2.unlinkName q with ⟨m3, u⟩
            rw [hu] at e
            simp only [Prod.mk.injEq] at e
            obtain ⟨rfl, rfl⟩ := e
            obtain ⟨h1, h2⟩ := fin m3 (by show putKey (MS.setNum m3 _ old).s _ _ = _; rw [setNum_s (by omega) (by omega)])
            exact .inr ⟨h1, .inl h2⟩
    · simp only [Prod.mk.injEq] at e; exact .inl (by omega)
  · simp only [Prod.mk.injEq] at e; exact .inl (by omega)
theorem pl_rename_base {b m1 m2 m3 : MS} {id x n2 : Int} {g : List Str} (e0 : MS.empty = b) (e1 : b.makeName ([120] : Str) = (m1, id, x)) (e2 : m1.renameName ([120] : Str) ([121] : Str) = (m2, n2)) (e3 : m2.names = (m3, g)) : g = [([121] : Str)] ∧ id = 1 := by
  subst e0
  have h1 : (MS.makeName MS.empty ([120] : Str)).2.1 = 1 := by decide +kernel
  have h2 : ((MS.makeName MS.empty ([120] : Str)).1.renameName ([120] : Str) ([121] : Str)).1.names.2 = [([121] : Str)] := by decide +kernel
  simp only [e1, e2, e3] at h1 h2
  exact ⟨h2, h1⟩

/- processes -/
theorem procsF : ∀ k : Fin 101, let a := (MS.spawn MS.empty 0); let b := a.1.spawn a.2.1; let c := b.1.endProc b.2.1 ((k.val : Nat) : Int); let d := c.1.reap a.2.1 b.2.1
    a.2.1 = 1 ∧ (b.1.kids a.2.1).2 = [2] ∧ d.2.1 = ((k.val : Nat) : Int) ∧ d.2.2 = 0 ∧ (d.1.reap a.2.1 b.2.1).2.2 = 2 := by decide +kernel
theorem pl_procs {m0 m1 m2 m3 m4 m5 m6 : MS} {a1 a2 b1 b2 c t ok u v k : Int} {l : List Int} (e0 : MS.empty = m0) (h0 : 0 ≤ k) (h1 : k ≤ 100) (e1 : m0.spawn 0 = (m1, a1, a2)) (e2 : m1.spawn a1 = (m2, b1, b2)) (e3 : m2.kids a1 = (m6, l)) (e4 : m2.endProc b1 k = (m3, c))
    (e5 : m3.reap a1 b1 = (m4, t, ok)) (e6 : m4.reap a1 b1 = (m5, u, v)) : a1 = 1 ∧ l = [2] ∧ t = k ∧ ok = 0 ∧ v = 2 := by
  subst e0
  have h := procsF ⟨k.toNat, by omega⟩
  simp only [Int.toNat_of_nonneg h0, e1, e2, e3, e4, e5, e6] at h
  exact h
/- signals -/
theorem signalsF : ∀ k : Fin 50, let a := (MS.spawn MS.empty 0); let w := 1 + ((k.val : Nat) : Int); let b := a.1.setTimer 1 w; let c := b.1.tick w; let d := c.1.takeSignal 1
    c.2.1 = 1 ∧ d.2.1 = 14 ∧ d.2.2 = 0 ∧ (c.1.tick 5).2.1 = 0 ∧ (1 < w → ((b.1.tick (w - 1)).1.takeSignal 1).2.2 = 5) := by decide +kernel
theorem pl_signals {m0 m1 m2 m3 m4 m5 : MS} {a1 a2 b1 none c1 sig ok tw d k : Int} (e0 : MS.empty = m0) (h0 : 1 ≤ k) (h1 : k ≤ 50) (e1 : m0.spawn 0 = (m1, a1, a2)) (e2 : m1.setTimer 1 k = (m2, b1)) (e3 : m2.tick k = (m3, none, c1)) (e4 : m3.takeSignal 1 = (m4, sig, ok)) (e5 : m3.tick 5 = (m5, tw, d)) :
    none = 1 ∧ sig = 14 ∧ ok = 0 ∧ tw = 0 := by
  subst e0
  have h := signalsF ⟨(k - 1).toNat, by omega⟩
  simp only [Int.toNat_of_nonneg (show 0 ≤ k - 1 by omega), show 1 + (k - 1) = k by omega, e1, e2, e3, e4, e5] at h
  exact ⟨h.1, h.2.1, h.2.2.1, h.2.2.2.1⟩
theorem pl_signals_early {m0 m1 m2 m6 m7 : MS} {a1 a2 b1 x y u v k : Int} (e0 : MS.empty = m0) (h0 : 1 < k) (h1 : k ≤ 50) (e1 : m0.spawn 0 = (m1, a1, a2)) (e2 : m1.setTimer 1 k = (m2, b1)) (e6 : m2.tick (k - 1) = (m6, x, y)) (e7 : m6.takeSignal 1 = (m7, u, v)) : v = 5 := by
  subst e0
  have h := signalsF ⟨(k - 1).toNat, by omega⟩
  simp only [Int.toNat_of_nonneg (show 0 ≤ k - 1 by omega), show 1 + (k - 1) = k by omega, e1, e2, e6, e7] at h
  exact h.2.2.2.2 h0
/- files -/
theorem pl_write {m x : MS} {id at_ n : Int} {text : Str} (e : m.writeFile id at_ text = (x, n)) : n = 0 ∨ x.s = m.s := by
  unfold MS.writeFile at e
  rcases hz : m.sizeOf id with ⟨m1, z⟩
  obtain ⟨h1, -⟩ := numKey hz
  rw [hz] at e
  simp only at e
  split at e
  · simp only [Prod.mk.injEq] at e; exact .inr (by rw [← e.1, h1])
  · split at e
    · simp only [Prod.mk.injEq] at e; exact .inr (by rw [← e.1, h1])
    · split at e <;> (simp only [Prod.mk.injEq] at e; exact .inl e.2.symm)
def hello : Str := ([104, 101, 108, 108, 111, 32, 119, 111, 114, 108, 100] : Str)
def hellw : Str := ([104, 101, 108, 108, 111, 32, 119, 48, 114, 108, 100] : Str)
theorem bytesF : (MS.writeFile MS.empty 1 0 hello).2 = 0 ∧ ((MS.writeFile MS.empty 1 0 hello).1.writeFile 1 6 ([119, 48] : Str)).2 = 0 ∧ (((MS.writeFile MS.empty 1 0 hello).1.writeFile 1 6 ([119, 48] : Str)).1.readFile 1 0 999).2 = hellw := by decide +kernel
theorem partF : ∀ i j : Fin 12, (((MS.writeFile MS.empty 1 0 hello).1.writeFile 1 6 ([119, 48] : Str)).1.readFile 1 ((i.val : Nat) : Int) ((1 + j.val : Nat) : Int)).2 = if i.val < 11 then (hellw.drop i.val).take (min (i.val + (1 + j.val)) 11 - i.val) else [] := by decide +kernel
theorem pl_bytes {b m1 m2 m3 : MS} {x y : Int} {all : Str} (e0 : MS.empty = b) (e1 : b.writeFile 1 0 ([104, 101, 108, 108, 111, 32, 119, 111, 114, 108, 100] : Str) = (m1, x)) (e2 : m1.writeFile 1 6 ([119, 48] : Str) = (m2, y)) (e3 : m2.readFile 1 0 999 = (m3, all)) : x = 0 ∧ y = 0 ∧ all = ([104, 101, 108, 108, 111, 32, 119, 48, 114, 108, 100] : Str) := by
  subst e0
  have h := bytesF
  unfold hello hellw at h
  simp only [e1, e2, e3] at h
  exact h
theorem pl_part_out {b m1 m2 m4 : MS} {x y : Int} {p : Str} {i j : Nat} (e0 : MS.empty = b) (e1 : b.writeFile 1 0 ([104, 101, 108, 108, 111, 32, 119, 111, 114, 108, 100] : Str) = (m1, x)) (e2 : m1.writeFile 1 6 ([119, 48] : Str) = (m2, y)) (e4 : m2.readFile 1 ((i % 12 : Nat) : Int) ((1 + j % 12 : Nat) : Int) = (m4, p)) (h : ¬ i % 12 < 11) : p = [] := by
  subst e0
  have h1 := partF ⟨i % 12, Nat.mod_lt _ (by decide)⟩ ⟨j % 12, Nat.mod_lt _ (by decide)⟩
  unfold hello at h1
  simp only [e1, e2, e4, if_neg h] at h1
  exact h1
theorem pl_part_in {b m1 m2 m4 : MS} {x y : Int} {p : Str} {i j E : Nat} (e0 : MS.empty = b) (e1 : b.writeFile 1 0 ([104, 101, 108, 108, 111, 32, 119, 111, 114, 108, 100] : Str) = (m1, x)) (e2 : m1.writeFile 1 6 ([119, 48] : Str) = (m2, y)) (e4 : m2.readFile 1 ((i % 12 : Nat) : Int) ((1 + j % 12 : Nat) : Int) = (m4, p)) (h : i % 12 < 11) (hE : E = min (i % 12 + (1 + j % 12)) 11) :
    p = ((([104, 101, 108, 108, 111, 32, 119, 48, 114, 108, 100] : Str)).drop (i % 12)).take (E - i % 12) := by
  subst e0 hE
  have h1 := partF ⟨i % 12, Nat.mod_lt _ (by decide)⟩ ⟨j % 12, Nat.mod_lt _ (by decide)⟩
  unfold hello hellw at h1
  simp only [e1, e2, e4, if_pos h] at h1
  exact h1
theorem cutF : ((MS.writeFile MS.empty 1 0 hello).1.cutFile 1 9).2 = 0 ∧ (((MS.writeFile MS.empty 1 0 hello).1.cutFile 1 9).1.readFile 1 0 999).2 = ([104, 101, 108, 108, 111, 32, 119, 111, 114] : Str) ∧ (keysUnder ((MS.writeFile MS.empty 1 0 hello).1.cutFile 1 9).1.s ([105, 47, 49, 47, 98, 47] : Str)).length = 2 := by decide +kernel
theorem pl_cut0 {b m1 m2 m3 : MS} {x y : Int} {left : Str} (e0 : MS.empty = b) (e1 : b.writeFile 1 0 ([104, 101, 108, 108, 111, 32, 119, 111, 114, 108, 100] : Str) = (m1, x)) (e2 : m1.cutFile 1 9 = (m2, y)) (e3 : m2.readFile 1 0 999 = (m3, left)) : y = 0 ∧ left = ([104, 101, 108, 108, 111, 32, 119, 111, 114] : Str) := by
  subst e0
  have h := cutF
  unfold hello at h
  simp only [e1, e2, e3] at h
  exact ⟨h.1, h.2.1⟩
theorem pl_cut {b m1 m2 m3 : MS} {x y : Int} {left : Str} {g : List Str} (e0 : MS.empty = b) (e1 : b.writeFile 1 0 ([104, 101, 108, 108, 111, 32, 119, 111, 114, 108, 100] : Str) = (m1, x)) (e2 : m1.cutFile 1 9 = (m2, y)) (e3 : m2.readFile 1 0 999 = (m3, left)) (e4 : keysUnder m2.s ([105, 47, 49, 47, 98, 47] : Str) = g) : y = 0 ∧ left = ([104, 101, 108, 108, 111, 32, 119, 111, 114] : Str) ∧ g.length = 2 := by
  subst e0
  have h := cutF
  unfold hello at h
  simp only [e1, e2, e3, e4] at h
  exact h

/- pipes -/
def qk (i : Nat) : Str := keyNum (keyNum ([112, 47] : Str) 1 ([47, 113, 47] : Str)) ((i : Nat) : Int) []
def pk (t : Str) : Str := keyNum ([112, 47] : Str) 1 t
theorem qkF : ∀ i : Fin 10, keyOk (qk i.val) = true ∧ ¬ qk i.val = pk ([47, 111] : Str) ∧ ¬ qk i.val = pk ([47, 104] : Str) ∧ ¬ qk i.val = pk ([47, 116] : Str) := by decide +kernel
theorem qkI : ∀ i j : Fin 10, ¬ i.val = j.val → ¬ qk i.val = qk j.val := by decide +kernel
theorem pkF : keyOk (pk ([47, 111] : Str)) = true ∧ keyOk (pk ([47, 104] : Str)) = true ∧ keyOk (pk ([47, 116] : Str)) = true ∧ ¬ pk ([47, 111] : Str) = pk ([47, 104] : Str) ∧ ¬ pk ([47, 111] : Str) = pk ([47, 116] : Str) ∧ ¬ pk ([47, 104] : Str) = pk ([47, 116] : Str) := by decide +kernel
structure PS (s : List Cell) (h t : Nat) (f : Nat → Str) : Prop where
  fo : numOf (getKey s (pk ([47, 111] : Str))) = 1
  fh : numOf (getKey s (pk ([47, 104] : Str))) = ((h : Nat) : Int)
  ft : numOf (getKey s (pk ([47, 116] : Str))) = ((t : Nat) : Int)
  fq : ∀ i, h < i → i ≤ t → getKey s (qk i) = 45 :: hexS (f i)
theorem hexS_short {x : Str} (h : x.length ≤ 20) : (45 :: hexS x).length ≤ 60 := by
  unfold hexS
  rw [if_neg (by omega)]
  simp only [List.length_cons, hexB_len]
  omega
theorem isPipe_PS {m : MS} {h t : Nat} {f : Nat → Str} (p : PS m.s h t f) : ∃ m1, m.isPipe 1 = (m1, true) ∧ m1.s = m.s := by
  unfold MS.isPipe
  rcases hz : m.num (keyNum ([112, 47] : Str) 1 ([47, 111] : Str)) with ⟨m1, z⟩
  obtain ⟨h1, h2⟩ := numKey hz
  have h3 := p.fo
  unfold pk at h3
  exact ⟨m1, by simp only [h2, h3]; rfl, h1⟩
theorem put_PS {m m' : MS} {h t : Nat} {f : Nat → Str} {c : Int} {x : Str} (p : PS m.s h t f) (hx : x = f (t + 1)) (hr : t < h + 4) (ht : t < 9) (hh : h ≤ t) (hl : x.length ≤ 20) (e : m.putPipe 1 x = (m', c)) : c = 0 ∧ PS m'.s h (t + 1) f := by
  obtain ⟨m1, e1, hs1⟩ := isPipe_PS p
  unfold MS.putPipe at e
  rw [e1] at e
  simp only [if_true] at e
  rw [if_neg (by omega)] at e
  rcases h2 : m1.num (keyNum ([112, 47] : Str) 1 ([47, 116] : Str)) with ⟨m2, z2⟩
  obtain ⟨hs2, hz2⟩ := numKey h2
  rw [hs1, show keyNum ([112, 47] : Str) 1 ([47, 116] : Str) = pk ([47, 116] : Str) from rfl, p.ft] at hz2
  rw [h2] at e
  simp only at e
  rcases h3 : m2.num (keyNum ([112, 47] : Str) 1 ([47, 104] : Str)) with ⟨m3, z3⟩
  obtain ⟨hs3, hz3⟩ := numKey h3
  rw [hs2, hs1, show keyNum ([112, 47] : Str) 1 ([47, 104] : Str) = pk ([47, 104] : Str) from rfl, p.fh] at hz3
  rw [h3] at e
  simp only at e
  subst hz2 hz3
  rw [if_neg (by omega), if_neg (by omega)] at e
  simp only [Prod.mk.injEq] at e
  obtain ⟨rfl, rfl⟩ := e
  refine ⟨rfl, ?_⟩
  have hs : (((m3.setNum (keyNum ([112, 47] : Str) 1 ([47, 116] : Str)) (((t : Nat) : Int) + 1)).lay (keyNum (keyNum ([112, 47] : Str) 1 ([47, 113, 47] : Str)) (((t : Nat) : Int) + 1) []) (([45] : Str) ++ hexS x))).s = putKey (putKey m.s (pk ([47, 116] : Str)) (dec (((t + 1 : Nat) : Int)))) (qk (t + 1)) (45 :: hexS (f (t + 1))) := by
    show putKey (MS.setNum m3 _ _).s _ _ = _
    rw [setNum_s (by omega) (by omega), hs3, hs2, hs1, hx]
    rfl
  have hq := qkF ⟨t + 1, by omega⟩
  have hp := pkF
  simp only at hq
  rw [hs]
  refine ⟨?_, ?_, ?_, fun i hi hi2 => ?_⟩
  · rw [getKey_put_ne hq.2.1, getKey_put_ne (fun h => hp.2.2.2.2.1 h.symm)]; exact p.fo
  · rw [getKey_put_ne hq.2.2.1, getKey_put_ne (fun h => hp.2.2.2.2.2 h.symm)]; exact p.fh
  · rw [getKey_put_ne hq.2.2.2]; exact getNum_put hp.2.2.1 (by omega) (by omega)
  · by_cases hi3 : i = t + 1
    · subst hi3
      exact getKey_put hq.1 (by simp) (hexS_short (hx ▸ hl))
    · have := qkI ⟨t + 1, by omega⟩ ⟨i, by omega⟩ (by simp only; omega)
      simp only at this
      have hqi := qkF ⟨i, by omega⟩
      simp only at hqi
      rw [getKey_put_ne this, getKey_put_ne (fun h => hqi.2.2.2 h.symm)]
      exact p.fq i hi (by omega)
theorem full_PS {m : MS} {h : Nat} {f : Nat → Str} {x : Str} (p : PS m.s h (h + 4) f) (hl : x.length ≤ 20) : (m.putPipe 1 x).2 = 5 := by
  obtain ⟨m1, e1, hs1⟩ := isPipe_PS p
  unfold MS.putPipe
  rw [e1]
  simp only [if_true]
  rw [if_neg (by omega)]
  rcases h2 : m1.num (keyNum ([112, 47] : Str) 1 ([47, 116] : Str)) with ⟨m2, z2⟩
  obtain ⟨hs2, hz2⟩ := numKey h2
  rw [hs1, show keyNum ([112, 47] : Str) 1 ([47, 116] : Str) = pk ([47, 116] : Str) from rfl, p.ft] at hz2
  simp only
  rcases h3 : m2.num (keyNum ([112, 47] : Str) 1 ([47, 104] : Str)) with ⟨m3, z3⟩
  obtain ⟨hs3, hz3⟩ := numKey h3
  rw [hs2, hs1, show keyNum ([112, 47] : Str) 1 ([47, 104] : Str) = pk ([47, 104] : Str) from rfl, p.fh] at hz3
  simp only
  subst hz2 hz3
  rw [if_pos (by omega)]
theorem message_PS {m m1 : MS} {k x u : Str} (hk : getKey m.s k = 45 :: hexS x) (hl : x.length ≤ 20) (e : m.message k = (m1, u)) : m1.s = m.s ∧ u = x := by
  unfold MS.message MS.look at e
  simp only [Prod.mk.injEq] at e
  obtain ⟨rfl, rfl⟩ := e
  refine ⟨rfl, ?_⟩
  rw [hk]
  unfold messageOf
  simp only [if_true]
  have h1 : hexS x = hexB x := by
    unfold hexS
    rw [if_neg (by omega)]
  rw [h1]
  unfold unhex
  rw [if_neg (by rw [hexB_len]; omega), unhexL_hexB']
theorem take_PS {m m' : MS} {h t : Nat} {f : Nat → Str} {c : Int} {x : Str} (p : PS m.s h t f) (ht : t ≤ 9) (hh : h < t) (hl : (f (h + 1)).length ≤ 20) (e : m.takePipe 1 = (m', x, c)) : x = f (h + 1) ∧ c = 0 ∧ PS m'.s (h + 1) t f := by
  obtain ⟨m1, e1, hs1⟩ := isPipe_PS p
  unfold MS.takePipe at e
  rw [e1] at e
  simp only [if_true] at e
  rcases h3 : m1.num (keyNum ([112, 47] : Str) 1 ([47, 104] : Str)) with ⟨m3, z3⟩
  obtain ⟨hs3, hz3⟩ := numKey h3
  rw [hs1, show keyNum ([112, 47] : Str) 1 ([47, 104] : Str) = pk ([47, 104] : Str) from rfl, p.fh] at hz3
  rw [h3] at e
  simp only at e
  rcases h2 : m3.num (keyNum ([112, 47] : Str) 1 ([47, 116] : Str)) with ⟨m2, z2⟩
  obtain ⟨hs2, hz2⟩ := numKey h2
  rw [hs3, hs1, show keyNum ([112, 47] : Str) 1 ([47, 116] : Str) = pk ([47, 116] : Str) from rfl, p.ft] at hz2
  rw [h2] at e
  simp only at e
  subst hz2 hz3
  rw [if_neg (by omega)] at e
  have hkq : keyNum (keyNum ([112, 47] : Str) 1 ([47, 113, 47] : Str)) (((h : Nat) : Int) + 1) [] = qk (h + 1) := rfl
  rw [hkq] at e
  rcases h4 : m2.message (qk (h + 1)) with ⟨m4, u⟩
  obtain ⟨hs4, hu⟩ := message_PS (x := f (h + 1)) (by rw [hs2, hs3, hs1]; exact p.fq _ (by omega) (by omega)) hl h4
  rw [h4] at e
  simp only [Prod.mk.injEq] at e
  obtain ⟨rfl, rfl, rfl⟩ := e
  refine ⟨hu, rfl, ?_⟩
  have hs : ((m4.lay (qk (h + 1)) []).setNum (keyNum ([112, 47] : Str) 1 ([47, 104] : Str)) (((h : Nat) : Int) + 1)).s = putKey (putKey m.s (qk (h + 1)) []) (pk ([47, 104] : Str)) (dec (((h + 1 : Nat) : Int))) := by
    rw [setNum_s (by omega) (by omega)]
    show putKey (putKey m4.s _ _) _ _ = _
    rw [hs4, hs2, hs3, hs1]
    rfl
  have hq := qkF ⟨h + 1, by omega⟩
  have hp := pkF
  simp only at hq
  rw [hs]
  refine ⟨?_, ?_, ?_, fun i hi hi2 => ?_⟩
  · rw [getKey_put_ne (fun h => hp.2.2.2.1 h.symm), getKey_put_ne hq.2.1]; exact p.fo
  · exact getNum_put hp.2.1 (by omega) (by omega)
  · rw [getKey_put_ne hp.2.2.2.2.2, getKey_put_ne hq.2.2.2]; exact p.ft
  · have hqi := qkF ⟨i, by omega⟩
    have := qkI ⟨h + 1, by omega⟩ ⟨i, by omega⟩ (by simp only; omega)
    simp only at this hqi
    rw [getKey_put_ne (fun h => hqi.2.2.1 h.symm), getKey_put_ne this]
    exact p.fq i (by omega) hi2
theorem empty_PS {m : MS} {t : Nat} {f : Nat → Str} (p : PS m.s t t f) : (m.takePipe 1).2.2 = 5 := by
  obtain ⟨m1, e1, hs1⟩ := isPipe_PS p
  unfold MS.takePipe
  rw [e1]
  simp only [if_true]
  rcases h3 : m1.num (keyNum ([112, 47] : Str) 1 ([47, 104] : Str)) with ⟨m3, z3⟩
  obtain ⟨hs3, hz3⟩ := numKey h3
  rw [hs1, show keyNum ([112, 47] : Str) 1 ([47, 104] : Str) = pk ([47, 104] : Str) from rfl, p.fh] at hz3
  simp only
  rcases h2 : m3.num (keyNum ([112, 47] : Str) 1 ([47, 116] : Str)) with ⟨m2, z2⟩
  obtain ⟨hs2, hz2⟩ := numKey h2
  rw [hs3, hs1, show keyNum ([112, 47] : Str) 1 ([47, 116] : Str) = pk ([47, 116] : Str) from rfl, p.ft] at hz2
  simp only
  rw [if_pos (by omega)]
def putsI (id : Int) (l : List Int) : Nat → Nat → MS → Int → MS × Int
  | 0, _, m, n => (m, n)
  | k + 1, i, m, n => match m.putPipe id (dec (l.getD i 0)) with | (m, c) => putsI id l k (i + 1) m (n + c)
def takesM (id : Int) : Nat → MS → MS
  | 0, m => m
  | i + 1, m => ((takesM id i m).takePipe id).1
theorem puts_PS {l : List Int} (hl : ∀ i, (dec (l.getD i 0)).length ≤ 20) : ∀ (k i : Nat) (m m' : MS) (n n' : Int), PS m.s 0 i (fun i => dec (l.getD (i - 1) 0)) → i + k ≤ 4 → putsI 1 l k i m n = (m', n') → n' = n ∧ PS m'.s 0 (i + k) (fun i => dec (l.getD (i - 1) 0))
  | 0, i, m, m', n, n', p, h, e => by
    simp only [putsI, Prod.mk.injEq] at e
    obtain ⟨rfl, rfl⟩ := e
    exact ⟨rfl, p⟩
  | k + 1, i, m, m', n, n', p, h, e => by
    unfold putsI at e
    rcases h1 : m.putPipe 1 (dec (l.getD i 0)) with ⟨m1, c⟩
    obtain ⟨rfl, p1⟩ := put_PS p (by simp) (by omega) (by omega) (by omega) (hl i) h1
    rw [h1] at e
    simp only at e
    obtain ⟨h2, p2⟩ := puts_PS hl k (i + 1) m1 m' _ n' p1 (by omega) e
    exact ⟨by omega, by rw [show i + (k + 1) = i + 1 + k by omega]; exact p2⟩
theorem takes_PS {f : Nat → Str} (hl : ∀ i, (f i).length ≤ 20) {m : MS} (p : PS m.s 0 4 f) : ∀ i, i ≤ 4 → PS (takesM 1 i m).s i 4 f
  | 0, _ => p
  | i + 1, h => by
    have p1 := takes_PS hl p i (by omega)
    rcases h1 : (takesM 1 i m).takePipe 1 with ⟨m1, x, c⟩
    obtain ⟨_, _, p2⟩ := take_PS p1 (by omega) (by omega) (hl _) h1
    unfold takesM
    rw [h1]
    exact p2
theorem pipe0F : (MS.makePipe MS.empty).2.1 = 1 ∧ numOf (getKey (MS.makePipe MS.empty).1.s (pk ([47, 111] : Str))) = 1 ∧ numOf (getKey (MS.makePipe MS.empty).1.s (pk ([47, 104] : Str))) = 0 ∧ numOf (getKey (MS.makePipe MS.empty).1.s (pk ([47, 116] : Str))) = 0 := by decide +kernel
theorem pl_pipes {b m0 m4 : MS} {one x full : Int} {l : List Int} (e0 : MS.empty = b) (e1 : b.makePipe = (m0, one, x)) (hl : l.length = 12 ∧ ∀ y ∈ l, 0 ≤ y ∧ y ≤ 9999) (e2 : (m4, full) = putsI one l 4 0 m0 0) :
    one = 1 ∧ full = 0 ∧ (m4.putPipe one ([120] : Str)).2 = 5 ∧ ((takesM one 4 m4).takePipe one).2.2 = 5 ∧ ∀ i, i < 4 → ((takesM one i m4).takePipe one).2.1 = dec (l.getD i 0) := by
  subst e0
  obtain ⟨h1, h2, h3, h4⟩ := pipe0F
  rw [e1] at h1 h2 h3 h4
  simp only at h1 h2 h3 h4
  subst h1
  have hd : ∀ i, (dec (l.getD i 0)).length ≤ 20 := fun i => by
    by_cases hi : i < l.length
    · have := hl.2 _ (getD_mem (d := 0) hi)
      exact Nat.le_trans (dec_len (by omega) (by omega)) (by decide)
    · rw [List.getD_eq_getElem?_getD, List.getElem?_eq_none (by omega)]
      decide +kernel
  have p0 : PS m0.s 0 0 (fun i => dec (l.getD (i - 1) 0)) := ⟨h2, h3, h4, fun i hi hi2 => by omega⟩
  obtain ⟨h5, p4⟩ := puts_PS hd 4 0 m0 m4 0 full p0 (by omega) e2.symm
  have pt := takes_PS (fun i => hd (i - 1)) p4
  refine ⟨rfl, h5, full_PS (h := 0) p4 (by decide), empty_PS (pt 4 (by omega)), fun i hi => ?_⟩
  rcases h6 : (takesM 1 i m4).takePipe 1 with ⟨m1, u, c⟩
  obtain ⟨h7, _, _⟩ := take_PS (pt i (by omega)) (by omega) hi (hd _) h6
  simpa using h7
end Go.Proofs.YtenfajgpdhgknaaGreatDoor
