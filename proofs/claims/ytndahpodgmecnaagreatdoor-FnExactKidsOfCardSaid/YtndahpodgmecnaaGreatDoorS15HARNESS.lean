/-
  The laws' own helpers on machines that are known by name (part 15).
-/
import Derived.Test.YtndahpodgmecnaaGreatDoorS06HELD
import Derived.Test.YtndahpodgmecnaaGreatDoorAu
set_option linter.unusedSimpArgs false
set_option linter.unusedVariables false
set_option linter.unnecessarySimpa false
namespace Go.Proofs.YtndahpodgmecnaaGreatDoor
open Go Go.RowKit

theorem szCells_mem : ∀ (s : List Cell) (l : Int), ¬ szCells s l < 0 → 0 ≤ l → ∀ c ∈ s, (c.1.length : Int) ≤ l ∧ (c.2.length : Int) ≤ l
  | [], l, _, h0, c, hc => by simp at hc
  | d :: s, l, h, h0, c, hc => by
    unfold szCells at h
    split at h
    · omega
    · rename_i hd
      have hle := szCell_le d.1 d.2 l h0
      simp only [List.mem_cons] at hc
      rcases hc with rfl | hc
      · unfold szCell at hd
        split at hd
        · omega
        · split at hd <;> omega
      · have ih := szCells_mem s _ h (by omega) c hc
        omega
theorem szStringS_use' {s : List Str} {l : Int} (h : ¬ szStringS s l < 0) : (s.length : Int) ≤ l := by
  unfold szStringS at h
  split at h <;> omega
theorem szMach_ok {m : MS} (h : ¬ szMach m 1048576 < 0) : m.ok 1048576 1048576 := by
  unfold szMach at h
  split at h
  · omega
  · rename_i h1
    have hs := szCellS_le m.s 1048576 (by omega)
    split at h
    · omega
    · rename_i h2
      have hs1 : m.s.length ≤ 1048576 := by
        unfold szCellS at h1
        split at h1 <;> omega
      unfold szTouch at h2
      split at h2
      · omega
      · rename_i h3
        have hr := szStringS_le m.r (szCellS m.s 1048576) (by omega)
        have hr1 : m.r.length ≤ 1048576 := by
          have := szStringS_use' h3
          omega
        split at h2
        · omega
        · rename_i h4
          have hw1 : m.w.length ≤ 1048576 := by
            have := szStringS_use' h4
            omega
          refine ⟨hs1, hr1, hw1, fun c hc => ?_⟩
          unfold szCellS at h1
          split at h1
          · omega
          · have := szCells_mem m.s _ h1 (by omega) c hc
            omega
@[reducible] def seesMk (w : World) (x : MA) (m : MS) (k : Nat) : Prop := Sees w (.slice x.a0 m.s.length x.c0) 2 m.s.length ((markC m.s k).flatMap encC) ∧ Sees w (.slice x.a1 m.r.length x.c1) 1 m.r.length ((markS m.r (k + 2 * m.s.length)).map str) ∧ Sees w (.slice x.a2 m.w.length x.c2) 1 m.w.length ((markS m.w (k + 2 * m.s.length + m.r.length)).map str)
@[reducible] def mrk (x : MA) (m : MS) (k : Nat) : List Res := [.row (.slice x.a0 m.s.length x.c0) 86 2 m.s.length ((markC m.s k).flatMap encC), .row (.slice x.a1 m.r.length x.c1) 9 1 m.r.length ((markS m.r (k + 2 * m.s.length)).map str), .row (.slice x.a2 m.w.length x.c2) 9 1 m.w.length ((markS m.w (k + 2 * m.s.length + m.r.length)).map str)]
theorem N_szMach (x : MA) (m : MS) (hc : okC m.s) (hr : okS m.r) (hw : okS m.w) : Ct Tryz.prog 24 [mv x m, .int .i64 1048576] [] (fun w => seesM w x m) (fun v A' => v = .int .i64 (szMach m 1048576) ∧ A' = []) :=
  C_szMach x.a0 x.a1 x.a2 x.c0 x.c1 x.c2 m 1048576 (by omega) (by omega) hc hr hw
theorem N_toMach (x : MA) (m : MS) {S T : Nat} (hk : m.ok S T) (hS : S ≤ 1048576) (hT : T ≤ 1048576) : Ct Tryz.prog 25 [mv x m] [] (fun w => seesM w x m) (fun v A' => ∃ x' m', m = m' ∧ m'.ok S T ∧ v = mv x' m' ∧ A' = mr x' m') :=
  (C_toMach x.a0 x.a1 x.a2 x.c0 x.c1 x.c2 m (by have := hk.1; omega) (by have := hk.2.1; omega) (by have := hk.2.2.1; omega)).weak (fun _ h => h) fun v A' ⟨x0, y0, x1, y1, x2, y2, hv, hA⟩ => ⟨⟨x0, y0, x1, y1, x2, y2⟩, m, rfl, hk, hv, hA⟩
theorem N_eqMach (x y : MA) (m : MS) {S T : Nat} (hk : m.ok S T) (hS : S ≤ 100000000) (hT : T ≤ 100000000) : Ct Tryz.prog 26 [mv x m, mv y m] [] (fun w => seesM w x m ∧ seesM w y m) (fun v A' => v = .bool true ∧ A' = []) :=
  (C_eqMach x.a0 x.a1 x.a2 y.a0 y.a1 y.a2 x.c0 x.c1 x.c2 y.c0 y.c1 y.c2 m.s m.r m.w m.s m.r m.w (by have := hk.1; omega) (by have := hk.2.1; omega) (by have := hk.2.2.1; omega)).weak (fun w ⟨h1, h2⟩ => ⟨h1.1, h1.2.1, h1.2.2, h2⟩) fun v A' ⟨hv, hA⟩ => ⟨by rw [hv]; simp, hA⟩
theorem N_markMach (x : MA) (m : MS) (k : Nat) {S T : Nat} (hk : m.ok S T) (hS : S ≤ 10000000) (hT : T ≤ 10000000) (h0 : 0 < k) (h1 : k ≤ 1000000) : Ct Tryz.prog 27 [mv x m, .int .i64 ((k : Nat) : Int)] (mr x m) (fun _ => True) (fun v A' => v = .int .i64 ((k + 2 * m.s.length + m.r.length + m.w.length : Nat) : Int) ∧ A' = mrk x m k) :=
  C_markMach x.a0 x.a1 x.a2 x.c0 x.c1 x.c2 m.s m.r m.w k h0 (by have := hk.1; have := hk.2.1; have := hk.2.2.1; omega)
theorem N_heldMach (x : MA) (m : MS) (k : Nat) {S T : Nat} (hk : m.ok S T) (hS : S ≤ 10000000) (hT : T ≤ 10000000) (h0 : 0 < k) (h1 : k ≤ 1000000) : Ct Tryz.prog 28 [mv x m, .int .i64 ((k : Nat) : Int)] [] (fun w => seesMk w x m k) (fun v A' => v = .int .i64 ((k + 2 * m.s.length + m.r.length + m.w.length : Nat) : Int) ∧ A' = []) :=
  (C_heldMach x.a0 x.a1 x.a2 m.s.length m.r.length m.w.length x.c0 x.c1 x.c2 (markC m.s k) (markS m.r (k + 2 * m.s.length)) (markS m.w (k + 2 * m.s.length + m.r.length)) ((k : Nat) : Int) (markC_len _ _) (markS_len _ _) (markS_len _ _) (by omega)
    (by have := hk.1; have := hk.2.1; have := hk.2.2.1; rw [markC_len, markS_len, markS_len]; omega)).weak (fun _ h => h) fun v A' ⟨hv, hA⟩ => ⟨by rw [hv, heldM_mark], hA⟩


theorem eqI_take {s t : List Int} {j : Nat} (h : s.take j = t.take j) (hj : j < s.length) (hl : s.length = t.length) (he : s.getD j 0 = t.getD j 0) : s.take (j + 1) = t.take (j + 1) := take_succ_eq 0 h hj hl he
def markI : List Int → Nat → List Int
  | [], _ => []
  | _ :: l, k => ((k : Nat) : Int) :: markI l (k + 1)
theorem markI_len : ∀ (l : List Int) (k : Nat), (markI l k).length = l.length
  | [], _ => rfl
  | _ :: l, k => by simp [markI, markI_len l]
theorem markI_get : ∀ (l : List Int) (k j : Nat), j < l.length → (markI l k).getD j 0 = ((k + j : Nat) : Int)
  | [], k, j, h => by simp at h
  | x :: l, k, 0, _ => by simp [markI]
  | x :: l, k, j + 1, h => by
    have := markI_get l (k + 1) j (by simpa using h)
    simp only [markI, List.getD_cons_succ, this]
    congr 1; omega
theorem markI_step {l : List Int} {k j : Nat} (h : j < l.length) : ((markI l k).take j ++ l.drop j).set j ((k + j : Nat) : Int) = (markI l k).take (j + 1) ++ l.drop (j + 1) := by
  have hj : ((markI l k).take j).length = j := by rw [List.length_take, markI_len]; omega
  rw [List.set_append_right _ _ (by omega), hj, Nat.sub_self, List.drop_eq_getElem_cons h, List.set_cons_zero, List.take_add_one]
  have hg : (markI l k)[j]? = some ((k + j : Nat) : Int) := by
    have h1 := markI_get l k j h
    rw [← h1]
    exact getD_some (by rw [markI_len]; exact h)
  rw [hg]
  simp
theorem markI_lenj {l : List Int} {k j : Nat} (h : j ≤ l.length) : ((markI l k).take j ++ l.drop j).length = l.length := by
  rw [List.length_append, List.length_take, markI_len, List.length_drop]; omega
theorem setI {l : List Int} {i : Nat} {x : Int} (h : i < l.length) : (l.map (Value.int .i64)).take (i * 1) ++ [.int .i64 x] ++ (l.map (Value.int .i64)).drop (i * 1 + 1) = (l.set i x).map (Value.int .i64) := by
  rw [Nat.mul_one, List.map_set, List.set_eq_take_append_cons_drop, if_pos (by simpa using h)]
  simp
attribute [local irreducible] JL JC JQ JO LO PO JA JX Ct

theorem C_eqIntS (a b : Option Addr) (c c' : Nat) (s t : List Int) (hn : s.length ≤ 9223372036854775807) :
    Ct Tryz.prog 31 [.slice a s.length c, .slice b t.length c'] [] (fun w => Sees w (.slice a s.length c) 1 s.length (s.map (Value.int .i64)) ∧ Sees w (.slice b t.length c') 1 t.length (t.map (Value.int .i64))) (fun r A' => r = .bool (decide (s = t)) ∧ A' = []) := by
  refine Ct.intro Tryz.func31 rfl Tryz.ntmps31 (Nat.le_of_ble_eq_true rfl) fun w0 hpre => ?_
  have hs_a : Sees w0 _ _ _ _ := hpre.1
  have hs_b : Sees w0 _ _ _ _ := hpre.2
  refine JC.seq ?_
  refine JC.region ?_
  refine JL.pure rfl (PO.assign (v := .bool false) rfl) ?_
  refine JL.nil ?_
  refine JQ.seq ?_
  refine JC.seq ?_
  refine JC.seq ?_
  refine JC.region ?_
  refine JL.pure rfl (PO.move (v := .slice a s.length c) rfl) ?_
  refine JL.pure rfl (PO.lenV Tryz.underlying53 rfl) ?_
  refine JL.pure rfl (PO.move (v := .slice b t.length c') rfl) ?_
  refine JL.pure rfl (PO.lenV Tryz.underlying53 rfl) ?_
  refine JL.pure rfl (PO.neqI rfl rfl) ?_
  refine JL.nil ?_
  refine JQ.seq ?_
  by_cases h_1 : ((s.length : Nat) : Int) = ((t.length : Nat) : Int)
  · skip
    have hlen := h_1
    refine JC.condF (congrArg Value.bool (congrArg Bool.not (decide_eq_true h_1))) ?_
    refine JC.skip ?_
    refine JQ.seq ?_
    refine JC.seq ?_
    refine JC.seq ?_
    refine JC.region ?_
    refine JL.pure rfl (PO.assign (v := .int .i64 0) rfl) ?_
    refine JL.nil ?_
    refine JQ.seq ?_
    refine JC.block ?_
    refine JC.loop (fun k_ e_ L_ => ∃ j : Nat, (j ≤ s.length) ∧ (s.take j = t.take j) ∧ (s.length = t.length) ∧ e_ 0 = .slice a s.length c ∧ e_ 1 = .slice b t.length c' ∧ e_ 5 = .int .i64 ((j : Nat) : Int) ∧ L_ = [] ∧ k_ = s.length - j) _ ⟨0, by omega, rfl, by omega, rfl, rfl, rfl, rfl, rfl⟩ ?_
    rintro _ e_2 _ ⟨j, hj, hE, hln, he_3, he_4, he_5, rfl, rfl⟩
    refine JC.seq ?_
    refine JC.seq ?_
    refine JC.region ?_
    refine JL.pure rfl (PO.move (v := .int .i64 ((j : Nat) : Int)) he_5) ?_
    refine JL.pure rfl (PO.move (v := .slice a s.length c) he_3) ?_
    refine JL.pure rfl (PO.lenV Tryz.underlying53 rfl) ?_
    refine JL.pure rfl (PO.lss rfl rfl) ?_
    refine JL.nil ?_
    refine JQ.seq ?_
    by_cases h_6 : ((j : Nat) : Int) < ((s.length : Nat) : Int)
    · skip
      have hlt : j < s.length := by omega
      refine JC.condT (congrArg Value.bool (decide_eq_true h_6)) ?_
      refine JC.skip ?_
      refine JQ.seq ?_
      refine JC.seq ?_
      refine JC.block ?_
      refine JC.seq ?_
      refine JC.regionA [] 8 mixed (by simp) ?_
      refine JA.takeP 0 rfl (by kernel_rfl) (NP.th (NP.bl (NP.th (NP.th (NP.bl (NP.th NP.body)))))) (by kernel_rfl) (by kernel_rfl) rfl (PO.move (v := .slice a s.length c) he_3) ?_
      refine JA.takeP 1 rfl (by kernel_rfl) (NP.th (NP.bl (NP.th (NP.th (NP.bl (NP.th NP.body)))))) (by kernel_rfl) (by kernel_rfl) rfl (PO.move (v := .int .i64 ((j : Nat) : Int)) he_5) ?_
      obtain ⟨hr_7, hr_7b, -⟩ := sees_some hs_a (by omega)
      refine JA.takeP 2 rfl (by kernel_rfl) (NP.th (NP.bl (NP.th (NP.th (NP.bl (NP.th NP.body)))))) (by kernel_rfl) (by kernel_rfl) rfl (PO.indexAddrV (i := j) Tryz.underlying53 Tryz.sizeOf3 hr_7 hr_7b rfl rfl (by omega)) ?_
      refine JA.take 3 rfl (by kernel_rfl) (NP.th (NP.bl (NP.th (NP.th (NP.bl (NP.th NP.body)))))) (by kernel_rfl) (by kernel_rfl) (by kernel_rfl) rfl (LO.loadS1 (v := .int .i64 (s.getD j 0)) hs_a (fun _ _ => List.not_mem_nil) rfl Tryz.isAgg3 (atI (by omega))) ?_
      refine JA.takeP 4 rfl (by kernel_rfl) (NP.th (NP.bl (NP.th (NP.th (NP.bl (NP.th NP.body)))))) (by kernel_rfl) (by kernel_rfl) rfl (PO.move (v := .slice b t.length c') he_4) ?_
      refine JA.takeP 5 rfl (by kernel_rfl) (NP.th (NP.bl (NP.th (NP.th (NP.bl (NP.th NP.body)))))) (by kernel_rfl) (by kernel_rfl) rfl (PO.move (v := .int .i64 ((j : Nat) : Int)) he_5) ?_
      obtain ⟨hr_8, hr_8b, -⟩ := sees_some hs_b (by omega)
      refine JA.takeP 6 rfl (by kernel_rfl) (NP.th (NP.bl (NP.th (NP.th (NP.bl (NP.th NP.body)))))) (by kernel_rfl) (by kernel_rfl) rfl (PO.indexAddrV (i := j) Tryz.underlying53 Tryz.sizeOf3 hr_8 hr_8b rfl rfl (by omega)) ?_
      refine JA.take 7 rfl (by kernel_rfl) (NP.th (NP.bl (NP.th (NP.th (NP.bl (NP.th NP.body)))))) (by kernel_rfl) (by kernel_rfl) (by kernel_rfl) rfl (LO.loadS1 (v := .int .i64 (t.getD j 0)) hs_b (fun _ _ => List.not_mem_nil) rfl Tryz.isAgg3 (atI (by omega))) ?_
      refine JA.takeP 8 rfl (by kernel_rfl) (NP.th (NP.bl (NP.th (NP.th (NP.bl (NP.th NP.body)))))) (by kernel_rfl) (by kernel_rfl) rfl (PO.neqI rfl rfl) ?_
      refine JA.done (by kernel_rfl) ?_
      refine JQ.seq ?_
      by_cases h_9 : (s.getD j 0) = (t.getD j 0)
      · skip
        have heq := h_9
        refine JC.condF (congrArg Value.bool (congrArg Bool.not (decide_eq_true h_9))) ?_
        refine JC.skip ?_
        refine JQ.blockN ?_
        refine JQ.seq ?_
        refine JC.region ?_
        refine JL.pure rfl (PO.move (v := .int .i64 ((j : Nat) : Int)) he_5) ?_
        refine JL.pure rfl (PO.add (c := ((j + 1 : Nat) : Int)) rfl rfl (wr (by omega))) ?_
        refine JL.pure rfl (PO.assign (v := .int .i64 ((j + 1 : Nat) : Int)) rfl) ?_
        refine JL.nil ?_
        refine JQ.again (s.length - (j + 1)) (by omega) ⟨j + 1, by omega, eqI_take hE hlt hln heq, hln, he_3, he_4, rfl, rfl, rfl⟩
      · skip
        have hne := h_9
        refine JC.condT (congrArg Value.bool (congrArg Bool.not (decide_eq_false h_9))) ?_
        refine JC.seq ?_
        refine JC.region ?_
        refine JL.pure rfl (PO.assign (v := .bool false) rfl) ?_
        refine JL.nil ?_
        refine JQ.seq ?_
        refine JC.ret ?_
        refine JQ.blockRet ?_
        refine JQ.thenRet ?_
        refine JQ.thenRet ?_
        refine JQ.blockRet ?_
        refine JQ.thenRet ?_
        refine Done.one (.inl rfl) rfl (RV.tmp (v := .bool false) rfl) (List.nil_sublist _) ?_
        refine ⟨?_, rfl⟩
        rw [decide_eq_false (fun h => hne (by rw [h]))]
    · skip
      refine JC.condF (congrArg Value.bool (decide_eq_false h_6)) ?_
      refine JC.exit ?_
      refine JQ.thenExit ?_
      refine JQ.thenExit ?_
      refine JQ.blockE ?_
      refine JQ.seq ?_
      refine JC.seq ?_
      refine JC.region ?_
      refine JL.pure rfl (PO.assign (v := .bool true) rfl) ?_
      refine JL.nil ?_
      refine JQ.seq ?_
      refine JC.ret ?_
      refine Done.one (.inl rfl) rfl (RV.tmp (v := .bool true) rfl) (List.nil_sublist _) ?_
      refine ⟨?_, rfl⟩
      rw [decide_eq_true (take_all_eq hE (by omega) (by omega))]
  · skip
    have hlen := h_1
    refine JC.condT (congrArg Value.bool (congrArg Bool.not (decide_eq_false h_1))) ?_
    refine JC.seq ?_
    refine JC.region ?_
    refine JL.pure rfl (PO.assign (v := .bool false) rfl) ?_
    refine JL.nil ?_
    refine JQ.seq ?_
    refine JC.ret ?_
    refine JQ.thenRet ?_
    refine Done.one (.inl rfl) rfl (RV.tmp (v := .bool false) rfl) (List.nil_sublist _) ?_
    refine ⟨?_, rfl⟩
    rw [decide_eq_false (fun h => by rw [h] at hlen; omega)]

theorem N_eqIntS (a b : Option Addr) (c c' : Nat) (s : List Int) (hn : s.length ≤ 9223372036854775807) : Ct Tryz.prog 31 [.slice a s.length c, .slice b s.length c'] [] (fun w => Sees w (.slice a s.length c) 1 s.length (s.map (Value.int .i64)) ∧ Sees w (.slice b s.length c') 1 s.length (s.map (Value.int .i64))) (fun v A' => v = .bool true ∧ A' = []) :=
  (C_eqIntS a b c c' s s hn).weak (fun _ h => h) fun v A' ⟨hv, hA⟩ => ⟨by rw [hv]; simp, hA⟩

theorem C_markIntS (a : Option Addr) (c : Nat) (l : List Int) (k : Nat) (h0 : 0 < k) (h1 : k + l.length ≤ 1000000000) :
    Ct Tryz.prog 32 [.slice a l.length c, .int .i64 ((k : Nat) : Int)] [rI a c l] (fun _ => True) (fun v A' => v = .int .i64 ((k + l.length : Nat) : Int) ∧ A' = [.row (.slice a l.length c) 3 1 l.length ((markI l k).map (Value.int .i64))]) := by
  refine Ct.intro Tryz.func32 rfl Tryz.ntmps32 (Nat.le_of_ble_eq_true rfl) fun w0 hpre => ?_
  refine JC.seq ?_
  refine JC.region ?_
  refine JL.pure rfl (PO.assign (v := .int .i64 0) rfl) ?_
  refine JL.nil ?_
  refine JQ.seq ?_
  refine JC.seq ?_
  refine JC.seq ?_
  refine JC.region ?_
  refine JL.pure rfl (PO.assign (v := .int .i64 0) rfl) ?_
  refine JL.nil ?_
  refine JQ.seq ?_
  refine JC.block ?_
  refine JC.loop (fun k_ e_ L_ => ∃ j : Nat, (j ≤ l.length) ∧ e_ 0 = .slice a l.length c ∧ e_ 1 = .int .i64 ((k + j : Nat) : Int) ∧ e_ 4 = .int .i64 0 ∧ e_ 5 = .int .i64 ((j : Nat) : Int) ∧ L_ = [Res.row (.slice a l.length c) 3 1 l.length (((markI l k).take j ++ l.drop j).map (Value.int .i64))] ∧ k_ = l.length - j) _ ⟨0, by omega, rfl, rfl, rfl, rfl, rfl, rfl⟩ ?_
  rintro _ e_1 _ ⟨j, hj, he_2, he_3, he_4, he_5, rfl, rfl⟩
  refine JC.seq ?_
  refine JC.seq ?_
  refine JC.region ?_
  refine JL.pure rfl (PO.move (v := .int .i64 ((j : Nat) : Int)) he_5) ?_
  refine JL.pure rfl (PO.move (v := .slice a l.length c) he_2) ?_
  refine JL.pure rfl (PO.lenV Tryz.underlying53 rfl) ?_
  refine JL.pure rfl (PO.lss rfl rfl) ?_
  refine JL.nil ?_
  refine JQ.seq ?_
  by_cases h_6 : ((j : Nat) : Int) < ((l.length : Nat) : Int)
  · skip
    have hlt : j < l.length := by omega
    refine JC.condT (congrArg Value.bool (decide_eq_true h_6)) ?_
    refine JC.skip ?_
    refine JQ.seq ?_
    refine JC.seq ?_
    refine JC.block ?_
    refine JC.seq ?_
    refine JC.region ?_
    refine JL.pure rfl (PO.move (v := .slice a l.length c) he_2) ?_
    refine JL.pure rfl (PO.move (v := .int .i64 ((j : Nat) : Int)) he_5) ?_
    refine JL.pure rfl (PO.move (v := .int .i64 ((k + j : Nat) : Int)) he_3) ?_
    refine JL.facts fun hst => ?_
    obtain ⟨hr_7, hr_7b, -⟩ := row_some 0 rfl (by omega) hst
    refine JL.pure rfl (PO.indexAddrV (i := j) Tryz.underlying53 Tryz.sizeOf3 hr_7 hr_7b rfl rfl (by omega)) ?_
    refine JL.op rfl (JO.storeR 0 (vs := [.int .i64 ((k + j : Nat) : Int)]) (cs' := (((markI l k).take j ++ l.drop j).set j ((k + j : Nat) : Int)).map (Value.int .i64)) rfl rfl rfl rfl Tryz.sizeOf3 rfl rfl (by decide) (by rw [List.length_map]; rw [markI_lenj hj]; omega) (setI (by rw [markI_lenj hj]; omega))) ?_
    rintro _ _ rfl
    refine JL.nil ?_
    refine JQ.seq ?_
    refine JC.region ?_
    refine JL.pure rfl (PO.move (v := .int .i64 ((k + j : Nat) : Int)) he_3) ?_
    refine JL.pure rfl (PO.add (c := (((k + j) + 1 : Nat) : Int)) rfl rfl (wr (by omega))) ?_
    refine JL.pure rfl (PO.assign (v := .int .i64 (((k + j) + 1 : Nat) : Int)) rfl) ?_
    refine JL.nil ?_
    refine JQ.blockN ?_
    refine JQ.seq ?_
    refine JC.region ?_
    refine JL.pure rfl (PO.move (v := .int .i64 ((j : Nat) : Int)) he_5) ?_
    refine JL.pure rfl (PO.add (c := ((j + 1 : Nat) : Int)) rfl rfl (wr (by omega))) ?_
    refine JL.pure rfl (PO.assign (v := .int .i64 ((j + 1 : Nat) : Int)) rfl) ?_
    refine JL.nil ?_
    refine JQ.again (l.length - (j + 1)) (by omega) ⟨j + 1, by omega, he_2, rfl, he_4, rfl, (by rw [← markI_step hlt]; rfl), rfl⟩
  · skip
    refine JC.condF (congrArg Value.bool (decide_eq_false h_6)) ?_
    refine JC.exit ?_
    refine JQ.thenExit ?_
    refine JQ.thenExit ?_
    refine JQ.blockE ?_
    refine JQ.seq ?_
    refine JC.seq ?_
    refine JC.region ?_
    refine JL.pure rfl (PO.move (v := .int .i64 ((k + j : Nat) : Int)) he_3) ?_
    refine JL.pure rfl (PO.assign (v := .int .i64 ((k + j : Nat) : Int)) rfl) ?_
    refine JL.nil ?_
    refine JQ.seq ?_
    refine JC.ret ?_
    refine Done.one (.inl rfl) rfl (RV.tmp (v := .int .i64 ((k + j : Nat) : Int)) rfl) (List.Sublist.refl _) ?_
    exact ⟨by rw [show j = l.length by omega], by rw [show j = l.length by omega, List.drop_of_length_le (Nat.le_refl _), List.append_nil, List.take_of_length_le (by rw [markI_len]; exact Nat.le_refl _)]⟩

theorem C_heldIntS (a : Option Addr) (c : Nat) (l : List Int) (k : Nat) (h0 : 0 < k) (h1 : k + l.length ≤ 1000000000) :
    Ct Tryz.prog 33 [.slice a l.length c, .int .i64 ((k : Nat) : Int)] [] (fun w => Sees w (.slice a l.length c) 1 l.length ((markI l k).map (Value.int .i64))) (fun v A' => v = .int .i64 ((k + l.length : Nat) : Int) ∧ A' = []) := by
  refine Ct.intro Tryz.func33 rfl Tryz.ntmps33 (Nat.le_of_ble_eq_true rfl) fun w0 hpre => ?_
  have hs_a : Sees w0 _ _ _ _ := hpre
  refine JC.seq ?_
  refine JC.region ?_
  refine JL.pure rfl (PO.assign (v := .int .i64 0) rfl) ?_
  refine JL.nil ?_
  refine JQ.seq ?_
  refine JC.seq ?_
  refine JC.seq ?_
  refine JC.region ?_
  refine JL.pure rfl (PO.assign (v := .int .i64 0) rfl) ?_
  refine JL.nil ?_
  refine JQ.seq ?_
  refine JC.block ?_
  refine JC.loop (fun k_ e_ L_ => ∃ j : Nat, (j ≤ l.length) ∧ e_ 0 = .slice a l.length c ∧ e_ 1 = .int .i64 ((k + j : Nat) : Int) ∧ e_ 5 = .int .i64 ((j : Nat) : Int) ∧ L_ = [] ∧ k_ = l.length - j) _ ⟨0, by omega, rfl, rfl, rfl, rfl, rfl⟩ ?_
  rintro _ e_1 _ ⟨j, hj, he_2, he_3, he_4, rfl, rfl⟩
  refine JC.seq ?_
  refine JC.seq ?_
  refine JC.region ?_
  refine JL.pure rfl (PO.move (v := .int .i64 ((j : Nat) : Int)) he_4) ?_
  refine JL.pure rfl (PO.move (v := .slice a l.length c) he_2) ?_
  refine JL.pure rfl (PO.lenV Tryz.underlying53 rfl) ?_
  refine JL.pure rfl (PO.lss rfl rfl) ?_
  refine JL.nil ?_
  refine JQ.seq ?_
  by_cases h_5 : ((j : Nat) : Int) < ((l.length : Nat) : Int)
  · skip
    have hlt : j < l.length := by omega
    refine JC.condT (congrArg Value.bool (decide_eq_true h_5)) ?_
    refine JC.skip ?_
    refine JQ.seq ?_
    refine JC.seq ?_
    refine JC.block ?_
    refine JC.seq ?_
    refine JC.seq ?_
    refine JC.region ?_
    refine JL.pure rfl (PO.move (v := .slice a l.length c) he_2) ?_
    refine JL.pure rfl (PO.move (v := .int .i64 ((j : Nat) : Int)) he_4) ?_
    obtain ⟨hr_6, hr_6b, -⟩ := sees_some hs_a (by omega)
    refine JL.pure rfl (PO.indexAddrV (i := j) Tryz.underlying53 Tryz.sizeOf3 hr_6 hr_6b rfl rfl (by omega)) ?_
    refine JL.ld rfl (LO.loadS1 (v := .int .i64 ((markI l k).getD j 0)) hs_a (fun _ _ => List.not_mem_nil) rfl Tryz.isAgg3 (atI (by rw [markI_len]; omega))) ?_
    refine JL.pure rfl (PO.move (v := .int .i64 ((k + j : Nat) : Int)) he_3) ?_
    refine JL.pure rfl (PO.neqI rfl rfl) ?_
    refine JL.nil ?_
    refine JQ.seq ?_
    by_cases h_7 : ((markI l k).getD j 0) = ((k + j : Nat) : Int)
    · skip
      refine JC.condF (congrArg Value.bool (congrArg Bool.not (decide_eq_true h_7))) ?_
      refine JC.skip ?_
      refine JQ.seq ?_
      refine JC.region ?_
      refine JL.pure rfl (PO.move (v := .int .i64 ((k + j : Nat) : Int)) he_3) ?_
      refine JL.pure rfl (PO.add (c := (((k + j) + 1 : Nat) : Int)) rfl rfl (wr (by omega))) ?_
      refine JL.pure rfl (PO.assign (v := .int .i64 (((k + j) + 1 : Nat) : Int)) rfl) ?_
      refine JL.nil ?_
      refine JQ.blockN ?_
      refine JQ.seq ?_
      refine JC.region ?_
      refine JL.pure rfl (PO.move (v := .int .i64 ((j : Nat) : Int)) he_4) ?_
      refine JL.pure rfl (PO.add (c := ((j + 1 : Nat) : Int)) rfl rfl (wr (by omega))) ?_
      refine JL.pure rfl (PO.assign (v := .int .i64 ((j + 1 : Nat) : Int)) rfl) ?_
      refine JL.nil ?_
      refine JQ.again (l.length - (j + 1)) (by omega) ⟨j + 1, by omega, he_2, rfl, rfl, rfl, rfl⟩
    · skip
      exfalso; rw [markI_get l k j hlt] at h_7; omega
  · skip
    refine JC.condF (congrArg Value.bool (decide_eq_false h_5)) ?_
    refine JC.exit ?_
    refine JQ.thenExit ?_
    refine JQ.thenExit ?_
    refine JQ.blockE ?_
    refine JQ.seq ?_
    refine JC.seq ?_
    refine JC.region ?_
    refine JL.pure rfl (PO.move (v := .int .i64 ((k + j : Nat) : Int)) he_3) ?_
    refine JL.pure rfl (PO.assign (v := .int .i64 ((k + j : Nat) : Int)) rfl) ?_
    refine JL.nil ?_
    refine JQ.seq ?_
    refine JC.ret ?_
    refine Done.one (.inl rfl) rfl (RV.tmp (v := .int .i64 ((k + j : Nat) : Int)) rfl) (List.nil_sublist _) ?_
    exact ⟨by rw [show j = l.length by omega], rfl⟩

end Go.Proofs.YtndahpodgmecnaaGreatDoor
