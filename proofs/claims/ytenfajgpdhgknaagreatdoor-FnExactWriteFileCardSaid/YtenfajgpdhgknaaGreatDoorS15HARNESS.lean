/-
  The laws' own helpers on machines that are known by name (part 15).
-/
import Derived.Test.YtenfajgpdhgknaaGreatDoorS06HELD
import Derived.Test.YtenfajgpdhgknaaGreatDoorAu
set_option linter.unusedSimpArgs false
set_option linter.unusedVariables false
set_option linter.unnecessarySimpa false
namespace Go.Proofs.YtenfajgpdhgknaaGreatDoor
open Go Go.RowKit

theorem szCells_mem : ∀ (s : List Cell) (l : Int), ¬ szCells s l < 0 → 0 ≤ l → ∀ c ∈ s, (c.1.length : Int) ≤ l ∧ (c.2.length : Int) ≤ l
  | [], l, _, h0, c, hc => by simp at hc
  | d :: s, l, h, h0, c, hc => by
    unfold szCells at h
    split at h
    · omega
    · rename_i hd
      have hle := szCell_le d.1 d.2 l h0
      simp only [List.mem_cons] at hc
      rcases hc with rfl | hc
      · unfold szCell at hd
        split at hd
        · omega
        · split at hd <;> omega
      · have ih := szCells_mem s _ h (by omega) c hc
        omega
theorem szStringS_use' {s : List Str} {l : Int} (h : ¬ szStringS s l < 0) : (s.length : Int) ≤ l := by
  unfold szStringS at h
  split at h <;> omega
theorem szMach_ok {m : MS} (h : ¬ szMach m 1048576 < 0) : m.ok 1048576 1048576 := by
  unfold szMach at h
  split at h
  · omega
  · rename_i h1
    have hs := szCellS_le m.s 1048576 (by omega)
    split at h
    · omega
    · rename_i h2
      have hs1 : m.s.length ≤ 1048576 := by
        unfold szCellS at h1
        split at h1 <;> omega
      unfold szTouch at h2
      split at h2
      · omega
      · rename_i h3
        have hr := szStringS_le m.r (szCellS m.s 1048576) (by omega)
        have hr1 : m.r.length ≤ 1048576 := by
          have := szStringS_use' h3
          omega
        split at h2
        · omega
        · rename_i h4
          have hw1 : m.w.length ≤ 1048576 := by
            have := szStringS_use' h4
            omega
          refine ⟨hs1, hr1, hw1, fun c hc => ?_⟩
          unfold szCellS at h1
          split at h1
          · omega
          · have := szCells_mem m.s _ h1 (by omega) c hc
            omega
@[reducible] def seesMk (w : World) (x : MA) (m : MS) (k : Nat) : Prop := Sees w (.slice x.a0 m.s.length x.c0) 2 m.s.length ((markC m.s k).flatMap encC) ∧ Sees w (.slice x.a1 m.r.length x.c1) 1 m.r.length ((markS m.r (k + 2 * m.s.length)).map str) ∧ Sees w (.slice x.a2 m.w.length x.c2) 1 m.w.length ((markS m.w (k + 2 * m.s.length + m.r.length)).map str)
@[reducible] def mrk (x : MA) (m : MS) (k : Nat) : List Res := [.row (.slice x.a0 m.s.length x.c0) 113 2 m.s.length ((markC m.s k).flatMap encC), .row (.slice x.a1 m.r.length x.c1) 9 1 m.r.length ((markS m.r (k + 2 * m.s.length)).map str), .row (.slice x.a2 m.w.length x.c2) 9 1 m.w.length ((markS m.w (k + 2 * m.s.length + m.r.length)).map str)]
theorem N_szMach (x : MA) (m : MS) (hc : okC m.s) (hr : okS m.r) (hw : okS m.w) : Ct Tryz.prog 15 [mv x m, .int .i64 1048576] [] (fun w => seesM w x m) (fun v A' => v = .int .i64 (szMach m 1048576) ∧ A' = []) :=
  C_szMach x.a0 x.a1 x.a2 x.c0 x.c1 x.c2 m 1048576 (by omega) (by omega) hc hr hw
theorem N_toMach (x : MA) (m : MS) {S T : Nat} (hk : m.ok S T) (hS : S ≤ 1048576) (hT : T ≤ 1048576) : Ct Tryz.prog 17 [mv x m] [] (fun w => seesM w x m) (fun v A' => ∃ x' m', m = m' ∧ m'.ok S T ∧ v = mv x' m' ∧ A' = mr x' m') :=
  (C_toMach x.a0 x.a1 x.a2 x.c0 x.c1 x.c2 m (by have := hk.1; omega) (by have := hk.2.1; omega) (by have := hk.2.2.1; omega)).weak (fun _ h => h) fun v A' ⟨x0, y0, x1, y1, x2, y2, hv, hA⟩ => ⟨⟨x0, y0, x1, y1, x2, y2⟩, m, rfl, hk, hv, hA⟩
theorem N_eqMach (x y : MA) (m : MS) {S T : Nat} (hk : m.ok S T) (hS : S ≤ 100000000) (hT : T ≤ 100000000) : Ct Tryz.prog 19 [mv x m, mv y m] [] (fun w => seesM w x m ∧ seesM w y m) (fun v A' => v = .bool true ∧ A' = []) :=
  (C_eqMach x.a0 x.a1 x.a2 y.a0 y.a1 y.a2 x.c0 x.c1 x.c2 y.c0 y.c1 y.c2 m.s m.r m.w m.s m.r m.w (by have := hk.1; omega) (by have := hk.2.1; omega) (by have := hk.2.2.1; omega)).weak (fun w ⟨h1, h2⟩ => ⟨h1.1, h1.2.1, h1.2.2, h2⟩) fun v A' ⟨hv, hA⟩ => ⟨by rw [hv]; simp, hA⟩
theorem N_markMach (x : MA) (m : MS) (k : Nat) {S T : Nat} (hk : m.ok S T) (hS : S ≤ 10000000) (hT : T ≤ 10000000) (h0 : 0 < k) (h1 : k ≤ 1000000) : Ct Tryz.prog 20 [mv x m, .int .i64 ((k : Nat) : Int)] (mr x m) (fun _ => True) (fun v A' => v = .int .i64 ((k + 2 * m.s.length + m.r.length + m.w.length : Nat) : Int) ∧ A' = mrk x m k) :=
  C_markMach x.a0 x.a1 x.a2 x.c0 x.c1 x.c2 m.s m.r m.w k h0 (by have := hk.1; have := hk.2.1; have := hk.2.2.1; omega)
theorem N_heldMach (x : MA) (m : MS) (k : Nat) {S T : Nat} (hk : m.ok S T) (hS : S ≤ 10000000) (hT : T ≤ 10000000) (h0 : 0 < k) (h1 : k ≤ 1000000) : Ct Tryz.prog 21 [mv x m, .int .i64 ((k : Nat) : Int)] [] (fun w => seesMk w x m k) (fun v A' => v = .int .i64 ((k + 2 * m.s.length + m.r.length + m.w.length : Nat) : Int) ∧ A' = []) :=
  (C_heldMach x.a0 x.a1 x.a2 m.s.length m.r.length m.w.length x.c0 x.c1 x.c2 (markC m.s k) (markS m.r (k + 2 * m.s.length)) (markS m.w (k + 2 * m.s.length + m.r.length)) ((k : Nat) : Int) (markC_len _ _) (markS_len _ _) (markS_len _ _) (by omega)
    (by have := hk.1; have := hk.2.1; have := hk.2.2.1; rw [markC_len, markS_len, markS_len]; omega)).weak (fun _ h => h) fun v A' ⟨hv, hA⟩ => ⟨by rw [hv, heldM_mark], hA⟩


end Go.Proofs.YtenfajgpdhgknaaGreatDoor
