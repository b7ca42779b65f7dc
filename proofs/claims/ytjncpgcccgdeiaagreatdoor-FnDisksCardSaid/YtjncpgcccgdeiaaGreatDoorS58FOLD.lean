/-
  Texts of the walk, joined: what each one proves stands at its theorems.
-/
import Derived.Test.YtjncpgcccgdeiaaGreatDoorDatQ
import Derived.Test.YtjncpgcccgdeiaaGreatDoorS46OK
import Derived.Test.YtjncpgcccgdeiaaGreatDoorSlStr
set_option linter.unusedSimpArgs false
set_option linter.unusedVariables false
set_option linter.unnecessarySimpa false
namespace Go.Proofs.YtjncpgcccgdeiaaGreatDoor
open Go Go.RowKit
attribute [local irreducible] JL JC JQ JO LO PO JA JX Ct

set_option maxRecDepth 4000 in
set_option maxHeartbeats 1000000 in
theorem Y_iRecs (t : Str) (f : Int) (ht : t.length ≤ 100000000) :
    Ct Tryz.prog 70 [str t, .int .i64 f] [] (fun w => HexOk w) (fun v A' => ∃ a c y, y.map cellsR = (recsOf t f).1 ∧ v = .tuple #[.slice a y.length c, .int .i64 (((recsOf t f).2 : Nat) : Int)] ∧ A' = [.rows (rdsRS a c y)]) := by
  refine Ct.introL Tryz.func70 rfl Tryz.ntmps70 (lb rfl) fun w0 hpre hlow => ?_
  refine jC <| jF <| jA (jG (v := .slice none 0 0) rfl) <| jA (jG (v := iv 0) rfl) <| jE <| jB <| jC <| jC <| jF <| jA (jD (v := iv f) rfl) ?_
  refine jH rfl (jI [] Tryz.call76 rfl (Y_within f 1 100000) rfl (fun _ _ => trivial)) ?_
  rintro _ _ ⟨_, ⟨rfl, rfl⟩, rfl⟩
  refine jA (jp rfl) <| jE <| jB ?_
  rcases Bool.eq_false_or_eq_true (within 1 f 100000) with h_1 | h_1
  · refine jR (cB (cN h_1)) <| jT <| jB <| jC ?_
    have hwi := h_1
    have hwj := (show 1 ≤ f ∧ f ≤ 100000 by simpa only [within, Bool.and_eq_true, decide_eq_true_eq] using hwi)
    have hll : (linesOf t).length ≤ t.length := linesG_len t []
    refine jF <| jA (jG (v := .slice none 0 0) rfl) <| jE <| jB <| jC <| jF <| jA (jG (v := iv 0) rfl) <| jE <| jB <| jC ?_
    refine jC <| jF <| jA (jD (v := str t) rfl) ?_
    refine jH rfl (jI [] Tryz.call63 rfl (Y_iLines t (by omega)) rfl (fun _ _ => trivial)) ?_
    rintro _ _ ⟨_, ⟨a_2, c_3, rfl, rfl⟩, rfl⟩
    refine jA (jr ku rfl) <| jA (jD (v := iv 0) rfl) <| jE <| jB <| jf <| JC.nilRow 49 1 <| kT (L' := [Res.rows (([] : List RX).flatMap rdsR), Res.row (.slice none 0 0) 49 1 0 (([] : List RX).flatMap encR), rS a_2 c_3 (linesOf t)]) (fun w hw => hw.nilR (α := RX) (f := rdsR) [0] (B := [Res.row (.slice none 0 0) 49 1 0 (([] : List RX).flatMap encR)]) (F := [rS a_2 c_3 (linesOf t)]) rfl) <| kD (fun k_ e_ L_ => ∃ i : Nat, ∃ n : Nat, ∃ ya : Option Addr, ∃ yc : Nat, ∃ y : List RX, (i ≤ (linesOf t).length) ∧ (y.length ≤ i) ∧ (n + sumLen ((linesOf t).drop i) ≤ t.length) ∧ (recsOf t f = (y.map cellsR ++ (recsG f y.length ((linesOf t).drop i)).1, n + (recsG f y.length ((linesOf t).drop i)).2)) ∧ e_ 1 = iv f ∧ e_ 4 = .slice none 0 0 ∧ e_ 5 = iv 0 ∧ e_ 6 = .slice ya y.length yc ∧ e_ 7 = nv n ∧ e_ 18 = .slice a_2 ((linesOf t).length) c_3 ∧ e_ 19 = iv (((linesOf t).length : Nat) : Int) ∧ e_ 20 = nv i ∧ L_ = [Res.rows (y.flatMap rdsR), Res.row (.slice ya y.length yc) 49 1 y.length (y.flatMap encR), rS a_2 c_3 (linesOf t)] ∧ k_ = (linesOf t).length - i) _ ⟨0, 0, none, 0, [], by omega, by simp, (by have h_ := linesG_sum t []; simp only [List.length_nil, Nat.zero_add, List.drop_zero] at *; exact h_), (by rw [recsOf, if_pos hwi]; simp), rfl, rfl, rfl, rfl, rfl, rfl, rfl, rfl, rfl, rfl⟩ ?_
    rintro _ e_4 _ ⟨i, n, ya, yc, y, hi, hyl, hn, hR, he_5, he_6, he_7, he_8, he_9, he_10, he_11, he_12, rfl, rfl⟩
    refine jC <| jF <| jA (jl he_12 he_11) <| jE <| jB <| jC ?_
    by_cases h_13 : ((i : Nat) : Int) < (((linesOf t).length : Nat) : Int)
    · have hlt : i < (linesOf t).length := by omega
      have hml : ((linesOf t).getD i []).length ≤ 0 + t.length := linesG_mem t [] _ (getD_mem (d := []) hlt)
      have hsl : sumLen ((linesOf t).drop i) = ((linesOf t).getD i []).length + sumLen ((linesOf t).drop (i + 1)) := sumLen_step hlt
      refine jW (cB (dT h_13)) <| jT <| jB <| jC <| jf <| jC <| jF ?_
      refine kN fun hst => ?_
      obtain ⟨hr_14, hr_14b, -⟩ := row_some 2 rfl (by omega) hst
      refine jA (jk (i := i) ku kt hr_14 hr_14b he_10 he_12 (by omega)) <| jK (ka 2 (v := str ((linesOf t).getD i [])) rfl rfl ki (atS (by omega))) <| jA (jG (v := str ((linesOf t).getD i [])) rfl) <| jE <| jB <| jC <| jF <| jA (jD (v := str ((linesOf t).getD i [])) rfl) ?_
      refine jH rfl (jI [] Tryz.call64 rfl (Y_iRead ((linesOf t).getD i []) (by omega)) rfl (fun w hw => hw.hex hlow hpre)) ?_
      rintro _ _ ⟨_, ⟨a_15, c_16, rfl, rfl⟩, rfl⟩
      refine jA (jD (v := .tuple #[iv ((readI ((linesOf t).getD i [])).1), .slice a_15 ((readI ((linesOf t).getD i [])).2.1.length) c_16, .bool ((readI ((linesOf t).getD i [])).2.2)]) rfl) <| jA (je (v := iv ((readI ((linesOf t).getD i [])).1)) rfl rfl) <| jA (je (v := .slice a_15 ((readI ((linesOf t).getD i [])).2.1.length) c_16) rfl rfl) <| jA (je (v := .bool ((readI ((linesOf t).getD i [])).2.2)) rfl rfl) <| jA (jG (v := iv ((readI ((linesOf t).getD i [])).1)) rfl) <| jA (jG (v := .slice a_15 ((readI ((linesOf t).getD i [])).2.1.length) c_16) rfl) <| jA (jG (v := .bool ((readI ((linesOf t).getD i [])).2.2)) rfl) <| jE <| jB <| jC ?_
      refine jF <| jA (jD (v := .slice ya y.length yc) he_8) <| jA (jr kx rfl) <| jA (kO rfl rfl) <| jA (jD (v := .bool (decide (((y.length : Nat) : Int) = 0))) rfl) ?_
      by_cases h_17 : ((y.length : Nat) : Int) = 0
      · refine jM rfl rfl rfl (cB (dT h_17)) (jP (jU (jD (v := iv ((readI ((linesOf t).getD i [])).1)) rfl))) ?_
        rintro _ _ ⟨rfl, rfl⟩
        refine jM rfl rfl rfl (cB (dT h_17)) (jP (jU (jD (v := iv f) he_5))) ?_
        rintro _ _ ⟨rfl, rfl⟩
        refine jM rfl rfl rfl (cB (dT h_17)) (jP (jU (jl rfl rfl))) ?_
        rintro _ _ ⟨rfl, rfl⟩
        refine jA (jh (v := .bool (decide (((readI ((linesOf t).getD i [])).1) < f))) (cB (dT h_17)) rfl) <| jA (jG (v := .bool (decide (((readI ((linesOf t).getD i [])).1) < f))) rfl) <| jE <| jB <| jC <| jC <| jF <| jA (jD (v := .bool ((readI ((linesOf t).getD i [])).2.2)) rfl) <| jA (jp rfl) <| jA (jD (v := .bool (!((readI ((linesOf t).getD i [])).2.2))) rfl) ?_
        rcases Bool.eq_false_or_eq_true ((readI ((linesOf t).getD i [])).2.2) with h_18 | h_18
        · refine jM rfl rfl rfl (cB (cN h_18)) (jP (jU (jD (v := .bool (decide (((readI ((linesOf t).getD i [])).1) < f))) rfl))) ?_
          rintro _ _ ⟨rfl, rfl⟩
          refine jM rfl rfl rfl (cB (cN h_18)) (jP (jU (jp rfl))) ?_
          rintro _ _ ⟨rfl, rfl⟩
          refine jM rfl rfl rfl (cB (cN h_18)) (jP (jU (jD (v := .bool (!(decide (((readI ((linesOf t).getD i [])).1) < f)))) rfl))) ?_
          rintro _ _ ⟨rfl, rfl⟩
          by_cases h_19 : ((readI ((linesOf t).getD i [])).1) < f
          · refine jS (b := false) rfl rfl rfl (cB (cN (dT h_19))) <| jS (b := false) rfl rfl rfl (cB (cN (dT h_19))) <| jS (b := false) rfl rfl rfl (cB (cN (dT h_19))) <| jS (b := false) rfl rfl rfl (cB (cN (dT h_19))) <| jS (b := false) rfl rfl rfl (cB (cN (dT h_19))) <| jS (b := false) rfl rfl rfl (cB (cN (dT h_19))) <| jM rfl rfl rfl (cB (cN h_18)) (jP (jU (ji (v := .bool false) (cB (cN (dT h_19))) rfl))) ?_
            rintro _ _ ⟨rfl, rfl⟩
            refine jA (ji (v := .bool false) (cB (cN h_18)) rfl) <| jE <| jB <| jR (cB rfl) <| jT <| jB <| jC <| jF <| jA (jD (v := nv n) he_9) <| jA (jD (v := str ((linesOf t).getD i [])) rfl) ?_
            refine jA (kF kg rfl) <| jA (jc (c := ((n + (((linesOf t).getD i []).length) : Nat) : Int)) rfl rfl (wr (by omega))) <| jA (jG (v := iv ((n + (((linesOf t).getD i []).length) : Nat) : Int)) rfl) <| jE <| jB <| jC <| jF <| jA (jD (v := .bool (decide (((readI ((linesOf t).getD i [])).1) < f))) rfl) <| jA (jp rfl) <| jE ?_
            refine jB <| jR (cB (cN (dT h_19))) <| jT <| jm <| jB <| jF <| jA (jc (c := ((i + 1 : Nat) : Int)) he_12 rfl (wr (by omega))) <| jA (jD (v := iv ((i + 1 : Nat) : Int)) rfl) <| jE <| kB [1, 1, 1] (A := [Res.rows (y.flatMap rdsR), Res.row (.slice ya y.length yc) 49 1 y.length (y.flatMap encR), rS a_2 c_3 (linesOf t)]) rfl ?_
            refine jq ((linesOf t).length - (i + 1)) (by omega) ⟨i + 1, n + (((linesOf t).getD i []).length), ya, yc, y, by omega, by omega, by omega, (recs_skip hlt h_18 (by omega) hR), he_5, he_6, he_7, he_8, rfl, he_10, he_11, rfl, rfl, rfl⟩
          refine jM rfl rfl rfl (cB (cN (dF h_19))) (jP (jU (jD (v := iv ((readI ((linesOf t).getD i [])).1)) rfl))) ?_
          rintro _ _ ⟨rfl, rfl⟩
          refine jM rfl rfl rfl (cB (cN (dF h_19))) (jP (jU (jD (v := iv f) he_5))) ?_
          rintro _ _ ⟨rfl, rfl⟩
          refine jM rfl rfl rfl (cB (cN (dF h_19))) (jP (jU (jD (v := .slice ya y.length yc) he_8))) ?_
          rintro _ _ ⟨rfl, rfl⟩
          refine jM rfl rfl rfl (cB (cN (dF h_19))) (jP (jU (jr kx rfl))) ?_
          rintro _ _ ⟨rfl, rfl⟩
          refine jM rfl rfl rfl (cB (cN (dF h_19))) (jP (jU (jc (c := f + ((y.length : Nat) : Int)) rfl rfl (wr (by omega))))) ?_
          rintro _ _ ⟨rfl, rfl⟩
          refine jM rfl rfl rfl (cB (cN (dF h_19))) (jP (jU (kS rfl rfl))) ?_
          rintro _ _ ⟨rfl, rfl⟩
          refine jM rfl rfl rfl (cB (cN h_18)) (jP (jU (jh (v := .bool (!(decide (((readI ((linesOf t).getD i [])).1) = (f + ((y.length : Nat) : Int)))))) (cB (cN (dF h_19))) rfl))) ?_
          rintro _ _ ⟨rfl, rfl⟩
          refine jA (ji (v := .bool (!(decide (((readI ((linesOf t).getD i [])).1) = (f + ((y.length : Nat) : Int)))))) (cB (cN h_18)) rfl) <| jE <| jB ?_
          by_cases h_20 : ((readI ((linesOf t).getD i [])).1) = (f + ((y.length : Nat) : Int))
          · refine jR (cB (cN (dT h_20))) <| jT <| jB <| jC <| jF <| jA (jD (v := nv n) he_9) <| jA (jD (v := str ((linesOf t).getD i [])) rfl) <| jA (kF kg rfl) <| jA (jc (c := ((n + (((linesOf t).getD i []).length) : Nat) : Int)) rfl rfl (wr (by omega))) <| jA (jG (v := iv ((n + (((linesOf t).getD i []).length) : Nat) : Int)) rfl) ?_
            refine jE <| jB <| jC <| jF <| jA (jD (v := .bool (decide (((readI ((linesOf t).getD i [])).1) < f))) rfl) <| jA (jp rfl) <| jE <| jB <| jW (cB (cN (dF h_19))) <| jF ?_
            refine jA (jD (v := .slice ya y.length yc) he_8) <| jA (jD (v := .slice a_15 ((readI ((linesOf t).getD i [])).2.1.length) c_16) rfl) ?_
            refine jH rfl (kH (ps := [(0, .slice a_15 ((readI ((linesOf t).getD i [])).2.1.length) c_16)]) (cur := #[.slice a_15 ((readI ((linesOf t).getD i [])).2.1.length) c_16]) kx gM Tryz.zeroValue49 rfl (by kernel_rfl) (by decide) (by decide)) ?_
            rintro _ _ ⟨a_21, rfl, rfl⟩
            refine jH rfl (kU 3 (q := 1) (news := ([(⟨⟨a_15, c_16⟩, ⟨(readI ((linesOf t).getD i [])).2.1⟩⟩ : RX)] : List RX).flatMap encR) (n' := (y ++ ([(⟨⟨a_15, c_16⟩, ⟨(readI ((linesOf t).getD i [])).2.1⟩⟩ : RX)] : List RX)).length) (cs' := (y ++ ([(⟨⟨a_15, c_16⟩, ⟨(readI ((linesOf t).getD i [])).2.1⟩⟩ : RX)] : List RX)).flatMap encR) rfl kx kx Tryz.typeInfo49 rfl (by' := 24) rfl rfl rfl rfl rfl (fun w hw => Src.sees (hw.see (i := 0) rfl) (oneR _)) (by (try simp only [LE]); omega) (by (try simp only [LE]); omega) (by simp only [List.length_append, List.length_take, List.length_drop, List.length_cons, List.length_nil] <;> first | rfl | omega) (by simp only [List.flatMap_append])) ?_
            rintro _ _ ⟨a_22, c_23, rfl, rfl⟩
            refine jA (jG (v := .slice a_22 ((y ++ ([(⟨⟨a_15, c_16⟩, ⟨(readI ((linesOf t).getD i [])).2.1⟩⟩ : RX)] : List RX)).length) c_23) rfl) <| jE <| jm <| jB <| jF <| jA (jc (c := ((i + 1 : Nat) : Int)) he_12 rfl (wr (by omega))) <| jA (jD (v := iv ((i + 1 : Nat) : Int)) rfl) <| jE <| ju (L' := [Res.rows (rdsR (⟨⟨a_15, c_16⟩, ⟨(readI ((linesOf t).getD i [])).2.1⟩⟩ : RX)), Res.row (.slice a_21 1 1) 49 1 1 (([(⟨⟨a_15, c_16⟩, ⟨(readI ((linesOf t).getD i [])).2.1⟩⟩ : RX)] : List RX).flatMap encR), Res.rows (y.flatMap rdsR), Res.row (.slice a_22 ((y ++ ([(⟨⟨a_15, c_16⟩, ⟨(readI ((linesOf t).getD i [])).2.1⟩⟩ : RX)] : List RX)).length) c_23) 49 1 ((y ++ ([(⟨⟨a_15, c_16⟩, ⟨(readI ((linesOf t).getD i [])).2.1⟩⟩ : RX)] : List RX)).length) ((y ++ ([(⟨⟨a_15, c_16⟩, ⟨(readI ((linesOf t).getD i [])).2.1⟩⟩ : RX)] : List RX)).flatMap encR), rS a_2 c_3 (linesOf t)]) (fun w hw => hw.closeR (A := rdsR (⟨⟨a_15, c_16⟩, ⟨(readI ((linesOf t).getD i [])).2.1⟩⟩ : RX)) [1] rfl) <| ju (L' := [Res.rows ((y ++ [(⟨⟨a_15, c_16⟩, ⟨(readI ((linesOf t).getD i [])).2.1⟩⟩ : RX)]).flatMap rdsR), Res.row (.slice a_21 1 1) 49 1 1 (([(⟨⟨a_15, c_16⟩, ⟨(readI ((linesOf t).getD i [])).2.1⟩⟩ : RX)] : List RX).flatMap encR), Res.row (.slice a_22 ((y ++ ([(⟨⟨a_15, c_16⟩, ⟨(readI ((linesOf t).getD i [])).2.1⟩⟩ : RX)] : List RX)).length) c_23) 49 1 ((y ++ ([(⟨⟨a_15, c_16⟩, ⟨(readI ((linesOf t).getD i [])).2.1⟩⟩ : RX)] : List RX)).length) ((y ++ ([(⟨⟨a_15, c_16⟩, ⟨(readI ((linesOf t).getD i [])).2.1⟩⟩ : RX)] : List RX)).flatMap encR), rS a_2 c_3 (linesOf t)]) (fun w hw => hw.addR [2, 0] rfl flatMap_snoc) ?_
            refine kB [0, 1, 1] (A := [Res.rows ((y ++ [(⟨⟨a_15, c_16⟩, ⟨(readI ((linesOf t).getD i [])).2.1⟩⟩ : RX)]).flatMap rdsR), Res.row (.slice a_22 ((y ++ ([(⟨⟨a_15, c_16⟩, ⟨(readI ((linesOf t).getD i [])).2.1⟩⟩ : RX)] : List RX)).length) c_23) 49 1 ((y ++ [(⟨⟨a_15, c_16⟩, ⟨(readI ((linesOf t).getD i [])).2.1⟩⟩ : RX)]).length) ((y ++ [(⟨⟨a_15, c_16⟩, ⟨(readI ((linesOf t).getD i [])).2.1⟩⟩ : RX)]).flatMap encR), rS a_2 c_3 (linesOf t)]) rfl ?_
            refine jq ((linesOf t).length - (i + 1)) (by omega) ⟨i + 1, n + (((linesOf t).getD i []).length), a_22, c_23, (y ++ [(⟨⟨a_15, c_16⟩, ⟨(readI ((linesOf t).getD i [])).2.1⟩⟩ : RX)]), by omega, (by simp only [List.length_append, List.length_cons, List.length_nil]; omega), by omega, (by have h_ := recs_take hlt h_18 (by omega) hR; rw [List.map_append, List.length_append]; exact h_), he_5, he_6, he_7, rfl, rfl, he_10, he_11, rfl, rfl, rfl⟩
          refine jW (cB (cN (dF h_20))) <| jx <| jb <| JQ.blockO rfl <| jb <| jb <| jy <| jB <| jC <| jF ?_
          refine jA (jD (v := .slice ya y.length yc) he_8) <| jA (jD (v := nv n) he_9) <| jA (jG (v := .slice ya y.length yc) rfl) <| jA (jG (v := nv n) rfl) <| jE <| jB <| jN <| ju (L' := [Res.rows (rdsRS ya yc y), Res.row (.slice a_15 ((readI ((linesOf t).getD i [])).2.1.length) c_16) 48 2 (((readI ((linesOf t).getD i [])).2.1).length) (((readI ((linesOf t).getD i [])).2.1).flatMap encC), rS a_2 c_3 (linesOf t)]) (fun w hw => hw.consR (r := ⟨.slice ya y.length yc, 49, 1, y.length, y.flatMap encR⟩) (A := y.flatMap rdsR) [2, 1] rfl) <| kC (.inl rfl) rfl (jJ (v := .slice ya y.length yc) rfl) (jJ (v := nv n) rfl) (tS 1 _) ?_
          have he := recs_stop hlt h_18 (by omega) (by omega) hR
          exact ⟨ya, yc, y, by rw [he] <;> rfl, by rw [he] <;> rfl, rfl⟩
        refine jS (b := true) rfl rfl rfl (cB (cN h_18)) <| jS (b := true) rfl rfl rfl (cB (cN h_18)) <| jS (b := true) rfl rfl rfl (cB (cN h_18)) <| kP rfl rfl rfl rfl <| kP rfl rfl rfl rfl <| kP rfl rfl rfl rfl <| kP rfl rfl rfl rfl <| kP rfl rfl rfl rfl <| kP rfl rfl rfl rfl <| jS (b := true) rfl rfl rfl (cB (cN h_18)) ?_
        refine jA (jh (v := .bool true) (cB (cN h_18)) rfl) <| jE <| jB <| jW (cB rfl) <| jx <| jb <| JQ.blockO rfl <| jb <| jb <| jy ?_
        refine jB <| jC <| jF <| jA (jD (v := .slice ya y.length yc) he_8) <| jA (jD (v := nv n) he_9) <| jA (jG (v := .slice ya y.length yc) rfl) <| jA (jG (v := nv n) rfl) <| jE <| jB <| jN ?_
        refine ju (L' := [Res.rows (rdsRS ya yc y), Res.row (.slice a_15 ((readI ((linesOf t).getD i [])).2.1.length) c_16) 48 2 (((readI ((linesOf t).getD i [])).2.1).length) (((readI ((linesOf t).getD i [])).2.1).flatMap encC), rS a_2 c_3 (linesOf t)]) (fun w hw => hw.consR (r := ⟨.slice ya y.length yc, 49, 1, y.length, y.flatMap encR⟩) (A := y.flatMap rdsR) [2, 1] rfl) <| kC (.inl rfl) rfl (jJ (v := .slice ya y.length yc) rfl) (jJ (v := nv n) rfl) (tS 1 _) ?_
        have he := recs_bad hlt h_18 hR
        exact ⟨ya, yc, y, by rw [he] <;> rfl, by rw [he] <;> rfl, rfl⟩
      refine jS (b := false) rfl rfl rfl (cB (dF h_17)) <| jS (b := false) rfl rfl rfl (cB (dF h_17)) <| jS (b := false) rfl rfl rfl (cB (dF h_17)) <| jA (ji (v := .bool false) (cB (dF h_17)) rfl) <| jA (jG (v := .bool false) rfl) <| jE <| jB <| jC <| jC <| jF ?_
      refine jA (jD (v := .bool ((readI ((linesOf t).getD i [])).2.2)) rfl) <| jA (jp rfl) <| jA (jD (v := .bool (!((readI ((linesOf t).getD i [])).2.2))) rfl) ?_
      rcases Bool.eq_false_or_eq_true ((readI ((linesOf t).getD i [])).2.2) with h_24 | h_24
      · refine jM rfl rfl rfl (cB (cN h_24)) (jP (jU (jD (v := .bool false) rfl))) ?_
        rintro _ _ ⟨rfl, rfl⟩
        refine jM rfl rfl rfl (cB (cN h_24)) (jP (jU (jp rfl))) ?_
        rintro _ _ ⟨rfl, rfl⟩
        refine jM rfl rfl rfl (cB (cN h_24)) (jP (jU (jD (v := .bool true) rfl))) ?_
        rintro _ _ ⟨rfl, rfl⟩
        refine jM rfl rfl rfl (cB rfl) (jP (jU (jD (v := iv ((readI ((linesOf t).getD i [])).1)) rfl))) ?_
        rintro _ _ ⟨rfl, rfl⟩
        refine jM rfl rfl rfl (cB rfl) (jP (jU (jD (v := iv f) he_5))) ?_
        rintro _ _ ⟨rfl, rfl⟩
        refine jM rfl rfl rfl (cB rfl) (jP (jU (jD (v := .slice ya y.length yc) he_8))) ?_
        rintro _ _ ⟨rfl, rfl⟩
        refine jM rfl rfl rfl (cB rfl) (jP (jU (jr kx rfl))) ?_
        rintro _ _ ⟨rfl, rfl⟩
        refine jM rfl rfl rfl (cB rfl) (jP (jU (jc (c := f + ((y.length : Nat) : Int)) rfl rfl (wr (by omega))))) ?_
        rintro _ _ ⟨rfl, rfl⟩
        refine jM rfl rfl rfl (cB rfl) (jP (jU (kS rfl rfl))) ?_
        rintro _ _ ⟨rfl, rfl⟩
        refine jM rfl rfl rfl (cB (cN h_24)) (jP (jU (jh (v := .bool (!(decide (((readI ((linesOf t).getD i [])).1) = (f + ((y.length : Nat) : Int)))))) (cB rfl) rfl))) ?_
        rintro _ _ ⟨rfl, rfl⟩
        refine jA (ji (v := .bool (!(decide (((readI ((linesOf t).getD i [])).1) = (f + ((y.length : Nat) : Int)))))) (cB (cN h_24)) rfl) <| jE <| jB ?_
        by_cases h_25 : ((readI ((linesOf t).getD i [])).1) = (f + ((y.length : Nat) : Int))
        · refine jR (cB (cN (dT h_25))) <| jT <| jB <| jC <| jF <| jA (jD (v := nv n) he_9) <| jA (jD (v := str ((linesOf t).getD i [])) rfl) <| jA (kF kg rfl) <| jA (jc (c := ((n + (((linesOf t).getD i []).length) : Nat) : Int)) rfl rfl (wr (by omega))) <| jA (jG (v := iv ((n + (((linesOf t).getD i []).length) : Nat) : Int)) rfl) ?_
          refine jE <| jB <| jC <| jF <| jA (jD (v := .bool false) rfl) <| jA (jp rfl) <| jE <| jB <| jW (cB rfl) <| jF ?_
          refine jA (jD (v := .slice ya y.length yc) he_8) <| jA (jD (v := .slice a_15 ((readI ((linesOf t).getD i [])).2.1.length) c_16) rfl) ?_
          refine jH rfl (kH (ps := [(0, .slice a_15 ((readI ((linesOf t).getD i [])).2.1.length) c_16)]) (cur := #[.slice a_15 ((readI ((linesOf t).getD i [])).2.1.length) c_16]) kx gM Tryz.zeroValue49 rfl (by kernel_rfl) (by decide) (by decide)) ?_
          rintro _ _ ⟨a_26, rfl, rfl⟩
          refine jH rfl (kU 3 (q := 1) (news := ([(⟨⟨a_15, c_16⟩, ⟨(readI ((linesOf t).getD i [])).2.1⟩⟩ : RX)] : List RX).flatMap encR) (n' := (y ++ ([(⟨⟨a_15, c_16⟩, ⟨(readI ((linesOf t).getD i [])).2.1⟩⟩ : RX)] : List RX)).length) (cs' := (y ++ ([(⟨⟨a_15, c_16⟩, ⟨(readI ((linesOf t).getD i [])).2.1⟩⟩ : RX)] : List RX)).flatMap encR) rfl kx kx Tryz.typeInfo49 rfl (by' := 24) rfl rfl rfl rfl rfl (fun w hw => Src.sees (hw.see (i := 0) rfl) (oneR _)) (by (try simp only [LE]); omega) (by (try simp only [LE]); omega) (by simp only [List.length_append, List.length_take, List.length_drop, List.length_cons, List.length_nil] <;> first | rfl | omega) (by simp only [List.flatMap_append])) ?_
          rintro _ _ ⟨a_27, c_28, rfl, rfl⟩
          refine jA (jG (v := .slice a_27 ((y ++ ([(⟨⟨a_15, c_16⟩, ⟨(readI ((linesOf t).getD i [])).2.1⟩⟩ : RX)] : List RX)).length) c_28) rfl) <| jE <| jm <| jB <| jF <| jA (jc (c := ((i + 1 : Nat) : Int)) he_12 rfl (wr (by omega))) <| jA (jD (v := iv ((i + 1 : Nat) : Int)) rfl) <| jE <| ju (L' := [Res.rows (rdsR (⟨⟨a_15, c_16⟩, ⟨(readI ((linesOf t).getD i [])).2.1⟩⟩ : RX)), Res.row (.slice a_26 1 1) 49 1 1 (([(⟨⟨a_15, c_16⟩, ⟨(readI ((linesOf t).getD i [])).2.1⟩⟩ : RX)] : List RX).flatMap encR), Res.rows (y.flatMap rdsR), Res.row (.slice a_27 ((y ++ ([(⟨⟨a_15, c_16⟩, ⟨(readI ((linesOf t).getD i [])).2.1⟩⟩ : RX)] : List RX)).length) c_28) 49 1 ((y ++ ([(⟨⟨a_15, c_16⟩, ⟨(readI ((linesOf t).getD i [])).2.1⟩⟩ : RX)] : List RX)).length) ((y ++ ([(⟨⟨a_15, c_16⟩, ⟨(readI ((linesOf t).getD i [])).2.1⟩⟩ : RX)] : List RX)).flatMap encR), rS a_2 c_3 (linesOf t)]) (fun w hw => hw.closeR (A := rdsR (⟨⟨a_15, c_16⟩, ⟨(readI ((linesOf t).getD i [])).2.1⟩⟩ : RX)) [1] rfl) <| ju (L' := [Res.rows ((y ++ [(⟨⟨a_15, c_16⟩, ⟨(readI ((linesOf t).getD i [])).2.1⟩⟩ : RX)]).flatMap rdsR), Res.row (.slice a_26 1 1) 49 1 1 (([(⟨⟨a_15, c_16⟩, ⟨(readI ((linesOf t).getD i [])).2.1⟩⟩ : RX)] : List RX).flatMap encR), Res.row (.slice a_27 ((y ++ ([(⟨⟨a_15, c_16⟩, ⟨(readI ((linesOf t).getD i [])).2.1⟩⟩ : RX)] : List RX)).length) c_28) 49 1 ((y ++ ([(⟨⟨a_15, c_16⟩, ⟨(readI ((linesOf t).getD i [])).2.1⟩⟩ : RX)] : List RX)).length) ((y ++ ([(⟨⟨a_15, c_16⟩, ⟨(readI ((linesOf t).getD i [])).2.1⟩⟩ : RX)] : List RX)).flatMap encR), rS a_2 c_3 (linesOf t)]) (fun w hw => hw.addR [2, 0] rfl flatMap_snoc) ?_
          refine kB [0, 1, 1] (A := [Res.rows ((y ++ [(⟨⟨a_15, c_16⟩, ⟨(readI ((linesOf t).getD i [])).2.1⟩⟩ : RX)]).flatMap rdsR), Res.row (.slice a_27 ((y ++ ([(⟨⟨a_15, c_16⟩, ⟨(readI ((linesOf t).getD i [])).2.1⟩⟩ : RX)] : List RX)).length) c_28) 49 1 ((y ++ [(⟨⟨a_15, c_16⟩, ⟨(readI ((linesOf t).getD i [])).2.1⟩⟩ : RX)]).length) ((y ++ [(⟨⟨a_15, c_16⟩, ⟨(readI ((linesOf t).getD i [])).2.1⟩⟩ : RX)]).flatMap encR), rS a_2 c_3 (linesOf t)]) rfl ?_
          refine jq ((linesOf t).length - (i + 1)) (by omega) ⟨i + 1, n + (((linesOf t).getD i []).length), a_27, c_28, (y ++ [(⟨⟨a_15, c_16⟩, ⟨(readI ((linesOf t).getD i [])).2.1⟩⟩ : RX)]), by omega, (by simp only [List.length_append, List.length_cons, List.length_nil]; omega), by omega, (by have h_ := recs_take hlt h_24 (by omega) hR; rw [List.map_append, List.length_append]; exact h_), he_5, he_6, he_7, rfl, rfl, he_10, he_11, rfl, rfl, rfl⟩
        refine jW (cB (cN (dF h_25))) <| jx <| jb <| JQ.blockO rfl <| jb <| jb <| jy <| jB <| jC <| jF ?_
        refine jA (jD (v := .slice ya y.length yc) he_8) <| jA (jD (v := nv n) he_9) <| jA (jG (v := .slice ya y.length yc) rfl) <| jA (jG (v := nv n) rfl) <| jE <| jB <| jN <| ju (L' := [Res.rows (rdsRS ya yc y), Res.row (.slice a_15 ((readI ((linesOf t).getD i [])).2.1.length) c_16) 48 2 (((readI ((linesOf t).getD i [])).2.1).length) (((readI ((linesOf t).getD i [])).2.1).flatMap encC), rS a_2 c_3 (linesOf t)]) (fun w hw => hw.consR (r := ⟨.slice ya y.length yc, 49, 1, y.length, y.flatMap encR⟩) (A := y.flatMap rdsR) [2, 1] rfl) <| kC (.inl rfl) rfl (jJ (v := .slice ya y.length yc) rfl) (jJ (v := nv n) rfl) (tS 1 _) ?_
        have he := recs_stop hlt h_24 (by omega) (by omega) hR
        exact ⟨ya, yc, y, by rw [he] <;> rfl, by rw [he] <;> rfl, rfl⟩
      refine jS (b := true) rfl rfl rfl (cB (cN h_24)) <| jS (b := true) rfl rfl rfl (cB (cN h_24)) <| jS (b := true) rfl rfl rfl (cB (cN h_24)) <| kP rfl rfl rfl rfl <| kP rfl rfl rfl rfl <| kP rfl rfl rfl rfl <| kP rfl rfl rfl rfl <| kP rfl rfl rfl rfl <| kP rfl rfl rfl rfl <| jS (b := true) rfl rfl rfl (cB (cN h_24)) ?_
      refine jA (jh (v := .bool true) (cB (cN h_24)) rfl) <| jE <| jB <| jW (cB rfl) <| jx <| jb <| JQ.blockO rfl <| jb <| jb <| jy ?_
      refine jB <| jC <| jF <| jA (jD (v := .slice ya y.length yc) he_8) <| jA (jD (v := nv n) he_9) <| jA (jG (v := .slice ya y.length yc) rfl) <| jA (jG (v := nv n) rfl) <| jE <| jB <| jN ?_
      refine ju (L' := [Res.rows (rdsRS ya yc y), Res.row (.slice a_15 ((readI ((linesOf t).getD i [])).2.1.length) c_16) 48 2 (((readI ((linesOf t).getD i [])).2.1).length) (((readI ((linesOf t).getD i [])).2.1).flatMap encC), rS a_2 c_3 (linesOf t)]) (fun w hw => hw.consR (r := ⟨.slice ya y.length yc, 49, 1, y.length, y.flatMap encR⟩) (A := y.flatMap rdsR) [2, 1] rfl) <| kC (.inl rfl) rfl (jJ (v := .slice ya y.length yc) rfl) (jJ (v := nv n) rfl) (tS 1 _) ?_
      have he := recs_bad hlt h_24 hR
      exact ⟨ya, yc, y, by rw [he] <;> rfl, by rw [he] <;> rfl, rfl⟩
    refine jR (cB (dF h_13)) <| jx <| jb <| jb <| jy <| jB <| jC <| jF <| jA (jD (v := .slice ya y.length yc) he_8) <| jA (jD (v := nv n) he_9) ?_
    refine jA (jG (v := .slice ya y.length yc) rfl) <| jA (jG (v := nv n) rfl) <| jE <| jB <| jN <| ju (L' := [Res.rows (rdsRS ya yc y), rS a_2 c_3 (linesOf t)]) (fun w hw => hw.consR (r := ⟨.slice ya y.length yc, 49, 1, y.length, y.flatMap encR⟩) (A := y.flatMap rdsR) [1, 0] rfl) <| kC (.inl rfl) rfl (jJ (v := .slice ya y.length yc) rfl) (jJ (v := nv n) rfl) (tS 1 _) ?_
    have he := recs_end (by omega) hR
    exact ⟨ya, yc, y, by rw [he] <;> rfl, by rw [he] <;> rfl, rfl⟩
  refine jW (cB (cN h_1)) <| jC <| jF <| jA (jG (v := .slice none 0 0) rfl) <| jA (jG (v := iv 0) rfl) <| jE <| jB <| jN <| jX <| JQ.nilRow 49 1 ?_
  refine ju (L' := [Res.rows (rdsRS none 0 ([] : List RX))]) (fun w hw => hw.closeR (A := rdsRS none 0 ([] : List RX)) [0] rfl) <| kC (.inl rfl) rfl (jJ (v := .slice none 0 0) rfl) (jJ (v := iv 0) rfl) (List.Sublist.refl _) ?_
  have he : recsOf t f = ([], 0) := by rw [recsOf, if_neg (by rw [h_1]; exact Bool.false_ne_true)]
  exact ⟨none, 0, [], by rw [he]; rfl, by rw [he] <;> rfl, rfl⟩

set_option maxRecDepth 4000 in
set_option maxHeartbeats 1000000 in
theorem Y_sRecs (t : Str) (f : Int) (ht : t.length ≤ 100000000) :
    Ct Tryz.prog 69 [str t, .int .i64 f] [] (fun _ => True) (fun v A' => ∃ a c y, y.map cellsR = (recsOf t f).1 ∧ v = .tuple #[.slice a y.length c, .int .i64 (((recsOf t f).2 : Nat) : Int)] ∧ A' = [.rows (rdsRS a c y)]) := by
  refine Ct.intro Tryz.func69 rfl Tryz.ntmps69 (lb rfl) fun w0 hpre => ?_
  refine jC <| jF <| jA (jG (v := .slice none 0 0) rfl) <| jA (jG (v := iv 0) rfl) <| jE <| jB <| jC <| jF ?_
  refine jH rfl (kH (ps := []) (cur := #[]) kx gM Tryz.zeroValue49 rfl (by kernel_rfl) (by decide) (by decide)) ?_
  rintro _ _ ⟨a_1, rfl, rfl⟩
  refine jA (jG (v := .slice a_1 0 0) rfl) <| jE <| jB <| jC <| jC <| jF <| jA (jD (v := iv f) rfl) ?_
  refine jH rfl (jI [] Tryz.call89 rfl (Y_l01In f 1 100000) rfl (fun _ _ => trivial)) ?_
  rintro _ _ ⟨_, ⟨rfl, rfl⟩, rfl⟩
  refine jA (jp rfl) <| jE <| jB ?_
  rcases Bool.eq_false_or_eq_true (within 1 f 100000) with h_2 | h_2
  · refine jR (cB (cN h_2)) <| jT <| jB <| jC ?_
    have hwi := h_2
    have hwj := (show 1 ≤ f ∧ f ≤ 100000 by simpa only [within, Bool.and_eq_true, decide_eq_true_eq] using hwi)
    have hll : (linesOf t).length ≤ t.length := linesG_len t []
    refine jF <| jA (jD (v := str t) rfl) ?_
    refine jH rfl (jI [] Tryz.call57 rfl (Y_sLines t (by omega)) rfl (fun _ _ => trivial)) ?_
    rintro _ _ ⟨_, ⟨a_3, c_4, rfl, rfl⟩, rfl⟩
    refine jA (jG (v := .slice a_3 ((linesOf t).length) c_4) rfl) <| jE <| jB <| jC <| jF <| jA (jG (v := iv 0) rfl) <| jE <| jB <| jC <| jC ?_
    refine jF <| jA (jG (v := iv 0) rfl) <| jE <| jB <| jf <| kT (L' := [Res.rows (([] : List RX).flatMap rdsR), Res.row (.slice a_1 0 0) 49 1 0 (([] : List RX).flatMap encR), rS a_3 c_4 (linesOf t)]) (fun w hw => hw.nilR (α := RX) (f := rdsR) [1] (B := [Res.row (.slice a_1 0 0) 49 1 0 (([] : List RX).flatMap encR)]) (F := [rS a_3 c_4 (linesOf t)]) rfl) <| kD (fun k_ e_ L_ => ∃ i : Nat, ∃ n : Nat, ∃ ya : Option Addr, ∃ yc : Nat, ∃ y : List RX, (i ≤ (linesOf t).length) ∧ (y.length ≤ i) ∧ (n + sumLen ((linesOf t).drop i) ≤ t.length) ∧ (recsOf t f = (y.map cellsR ++ (recsG f y.length ((linesOf t).drop i)).1, n + (recsG f y.length ((linesOf t).drop i)).2)) ∧ e_ 1 = iv f ∧ e_ 4 = .slice none 0 0 ∧ e_ 5 = iv 0 ∧ e_ 6 = .slice ya y.length yc ∧ e_ 7 = .slice a_3 ((linesOf t).length) c_4 ∧ e_ 8 = nv n ∧ e_ 9 = nv i ∧ L_ = [Res.rows (y.flatMap rdsR), Res.row (.slice ya y.length yc) 49 1 y.length (y.flatMap encR), rS a_3 c_4 (linesOf t)] ∧ k_ = (linesOf t).length - i) _ ⟨0, 0, a_1, 0, [], by omega, by simp, (by have h_ := linesG_sum t []; simp only [List.length_nil, Nat.zero_add, List.drop_zero] at *; exact h_), (by rw [recsOf, if_pos hwi]; simp), rfl, rfl, rfl, rfl, rfl, rfl, rfl, rfl, rfl⟩ ?_
    rintro _ e_5 _ ⟨i, n, ya, yc, y, hi, hyl, hn, hR, he_6, he_7, he_8, he_9, he_10, he_11, he_12, rfl, rfl⟩
    refine jC <| jC <| jF <| jA (jD (v := nv i) he_12) <| jA (jD (v := .slice a_3 ((linesOf t).length) c_4) he_10) <| jA (jr ku rfl) <| jA (jl rfl rfl) <| jE <| jB ?_
    by_cases h_13 : ((i : Nat) : Int) < (((linesOf t).length : Nat) : Int)
    · have hlt : i < (linesOf t).length := by omega
      have hml : ((linesOf t).getD i []).length ≤ 0 + t.length := linesG_mem t [] _ (getD_mem (d := []) hlt)
      have hsl : sumLen ((linesOf t).drop i) = ((linesOf t).getD i []).length + sumLen ((linesOf t).drop (i + 1)) := sumLen_step hlt
      refine jW (cB (dT h_13)) <| jT <| jB <| jC <| jf <| jC <| jF <| jA (jD (v := .slice a_3 ((linesOf t).length) c_4) he_10) <| jA (jD (v := nv i) he_12) ?_
      refine kN fun hst => ?_
      obtain ⟨hr_14, hr_14b, -⟩ := row_some 2 rfl (by omega) hst
      refine jA (jk (i := i) ku kt hr_14 hr_14b rfl rfl (by omega)) <| jK (ka 2 (v := str ((linesOf t).getD i [])) rfl rfl ki (atS (by omega))) ?_
      refine jH rfl (jI [] Tryz.call58 rfl (Y_sRead ((linesOf t).getD i []) (by omega)) rfl (fun _ _ => trivial)) ?_
      rintro _ _ ⟨_, ⟨a_15, c_16, rfl, rfl⟩, rfl⟩
      refine jA (jD (v := .tuple #[iv ((readI ((linesOf t).getD i [])).1), .slice a_15 ((readI ((linesOf t).getD i [])).2.1.length) c_16, .bool ((readI ((linesOf t).getD i [])).2.2)]) rfl) <| jA (je (v := iv ((readI ((linesOf t).getD i [])).1)) rfl rfl) <| jA (je (v := .slice a_15 ((readI ((linesOf t).getD i [])).2.1.length) c_16) rfl rfl) <| jA (je (v := .bool ((readI ((linesOf t).getD i [])).2.2)) rfl rfl) <| jA (jG (v := iv ((readI ((linesOf t).getD i [])).1)) rfl) <| jA (jG (v := .slice a_15 ((readI ((linesOf t).getD i [])).2.1.length) c_16) rfl) <| jA (jG (v := .bool ((readI ((linesOf t).getD i [])).2.2)) rfl) <| jE <| jB <| jC ?_
      refine jC <| jF <| jA (jD (v := .bool ((readI ((linesOf t).getD i [])).2.2)) rfl) <| jA (jp rfl) <| jA (jD (v := .bool (!((readI ((linesOf t).getD i [])).2.2))) rfl) ?_
      rcases Bool.eq_false_or_eq_true ((readI ((linesOf t).getD i [])).2.2) with h_17 | h_17
      · refine jM rfl rfl rfl (cB (cN h_17)) (jP (jU (jD (v := iv ((readI ((linesOf t).getD i [])).1)) rfl))) ?_
        rintro _ _ ⟨rfl, rfl⟩
        refine jM rfl rfl rfl (cB (cN h_17)) (jP (jU (jD (v := iv f) he_6))) ?_
        rintro _ _ ⟨rfl, rfl⟩
        refine jM rfl rfl rfl (cB (cN h_17)) (jP (jU (jD (v := .slice ya y.length yc) he_9))) ?_
        rintro _ _ ⟨rfl, rfl⟩
        refine jM rfl rfl rfl (cB (cN h_17)) (jP (jU (jr kx rfl))) ?_
        rintro _ _ ⟨rfl, rfl⟩
        refine jM rfl rfl rfl (cB (cN h_17)) (jP (jU (jc (c := f + ((y.length : Nat) : Int)) rfl rfl (wr (by omega))))) ?_
        rintro _ _ ⟨rfl, rfl⟩
        refine jM rfl rfl rfl (cB (cN h_17)) (jP (jU (kS rfl rfl))) ?_
        rintro _ _ ⟨rfl, rfl⟩
        refine jM rfl rfl rfl (cB (cN h_17)) (jP (jU (jD (v := .bool (!(decide (((readI ((linesOf t).getD i [])).1) = (f + ((y.length : Nat) : Int)))))) rfl))) ?_
        rintro _ _ ⟨rfl, rfl⟩
        by_cases h_18 : ((readI ((linesOf t).getD i [])).1) = (f + ((y.length : Nat) : Int))
        · refine jS (b := false) rfl rfl rfl (cB (cN (dT h_18))) <| jS (b := false) rfl rfl rfl (cB (cN (dT h_18))) <| jS (b := false) rfl rfl rfl (cB (cN (dT h_18))) <| jS (b := false) rfl rfl rfl (cB (cN (dT h_18))) <| kP rfl rfl rfl rfl <| kP rfl rfl rfl rfl <| kP rfl rfl rfl rfl <| jS (b := false) rfl rfl rfl (cB (cN (dT h_18))) <| jM rfl rfl rfl (cB (cN h_17)) (jP (jU (ji (v := .bool false) (cB (cN (dT h_18))) rfl))) ?_
          rintro _ _ ⟨rfl, rfl⟩
          refine jA (ji (v := .bool false) (cB (cN h_17)) rfl) <| jE <| jB <| jR (cB rfl) <| jT <| jB <| jC <| jC <| jF <| jA (jD (v := iv ((readI ((linesOf t).getD i [])).1)) rfl) ?_
          refine jA (jD (v := iv f) he_6) <| jA (jD (v := .slice ya y.length yc) he_9) <| jA (jr kx rfl) <| jA (jc (c := f + ((y.length : Nat) : Int)) rfl rfl (wr (by omega))) <| jA (kO rfl rfl) <| jE <| jB <| jW (cB (dT h_18)) <| jF <| jA (jD (v := .slice ya y.length yc) he_9) ?_
          refine jA (jD (v := .slice a_15 ((readI ((linesOf t).getD i [])).2.1.length) c_16) rfl) ?_
          refine jH rfl (kH (ps := [(0, .slice a_15 ((readI ((linesOf t).getD i [])).2.1.length) c_16)]) (cur := #[.slice a_15 ((readI ((linesOf t).getD i [])).2.1.length) c_16]) kx gM Tryz.zeroValue49 rfl (by kernel_rfl) (by decide) (by decide)) ?_
          rintro _ _ ⟨a_19, rfl, rfl⟩
          refine jH rfl (kU 3 (q := 1) (news := ([(⟨⟨a_15, c_16⟩, ⟨(readI ((linesOf t).getD i [])).2.1⟩⟩ : RX)] : List RX).flatMap encR) (n' := (y ++ ([(⟨⟨a_15, c_16⟩, ⟨(readI ((linesOf t).getD i [])).2.1⟩⟩ : RX)] : List RX)).length) (cs' := (y ++ ([(⟨⟨a_15, c_16⟩, ⟨(readI ((linesOf t).getD i [])).2.1⟩⟩ : RX)] : List RX)).flatMap encR) rfl kx kx Tryz.typeInfo49 rfl (by' := 24) rfl rfl rfl rfl rfl (fun w hw => Src.sees (hw.see (i := 0) rfl) (oneR _)) (by (try simp only [LE]); omega) (by (try simp only [LE]); omega) (by simp only [List.length_append, List.length_take, List.length_drop, List.length_cons, List.length_nil] <;> first | rfl | omega) (by simp only [List.flatMap_append])) ?_
          rintro _ _ ⟨a_20, c_21, rfl, rfl⟩
          refine jA (jG (v := .slice a_20 ((y ++ ([(⟨⟨a_15, c_16⟩, ⟨(readI ((linesOf t).getD i [])).2.1⟩⟩ : RX)] : List RX)).length) c_21) rfl) <| jE <| jB <| jF <| jA (jD (v := nv n) he_11) <| jA (jD (v := .slice a_3 ((linesOf t).length) c_4) he_10) <| jA (jD (v := nv i) he_12) <| jA (jk (i := i) ku kt hr_14 hr_14b rfl rfl (by omega)) <| jK (ka 4 (v := str ((linesOf t).getD i [])) rfl rfl ki (atS (by omega))) <| jA (kF kg rfl) ?_
          refine jA (jc (c := ((n + (((linesOf t).getD i []).length) : Nat) : Int)) rfl rfl (wr (by omega))) <| jA (jG (v := iv ((n + (((linesOf t).getD i []).length) : Nat) : Int)) rfl) <| jE <| jm <| jB <| jF <| jA (jD (v := nv i) he_12) <| jA (jc (c := ((i + 1 : Nat) : Int)) rfl rfl (wr (by omega))) <| jA (jG (v := iv ((i + 1 : Nat) : Int)) rfl) <| jE ?_
          refine ju (L' := [Res.rows (rdsR (⟨⟨a_15, c_16⟩, ⟨(readI ((linesOf t).getD i [])).2.1⟩⟩ : RX)), Res.row (.slice a_19 1 1) 49 1 1 (([(⟨⟨a_15, c_16⟩, ⟨(readI ((linesOf t).getD i [])).2.1⟩⟩ : RX)] : List RX).flatMap encR), Res.rows (y.flatMap rdsR), Res.row (.slice a_20 ((y ++ ([(⟨⟨a_15, c_16⟩, ⟨(readI ((linesOf t).getD i [])).2.1⟩⟩ : RX)] : List RX)).length) c_21) 49 1 ((y ++ ([(⟨⟨a_15, c_16⟩, ⟨(readI ((linesOf t).getD i [])).2.1⟩⟩ : RX)] : List RX)).length) ((y ++ ([(⟨⟨a_15, c_16⟩, ⟨(readI ((linesOf t).getD i [])).2.1⟩⟩ : RX)] : List RX)).flatMap encR), rS a_3 c_4 (linesOf t)]) (fun w hw => hw.closeR (A := rdsR (⟨⟨a_15, c_16⟩, ⟨(readI ((linesOf t).getD i [])).2.1⟩⟩ : RX)) [1] rfl) <| ju (L' := [Res.rows ((y ++ [(⟨⟨a_15, c_16⟩, ⟨(readI ((linesOf t).getD i [])).2.1⟩⟩ : RX)]).flatMap rdsR), Res.row (.slice a_19 1 1) 49 1 1 (([(⟨⟨a_15, c_16⟩, ⟨(readI ((linesOf t).getD i [])).2.1⟩⟩ : RX)] : List RX).flatMap encR), Res.row (.slice a_20 ((y ++ ([(⟨⟨a_15, c_16⟩, ⟨(readI ((linesOf t).getD i [])).2.1⟩⟩ : RX)] : List RX)).length) c_21) 49 1 ((y ++ ([(⟨⟨a_15, c_16⟩, ⟨(readI ((linesOf t).getD i [])).2.1⟩⟩ : RX)] : List RX)).length) ((y ++ ([(⟨⟨a_15, c_16⟩, ⟨(readI ((linesOf t).getD i [])).2.1⟩⟩ : RX)] : List RX)).flatMap encR), rS a_3 c_4 (linesOf t)]) (fun w hw => hw.addR [2, 0] rfl flatMap_snoc) <| kB [0, 1, 1] (A := [Res.rows ((y ++ [(⟨⟨a_15, c_16⟩, ⟨(readI ((linesOf t).getD i [])).2.1⟩⟩ : RX)]).flatMap rdsR), Res.row (.slice a_20 ((y ++ ([(⟨⟨a_15, c_16⟩, ⟨(readI ((linesOf t).getD i [])).2.1⟩⟩ : RX)] : List RX)).length) c_21) 49 1 ((y ++ [(⟨⟨a_15, c_16⟩, ⟨(readI ((linesOf t).getD i [])).2.1⟩⟩ : RX)]).length) ((y ++ [(⟨⟨a_15, c_16⟩, ⟨(readI ((linesOf t).getD i [])).2.1⟩⟩ : RX)]).flatMap encR), rS a_3 c_4 (linesOf t)]) rfl ?_
          refine jq ((linesOf t).length - (i + 1)) (by omega) ⟨i + 1, n + (((linesOf t).getD i []).length), a_20, c_21, (y ++ [(⟨⟨a_15, c_16⟩, ⟨(readI ((linesOf t).getD i [])).2.1⟩⟩ : RX)]), by omega, (by simp only [List.length_append, List.length_cons, List.length_nil]; omega), by omega, (by have h_ := recs_take hlt h_17 (by omega) hR; rw [List.map_append, List.length_append]; exact h_), he_6, he_7, he_8, rfl, he_10, rfl, rfl, rfl, rfl⟩
        refine jM rfl rfl rfl (cB (cN (dF h_18))) (jP (jU (jD (v := .slice ya y.length yc) he_9))) ?_
        rintro _ _ ⟨rfl, rfl⟩
        refine jM rfl rfl rfl (cB (cN (dF h_18))) (jP (jU (jr kx rfl))) ?_
        rintro _ _ ⟨rfl, rfl⟩
        refine jM rfl rfl rfl (cB (cN (dF h_18))) (jP (jU (kR rfl rfl))) ?_
        rintro _ _ ⟨rfl, rfl⟩
        refine jM rfl rfl rfl (cB (cN (dF h_18))) (jP (jU (jD (v := .bool (decide (0 < ((y.length : Nat) : Int)))) rfl))) ?_
        rintro _ _ ⟨rfl, rfl⟩
        by_cases h_22 : 0 < ((y.length : Nat) : Int)
        · refine jS (b := true) rfl rfl rfl (cB (dT h_22)) <| jS (b := true) rfl rfl rfl (cB (dT h_22)) <| jS (b := true) rfl rfl rfl (cB (dT h_22)) <| jM rfl rfl rfl (cB (cN (dF h_18))) (jP (jU (jh (v := .bool true) (cB (dT h_22)) rfl))) ?_
          rintro _ _ ⟨rfl, rfl⟩
          refine jM rfl rfl rfl (cB (cN h_17)) (jP (jU (jh (v := .bool true) (cB (cN (dF h_18))) rfl))) ?_
          rintro _ _ ⟨rfl, rfl⟩
          refine jA (ji (v := .bool true) (cB (cN h_17)) rfl) <| jE <| jB <| jW (cB rfl) <| jx <| jb <| JQ.blockO rfl <| jb <| jb <| jy ?_
          refine jB <| jC <| jF <| jA (jD (v := .slice ya y.length yc) he_9) <| jA (jD (v := nv n) he_11) <| jA (jG (v := .slice ya y.length yc) rfl) <| jA (jG (v := nv n) rfl) <| jE <| jB <| jN ?_
          refine ju (L' := [Res.rows (rdsRS ya yc y), Res.row (.slice a_15 ((readI ((linesOf t).getD i [])).2.1.length) c_16) 48 2 (((readI ((linesOf t).getD i [])).2.1).length) (((readI ((linesOf t).getD i [])).2.1).flatMap encC), rS a_3 c_4 (linesOf t)]) (fun w hw => hw.consR (r := ⟨.slice ya y.length yc, 49, 1, y.length, y.flatMap encR⟩) (A := y.flatMap rdsR) [2, 1] rfl) <| kC (.inl rfl) rfl (jJ (v := .slice ya y.length yc) rfl) (jJ (v := nv n) rfl) (tS 1 _) ?_
          have he := recs_stop hlt h_17 (by omega) (by omega) hR
          exact ⟨ya, yc, y, by rw [he] <;> rfl, by rw [he] <;> rfl, rfl⟩
        refine jM rfl rfl rfl (cB (dF h_22)) (jP (jU (jD (v := iv ((readI ((linesOf t).getD i [])).1)) rfl))) ?_
        rintro _ _ ⟨rfl, rfl⟩
        refine jM rfl rfl rfl (cB (dF h_22)) (jP (jU (jD (v := iv f) he_6))) ?_
        rintro _ _ ⟨rfl, rfl⟩
        refine jM rfl rfl rfl (cB (dF h_22)) (jP (jU (kR rfl rfl))) ?_
        rintro _ _ ⟨rfl, rfl⟩
        refine jM rfl rfl rfl (cB (cN (dF h_18))) (jP (jU (ji (v := .bool (decide (f < ((readI ((linesOf t).getD i [])).1)))) (cB (dF h_22)) rfl))) ?_
        rintro _ _ ⟨rfl, rfl⟩
        refine jM rfl rfl rfl (cB (cN h_17)) (jP (jU (jh (v := .bool (decide (f < ((readI ((linesOf t).getD i [])).1)))) (cB (cN (dF h_18))) rfl))) ?_
        rintro _ _ ⟨rfl, rfl⟩
        refine jA (ji (v := .bool (decide (f < ((readI ((linesOf t).getD i [])).1)))) (cB (cN h_17)) rfl) <| jE <| jB ?_
        by_cases h_23 : f < ((readI ((linesOf t).getD i [])).1)
        · refine jW (cB (dT h_23)) <| jx <| jb <| JQ.blockO rfl <| jb <| jb <| jy <| jB <| jC <| jF ?_
          refine jA (jD (v := .slice ya y.length yc) he_9) <| jA (jD (v := nv n) he_11) <| jA (jG (v := .slice ya y.length yc) rfl) <| jA (jG (v := nv n) rfl) <| jE <| jB <| jN <| ju (L' := [Res.rows (rdsRS ya yc y), Res.row (.slice a_15 ((readI ((linesOf t).getD i [])).2.1.length) c_16) 48 2 (((readI ((linesOf t).getD i [])).2.1).length) (((readI ((linesOf t).getD i [])).2.1).flatMap encC), rS a_3 c_4 (linesOf t)]) (fun w hw => hw.consR (r := ⟨.slice ya y.length yc, 49, 1, y.length, y.flatMap encR⟩) (A := y.flatMap rdsR) [2, 1] rfl) <| kC (.inl rfl) rfl (jJ (v := .slice ya y.length yc) rfl) (jJ (v := nv n) rfl) (tS 1 _) ?_
          have he := recs_stop hlt h_17 (by omega) (by omega) hR
          exact ⟨ya, yc, y, by rw [he] <;> rfl, by rw [he] <;> rfl, rfl⟩
        refine jR (cB (dF h_23)) <| jT <| jB <| jC <| jC <| jF <| jA (jD (v := iv ((readI ((linesOf t).getD i [])).1)) rfl) <| jA (jD (v := iv f) he_6) <| jA (jD (v := .slice ya y.length yc) he_9) <| jA (jr kx rfl) ?_
        refine jA (jc (c := f + ((y.length : Nat) : Int)) rfl rfl (wr (by omega))) <| jA (kO rfl rfl) <| jE <| jB <| jR (cB (dF h_18)) <| jT <| jB <| jF <| jA (jD (v := nv n) he_11) <| jA (jD (v := .slice a_3 ((linesOf t).length) c_4) he_10) ?_
        refine jA (jD (v := nv i) he_12) <| jA (jk (i := i) ku kt hr_14 hr_14b rfl rfl (by omega)) <| jK (ka 3 (v := str ((linesOf t).getD i [])) rfl rfl ki (atS (by omega))) <| jA (kF kg rfl) <| jA (jc (c := ((n + (((linesOf t).getD i []).length) : Nat) : Int)) rfl rfl (wr (by omega))) <| jA (jG (v := iv ((n + (((linesOf t).getD i []).length) : Nat) : Int)) rfl) <| jE <| jm <| jB <| jF ?_
        refine jA (jD (v := nv i) he_12) <| jA (jc (c := ((i + 1 : Nat) : Int)) rfl rfl (wr (by omega))) <| jA (jG (v := iv ((i + 1 : Nat) : Int)) rfl) <| jE <| kB [1, 1, 1] (A := [Res.rows (y.flatMap rdsR), Res.row (.slice ya y.length yc) 49 1 y.length (y.flatMap encR), rS a_3 c_4 (linesOf t)]) rfl ?_
        refine jq ((linesOf t).length - (i + 1)) (by omega) ⟨i + 1, n + (((linesOf t).getD i []).length), ya, yc, y, by omega, by omega, by omega, (recs_skip hlt h_17 (by omega) hR), he_6, he_7, he_8, he_9, he_10, rfl, rfl, rfl, rfl⟩
      refine jS (b := true) rfl rfl rfl (cB (cN h_17)) <| jS (b := true) rfl rfl rfl (cB (cN h_17)) <| jS (b := true) rfl rfl rfl (cB (cN h_17)) <| jS (b := true) rfl rfl rfl (cB (cN h_17)) <| jS (b := true) rfl rfl rfl (cB (cN h_17)) <| jS (b := true) rfl rfl rfl (cB (cN h_17)) <| jS (b := true) rfl rfl rfl (cB (cN h_17)) <| kP rfl rfl rfl rfl <| kP rfl rfl rfl rfl <| kP rfl rfl rfl rfl ?_
      refine kP rfl rfl rfl rfl <| kP rfl rfl rfl rfl <| kP rfl rfl rfl rfl <| kP rfl rfl rfl rfl <| kP rfl rfl rfl rfl <| jS (b := true) rfl rfl rfl (cB (cN h_17)) <| jA (jh (v := .bool true) (cB (cN h_17)) rfl) <| jE <| jB <| jW (cB rfl) ?_
      refine jx <| jb <| JQ.blockO rfl <| jb <| jb <| jy <| jB <| jC <| jF <| jA (jD (v := .slice ya y.length yc) he_9) ?_
      refine jA (jD (v := nv n) he_11) <| jA (jG (v := .slice ya y.length yc) rfl) <| jA (jG (v := nv n) rfl) <| jE <| jB <| jN <| ju (L' := [Res.rows (rdsRS ya yc y), Res.row (.slice a_15 ((readI ((linesOf t).getD i [])).2.1.length) c_16) 48 2 (((readI ((linesOf t).getD i [])).2.1).length) (((readI ((linesOf t).getD i [])).2.1).flatMap encC), rS a_3 c_4 (linesOf t)]) (fun w hw => hw.consR (r := ⟨.slice ya y.length yc, 49, 1, y.length, y.flatMap encR⟩) (A := y.flatMap rdsR) [2, 1] rfl) <| kC (.inl rfl) rfl (jJ (v := .slice ya y.length yc) rfl) (jJ (v := nv n) rfl) (tS 1 _) ?_
      have he := recs_bad hlt h_17 hR
      exact ⟨ya, yc, y, by rw [he] <;> rfl, by rw [he] <;> rfl, rfl⟩
    refine jR (cB (dF h_13)) <| jx <| jb <| jb <| jy <| jB <| jC <| jF <| jA (jD (v := .slice ya y.length yc) he_9) <| jA (jD (v := nv n) he_11) ?_
    refine jA (jG (v := .slice ya y.length yc) rfl) <| jA (jG (v := nv n) rfl) <| jE <| jB <| jN <| ju (L' := [Res.rows (rdsRS ya yc y), rS a_3 c_4 (linesOf t)]) (fun w hw => hw.consR (r := ⟨.slice ya y.length yc, 49, 1, y.length, y.flatMap encR⟩) (A := y.flatMap rdsR) [1, 0] rfl) <| kC (.inl rfl) rfl (jJ (v := .slice ya y.length yc) rfl) (jJ (v := nv n) rfl) (tS 1 _) ?_
    have he := recs_end (by omega) hR
    exact ⟨ya, yc, y, by rw [he] <;> rfl, by rw [he] <;> rfl, rfl⟩
  refine jW (cB (cN h_2)) <| jC <| jF <| jA (jD (v := .slice a_1 0 0) rfl) <| jA (jG (v := .slice a_1 0 0) rfl) <| jA (jG (v := iv 0) rfl) <| jE <| jB <| jN <| jX ?_
  refine ju (L' := [Res.rows (rdsRS a_1 0 ([] : List RX))]) (fun w hw => hw.closeR (A := rdsRS a_1 0 ([] : List RX)) [0] rfl) <| kC (.inl rfl) rfl (jJ (v := .slice a_1 0 0) rfl) (jJ (v := iv 0) rfl) (List.Sublist.refl _) ?_
  have he : recsOf t f = ([], 0) := by rw [recsOf, if_neg (by rw [h_2]; exact Bool.false_ne_true)]
  exact ⟨a_1, 0, [], by rw [he]; rfl, by rw [he] <;> rfl, rfl⟩

end Go.Proofs.YtjncpgcccgdeiaaGreatDoor

set_option linter.unusedSimpArgs false
set_option linter.unusedVariables false
set_option linter.unnecessarySimpa false
namespace Go.Proofs.YtjncpgcccgdeiaaGreatDoor
open Go Go.RowKit
attribute [local irreducible] JL JC JQ JO LO PO JA JX Ct

theorem Z_cloneO (a : Option Addr) (c : Nat) (s : List OX) (hn : s.length ≤ 1000000000000) :
    Ct Tryz.prog 109 [.slice a s.length c] [] (fun w_ => Sees w_ (.slice a s.length c) 3 s.length (s.flatMap encO)) (fun v A' => ∃ a' c', v = .slice a' s.length c' ∧ A' = [.row (.slice a' s.length c') 60 3 s.length (s.flatMap encO)]) := by
  refine Ct.intro Tryz.func109 rfl Tryz.ntmps109 (lb rfl) fun w0 hpre => ?_
  have hs_a : Sees w0 _ _ _ _ := hpre
  refine jC <| jF <| jA (jG (v := .slice none 0 0) rfl) <| jE <| jB <| jC <| jC <| jF <| jA (jD (v := .slice a s.length c) rfl) <| jA (PO.eqNil km rfl rfl) ?_
  refine jE <| jB ?_
  rcases Bool.eq_false_or_eq_true (a.isNone) with h_1 | h_1
  · refine jW (cB h_1) <| jC <| jF <| jA (jG (v := .slice none 0 0) rfl) <| jE <| jB <| jN <| jX <| JQ.nilrow 60 3 <| jV (.inl rfl) rfl (jJ (v := .slice none 0 0) rfl) (List.Sublist.refl _) ?_
    have ha : a = none := by simpa using h_1
    have hz : s.length = 0 := sees_none (ha ▸ hpre)
    have hs0 : s = [] := List.length_eq_zero_iff.1 hz
    subst hs0
    exact ⟨none, 0, rfl, rfl⟩
  refine jR (cB h_1) <| jT <| jB <| jC <| jF ?_
  refine jH rfl (kH (ps := []) (cur := #[]) km kj gD rfl (by kernel_rfl) (by decide) (by decide)) ?_
  rintro _ _ ⟨a_2, rfl, rfl⟩
  refine jA (jD (v := .slice a s.length c) rfl) ?_
  refine jH rfl (kU 0 (q := s.length) (news := s.flatMap encO) (n' := s.length) (cs' := s.flatMap encO) rfl km km Tryz.typeInfo60 rfl (by' := 40) rfl rfl rfl rfl rfl (fun w hw => Src.sees (hw.seeOut_ hs_a nM) (oneO _)) (by (try simp only [LE]); omega) (by (try simp only [LE]); omega) (by (try simp only [List.length_take, List.length_drop]); first | rfl | omega) rfl) ?_
  rintro _ _ ⟨a_3, c_4, rfl, rfl⟩
  refine jA (jG (v := .slice a_3 s.length c_4) rfl) <| jE <| jB <| jN <| jV (.inl rfl) rfl (jJ (v := .slice a_3 s.length c_4) rfl) (List.Sublist.refl _) ?_
  exact ⟨_, _, rfl, rfl⟩

set_option maxRecDepth 4000 in
set_option maxHeartbeats 1000000 in
theorem Z_implDiskclone (d : DX) (hl : d.dat.lim 1000000000) :
    Ct Tryz.prog 62 [.agg #[.slice d.a d.l.length d.c, str d.jt, .int .i64 d.js]] [] (fun w => SeesA w (rdsD d)) (fun v A' => ∃ y : DX, y.dat = d.dat ∧ v = .agg #[.slice y.a y.l.length y.c, str y.jt, .int .i64 y.js] ∧ A' = [.rows (rdsD y)]) := by
  refine Ct.intro Tryz.func62 rfl Tryz.ntmps62 (lb rfl) fun w0 hpre => ?_
  have hs_1 : Sees w0 (.slice d.a d.l.length d.c) 3 d.l.length (d.l.flatMap encO) := (hpre).head
  have hi_2 : SeesA w0 (d.l.flatMap rdsO) := (hpre).tail
  have hlm : d.l.length ≤ 1000000000 ∧ ∀ q ∈ d.l, q.t.lim 1000000000 := ⟨by have := hl.l0; simpa only [DX.dat, List.length_map] using this, fun q hq => hl.l1 _ (List.mem_map_of_mem hq)⟩
  have hlm0 := hlm.1
  refine jC <| jF ?_
  refine jH rfl (kG (cs := [.slice d.a d.l.length d.c, str d.jt, iv d.js]) rfl rfl) ?_
  rintro _ _ ⟨b_3, rfl, rfl⟩
  refine jH rfl (jo (z := .agg #[.slice none 0 0, str [], iv 0]) (cs := [.slice none 0 0, str [], iv 0]) ko rfl) ?_
  rintro _ _ ⟨b_4, rfl, rfl⟩
  refine jE <| jB <| jC <| kJ [bk b_4 31 [.slice none 0 0, str [], iv 0], bk b_3 31 [.slice d.a d.l.length d.c, str d.jt, iv d.js]] 7 mixed (by simp) <| jL 0 rfl (jQ fo31_0 rfl) <| jw 1 rfl (jZ 1 (v := .slice d.a d.l.length d.c) rfl rfl ks rfl) <| jL 3 rfl (jQ fo31_1 rfl) <| jw 4 rfl (jO 1 (vs := [str d.jt, iv d.js]) rfl rfl kp kl rfl rfl) ?_
  refine JA.two (i := 2) (j := 6) (by kernel_rfl) ?_ ?_
  · refine jz rfl rfl (jI [] Tryz.call109 rfl (Z_cloneO d.a d.c d.l (by omega)) rfl (fun w hw => hw.seeOut_ hs_1 nM)) ?_
    rintro _ _ ⟨_, ⟨a_12, c_13, rfl, rfl⟩, rfl⟩
    refine ⟨by simp, ?_⟩
    refine jL 5 rfl (kW (ps := [(0, .slice a_12 d.l.length c_13), (1, .agg #[str d.jt, iv d.js])]) (cs := [.slice a_12 d.l.length c_13, str d.jt, iv d.js]) rfl (by kernel_rfl)) <| jj (i := 6) ?_
    refine jz rfl rfl (jo (z := .agg #[.slice none 0 0, str [], iv 0]) (cs := [.slice none 0 0, str [], iv 0]) ko rfl) ?_
    rintro _ _ ⟨b_15, rfl, rfl⟩
    refine ⟨by simp, ?_⟩
    refine jj (i := 7) ?_
    refine JX.ls rfl (ja 0 (vs := [.slice a_12 d.l.length c_13, str d.jt, iv d.js]) (cs' := [.slice a_12 d.l.length c_13, str d.jt, iv d.js]) rfl rfl rfl rfl kd rfl rfl (lb rfl) rfl) ?_
    rintro _ _ rfl
    refine jB <| jC <| jC <| jF <| jA (jQ fo31_0 rfl) <| jK (jZ 0 (v := .slice a_12 d.l.length c_13) rfl rfl ks rfl) <| jA (jr km rfl) <| jA (jD (v := iv 0) rfl) <| jE <| jB ?_
    refine jf <| kT (L' := [Res.rows (([] : List OX).flatMap rdsO), Res.row (.slice a_12 d.l.length c_13) 60 3 d.l.length (d.l.flatMap encO), bk b_15 31 [.slice a_12 d.l.length c_13, str d.jt, iv d.js], bk b_4 31 [.slice none 0 0, str [], iv 0], bk b_3 31 [.slice d.a d.l.length d.c, str d.jt, iv d.js]]) (fun w hw => hw.nilR (α := OX) (f := rdsO) [1] (B := [Res.row (.slice a_12 d.l.length c_13) 60 3 d.l.length (d.l.flatMap encO)]) (F := [bk b_15 31 [.slice a_12 d.l.length c_13, str d.jt, iv d.js], bk b_4 31 [.slice none 0 0, str [], iv 0], bk b_3 31 [.slice d.a d.l.length d.c, str d.jt, iv d.js]]) rfl) <| kD (fun k_ e_ L_ => ∃ j : Nat, ∃ y : List OX, (j ≤ d.l.length) ∧ (y.map OX.t = (d.l.take j).map OX.t) ∧ (y.length = j) ∧ e_ 2 = .pointer (some ⟨b_4, 0, none⟩) ∧ e_ 3 = .pointer (some ⟨b_15, 0, none⟩) ∧ e_ 13 = nv d.l.length ∧ e_ 14 = nv j ∧ L_ = [Res.rows (y.flatMap rdsO), Res.row (.slice a_12 d.l.length c_13) 60 3 d.l.length ((y ++ d.l.drop j).flatMap encO), bk b_15 31 [.slice a_12 d.l.length c_13, str d.jt, iv d.js], bk b_4 31 [.slice none 0 0, str [], iv 0], bk b_3 31 [.slice d.a d.l.length d.c, str d.jt, iv d.js]] ∧ k_ = d.l.length - j) _ ⟨0, [], by omega, rfl, rfl, rfl, rfl, rfl, rfl, rfl, rfl⟩ ?_
    rintro _ e_16 _ ⟨j, y, hj, hd, hyl, he_17, he_18, he_19, he_20, rfl, rfl⟩
    refine jC <| jF <| jA (jl he_20 he_19) <| jE <| jB <| jC ?_
    by_cases h_21 : ((j : Nat) : Int) < ((d.l.length : Nat) : Int)
    · have hlt : j < d.l.length := by omega
      refine kT (L' := [Res.row (.slice a_12 d.l.length c_13) 60 3 d.l.length (mid encO y [iv ((d.l.getD j o0).t.seq), .slice ((d.l.getD j o0).x.a0) ((d.l.getD j o0).t.cells.length) ((d.l.getD j o0).x.c0), .bool ((d.l.getD j o0).t.whole)] (d.l.drop (j + 1))), Res.rows (y.flatMap rdsO), bk b_15 31 [.slice a_12 d.l.length c_13, str d.jt, iv d.js], bk b_4 31 [.slice none 0 0, str [], iv 0], bk b_3 31 [.slice d.a d.l.length d.c, str d.jt, iv d.js]]) (fun w hw => hw.midR 1 rfl o0 hlt) ?_
      have hi_22 := SeesA.elem hi_2 o0 hlt
      have hs_23 := seesO hi_22
      obtain ⟨hb_24⟩ : (d.l.getD j o0).t.lim 1000000000 := (hlm.2 _ (getD_mem (show j < d.l.length by omega)))
      refine jW (cB (dT h_21)) <| jT <| jB <| jC <| jf <| jC <| jF <| jA (jD (v := nv j) he_20) <| jA (jG (v := nv j) rfl) <| jE ?_
      refine jB <| kJ [Res.row (.slice a_12 d.l.length c_13) 60 3 d.l.length (mid encO y [iv ((d.l.getD j o0).t.seq), .slice ((d.l.getD j o0).x.a0) ((d.l.getD j o0).t.cells.length) ((d.l.getD j o0).x.c0), .bool ((d.l.getD j o0).t.whole)] (d.l.drop (j + 1))), Res.rows (y.flatMap rdsO), bk b_15 31 [.slice a_12 d.l.length c_13, str d.jt, iv d.js], bk b_4 31 [.slice none 0 0, str [], iv 0], bk b_3 31 [.slice d.a d.l.length d.c, str d.jt, iv d.js]] 10 mixed (by simp) <| jL 0 rfl (jQ fo31_0 he_18) <| jw 1 rfl (jZ 2 (v := .slice a_12 d.l.length c_13) rfl rfl ks rfl) <| jL 2 rfl (jD (v := nv j) rfl) <| jL 3 rfl (jQ fo31_0 he_18) <| jw 4 rfl (jZ 2 (v := .slice a_12 d.l.length c_13) rfl rfl ks rfl) <| jL 5 rfl (jD (v := nv j) rfl) ?_
      refine JA.facts fun hst => ?_
      obtain ⟨hr_25, hr_25b, -⟩ := row_some 0 rfl (by omega) hst
      refine jL 6 rfl (jk (i := j) km kj hr_25 hr_25b rfl rfl (by omega)) <| jL 7 rfl (kL fo60_1 hr_25 rfl) <| jw 8 rfl (ka 0 (v := .slice ((d.l.getD j o0).x.a0) ((d.l.getD j o0).t.cells.length) ((d.l.getD j o0).x.c0)) rfl rfl kz (mid_at encO_len rfl hyl 1 (by decide))) <| jj (i := 9) ?_
      refine jz rfl rfl (jI [] Tryz.call74 rfl (C_cloneC (d.l.getD j o0).x.a0 ((d.l.getD j o0).x.c0) ((d.l.getD j o0).t.cells) (by omega)) rfl (fun w hw => hw.seeOut_ hs_23 nM)) ?_
      rintro _ _ ⟨_, ⟨a_28, c_29, rfl, rfl⟩, rfl⟩
      refine ⟨by simp, ?_⟩
      refine jL 10 rfl (jk (i := j) km kj hr_25 hr_25b rfl rfl (by omega)) <| jL 11 rfl (kL fo60_1 hr_25 rfl) <| jj (i := 12) ?_
      refine JX.ls rfl (JO.storeR 1 (vs := [.slice a_28 (((d.l.getD j o0).t.cells).length) c_29]) (cs' := mid encO y [iv ((d.l.getD j o0).t.seq), .slice a_28 (((d.l.getD j o0).t.cells).length) c_29, .bool ((d.l.getD j o0).t.whole)] (d.l.drop (j + 1))) rfl rfl rfl rfl gM rfl rfl (by decide) (mid_fit encO_len rfl hyl (f := 1) (lb rfl)) (mid_set encO_len rfl hyl 1 [.slice a_28 (((d.l.getD j o0).t.cells).length) c_29] (lb rfl))) ?_
      rintro _ _ rfl
      refine jm <| jB <| jF <| jA (jc (c := ((j + 1 : Nat) : Int)) he_20 rfl (wr (by omega))) <| jA (jD (v := iv ((j + 1 : Nat) : Int)) rfl) <| jE <| ju (L' := [Res.rows (rdsO (⟨⟨a_28, c_29⟩, (d.l.getD j o0).t⟩ : OX)), Res.row (.slice a_12 d.l.length c_13) 60 3 d.l.length (mid encO y [iv ((d.l.getD j o0).t.seq), .slice a_28 (((d.l.getD j o0).t.cells).length) c_29, .bool ((d.l.getD j o0).t.whole)] (d.l.drop (j + 1))), Res.rows (y.flatMap rdsO), bk b_15 31 [.slice a_12 d.l.length c_13, str d.jt, iv d.js], bk b_4 31 [.slice none 0 0, str [], iv 0], bk b_3 31 [.slice d.a d.l.length d.c, str d.jt, iv d.js]]) (fun w hw => hw.closeR (A := rdsO (⟨⟨a_28, c_29⟩, (d.l.getD j o0).t⟩ : OX)) [0] rfl) <| ju (L' := [Res.rows ((y ++ [(⟨⟨a_28, c_29⟩, (d.l.getD j o0).t⟩ : OX)]).flatMap rdsO), Res.row (.slice a_12 d.l.length c_13) 60 3 d.l.length (((y ++ [(⟨⟨a_28, c_29⟩, (d.l.getD j o0).t⟩ : OX)]) ++ d.l.drop (j + 1)).flatMap encO), bk b_15 31 [.slice a_12 d.l.length c_13, str d.jt, iv d.js], bk b_4 31 [.slice none 0 0, str [], iv 0], bk b_3 31 [.slice d.a d.l.length d.c, str d.jt, iv d.js]]) (fun w hw => St.addR [2, 1] rfl flatMap_snoc (hw.unmid 1 rfl (q := (⟨⟨a_28, c_29⟩, (d.l.getD j o0).t⟩ : OX)) rfl)) <| kB [0, 0, 0, 0, 0] (A := [Res.rows ((y ++ [(⟨⟨a_28, c_29⟩, (d.l.getD j o0).t⟩ : OX)]).flatMap rdsO), Res.row (.slice a_12 d.l.length c_13) 60 3 d.l.length (((y ++ [(⟨⟨a_28, c_29⟩, (d.l.getD j o0).t⟩ : OX)]) ++ d.l.drop (j + 1)).flatMap encO), bk b_15 31 [.slice a_12 d.l.length c_13, str d.jt, iv d.js], bk b_4 31 [.slice none 0 0, str [], iv 0], bk b_3 31 [.slice d.a d.l.length d.c, str d.jt, iv d.js]]) rfl ?_
      refine jq (d.l.length - (j + 1)) (by omega) ⟨j + 1, (y ++ [(⟨⟨a_28, c_29⟩, (d.l.getD j o0).t⟩ : OX)]), by omega, (map_take_succ o0 hd hlt rfl), (by rw [List.length_append, hyl]; rfl), he_17, he_18, he_19, rfl, rfl, rfl⟩
    refine jR (cB (dF h_21)) <| jx <| jb <| jb <| jy <| jB <| jC <| jF <| jK (jO 2 (vs := [.slice a_12 d.l.length c_13, str d.jt, iv d.js]) rfl he_18 ke kd rfl rfl) ?_
    refine jH rfl (ja 3 (vs := [.slice a_12 d.l.length c_13, str d.jt, iv d.js]) (cs' := [.slice a_12 d.l.length c_13, str d.jt, iv d.js]) rfl he_17 rfl rfl kd rfl rfl (lb rfl) rfl) ?_
    rintro _ _ rfl
    refine jE <| jB <| jN ?_
    have hsl : d.l.length = y.length := by omega
    refine ju (L' := [Res.rows (y.flatMap rdsO), Res.row (.slice a_12 y.length c_13) 60 3 y.length (y.flatMap encO), bk b_15 31 [.slice a_12 d.l.length c_13, str d.jt, iv d.js], bk b_4 31 [.slice a_12 d.l.length c_13, str d.jt, iv d.js], bk b_3 31 [.slice d.a d.l.length d.c, str d.jt, iv d.js]]) (fun w hw => hw.eqL (by rw [List.drop_of_length_le (by omega), List.append_nil, hsl] <;> rfl)) <| ju (L' := [Res.rows (rdsOS a_12 c_13 y), bk b_15 31 [.slice a_12 d.l.length c_13, str d.jt, iv d.js], bk b_4 31 [.slice a_12 d.l.length c_13, str d.jt, iv d.js], bk b_3 31 [.slice d.a d.l.length d.c, str d.jt, iv d.js]]) (fun w hw => hw.consR (r := ⟨.slice a_12 y.length c_13, 60, 3, y.length, y.flatMap encO⟩) (A := y.flatMap rdsO) [1, 0] rfl) <| jV (.inl rfl) rfl (kA (jO 2 (vs := [.slice a_12 d.l.length c_13, str d.jt, iv d.js]) rfl he_17 ke kd rfl rfl) ⟨_, he_17⟩) (tS 1 _) ?_
    have hda := map_all hd (show d.l.length ≤ j by omega)
    exact ⟨⟨a_12, c_13, y, d.jt, d.js⟩, by simp only [DX.dat, hda], by rw [hsl], rfl⟩
  refine jz rfl rfl (jo (z := .agg #[.slice none 0 0, str [], iv 0]) (cs := [.slice none 0 0, str [], iv 0]) ko rfl) ?_
  rintro _ _ ⟨b_30, rfl, rfl⟩
  refine ⟨by simp, ?_⟩
  refine jj (i := 2) ?_
  refine jz rfl rfl (jI [] Tryz.call109 rfl (Z_cloneO d.a d.c d.l (by omega)) rfl (fun w hw => hw.seeOut_ hs_1 nM)) ?_
  rintro _ _ ⟨_, ⟨a_33, c_34, rfl, rfl⟩, rfl⟩
  refine ⟨by simp, ?_⟩
  refine jL 5 rfl (kW (ps := [(0, .slice a_33 d.l.length c_34), (1, .agg #[str d.jt, iv d.js])]) (cs := [.slice a_33 d.l.length c_34, str d.jt, iv d.js]) rfl (by kernel_rfl)) <| jj (i := 7) ?_
  refine JX.ls rfl (ja 1 (vs := [.slice a_33 d.l.length c_34, str d.jt, iv d.js]) (cs' := [.slice a_33 d.l.length c_34, str d.jt, iv d.js]) rfl rfl rfl rfl kd rfl rfl (lb rfl) rfl) ?_
  rintro _ _ rfl
  refine jB <| jC <| jC <| jF <| jA (jQ fo31_0 rfl) <| jK (jZ 1 (v := .slice a_33 d.l.length c_34) rfl rfl ks rfl) <| jA (jr km rfl) <| jA (jD (v := iv 0) rfl) <| jE <| jB ?_
  refine jf <| kT (L' := [Res.rows (([] : List OX).flatMap rdsO), Res.row (.slice a_33 d.l.length c_34) 60 3 d.l.length (d.l.flatMap encO), bk b_30 31 [.slice a_33 d.l.length c_34, str d.jt, iv d.js], bk b_4 31 [.slice none 0 0, str [], iv 0], bk b_3 31 [.slice d.a d.l.length d.c, str d.jt, iv d.js]]) (fun w hw => hw.nilR (α := OX) (f := rdsO) [0] (B := [Res.row (.slice a_33 d.l.length c_34) 60 3 d.l.length (d.l.flatMap encO)]) (F := [bk b_30 31 [.slice a_33 d.l.length c_34, str d.jt, iv d.js], bk b_4 31 [.slice none 0 0, str [], iv 0], bk b_3 31 [.slice d.a d.l.length d.c, str d.jt, iv d.js]]) rfl) <| kD (fun k_ e_ L_ => ∃ j : Nat, ∃ y : List OX, (j ≤ d.l.length) ∧ (y.map OX.t = (d.l.take j).map OX.t) ∧ (y.length = j) ∧ e_ 2 = .pointer (some ⟨b_4, 0, none⟩) ∧ e_ 3 = .pointer (some ⟨b_30, 0, none⟩) ∧ e_ 13 = nv d.l.length ∧ e_ 14 = nv j ∧ L_ = [Res.rows (y.flatMap rdsO), Res.row (.slice a_33 d.l.length c_34) 60 3 d.l.length ((y ++ d.l.drop j).flatMap encO), bk b_30 31 [.slice a_33 d.l.length c_34, str d.jt, iv d.js], bk b_4 31 [.slice none 0 0, str [], iv 0], bk b_3 31 [.slice d.a d.l.length d.c, str d.jt, iv d.js]] ∧ k_ = d.l.length - j) _ ⟨0, [], by omega, rfl, rfl, rfl, rfl, rfl, rfl, rfl, rfl⟩ ?_
  rintro _ e_35 _ ⟨j, y, hj, hd, hyl, he_36, he_37, he_38, he_39, rfl, rfl⟩
  refine jC <| jF <| jA (jl he_39 he_38) <| jE <| jB <| jC ?_
  by_cases h_40 : ((j : Nat) : Int) < ((d.l.length : Nat) : Int)
  · have hlt : j < d.l.length := by omega
    refine kT (L' := [Res.row (.slice a_33 d.l.length c_34) 60 3 d.l.length (mid encO y [iv ((d.l.getD j o0).t.seq), .slice ((d.l.getD j o0).x.a0) ((d.l.getD j o0).t.cells.length) ((d.l.getD j o0).x.c0), .bool ((d.l.getD j o0).t.whole)] (d.l.drop (j + 1))), Res.rows (y.flatMap rdsO), bk b_30 31 [.slice a_33 d.l.length c_34, str d.jt, iv d.js], bk b_4 31 [.slice none 0 0, str [], iv 0], bk b_3 31 [.slice d.a d.l.length d.c, str d.jt, iv d.js]]) (fun w hw => hw.midR 1 rfl o0 hlt) ?_
    have hi_41 := SeesA.elem hi_2 o0 hlt
    have hs_42 := seesO hi_41
    obtain ⟨hb_43⟩ : (d.l.getD j o0).t.lim 1000000000 := (hlm.2 _ (getD_mem (show j < d.l.length by omega)))
    refine jW (cB (dT h_40)) <| jT <| jB <| jC <| jf <| jC <| jF <| jA (jD (v := nv j) he_39) <| jA (jG (v := nv j) rfl) <| jE ?_
    refine jB <| kJ [Res.row (.slice a_33 d.l.length c_34) 60 3 d.l.length (mid encO y [iv ((d.l.getD j o0).t.seq), .slice ((d.l.getD j o0).x.a0) ((d.l.getD j o0).t.cells.length) ((d.l.getD j o0).x.c0), .bool ((d.l.getD j o0).t.whole)] (d.l.drop (j + 1))), Res.rows (y.flatMap rdsO), bk b_30 31 [.slice a_33 d.l.length c_34, str d.jt, iv d.js], bk b_4 31 [.slice none 0 0, str [], iv 0], bk b_3 31 [.slice d.a d.l.length d.c, str d.jt, iv d.js]] 10 mixed (by simp) <| jL 0 rfl (jQ fo31_0 he_37) <| jw 1 rfl (jZ 2 (v := .slice a_33 d.l.length c_34) rfl rfl ks rfl) <| jL 2 rfl (jD (v := nv j) rfl) <| jL 3 rfl (jQ fo31_0 he_37) <| jw 4 rfl (jZ 2 (v := .slice a_33 d.l.length c_34) rfl rfl ks rfl) <| jL 5 rfl (jD (v := nv j) rfl) ?_
    refine JA.facts fun hst => ?_
    obtain ⟨hr_44, hr_44b, -⟩ := row_some 0 rfl (by omega) hst
    refine jL 6 rfl (jk (i := j) km kj hr_44 hr_44b rfl rfl (by omega)) <| jL 7 rfl (kL fo60_1 hr_44 rfl) <| jw 8 rfl (ka 0 (v := .slice ((d.l.getD j o0).x.a0) ((d.l.getD j o0).t.cells.length) ((d.l.getD j o0).x.c0)) rfl rfl kz (mid_at encO_len rfl hyl 1 (by decide))) <| jj (i := 9) ?_
    refine jz rfl rfl (jI [] Tryz.call74 rfl (C_cloneC (d.l.getD j o0).x.a0 ((d.l.getD j o0).x.c0) ((d.l.getD j o0).t.cells) (by omega)) rfl (fun w hw => hw.seeOut_ hs_42 nM)) ?_
    rintro _ _ ⟨_, ⟨a_47, c_48, rfl, rfl⟩, rfl⟩
    refine ⟨by simp, ?_⟩
    refine jL 10 rfl (jk (i := j) km kj hr_44 hr_44b rfl rfl (by omega)) <| jL 11 rfl (kL fo60_1 hr_44 rfl) <| jj (i := 12) ?_
    refine JX.ls rfl (JO.storeR 1 (vs := [.slice a_47 (((d.l.getD j o0).t.cells).length) c_48]) (cs' := mid encO y [iv ((d.l.getD j o0).t.seq), .slice a_47 (((d.l.getD j o0).t.cells).length) c_48, .bool ((d.l.getD j o0).t.whole)] (d.l.drop (j + 1))) rfl rfl rfl rfl gM rfl rfl (by decide) (mid_fit encO_len rfl hyl (f := 1) (lb rfl)) (mid_set encO_len rfl hyl 1 [.slice a_47 (((d.l.getD j o0).t.cells).length) c_48] (lb rfl))) ?_
    rintro _ _ rfl
    refine jm <| jB <| jF <| jA (jc (c := ((j + 1 : Nat) : Int)) he_39 rfl (wr (by omega))) <| jA (jD (v := iv ((j + 1 : Nat) : Int)) rfl) <| jE <| ju (L' := [Res.rows (rdsO (⟨⟨a_47, c_48⟩, (d.l.getD j o0).t⟩ : OX)), Res.row (.slice a_33 d.l.length c_34) 60 3 d.l.length (mid encO y [iv ((d.l.getD j o0).t.seq), .slice a_47 (((d.l.getD j o0).t.cells).length) c_48, .bool ((d.l.getD j o0).t.whole)] (d.l.drop (j + 1))), Res.rows (y.flatMap rdsO), bk b_30 31 [.slice a_33 d.l.length c_34, str d.jt, iv d.js], bk b_4 31 [.slice none 0 0, str [], iv 0], bk b_3 31 [.slice d.a d.l.length d.c, str d.jt, iv d.js]]) (fun w hw => hw.closeR (A := rdsO (⟨⟨a_47, c_48⟩, (d.l.getD j o0).t⟩ : OX)) [0] rfl) <| ju (L' := [Res.rows ((y ++ [(⟨⟨a_47, c_48⟩, (d.l.getD j o0).t⟩ : OX)]).flatMap rdsO), Res.row (.slice a_33 d.l.length c_34) 60 3 d.l.length (((y ++ [(⟨⟨a_47, c_48⟩, (d.l.getD j o0).t⟩ : OX)]) ++ d.l.drop (j + 1)).flatMap encO), bk b_30 31 [.slice a_33 d.l.length c_34, str d.jt, iv d.js], bk b_4 31 [.slice none 0 0, str [], iv 0], bk b_3 31 [.slice d.a d.l.length d.c, str d.jt, iv d.js]]) (fun w hw => St.addR [2, 1] rfl flatMap_snoc (hw.unmid 1 rfl (q := (⟨⟨a_47, c_48⟩, (d.l.getD j o0).t⟩ : OX)) rfl)) <| kB [0, 0, 0, 0, 0] (A := [Res.rows ((y ++ [(⟨⟨a_47, c_48⟩, (d.l.getD j o0).t⟩ : OX)]).flatMap rdsO), Res.row (.slice a_33 d.l.length c_34) 60 3 d.l.length (((y ++ [(⟨⟨a_47, c_48⟩, (d.l.getD j o0).t⟩ : OX)]) ++ d.l.drop (j + 1)).flatMap encO), bk b_30 31 [.slice a_33 d.l.length c_34, str d.jt, iv d.js], bk b_4 31 [.slice none 0 0, str [], iv 0], bk b_3 31 [.slice d.a d.l.length d.c, str d.jt, iv d.js]]) rfl ?_
    refine jq (d.l.length - (j + 1)) (by omega) ⟨j + 1, (y ++ [(⟨⟨a_47, c_48⟩, (d.l.getD j o0).t⟩ : OX)]), by omega, (map_take_succ o0 hd hlt rfl), (by rw [List.length_append, hyl]; rfl), he_36, he_37, he_38, rfl, rfl, rfl⟩
  refine jR (cB (dF h_40)) <| jx <| jb <| jb <| jy <| jB <| jC <| jF <| jK (jO 2 (vs := [.slice a_33 d.l.length c_34, str d.jt, iv d.js]) rfl he_37 ke kd rfl rfl) ?_
  refine jH rfl (ja 3 (vs := [.slice a_33 d.l.length c_34, str d.jt, iv d.js]) (cs' := [.slice a_33 d.l.length c_34, str d.jt, iv d.js]) rfl he_36 rfl rfl kd rfl rfl (lb rfl) rfl) ?_
  rintro _ _ rfl
  refine jE <| jB <| jN ?_
  have hsl : d.l.length = y.length := by omega
  refine ju (L' := [Res.rows (y.flatMap rdsO), Res.row (.slice a_33 y.length c_34) 60 3 y.length (y.flatMap encO), bk b_30 31 [.slice a_33 d.l.length c_34, str d.jt, iv d.js], bk b_4 31 [.slice a_33 d.l.length c_34, str d.jt, iv d.js], bk b_3 31 [.slice d.a d.l.length d.c, str d.jt, iv d.js]]) (fun w hw => hw.eqL (by rw [List.drop_of_length_le (by omega), List.append_nil, hsl] <;> rfl)) <| ju (L' := [Res.rows (rdsOS a_33 c_34 y), bk b_30 31 [.slice a_33 d.l.length c_34, str d.jt, iv d.js], bk b_4 31 [.slice a_33 d.l.length c_34, str d.jt, iv d.js], bk b_3 31 [.slice d.a d.l.length d.c, str d.jt, iv d.js]]) (fun w hw => hw.consR (r := ⟨.slice a_33 y.length c_34, 60, 3, y.length, y.flatMap encO⟩) (A := y.flatMap rdsO) [1, 0] rfl) <| jV (.inl rfl) rfl (kA (jO 2 (vs := [.slice a_33 d.l.length c_34, str d.jt, iv d.js]) rfl he_36 ke kd rfl rfl) ⟨_, he_36⟩) (tS 1 _) ?_
  have hda := map_all hd (show d.l.length ≤ j by omega)
  exact ⟨⟨a_33, c_34, y, d.jt, d.js⟩, by simp only [DX.dat, hda], by rw [hsl], rfl⟩

set_option maxRecDepth 4000 in
set_option maxHeartbeats 1000000 in
theorem Z_specl23Copy (d : DX) (hl : d.dat.lim 1000000000) :
    Ct Tryz.prog 56 [.agg #[.slice d.a d.l.length d.c, str d.jt, .int .i64 d.js]] [] (fun w => SeesA w (rdsD d)) (fun v A' => ∃ y : DX, y.dat = d.dat ∧ v = .agg #[.slice y.a y.l.length y.c, str y.jt, .int .i64 y.js] ∧ A' = [.rows (rdsD y)]) := by
  refine Ct.intro Tryz.func56 rfl Tryz.ntmps56 (lb rfl) fun w0 hpre => ?_
  have hs_1 : Sees w0 (.slice d.a d.l.length d.c) 3 d.l.length (d.l.flatMap encO) := (hpre).head
  have hi_2 : SeesA w0 (d.l.flatMap rdsO) := (hpre).tail
  have hlm : d.l.length ≤ 1000000000 ∧ ∀ q ∈ d.l, q.t.lim 1000000000 := ⟨by have := hl.l0; simpa only [DX.dat, List.length_map] using this, fun q hq => hl.l1 _ (List.mem_map_of_mem hq)⟩
  have hlm0 := hlm.1
  refine jC <| jF ?_
  refine jH rfl (kG (cs := [.slice d.a d.l.length d.c, str d.jt, iv d.js]) rfl rfl) ?_
  rintro _ _ ⟨b_3, rfl, rfl⟩
  refine jH rfl (jo (z := .agg #[.slice none 0 0, str [], iv 0]) (cs := [.slice none 0 0, str [], iv 0]) ko rfl) ?_
  rintro _ _ ⟨b_4, rfl, rfl⟩
  refine jE <| jB <| jC <| jF <| jA (jQ fo31_1 rfl) <| jK (jO 1 (vs := [str d.jt, iv d.js]) rfl rfl kp kl rfl rfl) <| jA (kW (ps := [(1, .agg #[str d.jt, iv d.js])]) (cs := [.slice none 0 0, str d.jt, iv d.js]) rfl (by kernel_rfl)) ?_
  refine jH rfl (jo (z := .agg #[.slice none 0 0, str [], iv 0]) (cs := [.slice none 0 0, str [], iv 0]) ko rfl) ?_
  rintro _ _ ⟨b_5, rfl, rfl⟩
  refine jH rfl (ja 0 (vs := [.slice none 0 0, str d.jt, iv d.js]) (cs' := [.slice none 0 0, str d.jt, iv d.js]) rfl rfl rfl rfl kd rfl rfl (lb rfl) rfl) ?_
  rintro _ _ rfl
  refine jE <| jB <| jC <| jC <| jF <| jA (jG (v := iv 0) rfl) <| jE <| jB <| jf <| JC.nilRow 60 3 ?_
  refine kT (L' := [Res.rows (([] : List OX).flatMap rdsO), Res.row (.slice none 0 0) 60 3 0 (([] : List OX).flatMap encO), bk b_5 31 [.slice none 0 0, str d.jt, iv d.js], bk b_4 31 [.slice none 0 0, str [], iv 0], bk b_3 31 [.slice d.a d.l.length d.c, str d.jt, iv d.js]]) (fun w hw => hw.nilR (α := OX) (f := rdsO) [0, 0] (B := [Res.row (.slice none 0 0) 60 3 0 (([] : List OX).flatMap encO), bk b_5 31 [.slice none 0 0, str d.jt, iv d.js]]) (F := [bk b_4 31 [.slice none 0 0, str [], iv 0], bk b_3 31 [.slice d.a d.l.length d.c, str d.jt, iv d.js]]) rfl) <| kD (fun k_ e_ L_ => ∃ j : Nat, ∃ ya : Option Addr, ∃ yc : Nat, ∃ y : List OX, (j ≤ d.l.length) ∧ (y.map OX.t = (d.l.take j).map OX.t) ∧ (y.length = j) ∧ e_ 1 = .pointer (some ⟨b_3, 0, none⟩) ∧ e_ 2 = .pointer (some ⟨b_4, 0, none⟩) ∧ e_ 3 = .pointer (some ⟨b_5, 0, none⟩) ∧ e_ 4 = nv j ∧ L_ = [Res.rows (y.flatMap rdsO), Res.row (.slice ya y.length yc) 60 3 y.length (y.flatMap encO), bk b_5 31 [.slice ya y.length yc, str d.jt, iv d.js], bk b_4 31 [.slice none 0 0, str [], iv 0], bk b_3 31 [.slice d.a d.l.length d.c, str d.jt, iv d.js]] ∧ k_ = d.l.length - j) _ ⟨0, none, 0, [], by omega, rfl, rfl, rfl, rfl, rfl, rfl, rfl, rfl⟩ ?_
  rintro _ e_6 _ ⟨j, ya, yc, y, hj, hd, hyl, he_7, he_8, he_9, he_10, rfl, rfl⟩
  refine jC <| jC <| jF <| jA (jD (v := nv j) he_10) <| jA (jQ fo31_0 he_7) <| jK (jZ 4 (v := .slice d.a d.l.length d.c) rfl rfl ks rfl) <| jA (jr km rfl) <| jA (jl rfl rfl) <| jE <| jB ?_
  by_cases h_11 : ((j : Nat) : Int) < ((d.l.length : Nat) : Int)
  · have hlt : j < d.l.length := by omega
    have hb9 : (d.l.getD j o0).t.cells.length ≤ 1000000000 := (hlm.2 _ (getD_mem hlt)).l0
    refine jW (cB (dT h_11)) <| jT <| jB <| jC <| jf <| jC <| jF <| jA (jQ fo31_0 he_7) <| jK (jZ 4 (v := .slice d.a d.l.length d.c) rfl rfl ks rfl) <| jA (jD (v := nv j) he_10) ?_
    obtain ⟨hr_12, hr_12b, -⟩ := sees_some hs_1 (by omega)
    refine jA (jk (i := j) km kj hr_12 hr_12b rfl rfl (by omega)) ?_
    have hi_13 := SeesA.elem hi_2 o0 (show j < d.l.length by omega)
    have hs_14 := seesO hi_13
    refine jK (kX (vs := [iv ((d.l.getD j o0).t.seq), .slice ((d.l.getD j o0).x.a0) ((d.l.getD j o0).t.cells.length) ((d.l.getD j o0).x.c0), .bool ((d.l.getD j o0).t.whole)]) hs_1 nM rfl gB kj (flat_take encO_len o0 d.l j (by omega)) rfl (by decide)) ?_
    refine jH rfl (jo (z := .agg #[iv 0, .slice none 0 0, .bool false]) (cs := [iv 0, .slice none 0 0, .bool false]) gD rfl) ?_
    rintro _ _ ⟨b_15, rfl, rfl⟩
    refine jH rfl (ja 0 (vs := [iv ((d.l.getD j o0).t.seq), .slice ((d.l.getD j o0).x.a0) ((d.l.getD j o0).t.cells.length) ((d.l.getD j o0).x.c0), .bool ((d.l.getD j o0).t.whole)]) (cs' := [iv ((d.l.getD j o0).t.seq), .slice ((d.l.getD j o0).x.a0) ((d.l.getD j o0).t.cells.length) ((d.l.getD j o0).x.c0), .bool ((d.l.getD j o0).t.whole)]) rfl rfl rfl rfl kj rfl rfl (lb rfl) rfl) ?_
    rintro _ _ rfl
    refine jE <| jB <| jC <| jF ?_
    refine jH rfl (kH (ps := []) (cur := #[]) kf kh kw rfl (by kernel_rfl) (by decide) (by decide)) ?_
    rintro _ _ ⟨a_16, rfl, rfl⟩
    refine jA (jQ fo60_1 rfl) <| jK (jZ 1 (v := .slice ((d.l.getD j o0).x.a0) ((d.l.getD j o0).t.cells.length) ((d.l.getD j o0).x.c0)) rfl rfl kz rfl) ?_
    refine jH rfl (kU 0 (q := ((d.l.getD j o0).t.cells.length)) (news := ((d.l.getD j o0).t.cells).flatMap encC) (n' := ((d.l.getD j o0).t.cells).length) (cs' := ((d.l.getD j o0).t.cells).flatMap encC) rfl kf kf ky rfl (by' := 32) rfl rfl rfl rfl rfl (fun w hw => Src.sees (hw.seeOut_ hs_14 nM) (oneC _)) (by (try simp only [LE]); omega) (by (try simp only [LE]); omega) (by (try simp only [List.length_take, List.length_drop]); first | rfl | omega) rfl) ?_
    rintro _ _ ⟨a_17, c_18, rfl, rfl⟩
    refine jA (jQ fo60_1 rfl) ?_
    refine jH rfl (ja 1 (vs := [.slice a_17 (((d.l.getD j o0).t.cells).length) c_18]) (cs' := [iv ((d.l.getD j o0).t.seq), .slice a_17 (((d.l.getD j o0).t.cells).length) c_18, .bool ((d.l.getD j o0).t.whole)]) rfl rfl rfl rfl gM rfl rfl (lb rfl) rfl) ?_
    rintro _ _ rfl
    refine jE <| jB <| jF <| jA (jQ fo31_0 he_9) <| jK (jZ 4 (v := .slice ya y.length yc) rfl rfl ks rfl) <| jK (jO 1 (vs := [iv ((d.l.getD j o0).t.seq), .slice a_17 (((d.l.getD j o0).t.cells).length) c_18, .bool ((d.l.getD j o0).t.whole)]) rfl rfl gB kj rfl rfl) ?_
    refine jH rfl (kH (ps := [(0, .agg #[iv ((d.l.getD j o0).t.seq), .slice a_17 (((d.l.getD j o0).t.cells).length) c_18, .bool ((d.l.getD j o0).t.whole)])]) (cur := #[iv ((d.l.getD j o0).t.seq), .slice a_17 (((d.l.getD j o0).t.cells).length) c_18, .bool ((d.l.getD j o0).t.whole)]) km kj gD rfl (by kernel_rfl) (by decide) (by decide)) ?_
    rintro _ _ ⟨a_19, rfl, rfl⟩
    refine jH rfl (kU 4 (q := 1) (news := ([(⟨⟨a_17, c_18⟩, ⟨(d.l.getD j o0).t.seq, (d.l.getD j o0).t.cells, (d.l.getD j o0).t.whole⟩⟩ : OX)] : List OX).flatMap encO) (n' := (y ++ ([(⟨⟨a_17, c_18⟩, ⟨(d.l.getD j o0).t.seq, (d.l.getD j o0).t.cells, (d.l.getD j o0).t.whole⟩⟩ : OX)] : List OX)).length) (cs' := (y ++ ([(⟨⟨a_17, c_18⟩, ⟨(d.l.getD j o0).t.seq, (d.l.getD j o0).t.cells, (d.l.getD j o0).t.whole⟩⟩ : OX)] : List OX)).flatMap encO) rfl km km Tryz.typeInfo60 rfl (by' := 40) rfl rfl rfl rfl rfl (fun w hw => Src.sees (hw.see (i := 0) rfl) (oneO _)) (by (try simp only [LE]); omega) (by (try simp only [LE]); omega) (by simp only [List.length_append, List.length_take, List.length_drop, List.length_cons, List.length_nil] <;> first | rfl | omega) (by simp only [List.flatMap_append])) ?_
    rintro _ _ ⟨a_20, c_21, rfl, rfl⟩
    refine jA (jQ fo31_0 he_9) ?_
    refine jH rfl (ja 5 (vs := [.slice a_20 ((y ++ ([(⟨⟨a_17, c_18⟩, ⟨(d.l.getD j o0).t.seq, (d.l.getD j o0).t.cells, (d.l.getD j o0).t.whole⟩⟩ : OX)] : List OX)).length) c_21]) (cs' := [.slice a_20 ((y ++ ([(⟨⟨a_17, c_18⟩, ⟨(d.l.getD j o0).t.seq, (d.l.getD j o0).t.cells, (d.l.getD j o0).t.whole⟩⟩ : OX)] : List OX)).length) c_21, str d.jt, iv d.js]) rfl rfl rfl rfl Tryz.sizeOf28 rfl rfl (lb rfl) rfl) ?_
    rintro _ _ rfl
    refine jE <| jm <| jB <| jF <| jA (jD (v := nv j) he_10) <| jA (jc (c := ((j + 1 : Nat) : Int)) rfl rfl (wr (by omega))) <| jA (jG (v := iv ((j + 1 : Nat) : Int)) rfl) <| jE <| ju (L' := [Res.rows (rdsO (⟨⟨a_17, c_18⟩, ⟨(d.l.getD j o0).t.seq, (d.l.getD j o0).t.cells, (d.l.getD j o0).t.whole⟩⟩ : OX)), Res.row (.slice a_19 1 1) 60 3 1 (([(⟨⟨a_17, c_18⟩, ⟨(d.l.getD j o0).t.seq, (d.l.getD j o0).t.cells, (d.l.getD j o0).t.whole⟩⟩ : OX)] : List OX).flatMap encO), bk b_15 60 [iv ((d.l.getD j o0).t.seq), .slice a_17 (((d.l.getD j o0).t.cells).length) c_18, .bool ((d.l.getD j o0).t.whole)], Res.rows (y.flatMap rdsO), Res.row (.slice a_20 ((y ++ ([(⟨⟨a_17, c_18⟩, ⟨(d.l.getD j o0).t.seq, (d.l.getD j o0).t.cells, (d.l.getD j o0).t.whole⟩⟩ : OX)] : List OX)).length) c_21) 60 3 ((y ++ ([(⟨⟨a_17, c_18⟩, ⟨(d.l.getD j o0).t.seq, (d.l.getD j o0).t.cells, (d.l.getD j o0).t.whole⟩⟩ : OX)] : List OX)).length) ((y ++ ([(⟨⟨a_17, c_18⟩, ⟨(d.l.getD j o0).t.seq, (d.l.getD j o0).t.cells, (d.l.getD j o0).t.whole⟩⟩ : OX)] : List OX)).flatMap encO), bk b_5 31 [.slice a_20 ((y ++ ([(⟨⟨a_17, c_18⟩, ⟨(d.l.getD j o0).t.seq, (d.l.getD j o0).t.cells, (d.l.getD j o0).t.whole⟩⟩ : OX)] : List OX)).length) c_21, str d.jt, iv d.js], bk b_4 31 [.slice none 0 0, str [], iv 0], bk b_3 31 [.slice d.a d.l.length d.c, str d.jt, iv d.js]]) (fun w hw => hw.closeR (A := rdsO (⟨⟨a_17, c_18⟩, ⟨(d.l.getD j o0).t.seq, (d.l.getD j o0).t.cells, (d.l.getD j o0).t.whole⟩⟩ : OX)) [1] rfl) <| ju (L' := [Res.rows ((y ++ [(⟨⟨a_17, c_18⟩, ⟨(d.l.getD j o0).t.seq, (d.l.getD j o0).t.cells, (d.l.getD j o0).t.whole⟩⟩ : OX)]).flatMap rdsO), Res.row (.slice a_19 1 1) 60 3 1 (([(⟨⟨a_17, c_18⟩, ⟨(d.l.getD j o0).t.seq, (d.l.getD j o0).t.cells, (d.l.getD j o0).t.whole⟩⟩ : OX)] : List OX).flatMap encO), bk b_15 60 [iv ((d.l.getD j o0).t.seq), .slice a_17 (((d.l.getD j o0).t.cells).length) c_18, .bool ((d.l.getD j o0).t.whole)], Res.row (.slice a_20 ((y ++ ([(⟨⟨a_17, c_18⟩, ⟨(d.l.getD j o0).t.seq, (d.l.getD j o0).t.cells, (d.l.getD j o0).t.whole⟩⟩ : OX)] : List OX)).length) c_21) 60 3 ((y ++ ([(⟨⟨a_17, c_18⟩, ⟨(d.l.getD j o0).t.seq, (d.l.getD j o0).t.cells, (d.l.getD j o0).t.whole⟩⟩ : OX)] : List OX)).length) ((y ++ ([(⟨⟨a_17, c_18⟩, ⟨(d.l.getD j o0).t.seq, (d.l.getD j o0).t.cells, (d.l.getD j o0).t.whole⟩⟩ : OX)] : List OX)).flatMap encO), bk b_5 31 [.slice a_20 ((y ++ ([(⟨⟨a_17, c_18⟩, ⟨(d.l.getD j o0).t.seq, (d.l.getD j o0).t.cells, (d.l.getD j o0).t.whole⟩⟩ : OX)] : List OX)).length) c_21, str d.jt, iv d.js], bk b_4 31 [.slice none 0 0, str [], iv 0], bk b_3 31 [.slice d.a d.l.length d.c, str d.jt, iv d.js]]) (fun w hw => hw.addR [3, 0] rfl flatMap_snoc) ?_
    refine kB [0, 2, 2, 2, 2] (A := [Res.rows ((y ++ [(⟨⟨a_17, c_18⟩, ⟨(d.l.getD j o0).t.seq, (d.l.getD j o0).t.cells, (d.l.getD j o0).t.whole⟩⟩ : OX)]).flatMap rdsO), Res.row (.slice a_20 ((y ++ ([(⟨⟨a_17, c_18⟩, ⟨(d.l.getD j o0).t.seq, (d.l.getD j o0).t.cells, (d.l.getD j o0).t.whole⟩⟩ : OX)] : List OX)).length) c_21) 60 3 ((y ++ [(⟨⟨a_17, c_18⟩, ⟨(d.l.getD j o0).t.seq, (d.l.getD j o0).t.cells, (d.l.getD j o0).t.whole⟩⟩ : OX)]).length) ((y ++ [(⟨⟨a_17, c_18⟩, ⟨(d.l.getD j o0).t.seq, (d.l.getD j o0).t.cells, (d.l.getD j o0).t.whole⟩⟩ : OX)]).flatMap encO), bk b_5 31 [.slice a_20 ((y ++ ([(⟨⟨a_17, c_18⟩, ⟨(d.l.getD j o0).t.seq, (d.l.getD j o0).t.cells, (d.l.getD j o0).t.whole⟩⟩ : OX)] : List OX)).length) c_21, str d.jt, iv d.js], bk b_4 31 [.slice none 0 0, str [], iv 0], bk b_3 31 [.slice d.a d.l.length d.c, str d.jt, iv d.js]]) rfl ?_
    refine jq (d.l.length - (j + 1)) (by omega) ⟨j + 1, a_20, c_21, (y ++ [(⟨⟨a_17, c_18⟩, ⟨(d.l.getD j o0).t.seq, (d.l.getD j o0).t.cells, (d.l.getD j o0).t.whole⟩⟩ : OX)]), by omega, (map_take_succ o0 hd hlt rfl), (by rw [List.length_append, hyl]; rfl), he_7, he_8, he_9, rfl, rfl, rfl⟩
  refine jR (cB (dF h_11)) <| jx <| jb <| jb <| jy <| jB <| jC <| jF <| jK (jO 2 (vs := [.slice ya y.length yc, str d.jt, iv d.js]) rfl he_9 ke kd rfl rfl) ?_
  refine jH rfl (ja 3 (vs := [.slice ya y.length yc, str d.jt, iv d.js]) (cs' := [.slice ya y.length yc, str d.jt, iv d.js]) rfl he_8 rfl rfl kd rfl rfl (lb rfl) rfl) ?_
  rintro _ _ rfl
  refine jE <| jB <| jN <| ju (L' := [Res.rows (rdsOS ya yc y), bk b_5 31 [.slice ya y.length yc, str d.jt, iv d.js], bk b_4 31 [.slice ya y.length yc, str d.jt, iv d.js], bk b_3 31 [.slice d.a d.l.length d.c, str d.jt, iv d.js]]) (fun w hw => hw.consR (r := ⟨.slice ya y.length yc, 60, 3, y.length, y.flatMap encO⟩) (A := y.flatMap rdsO) [1, 0] rfl) <| jV (.inl rfl) rfl (kA (jO 2 (vs := [.slice ya y.length yc, str d.jt, iv d.js]) rfl he_8 ke kd rfl rfl) ⟨_, he_8⟩) (tS 1 _) ?_
  have hda := map_all hd (show d.l.length ≤ j by omega)
  exact ⟨⟨ya, yc, y, d.jt, d.js⟩, by simp only [DX.dat, hda], rfl, rfl⟩

end Go.Proofs.YtjncpgcccgdeiaaGreatDoor

set_option linter.unusedSimpArgs false
set_option linter.unusedVariables false
set_option linter.unnecessarySimpa false
namespace Go.Proofs.YtjncpgcccgdeiaaGreatDoor
open Go Go.RowKit
attribute [local irreducible] JL JC JQ JO LO PO JA JX Ct

theorem Y_sBestN (d : DX) (hz : d.dat.okz) (hl : d.l.length ≤ 1000000000) (q : Nat) (hq : bestD d.dat = ((q : Nat) : Int)) : Ct Tryz.prog 49 [.agg #[.slice d.a d.l.length d.c, str d.jt, .int .i64 d.js]] [] (fun w => SeesA w (rdsD d)) (fun v A' => v = .int .i64 ((q : Nat) : Int) ∧ A' = []) :=
  (Y_sBest d hz hl).weak (fun _ h => h) fun v A' ⟨hv, hA⟩ => ⟨by rw [hv, hq], hA⟩

end Go.Proofs.YtjncpgcccgdeiaaGreatDoor

set_option linter.unusedSimpArgs false
set_option linter.unusedVariables false
set_option linter.unnecessarySimpa false
namespace Go.Proofs.YtjncpgcccgdeiaaGreatDoor
open Go Go.RowKit
theorem disk_two {d : DX} (h : diskOk d.dat = true) : d.l.length = 2 := by
  rw [diskOk_dat] at h
  unfold diskOkF at h
  simp only [Bool.and_eq_true, decide_eq_true_eq] at h
  omega
theorem diskOk_slot {d : DD} (h : diskOk d = true) {i : Nat} (hi : i < d.slots.length) : slotG (d.slots.getD i o0.t) = true := by
  unfold diskOk diskOkF at h
  simp only [Bool.and_eq_true] at h
  exact rall_get h.2.2.1 hi
theorem bestF_whole (f : Nat → SD) : ∀ (n q : Nat), bestF f n = ((q : Nat) : Int) → (f q).whole = true
  | 0, q, h => by simp only [bestF] at h; omega
  | j + 1, q, h => by
    unfold bestF at h
    split at h
    · rename_i hc
      have : q = j := by omega
      rw [this]
      exact hc.1
    · exact bestF_whole f j q h
theorem best_whole {d : DD} {q : Nat} (hq : bestD d = ((q : Nat) : Int)) : (d.slots.getD q o0.t).whole = true := bestF_whole _ _ _ hq
theorem best_ok {d : DD} (h : diskOk d = true) : (d.slots.getD (bestD d).toNat o0.t).whole = true ∧ 0 ≤ mostOf d ∧ mostOf d ≤ 99999 ∧ storeOk (d.slots.getD (bestD d).toNat o0.t).cells = true := by
  obtain ⟨q, hq, hl⟩ := diskOk_best h
  have hw := best_whole hq
  have hs := diskOk_slot h hl
  unfold mostOf
  rw [hq, Int.toNat_natCast]
  rw [slotG, hw] at hs
  simp only [Bool.not_true, Bool.false_or, Bool.and_eq_true, within, decide_eq_true_eq] at hs
  exact ⟨hw, hs.1.1, hs.1.2, hs.2⟩
theorem most_range {d : DD} (h : diskOk d = true) : 0 ≤ mostOf d ∧ mostOf d ≤ 99999 := ⟨(best_ok h).2.1, (best_ok h).2.2.1⟩
/- what the records make of a store -/
def applyR (s : List Cell) (l : List Cell) : List Cell := l.foldl (fun s c => putKey s c.1 c.2) s
def applyAll (s : List Cell) (L : List (List Cell)) : List Cell := L.foldl applyR s
def recD (d : DD) : List (List Cell) × Nat := recsOf d.jt (mostOf d + 1)
def DD.clean (d : DD) : DD := if diskOk d = true then ⟨d.slots, d.jt.take (recD d).2, (((recD d).2 : Nat) : Int)⟩ else d
def DD.recov (d : DD) : List Cell × Int := if diskOk d = true then (applyAll (d.slots.getD (bestD d).toNat o0.t).cells (recD d).1, mostOf d + (((recD d).1.length : Nat) : Int)) else ([], 0)
theorem recD_of {d : DX} {m : Int} (h : m = mostOf d.dat) : recsOf d.jt (m + 1) = recD d.dat := by rw [h]; rfl
theorem clean_dat {y d : DX} {k : Nat} (hy : y.dat = d.dat) (hok : diskOk d.dat = true) (hn : (recD d.dat).2 = k) : (⟨y.a, y.c, y.l, d.jt.take k, ((k : Nat) : Int)⟩ : DX).dat = d.dat.clean := by
  rw [DD.clean, if_pos hok, hn]
  have h1 := congrArg DD.slots hy
  simp only [DX.dat] at *
  rw [h1]
theorem clean_not {d : DD} (h : diskOk d = false) : d.clean = d := by rw [DD.clean, if_neg (by rw [h]; exact Bool.false_ne_true)]
theorem clean_okz {d : DD} (h : d.okz) : d.clean.okz := by
  unfold DD.clean
  split
  · refine ⟨h.k0, h.k1, ?_⟩
    have := h.k2
    simp only [List.length_take]
    omega
  · exact h
theorem clean_slots (d : DD) : d.clean.slots = d.slots := by unfold DD.clean; split <;> rfl
theorem DD.lim.of {d e : DD} {n : Nat} (h : d.lim n) (he : e.slots = d.slots) : e.lim n := ⟨by rw [he]; exact h.l0, by rw [he]; exact h.l1⟩
theorem clean_lim {d : DD} {n : Nat} (h : d.lim n) : d.clean.lim n := h.of (clean_slots d)
theorem recsOf_count (t : Str) (f : Int) : (recsOf t f).1.length ≤ t.length := by
  unfold recsOf
  split
  · have h1 := (recsG_sum f (linesOf t) 0).2
    have h2 := linesG_len t []
    unfold linesOf at *
    omega
  · exact Nat.zero_le _
/- how great a recovered store is -/
def sumC (L : List (List Cell)) : Nat := L.foldr (fun l n => l.length + n) 0
theorem readI_cells (x : Str) : (readI x).2.1.length ≤ x.length := by
  unfold readI
  split
  · exact Nat.zero_le _
  · split
    · exact Nat.zero_le _
    · rename_i h
      have h1 := (splitB_len 32 x).1
      simp only [List.length_map, midsOf, List.length_take, List.length_drop]
      omega
theorem recsG_cells (f : Int) : ∀ (l : List Str) (m : Nat), sumC (recsG f m l).1 ≤ (recsG f m l).2
  | [], m => Nat.le_refl _
  | x :: l, m => by
    have h1 := recsG_cells f l m
    have h2 := recsG_cells f l (m + 1)
    have h3 := readI_cells x
    unfold recsG
    split
    · exact Nat.le_refl _
    · split
      · dsimp only; omega
      · split
        · simp only [sumC, List.foldr_cons] at *; omega
        · exact Nat.le_refl _
theorem recsOf_cells (t : Str) (f : Int) : sumC (recsOf t f).1 ≤ (recsOf t f).2 := by
  unfold recsOf
  split
  · exact recsG_cells _ _ _
  · exact Nat.le_refl _
theorem applyR_len : ∀ (l s : List Cell), (applyR s l).length ≤ s.length + l.length
  | [], s => Nat.le_refl _
  | c :: l, s => by
    have h1 := applyR_len l (putKey s c.1 c.2)
    have h2 := putKey_len s c.1 c.2
    simp only [applyR, List.foldl_cons, List.length_cons] at *
    omega
theorem applyAll_len : ∀ (L : List (List Cell)) (s : List Cell), (applyAll s L).length ≤ s.length + sumC L
  | [], s => Nat.le_refl _
  | l :: L, s => by
    have h1 := applyAll_len L (applyR s l)
    have h2 := applyR_len l s
    simp only [applyAll, List.foldl_cons, sumC, List.foldr_cons] at *
    omega
theorem storeOk_len {s : List Cell} (h : storeOk s = true) : s.length ≤ 900 := by
  simp only [storeOk, Bool.and_eq_true, decide_eq_true_eq] at h
  omega
theorem jour_len {d : DD} (h : diskOk d = true) : d.jt.length ≤ 20000 := by
  have := diskOk_jour h
  simp only [jourOk, Bool.and_eq_true, decide_eq_true_eq] at this
  omega
theorem recov_len {d : DD} (h : diskOk d = true) : d.recov.1.length ≤ 20900 := by
  rw [DD.recov, if_pos h]
  have h1 := applyAll_len (recD d).1 (d.slots.getD (bestD d).toNat o0.t).cells
  have h2 := storeOk_len (best_ok h).2.2.2
  have h3 := recsOf_cells d.jt (mostOf d + 1)
  have h4 := recsOf_le d.jt (mostOf d + 1)
  have h5 := jour_len h
  unfold recD at *
  dsimp only
  omega
theorem recsG_key (f : Int) : ∀ (l : List Str) (m : Nat) (q : List Cell), q ∈ (recsG f m l).1 → ∀ c ∈ q, c.1.length ≤ 20000 ∧ c.2.length ≤ 20000
  | [], m, q, h => by cases h
  | x :: l, m, q, h => by
    unfold recsG at h
    split at h
    · cases h
    · split at h
      · exact recsG_key f l m q h
      · split at h
        · rcases List.mem_cons.1 h with rfl | h
          · intro c hc
            unfold readI at hc
            split at hc
            · cases hc
            · split at hc
              · cases hc
              · obtain ⟨w, _, rfl⟩ := List.mem_map.1 hc
                exact ⟨unhex_len _, unhex_len _⟩
          · exact recsG_key f l (m + 1) q h
        · cases h
theorem recsOf_key {t : Str} {f : Int} {q : List Cell} (h : q ∈ (recsOf t f).1) : ∀ c ∈ q, c.1.length ≤ 20000 ∧ c.2.length ≤ 20000 := by
  unfold recsOf at h
  split at h
  · exact recsG_key _ _ _ _ h
  · cases h
section
variable {y : List RX} {j i : Nat} {s : List Cell}
theorem rec_key {t : Str} {f : Int} (h : y.map cellsR = (recsOf t f).1) (hj : j < y.length) (hi : i < (y.getD j r0).t.cells.length) : ((y.getD j r0).t.cells.getD i c0).1.length ≤ 20000 ∧ ((y.getD j r0).t.cells.getD i c0).2.length ≤ 20000 :=
  recsOf_key (by rw [← h]; exact List.mem_map_of_mem (f := cellsR) (getD_mem (d := r0) hj)) _ (getD_mem (d := c0) hi)
theorem mapR_at (hj : j < y.length) : (y.map cellsR).drop j = (y.getD j r0).t.cells :: (y.map cellsR).drop (j + 1) := drop_at (map_getD (f := cellsR) r0 hj)
theorem applyAll_step (hj : j < y.length) : applyAll s ((y.map cellsR).drop j) = applyAll (applyR s (y.getD j r0).t.cells) ((y.map cellsR).drop (j + 1)) := by
  rw [mapR_at hj]
  rfl
theorem sumC_step (hj : j < y.length) : sumC ((y.map cellsR).drop j) = (y.getD j r0).t.cells.length + sumC ((y.map cellsR).drop (j + 1)) := by
  rw [mapR_at hj]
  rfl
theorem applyR_step {l : List Cell} (hi : i < l.length) : applyR s (l.drop i) = applyR (putKey s (l.getD i c0).1 (l.getD i c0).2) (l.drop (i + 1)) := by
  rw [drop_at (getD_some (d := c0) hi)]
  rfl
theorem putKey_one (s : List Cell) (k v : Str) : (putKey s k v).length ≤ s.length + 1 := putKey_len s k v
end
theorem recov_eq {d : DX} {s0 s1 : List Cell} {R : List (List Cell)} {m : Int} {k : Nat} (hok : diskOk d.dat = true) (h0 : s0 = (d.dat.slots.getD (bestD d.dat).toNat o0.t).cells) (hm : m = mostOf d.dat) (hR : R = (recsOf d.jt (m + 1)).1) (h1 : s1 = applyAll s0 R) (hk : R.length = k) : d.dat.recov = (s1, m + ((k : Nat) : Int)) := by
  rw [DD.recov, if_pos hok, h1, h0, hR, hm]
  rw [hR, hm] at hk
  rw [← hk]
  rfl
theorem recov_not {d : DD} (h : diskOk d = false) : d.recov = ([], 0) := by rw [DD.recov, if_neg (by rw [h]; exact Bool.false_ne_true)]
/- a checkpoint -/
def DD.foldB (d : DD) : DD × Bool :=
  if diskOk d = true ∧ ¬ (99999 : Int) < d.recov.2 ∧ ¬ d.recov.2 = mostOf d then (⟨d.slots.set (1 - (bestD d).toNat) ⟨d.recov.2, d.recov.1, false⟩, d.jt.take (recD d).2, (((recD d).2 : Nat) : Int)⟩, true) else (d, false)
def othD (d : DD) : SD := d.slots.getD (1 - (bestD d).toNat) o0.t
def DD.foldE (d : DD) : DD × Bool :=
  if diskOk d = true ∧ (othD d).whole = false ∧ mostOf d < (othD d).seq ∧ within 0 (othD d).seq 99999 = true ∧ storeOk (othD d).cells = true then (⟨d.slots.set (1 - (bestD d).toNat) ⟨(othD d).seq, (othD d).cells, true⟩, d.jt, d.js⟩, true) else (d, false)
theorem foldB_no {d : DD} (h : ¬ (diskOk d = true ∧ ¬ (99999 : Int) < d.recov.2 ∧ ¬ d.recov.2 = mostOf d)) : d.foldB = (d, false) := by rw [DD.foldB, if_neg h]
theorem foldB_yes {d : DD} (h : diskOk d = true ∧ ¬ (99999 : Int) < d.recov.2 ∧ ¬ d.recov.2 = mostOf d) : d.foldB = (⟨d.slots.set (1 - (bestD d).toNat) ⟨d.recov.2, d.recov.1, false⟩, d.jt.take (recD d).2, (((recD d).2 : Nat) : Int)⟩, true) := by rw [DD.foldB, if_pos h]
theorem foldE_no {d : DD} (h : ¬ (diskOk d = true ∧ (othD d).whole = false ∧ mostOf d < (othD d).seq ∧ within 0 (othD d).seq 99999 = true ∧ storeOk (othD d).cells = true)) : d.foldE = (d, false) := by rw [DD.foldE, if_neg h]
theorem foldE_yes {d : DD} (h : diskOk d = true ∧ (othD d).whole = false ∧ mostOf d < (othD d).seq ∧ within 0 (othD d).seq 99999 = true ∧ storeOk (othD d).cells = true) : d.foldE = (⟨d.slots.set (1 - (bestD d).toNat) ⟨(othD d).seq, (othD d).cells, true⟩, d.jt, d.js⟩, true) := by rw [DD.foldE, if_pos h]
/-- What is of a store: no cell longer than its bound. -/
def short (s : List Cell) : Prop := ∀ c ∈ s, c.1.length ≤ 9223372036854775807 ∧ c.2.length ≤ 9223372036854775807
theorem applyR_short : ∀ (l s : List Cell), short s → short (applyR s l)
  | [], s, h => h
  | c :: l, s, h => applyR_short l (putKey s c.1 c.2) fun q hq => by
    rcases putKey_mem hq with hq | ⟨rfl, h1, h2⟩
    · exact h q hq
    · exact ⟨by dsimp only; omega, by dsimp only; omega⟩
theorem applyAll_short : ∀ (L : List (List Cell)) (s : List Cell), short s → short (applyAll s L)
  | [], s, h => h
  | l :: L, s, h => applyAll_short L (applyR s l) (applyR_short l s h)
theorem okC_short {s : List Cell} (h : okC s) : short s := fun c hc => by
  obtain ⟨i, hi, rfl⟩ := List.getElem_of_mem hc
  have := h.2 i hi
  rwa [List.getD_eq_getElem?_getD, List.getElem?_eq_getElem hi, Option.getD_some] at this
theorem short_okC {s : List Cell} (h : short s) (hl : s.length ≤ 9223372036854775807) : okC s := ⟨hl, fun j hj => h _ (getD_mem hj)⟩
theorem getD_slot {d : DD} (hz : d.okz) {i : Nat} (hi : i < d.slots.length) : (d.slots.getD i o0.t).okz := hz.k1 _ (getD_mem hi)
theorem recov_okC {d : DD} (hz : d.okz) (h : diskOk d = true) : okC d.recov.1 := by
  obtain ⟨q, hq, hl⟩ := diskOk_best h
  refine short_okC ?_ (Nat.le_trans (recov_len h) (by decide))
  rw [DD.recov, if_pos h]
  exact applyAll_short _ _ (okC_short (getD_slot hz (by rw [hq, Int.toNat_natCast]; exact hl)).k0)
theorem mem_set {α : Type} {l : List α} {i : Nat} {x y : α} (h : x ∈ l.set i y) : x ∈ l ∨ x = y := by
  rcases List.mem_or_eq_of_mem_set h with h | h
  · exact .inl h
  · exact .inr h
theorem foldB_okz {d : DD} (hz : d.okz) : d.foldB.1.okz := by
  by_cases h : diskOk d = true ∧ ¬ (99999 : Int) < d.recov.2 ∧ ¬ d.recov.2 = mostOf d
  · rw [foldB_yes h]
    refine ⟨by rw [List.length_set]; exact hz.k0, fun s hs => ?_, ?_⟩
    · rcases mem_set hs with hs | rfl
      · exact hz.k1 s hs
      · exact ⟨recov_okC hz h.1⟩
    · have := hz.k2
      simp only [List.length_take]
      omega
  · rw [foldB_no h]; exact hz
theorem oth_lt {d : DD} (h : diskOk d = true) : 1 - (bestD d).toNat < d.slots.length := by
  have h2 : d.slots.length = 2 := by
    unfold diskOk diskOkF at h
    simp only [Bool.and_eq_true, decide_eq_true_eq] at h
    omega
  omega
theorem foldE_okz {d : DD} (hz : d.okz) : d.foldE.1.okz := by
  by_cases h : diskOk d = true ∧ (othD d).whole = false ∧ mostOf d < (othD d).seq ∧ within 0 (othD d).seq 99999 = true ∧ storeOk (othD d).cells = true
  · rw [foldE_yes h]
    refine ⟨by rw [List.length_set]; exact hz.k0, fun s hs => ?_, hz.k2⟩
    rcases mem_set hs with hs | rfl
    · exact hz.k1 s hs
    · exact ⟨(getD_slot hz (oth_lt h.1)).k0⟩
  · rw [foldE_no h]; exact hz
theorem foldB_lim {d : DD} {n : Nat} (hz : d.okz) (h : d.lim n) (hn : 20900 ≤ n) : d.foldB.1.lim n := by
  by_cases hc : diskOk d = true ∧ ¬ (99999 : Int) < d.recov.2 ∧ ¬ d.recov.2 = mostOf d
  · rw [foldB_yes hc]
    refine ⟨by rw [List.length_set]; exact h.l0, fun s hs => ?_⟩
    rcases mem_set hs with hs | rfl
    · exact h.l1 s hs
    · exact ⟨Nat.le_trans (recov_len hc.1) hn⟩
  · rw [foldB_no hc]; exact h
theorem foldE_lim {d : DD} {n : Nat} (h : d.lim n) : d.foldE.1.lim n := by
  by_cases hc : diskOk d = true ∧ (othD d).whole = false ∧ mostOf d < (othD d).seq ∧ within 0 (othD d).seq 99999 = true ∧ storeOk (othD d).cells = true
  · rw [foldE_yes hc]
    refine ⟨by rw [List.length_set]; exact h.l0, fun s hs => ?_⟩
    rcases mem_set hs with hs | rfl
    · exact h.l1 s hs
    · exact ⟨(h.l1 _ (getD_mem (oth_lt hc.1))).l0⟩
  · rw [foldE_no hc]; exact h
theorem flatMap_sameO {l : List OX} {i : Nat} {x : OX} (hi : i < l.length) (h : rdsO x = rdsO (l.getD i o0)) : (l.set i x).flatMap rdsO = l.flatMap rdsO := by
  rw [flatMap_setAt hi, h, ← flatMap_at o0 hi]
theorem fold_dat {a : Option Addr} {c q : Nat} {l : List OX} {d e : DD} {jt : Str} {js : Int} {el : OX} {x : SD} (hl : l.map OX.t = e.slots) (hj : jt = e.jt) (hs : js = e.js) (hq : bestD d = ((q : Nat) : Int)) (he : el.t = x) : (⟨a, c, l.set (1 - q) el, jt, js⟩ : DX).dat = ⟨e.slots.set (1 - (bestD d).toNat) x, e.jt, e.js⟩ := by
  simp only [DX.dat, List.map_set, hl, hj, hs, hq, Int.toNat_natCast, he]
theorem set_dat {l : List OX} {i : Nat} {x : OX} : (l.set i x).map OX.t = (l.map OX.t).set i x.t := by rw [List.map_set]
end Go.Proofs.YtjncpgcccgdeiaaGreatDoor

set_option linter.unusedSimpArgs false
set_option linter.unusedVariables false
set_option linter.unnecessarySimpa false
namespace Go.Proofs.YtjncpgcccgdeiaaGreatDoor
open Go Go.RowKit
attribute [local irreducible] JL JC JQ JO LO PO JA JX Ct

theorem Y_iBestN (d : DX) (hz : d.dat.okz) (hl : d.l.length ≤ 1000000000) (q : Nat) (hq : bestD d.dat = ((q : Nat) : Int)) : Ct Tryz.prog 48 [.agg #[.slice d.a d.l.length d.c, str d.jt, .int .i64 d.js]] [] (fun w => SeesA w (rdsD d)) (fun v A' => v = .int .i64 ((q : Nat) : Int) ∧ A' = []) :=
  (Y_iBest d hz hl).weak (fun _ h => h) fun v A' ⟨hv, hA⟩ => ⟨by rw [hv, hq], hA⟩

set_option maxRecDepth 4000 in
set_option maxHeartbeats 1000000 in
theorem Y_iClean (d : DX) (hz : d.dat.okz) (hl : d.dat.lim 1000000000) :
    Ct Tryz.prog 19 [.agg #[.slice d.a d.l.length d.c, str d.jt, .int .i64 d.js]] [] (fun w => SeesA w (rdsD d) ∧ HexOk w) (fun v A' => ∃ y : DX, y.dat = d.dat.clean ∧ v = .agg #[.slice y.a y.l.length y.c, str y.jt, .int .i64 y.js] ∧ A' = [.rows (rdsD y)]) := by
  refine Ct.introL Tryz.func19 rfl Tryz.ntmps19 (lb rfl) fun w0 hpre hlow => ?_
  have hs_1 : Sees w0 (.slice d.a d.l.length d.c) 3 d.l.length (d.l.flatMap encO) := (hpre.1).head
  have hi_2 : SeesA w0 (d.l.flatMap rdsO) := (hpre.1).tail
  have hjt := hz.k2
  have hdl : d.l.length ≤ 1000000000 := by have := hl.l0; simpa only [DX.dat, List.length_map] using this
  refine jC <| jF ?_
  refine jH rfl (kG (cs := [.slice d.a d.l.length d.c, str d.jt, iv d.js]) rfl rfl) ?_
  rintro _ _ ⟨b_3, rfl, rfl⟩
  refine jH rfl (jo (z := .agg #[.slice none 0 0, str [], iv 0]) (cs := [.slice none 0 0, str [], iv 0]) ko rfl) ?_
  rintro _ _ ⟨b_4, rfl, rfl⟩
  refine jE <| jB <| jC <| jF <| jK (jO 1 (vs := [.slice d.a d.l.length d.c, str d.jt, iv d.js]) rfl rfl ke kd rfl rfl) ?_
  refine jH rfl (jI [] Tryz.call62 rfl (Z_implDiskclone d hl) rfl (fun w hw => hw.seeOutA hpre.1 nMA)) ?_
  rintro _ _ ⟨_, ⟨y_5, hy_6, rfl, rfl⟩, rfl⟩
  refine jH rfl (jo (z := .agg #[.slice none 0 0, str [], iv 0]) (cs := [.slice none 0 0, str [], iv 0]) ko rfl) ?_
  rintro _ _ ⟨b_7, rfl, rfl⟩
  refine jH rfl (ja 0 (vs := [.slice y_5.a y_5.l.length y_5.c, str y_5.jt, iv y_5.js]) (cs' := [.slice y_5.a y_5.l.length y_5.c, str y_5.jt, iv y_5.js]) rfl rfl rfl rfl kd rfl rfl (lb rfl) rfl) ?_
  rintro _ _ rfl
  refine jE <| jB <| jC <| jC <| jF <| jK (jO 3 (vs := [.slice d.a d.l.length d.c, str d.jt, iv d.js]) rfl rfl ke kd rfl rfl) ?_
  refine jH rfl (jI [] Tryz.call47 rfl (Y_implDiskOk d hz (by omega)) rfl (fun w hw => hw.seeOutA hpre.1 nMA)) ?_
  rintro _ _ ⟨_, ⟨rfl, rfl⟩, rfl⟩
  refine jE <| jB ?_
  rcases Bool.eq_false_or_eq_true (diskOk d.dat) with h_8 | h_8
  · refine jW (cB h_8) <| jC ?_
    obtain ⟨q, hq, hql⟩ := diskOk_best h_8
    have hql : q < d.l.length := by simpa only [DX.dat, List.length_map] using hql
    have hjr := diskOk_jour h_8
    have hjr2 : ((d.jt.length : Nat) : Int) ≤ 20000 ∧ 0 ≤ d.js ∧ d.js ≤ ((d.jt.length : Nat) : Int) := by have h_ : jourOk d.jt d.js = true := hjr; simpa only [jourOk, within, Bool.and_eq_true, decide_eq_true_eq, and_assoc] using h_
    have hmost : (d.l.getD q o0).t.seq = mostOf d.dat := by rw [mostOf, hq, Int.toNat_natCast]; exact congrArg SD.seq getD_map'.symm
    have hmr := most_range h_8
    have hl2 := disk_two h_8
    have hrle := recsOf_le d.jt ((d.l.getD q o0).t.seq + 1)
    refine kJ [bk b_7 31 [.slice y_5.a y_5.l.length y_5.c, str y_5.jt, iv y_5.js], Res.rows (rdsD y_5), bk b_4 31 [.slice none 0 0, str [], iv 0], bk b_3 31 [.slice d.a d.l.length d.c, str d.jt, iv d.js]] 15 mixed (by simp) <| jL 0 rfl (jQ fo31_1 rfl) <| jL 1 rfl (jQ fo29_0 rfl) <| jw 2 rfl (jZ 3 (v := str d.jt) rfl rfl ki rfl) <| jL 3 rfl (jQ fo31_0 rfl) <| jw 4 rfl (jZ 3 (v := .slice d.a d.l.length d.c) rfl rfl ks rfl) <| jw 5 rfl (jO 3 (vs := [.slice d.a d.l.length d.c, str d.jt, iv d.js]) rfl rfl ke kd rfl rfl) <| jj (i := 6) ?_
    refine jz rfl rfl (jI [] Tryz.call48 rfl (Y_iBestN d hz (by omega) q hq) rfl (fun w hw => hw.seeOutA hpre.1 nMA)) ?_
    rintro _ _ ⟨_, ⟨rfl, rfl⟩, rfl⟩
    refine ⟨by simp, ?_⟩
    obtain ⟨hr_9, hr_9b, -⟩ := sees_some hs_1 (by omega)
    refine jL 7 rfl (jk (i := q) km kj hr_9 hr_9b rfl rfl (by omega)) <| jL 8 rfl (kL fo60_0 hr_9 rfl) ?_
    have hi_10 := SeesA.elem hi_2 o0 (show q < d.l.length by omega)
    have hs_11 := seesO hi_10
    refine jw 9 rfl (kY (v := iv ((d.l.getD q o0).t.seq)) hs_1 nM rfl kq (flat_at encO_len o0 d.l q 0 (by omega) (by decide))) <| jL 10 rfl (jc (c := ((d.l.getD q o0).t.seq) + 1) rfl rfl (wr (by omega))) <| jj (i := 11) ?_
    refine jz rfl rfl (jI [] Tryz.call70 rfl (Y_iRecs d.jt (((d.l.getD q o0).t.seq) + 1) (by omega)) rfl (fun w hw => hw.hex hlow hpre.2)) ?_
    rintro _ _ ⟨_, ⟨a_16, c_17, y_18, hy_19, rfl, rfl⟩, rfl⟩
    refine ⟨by simp, ?_⟩
    refine jL 12 rfl (jD (v := .tuple #[.slice a_16 y_18.length c_17, iv (((recsOf d.jt (((d.l.getD q o0).t.seq) + 1)).2 : Nat) : Int)]) rfl) <| jL 13 rfl (je (v := .slice a_16 y_18.length c_17) rfl rfl) <| jL 14 rfl (je (v := iv (((recsOf d.jt (((d.l.getD q o0).t.seq) + 1)).2 : Nat) : Int)) rfl rfl) <| jL 15 rfl (jG (v := .slice a_16 y_18.length c_17) rfl) <| jL 16 rfl (jG (v := iv (((recsOf d.jt (((d.l.getD q o0).t.seq) + 1)).2 : Nat) : Int)) rfl) <| kI (by kernel_rfl) <| jB <| jF <| jA (jQ fo31_1 rfl) <| jA (jQ fo29_0 rfl) ?_
    refine jK (jZ 4 (v := str d.jt) rfl rfl ki rfl) <| jA (jD (v := iv (((recsOf d.jt (((d.l.getD q o0).t.seq) + 1)).2 : Nat) : Int)) rfl) <| jA (PO.sliceSh (j := ((recsOf d.jt (((d.l.getD q o0).t.seq) + 1)).2)) kg rfl rfl (by omega)) <| jA (jD (v := iv (((recsOf d.jt (((d.l.getD q o0).t.seq) + 1)).2 : Nat) : Int)) rfl) <| jA (kW (ps := [(0, str (d.jt.take ((recsOf d.jt (((d.l.getD q o0).t.seq) + 1)).2))), (1, iv (((recsOf d.jt (((d.l.getD q o0).t.seq) + 1)).2 : Nat) : Int))]) (cs := [str (d.jt.take ((recsOf d.jt (((d.l.getD q o0).t.seq) + 1)).2)), iv (((recsOf d.jt (((d.l.getD q o0).t.seq) + 1)).2 : Nat) : Int)]) rfl (by kernel_rfl)) <| jA (jQ fo31_1 rfl) ?_
    refine jH rfl (ja 1 (vs := [str (d.jt.take ((recsOf d.jt (((d.l.getD q o0).t.seq) + 1)).2)), iv (((recsOf d.jt (((d.l.getD q o0).t.seq) + 1)).2 : Nat) : Int)]) (cs' := [.slice y_5.a y_5.l.length y_5.c, str (d.jt.take ((recsOf d.jt (((d.l.getD q o0).t.seq) + 1)).2)), iv (((recsOf d.jt (((d.l.getD q o0).t.seq) + 1)).2 : Nat) : Int)]) rfl rfl rfl rfl kl rfl rfl (lb rfl) rfl) ?_
    rintro _ _ rfl
    refine jE <| jB <| jC <| jF <| jK (jO 1 (vs := [.slice y_5.a y_5.l.length y_5.c, str (d.jt.take ((recsOf d.jt (((d.l.getD q o0).t.seq) + 1)).2)), iv (((recsOf d.jt (((d.l.getD q o0).t.seq) + 1)).2 : Nat) : Int)]) rfl rfl ke kd rfl rfl) ?_
    refine jH rfl (ja 3 (vs := [.slice y_5.a y_5.l.length y_5.c, str (d.jt.take ((recsOf d.jt (((d.l.getD q o0).t.seq) + 1)).2)), iv (((recsOf d.jt (((d.l.getD q o0).t.seq) + 1)).2 : Nat) : Int)]) (cs' := [.slice y_5.a y_5.l.length y_5.c, str (d.jt.take ((recsOf d.jt (((d.l.getD q o0).t.seq) + 1)).2)), iv (((recsOf d.jt (((d.l.getD q o0).t.seq) + 1)).2 : Nat) : Int)]) rfl rfl rfl rfl kd rfl rfl (lb rfl) rfl) ?_
    rintro _ _ rfl
    refine jE <| jB <| jN <| kM (pick_perm [2] (A := [Res.rows (rdsD y_5)]) (F := [Res.rows (rdsRS a_16 c_17 y_18), bk b_7 31 [.slice y_5.a y_5.l.length y_5.c, str (d.jt.take ((recsOf d.jt (((d.l.getD q o0).t.seq) + 1)).2)), iv (((recsOf d.jt (((d.l.getD q o0).t.seq) + 1)).2 : Nat) : Int)], bk b_4 31 [.slice y_5.a y_5.l.length y_5.c, str (d.jt.take ((recsOf d.jt (((d.l.getD q o0).t.seq) + 1)).2)), iv (((recsOf d.jt (((d.l.getD q o0).t.seq) + 1)).2 : Nat) : Int)], bk b_3 31 [.slice d.a d.l.length d.c, str d.jt, iv d.js]]) rfl).symm <| jV (.inl rfl) rfl (kA (jO 3 (vs := [.slice y_5.a y_5.l.length y_5.c, str (d.jt.take ((recsOf d.jt (((d.l.getD q o0).t.seq) + 1)).2)), iv (((recsOf d.jt (((d.l.getD q o0).t.seq) + 1)).2 : Nat) : Int)]) rfl rfl ke kd rfl rfl) ⟨_, rfl⟩) (tS 1 _) ?_
    exact ⟨(⟨y_5.a, y_5.c, y_5.l, d.jt.take ((recsOf d.jt (((d.l.getD q o0).t.seq) + 1)).2), (((recsOf d.jt (((d.l.getD q o0).t.seq) + 1)).2 : Nat) : Int)⟩ : DX), clean_dat (y := y_5) hy_6 h_8 (by rw [← recD_of hmost]), rfl, rfl⟩
  refine jR (cB h_8) <| jT <| jB <| jC <| jF <| jK (jO 0 (vs := [.slice y_5.a y_5.l.length y_5.c, str y_5.jt, iv y_5.js]) rfl rfl ke kd rfl rfl) ?_
  refine jH rfl (ja 2 (vs := [.slice y_5.a y_5.l.length y_5.c, str y_5.jt, iv y_5.js]) (cs' := [.slice y_5.a y_5.l.length y_5.c, str y_5.jt, iv y_5.js]) rfl rfl rfl rfl kd rfl rfl (lb rfl) rfl) ?_
  rintro _ _ rfl
  refine jE <| jB <| jN <| kM (pick_perm [1] (A := [Res.rows (rdsD y_5)]) (F := [bk b_7 31 [.slice y_5.a y_5.l.length y_5.c, str y_5.jt, iv y_5.js], bk b_4 31 [.slice y_5.a y_5.l.length y_5.c, str y_5.jt, iv y_5.js], bk b_3 31 [.slice d.a d.l.length d.c, str d.jt, iv d.js]]) rfl).symm <| jV (.inl rfl) rfl (kA (jO 2 (vs := [.slice y_5.a y_5.l.length y_5.c, str y_5.jt, iv y_5.js]) rfl rfl ke kd rfl rfl) ⟨_, rfl⟩) (tS 1 _) ?_
  exact ⟨y_5, by rw [hy_6, clean_not (by exact h_8)], rfl, rfl⟩

set_option maxRecDepth 4000 in
set_option maxHeartbeats 1000000 in
theorem Y_sClean (d : DX) (hz : d.dat.okz) (hl : d.dat.lim 1000000000) :
    Ct Tryz.prog 18 [.agg #[.slice d.a d.l.length d.c, str d.jt, .int .i64 d.js]] [] (fun w => SeesA w (rdsD d)) (fun v A' => ∃ y : DX, y.dat = d.dat.clean ∧ v = .agg #[.slice y.a y.l.length y.c, str y.jt, .int .i64 y.js] ∧ A' = [.rows (rdsD y)]) := by
  refine Ct.intro Tryz.func18 rfl Tryz.ntmps18 (lb rfl) fun w0 hpre => ?_
  have hs_1 : Sees w0 (.slice d.a d.l.length d.c) 3 d.l.length (d.l.flatMap encO) := (hpre).head
  have hi_2 : SeesA w0 (d.l.flatMap rdsO) := (hpre).tail
  have hjt := hz.k2
  have hdl : d.l.length ≤ 1000000000 := by have := hl.l0; simpa only [DX.dat, List.length_map] using this
  refine jC <| jF ?_
  refine jH rfl (kG (cs := [.slice d.a d.l.length d.c, str d.jt, iv d.js]) rfl rfl) ?_
  rintro _ _ ⟨b_3, rfl, rfl⟩
  refine jH rfl (jo (z := .agg #[.slice none 0 0, str [], iv 0]) (cs := [.slice none 0 0, str [], iv 0]) ko rfl) ?_
  rintro _ _ ⟨b_4, rfl, rfl⟩
  refine jE <| jB <| jC <| jF <| jK (jO 1 (vs := [.slice d.a d.l.length d.c, str d.jt, iv d.js]) rfl rfl ke kd rfl rfl) ?_
  refine jH rfl (jI [] Tryz.call56 rfl (Z_specl23Copy d hl) rfl (fun w hw => hw.seeOutA hpre nMA)) ?_
  rintro _ _ ⟨_, ⟨y_5, hy_6, rfl, rfl⟩, rfl⟩
  refine jH rfl (ja 2 (vs := [.slice y_5.a y_5.l.length y_5.c, str y_5.jt, iv y_5.js]) (cs' := [.slice y_5.a y_5.l.length y_5.c, str y_5.jt, iv y_5.js]) rfl rfl rfl rfl kd rfl rfl (lb rfl) rfl) ?_
  rintro _ _ rfl
  refine jE <| jB <| jC <| jC ?_
  have hzy : y_5.dat.okz := by rw [hy_6]; exact hz
  have hly : y_5.dat.lim 1000000000 := by rw [hy_6]; exact hl
  have hyl : y_5.l.length = d.l.length := by have e_ := congrArg (fun q : DD => q.slots.length) hy_6; simpa only [DX.dat, List.length_map] using e_
  have hyt : y_5.jt = d.jt := congrArg DD.jt hy_6
  have hytl : y_5.jt.length = d.jt.length := by rw [hyt]
  refine jF <| jK (jO 2 (vs := [.slice y_5.a y_5.l.length y_5.c, str y_5.jt, iv y_5.js]) rfl rfl ke kd rfl rfl) ?_
  refine jH rfl (jI [] Tryz.call42 rfl (Y_specDiskOk y_5 hzy (by omega)) rfl (fun w hw => hw.seeRows 0 rfl)) ?_
  rintro _ _ ⟨_, ⟨rfl, rfl⟩, rfl⟩
  refine jA (jp rfl) <| jE <| jB ?_
  rcases Bool.eq_false_or_eq_true (diskOk y_5.dat) with h_7 | h_7
  · refine jR (cB (cN h_7)) <| jT <| jB <| jC ?_
    obtain ⟨q, hq, hql⟩ := diskOk_best h_7
    have hql : q < y_5.l.length := by simpa only [DX.dat, List.length_map] using hql
    have hjr := diskOk_jour h_7
    have hjr2 : ((y_5.jt.length : Nat) : Int) ≤ 20000 ∧ 0 ≤ y_5.js ∧ y_5.js ≤ ((y_5.jt.length : Nat) : Int) := by have h_ : jourOk y_5.jt y_5.js = true := hjr; simpa only [jourOk, within, Bool.and_eq_true, decide_eq_true_eq, and_assoc] using h_
    have hmost : (y_5.l.getD q o0).t.seq = mostOf y_5.dat := by rw [mostOf, hq, Int.toNat_natCast]; exact congrArg SD.seq getD_map'.symm
    have hmr := most_range h_7
    have hl2 := disk_two h_7
    have hrle := recsOf_le y_5.jt ((y_5.l.getD q o0).t.seq + 1)
    refine kT (L' := [Res.row (.slice y_5.a y_5.l.length y_5.c) 60 3 y_5.l.length (y_5.l.flatMap encO), Res.rows (y_5.l.flatMap rdsO), bk b_4 31 [.slice none 0 0, str [], iv 0], bk b_3 31 [.slice y_5.a y_5.l.length y_5.c, str y_5.jt, iv y_5.js]]) (fun w hw => hw.headR (r := ⟨.slice y_5.a y_5.l.length y_5.c, 60, 3, y_5.l.length, y_5.l.flatMap encO⟩) (A := y_5.l.flatMap rdsO) 0 rfl) <| kJ [Res.row (.slice y_5.a y_5.l.length y_5.c) 60 3 y_5.l.length (y_5.l.flatMap encO), Res.rows (y_5.l.flatMap rdsO), bk b_4 31 [.slice none 0 0, str [], iv 0], bk b_3 31 [.slice y_5.a y_5.l.length y_5.c, str y_5.jt, iv y_5.js]] 15 mixed (by simp) <| jL 0 rfl (jQ fo31_1 rfl) <| jL 1 rfl (jQ fo29_0 rfl) <| jw 2 rfl (jZ 3 (v := str y_5.jt) rfl rfl ki rfl) <| jL 3 rfl (jQ fo31_0 rfl) <| jw 4 rfl (jZ 3 (v := .slice y_5.a y_5.l.length y_5.c) rfl rfl ks rfl) <| jw 5 rfl (jO 3 (vs := [.slice y_5.a y_5.l.length y_5.c, str y_5.jt, iv y_5.js]) rfl rfl ke kd rfl rfl) <| jj (i := 6) ?_
    refine jz rfl rfl (jI [] Tryz.call49 rfl (Y_sBestN y_5 hzy (by omega) q hq) rfl (fun w hw => SeesA.cons (hw.see (i := 0) rfl) (hw.seeRows 1 rfl))) ?_
    rintro _ _ ⟨_, ⟨rfl, rfl⟩, rfl⟩
    refine ⟨by simp, ?_⟩
    refine JA.facts fun hst => ?_
    obtain ⟨hr_8, hr_8b, -⟩ := row_some 0 rfl (by omega) hst
    refine jL 7 rfl (jk (i := q) km kj hr_8 hr_8b rfl rfl (by omega)) <| jL 8 rfl (kL fo60_0 hr_8 rfl) <| jw 9 rfl (ka 0 (v := iv ((y_5.l.getD q o0).t.seq)) rfl rfl kq (flat_at encO_len o0 y_5.l q 0 (by omega) (by decide))) <| jL 10 rfl (jc (c := ((y_5.l.getD q o0).t.seq) + 1) rfl rfl (wr (by omega))) <| jj (i := 11) ?_
    refine jz rfl rfl (jI [] Tryz.call69 rfl (Y_sRecs y_5.jt (((y_5.l.getD q o0).t.seq) + 1) (by omega)) rfl (fun _ _ => trivial)) ?_
    rintro _ _ ⟨_, ⟨a_13, c_14, y_15, hy_16, rfl, rfl⟩, rfl⟩
    refine ⟨by simp, ?_⟩
    refine jL 12 rfl (jD (v := .tuple #[.slice a_13 y_15.length c_14, iv (((recsOf y_5.jt (((y_5.l.getD q o0).t.seq) + 1)).2 : Nat) : Int)]) rfl) <| jL 13 rfl (je (v := .slice a_13 y_15.length c_14) rfl rfl) <| jL 14 rfl (je (v := iv (((recsOf y_5.jt (((y_5.l.getD q o0).t.seq) + 1)).2 : Nat) : Int)) rfl rfl) <| jL 15 rfl (jG (v := .slice a_13 y_15.length c_14) rfl) <| jL 16 rfl (jG (v := iv (((recsOf y_5.jt (((y_5.l.getD q o0).t.seq) + 1)).2 : Nat) : Int)) rfl) <| kI (by kernel_rfl) <| jB <| jC <| jF <| jA (jQ fo31_1 rfl) ?_
    refine jA (jQ fo29_0 rfl) <| jK (jZ 4 (v := str y_5.jt) rfl rfl ki rfl) <| jA (jD (v := iv (((recsOf y_5.jt (((y_5.l.getD q o0).t.seq) + 1)).2 : Nat) : Int)) rfl) <| jA (PO.sliceSh (j := ((recsOf y_5.jt (((y_5.l.getD q o0).t.seq) + 1)).2)) kg rfl rfl (by omega)) <| jA (jD (v := iv (((recsOf y_5.jt (((y_5.l.getD q o0).t.seq) + 1)).2 : Nat) : Int)) rfl) <| jA (kW (ps := [(0, str (y_5.jt.take ((recsOf y_5.jt (((y_5.l.getD q o0).t.seq) + 1)).2))), (1, iv (((recsOf y_5.jt (((y_5.l.getD q o0).t.seq) + 1)).2 : Nat) : Int))]) (cs := [str (y_5.jt.take ((recsOf y_5.jt (((y_5.l.getD q o0).t.seq) + 1)).2)), iv (((recsOf y_5.jt (((y_5.l.getD q o0).t.seq) + 1)).2 : Nat) : Int)]) rfl (by kernel_rfl)) <| jA (jQ fo31_1 rfl) ?_
    refine jH rfl (ja 4 (vs := [str (y_5.jt.take ((recsOf y_5.jt (((y_5.l.getD q o0).t.seq) + 1)).2)), iv (((recsOf y_5.jt (((y_5.l.getD q o0).t.seq) + 1)).2 : Nat) : Int)]) (cs' := [.slice y_5.a y_5.l.length y_5.c, str (y_5.jt.take ((recsOf y_5.jt (((y_5.l.getD q o0).t.seq) + 1)).2)), iv (((recsOf y_5.jt (((y_5.l.getD q o0).t.seq) + 1)).2 : Nat) : Int)]) rfl rfl rfl rfl kl rfl rfl (lb rfl) rfl) ?_
    rintro _ _ rfl
    refine jE <| jB <| jC <| jF <| jK (jO 4 (vs := [.slice y_5.a y_5.l.length y_5.c, str (y_5.jt.take ((recsOf y_5.jt (((y_5.l.getD q o0).t.seq) + 1)).2)), iv (((recsOf y_5.jt (((y_5.l.getD q o0).t.seq) + 1)).2 : Nat) : Int)]) rfl rfl ke kd rfl rfl) ?_
    refine jH rfl (ja 3 (vs := [.slice y_5.a y_5.l.length y_5.c, str (y_5.jt.take ((recsOf y_5.jt (((y_5.l.getD q o0).t.seq) + 1)).2)), iv (((recsOf y_5.jt (((y_5.l.getD q o0).t.seq) + 1)).2 : Nat) : Int)]) (cs' := [.slice y_5.a y_5.l.length y_5.c, str (y_5.jt.take ((recsOf y_5.jt (((y_5.l.getD q o0).t.seq) + 1)).2)), iv (((recsOf y_5.jt (((y_5.l.getD q o0).t.seq) + 1)).2 : Nat) : Int)]) rfl rfl rfl rfl kd rfl rfl (lb rfl) rfl) ?_
    rintro _ _ rfl
    refine jE <| jB <| jN <| ju (L' := [Res.rows (rdsOS y_5.a y_5.c y_5.l), Res.rows (rdsRS a_13 c_14 y_15), bk b_4 31 [.slice y_5.a y_5.l.length y_5.c, str (y_5.jt.take ((recsOf y_5.jt (((y_5.l.getD q o0).t.seq) + 1)).2)), iv (((recsOf y_5.jt (((y_5.l.getD q o0).t.seq) + 1)).2 : Nat) : Int)], bk b_3 31 [.slice y_5.a y_5.l.length y_5.c, str (y_5.jt.take ((recsOf y_5.jt (((y_5.l.getD q o0).t.seq) + 1)).2)), iv (((recsOf y_5.jt (((y_5.l.getD q o0).t.seq) + 1)).2 : Nat) : Int)]]) (fun w hw => hw.consR (r := ⟨.slice y_5.a y_5.l.length y_5.c, 60, 3, y_5.l.length, y_5.l.flatMap encO⟩) (A := y_5.l.flatMap rdsO) [1, 1] rfl) <| jV (.inl rfl) rfl (kA (jO 2 (vs := [.slice y_5.a y_5.l.length y_5.c, str (y_5.jt.take ((recsOf y_5.jt (((y_5.l.getD q o0).t.seq) + 1)).2)), iv (((recsOf y_5.jt (((y_5.l.getD q o0).t.seq) + 1)).2 : Nat) : Int)]) rfl rfl ke kd rfl rfl) ⟨_, rfl⟩) (tS 1 _) ?_
    exact ⟨(⟨y_5.a, y_5.c, y_5.l, y_5.jt.take ((recsOf y_5.jt (((y_5.l.getD q o0).t.seq) + 1)).2), (((recsOf y_5.jt (((y_5.l.getD q o0).t.seq) + 1)).2 : Nat) : Int)⟩ : DX), (clean_dat (y := y_5) (d := y_5) rfl h_7 (by rw [← recD_of hmost])).trans (congrArg DD.clean hy_6), rfl, rfl⟩
  refine jW (cB (cN h_7)) <| jC <| jF <| jK (jO 2 (vs := [.slice y_5.a y_5.l.length y_5.c, str y_5.jt, iv y_5.js]) rfl rfl ke kd rfl rfl) ?_
  refine jH rfl (ja 1 (vs := [.slice y_5.a y_5.l.length y_5.c, str y_5.jt, iv y_5.js]) (cs' := [.slice y_5.a y_5.l.length y_5.c, str y_5.jt, iv y_5.js]) rfl rfl rfl rfl kd rfl rfl (lb rfl) rfl) ?_
  rintro _ _ rfl
  refine jE <| jB <| jN <| jX <| jV (.inl rfl) rfl (kA (jO 1 (vs := [.slice y_5.a y_5.l.length y_5.c, str y_5.jt, iv y_5.js]) rfl rfl ke kd rfl rfl) ⟨_, rfl⟩) (tS 1 _) ?_
  exact ⟨y_5, by rw [hy_6, clean_not (by rw [← hy_6]; exact h_7)], rfl, rfl⟩

end Go.Proofs.YtjncpgcccgdeiaaGreatDoor

set_option linter.unusedSimpArgs false
set_option linter.unusedVariables false
set_option linter.unnecessarySimpa false
namespace Go.Proofs.YtjncpgcccgdeiaaGreatDoor
open Go Go.RowKit
attribute [local irreducible] JL JC JQ JO LO PO JA JX Ct

set_option maxRecDepth 4000 in
set_option maxHeartbeats 1000000 in
theorem Y_sApply (a b : Option Addr) (c c' : Nat) (s l : List Cell) (hs : s.length ≤ 1000000000) (hl : l.length ≤ 1000000000) (hk : ∀ j, j < l.length → (l.getD j c0).1.length ≤ 20000) :
    Ct Tryz.prog 96 [.slice a s.length c, .slice b l.length c'] [] (fun w => Sees w (.slice a s.length c) 2 s.length (s.flatMap encC) ∧ Sees w (.slice b l.length c') 2 l.length (l.flatMap encC)) (fun v A' => ∃ x y, v = .slice x (applyR s l).length y ∧ A' = [.row (.slice x (applyR s l).length y) 48 2 (applyR s l).length ((applyR s l).flatMap encC)]) := by
  refine Ct.intro Tryz.func96 rfl Tryz.ntmps96 (lb rfl) fun w0 hpre => ?_
  have hs_a : Sees w0 _ _ _ _ := hpre.1
  have hs_b : Sees w0 _ _ _ _ := hpre.2
  refine jC <| jF <| jA (jG (v := .slice none 0 0) rfl) <| jE <| jB <| jC <| jF ?_
  refine jH rfl (kH (ps := []) (cur := #[]) kf kh kw rfl (by kernel_rfl) (by decide) (by decide)) ?_
  rintro _ _ ⟨a_1, rfl, rfl⟩
  refine jA (jD (v := .slice a s.length c) rfl) ?_
  refine jH rfl (kU 0 (q := s.length) (news := s.flatMap encC) (n' := s.length) (cs' := s.flatMap encC) rfl kf kf ky rfl (by' := 32) rfl rfl rfl rfl rfl (fun w hw => Src.sees (hw.seeOut_ hs_a nM) (oneC _)) (by (try simp only [LE]); omega) (by (try simp only [LE]); omega) (by (try simp only [List.length_take, List.length_drop]); first | rfl | omega) rfl) ?_
  rintro _ _ ⟨a_2, c_3, rfl, rfl⟩
  refine jA (jG (v := .slice a_2 s.length c_3) rfl) <| jE <| jB <| jC <| jC <| jF <| jA (jG (v := iv 0) rfl) <| jE <| jB <| jf ?_
  refine kD (fun k_ e_ L_ => ∃ j : Nat, ∃ qa : Option Addr, ∃ qc : Nat, ∃ q : List Cell, (j ≤ l.length) ∧ (q.length ≤ s.length + j) ∧ (applyR q (l.drop j) = applyR s l) ∧ e_ 0 = .slice qa q.length qc ∧ e_ 1 = .slice b l.length c' ∧ e_ 4 = .slice none 0 0 ∧ e_ 5 = nv j ∧ L_ = [rC qa qc q] ∧ k_ = l.length - j) _ ⟨0, a_2, c_3, s, by omega, by omega, rfl, rfl, rfl, rfl, rfl, rfl, rfl⟩ ?_
  rintro _ e_4 _ ⟨j, qa, qc, q, hj, hb, hR, he_5, he_6, he_7, he_8, rfl, rfl⟩
  refine jC <| jC <| jF <| jA (jD (v := nv j) he_8) <| jA (jD (v := .slice b l.length c') he_6) <| jA (jr kf rfl) <| jA (jl rfl rfl) <| jE <| jB ?_
  by_cases h_9 : ((j : Nat) : Int) < ((l.length : Nat) : Int)
  · have hlt : j < l.length := by omega
    have hkl := hk j hlt
    have hpl := putKey_one q (l.getD j c0).1 (l.getD j c0).2
    refine jW (cB (dT h_9)) <| jT <| jB <| jC <| jf <| kJ [rC qa qc q] 11 mixed (by simp) <| jL 0 rfl (jD (v := .slice qa q.length qc) he_5) <| jL 1 rfl (jD (v := .slice b l.length c') he_6) <| jL 2 rfl (jD (v := nv j) he_8) ?_
    obtain ⟨hr_10, hr_10b, -⟩ := sees_some hs_b (by omega)
    refine jL 3 rfl (jk (i := j) kf kh hr_10 hr_10b rfl rfl (by omega)) <| jL 4 rfl (kL fo48_0 hr_10 rfl) <| jw 5 rfl (kY (v := str ((l.getD j c0).1)) hs_b nM rfl ki (atC1 (by omega))) <| jL 6 rfl (jD (v := .slice b l.length c') he_6) <| jL 7 rfl (jD (v := nv j) he_8) <| jL 8 rfl (jk (i := j) kf kh hr_10 hr_10b rfl rfl (by omega)) <| jL 9 rfl (kL fo48_1 hr_10 rfl) <| jw 10 rfl (kY (v := str ((l.getD j c0).2)) hs_b nM rfl ki (atC2 (by omega))) <| jj (i := 11) ?_
    refine JX.lt rfl (jI [] Tryz.call134 rfl (C_sPutKey qa qc q ((l.getD j c0).1) ((l.getD j c0).2) (by omega) (by omega)) rfl (fun w hw => hw.see (i := 0) rfl)) ?_
    rintro _ _ ⟨_, ⟨a_13, c_14, rfl, rfl⟩, rfl⟩
    refine jL 12 rfl (jG (v := .slice a_13 ((putKey q ((l.getD j c0).1) ((l.getD j c0).2)).length) c_14) rfl) <| kI (by kernel_rfl) <| jm <| jB <| jF <| jA (jD (v := nv j) he_8) <| jA (jc (c := ((j + 1 : Nat) : Int)) rfl rfl (wr (by omega))) <| jA (jG (v := iv ((j + 1 : Nat) : Int)) rfl) <| jE <| kB [0] (A := [rC a_13 c_14 (putKey q ((l.getD j c0).1) ((l.getD j c0).2))]) rfl ?_
    refine jq (l.length - (j + 1)) (by omega) ⟨j + 1, a_13, c_14, (putKey q ((l.getD j c0).1) ((l.getD j c0).2)), by omega, by omega, (by rw [applyR_step hlt] at hR; exact hR), rfl, he_6, he_7, rfl, rfl, rfl⟩
  refine jR (cB (dF h_9)) <| jx <| jb <| jb <| jy <| jB <| jC <| jF <| jA (jD (v := .slice qa q.length qc) he_5) <| jA (jG (v := .slice qa q.length qc) rfl) ?_
  refine jE <| jB <| jN <| jV (.inl rfl) rfl (jJ (v := .slice qa q.length qc) rfl) (List.Sublist.refl _) ?_
  have he : q = applyR s l := by rw [show l.drop j = [] from List.drop_of_length_le (by omega)] at hR; exact hR
  exact ⟨qa, qc, by rw [he] <;> rfl, by rw [he] <;> rfl⟩

set_option maxRecDepth 4000 in
set_option maxHeartbeats 1000000 in
theorem Y_iRecov (d : DX) (hz : d.dat.okz) (hl : d.dat.lim 1000000000) :
    Ct Tryz.prog 33 [.agg #[.slice d.a d.l.length d.c, str d.jt, .int .i64 d.js]] [] (fun w => SeesA w (rdsD d) ∧ HexOk w) (fun v A' => ∃ a c, v = .tuple #[.slice a d.dat.recov.1.length c, .int .i64 d.dat.recov.2] ∧ A' = [.row (.slice a d.dat.recov.1.length c) 48 2 d.dat.recov.1.length (d.dat.recov.1.flatMap encC)]) := by
  refine Ct.introL Tryz.func33 rfl Tryz.ntmps33 (lb rfl) fun w0 hpre hlow => ?_
  have hs_1 : Sees w0 (.slice d.a d.l.length d.c) 3 d.l.length (d.l.flatMap encO) := (hpre.1).head
  have hi_2 : SeesA w0 (d.l.flatMap rdsO) := (hpre.1).tail
  have hjt := hz.k2
  have hdl : d.l.length ≤ 1000000000 := by have := hl.l0; simpa only [DX.dat, List.length_map] using this
  refine jC <| jF ?_
  refine jH rfl (kG (cs := [.slice d.a d.l.length d.c, str d.jt, iv d.js]) rfl rfl) ?_
  rintro _ _ ⟨b_3, rfl, rfl⟩
  refine jA (jG (v := .slice none 0 0) rfl) <| jA (jG (v := iv 0) rfl) <| jE <| jB <| jC <| jC <| jF <| jK (jO 0 (vs := [.slice d.a d.l.length d.c, str d.jt, iv d.js]) rfl rfl ke kd rfl rfl) ?_
  refine jH rfl (jI [] Tryz.call47 rfl (Y_implDiskOk d hz (by omega)) rfl (fun w hw => hw.seeOutA hpre.1 nMA)) ?_
  rintro _ _ ⟨_, ⟨rfl, rfl⟩, rfl⟩
  refine jA (jp rfl) <| jE <| jB ?_
  rcases Bool.eq_false_or_eq_true (diskOk d.dat) with h_4 | h_4
  · refine jR (cB (cN h_4)) <| jT <| jB <| jC ?_
    obtain ⟨q, hq, hql⟩ := diskOk_best h_4
    have hql : q < d.l.length := by simpa only [DX.dat, List.length_map] using hql
    have hjr := diskOk_jour h_4
    have hjr2 : ((d.jt.length : Nat) : Int) ≤ 20000 ∧ 0 ≤ d.js ∧ d.js ≤ ((d.jt.length : Nat) : Int) := by have h_ : jourOk d.jt d.js = true := hjr; simpa only [jourOk, within, Bool.and_eq_true, decide_eq_true_eq, and_assoc] using h_
    have hmost : (d.l.getD q o0).t.seq = mostOf d.dat := by rw [mostOf, hq, Int.toNat_natCast]; exact congrArg SD.seq getD_map'.symm
    have hmr := most_range h_4
    have hl2 := disk_two h_4
    have hbc : (d.l.getD q o0).t.cells = (d.dat.slots.getD (bestD d.dat).toNat o0.t).cells := by rw [hq, Int.toNat_natCast]; exact congrArg SD.cells getD_map'.symm
    have hsl : (d.l.getD q o0).t.cells.length ≤ 900 := by rw [hbc]; exact storeOk_len (best_ok h_4).2.2.2
    have hrc := recsOf_cells d.jt ((d.l.getD q o0).t.seq + 1)
    have hrle := recsOf_le d.jt ((d.l.getD q o0).t.seq + 1)
    refine kJ [bk b_3 31 [.slice d.a d.l.length d.c, str d.jt, iv d.js]] 7 mixed (by simp) <| jL 0 rfl (jQ fo31_0 rfl) <| jw 1 rfl (jZ 0 (v := .slice d.a d.l.length d.c) rfl rfl ks rfl) <| jw 2 rfl (jO 0 (vs := [.slice d.a d.l.length d.c, str d.jt, iv d.js]) rfl rfl ke kd rfl rfl) ?_
    refine JA.two (i := 3) (j := 6) (by kernel_rfl) ?_ ?_
    · refine jz rfl rfl (jI [] Tryz.call48 rfl (Y_iBestN d hz (by omega) q hq) rfl (fun w hw => hw.seeOutA hpre.1 nMA)) ?_
      rintro _ _ ⟨_, ⟨rfl, rfl⟩, rfl⟩
      refine ⟨by simp, ?_⟩
      obtain ⟨hr_6, hr_6b, -⟩ := sees_some hs_1 (by omega)
      refine jL 4 rfl (jk (i := q) km kj hr_6 hr_6b rfl rfl (by omega)) ?_
      have hi_7 := SeesA.elem hi_2 o0 (show q < d.l.length by omega)
      have hs_8 := seesO hi_7
      refine jw 5 rfl (kX (vs := [iv ((d.l.getD q o0).t.seq), .slice ((d.l.getD q o0).x.a0) ((d.l.getD q o0).t.cells.length) ((d.l.getD q o0).x.c0), .bool ((d.l.getD q o0).t.whole)]) hs_1 nM rfl gB kj (flat_take encO_len o0 d.l q (by omega)) rfl (by decide)) <| jj (i := 6) ?_
      refine jz rfl rfl (jo (z := .agg #[iv 0, .slice none 0 0, .bool false]) (cs := [iv 0, .slice none 0 0, .bool false]) gD rfl) ?_
      rintro _ _ ⟨b_10, rfl, rfl⟩
      refine ⟨by simp, ?_⟩
      refine jj (i := 7) ?_
      refine JX.ls rfl (ja 0 (vs := [iv ((d.l.getD q o0).t.seq), .slice ((d.l.getD q o0).x.a0) ((d.l.getD q o0).t.cells.length) ((d.l.getD q o0).x.c0), .bool ((d.l.getD q o0).t.whole)]) (cs' := [iv ((d.l.getD q o0).t.seq), .slice ((d.l.getD q o0).x.a0) ((d.l.getD q o0).t.cells.length) ((d.l.getD q o0).x.c0), .bool ((d.l.getD q o0).t.whole)]) rfl rfl rfl rfl kj rfl rfl (lb rfl) rfl) ?_
      rintro _ _ rfl
      refine jB <| jC <| jF <| jA (jQ fo31_1 rfl) <| jA (jQ fo29_0 rfl) <| jK (jZ 1 (v := str d.jt) rfl rfl ki rfl) <| jA (jQ fo60_0 rfl) <| jK (jZ 0 (v := iv ((d.l.getD q o0).t.seq)) rfl rfl kq rfl) <| jA (jc (c := ((d.l.getD q o0).t.seq) + 1) rfl rfl (wr (by omega))) ?_
      refine jH rfl (jI [] Tryz.call70 rfl (Y_iRecs d.jt (((d.l.getD q o0).t.seq) + 1) (by omega)) rfl (fun w hw => hw.hex hlow hpre.2)) ?_
      rintro _ _ ⟨_, ⟨a_11, c_12, y_13, hy_14, rfl, rfl⟩, rfl⟩
      refine jA (jD (v := .tuple #[.slice a_11 y_13.length c_12, iv (((recsOf d.jt (((d.l.getD q o0).t.seq) + 1)).2 : Nat) : Int)]) rfl) <| jA (je (v := .slice a_11 y_13.length c_12) rfl rfl) <| jA (je (v := iv (((recsOf d.jt (((d.l.getD q o0).t.seq) + 1)).2 : Nat) : Int)) rfl rfl) <| jA (jG (v := .slice a_11 y_13.length c_12) rfl) <| jA (jG (v := iv (((recsOf d.jt (((d.l.getD q o0).t.seq) + 1)).2 : Nat) : Int)) rfl) <| jE <| jB <| jC <| jF <| jA (jQ fo60_1 rfl) ?_
      refine jK (jZ 1 (v := .slice ((d.l.getD q o0).x.a0) ((d.l.getD q o0).t.cells.length) ((d.l.getD q o0).x.c0)) rfl rfl kz rfl) ?_
      refine jH rfl (jI [] Tryz.call74 rfl (C_cloneC (d.l.getD q o0).x.a0 ((d.l.getD q o0).x.c0) ((d.l.getD q o0).t.cells) (by omega)) rfl (fun w hw => hw.seeOut_ hs_8 nM)) ?_
      rintro _ _ ⟨_, ⟨a_15, c_16, rfl, rfl⟩, rfl⟩
      refine jA (jG (v := .slice a_15 (((d.l.getD q o0).t.cells).length) c_16) rfl) <| jE <| jB <| jC <| jC ?_
      have hys : y_13.map cellsR = (recsOf d.jt ((d.l.getD q o0).t.seq + 1)).1 := hy_14
      have hyc : sumC (y_13.map cellsR) ≤ 20000 := by rw [hys]; omega
      have hyn : y_13.length ≤ 20000 := by have h_ := congrArg List.length hys; rw [List.length_map] at h_; have h2_ := recsOf_count d.jt ((d.l.getD q o0).t.seq + 1); omega
      refine jF <| jA (jD (v := .slice a_11 y_13.length c_12) rfl) <| jA (jr kx rfl) <| jA (jD (v := iv 0) rfl) <| jE <| jB <| jf <| kT (L' := [Res.row (.slice a_11 y_13.length c_12) 49 1 y_13.length (y_13.flatMap encR), Res.rows (y_13.flatMap rdsR), rC a_15 c_16 ((d.l.getD q o0).t.cells), bk b_10 60 [iv ((d.l.getD q o0).t.seq), .slice ((d.l.getD q o0).x.a0) ((d.l.getD q o0).t.cells.length) ((d.l.getD q o0).x.c0), .bool ((d.l.getD q o0).t.whole)], bk b_3 31 [.slice d.a d.l.length d.c, str d.jt, iv d.js]]) (fun w hw => hw.headR (r := ⟨.slice a_11 y_13.length c_12, 49, 1, y_13.length, y_13.flatMap encR⟩) (A := y_13.flatMap rdsR) 1 rfl) <| kT (L' := [rC a_15 c_16 ((d.l.getD q o0).t.cells), Res.row (.slice a_11 y_13.length c_12) 49 1 y_13.length (y_13.flatMap encR), Res.rows (y_13.flatMap rdsR), bk b_10 60 [iv ((d.l.getD q o0).t.seq), .slice ((d.l.getD q o0).x.a0) ((d.l.getD q o0).t.cells.length) ((d.l.getD q o0).x.c0), .bool ((d.l.getD q o0).t.whole)], bk b_3 31 [.slice d.a d.l.length d.c, str d.jt, iv d.js]]) (fun w hw => hw.perm (pick_perm [2] (A := [rC a_15 c_16 ((d.l.getD q o0).t.cells)]) (F := [Res.row (.slice a_11 y_13.length c_12) 49 1 y_13.length (y_13.flatMap encR), Res.rows (y_13.flatMap rdsR), bk b_10 60 [iv ((d.l.getD q o0).t.seq), .slice ((d.l.getD q o0).x.a0) ((d.l.getD q o0).t.cells.length) ((d.l.getD q o0).x.c0), .bool ((d.l.getD q o0).t.whole)], bk b_3 31 [.slice d.a d.l.length d.c, str d.jt, iv d.js]]) rfl).symm) <| kD (fun k_ e_ L_ => ∃ j : Nat, ∃ sa : Option Addr, ∃ sc : Nat, ∃ s_ : List Cell, (j ≤ y_13.length) ∧ (s_.length + sumC ((y_13.map cellsR).drop j) ≤ 30000) ∧ (applyAll s_ ((y_13.map cellsR).drop j) = applyAll (d.l.getD q o0).t.cells (y_13.map cellsR)) ∧ e_ 2 = .slice none 0 0 ∧ e_ 3 = iv 0 ∧ e_ 4 = .pointer (some ⟨b_10, 0, none⟩) ∧ e_ 5 = .slice a_11 y_13.length c_12 ∧ e_ 7 = .slice sa s_.length sc ∧ e_ 34 = .slice a_11 y_13.length c_12 ∧ e_ 35 = nv y_13.length ∧ e_ 36 = nv j ∧ L_ = [rC sa sc s_, Res.row (.slice a_11 y_13.length c_12) 49 1 y_13.length (y_13.flatMap encR), Res.rows (y_13.flatMap rdsR), bk b_10 60 [iv ((d.l.getD q o0).t.seq), .slice ((d.l.getD q o0).x.a0) ((d.l.getD q o0).t.cells.length) ((d.l.getD q o0).x.c0), .bool ((d.l.getD q o0).t.whole)], bk b_3 31 [.slice d.a d.l.length d.c, str d.jt, iv d.js]] ∧ k_ = y_13.length - j) _ ⟨0, a_15, c_16, (d.l.getD q o0).t.cells, by omega, (by rw [List.drop_zero]; omega), rfl, rfl, rfl, rfl, rfl, rfl, rfl, rfl, rfl, rfl, rfl⟩ ?_
      rintro _ e_17 _ ⟨j, sa, sc, s_, hj, hb, hR, he_18, he_19, he_20, he_21, he_22, he_23, he_24, he_25, rfl, rfl⟩
      refine jC <| jF <| jA (jl he_25 he_24) <| jE <| jB <| jC ?_
      by_cases h_26 : ((j : Nat) : Int) < ((y_13.length : Nat) : Int)
      · have hlt : j < y_13.length := by omega
        have hsc := sumC_step hlt
        refine jW (cB (dT h_26)) <| jT <| jB <| jC <| jf <| jC <| jF ?_
        refine kN fun hst => ?_
        obtain ⟨hr_27, hr_27b, -⟩ := row_some 1 rfl (by omega) hst
        refine jA (jk (i := j) kx gM hr_27 hr_27b he_23 he_25 (by omega)) <| jK (ka 1 (v := .slice ((y_13.getD j r0).x.a0) ((y_13.getD j r0).t.cells.length) ((y_13.getD j r0).x.c0)) rfl rfl kz (flat_at encR_len r0 y_13 j 0 (by omega) (by decide))) <| jA (jG (v := .slice ((y_13.getD j r0).x.a0) ((y_13.getD j r0).t.cells.length) ((y_13.getD j r0).x.c0)) rfl) <| jE <| jB <| jC <| kT (L' := [Res.rows ((y_13.take j).flatMap rdsR), Res.rows (rdsR (y_13.getD j r0)), Res.rows ((y_13.drop (j + 1)).flatMap rdsR), rC sa sc s_, Res.row (.slice a_11 y_13.length c_12) 49 1 y_13.length (y_13.flatMap encR), bk b_10 60 [iv ((d.l.getD q o0).t.seq), .slice ((d.l.getD q o0).x.a0) ((d.l.getD q o0).t.cells.length) ((d.l.getD q o0).x.c0), .bool ((d.l.getD q o0).t.whole)], bk b_3 31 [.slice d.a d.l.length d.c, str d.jt, iv d.js]]) (fun w hw => hw.splitR 2 rfl (flatMap_at r0 hlt)) <| kT (L' := [Res.row (.slice ((y_13.getD j r0).x.a0) ((y_13.getD j r0).t.cells.length) ((y_13.getD j r0).x.c0)) 48 2 (((y_13.getD j r0).t.cells).length) (((y_13.getD j r0).t.cells).flatMap encC), Res.rows ((y_13.take j).flatMap rdsR), Res.rows ((y_13.drop (j + 1)).flatMap rdsR), rC sa sc s_, Res.row (.slice a_11 y_13.length c_12) 49 1 y_13.length (y_13.flatMap encR), bk b_10 60 [iv ((d.l.getD q o0).t.seq), .slice ((d.l.getD q o0).x.a0) ((d.l.getD q o0).t.cells.length) ((d.l.getD q o0).x.c0), .bool ((d.l.getD q o0).t.whole)], bk b_3 31 [.slice d.a d.l.length d.c, str d.jt, iv d.js]]) (fun w hw => hw.openR 1 rfl) <| jF <| jA (jD (v := .slice ((y_13.getD j r0).x.a0) ((y_13.getD j r0).t.cells.length) ((y_13.getD j r0).x.c0)) rfl) ?_
        refine jA (jr kf rfl) <| jA (jD (v := iv 0) rfl) <| jE <| jB <| jf <| kT (L' := [rC sa sc s_, Res.row (.slice ((y_13.getD j r0).x.a0) ((y_13.getD j r0).t.cells.length) ((y_13.getD j r0).x.c0)) 48 2 (((y_13.getD j r0).t.cells).length) (((y_13.getD j r0).t.cells).flatMap encC), Res.rows ((y_13.take j).flatMap rdsR), Res.rows ((y_13.drop (j + 1)).flatMap rdsR), Res.row (.slice a_11 y_13.length c_12) 49 1 y_13.length (y_13.flatMap encR), bk b_10 60 [iv ((d.l.getD q o0).t.seq), .slice ((d.l.getD q o0).x.a0) ((d.l.getD q o0).t.cells.length) ((d.l.getD q o0).x.c0), .bool ((d.l.getD q o0).t.whole)], bk b_3 31 [.slice d.a d.l.length d.c, str d.jt, iv d.js]]) (fun w hw => hw.perm (pick_perm [3] (A := [rC sa sc s_]) (F := [Res.row (.slice ((y_13.getD j r0).x.a0) ((y_13.getD j r0).t.cells.length) ((y_13.getD j r0).x.c0)) 48 2 (((y_13.getD j r0).t.cells).length) (((y_13.getD j r0).t.cells).flatMap encC), Res.rows ((y_13.take j).flatMap rdsR), Res.rows ((y_13.drop (j + 1)).flatMap rdsR), Res.row (.slice a_11 y_13.length c_12) 49 1 y_13.length (y_13.flatMap encR), bk b_10 60 [iv ((d.l.getD q o0).t.seq), .slice ((d.l.getD q o0).x.a0) ((d.l.getD q o0).t.cells.length) ((d.l.getD q o0).x.c0), .bool ((d.l.getD q o0).t.whole)], bk b_3 31 [.slice d.a d.l.length d.c, str d.jt, iv d.js]]) rfl).symm) <| kD (fun k_ e_ L_ => ∃ i : Nat, ∃ qa : Option Addr, ∃ qc : Nat, ∃ q_ : List Cell, (i ≤ (y_13.getD j r0).t.cells.length) ∧ (q_.length + ((y_13.getD j r0).t.cells.length - i) ≤ s_.length + (y_13.getD j r0).t.cells.length) ∧ (applyR q_ ((y_13.getD j r0).t.cells.drop i) = applyR s_ (y_13.getD j r0).t.cells) ∧ e_ 2 = .slice none 0 0 ∧ e_ 3 = iv 0 ∧ e_ 4 = .pointer (some ⟨b_10, 0, none⟩) ∧ e_ 5 = .slice a_11 y_13.length c_12 ∧ e_ 7 = .slice qa q_.length qc ∧ e_ 34 = .slice a_11 y_13.length c_12 ∧ e_ 35 = nv y_13.length ∧ e_ 36 = nv j ∧ e_ 40 = .slice ((y_13.getD j r0).x.a0) ((y_13.getD j r0).t.cells.length) ((y_13.getD j r0).x.c0) ∧ e_ 41 = iv (((y_13.getD j r0).t.cells.length : Nat) : Int) ∧ e_ 42 = nv i ∧ L_ = [rC qa qc q_, Res.row (.slice ((y_13.getD j r0).x.a0) ((y_13.getD j r0).t.cells.length) ((y_13.getD j r0).x.c0)) 48 2 (((y_13.getD j r0).t.cells).length) (((y_13.getD j r0).t.cells).flatMap encC), Res.rows ((y_13.take j).flatMap rdsR), Res.rows ((y_13.drop (j + 1)).flatMap rdsR), Res.row (.slice a_11 y_13.length c_12) 49 1 y_13.length (y_13.flatMap encR), bk b_10 60 [iv ((d.l.getD q o0).t.seq), .slice ((d.l.getD q o0).x.a0) ((d.l.getD q o0).t.cells.length) ((d.l.getD q o0).x.c0), .bool ((d.l.getD q o0).t.whole)], bk b_3 31 [.slice d.a d.l.length d.c, str d.jt, iv d.js]] ∧ k_ = (y_13.getD j r0).t.cells.length - i) _ ⟨0, sa, sc, s_, by omega, by omega, rfl, he_18, he_19, he_20, he_21, he_22, he_23, he_24, he_25, rfl, rfl, rfl, rfl, rfl⟩ ?_
        rintro _ e_28 _ ⟨i, qa, qc, q_, hi, hb2, hR2, he_29, he_30, he_31, he_32, he_33, he_34, he_35, he_36, he_37, he_38, he_39, rfl, rfl⟩
        refine jC <| jF <| jA (jl he_39 he_38) <| jE <| jB <| jC ?_
        by_cases h_40 : ((i : Nat) : Int) < (((y_13.getD j r0).t.cells.length : Nat) : Int)
        · have hlt2 : i < (y_13.getD j r0).t.cells.length := by omega
          have hkl := (rec_key hys hlt hlt2).1
          have hpl := putKey_one q_ ((y_13.getD j r0).t.cells.getD i c0).1 ((y_13.getD j r0).t.cells.getD i c0).2
          refine jW (cB (dT h_40)) <| jT <| jB <| jC <| jf <| jC <| jF ?_
          refine kN fun hst => ?_
          obtain ⟨hr_41, hr_41b, -⟩ := row_some 1 rfl (by omega) hst
          refine jA (jk (i := i) kf kh hr_41 hr_41b he_37 he_39 (by omega)) <| jK (LO.loadRK 1 (vs := [str ((((y_13.getD j r0).t.cells).getD i c0).1), str ((((y_13.getD j r0).t.cells).getD i c0).2)]) rfl rfl gG kh (atC (by omega)) rfl (by decide)) ?_
          refine jH rfl (jo (z := .agg #[str [], str []]) (cs := [str [], str []]) kw rfl) ?_
          rintro _ _ ⟨b_42, rfl, rfl⟩
          refine jH rfl (ja 0 (vs := [str ((((y_13.getD j r0).t.cells).getD i c0).1), str ((((y_13.getD j r0).t.cells).getD i c0).2)]) (cs' := [str ((((y_13.getD j r0).t.cells).getD i c0).1), str ((((y_13.getD j r0).t.cells).getD i c0).2)]) rfl rfl rfl rfl kh rfl rfl (lb rfl) rfl) ?_
          rintro _ _ rfl
          refine jE <| jB <| jF <| jA (jD (v := .slice qa q_.length qc) he_33) <| jA (jQ fo48_0 rfl) <| jK (jZ 0 (v := str ((((y_13.getD j r0).t.cells).getD i c0).1)) rfl rfl ki rfl) <| jA (jQ fo48_1 rfl) <| jK (jZ 0 (v := str ((((y_13.getD j r0).t.cells).getD i c0).2)) rfl rfl ki rfl) ?_
          refine jH rfl (jI [1] Tryz.call86 rfl (C_put qa qc q_ ((((y_13.getD j r0).t.cells).getD i c0).1) ((((y_13.getD j r0).t.cells).getD i c0).2) (by omega) (by omega)) rfl (fun _ _ => trivial)) ?_
          rintro _ _ ⟨_, ⟨a_43, c_44, rfl, rfl⟩, rfl⟩
          refine jA (jG (v := .slice a_43 ((putKey q_ ((((y_13.getD j r0).t.cells).getD i c0).1) ((((y_13.getD j r0).t.cells).getD i c0).2)).length) c_44) rfl) <| jE <| jm <| jB <| jF <| jA (jc (c := ((i + 1 : Nat) : Int)) he_39 rfl (wr (by omega))) <| jA (jD (v := iv ((i + 1 : Nat) : Int)) rfl) <| jE <| kB [0, 1, 1, 1, 1, 1, 1] (A := [rC a_43 c_44 (putKey q_ ((((y_13.getD j r0).t.cells).getD i c0).1) ((((y_13.getD j r0).t.cells).getD i c0).2)), Res.row (.slice ((y_13.getD j r0).x.a0) ((y_13.getD j r0).t.cells.length) ((y_13.getD j r0).x.c0)) 48 2 (((y_13.getD j r0).t.cells).length) (((y_13.getD j r0).t.cells).flatMap encC), Res.rows ((y_13.take j).flatMap rdsR), Res.rows ((y_13.drop (j + 1)).flatMap rdsR), Res.row (.slice a_11 y_13.length c_12) 49 1 y_13.length (y_13.flatMap encR), bk b_10 60 [iv ((d.l.getD q o0).t.seq), .slice ((d.l.getD q o0).x.a0) ((d.l.getD q o0).t.cells.length) ((d.l.getD q o0).x.c0), .bool ((d.l.getD q o0).t.whole)], bk b_3 31 [.slice d.a d.l.length d.c, str d.jt, iv d.js]]) rfl ?_
          refine jq ((y_13.getD j r0).t.cells.length - (i + 1)) (by omega) ⟨i + 1, a_43, c_44, (putKey q_ ((((y_13.getD j r0).t.cells).getD i c0).1) ((((y_13.getD j r0).t.cells).getD i c0).2)), by omega, by omega, (by rw [applyR_step hlt2] at hR2; exact hR2), he_29, he_30, he_31, he_32, rfl, he_34, he_35, he_36, he_37, he_38, rfl, rfl, rfl⟩
        refine jR (cB (dF h_40)) <| jx <| jb <| jb <| jy <| jm <| jB <| jF <| jA (jc (c := ((j + 1 : Nat) : Int)) he_36 rfl (wr (by omega))) <| jA (jD (v := iv ((j + 1 : Nat) : Int)) rfl) ?_
        refine jE <| ju (L' := [Res.rows (rdsR (y_13.getD j r0)), rC qa qc q_, Res.rows ((y_13.take j).flatMap rdsR), Res.rows ((y_13.drop (j + 1)).flatMap rdsR), Res.row (.slice a_11 y_13.length c_12) 49 1 y_13.length (y_13.flatMap encR), bk b_10 60 [iv ((d.l.getD q o0).t.seq), .slice ((d.l.getD q o0).x.a0) ((d.l.getD q o0).t.cells.length) ((d.l.getD q o0).x.c0), .bool ((d.l.getD q o0).t.whole)], bk b_3 31 [.slice d.a d.l.length d.c, str d.jt, iv d.js]]) (fun w hw => hw.closeR (A := rdsR (y_13.getD j r0)) [1] rfl) <| ju (L' := [Res.rows (y_13.flatMap rdsR), rC qa qc q_, Res.row (.slice a_11 y_13.length c_12) 49 1 y_13.length (y_13.flatMap encR), bk b_10 60 [iv ((d.l.getD q o0).t.seq), .slice ((d.l.getD q o0).x.a0) ((d.l.getD q o0).t.cells.length) ((d.l.getD q o0).x.c0), .bool ((d.l.getD q o0).t.whole)], bk b_3 31 [.slice d.a d.l.length d.c, str d.jt, iv d.js]]) (fun w hw => hw.joinR [2, 0, 1] rfl (flatMap_at r0 hlt)) <| kB [1, 1, 0, 0, 0] (A := [rC qa qc q_, Res.row (.slice a_11 y_13.length c_12) 49 1 y_13.length (y_13.flatMap encR), Res.rows (y_13.flatMap rdsR), bk b_10 60 [iv ((d.l.getD q o0).t.seq), .slice ((d.l.getD q o0).x.a0) ((d.l.getD q o0).t.cells.length) ((d.l.getD q o0).x.c0), .bool ((d.l.getD q o0).t.whole)], bk b_3 31 [.slice d.a d.l.length d.c, str d.jt, iv d.js]]) rfl ?_
        refine jq (y_13.length - (j + 1)) (by omega) ⟨j + 1, qa, qc, q_, by omega, by omega, (by rw [applyAll_step hlt] at hR; rw [show (y_13.getD j r0).t.cells.drop i = [] from List.drop_of_length_le (by omega)] at hR2; rw [← hR2] at hR; exact hR), he_29, he_30, he_31, he_32, he_33, he_34, he_35, rfl, rfl, rfl⟩
      refine jR (cB (dF h_26)) <| jx <| jb <| jb <| jy <| jB <| jC <| kJ [rC sa sc s_, Res.row (.slice a_11 y_13.length c_12) 49 1 y_13.length (y_13.flatMap encR), Res.rows (y_13.flatMap rdsR), bk b_10 60 [iv ((d.l.getD q o0).t.seq), .slice ((d.l.getD q o0).x.a0) ((d.l.getD q o0).t.cells.length) ((d.l.getD q o0).x.c0), .bool ((d.l.getD q o0).t.whole)], bk b_3 31 [.slice d.a d.l.length d.c, str d.jt, iv d.js]] 0 mixed (by simp) <| jL 0 rfl (jD (v := .slice sa s_.length sc) he_22) <| jL 1 rfl (jQ fo60_0 he_20) ?_
      refine jL 3 rfl (jD (v := .slice a_11 y_13.length c_12) he_21) <| jL 4 rfl (jr kx rfl) <| jL 6 rfl (jG (v := .slice sa s_.length sc) rfl) <| jj (i := 2) ?_
      refine JX.lt rfl (jP (jZ 3 (v := iv ((d.l.getD q o0).t.seq)) rfl rfl kq rfl)) ?_
      rintro _ _ ⟨rfl, rfl⟩
      refine jL 5 rfl (jc (c := ((d.l.getD q o0).t.seq) + ((y_13.length : Nat) : Int)) rfl rfl (wr (by omega))) <| jL 7 rfl (jG (v := iv (((d.l.getD q o0).t.seq) + ((y_13.length : Nat) : Int))) rfl) <| kI (by kernel_rfl) <| jB <| jN <| kC (.inl rfl) rfl (jJ (v := .slice sa s_.length sc) rfl) (jJ (v := iv (((d.l.getD q o0).t.seq) + ((y_13.length : Nat) : Int))) rfl) (tS 1 _) ?_
      have hf : s_ = applyAll (d.l.getD q o0).t.cells (y_13.map cellsR) := by rw [show (y_13.map cellsR).drop j = [] from List.drop_of_length_le (by rw [List.length_map]; omega)] at hR; exact hR
      have he := recov_eq h_4 hbc hmost hys hf (List.length_map _)
      exact ⟨sa, sc, by rw [he] <;> rfl, by rw [he] <;> rfl⟩
    refine jz rfl rfl (jo (z := .agg #[iv 0, .slice none 0 0, .bool false]) (cs := [iv 0, .slice none 0 0, .bool false]) gD rfl) ?_
    rintro _ _ ⟨b_45, rfl, rfl⟩
    refine ⟨by simp, ?_⟩
    refine jj (i := 3) ?_
    refine jz rfl rfl (jI [] Tryz.call48 rfl (Y_iBestN d hz (by omega) q hq) rfl (fun w hw => hw.seeOutA hpre.1 nMA)) ?_
    rintro _ _ ⟨_, ⟨rfl, rfl⟩, rfl⟩
    refine ⟨by simp, ?_⟩
    obtain ⟨hr_46, hr_46b, -⟩ := sees_some hs_1 (by omega)
    refine jL 4 rfl (jk (i := q) km kj hr_46 hr_46b rfl rfl (by omega)) ?_
    have hi_47 := SeesA.elem hi_2 o0 (show q < d.l.length by omega)
    have hs_48 := seesO hi_47
    refine jw 5 rfl (kX (vs := [iv ((d.l.getD q o0).t.seq), .slice ((d.l.getD q o0).x.a0) ((d.l.getD q o0).t.cells.length) ((d.l.getD q o0).x.c0), .bool ((d.l.getD q o0).t.whole)]) hs_1 nM rfl gB kj (flat_take encO_len o0 d.l q (by omega)) rfl (by decide)) <| jj (i := 7) ?_
    refine JX.ls rfl (ja 0 (vs := [iv ((d.l.getD q o0).t.seq), .slice ((d.l.getD q o0).x.a0) ((d.l.getD q o0).t.cells.length) ((d.l.getD q o0).x.c0), .bool ((d.l.getD q o0).t.whole)]) (cs' := [iv ((d.l.getD q o0).t.seq), .slice ((d.l.getD q o0).x.a0) ((d.l.getD q o0).t.cells.length) ((d.l.getD q o0).x.c0), .bool ((d.l.getD q o0).t.whole)]) rfl rfl rfl rfl kj rfl rfl (lb rfl) rfl) ?_
    rintro _ _ rfl
    refine jB <| jC <| jF <| jA (jQ fo31_1 rfl) <| jA (jQ fo29_0 rfl) <| jK (jZ 1 (v := str d.jt) rfl rfl ki rfl) <| jA (jQ fo60_0 rfl) <| jK (jZ 0 (v := iv ((d.l.getD q o0).t.seq)) rfl rfl kq rfl) <| jA (jc (c := ((d.l.getD q o0).t.seq) + 1) rfl rfl (wr (by omega))) ?_
    refine jH rfl (jI [] Tryz.call70 rfl (Y_iRecs d.jt (((d.l.getD q o0).t.seq) + 1) (by omega)) rfl (fun w hw => hw.hex hlow hpre.2)) ?_
    rintro _ _ ⟨_, ⟨a_49, c_50, y_51, hy_52, rfl, rfl⟩, rfl⟩
    refine jA (jD (v := .tuple #[.slice a_49 y_51.length c_50, iv (((recsOf d.jt (((d.l.getD q o0).t.seq) + 1)).2 : Nat) : Int)]) rfl) <| jA (je (v := .slice a_49 y_51.length c_50) rfl rfl) <| jA (je (v := iv (((recsOf d.jt (((d.l.getD q o0).t.seq) + 1)).2 : Nat) : Int)) rfl rfl) <| jA (jG (v := .slice a_49 y_51.length c_50) rfl) <| jA (jG (v := iv (((recsOf d.jt (((d.l.getD q o0).t.seq) + 1)).2 : Nat) : Int)) rfl) <| jE <| jB <| jC <| jF <| jA (jQ fo60_1 rfl) ?_
    refine jK (jZ 1 (v := .slice ((d.l.getD q o0).x.a0) ((d.l.getD q o0).t.cells.length) ((d.l.getD q o0).x.c0)) rfl rfl kz rfl) ?_
    refine jH rfl (jI [] Tryz.call74 rfl (C_cloneC (d.l.getD q o0).x.a0 ((d.l.getD q o0).x.c0) ((d.l.getD q o0).t.cells) (by omega)) rfl (fun w hw => hw.seeOut_ hs_48 nM)) ?_
    rintro _ _ ⟨_, ⟨a_53, c_54, rfl, rfl⟩, rfl⟩
    refine jA (jG (v := .slice a_53 (((d.l.getD q o0).t.cells).length) c_54) rfl) <| jE <| jB <| jC <| jC ?_
    have hys : y_51.map cellsR = (recsOf d.jt ((d.l.getD q o0).t.seq + 1)).1 := hy_52
    have hyc : sumC (y_51.map cellsR) ≤ 20000 := by rw [hys]; omega
    have hyn : y_51.length ≤ 20000 := by have h_ := congrArg List.length hys; rw [List.length_map] at h_; have h2_ := recsOf_count d.jt ((d.l.getD q o0).t.seq + 1); omega
    refine jF <| jA (jD (v := .slice a_49 y_51.length c_50) rfl) <| jA (jr kx rfl) <| jA (jD (v := iv 0) rfl) <| jE <| jB <| jf <| kT (L' := [Res.row (.slice a_49 y_51.length c_50) 49 1 y_51.length (y_51.flatMap encR), Res.rows (y_51.flatMap rdsR), rC a_53 c_54 ((d.l.getD q o0).t.cells), bk b_45 60 [iv ((d.l.getD q o0).t.seq), .slice ((d.l.getD q o0).x.a0) ((d.l.getD q o0).t.cells.length) ((d.l.getD q o0).x.c0), .bool ((d.l.getD q o0).t.whole)], bk b_3 31 [.slice d.a d.l.length d.c, str d.jt, iv d.js]]) (fun w hw => hw.headR (r := ⟨.slice a_49 y_51.length c_50, 49, 1, y_51.length, y_51.flatMap encR⟩) (A := y_51.flatMap rdsR) 1 rfl) <| kT (L' := [rC a_53 c_54 ((d.l.getD q o0).t.cells), Res.row (.slice a_49 y_51.length c_50) 49 1 y_51.length (y_51.flatMap encR), Res.rows (y_51.flatMap rdsR), bk b_45 60 [iv ((d.l.getD q o0).t.seq), .slice ((d.l.getD q o0).x.a0) ((d.l.getD q o0).t.cells.length) ((d.l.getD q o0).x.c0), .bool ((d.l.getD q o0).t.whole)], bk b_3 31 [.slice d.a d.l.length d.c, str d.jt, iv d.js]]) (fun w hw => hw.perm (pick_perm [2] (A := [rC a_53 c_54 ((d.l.getD q o0).t.cells)]) (F := [Res.row (.slice a_49 y_51.length c_50) 49 1 y_51.length (y_51.flatMap encR), Res.rows (y_51.flatMap rdsR), bk b_45 60 [iv ((d.l.getD q o0).t.seq), .slice ((d.l.getD q o0).x.a0) ((d.l.getD q o0).t.cells.length) ((d.l.getD q o0).x.c0), .bool ((d.l.getD q o0).t.whole)], bk b_3 31 [.slice d.a d.l.length d.c, str d.jt, iv d.js]]) rfl).symm) <| kD (fun k_ e_ L_ => ∃ j : Nat, ∃ sa : Option Addr, ∃ sc : Nat, ∃ s_ : List Cell, (j ≤ y_51.length) ∧ (s_.length + sumC ((y_51.map cellsR).drop j) ≤ 30000) ∧ (applyAll s_ ((y_51.map cellsR).drop j) = applyAll (d.l.getD q o0).t.cells (y_51.map cellsR)) ∧ e_ 2 = .slice none 0 0 ∧ e_ 3 = iv 0 ∧ e_ 4 = .pointer (some ⟨b_45, 0, none⟩) ∧ e_ 5 = .slice a_49 y_51.length c_50 ∧ e_ 7 = .slice sa s_.length sc ∧ e_ 34 = .slice a_49 y_51.length c_50 ∧ e_ 35 = nv y_51.length ∧ e_ 36 = nv j ∧ L_ = [rC sa sc s_, Res.row (.slice a_49 y_51.length c_50) 49 1 y_51.length (y_51.flatMap encR), Res.rows (y_51.flatMap rdsR), bk b_45 60 [iv ((d.l.getD q o0).t.seq), .slice ((d.l.getD q o0).x.a0) ((d.l.getD q o0).t.cells.length) ((d.l.getD q o0).x.c0), .bool ((d.l.getD q o0).t.whole)], bk b_3 31 [.slice d.a d.l.length d.c, str d.jt, iv d.js]] ∧ k_ = y_51.length - j) _ ⟨0, a_53, c_54, (d.l.getD q o0).t.cells, by omega, (by rw [List.drop_zero]; omega), rfl, rfl, rfl, rfl, rfl, rfl, rfl, rfl, rfl, rfl, rfl⟩ ?_
    rintro _ e_55 _ ⟨j, sa, sc, s_, hj, hb, hR, he_56, he_57, he_58, he_59, he_60, he_61, he_62, he_63, rfl, rfl⟩
    refine jC <| jF <| jA (jl he_63 he_62) <| jE <| jB <| jC ?_
    by_cases h_64 : ((j : Nat) : Int) < ((y_51.length : Nat) : Int)
    · have hlt : j < y_51.length := by omega
      have hsc := sumC_step hlt
      refine jW (cB (dT h_64)) <| jT <| jB <| jC <| jf <| jC <| jF ?_
      refine kN fun hst => ?_
      obtain ⟨hr_65, hr_65b, -⟩ := row_some 1 rfl (by omega) hst
      refine jA (jk (i := j) kx gM hr_65 hr_65b he_61 he_63 (by omega)) <| jK (ka 1 (v := .slice ((y_51.getD j r0).x.a0) ((y_51.getD j r0).t.cells.length) ((y_51.getD j r0).x.c0)) rfl rfl kz (flat_at encR_len r0 y_51 j 0 (by omega) (by decide))) <| jA (jG (v := .slice ((y_51.getD j r0).x.a0) ((y_51.getD j r0).t.cells.length) ((y_51.getD j r0).x.c0)) rfl) <| jE <| jB <| jC <| kT (L' := [Res.rows ((y_51.take j).flatMap rdsR), Res.rows (rdsR (y_51.getD j r0)), Res.rows ((y_51.drop (j + 1)).flatMap rdsR), rC sa sc s_, Res.row (.slice a_49 y_51.length c_50) 49 1 y_51.length (y_51.flatMap encR), bk b_45 60 [iv ((d.l.getD q o0).t.seq), .slice ((d.l.getD q o0).x.a0) ((d.l.getD q o0).t.cells.length) ((d.l.getD q o0).x.c0), .bool ((d.l.getD q o0).t.whole)], bk b_3 31 [.slice d.a d.l.length d.c, str d.jt, iv d.js]]) (fun w hw => hw.splitR 2 rfl (flatMap_at r0 hlt)) <| kT (L' := [Res.row (.slice ((y_51.getD j r0).x.a0) ((y_51.getD j r0).t.cells.length) ((y_51.getD j r0).x.c0)) 48 2 (((y_51.getD j r0).t.cells).length) (((y_51.getD j r0).t.cells).flatMap encC), Res.rows ((y_51.take j).flatMap rdsR), Res.rows ((y_51.drop (j + 1)).flatMap rdsR), rC sa sc s_, Res.row (.slice a_49 y_51.length c_50) 49 1 y_51.length (y_51.flatMap encR), bk b_45 60 [iv ((d.l.getD q o0).t.seq), .slice ((d.l.getD q o0).x.a0) ((d.l.getD q o0).t.cells.length) ((d.l.getD q o0).x.c0), .bool ((d.l.getD q o0).t.whole)], bk b_3 31 [.slice d.a d.l.length d.c, str d.jt, iv d.js]]) (fun w hw => hw.openR 1 rfl) <| jF <| jA (jD (v := .slice ((y_51.getD j r0).x.a0) ((y_51.getD j r0).t.cells.length) ((y_51.getD j r0).x.c0)) rfl) ?_
      refine jA (jr kf rfl) <| jA (jD (v := iv 0) rfl) <| jE <| jB <| jf <| kT (L' := [rC sa sc s_, Res.row (.slice ((y_51.getD j r0).x.a0) ((y_51.getD j r0).t.cells.length) ((y_51.getD j r0).x.c0)) 48 2 (((y_51.getD j r0).t.cells).length) (((y_51.getD j r0).t.cells).flatMap encC), Res.rows ((y_51.take j).flatMap rdsR), Res.rows ((y_51.drop (j + 1)).flatMap rdsR), Res.row (.slice a_49 y_51.length c_50) 49 1 y_51.length (y_51.flatMap encR), bk b_45 60 [iv ((d.l.getD q o0).t.seq), .slice ((d.l.getD q o0).x.a0) ((d.l.getD q o0).t.cells.length) ((d.l.getD q o0).x.c0), .bool ((d.l.getD q o0).t.whole)], bk b_3 31 [.slice d.a d.l.length d.c, str d.jt, iv d.js]]) (fun w hw => hw.perm (pick_perm [3] (A := [rC sa sc s_]) (F := [Res.row (.slice ((y_51.getD j r0).x.a0) ((y_51.getD j r0).t.cells.length) ((y_51.getD j r0).x.c0)) 48 2 (((y_51.getD j r0).t.cells).length) (((y_51.getD j r0).t.cells).flatMap encC), Res.rows ((y_51.take j).flatMap rdsR), Res.rows ((y_51.drop (j + 1)).flatMap rdsR), Res.row (.slice a_49 y_51.length c_50) 49 1 y_51.length (y_51.flatMap encR), bk b_45 60 [iv ((d.l.getD q o0).t.seq), .slice ((d.l.getD q o0).x.a0) ((d.l.getD q o0).t.cells.length) ((d.l.getD q o0).x.c0), .bool ((d.l.getD q o0).t.whole)], bk b_3 31 [.slice d.a d.l.length d.c, str d.jt, iv d.js]]) rfl).symm) <| kD (fun k_ e_ L_ => ∃ i : Nat, ∃ qa : Option Addr, ∃ qc : Nat, ∃ q_ : List Cell, (i ≤ (y_51.getD j r0).t.cells.length) ∧ (q_.length + ((y_51.getD j r0).t.cells.length - i) ≤ s_.length + (y_51.getD j r0).t.cells.length) ∧ (applyR q_ ((y_51.getD j r0).t.cells.drop i) = applyR s_ (y_51.getD j r0).t.cells) ∧ e_ 2 = .slice none 0 0 ∧ e_ 3 = iv 0 ∧ e_ 4 = .pointer (some ⟨b_45, 0, none⟩) ∧ e_ 5 = .slice a_49 y_51.length c_50 ∧ e_ 7 = .slice qa q_.length qc ∧ e_ 34 = .slice a_49 y_51.length c_50 ∧ e_ 35 = nv y_51.length ∧ e_ 36 = nv j ∧ e_ 40 = .slice ((y_51.getD j r0).x.a0) ((y_51.getD j r0).t.cells.length) ((y_51.getD j r0).x.c0) ∧ e_ 41 = iv (((y_51.getD j r0).t.cells.length : Nat) : Int) ∧ e_ 42 = nv i ∧ L_ = [rC qa qc q_, Res.row (.slice ((y_51.getD j r0).x.a0) ((y_51.getD j r0).t.cells.length) ((y_51.getD j r0).x.c0)) 48 2 (((y_51.getD j r0).t.cells).length) (((y_51.getD j r0).t.cells).flatMap encC), Res.rows ((y_51.take j).flatMap rdsR), Res.rows ((y_51.drop (j + 1)).flatMap rdsR), Res.row (.slice a_49 y_51.length c_50) 49 1 y_51.length (y_51.flatMap encR), bk b_45 60 [iv ((d.l.getD q o0).t.seq), .slice ((d.l.getD q o0).x.a0) ((d.l.getD q o0).t.cells.length) ((d.l.getD q o0).x.c0), .bool ((d.l.getD q o0).t.whole)], bk b_3 31 [.slice d.a d.l.length d.c, str d.jt, iv d.js]] ∧ k_ = (y_51.getD j r0).t.cells.length - i) _ ⟨0, sa, sc, s_, by omega, by omega, rfl, he_56, he_57, he_58, he_59, he_60, he_61, he_62, he_63, rfl, rfl, rfl, rfl, rfl⟩ ?_
      rintro _ e_66 _ ⟨i, qa, qc, q_, hi, hb2, hR2, he_67, he_68, he_69, he_70, he_71, he_72, he_73, he_74, he_75, he_76, he_77, rfl, rfl⟩
      refine jC <| jF <| jA (jl he_77 he_76) <| jE <| jB <| jC ?_
      by_cases h_78 : ((i : Nat) : Int) < (((y_51.getD j r0).t.cells.length : Nat) : Int)
      · have hlt2 : i < (y_51.getD j r0).t.cells.length := by omega
        have hkl := (rec_key hys hlt hlt2).1
        have hpl := putKey_one q_ ((y_51.getD j r0).t.cells.getD i c0).1 ((y_51.getD j r0).t.cells.getD i c0).2
        refine jW (cB (dT h_78)) <| jT <| jB <| jC <| jf <| jC <| jF ?_
        refine kN fun hst => ?_
        obtain ⟨hr_79, hr_79b, -⟩ := row_some 1 rfl (by omega) hst
        refine jA (jk (i := i) kf kh hr_79 hr_79b he_75 he_77 (by omega)) <| jK (LO.loadRK 1 (vs := [str ((((y_51.getD j r0).t.cells).getD i c0).1), str ((((y_51.getD j r0).t.cells).getD i c0).2)]) rfl rfl gG kh (atC (by omega)) rfl (by decide)) ?_
        refine jH rfl (jo (z := .agg #[str [], str []]) (cs := [str [], str []]) kw rfl) ?_
        rintro _ _ ⟨b_80, rfl, rfl⟩
        refine jH rfl (ja 0 (vs := [str ((((y_51.getD j r0).t.cells).getD i c0).1), str ((((y_51.getD j r0).t.cells).getD i c0).2)]) (cs' := [str ((((y_51.getD j r0).t.cells).getD i c0).1), str ((((y_51.getD j r0).t.cells).getD i c0).2)]) rfl rfl rfl rfl kh rfl rfl (lb rfl) rfl) ?_
        rintro _ _ rfl
        refine jE <| jB <| jF <| jA (jD (v := .slice qa q_.length qc) he_71) <| jA (jQ fo48_0 rfl) <| jK (jZ 0 (v := str ((((y_51.getD j r0).t.cells).getD i c0).1)) rfl rfl ki rfl) <| jA (jQ fo48_1 rfl) <| jK (jZ 0 (v := str ((((y_51.getD j r0).t.cells).getD i c0).2)) rfl rfl ki rfl) ?_
        refine jH rfl (jI [1] Tryz.call86 rfl (C_put qa qc q_ ((((y_51.getD j r0).t.cells).getD i c0).1) ((((y_51.getD j r0).t.cells).getD i c0).2) (by omega) (by omega)) rfl (fun _ _ => trivial)) ?_
        rintro _ _ ⟨_, ⟨a_81, c_82, rfl, rfl⟩, rfl⟩
        refine jA (jG (v := .slice a_81 ((putKey q_ ((((y_51.getD j r0).t.cells).getD i c0).1) ((((y_51.getD j r0).t.cells).getD i c0).2)).length) c_82) rfl) <| jE <| jm <| jB <| jF <| jA (jc (c := ((i + 1 : Nat) : Int)) he_77 rfl (wr (by omega))) <| jA (jD (v := iv ((i + 1 : Nat) : Int)) rfl) <| jE <| kB [0, 1, 1, 1, 1, 1, 1] (A := [rC a_81 c_82 (putKey q_ ((((y_51.getD j r0).t.cells).getD i c0).1) ((((y_51.getD j r0).t.cells).getD i c0).2)), Res.row (.slice ((y_51.getD j r0).x.a0) ((y_51.getD j r0).t.cells.length) ((y_51.getD j r0).x.c0)) 48 2 (((y_51.getD j r0).t.cells).length) (((y_51.getD j r0).t.cells).flatMap encC), Res.rows ((y_51.take j).flatMap rdsR), Res.rows ((y_51.drop (j + 1)).flatMap rdsR), Res.row (.slice a_49 y_51.length c_50) 49 1 y_51.length (y_51.flatMap encR), bk b_45 60 [iv ((d.l.getD q o0).t.seq), .slice ((d.l.getD q o0).x.a0) ((d.l.getD q o0).t.cells.length) ((d.l.getD q o0).x.c0), .bool ((d.l.getD q o0).t.whole)], bk b_3 31 [.slice d.a d.l.length d.c, str d.jt, iv d.js]]) rfl ?_
        refine jq ((y_51.getD j r0).t.cells.length - (i + 1)) (by omega) ⟨i + 1, a_81, c_82, (putKey q_ ((((y_51.getD j r0).t.cells).getD i c0).1) ((((y_51.getD j r0).t.cells).getD i c0).2)), by omega, by omega, (by rw [applyR_step hlt2] at hR2; exact hR2), he_67, he_68, he_69, he_70, rfl, he_72, he_73, he_74, he_75, he_76, rfl, rfl, rfl⟩
      refine jR (cB (dF h_78)) <| jx <| jb <| jb <| jy <| jm <| jB <| jF <| jA (jc (c := ((j + 1 : Nat) : Int)) he_74 rfl (wr (by omega))) <| jA (jD (v := iv ((j + 1 : Nat) : Int)) rfl) ?_
      refine jE <| ju (L' := [Res.rows (rdsR (y_51.getD j r0)), rC qa qc q_, Res.rows ((y_51.take j).flatMap rdsR), Res.rows ((y_51.drop (j + 1)).flatMap rdsR), Res.row (.slice a_49 y_51.length c_50) 49 1 y_51.length (y_51.flatMap encR), bk b_45 60 [iv ((d.l.getD q o0).t.seq), .slice ((d.l.getD q o0).x.a0) ((d.l.getD q o0).t.cells.length) ((d.l.getD q o0).x.c0), .bool ((d.l.getD q o0).t.whole)], bk b_3 31 [.slice d.a d.l.length d.c, str d.jt, iv d.js]]) (fun w hw => hw.closeR (A := rdsR (y_51.getD j r0)) [1] rfl) <| ju (L' := [Res.rows (y_51.flatMap rdsR), rC qa qc q_, Res.row (.slice a_49 y_51.length c_50) 49 1 y_51.length (y_51.flatMap encR), bk b_45 60 [iv ((d.l.getD q o0).t.seq), .slice ((d.l.getD q o0).x.a0) ((d.l.getD q o0).t.cells.length) ((d.l.getD q o0).x.c0), .bool ((d.l.getD q o0).t.whole)], bk b_3 31 [.slice d.a d.l.length d.c, str d.jt, iv d.js]]) (fun w hw => hw.joinR [2, 0, 1] rfl (flatMap_at r0 hlt)) <| kB [1, 1, 0, 0, 0] (A := [rC qa qc q_, Res.row (.slice a_49 y_51.length c_50) 49 1 y_51.length (y_51.flatMap encR), Res.rows (y_51.flatMap rdsR), bk b_45 60 [iv ((d.l.getD q o0).t.seq), .slice ((d.l.getD q o0).x.a0) ((d.l.getD q o0).t.cells.length) ((d.l.getD q o0).x.c0), .bool ((d.l.getD q o0).t.whole)], bk b_3 31 [.slice d.a d.l.length d.c, str d.jt, iv d.js]]) rfl ?_
      refine jq (y_51.length - (j + 1)) (by omega) ⟨j + 1, qa, qc, q_, by omega, by omega, (by rw [applyAll_step hlt] at hR; rw [show (y_51.getD j r0).t.cells.drop i = [] from List.drop_of_length_le (by omega)] at hR2; rw [← hR2] at hR; exact hR), he_67, he_68, he_69, he_70, he_71, he_72, he_73, rfl, rfl, rfl⟩
    refine jR (cB (dF h_64)) <| jx <| jb <| jb <| jy <| jB <| jC <| kJ [rC sa sc s_, Res.row (.slice a_49 y_51.length c_50) 49 1 y_51.length (y_51.flatMap encR), Res.rows (y_51.flatMap rdsR), bk b_45 60 [iv ((d.l.getD q o0).t.seq), .slice ((d.l.getD q o0).x.a0) ((d.l.getD q o0).t.cells.length) ((d.l.getD q o0).x.c0), .bool ((d.l.getD q o0).t.whole)], bk b_3 31 [.slice d.a d.l.length d.c, str d.jt, iv d.js]] 0 mixed (by simp) <| jL 0 rfl (jD (v := .slice sa s_.length sc) he_60) <| jL 1 rfl (jQ fo60_0 he_58) ?_
    refine jL 3 rfl (jD (v := .slice a_49 y_51.length c_50) he_59) <| jL 4 rfl (jr kx rfl) <| jL 6 rfl (jG (v := .slice sa s_.length sc) rfl) <| jj (i := 2) ?_
    refine JX.lt rfl (jP (jZ 3 (v := iv ((d.l.getD q o0).t.seq)) rfl rfl kq rfl)) ?_
    rintro _ _ ⟨rfl, rfl⟩
    refine jL 5 rfl (jc (c := ((d.l.getD q o0).t.seq) + ((y_51.length : Nat) : Int)) rfl rfl (wr (by omega))) <| jL 7 rfl (jG (v := iv (((d.l.getD q o0).t.seq) + ((y_51.length : Nat) : Int))) rfl) <| kI (by kernel_rfl) <| jB <| jN <| kC (.inl rfl) rfl (jJ (v := .slice sa s_.length sc) rfl) (jJ (v := iv (((d.l.getD q o0).t.seq) + ((y_51.length : Nat) : Int))) rfl) (tS 1 _) ?_
    have hf : s_ = applyAll (d.l.getD q o0).t.cells (y_51.map cellsR) := by rw [show (y_51.map cellsR).drop j = [] from List.drop_of_length_le (by rw [List.length_map]; omega)] at hR; exact hR
    have he := recov_eq h_4 hbc hmost hys hf (List.length_map _)
    exact ⟨sa, sc, by rw [he] <;> rfl, by rw [he] <;> rfl⟩
  refine jW (cB (cN h_4)) <| jC <| jF <| jA (jG (v := .slice none 0 0) rfl) <| jA (jG (v := iv 0) rfl) <| jE <| jB <| jN <| jX <| JQ.nilRow 48 2 ?_
  refine kC (.inl rfl) rfl (jJ (v := .slice none 0 0) rfl) (jJ (v := iv 0) rfl) (tS 1 _) ?_
  have he := recov_not h_4
  exact ⟨none, 0, by rw [he] <;> rfl, by rw [he] <;> rfl⟩

set_option maxRecDepth 4000 in
set_option maxHeartbeats 1000000 in
theorem Y_sRecov (d : DX) (hz : d.dat.okz) (hl : d.dat.lim 1000000000) :
    Ct Tryz.prog 43 [.agg #[.slice d.a d.l.length d.c, str d.jt, .int .i64 d.js]] [] (fun w => SeesA w (rdsD d)) (fun v A' => ∃ a c, v = .tuple #[.slice a d.dat.recov.1.length c, .int .i64 d.dat.recov.2] ∧ A' = [.row (.slice a d.dat.recov.1.length c) 48 2 d.dat.recov.1.length (d.dat.recov.1.flatMap encC)]) := by
  refine Ct.intro Tryz.func43 rfl Tryz.ntmps43 (lb rfl) fun w0 hpre => ?_
  have hs_1 : Sees w0 (.slice d.a d.l.length d.c) 3 d.l.length (d.l.flatMap encO) := (hpre).head
  have hi_2 : SeesA w0 (d.l.flatMap rdsO) := (hpre).tail
  have hjt := hz.k2
  have hdl : d.l.length ≤ 1000000000 := by have := hl.l0; simpa only [DX.dat, List.length_map] using this
  refine jC <| jF ?_
  refine jH rfl (kG (cs := [.slice d.a d.l.length d.c, str d.jt, iv d.js]) rfl rfl) ?_
  rintro _ _ ⟨b_3, rfl, rfl⟩
  refine jA (jG (v := .slice none 0 0) rfl) <| jA (jG (v := iv 0) rfl) <| jE <| jB <| jC <| jC <| jF <| jK (jO 0 (vs := [.slice d.a d.l.length d.c, str d.jt, iv d.js]) rfl rfl ke kd rfl rfl) ?_
  refine jH rfl (jI [] Tryz.call42 rfl (Y_specDiskOk d hz (by omega)) rfl (fun w hw => hw.seeOutA hpre nMA)) ?_
  rintro _ _ ⟨_, ⟨rfl, rfl⟩, rfl⟩
  refine jA (jp rfl) <| jE <| jB ?_
  rcases Bool.eq_false_or_eq_true (diskOk d.dat) with h_4 | h_4
  · refine jR (cB (cN h_4)) <| jT <| jB <| jC ?_
    obtain ⟨q, hq, hql⟩ := diskOk_best h_4
    have hql : q < d.l.length := by simpa only [DX.dat, List.length_map] using hql
    have hjr := diskOk_jour h_4
    have hjr2 : ((d.jt.length : Nat) : Int) ≤ 20000 ∧ 0 ≤ d.js ∧ d.js ≤ ((d.jt.length : Nat) : Int) := by have h_ : jourOk d.jt d.js = true := hjr; simpa only [jourOk, within, Bool.and_eq_true, decide_eq_true_eq, and_assoc] using h_
    have hmost : (d.l.getD q o0).t.seq = mostOf d.dat := by rw [mostOf, hq, Int.toNat_natCast]; exact congrArg SD.seq getD_map'.symm
    have hmr := most_range h_4
    have hl2 := disk_two h_4
    have hbc : (d.l.getD q o0).t.cells = (d.dat.slots.getD (bestD d.dat).toNat o0.t).cells := by rw [hq, Int.toNat_natCast]; exact congrArg SD.cells getD_map'.symm
    have hsl : (d.l.getD q o0).t.cells.length ≤ 900 := by rw [hbc]; exact storeOk_len (best_ok h_4).2.2.2
    have hrc := recsOf_cells d.jt ((d.l.getD q o0).t.seq + 1)
    have hrle := recsOf_le d.jt ((d.l.getD q o0).t.seq + 1)
    refine kJ [bk b_3 31 [.slice d.a d.l.length d.c, str d.jt, iv d.js]] 7 mixed (by simp) <| jL 0 rfl (jQ fo31_0 rfl) <| jw 1 rfl (jZ 0 (v := .slice d.a d.l.length d.c) rfl rfl ks rfl) <| jw 2 rfl (jO 0 (vs := [.slice d.a d.l.length d.c, str d.jt, iv d.js]) rfl rfl ke kd rfl rfl) ?_
    refine JA.two (i := 3) (j := 6) (by kernel_rfl) ?_ ?_
    · refine jz rfl rfl (jI [] Tryz.call49 rfl (Y_sBestN d hz (by omega) q hq) rfl (fun w hw => hw.seeOutA hpre nMA)) ?_
      rintro _ _ ⟨_, ⟨rfl, rfl⟩, rfl⟩
      refine ⟨by simp, ?_⟩
      obtain ⟨hr_6, hr_6b, -⟩ := sees_some hs_1 (by omega)
      refine jL 4 rfl (jk (i := q) km kj hr_6 hr_6b rfl rfl (by omega)) ?_
      have hi_7 := SeesA.elem hi_2 o0 (show q < d.l.length by omega)
      have hs_8 := seesO hi_7
      refine jw 5 rfl (kX (vs := [iv ((d.l.getD q o0).t.seq), .slice ((d.l.getD q o0).x.a0) ((d.l.getD q o0).t.cells.length) ((d.l.getD q o0).x.c0), .bool ((d.l.getD q o0).t.whole)]) hs_1 nM rfl gB kj (flat_take encO_len o0 d.l q (by omega)) rfl (by decide)) <| jj (i := 6) ?_
      refine jz rfl rfl (jo (z := .agg #[iv 0, .slice none 0 0, .bool false]) (cs := [iv 0, .slice none 0 0, .bool false]) gD rfl) ?_
      rintro _ _ ⟨b_10, rfl, rfl⟩
      refine ⟨by simp, ?_⟩
      refine jj (i := 7) ?_
      refine JX.ls rfl (ja 0 (vs := [iv ((d.l.getD q o0).t.seq), .slice ((d.l.getD q o0).x.a0) ((d.l.getD q o0).t.cells.length) ((d.l.getD q o0).x.c0), .bool ((d.l.getD q o0).t.whole)]) (cs' := [iv ((d.l.getD q o0).t.seq), .slice ((d.l.getD q o0).x.a0) ((d.l.getD q o0).t.cells.length) ((d.l.getD q o0).x.c0), .bool ((d.l.getD q o0).t.whole)]) rfl rfl rfl rfl kj rfl rfl (lb rfl) rfl) ?_
      rintro _ _ rfl
      refine jB <| jC <| jF ?_
      refine jH rfl (kH (ps := []) (cur := #[]) kf kh kw rfl (by kernel_rfl) (by decide) (by decide)) ?_
      rintro _ _ ⟨a_11, rfl, rfl⟩
      refine jA (jQ fo60_1 rfl) <| jK (jZ 1 (v := .slice ((d.l.getD q o0).x.a0) ((d.l.getD q o0).t.cells.length) ((d.l.getD q o0).x.c0)) rfl rfl kz rfl) ?_
      refine jH rfl (kU 0 (q := ((d.l.getD q o0).t.cells.length)) (news := ((d.l.getD q o0).t.cells).flatMap encC) (n' := ((d.l.getD q o0).t.cells).length) (cs' := ((d.l.getD q o0).t.cells).flatMap encC) rfl kf kf ky rfl (by' := 32) rfl rfl rfl rfl rfl (fun w hw => Src.sees (hw.seeOut_ hs_8 nM) (oneC _)) (by (try simp only [LE]); omega) (by (try simp only [LE]); omega) (by (try simp only [List.length_take, List.length_drop]); first | rfl | omega) rfl) ?_
      rintro _ _ ⟨a_12, c_13, rfl, rfl⟩
      refine jA (jG (v := .slice a_12 (((d.l.getD q o0).t.cells).length) c_13) rfl) <| jE <| jB <| jC <| jF <| jA (jQ fo31_1 rfl) <| jA (jQ fo29_0 rfl) <| jK (jZ 2 (v := str d.jt) rfl rfl ki rfl) <| jA (jQ fo60_0 rfl) <| jK (jZ 1 (v := iv ((d.l.getD q o0).t.seq)) rfl rfl kq rfl) ?_
      refine jA (jc (c := ((d.l.getD q o0).t.seq) + 1) rfl rfl (wr (by omega))) ?_
      refine jH rfl (jI [] Tryz.call69 rfl (Y_sRecs d.jt (((d.l.getD q o0).t.seq) + 1) (by omega)) rfl (fun _ _ => trivial)) ?_
      rintro _ _ ⟨_, ⟨a_14, c_15, y_16, hy_17, rfl, rfl⟩, rfl⟩
      refine jA (jD (v := .tuple #[.slice a_14 y_16.length c_15, iv (((recsOf d.jt (((d.l.getD q o0).t.seq) + 1)).2 : Nat) : Int)]) rfl) <| jA (je (v := .slice a_14 y_16.length c_15) rfl rfl) <| jA (je (v := iv (((recsOf d.jt (((d.l.getD q o0).t.seq) + 1)).2 : Nat) : Int)) rfl rfl) <| jA (jG (v := .slice a_14 y_16.length c_15) rfl) <| jA (jG (v := iv (((recsOf d.jt (((d.l.getD q o0).t.seq) + 1)).2 : Nat) : Int)) rfl) <| jE <| jB <| jC <| jC ?_
      have hys : y_16.map cellsR = (recsOf d.jt ((d.l.getD q o0).t.seq + 1)).1 := hy_17
      have hyc : sumC (y_16.map cellsR) ≤ 20000 := by rw [hys]; omega
      have hyn : y_16.length ≤ 20000 := by have h_ := congrArg List.length hys; rw [List.length_map] at h_; have h2_ := recsOf_count d.jt ((d.l.getD q o0).t.seq + 1); omega
      refine jF <| jA (jG (v := iv 0) rfl) <| jE <| jB <| jf <| kT (L' := [Res.row (.slice a_14 y_16.length c_15) 49 1 y_16.length (y_16.flatMap encR), Res.rows (y_16.flatMap rdsR), rC a_12 c_13 ((d.l.getD q o0).t.cells), bk b_10 60 [iv ((d.l.getD q o0).t.seq), .slice ((d.l.getD q o0).x.a0) ((d.l.getD q o0).t.cells.length) ((d.l.getD q o0).x.c0), .bool ((d.l.getD q o0).t.whole)], bk b_3 31 [.slice d.a d.l.length d.c, str d.jt, iv d.js]]) (fun w hw => hw.headR (r := ⟨.slice a_14 y_16.length c_15, 49, 1, y_16.length, y_16.flatMap encR⟩) (A := y_16.flatMap rdsR) 0 rfl) <| kT (L' := [rC a_12 c_13 ((d.l.getD q o0).t.cells), Res.row (.slice a_14 y_16.length c_15) 49 1 y_16.length (y_16.flatMap encR), Res.rows (y_16.flatMap rdsR), bk b_10 60 [iv ((d.l.getD q o0).t.seq), .slice ((d.l.getD q o0).x.a0) ((d.l.getD q o0).t.cells.length) ((d.l.getD q o0).x.c0), .bool ((d.l.getD q o0).t.whole)], bk b_3 31 [.slice d.a d.l.length d.c, str d.jt, iv d.js]]) (fun w hw => hw.perm (pick_perm [2] (A := [rC a_12 c_13 ((d.l.getD q o0).t.cells)]) (F := [Res.row (.slice a_14 y_16.length c_15) 49 1 y_16.length (y_16.flatMap encR), Res.rows (y_16.flatMap rdsR), bk b_10 60 [iv ((d.l.getD q o0).t.seq), .slice ((d.l.getD q o0).x.a0) ((d.l.getD q o0).t.cells.length) ((d.l.getD q o0).x.c0), .bool ((d.l.getD q o0).t.whole)], bk b_3 31 [.slice d.a d.l.length d.c, str d.jt, iv d.js]]) rfl).symm) <| kD (fun k_ e_ L_ => ∃ j : Nat, ∃ sa : Option Addr, ∃ sc : Nat, ∃ s_ : List Cell, (j ≤ y_16.length) ∧ (s_.length + sumC ((y_16.map cellsR).drop j) ≤ 30000) ∧ (applyAll s_ ((y_16.map cellsR).drop j) = applyAll (d.l.getD q o0).t.cells (y_16.map cellsR)) ∧ e_ 2 = .slice none 0 0 ∧ e_ 3 = iv 0 ∧ e_ 4 = .pointer (some ⟨b_10, 0, none⟩) ∧ e_ 5 = .slice sa s_.length sc ∧ e_ 6 = .slice a_14 y_16.length c_15 ∧ e_ 8 = nv j ∧ L_ = [rC sa sc s_, Res.row (.slice a_14 y_16.length c_15) 49 1 y_16.length (y_16.flatMap encR), Res.rows (y_16.flatMap rdsR), bk b_10 60 [iv ((d.l.getD q o0).t.seq), .slice ((d.l.getD q o0).x.a0) ((d.l.getD q o0).t.cells.length) ((d.l.getD q o0).x.c0), .bool ((d.l.getD q o0).t.whole)], bk b_3 31 [.slice d.a d.l.length d.c, str d.jt, iv d.js]] ∧ k_ = y_16.length - j) _ ⟨0, a_12, c_13, (d.l.getD q o0).t.cells, by omega, (by rw [List.drop_zero]; omega), rfl, rfl, rfl, rfl, rfl, rfl, rfl, rfl, rfl⟩ ?_
      rintro _ e_18 _ ⟨j, sa, sc, s_, hj, hb, hR, he_19, he_20, he_21, he_22, he_23, he_24, rfl, rfl⟩
      refine jC <| jC <| jF <| jA (jD (v := nv j) he_24) <| jA (jD (v := .slice a_14 y_16.length c_15) he_23) <| jA (jr kx rfl) <| jA (jl rfl rfl) <| jE <| jB ?_
      by_cases h_25 : ((j : Nat) : Int) < ((y_16.length : Nat) : Int)
      · have hlt : j < y_16.length := by omega
        have hsc := sumC_step hlt
        refine jW (cB (dT h_25)) <| jT <| jB <| jC <| jf <| jF <| jA (jD (v := .slice sa s_.length sc) he_22) <| jA (jD (v := .slice a_14 y_16.length c_15) he_23) <| jA (jD (v := nv j) he_24) ?_
        refine kN fun hst => ?_
        obtain ⟨hr_26, hr_26b, -⟩ := row_some 1 rfl (by omega) hst
        refine jA (jk (i := j) kx gM hr_26 hr_26b rfl rfl (by omega)) <| jK (ka 1 (v := .slice ((y_16.getD j r0).x.a0) ((y_16.getD j r0).t.cells.length) ((y_16.getD j r0).x.c0)) rfl rfl kz (flat_at encR_len r0 y_16 j 0 (by omega) (by decide))) ?_
        refine jH rfl (jI [] Tryz.call96 rfl (Y_sApply sa (y_16.getD j r0).x.a0 sc ((y_16.getD j r0).x.c0) s_ ((y_16.getD j r0).t.cells) (by omega) (by omega) (fun i hi => (rec_key hys hlt hi).1)) rfl (fun w hw => ⟨hw.see (i := 0) rfl, (seesR ((hw.seeRows 2 rfl).elem r0 (by omega)))⟩)) ?_
        rintro _ _ ⟨_, ⟨a_27, c_28, rfl, rfl⟩, rfl⟩
        have hal_29 := applyR_len ((y_16.getD j r0).t.cells) s_
        refine jA (jG (v := .slice a_27 ((applyR s_ ((y_16.getD j r0).t.cells)).length) c_28) rfl) <| jE <| jm <| jB <| jF <| jA (jD (v := nv j) he_24) <| jA (jc (c := ((j + 1 : Nat) : Int)) rfl rfl (wr (by omega))) <| jA (jG (v := iv ((j + 1 : Nat) : Int)) rfl) <| jE <| kB [0, 1, 1, 1, 1] (A := [rC a_27 c_28 (applyR s_ ((y_16.getD j r0).t.cells)), Res.row (.slice a_14 y_16.length c_15) 49 1 y_16.length (y_16.flatMap encR), Res.rows (y_16.flatMap rdsR), bk b_10 60 [iv ((d.l.getD q o0).t.seq), .slice ((d.l.getD q o0).x.a0) ((d.l.getD q o0).t.cells.length) ((d.l.getD q o0).x.c0), .bool ((d.l.getD q o0).t.whole)], bk b_3 31 [.slice d.a d.l.length d.c, str d.jt, iv d.js]]) rfl ?_
        refine jq (y_16.length - (j + 1)) (by omega) ⟨j + 1, a_27, c_28, (applyR s_ ((y_16.getD j r0).t.cells)), by omega, by omega, (by rw [applyAll_step hlt] at hR; exact hR), he_19, he_20, he_21, rfl, he_23, rfl, rfl, rfl⟩
      refine jR (cB (dF h_25)) <| jx <| jb <| jb <| jy <| jB <| jC <| kJ [rC sa sc s_, Res.row (.slice a_14 y_16.length c_15) 49 1 y_16.length (y_16.flatMap encR), Res.rows (y_16.flatMap rdsR), bk b_10 60 [iv ((d.l.getD q o0).t.seq), .slice ((d.l.getD q o0).x.a0) ((d.l.getD q o0).t.cells.length) ((d.l.getD q o0).x.c0), .bool ((d.l.getD q o0).t.whole)], bk b_3 31 [.slice d.a d.l.length d.c, str d.jt, iv d.js]] 0 mixed (by simp) <| jL 0 rfl (jD (v := .slice sa s_.length sc) he_22) <| jL 1 rfl (jQ fo60_0 he_21) ?_
      refine jL 3 rfl (jD (v := .slice a_14 y_16.length c_15) he_23) <| jL 4 rfl (jr kx rfl) <| jL 6 rfl (jG (v := .slice sa s_.length sc) rfl) <| jj (i := 2) ?_
      refine JX.lt rfl (jP (jZ 3 (v := iv ((d.l.getD q o0).t.seq)) rfl rfl kq rfl)) ?_
      rintro _ _ ⟨rfl, rfl⟩
      refine jL 5 rfl (jc (c := ((d.l.getD q o0).t.seq) + ((y_16.length : Nat) : Int)) rfl rfl (wr (by omega))) <| jL 7 rfl (jG (v := iv (((d.l.getD q o0).t.seq) + ((y_16.length : Nat) : Int))) rfl) <| kI (by kernel_rfl) <| jB <| jN <| kC (.inl rfl) rfl (jJ (v := .slice sa s_.length sc) rfl) (jJ (v := iv (((d.l.getD q o0).t.seq) + ((y_16.length : Nat) : Int))) rfl) (tS 1 _) ?_
      have hf : s_ = applyAll (d.l.getD q o0).t.cells (y_16.map cellsR) := by rw [show (y_16.map cellsR).drop j = [] from List.drop_of_length_le (by rw [List.length_map]; omega)] at hR; exact hR
      have he := recov_eq h_4 hbc hmost hys hf (List.length_map _)
      exact ⟨sa, sc, by rw [he] <;> rfl, by rw [he] <;> rfl⟩
    refine jz rfl rfl (jo (z := .agg #[iv 0, .slice none 0 0, .bool false]) (cs := [iv 0, .slice none 0 0, .bool false]) gD rfl) ?_
    rintro _ _ ⟨b_30, rfl, rfl⟩
    refine ⟨by simp, ?_⟩
    refine jj (i := 3) ?_
    refine jz rfl rfl (jI [] Tryz.call49 rfl (Y_sBestN d hz (by omega) q hq) rfl (fun w hw => hw.seeOutA hpre nMA)) ?_
    rintro _ _ ⟨_, ⟨rfl, rfl⟩, rfl⟩
    refine ⟨by simp, ?_⟩
    obtain ⟨hr_31, hr_31b, -⟩ := sees_some hs_1 (by omega)
    refine jL 4 rfl (jk (i := q) km kj hr_31 hr_31b rfl rfl (by omega)) ?_
    have hi_32 := SeesA.elem hi_2 o0 (show q < d.l.length by omega)
    have hs_33 := seesO hi_32
    refine jw 5 rfl (kX (vs := [iv ((d.l.getD q o0).t.seq), .slice ((d.l.getD q o0).x.a0) ((d.l.getD q o0).t.cells.length) ((d.l.getD q o0).x.c0), .bool ((d.l.getD q o0).t.whole)]) hs_1 nM rfl gB kj (flat_take encO_len o0 d.l q (by omega)) rfl (by decide)) <| jj (i := 7) ?_
    refine JX.ls rfl (ja 0 (vs := [iv ((d.l.getD q o0).t.seq), .slice ((d.l.getD q o0).x.a0) ((d.l.getD q o0).t.cells.length) ((d.l.getD q o0).x.c0), .bool ((d.l.getD q o0).t.whole)]) (cs' := [iv ((d.l.getD q o0).t.seq), .slice ((d.l.getD q o0).x.a0) ((d.l.getD q o0).t.cells.length) ((d.l.getD q o0).x.c0), .bool ((d.l.getD q o0).t.whole)]) rfl rfl rfl rfl kj rfl rfl (lb rfl) rfl) ?_
    rintro _ _ rfl
    refine jB <| jC <| jF ?_
    refine jH rfl (kH (ps := []) (cur := #[]) kf kh kw rfl (by kernel_rfl) (by decide) (by decide)) ?_
    rintro _ _ ⟨a_34, rfl, rfl⟩
    refine jA (jQ fo60_1 rfl) <| jK (jZ 1 (v := .slice ((d.l.getD q o0).x.a0) ((d.l.getD q o0).t.cells.length) ((d.l.getD q o0).x.c0)) rfl rfl kz rfl) ?_
    refine jH rfl (kU 0 (q := ((d.l.getD q o0).t.cells.length)) (news := ((d.l.getD q o0).t.cells).flatMap encC) (n' := ((d.l.getD q o0).t.cells).length) (cs' := ((d.l.getD q o0).t.cells).flatMap encC) rfl kf kf ky rfl (by' := 32) rfl rfl rfl rfl rfl (fun w hw => Src.sees (hw.seeOut_ hs_33 nM) (oneC _)) (by (try simp only [LE]); omega) (by (try simp only [LE]); omega) (by (try simp only [List.length_take, List.length_drop]); first | rfl | omega) rfl) ?_
    rintro _ _ ⟨a_35, c_36, rfl, rfl⟩
    refine jA (jG (v := .slice a_35 (((d.l.getD q o0).t.cells).length) c_36) rfl) <| jE <| jB <| jC <| jF <| jA (jQ fo31_1 rfl) <| jA (jQ fo29_0 rfl) <| jK (jZ 2 (v := str d.jt) rfl rfl ki rfl) <| jA (jQ fo60_0 rfl) <| jK (jZ 1 (v := iv ((d.l.getD q o0).t.seq)) rfl rfl kq rfl) ?_
    refine jA (jc (c := ((d.l.getD q o0).t.seq) + 1) rfl rfl (wr (by omega))) ?_
    refine jH rfl (jI [] Tryz.call69 rfl (Y_sRecs d.jt (((d.l.getD q o0).t.seq) + 1) (by omega)) rfl (fun _ _ => trivial)) ?_
    rintro _ _ ⟨_, ⟨a_37, c_38, y_39, hy_40, rfl, rfl⟩, rfl⟩
    refine jA (jD (v := .tuple #[.slice a_37 y_39.length c_38, iv (((recsOf d.jt (((d.l.getD q o0).t.seq) + 1)).2 : Nat) : Int)]) rfl) <| jA (je (v := .slice a_37 y_39.length c_38) rfl rfl) <| jA (je (v := iv (((recsOf d.jt (((d.l.getD q o0).t.seq) + 1)).2 : Nat) : Int)) rfl rfl) <| jA (jG (v := .slice a_37 y_39.length c_38) rfl) <| jA (jG (v := iv (((recsOf d.jt (((d.l.getD q o0).t.seq) + 1)).2 : Nat) : Int)) rfl) <| jE <| jB <| jC <| jC ?_
    have hys : y_39.map cellsR = (recsOf d.jt ((d.l.getD q o0).t.seq + 1)).1 := hy_40
    have hyc : sumC (y_39.map cellsR) ≤ 20000 := by rw [hys]; omega
    have hyn : y_39.length ≤ 20000 := by have h_ := congrArg List.length hys; rw [List.length_map] at h_; have h2_ := recsOf_count d.jt ((d.l.getD q o0).t.seq + 1); omega
    refine jF <| jA (jG (v := iv 0) rfl) <| jE <| jB <| jf <| kT (L' := [Res.row (.slice a_37 y_39.length c_38) 49 1 y_39.length (y_39.flatMap encR), Res.rows (y_39.flatMap rdsR), rC a_35 c_36 ((d.l.getD q o0).t.cells), bk b_30 60 [iv ((d.l.getD q o0).t.seq), .slice ((d.l.getD q o0).x.a0) ((d.l.getD q o0).t.cells.length) ((d.l.getD q o0).x.c0), .bool ((d.l.getD q o0).t.whole)], bk b_3 31 [.slice d.a d.l.length d.c, str d.jt, iv d.js]]) (fun w hw => hw.headR (r := ⟨.slice a_37 y_39.length c_38, 49, 1, y_39.length, y_39.flatMap encR⟩) (A := y_39.flatMap rdsR) 0 rfl) <| kT (L' := [rC a_35 c_36 ((d.l.getD q o0).t.cells), Res.row (.slice a_37 y_39.length c_38) 49 1 y_39.length (y_39.flatMap encR), Res.rows (y_39.flatMap rdsR), bk b_30 60 [iv ((d.l.getD q o0).t.seq), .slice ((d.l.getD q o0).x.a0) ((d.l.getD q o0).t.cells.length) ((d.l.getD q o0).x.c0), .bool ((d.l.getD q o0).t.whole)], bk b_3 31 [.slice d.a d.l.length d.c, str d.jt, iv d.js]]) (fun w hw => hw.perm (pick_perm [2] (A := [rC a_35 c_36 ((d.l.getD q o0).t.cells)]) (F := [Res.row (.slice a_37 y_39.length c_38) 49 1 y_39.length (y_39.flatMap encR), Res.rows (y_39.flatMap rdsR), bk b_30 60 [iv ((d.l.getD q o0).t.seq), .slice ((d.l.getD q o0).x.a0) ((d.l.getD q o0).t.cells.length) ((d.l.getD q o0).x.c0), .bool ((d.l.getD q o0).t.whole)], bk b_3 31 [.slice d.a d.l.length d.c, str d.jt, iv d.js]]) rfl).symm) <| kD (fun k_ e_ L_ => ∃ j : Nat, ∃ sa : Option Addr, ∃ sc : Nat, ∃ s_ : List Cell, (j ≤ y_39.length) ∧ (s_.length + sumC ((y_39.map cellsR).drop j) ≤ 30000) ∧ (applyAll s_ ((y_39.map cellsR).drop j) = applyAll (d.l.getD q o0).t.cells (y_39.map cellsR)) ∧ e_ 2 = .slice none 0 0 ∧ e_ 3 = iv 0 ∧ e_ 4 = .pointer (some ⟨b_30, 0, none⟩) ∧ e_ 5 = .slice sa s_.length sc ∧ e_ 6 = .slice a_37 y_39.length c_38 ∧ e_ 8 = nv j ∧ L_ = [rC sa sc s_, Res.row (.slice a_37 y_39.length c_38) 49 1 y_39.length (y_39.flatMap encR), Res.rows (y_39.flatMap rdsR), bk b_30 60 [iv ((d.l.getD q o0).t.seq), .slice ((d.l.getD q o0).x.a0) ((d.l.getD q o0).t.cells.length) ((d.l.getD q o0).x.c0), .bool ((d.l.getD q o0).t.whole)], bk b_3 31 [.slice d.a d.l.length d.c, str d.jt, iv d.js]] ∧ k_ = y_39.length - j) _ ⟨0, a_35, c_36, (d.l.getD q o0).t.cells, by omega, (by rw [List.drop_zero]; omega), rfl, rfl, rfl, rfl, rfl, rfl, rfl, rfl, rfl⟩ ?_
    rintro _ e_41 _ ⟨j, sa, sc, s_, hj, hb, hR, he_42, he_43, he_44, he_45, he_46, he_47, rfl, rfl⟩
    refine jC <| jC <| jF <| jA (jD (v := nv j) he_47) <| jA (jD (v := .slice a_37 y_39.length c_38) he_46) <| jA (jr kx rfl) <| jA (jl rfl rfl) <| jE <| jB ?_
    by_cases h_48 : ((j : Nat) : Int) < ((y_39.length : Nat) : Int)
    · have hlt : j < y_39.length := by omega
      have hsc := sumC_step hlt
      refine jW (cB (dT h_48)) <| jT <| jB <| jC <| jf <| jF <| jA (jD (v := .slice sa s_.length sc) he_45) <| jA (jD (v := .slice a_37 y_39.length c_38) he_46) <| jA (jD (v := nv j) he_47) ?_
      refine kN fun hst => ?_
      obtain ⟨hr_49, hr_49b, -⟩ := row_some 1 rfl (by omega) hst
      refine jA (jk (i := j) kx gM hr_49 hr_49b rfl rfl (by omega)) <| jK (ka 1 (v := .slice ((y_39.getD j r0).x.a0) ((y_39.getD j r0).t.cells.length) ((y_39.getD j r0).x.c0)) rfl rfl kz (flat_at encR_len r0 y_39 j 0 (by omega) (by decide))) ?_
      refine jH rfl (jI [] Tryz.call96 rfl (Y_sApply sa (y_39.getD j r0).x.a0 sc ((y_39.getD j r0).x.c0) s_ ((y_39.getD j r0).t.cells) (by omega) (by omega) (fun i hi => (rec_key hys hlt hi).1)) rfl (fun w hw => ⟨hw.see (i := 0) rfl, (seesR ((hw.seeRows 2 rfl).elem r0 (by omega)))⟩)) ?_
      rintro _ _ ⟨_, ⟨a_50, c_51, rfl, rfl⟩, rfl⟩
      have hal_52 := applyR_len ((y_39.getD j r0).t.cells) s_
      refine jA (jG (v := .slice a_50 ((applyR s_ ((y_39.getD j r0).t.cells)).length) c_51) rfl) <| jE <| jm <| jB <| jF <| jA (jD (v := nv j) he_47) <| jA (jc (c := ((j + 1 : Nat) : Int)) rfl rfl (wr (by omega))) <| jA (jG (v := iv ((j + 1 : Nat) : Int)) rfl) <| jE <| kB [0, 1, 1, 1, 1] (A := [rC a_50 c_51 (applyR s_ ((y_39.getD j r0).t.cells)), Res.row (.slice a_37 y_39.length c_38) 49 1 y_39.length (y_39.flatMap encR), Res.rows (y_39.flatMap rdsR), bk b_30 60 [iv ((d.l.getD q o0).t.seq), .slice ((d.l.getD q o0).x.a0) ((d.l.getD q o0).t.cells.length) ((d.l.getD q o0).x.c0), .bool ((d.l.getD q o0).t.whole)], bk b_3 31 [.slice d.a d.l.length d.c, str d.jt, iv d.js]]) rfl ?_
      refine jq (y_39.length - (j + 1)) (by omega) ⟨j + 1, a_50, c_51, (applyR s_ ((y_39.getD j r0).t.cells)), by omega, by omega, (by rw [applyAll_step hlt] at hR; exact hR), he_42, he_43, he_44, rfl, he_46, rfl, rfl, rfl⟩
    refine jR (cB (dF h_48)) <| jx <| jb <| jb <| jy <| jB <| jC <| kJ [rC sa sc s_, Res.row (.slice a_37 y_39.length c_38) 49 1 y_39.length (y_39.flatMap encR), Res.rows (y_39.flatMap rdsR), bk b_30 60 [iv ((d.l.getD q o0).t.seq), .slice ((d.l.getD q o0).x.a0) ((d.l.getD q o0).t.cells.length) ((d.l.getD q o0).x.c0), .bool ((d.l.getD q o0).t.whole)], bk b_3 31 [.slice d.a d.l.length d.c, str d.jt, iv d.js]] 0 mixed (by simp) <| jL 0 rfl (jD (v := .slice sa s_.length sc) he_45) <| jL 1 rfl (jQ fo60_0 he_44) ?_
    refine jL 3 rfl (jD (v := .slice a_37 y_39.length c_38) he_46) <| jL 4 rfl (jr kx rfl) <| jL 6 rfl (jG (v := .slice sa s_.length sc) rfl) <| jj (i := 2) ?_
    refine JX.lt rfl (jP (jZ 3 (v := iv ((d.l.getD q o0).t.seq)) rfl rfl kq rfl)) ?_
    rintro _ _ ⟨rfl, rfl⟩
    refine jL 5 rfl (jc (c := ((d.l.getD q o0).t.seq) + ((y_39.length : Nat) : Int)) rfl rfl (wr (by omega))) <| jL 7 rfl (jG (v := iv (((d.l.getD q o0).t.seq) + ((y_39.length : Nat) : Int))) rfl) <| kI (by kernel_rfl) <| jB <| jN <| kC (.inl rfl) rfl (jJ (v := .slice sa s_.length sc) rfl) (jJ (v := iv (((d.l.getD q o0).t.seq) + ((y_39.length : Nat) : Int))) rfl) (tS 1 _) ?_
    have hf : s_ = applyAll (d.l.getD q o0).t.cells (y_39.map cellsR) := by rw [show (y_39.map cellsR).drop j = [] from List.drop_of_length_le (by rw [List.length_map]; omega)] at hR; exact hR
    have he := recov_eq h_4 hbc hmost hys hf (List.length_map _)
    exact ⟨sa, sc, by rw [he] <;> rfl, by rw [he] <;> rfl⟩
  refine jW (cB (cN h_4)) <| jC <| jF ?_
  refine jH rfl (kH (ps := []) (cur := #[]) kf kh kw rfl (by kernel_rfl) (by decide) (by decide)) ?_
  rintro _ _ ⟨a_53, rfl, rfl⟩
  refine jA (jG (v := .slice a_53 0 0) rfl) <| jA (jG (v := iv 0) rfl) <| jE <| jB <| jN <| jX <| kC (.inl rfl) rfl (jJ (v := .slice a_53 0 0) rfl) (jJ (v := iv 0) rfl) (tS 1 _) ?_
  have he := recov_not h_4
  exact ⟨a_53, 0, by rw [he] <;> rfl, by rw [he] <;> rfl⟩

end Go.Proofs.YtjncpgcccgdeiaaGreatDoor
