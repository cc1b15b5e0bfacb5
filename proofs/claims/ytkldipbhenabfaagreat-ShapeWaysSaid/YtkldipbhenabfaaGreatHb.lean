/- Several weights; beneath how many binders a kid stands; lifted terms. -/
import Derived.Test.YtkldipbhenabfaaGreatHa
set_option linter.unusedSimpArgs false
set_option linter.unusedVariables false
namespace Go.Proofs.YtkldipbhenabfaaGreat.Abs
open Go Go.RowKit Go.Proofs.YtkldipbhenabfaaGreat

theorem greats_out (most : Int) (rows : List (List SV)) (hd : most < (rows.length : Int)) : Con 46 [.dsl 5 rows, .int .i64 most] (.bool true) := by
  refine contract_of_vc mixed Tryz.func46 tr46 ?_
  simp only [go_sem, reduceIte, reduceCtorEq, Nat.reduceAdd, Nat.reduceSub, Nat.reduceMul, Nat.reduceLT, Nat.reduceLeDiff, Nat.reduceEqDiff, Nat.reduceBEq, Nat.reduceGT, Int.reduceEq, Int.reduceNe, Int.reduceLT, Int.reduceLE, Int.reduceToNat, Int.reduceNeg, Int.reduceBEq, Int.reduceAdd, Int.reduceSub, Int.reduceGT, Int.reduceGE, Int.reduceBNe, hd]
theorem greats_in (most : Int) (rows : List (List SV)) (W : List SV → Int → Int → Int) (h2 : rows.length * 56 ≤ 140737488355328) (h5 : ∀ r ∈ rows, r.length = 5)
    (H : ∀ r ∈ rows, ∀ m d, Con 26 [.agg true r, .int .i64 m, .int .i64 d] (.int .i64 (W r m d))) (hd : ¬ most < (rows.length : Int)) (m : Nat) (hm1 : m ≤ rows.length)
    (hm2 : m = rows.length ∨ most < sums0 W rows most 200 m) (hm3 : ∀ y, y < m → ¬ most < sums0 W rows most 200 y) :
    Con 46 [.dsl 5 rows, .int .i64 most] (.bool (decide (most < sums0 W rows most 200 m))) := by
  refine contract_of_vc mixed Tryz.func46 tr46 ?_
  simp only [go_sem, reduceIte, reduceCtorEq, Nat.reduceAdd, Nat.reduceSub, Nat.reduceMul, Nat.reduceLT, Nat.reduceLeDiff, Nat.reduceEqDiff, Nat.reduceBEq, Nat.reduceGT, Int.reduceEq, Int.reduceNe, Int.reduceLT, Int.reduceLE, Int.reduceToNat, Int.reduceNeg, Int.reduceBEq, Int.reduceAdd, Int.reduceSub, Int.reduceGT, Int.reduceGE, Int.reduceBNe, hd]
  intro _
  refine vc_for (fun x => ⟨(.dsl 5 rows :: .int .i64 most :: .junk :: .junk :: .bool false :: .int .i64 (sums0 W rows most 200 x) :: .int .i64 x :: .junk :: .junk :: .junk :: .junk :: .junk :: .junk :: .junk :: .junk :: .junk :: .junk :: .junk :: .junk :: .junk :: .junk :: .junk :: .junk :: .junk :: .junk :: .junk :: .junk :: .junk :: .junk :: .junk :: .junk :: .junk :: .junk :: .junk :: .junk :: []), []⟩) m (fun x hx => ?_) ?_
  · simp only [go_sem, reduceIte, reduceCtorEq, Nat.reduceAdd, Nat.reduceSub, Nat.reduceMul, Nat.reduceLT, Nat.reduceLeDiff, Nat.reduceEqDiff, Nat.reduceBEq, Nat.reduceGT, Int.reduceEq, Int.reduceNe, Int.reduceLT, Int.reduceLE, Int.reduceToNat, Int.reduceNeg, Int.reduceBEq, Int.reduceAdd, Int.reduceSub, Int.reduceGT, Int.reduceGE, Int.reduceBNe]
    intro _
    by_cases hxm : x = m
    · subst hxm
      rcases hm2 with rfl | hm2
      · have hl : ¬ ((rows.length : Int) < (rows.length : Int)) := by omega
        simp only [go_sem, reduceIte, reduceCtorEq, Nat.reduceAdd, Nat.reduceSub, Nat.reduceMul, Nat.reduceLT, Nat.reduceLeDiff, Nat.reduceEqDiff, Nat.reduceBEq, Nat.reduceGT, Int.reduceEq, Int.reduceNe, Int.reduceLT, Int.reduceLE, Int.reduceToNat, Int.reduceNeg, Int.reduceBEq, Int.reduceAdd, Int.reduceSub, Int.reduceGT, Int.reduceGE, Int.reduceBNe, hl]
      · have hl : ¬ (sums0 W rows most 200 x ≤ most) := by omega
        refine ⟨fun h => ?_, fun h => ?_⟩
        · simp only [go_sem, reduceIte, reduceCtorEq, Nat.reduceAdd, Nat.reduceSub, Nat.reduceMul, Nat.reduceLT, Nat.reduceLeDiff, Nat.reduceEqDiff, Nat.reduceBEq, Nat.reduceGT, Int.reduceEq, Int.reduceNe, Int.reduceLT, Int.reduceLE, Int.reduceToNat, Int.reduceNeg, Int.reduceBEq, Int.reduceAdd, Int.reduceSub, Int.reduceGT, Int.reduceGE, Int.reduceBNe, h, hl]
        · simp only [go_sem, reduceIte, reduceCtorEq, Nat.reduceAdd, Nat.reduceSub, Nat.reduceMul, Nat.reduceLT, Nat.reduceLeDiff, Nat.reduceEqDiff, Nat.reduceBEq, Nat.reduceGT, Int.reduceEq, Int.reduceNe, Int.reduceLT, Int.reduceLE, Int.reduceToNat, Int.reduceNeg, Int.reduceBEq, Int.reduceAdd, Int.reduceSub, Int.reduceGT, Int.reduceGE, Int.reduceBNe, h, hl]
    · have hxl : x < rows.length := by omega
      have hxl' : (x : Int) < (rows.length : Int) := by omega
      have e0 : (0 : Int) ≤ (x : Int) := by omega
      have hle : sums0 W rows most 200 x ≤ most := by have := hm3 x (by omega); omega
      have hm := get_lt (d := []) hxl
      have h5' := h5 _ hm
      simp only [go_sem, reduceIte, reduceCtorEq, Nat.reduceAdd, Nat.reduceSub, Nat.reduceMul, Nat.reduceLT, Nat.reduceLeDiff, Nat.reduceEqDiff, Nat.reduceBEq, Nat.reduceGT, Int.reduceEq, Int.reduceNe, Int.reduceLT, Int.reduceLE, Int.reduceToNat, Int.reduceNeg, Int.reduceBEq, Int.reduceAdd, Int.reduceSub, Int.reduceGT, Int.reduceGE, Int.reduceBNe, hxl', hle, e0, h5']
      refine callK_of (H _ hm _ _) ?_
      simp only [go_sem, reduceIte, reduceCtorEq, Nat.reduceAdd, Nat.reduceSub, Nat.reduceMul, Nat.reduceLT, Nat.reduceLeDiff, Nat.reduceEqDiff, Nat.reduceBEq, Nat.reduceGT, Int.reduceEq, Int.reduceNe, Int.reduceLT, Int.reduceLE, Int.reduceToNat, Int.reduceNeg, Int.reduceBEq, Int.reduceAdd, Int.reduceSub, Int.reduceGT, Int.reduceGE, Int.reduceBNe]
      refine ⟨by omega, ?_⟩
      rw [w64 (n := (x : Int) + 1) (by unfold fit; omega)]
      exact wk_slots (by simp [slotsLe, sums0])
  · exact wk_slots (by simp [slotsLe, sums0])

/-- What is not too great is not too high. -/
theorem con_greats2 (most : Int) (h1 : 0 ≤ most) (h2 : most ≤ 1000000) (l : List Tm) (hl : ∀ t ∈ l, TOk t) (hb : l.length * 56 ≤ 140737488355328) :
    ∃ z, Con 46 [.dsl 5 (l.map tv), .int .i64 most] (.bool z) ∧ (z = false → ∀ t ∈ l, hgtT t ≤ 201) := by
  by_cases hd : most < ((l.map tv).length : Int)
  · exact ⟨true, greats_out most _ hd, fun h => by cases h⟩
  · have H : ∀ (t : Tm) (m d : Int), ∃ z, t ∈ l → Wt t m d z := fun t m d => by
      by_cases ht : t ∈ l
      · obtain ⟨z, hz⟩ := con_weigh2 t (hl t ht) m d
        exact ⟨z, fun _ => hz⟩
      · exact ⟨0, fun h => absurd h ht⟩
    obtain ⟨Z, hZ⟩ : ∃ Z : Tm → Int → Int → Int, ∀ t ∈ l, ∀ m d, Wt t m d (Z t m d) := ⟨fun t m d => Classical.choose (H t m d), fun t ht m d => Classical.choose_spec (H t m d) ht⟩
    have hW : ∀ r ∈ l.map tv, ∀ m d, Con 26 [.agg true r, .int .i64 m, .int .i64 d] (.int .i64 (onT Z (fun _ _ => 0) r m d)) := fun r hr m d => by
      obtain ⟨t, ht, rfl⟩ := List.mem_map.1 hr
      rw [onT_tv]
      exact (hZ t ht m d).1
    obtain ⟨x, hx1, hx2, hx3⟩ := least (fun x => most < sums0 (onT Z (fun _ _ => 0)) (l.map tv) most 200 x) (l.map tv).length
    refine ⟨_, greats_in most (l.map tv) _ (by simpa using hb) (rows5 l) hW hd x hx1 hx2 hx3, fun hz t ht => ?_⟩
    have hz' : ¬ most < sums0 (onT Z (fun _ _ => 0)) (l.map tv) most 200 x := of_decide_eq_false hz
    have hxl : x = l.length := by
      rcases hx2 with h | h
      · rw [h]; simp
      · exact absurd h hz'
    rw [sums0_A] at hz'
    have hx3' : ∀ y, y < x → sumsA 0 (fun y m => onT Z (fun _ _ => 0) ((l.map tv)[y]?.getD []) m 200) most y ≤ most := fun y hy => by
      have := hx3 y hy
      rw [sums0_A] at this
      omega
    have hrow : ∀ y, y < l.length → (l.map tv)[y]?.getD [] = tv (l[y]?.getD default) := fun y hy => by
      rw [List.getElem?_map, List.getElem?_eq_getElem hy]; rfl
    obtain ⟨_, _, k3⟩ := sums_ok (a := 0) (V := fun y m => onT Z (fun _ _ => 0) ((l.map tv)[y]?.getD []) m 200) (most := most) (n := l.length) (B := fun y => (hgtT (l[y]?.getD default) : Int) ≤ 201) (by omega) (by omega) h1 h2 (fun y hy m' hm1 hm2 => by
      simp only [hrow y hy, onT_tv]
      obtain ⟨_, g⟩ := hZ _ (get_lt (d := default) hy) m' 200
      obtain ⟨g1, g2, g3⟩ := g hm1 hm2 (by omega) (by omega)
      exact ⟨g1, g2, fun h => by have := g3 h; omega⟩) x (by omega) hx3'
    obtain ⟨y, hy, rfl⟩ := List.getElem_of_mem ht
    have := k3 (by omega) y (by omega)
    rw [List.getElem?_eq_getElem hy, Option.getD_some] at this
    omega

/-! Binders -/
def bindsN (k p : Int) : Int :=
  if k = 3 ∨ k = 5 ∨ k = 6 ∨ k = 7 ∨ k = 8 ∨ k = 9 ∨ k = 13 ∨ k = 14 ∨ k = 16 ∨ k = 17 then (if p = 1 then 1 else 0)
  else if k = 4 then (if p = 1 ∨ p = 2 then 1 else 0)
  else if k = 22 then (if p = 2 then 2 else 0) else 0
theorem binds_le (k p : Int) : 0 ≤ bindsN k p ∧ bindsN k p ≤ 2 := by
  unfold bindsN
  repeat' split
  all_goals omega

set_option maxRecDepth 10000 in
set_option maxHeartbeats 1000000 in
theorem con_binds (k p : Int) : Con 71 [.int .i64 k, .int .i64 p] (.int .i64 (bindsN k p)) := by
  refine contract_of_vc mixed Tryz.func71 tr71 ?_
  by_cases h : k = 3 ∨ k = 5 ∨ k = 6 ∨ k = 7 ∨ k = 8 ∨ k = 9 ∨ k = 13 ∨ k = 14 ∨ k = 16 ∨ k = 17
  · have e : bindsN k p = if p = 1 then 1 else 0 := by unfold bindsN; rw [if_pos h]
    rw [e]
    rcases h with rfl | rfl | rfl | rfl | rfl | rfl | rfl | rfl | rfl | rfl <;>
      (cases hp : (p == 1) <;> simp only [beq_iff_eq, beq_eq_false_iff_ne, ne_eq] at hp <;> simp only [go_sem, reduceIte, reduceCtorEq, Nat.reduceAdd, Nat.reduceSub, Nat.reduceMul, Nat.reduceLT, Nat.reduceLeDiff, Nat.reduceEqDiff, Nat.reduceBEq, Nat.reduceGT, Int.reduceEq, Int.reduceNe, Int.reduceLT, Int.reduceLE, Int.reduceToNat, Int.reduceNeg, Int.reduceBEq, Int.reduceAdd, Int.reduceSub, Int.reduceGT, Int.reduceGE, Int.reduceBNe, hp, beq_no])
  · by_cases h4 : k = 4
    · subst h4
      have e : bindsN 4 p = if p = 1 ∨ p = 2 then 1 else 0 := by unfold bindsN; rw [if_neg (by decide), if_pos rfl]
      rw [e]
      by_cases h1 : p = 1
      · subst h1; simp only [go_sem, reduceIte, reduceCtorEq, Nat.reduceAdd, Nat.reduceSub, Nat.reduceMul, Nat.reduceLT, Nat.reduceLeDiff, Nat.reduceEqDiff, Nat.reduceBEq, Nat.reduceGT, Int.reduceEq, Int.reduceNe, Int.reduceLT, Int.reduceLE, Int.reduceToNat, Int.reduceNeg, Int.reduceBEq, Int.reduceAdd, Int.reduceSub, Int.reduceGT, Int.reduceGE, Int.reduceBNe]
      · by_cases h2 : p = 2
        · subst h2; simp only [go_sem, reduceIte, reduceCtorEq, Nat.reduceAdd, Nat.reduceSub, Nat.reduceMul, Nat.reduceLT, Nat.reduceLeDiff, Nat.reduceEqDiff, Nat.reduceBEq, Nat.reduceGT, Int.reduceEq, Int.reduceNe, Int.reduceLT, Int.reduceLE, Int.reduceToNat, Int.reduceNeg, Int.reduceBEq, Int.reduceAdd, Int.reduceSub, Int.reduceGT, Int.reduceGE, Int.reduceBNe]
        · rw [if_neg (by omega)]
          simp only [go_sem, reduceIte, reduceCtorEq, Nat.reduceAdd, Nat.reduceSub, Nat.reduceMul, Nat.reduceLT, Nat.reduceLeDiff, Nat.reduceEqDiff, Nat.reduceBEq, Nat.reduceGT, Int.reduceEq, Int.reduceNe, Int.reduceLT, Int.reduceLE, Int.reduceToNat, Int.reduceNeg, Int.reduceBEq, Int.reduceAdd, Int.reduceSub, Int.reduceGT, Int.reduceGE, Int.reduceBNe, beq_no h1, beq_no h2]
    · by_cases h22 : k = 22
      · subst h22
        have e : bindsN 22 p = if p = 2 then 2 else 0 := by unfold bindsN; rw [if_neg (by decide), if_neg (by decide), if_pos rfl]
        rw [e]
        by_cases h2 : p = 2
        · subst h2; simp only [go_sem, reduceIte, reduceCtorEq, Nat.reduceAdd, Nat.reduceSub, Nat.reduceMul, Nat.reduceLT, Nat.reduceLeDiff, Nat.reduceEqDiff, Nat.reduceBEq, Nat.reduceGT, Int.reduceEq, Int.reduceNe, Int.reduceLT, Int.reduceLE, Int.reduceToNat, Int.reduceNeg, Int.reduceBEq, Int.reduceAdd, Int.reduceSub, Int.reduceGT, Int.reduceGE, Int.reduceBNe]
        · rw [if_neg h2]
          simp only [go_sem, reduceIte, reduceCtorEq, Nat.reduceAdd, Nat.reduceSub, Nat.reduceMul, Nat.reduceLT, Nat.reduceLeDiff, Nat.reduceEqDiff, Nat.reduceBEq, Nat.reduceGT, Int.reduceEq, Int.reduceNe, Int.reduceLT, Int.reduceLE, Int.reduceToNat, Int.reduceNeg, Int.reduceBEq, Int.reduceAdd, Int.reduceSub, Int.reduceGT, Int.reduceGE, Int.reduceBNe, beq_no h2]
      · have e : bindsN k p = 0 := by unfold bindsN; rw [if_neg h, if_neg h4, if_neg h22]
        rw [e]
        simp only [go_sem, reduceIte, reduceCtorEq, Nat.reduceAdd, Nat.reduceSub, Nat.reduceMul, Nat.reduceLT, Nat.reduceLeDiff, Nat.reduceEqDiff, Nat.reduceBEq, Nat.reduceGT, Int.reduceEq, Int.reduceNe, Int.reduceLT, Int.reduceLE, Int.reduceToNat, Int.reduceNeg, Int.reduceBEq, Int.reduceAdd, Int.reduceSub, Int.reduceGT, Int.reduceGE, Int.reduceBNe, beq_no (show k ≠ 3 by omega), beq_no h4, beq_no (show k ≠ 5 by omega), beq_no (show k ≠ 6 by omega), beq_no (show k ≠ 7 by omega), beq_no (show k ≠ 8 by omega), beq_no (show k ≠ 9 by omega), beq_no (show k ≠ 13 by omega), beq_no (show k ≠ 14 by omega), beq_no (show k ≠ 16 by omega), beq_no (show k ≠ 17 by omega), beq_no h22]

set_option maxRecDepth 10000 in
set_option maxHeartbeats 1000000 in
theorem con_rbinds (k p : Int) : Con 125 [.int .i64 k, .int .i64 p] (.int .i64 (bindsN k p)) := by
  refine contract_of_vc mixed Tryz.func125 tr125 ?_
  by_cases h : k = 3 ∨ k = 5 ∨ k = 6 ∨ k = 7 ∨ k = 8 ∨ k = 9 ∨ k = 13 ∨ k = 14 ∨ k = 16 ∨ k = 17
  · have e : bindsN k p = if p = 1 then 1 else 0 := by unfold bindsN; rw [if_pos h]
    rw [e]
    rcases h with rfl | rfl | rfl | rfl | rfl | rfl | rfl | rfl | rfl | rfl <;>
      (cases hp : (p == 1) <;> simp only [beq_iff_eq, beq_eq_false_iff_ne, ne_eq] at hp <;> simp only [go_sem, reduceIte, reduceCtorEq, Nat.reduceAdd, Nat.reduceSub, Nat.reduceMul, Nat.reduceLT, Nat.reduceLeDiff, Nat.reduceEqDiff, Nat.reduceBEq, Nat.reduceGT, Int.reduceEq, Int.reduceNe, Int.reduceLT, Int.reduceLE, Int.reduceToNat, Int.reduceNeg, Int.reduceBEq, Int.reduceAdd, Int.reduceSub, Int.reduceGT, Int.reduceGE, Int.reduceBNe, hp, beq_no])
  · by_cases h4 : k = 4
    · subst h4
      have e : bindsN 4 p = if p = 1 ∨ p = 2 then 1 else 0 := by unfold bindsN; rw [if_neg (by decide), if_pos rfl]
      rw [e]
      by_cases h1 : p = 1
      · subst h1; simp only [go_sem, reduceIte, reduceCtorEq, Nat.reduceAdd, Nat.reduceSub, Nat.reduceMul, Nat.reduceLT, Nat.reduceLeDiff, Nat.reduceEqDiff, Nat.reduceBEq, Nat.reduceGT, Int.reduceEq, Int.reduceNe, Int.reduceLT, Int.reduceLE, Int.reduceToNat, Int.reduceNeg, Int.reduceBEq, Int.reduceAdd, Int.reduceSub, Int.reduceGT, Int.reduceGE, Int.reduceBNe]
      · by_cases h2 : p = 2
        · subst h2; simp only [go_sem, reduceIte, reduceCtorEq, Nat.reduceAdd, Nat.reduceSub, Nat.reduceMul, Nat.reduceLT, Nat.reduceLeDiff, Nat.reduceEqDiff, Nat.reduceBEq, Nat.reduceGT, Int.reduceEq, Int.reduceNe, Int.reduceLT, Int.reduceLE, Int.reduceToNat, Int.reduceNeg, Int.reduceBEq, Int.reduceAdd, Int.reduceSub, Int.reduceGT, Int.reduceGE, Int.reduceBNe]
        · rw [if_neg (by omega)]
          simp only [go_sem, reduceIte, reduceCtorEq, Nat.reduceAdd, Nat.reduceSub, Nat.reduceMul, Nat.reduceLT, Nat.reduceLeDiff, Nat.reduceEqDiff, Nat.reduceBEq, Nat.reduceGT, Int.reduceEq, Int.reduceNe, Int.reduceLT, Int.reduceLE, Int.reduceToNat, Int.reduceNeg, Int.reduceBEq, Int.reduceAdd, Int.reduceSub, Int.reduceGT, Int.reduceGE, Int.reduceBNe, beq_no h1, beq_no h2]
    · by_cases h22 : k = 22
      · subst h22
        have e : bindsN 22 p = if p = 2 then 2 else 0 := by unfold bindsN; rw [if_neg (by decide), if_neg (by decide), if_pos rfl]
        rw [e]
        by_cases h2 : p = 2
        · subst h2; simp only [go_sem, reduceIte, reduceCtorEq, Nat.reduceAdd, Nat.reduceSub, Nat.reduceMul, Nat.reduceLT, Nat.reduceLeDiff, Nat.reduceEqDiff, Nat.reduceBEq, Nat.reduceGT, Int.reduceEq, Int.reduceNe, Int.reduceLT, Int.reduceLE, Int.reduceToNat, Int.reduceNeg, Int.reduceBEq, Int.reduceAdd, Int.reduceSub, Int.reduceGT, Int.reduceGE, Int.reduceBNe]
        · rw [if_neg h2]
          simp only [go_sem, reduceIte, reduceCtorEq, Nat.reduceAdd, Nat.reduceSub, Nat.reduceMul, Nat.reduceLT, Nat.reduceLeDiff, Nat.reduceEqDiff, Nat.reduceBEq, Nat.reduceGT, Int.reduceEq, Int.reduceNe, Int.reduceLT, Int.reduceLE, Int.reduceToNat, Int.reduceNeg, Int.reduceBEq, Int.reduceAdd, Int.reduceSub, Int.reduceGT, Int.reduceGE, Int.reduceBNe, beq_no h2]
      · have e : bindsN k p = 0 := by unfold bindsN; rw [if_neg h, if_neg h4, if_neg h22]
        rw [e]
        simp only [go_sem, reduceIte, reduceCtorEq, Nat.reduceAdd, Nat.reduceSub, Nat.reduceMul, Nat.reduceLT, Nat.reduceLeDiff, Nat.reduceEqDiff, Nat.reduceBEq, Nat.reduceGT, Int.reduceEq, Int.reduceNe, Int.reduceLT, Int.reduceLE, Int.reduceToNat, Int.reduceNeg, Int.reduceBEq, Int.reduceAdd, Int.reduceSub, Int.reduceGT, Int.reduceGE, Int.reduceBNe, beq_no (show k ≠ 3 by omega), beq_no h4, beq_no (show k ≠ 5 by omega), beq_no (show k ≠ 6 by omega), beq_no (show k ≠ 7 by omega), beq_no (show k ≠ 8 by omega), beq_no (show k ≠ 9 by omega), beq_no (show k ≠ 13 by omega), beq_no (show k ≠ 14 by omega), beq_no (show k ≠ 16 by omega), beq_no (show k ≠ 17 by omega), beq_no h22]
end Go.Proofs.YtkldipbhenabfaaGreat.Abs
