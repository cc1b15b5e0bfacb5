/- Heights of what is not too heavy; beneath how many binders a kid stands. -/
import Derived.Test.YtkldipbhenabfaaGreatRFo
set_option linter.unusedSimpArgs false
set_option linter.unusedVariables false
namespace Go.Proofs.YtkldipbhenabfaaGreat.Abs
open Go Go.RowKit Go.Proofs.YtkldipbhenabfaaGreat

mutual
def hgtT : Tm → Nat
  | .mk _ _ _ _ l => hgtL l + 1
def hgtL : List Tm → Nat
  | [] => 0
  | t :: l => max (hgtT t) (hgtL l)
end
theorem hgtT_mk (k i j n : Int) (l : List Tm) : hgtT (.mk k i j n l) = hgtL l + 1 := by rw [hgtT]
theorem hgt_mem {t : Tm} : ∀ {l : List Tm}, t ∈ l → hgtT t ≤ hgtL l := by
  intro l
  induction l with
  | nil => intro h; cases h
  | cons u l ih =>
    intro h
    rw [hgtL]
    rcases List.mem_cons.1 h with rfl | h
    · omega
    · have := ih h; omega
theorem hgtL_le {b : Nat} : ∀ {l : List Tm}, (∀ t ∈ l, hgtT t ≤ b) → hgtL l ≤ b := by
  intro l
  induction l with
  | nil => intro _; rw [hgtL]; omega
  | cons u l ih =>
    intro h
    rw [hgtL]
    have h1 := h u (by simp)
    have h2 := ih (fun t ht => h t (by simp [ht]))
    omega

def sumsA (a : Int) (V : Nat → Int → Int) (most : Int) : Nat → Int
  | 0 => a
  | x + 1 => IntKind.i64.wrap (sumsA a V most x + V x (IntKind.i64.wrap (most - sumsA a V most x)))

theorem sums_ok {a : Int} {V : Nat → Int → Int} {most : Int} {n : Nat} {B : Nat → Prop} (h0 : 0 ≤ a) (h1 : a ≤ 1) (hm : 0 ≤ most) (hm2 : most ≤ 1000000)
    (hV : ∀ x, x < n → ∀ m, 0 ≤ m → m ≤ 1000000 → 1 ≤ V x m ∧ V x m ≤ m + 1 ∧ (V x m ≤ m → B x)) :
    ∀ x, x ≤ n → (∀ y, y < x → sumsA a V most y ≤ most) → 0 ≤ sumsA a V most x ∧ sumsA a V most x ≤ most + 1 ∧ (sumsA a V most x ≤ most → ∀ y, y < x → B y) := by
  intro x
  induction x with
  | zero => intro _ _; exact ⟨h0, by show a ≤ most + 1; omega, fun _ y hy => absurd hy (Nat.not_lt_zero _)⟩
  | succ x ih =>
    intro hx hle
    obtain ⟨g1, g2, g3⟩ := ih (by omega) (fun y hy => hle y (by omega))
    have hs := hle x (by omega)
    have e1 : IntKind.i64.wrap (most - sumsA a V most x) = most - sumsA a V most x := w64 (by unfold fit; omega)
    obtain ⟨v1, v2, v3⟩ := hV x (by omega) (most - sumsA a V most x) (by omega) (by omega)
    have e2 : sumsA a V most (x + 1) = sumsA a V most x + V x (most - sumsA a V most x) := by
      show IntKind.i64.wrap (sumsA a V most x + V x (IntKind.i64.wrap (most - sumsA a V most x))) = _
      rw [e1, w64 (by unfold fit; omega)]
    rw [e2]
    refine ⟨by omega, by omega, fun h y hy => ?_⟩
    rcases Nat.lt_succ_iff_lt_or_eq.1 hy with h3 | rfl
    · exact g3 hs y h3
    · exact v3 (by omega)

theorem weigh_neg (k i j n most deep : Int) (rows : List (List SV)) (hd : deep < 0) : Con 26 [.agg true [.int .i64 k, .int .i64 i, .int .i64 j, .int .i64 n, .dsl 5 rows], .int .i64 most, .int .i64 deep] (.int .i64 (IntKind.i64.wrap (most + 1))) := by
  refine contract_of_vc mixed Tryz.func26 tr26 ?_
  simp only [go_sem, reduceIte, reduceCtorEq, Nat.reduceAdd, Nat.reduceSub, Nat.reduceMul, Nat.reduceLT, Nat.reduceLeDiff, Nat.reduceEqDiff, Nat.reduceBEq, Nat.reduceGT, Int.reduceEq, Int.reduceNe, Int.reduceLT, Int.reduceLE, Int.reduceToNat, Int.reduceNeg, Int.reduceBEq, Int.reduceAdd, Int.reduceSub, Int.reduceGT, Int.reduceGE, Int.reduceBNe, hd]

theorem weigh_pos (k i j n most deep : Int) (rows : List (List SV)) (W : List SV → Int → Int → Int) (h2 : rows.length * 56 ≤ 140737488355328) (h5 : ∀ r ∈ rows, r.length = 5)
    (H : ∀ r ∈ rows, ∀ m d, Con 26 [.agg true r, .int .i64 m, .int .i64 d] (.int .i64 (W r m d))) (hd : ¬ deep < 0) (m : Nat) (hm1 : m ≤ rows.length)
    (hm2 : m = rows.length ∨ most < sums W rows most (IntKind.i64.wrap (deep - 1)) m) (hm3 : ∀ y, y < m → ¬ most < sums W rows most (IntKind.i64.wrap (deep - 1)) y) :
    Con 26 [.agg true [.int .i64 k, .int .i64 i, .int .i64 j, .int .i64 n, .dsl 5 rows], .int .i64 most, .int .i64 deep] (.int .i64 (sums W rows most (IntKind.i64.wrap (deep - 1)) m)) := by
  refine contract_of_vc mixed Tryz.func26 tr26 ?_
  simp only [go_sem, reduceIte, reduceCtorEq, Nat.reduceAdd, Nat.reduceSub, Nat.reduceMul, Nat.reduceLT, Nat.reduceLeDiff, Nat.reduceEqDiff, Nat.reduceBEq, Nat.reduceGT, Int.reduceEq, Int.reduceNe, Int.reduceLT, Int.reduceLE, Int.reduceToNat, Int.reduceNeg, Int.reduceBEq, Int.reduceAdd, Int.reduceSub, Int.reduceGT, Int.reduceGE, Int.reduceBNe, hd]
  refine vc_for (fun x => ⟨(.junk :: .int .i64 most :: .int .i64 deep :: .ref 0 0 0 0 :: .junk :: .junk :: .int .i64 0 :: .int .i64 (sums W rows most (IntKind.i64.wrap (deep - 1)) x) :: .int .i64 x :: .junk :: .junk :: .junk :: .junk :: .junk :: .junk :: .junk :: .junk :: .junk :: .junk :: .junk :: .junk :: .junk :: .junk :: .junk :: .junk :: .junk :: .junk :: .junk :: .junk :: .junk :: .junk :: .junk :: .junk :: .junk :: .junk :: .junk :: .junk :: .junk :: .junk :: []),
      [⟨true, 5, [[.int .i64 k, .int .i64 i, .int .i64 j, .int .i64 n, .dsl 5 rows]], 0, 0, true⟩]⟩) m (fun x hx => ?_) ?_
  · simp only [go_sem, reduceIte, reduceCtorEq, Nat.reduceAdd, Nat.reduceSub, Nat.reduceMul, Nat.reduceLT, Nat.reduceLeDiff, Nat.reduceEqDiff, Nat.reduceBEq, Nat.reduceGT, Int.reduceEq, Int.reduceNe, Int.reduceLT, Int.reduceLE, Int.reduceToNat, Int.reduceNeg, Int.reduceBEq, Int.reduceAdd, Int.reduceSub, Int.reduceGT, Int.reduceGE, Int.reduceBNe]
    intro _
    by_cases hxm : x = m
    · subst hxm
      rcases hm2 with rfl | hm2
      · have hl : ¬ ((rows.length : Int) < (rows.length : Int)) := by omega
        simp only [go_sem, reduceIte, reduceCtorEq, Nat.reduceAdd, Nat.reduceSub, Nat.reduceMul, Nat.reduceLT, Nat.reduceLeDiff, Nat.reduceEqDiff, Nat.reduceBEq, Nat.reduceGT, Int.reduceEq, Int.reduceNe, Int.reduceLT, Int.reduceLE, Int.reduceToNat, Int.reduceNeg, Int.reduceBEq, Int.reduceAdd, Int.reduceSub, Int.reduceGT, Int.reduceGE, Int.reduceBNe, hl]
      · have hl : ¬ (sums W rows most (IntKind.i64.wrap (deep - 1)) x ≤ most) := by omega
        refine ⟨fun h => ?_, fun h => ?_⟩
        · simp only [go_sem, reduceIte, reduceCtorEq, Nat.reduceAdd, Nat.reduceSub, Nat.reduceMul, Nat.reduceLT, Nat.reduceLeDiff, Nat.reduceEqDiff, Nat.reduceBEq, Nat.reduceGT, Int.reduceEq, Int.reduceNe, Int.reduceLT, Int.reduceLE, Int.reduceToNat, Int.reduceNeg, Int.reduceBEq, Int.reduceAdd, Int.reduceSub, Int.reduceGT, Int.reduceGE, Int.reduceBNe, h, hl]
        · simp only [go_sem, reduceIte, reduceCtorEq, Nat.reduceAdd, Nat.reduceSub, Nat.reduceMul, Nat.reduceLT, Nat.reduceLeDiff, Nat.reduceEqDiff, Nat.reduceBEq, Nat.reduceGT, Int.reduceEq, Int.reduceNe, Int.reduceLT, Int.reduceLE, Int.reduceToNat, Int.reduceNeg, Int.reduceBEq, Int.reduceAdd, Int.reduceSub, Int.reduceGT, Int.reduceGE, Int.reduceBNe, h, hl]
    · have hxl : x < rows.length := by omega
      have hxl' : (x : Int) < (rows.length : Int) := by omega
      have e0 : (0 : Int) ≤ (x : Int) := by omega
      have hle : sums W rows most (IntKind.i64.wrap (deep - 1)) x ≤ most := by have := hm3 x (by omega); omega
      have hm := get_lt (d := []) hxl
      have h5' := h5 _ hm
      simp only [go_sem, reduceIte, reduceCtorEq, Nat.reduceAdd, Nat.reduceSub, Nat.reduceMul, Nat.reduceLT, Nat.reduceLeDiff, Nat.reduceEqDiff, Nat.reduceBEq, Nat.reduceGT, Int.reduceEq, Int.reduceNe, Int.reduceLT, Int.reduceLE, Int.reduceToNat, Int.reduceNeg, Int.reduceBEq, Int.reduceAdd, Int.reduceSub, Int.reduceGT, Int.reduceGE, Int.reduceBNe, hxl', hle, e0, h5']
      refine callK_of (H _ hm _ _) ?_
      simp only [go_sem, reduceIte, reduceCtorEq, Nat.reduceAdd, Nat.reduceSub, Nat.reduceMul, Nat.reduceLT, Nat.reduceLeDiff, Nat.reduceEqDiff, Nat.reduceBEq, Nat.reduceGT, Int.reduceEq, Int.reduceNe, Int.reduceLT, Int.reduceLE, Int.reduceToNat, Int.reduceNeg, Int.reduceBEq, Int.reduceAdd, Int.reduceSub, Int.reduceGT, Int.reduceGE, Int.reduceBNe]
      refine ⟨by omega, ?_⟩
      rw [w64 (n := (x : Int) + 1) (by unfold fit; omega)]
      exact wk_slots (by simp [slotsLe, sums])
  · exact wk_slots (by simp [slotsLe, sums])

theorem sums_A (W : List SV → Int → Int → Int) (rows : List (List SV)) (most d : Int) : ∀ x, sums W rows most d x = sumsA 1 (fun y m => W (rows[y]?.getD []) m d) most x := by
  intro x
  induction x with
  | zero => rfl
  | succ x ih => rw [sums, sumsA, ih]
theorem sums0_A (W : List SV → Int → Int → Int) (rows : List (List SV)) (most d : Int) : ∀ x, sums0 W rows most d x = sumsA 0 (fun y m => W (rows[y]?.getD []) m d) most x := by
  intro x
  induction x with
  | zero => rfl
  | succ x ih => rw [sums0, sumsA, ih]

def Wt (t : Tm) (m d z : Int) : Prop := Con 26 [.agg true (tv t), .int .i64 m, .int .i64 d] (.int .i64 z) ∧
  (0 ≤ m → m ≤ 1000000 → -1 ≤ d → d ≤ 1000 → 1 ≤ z ∧ z ≤ m + 1 ∧ (z ≤ m → (hgtT t : Int) ≤ d + 1))

end Go.Proofs.YtkldipbhenabfaaGreat.Abs

set_option linter.unusedSimpArgs false
set_option linter.unusedVariables false
namespace Go.Proofs.YtkldipbhenabfaaGreat.Abs
open Go Go.RowKit Go.Proofs.YtkldipbhenabfaaGreat

theorem greats_out (most : Int) (rows : List (List SV)) (hd : most < (rows.length : Int)) : Con 46 [.dsl 5 rows, .int .i64 most] (.bool true) := by
  refine contract_of_vc mixed Tryz.func46 tr46 ?_
  simp only [go_sem, reduceIte, reduceCtorEq, Nat.reduceAdd, Nat.reduceSub, Nat.reduceMul, Nat.reduceLT, Nat.reduceLeDiff, Nat.reduceEqDiff, Nat.reduceBEq, Nat.reduceGT, Int.reduceEq, Int.reduceNe, Int.reduceLT, Int.reduceLE, Int.reduceToNat, Int.reduceNeg, Int.reduceBEq, Int.reduceAdd, Int.reduceSub, Int.reduceGT, Int.reduceGE, Int.reduceBNe, hd]
theorem greats_in (most : Int) (rows : List (List SV)) (W : List SV → Int → Int → Int) (h2 : rows.length * 56 ≤ 140737488355328) (h5 : ∀ r ∈ rows, r.length = 5)
    (H : ∀ r ∈ rows, ∀ m d, Con 26 [.agg true r, .int .i64 m, .int .i64 d] (.int .i64 (W r m d))) (hd : ¬ most < (rows.length : Int)) (m : Nat) (hm1 : m ≤ rows.length)
    (hm2 : m = rows.length ∨ most < sums0 W rows most 200 m) (hm3 : ∀ y, y < m → ¬ most < sums0 W rows most 200 y) :
    Con 46 [.dsl 5 rows, .int .i64 most] (.bool (decide (most < sums0 W rows most 200 m))) := by
  refine contract_of_vc mixed Tryz.func46 tr46 ?_
  simp only [go_sem, reduceIte, reduceCtorEq, Nat.reduceAdd, Nat.reduceSub, Nat.reduceMul, Nat.reduceLT, Nat.reduceLeDiff, Nat.reduceEqDiff, Nat.reduceBEq, Nat.reduceGT, Int.reduceEq, Int.reduceNe, Int.reduceLT, Int.reduceLE, Int.reduceToNat, Int.reduceNeg, Int.reduceBEq, Int.reduceAdd, Int.reduceSub, Int.reduceGT, Int.reduceGE, Int.reduceBNe, hd]
  intro _
  refine vc_for (fun x => ⟨(.dsl 5 rows :: .int .i64 most :: .junk :: .junk :: .bool false :: .int .i64 (sums0 W rows most 200 x) :: .int .i64 x :: .junk :: .junk :: .junk :: .junk :: .junk :: .junk :: .junk :: .junk :: .junk :: .junk :: .junk :: .junk :: .junk :: .junk :: .junk :: .junk :: .junk :: .junk :: .junk :: .junk :: .junk :: .junk :: .junk :: .junk :: .junk :: .junk :: .junk :: .junk :: []), []⟩) m (fun x hx => ?_) ?_
  · simp only [go_sem, reduceIte, reduceCtorEq, Nat.reduceAdd, Nat.reduceSub, Nat.reduceMul, Nat.reduceLT, Nat.reduceLeDiff, Nat.reduceEqDiff, Nat.reduceBEq, Nat.reduceGT, Int.reduceEq, Int.reduceNe, Int.reduceLT, Int.reduceLE, Int.reduceToNat, Int.reduceNeg, Int.reduceBEq, Int.reduceAdd, Int.reduceSub, Int.reduceGT, Int.reduceGE, Int.reduceBNe]
    intro _
    by_cases hxm : x = m
    · subst hxm
      rcases hm2 with rfl | hm2
      · have hl : ¬ ((rows.length : Int) < (rows.length : Int)) := by omega
        simp only [go_sem, reduceIte, reduceCtorEq, Nat.reduceAdd, Nat.reduceSub, Nat.reduceMul, Nat.reduceLT, Nat.reduceLeDiff, Nat.reduceEqDiff, Nat.reduceBEq, Nat.reduceGT, Int.reduceEq, Int.reduceNe, Int.reduceLT, Int.reduceLE, Int.reduceToNat, Int.reduceNeg, Int.reduceBEq, Int.reduceAdd, Int.reduceSub, Int.reduceGT, Int.reduceGE, Int.reduceBNe, hl]
      · have hl : ¬ (sums0 W rows most 200 x ≤ most) := by omega
        refine ⟨fun h => ?_, fun h => ?_⟩
        · simp only [go_sem, reduceIte, reduceCtorEq, Nat.reduceAdd, Nat.reduceSub, Nat.reduceMul, Nat.reduceLT, Nat.reduceLeDiff, Nat.reduceEqDiff, Nat.reduceBEq, Nat.reduceGT, Int.reduceEq, Int.reduceNe, Int.reduceLT, Int.reduceLE, Int.reduceToNat, Int.reduceNeg, Int.reduceBEq, Int.reduceAdd, Int.reduceSub, Int.reduceGT, Int.reduceGE, Int.reduceBNe, h, hl]
        · simp only [go_sem, reduceIte, reduceCtorEq, Nat.reduceAdd, Nat.reduceSub, Nat.reduceMul, Nat.reduceLT, Nat.reduceLeDiff, Nat.reduceEqDiff, Nat.reduceBEq, Nat.reduceGT, Int.reduceEq, Int.reduceNe, Int.reduceLT, Int.reduceLE, Int.reduceToNat, Int.reduceNeg, Int.reduceBEq, Int.reduceAdd, Int.reduceSub, Int.reduceGT, Int.reduceGE, Int.reduceBNe, h, hl]
    · have hxl : x < rows.length := by omega
      have hxl' : (x : Int) < (rows.length : Int) := by omega
      have e0 : (0 : Int) ≤ (x : Int) := by omega
      have hle : sums0 W rows most 200 x ≤ most := by have := hm3 x (by omega); omega
      have hm := get_lt (d := []) hxl
      have h5' := h5 _ hm
      simp only [go_sem, reduceIte, reduceCtorEq, Nat.reduceAdd, Nat.reduceSub, Nat.reduceMul, Nat.reduceLT, Nat.reduceLeDiff, Nat.reduceEqDiff, Nat.reduceBEq, Nat.reduceGT, Int.reduceEq, Int.reduceNe, Int.reduceLT, Int.reduceLE, Int.reduceToNat, Int.reduceNeg, Int.reduceBEq, Int.reduceAdd, Int.reduceSub, Int.reduceGT, Int.reduceGE, Int.reduceBNe, hxl', hle, e0, h5']
      refine callK_of (H _ hm _ _) ?_
      simp only [go_sem, reduceIte, reduceCtorEq, Nat.reduceAdd, Nat.reduceSub, Nat.reduceMul, Nat.reduceLT, Nat.reduceLeDiff, Nat.reduceEqDiff, Nat.reduceBEq, Nat.reduceGT, Int.reduceEq, Int.reduceNe, Int.reduceLT, Int.reduceLE, Int.reduceToNat, Int.reduceNeg, Int.reduceBEq, Int.reduceAdd, Int.reduceSub, Int.reduceGT, Int.reduceGE, Int.reduceBNe]
      refine ⟨by omega, ?_⟩
      rw [w64 (n := (x : Int) + 1) (by unfold fit; omega)]
      exact wk_slots (by simp [slotsLe, sums0])
  · exact wk_slots (by simp [slotsLe, sums0])

/-! Binders -/
def bindsN (k p : Int) : Int :=
  if k = 3 ∨ k = 5 ∨ k = 6 ∨ k = 7 ∨ k = 8 ∨ k = 9 ∨ k = 13 ∨ k = 14 ∨ k = 16 ∨ k = 17 then (if p = 1 then 1 else 0)
  else if k = 4 then (if p = 1 ∨ p = 2 then 1 else 0)
  else if k = 22 then (if p = 2 then 2 else 0) else 0
theorem binds_le (k p : Int) : 0 ≤ bindsN k p ∧ bindsN k p ≤ 2 := by
  unfold bindsN
  repeat' split
  all_goals omega

set_option maxRecDepth 10000 in
set_option maxHeartbeats 1000000 in
theorem con_binds (k p : Int) : Con 71 [.int .i64 k, .int .i64 p] (.int .i64 (bindsN k p)) := by
  refine contract_of_vc mixed Tryz.func71 tr71 ?_
  by_cases h : k = 3 ∨ k = 5 ∨ k = 6 ∨ k = 7 ∨ k = 8 ∨ k = 9 ∨ k = 13 ∨ k = 14 ∨ k = 16 ∨ k = 17
  · have e : bindsN k p = if p = 1 then 1 else 0 := by unfold bindsN; rw [if_pos h]
    rw [e]
    rcases h with rfl | rfl | rfl | rfl | rfl | rfl | rfl | rfl | rfl | rfl <;>
      (cases hp : (p == 1) <;> simp only [beq_iff_eq, beq_eq_false_iff_ne, ne_eq] at hp <;> simp only [go_sem, reduceIte, reduceCtorEq, Nat.reduceAdd, Nat.reduceSub, Nat.reduceMul, Nat.reduceLT, Nat.reduceLeDiff, Nat.reduceEqDiff, Nat.reduceBEq, Nat.reduceGT, Int.reduceEq, Int.reduceNe, Int.reduceLT, Int.reduceLE, Int.reduceToNat, Int.reduceNeg, Int.reduceBEq, Int.reduceAdd, Int.reduceSub, Int.reduceGT, Int.reduceGE, Int.reduceBNe, hp, beq_no])
  · by_cases h4 : k = 4
    · subst h4
      have e : bindsN 4 p = if p = 1 ∨ p = 2 then 1 else 0 := by unfold bindsN; rw [if_neg (by decide), if_pos rfl]
      rw [e]
      by_cases h1 : p = 1
      · subst h1; simp only [go_sem, reduceIte, reduceCtorEq, Nat.reduceAdd, Nat.reduceSub, Nat.reduceMul, Nat.reduceLT, Nat.reduceLeDiff, Nat.reduceEqDiff, Nat.reduceBEq, Nat.reduceGT, Int.reduceEq, Int.reduceNe, Int.reduceLT, Int.reduceLE, Int.reduceToNat, Int.reduceNeg, Int.reduceBEq, Int.reduceAdd, Int.reduceSub, Int.reduceGT, Int.reduceGE, Int.reduceBNe]
      · by_cases h2 : p = 2
        · subst h2; simp only [go_sem, reduceIte, reduceCtorEq, Nat.reduceAdd, Nat.reduceSub, Nat.reduceMul, Nat.reduceLT, Nat.reduceLeDiff, Nat.reduceEqDiff, Nat.reduceBEq, Nat.reduceGT, Int.reduceEq, Int.reduceNe, Int.reduceLT, Int.reduceLE, Int.reduceToNat, Int.reduceNeg, Int.reduceBEq, Int.reduceAdd, Int.reduceSub, Int.reduceGT, Int.reduceGE, Int.reduceBNe]
        · rw [if_neg (by omega)]
          simp only [go_sem, reduceIte, reduceCtorEq, Nat.reduceAdd, Nat.reduceSub, Nat.reduceMul, Nat.reduceLT, Nat.reduceLeDiff, Nat.reduceEqDiff, Nat.reduceBEq, Nat.reduceGT, Int.reduceEq, Int.reduceNe, Int.reduceLT, Int.reduceLE, Int.reduceToNat, Int.reduceNeg, Int.reduceBEq, Int.reduceAdd, Int.reduceSub, Int.reduceGT, Int.reduceGE, Int.reduceBNe, beq_no h1, beq_no h2]
    · by_cases h22 : k = 22
      · subst h22
        have e : bindsN 22 p = if p = 2 then 2 else 0 := by unfold bindsN; rw [if_neg (by decide), if_neg (by decide), if_pos rfl]
        rw [e]
        by_cases h2 : p = 2
        · subst h2; simp only [go_sem, reduceIte, reduceCtorEq, Nat.reduceAdd, Nat.reduceSub, Nat.reduceMul, Nat.reduceLT, Nat.reduceLeDiff, Nat.reduceEqDiff, Nat.reduceBEq, Nat.reduceGT, Int.reduceEq, Int.reduceNe, Int.reduceLT, Int.reduceLE, Int.reduceToNat, Int.reduceNeg, Int.reduceBEq, Int.reduceAdd, Int.reduceSub, Int.reduceGT, Int.reduceGE, Int.reduceBNe]
        · rw [if_neg h2]
          simp only [go_sem, reduceIte, reduceCtorEq, Nat.reduceAdd, Nat.reduceSub, Nat.reduceMul, Nat.reduceLT, Nat.reduceLeDiff, Nat.reduceEqDiff, Nat.reduceBEq, Nat.reduceGT, Int.reduceEq, Int.reduceNe, Int.reduceLT, Int.reduceLE, Int.reduceToNat, Int.reduceNeg, Int.reduceBEq, Int.reduceAdd, Int.reduceSub, Int.reduceGT, Int.reduceGE, Int.reduceBNe, beq_no h2]
      · have e : bindsN k p = 0 := by unfold bindsN; rw [if_neg h, if_neg h4, if_neg h22]
        rw [e]
        simp only [go_sem, reduceIte, reduceCtorEq, Nat.reduceAdd, Nat.reduceSub, Nat.reduceMul, Nat.reduceLT, Nat.reduceLeDiff, Nat.reduceEqDiff, Nat.reduceBEq, Nat.reduceGT, Int.reduceEq, Int.reduceNe, Int.reduceLT, Int.reduceLE, Int.reduceToNat, Int.reduceNeg, Int.reduceBEq, Int.reduceAdd, Int.reduceSub, Int.reduceGT, Int.reduceGE, Int.reduceBNe, beq_no (show k ≠ 3 by omega), beq_no h4, beq_no (show k ≠ 5 by omega), beq_no (show k ≠ 6 by omega), beq_no (show k ≠ 7 by omega), beq_no (show k ≠ 8 by omega), beq_no (show k ≠ 9 by omega), beq_no (show k ≠ 13 by omega), beq_no (show k ≠ 14 by omega), beq_no (show k ≠ 16 by omega), beq_no (show k ≠ 17 by omega), beq_no h22]

end Go.Proofs.YtkldipbhenabfaaGreat.Abs

