/- Functions on terms as functions on rows; the page's numbers and nodes. -/
import Derived.Test.YtdpigpopcbjkmaaDoorFh
set_option linter.unusedSimpArgs false
set_option linter.unusedVariables false
namespace Go.Proofs.YtdpigpopcbjkmaaDoor.Abs
open Go Go.RowKit Go.Proofs.YtdpigpopcbjkmaaDoor

theorem map_inj {l : List Tm} (ih : ∀ a ∈ l, ∀ b, tv a = tv b → a = b) : ∀ {r : List Tm}, l.map tv = r.map tv → l = r := by
  induction l with
  | nil => intro r h; cases r with
    | nil => rfl
    | cons b r => simp at h
  | cons a l ihl =>
    intro r h
    cases r with
    | nil => simp at h
    | cons b r =>
      simp only [List.map_cons, List.cons.injEq] at h
      rw [ih a (by simp) b h.1, ihl (fun x hx => ih x (by simp [hx])) h.2]

theorem tv_inj (a : Tm) : ∀ b, tv a = tv b → a = b := by
  induction a using Tm.ind with
  | h k i j n l ih =>
    intro b h
    cases b with
    | mk k' i' j' n' l' =>
      rw [tv_mk, tv_mk] at h
      simp only [List.cons.injEq, SV.int.injEq, SV.dsl.injEq, true_and, and_true] at h
      obtain ⟨rfl, rfl, rfl, rfl, h5⟩ := h
      rw [map_inj ih h5]

/-- A function on terms, of a row that stands for one. -/
noncomputable def onT {α : Type} (f : Tm → α) (d : α) (r : List SV) : α := open Classical in if h : ∃ t, tv t = r then f (Classical.choose h) else d
theorem onT_tv {α : Type} (f : Tm → α) (d : α) (t : Tm) : onT f d (tv t) = f t := by
  have h : ∃ u, tv u = tv t := ⟨t, rfl⟩
  unfold onT
  rw [dif_pos h, tv_inj _ _ (Classical.choose_spec h)]

theorem rows5 (l : List Tm) : ∀ r ∈ l.map tv, r.length = 5 := fun r hr => by obtain ⟨t, _, rfl⟩ := List.mem_map.1 hr; exact tv_len t

mutual
/-- What term.right says. -/
def rightT : Tm → Int → Bool
  | .mk k i j n l, want => rightN k i j n want l.length && rightL k 0 l
def rightL (k : Int) : Nat → List Tm → Bool
  | _, [] => true
  | p, t :: l => rightT t (ofN k p) && rightL k (p + 1) l
end

theorem rightL_all (k : Int) : ∀ (l : List Tm) (p : Nat), rightL k p l = allI (fun p t => rightT t (ofN k p)) p l := by
  intro l
  induction l with
  | nil => intro p; rw [rightL]; rfl
  | cons t l ih => intro p; rw [rightL, allI, ih]

theorem rightT_mk (k i j n : Int) (l : List Tm) (want : Int) : rightT (.mk k i j n l) want = (rightN k i j n want l.length && allI (fun p t => rightT t (ofN k p)) 0 l) := by rw [rightT, rightL_all]

theorem con_right (t : Tm) : TOk t → ∀ want, Con 32 [.agg true (tv t), .int .i64 want] (.bool (rightT t want)) := by
  induction t using Tm.ind with
  | h k i j n l ih =>
    intro hok want
    cases hok with
    | mk _ _ _ _ _ f1 f2 f3 f4 hb hl =>
    have h := con_right_rows k i j n want (l.map tv) (fun p r => onT (fun t => rightT t (ofN k p)) false r) (by simpa using hb) (rows5 l) (fun p r hr => by
      obtain ⟨t, ht, rfl⟩ := List.mem_map.1 hr
      simp only [onT_tv]
      exact ih t ht (hl t ht) _)
    rw [allI_map, List.length_map, allI_congr (g := fun p t => rightT t (ofN k p)) (fun p t _ => by rw [onT_tv]), ← rightT_mk, ← tv_mk] at h
    exact h

theorem con_plain (t : Tm) (ht : TOk t) : Con 15 [.agg true (tv t)] (.bool (rightT t 2)) := by
  refine contract_of_vc mixed Tryd.func15 tr15 ?_
  have hc := con_right t ht 2
  cases t with
  | mk k i j n l =>
  rw [tv_mk] at hc ⊢
  simp only [go_sem, reduceIte, reduceCtorEq, Nat.reduceAdd, Nat.reduceSub, Nat.reduceMul, Nat.reduceLT, Nat.reduceLeDiff, Nat.reduceEqDiff, Nat.reduceBEq, Nat.reduceGT, Int.reduceEq, Int.reduceNe, Int.reduceLT, Int.reduceLE, Int.reduceToNat, Int.reduceNeg, Int.reduceBEq, Int.reduceAdd, Int.reduceSub, Int.reduceGT, Int.reduceGE, Int.reduceBNe]
  refine callK_of hc ?_
  simp only [go_sem, reduceIte, reduceCtorEq, Nat.reduceAdd, Nat.reduceSub, Nat.reduceMul, Nat.reduceLT, Nat.reduceLeDiff, Nat.reduceEqDiff, Nat.reduceBEq, Nat.reduceGT, Int.reduceEq, Int.reduceNe, Int.reduceLT, Int.reduceLE, Int.reduceToNat, Int.reduceNeg, Int.reduceBEq, Int.reduceAdd, Int.reduceSub, Int.reduceGT, Int.reduceGE, Int.reduceBNe]

/-! The page's -/
set_option maxRecDepth 10000 in
theorem con_rnums1 (k i j n : Int) (rows : List (List SV)) (h : k = 1 ∨ k = 10 ∨ k = 11 ∨ k = 12) : Con 31 [.agg true [.int .i64 k, .int .i64 i, .int .i64 j, .int .i64 n, .dsl 5 rows]] (.bool (lev i && ((j == 0) && (n == 0)))) := by
  refine contract_of_vc mixed Tryd.func31 tr31 ?_
  rcases h with rfl | rfl | rfl | rfl <;> simp only [go_sem, reduceIte, reduceCtorEq, Nat.reduceAdd, Nat.reduceSub, Nat.reduceMul, Nat.reduceLT, Nat.reduceLeDiff, Nat.reduceEqDiff, Nat.reduceBEq, Nat.reduceGT, Int.reduceEq, Int.reduceNe, Int.reduceLT, Int.reduceLE, Int.reduceToNat, Int.reduceNeg, Int.reduceBEq, Int.reduceAdd, Int.reduceSub, Int.reduceGT, Int.reduceGE, Int.reduceBNe] <;> refine callK_of (con_rlevel i) ?_ <;> (cases hL : lev i <;> cases hJ : (j == 0) <;> cases hN : (n == 0) <;> simp only [go_sem, reduceIte, reduceCtorEq, Nat.reduceAdd, Nat.reduceSub, Nat.reduceMul, Nat.reduceLT, Nat.reduceLeDiff, Nat.reduceEqDiff, Nat.reduceBEq, Nat.reduceGT, Int.reduceEq, Int.reduceNe, Int.reduceLT, Int.reduceLE, Int.reduceToNat, Int.reduceNeg, Int.reduceBEq, Int.reduceAdd, Int.reduceSub, Int.reduceGT, Int.reduceGE, Int.reduceBNe, hJ, hN])

set_option maxRecDepth 10000 in
theorem con_rnums2 (i j n : Int) (rows : List (List SV)) : Con 31 [.agg true [.int .i64 2, .int .i64 i, .int .i64 j, .int .i64 n, .dsl 5 rows]] (.bool (decide (0 ≤ i) && (decide (i ≤ 2147483647) && ((j == 0) && (n == 0))))) := by
  refine contract_of_vc mixed Tryd.func31 tr31 ?_
  by_cases h1 : 0 ≤ i <;> by_cases h2 : i ≤ 2147483647 <;> cases hJ : (j == 0) <;> cases hN : (n == 0) <;> simp only [go_sem, reduceIte, reduceCtorEq, Nat.reduceAdd, Nat.reduceSub, Nat.reduceMul, Nat.reduceLT, Nat.reduceLeDiff, Nat.reduceEqDiff, Nat.reduceBEq, Nat.reduceGT, Int.reduceEq, Int.reduceNe, Int.reduceLT, Int.reduceLE, Int.reduceToNat, Int.reduceNeg, Int.reduceBEq, Int.reduceAdd, Int.reduceSub, Int.reduceGT, Int.reduceGE, Int.reduceBNe, hJ, hN, h1, h2]

set_option maxRecDepth 10000 in
set_option maxHeartbeats 2000000 in
theorem con_rnums3 (k i j n : Int) (rows : List (List SV)) (h : k = 3 ∨ k = 4 ∨ k = 5 ∨ k = 6 ∨ k = 7 ∨ k = 8 ∨ k = 9) : Con 31 [.agg true [.int .i64 k, .int .i64 i, .int .i64 j, .int .i64 n, .dsl 5 rows]] (.bool (lev i && (lev j && (n == 0)))) := by
  refine contract_of_vc mixed Tryd.func31 tr31 ?_
  rcases h with rfl | rfl | rfl | rfl | rfl | rfl | rfl <;> simp only [go_sem, reduceIte, reduceCtorEq, Nat.reduceAdd, Nat.reduceSub, Nat.reduceMul, Nat.reduceLT, Nat.reduceLeDiff, Nat.reduceEqDiff, Nat.reduceBEq, Nat.reduceGT, Int.reduceEq, Int.reduceNe, Int.reduceLT, Int.reduceLE, Int.reduceToNat, Int.reduceNeg, Int.reduceBEq, Int.reduceAdd, Int.reduceSub, Int.reduceGT, Int.reduceGE, Int.reduceBNe] <;> refine callK_of (con_rlevel i) ?_ <;> (cases hL : lev i <;> simp only [go_sem, reduceIte, reduceCtorEq, Nat.reduceAdd, Nat.reduceSub, Nat.reduceMul, Nat.reduceLT, Nat.reduceLeDiff, Nat.reduceEqDiff, Nat.reduceBEq, Nat.reduceGT, Int.reduceEq, Int.reduceNe, Int.reduceLT, Int.reduceLE, Int.reduceToNat, Int.reduceNeg, Int.reduceBEq, Int.reduceAdd, Int.reduceSub, Int.reduceGT, Int.reduceGE, Int.reduceBNe]; refine callK_of (con_rlevel j) ?_; cases hJ : lev j <;> cases hN : (n == 0) <;> simp only [go_sem, reduceIte, reduceCtorEq, Nat.reduceAdd, Nat.reduceSub, Nat.reduceMul, Nat.reduceLT, Nat.reduceLeDiff, Nat.reduceEqDiff, Nat.reduceBEq, Nat.reduceGT, Int.reduceEq, Int.reduceNe, Int.reduceLT, Int.reduceLE, Int.reduceToNat, Int.reduceNeg, Int.reduceBEq, Int.reduceAdd, Int.reduceSub, Int.reduceGT, Int.reduceGE, Int.reduceBNe, hN])

set_option maxRecDepth 10000 in
theorem con_rnums23 (i j n : Int) (rows : List (List SV)) : Con 31 [.agg true [.int .i64 23, .int .i64 i, .int .i64 j, .int .i64 n, .dsl 5 rows]] (.bool (lev i && lev j)) := by
  refine contract_of_vc mixed Tryd.func31 tr31 ?_
  simp only [go_sem, reduceIte, reduceCtorEq, Nat.reduceAdd, Nat.reduceSub, Nat.reduceMul, Nat.reduceLT, Nat.reduceLeDiff, Nat.reduceEqDiff, Nat.reduceBEq, Nat.reduceGT, Int.reduceEq, Int.reduceNe, Int.reduceLT, Int.reduceLE, Int.reduceToNat, Int.reduceNeg, Int.reduceBEq, Int.reduceAdd, Int.reduceSub, Int.reduceGT, Int.reduceGE, Int.reduceBNe]
  refine callK_of (con_rlevel i) ?_
  cases hL : lev i
  · simp only [go_sem, reduceIte, reduceCtorEq, Nat.reduceAdd, Nat.reduceSub, Nat.reduceMul, Nat.reduceLT, Nat.reduceLeDiff, Nat.reduceEqDiff, Nat.reduceBEq, Nat.reduceGT, Int.reduceEq, Int.reduceNe, Int.reduceLT, Int.reduceLE, Int.reduceToNat, Int.reduceNeg, Int.reduceBEq, Int.reduceAdd, Int.reduceSub, Int.reduceGT, Int.reduceGE, Int.reduceBNe]
  · simp only [go_sem, reduceIte, reduceCtorEq, Nat.reduceAdd, Nat.reduceSub, Nat.reduceMul, Nat.reduceLT, Nat.reduceLeDiff, Nat.reduceEqDiff, Nat.reduceBEq, Nat.reduceGT, Int.reduceEq, Int.reduceNe, Int.reduceLT, Int.reduceLE, Int.reduceToNat, Int.reduceNeg, Int.reduceBEq, Int.reduceAdd, Int.reduceSub, Int.reduceGT, Int.reduceGE, Int.reduceBNe]
    refine callK_of (con_rlevel j) ?_
    simp only [go_sem, reduceIte, reduceCtorEq, Nat.reduceAdd, Nat.reduceSub, Nat.reduceMul, Nat.reduceLT, Nat.reduceLeDiff, Nat.reduceEqDiff, Nat.reduceBEq, Nat.reduceGT, Int.reduceEq, Int.reduceNe, Int.reduceLT, Int.reduceLE, Int.reduceToNat, Int.reduceNeg, Int.reduceBEq, Int.reduceAdd, Int.reduceSub, Int.reduceGT, Int.reduceGE, Int.reduceBNe]

set_option maxRecDepth 10000 in
theorem con_rnums0 (k i j n : Int) (rows : List (List SV)) (h : k < 1 ∨ (12 < k ∧ k ≠ 23)) : Con 31 [.agg true [.int .i64 k, .int .i64 i, .int .i64 j, .int .i64 n, .dsl 5 rows]] (.bool ((i == 0) && ((j == 0) && (n == 0)))) := by
  refine contract_of_vc mixed Tryd.func31 tr31 ?_
  simp only [go_sem, reduceIte, reduceCtorEq, Nat.reduceAdd, Nat.reduceSub, Nat.reduceMul, Nat.reduceLT, Nat.reduceLeDiff, Nat.reduceEqDiff, Nat.reduceBEq, Nat.reduceGT, Int.reduceEq, Int.reduceNe, Int.reduceLT, Int.reduceLE, Int.reduceToNat, Int.reduceNeg, Int.reduceBEq, Int.reduceAdd, Int.reduceSub, Int.reduceGT, Int.reduceGE, Int.reduceBNe, beq_no (show k ≠ 1 by omega), beq_no (show k ≠ 2 by omega), beq_no (show k ≠ 3 by omega), beq_no (show k ≠ 4 by omega), beq_no (show k ≠ 5 by omega), beq_no (show k ≠ 6 by omega), beq_no (show k ≠ 7 by omega), beq_no (show k ≠ 8 by omega), beq_no (show k ≠ 9 by omega), beq_no (show k ≠ 10 by omega), beq_no (show k ≠ 11 by omega), beq_no (show k ≠ 12 by omega), beq_no (show k ≠ 23 by omega)]
  cases hI : (i == 0) <;> cases hJ : (j == 0) <;> cases hN : (n == 0) <;> simp only [go_sem, reduceIte, reduceCtorEq, Nat.reduceAdd, Nat.reduceSub, Nat.reduceMul, Nat.reduceLT, Nat.reduceLeDiff, Nat.reduceEqDiff, Nat.reduceBEq, Nat.reduceGT, Int.reduceEq, Int.reduceNe, Int.reduceLT, Int.reduceLE, Int.reduceToNat, Int.reduceNeg, Int.reduceBEq, Int.reduceAdd, Int.reduceSub, Int.reduceGT, Int.reduceGE, Int.reduceBNe, hJ, hN]

theorem con_rnumbers (k i j n : Int) (rows : List (List SV)) : Con 31 [.agg true [.int .i64 k, .int .i64 i, .int .i64 j, .int .i64 n, .dsl 5 rows]] (.bool (numsB k i j n)) := by
  unfold numsB
  by_cases h1 : k = 1 ∨ k = 10 ∨ k = 11 ∨ k = 12
  · rw [if_pos h1]; exact con_rnums1 k i j n rows h1
  · rw [if_neg h1]
    by_cases h2 : k = 2
    · subst h2; rw [if_pos rfl]; exact con_rnums2 i j n rows
    · rw [if_neg h2]
      by_cases h3 : 3 ≤ k ∧ k ≤ 9
      · rw [if_pos h3]; exact con_rnums3 k i j n rows (by omega)
      · rw [if_neg h3]
        by_cases h4 : k = 23
        · subst h4; rw [if_pos rfl]; exact con_rnums23 i j n rows
        · rw [if_neg h4]; exact con_rnums0 k i j n rows (by omega)

def nodeB (k i j n : Int) (len : Nat) : Bool := ((len : Int) == kidsN k n) && numsB k i j n

theorem con_rnode (k i j n : Int) (rows : List (List SV)) : Con 14 [.agg true [.int .i64 k, .int .i64 i, .int .i64 j, .int .i64 n, .dsl 5 rows]] (.bool (nodeB k i j n rows.length)) := by
  refine contract_of_vc mixed Tryd.func14 tr14 ?_
  simp only [go_sem, reduceIte, reduceCtorEq, Nat.reduceAdd, Nat.reduceSub, Nat.reduceMul, Nat.reduceLT, Nat.reduceLeDiff, Nat.reduceEqDiff, Nat.reduceBEq, Nat.reduceGT, Int.reduceEq, Int.reduceNe, Int.reduceLT, Int.reduceLE, Int.reduceToNat, Int.reduceNeg, Int.reduceBEq, Int.reduceAdd, Int.reduceSub, Int.reduceGT, Int.reduceGE, Int.reduceBNe]
  refine callK_of (con_rkids k n) ?_
  unfold nodeB
  cases hK : ((rows.length : Int) == kidsN k n)
  · simp only [go_sem, reduceIte, reduceCtorEq, Nat.reduceAdd, Nat.reduceSub, Nat.reduceMul, Nat.reduceLT, Nat.reduceLeDiff, Nat.reduceEqDiff, Nat.reduceBEq, Nat.reduceGT, Int.reduceEq, Int.reduceNe, Int.reduceLT, Int.reduceLE, Int.reduceToNat, Int.reduceNeg, Int.reduceBEq, Int.reduceAdd, Int.reduceSub, Int.reduceGT, Int.reduceGE, Int.reduceBNe, hK]
  · simp only [go_sem, reduceIte, reduceCtorEq, Nat.reduceAdd, Nat.reduceSub, Nat.reduceMul, Nat.reduceLT, Nat.reduceLeDiff, Nat.reduceEqDiff, Nat.reduceBEq, Nat.reduceGT, Int.reduceEq, Int.reduceNe, Int.reduceLT, Int.reduceLE, Int.reduceToNat, Int.reduceNeg, Int.reduceBEq, Int.reduceAdd, Int.reduceSub, Int.reduceGT, Int.reduceGE, Int.reduceBNe, hK]
    refine callK_of (con_rnumbers k i j n rows) ?_
    simp only [go_sem, reduceIte, reduceCtorEq, Nat.reduceAdd, Nat.reduceSub, Nat.reduceMul, Nat.reduceLT, Nat.reduceLeDiff, Nat.reduceEqDiff, Nat.reduceBEq, Nat.reduceGT, Int.reduceEq, Int.reduceNe, Int.reduceLT, Int.reduceLE, Int.reduceToNat, Int.reduceNeg, Int.reduceBEq, Int.reduceAdd, Int.reduceSub, Int.reduceGT, Int.reduceGE, Int.reduceBNe]
end Go.Proofs.YtdpigpopcbjkmaaDoor.Abs
