/- Sameness, by the program. -/
import Derived.Test.YtdpigpopcbjkmaaDoorAfP
import Derived.Test.YtdpigpopcbjkmaaDoorUn
import Derived.Test.YtdpigpopcbjkmaaDoorFk
set_option linter.unusedSimpArgs false
set_option linter.unusedVariables false
namespace Go.Proofs.YtdpigpopcbjkmaaDoor.Abs
open Go Go.RowKit Go.Proofs.YtdpigpopcbjkmaaDoor

theorem tok_of {k i j n : Int} {l : List Tm} (h : TOk (.mk k i j n l)) : fit k ∧ fit i ∧ fit j ∧ fit n ∧ l.length * 56 ≤ 140737488355328 ∧ ∀ t ∈ l, TOk t := by
  cases h with
  | mk _ _ _ _ _ f1 f2 f3 f4 hb hl => exact ⟨f1, f2, f3, f4, hb, hl⟩

open Classical in
/-- Are two terms one? -/
noncomputable def eqT (a b : Tm) : Bool := decide (a = b)
theorem eqT_self (a : Tm) : eqT a a = true := by unfold eqT; simp
theorem eqT_ne {a b : Tm} (h : a ≠ b) : eqT a b = false := by unfold eqT; simp [h]
theorem eqT_iff {a b : Tm} : eqT a b = true ↔ a = b := by unfold eqT; simp

set_option maxRecDepth 10000 in
set_option maxHeartbeats 2000000 in
theorem con_bsame_rows (k i j n k' i' j' n' : Int) (rows rows' : List (List SV)) (E : Nat → Bool) (h5 : ∀ r ∈ rows, r.length = 5) (h5' : ∀ r ∈ rows', r.length = 5) (h2 : rows.length * 56 ≤ 140737488355328)
    (H : ∀ x, x < rows.length → x < rows'.length → Con 70 [.agg true (rows[x]?.getD []), .agg true (rows'[x]?.getD [])] (.bool (E x))) (r0 : Bool)
    (hn : ¬ (k = k' ∧ i = i' ∧ j = j' ∧ n = n' ∧ rows.length = rows'.length) → r0 = false)
    (hf : k = k' → i = i' → j = j' → n = n' → rows.length = rows'.length → ∀ x, x < rows.length → E x = false → r0 = false)
    (ht : k = k' → i = i' → j = j' → n = n' → rows.length = rows'.length → (∀ x, x < rows.length → E x = true) → r0 = true) :
    Con 70 [.agg true [.int .i64 k, .int .i64 i, .int .i64 j, .int .i64 n, .dsl 5 rows], .agg true [.int .i64 k', .int .i64 i', .int .i64 j', .int .i64 n', .dsl 5 rows']] (.bool r0) := by
  refine contract_of_vc mixed Tryd.func70 tr70 ?_
  by_cases a1 : k = k'
  rotate_left
  · have q : (k != k') = true := by simp [a1]
    rw [hn (fun h => a1 h.1)]
    simp only [go_sem, reduceIte, reduceCtorEq, Nat.reduceAdd, Nat.reduceSub, Nat.reduceMul, Nat.reduceLT, Nat.reduceLeDiff, Nat.reduceEqDiff, Nat.reduceBEq, Nat.reduceGT, Int.reduceEq, Int.reduceNe, Int.reduceLT, Int.reduceLE, Int.reduceToNat, Int.reduceNeg, Int.reduceBEq, Int.reduceAdd, Int.reduceSub, Int.reduceGT, Int.reduceGE, Int.reduceBNe, q]
  have q1 : (k != k') = false := by simp [a1]
  by_cases a2 : i = i'
  rotate_left
  · have q : (i != i') = true := by simp [a2]
    rw [hn (fun h => a2 h.2.1)]
    simp only [go_sem, reduceIte, reduceCtorEq, Nat.reduceAdd, Nat.reduceSub, Nat.reduceMul, Nat.reduceLT, Nat.reduceLeDiff, Nat.reduceEqDiff, Nat.reduceBEq, Nat.reduceGT, Int.reduceEq, Int.reduceNe, Int.reduceLT, Int.reduceLE, Int.reduceToNat, Int.reduceNeg, Int.reduceBEq, Int.reduceAdd, Int.reduceSub, Int.reduceGT, Int.reduceGE, Int.reduceBNe, q1, q]
  have q2 : (i != i') = false := by simp [a2]
  by_cases a3 : j = j'
  rotate_left
  · have q : (j != j') = true := by simp [a3]
    rw [hn (fun h => a3 h.2.2.1)]
    simp only [go_sem, reduceIte, reduceCtorEq, Nat.reduceAdd, Nat.reduceSub, Nat.reduceMul, Nat.reduceLT, Nat.reduceLeDiff, Nat.reduceEqDiff, Nat.reduceBEq, Nat.reduceGT, Int.reduceEq, Int.reduceNe, Int.reduceLT, Int.reduceLE, Int.reduceToNat, Int.reduceNeg, Int.reduceBEq, Int.reduceAdd, Int.reduceSub, Int.reduceGT, Int.reduceGE, Int.reduceBNe, q1, q2, q]
  have q3 : (j != j') = false := by simp [a3]
  by_cases a4 : n = n'
  rotate_left
  · have q : (n != n') = true := by simp [a4]
    rw [hn (fun h => a4 h.2.2.2.1)]
    simp only [go_sem, reduceIte, reduceCtorEq, Nat.reduceAdd, Nat.reduceSub, Nat.reduceMul, Nat.reduceLT, Nat.reduceLeDiff, Nat.reduceEqDiff, Nat.reduceBEq, Nat.reduceGT, Int.reduceEq, Int.reduceNe, Int.reduceLT, Int.reduceLE, Int.reduceToNat, Int.reduceNeg, Int.reduceBEq, Int.reduceAdd, Int.reduceSub, Int.reduceGT, Int.reduceGE, Int.reduceBNe, q1, q2, q3, q]
  have q4 : (n != n') = false := by simp [a4]
  by_cases a5 : rows.length = rows'.length
  rotate_left
  · have q : ((rows.length : Int) != (rows'.length : Int)) = true := by simp; omega
    rw [hn (fun h => a5 h.2.2.2.2)]
    simp only [go_sem, reduceIte, reduceCtorEq, Nat.reduceAdd, Nat.reduceSub, Nat.reduceMul, Nat.reduceLT, Nat.reduceLeDiff, Nat.reduceEqDiff, Nat.reduceBEq, Nat.reduceGT, Int.reduceEq, Int.reduceNe, Int.reduceLT, Int.reduceLE, Int.reduceToNat, Int.reduceNeg, Int.reduceBEq, Int.reduceAdd, Int.reduceSub, Int.reduceGT, Int.reduceGE, Int.reduceBNe, q1, q2, q3, q4, q]
    try intros
  have q5 : ((rows.length : Int) != (rows'.length : Int)) = false := by simp; omega
  simp only [go_sem, reduceIte, reduceCtorEq, Nat.reduceAdd, Nat.reduceSub, Nat.reduceMul, Nat.reduceLT, Nat.reduceLeDiff, Nat.reduceEqDiff, Nat.reduceBEq, Nat.reduceGT, Int.reduceEq, Int.reduceNe, Int.reduceLT, Int.reduceLE, Int.reduceToNat, Int.reduceNeg, Int.reduceBEq, Int.reduceAdd, Int.reduceSub, Int.reduceGT, Int.reduceGE, Int.reduceBNe, q1, q2, q3, q4, q5]
  intros
  refine vc_forp (fun x => ⟨(.junk :: .junk :: .ref 0 0 0 0 :: .ref 1 0 0 0 :: .bool false :: .junk :: .junk :: .junk :: .junk :: .junk :: .junk :: .junk :: .junk :: .junk :: .junk :: .junk :: .junk :: .junk :: .junk :: .junk :: .junk :: .junk :: .junk :: .junk :: .junk :: .junk :: .junk :: .junk :: .junk :: .junk :: .junk :: .junk :: .junk :: .junk :: .junk :: .junk :: .junk :: .junk :: .junk :: .junk :: .junk :: .junk :: .junk :: .int .i64 rows.length :: .int .i64 x :: .junk :: .junk :: .junk :: .junk :: .junk :: .junk :: .junk :: .junk :: .junk :: .junk :: .junk :: .junk :: .junk :: .junk :: .junk :: []),
    [⟨true, 5, [[.int .i64 k, .int .i64 i, .int .i64 j, .int .i64 n, .dsl 5 rows]], 0, 0, true⟩, ⟨true, 5, [[.int .i64 k', .int .i64 i', .int .i64 j', .int .i64 n', .dsl 5 rows']], 0, 0, true⟩]⟩) rows.length (fun x => E x = true) (fun x hx hp => ?_) ?_
  · simp only [go_sem, reduceIte, reduceCtorEq, Nat.reduceAdd, Nat.reduceSub, Nat.reduceMul, Nat.reduceLT, Nat.reduceLeDiff, Nat.reduceEqDiff, Nat.reduceBEq, Nat.reduceGT, Int.reduceEq, Int.reduceNe, Int.reduceLT, Int.reduceLE, Int.reduceToNat, Int.reduceNeg, Int.reduceBEq, Int.reduceAdd, Int.reduceSub, Int.reduceGT, Int.reduceGE, Int.reduceBNe]
    refine ⟨fun h => ?_, fun h => ?_⟩
    · have hlt := of_decide_eq_true h
      have hlt' : x < rows.length := by omega
      have hlt2 : x < rows'.length := by omega
      have hltz : (x : Int) < (rows'.length : Int) := by omega
      have e0 : (0 : Int) ≤ (x : Int) := by omega
      have g1 := h5 _ (get_lt (d := []) hlt')
      have g2 := h5' _ (get_lt (d := []) hlt2)
      simp only [go_sem, reduceIte, reduceCtorEq, Nat.reduceAdd, Nat.reduceSub, Nat.reduceMul, Nat.reduceLT, Nat.reduceLeDiff, Nat.reduceEqDiff, Nat.reduceBEq, Nat.reduceGT, Int.reduceEq, Int.reduceNe, Int.reduceLT, Int.reduceLE, Int.reduceToNat, Int.reduceNeg, Int.reduceBEq, Int.reduceAdd, Int.reduceSub, Int.reduceGT, Int.reduceGE, Int.reduceBNe, hlt, hltz, e0, g1, g2]
      refine callK_of (H x hlt' hlt2) ?_
      cases hE : E x <;> simp only [go_sem, reduceIte, reduceCtorEq, Nat.reduceAdd, Nat.reduceSub, Nat.reduceMul, Nat.reduceLT, Nat.reduceLeDiff, Nat.reduceEqDiff, Nat.reduceBEq, Nat.reduceGT, Int.reduceEq, Int.reduceNe, Int.reduceLT, Int.reduceLE, Int.reduceToNat, Int.reduceNeg, Int.reduceBEq, Int.reduceAdd, Int.reduceSub, Int.reduceGT, Int.reduceGE, Int.reduceBNe]
      · rw [hf a1 a2 a3 a4 a5 x hlt' hE]
      · refine ⟨hlt', ?_⟩
        rw [w64 (n := (x : Int) + 1) (by unfold fit; omega)]
        exact wk_slots (by simp [slotsLe])
    · have hge := of_decide_eq_false h
      have hxe : x = rows.length := by omega
      simp only [go_sem, reduceIte, reduceCtorEq, Nat.reduceAdd, Nat.reduceSub, Nat.reduceMul, Nat.reduceLT, Nat.reduceLeDiff, Nat.reduceEqDiff, Nat.reduceBEq, Nat.reduceGT, Int.reduceEq, Int.reduceNe, Int.reduceLT, Int.reduceLE, Int.reduceToNat, Int.reduceNeg, Int.reduceBEq, Int.reduceAdd, Int.reduceSub, Int.reduceGT, Int.reduceGE, Int.reduceBNe, h]
      rw [ht a1 a2 a3 a4 a5 (fun y hy => hp y (by omega))]
  · exact wk_slots (by simp [slotsLe])
theorem con_bsame (a : Tm) : TOk a → ∀ b, TOk b → Con 70 [.agg true (tv a), .agg true (tv b)] (.bool (eqT a b)) := by
  induction a using Tm.ind with
  | h k i j n l ih =>
    intro hok b hb
    cases b with
    | mk k' i' j' n' l' =>
    obtain ⟨_, _, _, _, hbl, hl⟩ := tok_of hok
    obtain ⟨_, _, _, _, hbl', hl'⟩ := tok_of hb
    have e1 : (l.map tv).length = l.length := by simp
    have e2 : (l'.map tv).length = l'.length := by simp
    rw [tv_mk, tv_mk]
    refine con_bsame_rows k i j n k' i' j' n' (l.map tv) (l'.map tv) (fun x => eqT (l[x]?.getD default) (l'[x]?.getD default)) (rows5 l) (rows5 l') (by omega) (fun x hx hx' => ?_) _ (fun h => eqT_ne (fun h' => h ?_)) (fun a1 a2 a3 a4 a5 x hx hE => eqT_ne (fun h' => ?_)) (fun a1 a2 a3 a4 a5 hE => ?_)
    · rw [e1] at hx
      rw [e2] at hx'
      rw [List.getElem?_map, List.getElem?_map, List.getElem?_eq_getElem hx, List.getElem?_eq_getElem hx']
      exact ih _ (List.getElem_mem hx) (hl _ (List.getElem_mem hx)) _ (hl' _ (List.getElem_mem hx'))
    · cases h'
      exact ⟨rfl, rfl, rfl, rfl, rfl⟩
    · cases h'
      rw [eqT_self] at hE
      cases hE
    · subst a1 a2 a3 a4
      rw [e1, e2] at a5
      rw [e1] at hE
      have : l = l' := List.ext_getElem a5 (fun x hx hx' => by
        have := eqT_iff.1 (hE x hx)
        rw [List.getElem?_eq_getElem hx, List.getElem?_eq_getElem hx'] at this
        exact this)
      rw [this]
      exact eqT_self _

end Go.Proofs.YtdpigpopcbjkmaaDoor.Abs
