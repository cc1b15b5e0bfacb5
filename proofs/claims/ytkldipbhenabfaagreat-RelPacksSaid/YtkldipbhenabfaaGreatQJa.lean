/- Marked and right terms, by the program and by the page. -/
import Derived.Test.YtkldipbhenabfaaGreatQHe
import Derived.Test.YtkldipbhenabfaaGreatQAfP
import Derived.Test.YtkldipbhenabfaaGreatQAfQ
set_option linter.unusedSimpArgs false
set_option linter.unusedVariables false
namespace Go.Proofs.YtkldipbhenabfaaGreat.Abs
open Go Go.RowKit Go.Proofs.YtkldipbhenabfaaGreat

abbrev markT (t : Tm) : Bool := rightT t 1
theorem con_marked (t : Tm) (ht : TOk t) : Con 54 [.agg true (tv t)] (.bool (markT t)) := by
  refine contract_of_vc mixed Tryz.func54 tr54 ?_
  have hc := con_right t ht 1
  cases t with
  | mk k i j n l =>
  rw [tv_mk] at hc ⊢
  simp only [go_sem, reduceIte, reduceCtorEq, Nat.reduceAdd, Nat.reduceSub, Nat.reduceMul, Nat.reduceLT, Nat.reduceLeDiff, Nat.reduceEqDiff, Nat.reduceBEq, Nat.reduceGT, Int.reduceEq, Int.reduceNe, Int.reduceLT, Int.reduceLE, Int.reduceToNat, Int.reduceNeg, Int.reduceBEq, Int.reduceAdd, Int.reduceSub, Int.reduceGT, Int.reduceGE, Int.reduceBNe]
  refine callK_of hc ?_
  simp only [go_sem, reduceIte, reduceCtorEq, Nat.reduceAdd, Nat.reduceSub, Nat.reduceMul, Nat.reduceLT, Nat.reduceLeDiff, Nat.reduceEqDiff, Nat.reduceBEq, Nat.reduceGT, Int.reduceEq, Int.reduceNe, Int.reduceLT, Int.reduceLE, Int.reduceToNat, Int.reduceNeg, Int.reduceBEq, Int.reduceAdd, Int.reduceSub, Int.reduceGT, Int.reduceGE, Int.reduceBNe]

theorem rmarkedN_eq (k i j n : Int) (len : Nat) : rmarkedN k i j n len = rightN k i j n 1 len := by
  unfold rmarkedN rightN nodeB
  rw [show (!((len : Int) != kidsN k n)) = ((len : Int) == kidsN k n) by simp [bne]]
  by_cases h : k ≤ 0 ∨ 23 < k
  · rw [len_none k n len h]; simp
  · congr 1
    have hs : sortN k = if k = 1 ∨ k = 2 then 0 else if k ≤ 12 then 1 else 2 := rfl
    have e1 : decide (k < 1) = false := by simp; omega
    rw [e1, hs]
    by_cases h1 : k = 1 ∨ k = 2
    · rw [if_pos h1]
      have e4 : decide (k > 12) = false := by simp; omega
      rw [e4]; rfl
    · rw [if_neg h1]
      by_cases h3 : k ≤ 12
      · rw [if_pos h3]
        have e4 : decide (k > 12) = false := by simp; omega
        rw [e4]; rfl
      · rw [if_neg h3]
        have e4 : decide (k > 12) = true := by simp; omega
        rw [e4]; rfl
/-- Of a marked node the kids are asked to be marked, or, at one place, plain. -/
theorem mark_kids (k i j n : Int) (l : List Tm) : markT (.mk k i j n l) = (rightN k i j n 1 l.length && allI (fun p t => if ((k == 12) && ((p : Int) == 2)) = true then plainT t else markT t) 0 l) := by
  show rightT _ 1 = _
  rw [rightT_mk]
  cases h : rightN k i j n 1 l.length
  · rfl
  · rw [Bool.true_and, Bool.true_and]
    unfold rightN at h
    simp only [Bool.and_eq_true, Bool.or_eq_true, Bool.not_eq_true', bne_eq_false_iff_eq] at h
    obtain ⟨h1, h2, _⟩ := h
    have hs : sortN k = if k = 1 ∨ k = 2 then 0 else if k ≤ 12 then 1 else 2 := rfl
    by_cases h12 : k = 1 ∨ k = 2
    · have : l = [] := by
        rcases h12 with rfl | rfl
        · exact List.length_eq_zero_iff.1 (by simpa [kidsN, tab] using h2)
        · exact List.length_eq_zero_iff.1 (by simpa [kidsN, tab] using h2)
      subst this; rfl
    · rw [if_neg h12] at hs
      have hk : sortN k = 1 := by
        rcases h1 with h1 | h1 | h1
        · omega
        · rw [hs] at h1; split at h1 <;> omega
        · exact h1
      refine allI_congr (fun p t _ => ?_)
      unfold ofN
      rw [hk]
      by_cases a : k = 12
      · by_cases b : p = 2
        · subst b; subst a; rfl
        · rw [if_neg (fun h => b h.2), beq_no (show (p : Int) ≠ 2 by omega), Bool.and_false]; rfl
      · rw [if_neg (fun h => a h.1), beq_no a, Bool.false_and]; rfl

theorem con_rmarked (t : Tm) : TOk t → Con 21 [.agg true (tv t)] (.bool (markT t)) := by
  induction t using Tm.ind with
  | h k i j n l ih =>
    intro hok
    cases hok with
    | mk _ _ _ _ _ f1 f2 f3 f4 hb hl =>
    have h := con_rmarked_rows k i j n (l.map tv) (fun p r => onT (fun t => if ((k == 12) && ((p : Int) == 2)) = true then plainT t else markT t) false r) (by simpa using hb) (rows5 l)
      (fun p r hr hc => by
        obtain ⟨t, ht, rfl⟩ := List.mem_map.1 hr
        simp only [onT_tv]
        rw [if_pos hc]
        exact con_rplain t (hl t ht))
      (fun p r hr hc => by
        obtain ⟨t, ht, rfl⟩ := List.mem_map.1 hr
        simp only [onT_tv]
        rw [if_neg (by rw [hc]; exact Bool.false_ne_true)]
        exact ih t ht (hl t ht))
    rw [List.length_map, rmarkedN_eq, allI_map, allI_congr (g := fun p t => if ((k == 12) && ((p : Int) == 2)) = true then plainT t else markT t) (fun p t _ => by rw [onT_tv]), ← mark_kids, ← tv_mk] at h
    exact h
/-- Right: marked or plain. -/
theorem right_or (t : Tm) : rightT t 0 = (markT t || plainT t) := by
  cases t with
  | mk k i j n l =>
  show rightT _ 0 = (rightT _ 1 || rightT _ 2)
  rw [rightT_mk, rightT_mk, rightT_mk]
  unfold rightN sortN
  by_cases h1 : k = 1 ∨ k = 2
  · rw [if_pos h1]; simp
  · rw [if_neg h1]
    by_cases h2 : k ≤ 12
    · rw [if_pos h2]; simp
    · rw [if_neg h2]; simp
theorem con_rright (t : Tm) (ht : TOk t) : Con 105 [.agg true (tv t)] (.bool (rightT t 0)) := by
  rw [right_or]
  have h1 := con_rmarked t ht
  have h2 := con_rplain t ht
  have hz := tv_len t
  refine contract_of_vc mixed Tryz.func105 tr105 ?_
  cases hm : markT t
  · rw [hm] at h1
    simp only [go_sem, reduceIte, reduceCtorEq, Nat.reduceAdd, Nat.reduceSub, Nat.reduceMul, Nat.reduceLT, Nat.reduceLeDiff, Nat.reduceEqDiff, Nat.reduceBEq, Nat.reduceGT, Int.reduceEq, Int.reduceNe, Int.reduceLT, Int.reduceLE, Int.reduceToNat, Int.reduceNeg, Int.reduceBEq, Int.reduceAdd, Int.reduceSub, Int.reduceGT, Int.reduceGE, Int.reduceBNe, hz]
    refine callK_of h1 ?_
    simp only [go_sem, reduceIte, reduceCtorEq, Nat.reduceAdd, Nat.reduceSub, Nat.reduceMul, Nat.reduceLT, Nat.reduceLeDiff, Nat.reduceEqDiff, Nat.reduceBEq, Nat.reduceGT, Int.reduceEq, Int.reduceNe, Int.reduceLT, Int.reduceLE, Int.reduceToNat, Int.reduceNeg, Int.reduceBEq, Int.reduceAdd, Int.reduceSub, Int.reduceGT, Int.reduceGE, Int.reduceBNe, hz]
    refine callK_of h2 ?_
    simp only [go_sem, reduceIte, reduceCtorEq, Nat.reduceAdd, Nat.reduceSub, Nat.reduceMul, Nat.reduceLT, Nat.reduceLeDiff, Nat.reduceEqDiff, Nat.reduceBEq, Nat.reduceGT, Int.reduceEq, Int.reduceNe, Int.reduceLT, Int.reduceLE, Int.reduceToNat, Int.reduceNeg, Int.reduceBEq, Int.reduceAdd, Int.reduceSub, Int.reduceGT, Int.reduceGE, Int.reduceBNe]
  · rw [hm] at h1
    simp only [go_sem, reduceIte, reduceCtorEq, Nat.reduceAdd, Nat.reduceSub, Nat.reduceMul, Nat.reduceLT, Nat.reduceLeDiff, Nat.reduceEqDiff, Nat.reduceBEq, Nat.reduceGT, Int.reduceEq, Int.reduceNe, Int.reduceLT, Int.reduceLE, Int.reduceToNat, Int.reduceNeg, Int.reduceBEq, Int.reduceAdd, Int.reduceSub, Int.reduceGT, Int.reduceGE, Int.reduceBNe, hz]
    refine callK_of h1 ?_
    simp only [go_sem, reduceIte, reduceCtorEq, Nat.reduceAdd, Nat.reduceSub, Nat.reduceMul, Nat.reduceLT, Nat.reduceLeDiff, Nat.reduceEqDiff, Nat.reduceBEq, Nat.reduceGT, Int.reduceEq, Int.reduceNe, Int.reduceLT, Int.reduceLE, Int.reduceToNat, Int.reduceNeg, Int.reduceBEq, Int.reduceAdd, Int.reduceSub, Int.reduceGT, Int.reduceGE, Int.reduceBNe, hz]
theorem mark_right {t : Tm} (h : markT t = true) : rightT t 0 = true := by rw [right_or, h, Bool.true_or]
theorem plain_right {t : Tm} (h : plainT t = true) : rightT t 0 = true := by rw [right_or, h, Bool.or_true]
end Go.Proofs.YtkldipbhenabfaaGreat.Abs

