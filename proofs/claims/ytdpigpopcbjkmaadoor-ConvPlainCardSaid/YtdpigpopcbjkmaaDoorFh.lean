/- Right terms, by the program: term.right. -/
import Derived.Test.YtdpigpopcbjkmaaDoorFg
import Derived.Test.YtdpigpopcbjkmaaDoorLp
set_option linter.unusedSimpArgs false
set_option linter.unusedVariables false
namespace Go.Proofs.YtdpigpopcbjkmaaDoor.Abs
open Go Go.RowKit Go.Proofs.YtdpigpopcbjkmaaDoor

/-- What term.right asks of a node, and of which sort it asks a kid to be. -/
def rightN (k i j n want : Int) (len : Nat) : Bool := (!(want != 0) || (!(sortN k != 0) || !(sortN k != want))) && (!((len : Int) != kidsN k n) && numsB k i j n)
def ofN (k : Int) (i : Nat) : Int := if k = 12 ∧ i = 2 then 2 else sortN k

set_option maxRecDepth 10000 in
set_option maxHeartbeats 2000000 in
theorem con_right_rows (k i j n want : Int) (rows : List (List SV)) (W : Nat → List SV → Bool) (h2 : rows.length * 56 ≤ 140737488355328) (h5 : ∀ r ∈ rows, r.length = 5)
    (H : ∀ p, ∀ r ∈ rows, Con 32 [.agg true r, .int .i64 (ofN k p)] (.bool (W p r))) :
    Con 32 [.agg true [.int .i64 k, .int .i64 i, .int .i64 j, .int .i64 n, .dsl 5 rows], .int .i64 want] (.bool (rightN k i j n want rows.length && allI W 0 rows)) := by
  refine contract_of_vc mixed Tryd.func32 tr32 ?_
  simp only [go_sem, reduceIte, reduceCtorEq, Nat.reduceAdd, Nat.reduceSub, Nat.reduceMul, Nat.reduceLT, Nat.reduceLeDiff, Nat.reduceEqDiff, Nat.reduceBEq, Nat.reduceGT, Int.reduceEq, Int.reduceNe, Int.reduceLT, Int.reduceLE, Int.reduceToNat, Int.reduceNeg, Int.reduceBEq, Int.reduceAdd, Int.reduceSub, Int.reduceGT, Int.reduceGE, Int.reduceBNe]
  refine callK_of (con_tsort k) ?_
  simp only [go_sem, reduceIte, reduceCtorEq, Nat.reduceAdd, Nat.reduceSub, Nat.reduceMul, Nat.reduceLT, Nat.reduceLeDiff, Nat.reduceEqDiff, Nat.reduceBEq, Nat.reduceGT, Int.reduceEq, Int.reduceNe, Int.reduceLT, Int.reduceLE, Int.reduceToNat, Int.reduceNeg, Int.reduceBEq, Int.reduceAdd, Int.reduceSub, Int.reduceGT, Int.reduceGE, Int.reduceBNe]
  unfold rightN
  cases hw : (want != 0) <;> cases hs : (sortN k != 0) <;> cases hd : (sortN k != want) <;> simp only [go_sem, reduceIte, reduceCtorEq, Nat.reduceAdd, Nat.reduceSub, Nat.reduceMul, Nat.reduceLT, Nat.reduceLeDiff, Nat.reduceEqDiff, Nat.reduceBEq, Nat.reduceGT, Int.reduceEq, Int.reduceNe, Int.reduceLT, Int.reduceLE, Int.reduceToNat, Int.reduceNeg, Int.reduceBEq, Int.reduceAdd, Int.reduceSub, Int.reduceGT, Int.reduceGE, Int.reduceBNe, hs, hd]
  all_goals
    refine callK_of (con_kids k n) ?_
    cases hK : ((rows.length : Int) != kidsN k n) <;> simp only [go_sem, reduceIte, reduceCtorEq, Nat.reduceAdd, Nat.reduceSub, Nat.reduceMul, Nat.reduceLT, Nat.reduceLeDiff, Nat.reduceEqDiff, Nat.reduceBEq, Nat.reduceGT, Int.reduceEq, Int.reduceNe, Int.reduceLT, Int.reduceLE, Int.reduceToNat, Int.reduceNeg, Int.reduceBEq, Int.reduceAdd, Int.reduceSub, Int.reduceGT, Int.reduceGE, Int.reduceBNe, hK]
    refine callK_of (con_numbers k i j n rows) ?_
    cases hN : numsB k i j n <;> simp only [go_sem, reduceIte, reduceCtorEq, Nat.reduceAdd, Nat.reduceSub, Nat.reduceMul, Nat.reduceLT, Nat.reduceLeDiff, Nat.reduceEqDiff, Nat.reduceBEq, Nat.reduceGT, Int.reduceEq, Int.reduceNe, Int.reduceLT, Int.reduceLE, Int.reduceToNat, Int.reduceNeg, Int.reduceBEq, Int.reduceAdd, Int.reduceSub, Int.reduceGT, Int.reduceGE, Int.reduceBNe, hN]
    intros
    refine vc_forp (fun x => ⟨(.junk :: .junk :: .ref 0 0 0 0 :: .junk :: .junk :: .int .i64 (sortN k) :: .junk :: .junk :: .junk :: .junk :: .junk :: .junk :: .junk :: .junk :: .junk :: .junk :: .junk :: .junk :: .junk :: .junk :: .junk :: .junk :: .junk :: .junk :: .junk :: .junk :: .junk :: .junk :: .junk :: .junk :: .junk :: .junk :: .junk :: .junk :: .junk :: .junk :: .junk :: .junk :: .dsl 5 rows :: .int .i64 rows.length :: .int .i64 x :: .junk :: .junk :: .junk :: .junk :: .junk :: .junk :: .junk :: .junk :: .junk :: .junk :: .junk :: .junk :: .junk :: .junk :: .junk :: .junk :: .junk :: []),
        [⟨true, 5, [[.int .i64 k, .int .i64 i, .int .i64 j, .int .i64 n, .dsl 5 rows]], 0, 0, true⟩]⟩) rows.length (fun x => W x (rows[x]?.getD []) = true) (fun x hx hp => ?_) ?_
    · simp only [go_sem, reduceIte, reduceCtorEq, Nat.reduceAdd, Nat.reduceSub, Nat.reduceMul, Nat.reduceLT, Nat.reduceLeDiff, Nat.reduceEqDiff, Nat.reduceBEq, Nat.reduceGT, Int.reduceEq, Int.reduceNe, Int.reduceLT, Int.reduceLE, Int.reduceToNat, Int.reduceNeg, Int.reduceBEq, Int.reduceAdd, Int.reduceSub, Int.reduceGT, Int.reduceGE, Int.reduceBNe, lqp_n, lqp_e, lqp_r]
      refine ⟨fun h => ?_, fun h => ?_⟩
      · have hlt := of_decide_eq_true h
        have hlt' : x < rows.length := by omega
        have e0 : (0 : Int) ≤ (x : Int) := by omega
        have hm := get_lt (d := []) hlt'
        have h5' := h5 _ hm
        have ho := H x _ hm
        have eo : ofN k x = bif (k == 12) && ((x : Int) == 2) then 2 else sortN k := by
          unfold ofN
          by_cases a : k = 12
          · by_cases b : x = 2
            · subst b; rw [if_pos ⟨a, rfl⟩, a]; rfl
            · rw [if_neg (fun h => b h.2), beq_no (show (x : Int) ≠ 2 by omega), Bool.and_false]; rfl
          · rw [if_neg (fun h => a h.1), beq_no a, Bool.false_and]; rfl
        simp only [go_sem, reduceIte, reduceCtorEq, Nat.reduceAdd, Nat.reduceSub, Nat.reduceMul, Nat.reduceLT, Nat.reduceLeDiff, Nat.reduceEqDiff, Nat.reduceBEq, Nat.reduceGT, Int.reduceEq, Int.reduceNe, Int.reduceLT, Int.reduceLE, Int.reduceToNat, Int.reduceNeg, Int.reduceBEq, Int.reduceAdd, Int.reduceSub, Int.reduceGT, Int.reduceGE, Int.reduceBNe, hlt, e0, h5']
        cases h12 : (k == 12) <;> cases hx2 : ((x : Int) == 2) <;> simp only [go_sem, reduceIte, reduceCtorEq, Nat.reduceAdd, Nat.reduceSub, Nat.reduceMul, Nat.reduceLT, Nat.reduceLeDiff, Nat.reduceEqDiff, Nat.reduceBEq, Nat.reduceGT, Int.reduceEq, Int.reduceNe, Int.reduceLT, Int.reduceLE, Int.reduceToNat, Int.reduceNeg, Int.reduceBEq, Int.reduceAdd, Int.reduceSub, Int.reduceGT, Int.reduceGE, Int.reduceBNe, hx2]
        all_goals
          simp only [h12, hx2, Bool.and_true, Bool.and_false, Bool.true_and, Bool.false_and, cond_true, cond_false] at eo
          rw [eo] at ho
          refine callK_of ho ?_
          cases hW : W x (rows[x]?.getD []) <;> simp only [go_sem, reduceIte, reduceCtorEq, Nat.reduceAdd, Nat.reduceSub, Nat.reduceMul, Nat.reduceLT, Nat.reduceLeDiff, Nat.reduceEqDiff, Nat.reduceBEq, Nat.reduceGT, Int.reduceEq, Int.reduceNe, Int.reduceLT, Int.reduceLE, Int.reduceToNat, Int.reduceNeg, Int.reduceBEq, Int.reduceAdd, Int.reduceSub, Int.reduceGT, Int.reduceGE, Int.reduceBNe]
          · rw [allI_no (d := []) (i := x) hlt' (by rw [Nat.zero_add]; exact hW)]
          · refine ⟨hlt', ?_⟩
            rw [w64 (n := (x : Int) + 1) (by unfold fit; omega)]
            exact wk_trunc 1 (by simp [slotsLe]) (by simp only [List.take_succ_cons, List.take_zero]) (by simp [below]) (by simp)
      · have hge := of_decide_eq_false h
        have hxe : x = rows.length := by omega
        simp only [go_sem, reduceIte, reduceCtorEq, Nat.reduceAdd, Nat.reduceSub, Nat.reduceMul, Nat.reduceLT, Nat.reduceLeDiff, Nat.reduceEqDiff, Nat.reduceBEq, Nat.reduceGT, Int.reduceEq, Int.reduceNe, Int.reduceLT, Int.reduceLE, Int.reduceToNat, Int.reduceNeg, Int.reduceBEq, Int.reduceAdd, Int.reduceSub, Int.reduceGT, Int.reduceGE, Int.reduceBNe, h]
        rw [allI_of (d := []) (f := W) (fun j hj => by rw [Nat.zero_add]; exact hp j (by omega))]
    · exact wk_slots (by simp [slotsLe])
end Go.Proofs.YtdpigpopcbjkmaaDoor.Abs
