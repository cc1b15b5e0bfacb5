/- Plain, marked and right terms, by the page. -/
import Derived.Test.YtdpigpopcbjkmaaDoorFi

set_option linter.unusedSimpArgs false
set_option linter.unusedVariables false
namespace Go.Proofs.YtdpigpopcbjkmaaDoor.Abs
open Go Go.RowKit Go.Proofs.YtdpigpopcbjkmaaDoor

def rplainN (k i j n : Int) (len : Nat) : Bool := !((k != 1) && ((k != 2) && (decide (k < 13) || decide (k > 23)))) && nodeB k i j n len
def rmarkedN (k i j n : Int) (len : Nat) : Bool := !(decide (k < 1) || decide (k > 12)) && nodeB k i j n len

set_option maxRecDepth 10000 in
set_option maxHeartbeats 2000000 in
theorem con_rplain_rows (k i j n : Int) (rows : List (List SV)) (W : List SV → Bool) (h2 : rows.length * 56 ≤ 140737488355328) (h5 : ∀ r ∈ rows, r.length = 5)
    (H : ∀ r ∈ rows, Con 6 [.agg true r] (.bool (W r))) :
    Con 6 [.agg true [.int .i64 k, .int .i64 i, .int .i64 j, .int .i64 n, .dsl 5 rows]] (.bool (rplainN k i j n rows.length && rows.all W)) := by
  refine contract_of_vc mixed Tryd.func6 tr6 ?_
  simp only [go_sem, reduceIte, reduceCtorEq, Nat.reduceAdd, Nat.reduceSub, Nat.reduceMul, Nat.reduceLT, Nat.reduceLeDiff, Nat.reduceEqDiff, Nat.reduceBEq, Nat.reduceGT, Int.reduceEq, Int.reduceNe, Int.reduceLT, Int.reduceLE, Int.reduceToNat, Int.reduceNeg, Int.reduceBEq, Int.reduceAdd, Int.reduceSub, Int.reduceGT, Int.reduceGE, Int.reduceBNe]
  unfold rplainN
  have hend : ∀ b : Bool, b = ((k != 1) && ((k != 2) && (decide (k < 13) || decide (k > 23)))) → True := fun _ _ => trivial
  cases h1 : (k != 1) <;> cases h2' : (k != 2) <;> by_cases h3 : k < 13 <;> by_cases h4 : 23 < k <;> simp only [go_sem, reduceIte, reduceCtorEq, Nat.reduceAdd, Nat.reduceSub, Nat.reduceMul, Nat.reduceLT, Nat.reduceLeDiff, Nat.reduceEqDiff, Nat.reduceBEq, Nat.reduceGT, Int.reduceEq, Int.reduceNe, Int.reduceLT, Int.reduceLE, Int.reduceToNat, Int.reduceNeg, Int.reduceBEq, Int.reduceAdd, Int.reduceSub, Int.reduceGT, Int.reduceGE, Int.reduceBNe, h2', h3, h4]
  all_goals
    refine callK_of (con_rnode k i j n rows) ?_
    cases hN : nodeB k i j n rows.length <;> simp only [go_sem, reduceIte, reduceCtorEq, Nat.reduceAdd, Nat.reduceSub, Nat.reduceMul, Nat.reduceLT, Nat.reduceLeDiff, Nat.reduceEqDiff, Nat.reduceBEq, Nat.reduceGT, Int.reduceEq, Int.reduceNe, Int.reduceLT, Int.reduceLE, Int.reduceToNat, Int.reduceNeg, Int.reduceBEq, Int.reduceAdd, Int.reduceSub, Int.reduceGT, Int.reduceGE, Int.reduceBNe]
    refine vc_forp (fun x => ⟨(.junk :: .ref 0 0 0 0 :: .junk :: .int .i64 x :: .junk :: .junk :: .junk :: .junk :: .junk :: .junk :: .junk :: .junk :: .junk :: .junk :: .junk :: .junk :: .junk :: .junk :: .junk :: .junk :: .junk :: .junk :: .junk :: .junk :: .junk :: .junk :: .junk :: .junk :: .junk :: .junk :: .junk :: .junk :: .junk :: .junk :: .junk :: .junk :: .junk :: .junk :: .junk :: .junk :: .junk :: []),
        [⟨true, 5, [[.int .i64 k, .int .i64 i, .int .i64 j, .int .i64 n, .dsl 5 rows]], 0, 0, true⟩]⟩) rows.length (fun x => W (rows[x]?.getD []) = true) (fun x hx hp => ?_) ?_
    · simp only [go_sem, reduceIte, reduceCtorEq, Nat.reduceAdd, Nat.reduceSub, Nat.reduceMul, Nat.reduceLT, Nat.reduceLeDiff, Nat.reduceEqDiff, Nat.reduceBEq, Nat.reduceGT, Int.reduceEq, Int.reduceNe, Int.reduceLT, Int.reduceLE, Int.reduceToNat, Int.reduceNeg, Int.reduceBEq, Int.reduceAdd, Int.reduceSub, Int.reduceGT, Int.reduceGE, Int.reduceBNe]
      intro _
      refine ⟨fun h => ?_, fun h => ?_⟩
      · have hlt := of_decide_eq_true h
        have hlt' : x < rows.length := by omega
        have e0 : (0 : Int) ≤ (x : Int) := by omega
        have hm := get_lt (d := []) hlt'
        have h5' := h5 _ hm
        simp only [go_sem, reduceIte, reduceCtorEq, Nat.reduceAdd, Nat.reduceSub, Nat.reduceMul, Nat.reduceLT, Nat.reduceLeDiff, Nat.reduceEqDiff, Nat.reduceBEq, Nat.reduceGT, Int.reduceEq, Int.reduceNe, Int.reduceLT, Int.reduceLE, Int.reduceToNat, Int.reduceNeg, Int.reduceBEq, Int.reduceAdd, Int.reduceSub, Int.reduceGT, Int.reduceGE, Int.reduceBNe, hlt, e0, h5']
        refine callK_of (H _ hm) ?_
        cases hW : W (rows[x]?.getD []) <;> simp only [go_sem, reduceIte, reduceCtorEq, Nat.reduceAdd, Nat.reduceSub, Nat.reduceMul, Nat.reduceLT, Nat.reduceLeDiff, Nat.reduceEqDiff, Nat.reduceBEq, Nat.reduceGT, Int.reduceEq, Int.reduceNe, Int.reduceLT, Int.reduceLE, Int.reduceToNat, Int.reduceNeg, Int.reduceBEq, Int.reduceAdd, Int.reduceSub, Int.reduceGT, Int.reduceGE, Int.reduceBNe]
        · rw [all_no (d := []) (i := x) hlt' hW]
        · refine ⟨hlt', ?_⟩
          rw [w64 (n := (x : Int) + 1) (by unfold fit; omega)]
          exact wk_slots (by simp [slotsLe])
      · have hge := of_decide_eq_false h
        have hxe : x = rows.length := by omega
        simp only [go_sem, reduceIte, reduceCtorEq, Nat.reduceAdd, Nat.reduceSub, Nat.reduceMul, Nat.reduceLT, Nat.reduceLeDiff, Nat.reduceEqDiff, Nat.reduceBEq, Nat.reduceGT, Int.reduceEq, Int.reduceNe, Int.reduceLT, Int.reduceLE, Int.reduceToNat, Int.reduceNeg, Int.reduceBEq, Int.reduceAdd, Int.reduceSub, Int.reduceGT, Int.reduceGE, Int.reduceBNe, h]
        rw [all_of (d := []) (f := W) (fun j hj => hp j (by omega))]
    · exact wk_slots (by simp [slotsLe])

end Go.Proofs.YtdpigpopcbjkmaaDoor.Abs
