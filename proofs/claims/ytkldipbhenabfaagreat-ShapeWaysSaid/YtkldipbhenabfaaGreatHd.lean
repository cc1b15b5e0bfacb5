/- Lifted terms, by the page. -/
import Derived.Test.YtkldipbhenabfaaGreatHc
set_option linter.unusedSimpArgs false
set_option linter.unusedVariables false
set_option linter.unusedSimpArgs false
set_option linter.unusedVariables false
namespace Go.Proofs.YtkldipbhenabfaaGreat.Abs
open Go Go.RowKit Go.Proofs.YtkldipbhenabfaaGreat

set_option maxRecDepth 20000 in
set_option maxHeartbeats 4000000 in
theorem con_rlift_rows (kk i j n k fr : Int) (rows : List (List SV)) (X : Nat → List SV → Option (List SV)) (h2 : rows.length * 56 ≤ 140737488355328) (h5 : ∀ r ∈ rows, r.length = 5)
    (hi : kk = 2 → 0 ≤ i ∧ i ≤ 2147483647) (hk : 0 ≤ k) (hfr : 0 ≤ fr) (hfr2 : fr ≤ 1000000000000) (hX : ∀ p : Nat, ∀ r ∈ rows, ∀ u, X p r = some u → u.length = 5)
    (H : ∀ p : Nat, ∀ r ∈ rows, Con 109 [.agg true r, .int .i64 k, .int .i64 (fr + bindsN kk p)] (resR (X p r))) :
    Con 109 [.agg true [.int .i64 kk, .int .i64 i, .int .i64 j, .int .i64 n, .dsl 5 rows], .int .i64 k, .int .i64 fr] (resR (liftN kk i j n k fr (allS X 0 rows))) := by
  unfold liftN
  have main : ∀ i', liftI kk i k fr = some i' → Con 109 [.agg true [.int .i64 kk, .int .i64 i, .int .i64 j, .int .i64 n, .dsl 5 rows], .int .i64 k, .int .i64 fr] (resR ((allS X 0 rows).map fun rs => [.int .i64 kk, .int .i64 i', .int .i64 j, .int .i64 n, .dsl 5 rs])) := by
    intro i' hI
    unfold liftI at hI
    have hys : ((List.range rows.length).map fun p => (X p (rows[p]?.getD [])).getD []).length = rows.length := by simp
    have hyx : ∀ x, x < rows.length → ((List.range rows.length).map fun p => (X p (rows[p]?.getD [])).getD [])[x]?.getD [] = (X x (rows[x]?.getD [])).getD [] := fun x hx => by
      rw [List.getElem?_map, List.getElem?_range hx]; rfl
    have hend : (∀ x, x < rows.length → X x (rows[x]?.getD []) ≠ none) → allS X 0 rows = some ((List.range rows.length).map fun p => (X p (rows[p]?.getD [])).getD []) := fun h => by
      rw [allS_some (d := []) (e := []) (fun x hx => by rw [Nat.zero_add]; exact h x hx)]
      simp only [Nat.zero_add]
    generalize ((List.range rows.length).map fun p => (X p (rows[p]?.getD [])).getD []) = ys at *
    have hcase : (kk = 2 ∧ fr ≤ i ∧ IntKind.i64.wrap (2147483647 - i) = 2147483647 - i ∧ ¬ 2147483647 - i < k ∧ IntKind.i64.wrap (i + k) = i' ∧ (kk == 2) = true) ∨ (i' = i ∧ (kk == 2) = false) ∨ (i' = i ∧ (kk == 2) = true ∧ ¬ fr ≤ i) := by
      by_cases h1 : kk = 2
      · by_cases h2 : fr ≤ i
        · rw [if_pos ⟨h1, h2⟩] at hI
          obtain ⟨g1, g2⟩ := hi h1
          split at hI
          · cases hI
          · rename_i hlt
            cases hI
            exact .inl ⟨h1, h2, w64 (by unfold fit; omega), hlt, w64 (by unfold fit; omega), by simp [h1]⟩
        · rw [if_neg (fun h => h2 h.2)] at hI
          cases hI
          exact .inr (.inr ⟨rfl, by simp [h1], h2⟩)
      · rw [if_neg (fun h => h1 h.1)] at hI
        cases hI
        exact .inr (.inl ⟨rfl, by simp [h1]⟩)
    have core : ∀ r0, (allS X 0 rows = none → r0 = .tup [.agg true [.int .i64 0, .int .i64 0, .int .i64 0, .int .i64 0, .nils], .bool false]) →
        (∀ us, allS X 0 rows = some us → r0 = .tup [.agg true [.int .i64 kk, .int .i64 i', .int .i64 j, .int .i64 n, .dsl 5 us], .bool true]) →
        Con 109 [.agg true [.int .i64 kk, .int .i64 i, .int .i64 j, .int .i64 n, .dsl 5 rows], .int .i64 k, .int .i64 fr] r0 := by
        intro r0 hn hs
        refine contract_of_vc mixed Tryz.func109 tr109 ?_
        rcases hcase with ⟨_, q1, q2, q3, q4, q5⟩ | ⟨rfl, q1⟩ | ⟨rfl, q1, q2⟩
        · simp only [go_sem, reduceIte, reduceCtorEq, Nat.reduceAdd, Nat.reduceSub, Nat.reduceMul, Nat.reduceLT, Nat.reduceLeDiff, Nat.reduceEqDiff, Nat.reduceBEq, Nat.reduceGT, Int.reduceEq, Int.reduceNe, Int.reduceLT, Int.reduceLE, Int.reduceToNat, Int.reduceNeg, Int.reduceBEq, Int.reduceAdd, Int.reduceSub, Int.reduceGT, Int.reduceGE, Int.reduceBNe, q1, q2, q3, q4, q5, Int.le_refl]
          clear q1 q2 q3 q4 q5
          intros
          refine vc_forp (fun x => ⟨(.junk :: .int .i64 k :: .int .i64 fr :: .ref 0 0 0 0 :: .junk :: .junk :: .ref 1 0 0 0 :: .junk :: .ref 2 0 0 0 :: .osl 3 x 0 x :: .int .i64 x :: .junk :: .junk :: .junk :: .junk :: .junk :: .junk :: .junk :: .junk :: .junk :: .junk :: .junk :: .junk :: .junk :: .junk :: .junk :: .junk :: .junk :: .junk :: .junk :: .junk :: .junk :: .junk :: .junk :: .junk :: .junk :: .junk :: .junk :: .junk :: .junk :: .junk :: .junk :: .junk :: .junk :: .junk :: .junk :: .junk :: .junk :: .junk :: .junk :: .junk :: .junk :: .junk :: .junk :: .junk :: .junk :: .junk :: .junk :: .junk :: .junk :: .junk :: .junk :: .junk :: .junk :: .junk :: .junk :: .junk :: .junk :: .junk :: .junk :: .junk :: .junk :: .junk :: .junk :: .junk :: .junk :: .junk :: .junk :: .junk :: []),
            [⟨true, 5, [[.int .i64 kk, .int .i64 i, .int .i64 j, .int .i64 n, .dsl 5 rows]], 0, 0, true⟩, ⟨true, 5, [[.int .i64 0, .int .i64 0, .int .i64 0, .int .i64 0, .nils]], 0, 0, true⟩,
             ⟨true, 5, [[.int .i64 kk, .int .i64 i', .int .i64 j, .int .i64 n, .nils]], 0, 0, true⟩, ⟨false, 5, ys.take x, x - 1, x, true⟩]⟩) rows.length (fun x => X x (rows[x]?.getD []) ≠ none) (fun x hx hp => ?_) ?_
          · simp only [go_sem, reduceIte, reduceCtorEq, Nat.reduceAdd, Nat.reduceSub, Nat.reduceMul, Nat.reduceLT, Nat.reduceLeDiff, Nat.reduceEqDiff, Nat.reduceBEq, Nat.reduceGT, Int.reduceEq, Int.reduceNe, Int.reduceLT, Int.reduceLE, Int.reduceToNat, Int.reduceNeg, Int.reduceBEq, Int.reduceAdd, Int.reduceSub, Int.reduceGT, Int.reduceGE, Int.reduceBNe]
            intros
            refine ⟨fun h => ?_, fun h => ?_⟩
            · have hlt := of_decide_eq_true h
              have hlt' : x < rows.length := by omega
              have e0 : (0 : Int) ≤ (x : Int) := by omega
              have hm := get_lt (d := []) hlt'
              have h5' := h5 _ hm
              have hb := binds_le kk x
              have ew : IntKind.i64.wrap (fr + bindsN kk x) = fr + bindsN kk x := w64 (by unfold fit; omega)
              have hc := H x _ hm
              have hno : ¬ 4611686018427387904 < fr := by omega
              have e1 : (ys.take x).length = x := by simp; omega
              have e2 : (x + 1) * 56 ≤ 140737488355328 := by omega
              have e3 : x + 1 ≤ 140737488355328 := by omega
              simp only [go_sem, reduceIte, reduceCtorEq, Nat.reduceAdd, Nat.reduceSub, Nat.reduceMul, Nat.reduceLT, Nat.reduceLeDiff, Nat.reduceEqDiff, Nat.reduceBEq, Nat.reduceGT, Int.reduceEq, Int.reduceNe, Int.reduceLT, Int.reduceLE, Int.reduceToNat, Int.reduceNeg, Int.reduceBEq, Int.reduceAdd, Int.reduceSub, Int.reduceGT, Int.reduceGE, Int.reduceBNe, hlt, e0, h5']
              refine callK_of (con_rbinds kk x) ?_
              simp only [go_sem, reduceIte, reduceCtorEq, Nat.reduceAdd, Nat.reduceSub, Nat.reduceMul, Nat.reduceLT, Nat.reduceLeDiff, Nat.reduceEqDiff, Nat.reduceBEq, Nat.reduceGT, Int.reduceEq, Int.reduceNe, Int.reduceLT, Int.reduceLE, Int.reduceToNat, Int.reduceNeg, Int.reduceBEq, Int.reduceAdd, Int.reduceSub, Int.reduceGT, Int.reduceGE, Int.reduceBNe, hno, hlt, e0, h5', ew]
              refine callK_of hc ?_
              cases hX1 : X x (rows[x]?.getD []) with
              | none =>
                have hz1 := tv_len zT
                simp only [go_sem, reduceIte, reduceCtorEq, Nat.reduceAdd, Nat.reduceSub, Nat.reduceMul, Nat.reduceLT, Nat.reduceLeDiff, Nat.reduceEqDiff, Nat.reduceBEq, Nat.reduceGT, Int.reduceEq, Int.reduceNe, Int.reduceLT, Int.reduceLE, Int.reduceToNat, Int.reduceNeg, Int.reduceBEq, Int.reduceAdd, Int.reduceSub, Int.reduceGT, Int.reduceGE, Int.reduceBNe, resR, hz1]
                exact hn (allS_none (d := []) (i := x) hlt' (by rw [Nat.zero_add]; exact hX1))
              | some u =>
                have hu := hX x _ hm u hX1
                have hy := hyx x hlt'
                rw [hX1, Option.getD_some] at hy
                have tn := take_next (l := ys) (d := []) (i := x) (by omega)
                rw [hy] at tn
                simp only [go_sem, reduceIte, reduceCtorEq, Nat.reduceAdd, Nat.reduceSub, Nat.reduceMul, Nat.reduceLT, Nat.reduceLeDiff, Nat.reduceEqDiff, Nat.reduceBEq, Nat.reduceGT, Int.reduceEq, Int.reduceNe, Int.reduceLT, Int.reduceLE, Int.reduceToNat, Int.reduceNeg, Int.reduceBEq, Int.reduceAdd, Int.reduceSub, Int.reduceGT, Int.reduceGE, Int.reduceBNe, resR, hu, hlt', e1, e2, e3, tn]
                rw [w64 (n := (x : Int) + 1) (by unfold fit; omega)]
                exact wk_trunc 4 (by simp [slotsLe]) (by simp) (by simp [below]) (by simp)
            · have hge := of_decide_eq_false h
              have hxe : x = rows.length := by omega
              have he := hend (fun y hy => hp y (by omega))
              subst hxe
              have ht : ys.take rows.length = ys := by rw [← hys, List.take_length]
              simp only [go_sem, reduceIte, reduceCtorEq, Nat.reduceAdd, Nat.reduceSub, Nat.reduceMul, Nat.reduceLT, Nat.reduceLeDiff, Nat.reduceEqDiff, Nat.reduceBEq, Nat.reduceGT, Int.reduceEq, Int.reduceNe, Int.reduceLT, Int.reduceLE, Int.reduceToNat, Int.reduceNeg, Int.reduceBEq, Int.reduceAdd, Int.reduceSub, Int.reduceGT, Int.reduceGE, Int.reduceBNe, h, hys, ht]
              exact hs _ he
          · exact .trans (.ghost _ 9 5 rfl) (wk_slots (by simp [slotsLe]))
        · simp only [go_sem, reduceIte, reduceCtorEq, Nat.reduceAdd, Nat.reduceSub, Nat.reduceMul, Nat.reduceLT, Nat.reduceLeDiff, Nat.reduceEqDiff, Nat.reduceBEq, Nat.reduceGT, Int.reduceEq, Int.reduceNe, Int.reduceLT, Int.reduceLE, Int.reduceToNat, Int.reduceNeg, Int.reduceBEq, Int.reduceAdd, Int.reduceSub, Int.reduceGT, Int.reduceGE, Int.reduceBNe, q1, Int.le_refl]
          clear q1
          intros
          refine vc_forp (fun x => ⟨(.junk :: .int .i64 k :: .int .i64 fr :: .ref 0 0 0 0 :: .junk :: .junk :: .ref 1 0 0 0 :: .junk :: .ref 2 0 0 0 :: .osl 3 x 0 x :: .int .i64 x :: .junk :: .junk :: .junk :: .junk :: .junk :: .junk :: .junk :: .junk :: .junk :: .junk :: .junk :: .junk :: .junk :: .junk :: .junk :: .junk :: .junk :: .junk :: .junk :: .junk :: .junk :: .junk :: .junk :: .junk :: .junk :: .junk :: .junk :: .junk :: .junk :: .junk :: .junk :: .junk :: .junk :: .junk :: .junk :: .junk :: .junk :: .junk :: .junk :: .junk :: .junk :: .junk :: .junk :: .junk :: .junk :: .junk :: .junk :: .junk :: .junk :: .junk :: .junk :: .junk :: .junk :: .junk :: .junk :: .junk :: .junk :: .junk :: .junk :: .junk :: .junk :: .junk :: .junk :: .junk :: .junk :: .junk :: .junk :: .junk :: []),
            [⟨true, 5, [[.int .i64 kk, .int .i64 i', .int .i64 j, .int .i64 n, .dsl 5 rows]], 0, 0, true⟩, ⟨true, 5, [[.int .i64 0, .int .i64 0, .int .i64 0, .int .i64 0, .nils]], 0, 0, true⟩,
             ⟨true, 5, [[.int .i64 kk, .int .i64 i', .int .i64 j, .int .i64 n, .nils]], 0, 0, true⟩, ⟨false, 5, ys.take x, x - 1, x, true⟩]⟩) rows.length (fun x => X x (rows[x]?.getD []) ≠ none) (fun x hx hp => ?_) ?_
          · simp only [go_sem, reduceIte, reduceCtorEq, Nat.reduceAdd, Nat.reduceSub, Nat.reduceMul, Nat.reduceLT, Nat.reduceLeDiff, Nat.reduceEqDiff, Nat.reduceBEq, Nat.reduceGT, Int.reduceEq, Int.reduceNe, Int.reduceLT, Int.reduceLE, Int.reduceToNat, Int.reduceNeg, Int.reduceBEq, Int.reduceAdd, Int.reduceSub, Int.reduceGT, Int.reduceGE, Int.reduceBNe]
            intros
            refine ⟨fun h => ?_, fun h => ?_⟩
            · have hlt := of_decide_eq_true h
              have hlt' : x < rows.length := by omega
              have e0 : (0 : Int) ≤ (x : Int) := by omega
              have hm := get_lt (d := []) hlt'
              have h5' := h5 _ hm
              have hb := binds_le kk x
              have ew : IntKind.i64.wrap (fr + bindsN kk x) = fr + bindsN kk x := w64 (by unfold fit; omega)
              have hc := H x _ hm
              have hno : ¬ 4611686018427387904 < fr := by omega
              have e1 : (ys.take x).length = x := by simp; omega
              have e2 : (x + 1) * 56 ≤ 140737488355328 := by omega
              have e3 : x + 1 ≤ 140737488355328 := by omega
              simp only [go_sem, reduceIte, reduceCtorEq, Nat.reduceAdd, Nat.reduceSub, Nat.reduceMul, Nat.reduceLT, Nat.reduceLeDiff, Nat.reduceEqDiff, Nat.reduceBEq, Nat.reduceGT, Int.reduceEq, Int.reduceNe, Int.reduceLT, Int.reduceLE, Int.reduceToNat, Int.reduceNeg, Int.reduceBEq, Int.reduceAdd, Int.reduceSub, Int.reduceGT, Int.reduceGE, Int.reduceBNe, hlt, e0, h5']
              refine callK_of (con_rbinds kk x) ?_
              simp only [go_sem, reduceIte, reduceCtorEq, Nat.reduceAdd, Nat.reduceSub, Nat.reduceMul, Nat.reduceLT, Nat.reduceLeDiff, Nat.reduceEqDiff, Nat.reduceBEq, Nat.reduceGT, Int.reduceEq, Int.reduceNe, Int.reduceLT, Int.reduceLE, Int.reduceToNat, Int.reduceNeg, Int.reduceBEq, Int.reduceAdd, Int.reduceSub, Int.reduceGT, Int.reduceGE, Int.reduceBNe, hno, hlt, e0, h5', ew]
              refine callK_of hc ?_
              cases hX1 : X x (rows[x]?.getD []) with
              | none =>
                have hz1 := tv_len zT
                simp only [go_sem, reduceIte, reduceCtorEq, Nat.reduceAdd, Nat.reduceSub, Nat.reduceMul, Nat.reduceLT, Nat.reduceLeDiff, Nat.reduceEqDiff, Nat.reduceBEq, Nat.reduceGT, Int.reduceEq, Int.reduceNe, Int.reduceLT, Int.reduceLE, Int.reduceToNat, Int.reduceNeg, Int.reduceBEq, Int.reduceAdd, Int.reduceSub, Int.reduceGT, Int.reduceGE, Int.reduceBNe, resR, hz1]
                exact hn (allS_none (d := []) (i := x) hlt' (by rw [Nat.zero_add]; exact hX1))
              | some u =>
                have hu := hX x _ hm u hX1
                have hy := hyx x hlt'
                rw [hX1, Option.getD_some] at hy
                have tn := take_next (l := ys) (d := []) (i := x) (by omega)
                rw [hy] at tn
                simp only [go_sem, reduceIte, reduceCtorEq, Nat.reduceAdd, Nat.reduceSub, Nat.reduceMul, Nat.reduceLT, Nat.reduceLeDiff, Nat.reduceEqDiff, Nat.reduceBEq, Nat.reduceGT, Int.reduceEq, Int.reduceNe, Int.reduceLT, Int.reduceLE, Int.reduceToNat, Int.reduceNeg, Int.reduceBEq, Int.reduceAdd, Int.reduceSub, Int.reduceGT, Int.reduceGE, Int.reduceBNe, resR, hu, hlt', e1, e2, e3, tn]
                rw [w64 (n := (x : Int) + 1) (by unfold fit; omega)]
                exact wk_trunc 4 (by simp [slotsLe]) (by simp) (by simp [below]) (by simp)
            · have hge := of_decide_eq_false h
              have hxe : x = rows.length := by omega
              have he := hend (fun y hy => hp y (by omega))
              subst hxe
              have ht : ys.take rows.length = ys := by rw [← hys, List.take_length]
              simp only [go_sem, reduceIte, reduceCtorEq, Nat.reduceAdd, Nat.reduceSub, Nat.reduceMul, Nat.reduceLT, Nat.reduceLeDiff, Nat.reduceEqDiff, Nat.reduceBEq, Nat.reduceGT, Int.reduceEq, Int.reduceNe, Int.reduceLT, Int.reduceLE, Int.reduceToNat, Int.reduceNeg, Int.reduceBEq, Int.reduceAdd, Int.reduceSub, Int.reduceGT, Int.reduceGE, Int.reduceBNe, h, hys, ht]
              exact hs _ he
          · exact .trans (.ghost _ 9 5 rfl) (wk_slots (by simp [slotsLe]))
        · simp only [go_sem, reduceIte, reduceCtorEq, Nat.reduceAdd, Nat.reduceSub, Nat.reduceMul, Nat.reduceLT, Nat.reduceLeDiff, Nat.reduceEqDiff, Nat.reduceBEq, Nat.reduceGT, Int.reduceEq, Int.reduceNe, Int.reduceLT, Int.reduceLE, Int.reduceToNat, Int.reduceNeg, Int.reduceBEq, Int.reduceAdd, Int.reduceSub, Int.reduceGT, Int.reduceGE, Int.reduceBNe, q1, q2, Int.le_refl]
          clear q1 q2
          intros
          refine vc_forp (fun x => ⟨(.junk :: .int .i64 k :: .int .i64 fr :: .ref 0 0 0 0 :: .junk :: .junk :: .ref 1 0 0 0 :: .junk :: .ref 2 0 0 0 :: .osl 3 x 0 x :: .int .i64 x :: .junk :: .junk :: .junk :: .junk :: .junk :: .junk :: .junk :: .junk :: .junk :: .junk :: .junk :: .junk :: .junk :: .junk :: .junk :: .junk :: .junk :: .junk :: .junk :: .junk :: .junk :: .junk :: .junk :: .junk :: .junk :: .junk :: .junk :: .junk :: .junk :: .junk :: .junk :: .junk :: .junk :: .junk :: .junk :: .junk :: .junk :: .junk :: .junk :: .junk :: .junk :: .junk :: .junk :: .junk :: .junk :: .junk :: .junk :: .junk :: .junk :: .junk :: .junk :: .junk :: .junk :: .junk :: .junk :: .junk :: .junk :: .junk :: .junk :: .junk :: .junk :: .junk :: .junk :: .junk :: .junk :: .junk :: .junk :: .junk :: []),
            [⟨true, 5, [[.int .i64 kk, .int .i64 i', .int .i64 j, .int .i64 n, .dsl 5 rows]], 0, 0, true⟩, ⟨true, 5, [[.int .i64 0, .int .i64 0, .int .i64 0, .int .i64 0, .nils]], 0, 0, true⟩,
             ⟨true, 5, [[.int .i64 kk, .int .i64 i', .int .i64 j, .int .i64 n, .nils]], 0, 0, true⟩, ⟨false, 5, ys.take x, x - 1, x, true⟩]⟩) rows.length (fun x => X x (rows[x]?.getD []) ≠ none) (fun x hx hp => ?_) ?_
          · simp only [go_sem, reduceIte, reduceCtorEq, Nat.reduceAdd, Nat.reduceSub, Nat.reduceMul, Nat.reduceLT, Nat.reduceLeDiff, Nat.reduceEqDiff, Nat.reduceBEq, Nat.reduceGT, Int.reduceEq, Int.reduceNe, Int.reduceLT, Int.reduceLE, Int.reduceToNat, Int.reduceNeg, Int.reduceBEq, Int.reduceAdd, Int.reduceSub, Int.reduceGT, Int.reduceGE, Int.reduceBNe]
            intros
            refine ⟨fun h => ?_, fun h => ?_⟩
            · have hlt := of_decide_eq_true h
              have hlt' : x < rows.length := by omega
              have e0 : (0 : Int) ≤ (x : Int) := by omega
              have hm := get_lt (d := []) hlt'
              have h5' := h5 _ hm
              have hb := binds_le kk x
              have ew : IntKind.i64.wrap (fr + bindsN kk x) = fr + bindsN kk x := w64 (by unfold fit; omega)
              have hc := H x _ hm
              have hno : ¬ 4611686018427387904 < fr := by omega
              have e1 : (ys.take x).length = x := by simp; omega
              have e2 : (x + 1) * 56 ≤ 140737488355328 := by omega
              have e3 : x + 1 ≤ 140737488355328 := by omega
              simp only [go_sem, reduceIte, reduceCtorEq, Nat.reduceAdd, Nat.reduceSub, Nat.reduceMul, Nat.reduceLT, Nat.reduceLeDiff, Nat.reduceEqDiff, Nat.reduceBEq, Nat.reduceGT, Int.reduceEq, Int.reduceNe, Int.reduceLT, Int.reduceLE, Int.reduceToNat, Int.reduceNeg, Int.reduceBEq, Int.reduceAdd, Int.reduceSub, Int.reduceGT, Int.reduceGE, Int.reduceBNe, hlt, e0, h5']
              refine callK_of (con_rbinds kk x) ?_
              simp only [go_sem, reduceIte, reduceCtorEq, Nat.reduceAdd, Nat.reduceSub, Nat.reduceMul, Nat.reduceLT, Nat.reduceLeDiff, Nat.reduceEqDiff, Nat.reduceBEq, Nat.reduceGT, Int.reduceEq, Int.reduceNe, Int.reduceLT, Int.reduceLE, Int.reduceToNat, Int.reduceNeg, Int.reduceBEq, Int.reduceAdd, Int.reduceSub, Int.reduceGT, Int.reduceGE, Int.reduceBNe, hno, hlt, e0, h5', ew]
              refine callK_of hc ?_
              cases hX1 : X x (rows[x]?.getD []) with
              | none =>
                have hz1 := tv_len zT
                simp only [go_sem, reduceIte, reduceCtorEq, Nat.reduceAdd, Nat.reduceSub, Nat.reduceMul, Nat.reduceLT, Nat.reduceLeDiff, Nat.reduceEqDiff, Nat.reduceBEq, Nat.reduceGT, Int.reduceEq, Int.reduceNe, Int.reduceLT, Int.reduceLE, Int.reduceToNat, Int.reduceNeg, Int.reduceBEq, Int.reduceAdd, Int.reduceSub, Int.reduceGT, Int.reduceGE, Int.reduceBNe, resR, hz1]
                exact hn (allS_none (d := []) (i := x) hlt' (by rw [Nat.zero_add]; exact hX1))
              | some u =>
                have hu := hX x _ hm u hX1
                have hy := hyx x hlt'
                rw [hX1, Option.getD_some] at hy
                have tn := take_next (l := ys) (d := []) (i := x) (by omega)
                rw [hy] at tn
                simp only [go_sem, reduceIte, reduceCtorEq, Nat.reduceAdd, Nat.reduceSub, Nat.reduceMul, Nat.reduceLT, Nat.reduceLeDiff, Nat.reduceEqDiff, Nat.reduceBEq, Nat.reduceGT, Int.reduceEq, Int.reduceNe, Int.reduceLT, Int.reduceLE, Int.reduceToNat, Int.reduceNeg, Int.reduceBEq, Int.reduceAdd, Int.reduceSub, Int.reduceGT, Int.reduceGE, Int.reduceBNe, resR, hu, hlt', e1, e2, e3, tn]
                rw [w64 (n := (x : Int) + 1) (by unfold fit; omega)]
                exact wk_trunc 4 (by simp [slotsLe]) (by simp) (by simp [below]) (by simp)
            · have hge := of_decide_eq_false h
              have hxe : x = rows.length := by omega
              have he := hend (fun y hy => hp y (by omega))
              subst hxe
              have ht : ys.take rows.length = ys := by rw [← hys, List.take_length]
              simp only [go_sem, reduceIte, reduceCtorEq, Nat.reduceAdd, Nat.reduceSub, Nat.reduceMul, Nat.reduceLT, Nat.reduceLeDiff, Nat.reduceEqDiff, Nat.reduceBEq, Nat.reduceGT, Int.reduceEq, Int.reduceNe, Int.reduceLT, Int.reduceLE, Int.reduceToNat, Int.reduceNeg, Int.reduceBEq, Int.reduceAdd, Int.reduceSub, Int.reduceGT, Int.reduceGE, Int.reduceBNe, h, hys, ht]
              exact hs _ he
          · exact .trans (.ghost _ 9 5 rfl) (wk_slots (by simp [slotsLe]))
    cases hA : allS X 0 rows with
    | none =>
      refine (core _ (fun _ => rfl) (fun us h => ?_)).weaken le_none
      rw [hA] at h
      cases h
    | some us =>
      refine core _ (fun h => ?_) (fun us' h => ?_)
      · rw [hA] at h
        cases h
      · rw [hA] at h
        cases h
        rfl
  cases hI : liftI kk i k fr with
  | some i' => exact main i' hI
  | none =>
    simp only [Option.bind_none]
    unfold liftI at hI
    split at hI
    rotate_left
    · cases hI
    rename_i hc
    obtain ⟨rfl, hle⟩ := hc
    split at hI
    rotate_left
    · cases hI
    rename_i hlt
    obtain ⟨g1, g2⟩ := hi rfl
    refine (contract_of_vc (r := .tup [.agg true [.int .i64 0, .int .i64 0, .int .i64 0, .int .i64 0, .nils], .bool false]) mixed Tryz.func109 tr109 ?_).weaken le_none
    have ew : IntKind.i64.wrap (2147483647 - i) = 2147483647 - i := w64 (by unfold fit; omega)
    simp only [go_sem, reduceIte, reduceCtorEq, Nat.reduceAdd, Nat.reduceSub, Nat.reduceMul, Nat.reduceLT, Nat.reduceLeDiff, Nat.reduceEqDiff, Nat.reduceBEq, Nat.reduceGT, Int.reduceEq, Int.reduceNe, Int.reduceLT, Int.reduceLE, Int.reduceToNat, Int.reduceNeg, Int.reduceBEq, Int.reduceAdd, Int.reduceSub, Int.reduceGT, Int.reduceGE, Int.reduceBNe, hle, ew, hlt]
end Go.Proofs.YtkldipbhenabfaaGreat.Abs
