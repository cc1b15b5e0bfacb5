/- All of plain terms, by the page. -/
import Derived.Test.YtkldipbhenabfaaGreatQKb
import Derived.Test.YtkldipbhenabfaaGreatQAfT
set_option linter.unusedSimpArgs false
set_option linter.unusedVariables false
namespace Go.Proofs.YtkldipbhenabfaaGreat.Abs
open Go Go.RowKit Go.Proofs.YtkldipbhenabfaaGreat

set_option maxRecDepth 20000 in
set_option maxHeartbeats 4000000 in
theorem con_rall_rows (kk i j n d : Int) (b : Bool) (Ls : List (List SV)) (rows : List (List SV)) (X : Nat → List SV → Option (List SV)) (h2 : rows.length * 56 ≤ 140737488355328) (h5 : ∀ r ∈ rows, r.length = 5)
    (hv : ¬ (kk = 2 ∧ d ≤ i)) (hd : 0 ≤ d) (hd2 : d ≤ 1000000000000) (hX : ∀ p : Nat, ∀ r ∈ rows, ∀ u, X p r = some u → u.length = 5)
    (H : ∀ p : Nat, p < rows.length → ∀ b', Con 108 [.agg true (rows[p]?.getD []), .dsl 5 Ls, .int .i64 (d + bindsN kk p), .bool b'] (resR (X p (rows[p]?.getD [])))) :
    Con 108 [.agg true [.int .i64 kk, .int .i64 i, .int .i64 j, .int .i64 n, .dsl 5 rows], .dsl 5 Ls, .int .i64 d, .bool b] (resR ((allS X 0 rows).map fun rs => [.int .i64 kk, .int .i64 i, .int .i64 j, .int .i64 n, .dsl 5 rs])) := by
  have hys : ((List.range rows.length).map fun p => (X p (rows[p]?.getD [])).getD []).length = rows.length := by simp
  have hyx : ∀ x, x < rows.length → ((List.range rows.length).map fun p => (X p (rows[p]?.getD [])).getD [])[x]?.getD [] = (X x (rows[x]?.getD [])).getD [] := fun x hx => by
    rw [List.getElem?_map, List.getElem?_range hx]; rfl
  have hend : (∀ x, x < rows.length → X x (rows[x]?.getD []) ≠ none) → allS X 0 rows = some ((List.range rows.length).map fun p => (X p (rows[p]?.getD [])).getD []) := fun h => by
    rw [allS_some (d := []) (e := []) (fun x hx => by rw [Nat.zero_add]; exact h x hx)]
    simp only [Nat.zero_add]
  generalize ((List.range rows.length).map fun p => (X p (rows[p]?.getD [])).getD []) = ys at *
  have hcase : (kk == 2) = false ∨ ((kk == 2) = true ∧ ¬ d ≤ i) := by
    by_cases h1 : kk = 2
    · exact .inr ⟨by simp [h1], fun h => hv ⟨h1, h⟩⟩
    · exact .inl (by simp [h1])
  have core : ∀ r0, (allS X 0 rows = none → r0 = .tup [.agg true [.int .i64 0, .int .i64 0, .int .i64 0, .int .i64 0, .nils], .bool false]) →
      (∀ us, allS X 0 rows = some us → r0 = .tup [.agg true [.int .i64 kk, .int .i64 i, .int .i64 j, .int .i64 n, .dsl 5 us], .bool true]) →
      Con 108 [.agg true [.int .i64 kk, .int .i64 i, .int .i64 j, .int .i64 n, .dsl 5 rows], .dsl 5 Ls, .int .i64 d, .bool b] r0 := by
    intro r0 hn hs
    refine contract_of_vc mixed Tryz.func108 tr108 ?_
    rcases hcase with q1 | ⟨q1, q2⟩
    · simp only [go_sem, reduceIte, reduceCtorEq, Nat.reduceAdd, Nat.reduceSub, Nat.reduceMul, Nat.reduceLT, Nat.reduceLeDiff, Nat.reduceEqDiff, Nat.reduceBEq, Nat.reduceGT, Int.reduceEq, Int.reduceNe, Int.reduceLT, Int.reduceLE, Int.reduceToNat, Int.reduceNeg, Int.reduceBEq, Int.reduceAdd, Int.reduceSub, Int.reduceGT, Int.reduceGE, Int.reduceBNe, q1]
      clear q1
      intros
      refine vc_forp (fun x => ⟨(.junk :: .dsl 5 Ls :: .int .i64 d :: .bool b :: .ref 0 0 0 0 :: .junk :: .junk :: .junk :: .ref 1 0 0 0 :: .bool false :: .ref 2 0 0 0 :: .osl 3 x 0 x :: .int .i64 x :: .junk :: .junk :: .junk :: .junk :: .junk :: .junk :: .junk :: .junk :: .junk :: .junk :: .junk :: .junk :: .junk :: .junk :: .junk :: .junk :: .junk :: .junk :: .junk :: .junk :: .junk :: .junk :: .junk :: .junk :: .junk :: .junk :: .junk :: .junk :: .junk :: .junk :: .junk :: .junk :: .junk :: .junk :: .junk :: .junk :: .junk :: .junk :: .junk :: .junk :: .junk :: .junk :: .junk :: .junk :: .junk :: .junk :: .junk :: .junk :: .junk :: .junk :: .junk :: .junk :: .junk :: .junk :: .junk :: .junk :: .junk :: .junk :: .junk :: .junk :: .junk :: .junk :: .junk :: .junk :: .junk :: .junk :: .junk :: .junk :: .junk :: .junk :: .junk :: []),
        [⟨true, 5, [[.int .i64 kk, .int .i64 i, .int .i64 j, .int .i64 n, .dsl 5 rows]], 0, 0, true⟩, ⟨true, 5, [[.int .i64 0, .int .i64 0, .int .i64 0, .int .i64 0, .nils]], 0, 0, true⟩,
         ⟨true, 5, [[.int .i64 kk, .int .i64 i, .int .i64 j, .int .i64 n, .nils]], 0, 0, true⟩, ⟨false, 5, ys.take x, x - 1, x, true⟩]⟩) rows.length (fun x => X x (rows[x]?.getD []) ≠ none) (fun x hx hp => ?_) ?_
      · simp only [go_sem, reduceIte, reduceCtorEq, Nat.reduceAdd, Nat.reduceSub, Nat.reduceMul, Nat.reduceLT, Nat.reduceLeDiff, Nat.reduceEqDiff, Nat.reduceBEq, Nat.reduceGT, Int.reduceEq, Int.reduceNe, Int.reduceLT, Int.reduceLE, Int.reduceToNat, Int.reduceNeg, Int.reduceBEq, Int.reduceAdd, Int.reduceSub, Int.reduceGT, Int.reduceGE, Int.reduceBNe]
        intros
        refine ⟨fun h => ?_, fun h => ?_⟩
        · have hlt := of_decide_eq_true h
          have hlt' : x < rows.length := by omega
          have e0 : (0 : Int) ≤ (x : Int) := by omega
          have hm := get_lt (d := []) hlt'
          have h5' := h5 _ hm
          have hb := binds_le kk x
          have ew : IntKind.i64.wrap (d + bindsN kk x) = d + bindsN kk x := w64 (by unfold fit; omega)
          have hc := H x hlt'
          obtain ⟨z, hz⟩ := con_plainly kk i j n x rows
          have e1 : (ys.take x).length = x := by simp; omega
          have e2 : (x + 1) * 56 ≤ 140737488355328 := by omega
          have e3 : x + 1 ≤ 140737488355328 := by omega
          cases b
          · simp only [go_sem, reduceIte, reduceCtorEq, Nat.reduceAdd, Nat.reduceSub, Nat.reduceMul, Nat.reduceLT, Nat.reduceLeDiff, Nat.reduceEqDiff, Nat.reduceBEq, Nat.reduceGT, Int.reduceEq, Int.reduceNe, Int.reduceLT, Int.reduceLE, Int.reduceToNat, Int.reduceNeg, Int.reduceBEq, Int.reduceAdd, Int.reduceSub, Int.reduceGT, Int.reduceGE, Int.reduceBNe, hlt, e0, h5']
            refine callK_of (con_rbinds kk x) ?_
            simp only [go_sem, reduceIte, reduceCtorEq, Nat.reduceAdd, Nat.reduceSub, Nat.reduceMul, Nat.reduceLT, Nat.reduceLeDiff, Nat.reduceEqDiff, Nat.reduceBEq, Nat.reduceGT, Int.reduceEq, Int.reduceNe, Int.reduceLT, Int.reduceLE, Int.reduceToNat, Int.reduceNeg, Int.reduceBEq, Int.reduceAdd, Int.reduceSub, Int.reduceGT, Int.reduceGE, Int.reduceBNe, hlt, e0, h5', ew]
            refine callK_of hz ?_
            simp only [go_sem, reduceIte, reduceCtorEq, Nat.reduceAdd, Nat.reduceSub, Nat.reduceMul, Nat.reduceLT, Nat.reduceLeDiff, Nat.reduceEqDiff, Nat.reduceBEq, Nat.reduceGT, Int.reduceEq, Int.reduceNe, Int.reduceLT, Int.reduceLE, Int.reduceToNat, Int.reduceNeg, Int.reduceBEq, Int.reduceAdd, Int.reduceSub, Int.reduceGT, Int.reduceGE, Int.reduceBNe, hlt, e0, h5', ew]
            refine callK_of (hc z) ?_
            cases hX1 : X x (rows[x]?.getD []) with
            | none =>
              have hz1 := tv_len zT
              simp only [go_sem, reduceIte, reduceCtorEq, Nat.reduceAdd, Nat.reduceSub, Nat.reduceMul, Nat.reduceLT, Nat.reduceLeDiff, Nat.reduceEqDiff, Nat.reduceBEq, Nat.reduceGT, Int.reduceEq, Int.reduceNe, Int.reduceLT, Int.reduceLE, Int.reduceToNat, Int.reduceNeg, Int.reduceBEq, Int.reduceAdd, Int.reduceSub, Int.reduceGT, Int.reduceGE, Int.reduceBNe, resR, hz1]
              exact hn (allS_none (d := []) (i := x) hlt' (by rw [Nat.zero_add]; exact hX1))
            | some u =>
              have hu := hX x _ hm u hX1
              have hy := hyx x hlt'
              rw [hX1, Option.getD_some] at hy
              have tn := take_next (l := ys) (d := []) (i := x) (by omega)
              rw [hy] at tn
              simp only [go_sem, reduceIte, reduceCtorEq, Nat.reduceAdd, Nat.reduceSub, Nat.reduceMul, Nat.reduceLT, Nat.reduceLeDiff, Nat.reduceEqDiff, Nat.reduceBEq, Nat.reduceGT, Int.reduceEq, Int.reduceNe, Int.reduceLT, Int.reduceLE, Int.reduceToNat, Int.reduceNeg, Int.reduceBEq, Int.reduceAdd, Int.reduceSub, Int.reduceGT, Int.reduceGE, Int.reduceBNe, resR, hu, hlt', e1, e2, e3, tn]
              rw [w64 (n := (x : Int) + 1) (by unfold fit; omega)]
              exact wk_trunc 4 (by simp [slotsLe]) (by simp) (by simp [below]) (by simp)
          · simp only [go_sem, reduceIte, reduceCtorEq, Nat.reduceAdd, Nat.reduceSub, Nat.reduceMul, Nat.reduceLT, Nat.reduceLeDiff, Nat.reduceEqDiff, Nat.reduceBEq, Nat.reduceGT, Int.reduceEq, Int.reduceNe, Int.reduceLT, Int.reduceLE, Int.reduceToNat, Int.reduceNeg, Int.reduceBEq, Int.reduceAdd, Int.reduceSub, Int.reduceGT, Int.reduceGE, Int.reduceBNe, hlt, e0, h5']
            refine callK_of (con_rbinds kk x) ?_
            simp only [go_sem, reduceIte, reduceCtorEq, Nat.reduceAdd, Nat.reduceSub, Nat.reduceMul, Nat.reduceLT, Nat.reduceLeDiff, Nat.reduceEqDiff, Nat.reduceBEq, Nat.reduceGT, Int.reduceEq, Int.reduceNe, Int.reduceLT, Int.reduceLE, Int.reduceToNat, Int.reduceNeg, Int.reduceBEq, Int.reduceAdd, Int.reduceSub, Int.reduceGT, Int.reduceGE, Int.reduceBNe, hlt, e0, h5', ew]
            refine callK_of (hc true) ?_
            cases hX1 : X x (rows[x]?.getD []) with
            | none =>
              have hz1 := tv_len zT
              simp only [go_sem, reduceIte, reduceCtorEq, Nat.reduceAdd, Nat.reduceSub, Nat.reduceMul, Nat.reduceLT, Nat.reduceLeDiff, Nat.reduceEqDiff, Nat.reduceBEq, Nat.reduceGT, Int.reduceEq, Int.reduceNe, Int.reduceLT, Int.reduceLE, Int.reduceToNat, Int.reduceNeg, Int.reduceBEq, Int.reduceAdd, Int.reduceSub, Int.reduceGT, Int.reduceGE, Int.reduceBNe, resR, hz1]
              exact hn (allS_none (d := []) (i := x) hlt' (by rw [Nat.zero_add]; exact hX1))
            | some u =>
              have hu := hX x _ hm u hX1
              have hy := hyx x hlt'
              rw [hX1, Option.getD_some] at hy
              have tn := take_next (l := ys) (d := []) (i := x) (by omega)
              rw [hy] at tn
              simp only [go_sem, reduceIte, reduceCtorEq, Nat.reduceAdd, Nat.reduceSub, Nat.reduceMul, Nat.reduceLT, Nat.reduceLeDiff, Nat.reduceEqDiff, Nat.reduceBEq, Nat.reduceGT, Int.reduceEq, Int.reduceNe, Int.reduceLT, Int.reduceLE, Int.reduceToNat, Int.reduceNeg, Int.reduceBEq, Int.reduceAdd, Int.reduceSub, Int.reduceGT, Int.reduceGE, Int.reduceBNe, resR, hu, hlt', e1, e2, e3, tn]
              rw [w64 (n := (x : Int) + 1) (by unfold fit; omega)]
              exact wk_trunc 4 (by simp [slotsLe]) (by simp) (by simp [below]) (by simp)
        · have hge := of_decide_eq_false h
          have hxe : x = rows.length := by omega
          have he := hend (fun y hy => hp y (by omega))
          subst hxe
          have ht : ys.take rows.length = ys := by rw [← hys, List.take_length]
          simp only [go_sem, reduceIte, reduceCtorEq, Nat.reduceAdd, Nat.reduceSub, Nat.reduceMul, Nat.reduceLT, Nat.reduceLeDiff, Nat.reduceEqDiff, Nat.reduceBEq, Nat.reduceGT, Int.reduceEq, Int.reduceNe, Int.reduceLT, Int.reduceLE, Int.reduceToNat, Int.reduceNeg, Int.reduceBEq, Int.reduceAdd, Int.reduceSub, Int.reduceGT, Int.reduceGE, Int.reduceBNe, h, hys, ht]
          exact hs _ he
      · exact .trans (.ghost _ 11 5 rfl) (wk_slots (by simp [slotsLe]))
    · simp only [go_sem, reduceIte, reduceCtorEq, Nat.reduceAdd, Nat.reduceSub, Nat.reduceMul, Nat.reduceLT, Nat.reduceLeDiff, Nat.reduceEqDiff, Nat.reduceBEq, Nat.reduceGT, Int.reduceEq, Int.reduceNe, Int.reduceLT, Int.reduceLE, Int.reduceToNat, Int.reduceNeg, Int.reduceBEq, Int.reduceAdd, Int.reduceSub, Int.reduceGT, Int.reduceGE, Int.reduceBNe, q1, q2]
      clear q1 q2
      intros
      refine vc_forp (fun x => ⟨(.junk :: .dsl 5 Ls :: .int .i64 d :: .bool b :: .ref 0 0 0 0 :: .junk :: .junk :: .junk :: .ref 1 0 0 0 :: .bool false :: .ref 2 0 0 0 :: .osl 3 x 0 x :: .int .i64 x :: .junk :: .junk :: .junk :: .junk :: .junk :: .junk :: .junk :: .junk :: .junk :: .junk :: .junk :: .junk :: .junk :: .junk :: .junk :: .junk :: .junk :: .junk :: .junk :: .junk :: .junk :: .junk :: .junk :: .junk :: .junk :: .junk :: .junk :: .junk :: .junk :: .junk :: .junk :: .junk :: .junk :: .junk :: .junk :: .junk :: .junk :: .junk :: .junk :: .junk :: .junk :: .junk :: .junk :: .junk :: .junk :: .junk :: .junk :: .junk :: .junk :: .junk :: .junk :: .junk :: .junk :: .junk :: .junk :: .junk :: .junk :: .junk :: .junk :: .junk :: .junk :: .junk :: .junk :: .junk :: .junk :: .junk :: .junk :: .junk :: .junk :: .junk :: .junk :: []),
        [⟨true, 5, [[.int .i64 kk, .int .i64 i, .int .i64 j, .int .i64 n, .dsl 5 rows]], 0, 0, true⟩, ⟨true, 5, [[.int .i64 0, .int .i64 0, .int .i64 0, .int .i64 0, .nils]], 0, 0, true⟩,
         ⟨true, 5, [[.int .i64 kk, .int .i64 i, .int .i64 j, .int .i64 n, .nils]], 0, 0, true⟩, ⟨false, 5, ys.take x, x - 1, x, true⟩]⟩) rows.length (fun x => X x (rows[x]?.getD []) ≠ none) (fun x hx hp => ?_) ?_
      · simp only [go_sem, reduceIte, reduceCtorEq, Nat.reduceAdd, Nat.reduceSub, Nat.reduceMul, Nat.reduceLT, Nat.reduceLeDiff, Nat.reduceEqDiff, Nat.reduceBEq, Nat.reduceGT, Int.reduceEq, Int.reduceNe, Int.reduceLT, Int.reduceLE, Int.reduceToNat, Int.reduceNeg, Int.reduceBEq, Int.reduceAdd, Int.reduceSub, Int.reduceGT, Int.reduceGE, Int.reduceBNe]
        intros
        refine ⟨fun h => ?_, fun h => ?_⟩
        · have hlt := of_decide_eq_true h
          have hlt' : x < rows.length := by omega
          have e0 : (0 : Int) ≤ (x : Int) := by omega
          have hm := get_lt (d := []) hlt'
          have h5' := h5 _ hm
          have hb := binds_le kk x
          have ew : IntKind.i64.wrap (d + bindsN kk x) = d + bindsN kk x := w64 (by unfold fit; omega)
          have hc := H x hlt'
          obtain ⟨z, hz⟩ := con_plainly kk i j n x rows
          have e1 : (ys.take x).length = x := by simp; omega
          have e2 : (x + 1) * 56 ≤ 140737488355328 := by omega
          have e3 : x + 1 ≤ 140737488355328 := by omega
          cases b
          · simp only [go_sem, reduceIte, reduceCtorEq, Nat.reduceAdd, Nat.reduceSub, Nat.reduceMul, Nat.reduceLT, Nat.reduceLeDiff, Nat.reduceEqDiff, Nat.reduceBEq, Nat.reduceGT, Int.reduceEq, Int.reduceNe, Int.reduceLT, Int.reduceLE, Int.reduceToNat, Int.reduceNeg, Int.reduceBEq, Int.reduceAdd, Int.reduceSub, Int.reduceGT, Int.reduceGE, Int.reduceBNe, hlt, e0, h5']
            refine callK_of (con_rbinds kk x) ?_
            simp only [go_sem, reduceIte, reduceCtorEq, Nat.reduceAdd, Nat.reduceSub, Nat.reduceMul, Nat.reduceLT, Nat.reduceLeDiff, Nat.reduceEqDiff, Nat.reduceBEq, Nat.reduceGT, Int.reduceEq, Int.reduceNe, Int.reduceLT, Int.reduceLE, Int.reduceToNat, Int.reduceNeg, Int.reduceBEq, Int.reduceAdd, Int.reduceSub, Int.reduceGT, Int.reduceGE, Int.reduceBNe, hlt, e0, h5', ew]
            refine callK_of hz ?_
            simp only [go_sem, reduceIte, reduceCtorEq, Nat.reduceAdd, Nat.reduceSub, Nat.reduceMul, Nat.reduceLT, Nat.reduceLeDiff, Nat.reduceEqDiff, Nat.reduceBEq, Nat.reduceGT, Int.reduceEq, Int.reduceNe, Int.reduceLT, Int.reduceLE, Int.reduceToNat, Int.reduceNeg, Int.reduceBEq, Int.reduceAdd, Int.reduceSub, Int.reduceGT, Int.reduceGE, Int.reduceBNe, hlt, e0, h5', ew]
            refine callK_of (hc z) ?_
            cases hX1 : X x (rows[x]?.getD []) with
            | none =>
              have hz1 := tv_len zT
              simp only [go_sem, reduceIte, reduceCtorEq, Nat.reduceAdd, Nat.reduceSub, Nat.reduceMul, Nat.reduceLT, Nat.reduceLeDiff, Nat.reduceEqDiff, Nat.reduceBEq, Nat.reduceGT, Int.reduceEq, Int.reduceNe, Int.reduceLT, Int.reduceLE, Int.reduceToNat, Int.reduceNeg, Int.reduceBEq, Int.reduceAdd, Int.reduceSub, Int.reduceGT, Int.reduceGE, Int.reduceBNe, resR, hz1]
              exact hn (allS_none (d := []) (i := x) hlt' (by rw [Nat.zero_add]; exact hX1))
            | some u =>
              have hu := hX x _ hm u hX1
              have hy := hyx x hlt'
              rw [hX1, Option.getD_some] at hy
              have tn := take_next (l := ys) (d := []) (i := x) (by omega)
              rw [hy] at tn
              simp only [go_sem, reduceIte, reduceCtorEq, Nat.reduceAdd, Nat.reduceSub, Nat.reduceMul, Nat.reduceLT, Nat.reduceLeDiff, Nat.reduceEqDiff, Nat.reduceBEq, Nat.reduceGT, Int.reduceEq, Int.reduceNe, Int.reduceLT, Int.reduceLE, Int.reduceToNat, Int.reduceNeg, Int.reduceBEq, Int.reduceAdd, Int.reduceSub, Int.reduceGT, Int.reduceGE, Int.reduceBNe, resR, hu, hlt', e1, e2, e3, tn]
              rw [w64 (n := (x : Int) + 1) (by unfold fit; omega)]
              exact wk_trunc 4 (by simp [slotsLe]) (by simp) (by simp [below]) (by simp)
          · simp only [go_sem, reduceIte, reduceCtorEq, Nat.reduceAdd, Nat.reduceSub, Nat.reduceMul, Nat.reduceLT, Nat.reduceLeDiff, Nat.reduceEqDiff, Nat.reduceBEq, Nat.reduceGT, Int.reduceEq, Int.reduceNe, Int.reduceLT, Int.reduceLE, Int.reduceToNat, Int.reduceNeg, Int.reduceBEq, Int.reduceAdd, Int.reduceSub, Int.reduceGT, Int.reduceGE, Int.reduceBNe, hlt, e0, h5']
            refine callK_of (con_rbinds kk x) ?_
            simp only [go_sem, reduceIte, reduceCtorEq, Nat.reduceAdd, Nat.reduceSub, Nat.reduceMul, Nat.reduceLT, Nat.reduceLeDiff, Nat.reduceEqDiff, Nat.reduceBEq, Nat.reduceGT, Int.reduceEq, Int.reduceNe, Int.reduceLT, Int.reduceLE, Int.reduceToNat, Int.reduceNeg, Int.reduceBEq, Int.reduceAdd, Int.reduceSub, Int.reduceGT, Int.reduceGE, Int.reduceBNe, hlt, e0, h5', ew]
            refine callK_of (hc true) ?_
            cases hX1 : X x (rows[x]?.getD []) with
            | none =>
              have hz1 := tv_len zT
              simp only [go_sem, reduceIte, reduceCtorEq, Nat.reduceAdd, Nat.reduceSub, Nat.reduceMul, Nat.reduceLT, Nat.reduceLeDiff, Nat.reduceEqDiff, Nat.reduceBEq, Nat.reduceGT, Int.reduceEq, Int.reduceNe, Int.reduceLT, Int.reduceLE, Int.reduceToNat, Int.reduceNeg, Int.reduceBEq, Int.reduceAdd, Int.reduceSub, Int.reduceGT, Int.reduceGE, Int.reduceBNe, resR, hz1]
              exact hn (allS_none (d := []) (i := x) hlt' (by rw [Nat.zero_add]; exact hX1))
            | some u =>
              have hu := hX x _ hm u hX1
              have hy := hyx x hlt'
              rw [hX1, Option.getD_some] at hy
              have tn := take_next (l := ys) (d := []) (i := x) (by omega)
              rw [hy] at tn
              simp only [go_sem, reduceIte, reduceCtorEq, Nat.reduceAdd, Nat.reduceSub, Nat.reduceMul, Nat.reduceLT, Nat.reduceLeDiff, Nat.reduceEqDiff, Nat.reduceBEq, Nat.reduceGT, Int.reduceEq, Int.reduceNe, Int.reduceLT, Int.reduceLE, Int.reduceToNat, Int.reduceNeg, Int.reduceBEq, Int.reduceAdd, Int.reduceSub, Int.reduceGT, Int.reduceGE, Int.reduceBNe, resR, hu, hlt', e1, e2, e3, tn]
              rw [w64 (n := (x : Int) + 1) (by unfold fit; omega)]
              exact wk_trunc 4 (by simp [slotsLe]) (by simp) (by simp [below]) (by simp)
        · have hge := of_decide_eq_false h
          have hxe : x = rows.length := by omega
          have he := hend (fun y hy => hp y (by omega))
          subst hxe
          have ht : ys.take rows.length = ys := by rw [← hys, List.take_length]
          simp only [go_sem, reduceIte, reduceCtorEq, Nat.reduceAdd, Nat.reduceSub, Nat.reduceMul, Nat.reduceLT, Nat.reduceLeDiff, Nat.reduceEqDiff, Nat.reduceBEq, Nat.reduceGT, Int.reduceEq, Int.reduceNe, Int.reduceLT, Int.reduceLE, Int.reduceToNat, Int.reduceNeg, Int.reduceBEq, Int.reduceAdd, Int.reduceSub, Int.reduceGT, Int.reduceGE, Int.reduceBNe, h, hys, ht]
          exact hs _ he
      · exact .trans (.ghost _ 11 5 rfl) (wk_slots (by simp [slotsLe]))
  cases hA : allS X 0 rows with
  | none =>
    refine (core _ (fun _ => rfl) (fun us h => ?_)).weaken le_none
    rw [hA] at h
    cases h
  | some us =>
    refine core _ (fun h => ?_) (fun us' h => ?_)
    · rw [hA] at h
      cases h
    · rw [hA] at h
      cases h
      rfl

set_option maxRecDepth 10000 in
theorem con_rall_var (L : List Tm) (hL : PutOk L) (i j n d : Int) (b : Bool) (l : List Tm) (h2 : d ≤ i) (hi : i ≤ 2147483647) (hd : 0 ≤ d) (hf : i + 1 - d ≤ L.length) :
    Con 108 [.agg true (tv (.mk 2 i j n l)), .dsl 5 (L.map tv), .int .i64 d, .bool b] (resR ((allT L d (.mk 2 i j n l)).map tv)) := by
  have hn : (i - d).toNat < L.length := by omega
  obtain ⟨o1, o2, o3⟩ := hL.2 _ (get_lt (d := default) hn)
  have hc := con_raised _ o1 o2 d hd b (by omega)
  have en : (((i - d).toNat : Nat) : Int) = i - d := Int.toNat_of_nonneg (by omega)
  rw [allT_var ⟨rfl, h2⟩ (u := L[(i - d).toNat]?.getD default) (by rw [List.getElem?_eq_getElem hn]; rfl)]
  have hrow := tv_row L _ hn
  have hlen : (L.map tv).length = L.length := by simp
  have hz := tv_len (L[(i - d).toNat]?.getD default)
  generalize L[(i - d).toNat]?.getD default = u at *
  generalize L.map tv = rows at *
  have ew : IntKind.i64.wrap (i - d) = ((i - d).toNat : Int) := by rw [w64 (by unfold fit; omega), en]
  have e0 : (0 : Int) ≤ ((i - d).toNat : Int) := by omega
  have e1 : ((i - d).toNat : Int) < (rows.length : Int) := by omega
  generalize (i - d).toNat = m at *
  refine contract_of_vc mixed Tryz.func108 tr108 ?_
  rw [tv_mk]
  simp only [go_sem, reduceIte, reduceCtorEq, Nat.reduceAdd, Nat.reduceSub, Nat.reduceMul, Nat.reduceLT, Nat.reduceLeDiff, Nat.reduceEqDiff, Nat.reduceBEq, Nat.reduceGT, Int.reduceEq, Int.reduceNe, Int.reduceLT, Int.reduceLE, Int.reduceToNat, Int.reduceNeg, Int.reduceBEq, Int.reduceAdd, Int.reduceSub, Int.reduceGT, Int.reduceGE, Int.reduceBNe, h2, ew, e0, e1, hrow, hz]
  refine callK_of hc ?_
  cases liftT d 0 u with
  | none =>
    have hz := tv_len zT
    simp only [go_sem, reduceIte, reduceCtorEq, Nat.reduceAdd, Nat.reduceSub, Nat.reduceMul, Nat.reduceLT, Nat.reduceLeDiff, Nat.reduceEqDiff, Nat.reduceBEq, Nat.reduceGT, Int.reduceEq, Int.reduceNe, Int.reduceLT, Int.reduceLE, Int.reduceToNat, Int.reduceNeg, Int.reduceBEq, Int.reduceAdd, Int.reduceSub, Int.reduceGT, Int.reduceGE, Int.reduceBNe, resR, Option.map_none, hz]
  | some v =>
    have hz := tv_len v
    simp only [go_sem, reduceIte, reduceCtorEq, Nat.reduceAdd, Nat.reduceSub, Nat.reduceMul, Nat.reduceLT, Nat.reduceLeDiff, Nat.reduceEqDiff, Nat.reduceBEq, Nat.reduceGT, Int.reduceEq, Int.reduceNe, Int.reduceLT, Int.reduceLE, Int.reduceToNat, Int.reduceNeg, Int.reduceBEq, Int.reduceAdd, Int.reduceSub, Int.reduceGT, Int.reduceGE, Int.reduceBNe, resR, Option.map_some, hz]
theorem con_rallT (L : List Tm) (hL : PutOk L) (t : Tm) : TOk t → ∀ (w d : Int) (b : Bool), rightT t w = true → 0 ≤ d → d + 2 * hgtT t ≤ 1000000000000 → freeR t - d ≤ L.length →
    Con 108 [.agg true (tv t), .dsl 5 (L.map tv), .int .i64 d, .bool b] (resR ((allT L d t).map tv)) := by
  induction t using Tm.ind with
  | h kk i j n l ih =>
    intro hok w d b hr hd hb2 hf
    obtain ⟨f1, f2, f3, f4, hb, hl⟩ := tok_of hok
    rw [hgtT_mk] at hb2
    by_cases hv : kk = 2 ∧ d ≤ i
    · obtain ⟨rfl, hv2⟩ := hv
      rw [freeR, if_pos rfl] at hf
      exact con_rall_var L hL i j n d b l hv2 (right_var hr rfl).2 hd hf
    · have hlen : (l.map tv).length = l.length := by simp
      have h := con_rall_rows kk i j n d b (L.map tv) (l.map tv) (fun p r => onT (fun t => (allT L (d + bindsN kk (p : Nat)) t).map tv) none r) (by omega) (rows5 l) hv hd (by omega)
        (fun p r hr u hu => by
          obtain ⟨t, ht, rfl⟩ := List.mem_map.1 hr
          simp only [onT_tv] at hu
          cases he : allT L (d + bindsN kk (p : Nat)) t with
          | none => rw [he] at hu; cases hu
          | some v => rw [he] at hu; cases hu; exact tv_len v)
        (fun p hp b' => by
          rw [hlen] at hp
          rw [tv_row l p hp, onT_tv]
          have ht := get_lt (d := default) hp
          obtain ⟨w', hw⟩ := right_kid hr ht
          have hm := hgt_mem ht
          have hbl := binds_le kk p
          by_cases hk2 : kk = 2
          · subst hk2
            have := var_kids hr
            subst this
            simp at hp
          · have hfk := free_kid (i := i) (j := j) (n := n) hk2 hp
            exact ih _ ht (hl _ ht) w' _ b' hw (by omega) (by omega) (by omega))
      rw [allT_v hv, ← tv_mk] at h
      exact h
set_option maxRecDepth 10000 in
set_option maxHeartbeats 1000000 in
theorem con_rAll (t : Tm) (L : List Tm) (ht : TOk t) (hpt : plainT t = true) (ht2 : hgtT t ≤ 100000) (hL : PutOk L) (hf : freeR t ≤ L.length) :
    Con 76 [.agg true (tv t), .dsl 5 (L.map tv)] (resR ((allT L 0 t).map tv)) := by
  have c1 := con_rright t ht
  rw [plain_right hpt] at c1
  have c2 := con_rfree1 t ht 2 hpt
  have c3 := con_rallT L hL t ht 2 0 false hpt (by omega) (by omega) (by omega)
  have hz := tv_len t
  have hrow := tv_row L
  have hlen : (L.map tv).length = L.length := by simp
  have a1 : ¬ (((L.map tv).length : Int) < freeR t) := by omega
  have core : ∀ r0, (allT L 0 t = none → r0 = .tup [.agg true [.int .i64 0, .int .i64 0, .int .i64 0, .int .i64 0, .nils], .bool false]) → (∀ v, allT L 0 t = some v → r0 = .tup [.agg true (tv v), .bool true]) →
      Con 76 [.agg true (tv t), .dsl 5 (L.map tv)] r0 := by
    intro r0 hn hs
    refine contract_of_vc mixed Tryz.func76 tr76 ?_
    generalize hX : allT L 0 t = X at *
    generalize L.map tv = rows at *
    simp only [go_sem, reduceIte, reduceCtorEq, Nat.reduceAdd, Nat.reduceSub, Nat.reduceMul, Nat.reduceLT, Nat.reduceLeDiff, Nat.reduceEqDiff, Nat.reduceBEq, Nat.reduceGT, Int.reduceEq, Int.reduceNe, Int.reduceLT, Int.reduceLE, Int.reduceToNat, Int.reduceNeg, Int.reduceBEq, Int.reduceAdd, Int.reduceSub, Int.reduceGT, Int.reduceGE, Int.reduceBNe, hz]
    refine callK_of c1 ?_
    simp only [go_sem, reduceIte, reduceCtorEq, Nat.reduceAdd, Nat.reduceSub, Nat.reduceMul, Nat.reduceLT, Nat.reduceLeDiff, Nat.reduceEqDiff, Nat.reduceBEq, Nat.reduceGT, Int.reduceEq, Int.reduceNe, Int.reduceLT, Int.reduceLE, Int.reduceToNat, Int.reduceNeg, Int.reduceBEq, Int.reduceAdd, Int.reduceSub, Int.reduceGT, Int.reduceGE, Int.reduceBNe, hz]
    refine callK_of c2 ?_
    simp only [go_sem, reduceIte, reduceCtorEq, Nat.reduceAdd, Nat.reduceSub, Nat.reduceMul, Nat.reduceLT, Nat.reduceLeDiff, Nat.reduceEqDiff, Nat.reduceBEq, Nat.reduceGT, Int.reduceEq, Int.reduceNe, Int.reduceLT, Int.reduceLE, Int.reduceToNat, Int.reduceNeg, Int.reduceBEq, Int.reduceAdd, Int.reduceSub, Int.reduceGT, Int.reduceGE, Int.reduceBNe, hz, a1]
    intros
    refine vc_for (fun x => ⟨(.junk :: .dsl 5 rows :: .ref 0 0 0 0 :: .junk :: .ref 1 0 0 0 :: .bool false :: .int .i64 x :: .junk :: .junk :: .junk :: .junk :: .junk :: .junk :: .junk :: .junk :: .junk :: .junk :: .junk :: .junk :: .junk :: .junk :: .junk :: .junk :: .junk :: .junk :: .junk :: .junk :: .junk :: .junk :: .junk :: .junk :: .junk :: .junk :: .junk :: .junk :: .junk :: .junk :: .junk :: .junk :: .junk :: .junk :: .junk :: .junk :: .junk :: []),
      [⟨true, 5, [tv t], 0, 0, true⟩, ⟨true, 5, [[.int .i64 0, .int .i64 0, .int .i64 0, .int .i64 0, .nils]], 0, 0, true⟩]⟩) rows.length (fun x hx => ?_) ?_
    · simp only [go_sem, reduceIte, reduceCtorEq, Nat.reduceAdd, Nat.reduceSub, Nat.reduceMul, Nat.reduceLT, Nat.reduceLeDiff, Nat.reduceEqDiff, Nat.reduceBEq, Nat.reduceGT, Int.reduceEq, Int.reduceNe, Int.reduceLT, Int.reduceLE, Int.reduceToNat, Int.reduceNeg, Int.reduceBEq, Int.reduceAdd, Int.reduceSub, Int.reduceGT, Int.reduceGE, Int.reduceBNe]
      intros
      refine ⟨fun h => ?_, fun h => ?_⟩
      · have hlt := of_decide_eq_true h
        have hlx : x < L.length := by omega
        have hlt' : x < rows.length := by omega
        have e0 : (0 : Int) ≤ (x : Int) := by omega
        have hr := hrow x hlx
        obtain ⟨o1, o2, o3⟩ := hL.2 _ (get_lt (d := default) hlx)
        generalize L[x]?.getD default = u at *
        have hzu := tv_len u
        have c4 := con_rmay t u ht o1 hpt o2
        simp only [go_sem, reduceIte, reduceCtorEq, Nat.reduceAdd, Nat.reduceSub, Nat.reduceMul, Nat.reduceLT, Nat.reduceLeDiff, Nat.reduceEqDiff, Nat.reduceBEq, Nat.reduceGT, Int.reduceEq, Int.reduceNe, Int.reduceLT, Int.reduceLE, Int.reduceToNat, Int.reduceNeg, Int.reduceBEq, Int.reduceAdd, Int.reduceSub, Int.reduceGT, Int.reduceGE, Int.reduceBNe, hlt, e0, hr, hz, hzu]
        refine callK_of c4 ?_
        simp only [go_sem, reduceIte, reduceCtorEq, Nat.reduceAdd, Nat.reduceSub, Nat.reduceMul, Nat.reduceLT, Nat.reduceLeDiff, Nat.reduceEqDiff, Nat.reduceBEq, Nat.reduceGT, Int.reduceEq, Int.reduceNe, Int.reduceLT, Int.reduceLE, Int.reduceToNat, Int.reduceNeg, Int.reduceBEq, Int.reduceAdd, Int.reduceSub, Int.reduceGT, Int.reduceGE, Int.reduceBNe]
        refine ⟨hlt', ?_⟩
        rw [w64 (n := (x : Int) + 1) (by unfold fit; have := hL.1; omega)]
        exact wk_slots (by simp [slotsLe])
      · have hge := of_decide_eq_false h
        simp only [go_sem, reduceIte, reduceCtorEq, Nat.reduceAdd, Nat.reduceSub, Nat.reduceMul, Nat.reduceLT, Nat.reduceLeDiff, Nat.reduceEqDiff, Nat.reduceBEq, Nat.reduceGT, Int.reduceEq, Int.reduceNe, Int.reduceLT, Int.reduceLE, Int.reduceToNat, Int.reduceNeg, Int.reduceBEq, Int.reduceAdd, Int.reduceSub, Int.reduceGT, Int.reduceGE, Int.reduceBNe, h, hz]
        refine callK_of c3 ?_
        cases X with
        | none =>
          have hz1 := tv_len zT
          simp only [go_sem, reduceIte, reduceCtorEq, Nat.reduceAdd, Nat.reduceSub, Nat.reduceMul, Nat.reduceLT, Nat.reduceLeDiff, Nat.reduceEqDiff, Nat.reduceBEq, Nat.reduceGT, Int.reduceEq, Int.reduceNe, Int.reduceLT, Int.reduceLE, Int.reduceToNat, Int.reduceNeg, Int.reduceBEq, Int.reduceAdd, Int.reduceSub, Int.reduceGT, Int.reduceGE, Int.reduceBNe, resR, Option.map_none, hz1]
          exact hn rfl
        | some v =>
          have hz1 := tv_len v
          simp only [go_sem, reduceIte, reduceCtorEq, Nat.reduceAdd, Nat.reduceSub, Nat.reduceMul, Nat.reduceLT, Nat.reduceLeDiff, Nat.reduceEqDiff, Nat.reduceBEq, Nat.reduceGT, Int.reduceEq, Int.reduceNe, Int.reduceLT, Int.reduceLE, Int.reduceToNat, Int.reduceNeg, Int.reduceBEq, Int.reduceAdd, Int.reduceSub, Int.reduceGT, Int.reduceGE, Int.reduceBNe, resR, Option.map_some, hz1]
          exact hs v rfl
    · exact wk_slots (by simp [slotsLe])
  cases hX : allT L 0 t with
  | none => exact (core _ (fun _ => rfl) (fun v h => by rw [hX] at h; cases h)).weaken le_none
  | some v => exact core _ (fun h => by rw [hX] at h; cases h) (fun v' h => by rw [hX] at h; cases h; rfl)
theorem con_sAll (t : Tm) (L : List Tm) (ht : TOk t) (hpt : plainT t = true) (ht2 : hgtT t ≤ 100000) (hL : PutOk L) (hf : freeR t ≤ L.length) :
    Con 100 [.agg true (tv t), .dsl 5 (L.map tv)] (resR ((allT L 0 t).map tv)) := by
  have c1 := con_rightq t ht
  rw [plain_right hpt] at c1
  have c2 := con_putL t L ht hpt ht2 hL hf
  have hz := tv_len t
  generalize L.map tv = rows at *
  refine contract_of_vc mixed Tryz.func100 tr100 ?_
  simp only [go_sem, reduceIte, reduceCtorEq, Nat.reduceAdd, Nat.reduceSub, Nat.reduceMul, Nat.reduceLT, Nat.reduceLeDiff, Nat.reduceEqDiff, Nat.reduceBEq, Nat.reduceGT, Int.reduceEq, Int.reduceNe, Int.reduceLT, Int.reduceLE, Int.reduceToNat, Int.reduceNeg, Int.reduceBEq, Int.reduceAdd, Int.reduceSub, Int.reduceGT, Int.reduceGE, Int.reduceBNe, hz]
  refine callK_of c1 ?_
  simp only [go_sem, reduceIte, reduceCtorEq, Nat.reduceAdd, Nat.reduceSub, Nat.reduceMul, Nat.reduceLT, Nat.reduceLeDiff, Nat.reduceEqDiff, Nat.reduceBEq, Nat.reduceGT, Int.reduceEq, Int.reduceNe, Int.reduceLT, Int.reduceLE, Int.reduceToNat, Int.reduceNeg, Int.reduceBEq, Int.reduceAdd, Int.reduceSub, Int.reduceGT, Int.reduceGE, Int.reduceBNe, hz]
  refine callK_of c2 ?_
  cases allT L 0 t with
  | none =>
    have hz1 := tv_len zT
    simp only [go_sem, reduceIte, reduceCtorEq, Nat.reduceAdd, Nat.reduceSub, Nat.reduceMul, Nat.reduceLT, Nat.reduceLeDiff, Nat.reduceEqDiff, Nat.reduceBEq, Nat.reduceGT, Int.reduceEq, Int.reduceNe, Int.reduceLT, Int.reduceLE, Int.reduceToNat, Int.reduceNeg, Int.reduceBEq, Int.reduceAdd, Int.reduceSub, Int.reduceGT, Int.reduceGE, Int.reduceBNe, resR, Option.map_none, hz1]
  | some v =>
    have hz1 := tv_len v
    simp only [go_sem, reduceIte, reduceCtorEq, Nat.reduceAdd, Nat.reduceSub, Nat.reduceMul, Nat.reduceLT, Nat.reduceLeDiff, Nat.reduceEqDiff, Nat.reduceBEq, Nat.reduceGT, Int.reduceEq, Int.reduceNe, Int.reduceLT, Int.reduceLE, Int.reduceToNat, Int.reduceNeg, Int.reduceBEq, Int.reduceAdd, Int.reduceSub, Int.reduceGT, Int.reduceGE, Int.reduceBNe, resR, Option.map_some, hz1]
end Go.Proofs.YtkldipbhenabfaaGreat.Abs

