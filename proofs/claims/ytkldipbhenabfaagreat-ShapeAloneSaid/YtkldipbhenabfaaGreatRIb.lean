/- Putting a term for the variable 0: by the program. -/
import Derived.Test.YtkldipbhenabfaaGreatRAfE
import Derived.Test.YtkldipbhenabfaaGreatRHf
set_option linter.unusedSimpArgs false
set_option linter.unusedVariables false
namespace Go.Proofs.YtkldipbhenabfaaGreat.Abs
open Go Go.RowKit Go.Proofs.YtkldipbhenabfaaGreat

abbrev pv (u : Tm) : SV := .dref 3 [.dsl 5 [tv u], .dsl 5 [tv u], .bool true] 0

set_option maxRecDepth 10000 in
theorem con_at_one (u : Tm) (hu : TOk u) (d : Int) (b : Bool) (hd : 0 ≤ d) (w : Int) (hr : rightT u w = true) (hh : (2 : Int) * hgtT u ≤ 1000000000000) :
    Con 160 [pv u, .int .i64 0, .int .i64 d, .bool b] (resR ((liftT d 0 u).map tv)) := by
  have hc := con_blift d hd u hu w 0 hr (by omega) (by omega)
  have hz := tv_len u
  cases hl : liftT d 0 u with
  | none =>
    rw [hl] at hc
    have hzz := tv_len zT
    refine contract_of_vc mixed Tryz.func160 tr160 ?_
    cases b
    all_goals
      simp only [go_sem, reduceIte, reduceCtorEq, Nat.reduceAdd, Nat.reduceSub, Nat.reduceMul, Nat.reduceLT, Nat.reduceLeDiff, Nat.reduceEqDiff, Nat.reduceBEq, Nat.reduceGT, Int.reduceEq, Int.reduceNe, Int.reduceLT, Int.reduceLE, Int.reduceToNat, Int.reduceNeg, Int.reduceBEq, Int.reduceAdd, Int.reduceSub, Int.reduceGT, Int.reduceGE, Int.reduceBNe, hz]
      refine callK_of hc ?_
      simp only [go_sem, reduceIte, reduceCtorEq, Nat.reduceAdd, Nat.reduceSub, Nat.reduceMul, Nat.reduceLT, Nat.reduceLeDiff, Nat.reduceEqDiff, Nat.reduceBEq, Nat.reduceGT, Int.reduceEq, Int.reduceNe, Int.reduceLT, Int.reduceLE, Int.reduceToNat, Int.reduceNeg, Int.reduceBEq, Int.reduceAdd, Int.reduceSub, Int.reduceGT, Int.reduceGE, Int.reduceBNe, resR, Option.map_none, hzz]
  | some v =>
    rw [hl] at hc
    have hzz := tv_len v
    refine contract_of_vc mixed Tryz.func160 tr160 ?_
    cases b
    all_goals
      simp only [go_sem, reduceIte, reduceCtorEq, Nat.reduceAdd, Nat.reduceSub, Nat.reduceMul, Nat.reduceLT, Nat.reduceLeDiff, Nat.reduceEqDiff, Nat.reduceBEq, Nat.reduceGT, Int.reduceEq, Int.reduceNe, Int.reduceLT, Int.reduceLE, Int.reduceToNat, Int.reduceNeg, Int.reduceBEq, Int.reduceAdd, Int.reduceSub, Int.reduceGT, Int.reduceGE, Int.reduceBNe, hz]
      refine callK_of hc ?_
      simp only [go_sem, reduceIte, reduceCtorEq, Nat.reduceAdd, Nat.reduceSub, Nat.reduceMul, Nat.reduceLT, Nat.reduceLeDiff, Nat.reduceEqDiff, Nat.reduceBEq, Nat.reduceGT, Int.reduceEq, Int.reduceNe, Int.reduceLT, Int.reduceLE, Int.reduceToNat, Int.reduceNeg, Int.reduceBEq, Int.reduceAdd, Int.reduceSub, Int.reduceGT, Int.reduceGE, Int.reduceBNe, resR, Option.map_some, hzz]
set_option maxRecDepth 10000 in
theorem con_at_hi (u : Tm) (n d : Int) (b : Bool) (hd : 0 ≤ d) (hd2 : d ≤ 1000000000000) (hn : 1 ≤ n) (hn2 : n ≤ 2147483647) :
    Con 160 [pv u, .int .i64 n, .int .i64 d, .bool b] (.tup [.agg true (tv (vr (n - 1 + d))), .bool true]) := by
  have hc := con_var (n - 1 + d)
  have e1 : IntKind.i64.wrap (n - 1) = n - 1 := w64 (by unfold fit; omega)
  have e2 : IntKind.i64.wrap (n - 1 + d) = n - 1 + d := w64 (by unfold fit; omega)
  have hzz := tv_len (.mk 2 (n - 1 + d) 0 0 [])
  refine contract_of_vc mixed Tryz.func160 tr160 ?_
  simp only [go_sem, reduceIte, reduceCtorEq, Nat.reduceAdd, Nat.reduceSub, Nat.reduceMul, Nat.reduceLT, Nat.reduceLeDiff, Nat.reduceEqDiff, Nat.reduceBEq, Nat.reduceGT, Int.reduceEq, Int.reduceNe, Int.reduceLT, Int.reduceLE, Int.reduceToNat, Int.reduceNeg, Int.reduceBEq, Int.reduceAdd, Int.reduceSub, Int.reduceGT, Int.reduceGE, Int.reduceBNe, e1, e2, hn]
  refine callK_of hc ?_
  simp only [go_sem, reduceIte, reduceCtorEq, Nat.reduceAdd, Nat.reduceSub, Nat.reduceMul, Nat.reduceLT, Nat.reduceLeDiff, Nat.reduceEqDiff, Nat.reduceBEq, Nat.reduceGT, Int.reduceEq, Int.reduceNe, Int.reduceLT, Int.reduceLE, Int.reduceToNat, Int.reduceNeg, Int.reduceBEq, Int.reduceAdd, Int.reduceSub, Int.reduceGT, Int.reduceGE, Int.reduceBNe, vr, hzz]

set_option maxRecDepth 20000 in
set_option maxHeartbeats 4000000 in
theorem con_walk_rows (u : Tm) (kk i j n d : Int) (b : Bool) (rows : List (List SV)) (X : Nat → List SV → Option (List SV)) (h2 : rows.length * 56 ≤ 140737488355328) (h5 : ∀ r ∈ rows, r.length = 5)
    (hv : ¬ (kk = 2 ∧ d ≤ i)) (hd : 0 ≤ d) (hd2 : d ≤ 1000000000000) (hX : ∀ p : Nat, ∀ r ∈ rows, ∀ u, X p r = some u → u.length = 5)
    (H : ∀ p : Nat, ∀ r ∈ rows, ∀ b', Con 145 [pv u, .agg true r, .int .i64 (d + bindsN kk p), .bool b'] (resR (X p r))) :
    Con 145 [pv u, .agg true [.int .i64 kk, .int .i64 i, .int .i64 j, .int .i64 n, .dsl 5 rows], .int .i64 d, .bool b] (resR ((allS X 0 rows).map fun rs => [.int .i64 kk, .int .i64 i, .int .i64 j, .int .i64 n, .dsl 5 rs])) := by
  have hys : ((List.range rows.length).map fun p => (X p (rows[p]?.getD [])).getD []).length = rows.length := by simp
  have hyx : ∀ x, x < rows.length → ((List.range rows.length).map fun p => (X p (rows[p]?.getD [])).getD [])[x]?.getD [] = (X x (rows[x]?.getD [])).getD [] := fun x hx => by
    rw [List.getElem?_map, List.getElem?_range hx]; rfl
  have hend : (∀ x, x < rows.length → X x (rows[x]?.getD []) ≠ none) → allS X 0 rows = some ((List.range rows.length).map fun p => (X p (rows[p]?.getD [])).getD []) := fun h => by
    rw [allS_some (d := []) (e := []) (fun x hx => by rw [Nat.zero_add]; exact h x hx)]
    simp only [Nat.zero_add]
  generalize ((List.range rows.length).map fun p => (X p (rows[p]?.getD [])).getD []) = ys at *
  have hcase : (kk == 2) = false ∨ ((kk == 2) = true ∧ ¬ d ≤ i) := by
    by_cases h1 : kk = 2
    · exact .inr ⟨by simp [h1], fun h => hv ⟨h1, h⟩⟩
    · exact .inl (by simp [h1])
  by_cases hz : rows = []
  · subst hz
    refine (contract_of_vc (r := .tup [.agg true [.int .i64 kk, .int .i64 i, .int .i64 j, .int .i64 n, .nils], .bool true]) mixed Tryz.func145 tr145 ?_).weaken (le_leafT _ _ _ _)
    rcases hcase with q1 | ⟨q1, q2⟩
    · simp only [go_sem, reduceIte, reduceCtorEq, Nat.reduceAdd, Nat.reduceSub, Nat.reduceMul, Nat.reduceLT, Nat.reduceLeDiff, Nat.reduceEqDiff, Nat.reduceBEq, Nat.reduceGT, Int.reduceEq, Int.reduceNe, Int.reduceLT, Int.reduceLE, Int.reduceToNat, Int.reduceNeg, Int.reduceBEq, Int.reduceAdd, Int.reduceSub, Int.reduceGT, Int.reduceGE, Int.reduceBNe, q1]
    · simp only [go_sem, reduceIte, reduceCtorEq, Nat.reduceAdd, Nat.reduceSub, Nat.reduceMul, Nat.reduceLT, Nat.reduceLeDiff, Nat.reduceEqDiff, Nat.reduceBEq, Nat.reduceGT, Int.reduceEq, Int.reduceNe, Int.reduceLT, Int.reduceLE, Int.reduceToNat, Int.reduceNeg, Int.reduceBEq, Int.reduceAdd, Int.reduceSub, Int.reduceGT, Int.reduceGE, Int.reduceBNe, q1, q2]
  · have hz1 : ((rows.length : Int) == 0) = false := by
      have : rows.length ≠ 0 := fun h => hz (List.length_eq_zero_iff.1 h)
      simp; omega
    have hz2 : (rows.length : Int) * 56 ≤ 140737488355328 := by omega
    have hz3 : (rows.length : Int) ≤ 140737488355328 := by omega
    have hz4 : (0 : Int) ≤ (rows.length : Int) := by omega
    have core : ∀ r0, (allS X 0 rows = none → r0 = .tup [.agg true [.int .i64 0, .int .i64 0, .int .i64 0, .int .i64 0, .nils], .bool false]) →
        (∀ us, allS X 0 rows = some us → r0 = .tup [.agg true [.int .i64 kk, .int .i64 i, .int .i64 j, .int .i64 n, .dsl 5 us], .bool true]) →
        Con 145 [pv u, .agg true [.int .i64 kk, .int .i64 i, .int .i64 j, .int .i64 n, .dsl 5 rows], .int .i64 d, .bool b] r0 := by
      intro r0 hn hs
      refine contract_of_vc mixed Tryz.func145 tr145 ?_
      rcases hcase with q1 | ⟨q1, q2⟩
      · simp only [go_sem, reduceIte, reduceCtorEq, Nat.reduceAdd, Nat.reduceSub, Nat.reduceMul, Nat.reduceLT, Nat.reduceLeDiff, Nat.reduceEqDiff, Nat.reduceBEq, Nat.reduceGT, Int.reduceEq, Int.reduceNe, Int.reduceLT, Int.reduceLE, Int.reduceToNat, Int.reduceNeg, Int.reduceBEq, Int.reduceAdd, Int.reduceSub, Int.reduceGT, Int.reduceGE, Int.reduceBNe, q1, hz1, hz2, hz3, hz4, Int.le_refl]
        clear q1
        intros
        refine vc_forp (fun x => ⟨(pv u :: .junk :: .int .i64 d :: .bool b :: .junk :: .ref 0 0 0 0 :: .junk :: .junk :: .ref 1 0 0 0 :: .junk :: .osl 2 0 0 rows.length :: .junk :: .junk :: .junk :: .junk :: .junk :: .junk :: .junk :: .junk :: .junk :: .junk :: .junk :: .junk :: .junk :: .junk :: .junk :: .junk :: .junk :: .junk :: .junk :: .junk :: .junk :: .junk :: .junk :: .junk :: .junk :: .junk :: .junk :: .junk :: .junk :: .junk :: .junk :: .junk :: .junk :: .junk :: .dsl 5 rows :: .int .i64 rows.length :: .int .i64 x :: .junk :: .junk :: .junk :: .junk :: .junk :: .junk :: .junk :: .junk :: .junk :: .junk :: .junk :: .junk :: .junk :: .junk :: .junk :: .junk :: .junk :: .junk :: .junk :: .junk :: .junk :: .junk :: .junk :: .junk :: .junk :: .junk :: .junk :: .junk :: .junk :: .junk :: .junk :: .junk :: .junk :: .junk :: .junk :: .junk :: .junk :: []),
          [⟨true, 5, [[.int .i64 kk, .int .i64 i, .int .i64 j, .int .i64 n, .dsl 5 rows]], 0, 0, true⟩, ⟨true, 5, [[.int .i64 0, .int .i64 0, .int .i64 0, .int .i64 0, .nils]], 0, 0, true⟩,
           ⟨false, 5, ys.take x ++ List.replicate (ys.length - x) [.int .i64 0, .int .i64 0, .int .i64 0, .int .i64 0, .nils], 0, 0, true⟩]⟩) rows.length (fun x => X x (rows[x]?.getD []) ≠ none) (fun x hx hp => ?_) ?_
        · simp only [go_sem, reduceIte, reduceCtorEq, Nat.reduceAdd, Nat.reduceSub, Nat.reduceMul, Nat.reduceLT, Nat.reduceLeDiff, Nat.reduceEqDiff, Nat.reduceBEq, Nat.reduceGT, Int.reduceEq, Int.reduceNe, Int.reduceLT, Int.reduceLE, Int.reduceToNat, Int.reduceNeg, Int.reduceBEq, Int.reduceAdd, Int.reduceSub, Int.reduceGT, Int.reduceGE, Int.reduceBNe]
          refine ⟨fun h => ?_, fun h => ?_⟩
          · have hlt := of_decide_eq_true h
            have hlt' : x < rows.length := by omega
            have e0 : (0 : Int) ≤ (x : Int) := by omega
            have hm := get_lt (d := []) hlt'
            have h5' := h5 _ hm
            have hb := binds_le kk x
            have ew : IntKind.i64.wrap (d + bindsN kk x) = d + bindsN kk x := w64 (by unfold fit; omega)
            have hc := H x _ hm
            cases b <;> cases h12 : (kk == 12) <;> cases hx2 : ((x : Int) == 2)
            all_goals
              simp only [go_sem, reduceIte, reduceCtorEq, Nat.reduceAdd, Nat.reduceSub, Nat.reduceMul, Nat.reduceLT, Nat.reduceLeDiff, Nat.reduceEqDiff, Nat.reduceBEq, Nat.reduceGT, Int.reduceEq, Int.reduceNe, Int.reduceLT, Int.reduceLE, Int.reduceToNat, Int.reduceNeg, Int.reduceBEq, Int.reduceAdd, Int.reduceSub, Int.reduceGT, Int.reduceGE, Int.reduceBNe, hlt, e0, h5', h12, hx2]
              refine callK_of (con_binds kk x) ?_
              simp only [go_sem, reduceIte, reduceCtorEq, Nat.reduceAdd, Nat.reduceSub, Nat.reduceMul, Nat.reduceLT, Nat.reduceLeDiff, Nat.reduceEqDiff, Nat.reduceBEq, Nat.reduceGT, Int.reduceEq, Int.reduceNe, Int.reduceLT, Int.reduceLE, Int.reduceToNat, Int.reduceNeg, Int.reduceBEq, Int.reduceAdd, Int.reduceSub, Int.reduceGT, Int.reduceGE, Int.reduceBNe, ew, h12, hx2]
              refine callK_of (hc _) ?_
              cases hX1 : X x (rows[x]?.getD []) with
              | none =>
                have hz1 := tv_len zT
                simp only [go_sem, reduceIte, reduceCtorEq, Nat.reduceAdd, Nat.reduceSub, Nat.reduceMul, Nat.reduceLT, Nat.reduceLeDiff, Nat.reduceEqDiff, Nat.reduceBEq, Nat.reduceGT, Int.reduceEq, Int.reduceNe, Int.reduceLT, Int.reduceLE, Int.reduceToNat, Int.reduceNeg, Int.reduceBEq, Int.reduceAdd, Int.reduceSub, Int.reduceGT, Int.reduceGE, Int.reduceBNe, resR, hz1]
                exact hn (allS_none (d := []) (i := x) hlt' (by rw [Nat.zero_add]; exact hX1))
              | some u =>
                have hu := hX x _ hm u hX1
                have hy := hyx x hlt'
                rw [hX1, Option.getD_some] at hy
                simp only [go_sem, reduceIte, reduceCtorEq, Nat.reduceAdd, Nat.reduceSub, Nat.reduceMul, Nat.reduceLT, Nat.reduceLeDiff, Nat.reduceEqDiff, Nat.reduceBEq, Nat.reduceGT, Int.reduceEq, Int.reduceNe, Int.reduceLT, Int.reduceLE, Int.reduceToNat, Int.reduceNeg, Int.reduceBEq, Int.reduceAdd, Int.reduceSub, Int.reduceGT, Int.reduceGE, Int.reduceBNe, resR, hu, hlt', hys]
                have ts := take_set (l := ys) (z := [.int .i64 0, .int .i64 0, .int .i64 0, .int .i64 0, .nils]) (d := []) (i := x) (by omega)
                rw [hy, hys] at ts
                refine ⟨⟨e0, hlt⟩, by simp [hys]; omega, ?_⟩
                rw [w64 (n := (x : Int) + 1) (by unfold fit; omega), show (x : Int) + 1 = ((x + 1 : Nat) : Int) by omega]
                exact wk_trunc 3 (by simp [slotsLe]) (by simp only [List.take_succ_cons, List.take_zero, ts]) (by simp [below]) (by simp)
          · have hge := of_decide_eq_false h
            have hxe : x = rows.length := by omega
            have he := hend (fun y hy => hp y (by omega))
            subst hxe
            have ht : ys.take rows.length = ys := by rw [← hys, List.take_length]
            simp only [go_sem, reduceIte, reduceCtorEq, Nat.reduceAdd, Nat.reduceSub, Nat.reduceMul, Nat.reduceLT, Nat.reduceLeDiff, Nat.reduceEqDiff, Nat.reduceBEq, Nat.reduceGT, Int.reduceEq, Int.reduceNe, Int.reduceLT, Int.reduceLE, Int.reduceToNat, Int.reduceNeg, Int.reduceBEq, Int.reduceAdd, Int.reduceSub, Int.reduceGT, Int.reduceGE, Int.reduceBNe, h, hys, ht, Nat.sub_self, List.replicate_zero, List.append_nil]
            exact hs _ he
        · simp only [List.take_zero, List.nil_append, Nat.sub_zero, hys]
          exact wk_slots (by simp [slotsLe])
      · simp only [go_sem, reduceIte, reduceCtorEq, Nat.reduceAdd, Nat.reduceSub, Nat.reduceMul, Nat.reduceLT, Nat.reduceLeDiff, Nat.reduceEqDiff, Nat.reduceBEq, Nat.reduceGT, Int.reduceEq, Int.reduceNe, Int.reduceLT, Int.reduceLE, Int.reduceToNat, Int.reduceNeg, Int.reduceBEq, Int.reduceAdd, Int.reduceSub, Int.reduceGT, Int.reduceGE, Int.reduceBNe, q1, q2, hz1, hz2, hz3, hz4, Int.le_refl]
        clear q1 q2
        intros
        refine vc_forp (fun x => ⟨(pv u :: .junk :: .int .i64 d :: .bool b :: .junk :: .ref 0 0 0 0 :: .junk :: .junk :: .ref 1 0 0 0 :: .junk :: .osl 2 0 0 rows.length :: .junk :: .junk :: .junk :: .junk :: .junk :: .junk :: .junk :: .junk :: .junk :: .junk :: .junk :: .junk :: .junk :: .junk :: .junk :: .junk :: .junk :: .junk :: .junk :: .junk :: .junk :: .junk :: .junk :: .junk :: .junk :: .junk :: .junk :: .junk :: .junk :: .junk :: .junk :: .junk :: .junk :: .junk :: .dsl 5 rows :: .int .i64 rows.length :: .int .i64 x :: .junk :: .junk :: .junk :: .junk :: .junk :: .junk :: .junk :: .junk :: .junk :: .junk :: .junk :: .junk :: .junk :: .junk :: .junk :: .junk :: .junk :: .junk :: .junk :: .junk :: .junk :: .junk :: .junk :: .junk :: .junk :: .junk :: .junk :: .junk :: .junk :: .junk :: .junk :: .junk :: .junk :: .junk :: .junk :: .junk :: .junk :: []),
          [⟨true, 5, [[.int .i64 kk, .int .i64 i, .int .i64 j, .int .i64 n, .dsl 5 rows]], 0, 0, true⟩, ⟨true, 5, [[.int .i64 0, .int .i64 0, .int .i64 0, .int .i64 0, .nils]], 0, 0, true⟩,
           ⟨false, 5, ys.take x ++ List.replicate (ys.length - x) [.int .i64 0, .int .i64 0, .int .i64 0, .int .i64 0, .nils], 0, 0, true⟩]⟩) rows.length (fun x => X x (rows[x]?.getD []) ≠ none) (fun x hx hp => ?_) ?_
        · simp only [go_sem, reduceIte, reduceCtorEq, Nat.reduceAdd, Nat.reduceSub, Nat.reduceMul, Nat.reduceLT, Nat.reduceLeDiff, Nat.reduceEqDiff, Nat.reduceBEq, Nat.reduceGT, Int.reduceEq, Int.reduceNe, Int.reduceLT, Int.reduceLE, Int.reduceToNat, Int.reduceNeg, Int.reduceBEq, Int.reduceAdd, Int.reduceSub, Int.reduceGT, Int.reduceGE, Int.reduceBNe]
          refine ⟨fun h => ?_, fun h => ?_⟩
          · have hlt := of_decide_eq_true h
            have hlt' : x < rows.length := by omega
            have e0 : (0 : Int) ≤ (x : Int) := by omega
            have hm := get_lt (d := []) hlt'
            have h5' := h5 _ hm
            have hb := binds_le kk x
            have ew : IntKind.i64.wrap (d + bindsN kk x) = d + bindsN kk x := w64 (by unfold fit; omega)
            have hc := H x _ hm
            cases b <;> cases h12 : (kk == 12) <;> cases hx2 : ((x : Int) == 2)
            all_goals
              simp only [go_sem, reduceIte, reduceCtorEq, Nat.reduceAdd, Nat.reduceSub, Nat.reduceMul, Nat.reduceLT, Nat.reduceLeDiff, Nat.reduceEqDiff, Nat.reduceBEq, Nat.reduceGT, Int.reduceEq, Int.reduceNe, Int.reduceLT, Int.reduceLE, Int.reduceToNat, Int.reduceNeg, Int.reduceBEq, Int.reduceAdd, Int.reduceSub, Int.reduceGT, Int.reduceGE, Int.reduceBNe, hlt, e0, h5', h12, hx2]
              refine callK_of (con_binds kk x) ?_
              simp only [go_sem, reduceIte, reduceCtorEq, Nat.reduceAdd, Nat.reduceSub, Nat.reduceMul, Nat.reduceLT, Nat.reduceLeDiff, Nat.reduceEqDiff, Nat.reduceBEq, Nat.reduceGT, Int.reduceEq, Int.reduceNe, Int.reduceLT, Int.reduceLE, Int.reduceToNat, Int.reduceNeg, Int.reduceBEq, Int.reduceAdd, Int.reduceSub, Int.reduceGT, Int.reduceGE, Int.reduceBNe, ew, h12, hx2]
              refine callK_of (hc _) ?_
              cases hX1 : X x (rows[x]?.getD []) with
              | none =>
                have hz1 := tv_len zT
                simp only [go_sem, reduceIte, reduceCtorEq, Nat.reduceAdd, Nat.reduceSub, Nat.reduceMul, Nat.reduceLT, Nat.reduceLeDiff, Nat.reduceEqDiff, Nat.reduceBEq, Nat.reduceGT, Int.reduceEq, Int.reduceNe, Int.reduceLT, Int.reduceLE, Int.reduceToNat, Int.reduceNeg, Int.reduceBEq, Int.reduceAdd, Int.reduceSub, Int.reduceGT, Int.reduceGE, Int.reduceBNe, resR, hz1]
                exact hn (allS_none (d := []) (i := x) hlt' (by rw [Nat.zero_add]; exact hX1))
              | some u =>
                have hu := hX x _ hm u hX1
                have hy := hyx x hlt'
                rw [hX1, Option.getD_some] at hy
                simp only [go_sem, reduceIte, reduceCtorEq, Nat.reduceAdd, Nat.reduceSub, Nat.reduceMul, Nat.reduceLT, Nat.reduceLeDiff, Nat.reduceEqDiff, Nat.reduceBEq, Nat.reduceGT, Int.reduceEq, Int.reduceNe, Int.reduceLT, Int.reduceLE, Int.reduceToNat, Int.reduceNeg, Int.reduceBEq, Int.reduceAdd, Int.reduceSub, Int.reduceGT, Int.reduceGE, Int.reduceBNe, resR, hu, hlt', hys]
                have ts := take_set (l := ys) (z := [.int .i64 0, .int .i64 0, .int .i64 0, .int .i64 0, .nils]) (d := []) (i := x) (by omega)
                rw [hy, hys] at ts
                refine ⟨⟨e0, hlt⟩, by simp [hys]; omega, ?_⟩
                rw [w64 (n := (x : Int) + 1) (by unfold fit; omega), show (x : Int) + 1 = ((x + 1 : Nat) : Int) by omega]
                exact wk_trunc 3 (by simp [slotsLe]) (by simp only [List.take_succ_cons, List.take_zero, ts]) (by simp [below]) (by simp)
          · have hge := of_decide_eq_false h
            have hxe : x = rows.length := by omega
            have he := hend (fun y hy => hp y (by omega))
            subst hxe
            have ht : ys.take rows.length = ys := by rw [← hys, List.take_length]
            simp only [go_sem, reduceIte, reduceCtorEq, Nat.reduceAdd, Nat.reduceSub, Nat.reduceMul, Nat.reduceLT, Nat.reduceLeDiff, Nat.reduceEqDiff, Nat.reduceBEq, Nat.reduceGT, Int.reduceEq, Int.reduceNe, Int.reduceLT, Int.reduceLE, Int.reduceToNat, Int.reduceNeg, Int.reduceBEq, Int.reduceAdd, Int.reduceSub, Int.reduceGT, Int.reduceGE, Int.reduceBNe, h, hys, ht, Nat.sub_self, List.replicate_zero, List.append_nil]
            exact hs _ he
        · simp only [List.take_zero, List.nil_append, Nat.sub_zero, hys]
          exact wk_slots (by simp [slotsLe])
    cases hA : allS X 0 rows with
    | none =>
      refine (core _ (fun _ => rfl) (fun us h => ?_)).weaken le_none
      rw [hA] at h
      cases h
    | some us =>
      refine core _ (fun h => ?_) (fun us' h => ?_)
      · rw [hA] at h
        cases h
      · rw [hA] at h
        cases h
        rfl
end Go.Proofs.YtkldipbhenabfaaGreat.Abs

set_option linter.unusedSimpArgs false
set_option linter.unusedVariables false
set_option linter.unusedSimpArgs false
set_option linter.unusedVariables false
namespace Go.Proofs.YtkldipbhenabfaaGreat.Abs
open Go Go.RowKit Go.Proofs.YtkldipbhenabfaaGreat

mutual
def putT (u : Tm) : Int → Tm → Option Tm
  | d, .mk kk i j n l =>
    if kk = 2 ∧ d ≤ i then (if i = d then liftT d 0 u else some (vr (i - 1)))
    else (putL u d kk 0 l).map (Tm.mk kk i j n)
def putL (u : Tm) : Int → Int → Nat → List Tm → Option (List Tm)
  | _, _, _, [] => some []
  | d, kk, p, t :: l => match putT u (d + bindsN kk p) t with
    | none => none
    | some v => match putL u d kk (p + 1) l with
      | none => none
      | some r => some (v :: r)
end
theorem putL_all (u : Tm) (d kk : Int) : ∀ (l : List Tm) (p : Nat), putL u d kk p l = allS (fun p t => putT u (d + bindsN kk p) t) p l := by
  intro l
  induction l with
  | nil => intro p; rw [putL]; rfl
  | cons t l ih =>
    intro p
    rw [putL, allS, ih]
    cases putT u (d + bindsN kk p) t with
    | none => rfl
    | some v => cases allS (fun p t => putT u (d + bindsN kk ((p : Nat) : Int)) t) (p + 1) l <;> rfl
theorem putT_var {u : Tm} {d kk i j n : Int} {l : List Tm} (h : kk = 2 ∧ d ≤ i) : putT u d (.mk kk i j n l) = if i = d then liftT d 0 u else some (vr (i - 1)) := by
  rw [putT, if_pos h]
theorem putT_node {u : Tm} {d kk i j n : Int} {l : List Tm} (h : ¬ (kk = 2 ∧ d ≤ i)) : putT u d (.mk kk i j n l) = (allS (fun p t => putT u (d + bindsN kk p) t) 0 l).map (Tm.mk kk i j n) := by
  rw [putT, if_neg h, putL_all]
theorem putT_v {u : Tm} {d kk i j n : Int} {l : List Tm} (h : ¬ (kk = 2 ∧ d ≤ i)) :
    ((allS (fun p r => onT (fun t => (putT u (d + bindsN kk (p : Nat)) t).map tv) none r) 0 (l.map tv)).map fun rs => [.int .i64 kk, .int .i64 i, .int .i64 j, .int .i64 n, .dsl 5 rs]) = (putT u d (.mk kk i j n l)).map tv := by
  rw [allS_map, allS_congr (Y := fun p t => (putT u (d + bindsN kk (p : Nat)) t).map tv) (fun p t _ => by rw [onT_tv]), allS_post, putT_node h]
  simp only [Option.map_map]
  congr 1
  funext rs
  simp only [Function.comp, tv_mk]

set_option maxRecDepth 10000 in
theorem con_walk_var (u : Tm) (hu : TOk u) (w : Int) (hr : rightT u w = true) (hh : (2 : Int) * hgtT u ≤ 1000000000000) (kk i j n d : Int) (b : Bool) (l : List Tm) (h1 : kk = 2) (h2 : d ≤ i) (hi : i ≤ 2147483647) (hd : 0 ≤ d) :
    Con 145 [pv u, .agg true (tv (.mk kk i j n l)), .int .i64 d, .bool b] (resR ((putT u d (.mk kk i j n l)).map tv)) := by
  rw [putT_var ⟨h1, h2⟩]
  have ew : IntKind.i64.wrap (i - d) = i - d := w64 (by unfold fit; omega)
  have q1 : (kk == 2) = true := by simp [h1]
  by_cases h : i = d
  · rw [if_pos h]
    have hc := con_at_one u hu d b hd w hr hh
    rw [show (0 : Int) = i - d by omega] at hc
    refine contract_of_vc mixed Tryz.func145 tr145 ?_
    rw [tv_mk]
    simp only [go_sem, reduceIte, reduceCtorEq, Nat.reduceAdd, Nat.reduceSub, Nat.reduceMul, Nat.reduceLT, Nat.reduceLeDiff, Nat.reduceEqDiff, Nat.reduceBEq, Nat.reduceGT, Int.reduceEq, Int.reduceNe, Int.reduceLT, Int.reduceLE, Int.reduceToNat, Int.reduceNeg, Int.reduceBEq, Int.reduceAdd, Int.reduceSub, Int.reduceGT, Int.reduceGE, Int.reduceBNe, q1, h2, ew]
    refine callK_of hc ?_
    rw [show i - d = 0 by omega]
    cases liftT d 0 u with
    | none =>
      have hz := tv_len zT
      simp only [go_sem, reduceIte, reduceCtorEq, Nat.reduceAdd, Nat.reduceSub, Nat.reduceMul, Nat.reduceLT, Nat.reduceLeDiff, Nat.reduceEqDiff, Nat.reduceBEq, Nat.reduceGT, Int.reduceEq, Int.reduceNe, Int.reduceLT, Int.reduceLE, Int.reduceToNat, Int.reduceNeg, Int.reduceBEq, Int.reduceAdd, Int.reduceSub, Int.reduceGT, Int.reduceGE, Int.reduceBNe, resR, Option.map_none, hz]
    | some v =>
      have hz := tv_len v
      simp only [go_sem, reduceIte, reduceCtorEq, Nat.reduceAdd, Nat.reduceSub, Nat.reduceMul, Nat.reduceLT, Nat.reduceLeDiff, Nat.reduceEqDiff, Nat.reduceBEq, Nat.reduceGT, Int.reduceEq, Int.reduceNe, Int.reduceLT, Int.reduceLE, Int.reduceToNat, Int.reduceNeg, Int.reduceBEq, Int.reduceAdd, Int.reduceSub, Int.reduceGT, Int.reduceGE, Int.reduceBNe, resR, Option.map_some, hz]
  · rw [if_neg h]
    have hc := con_at_hi u (i - d) d b hd (by omega) (by omega) (by omega)
    rw [show i - d - 1 + d = i - 1 by omega] at hc
    have hz := tv_len (vr (i - 1))
    refine contract_of_vc mixed Tryz.func145 tr145 ?_
    rw [tv_mk]
    simp only [go_sem, reduceIte, reduceCtorEq, Nat.reduceAdd, Nat.reduceSub, Nat.reduceMul, Nat.reduceLT, Nat.reduceLeDiff, Nat.reduceEqDiff, Nat.reduceBEq, Nat.reduceGT, Int.reduceEq, Int.reduceNe, Int.reduceLT, Int.reduceLE, Int.reduceToNat, Int.reduceNeg, Int.reduceBEq, Int.reduceAdd, Int.reduceSub, Int.reduceGT, Int.reduceGE, Int.reduceBNe, q1, h2, ew]
    refine callK_of hc ?_
    simp only [go_sem, reduceIte, reduceCtorEq, Nat.reduceAdd, Nat.reduceSub, Nat.reduceMul, Nat.reduceLT, Nat.reduceLeDiff, Nat.reduceEqDiff, Nat.reduceBEq, Nat.reduceGT, Int.reduceEq, Int.reduceNe, Int.reduceLT, Int.reduceLE, Int.reduceToNat, Int.reduceNeg, Int.reduceBEq, Int.reduceAdd, Int.reduceSub, Int.reduceGT, Int.reduceGE, Int.reduceBNe, resR, Option.map_some, hz]

theorem con_walk (u : Tm) (hu : TOk u) (wu : Int) (hru : rightT u wu = true) (hh : (2 : Int) * hgtT u ≤ 1000000000000) (t : Tm) : TOk t → ∀ (w d : Int) (b : Bool), rightT t w = true → 0 ≤ d → d + 2 * hgtT t ≤ 1000000000000 →
    Con 145 [pv u, .agg true (tv t), .int .i64 d, .bool b] (resR ((putT u d t).map tv)) := by
  induction t using Tm.ind with
  | h kk i j n l ih =>
    intro hok w d b hr hd hb2
    cases hok with
    | mk _ _ _ _ _ f1 f2 f3 f4 hb hl =>
    rw [hgtT_mk] at hb2
    by_cases hv : kk = 2 ∧ d ≤ i
    · exact con_walk_var u hu wu hru hh kk i j n d b l hv.1 hv.2 (right_var hr hv.1).2 hd
    · have h := con_walk_rows u kk i j n d b (l.map tv) (fun p r => onT (fun t => (putT u (d + bindsN kk (p : Nat)) t).map tv) none r) (by simpa using hb) (rows5 l) hv hd (by omega)
        (fun p r hr u hu => by
          obtain ⟨t, ht, rfl⟩ := List.mem_map.1 hr
          simp only [onT_tv] at hu
          cases he : putT _ (d + bindsN kk (p : Nat)) t with
          | none => rw [he] at hu; cases hu
          | some v => rw [he] at hu; cases hu; exact tv_len v)
        (fun p r hr' b' => by
          obtain ⟨t, ht, rfl⟩ := List.mem_map.1 hr'
          simp only [onT_tv]
          obtain ⟨w', hw⟩ := right_kid hr ht
          have hm := hgt_mem ht
          have hbl := binds_le kk p
          exact ih t ht (hl t ht) w' _ b' hw (by omega) (by omega))
      rw [putT_v hv, ← tv_mk] at h
      exact h

theorem plain_kind {t : Tm} (h : plainT t = true) : t.k = 1 ∨ t.k = 2 ∨ 13 ≤ t.k := by
  cases t with
  | mk k i j n l =>
  show k = 1 ∨ k = 2 ∨ 13 ≤ k
  have h' : rightT (.mk k i j n l) 2 = true := h
  rw [rightT_mk, Bool.and_eq_true] at h'
  have h1 := h'.1
  unfold rightN at h1
  rw [Bool.and_eq_true] at h1
  have h2 := h1.1
  unfold sortN at h2
  by_cases a : k = 1 ∨ k = 2
  · omega
  · rw [if_neg a] at h2
    by_cases b : k ≤ 12
    · rw [if_pos b] at h2
      exact absurd h2 (by decide)
    · omega

set_option maxRecDepth 10000 in
set_option maxHeartbeats 2000000 in
theorem con_strip1 (t : Tm) (ht : TOk t) (hp : plainT t = true) : Con 89 [.agg true (tv t)] (.agg true (tv t)) := by
  have hk := plain_kind hp
  have hc := con_copy t ht
  cases t with
  | mk k i j n l =>
  change k = 1 ∨ k = 2 ∨ 13 ≤ k at hk
  have q3 : (k == 3) = false := by simp; omega
  have q4 : (k == 4) = false := by simp; omega
  have q5 : (k == 5) = false := by simp; omega
  have q6 : (k == 6) = false := by simp; omega
  have q7 : (k == 7) = false := by simp; omega
  have q8 : (k == 8) = false := by simp; omega
  have q9 : (k == 9) = false := by simp; omega
  have q10 : (k == 10) = false := by simp; omega
  have q11 : (k == 11) = false := by simp; omega
  have q12 : (k == 12) = false := by simp; omega
  refine contract_of_vc mixed Tryz.func89 tr89 ?_
  rw [tv_mk] at hc ⊢
  simp only [go_sem, reduceIte, reduceCtorEq, Nat.reduceAdd, Nat.reduceSub, Nat.reduceMul, Nat.reduceLT, Nat.reduceLeDiff, Nat.reduceEqDiff, Nat.reduceBEq, Nat.reduceGT, Int.reduceEq, Int.reduceNe, Int.reduceLT, Int.reduceLE, Int.reduceToNat, Int.reduceNeg, Int.reduceBEq, Int.reduceAdd, Int.reduceSub, Int.reduceGT, Int.reduceGE, Int.reduceBNe, q3, q4, q5, q6, q7, q8, q9, q10, q11, q12]
  refine callK_of hc ?_
  simp only [go_sem, reduceIte, reduceCtorEq, Nat.reduceAdd, Nat.reduceSub, Nat.reduceMul, Nat.reduceLT, Nat.reduceLeDiff, Nat.reduceEqDiff, Nat.reduceBEq, Nat.reduceGT, Int.reduceEq, Int.reduceNe, Int.reduceLT, Int.reduceLE, Int.reduceToNat, Int.reduceNeg, Int.reduceBEq, Int.reduceAdd, Int.reduceSub, Int.reduceGT, Int.reduceGE, Int.reduceBNe]
theorem con_strip (t : Tm) (ht : TOk t) (hp : plainT t = true) : Con 49 [.agg true (tv t)] (.agg true (tv t)) := by
  have h1 := con_rightq t ht
  rw [right_weak hp] at h1
  have h2 := con_strip1 t ht hp
  have hz := tv_len t
  refine contract_of_vc mixed Tryz.func49 tr49 ?_
  simp only [go_sem, reduceIte, reduceCtorEq, Nat.reduceAdd, Nat.reduceSub, Nat.reduceMul, Nat.reduceLT, Nat.reduceLeDiff, Nat.reduceEqDiff, Nat.reduceBEq, Nat.reduceGT, Int.reduceEq, Int.reduceNe, Int.reduceLT, Int.reduceLE, Int.reduceToNat, Int.reduceNeg, Int.reduceBEq, Int.reduceAdd, Int.reduceSub, Int.reduceGT, Int.reduceGE, Int.reduceBNe, hz]
  refine callK_of h1 ?_
  simp only [go_sem, reduceIte, reduceCtorEq, Nat.reduceAdd, Nat.reduceSub, Nat.reduceMul, Nat.reduceLT, Nat.reduceLeDiff, Nat.reduceEqDiff, Nat.reduceBEq, Nat.reduceGT, Int.reduceEq, Int.reduceNe, Int.reduceLT, Int.reduceLE, Int.reduceToNat, Int.reduceNeg, Int.reduceBEq, Int.reduceAdd, Int.reduceSub, Int.reduceGT, Int.reduceGE, Int.reduceBNe, hz]
  refine callK_of h2 ?_
  simp only [go_sem, reduceIte, reduceCtorEq, Nat.reduceAdd, Nat.reduceSub, Nat.reduceMul, Nat.reduceLT, Nat.reduceLeDiff, Nat.reduceEqDiff, Nat.reduceBEq, Nat.reduceGT, Int.reduceEq, Int.reduceNe, Int.reduceLT, Int.reduceLE, Int.reduceToNat, Int.reduceNeg, Int.reduceBEq, Int.reduceAdd, Int.reduceSub, Int.reduceGT, Int.reduceGE, Int.reduceBNe, hz]
theorem con_open (t : Tm) (hp : plainT t = true) : Con 144 [.agg true (tv t)] (.bool true) := by
  have hk := plain_kind hp
  cases t with
  | mk k i j n l =>
  change k = 1 ∨ k = 2 ∨ 13 ≤ k at hk
  refine contract_of_vc mixed Tryz.func144 tr144 ?_
  rw [tv_mk]
  rcases hk with rfl | rfl | hk
  · simp only [go_sem, reduceIte, reduceCtorEq, Nat.reduceAdd, Nat.reduceSub, Nat.reduceMul, Nat.reduceLT, Nat.reduceLeDiff, Nat.reduceEqDiff, Nat.reduceBEq, Nat.reduceGT, Int.reduceEq, Int.reduceNe, Int.reduceLT, Int.reduceLE, Int.reduceToNat, Int.reduceNeg, Int.reduceBEq, Int.reduceAdd, Int.reduceSub, Int.reduceGT, Int.reduceGE, Int.reduceBNe]
  · simp only [go_sem, reduceIte, reduceCtorEq, Nat.reduceAdd, Nat.reduceSub, Nat.reduceMul, Nat.reduceLT, Nat.reduceLeDiff, Nat.reduceEqDiff, Nat.reduceBEq, Nat.reduceGT, Int.reduceEq, Int.reduceNe, Int.reduceLT, Int.reduceLE, Int.reduceToNat, Int.reduceNeg, Int.reduceBEq, Int.reduceAdd, Int.reduceSub, Int.reduceGT, Int.reduceGE, Int.reduceBNe]
  · have q1 : (k == 1) = false := by simp; omega
    have q2 : (k == 2) = false := by simp; omega
    simp only [go_sem, reduceIte, reduceCtorEq, Nat.reduceAdd, Nat.reduceSub, Nat.reduceMul, Nat.reduceLT, Nat.reduceLeDiff, Nat.reduceEqDiff, Nat.reduceBEq, Nat.reduceGT, Int.reduceEq, Int.reduceNe, Int.reduceLT, Int.reduceLE, Int.reduceToNat, Int.reduceNeg, Int.reduceBEq, Int.reduceAdd, Int.reduceSub, Int.reduceGT, Int.reduceGE, Int.reduceBNe, q1, q2, hk]
end Go.Proofs.YtkldipbhenabfaaGreat.Abs

