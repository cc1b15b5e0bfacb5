/- Putting terms for all variables: by the program. -/
import Derived.Test.YtkldipbhenabfaaGreatRJj
set_option linter.unusedSimpArgs false
set_option linter.unusedVariables false
namespace Go.Proofs.YtkldipbhenabfaaGreat.Abs
open Go Go.RowKit Go.Proofs.YtkldipbhenabfaaGreat

abbrev pvL (L : List Tm) : SV := .dref 3 [.dsl 5 (L.map tv), .dsl 5 (L.map tv), .bool false] 0
mutual
def allT (L : List Tm) : Int → Tm → Option Tm
  | d, .mk kk i j n l =>
    if kk = 2 ∧ d ≤ i then (match L[(i - d).toNat]? with | some u => liftT d 0 u | none => none)
    else (allL L d kk 0 l).map (Tm.mk kk i j n)
def allL (L : List Tm) : Int → Int → Nat → List Tm → Option (List Tm)
  | _, _, _, [] => some []
  | d, kk, p, t :: l => match allT L (d + bindsN kk p) t with
    | none => none
    | some v => match allL L d kk (p + 1) l with
      | none => none
      | some r => some (v :: r)
end
theorem allL_all (L : List Tm) (d kk : Int) : ∀ (l : List Tm) (p : Nat), allL L d kk p l = allS (fun p t => allT L (d + bindsN kk p) t) p l := by
  intro l
  induction l with
  | nil => intro p; rw [allL]; rfl
  | cons t l ih =>
    intro p
    rw [allL, allS, ih]
    cases allT L (d + bindsN kk p) t with
    | none => rfl
    | some v => cases allS (fun p t => allT L (d + bindsN kk ((p : Nat) : Int)) t) (p + 1) l <;> rfl
theorem allT_var {L : List Tm} {d kk i j n : Int} {l : List Tm} (h : kk = 2 ∧ d ≤ i) {u : Tm} (hu : L[(i - d).toNat]? = some u) : allT L d (.mk kk i j n l) = liftT d 0 u := by
  rw [allT, if_pos h, hu]
theorem allT_node {L : List Tm} {d kk i j n : Int} {l : List Tm} (h : ¬ (kk = 2 ∧ d ≤ i)) : allT L d (.mk kk i j n l) = (allS (fun p t => allT L (d + bindsN kk p) t) 0 l).map (Tm.mk kk i j n) := by
  rw [allT, if_neg h, allL_all]
theorem allT_v {L : List Tm} {d kk i j n : Int} {l : List Tm} (h : ¬ (kk = 2 ∧ d ≤ i)) :
    ((allS (fun p r => onT (fun t => (allT L (d + bindsN kk (p : Nat)) t).map tv) none r) 0 (l.map tv)).map fun rs => [.int .i64 kk, .int .i64 i, .int .i64 j, .int .i64 n, .dsl 5 rs]) = (allT L d (.mk kk i j n l)).map tv := by
  rw [allS_map, allS_congr (Y := fun p t => (allT L (d + bindsN kk (p : Nat)) t).map tv) (fun p t _ => by rw [onT_tv]), allS_post, allT_node h]
  simp only [Option.map_map]
  congr 1
  funext rs
  simp only [Function.comp, tv_mk]

set_option maxRecDepth 10000 in
theorem con_atL (L : List Tm) (hL : ∀ u ∈ L, TOk u ∧ rightT u 0 = true ∧ hgtT u ≤ 1000) (n : Nat) (hn : n < L.length) (hn2 : L.length ≤ 1000) (d : Int) (b : Bool) (hd : 0 ≤ d) :
    Con 160 [pvL L, .int .i64 n, .int .i64 d, .bool b] (resR ((liftT d 0 (L[n]?.getD default)).map tv)) := by
  obtain ⟨hu, hr, hh⟩ := hL _ (get_lt (d := default) hn)
  have hrow : (L.map tv)[n]?.getD [] = tv (L[n]?.getD default) := by rw [List.getElem?_map, List.getElem?_eq_getElem hn]; rfl
  have hlen : (L.map tv).length = L.length := by simp
  generalize L[n]?.getD default = u at *
  have hc := con_blift d hd u hu 0 0 hr (by omega) (by omega)
  have hz := tv_len u
  unfold pvL
  generalize L.map tv = rows at *
  have a1 : ¬ ((rows.length : Int) ≤ (n : Int)) := by omega
  have a2 : (n : Int) < (rows.length : Int) := by omega
  have a3 : (0 : Int) ≤ (n : Int) := by omega
  cases hl : liftT d 0 u with
  | none =>
    rw [hl] at hc
    have hzz := tv_len zT
    refine contract_of_vc mixed Tryz.func160 tr160 ?_
    cases b
    all_goals
      simp only [go_sem, reduceIte, reduceCtorEq, Nat.reduceAdd, Nat.reduceSub, Nat.reduceMul, Nat.reduceLT, Nat.reduceLeDiff, Nat.reduceEqDiff, Nat.reduceBEq, Nat.reduceGT, Int.reduceEq, Int.reduceNe, Int.reduceLT, Int.reduceLE, Int.reduceToNat, Int.reduceNeg, Int.reduceBEq, Int.reduceAdd, Int.reduceSub, Int.reduceGT, Int.reduceGE, Int.reduceBNe, hz, a1, a2, a3, hrow]
      intros
      refine callK_of hc ?_
      simp only [go_sem, reduceIte, reduceCtorEq, Nat.reduceAdd, Nat.reduceSub, Nat.reduceMul, Nat.reduceLT, Nat.reduceLeDiff, Nat.reduceEqDiff, Nat.reduceBEq, Nat.reduceGT, Int.reduceEq, Int.reduceNe, Int.reduceLT, Int.reduceLE, Int.reduceToNat, Int.reduceNeg, Int.reduceBEq, Int.reduceAdd, Int.reduceSub, Int.reduceGT, Int.reduceGE, Int.reduceBNe, resR, Option.map_none, hzz]
  | some v =>
    rw [hl] at hc
    have hzz := tv_len v
    refine contract_of_vc mixed Tryz.func160 tr160 ?_
    cases b
    all_goals
      simp only [go_sem, reduceIte, reduceCtorEq, Nat.reduceAdd, Nat.reduceSub, Nat.reduceMul, Nat.reduceLT, Nat.reduceLeDiff, Nat.reduceEqDiff, Nat.reduceBEq, Nat.reduceGT, Int.reduceEq, Int.reduceNe, Int.reduceLT, Int.reduceLE, Int.reduceToNat, Int.reduceNeg, Int.reduceBEq, Int.reduceAdd, Int.reduceSub, Int.reduceGT, Int.reduceGE, Int.reduceBNe, hz, a1, a2, a3, hrow]
      intros
      refine callK_of hc ?_
      simp only [go_sem, reduceIte, reduceCtorEq, Nat.reduceAdd, Nat.reduceSub, Nat.reduceMul, Nat.reduceLT, Nat.reduceLeDiff, Nat.reduceEqDiff, Nat.reduceBEq, Nat.reduceGT, Int.reduceEq, Int.reduceNe, Int.reduceLT, Int.reduceLE, Int.reduceToNat, Int.reduceNeg, Int.reduceBEq, Int.reduceAdd, Int.reduceSub, Int.reduceGT, Int.reduceGE, Int.reduceBNe, resR, Option.map_some, hzz]

set_option maxRecDepth 20000 in
set_option maxHeartbeats 4000000 in
theorem con_walkL_rows (cs : List SV) (kk i j n d : Int) (b : Bool) (rows : List (List SV)) (X : Nat → List SV → Option (List SV)) (h2 : rows.length * 56 ≤ 140737488355328) (h5 : ∀ r ∈ rows, r.length = 5)
    (hv : ¬ (kk = 2 ∧ d ≤ i)) (hd : 0 ≤ d) (hd2 : d ≤ 1000000000000) (hX : ∀ p : Nat, ∀ r ∈ rows, ∀ u, X p r = some u → u.length = 5)
    (H : ∀ p : Nat, p < rows.length → ∀ b', Con 145 [.dref 3 cs 0, .agg true (rows[p]?.getD []), .int .i64 (d + bindsN kk p), .bool b'] (resR (X p (rows[p]?.getD [])))) :
    Con 145 [.dref 3 cs 0, .agg true [.int .i64 kk, .int .i64 i, .int .i64 j, .int .i64 n, .dsl 5 rows], .int .i64 d, .bool b] (resR ((allS X 0 rows).map fun rs => [.int .i64 kk, .int .i64 i, .int .i64 j, .int .i64 n, .dsl 5 rs])) := by
  have hys : ((List.range rows.length).map fun p => (X p (rows[p]?.getD [])).getD []).length = rows.length := by simp
  have hyx : ∀ x, x < rows.length → ((List.range rows.length).map fun p => (X p (rows[p]?.getD [])).getD [])[x]?.getD [] = (X x (rows[x]?.getD [])).getD [] := fun x hx => by
    rw [List.getElem?_map, List.getElem?_range hx]; rfl
  have hend : (∀ x, x < rows.length → X x (rows[x]?.getD []) ≠ none) → allS X 0 rows = some ((List.range rows.length).map fun p => (X p (rows[p]?.getD [])).getD []) := fun h => by
    rw [allS_some (d := []) (e := []) (fun x hx => by rw [Nat.zero_add]; exact h x hx)]
    simp only [Nat.zero_add]
  generalize ((List.range rows.length).map fun p => (X p (rows[p]?.getD [])).getD []) = ys at *
  have hcase : (kk == 2) = false ∨ ((kk == 2) = true ∧ ¬ d ≤ i) := by
    by_cases h1 : kk = 2
    · exact .inr ⟨by simp [h1], fun h => hv ⟨h1, h⟩⟩
    · exact .inl (by simp [h1])
  by_cases hz : rows = []
  · subst hz
    refine (contract_of_vc (r := .tup [.agg true [.int .i64 kk, .int .i64 i, .int .i64 j, .int .i64 n, .nils], .bool true]) mixed Tryz.func145 tr145 ?_).weaken (le_leafT _ _ _ _)
    rcases hcase with q1 | ⟨q1, q2⟩
    · simp only [go_sem, reduceIte, reduceCtorEq, Nat.reduceAdd, Nat.reduceSub, Nat.reduceMul, Nat.reduceLT, Nat.reduceLeDiff, Nat.reduceEqDiff, Nat.reduceBEq, Nat.reduceGT, Int.reduceEq, Int.reduceNe, Int.reduceLT, Int.reduceLE, Int.reduceToNat, Int.reduceNeg, Int.reduceBEq, Int.reduceAdd, Int.reduceSub, Int.reduceGT, Int.reduceGE, Int.reduceBNe, q1]
    · simp only [go_sem, reduceIte, reduceCtorEq, Nat.reduceAdd, Nat.reduceSub, Nat.reduceMul, Nat.reduceLT, Nat.reduceLeDiff, Nat.reduceEqDiff, Nat.reduceBEq, Nat.reduceGT, Int.reduceEq, Int.reduceNe, Int.reduceLT, Int.reduceLE, Int.reduceToNat, Int.reduceNeg, Int.reduceBEq, Int.reduceAdd, Int.reduceSub, Int.reduceGT, Int.reduceGE, Int.reduceBNe, q1, q2]
  · have hz1 : ((rows.length : Int) == 0) = false := by
      have : rows.length ≠ 0 := fun h => hz (List.length_eq_zero_iff.1 h)
      simp; omega
    have hz2 : (rows.length : Int) * 56 ≤ 140737488355328 := by omega
    have hz3 : (rows.length : Int) ≤ 140737488355328 := by omega
    have hz4 : (0 : Int) ≤ (rows.length : Int) := by omega
    have core : ∀ r0, (allS X 0 rows = none → r0 = .tup [.agg true [.int .i64 0, .int .i64 0, .int .i64 0, .int .i64 0, .nils], .bool false]) →
        (∀ us, allS X 0 rows = some us → r0 = .tup [.agg true [.int .i64 kk, .int .i64 i, .int .i64 j, .int .i64 n, .dsl 5 us], .bool true]) →
        Con 145 [.dref 3 cs 0, .agg true [.int .i64 kk, .int .i64 i, .int .i64 j, .int .i64 n, .dsl 5 rows], .int .i64 d, .bool b] r0 := by
      intro r0 hn hs
      refine contract_of_vc mixed Tryz.func145 tr145 ?_
      rcases hcase with q1 | ⟨q1, q2⟩
      · simp only [go_sem, reduceIte, reduceCtorEq, Nat.reduceAdd, Nat.reduceSub, Nat.reduceMul, Nat.reduceLT, Nat.reduceLeDiff, Nat.reduceEqDiff, Nat.reduceBEq, Nat.reduceGT, Int.reduceEq, Int.reduceNe, Int.reduceLT, Int.reduceLE, Int.reduceToNat, Int.reduceNeg, Int.reduceBEq, Int.reduceAdd, Int.reduceSub, Int.reduceGT, Int.reduceGE, Int.reduceBNe, q1, hz1, hz2, hz3, hz4, Int.le_refl]
        clear q1
        intros
        refine vc_forp (fun x => ⟨(.dref 3 cs 0 :: .junk :: .int .i64 d :: .bool b :: .junk :: .ref 0 0 0 0 :: .junk :: .junk :: .ref 1 0 0 0 :: .junk :: .osl 2 0 0 rows.length :: .junk :: .junk :: .junk :: .junk :: .junk :: .junk :: .junk :: .junk :: .junk :: .junk :: .junk :: .junk :: .junk :: .junk :: .junk :: .junk :: .junk :: .junk :: .junk :: .junk :: .junk :: .junk :: .junk :: .junk :: .junk :: .junk :: .junk :: .junk :: .junk :: .junk :: .junk :: .junk :: .junk :: .junk :: .dsl 5 rows :: .int .i64 rows.length :: .int .i64 x :: .junk :: .junk :: .junk :: .junk :: .junk :: .junk :: .junk :: .junk :: .junk :: .junk :: .junk :: .junk :: .junk :: .junk :: .junk :: .junk :: .junk :: .junk :: .junk :: .junk :: .junk :: .junk :: .junk :: .junk :: .junk :: .junk :: .junk :: .junk :: .junk :: .junk :: .junk :: .junk :: .junk :: .junk :: .junk :: .junk :: .junk :: []),
          [⟨true, 5, [[.int .i64 kk, .int .i64 i, .int .i64 j, .int .i64 n, .dsl 5 rows]], 0, 0, true⟩, ⟨true, 5, [[.int .i64 0, .int .i64 0, .int .i64 0, .int .i64 0, .nils]], 0, 0, true⟩,
           ⟨false, 5, ys.take x ++ List.replicate (ys.length - x) [.int .i64 0, .int .i64 0, .int .i64 0, .int .i64 0, .nils], 0, 0, true⟩]⟩) rows.length (fun x => X x (rows[x]?.getD []) ≠ none) (fun x hx hp => ?_) ?_
        · simp only [go_sem, reduceIte, reduceCtorEq, Nat.reduceAdd, Nat.reduceSub, Nat.reduceMul, Nat.reduceLT, Nat.reduceLeDiff, Nat.reduceEqDiff, Nat.reduceBEq, Nat.reduceGT, Int.reduceEq, Int.reduceNe, Int.reduceLT, Int.reduceLE, Int.reduceToNat, Int.reduceNeg, Int.reduceBEq, Int.reduceAdd, Int.reduceSub, Int.reduceGT, Int.reduceGE, Int.reduceBNe]
          refine ⟨fun h => ?_, fun h => ?_⟩
          · have hlt := of_decide_eq_true h
            have hlt' : x < rows.length := by omega
            have e0 : (0 : Int) ≤ (x : Int) := by omega
            have hm := get_lt (d := []) hlt'
            have h5' := h5 _ hm
            have hb := binds_le kk x
            have ew : IntKind.i64.wrap (d + bindsN kk x) = d + bindsN kk x := w64 (by unfold fit; omega)
            have hc := H x hlt'
            cases b <;> cases h12 : (kk == 12) <;> cases hx2 : ((x : Int) == 2)
            all_goals
              simp only [go_sem, reduceIte, reduceCtorEq, Nat.reduceAdd, Nat.reduceSub, Nat.reduceMul, Nat.reduceLT, Nat.reduceLeDiff, Nat.reduceEqDiff, Nat.reduceBEq, Nat.reduceGT, Int.reduceEq, Int.reduceNe, Int.reduceLT, Int.reduceLE, Int.reduceToNat, Int.reduceNeg, Int.reduceBEq, Int.reduceAdd, Int.reduceSub, Int.reduceGT, Int.reduceGE, Int.reduceBNe, hlt, e0, h5', h12, hx2]
              refine callK_of (con_binds kk x) ?_
              simp only [go_sem, reduceIte, reduceCtorEq, Nat.reduceAdd, Nat.reduceSub, Nat.reduceMul, Nat.reduceLT, Nat.reduceLeDiff, Nat.reduceEqDiff, Nat.reduceBEq, Nat.reduceGT, Int.reduceEq, Int.reduceNe, Int.reduceLT, Int.reduceLE, Int.reduceToNat, Int.reduceNeg, Int.reduceBEq, Int.reduceAdd, Int.reduceSub, Int.reduceGT, Int.reduceGE, Int.reduceBNe, ew, h12, hx2]
              refine callK_of (hc _) ?_
              cases hX1 : X x (rows[x]?.getD []) with
              | none =>
                have hz1 := tv_len zT
                simp only [go_sem, reduceIte, reduceCtorEq, Nat.reduceAdd, Nat.reduceSub, Nat.reduceMul, Nat.reduceLT, Nat.reduceLeDiff, Nat.reduceEqDiff, Nat.reduceBEq, Nat.reduceGT, Int.reduceEq, Int.reduceNe, Int.reduceLT, Int.reduceLE, Int.reduceToNat, Int.reduceNeg, Int.reduceBEq, Int.reduceAdd, Int.reduceSub, Int.reduceGT, Int.reduceGE, Int.reduceBNe, resR, hz1]
                exact hn (allS_none (d := []) (i := x) hlt' (by rw [Nat.zero_add]; exact hX1))
              | some u =>
                have hu := hX x _ hm u hX1
                have hy := hyx x hlt'
                rw [hX1, Option.getD_some] at hy
                simp only [go_sem, reduceIte, reduceCtorEq, Nat.reduceAdd, Nat.reduceSub, Nat.reduceMul, Nat.reduceLT, Nat.reduceLeDiff, Nat.reduceEqDiff, Nat.reduceBEq, Nat.reduceGT, Int.reduceEq, Int.reduceNe, Int.reduceLT, Int.reduceLE, Int.reduceToNat, Int.reduceNeg, Int.reduceBEq, Int.reduceAdd, Int.reduceSub, Int.reduceGT, Int.reduceGE, Int.reduceBNe, resR, hu, hlt', hys]
                have ts := take_set (l := ys) (z := [.int .i64 0, .int .i64 0, .int .i64 0, .int .i64 0, .nils]) (d := []) (i := x) (by omega)
                rw [hy, hys] at ts
                refine ⟨⟨e0, hlt⟩, by simp [hys]; omega, ?_⟩
                rw [w64 (n := (x : Int) + 1) (by unfold fit; omega), show (x : Int) + 1 = ((x + 1 : Nat) : Int) by omega]
                exact wk_trunc 3 (by simp [slotsLe]) (by simp only [List.take_succ_cons, List.take_zero, ts]) (by simp [below]) (by simp)
          · have hge := of_decide_eq_false h
            have hxe : x = rows.length := by omega
            have he := hend (fun y hy => hp y (by omega))
            subst hxe
            have ht : ys.take rows.length = ys := by rw [← hys, List.take_length]
            simp only [go_sem, reduceIte, reduceCtorEq, Nat.reduceAdd, Nat.reduceSub, Nat.reduceMul, Nat.reduceLT, Nat.reduceLeDiff, Nat.reduceEqDiff, Nat.reduceBEq, Nat.reduceGT, Int.reduceEq, Int.reduceNe, Int.reduceLT, Int.reduceLE, Int.reduceToNat, Int.reduceNeg, Int.reduceBEq, Int.reduceAdd, Int.reduceSub, Int.reduceGT, Int.reduceGE, Int.reduceBNe, h, hys, ht, Nat.sub_self, List.replicate_zero, List.append_nil]
            exact hs _ he
        · simp only [List.take_zero, List.nil_append, Nat.sub_zero, hys]
          exact wk_slots (by simp [slotsLe])
      · simp only [go_sem, reduceIte, reduceCtorEq, Nat.reduceAdd, Nat.reduceSub, Nat.reduceMul, Nat.reduceLT, Nat.reduceLeDiff, Nat.reduceEqDiff, Nat.reduceBEq, Nat.reduceGT, Int.reduceEq, Int.reduceNe, Int.reduceLT, Int.reduceLE, Int.reduceToNat, Int.reduceNeg, Int.reduceBEq, Int.reduceAdd, Int.reduceSub, Int.reduceGT, Int.reduceGE, Int.reduceBNe, q1, q2, hz1, hz2, hz3, hz4, Int.le_refl]
        clear q1 q2
        intros
        refine vc_forp (fun x => ⟨(.dref 3 cs 0 :: .junk :: .int .i64 d :: .bool b :: .junk :: .ref 0 0 0 0 :: .junk :: .junk :: .ref 1 0 0 0 :: .junk :: .osl 2 0 0 rows.length :: .junk :: .junk :: .junk :: .junk :: .junk :: .junk :: .junk :: .junk :: .junk :: .junk :: .junk :: .junk :: .junk :: .junk :: .junk :: .junk :: .junk :: .junk :: .junk :: .junk :: .junk :: .junk :: .junk :: .junk :: .junk :: .junk :: .junk :: .junk :: .junk :: .junk :: .junk :: .junk :: .junk :: .junk :: .dsl 5 rows :: .int .i64 rows.length :: .int .i64 x :: .junk :: .junk :: .junk :: .junk :: .junk :: .junk :: .junk :: .junk :: .junk :: .junk :: .junk :: .junk :: .junk :: .junk :: .junk :: .junk :: .junk :: .junk :: .junk :: .junk :: .junk :: .junk :: .junk :: .junk :: .junk :: .junk :: .junk :: .junk :: .junk :: .junk :: .junk :: .junk :: .junk :: .junk :: .junk :: .junk :: .junk :: []),
          [⟨true, 5, [[.int .i64 kk, .int .i64 i, .int .i64 j, .int .i64 n, .dsl 5 rows]], 0, 0, true⟩, ⟨true, 5, [[.int .i64 0, .int .i64 0, .int .i64 0, .int .i64 0, .nils]], 0, 0, true⟩,
           ⟨false, 5, ys.take x ++ List.replicate (ys.length - x) [.int .i64 0, .int .i64 0, .int .i64 0, .int .i64 0, .nils], 0, 0, true⟩]⟩) rows.length (fun x => X x (rows[x]?.getD []) ≠ none) (fun x hx hp => ?_) ?_
        · simp only [go_sem, reduceIte, reduceCtorEq, Nat.reduceAdd, Nat.reduceSub, Nat.reduceMul, Nat.reduceLT, Nat.reduceLeDiff, Nat.reduceEqDiff, Nat.reduceBEq, Nat.reduceGT, Int.reduceEq, Int.reduceNe, Int.reduceLT, Int.reduceLE, Int.reduceToNat, Int.reduceNeg, Int.reduceBEq, Int.reduceAdd, Int.reduceSub, Int.reduceGT, Int.reduceGE, Int.reduceBNe]
          refine ⟨fun h => ?_, fun h => ?_⟩
          · have hlt := of_decide_eq_true h
            have hlt' : x < rows.length := by omega
            have e0 : (0 : Int) ≤ (x : Int) := by omega
            have hm := get_lt (d := []) hlt'
            have h5' := h5 _ hm
            have hb := binds_le kk x
            have ew : IntKind.i64.wrap (d + bindsN kk x) = d + bindsN kk x := w64 (by unfold fit; omega)
            have hc := H x hlt'
            cases b <;> cases h12 : (kk == 12) <;> cases hx2 : ((x : Int) == 2)
            all_goals
              simp only [go_sem, reduceIte, reduceCtorEq, Nat.reduceAdd, Nat.reduceSub, Nat.reduceMul, Nat.reduceLT, Nat.reduceLeDiff, Nat.reduceEqDiff, Nat.reduceBEq, Nat.reduceGT, Int.reduceEq, Int.reduceNe, Int.reduceLT, Int.reduceLE, Int.reduceToNat, Int.reduceNeg, Int.reduceBEq, Int.reduceAdd, Int.reduceSub, Int.reduceGT, Int.reduceGE, Int.reduceBNe, hlt, e0, h5', h12, hx2]
              refine callK_of (con_binds kk x) ?_
              simp only [go_sem, reduceIte, reduceCtorEq, Nat.reduceAdd, Nat.reduceSub, Nat.reduceMul, Nat.reduceLT, Nat.reduceLeDiff, Nat.reduceEqDiff, Nat.reduceBEq, Nat.reduceGT, Int.reduceEq, Int.reduceNe, Int.reduceLT, Int.reduceLE, Int.reduceToNat, Int.reduceNeg, Int.reduceBEq, Int.reduceAdd, Int.reduceSub, Int.reduceGT, Int.reduceGE, Int.reduceBNe, ew, h12, hx2]
              refine callK_of (hc _) ?_
              cases hX1 : X x (rows[x]?.getD []) with
              | none =>
                have hz1 := tv_len zT
                simp only [go_sem, reduceIte, reduceCtorEq, Nat.reduceAdd, Nat.reduceSub, Nat.reduceMul, Nat.reduceLT, Nat.reduceLeDiff, Nat.reduceEqDiff, Nat.reduceBEq, Nat.reduceGT, Int.reduceEq, Int.reduceNe, Int.reduceLT, Int.reduceLE, Int.reduceToNat, Int.reduceNeg, Int.reduceBEq, Int.reduceAdd, Int.reduceSub, Int.reduceGT, Int.reduceGE, Int.reduceBNe, resR, hz1]
                exact hn (allS_none (d := []) (i := x) hlt' (by rw [Nat.zero_add]; exact hX1))
              | some u =>
                have hu := hX x _ hm u hX1
                have hy := hyx x hlt'
                rw [hX1, Option.getD_some] at hy
                simp only [go_sem, reduceIte, reduceCtorEq, Nat.reduceAdd, Nat.reduceSub, Nat.reduceMul, Nat.reduceLT, Nat.reduceLeDiff, Nat.reduceEqDiff, Nat.reduceBEq, Nat.reduceGT, Int.reduceEq, Int.reduceNe, Int.reduceLT, Int.reduceLE, Int.reduceToNat, Int.reduceNeg, Int.reduceBEq, Int.reduceAdd, Int.reduceSub, Int.reduceGT, Int.reduceGE, Int.reduceBNe, resR, hu, hlt', hys]
                have ts := take_set (l := ys) (z := [.int .i64 0, .int .i64 0, .int .i64 0, .int .i64 0, .nils]) (d := []) (i := x) (by omega)
                rw [hy, hys] at ts
                refine ⟨⟨e0, hlt⟩, by simp [hys]; omega, ?_⟩
                rw [w64 (n := (x : Int) + 1) (by unfold fit; omega), show (x : Int) + 1 = ((x + 1 : Nat) : Int) by omega]
                exact wk_trunc 3 (by simp [slotsLe]) (by simp only [List.take_succ_cons, List.take_zero, ts]) (by simp [below]) (by simp)
          · have hge := of_decide_eq_false h
            have hxe : x = rows.length := by omega
            have he := hend (fun y hy => hp y (by omega))
            subst hxe
            have ht : ys.take rows.length = ys := by rw [← hys, List.take_length]
            simp only [go_sem, reduceIte, reduceCtorEq, Nat.reduceAdd, Nat.reduceSub, Nat.reduceMul, Nat.reduceLT, Nat.reduceLeDiff, Nat.reduceEqDiff, Nat.reduceBEq, Nat.reduceGT, Int.reduceEq, Int.reduceNe, Int.reduceLT, Int.reduceLE, Int.reduceToNat, Int.reduceNeg, Int.reduceBEq, Int.reduceAdd, Int.reduceSub, Int.reduceGT, Int.reduceGE, Int.reduceBNe, h, hys, ht, Nat.sub_self, List.replicate_zero, List.append_nil]
            exact hs _ he
        · simp only [List.take_zero, List.nil_append, Nat.sub_zero, hys]
          exact wk_slots (by simp [slotsLe])
    cases hA : allS X 0 rows with
    | none =>
      refine (core _ (fun _ => rfl) (fun us h => ?_)).weaken le_none
      rw [hA] at h
      cases h
    | some us =>
      refine core _ (fun h => ?_) (fun us' h => ?_)
      · rw [hA] at h
        cases h
      · rw [hA] at h
        cases h
        rfl
end Go.Proofs.YtkldipbhenabfaaGreat.Abs

