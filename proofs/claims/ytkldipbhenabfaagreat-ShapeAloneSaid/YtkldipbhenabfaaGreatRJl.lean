/- Sameness and relatedness, by the program. -/
import Derived.Test.YtkldipbhenabfaaGreatRJe
import Derived.Test.YtkldipbhenabfaaGreatRJj
set_option linter.unusedSimpArgs false
set_option linter.unusedVariables false
namespace Go.Proofs.YtkldipbhenabfaaGreat.Abs
open Go Go.RowKit Go.Proofs.YtkldipbhenabfaaGreat

open Classical in
noncomputable def eqT (a b : Tm) : Bool := decide (a = b)
theorem eqT_self (a : Tm) : eqT a a = true := by unfold eqT; simp
theorem eqT_ne {a b : Tm} (h : a ≠ b) : eqT a b = false := by unfold eqT; simp [h]
theorem eqT_iff {a b : Tm} : eqT a b = true ↔ a = b := by unfold eqT; simp

set_option maxRecDepth 10000 in
set_option maxHeartbeats 2000000 in
theorem con_bsame_rows (k i j n k' i' j' n' : Int) (rows rows' : List (List SV)) (E : Nat → Bool) (h5 : ∀ r ∈ rows, r.length = 5) (h5' : ∀ r ∈ rows', r.length = 5) (h2 : rows.length * 56 ≤ 140737488355328)
    (H : ∀ x, x < rows.length → x < rows'.length → Con 57 [.agg true (rows[x]?.getD []), .agg true (rows'[x]?.getD [])] (.bool (E x))) (r0 : Bool)
    (hn : ¬ (k = k' ∧ i = i' ∧ j = j' ∧ n = n' ∧ rows.length = rows'.length) → r0 = false)
    (hf : k = k' → i = i' → j = j' → n = n' → rows.length = rows'.length → ∀ x, x < rows.length → E x = false → r0 = false)
    (ht : k = k' → i = i' → j = j' → n = n' → rows.length = rows'.length → (∀ x, x < rows.length → E x = true) → r0 = true) :
    Con 57 [.agg true [.int .i64 k, .int .i64 i, .int .i64 j, .int .i64 n, .dsl 5 rows], .agg true [.int .i64 k', .int .i64 i', .int .i64 j', .int .i64 n', .dsl 5 rows']] (.bool r0) := by
  refine contract_of_vc mixed Tryz.func57 tr57 ?_
  by_cases a1 : k = k'
  rotate_left
  · have q : (k != k') = true := by simp [a1]
    rw [hn (fun h => a1 h.1)]
    simp only [go_sem, reduceIte, reduceCtorEq, Nat.reduceAdd, Nat.reduceSub, Nat.reduceMul, Nat.reduceLT, Nat.reduceLeDiff, Nat.reduceEqDiff, Nat.reduceBEq, Nat.reduceGT, Int.reduceEq, Int.reduceNe, Int.reduceLT, Int.reduceLE, Int.reduceToNat, Int.reduceNeg, Int.reduceBEq, Int.reduceAdd, Int.reduceSub, Int.reduceGT, Int.reduceGE, Int.reduceBNe, q]
  have q1 : (k != k') = false := by simp [a1]
  by_cases a2 : i = i'
  rotate_left
  · have q : (i != i') = true := by simp [a2]
    rw [hn (fun h => a2 h.2.1)]
    simp only [go_sem, reduceIte, reduceCtorEq, Nat.reduceAdd, Nat.reduceSub, Nat.reduceMul, Nat.reduceLT, Nat.reduceLeDiff, Nat.reduceEqDiff, Nat.reduceBEq, Nat.reduceGT, Int.reduceEq, Int.reduceNe, Int.reduceLT, Int.reduceLE, Int.reduceToNat, Int.reduceNeg, Int.reduceBEq, Int.reduceAdd, Int.reduceSub, Int.reduceGT, Int.reduceGE, Int.reduceBNe, q1, q]
  have q2 : (i != i') = false := by simp [a2]
  by_cases a3 : j = j'
  rotate_left
  · have q : (j != j') = true := by simp [a3]
    rw [hn (fun h => a3 h.2.2.1)]
    simp only [go_sem, reduceIte, reduceCtorEq, Nat.reduceAdd, Nat.reduceSub, Nat.reduceMul, Nat.reduceLT, Nat.reduceLeDiff, Nat.reduceEqDiff, Nat.reduceBEq, Nat.reduceGT, Int.reduceEq, Int.reduceNe, Int.reduceLT, Int.reduceLE, Int.reduceToNat, Int.reduceNeg, Int.reduceBEq, Int.reduceAdd, Int.reduceSub, Int.reduceGT, Int.reduceGE, Int.reduceBNe, q1, q2, q]
  have q3 : (j != j') = false := by simp [a3]
  by_cases a4 : n = n'
  rotate_left
  · have q : (n != n') = true := by simp [a4]
    rw [hn (fun h => a4 h.2.2.2.1)]
    simp only [go_sem, reduceIte, reduceCtorEq, Nat.reduceAdd, Nat.reduceSub, Nat.reduceMul, Nat.reduceLT, Nat.reduceLeDiff, Nat.reduceEqDiff, Nat.reduceBEq, Nat.reduceGT, Int.reduceEq, Int.reduceNe, Int.reduceLT, Int.reduceLE, Int.reduceToNat, Int.reduceNeg, Int.reduceBEq, Int.reduceAdd, Int.reduceSub, Int.reduceGT, Int.reduceGE, Int.reduceBNe, q1, q2, q3, q]
  have q4 : (n != n') = false := by simp [a4]
  by_cases a5 : rows.length = rows'.length
  rotate_left
  · have q : ((rows.length : Int) != (rows'.length : Int)) = true := by simp; omega
    rw [hn (fun h => a5 h.2.2.2.2)]
    simp only [go_sem, reduceIte, reduceCtorEq, Nat.reduceAdd, Nat.reduceSub, Nat.reduceMul, Nat.reduceLT, Nat.reduceLeDiff, Nat.reduceEqDiff, Nat.reduceBEq, Nat.reduceGT, Int.reduceEq, Int.reduceNe, Int.reduceLT, Int.reduceLE, Int.reduceToNat, Int.reduceNeg, Int.reduceBEq, Int.reduceAdd, Int.reduceSub, Int.reduceGT, Int.reduceGE, Int.reduceBNe, q1, q2, q3, q4, q]
    try intros
  have q5 : ((rows.length : Int) != (rows'.length : Int)) = false := by simp; omega
  simp only [go_sem, reduceIte, reduceCtorEq, Nat.reduceAdd, Nat.reduceSub, Nat.reduceMul, Nat.reduceLT, Nat.reduceLeDiff, Nat.reduceEqDiff, Nat.reduceBEq, Nat.reduceGT, Int.reduceEq, Int.reduceNe, Int.reduceLT, Int.reduceLE, Int.reduceToNat, Int.reduceNeg, Int.reduceBEq, Int.reduceAdd, Int.reduceSub, Int.reduceGT, Int.reduceGE, Int.reduceBNe, q1, q2, q3, q4, q5]
  intros
  refine vc_forp (fun x => ⟨(.junk :: .junk :: .ref 0 0 0 0 :: .ref 1 0 0 0 :: .bool false :: .junk :: .junk :: .junk :: .junk :: .junk :: .junk :: .junk :: .junk :: .junk :: .junk :: .junk :: .junk :: .junk :: .junk :: .junk :: .junk :: .junk :: .junk :: .junk :: .junk :: .junk :: .junk :: .junk :: .junk :: .junk :: .junk :: .junk :: .junk :: .junk :: .junk :: .junk :: .junk :: .junk :: .junk :: .junk :: .junk :: .junk :: .junk :: .int .i64 rows.length :: .int .i64 x :: .junk :: .junk :: .junk :: .junk :: .junk :: .junk :: .junk :: .junk :: .junk :: .junk :: .junk :: .junk :: .junk :: .junk :: .junk :: []),
    [⟨true, 5, [[.int .i64 k, .int .i64 i, .int .i64 j, .int .i64 n, .dsl 5 rows]], 0, 0, true⟩, ⟨true, 5, [[.int .i64 k', .int .i64 i', .int .i64 j', .int .i64 n', .dsl 5 rows']], 0, 0, true⟩]⟩) rows.length (fun x => E x = true) (fun x hx hp => ?_) ?_
  · simp only [go_sem, reduceIte, reduceCtorEq, Nat.reduceAdd, Nat.reduceSub, Nat.reduceMul, Nat.reduceLT, Nat.reduceLeDiff, Nat.reduceEqDiff, Nat.reduceBEq, Nat.reduceGT, Int.reduceEq, Int.reduceNe, Int.reduceLT, Int.reduceLE, Int.reduceToNat, Int.reduceNeg, Int.reduceBEq, Int.reduceAdd, Int.reduceSub, Int.reduceGT, Int.reduceGE, Int.reduceBNe]
    refine ⟨fun h => ?_, fun h => ?_⟩
    · have hlt := of_decide_eq_true h
      have hlt' : x < rows.length := by omega
      have hlt2 : x < rows'.length := by omega
      have hltz : (x : Int) < (rows'.length : Int) := by omega
      have e0 : (0 : Int) ≤ (x : Int) := by omega
      have g1 := h5 _ (get_lt (d := []) hlt')
      have g2 := h5' _ (get_lt (d := []) hlt2)
      simp only [go_sem, reduceIte, reduceCtorEq, Nat.reduceAdd, Nat.reduceSub, Nat.reduceMul, Nat.reduceLT, Nat.reduceLeDiff, Nat.reduceEqDiff, Nat.reduceBEq, Nat.reduceGT, Int.reduceEq, Int.reduceNe, Int.reduceLT, Int.reduceLE, Int.reduceToNat, Int.reduceNeg, Int.reduceBEq, Int.reduceAdd, Int.reduceSub, Int.reduceGT, Int.reduceGE, Int.reduceBNe, hlt, hltz, e0, g1, g2]
      refine callK_of (H x hlt' hlt2) ?_
      cases hE : E x <;> simp only [go_sem, reduceIte, reduceCtorEq, Nat.reduceAdd, Nat.reduceSub, Nat.reduceMul, Nat.reduceLT, Nat.reduceLeDiff, Nat.reduceEqDiff, Nat.reduceBEq, Nat.reduceGT, Int.reduceEq, Int.reduceNe, Int.reduceLT, Int.reduceLE, Int.reduceToNat, Int.reduceNeg, Int.reduceBEq, Int.reduceAdd, Int.reduceSub, Int.reduceGT, Int.reduceGE, Int.reduceBNe]
      · rw [hf a1 a2 a3 a4 a5 x hlt' hE]
      · refine ⟨hlt', ?_⟩
        rw [w64 (n := (x : Int) + 1) (by unfold fit; omega)]
        exact wk_slots (by simp [slotsLe])
    · have hge := of_decide_eq_false h
      have hxe : x = rows.length := by omega
      simp only [go_sem, reduceIte, reduceCtorEq, Nat.reduceAdd, Nat.reduceSub, Nat.reduceMul, Nat.reduceLT, Nat.reduceLeDiff, Nat.reduceEqDiff, Nat.reduceBEq, Nat.reduceGT, Int.reduceEq, Int.reduceNe, Int.reduceLT, Int.reduceLE, Int.reduceToNat, Int.reduceNeg, Int.reduceBEq, Int.reduceAdd, Int.reduceSub, Int.reduceGT, Int.reduceGE, Int.reduceBNe, h]
      rw [ht a1 a2 a3 a4 a5 (fun y hy => hp y (by omega))]
  · exact wk_slots (by simp [slotsLe])
theorem con_bsame (a : Tm) : TOk a → ∀ b, TOk b → Con 57 [.agg true (tv a), .agg true (tv b)] (.bool (eqT a b)) := by
  induction a using Tm.ind with
  | h k i j n l ih =>
    intro hok b hb
    cases b with
    | mk k' i' j' n' l' =>
    obtain ⟨_, _, _, _, hbl, hl⟩ := tok_of hok
    obtain ⟨_, _, _, _, hbl', hl'⟩ := tok_of hb
    have e1 : (l.map tv).length = l.length := by simp
    have e2 : (l'.map tv).length = l'.length := by simp
    rw [tv_mk, tv_mk]
    refine con_bsame_rows k i j n k' i' j' n' (l.map tv) (l'.map tv) (fun x => eqT (l[x]?.getD default) (l'[x]?.getD default)) (rows5 l) (rows5 l') (by omega) (fun x hx hx' => ?_) _ (fun h => eqT_ne (fun h' => h ?_)) (fun a1 a2 a3 a4 a5 x hx hE => eqT_ne (fun h' => ?_)) (fun a1 a2 a3 a4 a5 hE => ?_)
    · rw [e1] at hx
      rw [e2] at hx'
      rw [List.getElem?_map, List.getElem?_map, List.getElem?_eq_getElem hx, List.getElem?_eq_getElem hx']
      exact ih _ (List.getElem_mem hx) (hl _ (List.getElem_mem hx)) _ (hl' _ (List.getElem_mem hx'))
    · cases h'
      exact ⟨rfl, rfl, rfl, rfl, rfl⟩
    · cases h'
      rw [eqT_self] at hE
      cases hE
    · subst a1 a2 a3 a4
      rw [e1, e2] at a5
      rw [e1] at hE
      have : l = l' := List.ext_getElem a5 (fun x hx hx' => by
        have := eqT_iff.1 (hE x hx)
        rw [List.getElem?_eq_getElem hx, List.getElem?_eq_getElem hx'] at this
        exact this)
      rw [this]
      exact eqT_self _
noncomputable def relB (a b : Tm) : Bool := markT a && (markT b && eqT (eraseT a) (eraseT b))
theorem tok_erase (t : Tm) : TOk t → markT t = true → TOk (eraseT t) := by
  induction t using Tm.ind with
  | h k i j n l ih =>
    intro hok hm
    obtain ⟨f1, f2, f3, f4, hb, hl⟩ := tok_of hok
    by_cases hk : k = 12
    · subst hk
      obtain ⟨a, b, p, x, rfl, ma, mb, mp, mx⟩ := mark_tr hm
      rw [eraseT_tr]
      exact ih x (by simp) (hl x (by simp)) mx
    · rw [eraseT_no hk]
      refine .mk _ _ _ _ _ f1 f2 f3 f4 (by simpa using hb) (fun u hu => ?_)
      obtain ⟨t, ht, rfl⟩ := List.mem_map.1 hu
      exact ih t ht (hl t ht) (mark_kid hm hk ht)
set_option maxHeartbeats 1000000 in
theorem con_related (a b : Tm) (ha : TOk a) (hb : TOk b) : Con 24 [.agg true (tv a), .agg true (tv b)] (.bool (relB a b)) := by
  have c1 := con_marked a ha
  have c2 := con_marked b hb
  have z1 := tv_len a
  have z2 := tv_len b
  unfold relB
  refine contract_of_vc mixed Tryz.func24 tr24 ?_
  cases m1 : markT a
  · rw [m1] at c1
    repeat' first
      | simp (config := { maxSteps := 2000000 }) only [go_sem, reduceIte, reduceCtorEq, Nat.reduceAdd, Nat.reduceSub, Nat.reduceMul, Nat.reduceLT, Nat.reduceLeDiff, Nat.reduceEqDiff, Nat.reduceBEq, Nat.reduceGT, Int.reduceEq, Int.reduceNe, Int.reduceLT, Int.reduceLE, Int.reduceToNat, Int.reduceNeg, Int.reduceBEq, Int.reduceAdd, Int.reduceSub, Int.reduceGT, Int.reduceGE, Int.reduceBNe, z1, z2]
      | refine callK_of (c1) ?_
      | rfl
  · rw [m1] at c1
    cases m2 : markT b
    · rw [m2] at c2
      repeat' first
        | simp (config := { maxSteps := 2000000 }) only [go_sem, reduceIte, reduceCtorEq, Nat.reduceAdd, Nat.reduceSub, Nat.reduceMul, Nat.reduceLT, Nat.reduceLeDiff, Nat.reduceEqDiff, Nat.reduceBEq, Nat.reduceGT, Int.reduceEq, Int.reduceNe, Int.reduceLT, Int.reduceLE, Int.reduceToNat, Int.reduceNeg, Int.reduceBEq, Int.reduceAdd, Int.reduceSub, Int.reduceGT, Int.reduceGE, Int.reduceBNe, z1, z2]
        | refine callK_of (c1) ?_
        | refine callK_of (c2) ?_
        | rfl
    · rw [m2] at c2
      have c3 := con_erase a ha m1
      have c4 := con_erase b hb m2
      have c5 := con_bsame _ (tok_erase a ha m1) _ (tok_erase b hb m2)
      repeat' first
        | simp (config := { maxSteps := 2000000 }) only [go_sem, reduceIte, reduceCtorEq, Nat.reduceAdd, Nat.reduceSub, Nat.reduceMul, Nat.reduceLT, Nat.reduceLeDiff, Nat.reduceEqDiff, Nat.reduceBEq, Nat.reduceGT, Int.reduceEq, Int.reduceNe, Int.reduceLT, Int.reduceLE, Int.reduceToNat, Int.reduceNeg, Int.reduceBEq, Int.reduceAdd, Int.reduceSub, Int.reduceGT, Int.reduceGE, Int.reduceBNe, z1, z2]
        | refine callK_of (c1) ?_
        | refine callK_of (c2) ?_
        | refine callK_of (c3) ?_
        | refine callK_of (c4) ?_
        | refine callK_of (c5) ?_
        | rfl
end Go.Proofs.YtkldipbhenabfaaGreat.Abs

set_option linter.unusedSimpArgs false
set_option linter.unusedVariables false
namespace Go.Proofs.YtkldipbhenabfaaGreat.Abs
open Go Go.RowKit Go.Proofs.YtkldipbhenabfaaGreat

theorem con_terms (l : List Tm) (hl : ∀ t ∈ l, TOk t) (hb : l.length * 56 ≤ 140737488355328) : Con 10 [.dsl 5 (l.map tv), .dsl 5 (l.map tv)] (.bool true) :=
  con_terms_rows (l.map tv) (by simpa using hb) (rows5 l) (fun r hr => by
    obtain ⟨t, ht, rfl⟩ := List.mem_map.1 hr
    exact con_same t (hl t ht))
theorem con_heavy26 (C : List En) (l : List Tm) (hC : ∀ e ∈ C, e.ok) (hl : ∀ t ∈ l, TOk t) (hb : l.length * 56 ≤ 140737488355328) :
    ∃ z, Con 13 [.dsl 6 (C.map En.v), .dsl 5 (l.map tv)] (.bool z) ∧ (z = false → CtxOk C ∧ C.length ≤ 40 ∧ (∀ e ∈ C, hgtT e.a ≤ 201 ∧ sizT e.a ≤ 40) ∧ ∀ t ∈ l, hgtT t ≤ 201 ∧ sizT t ≤ 80) := by
  obtain ⟨z1, c1, h1⟩ := con_greatctx 40 (by decide) (by decide) C hC
  obtain ⟨z2, c2, h2⟩ := con_greats3 80 (by decide) (by decide) l hl hb
  refine ⟨z1 || z2, contract_of_vc mixed Tryz.func13 tr13 ?_, fun hz => ?_⟩
  · generalize C.map En.v = rows at *
    generalize l.map tv = trs at *
    cases z1
    · repeat' first
        | simp (config := { maxSteps := 2000000 }) only [go_sem, reduceIte, reduceCtorEq, Nat.reduceAdd, Nat.reduceSub, Nat.reduceMul, Nat.reduceLT, Nat.reduceLeDiff, Nat.reduceEqDiff, Nat.reduceBEq, Nat.reduceGT, Int.reduceEq, Int.reduceNe, Int.reduceLT, Int.reduceLE, Int.reduceToNat, Int.reduceNeg, Int.reduceBEq, Int.reduceAdd, Int.reduceSub, Int.reduceGT, Int.reduceGE, Int.reduceBNe, BEq.rfl]
        | refine callK_of (c1) ?_
        | refine callK_of (c2) ?_
        | rfl
    · repeat' first
        | simp (config := { maxSteps := 2000000 }) only [go_sem, reduceIte, reduceCtorEq, Nat.reduceAdd, Nat.reduceSub, Nat.reduceMul, Nat.reduceLT, Nat.reduceLeDiff, Nat.reduceEqDiff, Nat.reduceBEq, Nat.reduceGT, Int.reduceEq, Int.reduceNe, Int.reduceLT, Int.reduceLE, Int.reduceToNat, Int.reduceNeg, Int.reduceBEq, Int.reduceAdd, Int.reduceSub, Int.reduceGT, Int.reduceGE, Int.reduceBNe, BEq.rfl]
        | refine callK_of (c1) ?_
        | rfl
  · rw [Bool.or_eq_false_iff] at hz
    obtain ⟨q1, q2⟩ := h1 hz.1
    have q3 := h2 hz.2
    refine ⟨⟨by omega, fun e he => ⟨hC e he, by have := q2 e he; omega⟩⟩, by omega, fun e he => by have := q2 e he; omega, fun t ht => by have := q3 t ht; omega⟩
theorem con_l26s (i : Int) : Con 55 [.int .i64 i] (.agg true (tv (so i))) := by
  refine (contract_of_vc (r := .agg true [.int .i64 1, .int .i64 i, .int .i64 0, .int .i64 0, .nils]) mixed Tryz.func55 tr55 ?_).weaken (le_leaf _ _ _ _)
  simp only [go_sem, reduceIte, reduceCtorEq, Nat.reduceAdd, Nat.reduceSub, Nat.reduceMul, Nat.reduceLT, Nat.reduceLeDiff, Nat.reduceEqDiff, Nat.reduceBEq, Nat.reduceGT, Int.reduceEq, Int.reduceNe, Int.reduceLT, Int.reduceLE, Int.reduceToNat, Int.reduceNeg, Int.reduceBEq, Int.reduceAdd, Int.reduceSub, Int.reduceGT, Int.reduceGE, Int.reduceBNe]
theorem con_l26v (i : Int) : Con 56 [.int .i64 i] (.agg true (tv (vr i))) := by
  refine (contract_of_vc (r := .agg true [.int .i64 2, .int .i64 i, .int .i64 0, .int .i64 0, .nils]) mixed Tryz.func56 tr56 ?_).weaken (le_leaf _ _ _ _)
  simp only [go_sem, reduceIte, reduceCtorEq, Nat.reduceAdd, Nat.reduceSub, Nat.reduceMul, Nat.reduceLT, Nat.reduceLeDiff, Nat.reduceEqDiff, Nat.reduceBEq, Nat.reduceGT, Int.reduceEq, Int.reduceNe, Int.reduceLT, Int.reduceLE, Int.reduceToNat, Int.reduceNeg, Int.reduceBEq, Int.reduceAdd, Int.reduceSub, Int.reduceGT, Int.reduceGE, Int.reduceBNe]
theorem tokso (i : Int) (h : 0 ≤ i) (h2 : i ≤ 1000) : TOk (so i) := tok_so (by unfold fit; omega)
theorem relB_so (i j : Int) (hi : 0 ≤ i ∧ i ≤ 1000) (hj : 0 ≤ j ∧ j ≤ 1000) : relB (so i) (so j) = (i == j) := by
  have m : ∀ i : Int, 0 ≤ i ∧ i ≤ 1000 → markT (so i) = true := fun i h => by
    show rightT (.mk 1 i 0 0 []) 1 = true
    rw [rightT_mk]
    unfold rightN
    simp [sortN, kidsN, tab, numsB, lev, h, allI]
  have e : ∀ i : Int, eraseT (so i) = so i := fun i => by unfold so; rw [eraseT_no (by decide)]; rfl
  unfold relB
  rw [m i hi, m j hj, e, e, Bool.true_and, Bool.true_and]
  by_cases h : i = j
  · subst h; rw [eqT_self]; simp
  · rw [eqT_ne (fun h' => h (by unfold so at h'; cases h'; rfl)), beq_no h]
theorem con_As1 : Con 20 [.nils, .int .i64 0, .agg true (tv (so 3)), .agg true (tv (so 4)), .agg true (tv (so 4))] (.tup [.agg true (tv (so 3)), .bool true]) := by
  have o3 := tokso 3 (by decide) (by decide)
  have o4 := tokso 4 (by decide) (by decide)
  have c1 := con_marked _ o3
  rw [show markT (so 3) = true by kernel_rfl] at c1
  have c2 := con_related _ _ o4 o4
  rw [relB_so 4 4 (by decide) (by decide)] at c2
  have c3 := con_bsame _ o4 _ o4
  rw [eqT_self] at c3
  have c4 := con_copy _ o3
  refine contract_of_vc mixed Tryz.func20 tr20 ?_
  repeat' first
    | simp (config := { maxSteps := 2000000 }) only [go_sem, reduceIte, reduceCtorEq, Nat.reduceAdd, Nat.reduceSub, Nat.reduceMul, Nat.reduceLT, Nat.reduceLeDiff, Nat.reduceEqDiff, Nat.reduceBEq, Nat.reduceGT, Int.reduceEq, Int.reduceNe, Int.reduceLT, Int.reduceLE, Int.reduceToNat, Int.reduceNeg, Int.reduceBEq, Int.reduceAdd, Int.reduceSub, Int.reduceGT, Int.reduceGE, Int.reduceBNe, BEq.rfl]
    | refine callK_of (c1) ?_
    | refine callK_of (c2) ?_
    | refine callK_of (c3) ?_
    | refine callK_of (c4) ?_
    | rfl
theorem con_As2 : Con 20 [.nils, .int .i64 0, .agg true (tv (so 3)), .agg true (tv (so 4)), .agg true (tv (so 5))] (.tup [.agg true [.int .i64 0, .int .i64 0, .int .i64 0, .int .i64 0, .nils], .bool false]) := by
  have o3 := tokso 3 (by decide) (by decide)
  have o4 := tokso 4 (by decide) (by decide)
  have o5 := tokso 5 (by decide) (by decide)
  have c1 := con_marked _ o3
  rw [show markT (so 3) = true by kernel_rfl] at c1
  have c2 := con_related _ _ o4 o5
  rw [relB_so 4 5 (by decide) (by decide)] at c2
  refine contract_of_vc mixed Tryz.func20 tr20 ?_
  repeat' first
    | simp (config := { maxSteps := 2000000 }) only [go_sem, reduceIte, reduceCtorEq, Nat.reduceAdd, Nat.reduceSub, Nat.reduceMul, Nat.reduceLT, Nat.reduceLeDiff, Nat.reduceEqDiff, Nat.reduceBEq, Nat.reduceGT, Int.reduceEq, Int.reduceNe, Int.reduceLT, Int.reduceLE, Int.reduceToNat, Int.reduceNeg, Int.reduceBEq, Int.reduceAdd, Int.reduceSub, Int.reduceGT, Int.reduceGE, Int.reduceBNe, BEq.rfl]
    | refine callK_of (c1) ?_
    | refine callK_of (c2) ?_
    | rfl
theorem hvJ_11 {i : Int} {a b x y h : Tm} : (hv i a b x y h)[11]? = some (.int .i64 x.k) := by simp [hv, tv_cells]
theorem tvJ_1 {t : Tm} : (tv t)[1]? = some (.int .i64 t.i) := by cases t; rw [tv_mk]; rfl
set_option maxRecDepth 20000 in
set_option maxHeartbeats 4000000 in
theorem con_wakes26 : Con 19 [] (.bool true) := by
  have o0 := tokso 0 (by decide) (by decide)
  have c1 := con_ways [⟨so 0, 1⟩] ⟨by decide, fun e he => by
    rcases List.mem_cons.1 he with rfl | h
    · exact ⟨⟨o0, by show fit 1; unfold fit; omega⟩, by show hgtT (.mk 1 0 0 0 []) ≤ 1000; rw [hgtT_mk, hgtL]; omega⟩
    · cases h⟩
  have e1 : waysF [⟨so 0, 1⟩] = [⟨1, so 0, so 0, vr 0, vr 0, .mk 21 0 0 0 [pts 1, pt 1 (so 0) (vr 0)]⟩] := by kernel_rfl
  rw [e1] at c1
  change Con _ [.dsl 6 [ev6 (so 0) 1]] (.dsl 26 [hv 1 (so 0) (so 0) (vr 0) (vr 0) (.mk 21 0 0 0 [pts 1, pt 1 (so 0) (vr 0)])]) at c1
  have ov : ∀ i : Int, 0 ≤ i → i ≤ 10 → TOk (vr i) := fun i h1 h2 => tok_vr (by unfold fit; omega)
  have c2 := con_head (.mk 12 0 0 0 [vr 1, vr 2, vr 3, vr 0]) (tok_k (by unfold fit; omega) (by simp) (by simp [ov]))
  have e2 : headF (.mk 12 0 0 0 [vr 1, vr 2, vr 3, vr 0]) = vr 0 := by kernel_rfl
  rw [e2, tv_mk] at c2
  have k1 : (vr 0).k = 2 := rfl
  have k2 : (so 3).k = 1 := rfl
  have k3 : (so 3).i = 3 := rfl
  clear e1 e2
  refine contract_of_vc mixed Tryz.func19 tr19 ?_
  repeat' first
    | simp (config := { maxSteps := 2000000 }) only [go_sem, reduceIte, reduceCtorEq, Nat.reduceAdd, Nat.reduceSub, Nat.reduceMul, Nat.reduceLT, Nat.reduceLeDiff, Nat.reduceEqDiff, Nat.reduceBEq, Nat.reduceGT, Int.reduceEq, Int.reduceNe, Int.reduceLT, Int.reduceLE, Int.reduceToNat, Int.reduceNeg, Int.reduceBEq, Int.reduceAdd, Int.reduceSub, Int.reduceGT, Int.reduceGE, Int.reduceBNe, hvJ_11, tvJ_1, tv_0, k1, k2, k3]
    | refine callK_of (con_l26s 0) ?_
    | refine callK_of (con_l26s 3) ?_
    | refine callK_of (con_l26s 4) ?_
    | refine callK_of (con_l26s 5) ?_
    | refine callK_of (con_l26v 0) ?_
    | refine callK_of (con_l26v 1) ?_
    | refine callK_of (con_l26v 2) ?_
    | refine callK_of (con_l26v 3) ?_
    | refine callK_of (c1) ?_
    | refine callK_of (c2) ?_
    | refine callK_of (con_As1) ?_
    | refine callK_of (con_As2) ?_
    | rfl

end Go.Proofs.YtkldipbhenabfaaGreat.Abs

