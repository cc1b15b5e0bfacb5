/- Sameness by the page's keeper; erased contexts. -/
import Derived.Test.YtkldipbhenabfaaGreatRJl
import Derived.Test.YtkldipbhenabfaaGreatRAfT
set_option linter.unusedSimpArgs false
set_option linter.unusedVariables false
namespace Go.Proofs.YtkldipbhenabfaaGreat.Abs
open Go Go.RowKit Go.Proofs.YtkldipbhenabfaaGreat

set_option maxRecDepth 10000 in
set_option maxHeartbeats 1000000 in
theorem con_kterms_rows (rows rows' : List (List SV)) (E : Nat → Bool) (h5 : ∀ r ∈ rows, r.length = 5) (h5' : ∀ r ∈ rows', r.length = 5) (h2 : rows.length * 56 ≤ 140737488355328)
    (H : ∀ x, x < rows.length → x < rows'.length → Con 16 [.agg true (rows[x]?.getD []), .agg true (rows'[x]?.getD [])] (.bool (E x))) (r0 : Bool)
    (hn : rows.length ≠ rows'.length → r0 = false)
    (hf : rows.length = rows'.length → ∀ x, x < rows.length → E x = false → r0 = false)
    (ht : rows.length = rows'.length → (∀ x, x < rows.length → E x = true) → r0 = true) :
    Con 10 [.dsl 5 rows, .dsl 5 rows'] (.bool r0) := by
  refine contract_of_vc mixed Tryz.func10 tr10 ?_
  by_cases a5 : rows.length = rows'.length
  rotate_left
  · have q : ((rows.length : Int) != (rows'.length : Int)) = true := by simp; omega
    rw [hn a5]
    simp only [go_sem, reduceIte, reduceCtorEq, Nat.reduceAdd, Nat.reduceSub, Nat.reduceMul, Nat.reduceLT, Nat.reduceLeDiff, Nat.reduceEqDiff, Nat.reduceBEq, Nat.reduceGT, Int.reduceEq, Int.reduceNe, Int.reduceLT, Int.reduceLE, Int.reduceToNat, Int.reduceNeg, Int.reduceBEq, Int.reduceAdd, Int.reduceSub, Int.reduceGT, Int.reduceGE, Int.reduceBNe, q]
    try intros
  have q5 : ((rows.length : Int) != (rows'.length : Int)) = false := by simp; omega
  simp only [go_sem, reduceIte, reduceCtorEq, Nat.reduceAdd, Nat.reduceSub, Nat.reduceMul, Nat.reduceLT, Nat.reduceLeDiff, Nat.reduceEqDiff, Nat.reduceBEq, Nat.reduceGT, Int.reduceEq, Int.reduceNe, Int.reduceLT, Int.reduceLE, Int.reduceToNat, Int.reduceNeg, Int.reduceBEq, Int.reduceAdd, Int.reduceSub, Int.reduceGT, Int.reduceGE, Int.reduceBNe, q5]
  intros
  refine vc_forp (fun x => ⟨(.dsl 5 rows :: .dsl 5 rows' :: .junk :: .junk :: .bool false :: .int .i64 x :: .junk :: .junk :: .junk :: .junk :: .junk :: .junk :: .junk :: .junk :: .junk :: .junk :: .junk :: .junk :: .junk :: .junk :: .junk :: .junk :: .junk :: .junk :: .junk :: .junk :: .junk :: []), []⟩) rows.length (fun x => E x = true) (fun x hx hp => ?_) ?_
  · simp only [go_sem, reduceIte, reduceCtorEq, Nat.reduceAdd, Nat.reduceSub, Nat.reduceMul, Nat.reduceLT, Nat.reduceLeDiff, Nat.reduceEqDiff, Nat.reduceBEq, Nat.reduceGT, Int.reduceEq, Int.reduceNe, Int.reduceLT, Int.reduceLE, Int.reduceToNat, Int.reduceNeg, Int.reduceBEq, Int.reduceAdd, Int.reduceSub, Int.reduceGT, Int.reduceGE, Int.reduceBNe]
    intros
    refine ⟨fun h => ?_, fun h => ?_⟩
    · have hlt := of_decide_eq_true h
      have hlt' : x < rows.length := by omega
      have hlt2 : x < rows'.length := by omega
      have hltz : (x : Int) < (rows'.length : Int) := by omega
      have e0 : (0 : Int) ≤ (x : Int) := by omega
      have g1 := h5 _ (get_lt (d := []) hlt')
      have g2 := h5' _ (get_lt (d := []) hlt2)
      simp only [go_sem, reduceIte, reduceCtorEq, Nat.reduceAdd, Nat.reduceSub, Nat.reduceMul, Nat.reduceLT, Nat.reduceLeDiff, Nat.reduceEqDiff, Nat.reduceBEq, Nat.reduceGT, Int.reduceEq, Int.reduceNe, Int.reduceLT, Int.reduceLE, Int.reduceToNat, Int.reduceNeg, Int.reduceBEq, Int.reduceAdd, Int.reduceSub, Int.reduceGT, Int.reduceGE, Int.reduceBNe, hlt, hltz, e0, g1, g2]
      refine callK_of (H x hlt' hlt2) ?_
      cases hE : E x <;> simp only [go_sem, reduceIte, reduceCtorEq, Nat.reduceAdd, Nat.reduceSub, Nat.reduceMul, Nat.reduceLT, Nat.reduceLeDiff, Nat.reduceEqDiff, Nat.reduceBEq, Nat.reduceGT, Int.reduceEq, Int.reduceNe, Int.reduceLT, Int.reduceLE, Int.reduceToNat, Int.reduceNeg, Int.reduceBEq, Int.reduceAdd, Int.reduceSub, Int.reduceGT, Int.reduceGE, Int.reduceBNe]
      · rw [hf a5 x hlt' hE]
      · refine ⟨hlt', ?_⟩
        rw [w64 (n := (x : Int) + 1) (by unfold fit; omega)]
        exact wk_slots (by simp [slotsLe])
    · have hge := of_decide_eq_false h
      have hxe : x = rows.length := by omega
      simp only [go_sem, reduceIte, reduceCtorEq, Nat.reduceAdd, Nat.reduceSub, Nat.reduceMul, Nat.reduceLT, Nat.reduceLeDiff, Nat.reduceEqDiff, Nat.reduceBEq, Nat.reduceGT, Int.reduceEq, Int.reduceNe, Int.reduceLT, Int.reduceLE, Int.reduceToNat, Int.reduceNeg, Int.reduceBEq, Int.reduceAdd, Int.reduceSub, Int.reduceGT, Int.reduceGE, Int.reduceBNe, h]
      rw [ht a5 (fun y hy => hp y (by omega))]
  · exact wk_slots (by simp [slotsLe])
open Classical in
noncomputable def eqLT (l l' : List Tm) : Bool := decide (l = l')
theorem eqLT_self (l : List Tm) : eqLT l l = true := by unfold eqLT; simp
theorem eqLT_ne {a b : List Tm} (h : a ≠ b) : eqLT a b = false := by unfold eqLT; simp [h]
theorem con_kterms (l l' : List Tm) (hb : l.length * 56 ≤ 140737488355328) (H : ∀ x, x < l.length → x < l'.length → Con 16 [.agg true (tv (l[x]?.getD default)), .agg true (tv (l'[x]?.getD default))] (.bool (eqT (l[x]?.getD default) (l'[x]?.getD default)))) :
    Con 10 [.dsl 5 (l.map tv), .dsl 5 (l'.map tv)] (.bool (eqLT l l')) := by
  have e1 : (l.map tv).length = l.length := by simp
  have e2 : (l'.map tv).length = l'.length := by simp
  refine con_kterms_rows (l.map tv) (l'.map tv) (fun x => eqT (l[x]?.getD default) (l'[x]?.getD default)) (rows5 l) (rows5 l') (by omega) (fun x hx hx' => ?_) _ (fun h => eqLT_ne (fun h' => h ?_)) (fun a5 x hx hE => eqLT_ne (fun h' => ?_)) (fun a5 hE => ?_)
  · rw [e1] at hx
    rw [e2] at hx'
    rw [List.getElem?_map, List.getElem?_map, List.getElem?_eq_getElem hx, List.getElem?_eq_getElem hx']
    have := H x hx hx'
    rw [List.getElem?_eq_getElem hx, List.getElem?_eq_getElem hx'] at this
    exact this
  · rw [h']
  · subst h'
    rw [eqT_self] at hE
    cases hE
  · rw [e1, e2] at a5
    rw [e1] at hE
    have : l = l' := List.ext_getElem a5 (fun x hx hx' => by
      have := eqT_iff.1 (hE x hx)
      rw [List.getElem?_eq_getElem hx, List.getElem?_eq_getElem hx'] at this
      exact this)
    rw [this]
    exact eqLT_self _
set_option maxRecDepth 20000 in
set_option maxHeartbeats 2000000 in
theorem con_ksame (a : Tm) : TOk a → ∀ b, TOk b → Con 16 [.agg true (tv a), .agg true (tv b)] (.bool (eqT a b)) := by
  induction a using Tm.ind with
  | h k i j n l ih =>
    intro hok b hb
    cases b with
    | mk k' i' j' n' l' =>
    obtain ⟨_, _, _, _, hbl, hl⟩ := tok_of hok
    obtain ⟨_, _, _, _, hbl', hl'⟩ := tok_of hb
    have c1 := con_kterms l l' hbl (fun x hx hx' => ih _ (get_lt hx) (hl _ (get_lt hx)) _ (hl' _ (get_lt hx')))
    have key : eqT (.mk k i j n l) (.mk k' i' j' n' l') = ((k == k') && ((i == i') && ((j == j') && ((n == n') && eqLT l l')))) := by
      by_cases h : Tm.mk k i j n l = Tm.mk k' i' j' n' l'
      · cases h
        rw [eqT_self, eqLT_self]
        simp
      · rw [eqT_ne h]
        symm
        by_cases h1 : k = k'
        · by_cases h2 : i = i'
          · by_cases h3 : j = j'
            · by_cases h4 : n = n'
              · rw [eqLT_ne (fun h5 => h (by rw [h1, h2, h3, h4, h5]))]
                simp
              · rw [beq_no h4]; simp
            · rw [beq_no h3]; simp
          · rw [beq_no h2]; simp
        · rw [beq_no h1]; simp
    rw [key]
    refine contract_of_vc mixed Tryz.func16 tr16 ?_
    rw [tv_mk, tv_mk]
    generalize l.map tv = r1 at *
    generalize l'.map tv = r2 at *
    cases q1 : (k == k')
    · repeat' first
        | simp (config := { maxSteps := 2000000 }) only [go_sem, reduceIte, reduceCtorEq, Nat.reduceAdd, Nat.reduceSub, Nat.reduceMul, Nat.reduceLT, Nat.reduceLeDiff, Nat.reduceEqDiff, Nat.reduceBEq, Nat.reduceGT, Int.reduceEq, Int.reduceNe, Int.reduceLT, Int.reduceLE, Int.reduceToNat, Int.reduceNeg, Int.reduceBEq, Int.reduceAdd, Int.reduceSub, Int.reduceGT, Int.reduceGE, Int.reduceBNe, q1]
        | refine callK_of (c1) ?_
        | rfl
    · cases q2 : (i == i')
      · repeat' first
          | simp (config := { maxSteps := 2000000 }) only [go_sem, reduceIte, reduceCtorEq, Nat.reduceAdd, Nat.reduceSub, Nat.reduceMul, Nat.reduceLT, Nat.reduceLeDiff, Nat.reduceEqDiff, Nat.reduceBEq, Nat.reduceGT, Int.reduceEq, Int.reduceNe, Int.reduceLT, Int.reduceLE, Int.reduceToNat, Int.reduceNeg, Int.reduceBEq, Int.reduceAdd, Int.reduceSub, Int.reduceGT, Int.reduceGE, Int.reduceBNe, q1, q2]
          | refine callK_of (c1) ?_
          | rfl
      · cases q3 : (j == j')
        · repeat' first
            | simp (config := { maxSteps := 2000000 }) only [go_sem, reduceIte, reduceCtorEq, Nat.reduceAdd, Nat.reduceSub, Nat.reduceMul, Nat.reduceLT, Nat.reduceLeDiff, Nat.reduceEqDiff, Nat.reduceBEq, Nat.reduceGT, Int.reduceEq, Int.reduceNe, Int.reduceLT, Int.reduceLE, Int.reduceToNat, Int.reduceNeg, Int.reduceBEq, Int.reduceAdd, Int.reduceSub, Int.reduceGT, Int.reduceGE, Int.reduceBNe, q1, q2, q3]
            | refine callK_of (c1) ?_
            | rfl
        · cases q4 : (n == n')
          · repeat' first
              | simp (config := { maxSteps := 2000000 }) only [go_sem, reduceIte, reduceCtorEq, Nat.reduceAdd, Nat.reduceSub, Nat.reduceMul, Nat.reduceLT, Nat.reduceLeDiff, Nat.reduceEqDiff, Nat.reduceBEq, Nat.reduceGT, Int.reduceEq, Int.reduceNe, Int.reduceLT, Int.reduceLE, Int.reduceToNat, Int.reduceNeg, Int.reduceBEq, Int.reduceAdd, Int.reduceSub, Int.reduceGT, Int.reduceGE, Int.reduceBNe, q1, q2, q3, q4]
              | refine callK_of (c1) ?_
              | rfl
          · repeat' first
              | simp (config := { maxSteps := 2000000 }) only [go_sem, reduceIte, reduceCtorEq, Nat.reduceAdd, Nat.reduceSub, Nat.reduceMul, Nat.reduceLT, Nat.reduceLeDiff, Nat.reduceEqDiff, Nat.reduceBEq, Nat.reduceGT, Int.reduceEq, Int.reduceNe, Int.reduceLT, Int.reduceLE, Int.reduceToNat, Int.reduceNeg, Int.reduceBEq, Int.reduceAdd, Int.reduceSub, Int.reduceGT, Int.reduceGE, Int.reduceBNe, q1, q2, q3, q4]
              | refine callK_of (c1) ?_
              | rfl
/-! Erasures -/
def eraF (t : Tm) : Tm := if markT t then eraseT t else zT
set_option maxRecDepth 10000 in
set_option maxHeartbeats 1000000 in
theorem con_rerase_rows (k i j n : Int) (rows : List (List SV)) (X : List SV → List SV) (h2 : rows.length * 56 ≤ 140737488355328) (h5 : ∀ r ∈ rows, r.length = 5) (hk : k ≠ 12) (hX : ∀ r ∈ rows, (X r).length = 5)
    (H : ∀ r ∈ rows, Con 62 [.agg true r] (.agg true (X r))) :
    Con 62 [.agg true [.int .i64 k, .int .i64 i, .int .i64 j, .int .i64 n, .dsl 5 rows]] (.agg true [.int .i64 k, .int .i64 i, .int .i64 j, .int .i64 n, .dsl 5 (rows.map X)]) := by
  have hys : (rows.map X).length = rows.length := by simp
  have hyx : ∀ x, x < rows.length → (rows.map X)[x]?.getD [] = X (rows[x]?.getD []) := fun x hx => by
    rw [List.getElem?_map, List.getElem?_eq_getElem hx]; rfl
  generalize rows.map X = ys at *
  have q : (k == 12) = false := beq_no hk
  refine contract_of_vc mixed Tryz.func62 tr62 ?_
  simp only [go_sem, reduceIte, reduceCtorEq, Nat.reduceAdd, Nat.reduceSub, Nat.reduceMul, Nat.reduceLT, Nat.reduceLeDiff, Nat.reduceEqDiff, Nat.reduceBEq, Nat.reduceGT, Int.reduceEq, Int.reduceNe, Int.reduceLT, Int.reduceLE, Int.reduceToNat, Int.reduceNeg, Int.reduceBEq, Int.reduceAdd, Int.reduceSub, Int.reduceGT, Int.reduceGE, Int.reduceBNe, q]
  refine vc_for (fun x => ⟨(.junk :: .ref 0 0 0 0 :: .ref 1 0 0 0 :: .ref 2 0 0 0 :: .osl 3 x 0 x :: .int .i64 x :: .junk :: .junk :: .junk :: .junk :: .junk :: .junk :: .junk :: .junk :: .junk :: .junk :: .junk :: .junk :: .junk :: .junk :: .junk :: .junk :: .junk :: .junk :: .junk :: .junk :: .junk :: .junk :: .junk :: .junk :: .junk :: .junk :: .junk :: .junk :: .junk :: .junk :: .junk :: .junk :: .junk :: .junk :: .junk :: .junk :: []),
    [⟨true, 5, [[.int .i64 k, .int .i64 i, .int .i64 j, .int .i64 n, .dsl 5 rows]], 0, 0, true⟩, ⟨true, 5, [[.int .i64 0, .int .i64 0, .int .i64 0, .int .i64 0, .nils]], 0, 0, true⟩,
     ⟨true, 5, [[.int .i64 k, .int .i64 i, .int .i64 j, .int .i64 n, .nils]], 0, 0, true⟩, ⟨false, 5, ys.take x, x - 1, x, true⟩]⟩) rows.length (fun x hx => ?_) ?_
  · simp only [go_sem, reduceIte, reduceCtorEq, Nat.reduceAdd, Nat.reduceSub, Nat.reduceMul, Nat.reduceLT, Nat.reduceLeDiff, Nat.reduceEqDiff, Nat.reduceBEq, Nat.reduceGT, Int.reduceEq, Int.reduceNe, Int.reduceLT, Int.reduceLE, Int.reduceToNat, Int.reduceNeg, Int.reduceBEq, Int.reduceAdd, Int.reduceSub, Int.reduceGT, Int.reduceGE, Int.reduceBNe]
    intros
    refine ⟨fun h => ?_, fun h => ?_⟩
    · have hlt := of_decide_eq_true h
      have hlt' : x < rows.length := by omega
      have e0 : (0 : Int) ≤ (x : Int) := by omega
      have hm := get_lt (d := []) hlt'
      have h5' := h5 _ hm
      have hu := hX _ hm
      have hc := H _ hm
      have hy := hyx x hlt'
      have tn := take_next (l := ys) (d := []) (i := x) (by omega)
      rw [hy] at tn
      have e1 : (ys.take x).length = x := by simp; omega
      have e2 : (x + 1) * 56 ≤ 140737488355328 := by omega
      have e3 : x + 1 ≤ 140737488355328 := by omega
      simp only [go_sem, reduceIte, reduceCtorEq, Nat.reduceAdd, Nat.reduceSub, Nat.reduceMul, Nat.reduceLT, Nat.reduceLeDiff, Nat.reduceEqDiff, Nat.reduceBEq, Nat.reduceGT, Int.reduceEq, Int.reduceNe, Int.reduceLT, Int.reduceLE, Int.reduceToNat, Int.reduceNeg, Int.reduceBEq, Int.reduceAdd, Int.reduceSub, Int.reduceGT, Int.reduceGE, Int.reduceBNe, hlt, e0, h5']
      refine callK_of hc ?_
      simp only [go_sem, reduceIte, reduceCtorEq, Nat.reduceAdd, Nat.reduceSub, Nat.reduceMul, Nat.reduceLT, Nat.reduceLeDiff, Nat.reduceEqDiff, Nat.reduceBEq, Nat.reduceGT, Int.reduceEq, Int.reduceNe, Int.reduceLT, Int.reduceLE, Int.reduceToNat, Int.reduceNeg, Int.reduceBEq, Int.reduceAdd, Int.reduceSub, Int.reduceGT, Int.reduceGE, Int.reduceBNe, hu, e1, e2, e3, tn]
      refine ⟨hlt', ?_⟩
      rw [w64 (n := (x : Int) + 1) (by unfold fit; omega)]
      exact wk_trunc 4 (by simp [slotsLe]) (by simp) (by simp [below]) (by simp)
    · have hge := of_decide_eq_false h
      have hxe : x = rows.length := by omega
      subst hxe
      have ht : ys.take rows.length = ys := by rw [← hys, List.take_length]
      simp only [go_sem, reduceIte, reduceCtorEq, Nat.reduceAdd, Nat.reduceSub, Nat.reduceMul, Nat.reduceLT, Nat.reduceLeDiff, Nat.reduceEqDiff, Nat.reduceBEq, Nat.reduceGT, Int.reduceEq, Int.reduceNe, Int.reduceLT, Int.reduceLE, Int.reduceToNat, Int.reduceNeg, Int.reduceBEq, Int.reduceAdd, Int.reduceSub, Int.reduceGT, Int.reduceGE, Int.reduceBNe, h, hys, ht]
  · exact .trans (.ghost _ 4 5 rfl) (wk_slots (by simp [slotsLe]))
set_option maxRecDepth 10000 in
theorem con_rerase (t : Tm) : TOk t → markT t = true → Con 62 [.agg true (tv t)] (.agg true (tv (eraseT t))) := by
  induction t using Tm.ind with
  | h k i j n l ih =>
    intro hok hm
    obtain ⟨_, _, _, _, hb, hl⟩ := tok_of hok
    by_cases hk : k = 12
    · subst hk
      obtain ⟨a, b, p, x, rfl, ma, mb, mp, mx⟩ := mark_tr hm
      have c1 := ih x (by simp) (hl x (by simp)) mx
      have z1 := tv_len x
      have z2 := tv_len (eraseT x)
      rw [eraseT_tr]
      refine contract_of_vc mixed Tryz.func62 tr62 ?_
      rw [tv_mk]
      clear ih
      repeat' first
        | simp (config := { maxSteps := 2000000 }) only [go_sem, reduceIte, reduceCtorEq, Nat.reduceAdd, Nat.reduceSub, Nat.reduceMul, Nat.reduceLT, Nat.reduceLeDiff, Nat.reduceEqDiff, Nat.reduceBEq, Nat.reduceGT, Int.reduceEq, Int.reduceNe, Int.reduceLT, Int.reduceLE, Int.reduceToNat, Int.reduceNeg, Int.reduceBEq, Int.reduceAdd, Int.reduceSub, Int.reduceGT, Int.reduceGE, Int.reduceBNe, z1, z2]
        | refine callK_of (c1) ?_
        | rfl
    · have h := con_rerase_rows k i j n (l.map tv) (onT (fun t => tv (eraseT t)) []) (by simpa using hb) (rows5 l) hk
        (fun r hr => by
          obtain ⟨u, hu, rfl⟩ := List.mem_map.1 hr
          rw [onT_tv]
          exact tv_len _)
        (fun r hr => by
          obtain ⟨u, hu, rfl⟩ := List.mem_map.1 hr
          rw [onT_tv]
          exact ih u hu (hl u hu) (mark_kid hm hk hu))
      have e : (l.map tv).map (onT (fun t => tv (eraseT t)) []) = (l.map eraseT).map tv := by
        rw [List.map_map, List.map_map]
        apply List.map_congr_left
        intro u _
        simp only [Function.comp, onT_tv]
      rw [e, ← tv_mk, ← tv_mk, ← eraseT_no hk] at h
      exact h
def eraE (e : En) : En := ⟨eraF e.a, e.i⟩
open Classical in
noncomputable def eqC (C D : List En) : Bool := decide (C = D)
end Go.Proofs.YtkldipbhenabfaaGreat.Abs

