/- Sameness by the page's keeper; erased contexts. -/
import Derived.Test.YtkldipbhenabfaaGreatQJl
import Derived.Test.YtkldipbhenabfaaGreatQAfT
set_option linter.unusedSimpArgs false
set_option linter.unusedVariables false
namespace Go.Proofs.YtkldipbhenabfaaGreat.Abs
open Go Go.RowKit Go.Proofs.YtkldipbhenabfaaGreat

set_option maxRecDepth 10000 in
set_option maxHeartbeats 1000000 in
theorem con_kterms_rows (rows rows' : List (List SV)) (E : Nat → Bool) (h5 : ∀ r ∈ rows, r.length = 5) (h5' : ∀ r ∈ rows', r.length = 5) (h2 : rows.length * 56 ≤ 140737488355328)
    (H : ∀ x, x < rows.length → x < rows'.length → Con 16 [.agg true (rows[x]?.getD []), .agg true (rows'[x]?.getD [])] (.bool (E x))) (r0 : Bool)
    (hn : rows.length ≠ rows'.length → r0 = false)
    (hf : rows.length = rows'.length → ∀ x, x < rows.length → E x = false → r0 = false)
    (ht : rows.length = rows'.length → (∀ x, x < rows.length → E x = true) → r0 = true) :
    Con 10 [.dsl 5 rows, .dsl 5 rows'] (.bool r0) := by
  refine contract_of_vc mixed Tryz.func10 tr10 ?_
  by_cases a5 : rows.length = rows'.length
  rotate_left
  · have q : ((rows.length : Int) != (rows'.length : Int)) = true := by simp; omega
    rw [hn a5]
    simp only [go_sem, reduceIte, reduceCtorEq, Nat.reduceAdd, Nat.reduceSub, Nat.reduceMul, Nat.reduceLT, Nat.reduceLeDiff, Nat.reduceEqDiff, Nat.reduceBEq, Nat.reduceGT, Int.reduceEq, Int.reduceNe, Int.reduceLT, Int.reduceLE, Int.reduceToNat, Int.reduceNeg, Int.reduceBEq, Int.reduceAdd, Int.reduceSub, Int.reduceGT, Int.reduceGE, Int.reduceBNe, q]
    try intros
  have q5 : ((rows.length : Int) != (rows'.length : Int)) = false := by simp; omega
  simp only [go_sem, reduceIte, reduceCtorEq, Nat.reduceAdd, Nat.reduceSub, Nat.reduceMul, Nat.reduceLT, Nat.reduceLeDiff, Nat.reduceEqDiff, Nat.reduceBEq, Nat.reduceGT, Int.reduceEq, Int.reduceNe, Int.reduceLT, Int.reduceLE, Int.reduceToNat, Int.reduceNeg, Int.reduceBEq, Int.reduceAdd, Int.reduceSub, Int.reduceGT, Int.reduceGE, Int.reduceBNe, q5]
  intros
  refine vc_forp (fun x => ⟨(.dsl 5 rows :: .dsl 5 rows' :: .junk :: .junk :: .bool false :: .int .i64 x :: .junk :: .junk :: .junk :: .junk :: .junk :: .junk :: .junk :: .junk :: .junk :: .junk :: .junk :: .junk :: .junk :: .junk :: .junk :: .junk :: .junk :: .junk :: .junk :: .junk :: .junk :: []), []⟩) rows.length (fun x => E x = true) (fun x hx hp => ?_) ?_
  · simp only [go_sem, reduceIte, reduceCtorEq, Nat.reduceAdd, Nat.reduceSub, Nat.reduceMul, Nat.reduceLT, Nat.reduceLeDiff, Nat.reduceEqDiff, Nat.reduceBEq, Nat.reduceGT, Int.reduceEq, Int.reduceNe, Int.reduceLT, Int.reduceLE, Int.reduceToNat, Int.reduceNeg, Int.reduceBEq, Int.reduceAdd, Int.reduceSub, Int.reduceGT, Int.reduceGE, Int.reduceBNe]
    intros
    refine ⟨fun h => ?_, fun h => ?_⟩
    · have hlt := of_decide_eq_true h
      have hlt' : x < rows.length := by omega
      have hlt2 : x < rows'.length := by omega
      have hltz : (x : Int) < (rows'.length : Int) := by omega
      have e0 : (0 : Int) ≤ (x : Int) := by omega
      have g1 := h5 _ (get_lt (d := []) hlt')
      have g2 := h5' _ (get_lt (d := []) hlt2)
      simp only [go_sem, reduceIte, reduceCtorEq, Nat.reduceAdd, Nat.reduceSub, Nat.reduceMul, Nat.reduceLT, Nat.reduceLeDiff, Nat.reduceEqDiff, Nat.reduceBEq, Nat.reduceGT, Int.reduceEq, Int.reduceNe, Int.reduceLT, Int.reduceLE, Int.reduceToNat, Int.reduceNeg, Int.reduceBEq, Int.reduceAdd, Int.reduceSub, Int.reduceGT, Int.reduceGE, Int.reduceBNe, hlt, hltz, e0, g1, g2]
      refine callK_of (H x hlt' hlt2) ?_
      cases hE : E x <;> simp only [go_sem, reduceIte, reduceCtorEq, Nat.reduceAdd, Nat.reduceSub, Nat.reduceMul, Nat.reduceLT, Nat.reduceLeDiff, Nat.reduceEqDiff, Nat.reduceBEq, Nat.reduceGT, Int.reduceEq, Int.reduceNe, Int.reduceLT, Int.reduceLE, Int.reduceToNat, Int.reduceNeg, Int.reduceBEq, Int.reduceAdd, Int.reduceSub, Int.reduceGT, Int.reduceGE, Int.reduceBNe]
      · rw [hf a5 x hlt' hE]
      · refine ⟨hlt', ?_⟩
        rw [w64 (n := (x : Int) + 1) (by unfold fit; omega)]
        exact wk_slots (by simp [slotsLe])
    · have hge := of_decide_eq_false h
      have hxe : x = rows.length := by omega
      simp only [go_sem, reduceIte, reduceCtorEq, Nat.reduceAdd, Nat.reduceSub, Nat.reduceMul, Nat.reduceLT, Nat.reduceLeDiff, Nat.reduceEqDiff, Nat.reduceBEq, Nat.reduceGT, Int.reduceEq, Int.reduceNe, Int.reduceLT, Int.reduceLE, Int.reduceToNat, Int.reduceNeg, Int.reduceBEq, Int.reduceAdd, Int.reduceSub, Int.reduceGT, Int.reduceGE, Int.reduceBNe, h]
      rw [ht a5 (fun y hy => hp y (by omega))]
  · exact wk_slots (by simp [slotsLe])
open Classical in
noncomputable def eqLT (l l' : List Tm) : Bool := decide (l = l')
theorem eqLT_self (l : List Tm) : eqLT l l = true := by unfold eqLT; simp
theorem eqLT_ne {a b : List Tm} (h : a ≠ b) : eqLT a b = false := by unfold eqLT; simp [h]
theorem con_kterms (l l' : List Tm) (hb : l.length * 56 ≤ 140737488355328) (H : ∀ x, x < l.length → x < l'.length → Con 16 [.agg true (tv (l[x]?.getD default)), .agg true (tv (l'[x]?.getD default))] (.bool (eqT (l[x]?.getD default) (l'[x]?.getD default)))) :
    Con 10 [.dsl 5 (l.map tv), .dsl 5 (l'.map tv)] (.bool (eqLT l l')) := by
  have e1 : (l.map tv).length = l.length := by simp
  have e2 : (l'.map tv).length = l'.length := by simp
  refine con_kterms_rows (l.map tv) (l'.map tv) (fun x => eqT (l[x]?.getD default) (l'[x]?.getD default)) (rows5 l) (rows5 l') (by omega) (fun x hx hx' => ?_) _ (fun h => eqLT_ne (fun h' => h ?_)) (fun a5 x hx hE => eqLT_ne (fun h' => ?_)) (fun a5 hE => ?_)
  · rw [e1] at hx
    rw [e2] at hx'
    rw [List.getElem?_map, List.getElem?_map, List.getElem?_eq_getElem hx, List.getElem?_eq_getElem hx']
    have := H x hx hx'
    rw [List.getElem?_eq_getElem hx, List.getElem?_eq_getElem hx'] at this
    exact this
  · rw [h']
  · subst h'
    rw [eqT_self] at hE
    cases hE
  · rw [e1, e2] at a5
    rw [e1] at hE
    have : l = l' := List.ext_getElem a5 (fun x hx hx' => by
      have := eqT_iff.1 (hE x hx)
      rw [List.getElem?_eq_getElem hx, List.getElem?_eq_getElem hx'] at this
      exact this)
    rw [this]
    exact eqLT_self _
set_option maxRecDepth 20000 in
set_option maxHeartbeats 2000000 in
theorem con_ksame (a : Tm) : TOk a → ∀ b, TOk b → Con 16 [.agg true (tv a), .agg true (tv b)] (.bool (eqT a b)) := by
  induction a using Tm.ind with
  | h k i j n l ih =>
    intro hok b hb
    cases b with
    | mk k' i' j' n' l' =>
    obtain ⟨_, _, _, _, hbl, hl⟩ := tok_of hok
    obtain ⟨_, _, _, _, hbl', hl'⟩ := tok_of hb
    have c1 := con_kterms l l' hbl (fun x hx hx' => ih _ (get_lt hx) (hl _ (get_lt hx)) _ (hl' _ (get_lt hx')))
    have key : eqT (.mk k i j n l) (.mk k' i' j' n' l') = ((k == k') && ((i == i') && ((j == j') && ((n == n') && eqLT l l')))) := by
      by_cases h : Tm.mk k i j n l = Tm.mk k' i' j' n' l'
      · cases h
        rw [eqT_self, eqLT_self]
        simp
      · rw [eqT_ne h]
        symm
        by_cases h1 : k = k'
        · by_cases h2 : i = i'
          · by_cases h3 : j = j'
            · by_cases h4 : n = n'
              · rw [eqLT_ne (fun h5 => h (by rw [h1, h2, h3, h4, h5]))]
                simp
              · rw [beq_no h4]; simp
            · rw [beq_no h3]; simp
          · rw [beq_no h2]; simp
        · rw [beq_no h1]; simp
    rw [key]
    refine contract_of_vc mixed Tryz.func16 tr16 ?_
    rw [tv_mk, tv_mk]
    generalize l.map tv = r1 at *
    generalize l'.map tv = r2 at *
    cases q1 : (k == k')
    · repeat' first
        | simp (config := { maxSteps := 2000000 }) only [go_sem, reduceIte, reduceCtorEq, Nat.reduceAdd, Nat.reduceSub, Nat.reduceMul, Nat.reduceLT, Nat.reduceLeDiff, Nat.reduceEqDiff, Nat.reduceBEq, Nat.reduceGT, Int.reduceEq, Int.reduceNe, Int.reduceLT, Int.reduceLE, Int.reduceToNat, Int.reduceNeg, Int.reduceBEq, Int.reduceAdd, Int.reduceSub, Int.reduceGT, Int.reduceGE, Int.reduceBNe, q1]
        | refine callK_of (c1) ?_
        | rfl
    · cases q2 : (i == i')
      · repeat' first
          | simp (config := { maxSteps := 2000000 }) only [go_sem, reduceIte, reduceCtorEq, Nat.reduceAdd, Nat.reduceSub, Nat.reduceMul, Nat.reduceLT, Nat.reduceLeDiff, Nat.reduceEqDiff, Nat.reduceBEq, Nat.reduceGT, Int.reduceEq, Int.reduceNe, Int.reduceLT, Int.reduceLE, Int.reduceToNat, Int.reduceNeg, Int.reduceBEq, Int.reduceAdd, Int.reduceSub, Int.reduceGT, Int.reduceGE, Int.reduceBNe, q1, q2]
          | refine callK_of (c1) ?_
          | rfl
      · cases q3 : (j == j')
        · repeat' first
            | simp (config := { maxSteps := 2000000 }) only [go_sem, reduceIte, reduceCtorEq, Nat.reduceAdd, Nat.reduceSub, Nat.reduceMul, Nat.reduceLT, Nat.reduceLeDiff, Nat.reduceEqDiff, Nat.reduceBEq, Nat.reduceGT, Int.reduceEq, Int.reduceNe, Int.reduceLT, Int.reduceLE, Int.reduceToNat, Int.reduceNeg, Int.reduceBEq, Int.reduceAdd, Int.reduceSub, Int.reduceGT, Int.reduceGE, Int.reduceBNe, q1, q2, q3]
            | refine callK_of (c1) ?_
            | rfl
        · cases q4 : (n == n')
          · repeat' first
              | simp (config := { maxSteps := 2000000 }) only [go_sem, reduceIte, reduceCtorEq, Nat.reduceAdd, Nat.reduceSub, Nat.reduceMul, Nat.reduceLT, Nat.reduceLeDiff, Nat.reduceEqDiff, Nat.reduceBEq, Nat.reduceGT, Int.reduceEq, Int.reduceNe, Int.reduceLT, Int.reduceLE, Int.reduceToNat, Int.reduceNeg, Int.reduceBEq, Int.reduceAdd, Int.reduceSub, Int.reduceGT, Int.reduceGE, Int.reduceBNe, q1, q2, q3, q4]
              | refine callK_of (c1) ?_
              | rfl
          · repeat' first
              | simp (config := { maxSteps := 2000000 }) only [go_sem, reduceIte, reduceCtorEq, Nat.reduceAdd, Nat.reduceSub, Nat.reduceMul, Nat.reduceLT, Nat.reduceLeDiff, Nat.reduceEqDiff, Nat.reduceBEq, Nat.reduceGT, Int.reduceEq, Int.reduceNe, Int.reduceLT, Int.reduceLE, Int.reduceToNat, Int.reduceNeg, Int.reduceBEq, Int.reduceAdd, Int.reduceSub, Int.reduceGT, Int.reduceGE, Int.reduceBNe, q1, q2, q3, q4]
              | refine callK_of (c1) ?_
              | rfl
theorem con_tsame (a b : Tm) (ha : TOk a) (hb : TOk b) : Con 68 [.agg true (tv a), .agg true (tv b)] (.bool (eqT a b)) := by
  have c1 := con_bsame a ha b hb
  have z1 := tv_len a
  have z2 := tv_len b
  refine contract_of_vc mixed Tryz.func68 tr68 ?_
  repeat' first
    | simp (config := { maxSteps := 2000000 }) only [go_sem, reduceIte, reduceCtorEq, Nat.reduceAdd, Nat.reduceSub, Nat.reduceMul, Nat.reduceLT, Nat.reduceLeDiff, Nat.reduceEqDiff, Nat.reduceBEq, Nat.reduceGT, Int.reduceEq, Int.reduceNe, Int.reduceLT, Int.reduceLE, Int.reduceToNat, Int.reduceNeg, Int.reduceBEq, Int.reduceAdd, Int.reduceSub, Int.reduceGT, Int.reduceGE, Int.reduceBNe, z1, z2]
    | refine callK_of (c1) ?_
    | rfl

/-! Erasures -/
def eraF (t : Tm) : Tm := if markT t then eraseT t else zT
theorem tok_eraF {t : Tm} (ht : TOk t) : TOk (eraF t) := by
  unfold eraF
  cases hm : markT t
  · exact tok_zT
  · exact tok_erase t ht hm
theorem con_Erase (t : Tm) (ht : TOk t) : Con 69 [.agg true (tv t)] (.agg true (tv (eraF t))) := by
  have c1 := con_marked t ht
  have z1 := tv_len t
  unfold eraF
  cases hm : markT t
  · rw [hm] at c1
    refine (contract_of_vc (r := .agg true [.int .i64 0, .int .i64 0, .int .i64 0, .int .i64 0, .nils]) mixed Tryz.func69 tr69 ?_).weaken le_zT
    repeat' first
      | simp (config := { maxSteps := 2000000 }) only [go_sem, reduceIte, reduceCtorEq, Nat.reduceAdd, Nat.reduceSub, Nat.reduceMul, Nat.reduceLT, Nat.reduceLeDiff, Nat.reduceEqDiff, Nat.reduceBEq, Nat.reduceGT, Int.reduceEq, Int.reduceNe, Int.reduceLT, Int.reduceLE, Int.reduceToNat, Int.reduceNeg, Int.reduceBEq, Int.reduceAdd, Int.reduceSub, Int.reduceGT, Int.reduceGE, Int.reduceBNe, z1]
      | refine callK_of (c1) ?_
      | rfl
  · rw [hm] at c1
    have c2 := con_erase t ht hm
    have z2 := tv_len (eraseT t)
    rw [if_pos rfl]
    refine contract_of_vc mixed Tryz.func69 tr69 ?_
    repeat' first
      | simp (config := { maxSteps := 2000000 }) only [go_sem, reduceIte, reduceCtorEq, Nat.reduceAdd, Nat.reduceSub, Nat.reduceMul, Nat.reduceLT, Nat.reduceLeDiff, Nat.reduceEqDiff, Nat.reduceBEq, Nat.reduceGT, Int.reduceEq, Int.reduceNe, Int.reduceLT, Int.reduceLE, Int.reduceToNat, Int.reduceNeg, Int.reduceBEq, Int.reduceAdd, Int.reduceSub, Int.reduceGT, Int.reduceGE, Int.reduceBNe, z1, z2]
      | refine callK_of (c1) ?_
      | refine callK_of (c2) ?_
      | rfl
set_option maxRecDepth 10000 in
set_option maxHeartbeats 1000000 in
theorem con_rerase_rows (k i j n : Int) (rows : List (List SV)) (X : List SV → List SV) (h2 : rows.length * 56 ≤ 140737488355328) (h5 : ∀ r ∈ rows, r.length = 5) (hk : k ≠ 12) (hX : ∀ r ∈ rows, (X r).length = 5)
    (H : ∀ r ∈ rows, Con 62 [.agg true r] (.agg true (X r))) :
    Con 62 [.agg true [.int .i64 k, .int .i64 i, .int .i64 j, .int .i64 n, .dsl 5 rows]] (.agg true [.int .i64 k, .int .i64 i, .int .i64 j, .int .i64 n, .dsl 5 (rows.map X)]) := by
  have hys : (rows.map X).length = rows.length := by simp
  have hyx : ∀ x, x < rows.length → (rows.map X)[x]?.getD [] = X (rows[x]?.getD []) := fun x hx => by
    rw [List.getElem?_map, List.getElem?_eq_getElem hx]; rfl
  generalize rows.map X = ys at *
  have q : (k == 12) = false := beq_no hk
  refine contract_of_vc mixed Tryz.func62 tr62 ?_
  simp only [go_sem, reduceIte, reduceCtorEq, Nat.reduceAdd, Nat.reduceSub, Nat.reduceMul, Nat.reduceLT, Nat.reduceLeDiff, Nat.reduceEqDiff, Nat.reduceBEq, Nat.reduceGT, Int.reduceEq, Int.reduceNe, Int.reduceLT, Int.reduceLE, Int.reduceToNat, Int.reduceNeg, Int.reduceBEq, Int.reduceAdd, Int.reduceSub, Int.reduceGT, Int.reduceGE, Int.reduceBNe, q]
  refine vc_for (fun x => ⟨(.junk :: .ref 0 0 0 0 :: .ref 1 0 0 0 :: .ref 2 0 0 0 :: .osl 3 x 0 x :: .int .i64 x :: .junk :: .junk :: .junk :: .junk :: .junk :: .junk :: .junk :: .junk :: .junk :: .junk :: .junk :: .junk :: .junk :: .junk :: .junk :: .junk :: .junk :: .junk :: .junk :: .junk :: .junk :: .junk :: .junk :: .junk :: .junk :: .junk :: .junk :: .junk :: .junk :: .junk :: .junk :: .junk :: .junk :: .junk :: .junk :: .junk :: []),
    [⟨true, 5, [[.int .i64 k, .int .i64 i, .int .i64 j, .int .i64 n, .dsl 5 rows]], 0, 0, true⟩, ⟨true, 5, [[.int .i64 0, .int .i64 0, .int .i64 0, .int .i64 0, .nils]], 0, 0, true⟩,
     ⟨true, 5, [[.int .i64 k, .int .i64 i, .int .i64 j, .int .i64 n, .nils]], 0, 0, true⟩, ⟨false, 5, ys.take x, x - 1, x, true⟩]⟩) rows.length (fun x hx => ?_) ?_
  · simp only [go_sem, reduceIte, reduceCtorEq, Nat.reduceAdd, Nat.reduceSub, Nat.reduceMul, Nat.reduceLT, Nat.reduceLeDiff, Nat.reduceEqDiff, Nat.reduceBEq, Nat.reduceGT, Int.reduceEq, Int.reduceNe, Int.reduceLT, Int.reduceLE, Int.reduceToNat, Int.reduceNeg, Int.reduceBEq, Int.reduceAdd, Int.reduceSub, Int.reduceGT, Int.reduceGE, Int.reduceBNe]
    intros
    refine ⟨fun h => ?_, fun h => ?_⟩
    · have hlt := of_decide_eq_true h
      have hlt' : x < rows.length := by omega
      have e0 : (0 : Int) ≤ (x : Int) := by omega
      have hm := get_lt (d := []) hlt'
      have h5' := h5 _ hm
      have hu := hX _ hm
      have hc := H _ hm
      have hy := hyx x hlt'
      have tn := take_next (l := ys) (d := []) (i := x) (by omega)
      rw [hy] at tn
      have e1 : (ys.take x).length = x := by simp; omega
      have e2 : (x + 1) * 56 ≤ 140737488355328 := by omega
      have e3 : x + 1 ≤ 140737488355328 := by omega
      simp only [go_sem, reduceIte, reduceCtorEq, Nat.reduceAdd, Nat.reduceSub, Nat.reduceMul, Nat.reduceLT, Nat.reduceLeDiff, Nat.reduceEqDiff, Nat.reduceBEq, Nat.reduceGT, Int.reduceEq, Int.reduceNe, Int.reduceLT, Int.reduceLE, Int.reduceToNat, Int.reduceNeg, Int.reduceBEq, Int.reduceAdd, Int.reduceSub, Int.reduceGT, Int.reduceGE, Int.reduceBNe, hlt, e0, h5']
      refine callK_of hc ?_
      simp only [go_sem, reduceIte, reduceCtorEq, Nat.reduceAdd, Nat.reduceSub, Nat.reduceMul, Nat.reduceLT, Nat.reduceLeDiff, Nat.reduceEqDiff, Nat.reduceBEq, Nat.reduceGT, Int.reduceEq, Int.reduceNe, Int.reduceLT, Int.reduceLE, Int.reduceToNat, Int.reduceNeg, Int.reduceBEq, Int.reduceAdd, Int.reduceSub, Int.reduceGT, Int.reduceGE, Int.reduceBNe, hu, e1, e2, e3, tn]
      refine ⟨hlt', ?_⟩
      rw [w64 (n := (x : Int) + 1) (by unfold fit; omega)]
      exact wk_trunc 4 (by simp [slotsLe]) (by simp) (by simp [below]) (by simp)
    · have hge := of_decide_eq_false h
      have hxe : x = rows.length := by omega
      subst hxe
      have ht : ys.take rows.length = ys := by rw [← hys, List.take_length]
      simp only [go_sem, reduceIte, reduceCtorEq, Nat.reduceAdd, Nat.reduceSub, Nat.reduceMul, Nat.reduceLT, Nat.reduceLeDiff, Nat.reduceEqDiff, Nat.reduceBEq, Nat.reduceGT, Int.reduceEq, Int.reduceNe, Int.reduceLT, Int.reduceLE, Int.reduceToNat, Int.reduceNeg, Int.reduceBEq, Int.reduceAdd, Int.reduceSub, Int.reduceGT, Int.reduceGE, Int.reduceBNe, h, hys, ht]
  · exact .trans (.ghost _ 4 5 rfl) (wk_slots (by simp [slotsLe]))
set_option maxRecDepth 10000 in
theorem con_rerase (t : Tm) : TOk t → markT t = true → Con 62 [.agg true (tv t)] (.agg true (tv (eraseT t))) := by
  induction t using Tm.ind with
  | h k i j n l ih =>
    intro hok hm
    obtain ⟨_, _, _, _, hb, hl⟩ := tok_of hok
    by_cases hk : k = 12
    · subst hk
      obtain ⟨a, b, p, x, rfl, ma, mb, mp, mx⟩ := mark_tr hm
      have c1 := ih x (by simp) (hl x (by simp)) mx
      have z1 := tv_len x
      have z2 := tv_len (eraseT x)
      rw [eraseT_tr]
      refine contract_of_vc mixed Tryz.func62 tr62 ?_
      rw [tv_mk]
      clear ih
      repeat' first
        | simp (config := { maxSteps := 2000000 }) only [go_sem, reduceIte, reduceCtorEq, Nat.reduceAdd, Nat.reduceSub, Nat.reduceMul, Nat.reduceLT, Nat.reduceLeDiff, Nat.reduceEqDiff, Nat.reduceBEq, Nat.reduceGT, Int.reduceEq, Int.reduceNe, Int.reduceLT, Int.reduceLE, Int.reduceToNat, Int.reduceNeg, Int.reduceBEq, Int.reduceAdd, Int.reduceSub, Int.reduceGT, Int.reduceGE, Int.reduceBNe, z1, z2]
        | refine callK_of (c1) ?_
        | rfl
    · have h := con_rerase_rows k i j n (l.map tv) (onT (fun t => tv (eraseT t)) []) (by simpa using hb) (rows5 l) hk
        (fun r hr => by
          obtain ⟨u, hu, rfl⟩ := List.mem_map.1 hr
          rw [onT_tv]
          exact tv_len _)
        (fun r hr => by
          obtain ⟨u, hu, rfl⟩ := List.mem_map.1 hr
          rw [onT_tv]
          exact ih u hu (hl u hu) (mark_kid hm hk hu))
      have e : (l.map tv).map (onT (fun t => tv (eraseT t)) []) = (l.map eraseT).map tv := by
        rw [List.map_map, List.map_map]
        apply List.map_congr_left
        intro u _
        simp only [Function.comp, onT_tv]
      rw [e, ← tv_mk, ← tv_mk, ← eraseT_no hk] at h
      exact h
theorem con_rErase (t : Tm) (ht : TOk t) : Con 75 [.agg true (tv t)] (.agg true (tv (eraF t))) := by
  have c1 := con_rmarked t ht
  have z1 := tv_len t
  unfold eraF
  cases hm : markT t
  · rw [hm] at c1
    refine (contract_of_vc (r := .agg true [.int .i64 0, .int .i64 0, .int .i64 0, .int .i64 0, .nils]) mixed Tryz.func75 tr75 ?_).weaken le_zT
    repeat' first
      | simp (config := { maxSteps := 2000000 }) only [go_sem, reduceIte, reduceCtorEq, Nat.reduceAdd, Nat.reduceSub, Nat.reduceMul, Nat.reduceLT, Nat.reduceLeDiff, Nat.reduceEqDiff, Nat.reduceBEq, Nat.reduceGT, Int.reduceEq, Int.reduceNe, Int.reduceLT, Int.reduceLE, Int.reduceToNat, Int.reduceNeg, Int.reduceBEq, Int.reduceAdd, Int.reduceSub, Int.reduceGT, Int.reduceGE, Int.reduceBNe, z1]
      | refine callK_of (c1) ?_
      | rfl
  · rw [hm] at c1
    have c2 := con_rerase t ht hm
    have z2 := tv_len (eraseT t)
    rw [if_pos rfl]
    refine contract_of_vc mixed Tryz.func75 tr75 ?_
    repeat' first
      | simp (config := { maxSteps := 2000000 }) only [go_sem, reduceIte, reduceCtorEq, Nat.reduceAdd, Nat.reduceSub, Nat.reduceMul, Nat.reduceLT, Nat.reduceLeDiff, Nat.reduceEqDiff, Nat.reduceBEq, Nat.reduceGT, Int.reduceEq, Int.reduceNe, Int.reduceLT, Int.reduceLE, Int.reduceToNat, Int.reduceNeg, Int.reduceBEq, Int.reduceAdd, Int.reduceSub, Int.reduceGT, Int.reduceGE, Int.reduceBNe, z1, z2]
      | refine callK_of (c1) ?_
      | refine callK_of (c2) ?_
      | rfl
def eraE (e : En) : En := ⟨eraF e.a, e.i⟩
theorem ent_of (C : List En) (x : Nat) (hx : x < C.length) : ((C.map eraE).map En.v)[x]?.getD [] = ev6 (eraF (C[x]?.getD default).a) (C[x]?.getD default).i := by
  rw [List.getElem?_map, List.getElem?_map, List.getElem?_eq_getElem hx]; rfl
set_option maxRecDepth 10000 in
set_option maxHeartbeats 1000000 in
theorem con_ctxErase (C : List En) (hC : CtxOk C) (hR : ctxR C = true) : Con 30 [.dsl 6 (C.map En.v)] (.dsl 6 ((C.map eraE).map En.v)) := by
  have c0 := con_ctxR C hC
  rw [hR] at c0
  obtain ⟨hn, hE⟩ := hC
  have hrow := en_row C
  have hyx := ent_of C
  have hlen : (C.map En.v).length = C.length := by simp
  have hys : ((C.map eraE).map En.v).length = C.length := by simp
  generalize (C.map eraE).map En.v = ys at *
  generalize C.map En.v = rows at *
  have m1 : (0 : Int) ≤ (C.length : Int) := by omega
  have m2 : (C.length : Int) * 64 ≤ 140737488355328 := by omega
  have m3 : (C.length : Int) ≤ 140737488355328 := by omega
  refine contract_of_vc mixed Tryz.func30 tr30 ?_
  simp only [go_sem, reduceIte, reduceCtorEq, Nat.reduceAdd, Nat.reduceSub, Nat.reduceMul, Nat.reduceLT, Nat.reduceLeDiff, Nat.reduceEqDiff, Nat.reduceBEq, Nat.reduceGT, Int.reduceEq, Int.reduceNe, Int.reduceLT, Int.reduceLE, Int.reduceToNat, Int.reduceNeg, Int.reduceBEq, Int.reduceAdd, Int.reduceSub, Int.reduceGT, Int.reduceGE, Int.reduceBNe, hlen]
  refine callK_of c0 ?_
  simp only [go_sem, reduceIte, reduceCtorEq, Nat.reduceAdd, Nat.reduceSub, Nat.reduceMul, Nat.reduceLT, Nat.reduceLeDiff, Nat.reduceEqDiff, Nat.reduceBEq, Nat.reduceGT, Int.reduceEq, Int.reduceNe, Int.reduceLT, Int.reduceLE, Int.reduceToNat, Int.reduceNeg, Int.reduceBEq, Int.reduceAdd, Int.reduceSub, Int.reduceGT, Int.reduceGE, Int.reduceBNe, hlen, m1, m2, m3, Int.le_refl]
  intros
  refine vc_for (fun x => ⟨(.junk :: .junk :: .junk :: .osl 0 x 0 x :: .junk :: .junk :: .junk :: .junk :: .junk :: .junk :: .junk :: .junk :: .dsl 6 rows :: .int .i64 C.length :: .int .i64 x :: .junk :: .junk :: .junk :: .junk :: .junk :: .junk :: .junk :: .junk :: .junk :: .junk :: .junk :: .junk :: .junk :: .junk :: []), [⟨false, 6, ys.take x, x - 1, x, true⟩]⟩) C.length (fun x hx => ?_) ?_
  · simp only [go_sem, reduceIte, reduceCtorEq, Nat.reduceAdd, Nat.reduceSub, Nat.reduceMul, Nat.reduceLT, Nat.reduceLeDiff, Nat.reduceEqDiff, Nat.reduceBEq, Nat.reduceGT, Int.reduceEq, Int.reduceNe, Int.reduceLT, Int.reduceLE, Int.reduceToNat, Int.reduceNeg, Int.reduceBEq, Int.reduceAdd, Int.reduceSub, Int.reduceGT, Int.reduceGE, Int.reduceBNe]
    refine ⟨fun h => ?_, fun h => ?_⟩
    · have hlt := of_decide_eq_true h
      have hlx : x < C.length := by omega
      have hltr : (x : Int) < (rows.length : Int) := by omega
      have e0 : (0 : Int) ≤ (x : Int) := by omega
      have hr := hrow x hlx
      have hy := hyx x hlx
      obtain ⟨⟨oa, oi⟩, hh⟩ := hE _ (get_lt (d := default) hlx)
      generalize C[x]?.getD default = e at *
      have c1 := con_Erase e.a oa
      have tn := take_next (l := ys) (d := []) (i := x) (by omega)
      rw [hy] at tn
      have e1 : (ys.take x).length = x := by simp; omega
      have e2 : (x + 1) * 64 ≤ 140737488355328 := by omega
      have e3 : x + 1 ≤ 140737488355328 := by omega
      simp only [go_sem, reduceIte, reduceCtorEq, Nat.reduceAdd, Nat.reduceSub, Nat.reduceMul, Nat.reduceLT, Nat.reduceLeDiff, Nat.reduceEqDiff, Nat.reduceBEq, Nat.reduceGT, Int.reduceEq, Int.reduceNe, Int.reduceLT, Int.reduceLE, Int.reduceToNat, Int.reduceNeg, Int.reduceBEq, Int.reduceAdd, Int.reduceSub, Int.reduceGT, Int.reduceGE, Int.reduceBNe, hlt, hltr, e0, hr, hlen]
      refine callK_of c1 ?_
      simp only [go_sem, reduceIte, reduceCtorEq, Nat.reduceAdd, Nat.reduceSub, Nat.reduceMul, Nat.reduceLT, Nat.reduceLeDiff, Nat.reduceEqDiff, Nat.reduceBEq, Nat.reduceGT, Int.reduceEq, Int.reduceNe, Int.reduceLT, Int.reduceLE, Int.reduceToNat, Int.reduceNeg, Int.reduceBEq, Int.reduceAdd, Int.reduceSub, Int.reduceGT, Int.reduceGE, Int.reduceBNe, e1, e2, e3, tn]
      refine ⟨hlx, ?_⟩
      rw [w64 (n := (x : Int) + 1) (by unfold fit; omega)]
      exact wk_trunc 1 (by simp [slotsLe]) (by simp) (by simp [below]) (by simp)
    · have hge := of_decide_eq_false h
      have hxe : x = C.length := by omega
      subst hxe
      have ht : ys.take C.length = ys := by rw [← hys, List.take_length]
      simp only [go_sem, reduceIte, reduceCtorEq, Nat.reduceAdd, Nat.reduceSub, Nat.reduceMul, Nat.reduceLT, Nat.reduceLeDiff, Nat.reduceEqDiff, Nat.reduceBEq, Nat.reduceGT, Int.reduceEq, Int.reduceNe, Int.reduceLT, Int.reduceLE, Int.reduceToNat, Int.reduceNeg, Int.reduceBEq, Int.reduceAdd, Int.reduceSub, Int.reduceGT, Int.reduceGE, Int.reduceBNe, hys, ht]
  · exact wk_slots (by simp [slotsLe])
set_option maxRecDepth 10000 in
set_option maxHeartbeats 1000000 in
theorem con_rctxErase (C : List En) (hC : CtxOk C) (hR : ctxR C = true) : Con 39 [.dsl 6 (C.map En.v)] (.dsl 6 ((C.map eraE).map En.v)) := by
  have c0 := con_rctxR C hC
  rw [hR] at c0
  obtain ⟨hn, hE⟩ := hC
  have hrow := en_row C
  have hyx := ent_of C
  have hlen : (C.map En.v).length = C.length := by simp
  have hys : ((C.map eraE).map En.v).length = C.length := by simp
  generalize (C.map eraE).map En.v = ys at *
  generalize C.map En.v = rows at *
  refine contract_of_vc mixed Tryz.func39 tr39 ?_
  simp only [go_sem, reduceIte, reduceCtorEq, Nat.reduceAdd, Nat.reduceSub, Nat.reduceMul, Nat.reduceLT, Nat.reduceLeDiff, Nat.reduceEqDiff, Nat.reduceBEq, Nat.reduceGT, Int.reduceEq, Int.reduceNe, Int.reduceLT, Int.reduceLE, Int.reduceToNat, Int.reduceNeg, Int.reduceBEq, Int.reduceAdd, Int.reduceSub, Int.reduceGT, Int.reduceGE, Int.reduceBNe, hlen]
  refine vc_for (fun x => ⟨(.dsl 6 rows :: .junk :: .junk :: .osl 0 x 0 x :: .int .i64 x :: .junk :: .junk :: .junk :: .junk :: .junk :: .junk :: .junk :: .junk :: .junk :: .junk :: .junk :: .junk :: .junk :: .junk :: .junk :: .junk :: .junk :: .junk :: .junk :: .junk :: .junk :: .junk :: .junk :: .junk :: .junk :: .junk :: []), [⟨false, 6, ys.take x, x - 1, x, true⟩]⟩) C.length (fun x hx => ?_) ?_
  · by_cases h : (x : Int) < (C.length : Int)
    · have hlx : x < C.length := by omega
      have e0 : (0 : Int) ≤ (x : Int) := by omega
      have hr := hrow x hlx
      have hy := hyx x hlx
      obtain ⟨⟨oa, oi⟩, hh⟩ := hE _ (get_lt (d := default) hlx)
      generalize C[x]?.getD default = e at *
      have c1 := con_rErase e.a oa
      have tn := take_next (l := ys) (d := []) (i := x) (by omega)
      rw [hy] at tn
      have e1 : (ys.take x).length = x := by simp; omega
      have e2 : (x + 1) * 64 ≤ 140737488355328 := by omega
      have e3 : x + 1 ≤ 140737488355328 := by omega
      simp only [go_sem, reduceIte, reduceCtorEq, Nat.reduceAdd, Nat.reduceSub, Nat.reduceMul, Nat.reduceLT, Nat.reduceLeDiff, Nat.reduceEqDiff, Nat.reduceBEq, Nat.reduceGT, Int.reduceEq, Int.reduceNe, Int.reduceLT, Int.reduceLE, Int.reduceToNat, Int.reduceNeg, Int.reduceBEq, Int.reduceAdd, Int.reduceSub, Int.reduceGT, Int.reduceGE, Int.reduceBNe, hlen, h]
      intros
      refine callK_of c0 ?_
      simp only [go_sem, reduceIte, reduceCtorEq, Nat.reduceAdd, Nat.reduceSub, Nat.reduceMul, Nat.reduceLT, Nat.reduceLeDiff, Nat.reduceEqDiff, Nat.reduceBEq, Nat.reduceGT, Int.reduceEq, Int.reduceNe, Int.reduceLT, Int.reduceLE, Int.reduceToNat, Int.reduceNeg, Int.reduceBEq, Int.reduceAdd, Int.reduceSub, Int.reduceGT, Int.reduceGE, Int.reduceBNe, h, e0, hr, hlen]
      refine callK_of c1 ?_
      simp only [go_sem, reduceIte, reduceCtorEq, Nat.reduceAdd, Nat.reduceSub, Nat.reduceMul, Nat.reduceLT, Nat.reduceLeDiff, Nat.reduceEqDiff, Nat.reduceBEq, Nat.reduceGT, Int.reduceEq, Int.reduceNe, Int.reduceLT, Int.reduceLE, Int.reduceToNat, Int.reduceNeg, Int.reduceBEq, Int.reduceAdd, Int.reduceSub, Int.reduceGT, Int.reduceGE, Int.reduceBNe, h, e0, hr, hlen, e1, e2, e3, tn]
      refine ⟨hlx, ?_⟩
      rw [w64 (n := (x : Int) + 1) (by unfold fit; omega)]
      exact wk_trunc 1 (by simp [slotsLe]) (by simp) (by simp [below]) (by simp)
    · have hxe : x = C.length := by omega
      subst hxe
      have ht : ys.take C.length = ys := by rw [← hys, List.take_length]
      simp only [go_sem, reduceIte, reduceCtorEq, Nat.reduceAdd, Nat.reduceSub, Nat.reduceMul, Nat.reduceLT, Nat.reduceLeDiff, Nat.reduceEqDiff, Nat.reduceBEq, Nat.reduceGT, Int.reduceEq, Int.reduceNe, Int.reduceLT, Int.reduceLE, Int.reduceToNat, Int.reduceNeg, Int.reduceBEq, Int.reduceAdd, Int.reduceSub, Int.reduceGT, Int.reduceGE, Int.reduceBNe, hlen, h, hys, ht]
      try intros
  · exact .trans (.ghost _ 3 6 rfl) (wk_slots (by simp [slotsLe]))
open Classical in
noncomputable def eqC (C D : List En) : Bool := decide (C = D)
theorem eqC_self (l : List En) : eqC l l = true := by unfold eqC; simp
theorem eqC_ne {a b : List En} (h : a ≠ b) : eqC a b = false := by unfold eqC; simp [h]
set_option maxRecDepth 10000 in
set_option maxHeartbeats 1000000 in
theorem con_ctxSame (C D : List En) (hC : ∀ e ∈ C, e.ok) (hD : ∀ e ∈ D, e.ok) (hn : C.length ≤ 1000) : Con 29 [.dsl 6 (C.map En.v), .dsl 6 (D.map En.v)] (.bool (eqC C D)) := by
  have hrow := en_row C
  have hrowD := en_row D
  have hlen : (C.map En.v).length = C.length := by simp
  have hlenD : (D.map En.v).length = D.length := by simp
  generalize C.map En.v = rows at *
  generalize D.map En.v = rowsD at *
  refine contract_of_vc mixed Tryz.func29 tr29 ?_
  by_cases a5 : C.length = D.length
  rotate_left
  · have q : ((C.length : Int) != (D.length : Int)) = true := by simp; omega
    rw [eqC_ne (fun h => a5 (by rw [h]))]
    simp only [go_sem, reduceIte, reduceCtorEq, Nat.reduceAdd, Nat.reduceSub, Nat.reduceMul, Nat.reduceLT, Nat.reduceLeDiff, Nat.reduceEqDiff, Nat.reduceBEq, Nat.reduceGT, Int.reduceEq, Int.reduceNe, Int.reduceLT, Int.reduceLE, Int.reduceToNat, Int.reduceNeg, Int.reduceBEq, Int.reduceAdd, Int.reduceSub, Int.reduceGT, Int.reduceGE, Int.reduceBNe, hlen, hlenD, q]
    try intros
  have q5 : ((C.length : Int) != (D.length : Int)) = false := by simp; omega
  simp only [go_sem, reduceIte, reduceCtorEq, Nat.reduceAdd, Nat.reduceSub, Nat.reduceMul, Nat.reduceLT, Nat.reduceLeDiff, Nat.reduceEqDiff, Nat.reduceBEq, Nat.reduceGT, Int.reduceEq, Int.reduceNe, Int.reduceLT, Int.reduceLE, Int.reduceToNat, Int.reduceNeg, Int.reduceBEq, Int.reduceAdd, Int.reduceSub, Int.reduceGT, Int.reduceGE, Int.reduceBNe, hlen, hlenD, q5]
  intros
  refine vc_forp (fun x => ⟨(.dsl 6 rows :: .dsl 6 rowsD :: .junk :: .junk :: .bool false :: .junk :: .junk :: .junk :: .junk :: .junk :: .junk :: .junk :: .int .i64 C.length :: .int .i64 x :: .junk :: .junk :: .junk :: .junk :: .junk :: .junk :: .junk :: .junk :: .junk :: .junk :: .junk :: .junk :: .junk :: .junk :: .junk :: .junk :: .junk :: .junk :: .junk :: .junk :: .junk :: .junk :: .junk :: .junk :: .junk :: .junk :: .junk :: .junk :: []), []⟩) C.length (fun x => C[x]?.getD default = D[x]?.getD default) (fun x hx hp => ?_) ?_
  · simp only [go_sem, reduceIte, reduceCtorEq, Nat.reduceAdd, Nat.reduceSub, Nat.reduceMul, Nat.reduceLT, Nat.reduceLeDiff, Nat.reduceEqDiff, Nat.reduceBEq, Nat.reduceGT, Int.reduceEq, Int.reduceNe, Int.reduceLT, Int.reduceLE, Int.reduceToNat, Int.reduceNeg, Int.reduceBEq, Int.reduceAdd, Int.reduceSub, Int.reduceGT, Int.reduceGE, Int.reduceBNe]
    refine ⟨fun h => ?_, fun h => ?_⟩
    · have hlt := of_decide_eq_true h
      have hlx : x < C.length := by omega
      have hlxD : x < D.length := by omega
      have hltD : (x : Int) < (D.length : Int) := by omega
      have e0 : (0 : Int) ≤ (x : Int) := by omega
      have hr := hrow x hlx
      have hrD := hrowD x hlxD
      obtain ⟨oa, oi⟩ := hC _ (get_lt (d := default) hlx)
      obtain ⟨oaD, oiD⟩ := hD _ (get_lt (d := default) hlxD)
      have bad : C[x]?.getD default ≠ D[x]?.getD default → eqC C D = false := fun h => eqC_ne (fun h' => h (by rw [h']))
      generalize C[x]?.getD default = e at *
      generalize D[x]?.getD default = g at *
      have c1 := con_tsame e.a g.a oa oaD
      by_cases b1 : e.i = g.i
      · have q1 : (e.i != g.i) = false := by simp [b1]
        simp only [go_sem, reduceIte, reduceCtorEq, Nat.reduceAdd, Nat.reduceSub, Nat.reduceMul, Nat.reduceLT, Nat.reduceLeDiff, Nat.reduceEqDiff, Nat.reduceBEq, Nat.reduceGT, Int.reduceEq, Int.reduceNe, Int.reduceLT, Int.reduceLE, Int.reduceToNat, Int.reduceNeg, Int.reduceBEq, Int.reduceAdd, Int.reduceSub, Int.reduceGT, Int.reduceGE, Int.reduceBNe, hlt, hltD, e0, hr, hrD, hlen, hlenD, q1]
        refine callK_of c1 ?_
        by_cases b2 : e.a = g.a
        · rw [b2, eqT_self]
          simp only [go_sem, reduceIte, reduceCtorEq, Nat.reduceAdd, Nat.reduceSub, Nat.reduceMul, Nat.reduceLT, Nat.reduceLeDiff, Nat.reduceEqDiff, Nat.reduceBEq, Nat.reduceGT, Int.reduceEq, Int.reduceNe, Int.reduceLT, Int.reduceLE, Int.reduceToNat, Int.reduceNeg, Int.reduceBEq, Int.reduceAdd, Int.reduceSub, Int.reduceGT, Int.reduceGE, Int.reduceBNe]
          refine ⟨hlx, by cases e; cases g; cases b1; cases b2; rfl, ?_⟩
          rw [w64 (n := (x : Int) + 1) (by unfold fit; omega)]
          exact wk_slots (by simp [slotsLe])
        · rw [eqT_ne b2]
          simp only [go_sem, reduceIte, reduceCtorEq, Nat.reduceAdd, Nat.reduceSub, Nat.reduceMul, Nat.reduceLT, Nat.reduceLeDiff, Nat.reduceEqDiff, Nat.reduceBEq, Nat.reduceGT, Int.reduceEq, Int.reduceNe, Int.reduceLT, Int.reduceLE, Int.reduceToNat, Int.reduceNeg, Int.reduceBEq, Int.reduceAdd, Int.reduceSub, Int.reduceGT, Int.reduceGE, Int.reduceBNe]
          rw [bad (fun h => b2 (by rw [h]))]
      · have q1 : (e.i != g.i) = true := by simp [b1]
        simp only [go_sem, reduceIte, reduceCtorEq, Nat.reduceAdd, Nat.reduceSub, Nat.reduceMul, Nat.reduceLT, Nat.reduceLeDiff, Nat.reduceEqDiff, Nat.reduceBEq, Nat.reduceGT, Int.reduceEq, Int.reduceNe, Int.reduceLT, Int.reduceLE, Int.reduceToNat, Int.reduceNeg, Int.reduceBEq, Int.reduceAdd, Int.reduceSub, Int.reduceGT, Int.reduceGE, Int.reduceBNe, hlt, hltD, e0, hr, hrD, hlen, hlenD, q1]
        rw [bad (fun h => b1 (by rw [h]))]
    · have hge := of_decide_eq_false h
      have hxe : x = C.length := by omega
      simp only [go_sem, reduceIte, reduceCtorEq, Nat.reduceAdd, Nat.reduceSub, Nat.reduceMul, Nat.reduceLT, Nat.reduceLeDiff, Nat.reduceEqDiff, Nat.reduceBEq, Nat.reduceGT, Int.reduceEq, Int.reduceNe, Int.reduceLT, Int.reduceLE, Int.reduceToNat, Int.reduceNeg, Int.reduceBEq, Int.reduceAdd, Int.reduceSub, Int.reduceGT, Int.reduceGE, Int.reduceBNe, h]
      have : C = D := List.ext_getElem a5 (fun y hy hy' => by
        have := hp y (by omega)
        rw [List.getElem?_eq_getElem hy, List.getElem?_eq_getElem hy'] at this
        exact this)
      rw [this, eqC_self]
  · exact wk_slots (by simp [slotsLe])
set_option maxRecDepth 10000 in
set_option maxHeartbeats 1000000 in
theorem con_keepCtx (C D : List En) (hC : ∀ e ∈ C, e.ok) (hD : ∀ e ∈ D, e.ok) (hn : C.length ≤ 1000) : Con 38 [.dsl 6 (C.map En.v), .dsl 6 (D.map En.v)] (.bool (eqC C D)) := by
  have hrow := en_row C
  have hrowD := en_row D
  have hlen : (C.map En.v).length = C.length := by simp
  have hlenD : (D.map En.v).length = D.length := by simp
  generalize C.map En.v = rows at *
  generalize D.map En.v = rowsD at *
  refine contract_of_vc mixed Tryz.func38 tr38 ?_
  by_cases a5 : C.length = D.length
  rotate_left
  · have q : ((C.length : Int) != (D.length : Int)) = true := by simp; omega
    rw [eqC_ne (fun h => a5 (by rw [h]))]
    simp only [go_sem, reduceIte, reduceCtorEq, Nat.reduceAdd, Nat.reduceSub, Nat.reduceMul, Nat.reduceLT, Nat.reduceLeDiff, Nat.reduceEqDiff, Nat.reduceBEq, Nat.reduceGT, Int.reduceEq, Int.reduceNe, Int.reduceLT, Int.reduceLE, Int.reduceToNat, Int.reduceNeg, Int.reduceBEq, Int.reduceAdd, Int.reduceSub, Int.reduceGT, Int.reduceGE, Int.reduceBNe, hlen, hlenD, q]
    try intros
  have q5 : ((C.length : Int) != (D.length : Int)) = false := by simp; omega
  simp only [go_sem, reduceIte, reduceCtorEq, Nat.reduceAdd, Nat.reduceSub, Nat.reduceMul, Nat.reduceLT, Nat.reduceLeDiff, Nat.reduceEqDiff, Nat.reduceBEq, Nat.reduceGT, Int.reduceEq, Int.reduceNe, Int.reduceLT, Int.reduceLE, Int.reduceToNat, Int.reduceNeg, Int.reduceBEq, Int.reduceAdd, Int.reduceSub, Int.reduceGT, Int.reduceGE, Int.reduceBNe, hlen, hlenD, q5]
  intros
  refine vc_forp (fun x => ⟨(.dsl 6 rows :: .dsl 6 rowsD :: .junk :: .junk :: .bool false :: .int .i64 x :: .junk :: .junk :: .junk :: .junk :: .junk :: .junk :: .junk :: .junk :: .junk :: .junk :: .junk :: .junk :: .junk :: .junk :: .junk :: .junk :: .junk :: .junk :: .junk :: .junk :: .junk :: .junk :: .junk :: .junk :: .junk :: .junk :: .junk :: .junk :: .junk :: .junk :: .junk :: .junk :: .junk :: .junk :: .junk :: .junk :: []), []⟩) C.length (fun x => C[x]?.getD default = D[x]?.getD default) (fun x hx hp => ?_) ?_
  · simp only [go_sem, reduceIte, reduceCtorEq, Nat.reduceAdd, Nat.reduceSub, Nat.reduceMul, Nat.reduceLT, Nat.reduceLeDiff, Nat.reduceEqDiff, Nat.reduceBEq, Nat.reduceGT, Int.reduceEq, Int.reduceNe, Int.reduceLT, Int.reduceLE, Int.reduceToNat, Int.reduceNeg, Int.reduceBEq, Int.reduceAdd, Int.reduceSub, Int.reduceGT, Int.reduceGE, Int.reduceBNe, hlen]
    intros
    refine ⟨fun h => ?_, fun h => ?_⟩
    · have hlt := of_decide_eq_true h
      have hlx : x < C.length := by omega
      have hlxD : x < D.length := by omega
      have hltD : (x : Int) < (D.length : Int) := by omega
      have e0 : (0 : Int) ≤ (x : Int) := by omega
      have hr := hrow x hlx
      have hrD := hrowD x hlxD
      obtain ⟨oa, oi⟩ := hC _ (get_lt (d := default) hlx)
      obtain ⟨oaD, oiD⟩ := hD _ (get_lt (d := default) hlxD)
      have bad : C[x]?.getD default ≠ D[x]?.getD default → eqC C D = false := fun h => eqC_ne (fun h' => h (by rw [h']))
      generalize C[x]?.getD default = e at *
      generalize D[x]?.getD default = g at *
      have c1 := con_ksame e.a oa g.a oaD
      by_cases b1 : e.i = g.i
      · have q1 : (e.i != g.i) = false := by simp [b1]
        simp only [go_sem, reduceIte, reduceCtorEq, Nat.reduceAdd, Nat.reduceSub, Nat.reduceMul, Nat.reduceLT, Nat.reduceLeDiff, Nat.reduceEqDiff, Nat.reduceBEq, Nat.reduceGT, Int.reduceEq, Int.reduceNe, Int.reduceLT, Int.reduceLE, Int.reduceToNat, Int.reduceNeg, Int.reduceBEq, Int.reduceAdd, Int.reduceSub, Int.reduceGT, Int.reduceGE, Int.reduceBNe, hlt, hltD, e0, hr, hrD, hlen, hlenD, q1]
        refine callK_of c1 ?_
        by_cases b2 : e.a = g.a
        · rw [b2, eqT_self]
          simp only [go_sem, reduceIte, reduceCtorEq, Nat.reduceAdd, Nat.reduceSub, Nat.reduceMul, Nat.reduceLT, Nat.reduceLeDiff, Nat.reduceEqDiff, Nat.reduceBEq, Nat.reduceGT, Int.reduceEq, Int.reduceNe, Int.reduceLT, Int.reduceLE, Int.reduceToNat, Int.reduceNeg, Int.reduceBEq, Int.reduceAdd, Int.reduceSub, Int.reduceGT, Int.reduceGE, Int.reduceBNe]
          refine ⟨hlx, by cases e; cases g; cases b1; cases b2; rfl, ?_⟩
          rw [w64 (n := (x : Int) + 1) (by unfold fit; omega)]
          exact wk_slots (by simp [slotsLe])
        · rw [eqT_ne b2]
          simp only [go_sem, reduceIte, reduceCtorEq, Nat.reduceAdd, Nat.reduceSub, Nat.reduceMul, Nat.reduceLT, Nat.reduceLeDiff, Nat.reduceEqDiff, Nat.reduceBEq, Nat.reduceGT, Int.reduceEq, Int.reduceNe, Int.reduceLT, Int.reduceLE, Int.reduceToNat, Int.reduceNeg, Int.reduceBEq, Int.reduceAdd, Int.reduceSub, Int.reduceGT, Int.reduceGE, Int.reduceBNe]
          rw [bad (fun h => b2 (by rw [h]))]
      · have q1 : (e.i != g.i) = true := by simp [b1]
        simp only [go_sem, reduceIte, reduceCtorEq, Nat.reduceAdd, Nat.reduceSub, Nat.reduceMul, Nat.reduceLT, Nat.reduceLeDiff, Nat.reduceEqDiff, Nat.reduceBEq, Nat.reduceGT, Int.reduceEq, Int.reduceNe, Int.reduceLT, Int.reduceLE, Int.reduceToNat, Int.reduceNeg, Int.reduceBEq, Int.reduceAdd, Int.reduceSub, Int.reduceGT, Int.reduceGE, Int.reduceBNe, hlt, hltD, e0, hr, hrD, hlen, hlenD, q1]
        rw [bad (fun h => b1 (by rw [h]))]
    · have hge := of_decide_eq_false h
      have hxe : x = C.length := by omega
      simp only [go_sem, reduceIte, reduceCtorEq, Nat.reduceAdd, Nat.reduceSub, Nat.reduceMul, Nat.reduceLT, Nat.reduceLeDiff, Nat.reduceEqDiff, Nat.reduceBEq, Nat.reduceGT, Int.reduceEq, Int.reduceNe, Int.reduceLT, Int.reduceLE, Int.reduceToNat, Int.reduceNeg, Int.reduceBEq, Int.reduceAdd, Int.reduceSub, Int.reduceGT, Int.reduceGE, Int.reduceBNe, h]
      have : C = D := List.ext_getElem a5 (fun y hy hy' => by
        have := hp y (by omega)
        rw [List.getElem?_eq_getElem hy, List.getElem?_eq_getElem hy'] at this
        exact this)
      rw [this, eqC_self]
  · exact wk_slots (by simp [slotsLe])
end Go.Proofs.YtkldipbhenabfaaGreat.Abs

