/- Free variables and low levels, by the program and by the page. -/
import Derived.Test.YtkldipbhenabfaaGreatRJe
import Derived.Test.YtkldipbhenabfaaGreatRAfP
import Derived.Test.YtkldipbhenabfaaGreatRAfQ
set_option linter.unusedSimpArgs false
set_option linter.unusedVariables false
namespace Go.Proofs.YtkldipbhenabfaaGreat.Abs
open Go Go.RowKit Go.Proofs.YtkldipbhenabfaaGreat

theorem pm_next {V : Nat → Int} {x : Nat} : (if pm V x < V x then V x else pm V x) = pm V (x + 1) := by
  rw [pm]
  split <;> omega
set_option maxRecDepth 10000 in
set_option maxHeartbeats 1000000 in
theorem con_free_rows (k i j n d : Int) (rows : List (List SV)) (V : Nat → Int) (h2 : rows.length * 56 ≤ 140737488355328) (h5 : ∀ r ∈ rows, r.length = 5) (hk : k ≠ 2) (hd : 0 ≤ d) (hd2 : d ≤ 1000000000000)
    (H : ∀ x, x < rows.length → Con 111 [.agg true (rows[x]?.getD []), .int .i64 (d + bindsN k (x : Nat))] (.int .i64 (V x))) :
    Con 111 [.agg true [.int .i64 k, .int .i64 i, .int .i64 j, .int .i64 n, .dsl 5 rows], .int .i64 d] (.int .i64 (pm V rows.length)) := by
  refine contract_of_vc mixed Tryz.func111 tr111 ?_
  have q : (k == 2) = false := beq_no hk
  simp only [go_sem, reduceIte, reduceCtorEq, Nat.reduceAdd, Nat.reduceSub, Nat.reduceMul, Nat.reduceLT, Nat.reduceLeDiff, Nat.reduceEqDiff, Nat.reduceBEq, Nat.reduceGT, Int.reduceEq, Int.reduceNe, Int.reduceLT, Int.reduceLE, Int.reduceToNat, Int.reduceNeg, Int.reduceBEq, Int.reduceAdd, Int.reduceSub, Int.reduceGT, Int.reduceGE, Int.reduceBNe, q]
  intros
  refine vc_for (fun x => ⟨(.junk :: .int .i64 d :: .ref 0 0 0 0 :: .junk :: .int .i64 0 :: .int .i64 (pm V x) :: .junk :: .junk :: .junk :: .junk :: .junk :: .junk :: .junk :: .junk :: .junk :: .junk :: .junk :: .junk :: .dsl 5 rows :: .int .i64 rows.length :: .int .i64 x :: .junk :: .junk :: .junk :: .junk :: .junk :: .junk :: .junk :: .junk :: .junk :: .junk :: .junk :: .junk :: .junk :: .junk :: .junk :: .junk :: []),
    [⟨true, 5, [[.int .i64 k, .int .i64 i, .int .i64 j, .int .i64 n, .dsl 5 rows]], 0, 0, true⟩]⟩) rows.length (fun x hx => ?_) ?_
  · simp only [go_sem, reduceIte, reduceCtorEq, Nat.reduceAdd, Nat.reduceSub, Nat.reduceMul, Nat.reduceLT, Nat.reduceLeDiff, Nat.reduceEqDiff, Nat.reduceBEq, Nat.reduceGT, Int.reduceEq, Int.reduceNe, Int.reduceLT, Int.reduceLE, Int.reduceToNat, Int.reduceNeg, Int.reduceBEq, Int.reduceAdd, Int.reduceSub, Int.reduceGT, Int.reduceGE, Int.reduceBNe]
    refine ⟨fun h => ?_, fun h => ?_⟩
    · have hlt := of_decide_eq_true h
      have hlt' : x < rows.length := by omega
      have e0 : (0 : Int) ≤ (x : Int) := by omega
      have hm := get_lt (d := []) hlt'
      have h5' := h5 _ hm
      have hb := binds_le k x
      have ew : IntKind.i64.wrap (d + bindsN k x) = d + bindsN k x := w64 (by unfold fit; omega)
      simp only [go_sem, reduceIte, reduceCtorEq, Nat.reduceAdd, Nat.reduceSub, Nat.reduceMul, Nat.reduceLT, Nat.reduceLeDiff, Nat.reduceEqDiff, Nat.reduceBEq, Nat.reduceGT, Int.reduceEq, Int.reduceNe, Int.reduceLT, Int.reduceLE, Int.reduceToNat, Int.reduceNeg, Int.reduceBEq, Int.reduceAdd, Int.reduceSub, Int.reduceGT, Int.reduceGE, Int.reduceBNe, hlt, e0, h5']
      refine callK_of (con_binds k x) ?_
      simp only [go_sem, reduceIte, reduceCtorEq, Nat.reduceAdd, Nat.reduceSub, Nat.reduceMul, Nat.reduceLT, Nat.reduceLeDiff, Nat.reduceEqDiff, Nat.reduceBEq, Nat.reduceGT, Int.reduceEq, Int.reduceNe, Int.reduceLT, Int.reduceLE, Int.reduceToNat, Int.reduceNeg, Int.reduceBEq, Int.reduceAdd, Int.reduceSub, Int.reduceGT, Int.reduceGE, Int.reduceBNe, ew]
      refine callK_of (H x hlt') ?_
      simp only [go_sem, reduceIte, reduceCtorEq, Nat.reduceAdd, Nat.reduceSub, Nat.reduceMul, Nat.reduceLT, Nat.reduceLeDiff, Nat.reduceEqDiff, Nat.reduceBEq, Nat.reduceGT, Int.reduceEq, Int.reduceNe, Int.reduceLT, Int.reduceLE, Int.reduceToNat, Int.reduceNeg, Int.reduceBEq, Int.reduceAdd, Int.reduceSub, Int.reduceGT, Int.reduceGE, Int.reduceBNe, pm_next]
      refine ⟨hlt', ?_⟩
      rw [w64 (n := (x : Int) + 1) (by unfold fit; omega)]
      exact wk_trunc 1 (by simp [slotsLe]) (by simp) (by simp [below]) (by simp)
    · have hge := of_decide_eq_false h
      have hxe : x = rows.length := by omega
      subst hxe
      simp only [go_sem, reduceIte, reduceCtorEq, Nat.reduceAdd, Nat.reduceSub, Nat.reduceMul, Nat.reduceLT, Nat.reduceLeDiff, Nat.reduceEqDiff, Nat.reduceBEq, Nat.reduceGT, Int.reduceEq, Int.reduceNe, Int.reduceLT, Int.reduceLE, Int.reduceToNat, Int.reduceNeg, Int.reduceBEq, Int.reduceAdd, Int.reduceSub, Int.reduceGT, Int.reduceGE, Int.reduceBNe, h]
  · exact wk_slots (by simp [slotsLe, pm])
theorem con_free1 (t : Tm) : TOk t → ∀ (w d : Int), rightT t w = true → 0 ≤ d → d + 2 * hgtT t ≤ 1000000000000 → Con 111 [.agg true (tv t), .int .i64 d] (.int .i64 (max (freeR t - d) 0)) := by
  induction t using Tm.ind with
  | h k i j n l ih =>
    intro hok w d hr hd hb2
    obtain ⟨f1, f2, f3, f4, hb, hl⟩ := tok_of hok
    rw [hgtT_mk] at hb2
    by_cases hk : k = 2
    · obtain ⟨i1, i2⟩ := right_var hr hk
      have q : (k == 2) = true := by simp [hk]
      have e1 : IntKind.i64.wrap (i + 1) = i + 1 := w64 (by unfold fit; omega)
      have e2 : IntKind.i64.wrap (i + 1 - d) = i + 1 - d := w64 (by unfold fit; omega)
      have e3 : max (i + 1 - d) 0 = if i + 1 - d < 0 then 0 else i + 1 - d := by split <;> omega
      rw [freeR, if_pos hk, e3]
      refine contract_of_vc mixed Tryz.func111 tr111 ?_
      rw [tv_mk]
      simp only [go_sem, reduceIte, reduceCtorEq, Nat.reduceAdd, Nat.reduceSub, Nat.reduceMul, Nat.reduceLT, Nat.reduceLeDiff, Nat.reduceEqDiff, Nat.reduceBEq, Nat.reduceGT, Int.reduceEq, Int.reduceNe, Int.reduceLT, Int.reduceLE, Int.reduceToNat, Int.reduceNeg, Int.reduceBEq, Int.reduceAdd, Int.reduceSub, Int.reduceGT, Int.reduceGE, Int.reduceBNe, q, e1, e2]
    · have hlen : (l.map tv).length = l.length := by simp
      have h := con_free_rows k i j n d (l.map tv) (fun x => max (freeR (l[x]?.getD default) - (d + bindsN k (x : Nat))) 0) (by omega) (rows5 l) hk hd (by omega) (fun x hx => by
        rw [hlen] at hx
        rw [List.getElem?_map, List.getElem?_eq_getElem hx]
        have hm := List.getElem_mem hx
        obtain ⟨w', hw⟩ := right_kid hr hm
        have hh := hgt_mem hm
        have hbl := binds_le k x
        exact ih _ hm (hl _ hm) w' _ hw (by omega) (by omega))
      rw [hlen, ← tv_mk] at h
      have e : pm (fun x => max (freeR (l[x]?.getD default) - (d + bindsN k (x : Nat))) 0) l.length = max (freeR (.mk k i j n l) - d) 0 := by
        rw [freeR_mk hk, ← pm_down _ d hd]
        refine pm_congr (fun y _ => ?_)
        show max (freeR (l[y]?.getD default) - (d + bindsN k (y : Nat))) 0 = max (freeR (l[y]?.getD default) - bindsN k (y : Nat) - d) 0
        congr 1
        omega
      rw [e] at h
      exact h
def freeF (t : Tm) : Int := if rightT t 0 then freeR t else 0
theorem con_free (t : Tm) (ht : TOk t) (hh : hgtT t ≤ 100000) : Con 80 [.agg true (tv t)] (.int .i64 (freeF t)) := by
  have h1 := con_rightq t ht
  have hz := tv_len t
  unfold freeF
  refine contract_of_vc mixed Tryz.func80 tr80 ?_
  cases hr : rightT t 0
  · rw [hr] at h1
    simp only [go_sem, reduceIte, reduceCtorEq, Nat.reduceAdd, Nat.reduceSub, Nat.reduceMul, Nat.reduceLT, Nat.reduceLeDiff, Nat.reduceEqDiff, Nat.reduceBEq, Nat.reduceGT, Int.reduceEq, Int.reduceNe, Int.reduceLT, Int.reduceLE, Int.reduceToNat, Int.reduceNeg, Int.reduceBEq, Int.reduceAdd, Int.reduceSub, Int.reduceGT, Int.reduceGE, Int.reduceBNe, hz]
    refine callK_of h1 ?_
    simp only [go_sem, reduceIte, reduceCtorEq, Nat.reduceAdd, Nat.reduceSub, Nat.reduceMul, Nat.reduceLT, Nat.reduceLeDiff, Nat.reduceEqDiff, Nat.reduceBEq, Nat.reduceGT, Int.reduceEq, Int.reduceNe, Int.reduceLT, Int.reduceLE, Int.reduceToNat, Int.reduceNeg, Int.reduceBEq, Int.reduceAdd, Int.reduceSub, Int.reduceGT, Int.reduceGE, Int.reduceBNe]
  · rw [hr] at h1
    have h2 := con_free1 t ht 0 0 hr (by omega) (by omega)
    have hp := freeR_bd t 0 hr
    rw [show max (freeR t - 0) 0 = freeR t by omega] at h2
    simp only [go_sem, reduceIte, reduceCtorEq, Nat.reduceAdd, Nat.reduceSub, Nat.reduceMul, Nat.reduceLT, Nat.reduceLeDiff, Nat.reduceEqDiff, Nat.reduceBEq, Nat.reduceGT, Int.reduceEq, Int.reduceNe, Int.reduceLT, Int.reduceLE, Int.reduceToNat, Int.reduceNeg, Int.reduceBEq, Int.reduceAdd, Int.reduceSub, Int.reduceGT, Int.reduceGE, Int.reduceBNe, hz]
    refine callK_of h1 ?_
    simp only [go_sem, reduceIte, reduceCtorEq, Nat.reduceAdd, Nat.reduceSub, Nat.reduceMul, Nat.reduceLT, Nat.reduceLeDiff, Nat.reduceEqDiff, Nat.reduceBEq, Nat.reduceGT, Int.reduceEq, Int.reduceNe, Int.reduceLT, Int.reduceLE, Int.reduceToNat, Int.reduceNeg, Int.reduceBEq, Int.reduceAdd, Int.reduceSub, Int.reduceGT, Int.reduceGE, Int.reduceBNe, hz]
    refine callK_of h2 ?_
    simp only [go_sem, reduceIte, reduceCtorEq, Nat.reduceAdd, Nat.reduceSub, Nat.reduceMul, Nat.reduceLT, Nat.reduceLeDiff, Nat.reduceEqDiff, Nat.reduceBEq, Nat.reduceGT, Int.reduceEq, Int.reduceNe, Int.reduceLT, Int.reduceLE, Int.reduceToNat, Int.reduceNeg, Int.reduceBEq, Int.reduceAdd, Int.reduceSub, Int.reduceGT, Int.reduceGE, Int.reduceBNe]
/-! Low levels -/
def lowN (top k i j : Int) : Bool := !((k != 2) && (decide (top < i) || decide (top < j)))
mutual
def lowT (top : Int) : Tm → Bool
  | .mk k i j _ l => lowN top k i j && lowL top l
def lowL (top : Int) : List Tm → Bool
  | [] => true
  | t :: l => lowT top t && lowL top l
end
theorem lowL_all (top : Int) : ∀ l : List Tm, lowL top l = l.all (lowT top) := by
  intro l
  induction l with
  | nil => rw [lowL]; rfl
  | cons t l ih => rw [lowL, ih]; rfl
theorem lowT_mk (top k i j n : Int) (l : List Tm) : lowT top (.mk k i j n l) = (lowN top k i j && l.all (lowT top)) := by rw [lowT, lowL_all]
set_option maxRecDepth 10000 in
set_option maxHeartbeats 2000000 in
theorem con_tlow_rows (k i j n top : Int) (rows : List (List SV)) (W : List SV → Bool) (h2 : rows.length * 56 ≤ 140737488355328) (h5 : ∀ r ∈ rows, r.length = 5)
    (H : ∀ r ∈ rows, Con 67 [.agg true r, .int .i64 top] (.bool (W r))) :
    Con 67 [.agg true [.int .i64 k, .int .i64 i, .int .i64 j, .int .i64 n, .dsl 5 rows], .int .i64 top] (.bool (lowN top k i j && rows.all W)) := by
  refine contract_of_vc mixed Tryz.func67 tr67 ?_
  simp only [go_sem, reduceIte, reduceCtorEq, Nat.reduceAdd, Nat.reduceSub, Nat.reduceMul, Nat.reduceLT, Nat.reduceLeDiff, Nat.reduceEqDiff, Nat.reduceBEq, Nat.reduceGT, Int.reduceEq, Int.reduceNe, Int.reduceLT, Int.reduceLE, Int.reduceToNat, Int.reduceNeg, Int.reduceBEq, Int.reduceAdd, Int.reduceSub, Int.reduceGT, Int.reduceGE, Int.reduceBNe]
  unfold lowN
  cases h1 : (k != 2) <;> by_cases h3 : top < i <;> by_cases h4 : top < j <;> simp only [go_sem, reduceIte, reduceCtorEq, Nat.reduceAdd, Nat.reduceSub, Nat.reduceMul, Nat.reduceLT, Nat.reduceLeDiff, Nat.reduceEqDiff, Nat.reduceBEq, Nat.reduceGT, Int.reduceEq, Int.reduceNe, Int.reduceLT, Int.reduceLE, Int.reduceToNat, Int.reduceNeg, Int.reduceBEq, Int.reduceAdd, Int.reduceSub, Int.reduceGT, Int.reduceGE, Int.reduceBNe, h1, h3, h4]
  all_goals
    intros
    refine vc_forp (fun x => ⟨(.junk :: .int .i64 top :: .ref 0 0 0 0 :: .junk :: .bool false :: .junk :: .junk :: .junk :: .junk :: .junk :: .junk :: .junk :: .junk :: .junk :: .junk :: .junk :: .junk :: .junk :: .junk :: .junk :: .junk :: .junk :: .junk :: .dsl 5 rows :: .int .i64 rows.length :: .int .i64 x :: .junk :: .junk :: .junk :: .junk :: .junk :: .junk :: .junk :: .junk :: []),
        [⟨true, 5, [[.int .i64 k, .int .i64 i, .int .i64 j, .int .i64 n, .dsl 5 rows]], 0, 0, true⟩]⟩) rows.length (fun x => W (rows[x]?.getD []) = true) (fun x hx hp => ?_) ?_
    · simp only [go_sem, reduceIte, reduceCtorEq, Nat.reduceAdd, Nat.reduceSub, Nat.reduceMul, Nat.reduceLT, Nat.reduceLeDiff, Nat.reduceEqDiff, Nat.reduceBEq, Nat.reduceGT, Int.reduceEq, Int.reduceNe, Int.reduceLT, Int.reduceLE, Int.reduceToNat, Int.reduceNeg, Int.reduceBEq, Int.reduceAdd, Int.reduceSub, Int.reduceGT, Int.reduceGE, Int.reduceBNe]
      refine ⟨fun h => ?_, fun h => ?_⟩
      · have hlt := of_decide_eq_true h
        have hlt' : x < rows.length := by omega
        have e0 : (0 : Int) ≤ (x : Int) := by omega
        have hm := get_lt (d := []) hlt'
        have h5' := h5 _ hm
        simp only [go_sem, reduceIte, reduceCtorEq, Nat.reduceAdd, Nat.reduceSub, Nat.reduceMul, Nat.reduceLT, Nat.reduceLeDiff, Nat.reduceEqDiff, Nat.reduceBEq, Nat.reduceGT, Int.reduceEq, Int.reduceNe, Int.reduceLT, Int.reduceLE, Int.reduceToNat, Int.reduceNeg, Int.reduceBEq, Int.reduceAdd, Int.reduceSub, Int.reduceGT, Int.reduceGE, Int.reduceBNe, hlt, e0, h5']
        refine callK_of (H _ hm) ?_
        cases hW : W (rows[x]?.getD []) <;> simp only [go_sem, reduceIte, reduceCtorEq, Nat.reduceAdd, Nat.reduceSub, Nat.reduceMul, Nat.reduceLT, Nat.reduceLeDiff, Nat.reduceEqDiff, Nat.reduceBEq, Nat.reduceGT, Int.reduceEq, Int.reduceNe, Int.reduceLT, Int.reduceLE, Int.reduceToNat, Int.reduceNeg, Int.reduceBEq, Int.reduceAdd, Int.reduceSub, Int.reduceGT, Int.reduceGE, Int.reduceBNe]
        · rw [all_no (d := []) (i := x) hlt' hW]
        · refine ⟨hlt', ?_⟩
          rw [w64 (n := (x : Int) + 1) (by unfold fit; omega)]
          exact wk_trunc 1 (by simp [slotsLe]) (by simp) (by simp [below]) (by simp)
      · have hge := of_decide_eq_false h
        have hxe : x = rows.length := by omega
        simp only [go_sem, reduceIte, reduceCtorEq, Nat.reduceAdd, Nat.reduceSub, Nat.reduceMul, Nat.reduceLT, Nat.reduceLeDiff, Nat.reduceEqDiff, Nat.reduceBEq, Nat.reduceGT, Int.reduceEq, Int.reduceNe, Int.reduceLT, Int.reduceLE, Int.reduceToNat, Int.reduceNeg, Int.reduceBEq, Int.reduceAdd, Int.reduceSub, Int.reduceGT, Int.reduceGE, Int.reduceBNe, h]
        rw [all_of (d := []) (f := W) (fun j hj => hp j (by omega))]
    · exact wk_slots (by simp [slotsLe])
theorem con_tlow (top : Int) (t : Tm) : TOk t → Con 67 [.agg true (tv t), .int .i64 top] (.bool (lowT top t)) := by
  induction t using Tm.ind with
  | h k i j n l ih =>
    intro hok
    obtain ⟨f1, f2, f3, f4, hb, hl⟩ := tok_of hok
    have h := con_tlow_rows k i j n top (l.map tv) (onT (lowT top) false) (by simpa using hb) (rows5 l) (fun r hr => by
      obtain ⟨t, ht, rfl⟩ := List.mem_map.1 hr
      rw [onT_tv]
      exact ih t ht (hl t ht))
    rw [onT_all, ← lowT_mk top k i j n l, ← tv_mk] at h
    exact h
end Go.Proofs.YtkldipbhenabfaaGreat.Abs

