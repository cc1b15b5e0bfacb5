/- Heads, erasures, counts and sameness, by the program. -/
import Derived.Test.YtkldipbhenabfaaGreatQJd
import Derived.Test.YtkldipbhenabfaaGreatQAfP
import Derived.Test.YtkldipbhenabfaaGreatQAfQ
set_option linter.unusedSimpArgs false
set_option linter.unusedVariables false
namespace Go.Proofs.YtkldipbhenabfaaGreat.Abs
open Go Go.RowKit Go.Proofs.YtkldipbhenabfaaGreat

def headF (t : Tm) : Tm := if markT t then headT t else zT
set_option maxRecDepth 10000 in
set_option maxHeartbeats 2000000 in
theorem con_erase1 (N : Nat) : ∀ t, hgtT t ≤ N → TOk t → markT t = true → Con 64 [.agg true (tv t)] (.agg true (tv (eraseT t))) := by
  induction N with
  | zero => intro t h; cases t with | mk k i j n l => rw [hgtT_mk] at h; omega
  | succ N ih =>
    intro t hN ht hm
    obtain ⟨h, hh⟩ : ∃ h, headT t = h := ⟨_, rfl⟩
    obtain ⟨g0, g1, g2, g3, g4, g5, g6, g7⟩ := head_of t ht hm
    rw [hh] at g0 g1 g2 g3 g4 g6
    have hz := tv_len t
    cases h with
    | mk kk i j n l =>
    change kk ≠ 12 at g2
    rw [← g3, eraseT_no g2]
    obtain ⟨_, _, _, _, hb, hl⟩ := tok_of g0
    rw [hgtT_mk] at g6
    have H : ∀ r ∈ l.map tv, Con 64 [.agg true r] (.agg true (onT (fun t => tv (eraseT t)) [] r)) := fun r hr => by
      obtain ⟨u, hu, rfl⟩ := List.mem_map.1 hr
      rw [onT_tv]
      exact ih u (by have := hgt_mem hu; omega) (hl u hu) (mark_kid g1 g2 hu)
    have H5 : ∀ r ∈ l.map tv, (onT (fun t => tv (eraseT t)) [] r).length = 5 := fun r hr => by
      obtain ⟨u, hu, rfl⟩ := List.mem_map.1 hr
      rw [onT_tv]
      exact tv_len _
    have hY : tv (.mk kk i j n (l.map eraseT)) = [.int .i64 kk, .int .i64 i, .int .i64 j, .int .i64 n, .dsl 5 ((l.map tv).map (onT (fun t => tv (eraseT t)) []))] := by
      have e : (l.map eraseT).map tv = (l.map tv).map (onT (fun t => tv (eraseT t)) []) := by
        rw [List.map_map, List.map_map]
        apply List.map_congr_left
        intro u _
        simp only [Function.comp, onT_tv]
      rw [tv_mk, e]
    have hlen : (l.map tv).length = l.length := by simp
    have h5 := rows5 l
    have q : (kk == 12) = false := beq_no g2
    by_cases he : l = []
    · subst he
      refine (contract_of_vc (r := .agg true [.int .i64 kk, .int .i64 i, .int .i64 j, .int .i64 n, .nils]) mixed Tryz.func64 tr64 ?_).weaken (le_leaf kk i j n)
      simp only [go_sem, reduceIte, reduceCtorEq, Nat.reduceAdd, Nat.reduceSub, Nat.reduceMul, Nat.reduceLT, Nat.reduceLeDiff, Nat.reduceEqDiff, Nat.reduceBEq, Nat.reduceGT, Int.reduceEq, Int.reduceNe, Int.reduceLT, Int.reduceLE, Int.reduceToNat, Int.reduceNeg, Int.reduceBEq, Int.reduceAdd, Int.reduceSub, Int.reduceGT, Int.reduceGE, Int.reduceBNe, hz]
      refine vc_down (fun u => ⟨(.junk :: .ref 0 0 0 0 :: .ref 1 0 0 0 :: .junk :: .junk :: .junk :: .junk :: .junk :: .junk :: .junk :: .junk :: .junk :: .junk :: .junk :: .junk :: .junk :: .junk :: .junk :: .junk :: .junk :: .junk :: .junk :: .junk :: .junk :: .junk :: .junk :: .junk :: .junk :: .junk :: .junk :: .junk :: .junk :: .junk :: .junk :: .junk :: .junk :: .junk :: .junk :: .junk :: .junk :: []), [⟨true, 5, [tv u], 0, 0, true⟩, ⟨true, 5, [[.int .i64 0, .int .i64 0, .int .i64 0, .int .i64 0, .nils]], 0, 0, true⟩]⟩) (fun u => TOk u ∧ markT u = true ∧ headT u = .mk kk i j n []) hgtT (fun u hI => ?_) t ⟨ht, hm, hh⟩ ?_
      · obtain ⟨ho, hmu, he⟩ := hI
        cases u with
        | mk kk' i' j' n' l' =>
        by_cases hk : kk' = 12
        · subst hk
          obtain ⟨a, b, p, x, rfl, ma, mb, mp, mx⟩ := mark_tr hmu
          obtain ⟨_, _, _, _, _, hl⟩ := tok_of ho
          have hzx := tv_len x
          have hlt : hgtT x ≤ hgtL [a, b, p, x] := hgt_mem (by simp)
          rw [tv_mk]
          simp only [go_sem, reduceIte, reduceCtorEq, Nat.reduceAdd, Nat.reduceSub, Nat.reduceMul, Nat.reduceLT, Nat.reduceLeDiff, Nat.reduceEqDiff, Nat.reduceBEq, Nat.reduceGT, Int.reduceEq, Int.reduceNe, Int.reduceLT, Int.reduceLE, Int.reduceToNat, Int.reduceNeg, Int.reduceBEq, Int.reduceAdd, Int.reduceSub, Int.reduceGT, Int.reduceGE, Int.reduceBNe, List.map_cons, List.map_nil, hzx]
          refine ⟨x, by rw [hgtT_mk]; omega, ⟨hl x (by simp), mx, by rw [← he, headT_tr]⟩, wk_slots (by simp [slotsLe])⟩
        · rw [headT_no hk] at he
          cases he
          rw [tv_mk]
          simp only [go_sem, reduceIte, reduceCtorEq, Nat.reduceAdd, Nat.reduceSub, Nat.reduceMul, Nat.reduceLT, Nat.reduceLeDiff, Nat.reduceEqDiff, Nat.reduceBEq, Nat.reduceGT, Int.reduceEq, Int.reduceNe, Int.reduceLT, Int.reduceLE, Int.reduceToNat, Int.reduceNeg, Int.reduceBEq, Int.reduceAdd, Int.reduceSub, Int.reduceGT, Int.reduceGE, Int.reduceBNe, q, List.map_nil]
      · exact wk_slots (by simp [slotsLe])
    · rw [hY]
      have hne : (l.map tv).length ≠ 0 := fun h => he (List.length_eq_zero_iff.1 (by omega))
      have h2 : (l.map tv).length * 56 ≤ 140737488355328 := by omega
      refine contract_of_vc mixed Tryz.func64 tr64 ?_
      simp only [go_sem, reduceIte, reduceCtorEq, Nat.reduceAdd, Nat.reduceSub, Nat.reduceMul, Nat.reduceLT, Nat.reduceLeDiff, Nat.reduceEqDiff, Nat.reduceBEq, Nat.reduceGT, Int.reduceEq, Int.reduceNe, Int.reduceLT, Int.reduceLE, Int.reduceToNat, Int.reduceNeg, Int.reduceBEq, Int.reduceAdd, Int.reduceSub, Int.reduceGT, Int.reduceGE, Int.reduceBNe, hz]
      refine vc_down (fun u => ⟨(.junk :: .ref 0 0 0 0 :: .ref 1 0 0 0 :: .junk :: .junk :: .junk :: .junk :: .junk :: .junk :: .junk :: .junk :: .junk :: .junk :: .junk :: .junk :: .junk :: .junk :: .junk :: .junk :: .junk :: .junk :: .junk :: .junk :: .junk :: .junk :: .junk :: .junk :: .junk :: .junk :: .junk :: .junk :: .junk :: .junk :: .junk :: .junk :: .junk :: .junk :: .junk :: .junk :: .junk :: []), [⟨true, 5, [tv u], 0, 0, true⟩, ⟨true, 5, [[.int .i64 0, .int .i64 0, .int .i64 0, .int .i64 0, .nils]], 0, 0, true⟩]⟩) (fun u => TOk u ∧ markT u = true ∧ headT u = .mk kk i j n l) hgtT (fun u hI => ?_) t ⟨ht, hm, hh⟩ ?_
      · obtain ⟨ho, hmu, he⟩ := hI
        cases u with
        | mk kk' i' j' n' l' =>
        by_cases hk : kk' = 12
        · subst hk
          obtain ⟨a, b, p, x, rfl, ma, mb, mp, mx⟩ := mark_tr hmu
          obtain ⟨_, _, _, _, _, hl⟩ := tok_of ho
          have hzx := tv_len x
          have hlt : hgtT x ≤ hgtL [a, b, p, x] := hgt_mem (by simp)
          rw [tv_mk]
          simp only [go_sem, reduceIte, reduceCtorEq, Nat.reduceAdd, Nat.reduceSub, Nat.reduceMul, Nat.reduceLT, Nat.reduceLeDiff, Nat.reduceEqDiff, Nat.reduceBEq, Nat.reduceGT, Int.reduceEq, Int.reduceNe, Int.reduceLT, Int.reduceLE, Int.reduceToNat, Int.reduceNeg, Int.reduceBEq, Int.reduceAdd, Int.reduceSub, Int.reduceGT, Int.reduceGE, Int.reduceBNe, List.map_cons, List.map_nil, hzx]
          refine ⟨x, by rw [hgtT_mk]; omega, ⟨hl x (by simp), mx, by rw [← he, headT_tr]⟩, wk_slots (by simp [slotsLe])⟩
        · rw [headT_no hk] at he
          cases he
          rw [tv_mk]
          generalize l.map tv = rows at *
          have hz1 : ((rows.length : Int) == 0) = false := beq_no (by omega)
          have hz2 : (rows.length : Int) * 56 ≤ 140737488355328 := by omega
          have hz3 : (rows.length : Int) ≤ 140737488355328 := by omega
          have hz4 : (0 : Int) ≤ (rows.length : Int) := by omega
          generalize hX : onT (fun t => tv (eraseT t)) [] = X at *
          have hys : (rows.map X).length = rows.length := by simp
          have hyx : ∀ x, x < rows.length → (rows.map X)[x]?.getD [] = X (rows[x]?.getD []) := fun x hx => by
            rw [List.getElem?_map, List.getElem?_eq_getElem hx]; rfl
          generalize rows.map X = ys at *
          simp only [go_sem, reduceIte, reduceCtorEq, Nat.reduceAdd, Nat.reduceSub, Nat.reduceMul, Nat.reduceLT, Nat.reduceLeDiff, Nat.reduceEqDiff, Nat.reduceBEq, Nat.reduceGT, Int.reduceEq, Int.reduceNe, Int.reduceLT, Int.reduceLE, Int.reduceToNat, Int.reduceNeg, Int.reduceBEq, Int.reduceAdd, Int.reduceSub, Int.reduceGT, Int.reduceGE, Int.reduceBNe, q, hz1, hz2, hz3, hz4, Int.le_refl]
          intros
          refine vc_for (fun x => ⟨(.junk :: .ref 0 0 0 0 :: .ref 1 0 0 0 :: .osl 2 0 0 rows.length :: .junk :: .junk :: .junk :: .junk :: .junk :: .junk :: .junk :: .junk :: .junk :: .junk :: .junk :: .junk :: .junk :: .junk :: .junk :: .junk :: .junk :: .junk :: .junk :: .junk :: .dsl 5 rows :: .int .i64 rows.length :: .int .i64 x :: .junk :: .junk :: .junk :: .junk :: .junk :: .junk :: .junk :: .junk :: .junk :: .junk :: .junk :: .junk :: .junk :: []),
            [⟨true, 5, [[.int .i64 kk, .int .i64 i, .int .i64 j, .int .i64 n, .dsl 5 rows]], 0, 0, true⟩, ⟨true, 5, [[.int .i64 0, .int .i64 0, .int .i64 0, .int .i64 0, .nils]], 0, 0, true⟩,
             ⟨false, 5, ys.take x ++ List.replicate (ys.length - x) [.int .i64 0, .int .i64 0, .int .i64 0, .int .i64 0, .nils], 0, 0, true⟩]⟩) rows.length (fun x hx => ?_) ?_
          · simp only [go_sem, reduceIte, reduceCtorEq, Nat.reduceAdd, Nat.reduceSub, Nat.reduceMul, Nat.reduceLT, Nat.reduceLeDiff, Nat.reduceEqDiff, Nat.reduceBEq, Nat.reduceGT, Int.reduceEq, Int.reduceNe, Int.reduceLT, Int.reduceLE, Int.reduceToNat, Int.reduceNeg, Int.reduceBEq, Int.reduceAdd, Int.reduceSub, Int.reduceGT, Int.reduceGE, Int.reduceBNe]
            refine ⟨fun h => ?_, fun h => ?_⟩
            · have hlt := of_decide_eq_true h
              have hlt' : x < rows.length := by omega
              have e0 : (0 : Int) ≤ (x : Int) := by omega
              have hm := get_lt (d := []) hlt'
              have h5' := h5 _ hm
              have hu := H5 _ hm
              have hc := H _ hm
              have hy := hyx x hlt'
              simp only [go_sem, reduceIte, reduceCtorEq, Nat.reduceAdd, Nat.reduceSub, Nat.reduceMul, Nat.reduceLT, Nat.reduceLeDiff, Nat.reduceEqDiff, Nat.reduceBEq, Nat.reduceGT, Int.reduceEq, Int.reduceNe, Int.reduceLT, Int.reduceLE, Int.reduceToNat, Int.reduceNeg, Int.reduceBEq, Int.reduceAdd, Int.reduceSub, Int.reduceGT, Int.reduceGE, Int.reduceBNe, hlt, e0, h5']
              refine callK_of hc ?_
              simp only [go_sem, reduceIte, reduceCtorEq, Nat.reduceAdd, Nat.reduceSub, Nat.reduceMul, Nat.reduceLT, Nat.reduceLeDiff, Nat.reduceEqDiff, Nat.reduceBEq, Nat.reduceGT, Int.reduceEq, Int.reduceNe, Int.reduceLT, Int.reduceLE, Int.reduceToNat, Int.reduceNeg, Int.reduceBEq, Int.reduceAdd, Int.reduceSub, Int.reduceGT, Int.reduceGE, Int.reduceBNe, hlt, hlt', e0, hu, hys]
              have ts := take_set (l := ys) (z := [.int .i64 0, .int .i64 0, .int .i64 0, .int .i64 0, .nils]) (d := []) (i := x) (by omega)
              rw [hy, hys] at ts
              refine ⟨by simp [hys]; omega, ?_⟩
              rw [w64 (n := (x : Int) + 1) (by unfold fit; omega)]
              exact wk_trunc 3 (by simp [slotsLe]) (by simp only [List.take_succ_cons, List.take_zero, ts]) (by simp [below]) (by simp)
            · have hge := of_decide_eq_false h
              have hxe : x = rows.length := by omega
              subst hxe
              have ht : ys.take rows.length = ys := by rw [← hys, List.take_length]
              simp only [go_sem, reduceIte, reduceCtorEq, Nat.reduceAdd, Nat.reduceSub, Nat.reduceMul, Nat.reduceLT, Nat.reduceLeDiff, Nat.reduceEqDiff, Nat.reduceBEq, Nat.reduceGT, Int.reduceEq, Int.reduceNe, Int.reduceLT, Int.reduceLE, Int.reduceToNat, Int.reduceNeg, Int.reduceBEq, Int.reduceAdd, Int.reduceSub, Int.reduceGT, Int.reduceGE, Int.reduceBNe, hys, ht, Nat.sub_self, List.replicate_zero, List.append_nil]
          · simp only [List.take_zero, List.nil_append, Nat.sub_zero, hys]
            exact wk_slots (by simp [slotsLe])
      · exact wk_slots (by simp [slotsLe])
theorem con_erase (t : Tm) (ht : TOk t) (hm : markT t = true) : Con 64 [.agg true (tv t)] (.agg true (tv (eraseT t))) := con_erase1 _ t (Nat.le_refl _) ht hm

/-! Counts -/
end Go.Proofs.YtkldipbhenabfaaGreat.Abs

