/- Heads, erasures, counts and sameness, by the program. -/
import Derived.Test.YtkldipbhenabfaaGreatJd
import Derived.Test.YtkldipbhenabfaaGreatAfP
import Derived.Test.YtkldipbhenabfaaGreatAfQ

set_option linter.unusedSimpArgs false
set_option linter.unusedVariables false
namespace Go.Proofs.YtkldipbhenabfaaGreat.Abs
open Go Go.RowKit Go.Proofs.YtkldipbhenabfaaGreat

def headF (t : Tm) : Tm := if markT t then headT t else zT
set_option maxRecDepth 10000 in
set_option maxHeartbeats 1000000 in
theorem con_head (t : Tm) (ht : TOk t) : Con 17 [.agg true (tv t)] (.agg true (tv (headF t))) := by
  have h1 := con_marked t ht
  have hz := tv_len t
  unfold headF
  cases hm : markT t
  · rw [hm] at h1
    refine (contract_of_vc (r := .agg true [.int .i64 0, .int .i64 0, .int .i64 0, .int .i64 0, .nils]) mixed Tryz.func17 tr17 ?_).weaken le_zT
    simp only [go_sem, reduceIte, reduceCtorEq, Nat.reduceAdd, Nat.reduceSub, Nat.reduceMul, Nat.reduceLT, Nat.reduceLeDiff, Nat.reduceEqDiff, Nat.reduceBEq, Nat.reduceGT, Int.reduceEq, Int.reduceNe, Int.reduceLT, Int.reduceLE, Int.reduceToNat, Int.reduceNeg, Int.reduceBEq, Int.reduceAdd, Int.reduceSub, Int.reduceGT, Int.reduceGE, Int.reduceBNe, hz]
    refine callK_of h1 ?_
    simp only [go_sem, reduceIte, reduceCtorEq, Nat.reduceAdd, Nat.reduceSub, Nat.reduceMul, Nat.reduceLT, Nat.reduceLeDiff, Nat.reduceEqDiff, Nat.reduceBEq, Nat.reduceGT, Int.reduceEq, Int.reduceNe, Int.reduceLT, Int.reduceLE, Int.reduceToNat, Int.reduceNeg, Int.reduceBEq, Int.reduceAdd, Int.reduceSub, Int.reduceGT, Int.reduceGE, Int.reduceBNe, hz]
  · rw [hm] at h1
    rw [if_pos rfl]
    obtain ⟨h, hh⟩ : ∃ h, headT t = h := ⟨_, rfl⟩
    rw [hh]
    refine contract_of_vc mixed Tryz.func17 tr17 ?_
    simp only [go_sem, reduceIte, reduceCtorEq, Nat.reduceAdd, Nat.reduceSub, Nat.reduceMul, Nat.reduceLT, Nat.reduceLeDiff, Nat.reduceEqDiff, Nat.reduceBEq, Nat.reduceGT, Int.reduceEq, Int.reduceNe, Int.reduceLT, Int.reduceLE, Int.reduceToNat, Int.reduceNeg, Int.reduceBEq, Int.reduceAdd, Int.reduceSub, Int.reduceGT, Int.reduceGE, Int.reduceBNe, hz]
    refine callK_of h1 ?_
    simp only [go_sem, reduceIte, reduceCtorEq, Nat.reduceAdd, Nat.reduceSub, Nat.reduceMul, Nat.reduceLT, Nat.reduceLeDiff, Nat.reduceEqDiff, Nat.reduceBEq, Nat.reduceGT, Int.reduceEq, Int.reduceNe, Int.reduceLT, Int.reduceLE, Int.reduceToNat, Int.reduceNeg, Int.reduceBEq, Int.reduceAdd, Int.reduceSub, Int.reduceGT, Int.reduceGE, Int.reduceBNe, hz]
    refine vc_down (fun u => ⟨(.junk :: .ref 0 0 0 0 :: .ref 1 0 0 0 :: .junk :: .junk :: .junk :: .junk :: .junk :: .junk :: .junk :: .junk :: .junk :: .junk :: .junk :: .junk :: .junk :: []), [⟨true, 5, [tv u], 0, 0, true⟩, ⟨true, 5, [[.int .i64 0, .int .i64 0, .int .i64 0, .int .i64 0, .nils]], 0, 0, true⟩]⟩) (fun u => TOk u ∧ markT u = true ∧ headT u = h) hgtT (fun u hI => ?_) t ⟨ht, hm, hh⟩ ?_
    · obtain ⟨ho, hmu, he⟩ := hI
      have hc := con_copy u ho
      have hzu := tv_len u
      have h0 := tv_0 (t := u)
      cases u with
      | mk kk i j n l =>
      by_cases hk : kk = 12
      · subst hk
        obtain ⟨a, b, p, x, rfl, ma, mb, mp, mx⟩ := mark_tr hmu
        obtain ⟨_, _, _, _, _, hl⟩ := tok_of ho
        have hzx := tv_len x
        have hlt : hgtT x ≤ hgtL [a, b, p, x] := hgt_mem (by simp)
        clear hc hzu h0
        rw [tv_mk]
        simp only [go_sem, reduceIte, reduceCtorEq, Nat.reduceAdd, Nat.reduceSub, Nat.reduceMul, Nat.reduceLT, Nat.reduceLeDiff, Nat.reduceEqDiff, Nat.reduceBEq, Nat.reduceGT, Int.reduceEq, Int.reduceNe, Int.reduceLT, Int.reduceLE, Int.reduceToNat, Int.reduceNeg, Int.reduceBEq, Int.reduceAdd, Int.reduceSub, Int.reduceGT, Int.reduceGE, Int.reduceBNe, List.map_cons, List.map_nil, hzx]
        refine ⟨x, by rw [hgtT_mk]; omega, ⟨hl x (by simp), mx, by rw [← he, headT_tr]⟩, wk_slots (by simp [slotsLe])⟩
      · rw [headT_no hk] at he
        subst he
        have q : (kk == 12) = false := beq_no hk
        rw [tv_mk] at hc hzu ⊢
        simp only [go_sem, reduceIte, reduceCtorEq, Nat.reduceAdd, Nat.reduceSub, Nat.reduceMul, Nat.reduceLT, Nat.reduceLeDiff, Nat.reduceEqDiff, Nat.reduceBEq, Nat.reduceGT, Int.reduceEq, Int.reduceNe, Int.reduceLT, Int.reduceLE, Int.reduceToNat, Int.reduceNeg, Int.reduceBEq, Int.reduceAdd, Int.reduceSub, Int.reduceGT, Int.reduceGE, Int.reduceBNe, q]
        refine callK_of hc ?_
        simp only [go_sem, reduceIte, reduceCtorEq, Nat.reduceAdd, Nat.reduceSub, Nat.reduceMul, Nat.reduceLT, Nat.reduceLeDiff, Nat.reduceEqDiff, Nat.reduceBEq, Nat.reduceGT, Int.reduceEq, Int.reduceNe, Int.reduceLT, Int.reduceLE, Int.reduceToNat, Int.reduceNeg, Int.reduceBEq, Int.reduceAdd, Int.reduceSub, Int.reduceGT, Int.reduceGE, Int.reduceBNe]
    · exact wk_slots (by simp [slotsLe])
set_option maxRecDepth 10000 in
set_option maxHeartbeats 1000000 in
theorem con_rhead (t : Tm) (ht : TOk t) : Con 18 [.agg true (tv t)] (.agg true (tv (headF t))) := by
  have h1 := con_rmarked t ht
  have hz := tv_len t
  unfold headF
  cases hm : markT t
  · rw [hm] at h1
    refine (contract_of_vc (r := .agg true [.int .i64 0, .int .i64 0, .int .i64 0, .int .i64 0, .nils]) mixed Tryz.func18 tr18 ?_).weaken le_zT
    simp only [go_sem, reduceIte, reduceCtorEq, Nat.reduceAdd, Nat.reduceSub, Nat.reduceMul, Nat.reduceLT, Nat.reduceLeDiff, Nat.reduceEqDiff, Nat.reduceBEq, Nat.reduceGT, Int.reduceEq, Int.reduceNe, Int.reduceLT, Int.reduceLE, Int.reduceToNat, Int.reduceNeg, Int.reduceBEq, Int.reduceAdd, Int.reduceSub, Int.reduceGT, Int.reduceGE, Int.reduceBNe, hz]
    refine callK_of h1 ?_
    simp only [go_sem, reduceIte, reduceCtorEq, Nat.reduceAdd, Nat.reduceSub, Nat.reduceMul, Nat.reduceLT, Nat.reduceLeDiff, Nat.reduceEqDiff, Nat.reduceBEq, Nat.reduceGT, Int.reduceEq, Int.reduceNe, Int.reduceLT, Int.reduceLE, Int.reduceToNat, Int.reduceNeg, Int.reduceBEq, Int.reduceAdd, Int.reduceSub, Int.reduceGT, Int.reduceGE, Int.reduceBNe, hz]
  · rw [hm] at h1
    rw [if_pos rfl]
    obtain ⟨h, hh⟩ : ∃ h, headT t = h := ⟨_, rfl⟩
    rw [hh]
    refine contract_of_vc mixed Tryz.func18 tr18 ?_
    simp only [go_sem, reduceIte, reduceCtorEq, Nat.reduceAdd, Nat.reduceSub, Nat.reduceMul, Nat.reduceLT, Nat.reduceLeDiff, Nat.reduceEqDiff, Nat.reduceBEq, Nat.reduceGT, Int.reduceEq, Int.reduceNe, Int.reduceLT, Int.reduceLE, Int.reduceToNat, Int.reduceNeg, Int.reduceBEq, Int.reduceAdd, Int.reduceSub, Int.reduceGT, Int.reduceGE, Int.reduceBNe, hz]
    refine callK_of h1 ?_
    simp only [go_sem, reduceIte, reduceCtorEq, Nat.reduceAdd, Nat.reduceSub, Nat.reduceMul, Nat.reduceLT, Nat.reduceLeDiff, Nat.reduceEqDiff, Nat.reduceBEq, Nat.reduceGT, Int.reduceEq, Int.reduceNe, Int.reduceLT, Int.reduceLE, Int.reduceToNat, Int.reduceNeg, Int.reduceBEq, Int.reduceAdd, Int.reduceSub, Int.reduceGT, Int.reduceGE, Int.reduceBNe, hz]
    refine vc_down (fun u => ⟨(.junk :: .ref 0 0 0 0 :: .ref 1 0 0 0 :: .junk :: .junk :: .junk :: .junk :: .junk :: .junk :: .junk :: .junk :: .junk :: .junk :: .junk :: .junk :: []), [⟨true, 5, [tv u], 0, 0, true⟩, ⟨true, 5, [[.int .i64 0, .int .i64 0, .int .i64 0, .int .i64 0, .nils]], 0, 0, true⟩]⟩) (fun u => TOk u ∧ markT u = true ∧ headT u = h) hgtT (fun u hI => ?_) t ⟨ht, hm, hh⟩ ?_
    · obtain ⟨ho, hmu, he⟩ := hI
      have hzu := tv_len u
      cases u with
      | mk kk i j n l =>
      by_cases hk : kk = 12
      · subst hk
        obtain ⟨a, b, p, x, rfl, ma, mb, mp, mx⟩ := mark_tr hmu
        obtain ⟨_, _, _, _, _, hl⟩ := tok_of ho
        have hzx := tv_len x
        have hlt : hgtT x ≤ hgtL [a, b, p, x] := hgt_mem (by simp)
        clear hzu
        rw [tv_mk]
        simp only [go_sem, reduceIte, reduceCtorEq, Nat.reduceAdd, Nat.reduceSub, Nat.reduceMul, Nat.reduceLT, Nat.reduceLeDiff, Nat.reduceEqDiff, Nat.reduceBEq, Nat.reduceGT, Int.reduceEq, Int.reduceNe, Int.reduceLT, Int.reduceLE, Int.reduceToNat, Int.reduceNeg, Int.reduceBEq, Int.reduceAdd, Int.reduceSub, Int.reduceGT, Int.reduceGE, Int.reduceBNe, List.map_cons, List.map_nil, hzx]
        refine ⟨x, by rw [hgtT_mk]; omega, ⟨hl x (by simp), mx, by rw [← he, headT_tr]⟩, wk_slots (by simp [slotsLe])⟩
      · rw [headT_no hk] at he
        subst he
        have q : (kk == 12) = false := beq_no hk
        rw [tv_mk] at hzu ⊢
        simp only [go_sem, reduceIte, reduceCtorEq, Nat.reduceAdd, Nat.reduceSub, Nat.reduceMul, Nat.reduceLT, Nat.reduceLeDiff, Nat.reduceEqDiff, Nat.reduceBEq, Nat.reduceGT, Int.reduceEq, Int.reduceNe, Int.reduceLT, Int.reduceLE, Int.reduceToNat, Int.reduceNeg, Int.reduceBEq, Int.reduceAdd, Int.reduceSub, Int.reduceGT, Int.reduceGE, Int.reduceBNe, q]
    · exact wk_slots (by simp [slotsLe])

set_option maxRecDepth 10000 in
set_option maxHeartbeats 2000000 in
theorem con_erase1 (N : Nat) : ∀ t, hgtT t ≤ N → TOk t → markT t = true → Con 64 [.agg true (tv t)] (.agg true (tv (eraseT t))) := by
  induction N with
  | zero => intro t h; cases t with | mk k i j n l => rw [hgtT_mk] at h; omega
  | succ N ih =>
    intro t hN ht hm
    obtain ⟨h, hh⟩ : ∃ h, headT t = h := ⟨_, rfl⟩
    obtain ⟨g0, g1, g2, g3, g4, g5, g6, g7⟩ := head_of t ht hm
    rw [hh] at g0 g1 g2 g3 g4 g6
    have hz := tv_len t
    cases h with
    | mk kk i j n l =>
    change kk ≠ 12 at g2
    rw [← g3, eraseT_no g2]
    obtain ⟨_, _, _, _, hb, hl⟩ := tok_of g0
    rw [hgtT_mk] at g6
    have H : ∀ r ∈ l.map tv, Con 64 [.agg true r] (.agg true (onT (fun t => tv (eraseT t)) [] r)) := fun r hr => by
      obtain ⟨u, hu, rfl⟩ := List.mem_map.1 hr
      rw [onT_tv]
      exact ih u (by have := hgt_mem hu; omega) (hl u hu) (mark_kid g1 g2 hu)
    have H5 : ∀ r ∈ l.map tv, (onT (fun t => tv (eraseT t)) [] r).length = 5 := fun r hr => by
      obtain ⟨u, hu, rfl⟩ := List.mem_map.1 hr
      rw [onT_tv]
      exact tv_len _
    have hY : tv (.mk kk i j n (l.map eraseT)) = [.int .i64 kk, .int .i64 i, .int .i64 j, .int .i64 n, .dsl 5 ((l.map tv).map (onT (fun t => tv (eraseT t)) []))] := by
      have e : (l.map eraseT).map tv = (l.map tv).map (onT (fun t => tv (eraseT t)) []) := by
        rw [List.map_map, List.map_map]
        apply List.map_congr_left
        intro u _
        simp only [Function.comp, onT_tv]
      rw [tv_mk, e]
    have hlen : (l.map tv).length = l.length := by simp
    have h5 := rows5 l
    have q : (kk == 12) = false := beq_no g2
    by_cases he : l = []
    · subst he
      refine (contract_of_vc (r := .agg true [.int .i64 kk, .int .i64 i, .int .i64 j, .int .i64 n, .nils]) mixed Tryz.func64 tr64 ?_).weaken (le_leaf kk i j n)
      simp only [go_sem, reduceIte, reduceCtorEq, Nat.reduceAdd, Nat.reduceSub, Nat.reduceMul, Nat.reduceLT, Nat.reduceLeDiff, Nat.reduceEqDiff, Nat.reduceBEq, Nat.reduceGT, Int.reduceEq, Int.reduceNe, Int.reduceLT, Int.reduceLE, Int.reduceToNat, Int.reduceNeg, Int.reduceBEq, Int.reduceAdd, Int.reduceSub, Int.reduceGT, Int.reduceGE, Int.reduceBNe, hz]
      refine vc_down (fun u => ⟨(.junk :: .ref 0 0 0 0 :: .ref 1 0 0 0 :: .junk :: .junk :: .junk :: .junk :: .junk :: .junk :: .junk :: .junk :: .junk :: .junk :: .junk :: .junk :: .junk :: .junk :: .junk :: .junk :: .junk :: .junk :: .junk :: .junk :: .junk :: .junk :: .junk :: .junk :: .junk :: .junk :: .junk :: .junk :: .junk :: .junk :: .junk :: .junk :: .junk :: .junk :: .junk :: .junk :: .junk :: []), [⟨true, 5, [tv u], 0, 0, true⟩, ⟨true, 5, [[.int .i64 0, .int .i64 0, .int .i64 0, .int .i64 0, .nils]], 0, 0, true⟩]⟩) (fun u => TOk u ∧ markT u = true ∧ headT u = .mk kk i j n []) hgtT (fun u hI => ?_) t ⟨ht, hm, hh⟩ ?_
      · obtain ⟨ho, hmu, he⟩ := hI
        cases u with
        | mk kk' i' j' n' l' =>
        by_cases hk : kk' = 12
        · subst hk
          obtain ⟨a, b, p, x, rfl, ma, mb, mp, mx⟩ := mark_tr hmu
          obtain ⟨_, _, _, _, _, hl⟩ := tok_of ho
          have hzx := tv_len x
          have hlt : hgtT x ≤ hgtL [a, b, p, x] := hgt_mem (by simp)
          rw [tv_mk]
          simp only [go_sem, reduceIte, reduceCtorEq, Nat.reduceAdd, Nat.reduceSub, Nat.reduceMul, Nat.reduceLT, Nat.reduceLeDiff, Nat.reduceEqDiff, Nat.reduceBEq, Nat.reduceGT, Int.reduceEq, Int.reduceNe, Int.reduceLT, Int.reduceLE, Int.reduceToNat, Int.reduceNeg, Int.reduceBEq, Int.reduceAdd, Int.reduceSub, Int.reduceGT, Int.reduceGE, Int.reduceBNe, List.map_cons, List.map_nil, hzx]
          refine ⟨x, by rw [hgtT_mk]; omega, ⟨hl x (by simp), mx, by rw [← he, headT_tr]⟩, wk_slots (by simp [slotsLe])⟩
        · rw [headT_no hk] at he
          cases he
          rw [tv_mk]
          simp only [go_sem, reduceIte, reduceCtorEq, Nat.reduceAdd, Nat.reduceSub, Nat.reduceMul, Nat.reduceLT, Nat.reduceLeDiff, Nat.reduceEqDiff, Nat.reduceBEq, Nat.reduceGT, Int.reduceEq, Int.reduceNe, Int.reduceLT, Int.reduceLE, Int.reduceToNat, Int.reduceNeg, Int.reduceBEq, Int.reduceAdd, Int.reduceSub, Int.reduceGT, Int.reduceGE, Int.reduceBNe, q, List.map_nil]
      · exact wk_slots (by simp [slotsLe])
    · rw [hY]
      have hne : (l.map tv).length ≠ 0 := fun h => he (List.length_eq_zero_iff.1 (by omega))
      have h2 : (l.map tv).length * 56 ≤ 140737488355328 := by omega
      refine contract_of_vc mixed Tryz.func64 tr64 ?_
      simp only [go_sem, reduceIte, reduceCtorEq, Nat.reduceAdd, Nat.reduceSub, Nat.reduceMul, Nat.reduceLT, Nat.reduceLeDiff, Nat.reduceEqDiff, Nat.reduceBEq, Nat.reduceGT, Int.reduceEq, Int.reduceNe, Int.reduceLT, Int.reduceLE, Int.reduceToNat, Int.reduceNeg, Int.reduceBEq, Int.reduceAdd, Int.reduceSub, Int.reduceGT, Int.reduceGE, Int.reduceBNe, hz]
      refine vc_down (fun u => ⟨(.junk :: .ref 0 0 0 0 :: .ref 1 0 0 0 :: .junk :: .junk :: .junk :: .junk :: .junk :: .junk :: .junk :: .junk :: .junk :: .junk :: .junk :: .junk :: .junk :: .junk :: .junk :: .junk :: .junk :: .junk :: .junk :: .junk :: .junk :: .junk :: .junk :: .junk :: .junk :: .junk :: .junk :: .junk :: .junk :: .junk :: .junk :: .junk :: .junk :: .junk :: .junk :: .junk :: .junk :: []), [⟨true, 5, [tv u], 0, 0, true⟩, ⟨true, 5, [[.int .i64 0, .int .i64 0, .int .i64 0, .int .i64 0, .nils]], 0, 0, true⟩]⟩) (fun u => TOk u ∧ markT u = true ∧ headT u = .mk kk i j n l) hgtT (fun u hI => ?_) t ⟨ht, hm, hh⟩ ?_
      · obtain ⟨ho, hmu, he⟩ := hI
        cases u with
        | mk kk' i' j' n' l' =>
        by_cases hk : kk' = 12
        · subst hk
          obtain ⟨a, b, p, x, rfl, ma, mb, mp, mx⟩ := mark_tr hmu
          obtain ⟨_, _, _, _, _, hl⟩ := tok_of ho
          have hzx := tv_len x
          have hlt : hgtT x ≤ hgtL [a, b, p, x] := hgt_mem (by simp)
          rw [tv_mk]
          simp only [go_sem, reduceIte, reduceCtorEq, Nat.reduceAdd, Nat.reduceSub, Nat.reduceMul, Nat.reduceLT, Nat.reduceLeDiff, Nat.reduceEqDiff, Nat.reduceBEq, Nat.reduceGT, Int.reduceEq, Int.reduceNe, Int.reduceLT, Int.reduceLE, Int.reduceToNat, Int.reduceNeg, Int.reduceBEq, Int.reduceAdd, Int.reduceSub, Int.reduceGT, Int.reduceGE, Int.reduceBNe, List.map_cons, List.map_nil, hzx]
          refine ⟨x, by rw [hgtT_mk]; omega, ⟨hl x (by simp), mx, by rw [← he, headT_tr]⟩, wk_slots (by simp [slotsLe])⟩
        · rw [headT_no hk] at he
          cases he
          rw [tv_mk]
          generalize l.map tv = rows at *
          have hz1 : ((rows.length : Int) == 0) = false := beq_no (by omega)
          have hz2 : (rows.length : Int) * 56 ≤ 140737488355328 := by omega
          have hz3 : (rows.length : Int) ≤ 140737488355328 := by omega
          have hz4 : (0 : Int) ≤ (rows.length : Int) := by omega
          generalize hX : onT (fun t => tv (eraseT t)) [] = X at *
          have hys : (rows.map X).length = rows.length := by simp
          have hyx : ∀ x, x < rows.length → (rows.map X)[x]?.getD [] = X (rows[x]?.getD []) := fun x hx => by
            rw [List.getElem?_map, List.getElem?_eq_getElem hx]; rfl
          generalize rows.map X = ys at *
          simp only [go_sem, reduceIte, reduceCtorEq, Nat.reduceAdd, Nat.reduceSub, Nat.reduceMul, Nat.reduceLT, Nat.reduceLeDiff, Nat.reduceEqDiff, Nat.reduceBEq, Nat.reduceGT, Int.reduceEq, Int.reduceNe, Int.reduceLT, Int.reduceLE, Int.reduceToNat, Int.reduceNeg, Int.reduceBEq, Int.reduceAdd, Int.reduceSub, Int.reduceGT, Int.reduceGE, Int.reduceBNe, q, hz1, hz2, hz3, hz4, Int.le_refl]
          intros
          refine vc_for (fun x => ⟨(.junk :: .ref 0 0 0 0 :: .ref 1 0 0 0 :: .osl 2 0 0 rows.length :: .junk :: .junk :: .junk :: .junk :: .junk :: .junk :: .junk :: .junk :: .junk :: .junk :: .junk :: .junk :: .junk :: .junk :: .junk :: .junk :: .junk :: .junk :: .junk :: .junk :: .dsl 5 rows :: .int .i64 rows.length :: .int .i64 x :: .junk :: .junk :: .junk :: .junk :: .junk :: .junk :: .junk :: .junk :: .junk :: .junk :: .junk :: .junk :: .junk :: []),
            [⟨true, 5, [[.int .i64 kk, .int .i64 i, .int .i64 j, .int .i64 n, .dsl 5 rows]], 0, 0, true⟩, ⟨true, 5, [[.int .i64 0, .int .i64 0, .int .i64 0, .int .i64 0, .nils]], 0, 0, true⟩,
             ⟨false, 5, ys.take x ++ List.replicate (ys.length - x) [.int .i64 0, .int .i64 0, .int .i64 0, .int .i64 0, .nils], 0, 0, true⟩]⟩) rows.length (fun x hx => ?_) ?_
          · simp only [go_sem, reduceIte, reduceCtorEq, Nat.reduceAdd, Nat.reduceSub, Nat.reduceMul, Nat.reduceLT, Nat.reduceLeDiff, Nat.reduceEqDiff, Nat.reduceBEq, Nat.reduceGT, Int.reduceEq, Int.reduceNe, Int.reduceLT, Int.reduceLE, Int.reduceToNat, Int.reduceNeg, Int.reduceBEq, Int.reduceAdd, Int.reduceSub, Int.reduceGT, Int.reduceGE, Int.reduceBNe]
            refine ⟨fun h => ?_, fun h => ?_⟩
            · have hlt := of_decide_eq_true h
              have hlt' : x < rows.length := by omega
              have e0 : (0 : Int) ≤ (x : Int) := by omega
              have hm := get_lt (d := []) hlt'
              have h5' := h5 _ hm
              have hu := H5 _ hm
              have hc := H _ hm
              have hy := hyx x hlt'
              simp only [go_sem, reduceIte, reduceCtorEq, Nat.reduceAdd, Nat.reduceSub, Nat.reduceMul, Nat.reduceLT, Nat.reduceLeDiff, Nat.reduceEqDiff, Nat.reduceBEq, Nat.reduceGT, Int.reduceEq, Int.reduceNe, Int.reduceLT, Int.reduceLE, Int.reduceToNat, Int.reduceNeg, Int.reduceBEq, Int.reduceAdd, Int.reduceSub, Int.reduceGT, Int.reduceGE, Int.reduceBNe, hlt, e0, h5']
              refine callK_of hc ?_
              simp only [go_sem, reduceIte, reduceCtorEq, Nat.reduceAdd, Nat.reduceSub, Nat.reduceMul, Nat.reduceLT, Nat.reduceLeDiff, Nat.reduceEqDiff, Nat.reduceBEq, Nat.reduceGT, Int.reduceEq, Int.reduceNe, Int.reduceLT, Int.reduceLE, Int.reduceToNat, Int.reduceNeg, Int.reduceBEq, Int.reduceAdd, Int.reduceSub, Int.reduceGT, Int.reduceGE, Int.reduceBNe, hlt, hlt', e0, hu, hys]
              have ts := take_set (l := ys) (z := [.int .i64 0, .int .i64 0, .int .i64 0, .int .i64 0, .nils]) (d := []) (i := x) (by omega)
              rw [hy, hys] at ts
              refine ⟨by simp [hys]; omega, ?_⟩
              rw [w64 (n := (x : Int) + 1) (by unfold fit; omega)]
              exact wk_trunc 3 (by simp [slotsLe]) (by simp only [List.take_succ_cons, List.take_zero, ts]) (by simp [below]) (by simp)
            · have hge := of_decide_eq_false h
              have hxe : x = rows.length := by omega
              subst hxe
              have ht : ys.take rows.length = ys := by rw [← hys, List.take_length]
              simp only [go_sem, reduceIte, reduceCtorEq, Nat.reduceAdd, Nat.reduceSub, Nat.reduceMul, Nat.reduceLT, Nat.reduceLeDiff, Nat.reduceEqDiff, Nat.reduceBEq, Nat.reduceGT, Int.reduceEq, Int.reduceNe, Int.reduceLT, Int.reduceLE, Int.reduceToNat, Int.reduceNeg, Int.reduceBEq, Int.reduceAdd, Int.reduceSub, Int.reduceGT, Int.reduceGE, Int.reduceBNe, hys, ht, Nat.sub_self, List.replicate_zero, List.append_nil]
          · simp only [List.take_zero, List.nil_append, Nat.sub_zero, hys]
            exact wk_slots (by simp [slotsLe])
      · exact wk_slots (by simp [slotsLe])
theorem con_erase (t : Tm) (ht : TOk t) (hm : markT t = true) : Con 64 [.agg true (tv t)] (.agg true (tv (eraseT t))) := con_erase1 _ t (Nat.le_refl _) ht hm

/-! Counts -/
set_option maxRecDepth 10000 in
theorem con_count_rows (k i j n : Int) (rows : List (List SV)) (V : Nat → Int) (h2 : rows.length * 56 ≤ 140737488355328) (h5 : ∀ r ∈ rows, r.length = 5) (hV : ∀ x, 0 ≤ V x ∧ V x ≤ 1000000) (hS : ∀ x, x ≤ rows.length → sumI V x ≤ 1000000) (c : Int) (hc : c = if k = 12 then 1 else 0)
    (H : ∀ x, x < rows.length → Con 65 [.agg true (rows[x]?.getD [])] (.int .i64 (V x))) :
    Con 65 [.agg true [.int .i64 k, .int .i64 i, .int .i64 j, .int .i64 n, .dsl 5 rows]] (.int .i64 (c + sumI V rows.length)) := by
  have hpos : ∀ x, 0 ≤ sumI V x := fun x => by
    have := sumI_le (S := V) (fun y => (hV y).1) (Nat.zero_le x)
    rw [sumI] at this; exact this
  have hcc : 0 ≤ c ∧ c ≤ 1 := by rw [hc]; split <;> omega
  refine contract_of_vc mixed Tryz.func65 tr65 ?_
  by_cases hk : k = 12
  · rw [if_pos hk] at hc
    subst hc; subst hk
    simp only [go_sem, reduceIte, reduceCtorEq, Nat.reduceAdd, Nat.reduceSub, Nat.reduceMul, Nat.reduceLT, Nat.reduceLeDiff, Nat.reduceEqDiff, Nat.reduceBEq, Nat.reduceGT, Int.reduceEq, Int.reduceNe, Int.reduceLT, Int.reduceLE, Int.reduceToNat, Int.reduceNeg, Int.reduceBEq, Int.reduceAdd, Int.reduceSub, Int.reduceGT, Int.reduceGE, Int.reduceBNe]
    intros
    refine vc_for (fun x => ⟨(.junk :: .ref 0 0 0 0 :: .int .i64 0 :: .int .i64 (1 + sumI V x) :: .junk :: .junk :: .junk :: .junk :: .junk :: .junk :: .dsl 5 rows :: .int .i64 rows.length :: .int .i64 x :: .junk :: .junk :: .junk :: .junk :: .junk :: .junk :: .junk :: .junk :: .junk :: []),
      [⟨true, 5, [[.int .i64 12, .int .i64 i, .int .i64 j, .int .i64 n, .dsl 5 rows]], 0, 0, true⟩]⟩) rows.length (fun x hx => ?_) ?_
    · simp only [go_sem, reduceIte, reduceCtorEq, Nat.reduceAdd, Nat.reduceSub, Nat.reduceMul, Nat.reduceLT, Nat.reduceLeDiff, Nat.reduceEqDiff, Nat.reduceBEq, Nat.reduceGT, Int.reduceEq, Int.reduceNe, Int.reduceLT, Int.reduceLE, Int.reduceToNat, Int.reduceNeg, Int.reduceBEq, Int.reduceAdd, Int.reduceSub, Int.reduceGT, Int.reduceGE, Int.reduceBNe]
      refine ⟨fun h => ?_, fun h => ?_⟩
      · have hlt := of_decide_eq_true h
        have hlt' : x < rows.length := by omega
        have e0 : (0 : Int) ≤ (x : Int) := by omega
        have hm := get_lt (d := []) hlt'
        have h5' := h5 _ hm
        have hp := hpos x
        have hs := hS x (by omega)
        have hv := hV x
        simp only [go_sem, reduceIte, reduceCtorEq, Nat.reduceAdd, Nat.reduceSub, Nat.reduceMul, Nat.reduceLT, Nat.reduceLeDiff, Nat.reduceEqDiff, Nat.reduceBEq, Nat.reduceGT, Int.reduceEq, Int.reduceNe, Int.reduceLT, Int.reduceLE, Int.reduceToNat, Int.reduceNeg, Int.reduceBEq, Int.reduceAdd, Int.reduceSub, Int.reduceGT, Int.reduceGE, Int.reduceBNe, hlt, e0, h5']
        refine callK_of (H x hlt') ?_
        have ew : IntKind.i64.wrap (1 + sumI V x + V x) = 1 + sumI V (x + 1) := by rw [sumI, w64 (by unfold fit; omega)]; omega
        simp only [go_sem, reduceIte, reduceCtorEq, Nat.reduceAdd, Nat.reduceSub, Nat.reduceMul, Nat.reduceLT, Nat.reduceLeDiff, Nat.reduceEqDiff, Nat.reduceBEq, Nat.reduceGT, Int.reduceEq, Int.reduceNe, Int.reduceLT, Int.reduceLE, Int.reduceToNat, Int.reduceNeg, Int.reduceBEq, Int.reduceAdd, Int.reduceSub, Int.reduceGT, Int.reduceGE, Int.reduceBNe, ew]
        refine ⟨hlt', ?_⟩
        rw [w64 (n := (x : Int) + 1) (by unfold fit; omega)]
        exact wk_trunc 1 (by simp [slotsLe]) (by simp) (by simp [below]) (by simp)
      · have hge := of_decide_eq_false h
        have hxe : x = rows.length := by omega
        subst hxe
        simp only [go_sem, reduceIte, reduceCtorEq, Nat.reduceAdd, Nat.reduceSub, Nat.reduceMul, Nat.reduceLT, Nat.reduceLeDiff, Nat.reduceEqDiff, Nat.reduceBEq, Nat.reduceGT, Int.reduceEq, Int.reduceNe, Int.reduceLT, Int.reduceLE, Int.reduceToNat, Int.reduceNeg, Int.reduceBEq, Int.reduceAdd, Int.reduceSub, Int.reduceGT, Int.reduceGE, Int.reduceBNe]
    · exact wk_slots (by simp [slotsLe, sumI])
  · rw [if_neg hk] at hc
    subst hc
    have q : (k == 12) = false := beq_no hk
    simp only [go_sem, reduceIte, reduceCtorEq, Nat.reduceAdd, Nat.reduceSub, Nat.reduceMul, Nat.reduceLT, Nat.reduceLeDiff, Nat.reduceEqDiff, Nat.reduceBEq, Nat.reduceGT, Int.reduceEq, Int.reduceNe, Int.reduceLT, Int.reduceLE, Int.reduceToNat, Int.reduceNeg, Int.reduceBEq, Int.reduceAdd, Int.reduceSub, Int.reduceGT, Int.reduceGE, Int.reduceBNe, q]
    intros
    refine vc_for (fun x => ⟨(.junk :: .ref 0 0 0 0 :: .int .i64 0 :: .int .i64 (0 + sumI V x) :: .junk :: .junk :: .junk :: .junk :: .junk :: .junk :: .dsl 5 rows :: .int .i64 rows.length :: .int .i64 x :: .junk :: .junk :: .junk :: .junk :: .junk :: .junk :: .junk :: .junk :: .junk :: []),
      [⟨true, 5, [[.int .i64 k, .int .i64 i, .int .i64 j, .int .i64 n, .dsl 5 rows]], 0, 0, true⟩]⟩) rows.length (fun x hx => ?_) ?_
    · simp only [go_sem, reduceIte, reduceCtorEq, Nat.reduceAdd, Nat.reduceSub, Nat.reduceMul, Nat.reduceLT, Nat.reduceLeDiff, Nat.reduceEqDiff, Nat.reduceBEq, Nat.reduceGT, Int.reduceEq, Int.reduceNe, Int.reduceLT, Int.reduceLE, Int.reduceToNat, Int.reduceNeg, Int.reduceBEq, Int.reduceAdd, Int.reduceSub, Int.reduceGT, Int.reduceGE, Int.reduceBNe]
      refine ⟨fun h => ?_, fun h => ?_⟩
      · have hlt := of_decide_eq_true h
        have hlt' : x < rows.length := by omega
        have e0 : (0 : Int) ≤ (x : Int) := by omega
        have hm := get_lt (d := []) hlt'
        have h5' := h5 _ hm
        have hp := hpos x
        have hs := hS x (by omega)
        have hv := hV x
        simp only [go_sem, reduceIte, reduceCtorEq, Nat.reduceAdd, Nat.reduceSub, Nat.reduceMul, Nat.reduceLT, Nat.reduceLeDiff, Nat.reduceEqDiff, Nat.reduceBEq, Nat.reduceGT, Int.reduceEq, Int.reduceNe, Int.reduceLT, Int.reduceLE, Int.reduceToNat, Int.reduceNeg, Int.reduceBEq, Int.reduceAdd, Int.reduceSub, Int.reduceGT, Int.reduceGE, Int.reduceBNe, hlt, e0, h5']
        refine callK_of (H x hlt') ?_
        have ew : IntKind.i64.wrap (0 + sumI V x + V x) = 0 + sumI V (x + 1) := by rw [sumI, w64 (by unfold fit; omega)]; omega
        simp only [go_sem, reduceIte, reduceCtorEq, Nat.reduceAdd, Nat.reduceSub, Nat.reduceMul, Nat.reduceLT, Nat.reduceLeDiff, Nat.reduceEqDiff, Nat.reduceBEq, Nat.reduceGT, Int.reduceEq, Int.reduceNe, Int.reduceLT, Int.reduceLE, Int.reduceToNat, Int.reduceNeg, Int.reduceBEq, Int.reduceAdd, Int.reduceSub, Int.reduceGT, Int.reduceGE, Int.reduceBNe, ew]
        refine ⟨hlt', ?_⟩
        rw [w64 (n := (x : Int) + 1) (by unfold fit; omega)]
        exact wk_trunc 1 (by simp [slotsLe]) (by simp) (by simp [below]) (by simp)
      · have hge := of_decide_eq_false h
        have hxe : x = rows.length := by omega
        subst hxe
        simp only [go_sem, reduceIte, reduceCtorEq, Nat.reduceAdd, Nat.reduceSub, Nat.reduceMul, Nat.reduceLT, Nat.reduceLeDiff, Nat.reduceEqDiff, Nat.reduceBEq, Nat.reduceGT, Int.reduceEq, Int.reduceNe, Int.reduceLT, Int.reduceLE, Int.reduceToNat, Int.reduceNeg, Int.reduceBEq, Int.reduceAdd, Int.reduceSub, Int.reduceGT, Int.reduceGE, Int.reduceBNe]
    · exact wk_slots (by simp [slotsLe, sumI])
theorem con_count1 (t : Tm) : TOk t → sizT t ≤ 1000000 → Con 65 [.agg true (tv t)] (.int .i64 (cntT t)) := by
  induction t using Tm.ind with
  | h k i j n l ih =>
    intro hok hs
    obtain ⟨_, _, _, _, hb, hl⟩ := tok_of hok
    rw [sizT_mk] at hs
    have hcs : cntL l ≤ sizL l := cntL_le (fun t _ => cnt_le_siz t)
    have hlen : (l.map tv).length = l.length := by simp
    have hbd : ∀ x, (0 : Int) ≤ (cntT (l[x]?.getD default) : Int) ∧ (cntT (l[x]?.getD default) : Int) ≤ 1000000 := fun x => by
      by_cases hx : x < l.length
      · have := cnt_mem (get_lt (d := default) hx)
        omega
      · rw [List.getElem?_eq_none (by omega)]
        exact ⟨by omega, by decide⟩
    have h := con_count_rows k i j n (l.map tv) (fun x => (cntT (l[x]?.getD default) : Int)) (by omega) (rows5 l) hbd
      (fun x hx => by
        have := sumI_le (S := fun x => (cntT (l[x]?.getD default) : Int)) (fun y => (hbd y).1) (show x ≤ l.length by omega)
        rw [sumI_cnt] at this
        omega) _ rfl
      (fun x hx => by
        rw [hlen] at hx
        rw [List.getElem?_map, List.getElem?_eq_getElem hx]
        have hm := List.getElem_mem hx
        have := siz_mem hm
        exact ih _ hm (hl _ hm) (by omega))
    rw [hlen, sumI_cnt, ← tv_mk] at h
    rw [cntT_mk]
    have e : (((if k = 12 then 1 else 0) + cntL l : Nat) : Int) = (if k = 12 then (1 : Int) else 0) + (cntL l : Int) := by split <;> simp
    rw [e]
    exact h
end Go.Proofs.YtkldipbhenabfaaGreat.Abs
