/- Weights, sameness, and the small functions on Hets. -/
import Derived.Test.YtkldipbhenabfaaGreatFa
set_option linter.unusedSimpArgs false
set_option linter.unusedVariables false
namespace Go.Proofs.YtkldipbhenabfaaGreat.Abs
open Go Go.RowKit Go.Proofs.YtkldipbhenabfaaGreat

theorem con_weigh (t : Tm) : TOk t → ∀ m d, ∃ z, Con 26 [.agg true (tv t), .int .i64 m, .int .i64 d] (.int .i64 z) := by
  induction t using Tm.ind with
  | h k i j n l ih =>
    intro hok m d
    cases hok with
    | mk _ _ _ _ _ f1 f2 f3 f4 hb hl =>
    rw [tv_mk]
    have H : ∀ r : List SV, ∀ m d : Int, ∃ z : Int, r ∈ l.map tv → Con 26 [.agg true r, .int .i64 m, .int .i64 d] (.int .i64 z) := by
      intro r m d
      by_cases hr : r ∈ l.map tv
      · obtain ⟨t, ht, rfl⟩ := List.mem_map.1 hr
        obtain ⟨z, hz⟩ := ih t ht (hl t ht) m d
        exact ⟨z, fun _ => hz⟩
      · exact ⟨0, fun h => absurd h hr⟩
    exact con_weigh_rows k i j n m d (l.map tv) (fun r m d => Classical.choose (H r m d)) (by simpa using hb) (fun r hr => by obtain ⟨t, _, rfl⟩ := List.mem_map.1 hr; exact tv_len t) (fun r hr m d => Classical.choose_spec (H r m d) hr)

def sums0 (W : List SV → Int → Int → Int) (rows : List (List SV)) (most deep : Int) : Nat → Int
  | 0 => 0
  | x + 1 => IntKind.i64.wrap (sums0 W rows most deep x + W (rows[x]?.getD []) (IntKind.i64.wrap (most - sums0 W rows most deep x)) deep)

theorem con_greats_rows (most : Int) (rows : List (List SV)) (W : List SV → Int → Int → Int) (h2 : rows.length * 56 ≤ 140737488355328) (h5 : ∀ r ∈ rows, r.length = 5)
    (H : ∀ r ∈ rows, ∀ m d, Con 26 [.agg true r, .int .i64 m, .int .i64 d] (.int .i64 (W r m d))) :
    ∃ z, Con 46 [.dsl 5 rows, .int .i64 most] (.bool z) := by
  by_cases hd : most < (rows.length : Int)
  · refine ⟨true, contract_of_vc mixed Tryz.func46 tr46 ?_⟩
    simp only [go_sem, reduceIte, reduceCtorEq, Nat.reduceAdd, Nat.reduceSub, Nat.reduceMul, Nat.reduceLT, Nat.reduceLeDiff, Nat.reduceEqDiff, Nat.reduceBEq, Nat.reduceGT, Int.reduceEq, Int.reduceNe, Int.reduceLT, Int.reduceLE, Int.reduceToNat, Int.reduceNeg, Int.reduceBEq, Int.reduceAdd, Int.reduceSub, Int.reduceGT, Int.reduceGE, Int.reduceBNe, hd]
  · obtain ⟨m, hm1, hm2, hm3⟩ := least (fun x => most < sums0 W rows most 200 x) rows.length
    refine ⟨decide (most < sums0 W rows most 200 m), contract_of_vc mixed Tryz.func46 tr46 ?_⟩
    simp only [go_sem, reduceIte, reduceCtorEq, Nat.reduceAdd, Nat.reduceSub, Nat.reduceMul, Nat.reduceLT, Nat.reduceLeDiff, Nat.reduceEqDiff, Nat.reduceBEq, Nat.reduceGT, Int.reduceEq, Int.reduceNe, Int.reduceLT, Int.reduceLE, Int.reduceToNat, Int.reduceNeg, Int.reduceBEq, Int.reduceAdd, Int.reduceSub, Int.reduceGT, Int.reduceGE, Int.reduceBNe, hd]
    intro _
    refine vc_for (fun x => ⟨[.dsl 5 rows, .int .i64 most, .junk, .junk, .bool false, .int .i64 (sums0 W rows most 200 x), .int .i64 x, .junk, .junk, .junk, .junk, .junk, .junk, .junk, .junk, .junk, .junk, .junk, .junk, .junk, .junk, .junk, .junk, .junk, .junk, .junk, .junk, .junk, .junk, .junk, .junk, .junk, .junk, .junk, .junk], []⟩) m (fun x hx => ?_) ?_
    · simp only [go_sem, reduceIte, reduceCtorEq, Nat.reduceAdd, Nat.reduceSub, Nat.reduceMul, Nat.reduceLT, Nat.reduceLeDiff, Nat.reduceEqDiff, Nat.reduceBEq, Nat.reduceGT, Int.reduceEq, Int.reduceNe, Int.reduceLT, Int.reduceLE, Int.reduceToNat, Int.reduceNeg, Int.reduceBEq, Int.reduceAdd, Int.reduceSub, Int.reduceGT, Int.reduceGE, Int.reduceBNe]
      intro _
      by_cases hxm : x = m
      · subst hxm
        rcases hm2 with rfl | hm2
        · have hl : ¬ ((rows.length : Int) < (rows.length : Int)) := by omega
          simp only [go_sem, reduceIte, reduceCtorEq, Nat.reduceAdd, Nat.reduceSub, Nat.reduceMul, Nat.reduceLT, Nat.reduceLeDiff, Nat.reduceEqDiff, Nat.reduceBEq, Nat.reduceGT, Int.reduceEq, Int.reduceNe, Int.reduceLT, Int.reduceLE, Int.reduceToNat, Int.reduceNeg, Int.reduceBEq, Int.reduceAdd, Int.reduceSub, Int.reduceGT, Int.reduceGE, Int.reduceBNe, hl]
        · have hl : ¬ (sums0 W rows most 200 x ≤ most) := by omega
          refine ⟨fun h => ?_, fun h => ?_⟩
          · simp only [go_sem, reduceIte, reduceCtorEq, Nat.reduceAdd, Nat.reduceSub, Nat.reduceMul, Nat.reduceLT, Nat.reduceLeDiff, Nat.reduceEqDiff, Nat.reduceBEq, Nat.reduceGT, Int.reduceEq, Int.reduceNe, Int.reduceLT, Int.reduceLE, Int.reduceToNat, Int.reduceNeg, Int.reduceBEq, Int.reduceAdd, Int.reduceSub, Int.reduceGT, Int.reduceGE, Int.reduceBNe, h, hl]
          · simp only [go_sem, reduceIte, reduceCtorEq, Nat.reduceAdd, Nat.reduceSub, Nat.reduceMul, Nat.reduceLT, Nat.reduceLeDiff, Nat.reduceEqDiff, Nat.reduceBEq, Nat.reduceGT, Int.reduceEq, Int.reduceNe, Int.reduceLT, Int.reduceLE, Int.reduceToNat, Int.reduceNeg, Int.reduceBEq, Int.reduceAdd, Int.reduceSub, Int.reduceGT, Int.reduceGE, Int.reduceBNe, h, hl]
      · have hxl : x < rows.length := by omega
        have hxl' : (x : Int) < (rows.length : Int) := by omega
        have e0 : (0 : Int) ≤ (x : Int) := by omega
        have hle : sums0 W rows most 200 x ≤ most := by have := hm3 x (by omega); omega
        have hm : rows[x]?.getD [] ∈ rows := by rw [List.getElem?_eq_getElem hxl, Option.getD_some]; exact List.getElem_mem hxl
        have h5' := h5 _ hm
        simp only [go_sem, reduceIte, reduceCtorEq, Nat.reduceAdd, Nat.reduceSub, Nat.reduceMul, Nat.reduceLT, Nat.reduceLeDiff, Nat.reduceEqDiff, Nat.reduceBEq, Nat.reduceGT, Int.reduceEq, Int.reduceNe, Int.reduceLT, Int.reduceLE, Int.reduceToNat, Int.reduceNeg, Int.reduceBEq, Int.reduceAdd, Int.reduceSub, Int.reduceGT, Int.reduceGE, Int.reduceBNe, hxl', hle, e0, h5']
        refine callK_of (H _ hm _ _) ?_
        simp only [go_sem, reduceIte, reduceCtorEq, Nat.reduceAdd, Nat.reduceSub, Nat.reduceMul, Nat.reduceLT, Nat.reduceLeDiff, Nat.reduceEqDiff, Nat.reduceBEq, Nat.reduceGT, Int.reduceEq, Int.reduceNe, Int.reduceLT, Int.reduceLE, Int.reduceToNat, Int.reduceNeg, Int.reduceBEq, Int.reduceAdd, Int.reduceSub, Int.reduceGT, Int.reduceGE, Int.reduceBNe]
        refine ⟨by omega, ?_⟩
        rw [w64 (n := (x : Int) + 1) (by unfold fit; omega)]
        exact wk_slots (by simp [slotsLe, sums0])
    · exact wk_slots (by simp [slotsLe, sums0])

theorem con_greats (most : Int) (l : List Tm) (hl : ∀ t ∈ l, TOk t) (hb : l.length * 56 ≤ 140737488355328) : ∃ z, Con 46 [.dsl 5 (l.map tv), .int .i64 most] (.bool z) := by
  have H : ∀ r : List SV, ∀ m d : Int, ∃ z : Int, r ∈ l.map tv → Con 26 [.agg true r, .int .i64 m, .int .i64 d] (.int .i64 z) := by
    intro r m d
    by_cases hr : r ∈ l.map tv
    · obtain ⟨t, ht, rfl⟩ := List.mem_map.1 hr
      obtain ⟨z, hz⟩ := con_weigh t (hl t ht) m d
      exact ⟨z, fun _ => hz⟩
    · exact ⟨0, fun h => absurd h hr⟩
  exact con_greats_rows most (l.map tv) (fun r m d => Classical.choose (H r m d)) (by simpa using hb) (fun r hr => by obtain ⟨t, _, rfl⟩ := List.mem_map.1 hr; exact tv_len t) (fun r hr m d => Classical.choose_spec (H r m d) hr)

theorem con_terms_rows (rows : List (List SV)) (h2 : rows.length * 56 ≤ 140737488355328) (h5 : ∀ r ∈ rows, r.length = 5) (H : ∀ r ∈ rows, Con 16 [.agg true r, .agg true r] (.bool true)) :
    Con 10 [.dsl 5 rows, .dsl 5 rows] (.bool true) := by
  refine contract_of_vc mixed Tryz.func10 tr10 ?_
  simp only [go_sem, reduceIte, reduceCtorEq, Nat.reduceAdd, Nat.reduceSub, Nat.reduceMul, Nat.reduceLT, Nat.reduceLeDiff, Nat.reduceEqDiff, Nat.reduceBEq, Nat.reduceGT, Int.reduceEq, Int.reduceNe, Int.reduceLT, Int.reduceLE, Int.reduceToNat, Int.reduceNeg, Int.reduceBEq, Int.reduceAdd, Int.reduceSub, Int.reduceGT, Int.reduceGE, Int.reduceBNe, bne_self_eq_false]
  intro _ _
  refine vc_for (fun x => ⟨[.dsl 5 rows, .dsl 5 rows, .junk, .junk, .bool false, .int .i64 x, .junk, .junk, .junk, .junk, .junk, .junk, .junk, .junk, .junk, .junk, .junk, .junk, .junk, .junk, .junk, .junk, .junk, .junk, .junk, .junk, .junk], []⟩) rows.length (fun x hx => ?_) ?_
  · simp only [go_sem, reduceIte, reduceCtorEq, Nat.reduceAdd, Nat.reduceSub, Nat.reduceMul, Nat.reduceLT, Nat.reduceLeDiff, Nat.reduceEqDiff, Nat.reduceBEq, Nat.reduceGT, Int.reduceEq, Int.reduceNe, Int.reduceLT, Int.reduceLE, Int.reduceToNat, Int.reduceNeg, Int.reduceBEq, Int.reduceAdd, Int.reduceSub, Int.reduceGT, Int.reduceGE, Int.reduceBNe]
    intro _
    refine ⟨fun h => ?_, fun h => ?_⟩
    · have hxl' := of_decide_eq_true h
      have hxl : x < rows.length := by omega
      have e0 : (0 : Int) ≤ (x : Int) := by omega
      have hm : rows[x]?.getD [] ∈ rows := by rw [List.getElem?_eq_getElem hxl, Option.getD_some]; exact List.getElem_mem hxl
      have h5' := h5 _ hm
      simp only [go_sem, reduceIte, reduceCtorEq, Nat.reduceAdd, Nat.reduceSub, Nat.reduceMul, Nat.reduceLT, Nat.reduceLeDiff, Nat.reduceEqDiff, Nat.reduceBEq, Nat.reduceGT, Int.reduceEq, Int.reduceNe, Int.reduceLT, Int.reduceLE, Int.reduceToNat, Int.reduceNeg, Int.reduceBEq, Int.reduceAdd, Int.reduceSub, Int.reduceGT, Int.reduceGE, Int.reduceBNe, hxl', e0, h5']
      refine callK_of (H _ hm) ?_
      simp only [go_sem, reduceIte, reduceCtorEq, Nat.reduceAdd, Nat.reduceSub, Nat.reduceMul, Nat.reduceLT, Nat.reduceLeDiff, Nat.reduceEqDiff, Nat.reduceBEq, Nat.reduceGT, Int.reduceEq, Int.reduceNe, Int.reduceLT, Int.reduceLE, Int.reduceToNat, Int.reduceNeg, Int.reduceBEq, Int.reduceAdd, Int.reduceSub, Int.reduceGT, Int.reduceGE, Int.reduceBNe]
      refine ⟨by omega, ?_⟩
      rw [w64 (n := (x : Int) + 1) (by unfold fit; omega)]
      exact wk_slots (by simp [slotsLe])
    · simp only [go_sem, reduceIte, reduceCtorEq, Nat.reduceAdd, Nat.reduceSub, Nat.reduceMul, Nat.reduceLT, Nat.reduceLeDiff, Nat.reduceEqDiff, Nat.reduceBEq, Nat.reduceGT, Int.reduceEq, Int.reduceNe, Int.reduceLT, Int.reduceLE, Int.reduceToNat, Int.reduceNeg, Int.reduceBEq, Int.reduceAdd, Int.reduceSub, Int.reduceGT, Int.reduceGE, Int.reduceBNe, h]
  · exact wk_slots (by simp [slotsLe])

set_option maxRecDepth 10000 in
theorem con_same (t : Tm) : TOk t → Con 16 [.agg true (tv t), .agg true (tv t)] (.bool true) := by
  induction t using Tm.ind with
  | h k i j n l ih =>
    intro hok
    cases hok with
    | mk _ _ _ _ _ f1 f2 f3 f4 hb hl =>
    rw [tv_mk]
    have hT := con_terms_rows (l.map tv) (by simpa using hb) (fun r hr => by obtain ⟨t, _, rfl⟩ := List.mem_map.1 hr; exact tv_len t) (fun r hr => by obtain ⟨t, ht, rfl⟩ := List.mem_map.1 hr; exact ih t ht (hl t ht))
    generalize l.map tv = rows at hT
    refine contract_of_vc mixed Tryz.func16 tr16 ?_
    simp only [go_sem, reduceIte, reduceCtorEq, Nat.reduceAdd, Nat.reduceSub, Nat.reduceMul, Nat.reduceLT, Nat.reduceLeDiff, Nat.reduceEqDiff, Nat.reduceBEq, Nat.reduceGT, Int.reduceEq, Int.reduceNe, Int.reduceLT, Int.reduceLE, Int.reduceToNat, Int.reduceNeg, Int.reduceBEq, Int.reduceAdd, Int.reduceSub, Int.reduceGT, Int.reduceGE, Int.reduceBNe]
    refine callK_of hT ?_
    simp only [go_sem, reduceIte, reduceCtorEq, Nat.reduceAdd, Nat.reduceSub, Nat.reduceMul, Nat.reduceLT, Nat.reduceLeDiff, Nat.reduceEqDiff, Nat.reduceBEq, Nat.reduceGT, Int.reduceEq, Int.reduceNe, Int.reduceLT, Int.reduceLE, Int.reduceToNat, Int.reduceNeg, Int.reduceBEq, Int.reduceAdd, Int.reduceSub, Int.reduceGT, Int.reduceGE, Int.reduceBNe]

theorem con_fresh (i : Int) (a b x y h : Tm) (ha : TOk a) (hb : TOk b) (hx : TOk x) (hy : TOk y) (hh : TOk h) : Con 85 [.int .i64 i, .agg true (tv a), .agg true (tv b), .agg true (tv x), .agg true (tv y), .agg true (tv h)] (.agg true (hv i a b x y h)) := by
  refine contract_of_vc mixed Tryz.func85 tr85 ?_
  simp only [go_sem, reduceIte, reduceCtorEq, Nat.reduceAdd, Nat.reduceSub, Nat.reduceMul, Nat.reduceLT, Nat.reduceLeDiff, Nat.reduceEqDiff, Nat.reduceBEq, Nat.reduceGT, Int.reduceEq, Int.reduceNe, Int.reduceLT, Int.reduceLE, Int.reduceToNat, Int.reduceNeg, Int.reduceBEq, Int.reduceAdd, Int.reduceSub, Int.reduceGT, Int.reduceGE, Int.reduceBNe]
  refine callK_of (con_copy a ha) ?_
  simp only [go_sem, reduceIte, reduceCtorEq, Nat.reduceAdd, Nat.reduceSub, Nat.reduceMul, Nat.reduceLT, Nat.reduceLeDiff, Nat.reduceEqDiff, Nat.reduceBEq, Nat.reduceGT, Int.reduceEq, Int.reduceNe, Int.reduceLT, Int.reduceLE, Int.reduceToNat, Int.reduceNeg, Int.reduceBEq, Int.reduceAdd, Int.reduceSub, Int.reduceGT, Int.reduceGE, Int.reduceBNe]
  refine callK_of (con_copy b hb) ?_
  simp only [go_sem, reduceIte, reduceCtorEq, Nat.reduceAdd, Nat.reduceSub, Nat.reduceMul, Nat.reduceLT, Nat.reduceLeDiff, Nat.reduceEqDiff, Nat.reduceBEq, Nat.reduceGT, Int.reduceEq, Int.reduceNe, Int.reduceLT, Int.reduceLE, Int.reduceToNat, Int.reduceNeg, Int.reduceBEq, Int.reduceAdd, Int.reduceSub, Int.reduceGT, Int.reduceGE, Int.reduceBNe]
  refine callK_of (con_copy x hx) ?_
  simp only [go_sem, reduceIte, reduceCtorEq, Nat.reduceAdd, Nat.reduceSub, Nat.reduceMul, Nat.reduceLT, Nat.reduceLeDiff, Nat.reduceEqDiff, Nat.reduceBEq, Nat.reduceGT, Int.reduceEq, Int.reduceNe, Int.reduceLT, Int.reduceLE, Int.reduceToNat, Int.reduceNeg, Int.reduceBEq, Int.reduceAdd, Int.reduceSub, Int.reduceGT, Int.reduceGE, Int.reduceBNe]
  refine callK_of (con_copy y hy) ?_
  simp only [go_sem, reduceIte, reduceCtorEq, Nat.reduceAdd, Nat.reduceSub, Nat.reduceMul, Nat.reduceLT, Nat.reduceLeDiff, Nat.reduceEqDiff, Nat.reduceBEq, Nat.reduceGT, Int.reduceEq, Int.reduceNe, Int.reduceLT, Int.reduceLE, Int.reduceToNat, Int.reduceNeg, Int.reduceBEq, Int.reduceAdd, Int.reduceSub, Int.reduceGT, Int.reduceGE, Int.reduceBNe]
  refine callK_of (con_copy h hh) ?_
  simp only [go_sem, reduceIte, reduceCtorEq, Nat.reduceAdd, Nat.reduceSub, Nat.reduceMul, Nat.reduceLT, Nat.reduceLeDiff, Nat.reduceEqDiff, Nat.reduceBEq, Nat.reduceGT, Int.reduceEq, Int.reduceNe, Int.reduceLT, Int.reduceLE, Int.reduceToNat, Int.reduceNeg, Int.reduceBEq, Int.reduceAdd, Int.reduceSub, Int.reduceGT, Int.reduceGE, Int.reduceBNe]
end Go.Proofs.YtkldipbhenabfaaGreat.Abs
