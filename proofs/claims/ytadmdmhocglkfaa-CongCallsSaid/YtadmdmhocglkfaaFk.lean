/- Plain terms by the page are those by the program; several at once; small functions of het and of the page. -/
import Derived.Test.YtadmdmhocglkfaaFj
set_option linter.unusedSimpArgs false
set_option linter.unusedVariables false
namespace Go.Proofs.Ytadmdmhocglkfaa.Abs
open Go Go.RowKit Go.Proofs.Ytadmdmhocglkfaa

abbrev plainT (t : Tm) : Bool := rightT t 2

theorem kids_none (k n : Int) (h : k ≤ 0 ∨ 23 < k) : kidsN k n = -1 := by
  unfold kidsN tab
  rw [if_neg (by omega), if_neg (by simp only [List.length_cons, List.length_nil]; omega)]

theorem len_none (k n : Int) (len : Nat) (h : k ≤ 0 ∨ 23 < k) : ((len : Int) == kidsN k n) = false := by
  rw [kids_none k n h]
  exact beq_no (by omega)

theorem rplainN_eq (k i j n : Int) (len : Nat) : rplainN k i j n len = rightN k i j n 2 len := by
  unfold rplainN rightN nodeB
  rw [show (!((len : Int) != kidsN k n)) = ((len : Int) == kidsN k n) by simp [bne]]
  by_cases h : k ≤ 0 ∨ 23 < k
  · rw [len_none k n len h]; simp
  · congr 1
    have hs : sortN k = if k = 1 ∨ k = 2 then 0 else if k ≤ 12 then 1 else 2 := rfl
    by_cases h1 : k = 1
    · subst h1; rfl
    · by_cases h2 : k = 2
      · subst h2; rfl
      · rw [hs, if_neg (by omega)]
        have e1 : (k != 1) = true := by simp [h1]
        have e2 : (k != 2) = true := by simp [h2]
        rw [e1, e2]
        have e4 : decide (k > 23) = false := by simp; omega
        rw [e4]
        by_cases h3 : k ≤ 12
        · rw [if_pos h3]
          have e3 : decide (k < 13) = true := by simp; omega
          rw [e3]; rfl
        · rw [if_neg h3]
          have e3 : decide (k < 13) = false := by simp; omega
          rw [e3]; rfl

theorem allI_all {α : Type} {f : α → Bool} : ∀ {l : List α} {p : Nat}, allI (fun _ x => f x) p l = l.all f := by
  intro l
  induction l with
  | nil => intro p; rfl
  | cons x l ih => intro p; simp only [allI, List.all_cons, ih]

/-- Of a right node of that sort, or of any, plain: the kids are asked to be plain. -/
theorem plain_kids (k i j n : Int) (l : List Tm) : rightT (.mk k i j n l) 2 = (rightN k i j n 2 l.length && l.all plainT) := by
  rw [rightT_mk]
  cases h : rightN k i j n 2 l.length
  · rfl
  · rw [Bool.true_and, Bool.true_and]
    unfold rightN at h
    simp only [Bool.and_eq_true, Bool.or_eq_true, Bool.not_eq_true', bne_eq_false_iff_eq] at h
    obtain ⟨h1, h2, _⟩ := h
    have hs : sortN k = if k = 1 ∨ k = 2 then 0 else if k ≤ 12 then 1 else 2 := rfl
    by_cases h12 : k = 1 ∨ k = 2
    · have : l = [] := by
        rcases h12 with rfl | rfl
        · exact List.length_eq_zero_iff.1 (by simpa [kidsN, tab] using h2)
        · exact List.length_eq_zero_iff.1 (by simpa [kidsN, tab] using h2)
      subst this; rfl
    · rw [if_neg h12] at hs
      have hk : sortN k = 2 := by
        rcases h1 with h1 | h1 | h1
        · omega
        · rw [hs] at h1; split at h1 <;> omega
        · exact h1
      have h13 : k ≠ 12 := by
        intro e; subst e; simp [sortN] at hk
      rw [allI_congr (g := fun _ t => plainT t) (fun p t _ => by unfold ofN; rw [if_neg (by omega), hk]), allI_all]

theorem con_rplain (t : Tm) : TOk t → Con 131 [.agg true (tv t)] (.bool (plainT t)) := by
  induction t using Tm.ind with
  | h k i j n l ih =>
    intro hok
    cases hok with
    | mk _ _ _ _ _ f1 f2 f3 f4 hb hl =>
    have h := con_rplain_rows k i j n (l.map tv) (onT plainT false) (by simpa using hb) (rows5 l) (fun r hr => by
      obtain ⟨t, ht, rfl⟩ := List.mem_map.1 hr
      rw [onT_tv]
      exact ih t ht (hl t ht))
    rw [List.length_map, rplainN_eq, List.all_map, ← tv_mk] at h
    have e : l.all (onT plainT false ∘ tv) = l.all plainT := by
      congr 1; funext t; simp [onT_tv]
    rw [e, ← plain_kids] at h
    exact h

/-- Several. -/
abbrev plains (l : List Tm) : Bool := l.all plainT

theorem con_hplain_rows (rows : List (List SV)) (W : List SV → Bool) (h2 : rows.length * 56 ≤ 140737488355328) (h5 : ∀ r ∈ rows, r.length = 5)
    (H : ∀ r ∈ rows, Con 130 [.agg true r] (.bool (W r))) : Con 89 [.dsl 5 rows] (.bool (rows.all W)) := by
  refine contract_of_vc mixed Try.func89 tr89 ?_
  simp only [go_sem, reduceIte, reduceCtorEq, Nat.reduceAdd, Nat.reduceSub, Nat.reduceMul, Nat.reduceLT, Nat.reduceLeDiff, Nat.reduceEqDiff, Nat.reduceBEq, Nat.reduceGT, Int.reduceEq, Int.reduceNe, Int.reduceLT, Int.reduceLE, Int.reduceToNat, Int.reduceNeg, Int.reduceBEq, Int.reduceAdd, Int.reduceSub, Int.reduceGT, Int.reduceGE, Int.reduceBNe]
  intro _
  refine vc_forp (fun x => ⟨(.junk :: .junk :: .junk :: .junk :: .junk :: .dsl 5 rows :: .int .i64 rows.length :: .int .i64 x :: .junk :: .junk :: .junk :: .junk :: .junk :: .junk :: .junk :: []), []⟩) rows.length (fun x => W (rows[x]?.getD []) = true) (fun x hx hp => ?_) ?_
  · simp only [go_sem, reduceIte, reduceCtorEq, Nat.reduceAdd, Nat.reduceSub, Nat.reduceMul, Nat.reduceLT, Nat.reduceLeDiff, Nat.reduceEqDiff, Nat.reduceBEq, Nat.reduceGT, Int.reduceEq, Int.reduceNe, Int.reduceLT, Int.reduceLE, Int.reduceToNat, Int.reduceNeg, Int.reduceBEq, Int.reduceAdd, Int.reduceSub, Int.reduceGT, Int.reduceGE, Int.reduceBNe]
    refine ⟨fun h => ?_, fun h => ?_⟩
    · have hlt := of_decide_eq_true h
      have hlt' : x < rows.length := by omega
      have e0 : (0 : Int) ≤ (x : Int) := by omega
      have hm := get_lt (d := []) hlt'
      have h5' := h5 _ hm
      simp only [go_sem, reduceIte, reduceCtorEq, Nat.reduceAdd, Nat.reduceSub, Nat.reduceMul, Nat.reduceLT, Nat.reduceLeDiff, Nat.reduceEqDiff, Nat.reduceBEq, Nat.reduceGT, Int.reduceEq, Int.reduceNe, Int.reduceLT, Int.reduceLE, Int.reduceToNat, Int.reduceNeg, Int.reduceBEq, Int.reduceAdd, Int.reduceSub, Int.reduceGT, Int.reduceGE, Int.reduceBNe, hlt, e0, h5']
      refine callK_of (H _ hm) ?_
      cases hW : W (rows[x]?.getD []) <;> simp only [go_sem, reduceIte, reduceCtorEq, Nat.reduceAdd, Nat.reduceSub, Nat.reduceMul, Nat.reduceLT, Nat.reduceLeDiff, Nat.reduceEqDiff, Nat.reduceBEq, Nat.reduceGT, Int.reduceEq, Int.reduceNe, Int.reduceLT, Int.reduceLE, Int.reduceToNat, Int.reduceNeg, Int.reduceBEq, Int.reduceAdd, Int.reduceSub, Int.reduceGT, Int.reduceGE, Int.reduceBNe]
      · rw [all_no (d := []) (i := x) hlt' hW]
      · refine ⟨hlt', ?_⟩
        rw [w64 (n := (x : Int) + 1) (by unfold fit; omega)]
        exact wk_trunc 0 (by simp [slotsLe]) rfl (by simp [below]) (by simp)
    · have hge := of_decide_eq_false h
      have hxe : x = rows.length := by omega
      simp only [go_sem, reduceIte, reduceCtorEq, Nat.reduceAdd, Nat.reduceSub, Nat.reduceMul, Nat.reduceLT, Nat.reduceLeDiff, Nat.reduceEqDiff, Nat.reduceBEq, Nat.reduceGT, Int.reduceEq, Int.reduceNe, Int.reduceLT, Int.reduceLE, Int.reduceToNat, Int.reduceNeg, Int.reduceBEq, Int.reduceAdd, Int.reduceSub, Int.reduceGT, Int.reduceGE, Int.reduceBNe, h]
      rw [all_of (d := []) (f := W) (fun j hj => hp j (by omega))]
  · exact wk_slots (by simp [slotsLe])

theorem con_r23plain_rows (rows : List (List SV)) (W : List SV → Bool) (h2 : rows.length * 56 ≤ 140737488355328) (h5 : ∀ r ∈ rows, r.length = 5)
    (H : ∀ r ∈ rows, Con 131 [.agg true r] (.bool (W r))) : Con 93 [.dsl 5 rows] (.bool (rows.all W)) := by
  refine contract_of_vc mixed Try.func93 tr93 ?_
  simp only [go_sem, reduceIte, reduceCtorEq, Nat.reduceAdd, Nat.reduceSub, Nat.reduceMul, Nat.reduceLT, Nat.reduceLeDiff, Nat.reduceEqDiff, Nat.reduceBEq, Nat.reduceGT, Int.reduceEq, Int.reduceNe, Int.reduceLT, Int.reduceLE, Int.reduceToNat, Int.reduceNeg, Int.reduceBEq, Int.reduceAdd, Int.reduceSub, Int.reduceGT, Int.reduceGE, Int.reduceBNe]
  refine vc_forp (fun x => ⟨(.dsl 5 rows :: .junk :: .junk :: .int .i64 x :: .junk :: .junk :: .junk :: .junk :: .junk :: .junk :: .junk :: .junk :: .junk :: .junk :: .junk :: .junk :: []), []⟩) rows.length (fun x => W (rows[x]?.getD []) = true) (fun x hx hp => ?_) ?_
  · simp only [go_sem, reduceIte, reduceCtorEq, Nat.reduceAdd, Nat.reduceSub, Nat.reduceMul, Nat.reduceLT, Nat.reduceLeDiff, Nat.reduceEqDiff, Nat.reduceBEq, Nat.reduceGT, Int.reduceEq, Int.reduceNe, Int.reduceLT, Int.reduceLE, Int.reduceToNat, Int.reduceNeg, Int.reduceBEq, Int.reduceAdd, Int.reduceSub, Int.reduceGT, Int.reduceGE, Int.reduceBNe]
    intro _
    refine ⟨fun h => ?_, fun h => ?_⟩
    · have hlt := of_decide_eq_true h
      have hlt' : x < rows.length := by omega
      have e0 : (0 : Int) ≤ (x : Int) := by omega
      have hm := get_lt (d := []) hlt'
      have h5' := h5 _ hm
      simp only [go_sem, reduceIte, reduceCtorEq, Nat.reduceAdd, Nat.reduceSub, Nat.reduceMul, Nat.reduceLT, Nat.reduceLeDiff, Nat.reduceEqDiff, Nat.reduceBEq, Nat.reduceGT, Int.reduceEq, Int.reduceNe, Int.reduceLT, Int.reduceLE, Int.reduceToNat, Int.reduceNeg, Int.reduceBEq, Int.reduceAdd, Int.reduceSub, Int.reduceGT, Int.reduceGE, Int.reduceBNe, hlt, e0, h5']
      refine callK_of (H _ hm) ?_
      cases hW : W (rows[x]?.getD []) <;> simp only [go_sem, reduceIte, reduceCtorEq, Nat.reduceAdd, Nat.reduceSub, Nat.reduceMul, Nat.reduceLT, Nat.reduceLeDiff, Nat.reduceEqDiff, Nat.reduceBEq, Nat.reduceGT, Int.reduceEq, Int.reduceNe, Int.reduceLT, Int.reduceLE, Int.reduceToNat, Int.reduceNeg, Int.reduceBEq, Int.reduceAdd, Int.reduceSub, Int.reduceGT, Int.reduceGE, Int.reduceBNe]
      · rw [all_no (d := []) (i := x) hlt' hW]
      · refine ⟨hlt', ?_⟩
        rw [w64 (n := (x : Int) + 1) (by unfold fit; omega)]
        exact wk_slots (by simp [slotsLe])
    · have hge := of_decide_eq_false h
      have hxe : x = rows.length := by omega
      simp only [go_sem, reduceIte, reduceCtorEq, Nat.reduceAdd, Nat.reduceSub, Nat.reduceMul, Nat.reduceLT, Nat.reduceLeDiff, Nat.reduceEqDiff, Nat.reduceBEq, Nat.reduceGT, Int.reduceEq, Int.reduceNe, Int.reduceLT, Int.reduceLE, Int.reduceToNat, Int.reduceNeg, Int.reduceBEq, Int.reduceAdd, Int.reduceSub, Int.reduceGT, Int.reduceGE, Int.reduceBNe, h]
      rw [all_of (d := []) (f := W) (fun j hj => hp j (by omega))]
  · exact wk_slots (by simp [slotsLe])

theorem onT_all (l : List Tm) (f : Tm → Bool) : (l.map tv).all (onT f false) = l.all f := by
  rw [List.all_map]
  congr 1; funext t; simp [onT_tv]

theorem con_hplain (l : List Tm) (hl : ∀ t ∈ l, TOk t) (hb : l.length * 56 ≤ 140737488355328) : Con 89 [.dsl 5 (l.map tv)] (.bool (plains l)) := by
  have h := con_hplain_rows (l.map tv) (onT plainT false) (by simpa using hb) (rows5 l) (fun r hr => by
    obtain ⟨t, ht, rfl⟩ := List.mem_map.1 hr
    rw [onT_tv]; exact con_plain t (hl t ht))
  rwa [onT_all] at h

theorem con_r23plain (l : List Tm) (hl : ∀ t ∈ l, TOk t) (hb : l.length * 56 ≤ 140737488355328) : Con 93 [.dsl 5 (l.map tv)] (.bool (plains l)) := by
  have h := con_r23plain_rows (l.map tv) (onT plainT false) (by simpa using hb) (rows5 l) (fun r hr => by
    obtain ⟨t, ht, rfl⟩ := List.mem_map.1 hr
    rw [onT_tv]; exact con_rplain t (hl t ht))
  rwa [onT_all] at h

theorem con_r23level (i low : Int) : Con 92 [.int .i64 i, .int .i64 low] (.bool (decide (0 ≤ i) && decide (i ≤ IntKind.i64.wrap (1000 - low)))) := by
  refine contract_of_vc mixed Try.func92 tr92 ?_
  by_cases h1 : 0 ≤ i <;> simp only [go_sem, reduceIte, reduceCtorEq, Nat.reduceAdd, Nat.reduceSub, Nat.reduceMul, Nat.reduceLT, Nat.reduceLeDiff, Nat.reduceEqDiff, Nat.reduceBEq, Nat.reduceGT, Int.reduceEq, Int.reduceNe, Int.reduceLT, Int.reduceLE, Int.reduceToNat, Int.reduceNeg, Int.reduceBEq, Int.reduceAdd, Int.reduceSub, Int.reduceGT, Int.reduceGE, Int.reduceBNe, h1]

theorem con_r23sort (i : Int) : Con 95 [.int .i64 i] (.agg true (tv (so i))) := by
  refine (contract_of_vc (r := .agg true [.int .i64 1, .int .i64 i, .int .i64 0, .int .i64 0, .nils]) mixed Try.func95 tr95 ?_).weaken (le_leaf _ _ _ _)
  simp only [go_sem, reduceIte, reduceCtorEq, Nat.reduceAdd, Nat.reduceSub, Nat.reduceMul, Nat.reduceLT, Nat.reduceLeDiff, Nat.reduceEqDiff, Nat.reduceBEq, Nat.reduceGT, Int.reduceEq, Int.reduceNe, Int.reduceLT, Int.reduceLE, Int.reduceToNat, Int.reduceNeg, Int.reduceBEq, Int.reduceAdd, Int.reduceSub, Int.reduceGT, Int.reduceGE, Int.reduceBNe]
theorem con_r23v (i : Int) : Con 96 [.int .i64 i] (.agg true (tv (vr i))) := by
  refine (contract_of_vc (r := .agg true [.int .i64 2, .int .i64 i, .int .i64 0, .int .i64 0, .nils]) mixed Try.func96 tr96 ?_).weaken (le_leaf _ _ _ _)
  simp only [go_sem, reduceIte, reduceCtorEq, Nat.reduceAdd, Nat.reduceSub, Nat.reduceMul, Nat.reduceLT, Nat.reduceLeDiff, Nat.reduceEqDiff, Nat.reduceBEq, Nat.reduceGT, Int.reduceEq, Int.reduceNe, Int.reduceLT, Int.reduceLE, Int.reduceToNat, Int.reduceNeg, Int.reduceBEq, Int.reduceAdd, Int.reduceSub, Int.reduceGT, Int.reduceGE, Int.reduceBNe]
theorem con_l23v (i : Int) : Con 103 [.int .i64 i] (.agg true (tv (vr i))) := by
  refine (contract_of_vc (r := .agg true [.int .i64 2, .int .i64 i, .int .i64 0, .int .i64 0, .nils]) mixed Try.func103 tr103 ?_).weaken (le_leaf _ _ _ _)
  simp only [go_sem, reduceIte, reduceCtorEq, Nat.reduceAdd, Nat.reduceSub, Nat.reduceMul, Nat.reduceLT, Nat.reduceLeDiff, Nat.reduceEqDiff, Nat.reduceBEq, Nat.reduceGT, Int.reduceEq, Int.reduceNe, Int.reduceLT, Int.reduceLE, Int.reduceToNat, Int.reduceNeg, Int.reduceBEq, Int.reduceAdd, Int.reduceSub, Int.reduceGT, Int.reduceGE, Int.reduceBNe]

theorem take_next {α : Type} {l : List α} {i : Nat} {d : α} (h : i < l.length) : l.take i ++ [l[i]?.getD d] = l.take (i + 1) := by
  rw [List.take_add_one, List.getElem?_eq_getElem h]
  rfl

theorem con_r23node (k : Int) (rows : List (List SV)) (h2 : rows.length * 56 ≤ 140737488355328) (h5 : ∀ r ∈ rows, r.length = 5) :
    Con 94 [.int .i64 k, .dsl 5 rows] (.agg true [.int .i64 k, .int .i64 0, .int .i64 0, .int .i64 0, .dsl 5 rows]) := by
  refine contract_of_vc mixed Try.func94 tr94 ?_
  simp only [go_sem, reduceIte, reduceCtorEq, Nat.reduceAdd, Nat.reduceSub, Nat.reduceMul, Nat.reduceLT, Nat.reduceLeDiff, Nat.reduceEqDiff, Nat.reduceBEq, Nat.reduceGT, Int.reduceEq, Int.reduceNe, Int.reduceLT, Int.reduceLE, Int.reduceToNat, Int.reduceNeg, Int.reduceBEq, Int.reduceAdd, Int.reduceSub, Int.reduceGT, Int.reduceGE, Int.reduceBNe]
  refine vc_for (fun x => ⟨(.int .i64 k :: .dsl 5 rows :: .junk :: .junk :: .ref 0 0 0 0 :: .osl 1 x 0 x :: .int .i64 x :: .junk :: .junk :: .junk :: .junk :: .junk :: .junk :: .junk :: .junk :: .junk :: .junk :: .junk :: .junk :: .junk :: .junk :: .junk :: .junk :: []),
    [⟨true, 5, [[.int .i64 0, .int .i64 0, .int .i64 0, .int .i64 0, .nils]], 0, 0, true⟩, ⟨false, 5, rows.take x, x - 1, x, true⟩]⟩) rows.length (fun x hx => ?_) ?_
  · simp only [go_sem, reduceIte, reduceCtorEq, Nat.reduceAdd, Nat.reduceSub, Nat.reduceMul, Nat.reduceLT, Nat.reduceLeDiff, Nat.reduceEqDiff, Nat.reduceBEq, Nat.reduceGT, Int.reduceEq, Int.reduceNe, Int.reduceLT, Int.reduceLE, Int.reduceToNat, Int.reduceNeg, Int.reduceBEq, Int.reduceAdd, Int.reduceSub, Int.reduceGT, Int.reduceGE, Int.reduceBNe]
    intro _
    refine ⟨fun h => ?_, fun h => ?_⟩
    · have hlt := of_decide_eq_true h
      have hlt' : x < rows.length := by omega
      have e0 : (0 : Int) ≤ (x : Int) := by omega
      have hm := get_lt (d := []) hlt'
      have h5' := h5 _ hm
      have e1 : (rows.take x).length = x := by simp; omega
      have e2 : (x + 1) * 56 ≤ 140737488355328 := by omega
      have e3 : x + 1 ≤ 140737488355328 := by omega
      simp only [go_sem, reduceIte, reduceCtorEq, Nat.reduceAdd, Nat.reduceSub, Nat.reduceMul, Nat.reduceLT, Nat.reduceLeDiff, Nat.reduceEqDiff, Nat.reduceBEq, Nat.reduceGT, Int.reduceEq, Int.reduceNe, Int.reduceLT, Int.reduceLE, Int.reduceToNat, Int.reduceNeg, Int.reduceBEq, Int.reduceAdd, Int.reduceSub, Int.reduceGT, Int.reduceGE, Int.reduceBNe, hlt, e0, h5', e1, e2, e3, take_next hlt']
      refine ⟨hlt', ?_⟩
      rw [w64 (n := (x : Int) + 1) (by unfold fit; omega)]
      exact wk_trunc 2 (by simp [slotsLe]) (by simp) (by simp [below]) (by simp)
    · have hge := of_decide_eq_false h
      have hxe : x = rows.length := by omega
      subst hxe
      simp only [go_sem, reduceIte, reduceCtorEq, Nat.reduceAdd, Nat.reduceSub, Nat.reduceMul, Nat.reduceLT, Nat.reduceLeDiff, Nat.reduceEqDiff, Nat.reduceBEq, Nat.reduceGT, Int.reduceEq, Int.reduceNe, Int.reduceLT, Int.reduceLE, Int.reduceToNat, Int.reduceNeg, Int.reduceBEq, Int.reduceAdd, Int.reduceSub, Int.reduceGT, Int.reduceGE, Int.reduceBNe, h, List.take_length]
  · exact .trans (.ghost _ 5 5 rfl) (wk_slots (by simp [slotsLe]))
end Go.Proofs.Ytadmdmhocglkfaa.Abs
