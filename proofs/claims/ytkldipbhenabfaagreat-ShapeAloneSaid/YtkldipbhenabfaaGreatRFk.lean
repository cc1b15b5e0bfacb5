/- Right terms, by the program: term.right. -/
import Derived.Test.YtkldipbhenabfaaGreatRFg
import Derived.Test.YtkldipbhenabfaaGreatRLp
set_option linter.unusedSimpArgs false
set_option linter.unusedVariables false
namespace Go.Proofs.YtkldipbhenabfaaGreat.Abs
open Go Go.RowKit Go.Proofs.YtkldipbhenabfaaGreat

def rightN (k i j n want : Int) (len : Nat) : Bool := (!(want != 0) || (!(sortN k != 0) || !(sortN k != want))) && (!((len : Int) != kidsN k n) && numsB k i j n)
def ofN (k : Int) (i : Nat) : Int := if k = 12 ∧ i = 2 then 2 else sortN k

set_option maxRecDepth 10000 in
set_option maxHeartbeats 2000000 in
theorem con_right_rows (k i j n want : Int) (rows : List (List SV)) (W : Nat → List SV → Bool) (h2 : rows.length * 56 ≤ 140737488355328) (h5 : ∀ r ∈ rows, r.length = 5)
    (H : ∀ p, ∀ r ∈ rows, Con 96 [.agg true r, .int .i64 (ofN k p)] (.bool (W p r))) :
    Con 96 [.agg true [.int .i64 k, .int .i64 i, .int .i64 j, .int .i64 n, .dsl 5 rows], .int .i64 want] (.bool (rightN k i j n want rows.length && allI W 0 rows)) := by
  refine contract_of_vc mixed Tryz.func96 tr96 ?_
  simp only [go_sem, reduceIte, reduceCtorEq, Nat.reduceAdd, Nat.reduceSub, Nat.reduceMul, Nat.reduceLT, Nat.reduceLeDiff, Nat.reduceEqDiff, Nat.reduceBEq, Nat.reduceGT, Int.reduceEq, Int.reduceNe, Int.reduceLT, Int.reduceLE, Int.reduceToNat, Int.reduceNeg, Int.reduceBEq, Int.reduceAdd, Int.reduceSub, Int.reduceGT, Int.reduceGE, Int.reduceBNe]
  refine callK_of (con_tsort k) ?_
  simp only [go_sem, reduceIte, reduceCtorEq, Nat.reduceAdd, Nat.reduceSub, Nat.reduceMul, Nat.reduceLT, Nat.reduceLeDiff, Nat.reduceEqDiff, Nat.reduceBEq, Nat.reduceGT, Int.reduceEq, Int.reduceNe, Int.reduceLT, Int.reduceLE, Int.reduceToNat, Int.reduceNeg, Int.reduceBEq, Int.reduceAdd, Int.reduceSub, Int.reduceGT, Int.reduceGE, Int.reduceBNe]
  unfold rightN
  cases hw : (want != 0) <;> cases hs : (sortN k != 0) <;> cases hd : (sortN k != want) <;> simp only [go_sem, reduceIte, reduceCtorEq, Nat.reduceAdd, Nat.reduceSub, Nat.reduceMul, Nat.reduceLT, Nat.reduceLeDiff, Nat.reduceEqDiff, Nat.reduceBEq, Nat.reduceGT, Int.reduceEq, Int.reduceNe, Int.reduceLT, Int.reduceLE, Int.reduceToNat, Int.reduceNeg, Int.reduceBEq, Int.reduceAdd, Int.reduceSub, Int.reduceGT, Int.reduceGE, Int.reduceBNe, hs, hd]
  all_goals
    refine callK_of (con_kids k n) ?_
    cases hK : ((rows.length : Int) != kidsN k n) <;> simp only [go_sem, reduceIte, reduceCtorEq, Nat.reduceAdd, Nat.reduceSub, Nat.reduceMul, Nat.reduceLT, Nat.reduceLeDiff, Nat.reduceEqDiff, Nat.reduceBEq, Nat.reduceGT, Int.reduceEq, Int.reduceNe, Int.reduceLT, Int.reduceLE, Int.reduceToNat, Int.reduceNeg, Int.reduceBEq, Int.reduceAdd, Int.reduceSub, Int.reduceGT, Int.reduceGE, Int.reduceBNe, hK]
    refine callK_of (con_numbers k i j n rows) ?_
    cases hN : numsB k i j n <;> simp only [go_sem, reduceIte, reduceCtorEq, Nat.reduceAdd, Nat.reduceSub, Nat.reduceMul, Nat.reduceLT, Nat.reduceLeDiff, Nat.reduceEqDiff, Nat.reduceBEq, Nat.reduceGT, Int.reduceEq, Int.reduceNe, Int.reduceLT, Int.reduceLE, Int.reduceToNat, Int.reduceNeg, Int.reduceBEq, Int.reduceAdd, Int.reduceSub, Int.reduceGT, Int.reduceGE, Int.reduceBNe, hN]
    intros
    refine vc_forp (fun x => ⟨(.junk :: .junk :: .ref 0 0 0 0 :: .junk :: .junk :: .int .i64 (sortN k) :: .junk :: .junk :: .junk :: .junk :: .junk :: .junk :: .junk :: .junk :: .junk :: .junk :: .junk :: .junk :: .junk :: .junk :: .junk :: .junk :: .junk :: .junk :: .junk :: .junk :: .junk :: .junk :: .junk :: .junk :: .junk :: .junk :: .junk :: .junk :: .junk :: .junk :: .junk :: .junk :: .dsl 5 rows :: .int .i64 rows.length :: .int .i64 x :: .junk :: .junk :: .junk :: .junk :: .junk :: .junk :: .junk :: .junk :: .junk :: .junk :: .junk :: .junk :: .junk :: .junk :: .junk :: .junk :: .junk :: []),
        [⟨true, 5, [[.int .i64 k, .int .i64 i, .int .i64 j, .int .i64 n, .dsl 5 rows]], 0, 0, true⟩]⟩) rows.length (fun x => W x (rows[x]?.getD []) = true) (fun x hx hp => ?_) ?_
    · simp only [go_sem, reduceIte, reduceCtorEq, Nat.reduceAdd, Nat.reduceSub, Nat.reduceMul, Nat.reduceLT, Nat.reduceLeDiff, Nat.reduceEqDiff, Nat.reduceBEq, Nat.reduceGT, Int.reduceEq, Int.reduceNe, Int.reduceLT, Int.reduceLE, Int.reduceToNat, Int.reduceNeg, Int.reduceBEq, Int.reduceAdd, Int.reduceSub, Int.reduceGT, Int.reduceGE, Int.reduceBNe, lqp_n, lqp_e, lqp_r]
      refine ⟨fun h => ?_, fun h => ?_⟩
      · have hlt := of_decide_eq_true h
        have hlt' : x < rows.length := by omega
        have e0 : (0 : Int) ≤ (x : Int) := by omega
        have hm := get_lt (d := []) hlt'
        have h5' := h5 _ hm
        have ho := H x _ hm
        have eo : ofN k x = bif (k == 12) && ((x : Int) == 2) then 2 else sortN k := by
          unfold ofN
          by_cases a : k = 12
          · by_cases b : x = 2
            · subst b; rw [if_pos ⟨a, rfl⟩, a]; rfl
            · rw [if_neg (fun h => b h.2), beq_no (show (x : Int) ≠ 2 by omega), Bool.and_false]; rfl
          · rw [if_neg (fun h => a h.1), beq_no a, Bool.false_and]; rfl
        simp only [go_sem, reduceIte, reduceCtorEq, Nat.reduceAdd, Nat.reduceSub, Nat.reduceMul, Nat.reduceLT, Nat.reduceLeDiff, Nat.reduceEqDiff, Nat.reduceBEq, Nat.reduceGT, Int.reduceEq, Int.reduceNe, Int.reduceLT, Int.reduceLE, Int.reduceToNat, Int.reduceNeg, Int.reduceBEq, Int.reduceAdd, Int.reduceSub, Int.reduceGT, Int.reduceGE, Int.reduceBNe, hlt, e0, h5']
        cases h12 : (k == 12) <;> cases hx2 : ((x : Int) == 2) <;> simp only [go_sem, reduceIte, reduceCtorEq, Nat.reduceAdd, Nat.reduceSub, Nat.reduceMul, Nat.reduceLT, Nat.reduceLeDiff, Nat.reduceEqDiff, Nat.reduceBEq, Nat.reduceGT, Int.reduceEq, Int.reduceNe, Int.reduceLT, Int.reduceLE, Int.reduceToNat, Int.reduceNeg, Int.reduceBEq, Int.reduceAdd, Int.reduceSub, Int.reduceGT, Int.reduceGE, Int.reduceBNe, hx2]
        all_goals
          simp only [h12, hx2, Bool.and_true, Bool.and_false, Bool.true_and, Bool.false_and, cond_true, cond_false] at eo
          rw [eo] at ho
          refine callK_of ho ?_
          cases hW : W x (rows[x]?.getD []) <;> simp only [go_sem, reduceIte, reduceCtorEq, Nat.reduceAdd, Nat.reduceSub, Nat.reduceMul, Nat.reduceLT, Nat.reduceLeDiff, Nat.reduceEqDiff, Nat.reduceBEq, Nat.reduceGT, Int.reduceEq, Int.reduceNe, Int.reduceLT, Int.reduceLE, Int.reduceToNat, Int.reduceNeg, Int.reduceBEq, Int.reduceAdd, Int.reduceSub, Int.reduceGT, Int.reduceGE, Int.reduceBNe]
          · rw [allI_no (d := []) (i := x) hlt' (by rw [Nat.zero_add]; exact hW)]
          · refine ⟨hlt', ?_⟩
            rw [w64 (n := (x : Int) + 1) (by unfold fit; omega)]
            exact wk_trunc 1 (by simp [slotsLe]) (by simp only [List.take_succ_cons, List.take_zero]) (by simp [below]) (by simp)
      · have hge := of_decide_eq_false h
        have hxe : x = rows.length := by omega
        simp only [go_sem, reduceIte, reduceCtorEq, Nat.reduceAdd, Nat.reduceSub, Nat.reduceMul, Nat.reduceLT, Nat.reduceLeDiff, Nat.reduceEqDiff, Nat.reduceBEq, Nat.reduceGT, Int.reduceEq, Int.reduceNe, Int.reduceLT, Int.reduceLE, Int.reduceToNat, Int.reduceNeg, Int.reduceBEq, Int.reduceAdd, Int.reduceSub, Int.reduceGT, Int.reduceGE, Int.reduceBNe, h]
        rw [allI_of (d := []) (f := W) (fun j hj => by rw [Nat.zero_add]; exact hp j (by omega))]
    · exact wk_slots (by simp [slotsLe])
end Go.Proofs.YtkldipbhenabfaaGreat.Abs

set_option linter.unusedSimpArgs false
set_option linter.unusedVariables false
namespace Go.Proofs.YtkldipbhenabfaaGreat.Abs
open Go Go.RowKit Go.Proofs.YtkldipbhenabfaaGreat

theorem map_inj {l : List Tm} (ih : ∀ a ∈ l, ∀ b, tv a = tv b → a = b) : ∀ {r : List Tm}, l.map tv = r.map tv → l = r := by
  induction l with
  | nil => intro r h; cases r with
    | nil => rfl
    | cons b r => simp at h
  | cons a l ihl =>
    intro r h
    cases r with
    | nil => simp at h
    | cons b r =>
      simp only [List.map_cons, List.cons.injEq] at h
      rw [ih a (by simp) b h.1, ihl (fun x hx => ih x (by simp [hx])) h.2]

theorem tv_inj (a : Tm) : ∀ b, tv a = tv b → a = b := by
  induction a using Tm.ind with
  | h k i j n l ih =>
    intro b h
    cases b with
    | mk k' i' j' n' l' =>
      rw [tv_mk, tv_mk] at h
      simp only [List.cons.injEq, SV.int.injEq, SV.dsl.injEq, true_and, and_true] at h
      obtain ⟨rfl, rfl, rfl, rfl, h5⟩ := h
      rw [map_inj ih h5]

noncomputable def onT {α : Type} (f : Tm → α) (d : α) (r : List SV) : α := open Classical in if h : ∃ t, tv t = r then f (Classical.choose h) else d
theorem onT_tv {α : Type} (f : Tm → α) (d : α) (t : Tm) : onT f d (tv t) = f t := by
  have h : ∃ u, tv u = tv t := ⟨t, rfl⟩
  unfold onT
  rw [dif_pos h, tv_inj _ _ (Classical.choose_spec h)]

theorem rows5 (l : List Tm) : ∀ r ∈ l.map tv, r.length = 5 := fun r hr => by obtain ⟨t, _, rfl⟩ := List.mem_map.1 hr; exact tv_len t

mutual
def rightT : Tm → Int → Bool
  | .mk k i j n l, want => rightN k i j n want l.length && rightL k 0 l
def rightL (k : Int) : Nat → List Tm → Bool
  | _, [] => true
  | p, t :: l => rightT t (ofN k p) && rightL k (p + 1) l
end

theorem rightL_all (k : Int) : ∀ (l : List Tm) (p : Nat), rightL k p l = allI (fun p t => rightT t (ofN k p)) p l := by
  intro l
  induction l with
  | nil => intro p; rw [rightL]; rfl
  | cons t l ih => intro p; rw [rightL, allI, ih]

theorem rightT_mk (k i j n : Int) (l : List Tm) (want : Int) : rightT (.mk k i j n l) want = (rightN k i j n want l.length && allI (fun p t => rightT t (ofN k p)) 0 l) := by rw [rightT, rightL_all]

theorem con_right (t : Tm) : TOk t → ∀ want, Con 96 [.agg true (tv t), .int .i64 want] (.bool (rightT t want)) := by
  induction t using Tm.ind with
  | h k i j n l ih =>
    intro hok want
    cases hok with
    | mk _ _ _ _ _ f1 f2 f3 f4 hb hl =>
    have h := con_right_rows k i j n want (l.map tv) (fun p r => onT (fun t => rightT t (ofN k p)) false r) (by simpa using hb) (rows5 l) (fun p r hr => by
      obtain ⟨t, ht, rfl⟩ := List.mem_map.1 hr
      simp only [onT_tv]
      exact ih t ht (hl t ht) _)
    rw [allI_map, List.length_map, allI_congr (g := fun p t => rightT t (ofN k p)) (fun p t _ => by rw [onT_tv]), ← rightT_mk, ← tv_mk] at h
    exact h

theorem con_plain (t : Tm) (ht : TOk t) : Con 117 [.agg true (tv t)] (.bool (rightT t 2)) := by
  refine contract_of_vc mixed Tryz.func117 tr117 ?_
  have hc := con_right t ht 2
  cases t with
  | mk k i j n l =>
  rw [tv_mk] at hc ⊢
  simp only [go_sem, reduceIte, reduceCtorEq, Nat.reduceAdd, Nat.reduceSub, Nat.reduceMul, Nat.reduceLT, Nat.reduceLeDiff, Nat.reduceEqDiff, Nat.reduceBEq, Nat.reduceGT, Int.reduceEq, Int.reduceNe, Int.reduceLT, Int.reduceLE, Int.reduceToNat, Int.reduceNeg, Int.reduceBEq, Int.reduceAdd, Int.reduceSub, Int.reduceGT, Int.reduceGE, Int.reduceBNe]
  refine callK_of hc ?_
  simp only [go_sem, reduceIte, reduceCtorEq, Nat.reduceAdd, Nat.reduceSub, Nat.reduceMul, Nat.reduceLT, Nat.reduceLeDiff, Nat.reduceEqDiff, Nat.reduceBEq, Nat.reduceGT, Int.reduceEq, Int.reduceNe, Int.reduceLT, Int.reduceLE, Int.reduceToNat, Int.reduceNeg, Int.reduceBEq, Int.reduceAdd, Int.reduceSub, Int.reduceGT, Int.reduceGE, Int.reduceBNe]

theorem con_rightq (t : Tm) (ht : TOk t) : Con 88 [.agg true (tv t)] (.bool (rightT t 0)) := by
  refine contract_of_vc mixed Tryz.func88 tr88 ?_
  have hc := con_right t ht 0
  cases t with
  | mk k i j n l =>
  rw [tv_mk] at hc ⊢
  simp only [go_sem, reduceIte, reduceCtorEq, Nat.reduceAdd, Nat.reduceSub, Nat.reduceMul, Nat.reduceLT, Nat.reduceLeDiff, Nat.reduceEqDiff, Nat.reduceBEq, Nat.reduceGT, Int.reduceEq, Int.reduceNe, Int.reduceLT, Int.reduceLE, Int.reduceToNat, Int.reduceNeg, Int.reduceBEq, Int.reduceAdd, Int.reduceSub, Int.reduceGT, Int.reduceGE, Int.reduceBNe]
  refine callK_of hc ?_
  simp only [go_sem, reduceIte, reduceCtorEq, Nat.reduceAdd, Nat.reduceSub, Nat.reduceMul, Nat.reduceLT, Nat.reduceLeDiff, Nat.reduceEqDiff, Nat.reduceBEq, Nat.reduceGT, Int.reduceEq, Int.reduceNe, Int.reduceLT, Int.reduceLE, Int.reduceToNat, Int.reduceNeg, Int.reduceBEq, Int.reduceAdd, Int.reduceSub, Int.reduceGT, Int.reduceGE, Int.reduceBNe]

/-! The page's -/
set_option maxRecDepth 10000 in
theorem con_rnums1 (k i j n : Int) (rows : List (List SV)) (h : k = 1 ∨ k = 10 ∨ k = 11 ∨ k = 12) : Con 98 [.agg true [.int .i64 k, .int .i64 i, .int .i64 j, .int .i64 n, .dsl 5 rows]] (.bool (lev i && ((j == 0) && (n == 0)))) := by
  refine contract_of_vc mixed Tryz.func98 tr98 ?_
  rcases h with rfl | rfl | rfl | rfl <;> simp only [go_sem, reduceIte, reduceCtorEq, Nat.reduceAdd, Nat.reduceSub, Nat.reduceMul, Nat.reduceLT, Nat.reduceLeDiff, Nat.reduceEqDiff, Nat.reduceBEq, Nat.reduceGT, Int.reduceEq, Int.reduceNe, Int.reduceLT, Int.reduceLE, Int.reduceToNat, Int.reduceNeg, Int.reduceBEq, Int.reduceAdd, Int.reduceSub, Int.reduceGT, Int.reduceGE, Int.reduceBNe] <;> refine callK_of (con_rlevel i) ?_ <;> (cases hL : lev i <;> cases hJ : (j == 0) <;> cases hN : (n == 0) <;> simp only [go_sem, reduceIte, reduceCtorEq, Nat.reduceAdd, Nat.reduceSub, Nat.reduceMul, Nat.reduceLT, Nat.reduceLeDiff, Nat.reduceEqDiff, Nat.reduceBEq, Nat.reduceGT, Int.reduceEq, Int.reduceNe, Int.reduceLT, Int.reduceLE, Int.reduceToNat, Int.reduceNeg, Int.reduceBEq, Int.reduceAdd, Int.reduceSub, Int.reduceGT, Int.reduceGE, Int.reduceBNe, hJ, hN])

set_option maxRecDepth 10000 in
theorem con_rnums2 (i j n : Int) (rows : List (List SV)) : Con 98 [.agg true [.int .i64 2, .int .i64 i, .int .i64 j, .int .i64 n, .dsl 5 rows]] (.bool (decide (0 ≤ i) && (decide (i ≤ 2147483647) && ((j == 0) && (n == 0))))) := by
  refine contract_of_vc mixed Tryz.func98 tr98 ?_
  by_cases h1 : 0 ≤ i <;> by_cases h2 : i ≤ 2147483647 <;> cases hJ : (j == 0) <;> cases hN : (n == 0) <;> simp only [go_sem, reduceIte, reduceCtorEq, Nat.reduceAdd, Nat.reduceSub, Nat.reduceMul, Nat.reduceLT, Nat.reduceLeDiff, Nat.reduceEqDiff, Nat.reduceBEq, Nat.reduceGT, Int.reduceEq, Int.reduceNe, Int.reduceLT, Int.reduceLE, Int.reduceToNat, Int.reduceNeg, Int.reduceBEq, Int.reduceAdd, Int.reduceSub, Int.reduceGT, Int.reduceGE, Int.reduceBNe, hJ, hN, h1, h2]

set_option maxRecDepth 10000 in
set_option maxHeartbeats 2000000 in
theorem con_rnums3 (k i j n : Int) (rows : List (List SV)) (h : k = 3 ∨ k = 4 ∨ k = 5 ∨ k = 6 ∨ k = 7 ∨ k = 8 ∨ k = 9) : Con 98 [.agg true [.int .i64 k, .int .i64 i, .int .i64 j, .int .i64 n, .dsl 5 rows]] (.bool (lev i && (lev j && (n == 0)))) := by
  refine contract_of_vc mixed Tryz.func98 tr98 ?_
  rcases h with rfl | rfl | rfl | rfl | rfl | rfl | rfl <;> simp only [go_sem, reduceIte, reduceCtorEq, Nat.reduceAdd, Nat.reduceSub, Nat.reduceMul, Nat.reduceLT, Nat.reduceLeDiff, Nat.reduceEqDiff, Nat.reduceBEq, Nat.reduceGT, Int.reduceEq, Int.reduceNe, Int.reduceLT, Int.reduceLE, Int.reduceToNat, Int.reduceNeg, Int.reduceBEq, Int.reduceAdd, Int.reduceSub, Int.reduceGT, Int.reduceGE, Int.reduceBNe] <;> refine callK_of (con_rlevel i) ?_ <;> (cases hL : lev i <;> simp only [go_sem, reduceIte, reduceCtorEq, Nat.reduceAdd, Nat.reduceSub, Nat.reduceMul, Nat.reduceLT, Nat.reduceLeDiff, Nat.reduceEqDiff, Nat.reduceBEq, Nat.reduceGT, Int.reduceEq, Int.reduceNe, Int.reduceLT, Int.reduceLE, Int.reduceToNat, Int.reduceNeg, Int.reduceBEq, Int.reduceAdd, Int.reduceSub, Int.reduceGT, Int.reduceGE, Int.reduceBNe]; refine callK_of (con_rlevel j) ?_; cases hJ : lev j <;> cases hN : (n == 0) <;> simp only [go_sem, reduceIte, reduceCtorEq, Nat.reduceAdd, Nat.reduceSub, Nat.reduceMul, Nat.reduceLT, Nat.reduceLeDiff, Nat.reduceEqDiff, Nat.reduceBEq, Nat.reduceGT, Int.reduceEq, Int.reduceNe, Int.reduceLT, Int.reduceLE, Int.reduceToNat, Int.reduceNeg, Int.reduceBEq, Int.reduceAdd, Int.reduceSub, Int.reduceGT, Int.reduceGE, Int.reduceBNe, hN])

set_option maxRecDepth 10000 in
theorem con_rnums23 (i j n : Int) (rows : List (List SV)) : Con 98 [.agg true [.int .i64 23, .int .i64 i, .int .i64 j, .int .i64 n, .dsl 5 rows]] (.bool (lev i && lev j)) := by
  refine contract_of_vc mixed Tryz.func98 tr98 ?_
  simp only [go_sem, reduceIte, reduceCtorEq, Nat.reduceAdd, Nat.reduceSub, Nat.reduceMul, Nat.reduceLT, Nat.reduceLeDiff, Nat.reduceEqDiff, Nat.reduceBEq, Nat.reduceGT, Int.reduceEq, Int.reduceNe, Int.reduceLT, Int.reduceLE, Int.reduceToNat, Int.reduceNeg, Int.reduceBEq, Int.reduceAdd, Int.reduceSub, Int.reduceGT, Int.reduceGE, Int.reduceBNe]
  refine callK_of (con_rlevel i) ?_
  cases hL : lev i
  · simp only [go_sem, reduceIte, reduceCtorEq, Nat.reduceAdd, Nat.reduceSub, Nat.reduceMul, Nat.reduceLT, Nat.reduceLeDiff, Nat.reduceEqDiff, Nat.reduceBEq, Nat.reduceGT, Int.reduceEq, Int.reduceNe, Int.reduceLT, Int.reduceLE, Int.reduceToNat, Int.reduceNeg, Int.reduceBEq, Int.reduceAdd, Int.reduceSub, Int.reduceGT, Int.reduceGE, Int.reduceBNe]
  · simp only [go_sem, reduceIte, reduceCtorEq, Nat.reduceAdd, Nat.reduceSub, Nat.reduceMul, Nat.reduceLT, Nat.reduceLeDiff, Nat.reduceEqDiff, Nat.reduceBEq, Nat.reduceGT, Int.reduceEq, Int.reduceNe, Int.reduceLT, Int.reduceLE, Int.reduceToNat, Int.reduceNeg, Int.reduceBEq, Int.reduceAdd, Int.reduceSub, Int.reduceGT, Int.reduceGE, Int.reduceBNe]
    refine callK_of (con_rlevel j) ?_
    simp only [go_sem, reduceIte, reduceCtorEq, Nat.reduceAdd, Nat.reduceSub, Nat.reduceMul, Nat.reduceLT, Nat.reduceLeDiff, Nat.reduceEqDiff, Nat.reduceBEq, Nat.reduceGT, Int.reduceEq, Int.reduceNe, Int.reduceLT, Int.reduceLE, Int.reduceToNat, Int.reduceNeg, Int.reduceBEq, Int.reduceAdd, Int.reduceSub, Int.reduceGT, Int.reduceGE, Int.reduceBNe]

set_option maxRecDepth 10000 in
theorem con_rnums0 (k i j n : Int) (rows : List (List SV)) (h : k < 1 ∨ (12 < k ∧ k ≠ 23)) : Con 98 [.agg true [.int .i64 k, .int .i64 i, .int .i64 j, .int .i64 n, .dsl 5 rows]] (.bool ((i == 0) && ((j == 0) && (n == 0)))) := by
  refine contract_of_vc mixed Tryz.func98 tr98 ?_
  simp only [go_sem, reduceIte, reduceCtorEq, Nat.reduceAdd, Nat.reduceSub, Nat.reduceMul, Nat.reduceLT, Nat.reduceLeDiff, Nat.reduceEqDiff, Nat.reduceBEq, Nat.reduceGT, Int.reduceEq, Int.reduceNe, Int.reduceLT, Int.reduceLE, Int.reduceToNat, Int.reduceNeg, Int.reduceBEq, Int.reduceAdd, Int.reduceSub, Int.reduceGT, Int.reduceGE, Int.reduceBNe, beq_no (show k ≠ 1 by omega), beq_no (show k ≠ 2 by omega), beq_no (show k ≠ 3 by omega), beq_no (show k ≠ 4 by omega), beq_no (show k ≠ 5 by omega), beq_no (show k ≠ 6 by omega), beq_no (show k ≠ 7 by omega), beq_no (show k ≠ 8 by omega), beq_no (show k ≠ 9 by omega), beq_no (show k ≠ 10 by omega), beq_no (show k ≠ 11 by omega), beq_no (show k ≠ 12 by omega), beq_no (show k ≠ 23 by omega)]
  cases hI : (i == 0) <;> cases hJ : (j == 0) <;> cases hN : (n == 0) <;> simp only [go_sem, reduceIte, reduceCtorEq, Nat.reduceAdd, Nat.reduceSub, Nat.reduceMul, Nat.reduceLT, Nat.reduceLeDiff, Nat.reduceEqDiff, Nat.reduceBEq, Nat.reduceGT, Int.reduceEq, Int.reduceNe, Int.reduceLT, Int.reduceLE, Int.reduceToNat, Int.reduceNeg, Int.reduceBEq, Int.reduceAdd, Int.reduceSub, Int.reduceGT, Int.reduceGE, Int.reduceBNe, hJ, hN]

theorem con_rnumbers (k i j n : Int) (rows : List (List SV)) : Con 98 [.agg true [.int .i64 k, .int .i64 i, .int .i64 j, .int .i64 n, .dsl 5 rows]] (.bool (numsB k i j n)) := by
  unfold numsB
  by_cases h1 : k = 1 ∨ k = 10 ∨ k = 11 ∨ k = 12
  · rw [if_pos h1]; exact con_rnums1 k i j n rows h1
  · rw [if_neg h1]
    by_cases h2 : k = 2
    · subst h2; rw [if_pos rfl]; exact con_rnums2 i j n rows
    · rw [if_neg h2]
      by_cases h3 : 3 ≤ k ∧ k ≤ 9
      · rw [if_pos h3]; exact con_rnums3 k i j n rows (by omega)
      · rw [if_neg h3]
        by_cases h4 : k = 23
        · subst h4; rw [if_pos rfl]; exact con_rnums23 i j n rows
        · rw [if_neg h4]; exact con_rnums0 k i j n rows (by omega)

def nodeB (k i j n : Int) (len : Nat) : Bool := ((len : Int) == kidsN k n) && numsB k i j n

theorem con_rnode (k i j n : Int) (rows : List (List SV)) : Con 59 [.agg true [.int .i64 k, .int .i64 i, .int .i64 j, .int .i64 n, .dsl 5 rows]] (.bool (nodeB k i j n rows.length)) := by
  refine contract_of_vc mixed Tryz.func59 tr59 ?_
  simp only [go_sem, reduceIte, reduceCtorEq, Nat.reduceAdd, Nat.reduceSub, Nat.reduceMul, Nat.reduceLT, Nat.reduceLeDiff, Nat.reduceEqDiff, Nat.reduceBEq, Nat.reduceGT, Int.reduceEq, Int.reduceNe, Int.reduceLT, Int.reduceLE, Int.reduceToNat, Int.reduceNeg, Int.reduceBEq, Int.reduceAdd, Int.reduceSub, Int.reduceGT, Int.reduceGE, Int.reduceBNe]
  refine callK_of (con_rkids k n) ?_
  unfold nodeB
  cases hK : ((rows.length : Int) == kidsN k n)
  · simp only [go_sem, reduceIte, reduceCtorEq, Nat.reduceAdd, Nat.reduceSub, Nat.reduceMul, Nat.reduceLT, Nat.reduceLeDiff, Nat.reduceEqDiff, Nat.reduceBEq, Nat.reduceGT, Int.reduceEq, Int.reduceNe, Int.reduceLT, Int.reduceLE, Int.reduceToNat, Int.reduceNeg, Int.reduceBEq, Int.reduceAdd, Int.reduceSub, Int.reduceGT, Int.reduceGE, Int.reduceBNe, hK]
  · simp only [go_sem, reduceIte, reduceCtorEq, Nat.reduceAdd, Nat.reduceSub, Nat.reduceMul, Nat.reduceLT, Nat.reduceLeDiff, Nat.reduceEqDiff, Nat.reduceBEq, Nat.reduceGT, Int.reduceEq, Int.reduceNe, Int.reduceLT, Int.reduceLE, Int.reduceToNat, Int.reduceNeg, Int.reduceBEq, Int.reduceAdd, Int.reduceSub, Int.reduceGT, Int.reduceGE, Int.reduceBNe, hK]
    refine callK_of (con_rnumbers k i j n rows) ?_
    simp only [go_sem, reduceIte, reduceCtorEq, Nat.reduceAdd, Nat.reduceSub, Nat.reduceMul, Nat.reduceLT, Nat.reduceLeDiff, Nat.reduceEqDiff, Nat.reduceBEq, Nat.reduceGT, Int.reduceEq, Int.reduceNe, Int.reduceLT, Int.reduceLE, Int.reduceToNat, Int.reduceNeg, Int.reduceBEq, Int.reduceAdd, Int.reduceSub, Int.reduceGT, Int.reduceGE, Int.reduceBNe]
end Go.Proofs.YtkldipbhenabfaaGreat.Abs

set_option linter.unusedSimpArgs false
set_option linter.unusedVariables false
namespace Go.Proofs.YtkldipbhenabfaaGreat.Abs
open Go Go.RowKit Go.Proofs.YtkldipbhenabfaaGreat

def rplainN (k i j n : Int) (len : Nat) : Bool := !((k != 1) && ((k != 2) && (decide (k < 13) || decide (k > 23)))) && nodeB k i j n len
def rmarkedN (k i j n : Int) (len : Nat) : Bool := !(decide (k < 1) || decide (k > 12)) && nodeB k i j n len

set_option maxRecDepth 10000 in
set_option maxHeartbeats 2000000 in
theorem con_rplain_rows (k i j n : Int) (rows : List (List SV)) (W : List SV → Bool) (h2 : rows.length * 56 ≤ 140737488355328) (h5 : ∀ r ∈ rows, r.length = 5)
    (H : ∀ r ∈ rows, Con 60 [.agg true r] (.bool (W r))) :
    Con 60 [.agg true [.int .i64 k, .int .i64 i, .int .i64 j, .int .i64 n, .dsl 5 rows]] (.bool (rplainN k i j n rows.length && rows.all W)) := by
  refine contract_of_vc mixed Tryz.func60 tr60 ?_
  simp only [go_sem, reduceIte, reduceCtorEq, Nat.reduceAdd, Nat.reduceSub, Nat.reduceMul, Nat.reduceLT, Nat.reduceLeDiff, Nat.reduceEqDiff, Nat.reduceBEq, Nat.reduceGT, Int.reduceEq, Int.reduceNe, Int.reduceLT, Int.reduceLE, Int.reduceToNat, Int.reduceNeg, Int.reduceBEq, Int.reduceAdd, Int.reduceSub, Int.reduceGT, Int.reduceGE, Int.reduceBNe]
  unfold rplainN
  have hend : ∀ b : Bool, b = ((k != 1) && ((k != 2) && (decide (k < 13) || decide (k > 23)))) → True := fun _ _ => trivial
  cases h1 : (k != 1) <;> cases h2' : (k != 2) <;> by_cases h3 : k < 13 <;> by_cases h4 : 23 < k <;> simp only [go_sem, reduceIte, reduceCtorEq, Nat.reduceAdd, Nat.reduceSub, Nat.reduceMul, Nat.reduceLT, Nat.reduceLeDiff, Nat.reduceEqDiff, Nat.reduceBEq, Nat.reduceGT, Int.reduceEq, Int.reduceNe, Int.reduceLT, Int.reduceLE, Int.reduceToNat, Int.reduceNeg, Int.reduceBEq, Int.reduceAdd, Int.reduceSub, Int.reduceGT, Int.reduceGE, Int.reduceBNe, h2', h3, h4]
  all_goals
    refine callK_of (con_rnode k i j n rows) ?_
    cases hN : nodeB k i j n rows.length <;> simp only [go_sem, reduceIte, reduceCtorEq, Nat.reduceAdd, Nat.reduceSub, Nat.reduceMul, Nat.reduceLT, Nat.reduceLeDiff, Nat.reduceEqDiff, Nat.reduceBEq, Nat.reduceGT, Int.reduceEq, Int.reduceNe, Int.reduceLT, Int.reduceLE, Int.reduceToNat, Int.reduceNeg, Int.reduceBEq, Int.reduceAdd, Int.reduceSub, Int.reduceGT, Int.reduceGE, Int.reduceBNe]
    refine vc_forp (fun x => ⟨(.junk :: .ref 0 0 0 0 :: .junk :: .int .i64 x :: .junk :: .junk :: .junk :: .junk :: .junk :: .junk :: .junk :: .junk :: .junk :: .junk :: .junk :: .junk :: .junk :: .junk :: .junk :: .junk :: .junk :: .junk :: .junk :: .junk :: .junk :: .junk :: .junk :: .junk :: .junk :: .junk :: .junk :: .junk :: .junk :: .junk :: .junk :: .junk :: .junk :: .junk :: .junk :: .junk :: .junk :: []),
        [⟨true, 5, [[.int .i64 k, .int .i64 i, .int .i64 j, .int .i64 n, .dsl 5 rows]], 0, 0, true⟩]⟩) rows.length (fun x => W (rows[x]?.getD []) = true) (fun x hx hp => ?_) ?_
    · simp only [go_sem, reduceIte, reduceCtorEq, Nat.reduceAdd, Nat.reduceSub, Nat.reduceMul, Nat.reduceLT, Nat.reduceLeDiff, Nat.reduceEqDiff, Nat.reduceBEq, Nat.reduceGT, Int.reduceEq, Int.reduceNe, Int.reduceLT, Int.reduceLE, Int.reduceToNat, Int.reduceNeg, Int.reduceBEq, Int.reduceAdd, Int.reduceSub, Int.reduceGT, Int.reduceGE, Int.reduceBNe]
      intro _
      refine ⟨fun h => ?_, fun h => ?_⟩
      · have hlt := of_decide_eq_true h
        have hlt' : x < rows.length := by omega
        have e0 : (0 : Int) ≤ (x : Int) := by omega
        have hm := get_lt (d := []) hlt'
        have h5' := h5 _ hm
        simp only [go_sem, reduceIte, reduceCtorEq, Nat.reduceAdd, Nat.reduceSub, Nat.reduceMul, Nat.reduceLT, Nat.reduceLeDiff, Nat.reduceEqDiff, Nat.reduceBEq, Nat.reduceGT, Int.reduceEq, Int.reduceNe, Int.reduceLT, Int.reduceLE, Int.reduceToNat, Int.reduceNeg, Int.reduceBEq, Int.reduceAdd, Int.reduceSub, Int.reduceGT, Int.reduceGE, Int.reduceBNe, hlt, e0, h5']
        refine callK_of (H _ hm) ?_
        cases hW : W (rows[x]?.getD []) <;> simp only [go_sem, reduceIte, reduceCtorEq, Nat.reduceAdd, Nat.reduceSub, Nat.reduceMul, Nat.reduceLT, Nat.reduceLeDiff, Nat.reduceEqDiff, Nat.reduceBEq, Nat.reduceGT, Int.reduceEq, Int.reduceNe, Int.reduceLT, Int.reduceLE, Int.reduceToNat, Int.reduceNeg, Int.reduceBEq, Int.reduceAdd, Int.reduceSub, Int.reduceGT, Int.reduceGE, Int.reduceBNe]
        · rw [all_no (d := []) (i := x) hlt' hW]
        · refine ⟨hlt', ?_⟩
          rw [w64 (n := (x : Int) + 1) (by unfold fit; omega)]
          exact wk_slots (by simp [slotsLe])
      · have hge := of_decide_eq_false h
        have hxe : x = rows.length := by omega
        simp only [go_sem, reduceIte, reduceCtorEq, Nat.reduceAdd, Nat.reduceSub, Nat.reduceMul, Nat.reduceLT, Nat.reduceLeDiff, Nat.reduceEqDiff, Nat.reduceBEq, Nat.reduceGT, Int.reduceEq, Int.reduceNe, Int.reduceLT, Int.reduceLE, Int.reduceToNat, Int.reduceNeg, Int.reduceBEq, Int.reduceAdd, Int.reduceSub, Int.reduceGT, Int.reduceGE, Int.reduceBNe, h]
        rw [all_of (d := []) (f := W) (fun j hj => hp j (by omega))]
    · exact wk_slots (by simp [slotsLe])

set_option maxRecDepth 10000 in
set_option maxHeartbeats 2000000 in
theorem con_rmarked_rows (k i j n : Int) (rows : List (List SV)) (W : Nat → List SV → Bool) (h2 : rows.length * 56 ≤ 140737488355328) (h5 : ∀ r ∈ rows, r.length = 5)
    (H1 : ∀ p : Nat, ∀ r ∈ rows, ((k == 12) && ((p : Int) == 2)) = true → Con 60 [.agg true r] (.bool (W p r)))
    (H2 : ∀ p : Nat, ∀ r ∈ rows, ((k == 12) && ((p : Int) == 2)) = false → Con 21 [.agg true r] (.bool (W p r))) :
    Con 21 [.agg true [.int .i64 k, .int .i64 i, .int .i64 j, .int .i64 n, .dsl 5 rows]] (.bool (rmarkedN k i j n rows.length && allI W 0 rows)) := by
  refine contract_of_vc mixed Tryz.func21 tr21 ?_
  simp only [go_sem, reduceIte, reduceCtorEq, Nat.reduceAdd, Nat.reduceSub, Nat.reduceMul, Nat.reduceLT, Nat.reduceLeDiff, Nat.reduceEqDiff, Nat.reduceBEq, Nat.reduceGT, Int.reduceEq, Int.reduceNe, Int.reduceLT, Int.reduceLE, Int.reduceToNat, Int.reduceNeg, Int.reduceBEq, Int.reduceAdd, Int.reduceSub, Int.reduceGT, Int.reduceGE, Int.reduceBNe]
  unfold rmarkedN
  by_cases h3 : k < 1 <;> by_cases h4 : 12 < k <;> simp only [go_sem, reduceIte, reduceCtorEq, Nat.reduceAdd, Nat.reduceSub, Nat.reduceMul, Nat.reduceLT, Nat.reduceLeDiff, Nat.reduceEqDiff, Nat.reduceBEq, Nat.reduceGT, Int.reduceEq, Int.reduceNe, Int.reduceLT, Int.reduceLE, Int.reduceToNat, Int.reduceNeg, Int.reduceBEq, Int.reduceAdd, Int.reduceSub, Int.reduceGT, Int.reduceGE, Int.reduceBNe, h3, h4]
  all_goals
    refine callK_of (con_rnode k i j n rows) ?_
    cases hN : nodeB k i j n rows.length <;> simp only [go_sem, reduceIte, reduceCtorEq, Nat.reduceAdd, Nat.reduceSub, Nat.reduceMul, Nat.reduceLT, Nat.reduceLeDiff, Nat.reduceEqDiff, Nat.reduceBEq, Nat.reduceGT, Int.reduceEq, Int.reduceNe, Int.reduceLT, Int.reduceLE, Int.reduceToNat, Int.reduceNeg, Int.reduceBEq, Int.reduceAdd, Int.reduceSub, Int.reduceGT, Int.reduceGE, Int.reduceBNe]
    refine vc_forp (fun x => ⟨(.junk :: .ref 0 0 0 0 :: .junk :: .int .i64 x :: .junk :: .junk :: .junk :: .junk :: .junk :: .junk :: .junk :: .junk :: .junk :: .junk :: .junk :: .junk :: .junk :: .junk :: .junk :: .junk :: .junk :: .junk :: .junk :: .junk :: .junk :: .junk :: .junk :: .junk :: .junk :: .junk :: .junk :: .junk :: .junk :: .junk :: .junk :: .junk :: .junk :: .junk :: .junk :: .junk :: .junk :: .junk :: .junk :: .junk :: .junk :: []),
        [⟨true, 5, [[.int .i64 k, .int .i64 i, .int .i64 j, .int .i64 n, .dsl 5 rows]], 0, 0, true⟩]⟩) rows.length (fun x => W x (rows[x]?.getD []) = true) (fun x hx hp => ?_) ?_
    · simp only [go_sem, reduceIte, reduceCtorEq, Nat.reduceAdd, Nat.reduceSub, Nat.reduceMul, Nat.reduceLT, Nat.reduceLeDiff, Nat.reduceEqDiff, Nat.reduceBEq, Nat.reduceGT, Int.reduceEq, Int.reduceNe, Int.reduceLT, Int.reduceLE, Int.reduceToNat, Int.reduceNeg, Int.reduceBEq, Int.reduceAdd, Int.reduceSub, Int.reduceGT, Int.reduceGE, Int.reduceBNe]
      intro _
      refine ⟨fun h => ?_, fun h => ?_⟩
      · have hlt := of_decide_eq_true h
        have hlt' : x < rows.length := by omega
        have e0 : (0 : Int) ≤ (x : Int) := by omega
        have hm := get_lt (d := []) hlt'
        have h5' := h5 _ hm
        have g1 := H1 x _ hm
        have g2 := H2 x _ hm
        cases h12 : (k == 12) <;> cases hx2 : ((x : Int) == 2) <;> simp only [go_sem, reduceIte, reduceCtorEq, Nat.reduceAdd, Nat.reduceSub, Nat.reduceMul, Nat.reduceLT, Nat.reduceLeDiff, Nat.reduceEqDiff, Nat.reduceBEq, Nat.reduceGT, Int.reduceEq, Int.reduceNe, Int.reduceLT, Int.reduceLE, Int.reduceToNat, Int.reduceNeg, Int.reduceBEq, Int.reduceAdd, Int.reduceSub, Int.reduceGT, Int.reduceGE, Int.reduceBNe, h12, hx2, hlt, e0, h5']
        all_goals
          simp only [h12, hx2, Bool.and_true, Bool.and_false, Bool.true_and, Bool.false_and, true_implies, reduceCtorEq, false_implies] at g1 g2
          first
            | refine callK_of g1 ?_
            | refine callK_of g2 ?_
          cases hW : W x (rows[x]?.getD []) <;> simp only [go_sem, reduceIte, reduceCtorEq, Nat.reduceAdd, Nat.reduceSub, Nat.reduceMul, Nat.reduceLT, Nat.reduceLeDiff, Nat.reduceEqDiff, Nat.reduceBEq, Nat.reduceGT, Int.reduceEq, Int.reduceNe, Int.reduceLT, Int.reduceLE, Int.reduceToNat, Int.reduceNeg, Int.reduceBEq, Int.reduceAdd, Int.reduceSub, Int.reduceGT, Int.reduceGE, Int.reduceBNe]
          · rw [allI_no (d := []) (i := x) hlt' (by rw [Nat.zero_add]; exact hW)]
          · refine ⟨hlt', ?_⟩
            rw [w64 (n := (x : Int) + 1) (by unfold fit; omega)]
            exact wk_slots (by simp [slotsLe])
      · have hge := of_decide_eq_false h
        have hxe : x = rows.length := by omega
        simp only [go_sem, reduceIte, reduceCtorEq, Nat.reduceAdd, Nat.reduceSub, Nat.reduceMul, Nat.reduceLT, Nat.reduceLeDiff, Nat.reduceEqDiff, Nat.reduceBEq, Nat.reduceGT, Int.reduceEq, Int.reduceNe, Int.reduceLT, Int.reduceLE, Int.reduceToNat, Int.reduceNeg, Int.reduceBEq, Int.reduceAdd, Int.reduceSub, Int.reduceGT, Int.reduceGE, Int.reduceBNe, h]
        rw [allI_of (d := []) (f := W) (fun j hj => by rw [Nat.zero_add]; exact hp j (by omega))]
    · exact wk_slots (by simp [slotsLe])
end Go.Proofs.YtkldipbhenabfaaGreat.Abs

set_option linter.unusedSimpArgs false
set_option linter.unusedVariables false
namespace Go.Proofs.YtkldipbhenabfaaGreat.Abs
open Go Go.RowKit Go.Proofs.YtkldipbhenabfaaGreat

abbrev plainT (t : Tm) : Bool := rightT t 2

theorem kids_none (k n : Int) (h : k ≤ 0 ∨ 23 < k) : kidsN k n = -1 := by
  unfold kidsN tab
  rw [if_neg (by omega), if_neg (by simp only [List.length_cons, List.length_nil]; omega)]

theorem len_none (k n : Int) (len : Nat) (h : k ≤ 0 ∨ 23 < k) : ((len : Int) == kidsN k n) = false := by
  rw [kids_none k n h]
  exact beq_no (by omega)

theorem rplainN_eq (k i j n : Int) (len : Nat) : rplainN k i j n len = rightN k i j n 2 len := by
  unfold rplainN rightN nodeB
  rw [show (!((len : Int) != kidsN k n)) = ((len : Int) == kidsN k n) by simp [bne]]
  by_cases h : k ≤ 0 ∨ 23 < k
  · rw [len_none k n len h]; simp
  · congr 1
    have hs : sortN k = if k = 1 ∨ k = 2 then 0 else if k ≤ 12 then 1 else 2 := rfl
    by_cases h1 : k = 1
    · subst h1; rfl
    · by_cases h2 : k = 2
      · subst h2; rfl
      · rw [hs, if_neg (by omega)]
        have e1 : (k != 1) = true := by simp [h1]
        have e2 : (k != 2) = true := by simp [h2]
        rw [e1, e2]
        have e4 : decide (k > 23) = false := by simp; omega
        rw [e4]
        by_cases h3 : k ≤ 12
        · rw [if_pos h3]
          have e3 : decide (k < 13) = true := by simp; omega
          rw [e3]; rfl
        · rw [if_neg h3]
          have e3 : decide (k < 13) = false := by simp; omega
          rw [e3]; rfl

theorem allI_all {α : Type} {f : α → Bool} : ∀ {l : List α} {p : Nat}, allI (fun _ x => f x) p l = l.all f := by
  intro l
  induction l with
  | nil => intro p; rfl
  | cons x l ih => intro p; simp only [allI, List.all_cons, ih]

theorem plain_kids (k i j n : Int) (l : List Tm) : rightT (.mk k i j n l) 2 = (rightN k i j n 2 l.length && l.all plainT) := by
  rw [rightT_mk]
  cases h : rightN k i j n 2 l.length
  · rfl
  · rw [Bool.true_and, Bool.true_and]
    unfold rightN at h
    simp only [Bool.and_eq_true, Bool.or_eq_true, Bool.not_eq_true', bne_eq_false_iff_eq] at h
    obtain ⟨h1, h2, _⟩ := h
    have hs : sortN k = if k = 1 ∨ k = 2 then 0 else if k ≤ 12 then 1 else 2 := rfl
    by_cases h12 : k = 1 ∨ k = 2
    · have : l = [] := by
        rcases h12 with rfl | rfl
        · exact List.length_eq_zero_iff.1 (by simpa [kidsN, tab] using h2)
        · exact List.length_eq_zero_iff.1 (by simpa [kidsN, tab] using h2)
      subst this; rfl
    · rw [if_neg h12] at hs
      have hk : sortN k = 2 := by
        rcases h1 with h1 | h1 | h1
        · omega
        · rw [hs] at h1; split at h1 <;> omega
        · exact h1
      have h13 : k ≠ 12 := by
        intro e; subst e; simp [sortN] at hk
      rw [allI_congr (g := fun _ t => plainT t) (fun p t _ => by unfold ofN; rw [if_neg (by omega), hk]), allI_all]

theorem con_rplain (t : Tm) : TOk t → Con 60 [.agg true (tv t)] (.bool (plainT t)) := by
  induction t using Tm.ind with
  | h k i j n l ih =>
    intro hok
    cases hok with
    | mk _ _ _ _ _ f1 f2 f3 f4 hb hl =>
    have h := con_rplain_rows k i j n (l.map tv) (onT plainT false) (by simpa using hb) (rows5 l) (fun r hr => by
      obtain ⟨t, ht, rfl⟩ := List.mem_map.1 hr
      rw [onT_tv]
      exact ih t ht (hl t ht))
    rw [List.length_map, rplainN_eq, List.all_map, ← tv_mk] at h
    have e : l.all (onT plainT false ∘ tv) = l.all plainT := by
      congr 1; funext t; simp [onT_tv]
    rw [e, ← plain_kids] at h
    exact h

abbrev plains (l : List Tm) : Bool := l.all plainT

theorem con_hplain_rows (rows : List (List SV)) (W : List SV → Bool) (h2 : rows.length * 56 ≤ 140737488355328) (h5 : ∀ r ∈ rows, r.length = 5)
    (H : ∀ r ∈ rows, Con 117 [.agg true r] (.bool (W r))) : Con 84 [.dsl 5 rows] (.bool (rows.all W)) := by
  refine contract_of_vc mixed Tryz.func84 tr84 ?_
  simp only [go_sem, reduceIte, reduceCtorEq, Nat.reduceAdd, Nat.reduceSub, Nat.reduceMul, Nat.reduceLT, Nat.reduceLeDiff, Nat.reduceEqDiff, Nat.reduceBEq, Nat.reduceGT, Int.reduceEq, Int.reduceNe, Int.reduceLT, Int.reduceLE, Int.reduceToNat, Int.reduceNeg, Int.reduceBEq, Int.reduceAdd, Int.reduceSub, Int.reduceGT, Int.reduceGE, Int.reduceBNe]
  intro _
  refine vc_forp (fun x => ⟨(.junk :: .junk :: .junk :: .junk :: .junk :: .dsl 5 rows :: .int .i64 rows.length :: .int .i64 x :: .junk :: .junk :: .junk :: .junk :: .junk :: .junk :: .junk :: []), []⟩) rows.length (fun x => W (rows[x]?.getD []) = true) (fun x hx hp => ?_) ?_
  · simp only [go_sem, reduceIte, reduceCtorEq, Nat.reduceAdd, Nat.reduceSub, Nat.reduceMul, Nat.reduceLT, Nat.reduceLeDiff, Nat.reduceEqDiff, Nat.reduceBEq, Nat.reduceGT, Int.reduceEq, Int.reduceNe, Int.reduceLT, Int.reduceLE, Int.reduceToNat, Int.reduceNeg, Int.reduceBEq, Int.reduceAdd, Int.reduceSub, Int.reduceGT, Int.reduceGE, Int.reduceBNe]
    refine ⟨fun h => ?_, fun h => ?_⟩
    · have hlt := of_decide_eq_true h
      have hlt' : x < rows.length := by omega
      have e0 : (0 : Int) ≤ (x : Int) := by omega
      have hm := get_lt (d := []) hlt'
      have h5' := h5 _ hm
      simp only [go_sem, reduceIte, reduceCtorEq, Nat.reduceAdd, Nat.reduceSub, Nat.reduceMul, Nat.reduceLT, Nat.reduceLeDiff, Nat.reduceEqDiff, Nat.reduceBEq, Nat.reduceGT, Int.reduceEq, Int.reduceNe, Int.reduceLT, Int.reduceLE, Int.reduceToNat, Int.reduceNeg, Int.reduceBEq, Int.reduceAdd, Int.reduceSub, Int.reduceGT, Int.reduceGE, Int.reduceBNe, hlt, e0, h5']
      refine callK_of (H _ hm) ?_
      cases hW : W (rows[x]?.getD []) <;> simp only [go_sem, reduceIte, reduceCtorEq, Nat.reduceAdd, Nat.reduceSub, Nat.reduceMul, Nat.reduceLT, Nat.reduceLeDiff, Nat.reduceEqDiff, Nat.reduceBEq, Nat.reduceGT, Int.reduceEq, Int.reduceNe, Int.reduceLT, Int.reduceLE, Int.reduceToNat, Int.reduceNeg, Int.reduceBEq, Int.reduceAdd, Int.reduceSub, Int.reduceGT, Int.reduceGE, Int.reduceBNe]
      · rw [all_no (d := []) (i := x) hlt' hW]
      · refine ⟨hlt', ?_⟩
        rw [w64 (n := (x : Int) + 1) (by unfold fit; omega)]
        exact wk_trunc 0 (by simp [slotsLe]) rfl (by simp [below]) (by simp)
    · have hge := of_decide_eq_false h
      have hxe : x = rows.length := by omega
      simp only [go_sem, reduceIte, reduceCtorEq, Nat.reduceAdd, Nat.reduceSub, Nat.reduceMul, Nat.reduceLT, Nat.reduceLeDiff, Nat.reduceEqDiff, Nat.reduceBEq, Nat.reduceGT, Int.reduceEq, Int.reduceNe, Int.reduceLT, Int.reduceLE, Int.reduceToNat, Int.reduceNeg, Int.reduceBEq, Int.reduceAdd, Int.reduceSub, Int.reduceGT, Int.reduceGE, Int.reduceBNe, h]
      rw [all_of (d := []) (f := W) (fun j hj => hp j (by omega))]
  · exact wk_slots (by simp [slotsLe])

theorem onT_all (l : List Tm) (f : Tm → Bool) : (l.map tv).all (onT f false) = l.all f := by
  rw [List.all_map]
  congr 1; funext t; simp [onT_tv]

theorem con_hplain (l : List Tm) (hl : ∀ t ∈ l, TOk t) (hb : l.length * 56 ≤ 140737488355328) : Con 84 [.dsl 5 (l.map tv)] (.bool (plains l)) := by
  have h := con_hplain_rows (l.map tv) (onT plainT false) (by simpa using hb) (rows5 l) (fun r hr => by
    obtain ⟨t, ht, rfl⟩ := List.mem_map.1 hr
    rw [onT_tv]; exact con_plain t (hl t ht))
  rwa [onT_all] at h

theorem take_next {α : Type} {l : List α} {i : Nat} {d : α} (h : i < l.length) : l.take i ++ [l[i]?.getD d] = l.take (i + 1) := by
  rw [List.take_add_one, List.getElem?_eq_getElem h]
  rfl

end Go.Proofs.YtkldipbhenabfaaGreat.Abs

