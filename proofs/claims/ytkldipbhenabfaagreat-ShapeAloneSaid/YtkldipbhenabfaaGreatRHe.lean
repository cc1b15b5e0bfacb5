/- Lifted terms: what lifting gives, as a function on terms; the program's and the page's. -/
import Derived.Test.YtkldipbhenabfaaGreatRHb
set_option linter.unusedSimpArgs false
set_option linter.unusedVariables false
set_option linter.unusedSimpArgs false
set_option linter.unusedVariables false
namespace Go.Proofs.YtkldipbhenabfaaGreat.Abs
open Go Go.RowKit Go.Proofs.YtkldipbhenabfaaGreat

mutual
def liftT (k : Int) : Int → Tm → Option Tm
  | fr, .mk kk i j n l =>
    if kk = 2 ∧ fr ≤ i then (if 2147483647 - i < k then none else (liftL k fr kk 0 l).map (Tm.mk kk (i + k) j n))
    else (liftL k fr kk 0 l).map (Tm.mk kk i j n)
def liftL (k : Int) : Int → Int → Nat → List Tm → Option (List Tm)
  | _, _, _, [] => some []
  | fr, kk, p, t :: l => match liftT k (fr + bindsN kk p) t with
    | none => none
    | some u => match liftL k fr kk (p + 1) l with
      | none => none
      | some r => some (u :: r)
end

def allS {α β : Type} (X : Nat → α → Option β) : Nat → List α → Option (List β)
  | _, [] => some []
  | p, x :: l => match X p x with
    | none => none
    | some u => match allS X (p + 1) l with
      | none => none
      | some r => some (u :: r)
theorem liftL_all (k fr kk : Int) : ∀ (l : List Tm) (p : Nat), liftL k fr kk p l = allS (fun p t => liftT k (fr + bindsN kk p) t) p l := by
  intro l
  induction l with
  | nil => intro p; rw [liftL]; rfl
  | cons t l ih =>
    intro p
    rw [liftL, allS, ih]
    cases liftT k (fr + bindsN kk p) t with
    | none => rfl
    | some u => cases allS (fun p t => liftT k (fr + bindsN kk ((p : Nat) : Int)) t) (p + 1) l <;> rfl

theorem allS_none {α β : Type} {X : Nat → α → Option β} {d : α} : ∀ {l : List α} {p i : Nat}, i < l.length → X (p + i) (l[i]?.getD d) = none → allS X p l = none := by
  intro l
  induction l with
  | nil => intro p i h; simp at h
  | cons x l ih =>
    intro p i hi h
    rw [allS]
    cases i with
    | zero => have h' : X p x = none := by simpa using h
              rw [h']
    | succ i =>
      rw [ih (p := p + 1) (i := i) (by simpa using hi) (by rw [show p + 1 + i = p + (i + 1) by omega]; simpa using h)]
      split <;> rfl
theorem allS_some {α β : Type} {X : Nat → α → Option β} {d : α} {e : β} : ∀ {l : List α} {p : Nat}, (∀ i, i < l.length → X (p + i) (l[i]?.getD d) ≠ none) → allS X p l = some ((List.range l.length).map fun i => (X (p + i) (l[i]?.getD d)).getD e) := by
  intro l
  induction l with
  | nil => intro p _; rfl
  | cons x l ih =>
    intro p h
    have h0 := h 0 (by simp)
    simp only [Nat.add_zero, List.getElem?_cons_zero, Option.getD_some] at h0
    have hr := ih (p := p + 1) (fun i hi => by
      have := h (i + 1) (by simp; omega)
      rw [show p + 1 + i = p + (i + 1) by omega]
      simpa using this)
    rw [allS]
    cases hx : X p x with
    | none => exact absurd hx h0
    | some u =>
      simp only [hr]
      rw [List.length_cons, List.range_succ_eq_map, List.map_cons, List.map_map]
      simp only [Nat.add_zero, List.getElem?_cons_zero, Option.getD_some, hx]
      congr 2
      apply List.map_congr_left
      intro i _
      simp only [Function.comp, List.getElem?_cons_succ]
      rw [show p + 1 + i = p + (i + 1) by omega]
theorem allS_map {α β γ : Type} {X : Nat → β → Option γ} {g : α → β} : ∀ {l : List α} {p : Nat}, allS X p (l.map g) = allS (fun i x => X i (g x)) p l := by
  intro l
  induction l with
  | nil => intro p; rfl
  | cons x l ih => intro p; simp only [List.map_cons, allS, ih]
theorem allS_congr {α β : Type} {X Y : Nat → α → Option β} : ∀ {l : List α} {p : Nat}, (∀ i, ∀ x ∈ l, X i x = Y i x) → allS X p l = allS Y p l := by
  intro l
  induction l with
  | nil => intro p _; rfl
  | cons x l ih =>
    intro p h
    simp only [allS]
    rw [h p x (by simp), ih (fun i y hy => h i y (by simp [hy]))]
theorem allS_post {α β γ : Type} {X : Nat → α → Option β} {g : β → γ} : ∀ {l : List α} {p : Nat}, allS (fun i x => (X i x).map g) p l = (allS X p l).map (List.map g) := by
  intro l
  induction l with
  | nil => intro p; rfl
  | cons x l ih =>
    intro p
    simp only [allS]
    cases X p x with
    | none => rfl
    | some u =>
      simp only [Option.map_some, ih]
      cases allS X (p + 1) l <;> rfl

def resR : Option (List SV) → SV
  | some r => .tup [.agg true r, .bool true]
  | none => .tup [.agg true (tv zT), .bool false]
theorem le_none : Le (.tup [.agg true [.int .i64 0, .int .i64 0, .int .i64 0, .int .i64 0, .nils], .bool false]) (resR none) := by
  refine .tup _ _ (.cons _ _ _ _ ?_ (.cons _ _ _ _ (.cell _ _ (.refl _)) .nil))
  have h := le_zT
  cases h with
  | val _ _ h => exact h
theorem le_leafT (k i j n : Int) : Le (.tup [.agg true [.int .i64 k, .int .i64 i, .int .i64 j, .int .i64 n, .nils], .bool true]) (resR (some [.int .i64 k, .int .i64 i, .int .i64 j, .int .i64 n, .dsl 5 []])) := by
  refine .tup _ _ (.cons _ _ _ _ ?_ (.cons _ _ _ _ (.cell _ _ (.refl _)) .nil))
  have h := le_leaf k i j n
  rw [tv_mk] at h
  cases h with
  | val _ _ h => exact h

def liftI (kk i k fr : Int) : Option Int := if kk = 2 ∧ fr ≤ i then (if 2147483647 - i < k then none else some (i + k)) else some i
def liftN (kk i j n k fr : Int) (r : Option (List (List SV))) : Option (List SV) :=
  (liftI kk i k fr).bind fun i' => r.map fun rs => [.int .i64 kk, .int .i64 i', .int .i64 j, .int .i64 n, .dsl 5 rs]

set_option maxRecDepth 20000 in
set_option maxHeartbeats 4000000 in
theorem con_blift_rows (kk i j n k fr : Int) (rows : List (List SV)) (X : Nat → List SV → Option (List SV)) (h2 : rows.length * 56 ≤ 140737488355328) (h5 : ∀ r ∈ rows, r.length = 5)
    (hi : kk = 2 → 0 ≤ i ∧ i ≤ 2147483647) (hk : 0 ≤ k) (hfr : 0 ≤ fr) (hfr2 : fr ≤ 1000000000000) (hX : ∀ p : Nat, ∀ r ∈ rows, ∀ u, X p r = some u → u.length = 5)
    (H : ∀ p : Nat, ∀ r ∈ rows, Con 33 [.agg true r, .int .i64 k, .int .i64 (fr + bindsN kk p)] (resR (X p r))) :
    Con 33 [.agg true [.int .i64 kk, .int .i64 i, .int .i64 j, .int .i64 n, .dsl 5 rows], .int .i64 k, .int .i64 fr] (resR (liftN kk i j n k fr (allS X 0 rows))) := by
  unfold liftN
  have main : ∀ i', liftI kk i k fr = some i' → Con 33 [.agg true [.int .i64 kk, .int .i64 i, .int .i64 j, .int .i64 n, .dsl 5 rows], .int .i64 k, .int .i64 fr] (resR ((allS X 0 rows).map fun rs => [.int .i64 kk, .int .i64 i', .int .i64 j, .int .i64 n, .dsl 5 rs])) := by
    intro i' hI
    unfold liftI at hI
    have hys : ((List.range rows.length).map fun p => (X p (rows[p]?.getD [])).getD []).length = rows.length := by simp
    have hyx : ∀ x, x < rows.length → ((List.range rows.length).map fun p => (X p (rows[p]?.getD [])).getD [])[x]?.getD [] = (X x (rows[x]?.getD [])).getD [] := fun x hx => by
      rw [List.getElem?_map, List.getElem?_range hx]; rfl
    have hend : (∀ x, x < rows.length → X x (rows[x]?.getD []) ≠ none) → allS X 0 rows = some ((List.range rows.length).map fun p => (X p (rows[p]?.getD [])).getD []) := fun h => by
      rw [allS_some (d := []) (e := []) (fun x hx => by rw [Nat.zero_add]; exact h x hx)]
      simp only [Nat.zero_add]
    generalize ((List.range rows.length).map fun p => (X p (rows[p]?.getD [])).getD []) = ys at *
    have hcase : (kk = 2 ∧ fr ≤ i ∧ IntKind.i64.wrap (2147483647 - i) = 2147483647 - i ∧ ¬ 2147483647 - i < k ∧ IntKind.i64.wrap (i + k) = i' ∧ (kk == 2) = true) ∨ (i' = i ∧ (kk == 2) = false) ∨ (i' = i ∧ (kk == 2) = true ∧ ¬ fr ≤ i) := by
      by_cases h1 : kk = 2
      · by_cases h2 : fr ≤ i
        · rw [if_pos ⟨h1, h2⟩] at hI
          obtain ⟨g1, g2⟩ := hi h1
          split at hI
          · cases hI
          · rename_i hlt
            cases hI
            exact .inl ⟨h1, h2, w64 (by unfold fit; omega), hlt, w64 (by unfold fit; omega), by simp [h1]⟩
        · rw [if_neg (fun h => h2 h.2)] at hI
          cases hI
          exact .inr (.inr ⟨rfl, by simp [h1], h2⟩)
      · rw [if_neg (fun h => h1 h.1)] at hI
        cases hI
        exact .inr (.inl ⟨rfl, by simp [h1]⟩)
    by_cases hz : rows = []
    · subst hz
      refine (contract_of_vc (r := .tup [.agg true [.int .i64 kk, .int .i64 i', .int .i64 j, .int .i64 n, .nils], .bool true]) mixed Tryz.func33 tr33 ?_).weaken (le_leafT _ _ _ _)
      rcases hcase with ⟨_, q1, q2, q3, q4, q5⟩ | ⟨rfl, q1⟩ | ⟨rfl, q1, q2⟩
      · simp only [go_sem, reduceIte, reduceCtorEq, Nat.reduceAdd, Nat.reduceSub, Nat.reduceMul, Nat.reduceLT, Nat.reduceLeDiff, Nat.reduceEqDiff, Nat.reduceBEq, Nat.reduceGT, Int.reduceEq, Int.reduceNe, Int.reduceLT, Int.reduceLE, Int.reduceToNat, Int.reduceNeg, Int.reduceBEq, Int.reduceAdd, Int.reduceSub, Int.reduceGT, Int.reduceGE, Int.reduceBNe, q1, q2, q3, q4, q5]
      · simp only [go_sem, reduceIte, reduceCtorEq, Nat.reduceAdd, Nat.reduceSub, Nat.reduceMul, Nat.reduceLT, Nat.reduceLeDiff, Nat.reduceEqDiff, Nat.reduceBEq, Nat.reduceGT, Int.reduceEq, Int.reduceNe, Int.reduceLT, Int.reduceLE, Int.reduceToNat, Int.reduceNeg, Int.reduceBEq, Int.reduceAdd, Int.reduceSub, Int.reduceGT, Int.reduceGE, Int.reduceBNe, q1]
      · simp only [go_sem, reduceIte, reduceCtorEq, Nat.reduceAdd, Nat.reduceSub, Nat.reduceMul, Nat.reduceLT, Nat.reduceLeDiff, Nat.reduceEqDiff, Nat.reduceBEq, Nat.reduceGT, Int.reduceEq, Int.reduceNe, Int.reduceLT, Int.reduceLE, Int.reduceToNat, Int.reduceNeg, Int.reduceBEq, Int.reduceAdd, Int.reduceSub, Int.reduceGT, Int.reduceGE, Int.reduceBNe, q1, q2]
    · have hz1 : ((rows.length : Int) == 0) = false := by
        have : rows.length ≠ 0 := fun h => hz (List.length_eq_zero_iff.1 h)
        simp; omega
      have hz2 : (rows.length : Int) * 56 ≤ 140737488355328 := by omega
      have hz3 : (rows.length : Int) ≤ 140737488355328 := by omega
      have hz4 : (0 : Int) ≤ (rows.length : Int) := by omega
      have core : ∀ r0, (allS X 0 rows = none → r0 = .tup [.agg true [.int .i64 0, .int .i64 0, .int .i64 0, .int .i64 0, .nils], .bool false]) →
          (∀ us, allS X 0 rows = some us → r0 = .tup [.agg true [.int .i64 kk, .int .i64 i', .int .i64 j, .int .i64 n, .dsl 5 us], .bool true]) →
          Con 33 [.agg true [.int .i64 kk, .int .i64 i, .int .i64 j, .int .i64 n, .dsl 5 rows], .int .i64 k, .int .i64 fr] r0 := by
        intro r0 hn hs
        refine contract_of_vc mixed Tryz.func33 tr33 ?_
        rcases hcase with ⟨_, q1, q2, q3, q4, q5⟩ | ⟨rfl, q1⟩ | ⟨rfl, q1, q2⟩
        · simp only [go_sem, reduceIte, reduceCtorEq, Nat.reduceAdd, Nat.reduceSub, Nat.reduceMul, Nat.reduceLT, Nat.reduceLeDiff, Nat.reduceEqDiff, Nat.reduceBEq, Nat.reduceGT, Int.reduceEq, Int.reduceNe, Int.reduceLT, Int.reduceLE, Int.reduceToNat, Int.reduceNeg, Int.reduceBEq, Int.reduceAdd, Int.reduceSub, Int.reduceGT, Int.reduceGE, Int.reduceBNe, q1, q2, q3, q4, q5, hz1, hz2, hz3, hz4, Int.le_refl]
          clear q1 q2 q3 q4 q5
          intros
          refine vc_forp (fun x => ⟨(.junk :: .int .i64 k :: .int .i64 fr :: .ref 0 0 0 0 :: .junk :: .junk :: .ref 1 0 0 0 :: .junk :: .osl 2 0 0 rows.length :: .junk :: .junk :: .junk :: .junk :: .junk :: .junk :: .junk :: .junk :: .junk :: .junk :: .junk :: .junk :: .junk :: .junk :: .junk :: .junk :: .junk :: .junk :: .junk :: .junk :: .junk :: .junk :: .junk :: .junk :: .junk :: .junk :: .junk :: .junk :: .junk :: .junk :: .junk :: .junk :: .junk :: .junk :: .junk :: .dsl 5 rows :: .int .i64 rows.length :: .int .i64 x :: .junk :: .junk :: .junk :: .junk :: .junk :: .junk :: .junk :: .junk :: .junk :: .junk :: .junk :: .junk :: .junk :: .junk :: .junk :: .junk :: .junk :: .junk :: .junk :: .junk :: .junk :: .junk :: .junk :: .junk :: .junk :: .junk :: .junk :: []),
            [⟨true, 5, [[.int .i64 kk, .int .i64 i', .int .i64 j, .int .i64 n, .dsl 5 rows]], 0, 0, true⟩, ⟨true, 5, [[.int .i64 0, .int .i64 0, .int .i64 0, .int .i64 0, .nils]], 0, 0, true⟩,
             ⟨false, 5, ys.take x ++ List.replicate (ys.length - x) [.int .i64 0, .int .i64 0, .int .i64 0, .int .i64 0, .nils], 0, 0, true⟩]⟩) rows.length (fun x => X x (rows[x]?.getD []) ≠ none) (fun x hx hp => ?_) ?_
          · simp only [go_sem, reduceIte, reduceCtorEq, Nat.reduceAdd, Nat.reduceSub, Nat.reduceMul, Nat.reduceLT, Nat.reduceLeDiff, Nat.reduceEqDiff, Nat.reduceBEq, Nat.reduceGT, Int.reduceEq, Int.reduceNe, Int.reduceLT, Int.reduceLE, Int.reduceToNat, Int.reduceNeg, Int.reduceBEq, Int.reduceAdd, Int.reduceSub, Int.reduceGT, Int.reduceGE, Int.reduceBNe]
            refine ⟨fun h => ?_, fun h => ?_⟩
            · have hlt := of_decide_eq_true h
              have hlt' : x < rows.length := by omega
              have e0 : (0 : Int) ≤ (x : Int) := by omega
              have hm := get_lt (d := []) hlt'
              have h5' := h5 _ hm
              have hb := binds_le kk x
              have ew : IntKind.i64.wrap (fr + bindsN kk x) = fr + bindsN kk x := w64 (by unfold fit; omega)
              have hc := H x _ hm
              simp only [go_sem, reduceIte, reduceCtorEq, Nat.reduceAdd, Nat.reduceSub, Nat.reduceMul, Nat.reduceLT, Nat.reduceLeDiff, Nat.reduceEqDiff, Nat.reduceBEq, Nat.reduceGT, Int.reduceEq, Int.reduceNe, Int.reduceLT, Int.reduceLE, Int.reduceToNat, Int.reduceNeg, Int.reduceBEq, Int.reduceAdd, Int.reduceSub, Int.reduceGT, Int.reduceGE, Int.reduceBNe, hlt, e0, h5']
              refine callK_of (con_binds kk x) ?_
              simp only [go_sem, reduceIte, reduceCtorEq, Nat.reduceAdd, Nat.reduceSub, Nat.reduceMul, Nat.reduceLT, Nat.reduceLeDiff, Nat.reduceEqDiff, Nat.reduceBEq, Nat.reduceGT, Int.reduceEq, Int.reduceNe, Int.reduceLT, Int.reduceLE, Int.reduceToNat, Int.reduceNeg, Int.reduceBEq, Int.reduceAdd, Int.reduceSub, Int.reduceGT, Int.reduceGE, Int.reduceBNe, ew]
              refine callK_of hc ?_
              cases hX1 : X x (rows[x]?.getD []) with
              | none =>
                have hz1 := tv_len zT
                simp only [go_sem, reduceIte, reduceCtorEq, Nat.reduceAdd, Nat.reduceSub, Nat.reduceMul, Nat.reduceLT, Nat.reduceLeDiff, Nat.reduceEqDiff, Nat.reduceBEq, Nat.reduceGT, Int.reduceEq, Int.reduceNe, Int.reduceLT, Int.reduceLE, Int.reduceToNat, Int.reduceNeg, Int.reduceBEq, Int.reduceAdd, Int.reduceSub, Int.reduceGT, Int.reduceGE, Int.reduceBNe, resR, hz1]
                exact hn (allS_none (d := []) (i := x) hlt' (by rw [Nat.zero_add]; exact hX1))
              | some u =>
                have hu := hX x _ hm u hX1
                have hy := hyx x hlt'
                rw [hX1, Option.getD_some] at hy
                simp only [go_sem, reduceIte, reduceCtorEq, Nat.reduceAdd, Nat.reduceSub, Nat.reduceMul, Nat.reduceLT, Nat.reduceLeDiff, Nat.reduceEqDiff, Nat.reduceBEq, Nat.reduceGT, Int.reduceEq, Int.reduceNe, Int.reduceLT, Int.reduceLE, Int.reduceToNat, Int.reduceNeg, Int.reduceBEq, Int.reduceAdd, Int.reduceSub, Int.reduceGT, Int.reduceGE, Int.reduceBNe, resR, hu, hlt', hys]
                have ts := take_set (l := ys) (z := [.int .i64 0, .int .i64 0, .int .i64 0, .int .i64 0, .nils]) (d := []) (i := x) (by omega)
                rw [hy, hys] at ts
                refine ⟨⟨e0, hlt⟩, by simp [hys]; omega, ?_⟩
                rw [w64 (n := (x : Int) + 1) (by unfold fit; omega), show (x : Int) + 1 = ((x + 1 : Nat) : Int) by omega]
                exact wk_trunc 3 (by simp [slotsLe]) (by simp only [List.take_succ_cons, List.take_zero, ts]) (by simp [below]) (by simp)
            · have hge := of_decide_eq_false h
              have hxe : x = rows.length := by omega
              have he := hend (fun y hy => hp y (by omega))
              subst hxe
              have ht : ys.take rows.length = ys := by rw [← hys, List.take_length]
              simp only [go_sem, reduceIte, reduceCtorEq, Nat.reduceAdd, Nat.reduceSub, Nat.reduceMul, Nat.reduceLT, Nat.reduceLeDiff, Nat.reduceEqDiff, Nat.reduceBEq, Nat.reduceGT, Int.reduceEq, Int.reduceNe, Int.reduceLT, Int.reduceLE, Int.reduceToNat, Int.reduceNeg, Int.reduceBEq, Int.reduceAdd, Int.reduceSub, Int.reduceGT, Int.reduceGE, Int.reduceBNe, h, hys, ht, Nat.sub_self, List.replicate_zero, List.append_nil]
              exact hs _ he
          · simp only [List.take_zero, List.nil_append, Nat.sub_zero, hys]
            exact wk_slots (by simp [slotsLe])
        · simp only [go_sem, reduceIte, reduceCtorEq, Nat.reduceAdd, Nat.reduceSub, Nat.reduceMul, Nat.reduceLT, Nat.reduceLeDiff, Nat.reduceEqDiff, Nat.reduceBEq, Nat.reduceGT, Int.reduceEq, Int.reduceNe, Int.reduceLT, Int.reduceLE, Int.reduceToNat, Int.reduceNeg, Int.reduceBEq, Int.reduceAdd, Int.reduceSub, Int.reduceGT, Int.reduceGE, Int.reduceBNe, q1, hz1, hz2, hz3, hz4, Int.le_refl]
          clear q1
          intros
          refine vc_forp (fun x => ⟨(.junk :: .int .i64 k :: .int .i64 fr :: .ref 0 0 0 0 :: .junk :: .junk :: .ref 1 0 0 0 :: .junk :: .osl 2 0 0 rows.length :: .junk :: .junk :: .junk :: .junk :: .junk :: .junk :: .junk :: .junk :: .junk :: .junk :: .junk :: .junk :: .junk :: .junk :: .junk :: .junk :: .junk :: .junk :: .junk :: .junk :: .junk :: .junk :: .junk :: .junk :: .junk :: .junk :: .junk :: .junk :: .junk :: .junk :: .junk :: .junk :: .junk :: .junk :: .junk :: .dsl 5 rows :: .int .i64 rows.length :: .int .i64 x :: .junk :: .junk :: .junk :: .junk :: .junk :: .junk :: .junk :: .junk :: .junk :: .junk :: .junk :: .junk :: .junk :: .junk :: .junk :: .junk :: .junk :: .junk :: .junk :: .junk :: .junk :: .junk :: .junk :: .junk :: .junk :: .junk :: .junk :: []),
            [⟨true, 5, [[.int .i64 kk, .int .i64 i', .int .i64 j, .int .i64 n, .dsl 5 rows]], 0, 0, true⟩, ⟨true, 5, [[.int .i64 0, .int .i64 0, .int .i64 0, .int .i64 0, .nils]], 0, 0, true⟩,
             ⟨false, 5, ys.take x ++ List.replicate (ys.length - x) [.int .i64 0, .int .i64 0, .int .i64 0, .int .i64 0, .nils], 0, 0, true⟩]⟩) rows.length (fun x => X x (rows[x]?.getD []) ≠ none) (fun x hx hp => ?_) ?_
          · simp only [go_sem, reduceIte, reduceCtorEq, Nat.reduceAdd, Nat.reduceSub, Nat.reduceMul, Nat.reduceLT, Nat.reduceLeDiff, Nat.reduceEqDiff, Nat.reduceBEq, Nat.reduceGT, Int.reduceEq, Int.reduceNe, Int.reduceLT, Int.reduceLE, Int.reduceToNat, Int.reduceNeg, Int.reduceBEq, Int.reduceAdd, Int.reduceSub, Int.reduceGT, Int.reduceGE, Int.reduceBNe]
            refine ⟨fun h => ?_, fun h => ?_⟩
            · have hlt := of_decide_eq_true h
              have hlt' : x < rows.length := by omega
              have e0 : (0 : Int) ≤ (x : Int) := by omega
              have hm := get_lt (d := []) hlt'
              have h5' := h5 _ hm
              have hb := binds_le kk x
              have ew : IntKind.i64.wrap (fr + bindsN kk x) = fr + bindsN kk x := w64 (by unfold fit; omega)
              have hc := H x _ hm
              simp only [go_sem, reduceIte, reduceCtorEq, Nat.reduceAdd, Nat.reduceSub, Nat.reduceMul, Nat.reduceLT, Nat.reduceLeDiff, Nat.reduceEqDiff, Nat.reduceBEq, Nat.reduceGT, Int.reduceEq, Int.reduceNe, Int.reduceLT, Int.reduceLE, Int.reduceToNat, Int.reduceNeg, Int.reduceBEq, Int.reduceAdd, Int.reduceSub, Int.reduceGT, Int.reduceGE, Int.reduceBNe, hlt, e0, h5']
              refine callK_of (con_binds kk x) ?_
              simp only [go_sem, reduceIte, reduceCtorEq, Nat.reduceAdd, Nat.reduceSub, Nat.reduceMul, Nat.reduceLT, Nat.reduceLeDiff, Nat.reduceEqDiff, Nat.reduceBEq, Nat.reduceGT, Int.reduceEq, Int.reduceNe, Int.reduceLT, Int.reduceLE, Int.reduceToNat, Int.reduceNeg, Int.reduceBEq, Int.reduceAdd, Int.reduceSub, Int.reduceGT, Int.reduceGE, Int.reduceBNe, ew]
              refine callK_of hc ?_
              cases hX1 : X x (rows[x]?.getD []) with
              | none =>
                have hz1 := tv_len zT
                simp only [go_sem, reduceIte, reduceCtorEq, Nat.reduceAdd, Nat.reduceSub, Nat.reduceMul, Nat.reduceLT, Nat.reduceLeDiff, Nat.reduceEqDiff, Nat.reduceBEq, Nat.reduceGT, Int.reduceEq, Int.reduceNe, Int.reduceLT, Int.reduceLE, Int.reduceToNat, Int.reduceNeg, Int.reduceBEq, Int.reduceAdd, Int.reduceSub, Int.reduceGT, Int.reduceGE, Int.reduceBNe, resR, hz1]
                exact hn (allS_none (d := []) (i := x) hlt' (by rw [Nat.zero_add]; exact hX1))
              | some u =>
                have hu := hX x _ hm u hX1
                have hy := hyx x hlt'
                rw [hX1, Option.getD_some] at hy
                simp only [go_sem, reduceIte, reduceCtorEq, Nat.reduceAdd, Nat.reduceSub, Nat.reduceMul, Nat.reduceLT, Nat.reduceLeDiff, Nat.reduceEqDiff, Nat.reduceBEq, Nat.reduceGT, Int.reduceEq, Int.reduceNe, Int.reduceLT, Int.reduceLE, Int.reduceToNat, Int.reduceNeg, Int.reduceBEq, Int.reduceAdd, Int.reduceSub, Int.reduceGT, Int.reduceGE, Int.reduceBNe, resR, hu, hlt', hys]
                have ts := take_set (l := ys) (z := [.int .i64 0, .int .i64 0, .int .i64 0, .int .i64 0, .nils]) (d := []) (i := x) (by omega)
                rw [hy, hys] at ts
                refine ⟨⟨e0, hlt⟩, by simp [hys]; omega, ?_⟩
                rw [w64 (n := (x : Int) + 1) (by unfold fit; omega), show (x : Int) + 1 = ((x + 1 : Nat) : Int) by omega]
                exact wk_trunc 3 (by simp [slotsLe]) (by simp only [List.take_succ_cons, List.take_zero, ts]) (by simp [below]) (by simp)
            · have hge := of_decide_eq_false h
              have hxe : x = rows.length := by omega
              have he := hend (fun y hy => hp y (by omega))
              subst hxe
              have ht : ys.take rows.length = ys := by rw [← hys, List.take_length]
              simp only [go_sem, reduceIte, reduceCtorEq, Nat.reduceAdd, Nat.reduceSub, Nat.reduceMul, Nat.reduceLT, Nat.reduceLeDiff, Nat.reduceEqDiff, Nat.reduceBEq, Nat.reduceGT, Int.reduceEq, Int.reduceNe, Int.reduceLT, Int.reduceLE, Int.reduceToNat, Int.reduceNeg, Int.reduceBEq, Int.reduceAdd, Int.reduceSub, Int.reduceGT, Int.reduceGE, Int.reduceBNe, h, hys, ht, Nat.sub_self, List.replicate_zero, List.append_nil]
              exact hs _ he
          · simp only [List.take_zero, List.nil_append, Nat.sub_zero, hys]
            exact wk_slots (by simp [slotsLe])
        · simp only [go_sem, reduceIte, reduceCtorEq, Nat.reduceAdd, Nat.reduceSub, Nat.reduceMul, Nat.reduceLT, Nat.reduceLeDiff, Nat.reduceEqDiff, Nat.reduceBEq, Nat.reduceGT, Int.reduceEq, Int.reduceNe, Int.reduceLT, Int.reduceLE, Int.reduceToNat, Int.reduceNeg, Int.reduceBEq, Int.reduceAdd, Int.reduceSub, Int.reduceGT, Int.reduceGE, Int.reduceBNe, q1, q2, hz1, hz2, hz3, hz4, Int.le_refl]
          clear q1 q2
          intros
          refine vc_forp (fun x => ⟨(.junk :: .int .i64 k :: .int .i64 fr :: .ref 0 0 0 0 :: .junk :: .junk :: .ref 1 0 0 0 :: .junk :: .osl 2 0 0 rows.length :: .junk :: .junk :: .junk :: .junk :: .junk :: .junk :: .junk :: .junk :: .junk :: .junk :: .junk :: .junk :: .junk :: .junk :: .junk :: .junk :: .junk :: .junk :: .junk :: .junk :: .junk :: .junk :: .junk :: .junk :: .junk :: .junk :: .junk :: .junk :: .junk :: .junk :: .junk :: .junk :: .junk :: .junk :: .junk :: .dsl 5 rows :: .int .i64 rows.length :: .int .i64 x :: .junk :: .junk :: .junk :: .junk :: .junk :: .junk :: .junk :: .junk :: .junk :: .junk :: .junk :: .junk :: .junk :: .junk :: .junk :: .junk :: .junk :: .junk :: .junk :: .junk :: .junk :: .junk :: .junk :: .junk :: .junk :: .junk :: .junk :: []),
            [⟨true, 5, [[.int .i64 kk, .int .i64 i', .int .i64 j, .int .i64 n, .dsl 5 rows]], 0, 0, true⟩, ⟨true, 5, [[.int .i64 0, .int .i64 0, .int .i64 0, .int .i64 0, .nils]], 0, 0, true⟩,
             ⟨false, 5, ys.take x ++ List.replicate (ys.length - x) [.int .i64 0, .int .i64 0, .int .i64 0, .int .i64 0, .nils], 0, 0, true⟩]⟩) rows.length (fun x => X x (rows[x]?.getD []) ≠ none) (fun x hx hp => ?_) ?_
          · simp only [go_sem, reduceIte, reduceCtorEq, Nat.reduceAdd, Nat.reduceSub, Nat.reduceMul, Nat.reduceLT, Nat.reduceLeDiff, Nat.reduceEqDiff, Nat.reduceBEq, Nat.reduceGT, Int.reduceEq, Int.reduceNe, Int.reduceLT, Int.reduceLE, Int.reduceToNat, Int.reduceNeg, Int.reduceBEq, Int.reduceAdd, Int.reduceSub, Int.reduceGT, Int.reduceGE, Int.reduceBNe]
            refine ⟨fun h => ?_, fun h => ?_⟩
            · have hlt := of_decide_eq_true h
              have hlt' : x < rows.length := by omega
              have e0 : (0 : Int) ≤ (x : Int) := by omega
              have hm := get_lt (d := []) hlt'
              have h5' := h5 _ hm
              have hb := binds_le kk x
              have ew : IntKind.i64.wrap (fr + bindsN kk x) = fr + bindsN kk x := w64 (by unfold fit; omega)
              have hc := H x _ hm
              simp only [go_sem, reduceIte, reduceCtorEq, Nat.reduceAdd, Nat.reduceSub, Nat.reduceMul, Nat.reduceLT, Nat.reduceLeDiff, Nat.reduceEqDiff, Nat.reduceBEq, Nat.reduceGT, Int.reduceEq, Int.reduceNe, Int.reduceLT, Int.reduceLE, Int.reduceToNat, Int.reduceNeg, Int.reduceBEq, Int.reduceAdd, Int.reduceSub, Int.reduceGT, Int.reduceGE, Int.reduceBNe, hlt, e0, h5']
              refine callK_of (con_binds kk x) ?_
              simp only [go_sem, reduceIte, reduceCtorEq, Nat.reduceAdd, Nat.reduceSub, Nat.reduceMul, Nat.reduceLT, Nat.reduceLeDiff, Nat.reduceEqDiff, Nat.reduceBEq, Nat.reduceGT, Int.reduceEq, Int.reduceNe, Int.reduceLT, Int.reduceLE, Int.reduceToNat, Int.reduceNeg, Int.reduceBEq, Int.reduceAdd, Int.reduceSub, Int.reduceGT, Int.reduceGE, Int.reduceBNe, ew]
              refine callK_of hc ?_
              cases hX1 : X x (rows[x]?.getD []) with
              | none =>
                have hz1 := tv_len zT
                simp only [go_sem, reduceIte, reduceCtorEq, Nat.reduceAdd, Nat.reduceSub, Nat.reduceMul, Nat.reduceLT, Nat.reduceLeDiff, Nat.reduceEqDiff, Nat.reduceBEq, Nat.reduceGT, Int.reduceEq, Int.reduceNe, Int.reduceLT, Int.reduceLE, Int.reduceToNat, Int.reduceNeg, Int.reduceBEq, Int.reduceAdd, Int.reduceSub, Int.reduceGT, Int.reduceGE, Int.reduceBNe, resR, hz1]
                exact hn (allS_none (d := []) (i := x) hlt' (by rw [Nat.zero_add]; exact hX1))
              | some u =>
                have hu := hX x _ hm u hX1
                have hy := hyx x hlt'
                rw [hX1, Option.getD_some] at hy
                simp only [go_sem, reduceIte, reduceCtorEq, Nat.reduceAdd, Nat.reduceSub, Nat.reduceMul, Nat.reduceLT, Nat.reduceLeDiff, Nat.reduceEqDiff, Nat.reduceBEq, Nat.reduceGT, Int.reduceEq, Int.reduceNe, Int.reduceLT, Int.reduceLE, Int.reduceToNat, Int.reduceNeg, Int.reduceBEq, Int.reduceAdd, Int.reduceSub, Int.reduceGT, Int.reduceGE, Int.reduceBNe, resR, hu, hlt', hys]
                have ts := take_set (l := ys) (z := [.int .i64 0, .int .i64 0, .int .i64 0, .int .i64 0, .nils]) (d := []) (i := x) (by omega)
                rw [hy, hys] at ts
                refine ⟨⟨e0, hlt⟩, by simp [hys]; omega, ?_⟩
                rw [w64 (n := (x : Int) + 1) (by unfold fit; omega), show (x : Int) + 1 = ((x + 1 : Nat) : Int) by omega]
                exact wk_trunc 3 (by simp [slotsLe]) (by simp only [List.take_succ_cons, List.take_zero, ts]) (by simp [below]) (by simp)
            · have hge := of_decide_eq_false h
              have hxe : x = rows.length := by omega
              have he := hend (fun y hy => hp y (by omega))
              subst hxe
              have ht : ys.take rows.length = ys := by rw [← hys, List.take_length]
              simp only [go_sem, reduceIte, reduceCtorEq, Nat.reduceAdd, Nat.reduceSub, Nat.reduceMul, Nat.reduceLT, Nat.reduceLeDiff, Nat.reduceEqDiff, Nat.reduceBEq, Nat.reduceGT, Int.reduceEq, Int.reduceNe, Int.reduceLT, Int.reduceLE, Int.reduceToNat, Int.reduceNeg, Int.reduceBEq, Int.reduceAdd, Int.reduceSub, Int.reduceGT, Int.reduceGE, Int.reduceBNe, h, hys, ht, Nat.sub_self, List.replicate_zero, List.append_nil]
              exact hs _ he
          · simp only [List.take_zero, List.nil_append, Nat.sub_zero, hys]
            exact wk_slots (by simp [slotsLe])
      cases hA : allS X 0 rows with
      | none =>
        refine (core _ (fun _ => rfl) (fun us h => ?_)).weaken le_none
        rw [hA] at h
        cases h
      | some us =>
        refine core _ (fun h => ?_) (fun us' h => ?_)
        · rw [hA] at h
          cases h
        · rw [hA] at h
          cases h
          rfl
  cases hI : liftI kk i k fr with
  | some i' => exact main i' hI
  | none =>
    simp only [Option.bind_none]
    unfold liftI at hI
    split at hI
    rotate_left
    · cases hI
    rename_i hc
    obtain ⟨rfl, hle⟩ := hc
    split at hI
    rotate_left
    · cases hI
    rename_i hlt
    obtain ⟨g1, g2⟩ := hi rfl
    refine (contract_of_vc (r := .tup [.agg true [.int .i64 0, .int .i64 0, .int .i64 0, .int .i64 0, .nils], .bool false]) mixed Tryz.func33 tr33 ?_).weaken le_none
    have ew : IntKind.i64.wrap (2147483647 - i) = 2147483647 - i := w64 (by unfold fit; omega)
    simp only [go_sem, reduceIte, reduceCtorEq, Nat.reduceAdd, Nat.reduceSub, Nat.reduceMul, Nat.reduceLT, Nat.reduceLeDiff, Nat.reduceEqDiff, Nat.reduceBEq, Nat.reduceGT, Int.reduceEq, Int.reduceNe, Int.reduceLT, Int.reduceLE, Int.reduceToNat, Int.reduceNeg, Int.reduceBEq, Int.reduceAdd, Int.reduceSub, Int.reduceGT, Int.reduceGE, Int.reduceBNe, hle, ew, hlt]
end Go.Proofs.YtkldipbhenabfaaGreat.Abs

set_option linter.unusedSimpArgs false
set_option linter.unusedVariables false
set_option linter.unusedSimpArgs false
set_option linter.unusedVariables false
namespace Go.Proofs.YtkldipbhenabfaaGreat.Abs
open Go Go.RowKit Go.Proofs.YtkldipbhenabfaaGreat

end Go.Proofs.YtkldipbhenabfaaGreat.Abs

set_option linter.unusedSimpArgs false
set_option linter.unusedVariables false
set_option linter.unusedSimpArgs false
set_option linter.unusedVariables false
namespace Go.Proofs.YtkldipbhenabfaaGreat.Abs
open Go Go.RowKit Go.Proofs.YtkldipbhenabfaaGreat

theorem allI_mem {α : Type} {f : Nat → α → Bool} {x : α} : ∀ {l : List α} {p : Nat}, allI f p l = true → x ∈ l → ∃ q, f q x = true := by
  intro l
  induction l with
  | nil => intro p _ h; cases h
  | cons y l ih =>
    intro p h hx
    rw [allI, Bool.and_eq_true] at h
    rcases List.mem_cons.1 hx with rfl | hx
    · exact ⟨p, h.1⟩
    · exact ih h.2 hx
theorem right_kid {k i j n w : Int} {l : List Tm} {t : Tm} (h : rightT (.mk k i j n l) w = true) (ht : t ∈ l) : ∃ w', rightT t w' = true := by
  rw [rightT_mk, Bool.and_eq_true] at h
  obtain ⟨q, hq⟩ := allI_mem h.2 ht
  exact ⟨_, hq⟩
theorem right_var {k i j n w : Int} {l : List Tm} (h : rightT (.mk k i j n l) w = true) (hk : k = 2) : 0 ≤ i ∧ i ≤ 2147483647 := by
  rw [rightT_mk, Bool.and_eq_true] at h
  have h1 := h.1
  unfold rightN at h1
  rw [Bool.and_eq_true, Bool.and_eq_true] at h1
  have h2 := h1.2.2
  unfold numsB at h2
  rw [if_neg (by omega), if_pos hk] at h2
  simp only [Bool.and_eq_true, decide_eq_true_eq] at h2
  exact ⟨h2.1, h2.2.1⟩

theorem liftT_mk (kk i j n k fr : Int) (l : List Tm) : liftT k fr (.mk kk i j n l) = (liftI kk i k fr).bind fun i' => (allS (fun p t => liftT k (fr + bindsN kk p) t) 0 l).map (Tm.mk kk i' j n) := by
  rw [liftT, liftL_all]
  unfold liftI
  split
  · split <;> rfl
  · rfl
theorem liftT_v (kk i j n k fr : Int) (l : List Tm) : liftN kk i j n k fr (allS (fun p r => onT (fun t => (liftT k (fr + bindsN kk (p : Nat)) t).map tv) none r) 0 (l.map tv)) = (liftT k fr (.mk kk i j n l)).map tv := by
  rw [allS_map, allS_congr (Y := fun p t => (liftT k (fr + bindsN kk (p : Nat)) t).map tv) (fun p t _ => by rw [onT_tv]), allS_post, liftT_mk]
  unfold liftN
  cases liftI kk i k fr with
  | none => rfl
  | some i' =>
    simp only [Option.bind_some, Option.map_map]
    congr 1
    funext rs
    simp only [Function.comp, tv_mk]

theorem con_blift (k : Int) (hk : 0 ≤ k) (t : Tm) : TOk t → ∀ (w fr : Int), rightT t w = true → 0 ≤ fr → fr + 2 * hgtT t ≤ 1000000000000 →
    Con 33 [.agg true (tv t), .int .i64 k, .int .i64 fr] (resR ((liftT k fr t).map tv)) := by
  induction t using Tm.ind with
  | h kk i j n l ih =>
    intro hok w fr hr hf hb2
    cases hok with
    | mk _ _ _ _ _ f1 f2 f3 f4 hb hl =>
    rw [hgtT_mk] at hb2
    have h := con_blift_rows kk i j n k fr (l.map tv) (fun p r => onT (fun t => (liftT k (fr + bindsN kk (p : Nat)) t).map tv) none r) (by simpa using hb) (rows5 l) (right_var hr) hk hf (by omega)
      (fun p r hr u hu => by
        obtain ⟨t, ht, rfl⟩ := List.mem_map.1 hr
        simp only [onT_tv] at hu
        cases he : liftT k (fr + bindsN kk (p : Nat)) t with
        | none => rw [he] at hu; cases hu
        | some v => rw [he] at hu; cases hu; exact tv_len v)
      (fun p r hr' => by
        obtain ⟨t, ht, rfl⟩ := List.mem_map.1 hr'
        simp only [onT_tv]
        obtain ⟨w', hw⟩ := right_kid hr ht
        have hm := hgt_mem ht
        have hbl := binds_le kk p
        exact ih t ht (hl t ht) w' _ hw (by omega) (by omega))
    rw [liftT_v, ← tv_mk] at h
    exact h
theorem allS_len {α β : Type} {X : Nat → α → Option β} : ∀ {l : List α} {p : Nat} {r : List β}, allS X p l = some r → r.length = l.length := by
  intro l
  induction l with
  | nil => intro p r h; cases h; rfl
  | cons x l ih =>
    intro p r h
    rw [allS] at h
    split at h
    · cases h
    · split at h
      · cases h
      · rename_i hr; cases h; rw [List.length_cons, List.length_cons, ih hr]
theorem allS_allI {α β : Type} {X : Nat → α → Option β} {f : Nat → α → Bool} {g : Nat → β → Bool} : ∀ {l : List α} {p : Nat} {r : List β}, allS X p l = some r → (∀ q, ∀ x ∈ l, ∀ u, X q x = some u → f q x = true → g q u = true) → allI f p l = true → allI g p r = true := by
  intro l
  induction l with
  | nil => intro p r h _ _; cases h; rfl
  | cons x l ih =>
    intro p r h hf ha
    rw [allI, Bool.and_eq_true] at ha
    rw [allS] at h
    split at h
    · cases h
    · rename_i u hu
      split at h
      · cases h
      · rename_i r' hr
        cases h
        rw [allI, hf p x (by simp) u hu ha.1, ih hr (fun q y hy => hf q y (by simp [hy])) ha.2]
        rfl
theorem lift_right (k : Int) (hk : 0 ≤ k) (t : Tm) : ∀ w fr u, rightT t w = true → liftT k fr t = some u → rightT u w = true := by
  induction t using Tm.ind with
  | h kk i j n l ih =>
    intro w fr u hr hu
    have hv := right_var hr
    rw [liftT_mk] at hu
    rw [rightT_mk, Bool.and_eq_true] at hr
    cases hI : liftI kk i k fr with
    | none => rw [hI] at hu; cases hu
    | some i' =>
      rw [hI, Option.bind_some] at hu
      cases hA : allS (fun p t => liftT k (fr + bindsN kk p) t) 0 l with
      | none => rw [hA] at hu; cases hu
      | some us =>
        rw [hA] at hu
        cases hu
        rw [rightT_mk, allS_len hA, Bool.and_eq_true]
        refine ⟨?_, allS_allI hA (fun q x hx u hu hf => ih x hx _ _ _ hf hu) hr.2⟩
        unfold liftI at hI
        split at hI
        · rename_i hc
          split at hI
          · cases hI
          · rename_i hlt
            cases hI
            obtain ⟨h1, h2⟩ := hv hc.1
            have h3 := hr.1
            unfold rightN at h3 ⊢
            rw [Bool.and_eq_true, Bool.and_eq_true] at h3 ⊢
            refine ⟨h3.1, h3.2.1, ?_⟩
            have h4 := h3.2.2
            unfold numsB at h4 ⊢
            rw [if_neg (by omega), if_pos hc.1] at h4 ⊢
            simp only [Bool.and_eq_true, decide_eq_true_eq] at h4 ⊢
            exact ⟨by omega, by omega, h4.2.2⟩
        · cases hI
          exact hr.1
theorem allS_all {α β : Type} {X : Nat → α → Option β} {P : β → Prop} : ∀ {l : List α} {p : Nat} {r : List β}, allS X p l = some r → (∀ q, ∀ x ∈ l, ∀ u, X q x = some u → P u) → ∀ u ∈ r, P u := by
  intro l
  induction l with
  | nil => intro p r h _ u hu; cases h; cases hu
  | cons x l ih =>
    intro p r h hf v hv
    rw [allS] at h
    split at h
    · cases h
    · rename_i u hu
      split at h
      · cases h
      · rename_i r' hr
        cases h
        rcases List.mem_cons.1 hv with rfl | hv
        · exact hf p x (by simp) _ hu
        · exact ih hr (fun q y hy => hf q y (by simp [hy])) v hv
theorem lift_ok (k : Int) (hk : 0 ≤ k) (t : Tm) : TOk t → ∀ (w fr : Int) u, rightT t w = true → liftT k fr t = some u → TOk u := by
  induction t using Tm.ind with
  | h kk i j n l ih =>
    intro hok w fr u hr hu
    cases hok with
    | mk _ _ _ _ _ f1 f2 f3 f4 hb hl =>
    have hv := right_var hr
    rw [liftT_mk] at hu
    cases hI : liftI kk i k fr with
    | none => rw [hI] at hu; cases hu
    | some i' =>
      rw [hI, Option.bind_some] at hu
      cases hA : allS (fun p t => liftT k (fr + bindsN kk p) t) 0 l with
      | none => rw [hA] at hu; cases hu
      | some us =>
        rw [hA] at hu
        cases hu
        refine .mk _ _ _ _ _ f1 ?_ f3 f4 (by rw [allS_len hA]; exact hb) (allS_all hA (fun q x hx u hu => ?_))
        · unfold liftI at hI
          split at hI
          · rename_i hc
            split at hI
            · cases hI
            · rename_i hlt
              cases hI
              obtain ⟨h1, h2⟩ := hv hc.1
              unfold fit
              omega
          · cases hI
            exact f2
        · obtain ⟨w', hw⟩ := right_kid hr hx
          exact ih x hx (hl x hx) w' _ u hw hu
theorem right_weak {t : Tm} (h : rightT t 2 = true) : rightT t 0 = true := by
  cases t with
  | mk k i j n l =>
  rw [rightT_mk, Bool.and_eq_true] at h ⊢
  refine ⟨?_, h.2⟩
  have h1 := h.1
  unfold rightN at h1 ⊢
  rw [Bool.and_eq_true] at h1 ⊢
  exact ⟨rfl, h1.2⟩
def liftF (k : Int) (t : Tm) : Tm := (liftT k 0 t).getD zT
theorem con_liftF (k : Int) (hk : 0 ≤ k) (t : Tm) (ht : TOk t) (hp : plainT t = true) (hh : hgtT t ≤ 1000) : Con 82 [.agg true (tv t), .int .i64 k, .int .i64 0] (.agg true (tv (liftF k t))) := by
  have h1 := con_rightq t ht
  rw [right_weak hp] at h1
  have h2 := con_blift k hk t ht 2 0 hp (by omega) (by omega)
  have hz := tv_len t
  have hk' : ¬ k < 0 := by omega
  unfold liftF
  cases hu : liftT k 0 t with
  | none =>
    rw [hu] at h2
    refine (contract_of_vc (r := .agg true [.int .i64 0, .int .i64 0, .int .i64 0, .int .i64 0, .nils]) mixed Tryz.func82 tr82 ?_).weaken le_zT
    have hzz := tv_len zT
    simp only [go_sem, reduceIte, reduceCtorEq, Nat.reduceAdd, Nat.reduceSub, Nat.reduceMul, Nat.reduceLT, Nat.reduceLeDiff, Nat.reduceEqDiff, Nat.reduceBEq, Nat.reduceGT, Int.reduceEq, Int.reduceNe, Int.reduceLT, Int.reduceLE, Int.reduceToNat, Int.reduceNeg, Int.reduceBEq, Int.reduceAdd, Int.reduceSub, Int.reduceGT, Int.reduceGE, Int.reduceBNe, hz, hk']
    refine callK_of h1 ?_
    simp only [go_sem, reduceIte, reduceCtorEq, Nat.reduceAdd, Nat.reduceSub, Nat.reduceMul, Nat.reduceLT, Nat.reduceLeDiff, Nat.reduceEqDiff, Nat.reduceBEq, Nat.reduceGT, Int.reduceEq, Int.reduceNe, Int.reduceLT, Int.reduceLE, Int.reduceToNat, Int.reduceNeg, Int.reduceBEq, Int.reduceAdd, Int.reduceSub, Int.reduceGT, Int.reduceGE, Int.reduceBNe, hz, hk']
    refine callK_of h2 ?_
    simp only [go_sem, reduceIte, reduceCtorEq, Nat.reduceAdd, Nat.reduceSub, Nat.reduceMul, Nat.reduceLT, Nat.reduceLeDiff, Nat.reduceEqDiff, Nat.reduceBEq, Nat.reduceGT, Int.reduceEq, Int.reduceNe, Int.reduceLT, Int.reduceLE, Int.reduceToNat, Int.reduceNeg, Int.reduceBEq, Int.reduceAdd, Int.reduceSub, Int.reduceGT, Int.reduceGE, Int.reduceBNe, resR, Option.map_none, hzz]
  | some u =>
    rw [hu] at h2
    refine contract_of_vc mixed Tryz.func82 tr82 ?_
    have hzz := tv_len u
    simp only [go_sem, reduceIte, reduceCtorEq, Nat.reduceAdd, Nat.reduceSub, Nat.reduceMul, Nat.reduceLT, Nat.reduceLeDiff, Nat.reduceEqDiff, Nat.reduceBEq, Nat.reduceGT, Int.reduceEq, Int.reduceNe, Int.reduceLT, Int.reduceLE, Int.reduceToNat, Int.reduceNeg, Int.reduceBEq, Int.reduceAdd, Int.reduceSub, Int.reduceGT, Int.reduceGE, Int.reduceBNe, hz, hk']
    refine callK_of h1 ?_
    simp only [go_sem, reduceIte, reduceCtorEq, Nat.reduceAdd, Nat.reduceSub, Nat.reduceMul, Nat.reduceLT, Nat.reduceLeDiff, Nat.reduceEqDiff, Nat.reduceBEq, Nat.reduceGT, Int.reduceEq, Int.reduceNe, Int.reduceLT, Int.reduceLE, Int.reduceToNat, Int.reduceNeg, Int.reduceBEq, Int.reduceAdd, Int.reduceSub, Int.reduceGT, Int.reduceGE, Int.reduceBNe, hz, hk']
    refine callK_of h2 ?_
    simp only [go_sem, reduceIte, reduceCtorEq, Nat.reduceAdd, Nat.reduceSub, Nat.reduceMul, Nat.reduceLT, Nat.reduceLeDiff, Nat.reduceEqDiff, Nat.reduceBEq, Nat.reduceGT, Int.reduceEq, Int.reduceNe, Int.reduceLT, Int.reduceLE, Int.reduceToNat, Int.reduceNeg, Int.reduceBEq, Int.reduceAdd, Int.reduceSub, Int.reduceGT, Int.reduceGE, Int.reduceBNe, resR, Option.map_some, hzz, Option.getD_some]
end Go.Proofs.YtkldipbhenabfaaGreat.Abs

