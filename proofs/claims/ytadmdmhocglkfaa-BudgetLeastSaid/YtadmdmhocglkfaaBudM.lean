/- Least, by the program and by the page; the law BudgetLeast. -/
import Derived.Test.YtadmdmhocglkfaaBudN
import Derived.Test.YtadmdmhocglkfaaArg
import Derived.Test.YtadmdmhocglkfaaLp
import Derived.Test.YtadmdmhocglkfaaAfF
set_option linter.unusedSimpArgs false
set_option linter.unusedVariables false
namespace Go.Proofs.Ytadmdmhocglkfaa.Abs
open Go Go.RowKit Go.Proofs.Ytadmdmhocglkfaa Bud

theorem take_nextB {α : Type} {l : List α} {i : Nat} {d : α} (h : i < l.length) : l.take i ++ [l[i]?.getD d] = l.take (i + 1) := by
  rw [List.take_add_one, List.getElem?_eq_getElem h]
  rfl

theorem mixedB : Try.prog.follows .mixedOrders = true := by kernel_rfl

theorem con_of_same {P : Program} {f : Nat} {args : List SV} {r : SV} {v : Value} (hr : ∀ m, Rep m v r) (h : ∀ (m : Mem) (w : World) (vs : List Value), vs.length = args.length → (∀ (j : Nat) v x, vs[j]? = some v → args[j]? = some x → Rep m v x) →
    Calls P f vs.toArray w fun e w' => e = .returned v ∧ w' = w) : Contract P f args r := by
  intro m w vs hm hl hp
  refine (h m w vs hl hp).mono ?_
  rintro e w' ⟨rfl, rfl⟩
  exact ⟨_, m, rfl, hr m, fun _ _ _ h => h, fun _ _ _ => rfl, hm, rfl, rfl, rfl, Nat.le_refl _, fun _ _ => rfl⟩

theorem con_inf : Contract Try.prog 85 [.int .i64 1] (.float .f64 9218868437227405312) := by
  refine con_of_same (fun m => .float _ _) fun m w vs hl hr => ?_
  match vs, hl with
  | [v], _ =>
    obtain rfl := rep_int (hr 0 v _ rfl rfl)
    exact inf_any w
theorem con_nan : Contract Try.prog 84 [] (.float .f64 9221120237041090561) := by
  refine con_of_same (fun m => .float _ _) fun m w vs hl hr => ?_
  match vs, hl with
  | [], _ => exact nan_any w
theorem con_isnan (b : Nat) : Contract Try.prog 80 [.float .f64 b] (.bool (nan b)) := by
  refine con_of_same (fun m => .bool _) fun m w vs hl hr => ?_
  match vs, hl with
  | [v], _ =>
    obtain rfl := rep_float (hr 0 v _ rfl rfl)
    exact isNaN_any b w
theorem con_bits (b : Nat) : Contract Try.prog 19 [.float .f64 b, .float .f64 b] (.bool true) := by
  refine con_of_same (fun m => .bool _) fun m w vs hl hr => ?_
  match vs, hl with
  | [v, u], _ =>
    obtain rfl := rep_float (hr 0 v _ rfl rfl)
    obtain rfl := rep_float (hr 1 u _ rfl rfl)
    exact bits_any b w
theorem con_within (n : Int) (b : Nat) : Contract Try.prog 23 [.int .i64 n, .float .f64 b] (.bool (within n b)) := by
  refine con_of_same (fun m => .bool _) fun m w vs hl hr => ?_
  match vs, hl with
  | [v, u], _ =>
    obtain rfl := rep_int (hr 0 v _ rfl rfl)
    obtain rfl := rep_float (hr 1 u _ rfl rfl)
    exact within_any n b w
theorem con_wakes03 : Contract Try.prog 22 [] (.bool true) := by
  refine con_of_below fun m w vs _ hl hr => ?_
  match vs, hl with
  | [], _ => exact wakes_any w

/-! ### The least -/
def stepF (a x : Nat) : Nat := if FloatKind.f64.format.order x a == some Ordering.lt then x else a
def foldF (l : List Nat) : Nat := l.foldl stepF 9218868437227405312
def lastF (m : Nat) : Nat := if FloatKind.f64.format.order m 0 == some Ordering.eq then 0 else m
def leastF (l : List Nat) : Nat := if l.any nan then 9221120237041090561 else lastF (foldF l)

theorem foldF_next {l : List Nat} {x : Nat} (h : x < l.length) : foldF (l.take (x + 1)) = stepF (foldF (l.take x)) (l[x]?.getD 0) := by
  unfold foldF
  rw [← take_nextB (d := 0) h, List.foldl_append]
  rfl

theorem any_yes {l : List Nat} {x : Nat} (h : x < l.length) (hn : nan (l[x]?.getD 0) = true) : l.any nan = true := by
  rw [List.any_eq_true]
  exact ⟨_, get_lt h, hn⟩
theorem any_no {l : List Nat} (h : ∀ j, j < l.length → nan (l[j]?.getD 0) = false) : l.any nan = false := by
  rw [List.any_eq_false]
  intro y hy
  obtain ⟨i, hi, rfl⟩ := List.getElem_of_mem hy
  have := h i hi
  rw [List.getElem?_eq_getElem hi, Option.getD_some] at this
  simp [this]

theorem con_least (l : List Nat) : Contract Try.prog 26 [.dsl 1 (l.map fun n => [.float .f64 n])] (.float .f64 (leastF l)) := by
  have hrow : ∀ x, x < l.length → (l.map fun n => [SV.float .f64 n])[x]?.getD [] = [.float .f64 (l[x]?.getD 0)] := fun x hx => by
    rw [List.getElem?_map, List.getElem?_eq_getElem hx]; rfl
  have hlen : (l.map fun n => [SV.float .f64 n]).length = l.length := by simp
  generalize (l.map fun n => [SV.float .f64 n]) = rows at *
  refine contract_of_vc mixedB Try.func26 tr26 ?_
  simp only [go_sem, reduceIte, reduceCtorEq, Nat.reduceAdd, Nat.reduceSub, Nat.reduceMul, Nat.reduceLT, Nat.reduceLeDiff, Nat.reduceEqDiff, Nat.reduceBEq, Nat.reduceGT, Int.reduceEq, Int.reduceNe, Int.reduceLT, Int.reduceLE, Int.reduceToNat, Int.reduceNeg, Int.reduceBEq, Int.reduceAdd, Int.reduceSub, Int.reduceGT, Int.reduceGE, Int.reduceBNe]
  refine callK_of con_inf ?_
  simp only [go_sem, reduceIte, reduceCtorEq, Nat.reduceAdd, Nat.reduceSub, Nat.reduceMul, Nat.reduceLT, Nat.reduceLeDiff, Nat.reduceEqDiff, Nat.reduceBEq, Nat.reduceGT, Int.reduceEq, Int.reduceNe, Int.reduceLT, Int.reduceLE, Int.reduceToNat, Int.reduceNeg, Int.reduceBEq, Int.reduceAdd, Int.reduceSub, Int.reduceGT, Int.reduceGE, Int.reduceBNe]
  intro _
  refine vc_forp (fun x => ⟨(.junk :: .junk :: .junk :: .float .f64 (foldF (l.take x)) :: .junk :: .junk :: .junk :: .dsl 1 rows :: .int .i64 rows.length :: .int .i64 x :: .junk :: .junk :: .junk :: .junk :: .junk :: .junk :: .junk :: .junk :: .junk :: .junk :: .junk :: .junk :: .junk :: .junk :: []), []⟩) rows.length (fun x => nan (l[x]?.getD 0) = false) (fun x hx hp => ?_) ?_
  · simp only [go_sem, reduceIte, reduceCtorEq, Nat.reduceAdd, Nat.reduceSub, Nat.reduceMul, Nat.reduceLT, Nat.reduceLeDiff, Nat.reduceEqDiff, Nat.reduceBEq, Nat.reduceGT, Int.reduceEq, Int.reduceNe, Int.reduceLT, Int.reduceLE, Int.reduceToNat, Int.reduceNeg, Int.reduceBEq, Int.reduceAdd, Int.reduceSub, Int.reduceGT, Int.reduceGE, Int.reduceBNe]
    refine ⟨fun h => ?_, fun h => ?_⟩
    · have hlt := of_decide_eq_true h
      have hlt' : x < rows.length := by omega
      have hlx : x < l.length := by omega
      have e0 : (0 : Int) ≤ (x : Int) := by omega
      have hr := hrow x hlx
      simp only [go_sem, reduceIte, reduceCtorEq, Nat.reduceAdd, Nat.reduceSub, Nat.reduceMul, Nat.reduceLT, Nat.reduceLeDiff, Nat.reduceEqDiff, Nat.reduceBEq, Nat.reduceGT, Int.reduceEq, Int.reduceNe, Int.reduceLT, Int.reduceLE, Int.reduceToNat, Int.reduceNeg, Int.reduceBEq, Int.reduceAdd, Int.reduceSub, Int.reduceGT, Int.reduceGE, Int.reduceBNe, hlt, e0, hr]
      refine callK_of (con_isnan _) ?_
      cases hn : nan (l[x]?.getD 0) <;> simp only [go_sem, reduceIte, reduceCtorEq, Nat.reduceAdd, Nat.reduceSub, Nat.reduceMul, Nat.reduceLT, Nat.reduceLeDiff, Nat.reduceEqDiff, Nat.reduceBEq, Nat.reduceGT, Int.reduceEq, Int.reduceNe, Int.reduceLT, Int.reduceLE, Int.reduceToNat, Int.reduceNeg, Int.reduceBEq, Int.reduceAdd, Int.reduceSub, Int.reduceGT, Int.reduceGE, Int.reduceBNe]
      · have e : foldF (l.take (x + 1)) = stepF (foldF (l.take x)) (l[x]?.getD 0) := foldF_next hlx
        unfold stepF at e
        cases hc : (FloatKind.f64.format.order (l[x]?.getD 0) (foldF (l.take x)) == some Ordering.lt) <;> simp only [go_sem, reduceIte, reduceCtorEq, Nat.reduceAdd, Nat.reduceSub, Nat.reduceMul, Nat.reduceLT, Nat.reduceLeDiff, Nat.reduceEqDiff, Nat.reduceBEq, Nat.reduceGT, Int.reduceEq, Int.reduceNe, Int.reduceLT, Int.reduceLE, Int.reduceToNat, Int.reduceNeg, Int.reduceBEq, Int.reduceAdd, Int.reduceSub, Int.reduceGT, Int.reduceGE, Int.reduceBNe, hc]
        all_goals
          rw [hc] at e
          refine ⟨hlt', ?_⟩
          rw [w64 (n := (x : Int) + 1) (by unfold fit; omega), e]
          exact wk_slots (by simp [slotsLe])
      · refine callK_of con_nan ?_
        simp only [go_sem, reduceIte, reduceCtorEq, Nat.reduceAdd, Nat.reduceSub, Nat.reduceMul, Nat.reduceLT, Nat.reduceLeDiff, Nat.reduceEqDiff, Nat.reduceBEq, Nat.reduceGT, Int.reduceEq, Int.reduceNe, Int.reduceLT, Int.reduceLE, Int.reduceToNat, Int.reduceNeg, Int.reduceBEq, Int.reduceAdd, Int.reduceSub, Int.reduceGT, Int.reduceGE, Int.reduceBNe]
        unfold leastF
        rw [if_pos (any_yes hlx hn)]
    · have hge := of_decide_eq_false h
      have hxe : x = l.length := by omega
      simp only [go_sem, reduceIte, reduceCtorEq, Nat.reduceAdd, Nat.reduceSub, Nat.reduceMul, Nat.reduceLT, Nat.reduceLeDiff, Nat.reduceEqDiff, Nat.reduceBEq, Nat.reduceGT, Int.reduceEq, Int.reduceNe, Int.reduceLT, Int.reduceLE, Int.reduceToNat, Int.reduceNeg, Int.reduceBEq, Int.reduceAdd, Int.reduceSub, Int.reduceGT, Int.reduceGE, Int.reduceBNe, h]
      have e : leastF l = lastF (foldF (l.take x)) := by
        unfold leastF
        rw [any_no (fun j hj => hp j (by omega)), hxe, List.take_length]
        rfl
      rw [e]
      unfold lastF
      cases hc : (FloatKind.f64.format.order (foldF (l.take x)) 0 == some Ordering.eq) <;> simp only [go_sem, reduceIte, reduceCtorEq, Nat.reduceAdd, Nat.reduceSub, Nat.reduceMul, Nat.reduceLT, Nat.reduceLeDiff, Nat.reduceEqDiff, Nat.reduceBEq, Nat.reduceGT, Int.reduceEq, Int.reduceNe, Int.reduceLT, Int.reduceLE, Int.reduceToNat, Int.reduceNeg, Int.reduceBEq, Int.reduceAdd, Int.reduceSub, Int.reduceGT, Int.reduceGE, Int.reduceBNe, hc]
  · exact wk_slots (by simp [slotsLe, foldF])

theorem con_rleast (l : List Nat) : Contract Try.prog 27 [.dsl 1 (l.map fun n => [.float .f64 n])] (.float .f64 (leastF l)) := by
  have hrow : ∀ x, x < l.length → (l.map fun n => [SV.float .f64 n])[x]?.getD [] = [.float .f64 (l[x]?.getD 0)] := fun x hx => by
    rw [List.getElem?_map, List.getElem?_eq_getElem hx]; rfl
  have hlen : (l.map fun n => [SV.float .f64 n]).length = l.length := by simp
  generalize (l.map fun n => [SV.float .f64 n]) = rows at *
  refine contract_of_vc mixedB Try.func27 tr27 ?_
  simp only [go_sem, reduceIte, reduceCtorEq, Nat.reduceAdd, Nat.reduceSub, Nat.reduceMul, Nat.reduceLT, Nat.reduceLeDiff, Nat.reduceEqDiff, Nat.reduceBEq, Nat.reduceGT, Int.reduceEq, Int.reduceNe, Int.reduceLT, Int.reduceLE, Int.reduceToNat, Int.reduceNeg, Int.reduceBEq, Int.reduceAdd, Int.reduceSub, Int.reduceGT, Int.reduceGE, Int.reduceBNe]
  refine callK_of con_inf ?_
  simp only [go_sem, reduceIte, reduceCtorEq, Nat.reduceAdd, Nat.reduceSub, Nat.reduceMul, Nat.reduceLT, Nat.reduceLeDiff, Nat.reduceEqDiff, Nat.reduceBEq, Nat.reduceGT, Int.reduceEq, Int.reduceNe, Int.reduceLT, Int.reduceLE, Int.reduceToNat, Int.reduceNeg, Int.reduceBEq, Int.reduceAdd, Int.reduceSub, Int.reduceGT, Int.reduceGE, Int.reduceBNe]
  refine vc_forp (fun x => ⟨(.dsl 1 rows :: .junk :: .junk :: .float .f64 (foldF (l.take x)) :: .int .i64 x :: .junk :: .junk :: .junk :: .junk :: .junk :: .junk :: .junk :: .junk :: .junk :: .junk :: .junk :: .junk :: .junk :: .junk :: .junk :: .junk :: .junk :: .junk :: .junk :: .junk :: .junk :: .junk :: .junk :: .junk :: .junk :: .junk :: .junk :: .junk :: .junk :: .junk :: []), []⟩) rows.length (fun x => nan (l[x]?.getD 0) = false) (fun x hx hp => ?_) ?_
  · simp only [go_sem, reduceIte, reduceCtorEq, Nat.reduceAdd, Nat.reduceSub, Nat.reduceMul, Nat.reduceLT, Nat.reduceLeDiff, Nat.reduceEqDiff, Nat.reduceBEq, Nat.reduceGT, Int.reduceEq, Int.reduceNe, Int.reduceLT, Int.reduceLE, Int.reduceToNat, Int.reduceNeg, Int.reduceBEq, Int.reduceAdd, Int.reduceSub, Int.reduceGT, Int.reduceGE, Int.reduceBNe]
    intro _
    refine ⟨fun h => ?_, fun h => ?_⟩
    · have hlt := of_decide_eq_true h
      have hlt' : x < rows.length := by omega
      have hlx : x < l.length := by omega
      have e0 : (0 : Int) ≤ (x : Int) := by omega
      have hr := hrow x hlx
      cases hn : nan (l[x]?.getD 0)
      · have hn' : (FloatKind.f64.format.order (l[x]?.getD 0) (l[x]?.getD 0) != some Ordering.eq) = false := hn
        simp only [go_sem, reduceIte, reduceCtorEq, Nat.reduceAdd, Nat.reduceSub, Nat.reduceMul, Nat.reduceLT, Nat.reduceLeDiff, Nat.reduceEqDiff, Nat.reduceBEq, Nat.reduceGT, Int.reduceEq, Int.reduceNe, Int.reduceLT, Int.reduceLE, Int.reduceToNat, Int.reduceNeg, Int.reduceBEq, Int.reduceAdd, Int.reduceSub, Int.reduceGT, Int.reduceGE, Int.reduceBNe, hlt, e0, hr, hn']
        have e : foldF (l.take (x + 1)) = stepF (foldF (l.take x)) (l[x]?.getD 0) := foldF_next hlx
        unfold stepF at e
        cases hc : (FloatKind.f64.format.order (l[x]?.getD 0) (foldF (l.take x)) == some Ordering.lt) <;> simp only [go_sem, reduceIte, reduceCtorEq, Nat.reduceAdd, Nat.reduceSub, Nat.reduceMul, Nat.reduceLT, Nat.reduceLeDiff, Nat.reduceEqDiff, Nat.reduceBEq, Nat.reduceGT, Int.reduceEq, Int.reduceNe, Int.reduceLT, Int.reduceLE, Int.reduceToNat, Int.reduceNeg, Int.reduceBEq, Int.reduceAdd, Int.reduceSub, Int.reduceGT, Int.reduceGE, Int.reduceBNe, hlt, e0, hr, hc]
        all_goals
          rw [hc] at e
          refine ⟨hlt', ?_⟩
          rw [w64 (n := (x : Int) + 1) (by unfold fit; omega), e]
          exact wk_slots (by simp [slotsLe])
      · have hn' : (FloatKind.f64.format.order (l[x]?.getD 0) (l[x]?.getD 0) != some Ordering.eq) = true := hn
        simp only [go_sem, reduceIte, reduceCtorEq, Nat.reduceAdd, Nat.reduceSub, Nat.reduceMul, Nat.reduceLT, Nat.reduceLeDiff, Nat.reduceEqDiff, Nat.reduceBEq, Nat.reduceGT, Int.reduceEq, Int.reduceNe, Int.reduceLT, Int.reduceLE, Int.reduceToNat, Int.reduceNeg, Int.reduceBEq, Int.reduceAdd, Int.reduceSub, Int.reduceGT, Int.reduceGE, Int.reduceBNe, hlt, e0, hr, hn']
        refine callK_of con_nan ?_
        simp only [go_sem, reduceIte, reduceCtorEq, Nat.reduceAdd, Nat.reduceSub, Nat.reduceMul, Nat.reduceLT, Nat.reduceLeDiff, Nat.reduceEqDiff, Nat.reduceBEq, Nat.reduceGT, Int.reduceEq, Int.reduceNe, Int.reduceLT, Int.reduceLE, Int.reduceToNat, Int.reduceNeg, Int.reduceBEq, Int.reduceAdd, Int.reduceSub, Int.reduceGT, Int.reduceGE, Int.reduceBNe]
        unfold leastF
        rw [if_pos (any_yes hlx hn)]
    · have hge := of_decide_eq_false h
      have hxe : x = l.length := by omega
      simp only [go_sem, reduceIte, reduceCtorEq, Nat.reduceAdd, Nat.reduceSub, Nat.reduceMul, Nat.reduceLT, Nat.reduceLeDiff, Nat.reduceEqDiff, Nat.reduceBEq, Nat.reduceGT, Int.reduceEq, Int.reduceNe, Int.reduceLT, Int.reduceLE, Int.reduceToNat, Int.reduceNeg, Int.reduceBEq, Int.reduceAdd, Int.reduceSub, Int.reduceGT, Int.reduceGE, Int.reduceBNe, h]
      have e : leastF l = lastF (foldF (l.take x)) := by
        unfold leastF
        rw [any_no (fun j hj => hp j (by omega)), hxe, List.take_length]
        rfl
      rw [e]
      unfold lastF
      cases hc : (FloatKind.f64.format.order (foldF (l.take x)) 0 == some Ordering.eq) <;> simp only [go_sem, reduceIte, reduceCtorEq, Nat.reduceAdd, Nat.reduceSub, Nat.reduceMul, Nat.reduceLT, Nat.reduceLeDiff, Nat.reduceEqDiff, Nat.reduceBEq, Nat.reduceGT, Int.reduceEq, Int.reduceNe, Int.reduceLT, Int.reduceLE, Int.reduceToNat, Int.reduceNeg, Int.reduceBEq, Int.reduceAdd, Int.reduceSub, Int.reduceGT, Int.reduceGE, Int.reduceBNe, hc]
  · exact wk_slots (by simp [slotsLe, foldF])

/-! ### What is within the least -/
theorem flt_is (x y : Nat) (hx : Flt.nanB x = false) (hy : Flt.nanB y = false) : (FloatKind.f64.format.order x y == some Ordering.lt) = decide (Flt.skey x < Flt.skey y) := by
  rw [show FloatKind.f64.format.order x y = Flt.ord x y from rfl, Flt.ord_skey x y hx hy]
  rcases Int.lt_trichotomy (Flt.skey x) (Flt.skey y) with h | h | h
  · rw [Flt.cmp_lt h, decide_eq_true h]; rfl
  · rw [Flt.cmp_eq h, decide_eq_false (by omega)]; rfl
  · rw [Flt.cmp_gt h, decide_eq_false (by omega)]; rfl

theorem step_within (n : Int) (a x : Nat) (ha : Flt.nanB a = false) (hx : Flt.nanB x = false) : Flt.nanB (stepF a x) = false ∧ within n (stepF a x) = (within n a && within n x) := by
  unfold stepF
  rw [flt_is x a hx ha]
  have e1 := within_is n a
  have e2 := within_is n x
  rw [ha] at e1
  rw [hx] at e2
  simp only [Bool.not_false, Bool.true_and] at e1 e2
  by_cases h : Flt.skey x < Flt.skey a
  · rw [decide_eq_true h]
    refine ⟨hx, ?_⟩
    rw [if_pos rfl, e1, e2]
    by_cases hk : Flt.skey (floatOfInt .f64 n) ≤ Flt.skey x
    · rw [decide_eq_true hk, decide_eq_true (by omega)]; rfl
    · rw [decide_eq_false hk, Bool.and_false]
  · rw [decide_eq_false h]
    refine ⟨ha, ?_⟩
    rw [if_neg (by simp), e1, e2]
    by_cases hk : Flt.skey (floatOfInt .f64 n) ≤ Flt.skey a
    · rw [decide_eq_true hk, decide_eq_true (by omega : Flt.skey (floatOfInt .f64 n) ≤ Flt.skey x)]; rfl
    · rw [decide_eq_false hk]; rfl

theorem fold_within (n : Int) : ∀ (l : List Nat) (a : Nat), Flt.nanB a = false → l.any nan = false → Flt.nanB (l.foldl stepF a) = false ∧ within n (l.foldl stepF a) = (within n a && l.all (within n)) := by
  intro l
  induction l with
  | nil => intro a ha _; exact ⟨ha, by simp⟩
  | cons x l ih =>
    intro a ha hl
    simp only [List.any_cons, Bool.or_eq_false_iff] at hl
    obtain ⟨g1, g2⟩ := step_within n a x ha (by rw [← nan_is]; exact hl.1)
    obtain ⟨h1, h2⟩ := ih _ g1 hl.2
    refine ⟨h1, ?_⟩
    rw [List.foldl_cons, h2, g2, List.all_cons, Bool.and_assoc]

theorem within_inf (n : Int) : within n 9218868437227405312 = true := by
  rw [within_is, Flt.ofInt_key]
  have e1 : Flt.nanB 9218868437227405312 = false := by decide
  have e2 : Flt.skey 9218868437227405312 = 9218868437227405312 := by decide
  have h := Flt.R_le n.natAbs
  rw [e1, e2]
  simp only [Bool.not_false, Bool.true_and, decide_eq_true_eq]
  split <;> omega

theorem last_within (n : Int) (m : Nat) (hm : Flt.nanB m = false) : within n (lastF m) = within n m := by
  unfold lastF
  cases hc : (FloatKind.f64.format.order m 0 == some Ordering.eq)
  · rfl
  · rw [if_pos rfl]
    have e1 : Flt.nanB 0 = false := by decide
    have e2 : Flt.skey 0 = 0 := by decide
    rw [show FloatKind.f64.format.order m 0 = Flt.ord m 0 from rfl, Flt.ord_skey m 0 hm e1] at hc
    have hk : Flt.skey m = Flt.skey 0 := by
      rcases Int.lt_trichotomy (Flt.skey m) (Flt.skey 0) with h | h | h
      · rw [Flt.cmp_lt h] at hc; cases hc
      · exact h
      · rw [Flt.cmp_gt h] at hc; cases hc
    rw [within_is, within_is, hm, e1, hk]

theorem least_within (n : Int) (l : List Nat) : within n (leastF l) = l.all (within n) := by
  unfold leastF
  cases h : l.any nan
  · rw [if_neg (by simp)]
    obtain ⟨h1, h2⟩ := fold_within n l 9218868437227405312 (by decide) h
    unfold foldF
    rw [last_within n _ h1, h2, within_inf, Bool.true_and]
  · rw [if_pos rfl]
    rw [List.any_eq_true] at h
    obtain ⟨x, hx, hn⟩ := h
    rw [within_nan (by rw [nan_is]; decide)]
    symm
    rw [List.all_eq_false]
    exact ⟨x, hx, by rw [within_nan hn]; simp⟩

theorem law_BudgetLeast (l : List Nat) (n : Int) : Contract Try.prog 7 [.dsl 1 (l.map fun n => [.float .f64 n]), .int .i64 n] (.bool true) := by
  have cl := con_least l
  have cr := con_rleast l
  have cw := con_within n (leastF l)
  rw [least_within] at cw
  have hrow : ∀ x, x < l.length → (l.map fun n => [SV.float .f64 n])[x]?.getD [] = [.float .f64 (l[x]?.getD 0)] := fun x hx => by
    rw [List.getElem?_map, List.getElem?_eq_getElem hx]; rfl
  have hlen : (l.map fun n => [SV.float .f64 n]).length = l.length := by simp
  generalize (l.map fun n => [SV.float .f64 n]) = rows at *
  refine contract_of_vc mixedB Try.func7 tr7 ?_
  simp only [go_sem, reduceIte, reduceCtorEq, Nat.reduceAdd, Nat.reduceSub, Nat.reduceMul, Nat.reduceLT, Nat.reduceLeDiff, Nat.reduceEqDiff, Nat.reduceBEq, Nat.reduceGT, Int.reduceEq, Int.reduceNe, Int.reduceLT, Int.reduceLE, Int.reduceToNat, Int.reduceNeg, Int.reduceBEq, Int.reduceAdd, Int.reduceSub, Int.reduceGT, Int.reduceGE, Int.reduceBNe]
  intro _
  refine ⟨fun h => ?_, fun h => ?_⟩
  · simp only [go_sem, reduceIte, reduceCtorEq, Nat.reduceAdd, Nat.reduceSub, Nat.reduceMul, Nat.reduceLT, Nat.reduceLeDiff, Nat.reduceEqDiff, Nat.reduceBEq, Nat.reduceGT, Int.reduceEq, Int.reduceNe, Int.reduceLT, Int.reduceLE, Int.reduceToNat, Int.reduceNeg, Int.reduceBEq, Int.reduceAdd, Int.reduceSub, Int.reduceGT, Int.reduceGE, Int.reduceBNe]
  · simp only [go_sem, reduceIte, reduceCtorEq, Nat.reduceAdd, Nat.reduceSub, Nat.reduceMul, Nat.reduceLT, Nat.reduceLeDiff, Nat.reduceEqDiff, Nat.reduceBEq, Nat.reduceGT, Int.reduceEq, Int.reduceNe, Int.reduceLT, Int.reduceLE, Int.reduceToNat, Int.reduceNeg, Int.reduceBEq, Int.reduceAdd, Int.reduceSub, Int.reduceGT, Int.reduceGE, Int.reduceBNe]
    refine callK_of cl ?_
    simp only [go_sem, reduceIte, reduceCtorEq, Nat.reduceAdd, Nat.reduceSub, Nat.reduceMul, Nat.reduceLT, Nat.reduceLeDiff, Nat.reduceEqDiff, Nat.reduceBEq, Nat.reduceGT, Int.reduceEq, Int.reduceNe, Int.reduceLT, Int.reduceLE, Int.reduceToNat, Int.reduceNeg, Int.reduceBEq, Int.reduceAdd, Int.reduceSub, Int.reduceGT, Int.reduceGE, Int.reduceBNe]
    refine vc_for (fun x => ⟨(.dsl 1 rows :: .int .i64 n :: .junk :: .junk :: .junk :: .float .f64 (leastF l) :: .bool ((l.take x).all (within n)) :: .int .i64 x :: .junk :: .junk :: .junk :: .junk :: .junk :: .junk :: .junk :: .junk :: .junk :: .junk :: .junk :: .junk :: .junk :: .junk :: .junk :: .junk :: .junk :: .junk :: .junk :: .junk :: .junk :: .junk :: .junk :: .junk :: .junk :: .junk :: .junk :: .junk :: .junk :: .junk :: .junk :: .junk :: .junk :: .junk :: []), []⟩) rows.length (fun x hx => ?_) ?_
    · simp only [go_sem, reduceIte, reduceCtorEq, Nat.reduceAdd, Nat.reduceSub, Nat.reduceMul, Nat.reduceLT, Nat.reduceLeDiff, Nat.reduceEqDiff, Nat.reduceBEq, Nat.reduceGT, Int.reduceEq, Int.reduceNe, Int.reduceLT, Int.reduceLE, Int.reduceToNat, Int.reduceNeg, Int.reduceBEq, Int.reduceAdd, Int.reduceSub, Int.reduceGT, Int.reduceGE, Int.reduceBNe]
      intro _
      refine ⟨fun h => ?_, fun h => ?_⟩
      · have hlt := of_decide_eq_true h
        have hlt' : x < rows.length := by omega
        have hlx : x < l.length := by omega
        have e0 : (0 : Int) ≤ (x : Int) := by omega
        have hr := hrow x hlx
        have e : (l.take (x + 1)).all (within n) = ((l.take x).all (within n) && within n (l[x]?.getD 0)) := by
          rw [← take_nextB (d := 0) hlx, List.all_append]
          simp
        cases ha : (l.take x).all (within n) <;> simp only [go_sem, reduceIte, reduceCtorEq, Nat.reduceAdd, Nat.reduceSub, Nat.reduceMul, Nat.reduceLT, Nat.reduceLeDiff, Nat.reduceEqDiff, Nat.reduceBEq, Nat.reduceGT, Int.reduceEq, Int.reduceNe, Int.reduceLT, Int.reduceLE, Int.reduceToNat, Int.reduceNeg, Int.reduceBEq, Int.reduceAdd, Int.reduceSub, Int.reduceGT, Int.reduceGE, Int.reduceBNe, hlt, e0, hr]
        · refine ⟨hlt', ?_⟩
          rw [w64 (n := (x : Int) + 1) (by unfold fit; omega), e, ha]
          exact wk_slots (by simp [slotsLe])
        · refine callK_of (con_within n _) ?_
          simp only [go_sem, reduceIte, reduceCtorEq, Nat.reduceAdd, Nat.reduceSub, Nat.reduceMul, Nat.reduceLT, Nat.reduceLeDiff, Nat.reduceEqDiff, Nat.reduceBEq, Nat.reduceGT, Int.reduceEq, Int.reduceNe, Int.reduceLT, Int.reduceLE, Int.reduceToNat, Int.reduceNeg, Int.reduceBEq, Int.reduceAdd, Int.reduceSub, Int.reduceGT, Int.reduceGE, Int.reduceBNe]
          refine ⟨hlt', ?_⟩
          rw [w64 (n := (x : Int) + 1) (by unfold fit; omega), e, ha]
          exact wk_slots (by simp [slotsLe])
      · have hge := of_decide_eq_false h
        have hxe : x = l.length := by omega
        subst hxe
        simp only [go_sem, reduceIte, reduceCtorEq, Nat.reduceAdd, Nat.reduceSub, Nat.reduceMul, Nat.reduceLT, Nat.reduceLeDiff, Nat.reduceEqDiff, Nat.reduceBEq, Nat.reduceGT, Int.reduceEq, Int.reduceNe, Int.reduceLT, Int.reduceLE, Int.reduceToNat, Int.reduceNeg, Int.reduceBEq, Int.reduceAdd, Int.reduceSub, Int.reduceGT, Int.reduceGE, Int.reduceBNe, h, List.take_length]
        repeat' first
          | simp only [go_sem, reduceIte, reduceCtorEq, Nat.reduceAdd, Nat.reduceSub, Nat.reduceMul, Nat.reduceLT, Nat.reduceLeDiff, Nat.reduceEqDiff, Nat.reduceBEq, Nat.reduceGT, Int.reduceEq, Int.reduceNe, Int.reduceLT, Int.reduceLE, Int.reduceToNat, Int.reduceNeg, Int.reduceBEq, Int.reduceAdd, Int.reduceSub, Int.reduceGT, Int.reduceGE, Int.reduceBNe, BEq.rfl]
          | refine callK_of (cr) ?_
          | refine callK_of (con_bits (leastF l)) ?_
          | refine callK_of (cw) ?_
          | refine callK_of (con_wakes03) ?_
          | rfl
    · exact wk_slots (by simp [slotsLe])
end Go.Proofs.Ytadmdmhocglkfaa.Abs
