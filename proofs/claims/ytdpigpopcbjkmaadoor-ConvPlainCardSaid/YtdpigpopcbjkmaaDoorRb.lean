/- Reckon: node. -/
import Derived.Test.YtdpigpopcbjkmaaDoorAfS
import Derived.Test.YtdpigpopcbjkmaaDoorRa
set_option linter.unusedSimpArgs false
set_option linter.unusedVariables false
namespace Go.Proofs.YtdpigpopcbjkmaaDoor.Abs
open Go Go.RowKit Go.Proofs.YtdpigpopcbjkmaaDoor

theorem optV_closed (y : Option Vl) {hp : List Ob} : closeV hp (optV y) = some (optV y, hp) ∧ closeC hp (optV y) = some (optV y, hp) ∧ idsV hp (optV y) = [] ∧ idsC (optV y) = [] ∧ (optV y).closed = true ∧ (optV y).ok = true ∧ cellsOf (optV y) = [optV y] := by
  cases y <;> exact ⟨rfl, rfl, rfl, rfl, rfl, rfl, rfl⟩
theorem opt_cv {e : Option Vl} {hp : List Ob} : closeV hp (optV e) = some (optV e, hp) := (optV_closed e).1
theorem opt_cc {e : Option Vl} {hp : List Ob} : closeC hp (optV e) = some (optV e, hp) := (optV_closed e).2.1
theorem opt_iv {e : Option Vl} {hp : List Ob} : idsV hp (optV e) = [] := (optV_closed e).2.2.1
theorem opt_ic {e : Option Vl} : idsC (optV e) = [] := (optV_closed (hp := []) e).2.2.2.1
theorem opt_cl {e : Option Vl} : (optV e).closed = true := (optV_closed (hp := []) e).2.2.2.2.1
theorem opt_ok {e : Option Vl} : (optV e).ok = true := (optV_closed (hp := []) e).2.2.2.2.2.1
theorem opt_ce {e : Option Vl} : cellsOf (optV e) = [optV e] := (optV_closed (hp := []) e).2.2.2.2.2.2
theorem opt_nil {e : Option Vl} (kd : Nat) (op : BinOp) : evBin kd op (optV e) .nilp = if kd = 2 then eqB op e.isNone else none := by cases e <;> rfl
theorem ths_closed (l : List Nat) {hp : List Ob} : closeV hp (thsV l) = some (thsV l, hp) ∧ closeC hp (thsV l) = some (thsV l, hp) ∧ idsV hp (thsV l) = [] ∧ idsC (thsV l) = [] ∧ (thsV l).closed = true ∧ (thsV l).ok = true ∧ cellsOf (thsV l) = [thsV l] := by
  cases l <;> exact ⟨rfl, rfl, rfl, rfl, rfl, rfl, rfl⟩
theorem ths_cv {e : List Nat} {hp : List Ob} : closeV hp (thsV e) = some (thsV e, hp) := (ths_closed e).1
theorem ths_cc {e : List Nat} {hp : List Ob} : closeC hp (thsV e) = some (thsV e, hp) := (ths_closed e).2.1
theorem ths_iv {e : List Nat} {hp : List Ob} : idsV hp (thsV e) = [] := (ths_closed e).2.2.1
theorem ths_ic {e : List Nat} : idsC (thsV e) = [] := (ths_closed (hp := []) e).2.2.2.1
theorem ths_cl {e : List Nat} : (thsV e).closed = true := (ths_closed (hp := []) e).2.2.2.2.1
theorem ths_ok {e : List Nat} : (thsV e).ok = true := (ths_closed (hp := []) e).2.2.2.2.2.1
theorem ths_ce {e : List Nat} : cellsOf (thsV e) = [thsV e] := (ths_closed (hp := []) e).2.2.2.2.2.2
attribute [go_sem] opt_cv opt_cc opt_iv opt_ic opt_cl opt_ok opt_ce opt_nil ths_cv ths_cc ths_iv ths_ic ths_cl ths_ok ths_ce

theorem below_env (n : Nat) (e : List Nat) : below n (envV e) = true := by cases e <;> rfl
theorem below_opt (n : Nat) (e : Option Vl) : below n (optV e) = true := by cases e <;> rfl
theorem below_ths (n : Nat) (e : List Nat) : below n (thsV e) = true := by cases e <;> rfl
attribute [go_sem] below_env below_opt below_ths

/-- The thunks of a term's kids; the kid k has come to y. -/
def nodeRow (k : Int) (y : Option Vl) (e : List Nat) (i : Nat) (kid : Tm) : List SV := if (i : Int) = k then doneR y none else thR ⟨kid, e, false, none, none⟩
def nodeRows (k : Int) (y : Option Vl) (e : List Nat) : Nat → List Tm → List (List SV)
  | _, [] => []
  | i, x :: l => nodeRow k y e i x :: nodeRows k y e (i + 1) l
theorem nodeRows_app (k : Int) (y : Option Vl) (e : List Nat) : ∀ (a b : List Tm) (i : Nat), nodeRows k y e i (a ++ b) = nodeRows k y e i a ++ nodeRows k y e (i + a.length) b := by
  intro a
  induction a with
  | nil => intro b i; simp [nodeRows]
  | cons x a ih => intro b i; simp only [List.cons_append, nodeRows, ih, List.length_cons]; rw [show i + 1 + a.length = i + (a.length + 1) by omega]
theorem nodeRows_len (k : Int) (y : Option Vl) (e : List Nat) : ∀ (a : List Tm) (i : Nat), (nodeRows k y e i a).length = a.length := by
  intro a
  induction a with
  | nil => intro i; rfl
  | cons x a ih => intro i; simp [nodeRows, ih]

theorem beq_yes {a b : Int} (h : a = b) : (a == b) = true := by simpa using h

set_option maxRecDepth 10000 in
theorem hcon_node {G : List (List SV)} {m : Nat} (k' i' j' n' : Int) (l : List Tm) (hb : l.length * 56 ≤ 140737488355328) (hz : l ≠ []) (e : List Nat) (k : Int) (y : Option Vl) (hy : ∀ q : Nat, q < l.length → (q : Int) = k → ∃ v, y = some v) :
    HCon 68 G [.gp m 0, .agg true (tv (.mk k' i' j' n' l)), envV e, .int .i64 k, optV y] (.ret (vlV ⟨k', i', j', n', 0, List.range' G.length l.length⟩)) (G ++ nodeRows k y e 0 l) := by
  refine hcontract_of_vc mixed Tryd.func68 tr68 ?_
  rw [tv_mk]
  have hlen : 0 < l.length := List.length_pos_iff.2 hz
  have h3 : l.length ≤ 140737488355328 := by omega
  have e1 : (0 : Int) ≤ (l.length : Int) := by omega
  have e2 : ((l.length : Int) * 8 ≤ 140737488355328) := by omega
  have e3 : ((l.length : Int) ≤ 140737488355328) := by omega
  simp only [go_sem, reduceIte, reduceCtorEq, Nat.reduceAdd, Nat.reduceSub, Nat.reduceMul, Nat.reduceLT, Nat.reduceLeDiff, Nat.reduceEqDiff, Nat.reduceBEq, Nat.reduceGT, Int.reduceEq, Int.reduceNe, Int.reduceLT, Int.reduceLE, Int.reduceToNat, Int.reduceNeg, Int.reduceBEq, Int.reduceAdd, Int.reduceSub, Int.reduceGT, Int.reduceGE, Int.reduceBNe, List.length_map, h3, decide_eq_true (show (l.length : Int) > 0 by omega), e1, e2, e3, Int.le_refl]
  have hlx : ∀ x, x ≤ l.length → (G ++ nodeRows k y e 0 (l.take x)).length = G.length + x := fun x hx => by rw [List.length_append, nodeRows_len, List.length_take, Nat.min_eq_left hx]
  have hstep : ∀ x, (h : x < l.length) → G ++ nodeRows k y e 0 (l.take (x + 1)) = (G ++ nodeRows k y e 0 (l.take x)) ++ [nodeRow k y e x l[x]] := fun x h => by
    rw [List.take_succ_eq_append_getElem h, nodeRows_app, List.append_assoc, List.length_take, Nat.min_eq_left (by omega), Nat.zero_add]; rfl
  refine vc_for (fun x => ⟨(.gp m 0 :: .junk :: envV e :: .int .i64 k :: optV y :: .junk :: .ref 1 0 0 0 :: .junk :: .junk :: .junk :: .junk :: .ref 2 0 0 0 :: .junk :: .junk :: .junk :: .junk :: .junk :: .junk :: .junk :: .junk :: .junk :: .junk :: .junk :: .junk :: .junk :: .junk :: .junk :: .junk :: .junk :: .junk :: .junk :: .junk :: .junk :: .junk :: .junk :: .junk :: .dsl 5 (l.map tv) :: .int .i64 l.length :: .int .i64 x :: .junk :: .junk :: .junk :: .junk :: .junk :: .junk :: .junk :: .junk :: .junk :: .junk :: .junk :: .junk :: .junk :: .junk :: .junk :: .junk :: .junk :: .junk :: .junk :: .junk :: .junk :: .junk :: .junk :: .junk :: .junk :: .junk :: []),
    [gOb (G ++ nodeRows k y e 0 (l.take x)), ⟨true, 5, [[.int .i64 k', .int .i64 i', .int .i64 j', .int .i64 n', .dsl 5 (l.map tv)]], 0, 0, true⟩,
     ⟨true, 6, [[.int .i64 k', .int .i64 i', .int .i64 j', .int .i64 n', .int .i64 0, .osl 3 0 0 l.length]], 0, 0, false⟩,
     ⟨false, 1, ((List.range' G.length x).map fun i => [SV.gp i 0]) ++ List.replicate (l.length - x) [.nilp], 0, 0, true⟩]⟩) l.length (fun x hx => ?_) ?_
  · by_cases hlt : x < l.length
    · have e0 : (0 : Int) ≤ (x : Int) := by omega
      have hg : (l.map tv)[x]?.getD [] = tv l[x] := by rw [List.getElem?_map, List.getElem?_eq_getElem hlt]; rfl
      have hset : (((List.range' G.length x).map fun i => [SV.gp i 0]) ++ List.replicate (l.length - x) [SV.nilp]).set x [SV.gp (G.length + x) 0] = ((List.range' G.length (x + 1)).map fun i => [SV.gp i 0]) ++ List.replicate (l.length - (x + 1)) [SV.nilp]   := by
        rw [List.set_append_right _ _ (by simp), List.length_map, List.length_range', Nat.sub_self, show l.length - x = (l.length - (x + 1)) + 1 by omega, List.replicate_succ, List.set_cons_zero, List.range'_concat, List.map_append, List.append_assoc, Nat.one_mul]
        rfl
      by_cases hk : (x : Int) = k
      · obtain ⟨yv, rfl⟩ := hy x hlt hk
        simp only [go_sem, reduceIte, reduceCtorEq, Nat.reduceAdd, Nat.reduceSub, Nat.reduceMul, Nat.reduceLT, Nat.reduceLeDiff, Nat.reduceEqDiff, Nat.reduceBEq, Nat.reduceGT, Int.reduceEq, Int.reduceNe, Int.reduceLT, Int.reduceLE, Int.reduceToNat, Int.reduceNeg, Int.reduceBEq, Int.reduceAdd, Int.reduceSub, Int.reduceGT, Int.reduceGE, Int.reduceBNe, decide_eq_true (show (x : Int) < l.length by omega), e0, List.length_map, hlt, hg, tv_len, beq_yes hk]
        refine ⟨by omega, callH_of (hcon_done _ yv) ?_⟩
        simp only [go_sem, reduceIte, reduceCtorEq, Nat.reduceAdd, Nat.reduceSub, Nat.reduceMul, Nat.reduceLT, Nat.reduceLeDiff, Nat.reduceEqDiff, Nat.reduceBEq, Nat.reduceGT, Int.reduceEq, Int.reduceNe, Int.reduceLT, Int.reduceLE, Int.reduceToNat, Int.reduceNeg, Int.reduceBEq, Int.reduceAdd, Int.reduceSub, Int.reduceGT, Int.reduceGE, Int.reduceBNe, hlx x (Nat.le_of_lt hlt), List.length_append, List.length_map, List.length_range', List.length_replicate, e0, hset, show (x : Int) < l.length by omega, show x < x + (l.length - x) by omega, w64 (show fit ((x : Int) + 1) by unfold fit; omega)]
        refine ⟨hlt, ?_⟩
        rw [hstep x hlt, nodeRow, if_pos hk]
        exact wk_trunc 4 (by simp [slotsLe, envV_nil]) (by simp only [List.take_succ_cons, List.take_zero]) (by simp only [go_sem, reduceIte, reduceCtorEq, Nat.reduceAdd, Nat.reduceSub, Nat.reduceMul, Nat.reduceLT, Nat.reduceLeDiff, Nat.reduceEqDiff, Nat.reduceBEq, Nat.reduceGT, Int.reduceEq, Int.reduceNe, Int.reduceLT, Int.reduceLE, Int.reduceToNat, Int.reduceNeg, Int.reduceBEq, Int.reduceAdd, Int.reduceSub, Int.reduceGT, Int.reduceGE, Int.reduceBNe, List.forall_mem_cons]) (by simp [below, gOb])
      · simp only [go_sem, reduceIte, reduceCtorEq, Nat.reduceAdd, Nat.reduceSub, Nat.reduceMul, Nat.reduceLT, Nat.reduceLeDiff, Nat.reduceEqDiff, Nat.reduceBEq, Nat.reduceGT, Int.reduceEq, Int.reduceNe, Int.reduceLT, Int.reduceLE, Int.reduceToNat, Int.reduceNeg, Int.reduceBEq, Int.reduceAdd, Int.reduceSub, Int.reduceGT, Int.reduceGE, Int.reduceBNe, decide_eq_true (show (x : Int) < l.length by omega), e0, List.length_map, hlt, hg, tv_len, beq_no hk]
        refine ⟨by omega, callH_of (hcon_close _ _ e) ?_⟩
        simp only [go_sem, reduceIte, reduceCtorEq, Nat.reduceAdd, Nat.reduceSub, Nat.reduceMul, Nat.reduceLT, Nat.reduceLeDiff, Nat.reduceEqDiff, Nat.reduceBEq, Nat.reduceGT, Int.reduceEq, Int.reduceNe, Int.reduceLT, Int.reduceLE, Int.reduceToNat, Int.reduceNeg, Int.reduceBEq, Int.reduceAdd, Int.reduceSub, Int.reduceGT, Int.reduceGE, Int.reduceBNe, hlx x (Nat.le_of_lt hlt), List.length_append, List.length_map, List.length_range', List.length_replicate, e0, hset, show (x : Int) < l.length by omega, show x < x + (l.length - x) by omega, w64 (show fit ((x : Int) + 1) by unfold fit; omega)]
        refine ⟨hlt, ?_⟩
        rw [hstep x hlt, nodeRow, if_neg hk]
        exact wk_trunc 4 (by simp [slotsLe, envV_nil]) (by simp only [List.take_succ_cons, List.take_zero]) (by simp only [go_sem, reduceIte, reduceCtorEq, Nat.reduceAdd, Nat.reduceSub, Nat.reduceMul, Nat.reduceLT, Nat.reduceLeDiff, Nat.reduceEqDiff, Nat.reduceBEq, Nat.reduceGT, Int.reduceEq, Int.reduceNe, Int.reduceLT, Int.reduceLE, Int.reduceToNat, Int.reduceNeg, Int.reduceBEq, Int.reduceAdd, Int.reduceSub, Int.reduceGT, Int.reduceGE, Int.reduceBNe, List.forall_mem_cons]) (by simp [below, gOb])
    · have : x = l.length := by omega
      subst this
      simp only [go_sem, reduceIte, reduceCtorEq, Nat.reduceAdd, Nat.reduceSub, Nat.reduceMul, Nat.reduceLT, Nat.reduceLeDiff, Nat.reduceEqDiff, Nat.reduceBEq, Nat.reduceGT, Int.reduceEq, Int.reduceNe, Int.reduceLT, Int.reduceLE, Int.reduceToNat, Int.reduceNeg, Int.reduceBEq, Int.reduceAdd, Int.reduceSub, Int.reduceGT, Int.reduceGE, Int.reduceBNe, decide_eq_false (show ¬ ((l.length : Nat) : Int) < l.length by omega), List.take_length, Nat.sub_self, List.replicate_zero]
      rw [vlV, vlC, thsV_ne (by simp [List.range'_eq_nil_iff]; omega), List.take_of_length_le (by simp)]
  · simp only [List.take_zero, nodeRows, List.append_nil, List.range'_zero, List.map_nil, List.nil_append, Nat.sub_zero]
    exact wk_slots (by simp [slotsLe])
end Go.Proofs.YtdpigpopcbjkmaaDoor.Abs
