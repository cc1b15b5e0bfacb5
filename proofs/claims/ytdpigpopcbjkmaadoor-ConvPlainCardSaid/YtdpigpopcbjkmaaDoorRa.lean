/- Reckon: what stands for what; the small functions. -/
import Derived.Test.YtdpigpopcbjkmaaDoorAfR
import Derived.Test.YtdpigpopcbjkmaaDoorUn
import Derived.Test.YtdpigpopcbjkmaaDoorFc
set_option linter.unusedSimpArgs false
set_option linter.unusedVariables false
namespace Go.Proofs.YtdpigpopcbjkmaaDoor.Abs
open Go Go.RowKit Go.Proofs.YtdpigpopcbjkmaaDoor

/-- A function that turns the global store. -/
abbrev HCon (f : Nat) (G : List (List SV)) (args : List SV) (out : HOut) (G' : List (List SV)) : Prop := HContract Tryd.prog f G args out G'

/-- An environment: the numbers of its thunks, the innermost first. -/
def envV : List Nat → SV
  | [] => .nilp
  | h :: t => .dref 3 [.gp h 0, envV t, .int .i64 ((t.length : Int) + 1)] 0
theorem envV_nil : envV [] = .nilp := rfl
theorem envV_cons {h : Nat} {t : List Nat} : envV (h :: t) = .dref 3 [.gp h 0, envV t, .int .i64 ((t.length : Int) + 1)] 0 := Eq.trans rfl rfl

theorem envV_closed (e : List Nat) {hp : List Ob} : closeV hp (envV e) = some (envV e, hp) ∧ closeC hp (envV e) = some (envV e, hp) ∧ idsV hp (envV e) = [] ∧ idsC (envV e) = [] ∧ (envV e).closed = true ∧ (envV e).ok = true ∧ cellsOf (envV e) = [envV e] := by
  cases e <;> exact ⟨rfl, rfl, rfl, rfl, rfl, rfl, rfl⟩
theorem env_cv {e : List Nat} {hp : List Ob} : closeV hp (envV e) = some (envV e, hp) := (envV_closed e).1
theorem env_cc {e : List Nat} {hp : List Ob} : closeC hp (envV e) = some (envV e, hp) := (envV_closed e).2.1
theorem env_iv {e : List Nat} {hp : List Ob} : idsV hp (envV e) = [] := (envV_closed e).2.2.1
theorem env_ic {e : List Nat} : idsC (envV e) = [] := (envV_closed (hp := []) e).2.2.2.1
theorem env_cl {e : List Nat} : (envV e).closed = true := (envV_closed (hp := []) e).2.2.2.2.1
theorem env_ok {e : List Nat} : (envV e).ok = true := (envV_closed (hp := []) e).2.2.2.2.2.1
theorem env_ce {e : List Nat} : cellsOf (envV e) = [envV e] := (envV_closed (hp := []) e).2.2.2.2.2.2
attribute [go_sem] env_cv env_cc env_iv env_ic env_cl env_ok env_ce

theorem con_size (e : List Nat) : Con 55 [envV e] (.int .i64 e.length) := by
  refine contract_of_vc mixed Tryd.func55 tr55 ?_
  cases e with
  | nil => simp only [go_sem, reduceIte, reduceCtorEq, Nat.reduceAdd, Nat.reduceSub, Nat.reduceMul, Nat.reduceLT, Nat.reduceLeDiff, Nat.reduceEqDiff, Nat.reduceBEq, Nat.reduceGT, Int.reduceEq, Int.reduceNe, Int.reduceLT, Int.reduceLE, Int.reduceToNat, Int.reduceNeg, Int.reduceBEq, Int.reduceAdd, Int.reduceSub, Int.reduceGT, Int.reduceGE, Int.reduceBNe, envV_nil, List.length_nil]; try rfl
  | cons h t => simp only [go_sem, reduceIte, reduceCtorEq, Nat.reduceAdd, Nat.reduceSub, Nat.reduceMul, Nat.reduceLT, Nat.reduceLeDiff, Nat.reduceEqDiff, Nat.reduceBEq, Nat.reduceGT, Int.reduceEq, Int.reduceNe, Int.reduceLT, Int.reduceLE, Int.reduceToNat, Int.reduceNeg, Int.reduceBEq, Int.reduceAdd, Int.reduceSub, Int.reduceGT, Int.reduceGE, Int.reduceBNe, envV_cons]; simp

theorem con_push (e : List Nat) (i : Nat) (h : fit ((e.length : Int) + 1)) : Con 52 [envV e, .gp i 0] (envV (i :: e)) := by
  refine contract_of_vc mixed Tryd.func52 tr52 ?_
  simp only [go_sem, reduceIte, reduceCtorEq, Nat.reduceAdd, Nat.reduceSub, Nat.reduceMul, Nat.reduceLT, Nat.reduceLeDiff, Nat.reduceEqDiff, Nat.reduceBEq, Nat.reduceGT, Int.reduceEq, Int.reduceNe, Int.reduceLT, Int.reduceLE, Int.reduceToNat, Int.reduceNeg, Int.reduceBEq, Int.reduceAdd, Int.reduceSub, Int.reduceGT, Int.reduceGE, Int.reduceBNe]
  refine callK_of (con_size e) ?_
  simp only [go_sem, reduceIte, reduceCtorEq, Nat.reduceAdd, Nat.reduceSub, Nat.reduceMul, Nat.reduceLT, Nat.reduceLeDiff, Nat.reduceEqDiff, Nat.reduceBEq, Nat.reduceGT, Int.reduceEq, Int.reduceNe, Int.reduceLT, Int.reduceLE, Int.reduceToNat, Int.reduceNeg, Int.reduceBEq, Int.reduceAdd, Int.reduceSub, Int.reduceGT, Int.reduceGE, Int.reduceBNe, w64 h, envV_cons]

/-- A machine. -/
def mRow (steps most seen guess : Int) (j : Nat) : List SV := [.int .i64 steps, .int .i64 most, .int .i64 seen, .int .i64 guess, .mp j]

theorem gset_self {G : List (List SV)} {m : Nat} {r x : List SV} (h : G[m]? = some r) : (G.set m x)[m]? = some x := by
  rw [List.getElem?_set_self]
  rcases Nat.lt_or_ge m G.length with h1 | h1
  · exact h1
  · rw [List.getElem?_eq_none h1] at h; cases h
theorem gset_same {G : List (List SV)} {m : Nat} {r : List SV} (h : G[m]? = some r) : G.set m r = G := by
  refine List.ext_getElem? fun i => ?_
  by_cases hi : m = i
  · subst hi; rw [gset_self h, h]
  · rw [List.getElem?_set_ne hi]
theorem set_set' {α : Type} {l : List α} {i : Nat} {a b : α} : (l.set i a).set i b = l.set i b := List.set_set ..

theorem nil_ref {e : List Nat} (kd : Nat) (op : BinOp) : evBin kd op (envV e) .nilp = if kd = 2 then eqB op e.isEmpty else none := by cases e <;> rfl
attribute [go_sem] nil_ref

theorem con_look (e : List Nat) (k : Nat) (hk : fit k) : Con 54 [envV e, .int .i64 k] (match e[k]? with | some i => .gp i 0 | none => .nilp) := by
  refine contract_of_vc mixed Tryd.func54 tr54 ?_
  simp only [go_sem, reduceIte, reduceCtorEq, Nat.reduceAdd, Nat.reduceSub, Nat.reduceMul, Nat.reduceLT, Nat.reduceLeDiff, Nat.reduceEqDiff, Nat.reduceBEq, Nat.reduceGT, Int.reduceEq, Int.reduceNe, Int.reduceLT, Int.reduceLE, Int.reduceToNat, Int.reduceNeg, Int.reduceBEq, Int.reduceAdd, Int.reduceSub, Int.reduceGT, Int.reduceGE, Int.reduceBNe]
  refine callK_of (con_size e) ?_
  by_cases h : k < e.length
  · simp only [go_sem, reduceIte, reduceCtorEq, Nat.reduceAdd, Nat.reduceSub, Nat.reduceMul, Nat.reduceLT, Nat.reduceLeDiff, Nat.reduceEqDiff, Nat.reduceBEq, Nat.reduceGT, Int.reduceEq, Int.reduceNe, Int.reduceLT, Int.reduceLE, Int.reduceToNat, Int.reduceNeg, Int.reduceBEq, Int.reduceAdd, Int.reduceSub, Int.reduceGT, Int.reduceGE, Int.reduceBNe, decide_eq_false (show ¬ (k : Int) ≥ e.length by omega), List.getElem?_eq_getElem h]
    refine vc_for (fun i => ⟨(envV (e.drop i) :: .int .i64 ((k - i : Nat) : Int) :: .junk :: .junk :: .nilp :: .junk :: .junk :: .junk :: .junk :: .junk :: .junk :: .junk :: .junk :: .junk :: .junk :: .junk :: .junk :: .junk :: .junk :: .junk :: .junk :: []), []⟩) k (fun i hi => ?_) ?_
    · by_cases hk0 : k - i > 0
      · have hd : e.drop i = e[i] :: e.drop (i + 1) := by rw [List.drop_eq_getElem_cons (by omega)]
        simp only [go_sem, reduceIte, reduceCtorEq, Nat.reduceAdd, Nat.reduceSub, Nat.reduceMul, Nat.reduceLT, Nat.reduceLeDiff, Nat.reduceEqDiff, Nat.reduceBEq, Nat.reduceGT, Int.reduceEq, Int.reduceNe, Int.reduceLT, Int.reduceLE, Int.reduceToNat, Int.reduceNeg, Int.reduceBEq, Int.reduceAdd, Int.reduceSub, Int.reduceGT, Int.reduceGE, Int.reduceBNe, decide_eq_true (show ((k - i : Nat) : Int) > 0 by omega), hd, envV_cons, w64 (show fit (((k - i : Nat) : Int) - 1) by unfold fit at hk ⊢; omega)]
        refine ⟨by omega, ?_⟩
        rw [show ((k - i : Nat) : Int) - 1 = ((k - (i + 1) : Nat) : Int) by omega]
        exact wk_slots (by simp [slotsLe])
      · have hik : i = k := by omega
        subst hik
        have hd : e.drop i = e[i] :: e.drop (i + 1) := by rw [List.drop_eq_getElem_cons (by omega)]
        simp only [go_sem, reduceIte, reduceCtorEq, Nat.reduceAdd, Nat.reduceSub, Nat.reduceMul, Nat.reduceLT, Nat.reduceLeDiff, Nat.reduceEqDiff, Nat.reduceBEq, Nat.reduceGT, Int.reduceEq, Int.reduceNe, Int.reduceLT, Int.reduceLE, Int.reduceToNat, Int.reduceNeg, Int.reduceBEq, Int.reduceAdd, Int.reduceSub, Int.reduceGT, Int.reduceGE, Int.reduceBNe, decide_eq_false hk0, decide_eq_false (show ¬ ((i - i : Nat) : Int) > 0 by omega), hd, envV_cons]
    · simp only [List.drop_zero, Nat.sub_zero]
      exact wk_slots (by simp [slotsLe])
  · simp only [go_sem, reduceIte, reduceCtorEq, Nat.reduceAdd, Nat.reduceSub, Nat.reduceMul, Nat.reduceLT, Nat.reduceLeDiff, Nat.reduceEqDiff, Nat.reduceBEq, Nat.reduceGT, Int.reduceEq, Int.reduceNe, Int.reduceLT, Int.reduceLE, Int.reduceToNat, Int.reduceNeg, Int.reduceBEq, Int.reduceAdd, Int.reduceSub, Int.reduceGT, Int.reduceGE, Int.reduceBNe, decide_eq_true (show (k : Int) ≥ e.length by omega), List.getElem?_eq_none (show e.length ≤ k by omega)]

set_option maxRecDepth 10000 in
theorem hcon_work0 {G : List (List SV)} {m j : Nat} {steps most seen guess : Int} (hG : G[m]? = some (mRow steps most seen guess j)) (hg : ¬ guess > 0) : HCon 50 G [.gp m 0] (.ret (.tup [])) G := by
  refine hcontract_of_vc mixed Tryd.func50 tr50 ?_
  simp only [go_sem, reduceIte, reduceCtorEq, Nat.reduceAdd, Nat.reduceSub, Nat.reduceMul, Nat.reduceLT, Nat.reduceLeDiff, Nat.reduceEqDiff, Nat.reduceBEq, Nat.reduceGT, Int.reduceEq, Int.reduceNe, Int.reduceLT, Int.reduceLE, Int.reduceToNat, Int.reduceNeg, Int.reduceBEq, Int.reduceAdd, Int.reduceSub, Int.reduceGT, Int.reduceGE, Int.reduceBNe, hG, mRow, decide_eq_false hg]

/-- What is left of a guess by one thing more. -/
def guessed (g : Int) : Int := if g > 0 then g - 1 else g

set_option maxRecDepth 10000 in
theorem hcon_work {G : List (List SV)} {m j : Nat} {steps most seen guess : Int} (hG : G[m]? = some (mRow steps most seen guess j)) (hf : fit guess) (hg : guess ≠ 1) : HCon 50 G [.gp m 0] (.ret (.tup [])) (G.set m (mRow steps most seen (guessed guess) j)) := by
  by_cases h : guess > 0
  · refine hcontract_of_vc mixed Tryd.func50 tr50 ?_
    simp only [go_sem, reduceIte, reduceCtorEq, Nat.reduceAdd, Nat.reduceSub, Nat.reduceMul, Nat.reduceLT, Nat.reduceLeDiff, Nat.reduceEqDiff, Nat.reduceBEq, Nat.reduceGT, Int.reduceEq, Int.reduceNe, Int.reduceLT, Int.reduceLE, Int.reduceToNat, Int.reduceNeg, Int.reduceBEq, Int.reduceAdd, Int.reduceSub, Int.reduceGT, Int.reduceGE, Int.reduceBNe, hG, mRow, decide_eq_true h, w64 (show fit (guess - 1) by unfold fit at hf ⊢; omega), spl_cell, gset_self hG, beq_no (show guess - 1 ≠ 0 by omega), guessed, if_pos h]
  · rw [show G.set m (mRow steps most seen (guessed guess) j) = G by rw [guessed, if_neg h]; exact gset_same hG]
    exact hcon_work0 hG h

set_option maxRecDepth 10000 in
theorem hcon_work1 {G : List (List SV)} {m j : Nat} {steps most seen : Int} (hG : G[m]? = some (mRow steps most seen 1 j)) : HCon 50 G [.gp m 0] (.pan (.ife 90)) (G.set m (mRow steps most seen 0 j)) := by
  refine hcontract_of_vc mixed Tryd.func50 tr50 ?_
  simp only [go_sem, reduceIte, reduceCtorEq, Nat.reduceAdd, Nat.reduceSub, Nat.reduceMul, Nat.reduceLT, Nat.reduceLeDiff, Nat.reduceEqDiff, Nat.reduceBEq, Nat.reduceGT, Int.reduceEq, Int.reduceNe, Int.reduceLT, Int.reduceLE, Int.reduceToNat, Int.reduceNeg, Int.reduceBEq, Int.reduceAdd, Int.reduceSub, Int.reduceGT, Int.reduceGE, Int.reduceBNe, hG, mRow, spl_cell, gset_self hG]
  exact ⟨rfl, rfl⟩

set_option maxRecDepth 10000 in
theorem hcon_see {G : List (List SV)} {m j : Nat} {steps most seen guess : Int} (hG : G[m]? = some (mRow steps most seen guess j)) (hf : fit guess) (hg : guess ≠ 1) (h0 : 0 ≤ seen) (hs : seen < 8000000) :
    HCon 34 G [.gp m 0] (.ret (.tup [])) (G.set m (mRow steps most (seen + 1) (guessed guess) j)) := by
  refine hcontract_of_vc mixed Tryd.func34 tr34 ?_
  simp only [go_sem, reduceIte, reduceCtorEq, Nat.reduceAdd, Nat.reduceSub, Nat.reduceMul, Nat.reduceLT, Nat.reduceLeDiff, Nat.reduceEqDiff, Nat.reduceBEq, Nat.reduceGT, Int.reduceEq, Int.reduceNe, Int.reduceLT, Int.reduceLE, Int.reduceToNat, Int.reduceNeg, Int.reduceBEq, Int.reduceAdd, Int.reduceSub, Int.reduceGT, Int.reduceGE, Int.reduceBNe]
  refine callH_of (hcon_work hG hf hg) ?_
  simp only [go_sem, reduceIte, reduceCtorEq, Nat.reduceAdd, Nat.reduceSub, Nat.reduceMul, Nat.reduceLT, Nat.reduceLeDiff, Nat.reduceEqDiff, Nat.reduceBEq, Nat.reduceGT, Int.reduceEq, Int.reduceNe, Int.reduceLT, Int.reduceLE, Int.reduceToNat, Int.reduceNeg, Int.reduceBEq, Int.reduceAdd, Int.reduceSub, Int.reduceGT, Int.reduceGE, Int.reduceBNe, mRow, gset_self hG, spl_cell, set_set', w64 (show fit (seen + 1) by unfold fit; omega), decide_eq_false (show ¬ seen + 1 > 8000000 by omega)]

set_option maxRecDepth 10000 in
theorem hcon_see_out {G : List (List SV)} {m j : Nat} {steps most guess : Int} (hG : G[m]? = some (mRow steps most 8000000 guess j)) (hf : fit guess) (hg : guess ≠ 1) :
    HCon 34 G [.gp m 0] (.pan (.ife 49)) (G.set m (mRow steps most 8000001 (guessed guess) j)) := by
  refine hcontract_of_vc mixed Tryd.func34 tr34 ?_
  simp only [go_sem, reduceIte, reduceCtorEq, Nat.reduceAdd, Nat.reduceSub, Nat.reduceMul, Nat.reduceLT, Nat.reduceLeDiff, Nat.reduceEqDiff, Nat.reduceBEq, Nat.reduceGT, Int.reduceEq, Int.reduceNe, Int.reduceLT, Int.reduceLE, Int.reduceToNat, Int.reduceNeg, Int.reduceBEq, Int.reduceAdd, Int.reduceSub, Int.reduceGT, Int.reduceGE, Int.reduceBNe]
  refine callH_of (hcon_work hG hf hg) ?_
  simp only [go_sem, reduceIte, reduceCtorEq, Nat.reduceAdd, Nat.reduceSub, Nat.reduceMul, Nat.reduceLT, Nat.reduceLeDiff, Nat.reduceEqDiff, Nat.reduceBEq, Nat.reduceGT, Int.reduceEq, Int.reduceNe, Int.reduceLT, Int.reduceLE, Int.reduceToNat, Int.reduceNeg, Int.reduceBEq, Int.reduceAdd, Int.reduceSub, Int.reduceGT, Int.reduceGE, Int.reduceBNe, mRow, gset_self hG, spl_cell, set_set', show IntKind.i64.wrap 8000001 = 8000001 from by decide]
  exact ⟨rfl, rfl⟩

set_option maxRecDepth 10000 in
theorem hcon_take {G : List (List SV)} {m j : Nat} {steps most seen guess : Int} (hG : G[m]? = some (mRow steps most seen guess j)) (hf : fit guess) (hg : guess ≠ 1) (hs : steps < most) (hfs : fit (steps + 1)) :
    HCon 59 G [.gp m 0] (.ret (.tup [])) (G.set m (mRow (steps + 1) most seen (guessed guess) j)) := by
  refine hcontract_of_vc mixed Tryd.func59 tr59 ?_
  simp only [go_sem, reduceIte, reduceCtorEq, Nat.reduceAdd, Nat.reduceSub, Nat.reduceMul, Nat.reduceLT, Nat.reduceLeDiff, Nat.reduceEqDiff, Nat.reduceBEq, Nat.reduceGT, Int.reduceEq, Int.reduceNe, Int.reduceLT, Int.reduceLE, Int.reduceToNat, Int.reduceNeg, Int.reduceBEq, Int.reduceAdd, Int.reduceSub, Int.reduceGT, Int.reduceGE, Int.reduceBNe]
  refine callH_of (hcon_work hG hf hg) ?_
  simp only [go_sem, reduceIte, reduceCtorEq, Nat.reduceAdd, Nat.reduceSub, Nat.reduceMul, Nat.reduceLT, Nat.reduceLeDiff, Nat.reduceEqDiff, Nat.reduceBEq, Nat.reduceGT, Int.reduceEq, Int.reduceNe, Int.reduceLT, Int.reduceLE, Int.reduceToNat, Int.reduceNeg, Int.reduceBEq, Int.reduceAdd, Int.reduceSub, Int.reduceGT, Int.reduceGE, Int.reduceBNe, mRow, gset_self hG, spl_cell, set_set', w64 hfs, decide_eq_false (show ¬ steps ≥ most by omega)]

set_option maxRecDepth 10000 in
theorem hcon_take_out {G : List (List SV)} {m j : Nat} {steps most seen guess : Int} (hG : G[m]? = some (mRow steps most seen guess j)) (hf : fit guess) (hg : guess ≠ 1) (hs : ¬ steps < most) :
    HCon 59 G [.gp m 0] (.pan (.ife 49)) (G.set m (mRow steps most seen (guessed guess) j)) := by
  refine hcontract_of_vc mixed Tryd.func59 tr59 ?_
  simp only [go_sem, reduceIte, reduceCtorEq, Nat.reduceAdd, Nat.reduceSub, Nat.reduceMul, Nat.reduceLT, Nat.reduceLeDiff, Nat.reduceEqDiff, Nat.reduceBEq, Nat.reduceGT, Int.reduceEq, Int.reduceNe, Int.reduceLT, Int.reduceLE, Int.reduceToNat, Int.reduceNeg, Int.reduceBEq, Int.reduceAdd, Int.reduceSub, Int.reduceGT, Int.reduceGE, Int.reduceBNe]
  refine callH_of (hcon_work hG hf hg) ?_
  simp only [go_sem, reduceIte, reduceCtorEq, Nat.reduceAdd, Nat.reduceSub, Nat.reduceMul, Nat.reduceLT, Nat.reduceLeDiff, Nat.reduceEqDiff, Nat.reduceBEq, Nat.reduceGT, Int.reduceEq, Int.reduceNe, Int.reduceLT, Int.reduceLE, Int.reduceToNat, Int.reduceNeg, Int.reduceBEq, Int.reduceAdd, Int.reduceSub, Int.reduceGT, Int.reduceGE, Int.reduceBNe, mRow, gset_self hG, spl_cell, set_set', decide_eq_true (show steps ≥ most by omega)]
  exact ⟨rfl, rfl⟩

theorem hcon_new (G : List (List SV)) (most : Int) : HCon 18 G [.int .i64 most] (.ret (.gp (G.length + 1) 0)) (G ++ [[.undef], mRow 0 most 0 0 G.length]) := by
  refine hcontract_of_vc mixed Tryd.func18 tr18 ?_
  simp only [go_sem, reduceIte, reduceCtorEq, Nat.reduceAdd, Nat.reduceSub, Nat.reduceMul, Nat.reduceLT, Nat.reduceLeDiff, Nat.reduceEqDiff, Nat.reduceBEq, Nat.reduceGT, Int.reduceEq, Int.reduceNe, Int.reduceLT, Int.reduceLE, Int.reduceToNat, Int.reduceNeg, Int.reduceBEq, Int.reduceAdd, Int.reduceSub, Int.reduceGT, Int.reduceGE, Int.reduceBNe, mRow, List.append_assoc]

set_option maxRecDepth 10000 in
theorem hcon_renew {G : List (List SV)} {m j : Nat} {steps most seen guess : Int} (hG : G[m]? = some (mRow steps most seen guess j)) (most' : Int) :
    HCon 44 G [.gp m 0, .int .i64 most'] (.ret (.tup [])) (G.set m (mRow 0 most' 0 guess j)) := by
  refine hcontract_of_vc mixed Tryd.func44 tr44 ?_
  simp only [go_sem, reduceIte, reduceCtorEq, Nat.reduceAdd, Nat.reduceSub, Nat.reduceMul, Nat.reduceLT, Nat.reduceLeDiff, Nat.reduceEqDiff, Nat.reduceBEq, Nat.reduceGT, Int.reduceEq, Int.reduceNe, Int.reduceLT, Int.reduceLE, Int.reduceToNat, Int.reduceNeg, Int.reduceBEq, Int.reduceAdd, Int.reduceSub, Int.reduceGT, Int.reduceGE, Int.reduceBNe, hG, mRow, gset_self hG, spl_cell, set_set']

/-- A value: its numbers, its level, its kids. -/
structure Vl where
  k : Int
  i : Int
  j : Int
  n : Int
  level : Int
  kids : List Nat
/-- A row of thunks. -/
def thsV : List Nat → SV
  | [] => .nils
  | i :: l => .dsl 1 ([.gp i 0] :: l.map fun i => [.gp i 0])
theorem thsV_nil : thsV [] = .nils := rfl
theorem thsV_cons {i : Nat} {l : List Nat} : thsV (i :: l) = .dsl 1 ([.gp i 0] :: l.map fun i => [.gp i 0]) := Eq.trans rfl rfl
theorem thsV_ne {l : List Nat} (h : l ≠ []) : thsV l = .dsl 1 (l.map fun i => [.gp i 0]) := by
  cases l with
  | nil => exact absurd rfl h
  | cons i l => rfl
def vlC (v : Vl) : List SV := [.int .i64 v.k, .int .i64 v.i, .int .i64 v.j, .int .i64 v.n, .int .i64 v.level, thsV v.kids]
def vlV (v : Vl) : SV := .dref 6 (vlC v) 0
/-- A thunk. -/
structure Th where
  t : Tm
  env : List Nat
  bare : Bool
  w : Option Vl
  v : Option Vl
def optV : Option Vl → SV
  | none => .nilp
  | some v => vlV v
def thT (x : Th) : List SV := if x.bare then [.int .i64 0, .int .i64 0, .int .i64 0, .int .i64 0, .nils] else tv x.t
def thR (x : Th) : List SV := thT x ++ [envV x.env, .bool x.bare, optV x.w, optV x.v]
theorem thT_len (x : Th) : (thT x).length = 5 := by unfold thT; split <;> simp [tv_len]
theorem thR_len {x : Th} : (thR x).length = 9 := by simp [thR, thT_len]
theorem thT_cells (x : Th) : ∃ a b c d f, thT x = [a, b, c, d, f] := by
  have h := thT_len x
  match thT x, h with
  | [a, b, c, d, f], _ => exact ⟨a, b, c, d, f, rfl⟩
theorem thR_t {t : Tm} {e : List Nat} {w v : Option Vl} {cl : Bool} : cut cl 9 true 5 0 (thR ⟨t, e, false, w, v⟩) = .agg cl (tv t) := by simp [cut, thR, thT, tv_cells]
theorem thR_5 {x : Th} {cl : Bool} : cut cl 9 false 1 5 (thR x) = envV x.env := by
  obtain ⟨a, b, c, d, f, h⟩ := thT_cells x
  simp [cut, thR, h]
theorem thR_6 {x : Th} {cl : Bool} : cut cl 9 false 1 6 (thR x) = .bool x.bare := by
  obtain ⟨a, b, c, d, f, h⟩ := thT_cells x
  simp [cut, thR, h]
theorem thR_7 {x : Th} {cl : Bool} : cut cl 9 false 1 7 (thR x) = optV x.w := by
  obtain ⟨a, b, c, d, f, h⟩ := thT_cells x
  simp [cut, thR, h]
theorem thR_8 {x : Th} {cl : Bool} : cut cl 9 false 1 8 (thR x) = optV x.v := by
  obtain ⟨a, b, c, d, f, h⟩ := thT_cells x
  simp [cut, thR, h]
theorem thR_s7 {x : Th} {v : Vl} : splice 9 1 7 (thR x) [vlV v] = thR { x with w := some v } := by
  obtain ⟨a, b, c, d, f, h⟩ := thT_cells x
  have h2 : thT { x with w := some v } = [a, b, c, d, f] := h
  simp [splice, thR, h, h2, optV]
theorem thR_s8 {x : Th} {v : Vl} : splice 9 1 8 (thR x) [vlV v] = thR { x with v := some v } := by
  obtain ⟨a, b, c, d, f, h⟩ := thT_cells x
  have h2 : thT { x with v := some v } = [a, b, c, d, f] := h
  simp [splice, thR, h, h2, optV]
theorem thR_g5 {x : Th} : (thR x)[5]?.getD .undef = envV x.env := by
  obtain ⟨a, b, c, d, f, h⟩ := thT_cells x
  simp [thR, h]
theorem thR_g6 {x : Th} : (thR x)[6]?.getD .undef = .bool x.bare := by
  obtain ⟨a, b, c, d, f, h⟩ := thT_cells x
  simp [thR, h]
theorem thR_g7 {x : Th} : (thR x)[7]?.getD .undef = optV x.w := by
  obtain ⟨a, b, c, d, f, h⟩ := thT_cells x
  simp [thR, h]
theorem thR_g8 {x : Th} : (thR x)[8]?.getD .undef = optV x.v := by
  obtain ⟨a, b, c, d, f, h⟩ := thT_cells x
  simp [thR, h]
theorem vlC_g0 {v : Vl} : (vlC v)[0]?.getD .undef = .int .i64 v.k := Eq.trans rfl rfl
theorem vlC_g1 {v : Vl} : (vlC v)[1]?.getD .undef = .int .i64 v.i := Eq.trans rfl rfl
theorem vlC_g2 {v : Vl} : (vlC v)[2]?.getD .undef = .int .i64 v.j := Eq.trans rfl rfl
theorem vlC_g3 {v : Vl} : (vlC v)[3]?.getD .undef = .int .i64 v.n := Eq.trans rfl rfl
theorem vlC_g4 {v : Vl} : (vlC v)[4]?.getD .undef = .int .i64 v.level := Eq.trans rfl rfl
theorem vlC_g5 {v : Vl} : (vlC v)[5]?.getD .undef = thsV v.kids := Eq.trans rfl rfl
theorem vlC_len {v : Vl} : (vlC v).length = 6 := Eq.trans rfl rfl
theorem thR_mp {x : Th} : isMp (thR x) = false := by
  obtain ⟨a, b, c, d, f, h⟩ := thT_cells x
  simp [isMp, thR, h]
theorem vl_cv {v : Vl} {hp : List Ob} : closeV hp (vlV v) = some (vlV v, hp) := Eq.trans rfl rfl
theorem vl_cc {v : Vl} {hp : List Ob} : closeC hp (vlV v) = some (vlV v, hp) := Eq.trans rfl rfl
theorem vl_iv {v : Vl} {hp : List Ob} : idsV hp (vlV v) = [] := Eq.trans rfl rfl
theorem vl_ic {v : Vl} : idsC (vlV v) = [] := Eq.trans rfl rfl
theorem vl_cl {v : Vl} : (vlV v).closed = true := Eq.trans rfl rfl
theorem vl_ok {v : Vl} : (vlV v).ok = true := Eq.trans rfl rfl
theorem vl_ce {v : Vl} : cellsOf (vlV v) = [vlV v] := Eq.trans rfl rfl
theorem vl_bl {v : Vl} (n : Nat) : below n (vlV v) = true := Eq.trans rfl rfl
theorem opt_some {v : Vl} : optV (some v) = vlV v := Eq.trans rfl rfl
theorem opt_none : optV none = .nilp := Eq.trans rfl rfl
attribute [go_sem] thR_g5 thR_g6 thR_g7 thR_g8 vlC_g0 vlC_g1 vlC_g2 vlC_g3 vlC_g4 vlC_g5 vlC_len thR_len thR_t thR_5 thR_6 thR_7 thR_8 thR_s7 thR_s8 thR_mp vl_cv vl_cc vl_iv vl_ic vl_cl vl_ok vl_ce vl_bl

theorem fill_59 {a b c d f c0 c1 c2 c3 c4 c5 c6 c7 c8 : SV} {r : List (Nat × Nat × SV)} : fill [c0, c1, c2, c3, c4, c5, c6, c7, c8] ((0, 5, .agg true [a, b, c, d, f]) :: r) = fill [a, b, c, d, f, c5, c6, c7, c8] r := by
  simp [fill, splice, cellsOf]
attribute [go_sem] fill_59

theorem hcon_close (G : List (List SV)) (t : Tm) (e : List Nat) : HCon 21 G [.agg true (tv t), envV e] (.ret (.gp G.length 0)) (G ++ [thR ⟨t, e, false, none, none⟩]) := by
  refine hcontract_of_vc mixed Tryd.func21 tr21 ?_
  simp only [go_sem, reduceIte, reduceCtorEq, Nat.reduceAdd, Nat.reduceSub, Nat.reduceMul, Nat.reduceLT, Nat.reduceLeDiff, Nat.reduceEqDiff, Nat.reduceBEq, Nat.reduceGT, Int.reduceEq, Int.reduceNe, Int.reduceLT, Int.reduceLE, Int.reduceToNat, Int.reduceNeg, Int.reduceBEq, Int.reduceAdd, Int.reduceSub, Int.reduceGT, Int.reduceGE, Int.reduceBNe, tv_cells, thR, thT, optV]

/-- A value's thunk: no term is there. -/
def doneR (w : Option Vl) (v : Option Vl) : List SV := thR ⟨.mk 0 0 0 0 [], [], true, w, v⟩
theorem hcon_done (G : List (List SV)) (v : Vl) : HCon 67 G [vlV v] (.ret (.gp G.length 0)) (G ++ [doneR (some v) none]) := by
  refine hcontract_of_vc mixed Tryd.func67 tr67 ?_
  simp only [go_sem, reduceIte, reduceCtorEq, Nat.reduceAdd, Nat.reduceSub, Nat.reduceMul, Nat.reduceLT, Nat.reduceLeDiff, Nat.reduceEqDiff, Nat.reduceBEq, Nat.reduceGT, Int.reduceEq, Int.reduceNe, Int.reduceLT, Int.reduceLE, Int.reduceToNat, Int.reduceNeg, Int.reduceBEq, Int.reduceAdd, Int.reduceSub, Int.reduceGT, Int.reduceGE, Int.reduceBNe, doneR, thR, thT, optV, vlV, envV_nil]

theorem hcon_fresh (G : List (List SV)) (level : Int) : HCon 53 G [.int .i64 level] (.ret (.gp G.length 0)) (G ++ [doneR (some ⟨2, 0, 0, 0, level, []⟩) none]) := by
  refine hcontract_of_vc mixed Tryd.func53 tr53 ?_
  simp only [go_sem, reduceIte, reduceCtorEq, Nat.reduceAdd, Nat.reduceSub, Nat.reduceMul, Nat.reduceLT, Nat.reduceLeDiff, Nat.reduceEqDiff, Nat.reduceBEq, Nat.reduceGT, Int.reduceEq, Int.reduceNe, Int.reduceLT, Int.reduceLE, Int.reduceToNat, Int.reduceNeg, Int.reduceBEq, Int.reduceAdd, Int.reduceSub, Int.reduceGT, Int.reduceGE, Int.reduceBNe]
  refine callH_of (hcon_done G ⟨2, 0, 0, 0, level, []⟩) ?_
  simp only [go_sem, reduceIte, reduceCtorEq, Nat.reduceAdd, Nat.reduceSub, Nat.reduceMul, Nat.reduceLT, Nat.reduceLeDiff, Nat.reduceEqDiff, Nat.reduceBEq, Nat.reduceGT, Int.reduceEq, Int.reduceNe, Int.reduceLT, Int.reduceLE, Int.reduceToNat, Int.reduceNeg, Int.reduceBEq, Int.reduceAdd, Int.reduceSub, Int.reduceGT, Int.reduceGE, Int.reduceBNe]

theorem con_stuck (k : Int) : Con 58 [.int .i64 k] (.int .i64 (if k = 15 ∨ k = 18 ∨ k = 19 then 0 else if k = 22 then 5 else -1)) := by
  refine contract_of_vc mixed Tryd.func58 tr58 ?_
  by_cases h1 : k = 15
  · subst h1; simp only [go_sem, reduceIte, reduceCtorEq, Nat.reduceAdd, Nat.reduceSub, Nat.reduceMul, Nat.reduceLT, Nat.reduceLeDiff, Nat.reduceEqDiff, Nat.reduceBEq, Nat.reduceGT, Int.reduceEq, Int.reduceNe, Int.reduceLT, Int.reduceLE, Int.reduceToNat, Int.reduceNeg, Int.reduceBEq, Int.reduceAdd, Int.reduceSub, Int.reduceGT, Int.reduceGE, Int.reduceBNe]
  by_cases h2 : k = 18
  · subst h2; simp only [go_sem, reduceIte, reduceCtorEq, Nat.reduceAdd, Nat.reduceSub, Nat.reduceMul, Nat.reduceLT, Nat.reduceLeDiff, Nat.reduceEqDiff, Nat.reduceBEq, Nat.reduceGT, Int.reduceEq, Int.reduceNe, Int.reduceLT, Int.reduceLE, Int.reduceToNat, Int.reduceNeg, Int.reduceBEq, Int.reduceAdd, Int.reduceSub, Int.reduceGT, Int.reduceGE, Int.reduceBNe]
  by_cases h3 : k = 19
  · subst h3; simp only [go_sem, reduceIte, reduceCtorEq, Nat.reduceAdd, Nat.reduceSub, Nat.reduceMul, Nat.reduceLT, Nat.reduceLeDiff, Nat.reduceEqDiff, Nat.reduceBEq, Nat.reduceGT, Int.reduceEq, Int.reduceNe, Int.reduceLT, Int.reduceLE, Int.reduceToNat, Int.reduceNeg, Int.reduceBEq, Int.reduceAdd, Int.reduceSub, Int.reduceGT, Int.reduceGE, Int.reduceBNe]
  by_cases h4 : k = 22
  · subst h4; simp only [go_sem, reduceIte, reduceCtorEq, Nat.reduceAdd, Nat.reduceSub, Nat.reduceMul, Nat.reduceLT, Nat.reduceLeDiff, Nat.reduceEqDiff, Nat.reduceBEq, Nat.reduceGT, Int.reduceEq, Int.reduceNe, Int.reduceLT, Int.reduceLE, Int.reduceToNat, Int.reduceNeg, Int.reduceBEq, Int.reduceAdd, Int.reduceSub, Int.reduceGT, Int.reduceGE, Int.reduceBNe]
  simp only [go_sem, reduceIte, reduceCtorEq, Nat.reduceAdd, Nat.reduceSub, Nat.reduceMul, Nat.reduceLT, Nat.reduceLeDiff, Nat.reduceEqDiff, Nat.reduceBEq, Nat.reduceGT, Int.reduceEq, Int.reduceNe, Int.reduceLT, Int.reduceLE, Int.reduceToNat, Int.reduceNeg, Int.reduceBEq, Int.reduceAdd, Int.reduceSub, Int.reduceGT, Int.reduceGE, Int.reduceBNe, beq_no h1, beq_no h2, beq_no h3, beq_no h4, h1, h2, h3, h4, or_self, if_false]
end Go.Proofs.YtdpigpopcbjkmaaDoor.Abs
