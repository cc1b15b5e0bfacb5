/- Self, Turn, Then, Eq, Of, Moved, by the program and by the page; the page's Point, Points, Type. Printed by genFm.py. -/
import Derived.Test.YtadmdmhocglkfaaFl
set_option linter.unusedSimpArgs false
set_option linter.unusedVariables false
namespace Go.Proofs.Ytadmdmhocglkfaa.Abs
open Go Go.RowKit Go.Proofs.Ytadmdmhocglkfaa

theorem con_r23use (n i j : Int) (rows : List (List SV)) (h2 : rows.length * 56 ≤ 140737488355328) (h5 : ∀ r ∈ rows, r.length = 5) :
    Con 102 [.int .i64 n, .int .i64 i, .int .i64 j, .dsl 5 rows] (.agg true [.int .i64 23, .int .i64 i, .int .i64 j, .int .i64 n, .dsl 5 rows]) := by
  refine contract_of_vc mixed Try.func102 tr102 ?_
  simp only [go_sem, reduceIte, reduceCtorEq, Nat.reduceAdd, Nat.reduceSub, Nat.reduceMul, Nat.reduceLT, Nat.reduceLeDiff, Nat.reduceEqDiff, Nat.reduceBEq, Nat.reduceGT, Int.reduceEq, Int.reduceNe, Int.reduceLT, Int.reduceLE, Int.reduceToNat, Int.reduceNeg, Int.reduceBEq, Int.reduceAdd, Int.reduceSub, Int.reduceGT, Int.reduceGE, Int.reduceBNe]
  refine vc_for (fun x => ⟨(.int .i64 n :: .int .i64 i :: .int .i64 j :: .dsl 5 rows :: .junk :: .junk :: .junk :: .junk :: .ref 0 0 0 0 :: .osl 1 x 0 x :: .int .i64 x :: .junk :: .junk :: .junk :: .junk :: .junk :: .junk :: .junk :: .junk :: .junk :: .junk :: .junk :: .junk :: .junk :: .junk :: .junk :: .junk :: .junk :: .junk :: []),
    [⟨true, 5, [[.int .i64 0, .int .i64 0, .int .i64 0, .int .i64 0, .nils]], 0, 0, true⟩, ⟨false, 5, rows.take x, x - 1, x, true⟩]⟩) rows.length (fun x hx => ?_) ?_
  · simp only [go_sem, reduceIte, reduceCtorEq, Nat.reduceAdd, Nat.reduceSub, Nat.reduceMul, Nat.reduceLT, Nat.reduceLeDiff, Nat.reduceEqDiff, Nat.reduceBEq, Nat.reduceGT, Int.reduceEq, Int.reduceNe, Int.reduceLT, Int.reduceLE, Int.reduceToNat, Int.reduceNeg, Int.reduceBEq, Int.reduceAdd, Int.reduceSub, Int.reduceGT, Int.reduceGE, Int.reduceBNe]
    intro _
    refine ⟨fun h => ?_, fun h => ?_⟩
    · have hlt := of_decide_eq_true h
      have hlt' : x < rows.length := by omega
      have e0 : (0 : Int) ≤ (x : Int) := by omega
      have hm := get_lt (d := []) hlt'
      have h5' := h5 _ hm
      have e1 : (rows.take x).length = x := by simp; omega
      have e2 : (x + 1) * 56 ≤ 140737488355328 := by omega
      have e3 : x + 1 ≤ 140737488355328 := by omega
      simp only [go_sem, reduceIte, reduceCtorEq, Nat.reduceAdd, Nat.reduceSub, Nat.reduceMul, Nat.reduceLT, Nat.reduceLeDiff, Nat.reduceEqDiff, Nat.reduceBEq, Nat.reduceGT, Int.reduceEq, Int.reduceNe, Int.reduceLT, Int.reduceLE, Int.reduceToNat, Int.reduceNeg, Int.reduceBEq, Int.reduceAdd, Int.reduceSub, Int.reduceGT, Int.reduceGE, Int.reduceBNe, hlt, e0, h5', e1, e2, e3, take_next hlt']
      refine ⟨hlt', ?_⟩
      rw [w64 (n := (x : Int) + 1) (by unfold fit; omega)]
      exact wk_trunc 2 (by simp [slotsLe]) (by simp) (by simp [below]) (by simp)
    · have hge := of_decide_eq_false h
      have hxe : x = rows.length := by omega
      subst hxe
      simp only [go_sem, reduceIte, reduceCtorEq, Nat.reduceAdd, Nat.reduceSub, Nat.reduceMul, Nat.reduceLT, Nat.reduceLeDiff, Nat.reduceEqDiff, Nat.reduceBEq, Nat.reduceGT, Int.reduceEq, Int.reduceNe, Int.reduceLT, Int.reduceLE, Int.reduceToNat, Int.reduceNeg, Int.reduceBEq, Int.reduceAdd, Int.reduceSub, Int.reduceGT, Int.reduceGE, Int.reduceBNe, h, List.take_length]
  · exact .trans (.ghost _ 9 5 rfl) (wk_slots (by simp [slotsLe]))

theorem con_r23useT (n i j : Int) (l : List Tm) (hb : l.length * 56 ≤ 140737488355328) : Con 102 [.int .i64 n, .int .i64 i, .int .i64 j, .dsl 5 (l.map tv)] (.agg true (tv (us n i j l))) := by
  unfold us
  rw [tv_mk]
  exact con_r23use n i j (l.map tv) (by simpa using hb) (rows5 l)
theorem con_r23nodeT (k : Int) (l : List Tm) (hb : l.length * 56 ≤ 140737488355328) : Con 94 [.int .i64 k, .dsl 5 (l.map tv)] (.agg true (tv (.mk k 0 0 0 l))) := by
  rw [tv_mk]
  exact con_r23node k (l.map tv) (by simpa using hb) (rows5 l)

theorem wrap1 {i : Int} (h : lev2 i = true) : IntKind.i64.wrap (i + 1) = i + 1 := by
  have := lev2_le h
  exact w64 (by unfold fit; omega)
theorem fit_lev {i : Int} (h : lev2 i = true) : fit i := by
  have := lev2_le h
  unfold fit; omega
theorem fit_lev1 {i : Int} (h : lev2 i = true) : fit (i + 1) := by
  have := lev2_le h
  unfold fit; omega
theorem hright_of {g : HT} (h : hrightB g = true) : lev2 g.i = true ∧ plainT g.a = true ∧ plainT g.b = true ∧ plainT g.x = true ∧ plainT g.y = true ∧ plainT g.h = true := by
  unfold hrightB at h
  simpa [and_assoc] using h
theorem pointF_yes {i : Int} {a x : Tm} (h : lev2 i = true) (ha : plainT a = true) (hx : plainT x = true) : pointF i a x = pt i a x := by
  unfold pointF; rw [if_pos (by simp [h, ha, hx])]
theorem pointsF_yes {i : Int} (h : lev2 i = true) : pointsF i = pts i := by
  unfold pointsF; rw [if_pos h]

def selfF (i : Int) (a x : Tm) : HT := if lev2 i && plains [a, x] then ⟨i, a, a, x, x, .mk 21 0 0 0 [pts i, pt i a x]⟩ else zH
def turnF (g : HT) : HT := if hrightB g then ⟨g.i, g.b, g.a, g.y, g.x, us 3 (g.i + 1) 0 [pts g.i, pt g.i g.a g.x, pt g.i g.b g.y, g.h]⟩ else zH
def thenF (g h : HT) : HT := if hrightB g && (hrightB h && (g.i == h.i)) then ⟨g.i, g.a, h.b, g.x, h.y, us 4 (g.i + 1) 0 [pts g.i, pt g.i g.a g.x, pt g.i g.b g.y, pt g.i h.b h.y, g.h, h.h]⟩ else zH
def eqF (g : HT) : Tm := if hrightB g then us 10 g.i 0 [g.a, g.x, g.y, g.h] else zT
def ofF (i : Int) (a x y e : Tm) : HT := if lev2 i && plains [a, x, y, e] then ⟨i, a, a, x, y, us 11 i 0 [a, x, y, e]⟩ else zH
def movedF (i : Int) (a b p x : Tm) : HT := if lev2 i && plains [a, b, p, x] then ⟨i, a, b, x, us 5 i 0 [a, b, p, x], us 8 i 0 [a, b, p, x]⟩ else zH

theorem con_r23Point (i : Int) (a x : Tm) (ha : TOk a) (hx : TOk x) : Con 32 [.int .i64 i, .agg true (tv a), .agg true (tv x)] (.agg true (tv (pointF i a x))) := by
  have hc := con_r23plain [a, x] (by simp [ha, hx]) (by simp)
  unfold pointF
  cases hb : (lev2 i && plains [a, x])
  · refine (contract_of_vc (r := .agg true [.int .i64 0, .int .i64 0, .int .i64 0, .int .i64 0, .nils]) mixed Try.func32 tr32 ?_).weaken le_zT
    cases hl : lev2 i
    · repeat' first
        | simp (config := { maxSteps := 2000000 }) only [go_sem, reduceIte, reduceCtorEq, Nat.reduceAdd, Nat.reduceSub, Nat.reduceMul, Nat.reduceLT, Nat.reduceLeDiff, Nat.reduceEqDiff, Nat.reduceBEq, Nat.reduceGT, Int.reduceEq, Int.reduceNe, Int.reduceLT, Int.reduceLE, Int.reduceToNat, Int.reduceNeg, Int.reduceBEq, Int.reduceAdd, Int.reduceSub, Int.reduceGT, Int.reduceGE, Int.reduceBNe, hl]
        | refine callK_of (con_r23level2 i) ?_
        | rfl
    · have hp : plains [a, x] = false := by simpa [hl] using hb
      repeat' first
        | simp (config := { maxSteps := 2000000 }) only [go_sem, reduceIte, reduceCtorEq, Nat.reduceAdd, Nat.reduceSub, Nat.reduceMul, Nat.reduceLT, Nat.reduceLeDiff, Nat.reduceEqDiff, Nat.reduceBEq, Nat.reduceGT, Int.reduceEq, Int.reduceNe, Int.reduceLT, Int.reduceLE, Int.reduceToNat, Int.reduceNeg, Int.reduceBEq, Int.reduceAdd, Int.reduceSub, Int.reduceGT, Int.reduceGE, Int.reduceBNe, hl, hp]
        | refine callK_of (con_r23level2 i) ?_
        | refine callK_of (hc) ?_
        | rfl
  · simp only [Bool.and_eq_true] at hb
    have hl := hb.1
    have hpl := hb.2
    simp only [List.all_cons, List.all_nil, Bool.and_true, Bool.and_eq_true] at hpl
    have hi := fit_lev hl
    refine contract_of_vc mixed Try.func32 tr32 ?_
    repeat' first
      | simp (config := { maxSteps := 2000000 }) only [go_sem, reduceIte, reduceCtorEq, Nat.reduceAdd, Nat.reduceSub, Nat.reduceMul, Nat.reduceLT, Nat.reduceLeDiff, Nat.reduceEqDiff, Nat.reduceBEq, Nat.reduceGT, Int.reduceEq, Int.reduceNe, Int.reduceLT, Int.reduceLE, Int.reduceToNat, Int.reduceNeg, Int.reduceBEq, Int.reduceAdd, Int.reduceSub, Int.reduceGT, Int.reduceGE, Int.reduceBNe, hb.1, hb.2, hb.1]
      | refine callK_of (con_r23level2 i) ?_
      | refine callK_of (hc) ?_
      | refine callK_of (con_r23sort i) ?_
      | refine callK_of (con_r23v 0) ?_
      | refine callK_of (con_r23nodeT 17 [so i, vr 0, a, x] (by simp)) ?_
      | rfl

theorem con_r23Points (i : Int) : Con 34 [.int .i64 i] (.agg true (tv (pointsF i))) := by
  unfold pointsF
  cases hl : lev2 i
  · refine (contract_of_vc (r := .agg true [.int .i64 0, .int .i64 0, .int .i64 0, .int .i64 0, .nils]) mixed Try.func34 tr34 ?_).weaken le_zT
    repeat' first
      | simp (config := { maxSteps := 2000000 }) only [go_sem, reduceIte, reduceCtorEq, Nat.reduceAdd, Nat.reduceSub, Nat.reduceMul, Nat.reduceLT, Nat.reduceLeDiff, Nat.reduceEqDiff, Nat.reduceBEq, Nat.reduceGT, Int.reduceEq, Int.reduceNe, Int.reduceLT, Int.reduceLE, Int.reduceToNat, Int.reduceNeg, Int.reduceBEq, Int.reduceAdd, Int.reduceSub, Int.reduceGT, Int.reduceGE, Int.reduceBNe, hl]
      | refine callK_of (con_r23level2 i) ?_
      | rfl
  · refine contract_of_vc mixed Try.func34 tr34 ?_
    repeat' first
      | simp (config := { maxSteps := 2000000 }) only [go_sem, reduceIte, reduceCtorEq, Nat.reduceAdd, Nat.reduceSub, Nat.reduceMul, Nat.reduceLT, Nat.reduceLeDiff, Nat.reduceEqDiff, Nat.reduceBEq, Nat.reduceGT, Int.reduceEq, Int.reduceNe, Int.reduceLT, Int.reduceLE, Int.reduceToNat, Int.reduceNeg, Int.reduceBEq, Int.reduceAdd, Int.reduceSub, Int.reduceGT, Int.reduceGE, Int.reduceBNe, hl]
      | refine callK_of (con_r23level2 i) ?_
      | refine callK_of (con_r23sort i) ?_
      | refine callK_of (con_r23v 0) ?_
      | refine callK_of (con_r23nodeT 16 [so i, vr 0] (by simp)) ?_
      | rfl

theorem con_r23Type (g : HT) (hg : g.ok) : Con 37 [.agg true g.v] (.agg true (tv (typeF g))) := by
  have hc := con_r23right g hg
  unfold typeF
  cases hb : hrightB g
  · refine (contract_of_vc (r := .agg true [.int .i64 0, .int .i64 0, .int .i64 0, .int .i64 0, .nils]) mixed Try.func37 tr37 ?_).weaken le_zT
    unfold HT.v at *
    repeat' first
      | simp (config := { maxSteps := 2000000 }) only [go_sem, reduceIte, reduceCtorEq, Nat.reduceAdd, Nat.reduceSub, Nat.reduceMul, Nat.reduceLT, Nat.reduceLeDiff, Nat.reduceEqDiff, Nat.reduceBEq, Nat.reduceGT, Int.reduceEq, Int.reduceNe, Int.reduceLT, Int.reduceLE, Int.reduceToNat, Int.reduceNeg, Int.reduceBEq, Int.reduceAdd, Int.reduceSub, Int.reduceGT, Int.reduceGE, Int.reduceBNe, hb]
      | refine callK_of (hc) ?_
      | rfl
  · obtain ⟨hl, pa, pb, px, py, ph⟩ := hright_of hb
    refine contract_of_vc mixed Try.func37 tr37 ?_
    simp only [if_true, HT.v] at *
    repeat' first
      | simp (config := { maxSteps := 2000000 }) only [go_sem, reduceIte, reduceCtorEq, Nat.reduceAdd, Nat.reduceSub, Nat.reduceMul, Nat.reduceLT, Nat.reduceLeDiff, Nat.reduceEqDiff, Nat.reduceBEq, Nat.reduceGT, Int.reduceEq, Int.reduceNe, Int.reduceLT, Int.reduceLE, Int.reduceToNat, Int.reduceNeg, Int.reduceBEq, Int.reduceAdd, Int.reduceSub, Int.reduceGT, Int.reduceGE, Int.reduceBNe, hb, hb]
      | refine callK_of (hc) ?_
      | refine callK_of (con_r23useT 6 g.i 0 [g.a, g.b, g.x, g.y] (by simp)) ?_
      | rfl

theorem con_hSelf (i : Int) (a x : Tm) (ha : TOk a) (hx : TOk x) : Con 65 [.int .i64 i, .agg true (tv a), .agg true (tv x)] (.agg true (selfF i a x).v) := by
  have hc := con_hplain [a, x] (by simp [ha, hx]) (by simp)
  unfold selfF
  cases hb : (lev2 i && plains [a, x])
  · refine (contract_of_vc (r := .agg true [.int .i64 0, .int .i64 0, .int .i64 0, .int .i64 0, .int .i64 0, .nils, .int .i64 0, .int .i64 0, .int .i64 0, .int .i64 0, .nils, .int .i64 0, .int .i64 0, .int .i64 0, .int .i64 0, .nils, .int .i64 0, .int .i64 0, .int .i64 0, .int .i64 0, .nils, .int .i64 0, .int .i64 0, .int .i64 0, .int .i64 0, .nils]) mixed Try.func65 tr65 ?_).weaken le_zH
    cases hl : lev2 i
    · repeat' first
        | simp (config := { maxSteps := 2000000 }) only [go_sem, reduceIte, reduceCtorEq, Nat.reduceAdd, Nat.reduceSub, Nat.reduceMul, Nat.reduceLT, Nat.reduceLeDiff, Nat.reduceEqDiff, Nat.reduceBEq, Nat.reduceGT, Int.reduceEq, Int.reduceNe, Int.reduceLT, Int.reduceLE, Int.reduceToNat, Int.reduceNeg, Int.reduceBEq, Int.reduceAdd, Int.reduceSub, Int.reduceGT, Int.reduceGE, Int.reduceBNe, hl]
        | refine callK_of (con_level2 i) ?_
        | rfl
    · have hp : plains [a, x] = false := by simpa [hl] using hb
      repeat' first
        | simp (config := { maxSteps := 2000000 }) only [go_sem, reduceIte, reduceCtorEq, Nat.reduceAdd, Nat.reduceSub, Nat.reduceMul, Nat.reduceLT, Nat.reduceLeDiff, Nat.reduceEqDiff, Nat.reduceBEq, Nat.reduceGT, Int.reduceEq, Int.reduceNe, Int.reduceLT, Int.reduceLE, Int.reduceToNat, Int.reduceNeg, Int.reduceBEq, Int.reduceAdd, Int.reduceSub, Int.reduceGT, Int.reduceGE, Int.reduceBNe, hl, hp]
        | refine callK_of (con_level2 i) ?_
        | refine callK_of (hc) ?_
        | rfl
  · simp only [Bool.and_eq_true] at hb
    have hl := hb.1
    have hpl := hb.2
    simp only [List.all_cons, List.all_nil, Bool.and_true, Bool.and_eq_true] at hpl
    have hi := fit_lev hl
    refine contract_of_vc mixed Try.func65 tr65 ?_
    simp only [if_true, HT.v]
    repeat' first
      | simp (config := { maxSteps := 2000000 }) only [go_sem, reduceIte, reduceCtorEq, Nat.reduceAdd, Nat.reduceSub, Nat.reduceMul, Nat.reduceLT, Nat.reduceLeDiff, Nat.reduceEqDiff, Nat.reduceBEq, Nat.reduceGT, Int.reduceEq, Int.reduceNe, Int.reduceLT, Int.reduceLE, Int.reduceToNat, Int.reduceNeg, Int.reduceBEq, Int.reduceAdd, Int.reduceSub, Int.reduceGT, Int.reduceGE, Int.reduceBNe, hb.1, hb.2, pointsF_yes hl]
      | refine callK_of (con_level2 i) ?_
      | refine callK_of (hc) ?_
      | refine callK_of (con_hPoints i) ?_
      | refine callK_of (con_point i a x) ?_
      | refine callK_of (con_ofT 21 0 0 0 [pts i, pt i a x] (by simp) (by simp)) ?_
      | refine callK_of (con_fresh i a a x x (.mk 21 0 0 0 [pts i, pt i a x]) ha ha hx hx (tok_k (by unfold fit; omega) (by simp) (by simp [tok_pts hi, tok_pt hi ha hx]))) ?_
      | rfl

theorem con_r23Self (i : Int) (a x : Tm) (ha : TOk a) (hx : TOk x) : Con 66 [.int .i64 i, .agg true (tv a), .agg true (tv x)] (.agg true (selfF i a x).v) := by
  have hc := con_r23plain [a, x] (by simp [ha, hx]) (by simp)
  unfold selfF
  cases hb : (lev2 i && plains [a, x])
  · refine (contract_of_vc (r := .agg true [.int .i64 0, .int .i64 0, .int .i64 0, .int .i64 0, .int .i64 0, .nils, .int .i64 0, .int .i64 0, .int .i64 0, .int .i64 0, .nils, .int .i64 0, .int .i64 0, .int .i64 0, .int .i64 0, .nils, .int .i64 0, .int .i64 0, .int .i64 0, .int .i64 0, .nils, .int .i64 0, .int .i64 0, .int .i64 0, .int .i64 0, .nils]) mixed Try.func66 tr66 ?_).weaken le_zH
    cases hl : lev2 i
    · repeat' first
        | simp (config := { maxSteps := 2000000 }) only [go_sem, reduceIte, reduceCtorEq, Nat.reduceAdd, Nat.reduceSub, Nat.reduceMul, Nat.reduceLT, Nat.reduceLeDiff, Nat.reduceEqDiff, Nat.reduceBEq, Nat.reduceGT, Int.reduceEq, Int.reduceNe, Int.reduceLT, Int.reduceLE, Int.reduceToNat, Int.reduceNeg, Int.reduceBEq, Int.reduceAdd, Int.reduceSub, Int.reduceGT, Int.reduceGE, Int.reduceBNe, hl]
        | refine callK_of (con_r23level2 i) ?_
        | rfl
    · have hp : plains [a, x] = false := by simpa [hl] using hb
      repeat' first
        | simp (config := { maxSteps := 2000000 }) only [go_sem, reduceIte, reduceCtorEq, Nat.reduceAdd, Nat.reduceSub, Nat.reduceMul, Nat.reduceLT, Nat.reduceLeDiff, Nat.reduceEqDiff, Nat.reduceBEq, Nat.reduceGT, Int.reduceEq, Int.reduceNe, Int.reduceLT, Int.reduceLE, Int.reduceToNat, Int.reduceNeg, Int.reduceBEq, Int.reduceAdd, Int.reduceSub, Int.reduceGT, Int.reduceGE, Int.reduceBNe, hl, hp]
        | refine callK_of (con_r23level2 i) ?_
        | refine callK_of (hc) ?_
        | rfl
  · simp only [Bool.and_eq_true] at hb
    have hl := hb.1
    have hpl := hb.2
    simp only [List.all_cons, List.all_nil, Bool.and_true, Bool.and_eq_true] at hpl
    have hi := fit_lev hl
    refine contract_of_vc mixed Try.func66 tr66 ?_
    simp only [if_true, HT.v]
    repeat' first
      | simp (config := { maxSteps := 2000000 }) only [go_sem, reduceIte, reduceCtorEq, Nat.reduceAdd, Nat.reduceSub, Nat.reduceMul, Nat.reduceLT, Nat.reduceLeDiff, Nat.reduceEqDiff, Nat.reduceBEq, Nat.reduceGT, Int.reduceEq, Int.reduceNe, Int.reduceLT, Int.reduceLE, Int.reduceToNat, Int.reduceNeg, Int.reduceBEq, Int.reduceAdd, Int.reduceSub, Int.reduceGT, Int.reduceGE, Int.reduceBNe, hb.1, hb.2, pointsF_yes hl, pointF_yes hl hpl.1 hpl.2]
      | refine callK_of (con_r23level2 i) ?_
      | refine callK_of (hc) ?_
      | refine callK_of (con_r23Points i) ?_
      | refine callK_of (con_r23Point i a x ha hx) ?_
      | refine callK_of (con_r23nodeT 21 [pts i, pt i a x] (by simp)) ?_
      | rfl

theorem con_hTurn (g : HT) (hg : g.ok) : Con 59 [.agg true g.v] (.agg true (turnF g).v) := by
  have hc := con_hright g hg
  unfold turnF
  cases hb : hrightB g
  · refine (contract_of_vc (r := .agg true [.int .i64 0, .int .i64 0, .int .i64 0, .int .i64 0, .int .i64 0, .nils, .int .i64 0, .int .i64 0, .int .i64 0, .int .i64 0, .nils, .int .i64 0, .int .i64 0, .int .i64 0, .int .i64 0, .nils, .int .i64 0, .int .i64 0, .int .i64 0, .int .i64 0, .nils, .int .i64 0, .int .i64 0, .int .i64 0, .int .i64 0, .nils]) mixed Try.func59 tr59 ?_).weaken le_zH
    unfold HT.v at *
    repeat' first
      | simp (config := { maxSteps := 2000000 }) only [go_sem, reduceIte, reduceCtorEq, Nat.reduceAdd, Nat.reduceSub, Nat.reduceMul, Nat.reduceLT, Nat.reduceLeDiff, Nat.reduceEqDiff, Nat.reduceBEq, Nat.reduceGT, Int.reduceEq, Int.reduceNe, Int.reduceLT, Int.reduceLE, Int.reduceToNat, Int.reduceNeg, Int.reduceBEq, Int.reduceAdd, Int.reduceSub, Int.reduceGT, Int.reduceGE, Int.reduceBNe, hb]
      | refine callK_of (hc) ?_
      | rfl
  · obtain ⟨hl, pa, pb, px, py, ph⟩ := hright_of hb
    have c3 := con_fresh g.i g.b g.a g.y g.x (us 3 (g.i + 1) 0 [pts g.i, pt g.i g.a g.x, pt g.i g.b g.y, g.h]) hg.b hg.a hg.y hg.x (tok_us (by unfold fit; omega) (fit_lev1 hl) (by unfold fit; omega) (by simp) (by simp [tok_pts (fit_lev hl), tok_pt (fit_lev hl) hg.a hg.x, tok_pt (fit_lev hl) hg.b hg.y, hg.h]))
    refine contract_of_vc mixed Try.func59 tr59 ?_
    simp only [if_true, HT.v] at *
    repeat' first
      | simp (config := { maxSteps := 2000000 }) only [go_sem, reduceIte, reduceCtorEq, Nat.reduceAdd, Nat.reduceSub, Nat.reduceMul, Nat.reduceLT, Nat.reduceLeDiff, Nat.reduceEqDiff, Nat.reduceBEq, Nat.reduceGT, Int.reduceEq, Int.reduceNe, Int.reduceLT, Int.reduceLE, Int.reduceToNat, Int.reduceNeg, Int.reduceBEq, Int.reduceAdd, Int.reduceSub, Int.reduceGT, Int.reduceGE, Int.reduceBNe, hb, pointsF_yes hl, wrap1 hl]
      | refine callK_of (hc) ?_
      | refine callK_of (con_hPoints g.i) ?_
      | refine callK_of (con_point g.i g.a g.x) ?_
      | refine callK_of (con_point g.i g.b g.y) ?_
      | refine callK_of (con_ofT 23 (g.i + 1) 0 3 [pts g.i, pt g.i g.a g.x, pt g.i g.b g.y, g.h] (by simp) (by simp)) ?_
      | refine callK_of (c3) ?_
      | rfl

theorem con_r23Turn (g : HT) (hg : g.ok) : Con 60 [.agg true g.v] (.agg true (turnF g).v) := by
  have hc := con_r23right g hg
  unfold turnF
  cases hb : hrightB g
  · refine (contract_of_vc (r := .agg true [.int .i64 0, .int .i64 0, .int .i64 0, .int .i64 0, .int .i64 0, .nils, .int .i64 0, .int .i64 0, .int .i64 0, .int .i64 0, .nils, .int .i64 0, .int .i64 0, .int .i64 0, .int .i64 0, .nils, .int .i64 0, .int .i64 0, .int .i64 0, .int .i64 0, .nils, .int .i64 0, .int .i64 0, .int .i64 0, .int .i64 0, .nils]) mixed Try.func60 tr60 ?_).weaken le_zH
    unfold HT.v at *
    repeat' first
      | simp (config := { maxSteps := 2000000 }) only [go_sem, reduceIte, reduceCtorEq, Nat.reduceAdd, Nat.reduceSub, Nat.reduceMul, Nat.reduceLT, Nat.reduceLeDiff, Nat.reduceEqDiff, Nat.reduceBEq, Nat.reduceGT, Int.reduceEq, Int.reduceNe, Int.reduceLT, Int.reduceLE, Int.reduceToNat, Int.reduceNeg, Int.reduceBEq, Int.reduceAdd, Int.reduceSub, Int.reduceGT, Int.reduceGE, Int.reduceBNe, hb]
      | refine callK_of (hc) ?_
      | rfl
  · obtain ⟨hl, pa, pb, px, py, ph⟩ := hright_of hb
    refine contract_of_vc mixed Try.func60 tr60 ?_
    simp only [if_true, HT.v] at *
    repeat' first
      | simp (config := { maxSteps := 2000000 }) only [go_sem, reduceIte, reduceCtorEq, Nat.reduceAdd, Nat.reduceSub, Nat.reduceMul, Nat.reduceLT, Nat.reduceLeDiff, Nat.reduceEqDiff, Nat.reduceBEq, Nat.reduceGT, Int.reduceEq, Int.reduceNe, Int.reduceLT, Int.reduceLE, Int.reduceToNat, Int.reduceNeg, Int.reduceBEq, Int.reduceAdd, Int.reduceSub, Int.reduceGT, Int.reduceGE, Int.reduceBNe, hb, pointsF_yes hl, wrap1 hl, pointF_yes hl pa px, pointF_yes hl pb py]
      | refine callK_of (hc) ?_
      | refine callK_of (con_r23Points g.i) ?_
      | refine callK_of (con_r23Point g.i g.a g.x hg.a hg.x) ?_
      | refine callK_of (con_r23Point g.i g.b g.y hg.b hg.y) ?_
      | refine callK_of (con_r23useT 3 (g.i + 1) 0 [pts g.i, pt g.i g.a g.x, pt g.i g.b g.y, g.h] (by simp)) ?_
      | rfl

theorem con_hEq (g : HT) (hg : g.ok) : Con 61 [.agg true g.v] (.agg true (tv (eqF g))) := by
  have hc := con_hright g hg
  unfold eqF
  cases hb : hrightB g
  · refine (contract_of_vc (r := .agg true [.int .i64 0, .int .i64 0, .int .i64 0, .int .i64 0, .nils]) mixed Try.func61 tr61 ?_).weaken le_zT
    unfold HT.v at *
    repeat' first
      | simp (config := { maxSteps := 2000000 }) only [go_sem, reduceIte, reduceCtorEq, Nat.reduceAdd, Nat.reduceSub, Nat.reduceMul, Nat.reduceLT, Nat.reduceLeDiff, Nat.reduceEqDiff, Nat.reduceBEq, Nat.reduceGT, Int.reduceEq, Int.reduceNe, Int.reduceLT, Int.reduceLE, Int.reduceToNat, Int.reduceNeg, Int.reduceBEq, Int.reduceAdd, Int.reduceSub, Int.reduceGT, Int.reduceGE, Int.reduceBNe, hb]
      | refine callK_of (hc) ?_
      | rfl
  · obtain ⟨hl, pa, pb, px, py, ph⟩ := hright_of hb
    have c3 := con_huse 10 g.i [g.a, g.x, g.y, g.h] (tok_us (by unfold fit; omega) hg.i (by unfold fit; omega) (by simp) (by simp [hg.a, hg.x, hg.y, hg.h])) (by simp) (by simp)
    refine contract_of_vc mixed Try.func61 tr61 ?_
    simp only [if_true, HT.v] at *
    repeat' first
      | simp (config := { maxSteps := 2000000 }) only [go_sem, reduceIte, reduceCtorEq, Nat.reduceAdd, Nat.reduceSub, Nat.reduceMul, Nat.reduceLT, Nat.reduceLeDiff, Nat.reduceEqDiff, Nat.reduceBEq, Nat.reduceGT, Int.reduceEq, Int.reduceNe, Int.reduceLT, Int.reduceLE, Int.reduceToNat, Int.reduceNeg, Int.reduceBEq, Int.reduceAdd, Int.reduceSub, Int.reduceGT, Int.reduceGE, Int.reduceBNe, hb, hb]
      | refine callK_of (hc) ?_
      | refine callK_of (c3) ?_
      | rfl

theorem con_r23Eq (g : HT) (hg : g.ok) : Con 62 [.agg true g.v] (.agg true (tv (eqF g))) := by
  have hc := con_r23right g hg
  unfold eqF
  cases hb : hrightB g
  · refine (contract_of_vc (r := .agg true [.int .i64 0, .int .i64 0, .int .i64 0, .int .i64 0, .nils]) mixed Try.func62 tr62 ?_).weaken le_zT
    unfold HT.v at *
    repeat' first
      | simp (config := { maxSteps := 2000000 }) only [go_sem, reduceIte, reduceCtorEq, Nat.reduceAdd, Nat.reduceSub, Nat.reduceMul, Nat.reduceLT, Nat.reduceLeDiff, Nat.reduceEqDiff, Nat.reduceBEq, Nat.reduceGT, Int.reduceEq, Int.reduceNe, Int.reduceLT, Int.reduceLE, Int.reduceToNat, Int.reduceNeg, Int.reduceBEq, Int.reduceAdd, Int.reduceSub, Int.reduceGT, Int.reduceGE, Int.reduceBNe, hb]
      | refine callK_of (hc) ?_
      | rfl
  · obtain ⟨hl, pa, pb, px, py, ph⟩ := hright_of hb
    refine contract_of_vc mixed Try.func62 tr62 ?_
    simp only [if_true, HT.v] at *
    repeat' first
      | simp (config := { maxSteps := 2000000 }) only [go_sem, reduceIte, reduceCtorEq, Nat.reduceAdd, Nat.reduceSub, Nat.reduceMul, Nat.reduceLT, Nat.reduceLeDiff, Nat.reduceEqDiff, Nat.reduceBEq, Nat.reduceGT, Int.reduceEq, Int.reduceNe, Int.reduceLT, Int.reduceLE, Int.reduceToNat, Int.reduceNeg, Int.reduceBEq, Int.reduceAdd, Int.reduceSub, Int.reduceGT, Int.reduceGE, Int.reduceBNe, hb, hb]
      | refine callK_of (hc) ?_
      | refine callK_of (con_r23useT 10 g.i 0 [g.a, g.x, g.y, g.h] (by simp)) ?_
      | rfl

theorem con_hOf (i : Int) (a x y e : Tm) (ha : TOk a) (hx : TOk x) (hy : TOk y) (he : TOk e) : Con 67 [.int .i64 i, .agg true (tv a), .agg true (tv x), .agg true (tv y), .agg true (tv e)] (.agg true (ofF i a x y e).v) := by
  have hc := con_hplain [a, x, y, e] (by simp [ha, hx, hy, he]) (by simp)
  unfold ofF
  cases hb : (lev2 i && plains [a, x, y, e])
  · refine (contract_of_vc (r := .agg true [.int .i64 0, .int .i64 0, .int .i64 0, .int .i64 0, .int .i64 0, .nils, .int .i64 0, .int .i64 0, .int .i64 0, .int .i64 0, .nils, .int .i64 0, .int .i64 0, .int .i64 0, .int .i64 0, .nils, .int .i64 0, .int .i64 0, .int .i64 0, .int .i64 0, .nils, .int .i64 0, .int .i64 0, .int .i64 0, .int .i64 0, .nils]) mixed Try.func67 tr67 ?_).weaken le_zH
    cases hl : lev2 i
    · repeat' first
        | simp (config := { maxSteps := 2000000 }) only [go_sem, reduceIte, reduceCtorEq, Nat.reduceAdd, Nat.reduceSub, Nat.reduceMul, Nat.reduceLT, Nat.reduceLeDiff, Nat.reduceEqDiff, Nat.reduceBEq, Nat.reduceGT, Int.reduceEq, Int.reduceNe, Int.reduceLT, Int.reduceLE, Int.reduceToNat, Int.reduceNeg, Int.reduceBEq, Int.reduceAdd, Int.reduceSub, Int.reduceGT, Int.reduceGE, Int.reduceBNe, hl]
        | refine callK_of (con_level2 i) ?_
        | rfl
    · have hp : plains [a, x, y, e] = false := by simpa [hl] using hb
      repeat' first
        | simp (config := { maxSteps := 2000000 }) only [go_sem, reduceIte, reduceCtorEq, Nat.reduceAdd, Nat.reduceSub, Nat.reduceMul, Nat.reduceLT, Nat.reduceLeDiff, Nat.reduceEqDiff, Nat.reduceBEq, Nat.reduceGT, Int.reduceEq, Int.reduceNe, Int.reduceLT, Int.reduceLE, Int.reduceToNat, Int.reduceNeg, Int.reduceBEq, Int.reduceAdd, Int.reduceSub, Int.reduceGT, Int.reduceGE, Int.reduceBNe, hl, hp]
        | refine callK_of (con_level2 i) ?_
        | refine callK_of (hc) ?_
        | rfl
  · simp only [Bool.and_eq_true] at hb
    have hl := hb.1
    have hpl := hb.2
    simp only [List.all_cons, List.all_nil, Bool.and_true, Bool.and_eq_true] at hpl
    have hi := fit_lev hl
    refine contract_of_vc mixed Try.func67 tr67 ?_
    simp only [if_true, HT.v]
    repeat' first
      | simp (config := { maxSteps := 2000000 }) only [go_sem, reduceIte, reduceCtorEq, Nat.reduceAdd, Nat.reduceSub, Nat.reduceMul, Nat.reduceLT, Nat.reduceLeDiff, Nat.reduceEqDiff, Nat.reduceBEq, Nat.reduceGT, Int.reduceEq, Int.reduceNe, Int.reduceLT, Int.reduceLE, Int.reduceToNat, Int.reduceNeg, Int.reduceBEq, Int.reduceAdd, Int.reduceSub, Int.reduceGT, Int.reduceGE, Int.reduceBNe, hb.1, hb.2, hb.1]
      | refine callK_of (con_level2 i) ?_
      | refine callK_of (hc) ?_
      | refine callK_of (con_ofT 23 i 0 11 [a, x, y, e] (by simp) (by simp)) ?_
      | refine callK_of (con_fresh i a a x y (us 11 i 0 [a, x, y, e]) ha ha hx hy (tok_us (by unfold fit; omega) hi (by unfold fit; omega) (by simp) (by simp [ha, hx, hy, he]))) ?_
      | rfl

theorem con_r23Of (i : Int) (a x y e : Tm) (ha : TOk a) (hx : TOk x) (hy : TOk y) (he : TOk e) : Con 68 [.int .i64 i, .agg true (tv a), .agg true (tv x), .agg true (tv y), .agg true (tv e)] (.agg true (ofF i a x y e).v) := by
  have hc := con_r23plain [a, x, y, e] (by simp [ha, hx, hy, he]) (by simp)
  unfold ofF
  cases hb : (lev2 i && plains [a, x, y, e])
  · refine (contract_of_vc (r := .agg true [.int .i64 0, .int .i64 0, .int .i64 0, .int .i64 0, .int .i64 0, .nils, .int .i64 0, .int .i64 0, .int .i64 0, .int .i64 0, .nils, .int .i64 0, .int .i64 0, .int .i64 0, .int .i64 0, .nils, .int .i64 0, .int .i64 0, .int .i64 0, .int .i64 0, .nils, .int .i64 0, .int .i64 0, .int .i64 0, .int .i64 0, .nils]) mixed Try.func68 tr68 ?_).weaken le_zH
    cases hl : lev2 i
    · repeat' first
        | simp (config := { maxSteps := 2000000 }) only [go_sem, reduceIte, reduceCtorEq, Nat.reduceAdd, Nat.reduceSub, Nat.reduceMul, Nat.reduceLT, Nat.reduceLeDiff, Nat.reduceEqDiff, Nat.reduceBEq, Nat.reduceGT, Int.reduceEq, Int.reduceNe, Int.reduceLT, Int.reduceLE, Int.reduceToNat, Int.reduceNeg, Int.reduceBEq, Int.reduceAdd, Int.reduceSub, Int.reduceGT, Int.reduceGE, Int.reduceBNe, hl]
        | refine callK_of (con_r23level2 i) ?_
        | rfl
    · have hp : plains [a, x, y, e] = false := by simpa [hl] using hb
      repeat' first
        | simp (config := { maxSteps := 2000000 }) only [go_sem, reduceIte, reduceCtorEq, Nat.reduceAdd, Nat.reduceSub, Nat.reduceMul, Nat.reduceLT, Nat.reduceLeDiff, Nat.reduceEqDiff, Nat.reduceBEq, Nat.reduceGT, Int.reduceEq, Int.reduceNe, Int.reduceLT, Int.reduceLE, Int.reduceToNat, Int.reduceNeg, Int.reduceBEq, Int.reduceAdd, Int.reduceSub, Int.reduceGT, Int.reduceGE, Int.reduceBNe, hl, hp]
        | refine callK_of (con_r23level2 i) ?_
        | refine callK_of (hc) ?_
        | rfl
  · simp only [Bool.and_eq_true] at hb
    have hl := hb.1
    have hpl := hb.2
    simp only [List.all_cons, List.all_nil, Bool.and_true, Bool.and_eq_true] at hpl
    have hi := fit_lev hl
    refine contract_of_vc mixed Try.func68 tr68 ?_
    simp only [if_true, HT.v]
    repeat' first
      | simp (config := { maxSteps := 2000000 }) only [go_sem, reduceIte, reduceCtorEq, Nat.reduceAdd, Nat.reduceSub, Nat.reduceMul, Nat.reduceLT, Nat.reduceLeDiff, Nat.reduceEqDiff, Nat.reduceBEq, Nat.reduceGT, Int.reduceEq, Int.reduceNe, Int.reduceLT, Int.reduceLE, Int.reduceToNat, Int.reduceNeg, Int.reduceBEq, Int.reduceAdd, Int.reduceSub, Int.reduceGT, Int.reduceGE, Int.reduceBNe, hb.1, hb.2, hb.1]
      | refine callK_of (con_r23level2 i) ?_
      | refine callK_of (hc) ?_
      | refine callK_of (con_r23useT 11 i 0 [a, x, y, e] (by simp)) ?_
      | rfl

theorem con_hMoved (i : Int) (a b p x : Tm) (ha : TOk a) (hbT : TOk b) (hpT : TOk p) (hx : TOk x) : Con 69 [.int .i64 i, .agg true (tv a), .agg true (tv b), .agg true (tv p), .agg true (tv x)] (.agg true (movedF i a b p x).v) := by
  have hc := con_hplain [a, b, p, x] (by simp [ha, hbT, hpT, hx]) (by simp)
  unfold movedF
  cases hb : (lev2 i && plains [a, b, p, x])
  · refine (contract_of_vc (r := .agg true [.int .i64 0, .int .i64 0, .int .i64 0, .int .i64 0, .int .i64 0, .nils, .int .i64 0, .int .i64 0, .int .i64 0, .int .i64 0, .nils, .int .i64 0, .int .i64 0, .int .i64 0, .int .i64 0, .nils, .int .i64 0, .int .i64 0, .int .i64 0, .int .i64 0, .nils, .int .i64 0, .int .i64 0, .int .i64 0, .int .i64 0, .nils]) mixed Try.func69 tr69 ?_).weaken le_zH
    cases hl : lev2 i
    · repeat' first
        | simp (config := { maxSteps := 2000000 }) only [go_sem, reduceIte, reduceCtorEq, Nat.reduceAdd, Nat.reduceSub, Nat.reduceMul, Nat.reduceLT, Nat.reduceLeDiff, Nat.reduceEqDiff, Nat.reduceBEq, Nat.reduceGT, Int.reduceEq, Int.reduceNe, Int.reduceLT, Int.reduceLE, Int.reduceToNat, Int.reduceNeg, Int.reduceBEq, Int.reduceAdd, Int.reduceSub, Int.reduceGT, Int.reduceGE, Int.reduceBNe, hl]
        | refine callK_of (con_level2 i) ?_
        | rfl
    · have hp : plains [a, b, p, x] = false := by simpa [hl] using hb
      repeat' first
        | simp (config := { maxSteps := 2000000 }) only [go_sem, reduceIte, reduceCtorEq, Nat.reduceAdd, Nat.reduceSub, Nat.reduceMul, Nat.reduceLT, Nat.reduceLeDiff, Nat.reduceEqDiff, Nat.reduceBEq, Nat.reduceGT, Int.reduceEq, Int.reduceNe, Int.reduceLT, Int.reduceLE, Int.reduceToNat, Int.reduceNeg, Int.reduceBEq, Int.reduceAdd, Int.reduceSub, Int.reduceGT, Int.reduceGE, Int.reduceBNe, hl, hp]
        | refine callK_of (con_level2 i) ?_
        | refine callK_of (hc) ?_
        | rfl
  · simp only [Bool.and_eq_true] at hb
    have hl := hb.1
    have hpl := hb.2
    simp only [List.all_cons, List.all_nil, Bool.and_true, Bool.and_eq_true] at hpl
    have hi := fit_lev hl
    refine contract_of_vc mixed Try.func69 tr69 ?_
    simp only [if_true, HT.v]
    repeat' first
      | simp (config := { maxSteps := 2000000 }) only [go_sem, reduceIte, reduceCtorEq, Nat.reduceAdd, Nat.reduceSub, Nat.reduceMul, Nat.reduceLT, Nat.reduceLeDiff, Nat.reduceEqDiff, Nat.reduceBEq, Nat.reduceGT, Int.reduceEq, Int.reduceNe, Int.reduceLT, Int.reduceLE, Int.reduceToNat, Int.reduceNeg, Int.reduceBEq, Int.reduceAdd, Int.reduceSub, Int.reduceGT, Int.reduceGE, Int.reduceBNe, hb.1, hb.2, hb.1]
      | refine callK_of (con_level2 i) ?_
      | refine callK_of (hc) ?_
      | refine callK_of (con_ofT 23 i 0 5 [a, b, p, x] (by simp) (by simp)) ?_
      | refine callK_of (con_ofT 23 i 0 8 [a, b, p, x] (by simp) (by simp)) ?_
      | refine callK_of (con_fresh i a b x (us 5 i 0 [a, b, p, x]) (us 8 i 0 [a, b, p, x]) ha hbT hx (tok_us (by unfold fit; omega) hi (by unfold fit; omega) (by simp) (by simp [ha, hbT, hpT, hx])) (tok_us (by unfold fit; omega) hi (by unfold fit; omega) (by simp) (by simp [ha, hbT, hpT, hx]))) ?_
      | rfl

theorem con_r23Moved (i : Int) (a b p x : Tm) (ha : TOk a) (hbT : TOk b) (hpT : TOk p) (hx : TOk x) : Con 70 [.int .i64 i, .agg true (tv a), .agg true (tv b), .agg true (tv p), .agg true (tv x)] (.agg true (movedF i a b p x).v) := by
  have hc := con_r23plain [a, b, p, x] (by simp [ha, hbT, hpT, hx]) (by simp)
  unfold movedF
  cases hb : (lev2 i && plains [a, b, p, x])
  · refine (contract_of_vc (r := .agg true [.int .i64 0, .int .i64 0, .int .i64 0, .int .i64 0, .int .i64 0, .nils, .int .i64 0, .int .i64 0, .int .i64 0, .int .i64 0, .nils, .int .i64 0, .int .i64 0, .int .i64 0, .int .i64 0, .nils, .int .i64 0, .int .i64 0, .int .i64 0, .int .i64 0, .nils, .int .i64 0, .int .i64 0, .int .i64 0, .int .i64 0, .nils]) mixed Try.func70 tr70 ?_).weaken le_zH
    cases hl : lev2 i
    · repeat' first
        | simp (config := { maxSteps := 2000000 }) only [go_sem, reduceIte, reduceCtorEq, Nat.reduceAdd, Nat.reduceSub, Nat.reduceMul, Nat.reduceLT, Nat.reduceLeDiff, Nat.reduceEqDiff, Nat.reduceBEq, Nat.reduceGT, Int.reduceEq, Int.reduceNe, Int.reduceLT, Int.reduceLE, Int.reduceToNat, Int.reduceNeg, Int.reduceBEq, Int.reduceAdd, Int.reduceSub, Int.reduceGT, Int.reduceGE, Int.reduceBNe, hl]
        | refine callK_of (con_r23level2 i) ?_
        | rfl
    · have hp : plains [a, b, p, x] = false := by simpa [hl] using hb
      repeat' first
        | simp (config := { maxSteps := 2000000 }) only [go_sem, reduceIte, reduceCtorEq, Nat.reduceAdd, Nat.reduceSub, Nat.reduceMul, Nat.reduceLT, Nat.reduceLeDiff, Nat.reduceEqDiff, Nat.reduceBEq, Nat.reduceGT, Int.reduceEq, Int.reduceNe, Int.reduceLT, Int.reduceLE, Int.reduceToNat, Int.reduceNeg, Int.reduceBEq, Int.reduceAdd, Int.reduceSub, Int.reduceGT, Int.reduceGE, Int.reduceBNe, hl, hp]
        | refine callK_of (con_r23level2 i) ?_
        | refine callK_of (hc) ?_
        | rfl
  · simp only [Bool.and_eq_true] at hb
    have hl := hb.1
    have hpl := hb.2
    simp only [List.all_cons, List.all_nil, Bool.and_true, Bool.and_eq_true] at hpl
    have hi := fit_lev hl
    refine contract_of_vc mixed Try.func70 tr70 ?_
    simp only [if_true, HT.v]
    repeat' first
      | simp (config := { maxSteps := 2000000 }) only [go_sem, reduceIte, reduceCtorEq, Nat.reduceAdd, Nat.reduceSub, Nat.reduceMul, Nat.reduceLT, Nat.reduceLeDiff, Nat.reduceEqDiff, Nat.reduceBEq, Nat.reduceGT, Int.reduceEq, Int.reduceNe, Int.reduceLT, Int.reduceLE, Int.reduceToNat, Int.reduceNeg, Int.reduceBEq, Int.reduceAdd, Int.reduceSub, Int.reduceGT, Int.reduceGE, Int.reduceBNe, hb.1, hb.2, hb.1]
      | refine callK_of (con_r23level2 i) ?_
      | refine callK_of (hc) ?_
      | refine callK_of (con_r23useT 5 i 0 [a, b, p, x] (by simp)) ?_
      | refine callK_of (con_r23useT 8 i 0 [a, b, p, x] (by simp)) ?_
      | rfl

theorem con_hThen (g h : HT) (hg : g.ok) (hh : h.ok) : Con 40 [.agg true g.v, .agg true h.v] (.agg true (thenF g h).v) := by
  have hc := con_hright g hg
  have hd := con_hright h hh
  unfold thenF
  cases hb : (hrightB g && (hrightB h && (g.i == h.i)))
  · refine (contract_of_vc (r := .agg true [.int .i64 0, .int .i64 0, .int .i64 0, .int .i64 0, .int .i64 0, .nils, .int .i64 0, .int .i64 0, .int .i64 0, .int .i64 0, .nils, .int .i64 0, .int .i64 0, .int .i64 0, .int .i64 0, .nils, .int .i64 0, .int .i64 0, .int .i64 0, .int .i64 0, .nils, .int .i64 0, .int .i64 0, .int .i64 0, .int .i64 0, .nils]) mixed Try.func40 tr40 ?_).weaken le_zH
    simp only [HT.v] at *
    cases h1 : hrightB g
    · repeat' first
        | simp (config := { maxSteps := 2000000 }) only [go_sem, reduceIte, reduceCtorEq, Nat.reduceAdd, Nat.reduceSub, Nat.reduceMul, Nat.reduceLT, Nat.reduceLeDiff, Nat.reduceEqDiff, Nat.reduceBEq, Nat.reduceGT, Int.reduceEq, Int.reduceNe, Int.reduceLT, Int.reduceLE, Int.reduceToNat, Int.reduceNeg, Int.reduceBEq, Int.reduceAdd, Int.reduceSub, Int.reduceGT, Int.reduceGE, Int.reduceBNe, h1]
        | refine callK_of (hc) ?_
        | rfl
    · cases h2 : hrightB h
      · repeat' first
          | simp (config := { maxSteps := 2000000 }) only [go_sem, reduceIte, reduceCtorEq, Nat.reduceAdd, Nat.reduceSub, Nat.reduceMul, Nat.reduceLT, Nat.reduceLeDiff, Nat.reduceEqDiff, Nat.reduceBEq, Nat.reduceGT, Int.reduceEq, Int.reduceNe, Int.reduceLT, Int.reduceLE, Int.reduceToNat, Int.reduceNeg, Int.reduceBEq, Int.reduceAdd, Int.reduceSub, Int.reduceGT, Int.reduceGE, Int.reduceBNe, h1, h2]
          | refine callK_of (hc) ?_
          | refine callK_of (hd) ?_
          | rfl
      · have h3 : (g.i != h.i) = true := by simpa [h1, h2] using hb
        repeat' first
          | simp (config := { maxSteps := 2000000 }) only [go_sem, reduceIte, reduceCtorEq, Nat.reduceAdd, Nat.reduceSub, Nat.reduceMul, Nat.reduceLT, Nat.reduceLeDiff, Nat.reduceEqDiff, Nat.reduceBEq, Nat.reduceGT, Int.reduceEq, Int.reduceNe, Int.reduceLT, Int.reduceLE, Int.reduceToNat, Int.reduceNeg, Int.reduceBEq, Int.reduceAdd, Int.reduceSub, Int.reduceGT, Int.reduceGE, Int.reduceBNe, h1, h2, h3]
          | refine callK_of (hc) ?_
          | refine callK_of (hd) ?_
          | rfl
  · simp only [Bool.and_eq_true, beq_iff_eq] at hb
    obtain ⟨hb1, hb2, hb3⟩ := hb
    obtain ⟨hl, pa, pb, px, py, ph⟩ := hright_of hb1
    obtain ⟨_, qa, qb, qx, qy, qh⟩ := hright_of hb2
    have h3 : (g.i != h.i) = false := by simp [hb3]
    have c3 := con_fresh g.i g.a h.b g.x h.y (us 4 (g.i + 1) 0 [pts g.i, pt g.i g.a g.x, pt g.i g.b g.y, pt g.i h.b h.y, g.h, h.h]) hg.a hh.b hg.x hh.y (tok_us (by unfold fit; omega) (fit_lev1 hl) (by unfold fit; omega) (by simp) (by simp [tok_pts (fit_lev hl), tok_pt (fit_lev hl) hg.a hg.x, tok_pt (fit_lev hl) hg.b hg.y, tok_pt (fit_lev hl) hh.b hh.y, hg.h, hh.h]))
    refine contract_of_vc mixed Try.func40 tr40 ?_
    simp only [if_true, HT.v] at *
    repeat' first
      | simp (config := { maxSteps := 2000000 }) only [go_sem, reduceIte, reduceCtorEq, Nat.reduceAdd, Nat.reduceSub, Nat.reduceMul, Nat.reduceLT, Nat.reduceLeDiff, Nat.reduceEqDiff, Nat.reduceBEq, Nat.reduceGT, Int.reduceEq, Int.reduceNe, Int.reduceLT, Int.reduceLE, Int.reduceToNat, Int.reduceNeg, Int.reduceBEq, Int.reduceAdd, Int.reduceSub, Int.reduceGT, Int.reduceGE, Int.reduceBNe, hb1, hb2, h3, pointsF_yes hl, wrap1 hl]
      | refine callK_of (hc) ?_
      | refine callK_of (hd) ?_
      | refine callK_of (con_hPoints g.i) ?_
      | refine callK_of (con_point g.i g.a g.x) ?_
      | refine callK_of (con_point g.i g.b g.y) ?_
      | refine callK_of (con_point g.i h.b h.y) ?_
      | refine callK_of (con_ofT 23 (g.i + 1) 0 4 [pts g.i, pt g.i g.a g.x, pt g.i g.b g.y, pt g.i h.b h.y, g.h, h.h] (by simp) (by simp)) ?_
      | refine callK_of (c3) ?_
      | rfl

theorem con_r23Then (g h : HT) (hg : g.ok) (hh : h.ok) : Con 41 [.agg true g.v, .agg true h.v] (.agg true (thenF g h).v) := by
  have hc := con_r23right g hg
  have hd := con_r23right h hh
  unfold thenF
  cases hb : (hrightB g && (hrightB h && (g.i == h.i)))
  · refine (contract_of_vc (r := .agg true [.int .i64 0, .int .i64 0, .int .i64 0, .int .i64 0, .int .i64 0, .nils, .int .i64 0, .int .i64 0, .int .i64 0, .int .i64 0, .nils, .int .i64 0, .int .i64 0, .int .i64 0, .int .i64 0, .nils, .int .i64 0, .int .i64 0, .int .i64 0, .int .i64 0, .nils, .int .i64 0, .int .i64 0, .int .i64 0, .int .i64 0, .nils]) mixed Try.func41 tr41 ?_).weaken le_zH
    simp only [HT.v] at *
    cases h1 : hrightB g
    · repeat' first
        | simp (config := { maxSteps := 2000000 }) only [go_sem, reduceIte, reduceCtorEq, Nat.reduceAdd, Nat.reduceSub, Nat.reduceMul, Nat.reduceLT, Nat.reduceLeDiff, Nat.reduceEqDiff, Nat.reduceBEq, Nat.reduceGT, Int.reduceEq, Int.reduceNe, Int.reduceLT, Int.reduceLE, Int.reduceToNat, Int.reduceNeg, Int.reduceBEq, Int.reduceAdd, Int.reduceSub, Int.reduceGT, Int.reduceGE, Int.reduceBNe, h1]
        | refine callK_of (hc) ?_
        | rfl
    · cases h2 : hrightB h
      · repeat' first
          | simp (config := { maxSteps := 2000000 }) only [go_sem, reduceIte, reduceCtorEq, Nat.reduceAdd, Nat.reduceSub, Nat.reduceMul, Nat.reduceLT, Nat.reduceLeDiff, Nat.reduceEqDiff, Nat.reduceBEq, Nat.reduceGT, Int.reduceEq, Int.reduceNe, Int.reduceLT, Int.reduceLE, Int.reduceToNat, Int.reduceNeg, Int.reduceBEq, Int.reduceAdd, Int.reduceSub, Int.reduceGT, Int.reduceGE, Int.reduceBNe, h1, h2]
          | refine callK_of (hc) ?_
          | refine callK_of (hd) ?_
          | rfl
      · have h3 : (g.i != h.i) = true := by simpa [h1, h2] using hb
        repeat' first
          | simp (config := { maxSteps := 2000000 }) only [go_sem, reduceIte, reduceCtorEq, Nat.reduceAdd, Nat.reduceSub, Nat.reduceMul, Nat.reduceLT, Nat.reduceLeDiff, Nat.reduceEqDiff, Nat.reduceBEq, Nat.reduceGT, Int.reduceEq, Int.reduceNe, Int.reduceLT, Int.reduceLE, Int.reduceToNat, Int.reduceNeg, Int.reduceBEq, Int.reduceAdd, Int.reduceSub, Int.reduceGT, Int.reduceGE, Int.reduceBNe, h1, h2, h3]
          | refine callK_of (hc) ?_
          | refine callK_of (hd) ?_
          | rfl
  · simp only [Bool.and_eq_true, beq_iff_eq] at hb
    obtain ⟨hb1, hb2, hb3⟩ := hb
    obtain ⟨hl, pa, pb, px, py, ph⟩ := hright_of hb1
    obtain ⟨_, qa, qb, qx, qy, qh⟩ := hright_of hb2
    have h3 : (g.i != h.i) = false := by simp [hb3]
    refine contract_of_vc mixed Try.func41 tr41 ?_
    simp only [if_true, HT.v] at *
    repeat' first
      | simp (config := { maxSteps := 2000000 }) only [go_sem, reduceIte, reduceCtorEq, Nat.reduceAdd, Nat.reduceSub, Nat.reduceMul, Nat.reduceLT, Nat.reduceLeDiff, Nat.reduceEqDiff, Nat.reduceBEq, Nat.reduceGT, Int.reduceEq, Int.reduceNe, Int.reduceLT, Int.reduceLE, Int.reduceToNat, Int.reduceNeg, Int.reduceBEq, Int.reduceAdd, Int.reduceSub, Int.reduceGT, Int.reduceGE, Int.reduceBNe, hb1, hb2, h3, pointsF_yes hl, wrap1 hl, pointF_yes hl pa px, pointF_yes hl pb py, pointF_yes hl qb qy]
      | refine callK_of (hc) ?_
      | refine callK_of (hd) ?_
      | refine callK_of (con_r23Points g.i) ?_
      | refine callK_of (con_r23Point g.i g.a g.x hg.a hg.x) ?_
      | refine callK_of (con_r23Point g.i g.b g.y hg.b hg.y) ?_
      | refine callK_of (con_r23Point g.i h.b h.y hh.b hh.y) ?_
      | refine callK_of (con_r23useT 4 (g.i + 1) 0 [pts g.i, pt g.i g.a g.x, pt g.i g.b g.y, pt g.i h.b h.y, g.h, h.h] (by simp)) ?_
      | rfl
end Go.Proofs.Ytadmdmhocglkfaa.Abs
