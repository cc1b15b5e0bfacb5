/- Self, Turn, Then, Eq, Of, Moved, by the program and by the page; the page's Point, Points, Type. Printed by genFm.py. -/
import Derived.Test.YtkldipbhenabfaaGreatFl
set_option linter.unusedSimpArgs false
set_option linter.unusedVariables false
namespace Go.Proofs.YtkldipbhenabfaaGreat.Abs
open Go Go.RowKit Go.Proofs.YtkldipbhenabfaaGreat

theorem con_r23nodeT (k : Int) (l : List Tm) (hb : l.length * 56 ≤ 140737488355328) : Con 92 [.int .i64 k, .dsl 5 (l.map tv)] (.agg true (tv (.mk k 0 0 0 l))) := by
  rw [tv_mk]
  exact con_r23node k (l.map tv) (by simpa using hb) (rows5 l)

theorem wrap1 {i : Int} (h : lev2 i = true) : IntKind.i64.wrap (i + 1) = i + 1 := by
  have := lev2_le h
  exact w64 (by unfold fit; omega)
theorem fit_lev {i : Int} (h : lev2 i = true) : fit i := by
  have := lev2_le h
  unfold fit; omega
theorem fit_lev1 {i : Int} (h : lev2 i = true) : fit (i + 1) := by
  have := lev2_le h
  unfold fit; omega
theorem hright_of {g : HT} (h : hrightB g = true) : lev2 g.i = true ∧ plainT g.a = true ∧ plainT g.b = true ∧ plainT g.x = true ∧ plainT g.y = true ∧ plainT g.h = true := by
  unfold hrightB at h
  simpa [and_assoc] using h
theorem pointF_yes {i : Int} {a x : Tm} (h : lev2 i = true) (ha : plainT a = true) (hx : plainT x = true) : pointF i a x = pt i a x := by
  unfold pointF; rw [if_pos (by simp [h, ha, hx])]
theorem pointsF_yes {i : Int} (h : lev2 i = true) : pointsF i = pts i := by
  unfold pointsF; rw [if_pos h]

def selfF (i : Int) (a x : Tm) : HT := if lev2 i && plains [a, x] then ⟨i, a, a, x, x, .mk 21 0 0 0 [pts i, pt i a x]⟩ else zH
def turnF (g : HT) : HT := if hrightB g then ⟨g.i, g.b, g.a, g.y, g.x, us 3 (g.i + 1) 0 [pts g.i, pt g.i g.a g.x, pt g.i g.b g.y, g.h]⟩ else zH
def thenF (g h : HT) : HT := if hrightB g && (hrightB h && (g.i == h.i)) then ⟨g.i, g.a, h.b, g.x, h.y, us 4 (g.i + 1) 0 [pts g.i, pt g.i g.a g.x, pt g.i g.b g.y, pt g.i h.b h.y, g.h, h.h]⟩ else zH
def eqF (g : HT) : Tm := if hrightB g then us 10 g.i 0 [g.a, g.x, g.y, g.h] else zT
def ofF (i : Int) (a x y e : Tm) : HT := if lev2 i && plains [a, x, y, e] then ⟨i, a, a, x, y, us 11 i 0 [a, x, y, e]⟩ else zH
def movedF (i : Int) (a b p x : Tm) : HT := if lev2 i && plains [a, b, p, x] then ⟨i, a, b, x, us 5 i 0 [a, b, p, x], us 8 i 0 [a, b, p, x]⟩ else zH

theorem con_r23Point (i : Int) (a x : Tm) (ha : TOk a) (hx : TOk x) : Con 94 [.int .i64 i, .agg true (tv a), .agg true (tv x)] (.agg true (tv (pointF i a x))) := by
  have hc := con_r23plain [a, x] (by simp [ha, hx]) (by simp)
  unfold pointF
  cases hb : (lev2 i && plains [a, x])
  · refine (contract_of_vc (r := .agg true [.int .i64 0, .int .i64 0, .int .i64 0, .int .i64 0, .nils]) mixed Tryz.func94 tr94 ?_).weaken le_zT
    cases hl : lev2 i
    · repeat' first
        | simp (config := { maxSteps := 2000000 }) only [go_sem, reduceIte, reduceCtorEq, Nat.reduceAdd, Nat.reduceSub, Nat.reduceMul, Nat.reduceLT, Nat.reduceLeDiff, Nat.reduceEqDiff, Nat.reduceBEq, Nat.reduceGT, Int.reduceEq, Int.reduceNe, Int.reduceLT, Int.reduceLE, Int.reduceToNat, Int.reduceNeg, Int.reduceBEq, Int.reduceAdd, Int.reduceSub, Int.reduceGT, Int.reduceGE, Int.reduceBNe, hl]
        | refine callK_of (con_r23level2 i) ?_
        | rfl
    · have hp : plains [a, x] = false := by simpa [hl] using hb
      repeat' first
        | simp (config := { maxSteps := 2000000 }) only [go_sem, reduceIte, reduceCtorEq, Nat.reduceAdd, Nat.reduceSub, Nat.reduceMul, Nat.reduceLT, Nat.reduceLeDiff, Nat.reduceEqDiff, Nat.reduceBEq, Nat.reduceGT, Int.reduceEq, Int.reduceNe, Int.reduceLT, Int.reduceLE, Int.reduceToNat, Int.reduceNeg, Int.reduceBEq, Int.reduceAdd, Int.reduceSub, Int.reduceGT, Int.reduceGE, Int.reduceBNe, hl, hp]
        | refine callK_of (con_r23level2 i) ?_
        | refine callK_of (hc) ?_
        | rfl
  · simp only [Bool.and_eq_true] at hb
    have hl := hb.1
    have hpl := hb.2
    simp only [List.all_cons, List.all_nil, Bool.and_true, Bool.and_eq_true] at hpl
    have hi := fit_lev hl
    refine contract_of_vc mixed Tryz.func94 tr94 ?_
    repeat' first
      | simp (config := { maxSteps := 2000000 }) only [go_sem, reduceIte, reduceCtorEq, Nat.reduceAdd, Nat.reduceSub, Nat.reduceMul, Nat.reduceLT, Nat.reduceLeDiff, Nat.reduceEqDiff, Nat.reduceBEq, Nat.reduceGT, Int.reduceEq, Int.reduceNe, Int.reduceLT, Int.reduceLE, Int.reduceToNat, Int.reduceNeg, Int.reduceBEq, Int.reduceAdd, Int.reduceSub, Int.reduceGT, Int.reduceGE, Int.reduceBNe, hb.1, hb.2, hb.1]
      | refine callK_of (con_r23level2 i) ?_
      | refine callK_of (hc) ?_
      | refine callK_of (con_r23sort i) ?_
      | refine callK_of (con_r23v 0) ?_
      | refine callK_of (con_r23nodeT 17 [so i, vr 0, a, x] (by simp)) ?_
      | rfl

theorem con_r23Points (i : Int) : Con 93 [.int .i64 i] (.agg true (tv (pointsF i))) := by
  unfold pointsF
  cases hl : lev2 i
  · refine (contract_of_vc (r := .agg true [.int .i64 0, .int .i64 0, .int .i64 0, .int .i64 0, .nils]) mixed Tryz.func93 tr93 ?_).weaken le_zT
    repeat' first
      | simp (config := { maxSteps := 2000000 }) only [go_sem, reduceIte, reduceCtorEq, Nat.reduceAdd, Nat.reduceSub, Nat.reduceMul, Nat.reduceLT, Nat.reduceLeDiff, Nat.reduceEqDiff, Nat.reduceBEq, Nat.reduceGT, Int.reduceEq, Int.reduceNe, Int.reduceLT, Int.reduceLE, Int.reduceToNat, Int.reduceNeg, Int.reduceBEq, Int.reduceAdd, Int.reduceSub, Int.reduceGT, Int.reduceGE, Int.reduceBNe, hl]
      | refine callK_of (con_r23level2 i) ?_
      | rfl
  · refine contract_of_vc mixed Tryz.func93 tr93 ?_
    repeat' first
      | simp (config := { maxSteps := 2000000 }) only [go_sem, reduceIte, reduceCtorEq, Nat.reduceAdd, Nat.reduceSub, Nat.reduceMul, Nat.reduceLT, Nat.reduceLeDiff, Nat.reduceEqDiff, Nat.reduceBEq, Nat.reduceGT, Int.reduceEq, Int.reduceNe, Int.reduceLT, Int.reduceLE, Int.reduceToNat, Int.reduceNeg, Int.reduceBEq, Int.reduceAdd, Int.reduceSub, Int.reduceGT, Int.reduceGE, Int.reduceBNe, hl]
      | refine callK_of (con_r23level2 i) ?_
      | refine callK_of (con_r23sort i) ?_
      | refine callK_of (con_r23v 0) ?_
      | refine callK_of (con_r23nodeT 16 [so i, vr 0] (by simp)) ?_
      | rfl

theorem con_hSelf (i : Int) (a x : Tm) (ha : TOk a) (hx : TOk x) : Con 48 [.int .i64 i, .agg true (tv a), .agg true (tv x)] (.agg true (selfF i a x).v) := by
  have hc := con_hplain [a, x] (by simp [ha, hx]) (by simp)
  unfold selfF
  cases hb : (lev2 i && plains [a, x])
  · refine (contract_of_vc (r := .agg true [.int .i64 0, .int .i64 0, .int .i64 0, .int .i64 0, .int .i64 0, .nils, .int .i64 0, .int .i64 0, .int .i64 0, .int .i64 0, .nils, .int .i64 0, .int .i64 0, .int .i64 0, .int .i64 0, .nils, .int .i64 0, .int .i64 0, .int .i64 0, .int .i64 0, .nils, .int .i64 0, .int .i64 0, .int .i64 0, .int .i64 0, .nils]) mixed Tryz.func48 tr48 ?_).weaken le_zH
    cases hl : lev2 i
    · repeat' first
        | simp (config := { maxSteps := 2000000 }) only [go_sem, reduceIte, reduceCtorEq, Nat.reduceAdd, Nat.reduceSub, Nat.reduceMul, Nat.reduceLT, Nat.reduceLeDiff, Nat.reduceEqDiff, Nat.reduceBEq, Nat.reduceGT, Int.reduceEq, Int.reduceNe, Int.reduceLT, Int.reduceLE, Int.reduceToNat, Int.reduceNeg, Int.reduceBEq, Int.reduceAdd, Int.reduceSub, Int.reduceGT, Int.reduceGE, Int.reduceBNe, hl]
        | refine callK_of (con_level2 i) ?_
        | rfl
    · have hp : plains [a, x] = false := by simpa [hl] using hb
      repeat' first
        | simp (config := { maxSteps := 2000000 }) only [go_sem, reduceIte, reduceCtorEq, Nat.reduceAdd, Nat.reduceSub, Nat.reduceMul, Nat.reduceLT, Nat.reduceLeDiff, Nat.reduceEqDiff, Nat.reduceBEq, Nat.reduceGT, Int.reduceEq, Int.reduceNe, Int.reduceLT, Int.reduceLE, Int.reduceToNat, Int.reduceNeg, Int.reduceBEq, Int.reduceAdd, Int.reduceSub, Int.reduceGT, Int.reduceGE, Int.reduceBNe, hl, hp]
        | refine callK_of (con_level2 i) ?_
        | refine callK_of (hc) ?_
        | rfl
  · simp only [Bool.and_eq_true] at hb
    have hl := hb.1
    have hpl := hb.2
    simp only [List.all_cons, List.all_nil, Bool.and_true, Bool.and_eq_true] at hpl
    have hi := fit_lev hl
    refine contract_of_vc mixed Tryz.func48 tr48 ?_
    simp only [if_true, HT.v]
    repeat' first
      | simp (config := { maxSteps := 2000000 }) only [go_sem, reduceIte, reduceCtorEq, Nat.reduceAdd, Nat.reduceSub, Nat.reduceMul, Nat.reduceLT, Nat.reduceLeDiff, Nat.reduceEqDiff, Nat.reduceBEq, Nat.reduceGT, Int.reduceEq, Int.reduceNe, Int.reduceLT, Int.reduceLE, Int.reduceToNat, Int.reduceNeg, Int.reduceBEq, Int.reduceAdd, Int.reduceSub, Int.reduceGT, Int.reduceGE, Int.reduceBNe, hb.1, hb.2, pointsF_yes hl]
      | refine callK_of (con_level2 i) ?_
      | refine callK_of (hc) ?_
      | refine callK_of (con_hPoints i) ?_
      | refine callK_of (con_point i a x) ?_
      | refine callK_of (con_ofT 21 0 0 0 [pts i, pt i a x] (by simp) (by simp)) ?_
      | refine callK_of (con_fresh i a a x x (.mk 21 0 0 0 [pts i, pt i a x]) ha ha hx hx (tok_k (by unfold fit; omega) (by simp) (by simp [tok_pts hi, tok_pt hi ha hx]))) ?_
      | rfl

theorem con_r23Self (i : Int) (a x : Tm) (ha : TOk a) (hx : TOk x) : Con 52 [.int .i64 i, .agg true (tv a), .agg true (tv x)] (.agg true (selfF i a x).v) := by
  have hc := con_r23plain [a, x] (by simp [ha, hx]) (by simp)
  unfold selfF
  cases hb : (lev2 i && plains [a, x])
  · refine (contract_of_vc (r := .agg true [.int .i64 0, .int .i64 0, .int .i64 0, .int .i64 0, .int .i64 0, .nils, .int .i64 0, .int .i64 0, .int .i64 0, .int .i64 0, .nils, .int .i64 0, .int .i64 0, .int .i64 0, .int .i64 0, .nils, .int .i64 0, .int .i64 0, .int .i64 0, .int .i64 0, .nils, .int .i64 0, .int .i64 0, .int .i64 0, .int .i64 0, .nils]) mixed Tryz.func52 tr52 ?_).weaken le_zH
    cases hl : lev2 i
    · repeat' first
        | simp (config := { maxSteps := 2000000 }) only [go_sem, reduceIte, reduceCtorEq, Nat.reduceAdd, Nat.reduceSub, Nat.reduceMul, Nat.reduceLT, Nat.reduceLeDiff, Nat.reduceEqDiff, Nat.reduceBEq, Nat.reduceGT, Int.reduceEq, Int.reduceNe, Int.reduceLT, Int.reduceLE, Int.reduceToNat, Int.reduceNeg, Int.reduceBEq, Int.reduceAdd, Int.reduceSub, Int.reduceGT, Int.reduceGE, Int.reduceBNe, hl]
        | refine callK_of (con_r23level2 i) ?_
        | rfl
    · have hp : plains [a, x] = false := by simpa [hl] using hb
      repeat' first
        | simp (config := { maxSteps := 2000000 }) only [go_sem, reduceIte, reduceCtorEq, Nat.reduceAdd, Nat.reduceSub, Nat.reduceMul, Nat.reduceLT, Nat.reduceLeDiff, Nat.reduceEqDiff, Nat.reduceBEq, Nat.reduceGT, Int.reduceEq, Int.reduceNe, Int.reduceLT, Int.reduceLE, Int.reduceToNat, Int.reduceNeg, Int.reduceBEq, Int.reduceAdd, Int.reduceSub, Int.reduceGT, Int.reduceGE, Int.reduceBNe, hl, hp]
        | refine callK_of (con_r23level2 i) ?_
        | refine callK_of (hc) ?_
        | rfl
  · simp only [Bool.and_eq_true] at hb
    have hl := hb.1
    have hpl := hb.2
    simp only [List.all_cons, List.all_nil, Bool.and_true, Bool.and_eq_true] at hpl
    have hi := fit_lev hl
    refine contract_of_vc mixed Tryz.func52 tr52 ?_
    simp only [if_true, HT.v]
    repeat' first
      | simp (config := { maxSteps := 2000000 }) only [go_sem, reduceIte, reduceCtorEq, Nat.reduceAdd, Nat.reduceSub, Nat.reduceMul, Nat.reduceLT, Nat.reduceLeDiff, Nat.reduceEqDiff, Nat.reduceBEq, Nat.reduceGT, Int.reduceEq, Int.reduceNe, Int.reduceLT, Int.reduceLE, Int.reduceToNat, Int.reduceNeg, Int.reduceBEq, Int.reduceAdd, Int.reduceSub, Int.reduceGT, Int.reduceGE, Int.reduceBNe, hb.1, hb.2, pointsF_yes hl, pointF_yes hl hpl.1 hpl.2]
      | refine callK_of (con_r23level2 i) ?_
      | refine callK_of (hc) ?_
      | refine callK_of (con_r23Points i) ?_
      | refine callK_of (con_r23Point i a x ha hx) ?_
      | refine callK_of (con_r23nodeT 21 [pts i, pt i a x] (by simp)) ?_
      | rfl

theorem con_hTurn (g : HT) (hg : g.ok) : Con 114 [.agg true g.v] (.agg true (turnF g).v) := by
  have hc := con_hright g hg
  unfold turnF
  cases hb : hrightB g
  · refine (contract_of_vc (r := .agg true [.int .i64 0, .int .i64 0, .int .i64 0, .int .i64 0, .int .i64 0, .nils, .int .i64 0, .int .i64 0, .int .i64 0, .int .i64 0, .nils, .int .i64 0, .int .i64 0, .int .i64 0, .int .i64 0, .nils, .int .i64 0, .int .i64 0, .int .i64 0, .int .i64 0, .nils, .int .i64 0, .int .i64 0, .int .i64 0, .int .i64 0, .nils]) mixed Tryz.func114 tr114 ?_).weaken le_zH
    unfold HT.v at *
    repeat' first
      | simp (config := { maxSteps := 2000000 }) only [go_sem, reduceIte, reduceCtorEq, Nat.reduceAdd, Nat.reduceSub, Nat.reduceMul, Nat.reduceLT, Nat.reduceLeDiff, Nat.reduceEqDiff, Nat.reduceBEq, Nat.reduceGT, Int.reduceEq, Int.reduceNe, Int.reduceLT, Int.reduceLE, Int.reduceToNat, Int.reduceNeg, Int.reduceBEq, Int.reduceAdd, Int.reduceSub, Int.reduceGT, Int.reduceGE, Int.reduceBNe, hb]
      | refine callK_of (hc) ?_
      | rfl
  · obtain ⟨hl, pa, pb, px, py, ph⟩ := hright_of hb
    have c3 := con_fresh g.i g.b g.a g.y g.x (us 3 (g.i + 1) 0 [pts g.i, pt g.i g.a g.x, pt g.i g.b g.y, g.h]) hg.b hg.a hg.y hg.x (tok_us (by unfold fit; omega) (fit_lev1 hl) (by unfold fit; omega) (by simp) (by simp [tok_pts (fit_lev hl), tok_pt (fit_lev hl) hg.a hg.x, tok_pt (fit_lev hl) hg.b hg.y, hg.h]))
    refine contract_of_vc mixed Tryz.func114 tr114 ?_
    simp only [if_true, HT.v] at *
    repeat' first
      | simp (config := { maxSteps := 2000000 }) only [go_sem, reduceIte, reduceCtorEq, Nat.reduceAdd, Nat.reduceSub, Nat.reduceMul, Nat.reduceLT, Nat.reduceLeDiff, Nat.reduceEqDiff, Nat.reduceBEq, Nat.reduceGT, Int.reduceEq, Int.reduceNe, Int.reduceLT, Int.reduceLE, Int.reduceToNat, Int.reduceNeg, Int.reduceBEq, Int.reduceAdd, Int.reduceSub, Int.reduceGT, Int.reduceGE, Int.reduceBNe, hb, pointsF_yes hl, wrap1 hl]
      | refine callK_of (hc) ?_
      | refine callK_of (con_hPoints g.i) ?_
      | refine callK_of (con_point g.i g.a g.x) ?_
      | refine callK_of (con_point g.i g.b g.y) ?_
      | refine callK_of (con_ofT 23 (g.i + 1) 0 3 [pts g.i, pt g.i g.a g.x, pt g.i g.b g.y, g.h] (by simp) (by simp)) ?_
      | refine callK_of (c3) ?_
      | rfl

theorem con_hEq (g : HT) (hg : g.ok) : Con 129 [.agg true g.v] (.agg true (tv (eqF g))) := by
  have hc := con_hright g hg
  unfold eqF
  cases hb : hrightB g
  · refine (contract_of_vc (r := .agg true [.int .i64 0, .int .i64 0, .int .i64 0, .int .i64 0, .nils]) mixed Tryz.func129 tr129 ?_).weaken le_zT
    unfold HT.v at *
    repeat' first
      | simp (config := { maxSteps := 2000000 }) only [go_sem, reduceIte, reduceCtorEq, Nat.reduceAdd, Nat.reduceSub, Nat.reduceMul, Nat.reduceLT, Nat.reduceLeDiff, Nat.reduceEqDiff, Nat.reduceBEq, Nat.reduceGT, Int.reduceEq, Int.reduceNe, Int.reduceLT, Int.reduceLE, Int.reduceToNat, Int.reduceNeg, Int.reduceBEq, Int.reduceAdd, Int.reduceSub, Int.reduceGT, Int.reduceGE, Int.reduceBNe, hb]
      | refine callK_of (hc) ?_
      | rfl
  · obtain ⟨hl, pa, pb, px, py, ph⟩ := hright_of hb
    have c3 := con_huse 10 g.i [g.a, g.x, g.y, g.h] (tok_us (by unfold fit; omega) hg.i (by unfold fit; omega) (by simp) (by simp [hg.a, hg.x, hg.y, hg.h])) (by simp) (by simp)
    refine contract_of_vc mixed Tryz.func129 tr129 ?_
    simp only [if_true, HT.v] at *
    repeat' first
      | simp (config := { maxSteps := 2000000 }) only [go_sem, reduceIte, reduceCtorEq, Nat.reduceAdd, Nat.reduceSub, Nat.reduceMul, Nat.reduceLT, Nat.reduceLeDiff, Nat.reduceEqDiff, Nat.reduceBEq, Nat.reduceGT, Int.reduceEq, Int.reduceNe, Int.reduceLT, Int.reduceLE, Int.reduceToNat, Int.reduceNeg, Int.reduceBEq, Int.reduceAdd, Int.reduceSub, Int.reduceGT, Int.reduceGE, Int.reduceBNe, hb, hb]
      | refine callK_of (hc) ?_
      | refine callK_of (c3) ?_
      | rfl

theorem con_hOf (i : Int) (a x y e : Tm) (ha : TOk a) (hx : TOk x) (hy : TOk y) (he : TOk e) : Con 152 [.int .i64 i, .agg true (tv a), .agg true (tv x), .agg true (tv y), .agg true (tv e)] (.agg true (ofF i a x y e).v) := by
  have hc := con_hplain [a, x, y, e] (by simp [ha, hx, hy, he]) (by simp)
  unfold ofF
  cases hb : (lev2 i && plains [a, x, y, e])
  · refine (contract_of_vc (r := .agg true [.int .i64 0, .int .i64 0, .int .i64 0, .int .i64 0, .int .i64 0, .nils, .int .i64 0, .int .i64 0, .int .i64 0, .int .i64 0, .nils, .int .i64 0, .int .i64 0, .int .i64 0, .int .i64 0, .nils, .int .i64 0, .int .i64 0, .int .i64 0, .int .i64 0, .nils, .int .i64 0, .int .i64 0, .int .i64 0, .int .i64 0, .nils]) mixed Tryz.func152 tr152 ?_).weaken le_zH
    cases hl : lev2 i
    · repeat' first
        | simp (config := { maxSteps := 2000000 }) only [go_sem, reduceIte, reduceCtorEq, Nat.reduceAdd, Nat.reduceSub, Nat.reduceMul, Nat.reduceLT, Nat.reduceLeDiff, Nat.reduceEqDiff, Nat.reduceBEq, Nat.reduceGT, Int.reduceEq, Int.reduceNe, Int.reduceLT, Int.reduceLE, Int.reduceToNat, Int.reduceNeg, Int.reduceBEq, Int.reduceAdd, Int.reduceSub, Int.reduceGT, Int.reduceGE, Int.reduceBNe, hl]
        | refine callK_of (con_level2 i) ?_
        | rfl
    · have hp : plains [a, x, y, e] = false := by simpa [hl] using hb
      repeat' first
        | simp (config := { maxSteps := 2000000 }) only [go_sem, reduceIte, reduceCtorEq, Nat.reduceAdd, Nat.reduceSub, Nat.reduceMul, Nat.reduceLT, Nat.reduceLeDiff, Nat.reduceEqDiff, Nat.reduceBEq, Nat.reduceGT, Int.reduceEq, Int.reduceNe, Int.reduceLT, Int.reduceLE, Int.reduceToNat, Int.reduceNeg, Int.reduceBEq, Int.reduceAdd, Int.reduceSub, Int.reduceGT, Int.reduceGE, Int.reduceBNe, hl, hp]
        | refine callK_of (con_level2 i) ?_
        | refine callK_of (hc) ?_
        | rfl
  · simp only [Bool.and_eq_true] at hb
    have hl := hb.1
    have hpl := hb.2
    simp only [List.all_cons, List.all_nil, Bool.and_true, Bool.and_eq_true] at hpl
    have hi := fit_lev hl
    refine contract_of_vc mixed Tryz.func152 tr152 ?_
    simp only [if_true, HT.v]
    repeat' first
      | simp (config := { maxSteps := 2000000 }) only [go_sem, reduceIte, reduceCtorEq, Nat.reduceAdd, Nat.reduceSub, Nat.reduceMul, Nat.reduceLT, Nat.reduceLeDiff, Nat.reduceEqDiff, Nat.reduceBEq, Nat.reduceGT, Int.reduceEq, Int.reduceNe, Int.reduceLT, Int.reduceLE, Int.reduceToNat, Int.reduceNeg, Int.reduceBEq, Int.reduceAdd, Int.reduceSub, Int.reduceGT, Int.reduceGE, Int.reduceBNe, hb.1, hb.2, hb.1]
      | refine callK_of (con_level2 i) ?_
      | refine callK_of (hc) ?_
      | refine callK_of (con_ofT 23 i 0 11 [a, x, y, e] (by simp) (by simp)) ?_
      | refine callK_of (con_fresh i a a x y (us 11 i 0 [a, x, y, e]) ha ha hx hy (tok_us (by unfold fit; omega) hi (by unfold fit; omega) (by simp) (by simp [ha, hx, hy, he]))) ?_
      | rfl

theorem con_hMoved (i : Int) (a b p x : Tm) (ha : TOk a) (hbT : TOk b) (hpT : TOk p) (hx : TOk x) : Con 112 [.int .i64 i, .agg true (tv a), .agg true (tv b), .agg true (tv p), .agg true (tv x)] (.agg true (movedF i a b p x).v) := by
  have hc := con_hplain [a, b, p, x] (by simp [ha, hbT, hpT, hx]) (by simp)
  unfold movedF
  cases hb : (lev2 i && plains [a, b, p, x])
  · refine (contract_of_vc (r := .agg true [.int .i64 0, .int .i64 0, .int .i64 0, .int .i64 0, .int .i64 0, .nils, .int .i64 0, .int .i64 0, .int .i64 0, .int .i64 0, .nils, .int .i64 0, .int .i64 0, .int .i64 0, .int .i64 0, .nils, .int .i64 0, .int .i64 0, .int .i64 0, .int .i64 0, .nils, .int .i64 0, .int .i64 0, .int .i64 0, .int .i64 0, .nils]) mixed Tryz.func112 tr112 ?_).weaken le_zH
    cases hl : lev2 i
    · repeat' first
        | simp (config := { maxSteps := 2000000 }) only [go_sem, reduceIte, reduceCtorEq, Nat.reduceAdd, Nat.reduceSub, Nat.reduceMul, Nat.reduceLT, Nat.reduceLeDiff, Nat.reduceEqDiff, Nat.reduceBEq, Nat.reduceGT, Int.reduceEq, Int.reduceNe, Int.reduceLT, Int.reduceLE, Int.reduceToNat, Int.reduceNeg, Int.reduceBEq, Int.reduceAdd, Int.reduceSub, Int.reduceGT, Int.reduceGE, Int.reduceBNe, hl]
        | refine callK_of (con_level2 i) ?_
        | rfl
    · have hp : plains [a, b, p, x] = false := by simpa [hl] using hb
      repeat' first
        | simp (config := { maxSteps := 2000000 }) only [go_sem, reduceIte, reduceCtorEq, Nat.reduceAdd, Nat.reduceSub, Nat.reduceMul, Nat.reduceLT, Nat.reduceLeDiff, Nat.reduceEqDiff, Nat.reduceBEq, Nat.reduceGT, Int.reduceEq, Int.reduceNe, Int.reduceLT, Int.reduceLE, Int.reduceToNat, Int.reduceNeg, Int.reduceBEq, Int.reduceAdd, Int.reduceSub, Int.reduceGT, Int.reduceGE, Int.reduceBNe, hl, hp]
        | refine callK_of (con_level2 i) ?_
        | refine callK_of (hc) ?_
        | rfl
  · simp only [Bool.and_eq_true] at hb
    have hl := hb.1
    have hpl := hb.2
    simp only [List.all_cons, List.all_nil, Bool.and_true, Bool.and_eq_true] at hpl
    have hi := fit_lev hl
    refine contract_of_vc mixed Tryz.func112 tr112 ?_
    simp only [if_true, HT.v]
    repeat' first
      | simp (config := { maxSteps := 2000000 }) only [go_sem, reduceIte, reduceCtorEq, Nat.reduceAdd, Nat.reduceSub, Nat.reduceMul, Nat.reduceLT, Nat.reduceLeDiff, Nat.reduceEqDiff, Nat.reduceBEq, Nat.reduceGT, Int.reduceEq, Int.reduceNe, Int.reduceLT, Int.reduceLE, Int.reduceToNat, Int.reduceNeg, Int.reduceBEq, Int.reduceAdd, Int.reduceSub, Int.reduceGT, Int.reduceGE, Int.reduceBNe, hb.1, hb.2, hb.1]
      | refine callK_of (con_level2 i) ?_
      | refine callK_of (hc) ?_
      | refine callK_of (con_ofT 23 i 0 5 [a, b, p, x] (by simp) (by simp)) ?_
      | refine callK_of (con_ofT 23 i 0 8 [a, b, p, x] (by simp) (by simp)) ?_
      | refine callK_of (con_fresh i a b x (us 5 i 0 [a, b, p, x]) (us 8 i 0 [a, b, p, x]) ha hbT hx (tok_us (by unfold fit; omega) hi (by unfold fit; omega) (by simp) (by simp [ha, hbT, hpT, hx])) (tok_us (by unfold fit; omega) hi (by unfold fit; omega) (by simp) (by simp [ha, hbT, hpT, hx]))) ?_
      | rfl

end Go.Proofs.YtkldipbhenabfaaGreat.Abs
