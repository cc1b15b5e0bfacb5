/- Hets, by the program and by the page. -/
import Derived.Test.YtkldipbhenabfaaGreatRFk
import Derived.Test.YtkldipbhenabfaaGreatRArg
set_option linter.unusedSimpArgs false
set_option linter.unusedVariables false
namespace Go.Proofs.YtkldipbhenabfaaGreat.Abs
open Go Go.RowKit Go.Proofs.YtkldipbhenabfaaGreat

structure HT where
  i : Int
  a : Tm
  b : Tm
  x : Tm
  y : Tm
  h : Tm
def HT.v (g : HT) : List SV := hv g.i g.a g.b g.x g.y g.h
structure HT.ok (g : HT) : Prop where
  i : fit g.i
  a : TOk g.a
  b : TOk g.b
  x : TOk g.x
  y : TOk g.y
  h : TOk g.h

def lev2 (i : Int) : Bool := decide (0 ≤ i) && decide (i ≤ 998)
theorem lev2_le {i : Int} (h : lev2 i = true) : 0 ≤ i ∧ i ≤ 998 := by
  unfold lev2 at h
  simpa using h
theorem con_level2 (i : Int) : Con 83 [.int .i64 i] (.bool (lev2 i)) := con_level i
def hrightB (g : HT) : Bool := lev2 g.i && plains [g.a, g.b, g.x, g.y, g.h]

theorem con_hright (g : HT) (hg : g.ok) : Con 101 [.agg true g.v] (.bool (hrightB g)) := by
  refine contract_of_vc mixed Tryz.func101 tr101 ?_
  have hc := con_hplain [g.a, g.b, g.x, g.y, g.h] (by simp [hg.a, hg.b, hg.x, hg.y, hg.h]) (by simp)
  unfold hrightB HT.v
  cases hl : lev2 g.i
  · repeat' first
      | simp (config := { maxSteps := 2000000 }) only [go_sem, reduceIte, reduceCtorEq, Nat.reduceAdd, Nat.reduceSub, Nat.reduceMul, Nat.reduceLT, Nat.reduceLeDiff, Nat.reduceEqDiff, Nat.reduceBEq, Nat.reduceGT, Int.reduceEq, Int.reduceNe, Int.reduceLT, Int.reduceLE, Int.reduceToNat, Int.reduceNeg, Int.reduceBEq, Int.reduceAdd, Int.reduceSub, Int.reduceGT, Int.reduceGE, Int.reduceBNe, hl]
      | refine callK_of (con_level2 g.i) ?_
      | rfl
  · repeat' first
      | simp (config := { maxSteps := 2000000 }) only [go_sem, reduceIte, reduceCtorEq, Nat.reduceAdd, Nat.reduceSub, Nat.reduceMul, Nat.reduceLT, Nat.reduceLeDiff, Nat.reduceEqDiff, Nat.reduceBEq, Nat.reduceGT, Int.reduceEq, Int.reduceNe, Int.reduceLT, Int.reduceLE, Int.reduceToNat, Int.reduceNeg, Int.reduceBEq, Int.reduceAdd, Int.reduceSub, Int.reduceGT, Int.reduceGE, Int.reduceBNe, hl]
      | refine callK_of (con_level2 g.i) ?_
      | refine callK_of (hc) ?_
      | rfl

def zT : Tm := .mk 0 0 0 0 []
def zH : HT := ⟨0, zT, zT, zT, zT, zT⟩
theorem le_zT : Le (.agg true [.int .i64 0, .int .i64 0, .int .i64 0, .int .i64 0, .nils]) (.agg true (tv zT)) := le_leaf 0 0 0 0
theorem le_zH : Le (.agg true [.int .i64 0, .int .i64 0, .int .i64 0, .int .i64 0, .int .i64 0, .nils, .int .i64 0, .int .i64 0, .int .i64 0, .int .i64 0, .nils, .int .i64 0, .int .i64 0, .int .i64 0, .int .i64 0, .nils, .int .i64 0, .int .i64 0, .int .i64 0, .int .i64 0, .nils, .int .i64 0, .int .i64 0, .int .i64 0, .int .i64 0, .nils]) (.agg true zH.v) := by
  have e : zH.v = [.int .i64 0, .int .i64 0, .int .i64 0, .int .i64 0, .int .i64 0, .dsl 5 [], .int .i64 0, .int .i64 0, .int .i64 0, .int .i64 0, .dsl 5 [], .int .i64 0, .int .i64 0, .int .i64 0, .int .i64 0, .dsl 5 [], .int .i64 0, .int .i64 0, .int .i64 0, .int .i64 0, .dsl 5 [], .int .i64 0, .int .i64 0, .int .i64 0, .int .i64 0, .dsl 5 []] := by
    simp [zH, HT.v, hv, zT, tv_mk]
  rw [e]
  refine .val _ _ (.agg _ _ ?_)
  repeat' first
    | exact .nil
    | refine .cons _ _ _ _ (.nils 5) ?_
    | refine .cons _ _ _ _ (.refl _) ?_

theorem tok_so {i : Int} (h : fit i) : TOk (so i) := .mk _ _ _ _ _ (by unfold fit; omega) h (by unfold fit; omega) (by unfold fit; omega) (by simp) (by simp)
theorem tok_vr {i : Int} (h : fit i) : TOk (vr i) := .mk _ _ _ _ _ (by unfold fit; omega) h (by unfold fit; omega) (by unfold fit; omega) (by simp) (by simp)
theorem tok_zT : TOk zT := .mk _ _ _ _ _ (by unfold fit; omega) (by unfold fit; omega) (by unfold fit; omega) (by unfold fit; omega) (by simp) (by simp)
theorem tok_k {k : Int} {l : List Tm} (h : fit k) (hb : l.length * 56 ≤ 140737488355328) (hl : ∀ t ∈ l, TOk t) : TOk (.mk k 0 0 0 l) := .mk _ _ _ _ _ h (by unfold fit; omega) (by unfold fit; omega) (by unfold fit; omega) hb hl
theorem tok_pt {i : Int} {a x : Tm} (h : fit i) (ha : TOk a) (hx : TOk x) : TOk (pt i a x) := tok_k (by unfold fit; omega) (by simp) (by simp [tok_so h, tok_vr (i := 0) (by unfold fit; omega), ha, hx])
theorem tok_pts {i : Int} (h : fit i) : TOk (pts i) := tok_k (by unfold fit; omega) (by simp) (by simp [tok_so h, tok_vr (i := 0) (by unfold fit; omega)])
def us (n i j : Int) (l : List Tm) : Tm := .mk 23 i j n l
theorem tok_us {n i j : Int} {l : List Tm} (hn : fit n) (hi : fit i) (hj : fit j) (hb : l.length * 56 ≤ 140737488355328) (hl : ∀ t ∈ l, TOk t) : TOk (us n i j l) := .mk _ _ _ _ _ (by unfold fit; omega) hi hj hn hb hl

theorem con_huse (n i : Int) (l : List Tm) (h : TOk (us n i 0 l)) (h0 : l ≠ []) (hb : l.length * 56 ≤ 140737488355328) : Con 110 [.int .i64 n, .int .i64 i, .dsl 5 (l.map tv)] (.agg true (tv (us n i 0 l))) := by
  refine contract_of_vc mixed Tryz.func110 tr110 ?_
  have c1 := con_ofT 23 i 0 n l h0 hb
  have c2 := con_copy _ h
  unfold us at c2 ⊢
  generalize e : tv (.mk 23 i 0 n l) = r at *
  have hr : r.length = 5 := by rw [← e, tv_len]
  repeat' first
    | simp (config := { maxSteps := 2000000 }) only [go_sem, reduceIte, reduceCtorEq, Nat.reduceAdd, Nat.reduceSub, Nat.reduceMul, Nat.reduceLT, Nat.reduceLeDiff, Nat.reduceEqDiff, Nat.reduceBEq, Nat.reduceGT, Int.reduceEq, Int.reduceNe, Int.reduceLT, Int.reduceLE, Int.reduceToNat, Int.reduceNeg, Int.reduceBEq, Int.reduceAdd, Int.reduceSub, Int.reduceGT, Int.reduceGE, Int.reduceBNe, hr]
    | refine callK_of (c1) ?_
    | refine callK_of (c2) ?_
    | rfl

/-! Point, Points, Type -/
def pointF (i : Int) (a x : Tm) : Tm := if lev2 i && plains [a, x] then pt i a x else zT
def pointsF (i : Int) : Tm := if lev2 i then pts i else zT
def typeF (g : HT) : Tm := if hrightB g then us 6 g.i 0 [g.a, g.b, g.x, g.y] else zT

theorem con_hPoint (i : Int) (a x : Tm) (ha : TOk a) (hx : TOk x) : Con 128 [.int .i64 i, .agg true (tv a), .agg true (tv x)] (.agg true (tv (pointF i a x))) := by
  have hc := con_hplain [a, x] (by simp [ha, hx]) (by simp)
  unfold pointF
  cases hb : (lev2 i && plains [a, x])
  · refine (contract_of_vc (r := .agg true [.int .i64 0, .int .i64 0, .int .i64 0, .int .i64 0, .nils]) mixed Tryz.func128 tr128 ?_).weaken le_zT
    cases hl : lev2 i
    · repeat' first
        | simp (config := { maxSteps := 2000000 }) only [go_sem, reduceIte, reduceCtorEq, Nat.reduceAdd, Nat.reduceSub, Nat.reduceMul, Nat.reduceLT, Nat.reduceLeDiff, Nat.reduceEqDiff, Nat.reduceBEq, Nat.reduceGT, Int.reduceEq, Int.reduceNe, Int.reduceLT, Int.reduceLE, Int.reduceToNat, Int.reduceNeg, Int.reduceBEq, Int.reduceAdd, Int.reduceSub, Int.reduceGT, Int.reduceGE, Int.reduceBNe, hl]
        | refine callK_of (con_level2 i) ?_
        | rfl
    · have hp : plains [a, x] = false := by simpa [hl] using hb
      repeat' first
        | simp (config := { maxSteps := 2000000 }) only [go_sem, reduceIte, reduceCtorEq, Nat.reduceAdd, Nat.reduceSub, Nat.reduceMul, Nat.reduceLT, Nat.reduceLeDiff, Nat.reduceEqDiff, Nat.reduceBEq, Nat.reduceGT, Int.reduceEq, Int.reduceNe, Int.reduceLT, Int.reduceLE, Int.reduceToNat, Int.reduceNeg, Int.reduceBEq, Int.reduceAdd, Int.reduceSub, Int.reduceGT, Int.reduceGE, Int.reduceBNe, hl, hp]
        | refine callK_of (con_level2 i) ?_
        | refine callK_of (hc) ?_
        | rfl
  · simp only [Bool.and_eq_true] at hb
    have hl := lev2_le hb.1
    have hi : fit i := by unfold fit; omega
    have c3 := con_copy _ (tok_pt hi ha hx)
    refine contract_of_vc mixed Tryz.func128 tr128 ?_
    repeat' first
      | simp (config := { maxSteps := 2000000 }) only [go_sem, reduceIte, reduceCtorEq, Nat.reduceAdd, Nat.reduceSub, Nat.reduceMul, Nat.reduceLT, Nat.reduceLeDiff, Nat.reduceEqDiff, Nat.reduceBEq, Nat.reduceGT, Int.reduceEq, Int.reduceNe, Int.reduceLT, Int.reduceLE, Int.reduceToNat, Int.reduceNeg, Int.reduceBEq, Int.reduceAdd, Int.reduceSub, Int.reduceGT, Int.reduceGE, Int.reduceBNe, hb.1, hb.2]
      | refine callK_of (con_level2 i) ?_
      | refine callK_of (hc) ?_
      | refine callK_of (con_point i a x) ?_
      | refine callK_of (c3) ?_
      | rfl

theorem con_hPoints (i : Int) : Con 86 [.int .i64 i] (.agg true (tv (pointsF i))) := by
  have h := con_points i
  have e : (if 0 ≤ i ∧ i ≤ 998 then pts i else .mk 0 0 0 0 []) = pointsF i := by
    unfold pointsF lev2 zT
    by_cases h : 0 ≤ i ∧ i ≤ 998
    · rw [if_pos h, if_pos (by simpa using h)]
    · rw [if_neg h, if_neg (by simpa using h)]
  rwa [e] at h

theorem con_hType (g : HT) (hg : g.ok) : Con 79 [.agg true g.v] (.agg true (tv (typeF g))) := by
  have hc := con_hright g hg
  unfold typeF
  cases hb : hrightB g
  · refine (contract_of_vc (r := .agg true [.int .i64 0, .int .i64 0, .int .i64 0, .int .i64 0, .nils]) mixed Tryz.func79 tr79 ?_).weaken le_zT
    unfold HT.v at *
    repeat' first
      | simp (config := { maxSteps := 2000000 }) only [go_sem, reduceIte, reduceCtorEq, Nat.reduceAdd, Nat.reduceSub, Nat.reduceMul, Nat.reduceLT, Nat.reduceLeDiff, Nat.reduceEqDiff, Nat.reduceBEq, Nat.reduceGT, Int.reduceEq, Int.reduceNe, Int.reduceLT, Int.reduceLE, Int.reduceToNat, Int.reduceNeg, Int.reduceBEq, Int.reduceAdd, Int.reduceSub, Int.reduceGT, Int.reduceGE, Int.reduceBNe, hb]
      | refine callK_of (hc) ?_
      | rfl
  · refine contract_of_vc mixed Tryz.func79 tr79 ?_
    have c3 := con_huse 6 g.i [g.a, g.b, g.x, g.y] (tok_us (by unfold fit; omega) hg.i (by unfold fit; omega) (by simp) (by simp [hg.a, hg.b, hg.x, hg.y])) (by simp) (by simp)
    unfold HT.v at *
    repeat' first
      | simp (config := { maxSteps := 2000000 }) only [go_sem, reduceIte, reduceCtorEq, Nat.reduceAdd, Nat.reduceSub, Nat.reduceMul, Nat.reduceLT, Nat.reduceLeDiff, Nat.reduceEqDiff, Nat.reduceBEq, Nat.reduceGT, Int.reduceEq, Int.reduceNe, Int.reduceLT, Int.reduceLE, Int.reduceToNat, Int.reduceNeg, Int.reduceBEq, Int.reduceAdd, Int.reduceSub, Int.reduceGT, Int.reduceGE, Int.reduceBNe, hb]
      | refine callK_of (hc) ?_
      | refine callK_of (c3) ?_
      | rfl
end Go.Proofs.YtkldipbhenabfaaGreat.Abs

set_option linter.unusedSimpArgs false
set_option linter.unusedVariables false
namespace Go.Proofs.YtkldipbhenabfaaGreat.Abs
open Go Go.RowKit Go.Proofs.YtkldipbhenabfaaGreat

theorem wrap1 {i : Int} (h : lev2 i = true) : IntKind.i64.wrap (i + 1) = i + 1 := by
  have := lev2_le h
  exact w64 (by unfold fit; omega)
theorem fit_lev {i : Int} (h : lev2 i = true) : fit i := by
  have := lev2_le h
  unfold fit; omega
theorem fit_lev1 {i : Int} (h : lev2 i = true) : fit (i + 1) := by
  have := lev2_le h
  unfold fit; omega
theorem hright_of {g : HT} (h : hrightB g = true) : lev2 g.i = true ∧ plainT g.a = true ∧ plainT g.b = true ∧ plainT g.x = true ∧ plainT g.y = true ∧ plainT g.h = true := by
  unfold hrightB at h
  simpa [and_assoc] using h
theorem pointsF_yes {i : Int} (h : lev2 i = true) : pointsF i = pts i := by
  unfold pointsF; rw [if_pos h]

def selfF (i : Int) (a x : Tm) : HT := if lev2 i && plains [a, x] then ⟨i, a, a, x, x, .mk 21 0 0 0 [pts i, pt i a x]⟩ else zH
def turnF (g : HT) : HT := if hrightB g then ⟨g.i, g.b, g.a, g.y, g.x, us 3 (g.i + 1) 0 [pts g.i, pt g.i g.a g.x, pt g.i g.b g.y, g.h]⟩ else zH
def thenF (g h : HT) : HT := if hrightB g && (hrightB h && (g.i == h.i)) then ⟨g.i, g.a, h.b, g.x, h.y, us 4 (g.i + 1) 0 [pts g.i, pt g.i g.a g.x, pt g.i g.b g.y, pt g.i h.b h.y, g.h, h.h]⟩ else zH
def eqF (g : HT) : Tm := if hrightB g then us 10 g.i 0 [g.a, g.x, g.y, g.h] else zT
def ofF (i : Int) (a x y e : Tm) : HT := if lev2 i && plains [a, x, y, e] then ⟨i, a, a, x, y, us 11 i 0 [a, x, y, e]⟩ else zH
def movedF (i : Int) (a b p x : Tm) : HT := if lev2 i && plains [a, b, p, x] then ⟨i, a, b, x, us 5 i 0 [a, b, p, x], us 8 i 0 [a, b, p, x]⟩ else zH

theorem con_hSelf (i : Int) (a x : Tm) (ha : TOk a) (hx : TOk x) : Con 48 [.int .i64 i, .agg true (tv a), .agg true (tv x)] (.agg true (selfF i a x).v) := by
  have hc := con_hplain [a, x] (by simp [ha, hx]) (by simp)
  unfold selfF
  cases hb : (lev2 i && plains [a, x])
  · refine (contract_of_vc (r := .agg true [.int .i64 0, .int .i64 0, .int .i64 0, .int .i64 0, .int .i64 0, .nils, .int .i64 0, .int .i64 0, .int .i64 0, .int .i64 0, .nils, .int .i64 0, .int .i64 0, .int .i64 0, .int .i64 0, .nils, .int .i64 0, .int .i64 0, .int .i64 0, .int .i64 0, .nils, .int .i64 0, .int .i64 0, .int .i64 0, .int .i64 0, .nils]) mixed Tryz.func48 tr48 ?_).weaken le_zH
    cases hl : lev2 i
    · repeat' first
        | simp (config := { maxSteps := 2000000 }) only [go_sem, reduceIte, reduceCtorEq, Nat.reduceAdd, Nat.reduceSub, Nat.reduceMul, Nat.reduceLT, Nat.reduceLeDiff, Nat.reduceEqDiff, Nat.reduceBEq, Nat.reduceGT, Int.reduceEq, Int.reduceNe, Int.reduceLT, Int.reduceLE, Int.reduceToNat, Int.reduceNeg, Int.reduceBEq, Int.reduceAdd, Int.reduceSub, Int.reduceGT, Int.reduceGE, Int.reduceBNe, hl]
        | refine callK_of (con_level2 i) ?_
        | rfl
    · have hp : plains [a, x] = false := by simpa [hl] using hb
      repeat' first
        | simp (config := { maxSteps := 2000000 }) only [go_sem, reduceIte, reduceCtorEq, Nat.reduceAdd, Nat.reduceSub, Nat.reduceMul, Nat.reduceLT, Nat.reduceLeDiff, Nat.reduceEqDiff, Nat.reduceBEq, Nat.reduceGT, Int.reduceEq, Int.reduceNe, Int.reduceLT, Int.reduceLE, Int.reduceToNat, Int.reduceNeg, Int.reduceBEq, Int.reduceAdd, Int.reduceSub, Int.reduceGT, Int.reduceGE, Int.reduceBNe, hl, hp]
        | refine callK_of (con_level2 i) ?_
        | refine callK_of (hc) ?_
        | rfl
  · simp only [Bool.and_eq_true] at hb
    have hl := hb.1
    have hpl := hb.2
    simp only [List.all_cons, List.all_nil, Bool.and_true, Bool.and_eq_true] at hpl
    have hi := fit_lev hl
    refine contract_of_vc mixed Tryz.func48 tr48 ?_
    simp only [if_true, HT.v]
    repeat' first
      | simp (config := { maxSteps := 2000000 }) only [go_sem, reduceIte, reduceCtorEq, Nat.reduceAdd, Nat.reduceSub, Nat.reduceMul, Nat.reduceLT, Nat.reduceLeDiff, Nat.reduceEqDiff, Nat.reduceBEq, Nat.reduceGT, Int.reduceEq, Int.reduceNe, Int.reduceLT, Int.reduceLE, Int.reduceToNat, Int.reduceNeg, Int.reduceBEq, Int.reduceAdd, Int.reduceSub, Int.reduceGT, Int.reduceGE, Int.reduceBNe, hb.1, hb.2, pointsF_yes hl]
      | refine callK_of (con_level2 i) ?_
      | refine callK_of (hc) ?_
      | refine callK_of (con_hPoints i) ?_
      | refine callK_of (con_point i a x) ?_
      | refine callK_of (con_ofT 21 0 0 0 [pts i, pt i a x] (by simp) (by simp)) ?_
      | refine callK_of (con_fresh i a a x x (.mk 21 0 0 0 [pts i, pt i a x]) ha ha hx hx (tok_k (by unfold fit; omega) (by simp) (by simp [tok_pts hi, tok_pt hi ha hx]))) ?_
      | rfl

theorem con_hTurn (g : HT) (hg : g.ok) : Con 114 [.agg true g.v] (.agg true (turnF g).v) := by
  have hc := con_hright g hg
  unfold turnF
  cases hb : hrightB g
  · refine (contract_of_vc (r := .agg true [.int .i64 0, .int .i64 0, .int .i64 0, .int .i64 0, .int .i64 0, .nils, .int .i64 0, .int .i64 0, .int .i64 0, .int .i64 0, .nils, .int .i64 0, .int .i64 0, .int .i64 0, .int .i64 0, .nils, .int .i64 0, .int .i64 0, .int .i64 0, .int .i64 0, .nils, .int .i64 0, .int .i64 0, .int .i64 0, .int .i64 0, .nils]) mixed Tryz.func114 tr114 ?_).weaken le_zH
    unfold HT.v at *
    repeat' first
      | simp (config := { maxSteps := 2000000 }) only [go_sem, reduceIte, reduceCtorEq, Nat.reduceAdd, Nat.reduceSub, Nat.reduceMul, Nat.reduceLT, Nat.reduceLeDiff, Nat.reduceEqDiff, Nat.reduceBEq, Nat.reduceGT, Int.reduceEq, Int.reduceNe, Int.reduceLT, Int.reduceLE, Int.reduceToNat, Int.reduceNeg, Int.reduceBEq, Int.reduceAdd, Int.reduceSub, Int.reduceGT, Int.reduceGE, Int.reduceBNe, hb]
      | refine callK_of (hc) ?_
      | rfl
  · obtain ⟨hl, pa, pb, px, py, ph⟩ := hright_of hb
    have c3 := con_fresh g.i g.b g.a g.y g.x (us 3 (g.i + 1) 0 [pts g.i, pt g.i g.a g.x, pt g.i g.b g.y, g.h]) hg.b hg.a hg.y hg.x (tok_us (by unfold fit; omega) (fit_lev1 hl) (by unfold fit; omega) (by simp) (by simp [tok_pts (fit_lev hl), tok_pt (fit_lev hl) hg.a hg.x, tok_pt (fit_lev hl) hg.b hg.y, hg.h]))
    refine contract_of_vc mixed Tryz.func114 tr114 ?_
    simp only [if_true, HT.v] at *
    repeat' first
      | simp (config := { maxSteps := 2000000 }) only [go_sem, reduceIte, reduceCtorEq, Nat.reduceAdd, Nat.reduceSub, Nat.reduceMul, Nat.reduceLT, Nat.reduceLeDiff, Nat.reduceEqDiff, Nat.reduceBEq, Nat.reduceGT, Int.reduceEq, Int.reduceNe, Int.reduceLT, Int.reduceLE, Int.reduceToNat, Int.reduceNeg, Int.reduceBEq, Int.reduceAdd, Int.reduceSub, Int.reduceGT, Int.reduceGE, Int.reduceBNe, hb, pointsF_yes hl, wrap1 hl]
      | refine callK_of (hc) ?_
      | refine callK_of (con_hPoints g.i) ?_
      | refine callK_of (con_point g.i g.a g.x) ?_
      | refine callK_of (con_point g.i g.b g.y) ?_
      | refine callK_of (con_ofT 23 (g.i + 1) 0 3 [pts g.i, pt g.i g.a g.x, pt g.i g.b g.y, g.h] (by simp) (by simp)) ?_
      | refine callK_of (c3) ?_
      | rfl

theorem con_hEq (g : HT) (hg : g.ok) : Con 129 [.agg true g.v] (.agg true (tv (eqF g))) := by
  have hc := con_hright g hg
  unfold eqF
  cases hb : hrightB g
  · refine (contract_of_vc (r := .agg true [.int .i64 0, .int .i64 0, .int .i64 0, .int .i64 0, .nils]) mixed Tryz.func129 tr129 ?_).weaken le_zT
    unfold HT.v at *
    repeat' first
      | simp (config := { maxSteps := 2000000 }) only [go_sem, reduceIte, reduceCtorEq, Nat.reduceAdd, Nat.reduceSub, Nat.reduceMul, Nat.reduceLT, Nat.reduceLeDiff, Nat.reduceEqDiff, Nat.reduceBEq, Nat.reduceGT, Int.reduceEq, Int.reduceNe, Int.reduceLT, Int.reduceLE, Int.reduceToNat, Int.reduceNeg, Int.reduceBEq, Int.reduceAdd, Int.reduceSub, Int.reduceGT, Int.reduceGE, Int.reduceBNe, hb]
      | refine callK_of (hc) ?_
      | rfl
  · obtain ⟨hl, pa, pb, px, py, ph⟩ := hright_of hb
    have c3 := con_huse 10 g.i [g.a, g.x, g.y, g.h] (tok_us (by unfold fit; omega) hg.i (by unfold fit; omega) (by simp) (by simp [hg.a, hg.x, hg.y, hg.h])) (by simp) (by simp)
    refine contract_of_vc mixed Tryz.func129 tr129 ?_
    simp only [if_true, HT.v] at *
    repeat' first
      | simp (config := { maxSteps := 2000000 }) only [go_sem, reduceIte, reduceCtorEq, Nat.reduceAdd, Nat.reduceSub, Nat.reduceMul, Nat.reduceLT, Nat.reduceLeDiff, Nat.reduceEqDiff, Nat.reduceBEq, Nat.reduceGT, Int.reduceEq, Int.reduceNe, Int.reduceLT, Int.reduceLE, Int.reduceToNat, Int.reduceNeg, Int.reduceBEq, Int.reduceAdd, Int.reduceSub, Int.reduceGT, Int.reduceGE, Int.reduceBNe, hb, hb]
      | refine callK_of (hc) ?_
      | refine callK_of (c3) ?_
      | rfl

theorem con_hOf (i : Int) (a x y e : Tm) (ha : TOk a) (hx : TOk x) (hy : TOk y) (he : TOk e) : Con 152 [.int .i64 i, .agg true (tv a), .agg true (tv x), .agg true (tv y), .agg true (tv e)] (.agg true (ofF i a x y e).v) := by
  have hc := con_hplain [a, x, y, e] (by simp [ha, hx, hy, he]) (by simp)
  unfold ofF
  cases hb : (lev2 i && plains [a, x, y, e])
  · refine (contract_of_vc (r := .agg true [.int .i64 0, .int .i64 0, .int .i64 0, .int .i64 0, .int .i64 0, .nils, .int .i64 0, .int .i64 0, .int .i64 0, .int .i64 0, .nils, .int .i64 0, .int .i64 0, .int .i64 0, .int .i64 0, .nils, .int .i64 0, .int .i64 0, .int .i64 0, .int .i64 0, .nils, .int .i64 0, .int .i64 0, .int .i64 0, .int .i64 0, .nils]) mixed Tryz.func152 tr152 ?_).weaken le_zH
    cases hl : lev2 i
    · repeat' first
        | simp (config := { maxSteps := 2000000 }) only [go_sem, reduceIte, reduceCtorEq, Nat.reduceAdd, Nat.reduceSub, Nat.reduceMul, Nat.reduceLT, Nat.reduceLeDiff, Nat.reduceEqDiff, Nat.reduceBEq, Nat.reduceGT, Int.reduceEq, Int.reduceNe, Int.reduceLT, Int.reduceLE, Int.reduceToNat, Int.reduceNeg, Int.reduceBEq, Int.reduceAdd, Int.reduceSub, Int.reduceGT, Int.reduceGE, Int.reduceBNe, hl]
        | refine callK_of (con_level2 i) ?_
        | rfl
    · have hp : plains [a, x, y, e] = false := by simpa [hl] using hb
      repeat' first
        | simp (config := { maxSteps := 2000000 }) only [go_sem, reduceIte, reduceCtorEq, Nat.reduceAdd, Nat.reduceSub, Nat.reduceMul, Nat.reduceLT, Nat.reduceLeDiff, Nat.reduceEqDiff, Nat.reduceBEq, Nat.reduceGT, Int.reduceEq, Int.reduceNe, Int.reduceLT, Int.reduceLE, Int.reduceToNat, Int.reduceNeg, Int.reduceBEq, Int.reduceAdd, Int.reduceSub, Int.reduceGT, Int.reduceGE, Int.reduceBNe, hl, hp]
        | refine callK_of (con_level2 i) ?_
        | refine callK_of (hc) ?_
        | rfl
  · simp only [Bool.and_eq_true] at hb
    have hl := hb.1
    have hpl := hb.2
    simp only [List.all_cons, List.all_nil, Bool.and_true, Bool.and_eq_true] at hpl
    have hi := fit_lev hl
    refine contract_of_vc mixed Tryz.func152 tr152 ?_
    simp only [if_true, HT.v]
    repeat' first
      | simp (config := { maxSteps := 2000000 }) only [go_sem, reduceIte, reduceCtorEq, Nat.reduceAdd, Nat.reduceSub, Nat.reduceMul, Nat.reduceLT, Nat.reduceLeDiff, Nat.reduceEqDiff, Nat.reduceBEq, Nat.reduceGT, Int.reduceEq, Int.reduceNe, Int.reduceLT, Int.reduceLE, Int.reduceToNat, Int.reduceNeg, Int.reduceBEq, Int.reduceAdd, Int.reduceSub, Int.reduceGT, Int.reduceGE, Int.reduceBNe, hb.1, hb.2, hb.1]
      | refine callK_of (con_level2 i) ?_
      | refine callK_of (hc) ?_
      | refine callK_of (con_ofT 23 i 0 11 [a, x, y, e] (by simp) (by simp)) ?_
      | refine callK_of (con_fresh i a a x y (us 11 i 0 [a, x, y, e]) ha ha hx hy (tok_us (by unfold fit; omega) hi (by unfold fit; omega) (by simp) (by simp [ha, hx, hy, he]))) ?_
      | rfl

theorem con_hMoved (i : Int) (a b p x : Tm) (ha : TOk a) (hbT : TOk b) (hpT : TOk p) (hx : TOk x) : Con 112 [.int .i64 i, .agg true (tv a), .agg true (tv b), .agg true (tv p), .agg true (tv x)] (.agg true (movedF i a b p x).v) := by
  have hc := con_hplain [a, b, p, x] (by simp [ha, hbT, hpT, hx]) (by simp)
  unfold movedF
  cases hb : (lev2 i && plains [a, b, p, x])
  · refine (contract_of_vc (r := .agg true [.int .i64 0, .int .i64 0, .int .i64 0, .int .i64 0, .int .i64 0, .nils, .int .i64 0, .int .i64 0, .int .i64 0, .int .i64 0, .nils, .int .i64 0, .int .i64 0, .int .i64 0, .int .i64 0, .nils, .int .i64 0, .int .i64 0, .int .i64 0, .int .i64 0, .nils, .int .i64 0, .int .i64 0, .int .i64 0, .int .i64 0, .nils]) mixed Tryz.func112 tr112 ?_).weaken le_zH
    cases hl : lev2 i
    · repeat' first
        | simp (config := { maxSteps := 2000000 }) only [go_sem, reduceIte, reduceCtorEq, Nat.reduceAdd, Nat.reduceSub, Nat.reduceMul, Nat.reduceLT, Nat.reduceLeDiff, Nat.reduceEqDiff, Nat.reduceBEq, Nat.reduceGT, Int.reduceEq, Int.reduceNe, Int.reduceLT, Int.reduceLE, Int.reduceToNat, Int.reduceNeg, Int.reduceBEq, Int.reduceAdd, Int.reduceSub, Int.reduceGT, Int.reduceGE, Int.reduceBNe, hl]
        | refine callK_of (con_level2 i) ?_
        | rfl
    · have hp : plains [a, b, p, x] = false := by simpa [hl] using hb
      repeat' first
        | simp (config := { maxSteps := 2000000 }) only [go_sem, reduceIte, reduceCtorEq, Nat.reduceAdd, Nat.reduceSub, Nat.reduceMul, Nat.reduceLT, Nat.reduceLeDiff, Nat.reduceEqDiff, Nat.reduceBEq, Nat.reduceGT, Int.reduceEq, Int.reduceNe, Int.reduceLT, Int.reduceLE, Int.reduceToNat, Int.reduceNeg, Int.reduceBEq, Int.reduceAdd, Int.reduceSub, Int.reduceGT, Int.reduceGE, Int.reduceBNe, hl, hp]
        | refine callK_of (con_level2 i) ?_
        | refine callK_of (hc) ?_
        | rfl
  · simp only [Bool.and_eq_true] at hb
    have hl := hb.1
    have hpl := hb.2
    simp only [List.all_cons, List.all_nil, Bool.and_true, Bool.and_eq_true] at hpl
    have hi := fit_lev hl
    refine contract_of_vc mixed Tryz.func112 tr112 ?_
    simp only [if_true, HT.v]
    repeat' first
      | simp (config := { maxSteps := 2000000 }) only [go_sem, reduceIte, reduceCtorEq, Nat.reduceAdd, Nat.reduceSub, Nat.reduceMul, Nat.reduceLT, Nat.reduceLeDiff, Nat.reduceEqDiff, Nat.reduceBEq, Nat.reduceGT, Int.reduceEq, Int.reduceNe, Int.reduceLT, Int.reduceLE, Int.reduceToNat, Int.reduceNeg, Int.reduceBEq, Int.reduceAdd, Int.reduceSub, Int.reduceGT, Int.reduceGE, Int.reduceBNe, hb.1, hb.2, hb.1]
      | refine callK_of (con_level2 i) ?_
      | refine callK_of (hc) ?_
      | refine callK_of (con_ofT 23 i 0 5 [a, b, p, x] (by simp) (by simp)) ?_
      | refine callK_of (con_ofT 23 i 0 8 [a, b, p, x] (by simp) (by simp)) ?_
      | refine callK_of (con_fresh i a b x (us 5 i 0 [a, b, p, x]) (us 8 i 0 [a, b, p, x]) ha hbT hx (tok_us (by unfold fit; omega) hi (by unfold fit; omega) (by simp) (by simp [ha, hbT, hpT, hx])) (tok_us (by unfold fit; omega) hi (by unfold fit; omega) (by simp) (by simp [ha, hbT, hpT, hx]))) ?_
      | rfl

end Go.Proofs.YtkldipbhenabfaaGreat.Abs

set_option linter.unusedSimpArgs false
set_option linter.unusedVariables false
namespace Go.Proofs.YtkldipbhenabfaaGreat.Abs
open Go Go.RowKit Go.Proofs.YtkldipbhenabfaaGreat

theorem ok_zH : zH.ok := ⟨by simp only [zH]; unfold fit; omega, tok_zT, tok_zT, tok_zT, tok_zT, tok_zT⟩
theorem tok_pointF {i : Int} {a x : Tm} (ha : TOk a) (hx : TOk x) : TOk (pointF i a x) := by
  unfold pointF
  split
  · rename_i h
    simp only [Bool.and_eq_true] at h
    exact tok_pt (fit_lev h.1) ha hx
  · exact tok_zT
theorem tok_pointsF {i : Int} : TOk (pointsF i) := by
  unfold pointsF
  split
  · rename_i h; exact tok_pts (fit_lev h)
  · exact tok_zT
theorem tok_eqF {g : HT} (hg : g.ok) : TOk (eqF g) := by
  unfold eqF
  split
  · exact tok_us (by unfold fit; omega) hg.i (by unfold fit; omega) (by simp) (by simp [hg.a, hg.h, hg.x, hg.y])
  · exact tok_zT
theorem ok_selfF {i : Int} {a x : Tm} (ha : TOk a) (hx : TOk x) : (selfF i a x).ok := by
  unfold selfF
  split
  · rename_i h
    simp only [Bool.and_eq_true] at h
    have hi := fit_lev h.1
    exact ⟨hi, ha, ha, hx, hx, tok_k (by unfold fit; omega) (by simp) (by simp [tok_pts hi, tok_pt hi ha hx])⟩
  · exact ok_zH
theorem ok_turnF {g : HT} (hg : g.ok) : (turnF g).ok := by
  unfold turnF
  split
  · rename_i h
    have hl := (hright_of h).1
    exact ⟨hg.i, hg.b, hg.a, hg.y, hg.x, tok_us (by unfold fit; omega) (fit_lev1 hl) (by unfold fit; omega) (by simp) (by simp [tok_pts (fit_lev hl), tok_pt (fit_lev hl) hg.a hg.x, tok_pt (fit_lev hl) hg.b hg.y, hg.h])⟩
  · exact ok_zH
theorem ok_ofF {i : Int} {a x y e : Tm} (ha : TOk a) (hx : TOk x) (hy : TOk y) (he : TOk e) : (ofF i a x y e).ok := by
  unfold ofF
  split
  · rename_i h
    simp only [Bool.and_eq_true] at h
    have hi := fit_lev h.1
    exact ⟨hi, ha, ha, hx, hy, tok_us (by unfold fit; omega) hi (by unfold fit; omega) (by simp) (by simp [ha, hx, hy, he])⟩
  · exact ok_zH
theorem ok_movedF {i : Int} {a b p x : Tm} (ha : TOk a) (hb : TOk b) (hp : TOk p) (hx : TOk x) : (movedF i a b p x).ok := by
  unfold movedF
  split
  · rename_i h
    simp only [Bool.and_eq_true] at h
    have hi := fit_lev h.1
    exact ⟨hi, ha, hb, hx, tok_us (by unfold fit; omega) hi (by unfold fit; omega) (by simp) (by simp [ha, hb, hp, hx]), tok_us (by unfold fit; omega) hi (by unfold fit; omega) (by simp) (by simp [ha, hb, hp, hx])⟩
  · exact ok_zH

/-! Plain -/
theorem plain_node {k : Int} {l : List Tm} (h : rightN k 0 0 0 2 l.length = true) (hl : l.all plainT = true) : plainT (.mk k 0 0 0 l) = true := by
  show rightT _ 2 = true
  rw [plain_kids, h, hl]; rfl
theorem plain_so {i : Int} (h : lev i = true) : plainT (so i) = true := by
  unfold so
  show rightT _ 2 = true
  rw [plain_kids]
  unfold rightN numsB
  rw [if_pos (by simp), h]; rfl
theorem plain_pts {i : Int} (h : lev i = true) : plainT (pts i) = true := plain_node (by rfl) (by simp only [List.all_cons, List.all_nil, plain_so h]; rfl)
theorem plain_pt {i : Int} {a x : Tm} (h : lev i = true) (ha : plainT a = true) (hx : plainT x = true) : plainT (pt i a x) = true := plain_node (by rfl) (by simp only [List.all_cons, List.all_nil, plain_so h, ha, hx]; rfl)
/-! Cells -/
theorem tv_0 {t : Tm} : (tv t)[0]? = some (.int .i64 t.k) := by cases t; rw [tv_mk]; rfl
end Go.Proofs.YtkldipbhenabfaaGreat.Abs

set_option linter.unusedSimpArgs false
set_option linter.unusedVariables false
namespace Go.Proofs.YtkldipbhenabfaaGreat.Abs
open Go Go.RowKit Go.Proofs.YtkldipbhenabfaaGreat

theorem tmT : TmT Tryz.prog 34 24 3 := ⟨by kernel_rfl, by kernel_rfl, by kernel_rfl, by kernel_rfl, by kernel_rfl⟩
theorem arg_tm {x : SV} (h : TyArg Tryz.prog 34 x) : ∃ t, x = .agg true (tv t) ∧ TOk t := by
  cases h with
  | agg svs _ h2 =>
    obtain ⟨t, ht, rfl⟩ := (ty_tm tmT h2).1 rfl
    exact ⟨t, rfl, ht⟩
  | one x h1 _ => have e : isAggT Tryz.prog 34 = some true := by kernel_rfl
                  rw [e] at h1; cases h1
end Go.Proofs.YtkldipbhenabfaaGreat.Abs

