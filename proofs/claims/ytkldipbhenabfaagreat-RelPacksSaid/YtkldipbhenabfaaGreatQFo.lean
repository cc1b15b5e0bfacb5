/- Hets, by the program and by the page. -/
import Derived.Test.YtkldipbhenabfaaGreatQFk
import Derived.Test.YtkldipbhenabfaaGreatQArg
set_option linter.unusedSimpArgs false
set_option linter.unusedVariables false
namespace Go.Proofs.YtkldipbhenabfaaGreat.Abs
open Go Go.RowKit Go.Proofs.YtkldipbhenabfaaGreat

/-- A Het. -/
structure HT where
  i : Int
  a : Tm
  b : Tm
  x : Tm
  y : Tm
  h : Tm
def HT.v (g : HT) : List SV := hv g.i g.a g.b g.x g.y g.h
structure HT.ok (g : HT) : Prop where
  i : fit g.i
  a : TOk g.a
  b : TOk g.b
  x : TOk g.x
  y : TOk g.y
  h : TOk g.h

def lev2 (i : Int) : Bool := decide (0 ≤ i) && decide (i ≤ 998)
theorem lev2_le {i : Int} (h : lev2 i = true) : 0 ≤ i ∧ i ≤ 998 := by
  unfold lev2 at h
  simpa using h
theorem con_level2 (i : Int) : Con 83 [.int .i64 i] (.bool (lev2 i)) := con_level i
theorem con_r23level2 (i : Int) : Con 90 [.int .i64 i, .int .i64 2] (.bool (lev2 i)) := by
  have h := con_r23level i 2
  have e : IntKind.i64.wrap (1000 - 2) = 998 := by decide
  rw [e] at h
  exact h

/-- A right Het. -/
def hrightB (g : HT) : Bool := lev2 g.i && plains [g.a, g.b, g.x, g.y, g.h]

theorem con_hright (g : HT) (hg : g.ok) : Con 101 [.agg true g.v] (.bool (hrightB g)) := by
  refine contract_of_vc mixed Tryz.func101 tr101 ?_
  have hc := con_hplain [g.a, g.b, g.x, g.y, g.h] (by simp [hg.a, hg.b, hg.x, hg.y, hg.h]) (by simp)
  unfold hrightB HT.v
  cases hl : lev2 g.i
  · repeat' first
      | simp (config := { maxSteps := 2000000 }) only [go_sem, reduceIte, reduceCtorEq, Nat.reduceAdd, Nat.reduceSub, Nat.reduceMul, Nat.reduceLT, Nat.reduceLeDiff, Nat.reduceEqDiff, Nat.reduceBEq, Nat.reduceGT, Int.reduceEq, Int.reduceNe, Int.reduceLT, Int.reduceLE, Int.reduceToNat, Int.reduceNeg, Int.reduceBEq, Int.reduceAdd, Int.reduceSub, Int.reduceGT, Int.reduceGE, Int.reduceBNe, hl]
      | refine callK_of (con_level2 g.i) ?_
      | rfl
  · repeat' first
      | simp (config := { maxSteps := 2000000 }) only [go_sem, reduceIte, reduceCtorEq, Nat.reduceAdd, Nat.reduceSub, Nat.reduceMul, Nat.reduceLT, Nat.reduceLeDiff, Nat.reduceEqDiff, Nat.reduceBEq, Nat.reduceGT, Int.reduceEq, Int.reduceNe, Int.reduceLT, Int.reduceLE, Int.reduceToNat, Int.reduceNeg, Int.reduceBEq, Int.reduceAdd, Int.reduceSub, Int.reduceGT, Int.reduceGE, Int.reduceBNe, hl]
      | refine callK_of (con_level2 g.i) ?_
      | refine callK_of (hc) ?_
      | rfl

theorem con_r23right (g : HT) (hg : g.ok) : Con 78 [.agg true g.v] (.bool (hrightB g)) := by
  refine contract_of_vc mixed Tryz.func78 tr78 ?_
  have hc := con_r23plain [g.a, g.b, g.x, g.y, g.h] (by simp [hg.a, hg.b, hg.x, hg.y, hg.h]) (by simp)
  unfold hrightB HT.v
  cases hl : lev2 g.i
  · repeat' first
      | simp (config := { maxSteps := 2000000 }) only [go_sem, reduceIte, reduceCtorEq, Nat.reduceAdd, Nat.reduceSub, Nat.reduceMul, Nat.reduceLT, Nat.reduceLeDiff, Nat.reduceEqDiff, Nat.reduceBEq, Nat.reduceGT, Int.reduceEq, Int.reduceNe, Int.reduceLT, Int.reduceLE, Int.reduceToNat, Int.reduceNeg, Int.reduceBEq, Int.reduceAdd, Int.reduceSub, Int.reduceGT, Int.reduceGE, Int.reduceBNe, hl]
      | refine callK_of (con_r23level2 g.i) ?_
      | rfl
  · repeat' first
      | simp (config := { maxSteps := 2000000 }) only [go_sem, reduceIte, reduceCtorEq, Nat.reduceAdd, Nat.reduceSub, Nat.reduceMul, Nat.reduceLT, Nat.reduceLeDiff, Nat.reduceEqDiff, Nat.reduceBEq, Nat.reduceGT, Int.reduceEq, Int.reduceNe, Int.reduceLT, Int.reduceLE, Int.reduceToNat, Int.reduceNeg, Int.reduceBEq, Int.reduceAdd, Int.reduceSub, Int.reduceGT, Int.reduceGE, Int.reduceBNe, hl]
      | refine callK_of (con_r23level2 g.i) ?_
      | refine callK_of (hc) ?_
      | rfl

def zT : Tm := .mk 0 0 0 0 []
def zH : HT := ⟨0, zT, zT, zT, zT, zT⟩
theorem le_zT : Le (.agg true [.int .i64 0, .int .i64 0, .int .i64 0, .int .i64 0, .nils]) (.agg true (tv zT)) := le_leaf 0 0 0 0
theorem le_zH : Le (.agg true [.int .i64 0, .int .i64 0, .int .i64 0, .int .i64 0, .int .i64 0, .nils, .int .i64 0, .int .i64 0, .int .i64 0, .int .i64 0, .nils, .int .i64 0, .int .i64 0, .int .i64 0, .int .i64 0, .nils, .int .i64 0, .int .i64 0, .int .i64 0, .int .i64 0, .nils, .int .i64 0, .int .i64 0, .int .i64 0, .int .i64 0, .nils]) (.agg true zH.v) := by
  have e : zH.v = [.int .i64 0, .int .i64 0, .int .i64 0, .int .i64 0, .int .i64 0, .dsl 5 [], .int .i64 0, .int .i64 0, .int .i64 0, .int .i64 0, .dsl 5 [], .int .i64 0, .int .i64 0, .int .i64 0, .int .i64 0, .dsl 5 [], .int .i64 0, .int .i64 0, .int .i64 0, .int .i64 0, .dsl 5 [], .int .i64 0, .int .i64 0, .int .i64 0, .int .i64 0, .dsl 5 []] := by
    simp [zH, HT.v, hv, zT, tv_mk]
  rw [e]
  refine .val _ _ (.agg _ _ ?_)
  repeat' first
    | exact .nil
    | refine .cons _ _ _ _ (.nils 5) ?_
    | refine .cons _ _ _ _ (.refl _) ?_

theorem tok_so {i : Int} (h : fit i) : TOk (so i) := .mk _ _ _ _ _ (by unfold fit; omega) h (by unfold fit; omega) (by unfold fit; omega) (by simp) (by simp)
theorem tok_vr {i : Int} (h : fit i) : TOk (vr i) := .mk _ _ _ _ _ (by unfold fit; omega) h (by unfold fit; omega) (by unfold fit; omega) (by simp) (by simp)
theorem tok_zT : TOk zT := .mk _ _ _ _ _ (by unfold fit; omega) (by unfold fit; omega) (by unfold fit; omega) (by unfold fit; omega) (by simp) (by simp)
/-- A node of a kind alone. -/
theorem tok_k {k : Int} {l : List Tm} (h : fit k) (hb : l.length * 56 ≤ 140737488355328) (hl : ∀ t ∈ l, TOk t) : TOk (.mk k 0 0 0 l) := .mk _ _ _ _ _ h (by unfold fit; omega) (by unfold fit; omega) (by unfold fit; omega) hb hl
theorem tok_pt {i : Int} {a x : Tm} (h : fit i) (ha : TOk a) (hx : TOk x) : TOk (pt i a x) := tok_k (by unfold fit; omega) (by simp) (by simp [tok_so h, tok_vr (i := 0) (by unfold fit; omega), ha, hx])
theorem tok_pts {i : Int} (h : fit i) : TOk (pts i) := tok_k (by unfold fit; omega) (by simp) (by simp [tok_so h, tok_vr (i := 0) (by unfold fit; omega)])
/-- A use of a symbol. -/
def us (n i j : Int) (l : List Tm) : Tm := .mk 23 i j n l
theorem tok_us {n i j : Int} {l : List Tm} (hn : fit n) (hi : fit i) (hj : fit j) (hb : l.length * 56 ≤ 140737488355328) (hl : ∀ t ∈ l, TOk t) : TOk (us n i j l) := .mk _ _ _ _ _ (by unfold fit; omega) hi hj hn hb hl

/-! Point, Points, Type -/
def pointF (i : Int) (a x : Tm) : Tm := if lev2 i && plains [a, x] then pt i a x else zT
def pointsF (i : Int) : Tm := if lev2 i then pts i else zT
def typeF (g : HT) : Tm := if hrightB g then us 6 g.i 0 [g.a, g.b, g.x, g.y] else zT

theorem con_hPoints (i : Int) : Con 86 [.int .i64 i] (.agg true (tv (pointsF i))) := by
  have h := con_points i
  have e : (if 0 ≤ i ∧ i ≤ 998 then pts i else .mk 0 0 0 0 []) = pointsF i := by
    unfold pointsF lev2 zT
    by_cases h : 0 ≤ i ∧ i ≤ 998
    · rw [if_pos h, if_pos (by simpa using h)]
    · rw [if_neg h, if_neg (by simpa using h)]
  rwa [e] at h

end Go.Proofs.YtkldipbhenabfaaGreat.Abs

set_option linter.unusedSimpArgs false
set_option linter.unusedVariables false
namespace Go.Proofs.YtkldipbhenabfaaGreat.Abs
open Go Go.RowKit Go.Proofs.YtkldipbhenabfaaGreat

theorem fit_lev {i : Int} (h : lev2 i = true) : fit i := by
  have := lev2_le h
  unfold fit; omega
theorem hright_of {g : HT} (h : hrightB g = true) : lev2 g.i = true ∧ plainT g.a = true ∧ plainT g.b = true ∧ plainT g.x = true ∧ plainT g.y = true ∧ plainT g.h = true := by
  unfold hrightB at h
  simpa [and_assoc] using h
theorem pointsF_yes {i : Int} (h : lev2 i = true) : pointsF i = pts i := by
  unfold pointsF; rw [if_pos h]

def selfF (i : Int) (a x : Tm) : HT := if lev2 i && plains [a, x] then ⟨i, a, a, x, x, .mk 21 0 0 0 [pts i, pt i a x]⟩ else zH
def turnF (g : HT) : HT := if hrightB g then ⟨g.i, g.b, g.a, g.y, g.x, us 3 (g.i + 1) 0 [pts g.i, pt g.i g.a g.x, pt g.i g.b g.y, g.h]⟩ else zH
def thenF (g h : HT) : HT := if hrightB g && (hrightB h && (g.i == h.i)) then ⟨g.i, g.a, h.b, g.x, h.y, us 4 (g.i + 1) 0 [pts g.i, pt g.i g.a g.x, pt g.i g.b g.y, pt g.i h.b h.y, g.h, h.h]⟩ else zH
def eqF (g : HT) : Tm := if hrightB g then us 10 g.i 0 [g.a, g.x, g.y, g.h] else zT
def ofF (i : Int) (a x y e : Tm) : HT := if lev2 i && plains [a, x, y, e] then ⟨i, a, a, x, y, us 11 i 0 [a, x, y, e]⟩ else zH
def movedF (i : Int) (a b p x : Tm) : HT := if lev2 i && plains [a, b, p, x] then ⟨i, a, b, x, us 5 i 0 [a, b, p, x], us 8 i 0 [a, b, p, x]⟩ else zH

theorem con_hSelf (i : Int) (a x : Tm) (ha : TOk a) (hx : TOk x) : Con 48 [.int .i64 i, .agg true (tv a), .agg true (tv x)] (.agg true (selfF i a x).v) := by
  have hc := con_hplain [a, x] (by simp [ha, hx]) (by simp)
  unfold selfF
  cases hb : (lev2 i && plains [a, x])
  · refine (contract_of_vc (r := .agg true [.int .i64 0, .int .i64 0, .int .i64 0, .int .i64 0, .int .i64 0, .nils, .int .i64 0, .int .i64 0, .int .i64 0, .int .i64 0, .nils, .int .i64 0, .int .i64 0, .int .i64 0, .int .i64 0, .nils, .int .i64 0, .int .i64 0, .int .i64 0, .int .i64 0, .nils, .int .i64 0, .int .i64 0, .int .i64 0, .int .i64 0, .nils]) mixed Tryz.func48 tr48 ?_).weaken le_zH
    cases hl : lev2 i
    · repeat' first
        | simp (config := { maxSteps := 2000000 }) only [go_sem, reduceIte, reduceCtorEq, Nat.reduceAdd, Nat.reduceSub, Nat.reduceMul, Nat.reduceLT, Nat.reduceLeDiff, Nat.reduceEqDiff, Nat.reduceBEq, Nat.reduceGT, Int.reduceEq, Int.reduceNe, Int.reduceLT, Int.reduceLE, Int.reduceToNat, Int.reduceNeg, Int.reduceBEq, Int.reduceAdd, Int.reduceSub, Int.reduceGT, Int.reduceGE, Int.reduceBNe, hl]
        | refine callK_of (con_level2 i) ?_
        | rfl
    · have hp : plains [a, x] = false := by simpa [hl] using hb
      repeat' first
        | simp (config := { maxSteps := 2000000 }) only [go_sem, reduceIte, reduceCtorEq, Nat.reduceAdd, Nat.reduceSub, Nat.reduceMul, Nat.reduceLT, Nat.reduceLeDiff, Nat.reduceEqDiff, Nat.reduceBEq, Nat.reduceGT, Int.reduceEq, Int.reduceNe, Int.reduceLT, Int.reduceLE, Int.reduceToNat, Int.reduceNeg, Int.reduceBEq, Int.reduceAdd, Int.reduceSub, Int.reduceGT, Int.reduceGE, Int.reduceBNe, hl, hp]
        | refine callK_of (con_level2 i) ?_
        | refine callK_of (hc) ?_
        | rfl
  · simp only [Bool.and_eq_true] at hb
    have hl := hb.1
    have hpl := hb.2
    simp only [List.all_cons, List.all_nil, Bool.and_true, Bool.and_eq_true] at hpl
    have hi := fit_lev hl
    refine contract_of_vc mixed Tryz.func48 tr48 ?_
    simp only [if_true, HT.v]
    repeat' first
      | simp (config := { maxSteps := 2000000 }) only [go_sem, reduceIte, reduceCtorEq, Nat.reduceAdd, Nat.reduceSub, Nat.reduceMul, Nat.reduceLT, Nat.reduceLeDiff, Nat.reduceEqDiff, Nat.reduceBEq, Nat.reduceGT, Int.reduceEq, Int.reduceNe, Int.reduceLT, Int.reduceLE, Int.reduceToNat, Int.reduceNeg, Int.reduceBEq, Int.reduceAdd, Int.reduceSub, Int.reduceGT, Int.reduceGE, Int.reduceBNe, hb.1, hb.2, pointsF_yes hl]
      | refine callK_of (con_level2 i) ?_
      | refine callK_of (hc) ?_
      | refine callK_of (con_hPoints i) ?_
      | refine callK_of (con_point i a x) ?_
      | refine callK_of (con_ofT 21 0 0 0 [pts i, pt i a x] (by simp) (by simp)) ?_
      | refine callK_of (con_fresh i a a x x (.mk 21 0 0 0 [pts i, pt i a x]) ha ha hx hx (tok_k (by unfold fit; omega) (by simp) (by simp [tok_pts hi, tok_pt hi ha hx]))) ?_
      | rfl

end Go.Proofs.YtkldipbhenabfaaGreat.Abs

set_option linter.unusedSimpArgs false
set_option linter.unusedVariables false
namespace Go.Proofs.YtkldipbhenabfaaGreat.Abs
open Go Go.RowKit Go.Proofs.YtkldipbhenabfaaGreat

/-! Plain -/
/-! Cells -/
theorem tv_0 {t : Tm} : (tv t)[0]? = some (.int .i64 t.k) := by cases t; rw [tv_mk]; rfl
end Go.Proofs.YtkldipbhenabfaaGreat.Abs

set_option linter.unusedSimpArgs false
set_option linter.unusedVariables false
namespace Go.Proofs.YtkldipbhenabfaaGreat.Abs
open Go Go.RowKit Go.Proofs.YtkldipbhenabfaaGreat

theorem tmT : TmT Tryz.prog 34 24 3 := ⟨by kernel_rfl, by kernel_rfl, by kernel_rfl, by kernel_rfl, by kernel_rfl⟩
end Go.Proofs.YtkldipbhenabfaaGreat.Abs

