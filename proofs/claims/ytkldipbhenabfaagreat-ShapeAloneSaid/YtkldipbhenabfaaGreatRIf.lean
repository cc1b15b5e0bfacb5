/- cong's App and Snd, by the program and by the page. Printed by genIf.py. -/
import Derived.Test.YtkldipbhenabfaaGreatRIe
import Derived.Test.YtkldipbhenabfaaGreatRGd
set_option linter.unusedSimpArgs false
set_option linter.unusedVariables false
namespace Go.Proofs.YtkldipbhenabfaaGreat.Abs
open Go Go.RowKit Go.Proofs.YtkldipbhenabfaaGreat

def tpapp (a b : Tm) : Tm := .mk 15 0 0 0 [a, b]
def appF (f : FT) (s r : HT) : HT := if famRight f && (tolds s && tolds r) then ⟨f.j, putF r.x f.b, putF r.y f.d, tpapp s.x r.x, tpapp s.y r.y, six 16 f [s.x, s.y, s.h, r.x, r.y, r.h]⟩ else zH
def sndF (f : FT) (s : HT) : HT := if famRight f && tolds s then ⟨f.j, putF (tpart 18 s.x) f.b, putF (tpart 18 s.y) f.d, tpart 19 s.x, tpart 19 s.y, six 19 f [s.x, s.y, s.h]⟩ else zH
theorem fam_of {f : FT} (h : famRight f = true) : plainT f.b = true ∧ plainT f.d = true := by
  unfold famRight at h
  simp only [plains, List.all_cons, Bool.and_eq_true] at h
  exact ⟨h.2.2.2.2.1, h.2.2.2.2.2.1⟩
theorem told_of {g : HT} (h : tolds g = true) : plainT g.x = true ∧ plainT g.y = true := by
  unfold tolds at h
  simp only [plains, List.all_cons, Bool.and_eq_true] at h
  exact ⟨h.1, h.2.1⟩
theorem plain_part {x : Tm} (h : plainT x = true) : plainT (tpart 18 x) = true := by
  unfold tpart
  show rightT _ 2 = true
  rw [rightT_mk, allI, allI]
  have e : rightN 18 0 0 0 2 1 = true := by decide
  rw [show [x].length = 1 from rfl, e, Bool.and_true, Bool.true_and]
  exact h
theorem hgt_part (k : Int) (x : Tm) : hgtT (tpart k x) ≤ hgtT x + 1 := by
  unfold tpart
  rw [hgtT_mk, hgtL, hgtL]
  omega
def FT.low (f : FT) : Prop := hgtT f.b ≤ 1000 ∧ hgtT f.d ≤ 1000
def HT.lo (g : HT) : Prop := hgtT g.x ≤ 1000 ∧ hgtT g.y ≤ 1000

set_option maxRecDepth 20000 in
set_option maxHeartbeats 2000000 in
theorem con_cApp (f : FT) (s r : HT) (hf : f.ok) (hs : s.ok) (hr : r.ok) (wf : f.low) (wr : r.lo) : Con 140 [.agg true f.v, .agg true s.v, .agg true r.v] (.agg true (appF f s r).v) := by
  have k0 := con_fright f hf
  have k1 := con_told s hs
  have k2 := con_told r hr
  unfold appF
  cases b0 : famRight f
  · refine (contract_of_vc (r := .agg true [.int .i64 0, .int .i64 0, .int .i64 0, .int .i64 0, .int .i64 0, .nils, .int .i64 0, .int .i64 0, .int .i64 0, .int .i64 0, .nils, .int .i64 0, .int .i64 0, .int .i64 0, .int .i64 0, .nils, .int .i64 0, .int .i64 0, .int .i64 0, .int .i64 0, .nils, .int .i64 0, .int .i64 0, .int .i64 0, .int .i64 0, .nils]) mixed Tryz.func140 tr140 ?_).weaken le_zH
    simp only [HT.v, FT.v] at *
    repeat' first
      | simp (config := { maxSteps := 2000000 }) only [go_sem, reduceIte, reduceCtorEq, Nat.reduceAdd, Nat.reduceSub, Nat.reduceMul, Nat.reduceLT, Nat.reduceLeDiff, Nat.reduceEqDiff, Nat.reduceBEq, Nat.reduceGT, Int.reduceEq, Int.reduceNe, Int.reduceLT, Int.reduceLE, Int.reduceToNat, Int.reduceNeg, Int.reduceBEq, Int.reduceAdd, Int.reduceSub, Int.reduceGT, Int.reduceGE, Int.reduceBNe, b0]
      | refine callK_of (k0) ?_
      | rfl
  · skip
    cases b1 : tolds s
    · refine (contract_of_vc (r := .agg true [.int .i64 0, .int .i64 0, .int .i64 0, .int .i64 0, .int .i64 0, .nils, .int .i64 0, .int .i64 0, .int .i64 0, .int .i64 0, .nils, .int .i64 0, .int .i64 0, .int .i64 0, .int .i64 0, .nils, .int .i64 0, .int .i64 0, .int .i64 0, .int .i64 0, .nils, .int .i64 0, .int .i64 0, .int .i64 0, .int .i64 0, .nils]) mixed Tryz.func140 tr140 ?_).weaken le_zH
      simp only [HT.v, FT.v] at *
      repeat' first
        | simp (config := { maxSteps := 2000000 }) only [go_sem, reduceIte, reduceCtorEq, Nat.reduceAdd, Nat.reduceSub, Nat.reduceMul, Nat.reduceLT, Nat.reduceLeDiff, Nat.reduceEqDiff, Nat.reduceBEq, Nat.reduceGT, Int.reduceEq, Int.reduceNe, Int.reduceLT, Int.reduceLE, Int.reduceToNat, Int.reduceNeg, Int.reduceBEq, Int.reduceAdd, Int.reduceSub, Int.reduceGT, Int.reduceGE, Int.reduceBNe, b0, b1]
        | refine callK_of (k0) ?_
        | refine callK_of (k1) ?_
        | rfl
    · skip
      cases b2 : tolds r
      · refine (contract_of_vc (r := .agg true [.int .i64 0, .int .i64 0, .int .i64 0, .int .i64 0, .int .i64 0, .nils, .int .i64 0, .int .i64 0, .int .i64 0, .int .i64 0, .nils, .int .i64 0, .int .i64 0, .int .i64 0, .int .i64 0, .nils, .int .i64 0, .int .i64 0, .int .i64 0, .int .i64 0, .nils, .int .i64 0, .int .i64 0, .int .i64 0, .int .i64 0, .nils]) mixed Tryz.func140 tr140 ?_).weaken le_zH
        simp only [HT.v, FT.v] at *
        repeat' first
          | simp (config := { maxSteps := 2000000 }) only [go_sem, reduceIte, reduceCtorEq, Nat.reduceAdd, Nat.reduceSub, Nat.reduceMul, Nat.reduceLT, Nat.reduceLeDiff, Nat.reduceEqDiff, Nat.reduceBEq, Nat.reduceGT, Int.reduceEq, Int.reduceNe, Int.reduceLT, Int.reduceLE, Int.reduceToNat, Int.reduceNeg, Int.reduceBEq, Int.reduceAdd, Int.reduceSub, Int.reduceGT, Int.reduceGE, Int.reduceBNe, b0, b1, b2]
          | refine callK_of (k0) ?_
          | refine callK_of (k1) ?_
          | refine callK_of (k2) ?_
          | rfl
      · skip
        obtain ⟨pb, pd⟩ := fam_of b0
        obtain ⟨px, py⟩ := told_of b2
        obtain ⟨w1, w2⟩ := wf
        obtain ⟨w3, w4⟩ := wr
        have c1 := con_fuse f 16 [s.x, s.y, s.h, r.x, r.y, r.h] (by simp)
        have p1 := con_sPut f.b r.x hf.b hr.x pb px (by omega) (by omega)
        have p2 := con_sPut f.d r.y hf.d hr.y pd py (by omega) (by omega)
        have c2 := con_cfresh f.j (putF r.x f.b) (putF r.y f.d) (tpapp s.x r.x) (tpapp s.y r.y) (six 16 f [s.x, s.y, s.h, r.x, r.y, r.h]) (tok_putF hr.x hf.b px pb) (tok_putF hr.y hf.d py pd) (tok_two (by unfold fit; omega) hs.x hr.x) (tok_two (by unfold fit; omega) hs.y hr.y) (tok_six (by unfold fit; omega) hf (by simp) (by simp [hr.x, hr.y, hr.h, hs.x, hs.y, hs.h]))
        simp only [tpapp] at *
        refine contract_of_vc mixed Tryz.func140 tr140 ?_
        simp only [Bool.and_true, Bool.true_and, Bool.and_self, if_true, HT.v, FT.v] at *
        repeat' first
          | simp (config := { maxSteps := 2000000 }) only [go_sem, reduceIte, reduceCtorEq, Nat.reduceAdd, Nat.reduceSub, Nat.reduceMul, Nat.reduceLT, Nat.reduceLeDiff, Nat.reduceEqDiff, Nat.reduceBEq, Nat.reduceGT, Int.reduceEq, Int.reduceNe, Int.reduceLT, Int.reduceLE, Int.reduceToNat, Int.reduceNeg, Int.reduceBEq, Int.reduceAdd, Int.reduceSub, Int.reduceGT, Int.reduceGE, Int.reduceBNe, b0, b1, b2, mxI]
          | refine callK_of (k0) ?_
          | refine callK_of (k1) ?_
          | refine callK_of (k2) ?_
          | refine callK_of (con_ofT 15 0 0 0 [s.x, r.x] (by simp) (by simp)) ?_
          | refine callK_of (con_ofT 15 0 0 0 [s.y, r.y] (by simp) (by simp)) ?_
          | refine callK_of (p1) ?_
          | refine callK_of (p2) ?_
          | refine callK_of (c1) ?_
          | refine callK_of (c2) ?_
          | rfl

set_option maxRecDepth 20000 in
set_option maxHeartbeats 2000000 in
theorem con_cSnd (f : FT) (s : HT) (hf : f.ok) (hs : s.ok) (wf : f.low) (ws : s.lo) : Con 139 [.agg true f.v, .agg true s.v] (.agg true (sndF f s).v) := by
  have k0 := con_fright f hf
  have k1 := con_told s hs
  unfold sndF
  cases b0 : famRight f
  · refine (contract_of_vc (r := .agg true [.int .i64 0, .int .i64 0, .int .i64 0, .int .i64 0, .int .i64 0, .nils, .int .i64 0, .int .i64 0, .int .i64 0, .int .i64 0, .nils, .int .i64 0, .int .i64 0, .int .i64 0, .int .i64 0, .nils, .int .i64 0, .int .i64 0, .int .i64 0, .int .i64 0, .nils, .int .i64 0, .int .i64 0, .int .i64 0, .int .i64 0, .nils]) mixed Tryz.func139 tr139 ?_).weaken le_zH
    simp only [HT.v, FT.v] at *
    repeat' first
      | simp (config := { maxSteps := 2000000 }) only [go_sem, reduceIte, reduceCtorEq, Nat.reduceAdd, Nat.reduceSub, Nat.reduceMul, Nat.reduceLT, Nat.reduceLeDiff, Nat.reduceEqDiff, Nat.reduceBEq, Nat.reduceGT, Int.reduceEq, Int.reduceNe, Int.reduceLT, Int.reduceLE, Int.reduceToNat, Int.reduceNeg, Int.reduceBEq, Int.reduceAdd, Int.reduceSub, Int.reduceGT, Int.reduceGE, Int.reduceBNe, b0]
      | refine callK_of (k0) ?_
      | rfl
  · skip
    cases b1 : tolds s
    · refine (contract_of_vc (r := .agg true [.int .i64 0, .int .i64 0, .int .i64 0, .int .i64 0, .int .i64 0, .nils, .int .i64 0, .int .i64 0, .int .i64 0, .int .i64 0, .nils, .int .i64 0, .int .i64 0, .int .i64 0, .int .i64 0, .nils, .int .i64 0, .int .i64 0, .int .i64 0, .int .i64 0, .nils, .int .i64 0, .int .i64 0, .int .i64 0, .int .i64 0, .nils]) mixed Tryz.func139 tr139 ?_).weaken le_zH
      simp only [HT.v, FT.v] at *
      repeat' first
        | simp (config := { maxSteps := 2000000 }) only [go_sem, reduceIte, reduceCtorEq, Nat.reduceAdd, Nat.reduceSub, Nat.reduceMul, Nat.reduceLT, Nat.reduceLeDiff, Nat.reduceEqDiff, Nat.reduceBEq, Nat.reduceGT, Int.reduceEq, Int.reduceNe, Int.reduceLT, Int.reduceLE, Int.reduceToNat, Int.reduceNeg, Int.reduceBEq, Int.reduceAdd, Int.reduceSub, Int.reduceGT, Int.reduceGE, Int.reduceBNe, b0, b1]
        | refine callK_of (k0) ?_
        | refine callK_of (k1) ?_
        | rfl
    · skip
      obtain ⟨pb, pd⟩ := fam_of b0
      obtain ⟨px, py⟩ := told_of b1
      obtain ⟨w1, w2⟩ := wf
      obtain ⟨w3, w4⟩ := ws
      have w5 := hgt_part 18 s.x
      have w6 := hgt_part 18 s.y
      have ox : TOk (tpart 18 s.x) := tok_part (by unfold fit; omega) hs.x
      have oy : TOk (tpart 18 s.y) := tok_part (by unfold fit; omega) hs.y
      have c1 := con_fuse f 19 [s.x, s.y, s.h] (by simp)
      have p1 := con_sPut f.b (tpart 18 s.x) hf.b ox pb (plain_part px) (by omega) (by omega)
      have p2 := con_sPut f.d (tpart 18 s.y) hf.d oy pd (plain_part py) (by omega) (by omega)
      have c2 := con_cfresh f.j (putF (tpart 18 s.x) f.b) (putF (tpart 18 s.y) f.d) (tpart 19 s.x) (tpart 19 s.y) (six 19 f [s.x, s.y, s.h]) (tok_putF ox hf.b (plain_part px) pb) (tok_putF oy hf.d (plain_part py) pd) (tok_part (by unfold fit; omega) hs.x) (tok_part (by unfold fit; omega) hs.y) (tok_six (by unfold fit; omega) hf (by simp) (by simp [hs.x, hs.y, hs.h]))
      refine contract_of_vc mixed Tryz.func139 tr139 ?_
      simp only [Bool.and_true, Bool.true_and, Bool.and_self, if_true, HT.v, FT.v] at *
      repeat' first
        | simp (config := { maxSteps := 2000000 }) only [go_sem, reduceIte, reduceCtorEq, Nat.reduceAdd, Nat.reduceSub, Nat.reduceMul, Nat.reduceLT, Nat.reduceLeDiff, Nat.reduceEqDiff, Nat.reduceBEq, Nat.reduceGT, Int.reduceEq, Int.reduceNe, Int.reduceLT, Int.reduceLE, Int.reduceToNat, Int.reduceNeg, Int.reduceBEq, Int.reduceAdd, Int.reduceSub, Int.reduceGT, Int.reduceGE, Int.reduceBNe, b0, b1, mxI]
        | refine callK_of (k0) ?_
        | refine callK_of (k1) ?_
        | refine callK_of (con_part 18 s.x) ?_
        | refine callK_of (con_part 18 s.y) ?_
        | refine callK_of (con_part 19 s.x) ?_
        | refine callK_of (con_part 19 s.y) ?_
        | refine callK_of (p1) ?_
        | refine callK_of (p2) ?_
        | refine callK_of (c1) ?_
        | refine callK_of (c2) ?_
        | rfl

end Go.Proofs.YtkldipbhenabfaaGreat.Abs

