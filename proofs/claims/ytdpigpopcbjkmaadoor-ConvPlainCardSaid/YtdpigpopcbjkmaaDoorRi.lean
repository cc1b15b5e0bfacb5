/- Reckon: heads, values, same: where no symbol stands ahead. -/
import Derived.Test.YtdpigpopcbjkmaaDoorRh
import Derived.Test.YtdpigpopcbjkmaaDoorRe
set_option linter.unusedSimpArgs false
set_option linter.unusedVariables false
namespace Go.Proofs.YtdpigpopcbjkmaaDoor.Abs
open Go Go.RowKit Go.Proofs.YtdpigpopcbjkmaaDoor

set_option maxRecDepth 10000 in
/-- Two heads that are neither functions nor pairs. -/
theorem heads_kids {G G' : List (List SV)} {m : Nat} {x y : Vl} (hx : x.k ≠ 14) (hx2 : x.k ≠ 17) (hy : y.k ≠ 14) (hy2 : y.k ≠ 17) {deep : Int} {b : Bool} (h : HCon 82 G [.gp m 0, vlV x, vlV y, .int .i64 deep, .bool true] (.ret (.bool b)) G') :
    HCon 76 G [.gp m 0, vlV x, vlV y, .int .i64 deep, .bool true] (.ret (.bool b)) G' := by
  refine hcontract_of_vc mixed Tryd.func76 tr76 ?_
  simp only [go_sem, reduceIte, reduceCtorEq, Nat.reduceAdd, Nat.reduceSub, Nat.reduceMul, Nat.reduceLT, Nat.reduceLeDiff, Nat.reduceEqDiff, Nat.reduceBEq, Nat.reduceGT, Int.reduceEq, Int.reduceNe, Int.reduceLT, Int.reduceLE, Int.reduceToNat, Int.reduceNeg, Int.reduceBEq, Int.reduceAdd, Int.reduceSub, Int.reduceGT, Int.reduceGE, Int.reduceBNe, vlV, beq_no hx, beq_no hx2, beq_no hy, beq_no hy2]
  refine callH_of h ?_
  simp only [go_sem, reduceIte, reduceCtorEq, Nat.reduceAdd, Nat.reduceSub, Nat.reduceMul, Nat.reduceLT, Nat.reduceLeDiff, Nat.reduceEqDiff, Nat.reduceBEq, Nat.reduceGT, Int.reduceEq, Int.reduceNe, Int.reduceLT, Int.reduceLE, Int.reduceToNat, Int.reduceNeg, Int.reduceBEq, Int.reduceAdd, Int.reduceSub, Int.reduceGT, Int.reduceGE, Int.reduceBNe]

set_option maxRecDepth 10000 in
/-- A function, and what is none: it is called. -/
theorem heads_lam {G G' : List (List SV)} {m : Nat} {x y : Vl} {id : Nat} {th : Th} (hx : x.k = 14) (hy : y.k ≠ 14) (hid : x.kids[1]? = some id) (hth : G[id]? = some (thR th)) (hb : th.bare = false) {deep : Int} (hd : fit deep) (hd1 : fit (deep + 1)) (hl : fit ((th.env.length : Int) + 1)) {b : Bool}
    (h : HCon 62 (G ++ [doneR (some ⟨2, 0, 0, 0, deep, []⟩) none, thR ⟨th.t, G.length :: th.env, false, none, none⟩] ++ [doneR (some y) none] ++ [doneR (some ⟨2, 0, 0, 0, deep, []⟩) none] ++ [doneR (some ⟨15, 0, 0, 0, 0, [G.length + 2, G.length + 3]⟩) none])
      [.gp m 0, .gp (G.length + 1) 0, .gp (G.length + 4) 0, .int .i64 (deep + 1), .bool true] (.ret (.bool b)) G') :
    HCon 76 G [.gp m 0, vlV x, vlV y, .int .i64 deep, .bool true] (.ret (.bool b)) G' := by
  refine hcontract_of_vc mixed Tryd.func76 tr76 ?_
  obtain ⟨k1, k2, k3, k4⟩ := ths_at hid
  have k2' : (1 : Int) < x.kids.length := by omega
  have hu := hcon_under1 (G := G) (id := id) hth hb deep hd hl
  simp only [go_sem, reduceIte, reduceCtorEq, Nat.reduceAdd, Nat.reduceSub, Nat.reduceMul, Nat.reduceLT, Nat.reduceLeDiff, Nat.reduceEqDiff, Nat.reduceBEq, Nat.reduceGT, Int.reduceEq, Int.reduceNe, Int.reduceLT, Int.reduceLE, Int.reduceToNat, Int.reduceNeg, Int.reduceBEq, Int.reduceAdd, Int.reduceSub, Int.reduceGT, Int.reduceGE, Int.reduceBNe, vlV, hx, beq_no hy]
  simp only [go_sem, reduceIte, reduceCtorEq, Nat.reduceAdd, Nat.reduceSub, Nat.reduceMul, Nat.reduceLT, Nat.reduceLeDiff, Nat.reduceEqDiff, Nat.reduceBEq, Nat.reduceGT, Int.reduceEq, Int.reduceNe, Int.reduceLT, Int.reduceLE, Int.reduceToNat, Int.reduceNeg, Int.reduceBEq, Int.reduceAdd, Int.reduceSub, Int.reduceGT, Int.reduceGE, Int.reduceBNe, vlV, hx, k1, k2', k3, k4, List.length_map]
  refine callH_of hu ?_
  simp only [go_sem, reduceIte, reduceCtorEq, Nat.reduceAdd, Nat.reduceSub, Nat.reduceMul, Nat.reduceLT, Nat.reduceLeDiff, Nat.reduceEqDiff, Nat.reduceBEq, Nat.reduceGT, Int.reduceEq, Int.reduceNe, Int.reduceLT, Int.reduceLE, Int.reduceToNat, Int.reduceNeg, Int.reduceBEq, Int.reduceAdd, Int.reduceSub, Int.reduceGT, Int.reduceGE, Int.reduceBNe]
  refine callH_of (hcon_done _ y) ?_
  simp only [go_sem, reduceIte, reduceCtorEq, Nat.reduceAdd, Nat.reduceSub, Nat.reduceMul, Nat.reduceLT, Nat.reduceLeDiff, Nat.reduceEqDiff, Nat.reduceBEq, Nat.reduceGT, Int.reduceEq, Int.reduceNe, Int.reduceLT, Int.reduceLE, Int.reduceToNat, Int.reduceNeg, Int.reduceBEq, Int.reduceAdd, Int.reduceSub, Int.reduceGT, Int.reduceGE, Int.reduceBNe]
  refine callH_of (hcon_fresh _ deep) ?_
  simp only [go_sem, reduceIte, reduceCtorEq, Nat.reduceAdd, Nat.reduceSub, Nat.reduceMul, Nat.reduceLT, Nat.reduceLeDiff, Nat.reduceEqDiff, Nat.reduceBEq, Nat.reduceGT, Int.reduceEq, Int.reduceNe, Int.reduceLT, Int.reduceLE, Int.reduceToNat, Int.reduceNeg, Int.reduceBEq, Int.reduceAdd, Int.reduceSub, Int.reduceGT, Int.reduceGE, Int.reduceBNe]
  refine callH_of (hcon_done _ ⟨15, 0, 0, 0, 0, [G.length + 2, G.length + 3]⟩) ?_
  simp only [go_sem, reduceIte, reduceCtorEq, Nat.reduceAdd, Nat.reduceSub, Nat.reduceMul, Nat.reduceLT, Nat.reduceLeDiff, Nat.reduceEqDiff, Nat.reduceBEq, Nat.reduceGT, Int.reduceEq, Int.reduceNe, Int.reduceLT, Int.reduceLE, Int.reduceToNat, Int.reduceNeg, Int.reduceBEq, Int.reduceAdd, Int.reduceSub, Int.reduceGT, Int.reduceGE, Int.reduceBNe, w64 hd1, show G.length + 2 + 1 + 1 = G.length + 4 from rfl]
  refine callH_of h ?_
  simp only [go_sem, reduceIte, reduceCtorEq, Nat.reduceAdd, Nat.reduceSub, Nat.reduceMul, Nat.reduceLT, Nat.reduceLeDiff, Nat.reduceEqDiff, Nat.reduceBEq, Nat.reduceGT, Int.reduceEq, Int.reduceNe, Int.reduceLT, Int.reduceLE, Int.reduceToNat, Int.reduceNeg, Int.reduceBEq, Int.reduceAdd, Int.reduceSub, Int.reduceGT, Int.reduceGE, Int.reduceBNe]

set_option maxRecDepth 10000 in
/-- Two values that wait for no symbol; where they may be one, the heads say so. -/
theorem values_heads {G G' : List (List SV)} {m : Nat} {x y : Vl} (hx : Neut G x) (hy : Neut G y) {deep : Int} {eta b : Bool} (h : HCon 76 G [.gp m 0, vlV x, vlV y, .int .i64 deep, .bool eta] (.ret (.bool b)) G') (hs : Both (vlV x) (vlV y) → b = true ∧ G' = G) :
    HCon 71 G [.gp m 0, vlV x, vlV y, .int .i64 deep, .bool eta] (.ret (.bool b)) G' := by
  obtain ⟨out, ho⟩ : ∃ out, out = HOut.ret (.bool b) := ⟨_, rfl⟩
  have hX := hcon_symbol (m := m) hx
  have hY := hcon_symbol (m := m) hy
  rw [← ho]
  refine hcontract_of_vc mixed Tryd.func71 tr71 ?_
  simp only [go_sem, reduceIte, reduceCtorEq, Nat.reduceAdd, Nat.reduceSub, Nat.reduceMul, Nat.reduceLT, Nat.reduceLeDiff, Nat.reduceEqDiff, Nat.reduceBEq, Nat.reduceGT, Int.reduceEq, Int.reduceNe, Int.reduceLT, Int.reduceLE, Int.reduceToNat, Int.reduceNeg, Int.reduceBEq, Int.reduceAdd, Int.reduceSub, Int.reduceGT, Int.reduceGE, Int.reduceBNe]
  refine vc_unroll 1 (vcI_step ?_)
  simp only [go_sem, reduceIte, reduceCtorEq, Nat.reduceAdd, Nat.reduceSub, Nat.reduceMul, Nat.reduceLT, Nat.reduceLeDiff, Nat.reduceEqDiff, Nat.reduceBEq, Nat.reduceGT, Int.reduceEq, Int.reduceNe, Int.reduceLT, Int.reduceLE, Int.reduceToNat, Int.reduceNeg, Int.reduceBEq, Int.reduceAdd, Int.reduceSub, Int.reduceGT, Int.reduceGE, Int.reduceBNe, vlV]
  refine ⟨fun hb => ?_, ?_⟩
  · obtain ⟨rfl, rfl⟩ := hs hb
    subst ho
    simp only [go_sem, reduceIte, reduceCtorEq, Nat.reduceAdd, Nat.reduceSub, Nat.reduceMul, Nat.reduceLT, Nat.reduceLeDiff, Nat.reduceEqDiff, Nat.reduceBEq, Nat.reduceGT, Int.reduceEq, Int.reduceNe, Int.reduceLT, Int.reduceLE, Int.reduceToNat, Int.reduceNeg, Int.reduceBEq, Int.reduceAdd, Int.reduceSub, Int.reduceGT, Int.reduceGE, Int.reduceBNe]
  · refine callH_of hX ?_
    simp only [go_sem, reduceIte, reduceCtorEq, Nat.reduceAdd, Nat.reduceSub, Nat.reduceMul, Nat.reduceLT, Nat.reduceLeDiff, Nat.reduceEqDiff, Nat.reduceBEq, Nat.reduceGT, Int.reduceEq, Int.reduceNe, Int.reduceLT, Int.reduceLE, Int.reduceToNat, Int.reduceNeg, Int.reduceBEq, Int.reduceAdd, Int.reduceSub, Int.reduceGT, Int.reduceGE, Int.reduceBNe]
    refine callH_of hY ?_
    simp only [go_sem, reduceIte, reduceCtorEq, Nat.reduceAdd, Nat.reduceSub, Nat.reduceMul, Nat.reduceLT, Nat.reduceLeDiff, Nat.reduceEqDiff, Nat.reduceBEq, Nat.reduceGT, Int.reduceEq, Int.reduceNe, Int.reduceLT, Int.reduceLE, Int.reduceToNat, Int.reduceNeg, Int.reduceBEq, Int.reduceAdd, Int.reduceSub, Int.reduceGT, Int.reduceGE, Int.reduceBNe]
    refine callH_of h ?_
    subst ho
    simp only [go_sem, reduceIte, reduceCtorEq, Nat.reduceAdd, Nat.reduceSub, Nat.reduceMul, Nat.reduceLT, Nat.reduceLeDiff, Nat.reduceEqDiff, Nat.reduceBEq, Nat.reduceGT, Int.reduceEq, Int.reduceNe, Int.reduceLT, Int.reduceLE, Int.reduceToNat, Int.reduceNeg, Int.reduceBEq, Int.reduceAdd, Int.reduceSub, Int.reduceGT, Int.reduceGE, Int.reduceBNe]

set_option maxRecDepth 10000 in
/-- Two thunks, one of them no closure. -/
theorem same_bare {G G1 G2 G' : List (List SV)} {m j a b : Nat} {x y : Th} {vx vy : Vl} {steps most seen guess : Int} (hG : G[m]? = some (mRow steps most seen guess j)) (hf : fit guess) (hg : guess ≠ 1) (hs0 : 0 ≤ seen) (hs : seen < 8000000) (hab : a ≠ b)
    (hx : (G.set m (mRow steps most (seen + 1) (guessed guess) j))[a]? = some (thR x)) (hy : (G.set m (mRow steps most (seen + 1) (guessed guess) j))[b]? = some (thR y)) (hb : x.bare = true ∨ y.bare = true) {deep : Int} {eta r : Bool}
    (h1 : HCon 40 (G.set m (mRow steps most (seen + 1) (guessed guess) j)) [.gp m 0, .gp a 0] (.ret (vlV vx)) G1) (h2 : HCon 40 G1 [.gp m 0, .gp b 0] (.ret (vlV vy)) G2)
    (h : HCon 71 G2 [.gp m 0, vlV vx, vlV vy, .int .i64 deep, .bool eta] (.ret (.bool r)) G') :
    HCon 62 G [.gp m 0, .gp a 0, .gp b 0, .int .i64 deep, .bool eta] (.ret (.bool r)) G' := by
  refine hcontract_of_vc mixed Tryd.func62 tr62 ?_
  simp only [go_sem, reduceIte, reduceCtorEq, Nat.reduceAdd, Nat.reduceSub, Nat.reduceMul, Nat.reduceLT, Nat.reduceLeDiff, Nat.reduceEqDiff, Nat.reduceBEq, Nat.reduceGT, Int.reduceEq, Int.reduceNe, Int.reduceLT, Int.reduceLE, Int.reduceToNat, Int.reduceNeg, Int.reduceBEq, Int.reduceAdd, Int.reduceSub, Int.reduceGT, Int.reduceGE, Int.reduceBNe]
  refine callH_of (hcon_see hG hf hg hs0 hs) ?_
  obtain ⟨tx, ex, bx, wx, ux⟩ := x
  obtain ⟨ty, ey, by_, wy, uy⟩ := y
  simp only at hb
  have hab' : (a == b) = false := by simpa using hab
  cases bx with
  | true =>
    simp only [go_sem, reduceIte, reduceCtorEq, Nat.reduceAdd, Nat.reduceSub, Nat.reduceMul, Nat.reduceLT, Nat.reduceLeDiff, Nat.reduceEqDiff, Nat.reduceBEq, Nat.reduceGT, Int.reduceEq, Int.reduceNe, Int.reduceLT, Int.reduceLE, Int.reduceToNat, Int.reduceNeg, Int.reduceBEq, Int.reduceAdd, Int.reduceSub, Int.reduceGT, Int.reduceGE, Int.reduceBNe, hx, hab']
    refine callH_of h1 ?_
    simp only [go_sem, reduceIte, reduceCtorEq, Nat.reduceAdd, Nat.reduceSub, Nat.reduceMul, Nat.reduceLT, Nat.reduceLeDiff, Nat.reduceEqDiff, Nat.reduceBEq, Nat.reduceGT, Int.reduceEq, Int.reduceNe, Int.reduceLT, Int.reduceLE, Int.reduceToNat, Int.reduceNeg, Int.reduceBEq, Int.reduceAdd, Int.reduceSub, Int.reduceGT, Int.reduceGE, Int.reduceBNe]
    refine callH_of h2 ?_
    simp only [go_sem, reduceIte, reduceCtorEq, Nat.reduceAdd, Nat.reduceSub, Nat.reduceMul, Nat.reduceLT, Nat.reduceLeDiff, Nat.reduceEqDiff, Nat.reduceBEq, Nat.reduceGT, Int.reduceEq, Int.reduceNe, Int.reduceLT, Int.reduceLE, Int.reduceToNat, Int.reduceNeg, Int.reduceBEq, Int.reduceAdd, Int.reduceSub, Int.reduceGT, Int.reduceGE, Int.reduceBNe]
    refine callH_of h ?_
    simp only [go_sem, reduceIte, reduceCtorEq, Nat.reduceAdd, Nat.reduceSub, Nat.reduceMul, Nat.reduceLT, Nat.reduceLeDiff, Nat.reduceEqDiff, Nat.reduceBEq, Nat.reduceGT, Int.reduceEq, Int.reduceNe, Int.reduceLT, Int.reduceLE, Int.reduceToNat, Int.reduceNeg, Int.reduceBEq, Int.reduceAdd, Int.reduceSub, Int.reduceGT, Int.reduceGE, Int.reduceBNe]
  | false =>
    have hby : by_ = true := by simpa using hb
    subst hby
    simp only [go_sem, reduceIte, reduceCtorEq, Nat.reduceAdd, Nat.reduceSub, Nat.reduceMul, Nat.reduceLT, Nat.reduceLeDiff, Nat.reduceEqDiff, Nat.reduceBEq, Nat.reduceGT, Int.reduceEq, Int.reduceNe, Int.reduceLT, Int.reduceLE, Int.reduceToNat, Int.reduceNeg, Int.reduceBEq, Int.reduceAdd, Int.reduceSub, Int.reduceGT, Int.reduceGE, Int.reduceBNe, hx, hy, hab']
    refine callH_of h1 ?_
    simp only [go_sem, reduceIte, reduceCtorEq, Nat.reduceAdd, Nat.reduceSub, Nat.reduceMul, Nat.reduceLT, Nat.reduceLeDiff, Nat.reduceEqDiff, Nat.reduceBEq, Nat.reduceGT, Int.reduceEq, Int.reduceNe, Int.reduceLT, Int.reduceLE, Int.reduceToNat, Int.reduceNeg, Int.reduceBEq, Int.reduceAdd, Int.reduceSub, Int.reduceGT, Int.reduceGE, Int.reduceBNe]
    refine callH_of h2 ?_
    simp only [go_sem, reduceIte, reduceCtorEq, Nat.reduceAdd, Nat.reduceSub, Nat.reduceMul, Nat.reduceLT, Nat.reduceLeDiff, Nat.reduceEqDiff, Nat.reduceBEq, Nat.reduceGT, Int.reduceEq, Int.reduceNe, Int.reduceLT, Int.reduceLE, Int.reduceToNat, Int.reduceNeg, Int.reduceBEq, Int.reduceAdd, Int.reduceSub, Int.reduceGT, Int.reduceGE, Int.reduceBNe]
    refine callH_of h ?_
    simp only [go_sem, reduceIte, reduceCtorEq, Nat.reduceAdd, Nat.reduceSub, Nat.reduceMul, Nat.reduceLT, Nat.reduceLeDiff, Nat.reduceEqDiff, Nat.reduceBEq, Nat.reduceGT, Int.reduceEq, Int.reduceNe, Int.reduceLT, Int.reduceLE, Int.reduceToNat, Int.reduceNeg, Int.reduceBEq, Int.reduceAdd, Int.reduceSub, Int.reduceGT, Int.reduceGE, Int.reduceBNe]

set_option maxRecDepth 10000 in
/-- Two closures of no environment, of different terms. -/
theorem same_nil {G G1 G2 G' : List (List SV)} {m j a b : Nat} {tx ty : Tm} {wx ux wy uy : Option Vl} {vx vy : Vl} {steps most seen guess : Int} (hG : G[m]? = some (mRow steps most seen guess j)) (hf : fit guess) (hg : guess ≠ 1) (hs0 : 0 ≤ seen) (hs : seen < 8000000) (hab : a ≠ b)
    (hx : (G.set m (mRow steps most (seen + 1) (guessed guess) j))[a]? = some (thR ⟨tx, [], false, wx, ux⟩)) (hy : (G.set m (mRow steps most (seen + 1) (guessed guess) j))[b]? = some (thR ⟨ty, [], false, wy, uy⟩)) (hx0 : TOk tx) (hy0 : TOk ty) (hne : tx ≠ ty) {deep : Int} {eta r : Bool}
    (h1 : HCon 40 (G.set m (mRow steps most (seen + 1) (guessed guess) j)) [.gp m 0, .gp a 0] (.ret (vlV vx)) G1) (h2 : HCon 40 G1 [.gp m 0, .gp b 0] (.ret (vlV vy)) G2)
    (h : HCon 71 G2 [.gp m 0, vlV vx, vlV vy, .int .i64 deep, .bool eta] (.ret (.bool r)) G') :
    HCon 62 G [.gp m 0, .gp a 0, .gp b 0, .int .i64 deep, .bool eta] (.ret (.bool r)) G' := by
  refine hcontract_of_vc mixed Tryd.func62 tr62 ?_
  simp only [go_sem, reduceIte, reduceCtorEq, Nat.reduceAdd, Nat.reduceSub, Nat.reduceMul, Nat.reduceLT, Nat.reduceLeDiff, Nat.reduceEqDiff, Nat.reduceBEq, Nat.reduceGT, Int.reduceEq, Int.reduceNe, Int.reduceLT, Int.reduceLE, Int.reduceToNat, Int.reduceNeg, Int.reduceBEq, Int.reduceAdd, Int.reduceSub, Int.reduceGT, Int.reduceGE, Int.reduceBNe]
  refine callH_of (hcon_see hG hf hg hs0 hs) ?_
  have hab' : (a == b) = false := by simpa using hab
  have hc := con_bsame tx hx0 ty hy0
  rw [eqT_ne hne] at hc
  simp only [go_sem, reduceIte, reduceCtorEq, Nat.reduceAdd, Nat.reduceSub, Nat.reduceMul, Nat.reduceLT, Nat.reduceLeDiff, Nat.reduceEqDiff, Nat.reduceBEq, Nat.reduceGT, Int.reduceEq, Int.reduceNe, Int.reduceLT, Int.reduceLE, Int.reduceToNat, Int.reduceNeg, Int.reduceBEq, Int.reduceAdd, Int.reduceSub, Int.reduceGT, Int.reduceGE, Int.reduceBNe, hx, hy, hab', envV_nil]
  refine callK_of hc ?_
  simp only [go_sem, reduceIte, reduceCtorEq, Nat.reduceAdd, Nat.reduceSub, Nat.reduceMul, Nat.reduceLT, Nat.reduceLeDiff, Nat.reduceEqDiff, Nat.reduceBEq, Nat.reduceGT, Int.reduceEq, Int.reduceNe, Int.reduceLT, Int.reduceLE, Int.reduceToNat, Int.reduceNeg, Int.reduceBEq, Int.reduceAdd, Int.reduceSub, Int.reduceGT, Int.reduceGE, Int.reduceBNe]
  refine callH_of h1 ?_
  simp only [go_sem, reduceIte, reduceCtorEq, Nat.reduceAdd, Nat.reduceSub, Nat.reduceMul, Nat.reduceLT, Nat.reduceLeDiff, Nat.reduceEqDiff, Nat.reduceBEq, Nat.reduceGT, Int.reduceEq, Int.reduceNe, Int.reduceLT, Int.reduceLE, Int.reduceToNat, Int.reduceNeg, Int.reduceBEq, Int.reduceAdd, Int.reduceSub, Int.reduceGT, Int.reduceGE, Int.reduceBNe]
  refine callH_of h2 ?_
  simp only [go_sem, reduceIte, reduceCtorEq, Nat.reduceAdd, Nat.reduceSub, Nat.reduceMul, Nat.reduceLT, Nat.reduceLeDiff, Nat.reduceEqDiff, Nat.reduceBEq, Nat.reduceGT, Int.reduceEq, Int.reduceNe, Int.reduceLT, Int.reduceLE, Int.reduceToNat, Int.reduceNeg, Int.reduceBEq, Int.reduceAdd, Int.reduceSub, Int.reduceGT, Int.reduceGE, Int.reduceBNe]
  refine callH_of h ?_
  simp only [go_sem, reduceIte, reduceCtorEq, Nat.reduceAdd, Nat.reduceSub, Nat.reduceMul, Nat.reduceLT, Nat.reduceLeDiff, Nat.reduceEqDiff, Nat.reduceBEq, Nat.reduceGT, Int.reduceEq, Int.reduceNe, Int.reduceLT, Int.reduceLE, Int.reduceToNat, Int.reduceNeg, Int.reduceBEq, Int.reduceAdd, Int.reduceSub, Int.reduceGT, Int.reduceGE, Int.reduceBNe]
end Go.Proofs.YtdpigpopcbjkmaaDoor.Abs
