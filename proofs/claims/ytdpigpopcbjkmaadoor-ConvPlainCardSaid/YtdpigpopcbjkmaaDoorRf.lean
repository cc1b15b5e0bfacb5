/- Reckon: Quote and Told of a value without kids. -/
import Derived.Test.YtdpigpopcbjkmaaDoorRe
set_option linter.unusedSimpArgs false
set_option linter.unusedVariables false
namespace Go.Proofs.YtdpigpopcbjkmaaDoor.Abs
open Go Go.RowKit Go.Proofs.YtdpigpopcbjkmaaDoor

theorem HContract.weaken {P : Program} {f : Nat} {G G' : List (List SV)} {args : List SV} {r r' : SV} (h : HContract P f G args (.ret r) G') (hl : Le r r') : HContract P f G args (.ret r') G' := by
  intro m w vs h1 h2 h3 h4
  refine Calls.mono (h m w vs h1 h2 h3 h4) (fun e w' he => ?_)
  obtain ⟨m', ⟨v, a1, a2⟩, a3⟩ := he
  exact ⟨m', ⟨v, a1, hl.rep a2⟩, a3⟩

set_option maxRecDepth 10000 in
theorem quote_leaf {G G' : List (List SV)} {m j id : Nat} {steps most seen guess : Int} {v : Vl} {deep : Int} (hG : G[m]? = some (mRow steps most seen guess j)) (hf : fit guess) (hg : guess ≠ 1) (hs : seen < 8000000) (hs0 : 0 ≤ seen)
    (h : HCon 24 (G.set m (mRow steps most (seen + 1) (guessed guess) j)) [.gp m 0, .gp id 0] (.ret (vlV v)) G') (hk : v.k ≠ 2) (hl : v.kids = []) :
    HCon 20 G [.gp m 0, .gp id 0, .int .i64 deep] (.ret (.agg true (tv (.mk v.k v.i v.j v.n [])))) G' := by
  refine (hcontract_of_vc (out := .ret (.agg true [.int .i64 v.k, .int .i64 v.i, .int .i64 v.j, .int .i64 v.n, .nils])) mixed Tryd.func20 tr20 ?_).weaken (le_leaf _ _ _ _)
  simp only [go_sem, reduceIte, reduceCtorEq, Nat.reduceAdd, Nat.reduceSub, Nat.reduceMul, Nat.reduceLT, Nat.reduceLeDiff, Nat.reduceEqDiff, Nat.reduceBEq, Nat.reduceGT, Int.reduceEq, Int.reduceNe, Int.reduceLT, Int.reduceLE, Int.reduceToNat, Int.reduceNeg, Int.reduceBEq, Int.reduceAdd, Int.reduceSub, Int.reduceGT, Int.reduceGE, Int.reduceBNe]
  refine callH_of (hcon_see hG hf hg hs0 hs) ?_
  simp only [go_sem, reduceIte, reduceCtorEq, Nat.reduceAdd, Nat.reduceSub, Nat.reduceMul, Nat.reduceLT, Nat.reduceLeDiff, Nat.reduceEqDiff, Nat.reduceBEq, Nat.reduceGT, Int.reduceEq, Int.reduceNe, Int.reduceLT, Int.reduceLE, Int.reduceToNat, Int.reduceNeg, Int.reduceBEq, Int.reduceAdd, Int.reduceSub, Int.reduceGT, Int.reduceGE, Int.reduceBNe]
  refine callH_of h ?_
  simp only [go_sem, reduceIte, reduceCtorEq, Nat.reduceAdd, Nat.reduceSub, Nat.reduceMul, Nat.reduceLT, Nat.reduceLeDiff, Nat.reduceEqDiff, Nat.reduceBEq, Nat.reduceGT, Int.reduceEq, Int.reduceNe, Int.reduceLT, Int.reduceLE, Int.reduceToNat, Int.reduceNeg, Int.reduceBEq, Int.reduceAdd, Int.reduceSub, Int.reduceGT, Int.reduceGE, Int.reduceBNe, vlV, beq_no hk, hl, thsV_nil]
  refine vc_unroll 1 (vcI_step ?_)
  simp only [go_sem, reduceIte, reduceCtorEq, Nat.reduceAdd, Nat.reduceSub, Nat.reduceMul, Nat.reduceLT, Nat.reduceLeDiff, Nat.reduceEqDiff, Nat.reduceBEq, Nat.reduceGT, Int.reduceEq, Int.reduceNe, Int.reduceLT, Int.reduceLE, Int.reduceToNat, Int.reduceNeg, Int.reduceBEq, Int.reduceAdd, Int.reduceSub, Int.reduceGT, Int.reduceGE, Int.reduceBNe, List.map_nil]

set_option maxRecDepth 10000 in
theorem told_leaf {G : List (List SV)} {m : Nat} {v : Vl} {deep : Int} (hk : v.k ≠ 2) (hl : v.kids = []) :
    HCon 23 G [.gp m 0, vlV v, .int .i64 deep] (.ret (.agg true (tv (.mk v.k v.i v.j v.n [])))) G := by
  refine (hcontract_of_vc (out := .ret (.agg true [.int .i64 v.k, .int .i64 v.i, .int .i64 v.j, .int .i64 v.n, .nils])) mixed Tryd.func23 tr23 ?_).weaken (le_leaf _ _ _ _)
  simp only [go_sem, reduceIte, reduceCtorEq, Nat.reduceAdd, Nat.reduceSub, Nat.reduceMul, Nat.reduceLT, Nat.reduceLeDiff, Nat.reduceEqDiff, Nat.reduceBEq, Nat.reduceGT, Int.reduceEq, Int.reduceNe, Int.reduceLT, Int.reduceLE, Int.reduceToNat, Int.reduceNeg, Int.reduceBEq, Int.reduceAdd, Int.reduceSub, Int.reduceGT, Int.reduceGE, Int.reduceBNe, vlV, beq_no hk, hl, thsV_nil]
  refine vc_unroll 1 (vcI_step ?_)
  simp only [go_sem, reduceIte, reduceCtorEq, Nat.reduceAdd, Nat.reduceSub, Nat.reduceMul, Nat.reduceLT, Nat.reduceLeDiff, Nat.reduceEqDiff, Nat.reduceBEq, Nat.reduceGT, Int.reduceEq, Int.reduceNe, Int.reduceLT, Int.reduceLE, Int.reduceToNat, Int.reduceNeg, Int.reduceBEq, Int.reduceAdd, Int.reduceSub, Int.reduceGT, Int.reduceGE, Int.reduceBNe, List.map_nil]
end Go.Proofs.YtdpigpopcbjkmaaDoor.Abs
