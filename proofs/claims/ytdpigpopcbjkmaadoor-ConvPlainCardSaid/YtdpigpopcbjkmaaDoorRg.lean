/- Reckon: under, part, variable. -/
import Derived.Test.YtdpigpopcbjkmaaDoorRf
set_option linter.unusedSimpArgs false
set_option linter.unusedVariables false
namespace Go.Proofs.YtdpigpopcbjkmaaDoor.Abs
open Go Go.RowKit Go.Proofs.YtdpigpopcbjkmaaDoor

set_option maxRecDepth 10000 in
theorem hcon_under1 {G : List (List SV)} {id : Nat} {th : Th} (hth : G[id]? = some (thR th)) (hb : th.bare = false) (deep : Int) (hd : fit deep) (hl : fit ((th.env.length : Int) + 1)) :
    HCon 37 G [.gp id 0, .int .i64 deep, .int .i64 1] (.ret (.gp (G.length + 1) 0)) (G ++ [doneR (some ⟨2, 0, 0, 0, deep, []⟩) none, thR ⟨th.t, G.length :: th.env, false, none, none⟩]) := by
  obtain ⟨out, ho⟩ : ∃ out, out = HOut.ret (.gp (G.length + 1) 0) := ⟨_, rfl⟩
  obtain ⟨G', hG'⟩ : ∃ G', G' = G ++ [doneR (some ⟨2, 0, 0, 0, deep, []⟩) none, thR ⟨th.t, G.length :: th.env, false, none, none⟩] := ⟨_, rfl⟩
  rw [← ho, ← hG']
  refine hcontract_of_vc mixed Tryd.func37 tr37 ?_
  obtain ⟨t, te, b, w, v⟩ := th
  simp only at hb hl hG'
  subst hb
  have hlt := lt_of_get hth
  simp only [go_sem, reduceIte, reduceCtorEq, Nat.reduceAdd, Nat.reduceSub, Nat.reduceMul, Nat.reduceLT, Nat.reduceLeDiff, Nat.reduceEqDiff, Nat.reduceBEq, Nat.reduceGT, Int.reduceEq, Int.reduceNe, Int.reduceLT, Int.reduceLE, Int.reduceToNat, Int.reduceNeg, Int.reduceBEq, Int.reduceAdd, Int.reduceSub, Int.reduceGT, Int.reduceGE, Int.reduceBNe, hth]
  refine vc_unroll 2 (vcI_step ?_)
  simp only [go_sem, reduceIte, reduceCtorEq, Nat.reduceAdd, Nat.reduceSub, Nat.reduceMul, Nat.reduceLT, Nat.reduceLeDiff, Nat.reduceEqDiff, Nat.reduceBEq, Nat.reduceGT, Int.reduceEq, Int.reduceNe, Int.reduceLT, Int.reduceLE, Int.reduceToNat, Int.reduceNeg, Int.reduceBEq, Int.reduceAdd, Int.reduceSub, Int.reduceGT, Int.reduceGE, Int.reduceBNe, Int.add_zero, w64 hd]
  refine callH_of (hcon_fresh G deep) ?_
  simp only [go_sem, reduceIte, reduceCtorEq, Nat.reduceAdd, Nat.reduceSub, Nat.reduceMul, Nat.reduceLT, Nat.reduceLeDiff, Nat.reduceEqDiff, Nat.reduceBEq, Nat.reduceGT, Int.reduceEq, Int.reduceNe, Int.reduceLT, Int.reduceLE, Int.reduceToNat, Int.reduceNeg, Int.reduceBEq, Int.reduceAdd, Int.reduceSub, Int.reduceGT, Int.reduceGE, Int.reduceBNe]
  refine callK_of (con_push te _ hl) ?_
  simp only [go_sem, reduceIte, reduceCtorEq, Nat.reduceAdd, Nat.reduceSub, Nat.reduceMul, Nat.reduceLT, Nat.reduceLeDiff, Nat.reduceEqDiff, Nat.reduceBEq, Nat.reduceGT, Int.reduceEq, Int.reduceNe, Int.reduceLT, Int.reduceLE, Int.reduceToNat, Int.reduceNeg, Int.reduceBEq, Int.reduceAdd, Int.reduceSub, Int.reduceGT, Int.reduceGE, Int.reduceBNe]
  refine vcI_step ?_
  simp only [go_sem, reduceIte, reduceCtorEq, Nat.reduceAdd, Nat.reduceSub, Nat.reduceMul, Nat.reduceLT, Nat.reduceLeDiff, Nat.reduceEqDiff, Nat.reduceBEq, Nat.reduceGT, Int.reduceEq, Int.reduceNe, Int.reduceLT, Int.reduceLE, Int.reduceToNat, Int.reduceNeg, Int.reduceBEq, Int.reduceAdd, Int.reduceSub, Int.reduceGT, Int.reduceGE, Int.reduceBNe, hth, hlt]
  refine callH_of (hcon_close _ t _) ?_
  subst ho hG'
  simp only [go_sem, reduceIte, reduceCtorEq, Nat.reduceAdd, Nat.reduceSub, Nat.reduceMul, Nat.reduceLT, Nat.reduceLeDiff, Nat.reduceEqDiff, Nat.reduceBEq, Nat.reduceGT, Int.reduceEq, Int.reduceNe, Int.reduceLT, Int.reduceLE, Int.reduceToNat, Int.reduceNeg, Int.reduceBEq, Int.reduceAdd, Int.reduceSub, Int.reduceGT, Int.reduceGE, Int.reduceBNe, List.append_assoc, List.length_append]
end Go.Proofs.YtdpigpopcbjkmaaDoor.Abs
