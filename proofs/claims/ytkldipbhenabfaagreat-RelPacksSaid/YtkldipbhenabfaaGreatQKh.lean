/- Pack, by the program. -/
import Derived.Test.YtkldipbhenabfaaGreatQKg
set_option linter.unusedSimpArgs false
set_option linter.unusedVariables false
namespace Go.Proofs.YtkldipbhenabfaaGreat.Abs
open Go Go.RowKit Go.Proofs.YtkldipbhenabfaaGreat

set_option maxRecDepth 20000 in
set_option maxHeartbeats 4000000 in
theorem con_Pack (C D : List En) (hC : CtxLo C) (hD : CtxLo D) : Con 8 [.dsl 6 (C.map En.v), .dsl 6 (D.map En.v)] (packR C D) := by
  have a1 := con_tLowCtx C hC.1 996
  have a2 := con_tLowCtx D hD.1 996
  unfold packR packOK
  cases gC : goodC C
  · have g1 := gC
    unfold goodC at g1
    rw [g1] at a1
    rw [Bool.false_and, if_neg Bool.false_ne_true]
    generalize C.map En.v = rc at *
    generalize D.map En.v = rd at *
    refine (contract_of_vc (r := .tup [.nils, .nils, .bool false]) mixed Tryz.func8 tr8 ?_).weaken le_pack0
    repeat' first
      | simp (config := { maxSteps := 2000000 }) only [go_sem, reduceIte, reduceCtorEq, Nat.reduceAdd, Nat.reduceSub, Nat.reduceMul, Nat.reduceLT, Nat.reduceLeDiff, Nat.reduceEqDiff, Nat.reduceBEq, Nat.reduceGT, Int.reduceEq, Int.reduceNe, Int.reduceLT, Int.reduceLE, Int.reduceToNat, Int.reduceNeg, Int.reduceBEq, Int.reduceAdd, Int.reduceSub, Int.reduceGT, Int.reduceGE, Int.reduceBNe, BEq.rfl]
      | refine callK_of (con_most) ?_
      | refine callK_of (a1) ?_
      | rfl
  · have g1 := gC
    unfold goodC at g1
    rw [g1] at a1
    cases gD : goodC D
    · have g2 := gD
      unfold goodC at g2
      rw [g2] at a2
      rw [Bool.false_and, Bool.and_false, if_neg Bool.false_ne_true]
      generalize C.map En.v = rc at *
      generalize D.map En.v = rd at *
      refine (contract_of_vc (r := .tup [.nils, .nils, .bool false]) mixed Tryz.func8 tr8 ?_).weaken le_pack0
      repeat' first
        | simp (config := { maxSteps := 2000000 }) only [go_sem, reduceIte, reduceCtorEq, Nat.reduceAdd, Nat.reduceSub, Nat.reduceMul, Nat.reduceLT, Nat.reduceLeDiff, Nat.reduceEqDiff, Nat.reduceBEq, Nat.reduceGT, Int.reduceEq, Int.reduceNe, Int.reduceLT, Int.reduceLE, Int.reduceToNat, Int.reduceNeg, Int.reduceBEq, Int.reduceAdd, Int.reduceSub, Int.reduceGT, Int.reduceGE, Int.reduceBNe, BEq.rfl]
        | refine callK_of (con_most) ?_
        | refine callK_of (a1) ?_
        | refine callK_of (a2) ?_
        | rfl
    · have g2 := gD
      unfold goodC at g2
      rw [g2] at a2
      have a3 := con_ctxErase C hC.1 (good_ctx gC).1
      have a4 := con_ctxErase D hD.1 (good_ctx gD).1
      have a5 := con_ctxSame (C.map eraE) (D.map eraE) (ok_era (fun e he => (hC.1.2 e he).1)) (ok_era (fun e he => (hD.1.2 e he).1)) (by rw [List.length_map]; have := hC.2.1; omega)
      cases hq : eqC (C.map eraE) (D.map eraE)
      · rw [hq] at a5
        rw [Bool.true_and, Bool.true_and, if_neg Bool.false_ne_true]
        generalize C.map En.v = rc at *
        generalize D.map En.v = rd at *
        generalize (C.map eraE).map En.v = ec at *
        generalize (D.map eraE).map En.v = ed at *
        refine (contract_of_vc (r := .tup [.nils, .nils, .bool false]) mixed Tryz.func8 tr8 ?_).weaken le_pack0
        repeat' first
          | simp (config := { maxSteps := 2000000 }) only [go_sem, reduceIte, reduceCtorEq, Nat.reduceAdd, Nat.reduceSub, Nat.reduceMul, Nat.reduceLT, Nat.reduceLeDiff, Nat.reduceEqDiff, Nat.reduceBEq, Nat.reduceGT, Int.reduceEq, Int.reduceNe, Int.reduceLT, Int.reduceLE, Int.reduceToNat, Int.reduceNeg, Int.reduceBEq, Int.reduceAdd, Int.reduceSub, Int.reduceGT, Int.reduceGE, Int.reduceBNe, BEq.rfl]
          | refine callK_of (con_most) ?_
          | refine callK_of (a1) ?_
          | refine callK_of (a2) ?_
          | refine callK_of (a3) ?_
          | refine callK_of (a4) ?_
          | refine callK_of (a5) ?_
          | rfl
      · rw [hq] at a5
        rw [Bool.true_and, Bool.true_and, if_pos rfl]
        have hl := era_len hq
        have henv := env_ok hC hD gC gD hl
        have hrow := en_row C
        have hrowD := en_row D
        have h40 := hC.2.1
        have hent := fun x hx => good_ent hC gC (x := x) hx
        have hentD := fun x hx => good_ent hD gD (x := x) hx
        have hlen : (C.map En.v).length = C.length := by simp
        have hlenD : (D.map En.v).length = D.length := by simp
        generalize C.map En.v = rc at *
        generalize D.map En.v = rd at *
        generalize (C.map eraE).map En.v = ec at *
        generalize (D.map eraE).map En.v = ed at *
        refine contract_of_vc mixed Tryz.func8 tr8 ?_
        simp only [go_sem, reduceIte, reduceCtorEq, Nat.reduceAdd, Nat.reduceSub, Nat.reduceMul, Nat.reduceLT, Nat.reduceLeDiff, Nat.reduceEqDiff, Nat.reduceBEq, Nat.reduceGT, Int.reduceEq, Int.reduceNe, Int.reduceLT, Int.reduceLE, Int.reduceToNat, Int.reduceNeg, Int.reduceBEq, Int.reduceAdd, Int.reduceSub, Int.reduceGT, Int.reduceGE, Int.reduceBNe]
        refine callK_of con_most ?_
        simp only [go_sem, reduceIte, reduceCtorEq, Nat.reduceAdd, Nat.reduceSub, Nat.reduceMul, Nat.reduceLT, Nat.reduceLeDiff, Nat.reduceEqDiff, Nat.reduceBEq, Nat.reduceGT, Int.reduceEq, Int.reduceNe, Int.reduceLT, Int.reduceLE, Int.reduceToNat, Int.reduceNeg, Int.reduceBEq, Int.reduceAdd, Int.reduceSub, Int.reduceGT, Int.reduceGE, Int.reduceBNe]
        refine callK_of a1 ?_
        simp only [go_sem, reduceIte, reduceCtorEq, Nat.reduceAdd, Nat.reduceSub, Nat.reduceMul, Nat.reduceLT, Nat.reduceLeDiff, Nat.reduceEqDiff, Nat.reduceBEq, Nat.reduceGT, Int.reduceEq, Int.reduceNe, Int.reduceLT, Int.reduceLE, Int.reduceToNat, Int.reduceNeg, Int.reduceBEq, Int.reduceAdd, Int.reduceSub, Int.reduceGT, Int.reduceGE, Int.reduceBNe]
        refine callK_of con_most ?_
        simp only [go_sem, reduceIte, reduceCtorEq, Nat.reduceAdd, Nat.reduceSub, Nat.reduceMul, Nat.reduceLT, Nat.reduceLeDiff, Nat.reduceEqDiff, Nat.reduceBEq, Nat.reduceGT, Int.reduceEq, Int.reduceNe, Int.reduceLT, Int.reduceLE, Int.reduceToNat, Int.reduceNeg, Int.reduceBEq, Int.reduceAdd, Int.reduceSub, Int.reduceGT, Int.reduceGE, Int.reduceBNe]
        refine callK_of a2 ?_
        simp only [go_sem, reduceIte, reduceCtorEq, Nat.reduceAdd, Nat.reduceSub, Nat.reduceMul, Nat.reduceLT, Nat.reduceLeDiff, Nat.reduceEqDiff, Nat.reduceBEq, Nat.reduceGT, Int.reduceEq, Int.reduceNe, Int.reduceLT, Int.reduceLE, Int.reduceToNat, Int.reduceNeg, Int.reduceBEq, Int.reduceAdd, Int.reduceSub, Int.reduceGT, Int.reduceGE, Int.reduceBNe]
        refine callK_of a3 ?_
        simp only [go_sem, reduceIte, reduceCtorEq, Nat.reduceAdd, Nat.reduceSub, Nat.reduceMul, Nat.reduceLT, Nat.reduceLeDiff, Nat.reduceEqDiff, Nat.reduceBEq, Nat.reduceGT, Int.reduceEq, Int.reduceNe, Int.reduceLT, Int.reduceLE, Int.reduceToNat, Int.reduceNeg, Int.reduceBEq, Int.reduceAdd, Int.reduceSub, Int.reduceGT, Int.reduceGE, Int.reduceBNe]
        refine callK_of a4 ?_
        simp only [go_sem, reduceIte, reduceCtorEq, Nat.reduceAdd, Nat.reduceSub, Nat.reduceMul, Nat.reduceLT, Nat.reduceLeDiff, Nat.reduceEqDiff, Nat.reduceBEq, Nat.reduceGT, Int.reduceEq, Int.reduceNe, Int.reduceLT, Int.reduceLE, Int.reduceToNat, Int.reduceNeg, Int.reduceBEq, Int.reduceAdd, Int.reduceSub, Int.reduceGT, Int.reduceGE, Int.reduceBNe]
        refine callK_of a5 ?_
        simp only [go_sem, reduceIte, reduceCtorEq, Nat.reduceAdd, Nat.reduceSub, Nat.reduceMul, Nat.reduceLT, Nat.reduceLeDiff, Nat.reduceEqDiff, Nat.reduceBEq, Nat.reduceGT, Int.reduceEq, Int.reduceNe, Int.reduceLT, Int.reduceLE, Int.reduceToNat, Int.reduceNeg, Int.reduceBEq, Int.reduceAdd, Int.reduceSub, Int.reduceGT, Int.reduceGE, Int.reduceBNe, hlen]
        intros
        refine vc_for (fun x => ⟨(.dsl 6 rc :: .dsl 6 rd :: .junk :: .junk :: .nils :: .nils :: .bool false :: .osl 0 x 0 (3 * x) :: .dsl 26 ((envP C D x).map HT.v) :: .junk :: .junk :: .junk :: .junk :: .junk :: .junk :: .junk :: .junk :: .junk :: .junk :: .junk :: .junk :: .junk :: .junk :: .junk :: .junk :: .junk :: .junk :: .junk :: .junk :: .junk :: .junk :: .junk :: .junk :: .junk :: .int .i64 C.length :: .int .i64 x :: .junk :: .junk :: .junk :: .junk :: .junk :: .junk :: .junk :: .junk :: .junk :: .junk :: .junk :: .junk :: .junk :: .junk :: .junk :: .junk :: .junk :: .junk :: .junk :: .junk :: .junk :: .junk :: .junk :: .junk :: .junk :: .junk :: .junk :: .junk :: .junk :: .junk :: .junk :: .junk :: .junk :: .junk :: .junk :: .junk :: .junk :: .junk :: .junk :: .junk :: .junk :: .junk :: .junk :: .junk :: []),
          [⟨false, 5, (outP C D x).map tv, 3 * (x - 1), x, true⟩]⟩) C.length (fun x hx => ?_) ?_
        · simp only [go_sem, reduceIte, reduceCtorEq, Nat.reduceAdd, Nat.reduceSub, Nat.reduceMul, Nat.reduceLT, Nat.reduceLeDiff, Nat.reduceEqDiff, Nat.reduceBEq, Nat.reduceGT, Int.reduceEq, Int.reduceNe, Int.reduceLT, Int.reduceLE, Int.reduceToNat, Int.reduceNeg, Int.reduceBEq, Int.reduceAdd, Int.reduceSub, Int.reduceGT, Int.reduceGE, Int.reduceBNe]
          refine ⟨fun h => ?_, fun h => ?_⟩
          · have hlt := of_decide_eq_true h
            have hlx : x < C.length := by omega
            have hlxD : x < D.length := by omega
            have hltr : (x : Int) < (rc.length : Int) := by omega
            have hltD : (x : Int) < (rd.length : Int) := by omega
            have e0 : (0 : Int) ≤ (x : Int) := by omega
            have hr := hrow x hlx
            have hrD := hrowD x hlxD
            obtain ⟨c1, c2, c3, c4, c5, c6, c7⟩ := hent x hlx
            obtain ⟨d1, d2, d3, d4, d5, d6, d7⟩ := hentD x hlxD
            have hE := henv x (by omega)
            have hes : (envP C D (x + 1)).map HT.v = (threeF (envP C D x) (C[x]?.getD default).i (aP (envP C D x) (C[x]?.getD default)) (bP (envP C D x) (D[x]?.getD default))).map HT.v := by rw [envP]
            have hos : (outP C D (x + 1)).map tv = (outP C D x).map tv ++ [tv (aP (envP C D x) (C[x]?.getD default)), tv (liftF 1 (bP (envP C D x) (D[x]?.getD default))), tv (toldF (C[x]?.getD default).i (aP (envP C D x) (C[x]?.getD default)) (bP (envP C D x) (D[x]?.getD default)))] := by rw [outP, List.map_append]; rfl
            obtain ⟨es', hes'⟩ : ∃ es', (envP C D (x + 1)).map HT.v = es' := ⟨_, rfl⟩
            obtain ⟨os', hos'⟩ : ∃ os', (outP C D (x + 1)).map tv = os' := ⟨_, rfl⟩
            rw [hes'] at hes
            rw [hos'] at hos
            have eol := outP_len C D x
            generalize outP C D x = O at *
            generalize envP C D x = E at *
            generalize C[x]?.getD default = c at *
            generalize D[x]?.getD default = d at *
            have pa : POk (3 * x) (aP E c) := side_pok (by omega) (by omega) hE false c1 c3 (by omega) c4
            have pb : POk (3 * x) (bP E d) := side_pok (by omega) (by omega) hE true d1 d3 (by omega) d4
            have k1 := con_left E (3 * x) (by omega) (by omega) (env_vars hE false) (by rw [hE.1]; omega) c.a c1 c3 (by omega) (by rw [hE.1]; exact c4)
            have k2 := con_rgt E (3 * x) (by omega) (by omega) (env_vars hE true) (by rw [hE.1]; omega) d.a d1 d3 (by omega) (by rw [hE.1]; exact d4)
            change Con _ _ (.agg true (tv (aP E c))) at k1
            change Con _ _ (.agg true (tv (bP E d))) at k2
            generalize aP E c = a at *
            generalize bP E d = b at *
            obtain ⟨oa, qa, ha, fa⟩ := pa
            obtain ⟨ob, qb, hb, fb⟩ := pb
            have k3 := con_blift 1 (by decide) b ob 2 0 qb (by omega) (by omega)
            rw [resR_lift] at k3
            have k4 := con_told25 c.i a b oa ob qa qb (by omega) (by omega)
            have k5 := con_copy _ (tok_told (V := 3 * x) (by omega) c2 ⟨oa, qa, ha, fa⟩ ⟨ob, qb, hb, fb⟩ (by omega))
            have k6 := con_three E (fun g hg => gok_ok (V := 3 * x) (by omega) (hE.2 g hg)) (by rw [hE.1]; omega) c.i a b oa ob qa qb (by omega) (by omega)
            rw [← hes] at k6
            have z1 := tv_len a
            have z2 := tv_len b
            have z3 := tv_len (liftF 1 b)
            have z4 := tv_len (toldF c.i a b)
            have z5 : (O.map tv).length = 3 * x := by rw [List.length_map, eol]
            have m1 : (3 * x + 3) * 56 ≤ 140737488355328 := by omega
            have m2 : 3 * x + 3 ≤ 140737488355328 := by omega
            generalize toldF c.i a b = told at *
            generalize O.map tv = os at *
            generalize E.map HT.v = es at *
            repeat' first
              | simp (config := { maxSteps := 2000000 }) only [go_sem, reduceIte, reduceCtorEq, Nat.reduceAdd, Nat.reduceSub, Nat.reduceMul, Nat.reduceLT, Nat.reduceLeDiff, Nat.reduceEqDiff, Nat.reduceBEq, Nat.reduceGT, Int.reduceEq, Int.reduceNe, Int.reduceLT, Int.reduceLE, Int.reduceToNat, Int.reduceNeg, Int.reduceBEq, Int.reduceAdd, Int.reduceSub, Int.reduceGT, Int.reduceGE, Int.reduceBNe, hlt, hltr, hltD, e0, hr, hrD, z1, z2, z3, z4, z5, m1, m2]
              | refine callK_of (k1) ?_
              | refine callK_of (k2) ?_
              | refine callK_of (k3) ?_
              | refine callK_of (k4) ?_
              | refine callK_of (k5) ?_
              | refine callK_of (k6) ?_
              | rfl
            refine ⟨hlx, ?_⟩
            rw [hes', hos', hos, w64 (n := (x : Int) + 1) (by unfold fit; omega), show 3 * (x + 1) = 3 * x + 3 by omega]
            exact wk_trunc 1 (by simp [slotsLe]) (by simp) (by simp [below]) (by simp)
          · have hge := of_decide_eq_false h
            have hxe : x = C.length := by omega
            subst hxe
            have eol : ((outP C D C.length).map tv).length = 3 * C.length := by rw [List.length_map, outP_len]
            generalize (outP C D C.length).map tv = os at *
            have ht : os.take (3 * C.length) = os := by rw [← eol, List.take_length]
            simp only [go_sem, reduceIte, reduceCtorEq, Nat.reduceAdd, Nat.reduceSub, Nat.reduceMul, Nat.reduceLT, Nat.reduceLeDiff, Nat.reduceEqDiff, Nat.reduceBEq, Nat.reduceGT, Int.reduceEq, Int.reduceNe, Int.reduceLT, Int.reduceLE, Int.reduceToNat, Int.reduceNeg, Int.reduceBEq, Int.reduceAdd, Int.reduceSub, Int.reduceGT, Int.reduceGE, Int.reduceBNe, eol, ht]
        · exact .trans (.ghost _ 7 5 rfl) (.trans (.nil _ 8 26 rfl) (wk_slots (by simp [slotsLe, envP])))
end Go.Proofs.YtkldipbhenabfaaGreat.Abs

