/- Pack, by the page. -/
import Derived.Test.YtkldipbhenabfaaGreatQKg
set_option linter.unusedSimpArgs false
set_option linter.unusedVariables false
namespace Go.Proofs.YtkldipbhenabfaaGreat.Abs
open Go Go.RowKit Go.Proofs.YtkldipbhenabfaaGreat

set_option maxRecDepth 20000 in
set_option maxHeartbeats 8000000 in
theorem con_rPack (C D : List En) (hC : CtxLo C) (hD : CtxLo D) : Con 9 [.dsl 6 (C.map En.v), .dsl 6 (D.map En.v)] (packR C D) := by
  have a1 := con_r25Low C hC.1
  have a2 := con_r25Low D hD.1
  have hlen : (C.map En.v).length = C.length := by simp
  have hlenD : (D.map En.v).length = D.length := by simp
  unfold packR packOK
  cases gC : goodC C
  · rw [gC] at a1
    rw [Bool.false_and, if_neg Bool.false_ne_true]
    generalize C.map En.v = rc at *
    generalize D.map En.v = rd at *
    refine (contract_of_vc (r := .tup [.nils, .nils, .bool false]) mixed Tryz.func9 tr9 ?_).weaken le_pack0
    repeat' first
      | simp (config := { maxSteps := 2000000 }) only [go_sem, reduceIte, reduceCtorEq, Nat.reduceAdd, Nat.reduceSub, Nat.reduceMul, Nat.reduceLT, Nat.reduceLeDiff, Nat.reduceEqDiff, Nat.reduceBEq, Nat.reduceGT, Int.reduceEq, Int.reduceNe, Int.reduceLT, Int.reduceLE, Int.reduceToNat, Int.reduceNeg, Int.reduceBEq, Int.reduceAdd, Int.reduceSub, Int.reduceGT, Int.reduceGE, Int.reduceBNe, BEq.rfl]
      | refine callK_of (a1) ?_
      | rfl
  · rw [gC] at a1
    cases gD : goodC D
    · rw [gD] at a2
      rw [Bool.false_and, Bool.and_false, if_neg Bool.false_ne_true]
      generalize C.map En.v = rc at *
      generalize D.map En.v = rd at *
      refine (contract_of_vc (r := .tup [.nils, .nils, .bool false]) mixed Tryz.func9 tr9 ?_).weaken le_pack0
      repeat' first
        | simp (config := { maxSteps := 2000000 }) only [go_sem, reduceIte, reduceCtorEq, Nat.reduceAdd, Nat.reduceSub, Nat.reduceMul, Nat.reduceLT, Nat.reduceLeDiff, Nat.reduceEqDiff, Nat.reduceBEq, Nat.reduceGT, Int.reduceEq, Int.reduceNe, Int.reduceLT, Int.reduceLE, Int.reduceToNat, Int.reduceNeg, Int.reduceBEq, Int.reduceAdd, Int.reduceSub, Int.reduceGT, Int.reduceGE, Int.reduceBNe, BEq.rfl]
        | refine callK_of (a1) ?_
        | refine callK_of (a2) ?_
        | rfl
    · rw [gD] at a2
      have a3 := con_rctxErase C hC.1 (good_ctx gC).1
      have a4 := con_rctxErase D hD.1 (good_ctx gD).1
      have a5 := con_keepCtx (C.map eraE) (D.map eraE) (ok_era (fun e he => (hC.1.2 e he).1)) (ok_era (fun e he => (hD.1.2 e he).1)) (by rw [List.length_map]; have := hC.2.1; omega)
      by_cases hl : C.length = D.length
      rotate_left
      · have q : ((C.length : Int) != (D.length : Int)) = true := by simp; omega
        rw [eqC_ne (fun h => hl (by have := congrArg List.length h; simpa using this)), Bool.true_and, Bool.true_and, if_neg Bool.false_ne_true]
        generalize C.map En.v = rc at *
        generalize D.map En.v = rd at *
        refine (contract_of_vc (r := .tup [.nils, .nils, .bool false]) mixed Tryz.func9 tr9 ?_).weaken le_pack0
        simp only [go_sem, reduceIte, reduceCtorEq, Nat.reduceAdd, Nat.reduceSub, Nat.reduceMul, Nat.reduceLT, Nat.reduceLeDiff, Nat.reduceEqDiff, Nat.reduceBEq, Nat.reduceGT, Int.reduceEq, Int.reduceNe, Int.reduceLT, Int.reduceLE, Int.reduceToNat, Int.reduceNeg, Int.reduceBEq, Int.reduceAdd, Int.reduceSub, Int.reduceGT, Int.reduceGE, Int.reduceBNe]
        refine callK_of a1 ?_
        simp only [go_sem, reduceIte, reduceCtorEq, Nat.reduceAdd, Nat.reduceSub, Nat.reduceMul, Nat.reduceLT, Nat.reduceLeDiff, Nat.reduceEqDiff, Nat.reduceBEq, Nat.reduceGT, Int.reduceEq, Int.reduceNe, Int.reduceLT, Int.reduceLE, Int.reduceToNat, Int.reduceNeg, Int.reduceBEq, Int.reduceAdd, Int.reduceSub, Int.reduceGT, Int.reduceGE, Int.reduceBNe]
        refine callK_of a2 ?_
        simp only [go_sem, reduceIte, reduceCtorEq, Nat.reduceAdd, Nat.reduceSub, Nat.reduceMul, Nat.reduceLT, Nat.reduceLeDiff, Nat.reduceEqDiff, Nat.reduceBEq, Nat.reduceGT, Int.reduceEq, Int.reduceNe, Int.reduceLT, Int.reduceLE, Int.reduceToNat, Int.reduceNeg, Int.reduceBEq, Int.reduceAdd, Int.reduceSub, Int.reduceGT, Int.reduceGE, Int.reduceBNe, hlen, hlenD, q]
        try intros
      have q : ((C.length : Int) != (D.length : Int)) = false := by simp; omega
      cases hq : eqC (C.map eraE) (D.map eraE)
      · rw [hq] at a5
        rw [Bool.true_and, Bool.true_and, if_neg Bool.false_ne_true]
        generalize C.map En.v = rc at *
        generalize D.map En.v = rd at *
        generalize (C.map eraE).map En.v = ec at *
        generalize (D.map eraE).map En.v = ed at *
        refine (contract_of_vc (r := .tup [.nils, .nils, .bool false]) mixed Tryz.func9 tr9 ?_).weaken le_pack0
        simp only [go_sem, reduceIte, reduceCtorEq, Nat.reduceAdd, Nat.reduceSub, Nat.reduceMul, Nat.reduceLT, Nat.reduceLeDiff, Nat.reduceEqDiff, Nat.reduceBEq, Nat.reduceGT, Int.reduceEq, Int.reduceNe, Int.reduceLT, Int.reduceLE, Int.reduceToNat, Int.reduceNeg, Int.reduceBEq, Int.reduceAdd, Int.reduceSub, Int.reduceGT, Int.reduceGE, Int.reduceBNe]
        refine callK_of a1 ?_
        simp only [go_sem, reduceIte, reduceCtorEq, Nat.reduceAdd, Nat.reduceSub, Nat.reduceMul, Nat.reduceLT, Nat.reduceLeDiff, Nat.reduceEqDiff, Nat.reduceBEq, Nat.reduceGT, Int.reduceEq, Int.reduceNe, Int.reduceLT, Int.reduceLE, Int.reduceToNat, Int.reduceNeg, Int.reduceBEq, Int.reduceAdd, Int.reduceSub, Int.reduceGT, Int.reduceGE, Int.reduceBNe]
        refine callK_of a2 ?_
        simp only [go_sem, reduceIte, reduceCtorEq, Nat.reduceAdd, Nat.reduceSub, Nat.reduceMul, Nat.reduceLT, Nat.reduceLeDiff, Nat.reduceEqDiff, Nat.reduceBEq, Nat.reduceGT, Int.reduceEq, Int.reduceNe, Int.reduceLT, Int.reduceLE, Int.reduceToNat, Int.reduceNeg, Int.reduceBEq, Int.reduceAdd, Int.reduceSub, Int.reduceGT, Int.reduceGE, Int.reduceBNe, hlen, hlenD, q]
        intros
        refine callK_of a3 ?_
        simp only [go_sem, reduceIte, reduceCtorEq, Nat.reduceAdd, Nat.reduceSub, Nat.reduceMul, Nat.reduceLT, Nat.reduceLeDiff, Nat.reduceEqDiff, Nat.reduceBEq, Nat.reduceGT, Int.reduceEq, Int.reduceNe, Int.reduceLT, Int.reduceLE, Int.reduceToNat, Int.reduceNeg, Int.reduceBEq, Int.reduceAdd, Int.reduceSub, Int.reduceGT, Int.reduceGE, Int.reduceBNe]
        refine callK_of a4 ?_
        simp only [go_sem, reduceIte, reduceCtorEq, Nat.reduceAdd, Nat.reduceSub, Nat.reduceMul, Nat.reduceLT, Nat.reduceLeDiff, Nat.reduceEqDiff, Nat.reduceBEq, Nat.reduceGT, Int.reduceEq, Int.reduceNe, Int.reduceLT, Int.reduceLE, Int.reduceToNat, Int.reduceNeg, Int.reduceBEq, Int.reduceAdd, Int.reduceSub, Int.reduceGT, Int.reduceGE, Int.reduceBNe]
        refine callK_of a5 ?_
        simp only [go_sem, reduceIte, reduceCtorEq, Nat.reduceAdd, Nat.reduceSub, Nat.reduceMul, Nat.reduceLT, Nat.reduceLeDiff, Nat.reduceEqDiff, Nat.reduceBEq, Nat.reduceGT, Int.reduceEq, Int.reduceNe, Int.reduceLT, Int.reduceLE, Int.reduceToNat, Int.reduceNeg, Int.reduceBEq, Int.reduceAdd, Int.reduceSub, Int.reduceGT, Int.reduceGE, Int.reduceBNe]
      · rw [hq] at a5
        rw [Bool.true_and, Bool.true_and, if_pos rfl]
        have henv := env_ok hC hD gC gD hl
        have hrow := en_row C
        have hrowD := en_row D
        have h40 := hC.2.1
        have hent := fun x hx => good_ent hC gC (x := x) hx
        have hentD := fun x hx => good_ent hD gD (x := x) hx
        generalize C.map En.v = rc at *
        generalize D.map En.v = rd at *
        generalize (C.map eraE).map En.v = ec at *
        generalize (D.map eraE).map En.v = ed at *
        refine contract_of_vc mixed Tryz.func9 tr9 ?_
        simp only [go_sem, reduceIte, reduceCtorEq, Nat.reduceAdd, Nat.reduceSub, Nat.reduceMul, Nat.reduceLT, Nat.reduceLeDiff, Nat.reduceEqDiff, Nat.reduceBEq, Nat.reduceGT, Int.reduceEq, Int.reduceNe, Int.reduceLT, Int.reduceLE, Int.reduceToNat, Int.reduceNeg, Int.reduceBEq, Int.reduceAdd, Int.reduceSub, Int.reduceGT, Int.reduceGE, Int.reduceBNe]
        refine callK_of a1 ?_
        simp only [go_sem, reduceIte, reduceCtorEq, Nat.reduceAdd, Nat.reduceSub, Nat.reduceMul, Nat.reduceLT, Nat.reduceLeDiff, Nat.reduceEqDiff, Nat.reduceBEq, Nat.reduceGT, Int.reduceEq, Int.reduceNe, Int.reduceLT, Int.reduceLE, Int.reduceToNat, Int.reduceNeg, Int.reduceBEq, Int.reduceAdd, Int.reduceSub, Int.reduceGT, Int.reduceGE, Int.reduceBNe]
        refine callK_of a2 ?_
        simp only [go_sem, reduceIte, reduceCtorEq, Nat.reduceAdd, Nat.reduceSub, Nat.reduceMul, Nat.reduceLT, Nat.reduceLeDiff, Nat.reduceEqDiff, Nat.reduceBEq, Nat.reduceGT, Int.reduceEq, Int.reduceNe, Int.reduceLT, Int.reduceLE, Int.reduceToNat, Int.reduceNeg, Int.reduceBEq, Int.reduceAdd, Int.reduceSub, Int.reduceGT, Int.reduceGE, Int.reduceBNe, hlen, hlenD, q]
        intros
        refine callK_of a3 ?_
        simp only [go_sem, reduceIte, reduceCtorEq, Nat.reduceAdd, Nat.reduceSub, Nat.reduceMul, Nat.reduceLT, Nat.reduceLeDiff, Nat.reduceEqDiff, Nat.reduceBEq, Nat.reduceGT, Int.reduceEq, Int.reduceNe, Int.reduceLT, Int.reduceLE, Int.reduceToNat, Int.reduceNeg, Int.reduceBEq, Int.reduceAdd, Int.reduceSub, Int.reduceGT, Int.reduceGE, Int.reduceBNe]
        refine callK_of a4 ?_
        simp only [go_sem, reduceIte, reduceCtorEq, Nat.reduceAdd, Nat.reduceSub, Nat.reduceMul, Nat.reduceLT, Nat.reduceLeDiff, Nat.reduceEqDiff, Nat.reduceBEq, Nat.reduceGT, Int.reduceEq, Int.reduceNe, Int.reduceLT, Int.reduceLE, Int.reduceToNat, Int.reduceNeg, Int.reduceBEq, Int.reduceAdd, Int.reduceSub, Int.reduceGT, Int.reduceGE, Int.reduceBNe]
        refine callK_of a5 ?_
        simp only [go_sem, reduceIte, reduceCtorEq, Nat.reduceAdd, Nat.reduceSub, Nat.reduceMul, Nat.reduceLT, Nat.reduceLeDiff, Nat.reduceEqDiff, Nat.reduceBEq, Nat.reduceGT, Int.reduceEq, Int.reduceNe, Int.reduceLT, Int.reduceLE, Int.reduceToNat, Int.reduceNeg, Int.reduceBEq, Int.reduceAdd, Int.reduceSub, Int.reduceGT, Int.reduceGE, Int.reduceBNe, hlen]
        intros
        refine vc_for (fun x => ⟨(.dsl 6 rc :: .dsl 6 rd :: .junk :: .junk :: .nils :: .nils :: .bool false :: .osl 0 x 0 (3 * x) :: .dsl 26 ((envP C D x).map HT.v) :: .int .i64 x :: .junk :: .junk :: .junk :: .junk :: .junk :: .junk :: .junk :: .junk :: .junk :: .junk :: .junk :: .junk :: .junk :: .junk :: .junk :: .junk :: .junk :: .junk :: .junk :: .junk :: .junk :: .junk :: .junk :: .junk :: .junk :: .junk :: .junk :: .junk :: .junk :: .junk :: .junk :: .junk :: .junk :: .junk :: .junk :: .junk :: .junk :: .junk :: .junk :: .junk :: .junk :: .junk :: .junk :: .junk :: .junk :: .junk :: .junk :: .junk :: .junk :: .junk :: .junk :: .junk :: .junk :: .junk :: .junk :: .junk :: .junk :: .junk :: .junk :: .junk :: .junk :: .junk :: .junk :: .junk :: .junk :: .junk :: .junk :: .junk :: .junk :: .junk :: .junk :: .junk :: .junk :: .junk :: .junk :: .junk :: .junk :: .junk :: .junk :: .junk :: .junk :: .junk :: .junk :: .junk :: .junk :: .junk :: .junk :: .junk :: .junk :: .junk :: .junk :: .junk :: .junk :: .junk :: .junk :: .junk :: .junk :: .junk :: .junk :: .junk :: .junk :: .junk :: .junk :: .junk :: .junk :: .junk :: .junk :: .junk :: .junk :: .junk :: .junk :: .junk :: []),
          [⟨false, 5, (outP C D x).map tv, 3 * (x - 1), x, true⟩]⟩) C.length (fun x hx => ?_) ?_
        · simp only [go_sem, reduceIte, reduceCtorEq, Nat.reduceAdd, Nat.reduceSub, Nat.reduceMul, Nat.reduceLT, Nat.reduceLeDiff, Nat.reduceEqDiff, Nat.reduceBEq, Nat.reduceGT, Int.reduceEq, Int.reduceNe, Int.reduceLT, Int.reduceLE, Int.reduceToNat, Int.reduceNeg, Int.reduceBEq, Int.reduceAdd, Int.reduceSub, Int.reduceGT, Int.reduceGE, Int.reduceBNe, hlen]
          intros
          refine ⟨fun h => ?_, fun h => ?_⟩
          · have hlt := of_decide_eq_true h
            have hlx : x < C.length := by omega
            have hlxD : x < D.length := by omega
            have hltr : (x : Int) < (rc.length : Int) := by omega
            have hltD : (x : Int) < (D.length : Int) := by omega
            have e0 : (0 : Int) ≤ (x : Int) := by omega
            have hr := hrow x hlx
            have hrD := hrowD x hlxD
            obtain ⟨c1, c2, c3, c4, c5, c6, c7⟩ := hent x hlx
            obtain ⟨d1, d2, d3, d4, d5, d6, d7⟩ := hentD x hlxD
            have hE := henv x (by omega)
            have hes : (envP C D (x + 1)).map HT.v = (threeF (envP C D x) (C[x]?.getD default).i (aP (envP C D x) (C[x]?.getD default)) (bP (envP C D x) (D[x]?.getD default))).map HT.v := by rw [envP]
            have hos : (outP C D (x + 1)).map tv = (outP C D x).map tv ++ [tv (aP (envP C D x) (C[x]?.getD default)), tv (liftF 1 (bP (envP C D x) (D[x]?.getD default))), tv (toldF (C[x]?.getD default).i (aP (envP C D x) (C[x]?.getD default)) (bP (envP C D x) (D[x]?.getD default)))] := by rw [outP, List.map_append]; rfl
            obtain ⟨es', hes'⟩ : ∃ es', (envP C D (x + 1)).map HT.v = es' := ⟨_, rfl⟩
            obtain ⟨os', hos'⟩ : ∃ os', (outP C D (x + 1)).map tv = os' := ⟨_, rfl⟩
            rw [hes'] at hes
            rw [hos'] at hos
            have eol := outP_len C D x
            have hbig : x ≤ 40 := by omega
            clear henv hent hentD hrow hrowD a1 a2 a3 a4 a5
            generalize outP C D x = O at *
            generalize envP C D x = E at *
            generalize C[x]?.getD default = c at *
            generalize D[x]?.getD default = d at *
            have pa : POk (3 * x) (aP E c) := side_pok (by omega) (by omega) hE false c1 c3 (by omega) c4
            have pb : POk (3 * x) (bP E d) := side_pok (by omega) (by omega) hE true d1 d3 (by omega) d4
            have k1 := con_rside E false (3 * x) (by omega) (by omega) (env_vars hE false) (by rw [hE.1]; omega) c.a c1 c3 (by omega) (by rw [hE.1]; exact c4)
            have k2 := con_rside E true (3 * x) (by omega) (by omega) (env_vars hE true) (by rw [hE.1]; omega) d.a d1 d3 (by omega) (by rw [hE.1]; exact d4)
            change Con _ _ (.tup [.agg true (tv (aP E c)), .bool true]) at k1
            change Con _ _ (.tup [.agg true (tv (bP E d)), .bool true]) at k2
            generalize aP E c = a at *
            generalize bP E d = b at *
            obtain ⟨oa, qa, ha, fa⟩ := pa
            obtain ⟨ob, qb, hb, fb⟩ := pb
            have u1 := con_r25up 1 (by decide) b ob qb (by omega)
            have u2 := con_r25up 2 (by decide) a oa qa (by omega)
            have u3 := con_r25up 2 (by decide) b ob qb (by omega)
            have u4 := con_r25up 3 (by decide) a oa qa (by omega)
            have u5 := con_r25up 3 (by decide) b ob qb (by omega)
            have v0 := con_r25v 0
            have v1 := con_r25v 1
            have v2 := con_r25v 2
            have hlift : ∀ y, y < E.length → Con 43 [.agg true (hv (E[y]?.getD zH).i (E[y]?.getD zH).a (E[y]?.getD zH).b (E[y]?.getD zH).x (E[y]?.getD zH).y (E[y]?.getD zH).h), .int .i64 3] (.agg true (liftHF 3 (E[y]?.getD zH)).v) := fun y hy => by
              obtain ⟨og, wg⟩ := gok_ok (V := 3 * x) (by omega) (hE.2 _ (get_lt (d := zH) hy))
              exact con_r23Lift 3 _ og wg
            have hrowE := ht_row E
            have hyx := lifted_row E
            have hys : ((E.map (liftHF 3)).map HT.v).length = E.length := by simp
            have hlenE : (E.map HT.v).length = E.length := by simp
            have zE : es' = (E.map (liftHF 3)).map HT.v ++ [hv c.i (liftF 3 a) (liftF 3 b) (vr 2) (vr 1) (vr 0)] := by rw [hes, three_rows]
            have z1 := tv_len a
            have z2 := tv_len b
            have z3 := tv_len (liftF 1 b)
            have z4 : ∀ k, (tv (liftF k a)).length = 5 := fun k => tv_len _
            have z4' : ∀ k, (tv (liftF k b)).length = 5 := fun k => tv_len _
            have z5 : (O.map tv).length = 3 * x := by rw [List.length_map, eol]
            have zo : os' = O.map tv ++ [tv a, tv (liftF 1 b), [.int .i64 23, .int .i64 c.i, .int .i64 0, .int .i64 6, .dsl 5 [tv (liftF 2 a), tv (liftF 2 b), tv (vr 1), tv (vr 0)]]] := by rw [hos]; unfold toldF us; simp only [List.map_cons, List.map_nil, tv_mk]
            have m1 : (3 * x + 3) * 56 ≤ 140737488355328 := by omega
            have m2 : 3 * x + 3 ≤ 140737488355328 := by omega
            have hEx := hE.1
            clear hE hes hos
            generalize O.map tv = os at *
            generalize (E.map (liftHF 3)).map HT.v = ls at *
            generalize E.map HT.v = es at *
            simp only [go_sem, reduceIte, reduceCtorEq, Nat.reduceAdd, Nat.reduceSub, Nat.reduceMul, Nat.reduceLT, Nat.reduceLeDiff, Nat.reduceEqDiff, Nat.reduceBEq, Nat.reduceGT, Int.reduceEq, Int.reduceNe, Int.reduceLT, Int.reduceLE, Int.reduceToNat, Int.reduceNeg, Int.reduceBEq, Int.reduceAdd, Int.reduceSub, Int.reduceGT, Int.reduceGE, Int.reduceBNe, hlen, hlenD, hlt, hltD, e0, hr, z1]
            refine callK_of k1 ?_
            simp only [go_sem, reduceIte, reduceCtorEq, Nat.reduceAdd, Nat.reduceSub, Nat.reduceMul, Nat.reduceLT, Nat.reduceLeDiff, Nat.reduceEqDiff, Nat.reduceBEq, Nat.reduceGT, Int.reduceEq, Int.reduceNe, Int.reduceLT, Int.reduceLE, Int.reduceToNat, Int.reduceNeg, Int.reduceBEq, Int.reduceAdd, Int.reduceSub, Int.reduceGT, Int.reduceGE, Int.reduceBNe, hlen, hlenD, hlt, hltD, e0, hrD, z1, z2]
            refine callK_of k2 ?_
            simp only [go_sem, reduceIte, reduceCtorEq, Nat.reduceAdd, Nat.reduceSub, Nat.reduceMul, Nat.reduceLT, Nat.reduceLeDiff, Nat.reduceEqDiff, Nat.reduceBEq, Nat.reduceGT, Int.reduceEq, Int.reduceNe, Int.reduceLT, Int.reduceLE, Int.reduceToNat, Int.reduceNeg, Int.reduceBEq, Int.reduceAdd, Int.reduceSub, Int.reduceGT, Int.reduceGE, Int.reduceBNe, z1, z2, z3]
            refine callK_of u1 ?_
            simp only [go_sem, reduceIte, reduceCtorEq, Nat.reduceAdd, Nat.reduceSub, Nat.reduceMul, Nat.reduceLT, Nat.reduceLeDiff, Nat.reduceEqDiff, Nat.reduceBEq, Nat.reduceGT, Int.reduceEq, Int.reduceNe, Int.reduceLT, Int.reduceLE, Int.reduceToNat, Int.reduceNeg, Int.reduceBEq, Int.reduceAdd, Int.reduceSub, Int.reduceGT, Int.reduceGE, Int.reduceBNe, hlen, hlenD, hlt, hltD, e0, hr, z1, z2, z3]
            refine callK_of u2 ?_
            simp only [go_sem, reduceIte, reduceCtorEq, Nat.reduceAdd, Nat.reduceSub, Nat.reduceMul, Nat.reduceLT, Nat.reduceLeDiff, Nat.reduceEqDiff, Nat.reduceBEq, Nat.reduceGT, Int.reduceEq, Int.reduceNe, Int.reduceLT, Int.reduceLE, Int.reduceToNat, Int.reduceNeg, Int.reduceBEq, Int.reduceAdd, Int.reduceSub, Int.reduceGT, Int.reduceGE, Int.reduceBNe, hlen, hlenD, hlt, hltD, e0, hr, z1, z2, z3, z4]
            refine callK_of u3 ?_
            simp only [go_sem, reduceIte, reduceCtorEq, Nat.reduceAdd, Nat.reduceSub, Nat.reduceMul, Nat.reduceLT, Nat.reduceLeDiff, Nat.reduceEqDiff, Nat.reduceBEq, Nat.reduceGT, Int.reduceEq, Int.reduceNe, Int.reduceLT, Int.reduceLE, Int.reduceToNat, Int.reduceNeg, Int.reduceBEq, Int.reduceAdd, Int.reduceSub, Int.reduceGT, Int.reduceGE, Int.reduceBNe, hlen, hlenD, hlt, hltD, e0, hr, z1, z2, z3, z4, z4']
            refine callK_of v1 ?_
            simp only [go_sem, reduceIte, reduceCtorEq, Nat.reduceAdd, Nat.reduceSub, Nat.reduceMul, Nat.reduceLT, Nat.reduceLeDiff, Nat.reduceEqDiff, Nat.reduceBEq, Nat.reduceGT, Int.reduceEq, Int.reduceNe, Int.reduceLT, Int.reduceLE, Int.reduceToNat, Int.reduceNeg, Int.reduceBEq, Int.reduceAdd, Int.reduceSub, Int.reduceGT, Int.reduceGE, Int.reduceBNe, z1, z2, z3, z4, z4']
            refine callK_of v0 ?_
            simp only [go_sem, reduceIte, reduceCtorEq, Nat.reduceAdd, Nat.reduceSub, Nat.reduceMul, Nat.reduceLT, Nat.reduceLeDiff, Nat.reduceEqDiff, Nat.reduceBEq, Nat.reduceGT, Int.reduceEq, Int.reduceNe, Int.reduceLT, Int.reduceLE, Int.reduceToNat, Int.reduceNeg, Int.reduceBEq, Int.reduceAdd, Int.reduceSub, Int.reduceGT, Int.reduceGE, Int.reduceBNe, z1, z2, z3, z4, z4', z5, m1, m2]
            rw [← zo]
            refine vc_for (fun y => ⟨(.dsl 6 rc :: .dsl 6 rd :: .junk :: .junk :: .nils :: .nils :: .bool false :: .osl 0 (x + 1) 0 (3 * x + 3) :: .dsl 26 es :: .int .i64 x :: .ref 1 0 0 0 :: .junk :: .ref 2 0 0 0 :: .junk :: .osl 3 y 0 y :: .int .i64 y :: .junk :: .junk :: .junk :: .junk :: .junk :: .junk :: .junk :: .junk :: .junk :: .junk :: .junk :: .junk :: .junk :: .junk :: .junk :: .junk :: .junk :: .junk :: .junk :: .junk :: .junk :: .junk :: .junk :: .junk :: .junk :: .junk :: .junk :: .junk :: .junk :: .junk :: .junk :: .junk :: .junk :: .junk :: .junk :: .junk :: .junk :: .junk :: .junk :: .junk :: .junk :: .junk :: .junk :: .junk :: .junk :: .junk :: .junk :: .junk :: .junk :: .junk :: .junk :: .junk :: .junk :: .junk :: .junk :: .junk :: .junk :: .junk :: .junk :: .junk :: .junk :: .junk :: .junk :: .junk :: .junk :: .junk :: .junk :: .junk :: .junk :: .junk :: .junk :: .junk :: .junk :: .junk :: .junk :: .junk :: .junk :: .junk :: .junk :: .junk :: .junk :: .junk :: .junk :: .junk :: .junk :: .junk :: .junk :: .junk :: .junk :: .junk :: .junk :: .junk :: .junk :: .junk :: .junk :: .junk :: .junk :: .junk :: .junk :: .junk :: .junk :: .junk :: .junk :: .junk :: .junk :: .junk :: []),
              [⟨false, 5, os', 3 * x, x + 1, true⟩, ⟨true, 5, [tv a], 0, 0, true⟩, ⟨true, 5, [tv b], 0, 0, true⟩, ⟨false, 26, ls.take y, y - 1, y, true⟩]⟩) E.length (fun y hy => ?_) ?_
            · simp only [go_sem, reduceIte, reduceCtorEq, Nat.reduceAdd, Nat.reduceSub, Nat.reduceMul, Nat.reduceLT, Nat.reduceLeDiff, Nat.reduceEqDiff, Nat.reduceBEq, Nat.reduceGT, Int.reduceEq, Int.reduceNe, Int.reduceLT, Int.reduceLE, Int.reduceToNat, Int.reduceNeg, Int.reduceBEq, Int.reduceAdd, Int.reduceSub, Int.reduceGT, Int.reduceGE, Int.reduceBNe, hlenE]
              intros
              refine ⟨fun h => ?_, fun h => ?_⟩
              · have hlt3 := of_decide_eq_true h
                have hly : y < E.length := by omega
                have e0y : (0 : Int) ≤ (y : Int) := by omega
                have hrE := hrowE y hly
                have hyy := hyx y hly
                have cl := hlift y hly
                generalize E[y]?.getD zH = g at *
                have hzl : (liftHF 3 g).v.length = 26 := hv_len
                have tn := take_next (l := ls) (d := []) (i := y) (by omega)
                rw [hyy] at tn
                have e1 : (ls.take y).length = y := by simp; omega
                have e2 : (y + 1) * 288 ≤ 140737488355328 := by omega
                have e3 : y + 1 ≤ 140737488355328 := by omega
                simp only [go_sem, reduceIte, reduceCtorEq, Nat.reduceAdd, Nat.reduceSub, Nat.reduceMul, Nat.reduceLT, Nat.reduceLeDiff, Nat.reduceEqDiff, Nat.reduceBEq, Nat.reduceGT, Int.reduceEq, Int.reduceNe, Int.reduceLT, Int.reduceLE, Int.reduceToNat, Int.reduceNeg, Int.reduceBEq, Int.reduceAdd, Int.reduceSub, Int.reduceGT, Int.reduceGE, Int.reduceBNe, hlt3, hlenE, e0y, hrE]
                refine callK_of cl ?_
                simp only [go_sem, reduceIte, reduceCtorEq, Nat.reduceAdd, Nat.reduceSub, Nat.reduceMul, Nat.reduceLT, Nat.reduceLeDiff, Nat.reduceEqDiff, Nat.reduceBEq, Nat.reduceGT, Int.reduceEq, Int.reduceNe, Int.reduceLT, Int.reduceLE, Int.reduceToNat, Int.reduceNeg, Int.reduceBEq, Int.reduceAdd, Int.reduceSub, Int.reduceGT, Int.reduceGE, Int.reduceBNe, hzl, e1, e2, e3, tn]
                refine ⟨hly, ?_⟩
                rw [w64 (n := (y : Int) + 1) (by unfold fit; omega)]
                exact wk_trunc 4 (by simp [slotsLe]) (by simp) (by simp [below]) (by simp)
              · have hgey := of_decide_eq_false h
                have hye : y = E.length := by omega
                subst hye
                have ht' : ls.take E.length = ls := by rw [← hys, List.take_length]
                have m4 : (E.length + 1) * 288 ≤ 140737488355328 := by omega
                have m5 : E.length + 1 ≤ 140737488355328 := by omega
                have hrx := hr
                simp only [go_sem, reduceIte, reduceCtorEq, Nat.reduceAdd, Nat.reduceSub, Nat.reduceMul, Nat.reduceLT, Nat.reduceLeDiff, Nat.reduceEqDiff, Nat.reduceBEq, Nat.reduceGT, Int.reduceEq, Int.reduceNe, Int.reduceLT, Int.reduceLE, Int.reduceToNat, Int.reduceNeg, Int.reduceBEq, Int.reduceAdd, Int.reduceSub, Int.reduceGT, Int.reduceGE, Int.reduceBNe, hlen, hlt, e0, hr, z1, z2, ht', hys]
                refine callK_of u4 ?_
                simp only [go_sem, reduceIte, reduceCtorEq, Nat.reduceAdd, Nat.reduceSub, Nat.reduceMul, Nat.reduceLT, Nat.reduceLeDiff, Nat.reduceEqDiff, Nat.reduceBEq, Nat.reduceGT, Int.reduceEq, Int.reduceNe, Int.reduceLT, Int.reduceLE, Int.reduceToNat, Int.reduceNeg, Int.reduceBEq, Int.reduceAdd, Int.reduceSub, Int.reduceGT, Int.reduceGE, Int.reduceBNe, hlen, hlt, e0, hr, z1, z2, z4, ht', hys]
                refine callK_of u5 ?_
                simp only [go_sem, reduceIte, reduceCtorEq, Nat.reduceAdd, Nat.reduceSub, Nat.reduceMul, Nat.reduceLT, Nat.reduceLeDiff, Nat.reduceEqDiff, Nat.reduceBEq, Nat.reduceGT, Int.reduceEq, Int.reduceNe, Int.reduceLT, Int.reduceLE, Int.reduceToNat, Int.reduceNeg, Int.reduceBEq, Int.reduceAdd, Int.reduceSub, Int.reduceGT, Int.reduceGE, Int.reduceBNe, hlen, hlt, e0, hr, z1, z2, z4, z4', ht', hys]
                refine callK_of v2 ?_
                simp only [go_sem, reduceIte, reduceCtorEq, Nat.reduceAdd, Nat.reduceSub, Nat.reduceMul, Nat.reduceLT, Nat.reduceLeDiff, Nat.reduceEqDiff, Nat.reduceBEq, Nat.reduceGT, Int.reduceEq, Int.reduceNe, Int.reduceLT, Int.reduceLE, Int.reduceToNat, Int.reduceNeg, Int.reduceBEq, Int.reduceAdd, Int.reduceSub, Int.reduceGT, Int.reduceGE, Int.reduceBNe, hlen, hlt, e0, hr, z1, z2, z4, z4', ht', hys]
                refine callK_of v1 ?_
                simp only [go_sem, reduceIte, reduceCtorEq, Nat.reduceAdd, Nat.reduceSub, Nat.reduceMul, Nat.reduceLT, Nat.reduceLeDiff, Nat.reduceEqDiff, Nat.reduceBEq, Nat.reduceGT, Int.reduceEq, Int.reduceNe, Int.reduceLT, Int.reduceLE, Int.reduceToNat, Int.reduceNeg, Int.reduceBEq, Int.reduceAdd, Int.reduceSub, Int.reduceGT, Int.reduceGE, Int.reduceBNe, hlen, hlt, e0, hr, z1, z2, z4, z4', ht', hys]
                refine callK_of v0 ?_
                simp only [go_sem, reduceIte, reduceCtorEq, Nat.reduceAdd, Nat.reduceSub, Nat.reduceMul, Nat.reduceLT, Nat.reduceLeDiff, Nat.reduceEqDiff, Nat.reduceBEq, Nat.reduceGT, Int.reduceEq, Int.reduceNe, Int.reduceLT, Int.reduceLE, Int.reduceToNat, Int.reduceNeg, Int.reduceBEq, Int.reduceAdd, Int.reduceSub, Int.reduceGT, Int.reduceGE, Int.reduceBNe, hlen, hlt, e0, hr, z1, z2, z4, z4', ht', hys, m4, m5]
                have zl : es'.length = E.length + 1 := by rw [zE]; simp [hys]
                refine ⟨hlx, ?_⟩
                rw [hes', hos', ← zE, w64 (n := (x : Int) + 1) (by unfold fit; omega), show 3 * (x + 1) = 3 * x + 3 by omega]
                have hcl : closeV [⟨false, 5, os', 3 * x, x + 1, true⟩, ⟨true, 5, [tv a], 0, 0, true⟩, ⟨true, 5, [tv b], 0, 0, true⟩, ⟨false, 26, es', E.length, E.length + 1, true⟩, ⟨false, 26, [hv c.i (liftF 3 a) (liftF 3 b) (vr 2) (vr 1) (vr 0)], 0, 0, true⟩] (.osl 3 (E.length + 1) 0 (E.length + 1))
                    = some (.dsl 26 es', [⟨false, 5, os', 3 * x, x + 1, true⟩, ⟨true, 5, [tv a], 0, 0, true⟩, ⟨true, 5, [tv b], 0, 0, true⟩, ⟨false, 26, es', es'.length, E.length + 1, true⟩, ⟨false, 26, [hv c.i (liftF 3 a) (liftF 3 b) (vr 2) (vr 1) (vr 0)], 0, 0, true⟩]) := by
                  have : es'.take (E.length + 1) = es' := by rw [← zl, List.take_length]
                  simp [closeV, closeC, fz, this]
                exact .trans (.clos _ 8 _ _ _ rfl hcl) (wk_trunc 1 (by simp [slotsLe]) (by simp) (by simp [below]) (by simp))
            · exact .trans (wk_trunc (l := (.dsl 6 rc :: .dsl 6 rd :: .junk :: .junk :: .nils :: .nils :: .bool false :: .osl 0 (x + 1) 0 (3 * x + 3) :: .dsl 26 es :: .int .i64 x :: .ref 1 0 0 0 :: .junk :: .ref 2 0 0 0 :: .junk :: .nils :: .int .i64 0 :: .junk :: .junk :: .junk :: .junk :: .junk :: .junk :: .junk :: .junk :: .junk :: .junk :: .junk :: .junk :: .junk :: .junk :: .junk :: .junk :: .junk :: .junk :: .junk :: .junk :: .junk :: .junk :: .junk :: .junk :: .junk :: .junk :: .junk :: .junk :: .junk :: .junk :: .junk :: .junk :: .junk :: .junk :: .junk :: .junk :: .junk :: .junk :: .junk :: .junk :: .junk :: .junk :: .junk :: .junk :: .junk :: .junk :: .junk :: .junk :: .junk :: .junk :: .junk :: .junk :: .junk :: .junk :: .junk :: .junk :: .junk :: .junk :: .junk :: .junk :: .junk :: .junk :: .junk :: .junk :: .junk :: .junk :: .junk :: .junk :: .junk :: .junk :: .junk :: .junk :: .junk :: .junk :: .junk :: .junk :: .junk :: .junk :: .junk :: .junk :: .junk :: .junk :: .junk :: .junk :: .junk :: .junk :: .junk :: .junk :: .junk :: .junk :: .junk :: .junk :: .junk :: .junk :: .junk :: .junk :: .junk :: .junk :: .junk :: .junk :: .junk :: .junk :: .junk :: .junk :: .junk :: .junk :: [])) (hp := [⟨false, 5, os', 3 * x, x + 1, true⟩, ⟨true, 5, [tv a], 0, 0, true⟩, ⟨true, 5, [tv b], 0, 0, true⟩]) 3 (by simp [slotsLe]) (by simp) (by simp [below]) (by simp)) (.trans (.ghost _ 14 26 rfl) (wk_slots (by simp [slotsLe])))
          · have hge := of_decide_eq_false h
            have hxe : x = C.length := by omega
            subst hxe
            have eol : ((outP C D C.length).map tv).length = 3 * C.length := by rw [List.length_map, outP_len]
            generalize (outP C D C.length).map tv = os at *
            have ht : os.take (3 * C.length) = os := by rw [← eol, List.take_length]
            simp only [go_sem, reduceIte, reduceCtorEq, Nat.reduceAdd, Nat.reduceSub, Nat.reduceMul, Nat.reduceLT, Nat.reduceLeDiff, Nat.reduceEqDiff, Nat.reduceBEq, Nat.reduceGT, Int.reduceEq, Int.reduceNe, Int.reduceLT, Int.reduceLE, Int.reduceToNat, Int.reduceNeg, Int.reduceBEq, Int.reduceAdd, Int.reduceSub, Int.reduceGT, Int.reduceGE, Int.reduceBNe, eol, ht]
        · exact .trans (.ghost _ 7 5 rfl) (.trans (.nil _ 8 26 rfl) (wk_slots (by simp [slotsLe, envP])))
end Go.Proofs.YtkldipbhenabfaaGreat.Abs

