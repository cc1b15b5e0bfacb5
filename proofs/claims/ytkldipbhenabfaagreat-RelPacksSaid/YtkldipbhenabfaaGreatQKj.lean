/- The law RelPacks as a contract. -/
import Derived.Test.YtkldipbhenabfaaGreatQKh
import Derived.Test.YtkldipbhenabfaaGreatQKi
import Derived.Test.YtkldipbhenabfaaGreatQAfU
import Derived.Test.YtkldipbhenabfaaGreatQUn
import Derived.Test.YtkldipbhenabfaaGreatQJm
set_option linter.unusedSimpArgs false
set_option linter.unusedVariables false
namespace Go.Proofs.YtkldipbhenabfaaGreat.Abs
open Go Go.RowKit Go.Proofs.YtkldipbhenabfaaGreat

theorem con_bSort (i : Int) : Con 99 [.int .i64 i] (.agg true (tv (so i))) := by
  refine (contract_of_vc (r := .agg true [.int .i64 1, .int .i64 i, .int .i64 0, .int .i64 0, .nils]) mixed Tryz.func99 tr99 ?_).weaken (le_leaf _ _ _ _)
  simp only [go_sem, reduceIte, reduceCtorEq, Nat.reduceAdd, Nat.reduceSub, Nat.reduceMul, Nat.reduceLT, Nat.reduceLeDiff, Nat.reduceEqDiff, Nat.reduceBEq, Nat.reduceGT, Int.reduceEq, Int.reduceNe, Int.reduceLT, Int.reduceLE, Int.reduceToNat, Int.reduceNeg, Int.reduceBEq, Int.reduceAdd, Int.reduceSub, Int.reduceGT, Int.reduceGE, Int.reduceBNe]
theorem con_l25s (i : Int) : Con 45 [.int .i64 i] (.agg true (tv (so i))) := by
  refine (contract_of_vc (r := .agg true [.int .i64 1, .int .i64 i, .int .i64 0, .int .i64 0, .nils]) mixed Tryz.func45 tr45 ?_).weaken (le_leaf _ _ _ _)
  simp only [go_sem, reduceIte, reduceCtorEq, Nat.reduceAdd, Nat.reduceSub, Nat.reduceMul, Nat.reduceLT, Nat.reduceLeDiff, Nat.reduceEqDiff, Nat.reduceBEq, Nat.reduceGT, Int.reduceEq, Int.reduceNe, Int.reduceLT, Int.reduceLE, Int.reduceToNat, Int.reduceNeg, Int.reduceBEq, Int.reduceAdd, Int.reduceSub, Int.reduceGT, Int.reduceGE, Int.reduceBNe]
def selfH : Tm := .mk 21 0 0 0 [pts 2, pt 2 (so 1) (so 0)]
theorem self0 : selfF 2 (so 1) (so 0) = ⟨2, so 1, so 1, so 0, so 0, selfH⟩ := by kernel_rfl
set_option maxRecDepth 20000 in
set_option maxHeartbeats 2000000 in
theorem con_alike0 : Con 81 [.nils, .agg true (tv (so 0)), .agg true (tv (so 0))] (.agg true (hv 2 (so 1) (so 1) (so 0) (so 0) selfH)) := by
  have o0 := tokso 0 (by decide) (by decide)
  have o1 := tokso 1 (by decide) (by decide)
  have c1 := con_hSelf 2 (so 1) (so 0) o1 o0
  rw [self0] at c1
  change Con _ _ (.agg true (hv 2 (so 1) (so 1) (so 0) (so 0) selfH)) at c1
  have c2 := con_bSort 1
  have c3 := con_bSort 0
  have e0 : tv (so 0) = [.int .i64 1, .int .i64 0, .int .i64 0, .int .i64 0, .dsl 5 []] := by unfold so; rw [tv_mk]; rfl
  refine contract_of_vc mixed Tryz.func81 tr81 ?_
  have hH : (hv 2 (so 1) (so 1) (so 0) (so 0) selfH).length = 26 := hv_len
  generalize hv 2 (so 1) (so 1) (so 0) (so 0) selfH = H at *
  rw [e0]
  rw [e0] at c1 c3
  repeat' first
    | simp (config := { maxSteps := 2000000 }) only [go_sem, reduceIte, reduceCtorEq, Nat.reduceAdd, Nat.reduceSub, Nat.reduceMul, Nat.reduceLT, Nat.reduceLeDiff, Nat.reduceEqDiff, Nat.reduceBEq, Nat.reduceGT, Int.reduceEq, Int.reduceNe, Int.reduceLT, Int.reduceLE, Int.reduceToNat, Int.reduceNeg, Int.reduceBEq, Int.reduceAdd, Int.reduceSub, Int.reduceGT, Int.reduceGE, Int.reduceBNe, hH]
    | refine callK_of (c1) ?_
    | refine callK_of (c2) ?_
    | refine callK_of (c3) ?_
    | rfl
set_option maxRecDepth 20000 in
set_option maxHeartbeats 2000000 in
theorem con_Alike0 : Con 44 [.nils, .agg true (tv (so 0)), .agg true (tv (so 0))] (.tup [.agg true (hv 2 (so 1) (so 1) (so 0) (so 0) selfH), .bool true]) := by
  have o0 := tokso 0 (by decide) (by decide)
  have o1 := tokso 1 (by decide) (by decide)
  have c1 := con_related _ _ o0 o0
  rw [relB_so 0 0 (by decide) (by decide)] at c1
  have h0 : hgtT (so 0) ≤ 100000 := by show hgtT (.mk 1 0 0 0 []) ≤ 100000; rw [hgtT_mk, hgtL]; omega
  have c2 := con_free _ o0 h0
  rw [show freeF (so 0) = 0 by kernel_rfl] at c2
  have c3 := con_tlow 996 _ o0
  rw [show lowT 996 (so 0) = true by kernel_rfl] at c3
  have oh : TOk selfH := tok_k (by unfold fit; omega) (by simp) (by simp [tok_pts (i := 2) (by unfold fit; omega), tok_pt (i := 2) (by unfold fit; omega) o1 o0])
  have c4 := con_copy _ o0
  have c5 := con_copy _ o1
  have c6 := con_copy _ oh
  refine contract_of_vc mixed Tryz.func44 tr44 ?_
  repeat' first
    | simp (config := { maxSteps := 2000000 }) only [go_sem, reduceIte, reduceCtorEq, Nat.reduceAdd, Nat.reduceSub, Nat.reduceMul, Nat.reduceLT, Nat.reduceLeDiff, Nat.reduceEqDiff, Nat.reduceBEq, Nat.reduceGT, Int.reduceEq, Int.reduceNe, Int.reduceLT, Int.reduceLE, Int.reduceToNat, Int.reduceNeg, Int.reduceBEq, Int.reduceAdd, Int.reduceSub, Int.reduceGT, Int.reduceGE, Int.reduceBNe, BEq.rfl]
    | refine callK_of (c1) ?_
    | refine callK_of (c2) ?_
    | refine callK_of (con_most) ?_
    | refine callK_of (c3) ?_
    | refine callK_of (con_alike0) ?_
    | refine callK_of (c4) ?_
    | refine callK_of (c5) ?_
    | refine callK_of (c6) ?_
    | refine vcI_step ?_
    | refine vc_unroll 6 ?_
    | rfl
set_option maxRecDepth 20000 in
set_option maxHeartbeats 2000000 in
theorem con_Alike1 : Con 44 [.nils, .agg true (tv (so 0)), .agg true (tv (so 1))] (.tup [.agg true [.int .i64 0, .int .i64 0, .int .i64 0, .int .i64 0, .int .i64 0, .nils, .int .i64 0, .int .i64 0, .int .i64 0, .int .i64 0, .nils, .int .i64 0, .int .i64 0, .int .i64 0, .int .i64 0, .nils, .int .i64 0, .int .i64 0, .int .i64 0, .int .i64 0, .nils, .int .i64 0, .int .i64 0, .int .i64 0, .int .i64 0, .nils], .bool false]) := by
  have o0 := tokso 0 (by decide) (by decide)
  have o1 := tokso 1 (by decide) (by decide)
  have c1 := con_related _ _ o0 o1
  rw [relB_so 0 1 (by decide) (by decide)] at c1
  refine contract_of_vc mixed Tryz.func44 tr44 ?_
  repeat' first
    | simp (config := { maxSteps := 2000000 }) only [go_sem, reduceIte, reduceCtorEq, Nat.reduceAdd, Nat.reduceSub, Nat.reduceMul, Nat.reduceLT, Nat.reduceLeDiff, Nat.reduceEqDiff, Nat.reduceBEq, Nat.reduceGT, Int.reduceEq, Int.reduceNe, Int.reduceLT, Int.reduceLE, Int.reduceToNat, Int.reduceNeg, Int.reduceBEq, Int.reduceAdd, Int.reduceSub, Int.reduceGT, Int.reduceGE, Int.reduceBNe, BEq.rfl]
    | refine callK_of (c1) ?_
    | refine vcI_step ?_
    | refine vc_unroll 6 ?_
    | rfl
theorem hvJ_12 {i : Int} {a b x y h : Tm} : (hv i a b x y h)[12]? = some (.int .i64 x.i) := by simp [hv, tv_cells]
def c0C : List En := [⟨so 0, 1⟩]
theorem lo_c0 : CtxLo c0C := by
  have o0 := tokso 0 (by decide) (by decide)
  have h0 : hgtT (so 0) = 1 := by show hgtT (.mk 1 0 0 0 []) = 1; rw [hgtT_mk, hgtL]
  refine ⟨⟨by decide, fun e he => ?_⟩, by decide, fun e he => ?_⟩
  · rcases List.mem_cons.1 he with rfl | h
    · exact ⟨⟨o0, by show fit 1; unfold fit; omega⟩, by show hgtT (so 0) ≤ 1000; omega⟩
    · cases h
  · rcases List.mem_cons.1 he with rfl | h
    · show hgtT (so 0) ≤ 201; omega
    · cases h
theorem pack0 : packR c0C c0C = .tup [.dsl 5 [tv (so 0), tv (so 0), tv (us 6 1 0 [so 0, so 0, vr 1, vr 0])], .dsl 26 [hv 1 (so 0) (so 0) (vr 2) (vr 1) (vr 0)], .bool true] := by
  unfold packR packOK
  rw [eqC_self, show goodC c0C = true by kernel_rfl, if_pos (by rfl), show outP c0C c0C c0C.length = [so 0, so 0, us 6 1 0 [so 0, so 0, vr 1, vr 0]] by kernel_rfl, show envP c0C c0C c0C.length = [⟨1, so 0, so 0, vr 2, vr 1, vr 0⟩] by kernel_rfl]
  rfl
set_option maxRecDepth 20000 in
set_option maxHeartbeats 4000000 in
theorem con_wakes25 : Con 12 [] (.bool true) := by
  have c1 := con_Pack c0C c0C lo_c0 lo_c0
  rw [pack0] at c1
  change Con _ [.dsl 6 [ev6 (so 0) 1], .dsl 6 [ev6 (so 0) 1]] _ at c1
  have k1 : (so 0).k = 1 := rfl
  have k2 : (us 6 1 0 [so 0, so 0, vr 1, vr 0]).k = 23 := rfl
  have k3 : (vr 2).i = 2 := rfl
  refine contract_of_vc mixed Tryz.func12 tr12 ?_
  repeat' first
    | simp (config := { maxSteps := 2000000 }) only [go_sem, reduceIte, reduceCtorEq, Nat.reduceAdd, Nat.reduceSub, Nat.reduceMul, Nat.reduceLT, Nat.reduceLeDiff, Nat.reduceEqDiff, Nat.reduceBEq, Nat.reduceGT, Int.reduceEq, Int.reduceNe, Int.reduceLT, Int.reduceLE, Int.reduceToNat, Int.reduceNeg, Int.reduceBEq, Int.reduceAdd, Int.reduceSub, Int.reduceGT, Int.reduceGE, Int.reduceBNe, hvJ_11, hvJ_12, tv_0, k1, k2, k3]
    | refine callK_of (con_l25s 0) ?_
    | refine callK_of (con_l25s 1) ?_
    | refine callK_of (c1) ?_
    | refine callK_of (con_Alike0) ?_
    | refine callK_of (con_Alike1) ?_
    | rfl
theorem con_same25 (g : HT) (hg : g.ok) : Con 11 [.agg true g.v, .agg true g.v, .bool true] (.bool true) := by
  refine contract_of_vc mixed Tryz.func11 tr11 ?_
  unfold HT.v
  repeat' first
    | simp (config := { maxSteps := 2000000 }) only [go_sem, reduceIte, reduceCtorEq, Nat.reduceAdd, Nat.reduceSub, Nat.reduceMul, Nat.reduceLT, Nat.reduceLeDiff, Nat.reduceEqDiff, Nat.reduceBEq, Nat.reduceGT, Int.reduceEq, Int.reduceNe, Int.reduceLT, Int.reduceLE, Int.reduceToNat, Int.reduceNeg, Int.reduceBEq, Int.reduceAdd, Int.reduceSub, Int.reduceGT, Int.reduceGE, Int.reduceBNe, BEq.rfl]
    | refine callK_of (con_same g.a hg.a) ?_
    | refine callK_of (con_same g.b hg.b) ?_
    | refine callK_of (con_same g.x hg.x) ?_
    | refine callK_of (con_same g.y hg.y) ?_
    | refine callK_of (con_same g.h hg.h) ?_
    | rfl
theorem tok_outP {C D : List En} (hC : CtxLo C) (hD : CtxLo D) (gC : goodC C = true) (gD : goodC D = true) (hl : C.length = D.length) : ∀ x, x ≤ C.length → ∀ t ∈ outP C D x, TOk t := by
  intro x
  induction x with
  | zero => intro _ t ht; cases ht
  | succ x ih =>
    intro hx t ht
    have hE := env_ok hC hD gC gD hl x (by omega)
    obtain ⟨c1, c2, c3, c4, c5, c6, c7⟩ := good_ent hC gC (show x < C.length by omega)
    obtain ⟨d1, d2, d3, d4, d5, d6, d7⟩ := good_ent hD gD (show x < D.length by omega)
    have h40 := hC.2.1
    have pa : POk (3 * x) (aP (envP C D x) (C[x]?.getD default)) := side_pok (by omega) (by omega) hE false c1 c3 (by omega) c4
    have pb : POk (3 * x) (bP (envP C D x) (D[x]?.getD default)) := side_pok (by omega) (by omega) hE true d1 d3 (by omega) d4
    rw [outP] at ht
    rcases List.mem_append.1 ht with ht | ht
    · exact ih (by omega) t ht
    · simp only [List.mem_cons, List.not_mem_nil, or_false] at ht
      rcases ht with rfl | rfl | rfl
      · exact pa.1
      · exact (lift_pok (k := 1) (by decide) (by decide) (by omega) (by omega) pb).1
      · exact tok_told (V := 3 * x) (by omega) c2 pa pb (by omega)
set_option maxRecDepth 20000 in
set_option maxHeartbeats 4000000 in
theorem law_RelPacks (C D : List En) (hC : ∀ e ∈ C, e.ok) (hD : ∀ e ∈ D, e.ok) : Con 3 [.dsl 6 (C.map En.v), .dsl 6 (D.map En.v)] (.bool true) := by
  obtain ⟨z1, c1, h1⟩ := con_greatctx 40 (by decide) (by decide) C hC
  obtain ⟨z2, c2, h2⟩ := con_greatctx 40 (by decide) (by decide) D hD
  refine contract_of_vc mixed Tryz.func3 tr3 ?_
  cases z1
  rotate_left
  · generalize C.map En.v = rc at *
    generalize D.map En.v = rd at *
    repeat' first
      | simp (config := { maxSteps := 2000000 }) only [go_sem, reduceIte, reduceCtorEq, Nat.reduceAdd, Nat.reduceSub, Nat.reduceMul, Nat.reduceLT, Nat.reduceLeDiff, Nat.reduceEqDiff, Nat.reduceBEq, Nat.reduceGT, Int.reduceEq, Int.reduceNe, Int.reduceLT, Int.reduceLE, Int.reduceToNat, Int.reduceNeg, Int.reduceBEq, Int.reduceAdd, Int.reduceSub, Int.reduceGT, Int.reduceGE, Int.reduceBNe, BEq.rfl]
      | refine callK_of (c1) ?_
      | rfl
  cases z2
  rotate_left
  · generalize C.map En.v = rc at *
    generalize D.map En.v = rd at *
    repeat' first
      | simp (config := { maxSteps := 2000000 }) only [go_sem, reduceIte, reduceCtorEq, Nat.reduceAdd, Nat.reduceSub, Nat.reduceMul, Nat.reduceLT, Nat.reduceLeDiff, Nat.reduceEqDiff, Nat.reduceBEq, Nat.reduceGT, Int.reduceEq, Int.reduceNe, Int.reduceLT, Int.reduceLE, Int.reduceToNat, Int.reduceNeg, Int.reduceBEq, Int.reduceAdd, Int.reduceSub, Int.reduceGT, Int.reduceGE, Int.reduceBNe, BEq.rfl]
      | refine callK_of (c1) ?_
      | refine callK_of (c2) ?_
      | rfl
  obtain ⟨q1, q2⟩ := h1 rfl
  obtain ⟨q3, q4⟩ := h2 rfl
  have lC : CtxLo C := ⟨⟨by omega, fun e he => ⟨hC e he, by have := q2 e he; omega⟩⟩, by omega, fun e he => by have := q2 e he; omega⟩
  have lD : CtxLo D := ⟨⟨by omega, fun e he => ⟨hD e he, by have := q4 e he; omega⟩⟩, by omega, fun e he => by have := q4 e he; omega⟩
  have k1 := con_Pack C D lC lD
  have k2 := con_rPack C D lC lD
  unfold packR at k1 k2
  cases hp : packOK C D
  · rw [hp, if_neg Bool.false_ne_true] at k1 k2
    have k3 := con_terms [] (by simp) (by simp)
    simp only [List.map_nil] at k3
    generalize C.map En.v = rc at *
    generalize D.map En.v = rd at *
    simp only [go_sem, reduceIte, reduceCtorEq, Nat.reduceAdd, Nat.reduceSub, Nat.reduceMul, Nat.reduceLT, Nat.reduceLeDiff, Nat.reduceEqDiff, Nat.reduceBEq, Nat.reduceGT, Int.reduceEq, Int.reduceNe, Int.reduceLT, Int.reduceLE, Int.reduceToNat, Int.reduceNeg, Int.reduceBEq, Int.reduceAdd, Int.reduceSub, Int.reduceGT, Int.reduceGE, Int.reduceBNe]
    refine callK_of c1 ?_
    simp only [go_sem, reduceIte, reduceCtorEq, Nat.reduceAdd, Nat.reduceSub, Nat.reduceMul, Nat.reduceLT, Nat.reduceLeDiff, Nat.reduceEqDiff, Nat.reduceBEq, Nat.reduceGT, Int.reduceEq, Int.reduceNe, Int.reduceLT, Int.reduceLE, Int.reduceToNat, Int.reduceNeg, Int.reduceBEq, Int.reduceAdd, Int.reduceSub, Int.reduceGT, Int.reduceGE, Int.reduceBNe]
    refine callK_of c2 ?_
    simp only [go_sem, reduceIte, reduceCtorEq, Nat.reduceAdd, Nat.reduceSub, Nat.reduceMul, Nat.reduceLT, Nat.reduceLeDiff, Nat.reduceEqDiff, Nat.reduceBEq, Nat.reduceGT, Int.reduceEq, Int.reduceNe, Int.reduceLT, Int.reduceLE, Int.reduceToNat, Int.reduceNeg, Int.reduceBEq, Int.reduceAdd, Int.reduceSub, Int.reduceGT, Int.reduceGE, Int.reduceBNe]
    refine callK_of k1 ?_
    simp only [go_sem, reduceIte, reduceCtorEq, Nat.reduceAdd, Nat.reduceSub, Nat.reduceMul, Nat.reduceLT, Nat.reduceLeDiff, Nat.reduceEqDiff, Nat.reduceBEq, Nat.reduceGT, Int.reduceEq, Int.reduceNe, Int.reduceLT, Int.reduceLE, Int.reduceToNat, Int.reduceNeg, Int.reduceBEq, Int.reduceAdd, Int.reduceSub, Int.reduceGT, Int.reduceGE, Int.reduceBNe]
    refine callK_of k2 ?_
    simp only [go_sem, reduceIte, reduceCtorEq, Nat.reduceAdd, Nat.reduceSub, Nat.reduceMul, Nat.reduceLT, Nat.reduceLeDiff, Nat.reduceEqDiff, Nat.reduceBEq, Nat.reduceGT, Int.reduceEq, Int.reduceNe, Int.reduceLT, Int.reduceLE, Int.reduceToNat, Int.reduceNeg, Int.reduceBEq, Int.reduceAdd, Int.reduceSub, Int.reduceGT, Int.reduceGE, Int.reduceBNe, bne_self_eq_false]
    refine callK_of k3 ?_
    simp only [go_sem, reduceIte, reduceCtorEq, Nat.reduceAdd, Nat.reduceSub, Nat.reduceMul, Nat.reduceLT, Nat.reduceLeDiff, Nat.reduceEqDiff, Nat.reduceBEq, Nat.reduceGT, Int.reduceEq, Int.reduceNe, Int.reduceLT, Int.reduceLE, Int.reduceToNat, Int.reduceNeg, Int.reduceBEq, Int.reduceAdd, Int.reduceSub, Int.reduceGT, Int.reduceGE, Int.reduceBNe, bne_self_eq_false]
    try intros
    refine vc_unroll 2 ?_
    refine vcI_step ?_
    simp only [go_sem, reduceIte, reduceCtorEq, Nat.reduceAdd, Nat.reduceSub, Nat.reduceMul, Nat.reduceLT, Nat.reduceLeDiff, Nat.reduceEqDiff, Nat.reduceBEq, Nat.reduceGT, Int.reduceEq, Int.reduceNe, Int.reduceLT, Int.reduceLE, Int.reduceToNat, Int.reduceNeg, Int.reduceBEq, Int.reduceAdd, Int.reduceSub, Int.reduceGT, Int.reduceGE, Int.reduceBNe]
    refine callK_of con_wakes25 ?_
    simp only [go_sem, reduceIte, reduceCtorEq, Nat.reduceAdd, Nat.reduceSub, Nat.reduceMul, Nat.reduceLT, Nat.reduceLeDiff, Nat.reduceEqDiff, Nat.reduceBEq, Nat.reduceGT, Int.reduceEq, Int.reduceNe, Int.reduceLT, Int.reduceLE, Int.reduceToNat, Int.reduceNeg, Int.reduceBEq, Int.reduceAdd, Int.reduceSub, Int.reduceGT, Int.reduceGE, Int.reduceBNe]
  · rw [hp, if_pos rfl] at k1 k2
    have hp2 := hp
    unfold packOK at hp2
    rw [Bool.and_eq_true, Bool.and_eq_true] at hp2
    obtain ⟨gC, gD, he⟩ := hp2
    have hl := era_len he
    have ot := tok_outP lC lD gC gD hl C.length (Nat.le_refl _)
    have oe := env_ok lC lD gC gD hl C.length (Nat.le_refl _)
    have k3 := con_terms (outP C D C.length) ot (by rw [outP_len]; omega)
    have hok : ∀ g ∈ envP C D C.length, g.ok := fun g hg => (gok_ok (V := 3 * C.length) (by omega) (oe.2 g hg)).1
    have hrow : ∀ x, x < (envP C D C.length).length → ((envP C D C.length).map HT.v)[x]?.getD [] = ((envP C D C.length)[x]?.getD zH).v := fun x hx => by
      rw [List.getElem?_map, List.getElem?_eq_getElem hx]; rfl
    have hlen : ((envP C D C.length).map HT.v).length = (envP C D C.length).length := by simp
    have hn : (envP C D C.length).length = C.length := oe.1
    have hn40 := lC.2.1
    generalize (outP C D C.length).map tv = os at *
    generalize envP C D C.length = E at *
    generalize E.map HT.v = es at *
    generalize C.map En.v = rc at *
    generalize D.map En.v = rd at *
    simp only [go_sem, reduceIte, reduceCtorEq, Nat.reduceAdd, Nat.reduceSub, Nat.reduceMul, Nat.reduceLT, Nat.reduceLeDiff, Nat.reduceEqDiff, Nat.reduceBEq, Nat.reduceGT, Int.reduceEq, Int.reduceNe, Int.reduceLT, Int.reduceLE, Int.reduceToNat, Int.reduceNeg, Int.reduceBEq, Int.reduceAdd, Int.reduceSub, Int.reduceGT, Int.reduceGE, Int.reduceBNe]
    refine callK_of c1 ?_
    simp only [go_sem, reduceIte, reduceCtorEq, Nat.reduceAdd, Nat.reduceSub, Nat.reduceMul, Nat.reduceLT, Nat.reduceLeDiff, Nat.reduceEqDiff, Nat.reduceBEq, Nat.reduceGT, Int.reduceEq, Int.reduceNe, Int.reduceLT, Int.reduceLE, Int.reduceToNat, Int.reduceNeg, Int.reduceBEq, Int.reduceAdd, Int.reduceSub, Int.reduceGT, Int.reduceGE, Int.reduceBNe]
    refine callK_of c2 ?_
    simp only [go_sem, reduceIte, reduceCtorEq, Nat.reduceAdd, Nat.reduceSub, Nat.reduceMul, Nat.reduceLT, Nat.reduceLeDiff, Nat.reduceEqDiff, Nat.reduceBEq, Nat.reduceGT, Int.reduceEq, Int.reduceNe, Int.reduceLT, Int.reduceLE, Int.reduceToNat, Int.reduceNeg, Int.reduceBEq, Int.reduceAdd, Int.reduceSub, Int.reduceGT, Int.reduceGE, Int.reduceBNe]
    refine callK_of k1 ?_
    simp only [go_sem, reduceIte, reduceCtorEq, Nat.reduceAdd, Nat.reduceSub, Nat.reduceMul, Nat.reduceLT, Nat.reduceLeDiff, Nat.reduceEqDiff, Nat.reduceBEq, Nat.reduceGT, Int.reduceEq, Int.reduceNe, Int.reduceLT, Int.reduceLE, Int.reduceToNat, Int.reduceNeg, Int.reduceBEq, Int.reduceAdd, Int.reduceSub, Int.reduceGT, Int.reduceGE, Int.reduceBNe]
    refine callK_of k2 ?_
    simp only [go_sem, reduceIte, reduceCtorEq, Nat.reduceAdd, Nat.reduceSub, Nat.reduceMul, Nat.reduceLT, Nat.reduceLeDiff, Nat.reduceEqDiff, Nat.reduceBEq, Nat.reduceGT, Int.reduceEq, Int.reduceNe, Int.reduceLT, Int.reduceLE, Int.reduceToNat, Int.reduceNeg, Int.reduceBEq, Int.reduceAdd, Int.reduceSub, Int.reduceGT, Int.reduceGE, Int.reduceBNe, bne_self_eq_false]
    refine callK_of k3 ?_
    simp only [go_sem, reduceIte, reduceCtorEq, Nat.reduceAdd, Nat.reduceSub, Nat.reduceMul, Nat.reduceLT, Nat.reduceLeDiff, Nat.reduceEqDiff, Nat.reduceBEq, Nat.reduceGT, Int.reduceEq, Int.reduceNe, Int.reduceLT, Int.reduceLE, Int.reduceToNat, Int.reduceNeg, Int.reduceBEq, Int.reduceAdd, Int.reduceSub, Int.reduceGT, Int.reduceGE, Int.reduceBNe, bne_self_eq_false]
    intros
    refine vc_for (fun x => ⟨(.junk :: .junk :: .junk :: .junk :: .bool false :: .junk :: .dsl 26 es :: .junk :: .junk :: .dsl 26 es :: .junk :: .int .i64 x :: .junk :: .junk :: .junk :: .junk :: .junk :: .junk :: .junk :: .junk :: .junk :: .junk :: .junk :: .junk :: .junk :: .junk :: .junk :: .junk :: .junk :: .junk :: .junk :: .junk :: .junk :: .junk :: .junk :: .junk :: .junk :: .junk :: .junk :: .junk :: .junk :: .junk :: .junk :: .junk :: .junk :: .junk :: .junk :: .junk :: .junk :: .junk :: .junk :: .junk :: .junk :: .junk :: .junk :: .junk :: .junk :: .junk :: .junk :: .junk :: .junk :: .junk :: .junk :: .junk :: .junk :: []), []⟩) es.length (fun x hx => ?_) ?_
    · simp only [go_sem, reduceIte, reduceCtorEq, Nat.reduceAdd, Nat.reduceSub, Nat.reduceMul, Nat.reduceLT, Nat.reduceLeDiff, Nat.reduceEqDiff, Nat.reduceBEq, Nat.reduceGT, Int.reduceEq, Int.reduceNe, Int.reduceLT, Int.reduceLE, Int.reduceToNat, Int.reduceNeg, Int.reduceBEq, Int.reduceAdd, Int.reduceSub, Int.reduceGT, Int.reduceGE, Int.reduceBNe]
      intros
      refine ⟨fun h => ?_, fun h => ?_⟩
      · have hlt := of_decide_eq_true h
        have hlt' : x < es.length := by omega
        have hlx : x < E.length := by omega
        have e0 : (0 : Int) ≤ (x : Int) := by omega
        have hr := hrow x hlx
        have hg := hok _ (get_lt (d := zH) hlx)
        generalize E[x]?.getD zH = g at *
        have ks := con_same25 g hg
        have hz : g.v.length = 26 := hv_len
        simp only [go_sem, reduceIte, reduceCtorEq, Nat.reduceAdd, Nat.reduceSub, Nat.reduceMul, Nat.reduceLT, Nat.reduceLeDiff, Nat.reduceEqDiff, Nat.reduceBEq, Nat.reduceGT, Int.reduceEq, Int.reduceNe, Int.reduceLT, Int.reduceLE, Int.reduceToNat, Int.reduceNeg, Int.reduceBEq, Int.reduceAdd, Int.reduceSub, Int.reduceGT, Int.reduceGE, Int.reduceBNe, hlt, e0, hr, hz]
        refine callK_of ks ?_
        simp only [go_sem, reduceIte, reduceCtorEq, Nat.reduceAdd, Nat.reduceSub, Nat.reduceMul, Nat.reduceLT, Nat.reduceLeDiff, Nat.reduceEqDiff, Nat.reduceBEq, Nat.reduceGT, Int.reduceEq, Int.reduceNe, Int.reduceLT, Int.reduceLE, Int.reduceToNat, Int.reduceNeg, Int.reduceBEq, Int.reduceAdd, Int.reduceSub, Int.reduceGT, Int.reduceGE, Int.reduceBNe]
        refine ⟨hlt', ?_⟩
        rw [w64 (n := (x : Int) + 1) (by unfold fit; omega)]
        exact wk_slots (by simp [slotsLe])
      · have hge := of_decide_eq_false h
        simp only [go_sem, reduceIte, reduceCtorEq, Nat.reduceAdd, Nat.reduceSub, Nat.reduceMul, Nat.reduceLT, Nat.reduceLeDiff, Nat.reduceEqDiff, Nat.reduceBEq, Nat.reduceGT, Int.reduceEq, Int.reduceNe, Int.reduceLT, Int.reduceLE, Int.reduceToNat, Int.reduceNeg, Int.reduceBEq, Int.reduceAdd, Int.reduceSub, Int.reduceGT, Int.reduceGE, Int.reduceBNe, h]
        refine callK_of con_wakes25 ?_
        simp only [go_sem, reduceIte, reduceCtorEq, Nat.reduceAdd, Nat.reduceSub, Nat.reduceMul, Nat.reduceLT, Nat.reduceLeDiff, Nat.reduceEqDiff, Nat.reduceBEq, Nat.reduceGT, Int.reduceEq, Int.reduceNe, Int.reduceLT, Int.reduceLE, Int.reduceToNat, Int.reduceNeg, Int.reduceBEq, Int.reduceAdd, Int.reduceSub, Int.reduceGT, Int.reduceGE, Int.reduceBNe]
    · exact wk_slots (by simp [slotsLe])
end Go.Proofs.YtkldipbhenabfaaGreat.Abs

