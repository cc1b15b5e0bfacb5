/- The laws ShapeHeads and ShapeWays as contracts. -/
import Derived.Test.YtkldipbhenabfaaGreatJj
import Derived.Test.YtkldipbhenabfaaGreatJk
set_option linter.unusedSimpArgs false
set_option linter.unusedVariables false
namespace Go.Proofs.YtkldipbhenabfaaGreat.Abs
open Go Go.RowKit Go.Proofs.YtkldipbhenabfaaGreat

/-- Of arguments that say more. -/
theorem Contract.argsJ {P : Program} {f : Nat} {xs ys : List SV} {r : SV} (h : Contract P f ys r) (hl : Levs xs ys) : Contract P f xs r := by
  intro m w vs h1 h2 h3
  obtain ⟨e, g⟩ := hl.get
  refine h m w vs h1 (by omega) (fun j v x hv hx => ?_)
  obtain ⟨a, ha, hle⟩ := g j x hx
  exact hle.rep (h3 j v a hv ha)
theorem con_terms (l : List Tm) (hl : ∀ t ∈ l, TOk t) (hb : l.length * 56 ≤ 140737488355328) : Con 10 [.dsl 5 (l.map tv), .dsl 5 (l.map tv)] (.bool true) :=
  con_terms_rows (l.map tv) (by simpa using hb) (rows5 l) (fun r hr => by
    obtain ⟨t, ht, rfl⟩ := List.mem_map.1 hr
    exact con_same t (hl t ht))
theorem ok_wayT {n x : Nat} {e : En} (hn : n ≤ 1000) (hx : x < n) (he : e.ok) (hm : rightT e.a 0 = true) : (wayT n x e).ok := by
  unfold wayT
  exact ok_selfF (stripF_of (tok_liftF0 (k := (n : Int) - x) (by omega) hm he.a)).1 (tok_vr (by unfold fit; omega))
theorem ok_waysF {C : List En} (hC : CtxOk C) : ∀ g ∈ waysF C, g.ok := by
  intro g hg
  unfold waysF at hg
  cases hgd : goodC C
  · rw [hgd, if_neg Bool.false_ne_true] at hg
    cases hg
  · rw [hgd, if_pos rfl] at hg
    obtain ⟨hR, _⟩ := good_ctx hgd
    obtain ⟨x, hx, rfl⟩ := List.mem_map.1 hg
    have hx' := List.mem_range.1 hx
    obtain ⟨hm, _⟩ := ent_mark (ctx_at hR hx')
    exact ok_wayT hC.1 hx' (hC.2 _ (get_lt (d := default) hx')).1 (mark_right hm)
theorem con_heavy26 (C : List En) (l : List Tm) (hC : ∀ e ∈ C, e.ok) (hl : ∀ t ∈ l, TOk t) (hb : l.length * 56 ≤ 140737488355328) :
    ∃ z, Con 13 [.dsl 6 (C.map En.v), .dsl 5 (l.map tv)] (.bool z) ∧ (z = false → CtxOk C ∧ C.length ≤ 40 ∧ (∀ e ∈ C, hgtT e.a ≤ 201 ∧ sizT e.a ≤ 40) ∧ ∀ t ∈ l, hgtT t ≤ 201 ∧ sizT t ≤ 80) := by
  obtain ⟨z1, c1, h1⟩ := con_greatctx 40 (by decide) (by decide) C hC
  obtain ⟨z2, c2, h2⟩ := con_greats3 80 (by decide) (by decide) l hl hb
  refine ⟨z1 || z2, contract_of_vc mixed Tryz.func13 tr13 ?_, fun hz => ?_⟩
  · generalize C.map En.v = rows at *
    generalize l.map tv = trs at *
    cases z1
    · repeat' first
        | simp (config := { maxSteps := 2000000 }) only [go_sem, reduceIte, reduceCtorEq, Nat.reduceAdd, Nat.reduceSub, Nat.reduceMul, Nat.reduceLT, Nat.reduceLeDiff, Nat.reduceEqDiff, Nat.reduceBEq, Nat.reduceGT, Int.reduceEq, Int.reduceNe, Int.reduceLT, Int.reduceLE, Int.reduceToNat, Int.reduceNeg, Int.reduceBEq, Int.reduceAdd, Int.reduceSub, Int.reduceGT, Int.reduceGE, Int.reduceBNe, BEq.rfl]
        | refine callK_of (c1) ?_
        | refine callK_of (c2) ?_
        | rfl
    · repeat' first
        | simp (config := { maxSteps := 2000000 }) only [go_sem, reduceIte, reduceCtorEq, Nat.reduceAdd, Nat.reduceSub, Nat.reduceMul, Nat.reduceLT, Nat.reduceLeDiff, Nat.reduceEqDiff, Nat.reduceBEq, Nat.reduceGT, Int.reduceEq, Int.reduceNe, Int.reduceLT, Int.reduceLE, Int.reduceToNat, Int.reduceNeg, Int.reduceBEq, Int.reduceAdd, Int.reduceSub, Int.reduceGT, Int.reduceGE, Int.reduceBNe, BEq.rfl]
        | refine callK_of (c1) ?_
        | rfl
  · rw [Bool.or_eq_false_iff] at hz
    obtain ⟨q1, q2⟩ := h1 hz.1
    have q3 := h2 hz.2
    refine ⟨⟨by omega, fun e he => ⟨hC e he, by have := q2 e he; omega⟩⟩, by omega, fun e he => by have := q2 e he; omega, fun t ht => by have := q3 t ht; omega⟩
theorem con_l26s (i : Int) : Con 55 [.int .i64 i] (.agg true (tv (so i))) := by
  refine (contract_of_vc (r := .agg true [.int .i64 1, .int .i64 i, .int .i64 0, .int .i64 0, .nils]) mixed Tryz.func55 tr55 ?_).weaken (le_leaf _ _ _ _)
  simp only [go_sem, reduceIte, reduceCtorEq, Nat.reduceAdd, Nat.reduceSub, Nat.reduceMul, Nat.reduceLT, Nat.reduceLeDiff, Nat.reduceEqDiff, Nat.reduceBEq, Nat.reduceGT, Int.reduceEq, Int.reduceNe, Int.reduceLT, Int.reduceLE, Int.reduceToNat, Int.reduceNeg, Int.reduceBEq, Int.reduceAdd, Int.reduceSub, Int.reduceGT, Int.reduceGE, Int.reduceBNe]
theorem con_l26v (i : Int) : Con 56 [.int .i64 i] (.agg true (tv (vr i))) := by
  refine (contract_of_vc (r := .agg true [.int .i64 2, .int .i64 i, .int .i64 0, .int .i64 0, .nils]) mixed Tryz.func56 tr56 ?_).weaken (le_leaf _ _ _ _)
  simp only [go_sem, reduceIte, reduceCtorEq, Nat.reduceAdd, Nat.reduceSub, Nat.reduceMul, Nat.reduceLT, Nat.reduceLeDiff, Nat.reduceEqDiff, Nat.reduceBEq, Nat.reduceGT, Int.reduceEq, Int.reduceNe, Int.reduceLT, Int.reduceLE, Int.reduceToNat, Int.reduceNeg, Int.reduceBEq, Int.reduceAdd, Int.reduceSub, Int.reduceGT, Int.reduceGE, Int.reduceBNe]
theorem tokso (i : Int) (h : 0 ≤ i) (h2 : i ≤ 1000) : TOk (so i) := tok_so (by unfold fit; omega)
theorem relB_so (i j : Int) (hi : 0 ≤ i ∧ i ≤ 1000) (hj : 0 ≤ j ∧ j ≤ 1000) : relB (so i) (so j) = (i == j) := by
  have m : ∀ i : Int, 0 ≤ i ∧ i ≤ 1000 → markT (so i) = true := fun i h => by
    show rightT (.mk 1 i 0 0 []) 1 = true
    rw [rightT_mk]
    unfold rightN
    simp [sortN, kidsN, tab, numsB, lev, h, allI]
  have e : ∀ i : Int, eraseT (so i) = so i := fun i => by unfold so; rw [eraseT_no (by decide)]; rfl
  unfold relB
  rw [m i hi, m j hj, e, e, Bool.true_and, Bool.true_and]
  by_cases h : i = j
  · subst h; rw [eqT_self]; simp
  · rw [eqT_ne (fun h' => h (by unfold so at h'; cases h'; rfl)), beq_no h]
theorem con_As1 : Con 20 [.nils, .int .i64 0, .agg true (tv (so 3)), .agg true (tv (so 4)), .agg true (tv (so 4))] (.tup [.agg true (tv (so 3)), .bool true]) := by
  have o3 := tokso 3 (by decide) (by decide)
  have o4 := tokso 4 (by decide) (by decide)
  have c1 := con_marked _ o3
  rw [show markT (so 3) = true by kernel_rfl] at c1
  have c2 := con_related _ _ o4 o4
  rw [relB_so 4 4 (by decide) (by decide)] at c2
  have c3 := con_bsame _ o4 _ o4
  rw [eqT_self] at c3
  have c4 := con_copy _ o3
  refine contract_of_vc mixed Tryz.func20 tr20 ?_
  repeat' first
    | simp (config := { maxSteps := 2000000 }) only [go_sem, reduceIte, reduceCtorEq, Nat.reduceAdd, Nat.reduceSub, Nat.reduceMul, Nat.reduceLT, Nat.reduceLeDiff, Nat.reduceEqDiff, Nat.reduceBEq, Nat.reduceGT, Int.reduceEq, Int.reduceNe, Int.reduceLT, Int.reduceLE, Int.reduceToNat, Int.reduceNeg, Int.reduceBEq, Int.reduceAdd, Int.reduceSub, Int.reduceGT, Int.reduceGE, Int.reduceBNe, BEq.rfl]
    | refine callK_of (c1) ?_
    | refine callK_of (c2) ?_
    | refine callK_of (c3) ?_
    | refine callK_of (c4) ?_
    | rfl
theorem con_As2 : Con 20 [.nils, .int .i64 0, .agg true (tv (so 3)), .agg true (tv (so 4)), .agg true (tv (so 5))] (.tup [.agg true [.int .i64 0, .int .i64 0, .int .i64 0, .int .i64 0, .nils], .bool false]) := by
  have o3 := tokso 3 (by decide) (by decide)
  have o4 := tokso 4 (by decide) (by decide)
  have o5 := tokso 5 (by decide) (by decide)
  have c1 := con_marked _ o3
  rw [show markT (so 3) = true by kernel_rfl] at c1
  have c2 := con_related _ _ o4 o5
  rw [relB_so 4 5 (by decide) (by decide)] at c2
  refine contract_of_vc mixed Tryz.func20 tr20 ?_
  repeat' first
    | simp (config := { maxSteps := 2000000 }) only [go_sem, reduceIte, reduceCtorEq, Nat.reduceAdd, Nat.reduceSub, Nat.reduceMul, Nat.reduceLT, Nat.reduceLeDiff, Nat.reduceEqDiff, Nat.reduceBEq, Nat.reduceGT, Int.reduceEq, Int.reduceNe, Int.reduceLT, Int.reduceLE, Int.reduceToNat, Int.reduceNeg, Int.reduceBEq, Int.reduceAdd, Int.reduceSub, Int.reduceGT, Int.reduceGE, Int.reduceBNe, BEq.rfl]
    | refine callK_of (c1) ?_
    | refine callK_of (c2) ?_
    | rfl
theorem hvJ_11 {i : Int} {a b x y h : Tm} : (hv i a b x y h)[11]? = some (.int .i64 x.k) := by simp [hv, tv_cells]
theorem tvJ_1 {t : Tm} : (tv t)[1]? = some (.int .i64 t.i) := by cases t; rw [tv_mk]; rfl
set_option maxRecDepth 20000 in
set_option maxHeartbeats 4000000 in
theorem con_wakes26 : Con 19 [] (.bool true) := by
  have o0 := tokso 0 (by decide) (by decide)
  have c1 := con_ways [⟨so 0, 1⟩] ⟨by decide, fun e he => by
    rcases List.mem_cons.1 he with rfl | h
    · exact ⟨⟨o0, by show fit 1; unfold fit; omega⟩, by show hgtT (.mk 1 0 0 0 []) ≤ 1000; rw [hgtT_mk, hgtL]; omega⟩
    · cases h⟩
  have e1 : waysF [⟨so 0, 1⟩] = [⟨1, so 0, so 0, vr 0, vr 0, .mk 21 0 0 0 [pts 1, pt 1 (so 0) (vr 0)]⟩] := by kernel_rfl
  rw [e1] at c1
  change Con _ [.dsl 6 [ev6 (so 0) 1]] (.dsl 26 [hv 1 (so 0) (so 0) (vr 0) (vr 0) (.mk 21 0 0 0 [pts 1, pt 1 (so 0) (vr 0)])]) at c1
  have ov : ∀ i : Int, 0 ≤ i → i ≤ 10 → TOk (vr i) := fun i h1 h2 => tok_vr (by unfold fit; omega)
  have c2 := con_head (.mk 12 0 0 0 [vr 1, vr 2, vr 3, vr 0]) (tok_k (by unfold fit; omega) (by simp) (by simp [ov]))
  have e2 : headF (.mk 12 0 0 0 [vr 1, vr 2, vr 3, vr 0]) = vr 0 := by kernel_rfl
  rw [e2, tv_mk] at c2
  have k1 : (vr 0).k = 2 := rfl
  have k2 : (so 3).k = 1 := rfl
  have k3 : (so 3).i = 3 := rfl
  clear e1 e2
  refine contract_of_vc mixed Tryz.func19 tr19 ?_
  repeat' first
    | simp (config := { maxSteps := 2000000 }) only [go_sem, reduceIte, reduceCtorEq, Nat.reduceAdd, Nat.reduceSub, Nat.reduceMul, Nat.reduceLT, Nat.reduceLeDiff, Nat.reduceEqDiff, Nat.reduceBEq, Nat.reduceGT, Int.reduceEq, Int.reduceNe, Int.reduceLT, Int.reduceLE, Int.reduceToNat, Int.reduceNeg, Int.reduceBEq, Int.reduceAdd, Int.reduceSub, Int.reduceGT, Int.reduceGE, Int.reduceBNe, hvJ_11, tvJ_1, tv_0, k1, k2, k3]
    | refine callK_of (con_l26s 0) ?_
    | refine callK_of (con_l26s 3) ?_
    | refine callK_of (con_l26s 4) ?_
    | refine callK_of (con_l26s 5) ?_
    | refine callK_of (con_l26v 0) ?_
    | refine callK_of (con_l26v 1) ?_
    | refine callK_of (con_l26v 2) ?_
    | refine callK_of (con_l26v 3) ?_
    | refine callK_of (c1) ?_
    | refine callK_of (c2) ?_
    | refine callK_of (con_As1) ?_
    | refine callK_of (con_As2) ?_
    | rfl

set_option maxRecDepth 20000 in
set_option maxHeartbeats 4000000 in
theorem law_ShapeHeads (t : Tm) (ht : TOk t) : Con 6 [.agg true (tv t)] (.bool true) := by
  obtain ⟨z, c0, hz⟩ := con_heavy26 [] [t] (by simp) (by simp [ht]) (by simp)
  have c1 := Contract.argsJ c0 (.cons _ _ _ _ (.cell _ _ (.nils 6)) (.cons _ _ _ _ (.cell _ _ (.refl _)) .nil))
  simp only [List.map_cons, List.map_nil] at c1
  clear c0
  have z1 := tv_len t
  have c2 := con_rmarked t ht
  refine contract_of_vc mixed Tryz.func6 tr6 ?_
  cases z
  · obtain ⟨_, _, _, hw⟩ := hz rfl
    obtain ⟨_, w2⟩ := hw t (by simp)
    cases hm : markT t
    · rw [hm] at c2
      repeat' first
        | simp (config := { maxSteps := 2000000 }) only [go_sem, reduceIte, reduceCtorEq, Nat.reduceAdd, Nat.reduceSub, Nat.reduceMul, Nat.reduceLT, Nat.reduceLeDiff, Nat.reduceEqDiff, Nat.reduceBEq, Nat.reduceGT, Int.reduceEq, Int.reduceNe, Int.reduceLT, Int.reduceLE, Int.reduceToNat, Int.reduceNeg, Int.reduceBEq, Int.reduceAdd, Int.reduceSub, Int.reduceGT, Int.reduceGE, Int.reduceBNe, z1]
        | refine callK_of (c1) ?_
        | refine callK_of (c2) ?_
        | rfl
    · rw [hm] at c2
      have c3 := con_head t ht
      unfold headF at c3
      rw [hm, if_pos rfl] at c3
      obtain ⟨g0, g1, g2, g3, g4, g5, g6, g7⟩ := head_of t ht hm
      have r1 : relB (headT t) t = true := by unfold relB; rw [g1, hm, g3, eqT_self]; rfl
      have c4 := con_related _ t g0 ht
      rw [r1] at c4
      have c5 := con_count _ g0 g1 (by omega)
      have c6 := con_count t ht hm (by omega)
      have q1 : ((headT t).k != 12) = true := by simp [g2]
      have q2 : ((cntT (headT t) : Int) ≤ (cntT t : Int)) := by omega
      have z2 := tv_len (headT t)
      clear hw hz r1 g0 g1 g3 g4 g6 g7
      by_cases hk : t.k = 12
      · have q3 : (t.k == 12) = true := by simp [hk]
        generalize headT t = h at *
        repeat' first
          | simp (config := { maxSteps := 2000000 }) only [go_sem, reduceIte, reduceCtorEq, Nat.reduceAdd, Nat.reduceSub, Nat.reduceMul, Nat.reduceLT, Nat.reduceLeDiff, Nat.reduceEqDiff, Nat.reduceBEq, Nat.reduceGT, Int.reduceEq, Int.reduceNe, Int.reduceLT, Int.reduceLE, Int.reduceToNat, Int.reduceNeg, Int.reduceBEq, Int.reduceAdd, Int.reduceSub, Int.reduceGT, Int.reduceGE, Int.reduceBNe, z1, z2, tv_0, q1, q2, q3]
          | refine callK_of (c1) ?_
          | refine callK_of (c2) ?_
          | refine callK_of (c3) ?_
          | refine callK_of (c4) ?_
          | refine callK_of (c5) ?_
          | refine callK_of (c6) ?_
          | refine callK_of (con_wakes26) ?_
          | rfl
      · have q3 : (t.k == 12) = false := by simp [hk]
        have c7 := con_same t ht
        rw [g5 hk] at c3 c4 c5 q1 q2 z2
        repeat' first
          | simp (config := { maxSteps := 2000000 }) only [go_sem, reduceIte, reduceCtorEq, Nat.reduceAdd, Nat.reduceSub, Nat.reduceMul, Nat.reduceLT, Nat.reduceLeDiff, Nat.reduceEqDiff, Nat.reduceBEq, Nat.reduceGT, Int.reduceEq, Int.reduceNe, Int.reduceLT, Int.reduceLE, Int.reduceToNat, Int.reduceNeg, Int.reduceBEq, Int.reduceAdd, Int.reduceSub, Int.reduceGT, Int.reduceGE, Int.reduceBNe, z1, z2, tv_0, q1, q2, q3, Int.le_refl]
          | refine callK_of (c1) ?_
          | refine callK_of (c2) ?_
          | refine callK_of (c3) ?_
          | refine callK_of (c4) ?_
          | refine callK_of (c5) ?_
          | refine callK_of (c6) ?_
          | refine callK_of (c7) ?_
          | refine callK_of (con_wakes26) ?_
          | rfl
  · repeat' first
      | simp (config := { maxSteps := 2000000 }) only [go_sem, reduceIte, reduceCtorEq, Nat.reduceAdd, Nat.reduceSub, Nat.reduceMul, Nat.reduceLT, Nat.reduceLeDiff, Nat.reduceEqDiff, Nat.reduceBEq, Nat.reduceGT, Int.reduceEq, Int.reduceNe, Int.reduceLT, Int.reduceLE, Int.reduceToNat, Int.reduceNeg, Int.reduceBEq, Int.reduceAdd, Int.reduceSub, Int.reduceGT, Int.reduceGE, Int.reduceBNe, z1]
      | refine callK_of (c1) ?_
      | rfl

set_option maxRecDepth 20000 in
set_option maxHeartbeats 8000000 in
theorem law_ShapeWays (C : List En) (t : Tm) (hC : ∀ e ∈ C, e.ok) (ht : TOk t) : Con 4 [.dsl 6 (C.map En.v), .agg true (tv t)] (.bool true) := by
  obtain ⟨z, c1, hz⟩ := con_heavy26 C [t] hC (by simp [ht]) (by simp)
  simp only [List.map_cons, List.map_nil] at c1
  have z1 := tv_len t
  refine contract_of_vc mixed Tryz.func4 tr4 ?_
  cases z
  · obtain ⟨hO, hn, hE, hw⟩ := hz rfl
    have c2 := con_ways C hO
    have c3 := con_rways C hO
    have c4 := con_head t ht
    have c5 := con_rhead t ht
    have oh : TOk (headF t) := by
      unfold headF
      cases hm : markT t
      · exact tok_zT
      · exact (head_of t ht hm).1
    have c6 := con_same _ oh
    have hok := ok_waysF hO
    have hnw : (waysF C).length ≤ 1000 := by
      unfold waysF
      split
      · rw [List.length_map, List.length_range]; exact hO.1
      · simp
    have hrow : ∀ x, x < (waysF C).length → ((waysF C).map HT.v)[x]?.getD [] = ((waysF C)[x]?.getD zH).v := fun x hx => by
      rw [List.getElem?_map, List.getElem?_eq_getElem hx]; rfl
    have hlen : ((waysF C).map HT.v).length = (waysF C).length := by simp
    generalize waysF C = ws at *
    generalize ws.map HT.v = ys at *
    generalize C.map En.v = rows at *
    have z2 := tv_len (headF t)
    simp only [go_sem, reduceIte, reduceCtorEq, Nat.reduceAdd, Nat.reduceSub, Nat.reduceMul, Nat.reduceLT, Nat.reduceLeDiff, Nat.reduceEqDiff, Nat.reduceBEq, Nat.reduceGT, Int.reduceEq, Int.reduceNe, Int.reduceLT, Int.reduceLE, Int.reduceToNat, Int.reduceNeg, Int.reduceBEq, Int.reduceAdd, Int.reduceSub, Int.reduceGT, Int.reduceGE, Int.reduceBNe, z1]
    refine callK_of c1 ?_
    simp only [go_sem, reduceIte, reduceCtorEq, Nat.reduceAdd, Nat.reduceSub, Nat.reduceMul, Nat.reduceLT, Nat.reduceLeDiff, Nat.reduceEqDiff, Nat.reduceBEq, Nat.reduceGT, Int.reduceEq, Int.reduceNe, Int.reduceLT, Int.reduceLE, Int.reduceToNat, Int.reduceNeg, Int.reduceBEq, Int.reduceAdd, Int.reduceSub, Int.reduceGT, Int.reduceGE, Int.reduceBNe, z1]
    refine callK_of c2 ?_
    simp only [go_sem, reduceIte, reduceCtorEq, Nat.reduceAdd, Nat.reduceSub, Nat.reduceMul, Nat.reduceLT, Nat.reduceLeDiff, Nat.reduceEqDiff, Nat.reduceBEq, Nat.reduceGT, Int.reduceEq, Int.reduceNe, Int.reduceLT, Int.reduceLE, Int.reduceToNat, Int.reduceNeg, Int.reduceBEq, Int.reduceAdd, Int.reduceSub, Int.reduceGT, Int.reduceGE, Int.reduceBNe, z1]
    refine callK_of c3 ?_
    simp only [go_sem, reduceIte, reduceCtorEq, Nat.reduceAdd, Nat.reduceSub, Nat.reduceMul, Nat.reduceLT, Nat.reduceLeDiff, Nat.reduceEqDiff, Nat.reduceBEq, Nat.reduceGT, Int.reduceEq, Int.reduceNe, Int.reduceLT, Int.reduceLE, Int.reduceToNat, Int.reduceNeg, Int.reduceBEq, Int.reduceAdd, Int.reduceSub, Int.reduceGT, Int.reduceGE, Int.reduceBNe, z1, bne_self_eq_false]
    intros
    refine callK_of c4 ?_
    simp only [go_sem, reduceIte, reduceCtorEq, Nat.reduceAdd, Nat.reduceSub, Nat.reduceMul, Nat.reduceLT, Nat.reduceLeDiff, Nat.reduceEqDiff, Nat.reduceBEq, Nat.reduceGT, Int.reduceEq, Int.reduceNe, Int.reduceLT, Int.reduceLE, Int.reduceToNat, Int.reduceNeg, Int.reduceBEq, Int.reduceAdd, Int.reduceSub, Int.reduceGT, Int.reduceGE, Int.reduceBNe, z1, bne_self_eq_false]
    refine callK_of c5 ?_
    simp only [go_sem, reduceIte, reduceCtorEq, Nat.reduceAdd, Nat.reduceSub, Nat.reduceMul, Nat.reduceLT, Nat.reduceLeDiff, Nat.reduceEqDiff, Nat.reduceBEq, Nat.reduceGT, Int.reduceEq, Int.reduceNe, Int.reduceLT, Int.reduceLE, Int.reduceToNat, Int.reduceNeg, Int.reduceBEq, Int.reduceAdd, Int.reduceSub, Int.reduceGT, Int.reduceGE, Int.reduceBNe, z1, bne_self_eq_false]
    refine callK_of c6 ?_
    simp only [go_sem, reduceIte, reduceCtorEq, Nat.reduceAdd, Nat.reduceSub, Nat.reduceMul, Nat.reduceLT, Nat.reduceLeDiff, Nat.reduceEqDiff, Nat.reduceBEq, Nat.reduceGT, Int.reduceEq, Int.reduceNe, Int.reduceLT, Int.reduceLE, Int.reduceToNat, Int.reduceNeg, Int.reduceBEq, Int.reduceAdd, Int.reduceSub, Int.reduceGT, Int.reduceGE, Int.reduceBNe, z1, bne_self_eq_false]
    intros
    refine vc_for (fun x => ⟨(.junk :: .junk :: .junk :: .ref 0 0 0 0 :: .bool false :: .dsl 26 ys :: .dsl 26 ys :: .int .i64 x :: .junk :: .junk :: .junk :: .junk :: .junk :: .junk :: .junk :: .junk :: .junk :: .junk :: .junk :: .junk :: .junk :: .junk :: .junk :: .junk :: .junk :: .junk :: .junk :: .junk :: .junk :: .junk :: .junk :: .junk :: .junk :: .junk :: .junk :: .junk :: .junk :: .junk :: .junk :: .junk :: .junk :: .junk :: .junk :: .junk :: .junk :: .junk :: .junk :: .junk :: .junk :: .junk :: .junk :: .junk :: .junk :: .junk :: .junk :: .junk :: .junk :: .junk :: .junk :: .junk :: .junk :: .junk :: .junk :: .junk :: .junk :: .junk :: .junk :: .junk :: .junk :: .junk :: .junk :: .junk :: .junk :: .junk :: .junk :: .junk :: .junk :: .junk :: .junk :: .junk :: .junk :: .junk :: .junk :: .junk :: .junk :: .junk :: .junk :: .junk :: .junk :: .junk :: .junk :: .junk :: .junk :: .junk :: .junk :: .junk :: .junk :: .junk :: .junk :: .junk :: .junk :: .junk :: .junk :: .junk :: .junk :: .junk :: .junk :: .junk :: .junk :: .junk :: .junk :: .junk :: .junk :: .junk :: .junk :: .junk :: .junk :: []), [⟨true, 5, [tv t], 0, 0, true⟩]⟩) ys.length (fun x hx => ?_) ?_
    · simp only [go_sem, reduceIte, reduceCtorEq, Nat.reduceAdd, Nat.reduceSub, Nat.reduceMul, Nat.reduceLT, Nat.reduceLeDiff, Nat.reduceEqDiff, Nat.reduceBEq, Nat.reduceGT, Int.reduceEq, Int.reduceNe, Int.reduceLT, Int.reduceLE, Int.reduceToNat, Int.reduceNeg, Int.reduceBEq, Int.reduceAdd, Int.reduceSub, Int.reduceGT, Int.reduceGE, Int.reduceBNe]
      intros
      refine ⟨fun h => ?_, fun h => ?_⟩
      · have hlt := of_decide_eq_true h
        have hlt' : x < ys.length := by omega
        have hlx : x < ws.length := by omega
        have e0 : (0 : Int) ≤ (x : Int) := by omega
        have hr := hrow x hlx
        have hg := hok _ (get_lt (d := zH) hlx)
        generalize ws[x]?.getD zH = g at *
        have ct := con_terms [g.a, g.b, g.x, g.y, g.h] (by simp [hg.a, hg.b, hg.x, hg.y, hg.h]) (by simp)
        simp only [List.map_cons, List.map_nil] at ct
        unfold HT.v at hr
        simp only [go_sem, reduceIte, reduceCtorEq, Nat.reduceAdd, Nat.reduceSub, Nat.reduceMul, Nat.reduceLT, Nat.reduceLeDiff, Nat.reduceEqDiff, Nat.reduceBEq, Nat.reduceGT, Int.reduceEq, Int.reduceNe, Int.reduceLT, Int.reduceLE, Int.reduceToNat, Int.reduceNeg, Int.reduceBEq, Int.reduceAdd, Int.reduceSub, Int.reduceGT, Int.reduceGE, Int.reduceBNe, hlt, e0, hr, bne_self_eq_false]
        refine callK_of ct ?_
        simp only [go_sem, reduceIte, reduceCtorEq, Nat.reduceAdd, Nat.reduceSub, Nat.reduceMul, Nat.reduceLT, Nat.reduceLeDiff, Nat.reduceEqDiff, Nat.reduceBEq, Nat.reduceGT, Int.reduceEq, Int.reduceNe, Int.reduceLT, Int.reduceLE, Int.reduceToNat, Int.reduceNeg, Int.reduceBEq, Int.reduceAdd, Int.reduceSub, Int.reduceGT, Int.reduceGE, Int.reduceBNe, hlt, e0, hr, bne_self_eq_false]
        refine ⟨hlt', ?_⟩
        rw [w64 (n := (x : Int) + 1) (by unfold fit; omega)]
        exact wk_trunc 1 (by simp [slotsLe]) (by simp) (by simp [below]) (by simp)
      · have hge := of_decide_eq_false h
        have hxe : x = ys.length := by omega
        simp only [go_sem, reduceIte, reduceCtorEq, Nat.reduceAdd, Nat.reduceSub, Nat.reduceMul, Nat.reduceLT, Nat.reduceLeDiff, Nat.reduceEqDiff, Nat.reduceBEq, Nat.reduceGT, Int.reduceEq, Int.reduceNe, Int.reduceLT, Int.reduceLE, Int.reduceToNat, Int.reduceNeg, Int.reduceBEq, Int.reduceAdd, Int.reduceSub, Int.reduceGT, Int.reduceGE, Int.reduceBNe, h]
        refine callK_of con_wakes26 ?_
        simp only [go_sem, reduceIte, reduceCtorEq, Nat.reduceAdd, Nat.reduceSub, Nat.reduceMul, Nat.reduceLT, Nat.reduceLeDiff, Nat.reduceEqDiff, Nat.reduceBEq, Nat.reduceGT, Int.reduceEq, Int.reduceNe, Int.reduceLT, Int.reduceLE, Int.reduceToNat, Int.reduceNeg, Int.reduceBEq, Int.reduceAdd, Int.reduceSub, Int.reduceGT, Int.reduceGE, Int.reduceBNe]
    · exact wk_trunc 1 (by simp [slotsLe]) (by simp) (by simp [below]) (by simp)
  · generalize C.map En.v = rows at *
    repeat' first
      | simp (config := { maxSteps := 2000000 }) only [go_sem, reduceIte, reduceCtorEq, Nat.reduceAdd, Nat.reduceSub, Nat.reduceMul, Nat.reduceLT, Nat.reduceLeDiff, Nat.reduceEqDiff, Nat.reduceBEq, Nat.reduceGT, Int.reduceEq, Int.reduceNe, Int.reduceLT, Int.reduceLE, Int.reduceToNat, Int.reduceNeg, Int.reduceBEq, Int.reduceAdd, Int.reduceSub, Int.reduceGT, Int.reduceGE, Int.reduceBNe, z1]
      | refine callK_of (c1) ?_
      | rfl
end Go.Proofs.YtkldipbhenabfaaGreat.Abs
