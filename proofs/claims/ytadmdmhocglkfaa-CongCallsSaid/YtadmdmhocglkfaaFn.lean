/- What is made is right and plain; the laws' wakes; the laws HetPoints, HetThen, HetEnds as contracts. -/
import Derived.Test.YtadmdmhocglkfaaFm
set_option linter.unusedSimpArgs false
set_option linter.unusedVariables false
namespace Go.Proofs.Ytadmdmhocglkfaa.Abs
open Go Go.RowKit Go.Proofs.Ytadmdmhocglkfaa

theorem ok_zH : zH.ok := ⟨by simp only [zH]; unfold fit; omega, tok_zT, tok_zT, tok_zT, tok_zT, tok_zT⟩
theorem tok_pointF {i : Int} {a x : Tm} (ha : TOk a) (hx : TOk x) : TOk (pointF i a x) := by
  unfold pointF
  split
  · rename_i h
    simp only [Bool.and_eq_true] at h
    exact tok_pt (fit_lev h.1) ha hx
  · exact tok_zT
theorem tok_pointsF {i : Int} : TOk (pointsF i) := by
  unfold pointsF
  split
  · rename_i h; exact tok_pts (fit_lev h)
  · exact tok_zT
theorem tok_typeF {g : HT} (hg : g.ok) : TOk (typeF g) := by
  unfold typeF
  split
  · exact tok_us (by unfold fit; omega) hg.i (by unfold fit; omega) (by simp) (by simp [hg.a, hg.b, hg.x, hg.y])
  · exact tok_zT
theorem tok_eqF {g : HT} (hg : g.ok) : TOk (eqF g) := by
  unfold eqF
  split
  · exact tok_us (by unfold fit; omega) hg.i (by unfold fit; omega) (by simp) (by simp [hg.a, hg.h, hg.x, hg.y])
  · exact tok_zT
theorem ok_selfF {i : Int} {a x : Tm} (ha : TOk a) (hx : TOk x) : (selfF i a x).ok := by
  unfold selfF
  split
  · rename_i h
    simp only [Bool.and_eq_true] at h
    have hi := fit_lev h.1
    exact ⟨hi, ha, ha, hx, hx, tok_k (by unfold fit; omega) (by simp) (by simp [tok_pts hi, tok_pt hi ha hx])⟩
  · exact ok_zH
theorem ok_turnF {g : HT} (hg : g.ok) : (turnF g).ok := by
  unfold turnF
  split
  · rename_i h
    have hl := (hright_of h).1
    exact ⟨hg.i, hg.b, hg.a, hg.y, hg.x, tok_us (by unfold fit; omega) (fit_lev1 hl) (by unfold fit; omega) (by simp) (by simp [tok_pts (fit_lev hl), tok_pt (fit_lev hl) hg.a hg.x, tok_pt (fit_lev hl) hg.b hg.y, hg.h])⟩
  · exact ok_zH
theorem ok_thenF {g h : HT} (hg : g.ok) (hh : h.ok) : (thenF g h).ok := by
  unfold thenF
  split
  · rename_i hb
    simp only [Bool.and_eq_true] at hb
    have hl := (hright_of hb.1).1
    exact ⟨hg.i, hg.a, hh.b, hg.x, hh.y, tok_us (by unfold fit; omega) (fit_lev1 hl) (by unfold fit; omega) (by simp) (by simp [tok_pts (fit_lev hl), tok_pt (fit_lev hl) hg.a hg.x, tok_pt (fit_lev hl) hg.b hg.y, tok_pt (fit_lev hl) hh.b hh.y, hg.h, hh.h])⟩
  · exact ok_zH
theorem ok_ofF {i : Int} {a x y e : Tm} (ha : TOk a) (hx : TOk x) (hy : TOk y) (he : TOk e) : (ofF i a x y e).ok := by
  unfold ofF
  split
  · rename_i h
    simp only [Bool.and_eq_true] at h
    have hi := fit_lev h.1
    exact ⟨hi, ha, ha, hx, hy, tok_us (by unfold fit; omega) hi (by unfold fit; omega) (by simp) (by simp [ha, hx, hy, he])⟩
  · exact ok_zH
theorem ok_movedF {i : Int} {a b p x : Tm} (ha : TOk a) (hb : TOk b) (hp : TOk p) (hx : TOk x) : (movedF i a b p x).ok := by
  unfold movedF
  split
  · rename_i h
    simp only [Bool.and_eq_true] at h
    have hi := fit_lev h.1
    exact ⟨hi, ha, hb, hx, tok_us (by unfold fit; omega) hi (by unfold fit; omega) (by simp) (by simp [ha, hb, hp, hx]), tok_us (by unfold fit; omega) hi (by unfold fit; omega) (by simp) (by simp [ha, hb, hp, hx])⟩
  · exact ok_zH

/-! Plain -/
theorem plain_node {k : Int} {l : List Tm} (h : rightN k 0 0 0 2 l.length = true) (hl : l.all plainT = true) : plainT (.mk k 0 0 0 l) = true := by
  show rightT _ 2 = true
  rw [plain_kids, h, hl]; rfl
theorem lev_le {i : Int} (h : lev2 i = true) : lev i = true ∧ lev (i + 1) = true := by
  have := lev2_le h
  unfold lev
  simp; omega
theorem plain_so {i : Int} (h : lev i = true) : plainT (so i) = true := by
  unfold so
  show rightT _ 2 = true
  rw [plain_kids]
  unfold rightN numsB
  rw [if_pos (by simp), h]; rfl
theorem plain_pts {i : Int} (h : lev i = true) : plainT (pts i) = true := plain_node (by rfl) (by simp only [List.all_cons, List.all_nil, plain_so h]; rfl)
theorem plain_pt {i : Int} {a x : Tm} (h : lev i = true) (ha : plainT a = true) (hx : plainT x = true) : plainT (pt i a x) = true := plain_node (by rfl) (by simp only [List.all_cons, List.all_nil, plain_so h, ha, hx]; rfl)
theorem plain_us {n i j : Int} {l : List Tm} (hn : (l.length : Int) = takesN n) (hi : lev i = true) (hj : lev j = true) (hl : l.all plainT = true) : plainT (us n i j l) = true := by
  unfold us
  show rightT _ 2 = true
  rw [plain_kids, hl, Bool.and_true]
  unfold rightN numsB kidsN
  rw [if_pos rfl, if_neg (by decide), if_neg (by decide), if_neg (by decide), if_pos rfl, hn, hi, hj, bne_self_eq_false]
  rfl

theorem hright_turn {g : HT} (h : hrightB g = true) : hrightB (turnF g) = true := by
  obtain ⟨hl, pa, pb, px, py, ph⟩ := hright_of h
  have h2 := lev_le hl
  unfold turnF
  rw [if_pos h]
  unfold hrightB
  have e : plainT (us 3 (g.i + 1) 0 [pts g.i, pt g.i g.a g.x, pt g.i g.b g.y, g.h]) = true := plain_us (by rfl) h2.2 (by decide) (by simp only [List.all_cons, List.all_nil, plain_pts h2.1, plain_pt h2.1 pa px, plain_pt h2.1 pb py, ph]; rfl)
  simp only [plains, List.all_cons, List.all_nil, hl, pa, pb, px, py, e]
  rfl

theorem turnF_ends {g : HT} (h : hrightB g = true) : turnF g = ⟨g.i, g.b, g.a, g.y, g.x, (turnF g).h⟩ := by
  unfold turnF
  rw [if_pos h]

/-! Cells -/
theorem tv_0 {t : Tm} : (tv t)[0]? = some (.int .i64 t.k) := by cases t; rw [tv_mk]; rfl
theorem tv_3 {t : Tm} : (tv t)[3]? = some (.int .i64 t.n) := by cases t; rw [tv_mk]; rfl
theorem hv_21 {i : Int} {a b x y h : Tm} : (hv i a b x y h)[21]? = some (.int .i64 h.k) := by simp [hv, tv_cells]

theorem con_great (t : Tm) (ht : TOk t) (m : Int) : ∃ z, Con 28 [.agg true (tv t), .int .i64 m] (.bool z) := by
  obtain ⟨z, hz⟩ := con_weigh t ht m 200
  refine ⟨decide (m < z), contract_of_vc mixed Try.func28 tr28 ?_⟩
  have h5 := tv_len t
  generalize tv t = r at *
  repeat' first
    | simp (config := { maxSteps := 2000000 }) only [go_sem, reduceIte, reduceCtorEq, Nat.reduceAdd, Nat.reduceSub, Nat.reduceMul, Nat.reduceLT, Nat.reduceLeDiff, Nat.reduceEqDiff, Nat.reduceBEq, Nat.reduceGT, Int.reduceEq, Int.reduceNe, Int.reduceLT, Int.reduceLE, Int.reduceToNat, Int.reduceNeg, Int.reduceBEq, Int.reduceAdd, Int.reduceSub, Int.reduceGT, Int.reduceGE, Int.reduceBNe, h5]
    | refine callK_of (hz) ?_
    | rfl

theorem con_wakes23 : Con 38 [] (.bool true) := by
  refine contract_of_vc mixed Try.func38 tr38 ?_
  have e1 : selfF 0 (vr 0) (vr 1) = ⟨0, vr 0, vr 0, vr 1, vr 1, .mk 21 0 0 0 [pts 0, pt 0 (vr 0) (vr 1)]⟩ := by kernel_rfl
  have e2 : hrightB ⟨0, vr 0, vr 0, vr 1, vr 1, .mk 21 0 0 0 [pts 0, pt 0 (vr 0) (vr 1)]⟩ = true := by kernel_rfl
  have e3 : pointsF 2 = pts 2 := by kernel_rfl
  have e4 : pointsF 999 = zT := by kernel_rfl
  have o1 : TOk (vr 0) := tok_vr (by unfold fit; omega)
  have o2 : TOk (vr 1) := tok_vr (by unfold fit; omega)
  have c1 := con_hSelf 0 (vr 0) (vr 1) o1 o2
  have c2 := con_hType (selfF 0 (vr 0) (vr 1)) (ok_selfF o1 o2)
  rw [e1] at c1 c2
  unfold typeF at c2
  rw [if_pos e2] at c2
  have c3 := con_hPoints 2
  have c4 := con_hPoints 999
  rw [e3] at c3
  rw [e4] at c4
  simp only [HT.v] at c1 c2
  repeat' first
    | simp (config := { maxSteps := 2000000 }) only [go_sem, reduceIte, reduceCtorEq, Nat.reduceAdd, Nat.reduceSub, Nat.reduceMul, Nat.reduceLT, Nat.reduceLeDiff, Nat.reduceEqDiff, Nat.reduceBEq, Nat.reduceGT, Int.reduceEq, Int.reduceNe, Int.reduceLT, Int.reduceLE, Int.reduceToNat, Int.reduceNeg, Int.reduceBEq, Int.reduceAdd, Int.reduceSub, Int.reduceGT, Int.reduceGE, Int.reduceBNe, hv_21, tv_0, tv_3, us, pts, zT, Tm.k, Tm.n]
    | refine callK_of (con_l23v 0) ?_
    | refine callK_of (con_l23v 1) ?_
    | refine callK_of (c1) ?_
    | refine callK_of (c2) ?_
    | refine callK_of (c3) ?_
    | refine callK_of (c4) ?_
    | rfl

theorem con_same23 (g : HT) (hg : g.ok) : Con 39 [.agg true g.v, .agg true g.v] (.bool true) := con_same_het g.i g.a g.b g.x g.y g.h hg.a hg.b hg.x hg.y hg.h
theorem con_ours23 (g : HT) : Con 36 [.agg true g.v] (.agg true g.v) := con_ours g.i g.a g.b g.x g.y g.h
theorem con_heavy23 (g : HT) (hg : g.ok) : ∃ z, Con 29 [.agg true g.v] (.bool z) := con_heavy g.i g.a g.b g.x g.y g.h hg.a hg.b hg.x hg.y hg.h
theorem hv_lens {g : HT} : g.v.length = 26 := hv_len

theorem law_HetThen (g h : HT) (hg : g.ok) (hh : h.ok) : Con 9 [.agg true g.v, .agg true h.v] (.bool true) := by
  refine contract_of_vc mixed Try.func9 tr9 ?_
  obtain ⟨z1, c1⟩ := con_heavy23 g hg
  obtain ⟨z2, c2⟩ := con_heavy23 h hh
  have c3 := con_hThen g h hg hh
  have c4 := con_r23Then g h hg hh
  have c5 := con_same23 _ (ok_thenF hg hh)
  have l1 := hv_lens (g := g)
  have l2 := hv_lens (g := h)
  cases z1 <;> cases z2
  all_goals
    repeat' first
      | simp (config := { maxSteps := 2000000 }) only [go_sem, reduceIte, reduceCtorEq, Nat.reduceAdd, Nat.reduceSub, Nat.reduceMul, Nat.reduceLT, Nat.reduceLeDiff, Nat.reduceEqDiff, Nat.reduceBEq, Nat.reduceGT, Int.reduceEq, Int.reduceNe, Int.reduceLT, Int.reduceLE, Int.reduceToNat, Int.reduceNeg, Int.reduceBEq, Int.reduceAdd, Int.reduceSub, Int.reduceGT, Int.reduceGE, Int.reduceBNe, l1, l2]
      | refine callK_of (c1) ?_
      | refine callK_of (c2) ?_
      | refine callK_of (con_ours23 g) ?_
      | refine callK_of (con_ours23 h) ?_
      | refine callK_of (c3) ?_
      | refine callK_of (c4) ?_
      | refine callK_of (c5) ?_
      | refine callK_of (con_wakes23) ?_
      | rfl

theorem law_HetPoints (i : Int) (a x : Tm) (g : HT) (ha : TOk a) (hx : TOk x) (hg : g.ok) : Con 8 [.int .i64 i, .agg true (tv a), .agg true (tv x), .agg true g.v] (.bool true) := by
  refine contract_of_vc mixed Try.func8 tr8 ?_
  obtain ⟨z1, c1⟩ := con_great a ha 120
  obtain ⟨z2, c2⟩ := con_great x hx 120
  obtain ⟨z3, c3⟩ := con_heavy23 g hg
  have d1 := con_hPoint i a x ha hx
  have d2 := con_r23Point i a x ha hx
  have d3 := con_same _ (tok_pointF (i := i) ha hx)
  have d4 := con_hPoints i
  have d5 := con_r23Points i
  have d6 := con_same _ (tok_pointsF (i := i))
  have d7 := con_hType g hg
  have d8 := con_r23Type g hg
  have d9 := con_same _ (tok_typeF hg)
  have l1 := hv_lens (g := g)
  cases z1 <;> cases z2 <;> cases z3
  all_goals
    repeat' first
      | simp (config := { maxSteps := 2000000 }) only [go_sem, reduceIte, reduceCtorEq, Nat.reduceAdd, Nat.reduceSub, Nat.reduceMul, Nat.reduceLT, Nat.reduceLeDiff, Nat.reduceEqDiff, Nat.reduceBEq, Nat.reduceGT, Int.reduceEq, Int.reduceNe, Int.reduceLT, Int.reduceLE, Int.reduceToNat, Int.reduceNeg, Int.reduceBEq, Int.reduceAdd, Int.reduceSub, Int.reduceGT, Int.reduceGE, Int.reduceBNe, l1]
      | refine callK_of (c1) ?_
      | refine callK_of (c2) ?_
      | refine callK_of (c3) ?_
      | refine callK_of (con_ours23 g) ?_
      | refine callK_of (d1) ?_
      | refine callK_of (d2) ?_
      | refine callK_of (d3) ?_
      | refine callK_of (d4) ?_
      | refine callK_of (d5) ?_
      | refine callK_of (d6) ?_
      | refine callK_of (d7) ?_
      | refine callK_of (d8) ?_
      | refine callK_of (d9) ?_
      | refine callK_of (con_wakes23) ?_
      | rfl

set_option maxRecDepth 10000 in
set_option maxHeartbeats 4000000 in
theorem law_HetEnds (g h : HT) (hg : g.ok) (hh : h.ok) : Con 12 [.agg true g.v, .agg true h.v] (.bool true) := by
  refine contract_of_vc mixed Try.func12 tr12 ?_
  obtain ⟨z1, c1⟩ := con_heavy23 g hg
  obtain ⟨z2, c2⟩ := con_heavy23 h hh
  have c3 := con_r23right g hg
  have c4 := con_r23right h hh
  cases hr1 : hrightB g
  · simp only [HT.v] at *
    cases z1 <;> cases z2
    all_goals
      repeat' first
        | simp (config := { maxSteps := 2000000 }) only [go_sem, reduceIte, reduceCtorEq, Nat.reduceAdd, Nat.reduceSub, Nat.reduceMul, Nat.reduceLT, Nat.reduceLeDiff, Nat.reduceEqDiff, Nat.reduceBEq, Nat.reduceGT, Int.reduceEq, Int.reduceNe, Int.reduceLT, Int.reduceLE, Int.reduceToNat, Int.reduceNeg, Int.reduceBEq, Int.reduceAdd, Int.reduceSub, Int.reduceGT, Int.reduceGE, Int.reduceBNe, hr1]
        | refine callK_of (c1) ?_
        | refine callK_of (c2) ?_
        | refine callK_of (c3) ?_
        | rfl
  · cases hr2 : hrightB h
    · simp only [HT.v] at *
      cases z1 <;> cases z2
      all_goals
        repeat' first
          | simp (config := { maxSteps := 2000000 }) only [go_sem, reduceIte, reduceCtorEq, Nat.reduceAdd, Nat.reduceSub, Nat.reduceMul, Nat.reduceLT, Nat.reduceLeDiff, Nat.reduceEqDiff, Nat.reduceBEq, Nat.reduceGT, Int.reduceEq, Int.reduceNe, Int.reduceLT, Int.reduceLE, Int.reduceToNat, Int.reduceNeg, Int.reduceBEq, Int.reduceAdd, Int.reduceSub, Int.reduceGT, Int.reduceGE, Int.reduceBNe, hr1, hr2]
          | refine callK_of (c1) ?_
          | refine callK_of (c2) ?_
          | refine callK_of (c3) ?_
          | refine callK_of (c4) ?_
          | rfl
    · cases hi : (g.i != h.i)
      · have hi' : g.i = h.i := by simpa using hi
        have c5 := con_hTurn g hg
        have c6 := con_hThen g h hg hh
        have c7 := con_hTurn (turnF g) (ok_turnF hg)
        have ht := hright_turn hr1
        have e2 := turnF_ends hr1
        have q1 : (turnF g).i = g.i := by rw [e2]
        have q2 : (turnF g).a = g.b := by rw [e2]
        have q3 : (turnF g).b = g.a := by rw [e2]
        have q4 : (turnF g).x = g.y := by rw [e2]
        have q5 : (turnF g).y = g.x := by rw [e2]
        have e1 := turnF_ends ht
        rw [q1, q2, q3, q4, q5] at e1
        have e3 : thenF g h = ⟨g.i, g.a, h.b, g.x, h.y, (thenF g h).h⟩ := by
          unfold thenF
          rw [if_pos (by simp [hr1, hr2, hi'])]
        rw [e1] at c7
        generalize (turnF (turnF g)).h = r7 at c7
        rw [e2] at c5 c7
        generalize (turnF g).h = r5 at c5 c7
        rw [e3] at c6
        generalize (thenF g h).h = r6 at c6
        clear e1 e2 e3
        have s1 := con_same g.y hg.y
        have s2 := con_same g.x hg.x
        have s3 := con_same g.b hg.b
        have s4 := con_same g.a hg.a
        have s5 := con_same h.y hh.y
        have s6 := con_same h.b hh.b
        simp only [HT.v] at *
        have o1 := con_ours g.i g.a g.b g.x g.y g.h
        have o2 := con_ours h.i h.a h.b h.x h.y h.h
        cases z1 <;> cases z2
        all_goals
          repeat' first
            | simp (config := { maxSteps := 2000000 }) only [go_sem, reduceIte, reduceCtorEq, Nat.reduceAdd, Nat.reduceSub, Nat.reduceMul, Nat.reduceLT, Nat.reduceLeDiff, Nat.reduceEqDiff, Nat.reduceBEq, Nat.reduceGT, Int.reduceEq, Int.reduceNe, Int.reduceLT, Int.reduceLE, Int.reduceToNat, Int.reduceNeg, Int.reduceBEq, Int.reduceAdd, Int.reduceSub, Int.reduceGT, Int.reduceGE, Int.reduceBNe, hr1, hr2, hi]
            | refine callK_of (c1) ?_
            | refine callK_of (c2) ?_
            | refine callK_of (c3) ?_
            | refine callK_of (c4) ?_
            | refine callK_of (o1) ?_
            | refine callK_of (o2) ?_
            | refine callK_of (c5) ?_
            | refine callK_of (c6) ?_
            | refine callK_of (c7) ?_
            | refine callK_of (s1) ?_
            | refine callK_of (s2) ?_
            | refine callK_of (s3) ?_
            | refine callK_of (s4) ?_
            | refine callK_of (s5) ?_
            | refine callK_of (s6) ?_
            | refine callK_of (con_wakes23) ?_
            | rfl
      · simp only [HT.v] at *
        cases z1 <;> cases z2
        all_goals
          repeat' first
            | simp (config := { maxSteps := 2000000 }) only [go_sem, reduceIte, reduceCtorEq, Nat.reduceAdd, Nat.reduceSub, Nat.reduceMul, Nat.reduceLT, Nat.reduceLeDiff, Nat.reduceEqDiff, Nat.reduceBEq, Nat.reduceGT, Int.reduceEq, Int.reduceNe, Int.reduceLT, Int.reduceLE, Int.reduceToNat, Int.reduceNeg, Int.reduceBEq, Int.reduceAdd, Int.reduceSub, Int.reduceGT, Int.reduceGE, Int.reduceBNe, hr1, hr2, hi]
            | refine callK_of (c1) ?_
            | refine callK_of (c2) ?_
            | refine callK_of (c3) ?_
            | refine callK_of (c4) ?_
            | rfl
end Go.Proofs.Ytadmdmhocglkfaa.Abs
