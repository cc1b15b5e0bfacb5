/- The page's Same and Related; rel.Alike. Printed by genLf.py. -/
import Derived.Test.YtkldipbhenabfaaGreatRLe
import Derived.Test.YtkldipbhenabfaaGreatRKe
import Derived.Test.YtkldipbhenabfaaGreatRJl
import Derived.Test.YtkldipbhenabfaaGreatRFo
set_option linter.unusedSimpArgs false
set_option linter.unusedVariables false
namespace Go.Proofs.YtkldipbhenabfaaGreat.Abs
open Go Go.RowKit Go.Proofs.YtkldipbhenabfaaGreat

set_option maxRecDepth 10000 in
set_option maxHeartbeats 2000000 in
theorem con_r4same_rows (k i j n k' i' j' n' : Int) (rows rows' : List (List SV)) (E : Nat → Bool) (h5 : ∀ r ∈ rows, r.length = 5) (h5' : ∀ r ∈ rows', r.length = 5) (h2 : rows.length * 56 ≤ 140737488355328)
    (H : ∀ x, x < rows.length → x < rows'.length → Con 61 [.agg true (rows[x]?.getD []), .agg true (rows'[x]?.getD [])] (.bool (E x))) (r0 : Bool)
    (hn : ¬ (k = k' ∧ i = i' ∧ j = j' ∧ n = n' ∧ rows.length = rows'.length) → r0 = false)
    (hf : k = k' → i = i' → j = j' → n = n' → rows.length = rows'.length → ∀ x, x < rows.length → E x = false → r0 = false)
    (ht : k = k' → i = i' → j = j' → n = n' → rows.length = rows'.length → (∀ x, x < rows.length → E x = true) → r0 = true) :
    Con 61 [.agg true [.int .i64 k, .int .i64 i, .int .i64 j, .int .i64 n, .dsl 5 rows], .agg true [.int .i64 k', .int .i64 i', .int .i64 j', .int .i64 n', .dsl 5 rows']] (.bool r0) := by
  refine contract_of_vc mixed Tryz.func61 tr61 ?_
  by_cases a1 : k = k'
  rotate_left
  · have q : (k != k') = true := by simp [a1]
    rw [hn (fun h => a1 h.1)]
    simp only [go_sem, reduceIte, reduceCtorEq, Nat.reduceAdd, Nat.reduceSub, Nat.reduceMul, Nat.reduceLT, Nat.reduceLeDiff, Nat.reduceEqDiff, Nat.reduceBEq, Nat.reduceGT, Int.reduceEq, Int.reduceNe, Int.reduceLT, Int.reduceLE, Int.reduceToNat, Int.reduceNeg, Int.reduceBEq, Int.reduceAdd, Int.reduceSub, Int.reduceGT, Int.reduceGE, Int.reduceBNe, q]
  have q1 : (k != k') = false := by simp [a1]
  by_cases a2 : i = i'
  rotate_left
  · have q : (i != i') = true := by simp [a2]
    rw [hn (fun h => a2 h.2.1)]
    simp only [go_sem, reduceIte, reduceCtorEq, Nat.reduceAdd, Nat.reduceSub, Nat.reduceMul, Nat.reduceLT, Nat.reduceLeDiff, Nat.reduceEqDiff, Nat.reduceBEq, Nat.reduceGT, Int.reduceEq, Int.reduceNe, Int.reduceLT, Int.reduceLE, Int.reduceToNat, Int.reduceNeg, Int.reduceBEq, Int.reduceAdd, Int.reduceSub, Int.reduceGT, Int.reduceGE, Int.reduceBNe, q1, q]
  have q2 : (i != i') = false := by simp [a2]
  by_cases a3 : j = j'
  rotate_left
  · have q : (j != j') = true := by simp [a3]
    rw [hn (fun h => a3 h.2.2.1)]
    simp only [go_sem, reduceIte, reduceCtorEq, Nat.reduceAdd, Nat.reduceSub, Nat.reduceMul, Nat.reduceLT, Nat.reduceLeDiff, Nat.reduceEqDiff, Nat.reduceBEq, Nat.reduceGT, Int.reduceEq, Int.reduceNe, Int.reduceLT, Int.reduceLE, Int.reduceToNat, Int.reduceNeg, Int.reduceBEq, Int.reduceAdd, Int.reduceSub, Int.reduceGT, Int.reduceGE, Int.reduceBNe, q1, q2, q]
  have q3 : (j != j') = false := by simp [a3]
  by_cases a4 : n = n'
  rotate_left
  · have q : (n != n') = true := by simp [a4]
    rw [hn (fun h => a4 h.2.2.2.1)]
    simp only [go_sem, reduceIte, reduceCtorEq, Nat.reduceAdd, Nat.reduceSub, Nat.reduceMul, Nat.reduceLT, Nat.reduceLeDiff, Nat.reduceEqDiff, Nat.reduceBEq, Nat.reduceGT, Int.reduceEq, Int.reduceNe, Int.reduceLT, Int.reduceLE, Int.reduceToNat, Int.reduceNeg, Int.reduceBEq, Int.reduceAdd, Int.reduceSub, Int.reduceGT, Int.reduceGE, Int.reduceBNe, q1, q2, q3, q]
  have q4 : (n != n') = false := by simp [a4]
  by_cases a5 : rows.length = rows'.length
  rotate_left
  · have q : ((rows.length : Int) != (rows'.length : Int)) = true := by simp; omega
    rw [hn (fun h => a5 h.2.2.2.2)]
    simp only [go_sem, reduceIte, reduceCtorEq, Nat.reduceAdd, Nat.reduceSub, Nat.reduceMul, Nat.reduceLT, Nat.reduceLeDiff, Nat.reduceEqDiff, Nat.reduceBEq, Nat.reduceGT, Int.reduceEq, Int.reduceNe, Int.reduceLT, Int.reduceLE, Int.reduceToNat, Int.reduceNeg, Int.reduceBEq, Int.reduceAdd, Int.reduceSub, Int.reduceGT, Int.reduceGE, Int.reduceBNe, q1, q2, q3, q4, q]
    try intros
  have q5 : ((rows.length : Int) != (rows'.length : Int)) = false := by simp; omega
  simp only [go_sem, reduceIte, reduceCtorEq, Nat.reduceAdd, Nat.reduceSub, Nat.reduceMul, Nat.reduceLT, Nat.reduceLeDiff, Nat.reduceEqDiff, Nat.reduceBEq, Nat.reduceGT, Int.reduceEq, Int.reduceNe, Int.reduceLT, Int.reduceLE, Int.reduceToNat, Int.reduceNeg, Int.reduceBEq, Int.reduceAdd, Int.reduceSub, Int.reduceGT, Int.reduceGE, Int.reduceBNe, q1, q2, q3, q4, q5]
  intros
  refine vc_forp (fun x => ⟨(.junk :: .junk :: .ref 0 0 0 0 :: .ref 1 0 0 0 :: .bool false :: .int .i64 x :: .junk :: .junk :: .junk :: .junk :: .junk :: .junk :: .junk :: .junk :: .junk :: .junk :: .junk :: .junk :: .junk :: .junk :: .junk :: .junk :: .junk :: .junk :: .junk :: .junk :: .junk :: .junk :: .junk :: .junk :: .junk :: .junk :: .junk :: .junk :: .junk :: .junk :: .junk :: .junk :: .junk :: .junk :: .junk :: .junk :: .junk :: .junk :: .junk :: .junk :: .junk :: .junk :: .junk :: .junk :: .junk :: .junk :: .junk :: .junk :: .junk :: .junk :: .junk :: .junk :: .junk :: .junk :: []),
    [⟨true, 5, [[.int .i64 k, .int .i64 i, .int .i64 j, .int .i64 n, .dsl 5 rows]], 0, 0, true⟩, ⟨true, 5, [[.int .i64 k', .int .i64 i', .int .i64 j', .int .i64 n', .dsl 5 rows']], 0, 0, true⟩]⟩) rows.length (fun x => E x = true) (fun x hx hp => ?_) ?_
  · simp only [go_sem, reduceIte, reduceCtorEq, Nat.reduceAdd, Nat.reduceSub, Nat.reduceMul, Nat.reduceLT, Nat.reduceLeDiff, Nat.reduceEqDiff, Nat.reduceBEq, Nat.reduceGT, Int.reduceEq, Int.reduceNe, Int.reduceLT, Int.reduceLE, Int.reduceToNat, Int.reduceNeg, Int.reduceBEq, Int.reduceAdd, Int.reduceSub, Int.reduceGT, Int.reduceGE, Int.reduceBNe]
    intros
    refine ⟨fun h => ?_, fun h => ?_⟩
    · have hlt := of_decide_eq_true h
      have hlt' : x < rows.length := by omega
      have hlt2 : x < rows'.length := by omega
      have hltz : (x : Int) < (rows'.length : Int) := by omega
      have e0 : (0 : Int) ≤ (x : Int) := by omega
      have g1 := h5 _ (get_lt (d := []) hlt')
      have g2 := h5' _ (get_lt (d := []) hlt2)
      simp only [go_sem, reduceIte, reduceCtorEq, Nat.reduceAdd, Nat.reduceSub, Nat.reduceMul, Nat.reduceLT, Nat.reduceLeDiff, Nat.reduceEqDiff, Nat.reduceBEq, Nat.reduceGT, Int.reduceEq, Int.reduceNe, Int.reduceLT, Int.reduceLE, Int.reduceToNat, Int.reduceNeg, Int.reduceBEq, Int.reduceAdd, Int.reduceSub, Int.reduceGT, Int.reduceGE, Int.reduceBNe, hlt, hltz, e0, g1, g2]
      refine callK_of (H x hlt' hlt2) ?_
      cases hE : E x <;> simp only [go_sem, reduceIte, reduceCtorEq, Nat.reduceAdd, Nat.reduceSub, Nat.reduceMul, Nat.reduceLT, Nat.reduceLeDiff, Nat.reduceEqDiff, Nat.reduceBEq, Nat.reduceGT, Int.reduceEq, Int.reduceNe, Int.reduceLT, Int.reduceLE, Int.reduceToNat, Int.reduceNeg, Int.reduceBEq, Int.reduceAdd, Int.reduceSub, Int.reduceGT, Int.reduceGE, Int.reduceBNe]
      · rw [hf a1 a2 a3 a4 a5 x hlt' hE]
      · refine ⟨hlt', ?_⟩
        rw [w64 (n := (x : Int) + 1) (by unfold fit; omega)]
        exact wk_slots (by simp [slotsLe])
    · have hge := of_decide_eq_false h
      have hxe : x = rows.length := by omega
      simp only [go_sem, reduceIte, reduceCtorEq, Nat.reduceAdd, Nat.reduceSub, Nat.reduceMul, Nat.reduceLT, Nat.reduceLeDiff, Nat.reduceEqDiff, Nat.reduceBEq, Nat.reduceGT, Int.reduceEq, Int.reduceNe, Int.reduceLT, Int.reduceLE, Int.reduceToNat, Int.reduceNeg, Int.reduceBEq, Int.reduceAdd, Int.reduceSub, Int.reduceGT, Int.reduceGE, Int.reduceBNe, h]
      rw [ht a1 a2 a3 a4 a5 (fun y hy => hp y (by omega))]
  · exact wk_slots (by simp [slotsLe])
theorem con_r4same (a : Tm) : TOk a → ∀ b, TOk b → Con 61 [.agg true (tv a), .agg true (tv b)] (.bool (eqT a b)) := by
  induction a using Tm.ind with
  | h k i j n l ih =>
    intro hok b hb
    cases b with
    | mk k' i' j' n' l' =>
    obtain ⟨_, _, _, _, hbl, hl⟩ := tok_of hok
    obtain ⟨_, _, _, _, hbl', hl'⟩ := tok_of hb
    have e1 : (l.map tv).length = l.length := by simp
    have e2 : (l'.map tv).length = l'.length := by simp
    rw [tv_mk, tv_mk]
    refine con_r4same_rows k i j n k' i' j' n' (l.map tv) (l'.map tv) (fun x => eqT (l[x]?.getD default) (l'[x]?.getD default)) (rows5 l) (rows5 l') (by omega) (fun x hx hx' => ?_) _ (fun h => eqT_ne (fun h' => h ?_)) (fun a1 a2 a3 a4 a5 x hx hE => eqT_ne (fun h' => ?_)) (fun a1 a2 a3 a4 a5 hE => ?_)
    · rw [e1] at hx
      rw [e2] at hx'
      rw [List.getElem?_map, List.getElem?_map, List.getElem?_eq_getElem hx, List.getElem?_eq_getElem hx']
      exact ih _ (List.getElem_mem hx) (hl _ (List.getElem_mem hx)) _ (hl' _ (List.getElem_mem hx'))
    · cases h'
      exact ⟨rfl, rfl, rfl, rfl, rfl⟩
    · cases h'
      rw [eqT_self] at hE
      cases hE
    · subst a1 a2 a3 a4
      rw [e1, e2] at a5
      rw [e1] at hE
      have : l = l' := List.ext_getElem a5 (fun x hx hx' => by
        have := eqT_iff.1 (hE x hx)
        rw [List.getElem?_eq_getElem hx, List.getElem?_eq_getElem hx'] at this
        exact this)
      rw [this]
      exact eqT_self _

set_option maxHeartbeats 1000000 in
theorem con_r4related (a b : Tm) (ha : TOk a) (hb : TOk b) : Con 22 [.agg true (tv a), .agg true (tv b)] (.bool (relB a b)) := by
  have c1 := con_rmarked a ha
  have c2 := con_rmarked b hb
  have z1 := tv_len a
  have z2 := tv_len b
  unfold relB
  refine contract_of_vc mixed Tryz.func22 tr22 ?_
  cases m1 : markT a
  · rw [m1] at c1
    repeat' first
      | simp (config := { maxSteps := 2000000 }) only [go_sem, reduceIte, reduceCtorEq, Nat.reduceAdd, Nat.reduceSub, Nat.reduceMul, Nat.reduceLT, Nat.reduceLeDiff, Nat.reduceEqDiff, Nat.reduceBEq, Nat.reduceGT, Int.reduceEq, Int.reduceNe, Int.reduceLT, Int.reduceLE, Int.reduceToNat, Int.reduceNeg, Int.reduceBEq, Int.reduceAdd, Int.reduceSub, Int.reduceGT, Int.reduceGE, Int.reduceBNe, z1, z2]
      | refine callK_of (c1) ?_
      | rfl
  · rw [m1] at c1
    cases m2 : markT b
    · rw [m2] at c2
      repeat' first
        | simp (config := { maxSteps := 2000000 }) only [go_sem, reduceIte, reduceCtorEq, Nat.reduceAdd, Nat.reduceSub, Nat.reduceMul, Nat.reduceLT, Nat.reduceLeDiff, Nat.reduceEqDiff, Nat.reduceBEq, Nat.reduceGT, Int.reduceEq, Int.reduceNe, Int.reduceLT, Int.reduceLE, Int.reduceToNat, Int.reduceNeg, Int.reduceBEq, Int.reduceAdd, Int.reduceSub, Int.reduceGT, Int.reduceGE, Int.reduceBNe, z1, z2]
        | refine callK_of (c1) ?_
        | refine callK_of (c2) ?_
        | rfl
    · rw [m2] at c2
      have c3 := con_rerase a ha m1
      have c4 := con_rerase b hb m2
      have c5 := con_r4same _ (tok_erase a ha m1) _ (tok_erase b hb m2)
      repeat' first
        | simp (config := { maxSteps := 2000000 }) only [go_sem, reduceIte, reduceCtorEq, Nat.reduceAdd, Nat.reduceSub, Nat.reduceMul, Nat.reduceLT, Nat.reduceLeDiff, Nat.reduceEqDiff, Nat.reduceBEq, Nat.reduceGT, Int.reduceEq, Int.reduceNe, Int.reduceLT, Int.reduceLE, Int.reduceToNat, Int.reduceNeg, Int.reduceBEq, Int.reduceAdd, Int.reduceSub, Int.reduceGT, Int.reduceGE, Int.reduceBNe, z1, z2]
        | refine callK_of (c1) ?_
        | refine callK_of (c2) ?_
        | refine callK_of (c3) ?_
        | refine callK_of (c4) ?_
        | refine callK_of (c5) ?_
        | rfl
/-! A context on itself, as an environment -/
theorem free_pts {V i : Int} (hV : 1 ≤ V) : freeR (pts i) ≤ V := by
  unfold pts so vr
  simp only [freeR, freeL, bindsN]
  simp
  omega
theorem free_pt {V i : Int} {a x : Tm} (hV : 1 ≤ V) (ha : freeR a ≤ V) (hx : freeR x ≤ V) : freeR (pt i a x) ≤ V := by
  unfold pt so vr
  simp only [freeR, freeL, bindsN]
  simp
  omega
theorem gb_way {n x : Nat} {e : En} (hx : x < n) (hn : n ≤ 40) (oe : TOk e.a) (hm : markT e.a = true) (hf : freeR e.a ≤ (x : Int)) (hh : hgtT e.a ≤ 201) (hi : 0 ≤ e.i ∧ e.i ≤ 996) : GB 40 (wayT n x e) := by
  obtain ⟨u, hu⟩ := lift_some ((n : Int) - x) (by omega) e.a 1 0 x hm hf (by omega)
  have eL : liftF ((n : Int) - x) e.a = u := by unfold liftF; rw [hu]; rfl
  have ou := lift_ok _ (by omega) e.a oe 1 0 u hm hu
  have mu : markT u = true := lift_right _ (by omega) e.a 1 0 u hm hu
  have hgu := lift_hgt _ e.a 0 u hu
  have fu := lift_free _ (by omega) e.a 1 0 u hm hu
  obtain ⟨s1, s2, s3⟩ := strip_of u ou mu
  have s4 := free_strip u mu
  have eS : stripF u = stripT u := by unfold stripF; rw [mark_right mu, if_pos rfl]
  have pv : POk 40 (vr ((n : Int) - 1 - x)) := vok_plain (by omega) ⟨_, rfl, by omega, by omega⟩
  have l2 : lev2 e.i = true := by unfold lev2; simp; omega
  have lv : lev e.i = true := by unfold lev; simp; omega
  have fi : fit e.i := by unfold fit; omega
  have hs : (lev2 e.i && plains [stripT u, vr ((n : Int) - 1 - x)]) = true := by
    rw [l2, Bool.true_and]
    unfold plains
    simp only [List.all_cons, List.all_nil, s1, pv.2.1]
    rfl
  unfold wayT selfF
  rw [eL, eS, if_pos hs]
  have hp : PBk 40 (stripT u) := ⟨s2, s1, by omega, by omega⟩
  have hv : VOk 40 (vr ((n : Int) - 1 - x)) := ⟨_, rfl, by omega, by omega⟩
  have h1 := pv.2.2.2
  have h2 := hp.2.2.2
  have h3 := hgt_vr ((n : Int) - 1 - x)
  refine ⟨⟨hi.1, show e.i ≤ 998 by omega⟩, hp, hp, hv, hv, tok_k (by unfold fit; omega) (by simp) (by simp [tok_pts fi, tok_pt fi s2 pv.1]), plain_node (by rfl) (by simp only [List.all_cons, List.all_nil, plain_pts lv, plain_pt lv s1 pv.2.1]; rfl), ?_, ?_⟩
  · show hgtT (.mk 21 0 0 0 [pts e.i, pt e.i (stripT u) (vr ((n : Int) - 1 - x))]) ≤ 900
    unfold pts pt
    simp only [hgtT_mk, hgtL, hgt_so, hgt_vr]
    omega
  · have g1 := free_pts (V := 40) (i := e.i) (by omega)
    have g2 := free_pt (V := 40) (i := e.i) (by omega) h2 h1
    show freeR (.mk 21 0 0 0 [pts e.i, pt e.i (stripT u) (vr ((n : Int) - 1 - x))]) ≤ 40
    generalize pts e.i = p at *
    generalize pt e.i (stripT u) (vr ((n : Int) - 1 - x)) = q at *
    simp only [freeR, freeL, bindsN]
    simp
    omega
theorem ea_ways {C : List En} (hC : CtxLo C) : ∃ n : Nat, n ≤ 40 ∧ EA 40 n (waysF C) := by
  unfold waysF
  cases hg : goodC C
  · rw [if_neg Bool.false_ne_true]
    exact ⟨0, by omega, rfl, fun g h => by cases h⟩
  · rw [if_pos rfl]
    refine ⟨C.length, hC.2.1, by simp, fun g h => ?_⟩
    obtain ⟨x, hx, rfl⟩ := List.mem_map.1 h
    have hx' := List.mem_range.1 hx
    obtain ⟨c1, c2, c3, c4, c5, c6, c7⟩ := good_ent hC hg hx'
    exact gb_way hx' hC.2.1 c1 c3 c4 c5 ⟨c6, c7⟩
/-! rel.Alike -/
set_option maxRecDepth 20000 in
set_option maxHeartbeats 4000000 in
theorem con_Alike_rows (rows : List (List SV)) (a b : Tm) (T : Nat → Tm) (h26 : ∀ r ∈ rows, r.length = 26) (h2 : rows.length ≤ 1000) (hT : ∀ x, x < rows.length → (T x).k ≠ 0)
    (cT : ∀ x, x < rows.length → Con 79 [.agg true (rows[x]?.getD [])] (.agg true (tv (T x)))) (r1 l1 l2 : Bool) (f1 f2 : Int)
    (c1 : Con 24 [.agg true (tv a), .agg true (tv b)] (.bool r1)) (c2 : Con 80 [.agg true (tv a)] (.int .i64 f1)) (c3 : Con 80 [.agg true (tv b)] (.int .i64 f2))
    (c4 : Con 67 [.agg true (tv a), .int .i64 996] (.bool l1)) (c5 : Con 67 [.agg true (tv b), .int .i64 996] (.bool l2)) (R : SV)
    (Hy : r1 = true → f1 ≤ (rows.length : Int) → f2 ≤ (rows.length : Int) → l1 = true → l2 = true → ∃ h : HT, Con 81 [.dsl 26 rows, .agg true (tv a), .agg true (tv b)] (.agg true h.v) ∧ h.ok ∧ R = .tup [.agg true h.v, .bool true])
    (Hn : ¬ (r1 = true ∧ f1 ≤ (rows.length : Int) ∧ f2 ≤ (rows.length : Int) ∧ l1 = true ∧ l2 = true) → R = .tup [.agg true [.int .i64 0, .int .i64 0, .int .i64 0, .int .i64 0, .int .i64 0, .nils, .int .i64 0, .int .i64 0, .int .i64 0, .int .i64 0, .nils, .int .i64 0, .int .i64 0, .int .i64 0, .int .i64 0, .nils, .int .i64 0, .int .i64 0, .int .i64 0, .int .i64 0, .nils, .int .i64 0, .int .i64 0, .int .i64 0, .int .i64 0, .nils], .bool false]) :
    Con 44 [.dsl 26 rows, .agg true (tv a), .agg true (tv b)] R := by
  have z1 := tv_len a
  have z2 := tv_len b
  refine contract_of_vc mixed Tryz.func44 tr44 ?_
  simp only [go_sem, reduceIte, reduceCtorEq, Nat.reduceAdd, Nat.reduceSub, Nat.reduceMul, Nat.reduceLT, Nat.reduceLeDiff, Nat.reduceEqDiff, Nat.reduceBEq, Nat.reduceGT, Int.reduceEq, Int.reduceNe, Int.reduceLT, Int.reduceLE, Int.reduceToNat, Int.reduceNeg, Int.reduceBEq, Int.reduceAdd, Int.reduceSub, Int.reduceGT, Int.reduceGE, Int.reduceBNe, z1, z2]
  intros
  refine vc_for (fun x => ⟨(.dsl 26 rows :: .junk :: .junk :: .junk :: .ref 0 0 0 0 :: .ref 1 0 0 0 :: .ref 2 0 0 0 :: .bool false :: .junk :: .junk :: .junk :: .dsl 26 rows :: .int .i64 rows.length :: .int .i64 x :: .junk :: .junk :: .junk :: .junk :: .junk :: .junk :: .junk :: .junk :: .junk :: .junk :: .junk :: .junk :: .junk :: .junk :: .junk :: .junk :: .junk :: .junk :: .junk :: .junk :: .junk :: .junk :: .junk :: .junk :: .junk :: .junk :: .junk :: .junk :: .junk :: .junk :: .junk :: .junk :: .junk :: .junk :: .junk :: .junk :: .junk :: .junk :: .junk :: .junk :: .junk :: .junk :: .junk :: .junk :: .junk :: .junk :: .junk :: .junk :: .junk :: .junk :: .junk :: .junk :: .junk :: .junk :: .junk :: .junk :: .junk :: .junk :: .junk :: .junk :: .junk :: .junk :: []),
    [⟨true, 5, [tv a], 0, 0, true⟩, ⟨true, 5, [tv b], 0, 0, true⟩, ⟨true, 26, [[.int .i64 0, .int .i64 0, .int .i64 0, .int .i64 0, .int .i64 0, .nils, .int .i64 0, .int .i64 0, .int .i64 0, .int .i64 0, .nils, .int .i64 0, .int .i64 0, .int .i64 0, .int .i64 0, .nils, .int .i64 0, .int .i64 0, .int .i64 0, .int .i64 0, .nils, .int .i64 0, .int .i64 0, .int .i64 0, .int .i64 0, .nils]], 0, 0, true⟩]⟩) rows.length (fun x hx => ?_) ?_
  · simp only [go_sem, reduceIte, reduceCtorEq, Nat.reduceAdd, Nat.reduceSub, Nat.reduceMul, Nat.reduceLT, Nat.reduceLeDiff, Nat.reduceEqDiff, Nat.reduceBEq, Nat.reduceGT, Int.reduceEq, Int.reduceNe, Int.reduceLT, Int.reduceLE, Int.reduceToNat, Int.reduceNeg, Int.reduceBEq, Int.reduceAdd, Int.reduceSub, Int.reduceGT, Int.reduceGE, Int.reduceBNe]
    refine ⟨fun h => ?_, fun h => ?_⟩
    · have hlt := of_decide_eq_true h
      have hlx : x < rows.length := by omega
      have e0 : (0 : Int) ≤ (x : Int) := by omega
      have g1 := h26 _ (get_lt (d := []) hlx)
      have k0 : ((T x).k == 0) = false := beq_no (hT x hlx)
      simp only [go_sem, reduceIte, reduceCtorEq, Nat.reduceAdd, Nat.reduceSub, Nat.reduceMul, Nat.reduceLT, Nat.reduceLeDiff, Nat.reduceEqDiff, Nat.reduceBEq, Nat.reduceGT, Int.reduceEq, Int.reduceNe, Int.reduceLT, Int.reduceLE, Int.reduceToNat, Int.reduceNeg, Int.reduceBEq, Int.reduceAdd, Int.reduceSub, Int.reduceGT, Int.reduceGE, Int.reduceBNe, hlt, e0, g1]
      refine callK_of (cT x hlx) ?_
      simp only [go_sem, reduceIte, reduceCtorEq, Nat.reduceAdd, Nat.reduceSub, Nat.reduceMul, Nat.reduceLT, Nat.reduceLeDiff, Nat.reduceEqDiff, Nat.reduceBEq, Nat.reduceGT, Int.reduceEq, Int.reduceNe, Int.reduceLT, Int.reduceLE, Int.reduceToNat, Int.reduceNeg, Int.reduceBEq, Int.reduceAdd, Int.reduceSub, Int.reduceGT, Int.reduceGE, Int.reduceBNe, tv_0, k0]
      refine ⟨hlx, ?_⟩
      rw [w64 (n := (x : Int) + 1) (by unfold fit; omega)]
      exact wk_trunc 3 (by simp [slotsLe]) (by simp) (by simp [below]) (by simp)
    · have hge := of_decide_eq_false h
      have hxe : x = rows.length := by omega
      have b9 : rows.length ≤ 140737488355328 := by omega
      cases r1
      · rw [Hn (by simp)]
        repeat' first
          | simp (config := { maxSteps := 2000000 }) only [go_sem, reduceIte, reduceCtorEq, Nat.reduceAdd, Nat.reduceSub, Nat.reduceMul, Nat.reduceLT, Nat.reduceLeDiff, Nat.reduceEqDiff, Nat.reduceBEq, Nat.reduceGT, Int.reduceEq, Int.reduceNe, Int.reduceLT, Int.reduceLE, Int.reduceToNat, Int.reduceNeg, Int.reduceBEq, Int.reduceAdd, Int.reduceSub, Int.reduceGT, Int.reduceGE, Int.reduceBNe, z1, z2, b9]
          | refine callK_of (c1) ?_
          | rfl
      by_cases q1 : f1 ≤ (rows.length : Int)
      rotate_left
      · rw [Hn (by simp [q1])]
        have d1 : (rows.length : Int) < f1 := by omega
        repeat' first
          | simp (config := { maxSteps := 2000000 }) only [go_sem, reduceIte, reduceCtorEq, Nat.reduceAdd, Nat.reduceSub, Nat.reduceMul, Nat.reduceLT, Nat.reduceLeDiff, Nat.reduceEqDiff, Nat.reduceBEq, Nat.reduceGT, Int.reduceEq, Int.reduceNe, Int.reduceLT, Int.reduceLE, Int.reduceToNat, Int.reduceNeg, Int.reduceBEq, Int.reduceAdd, Int.reduceSub, Int.reduceGT, Int.reduceGE, Int.reduceBNe, z1, z2, b9, d1]
          | refine callK_of (c1) ?_
          | refine callK_of (c2) ?_
          | rfl
      have d1 : ¬ ((rows.length : Int) < f1) := by omega
      by_cases q2 : f2 ≤ (rows.length : Int)
      rotate_left
      · rw [Hn (by simp [q2])]
        have d2 : (rows.length : Int) < f2 := by omega
        repeat' first
          | simp (config := { maxSteps := 2000000 }) only [go_sem, reduceIte, reduceCtorEq, Nat.reduceAdd, Nat.reduceSub, Nat.reduceMul, Nat.reduceLT, Nat.reduceLeDiff, Nat.reduceEqDiff, Nat.reduceBEq, Nat.reduceGT, Int.reduceEq, Int.reduceNe, Int.reduceLT, Int.reduceLE, Int.reduceToNat, Int.reduceNeg, Int.reduceBEq, Int.reduceAdd, Int.reduceSub, Int.reduceGT, Int.reduceGE, Int.reduceBNe, z1, z2, b9, d1, d2]
          | refine callK_of (c1) ?_
          | refine callK_of (c2) ?_
          | refine callK_of (c3) ?_
          | rfl
      have d2 : ¬ ((rows.length : Int) < f2) := by omega
      cases l1
      · rw [Hn (by simp)]
        repeat' first
          | simp (config := { maxSteps := 2000000 }) only [go_sem, reduceIte, reduceCtorEq, Nat.reduceAdd, Nat.reduceSub, Nat.reduceMul, Nat.reduceLT, Nat.reduceLeDiff, Nat.reduceEqDiff, Nat.reduceBEq, Nat.reduceGT, Int.reduceEq, Int.reduceNe, Int.reduceLT, Int.reduceLE, Int.reduceToNat, Int.reduceNeg, Int.reduceBEq, Int.reduceAdd, Int.reduceSub, Int.reduceGT, Int.reduceGE, Int.reduceBNe, z1, z2, b9, d1, d2]
          | refine callK_of (c1) ?_
          | refine callK_of (c2) ?_
          | refine callK_of (c3) ?_
          | refine callK_of (con_most) ?_
          | refine callK_of (c4) ?_
          | rfl
      cases l2
      · rw [Hn (by simp)]
        repeat' first
          | simp (config := { maxSteps := 2000000 }) only [go_sem, reduceIte, reduceCtorEq, Nat.reduceAdd, Nat.reduceSub, Nat.reduceMul, Nat.reduceLT, Nat.reduceLeDiff, Nat.reduceEqDiff, Nat.reduceBEq, Nat.reduceGT, Int.reduceEq, Int.reduceNe, Int.reduceLT, Int.reduceLE, Int.reduceToNat, Int.reduceNeg, Int.reduceBEq, Int.reduceAdd, Int.reduceSub, Int.reduceGT, Int.reduceGE, Int.reduceBNe, z1, z2, b9, d1, d2]
          | refine callK_of (c1) ?_
          | refine callK_of (c2) ?_
          | refine callK_of (c3) ?_
          | refine callK_of (con_most) ?_
          | refine callK_of (c4) ?_
          | refine callK_of (c5) ?_
          | rfl
      obtain ⟨g, c6, hg, hR⟩ := Hy rfl q1 q2 rfl rfl
      subst hR
      have c7 := con_copy _ hg.a
      have c8 := con_copy _ hg.b
      have c9 := con_copy _ hg.x
      have d3 := con_copy _ hg.y
      have d4 := con_copy _ hg.h
      have zg : (hv g.i g.a g.b g.x g.y g.h).length = 26 := hv_len
      have y1 := tv_len g.a
      have y2 := tv_len g.b
      have y3 := tv_len g.x
      have y4 := tv_len g.y
      have y5 := tv_len g.h
      unfold HT.v at *
      repeat' first
        | simp (config := { maxSteps := 2000000 }) only [go_sem, reduceIte, reduceCtorEq, Nat.reduceAdd, Nat.reduceSub, Nat.reduceMul, Nat.reduceLT, Nat.reduceLeDiff, Nat.reduceEqDiff, Nat.reduceBEq, Nat.reduceGT, Int.reduceEq, Int.reduceNe, Int.reduceLT, Int.reduceLE, Int.reduceToNat, Int.reduceNeg, Int.reduceBEq, Int.reduceAdd, Int.reduceSub, Int.reduceGT, Int.reduceGE, Int.reduceBNe, z1, z2, b9, d1, d2, zg, y1, y2, y3, y4, y5]
        | refine callK_of (c1) ?_
        | refine callK_of (c2) ?_
        | refine callK_of (c3) ?_
        | refine callK_of (con_most) ?_
        | refine callK_of (c4) ?_
        | refine callK_of (c5) ?_
        | refine callK_of (c6) ?_
        | refine callK_of (c7) ?_
        | refine callK_of (c8) ?_
        | refine callK_of (c9) ?_
        | refine callK_of (d3) ?_
        | refine callK_of (d4) ?_
        | rfl
  · exact wk_slots (by simp [slotsLe])
def resH : Option HT → SV
  | some h => .tup [.agg true h.v, .bool true]
  | none => .tup [.agg true [.int .i64 0, .int .i64 0, .int .i64 0, .int .i64 0, .int .i64 0, .nils, .int .i64 0, .int .i64 0, .int .i64 0, .int .i64 0, .nils, .int .i64 0, .int .i64 0, .int .i64 0, .int .i64 0, .nils, .int .i64 0, .int .i64 0, .int .i64 0, .int .i64 0, .nils, .int .i64 0, .int .i64 0, .int .i64 0, .int .i64 0, .nils], .bool false]
theorem con_AlikeP {E : List HT} {n : Nat} (hn : n ≤ 40) (hE : EA 40 n E) (a b : Tm) (ha : TOk a) (hb : TOk b) (hs : sizT a + sizT b ≤ 160) :
    ∃ o : Option HT, (∀ h, o = some h → h.ok) ∧ Con 44 [.dsl 26 (E.map HT.v), .agg true (tv a), .agg true (tv b)] (resH o) := by
  have hl : (E.map HT.v).length = n := by rw [List.length_map]; exact hE.1
  have h26 : ∀ r ∈ E.map HT.v, r.length = 26 := fun r hr => by
    obtain ⟨g, _, rfl⟩ := List.mem_map.1 hr
    exact hv_len
  have hgt : hgtT a ≤ 100000 ∧ hgtT b ≤ 100000 := by
    have := hgt_le_siz a
    have := hgt_le_siz b
    omega
  have hrow : ∀ x, x < (E.map HT.v).length → (E.map HT.v)[x]?.getD [] = (E[x]?.getD zH).v := fun x hx => ht_row E x (by rw [hE.1]; omega)
  have hgood : ∀ x, x < (E.map HT.v).length → GB 40 (E[x]?.getD zH) := fun x hx => hE.2 _ (get_lt (d := zH) (by rw [hE.1]; omega))
  have main := con_Alike_rows (E.map HT.v) a b (fun x => typeF (E[x]?.getD zH)) h26 (by omega)
    (fun x hx => by
      have := gb_right (V := 40) (by omega) (hgood x hx)
      unfold typeF
      rw [if_pos this]
      show (23 : Int) ≠ 0
      decide)
    (fun x hx => by
      rw [hrow x hx]
      exact con_hType _ (gb_ok (V := 40) (by omega) (hgood x hx)).1)
    (relB a b) (lowT 996 a) (lowT 996 b) (freeF a) (freeF b) (con_related a b ha hb) (con_free a ha hgt.1) (con_free b hb hgt.2) (con_tlow 996 a ha) (con_tlow 996 b hb)
  by_cases G : relB a b = true ∧ freeF a ≤ (((E.map HT.v).length : Nat) : Int) ∧ freeF b ≤ (((E.map HT.v).length : Nat) : Int) ∧ lowT 996 a = true ∧ lowT 996 b = true
  · obtain ⟨r1, r2, r3, r4, r5⟩ := G
    have hr := r1
    unfold relB at hr
    rw [Bool.and_eq_true, Bool.and_eq_true, eqT_iff] at hr
    obtain ⟨ma, mb, he⟩ := hr
    have fa : freeF a = freeR a := by unfold freeF; rw [mark_right ma, if_pos rfl]
    have fb : freeF b = freeR b := by unfold freeF; rw [mark_right mb, if_pos rfl]
    rw [fa, hl] at r2
    rw [fb, hl] at r3
    obtain ⟨h, hh, hc⟩ := alike_ex 160 (by omega) a b E n 40 ⟨ha, hb, ma, mb, he, r2, r3, r4, r5, hs⟩ hE (by omega) (by omega) (by omega)
    refine ⟨some h, fun g hg => (by cases hg; exact hh.ok), main _ (fun _ _ _ _ _ => ⟨h, hc, hh.ok, rfl⟩) (fun hno => absurd ?_ hno)⟩
    rw [fa, fb, hl]
    exact ⟨r1, r2, r3, r4, r5⟩
  · exact ⟨none, fun g hg => (by cases hg), main _ (fun h1 h2 h3 h4 h5 => absurd ⟨h1, h2, h3, h4, h5⟩ G) (fun _ => rfl)⟩
end Go.Proofs.YtkldipbhenabfaaGreat.Abs

set_option linter.unusedSimpArgs false
set_option linter.unusedVariables false
namespace Go.Proofs.YtkldipbhenabfaaGreat.Abs
open Go Go.RowKit Go.Proofs.YtkldipbhenabfaaGreat

theorem st_ent : structTypes Tryz.prog 54 = some [34, 3] := by kernel_rfl
theorem ty_ent {svs : List SV} (h : TySV Tryz.prog 54 svs) : ∃ e : En, e.ok ∧ svs = e.v := by
  obtain ⟨parts, hl, hp, rfl⟩ := ty_struct st_ent h
  match parts, hl with
  | [p0, p1], _ =>
    obtain ⟨a, ha, rfl⟩ := (ty_tm tmT (hp 0 _ p0 rfl rfl)).1 rfl
    obtain ⟨i, rfl, hi⟩ := ty_int u_int (hp 1 _ p1 rfl rfl)
    exact ⟨⟨a, i⟩, ⟨ha, hi⟩, by simp [En.v, ev6]⟩
theorem arg_ctx {x : SV} (h : TyArg Tryz.prog 22 x) : ∃ C : List En, x = .dsl 6 (C.map En.v) ∧ (∀ e ∈ C, e.ok) := by
  cases h with
  | agg svs h1 _ => have e : isAggT Tryz.prog 22 = some false := by kernel_rfl
                    rw [e] at h1; cases h1
  | one x _ h2 =>
    obtain ⟨l, e, _, hl⟩ := ty_slice (e := 54) (by kernel_rfl) h2
    have e1 : Tryz.prog.cellsOf 54 = 6 := by kernel_rfl
    rw [e1] at e
    obtain ⟨xs, rfl, hx⟩ := map_of (f := En.v) (p := En.ok) (l := l) (fun r hr => by obtain ⟨e, h1, h2⟩ := ty_ent (hl r hr); exact ⟨e, h1, h2⟩)
    cases e
    exact ⟨xs, rfl, hx⟩
end Go.Proofs.YtkldipbhenabfaaGreat.Abs

set_option linter.unusedSimpArgs false
set_option linter.unusedVariables false
namespace Go.Proofs.YtkldipbhenabfaaGreat.Abs
open Go Go.RowKit Go.Proofs.YtkldipbhenabfaaGreat

def resT : Option Tm → SV
  | some e => .tup [.agg true (tv e), .bool true]
  | none => .tup [.agg true [.int .i64 0, .int .i64 0, .int .i64 0, .int .i64 0, .nils], .bool false]
theorem tok_typesT {i : Int} {h : HT} (hi : 0 ≤ i ∧ i ≤ 1000) (hh : h.ok) : TOk (typesT i h) := by
  unfold typesT
  exact tok_us (by unfold fit; omega) (by unfold fit; omega) (by unfold fit; omega) (by simp) (by simp [tok_so (i := i) (by unfold fit; omega), hh.x, hh.y, hh.h])
set_option maxRecDepth 20000 in
set_option maxHeartbeats 4000000 in
theorem con_shEq (C : List En) (hC : CtxLo C) (i : Int) (a b : Tm) (ha : TOk a) (hb : TOk b) (hs : sizT a + sizT b ≤ 160) :
    ∃ o : Option Tm, (∀ e, o = some e → TOk e) ∧ Con 23 [.dsl 6 (C.map En.v), .int .i64 i, .agg true (tv a), .agg true (tv b)] (resT o) := by
  have z1 := tv_len a
  have z2 := tv_len b
  by_cases h0 : i < 0
  · refine ⟨none, fun e h => (by cases h), contract_of_vc mixed Tryz.func23 tr23 ?_⟩
    unfold resT
    generalize C.map En.v = rows at *
    repeat' first
      | simp (config := { maxSteps := 2000000 }) only [go_sem, reduceIte, reduceCtorEq, Nat.reduceAdd, Nat.reduceSub, Nat.reduceMul, Nat.reduceLT, Nat.reduceLeDiff, Nat.reduceEqDiff, Nat.reduceBEq, Nat.reduceGT, Int.reduceEq, Int.reduceNe, Int.reduceLT, Int.reduceLE, Int.reduceToNat, Int.reduceNeg, Int.reduceBEq, Int.reduceAdd, Int.reduceSub, Int.reduceGT, Int.reduceGE, Int.reduceBNe, z1, z2, h0]
      | refine callK_of (con_most) ?_
      | rfl
  by_cases h1 : 995 < i
  · refine ⟨none, fun e h => (by cases h), contract_of_vc mixed Tryz.func23 tr23 ?_⟩
    unfold resT
    generalize C.map En.v = rows at *
    repeat' first
      | simp (config := { maxSteps := 2000000 }) only [go_sem, reduceIte, reduceCtorEq, Nat.reduceAdd, Nat.reduceSub, Nat.reduceMul, Nat.reduceLT, Nat.reduceLeDiff, Nat.reduceEqDiff, Nat.reduceBEq, Nat.reduceGT, Int.reduceEq, Int.reduceNe, Int.reduceLT, Int.reduceLE, Int.reduceToNat, Int.reduceNeg, Int.reduceBEq, Int.reduceAdd, Int.reduceSub, Int.reduceGT, Int.reduceGE, Int.reduceBNe, z1, z2, h0, h1]
      | refine callK_of (con_most) ?_
      | rfl
  have c1 := con_ways C hC.1
  obtain ⟨n, hn, hE⟩ := ea_ways hC
  obtain ⟨o, ho, c2⟩ := con_AlikeP hn hE a b ha hb hs
  generalize (waysF C).map HT.v = ws at *
  generalize C.map En.v = rows at *
  cases o with
  | none =>
    refine ⟨none, fun e h => (by cases h), contract_of_vc mixed Tryz.func23 tr23 ?_⟩
    unfold resT
    unfold resH at c2
    repeat' first
      | simp (config := { maxSteps := 2000000 }) only [go_sem, reduceIte, reduceCtorEq, Nat.reduceAdd, Nat.reduceSub, Nat.reduceMul, Nat.reduceLT, Nat.reduceLeDiff, Nat.reduceEqDiff, Nat.reduceBEq, Nat.reduceGT, Int.reduceEq, Int.reduceNe, Int.reduceLT, Int.reduceLE, Int.reduceToNat, Int.reduceNeg, Int.reduceBEq, Int.reduceAdd, Int.reduceSub, Int.reduceGT, Int.reduceGE, Int.reduceBNe, z1, z2, h0, h1]
      | refine callK_of (c1) ?_
      | refine callK_of (c2) ?_
      | rfl
  | some g =>
    have hg := ho g rfl
    have ot := tok_typesT (i := i) ⟨by omega, by omega⟩ hg
    have c3 := con_tieTypes i g ⟨by omega, by omega⟩
    have c4 := con_copy _ ot
    have z3 := tv_len (typesT i g)
    have zg : g.v.length = 26 := hv_len
    refine ⟨some (typesT i g), fun e h => (by cases h; exact ot), contract_of_vc mixed Tryz.func23 tr23 ?_⟩
    unfold resT
    rw [show resH (some g) = .tup [.agg true g.v, .bool true] from rfl] at c2
    generalize typesT i g = tt at *
    generalize g.v = gv at *
    repeat' first
      | simp (config := { maxSteps := 2000000 }) only [go_sem, reduceIte, reduceCtorEq, Nat.reduceAdd, Nat.reduceSub, Nat.reduceMul, Nat.reduceLT, Nat.reduceLeDiff, Nat.reduceEqDiff, Nat.reduceBEq, Nat.reduceGT, Int.reduceEq, Int.reduceNe, Int.reduceLT, Int.reduceLE, Int.reduceToNat, Int.reduceNeg, Int.reduceBEq, Int.reduceAdd, Int.reduceSub, Int.reduceGT, Int.reduceGE, Int.reduceBNe, z1, z2, h0, h1, z3, zg]
      | refine callK_of (c1) ?_
      | refine callK_of (c2) ?_
      | refine callK_of (c3) ?_
      | refine callK_of (c4) ?_
      | rfl
noncomputable def asF (i : Int) (t a b : Tm) (o : Option Tm) : Option Tm :=
  if markT t && relB a b then (if eqT a b then some t else match o with | some e => some (.mk 12 i 0 0 [a, b, e, t]) | none => none) else none
set_option maxRecDepth 20000 in
set_option maxHeartbeats 4000000 in
theorem con_shAs (C : List En) (i : Int) (hi : fit i) (t a b : Tm) (ht : TOk t) (ha : TOk a) (hb : TOk b) (o : Option Tm) (ho : ∀ e, o = some e → TOk e)
    (c : Con 23 [.dsl 6 (C.map En.v), .int .i64 i, .agg true (tv a), .agg true (tv b)] (resT o)) :
    Con 20 [.dsl 6 (C.map En.v), .int .i64 i, .agg true (tv t), .agg true (tv a), .agg true (tv b)] (resT (asF i t a b o)) := by
  have z1 := tv_len a
  have z2 := tv_len b
  have z3 := tv_len t
  have c1 := con_marked t ht
  have c2 := con_related a b ha hb
  have c3 := con_bsame a ha b hb
  have c4 := con_copy t ht
  unfold asF
  generalize C.map En.v = rows at *
  refine contract_of_vc mixed Tryz.func20 tr20 ?_
  cases m1 : markT t
  · rw [m1] at c1
    rw [Bool.false_and, if_neg Bool.false_ne_true]
    unfold resT
    repeat' first
      | simp (config := { maxSteps := 2000000 }) only [go_sem, reduceIte, reduceCtorEq, Nat.reduceAdd, Nat.reduceSub, Nat.reduceMul, Nat.reduceLT, Nat.reduceLeDiff, Nat.reduceEqDiff, Nat.reduceBEq, Nat.reduceGT, Int.reduceEq, Int.reduceNe, Int.reduceLT, Int.reduceLE, Int.reduceToNat, Int.reduceNeg, Int.reduceBEq, Int.reduceAdd, Int.reduceSub, Int.reduceGT, Int.reduceGE, Int.reduceBNe, z1, z2, z3]
      | refine callK_of (c1) ?_
      | rfl
  rw [m1] at c1
  cases m2 : relB a b
  · rw [m2] at c2
    rw [Bool.true_and, if_neg Bool.false_ne_true]
    unfold resT
    repeat' first
      | simp (config := { maxSteps := 2000000 }) only [go_sem, reduceIte, reduceCtorEq, Nat.reduceAdd, Nat.reduceSub, Nat.reduceMul, Nat.reduceLT, Nat.reduceLeDiff, Nat.reduceEqDiff, Nat.reduceBEq, Nat.reduceGT, Int.reduceEq, Int.reduceNe, Int.reduceLT, Int.reduceLE, Int.reduceToNat, Int.reduceNeg, Int.reduceBEq, Int.reduceAdd, Int.reduceSub, Int.reduceGT, Int.reduceGE, Int.reduceBNe, z1, z2, z3]
      | refine callK_of (c1) ?_
      | refine callK_of (c2) ?_
      | rfl
  rw [m2] at c2
  rw [Bool.true_and, if_pos rfl]
  cases m3 : eqT a b
  rotate_left
  · rw [m3] at c3
    rw [if_pos rfl]
    unfold resT
    repeat' first
      | simp (config := { maxSteps := 2000000 }) only [go_sem, reduceIte, reduceCtorEq, Nat.reduceAdd, Nat.reduceSub, Nat.reduceMul, Nat.reduceLT, Nat.reduceLeDiff, Nat.reduceEqDiff, Nat.reduceBEq, Nat.reduceGT, Int.reduceEq, Int.reduceNe, Int.reduceLT, Int.reduceLE, Int.reduceToNat, Int.reduceNeg, Int.reduceBEq, Int.reduceAdd, Int.reduceSub, Int.reduceGT, Int.reduceGE, Int.reduceBNe, z1, z2, z3]
      | refine callK_of (c1) ?_
      | refine callK_of (c2) ?_
      | refine callK_of (c3) ?_
      | refine callK_of (c4) ?_
      | rfl
  rw [m3] at c3
  rw [if_neg Bool.false_ne_true]
  cases o with
  | none =>
    unfold resT at c ⊢
    repeat' first
      | simp (config := { maxSteps := 2000000 }) only [go_sem, reduceIte, reduceCtorEq, Nat.reduceAdd, Nat.reduceSub, Nat.reduceMul, Nat.reduceLT, Nat.reduceLeDiff, Nat.reduceEqDiff, Nat.reduceBEq, Nat.reduceGT, Int.reduceEq, Int.reduceNe, Int.reduceLT, Int.reduceLE, Int.reduceToNat, Int.reduceNeg, Int.reduceBEq, Int.reduceAdd, Int.reduceSub, Int.reduceGT, Int.reduceGE, Int.reduceBNe, z1, z2, z3]
      | refine callK_of (c1) ?_
      | refine callK_of (c2) ?_
      | refine callK_of (c3) ?_
      | refine callK_of (c) ?_
      | rfl
  | some e =>
    have oe := ho e rfl
    have z4 := tv_len e
    have ot : TOk (.mk 12 i 0 0 [a, b, e, t]) := .mk _ _ _ _ _ (by unfold fit; omega) hi (by unfold fit; omega) (by unfold fit; omega) (by simp) (by simp [ha, hb, oe, ht])
    have c5 := con_ofT 12 i 0 0 [a, b, e, t] (by simp) (by simp)
    have c6 := con_copy _ ot
    have z5 := tv_len (.mk 12 i 0 0 [a, b, e, t])
    simp only []
    generalize Tm.mk 12 i 0 0 [a, b, e, t] = T at *
    unfold resT at c ⊢
    repeat' first
      | simp (config := { maxSteps := 2000000 }) only [go_sem, reduceIte, reduceCtorEq, Nat.reduceAdd, Nat.reduceSub, Nat.reduceMul, Nat.reduceLT, Nat.reduceLeDiff, Nat.reduceEqDiff, Nat.reduceBEq, Nat.reduceGT, Int.reduceEq, Int.reduceNe, Int.reduceLT, Int.reduceLE, Int.reduceToNat, Int.reduceNeg, Int.reduceBEq, Int.reduceAdd, Int.reduceSub, Int.reduceGT, Int.reduceGE, Int.reduceBNe, z1, z2, z3, z4, z5]
      | refine callK_of (c1) ?_
      | refine callK_of (c2) ?_
      | refine callK_of (c3) ?_
      | refine callK_of (c) ?_
      | refine callK_of (c5) ?_
      | refine callK_of (c6) ?_
      | rfl
set_option maxRecDepth 20000 in
set_option maxHeartbeats 8000000 in
theorem law_ShapeAlone (C : List En) (i : Int) (t a b : Tm) (hC : ∀ e ∈ C, e.ok) (hi : fit i) (ht : TOk t) (ha : TOk a) (hb : TOk b) :
    Con 5 [.dsl 6 (C.map En.v), .int .i64 i, .agg true (tv t), .agg true (tv a), .agg true (tv b)] (.bool true) := by
  obtain ⟨z, c1, hz⟩ := con_heavy26 C [t, a, b] hC (by simp [ht, ha, hb]) (by simp)
  simp only [List.map_cons, List.map_nil] at c1
  have z1 := tv_len a
  have z2 := tv_len b
  have z3 := tv_len t
  refine contract_of_vc mixed Tryz.func5 tr5 ?_
  cases z
  rotate_left
  · generalize C.map En.v = rows at *
    repeat' first
      | simp (config := { maxSteps := 2000000 }) only [go_sem, reduceIte, reduceCtorEq, Nat.reduceAdd, Nat.reduceSub, Nat.reduceMul, Nat.reduceLT, Nat.reduceLeDiff, Nat.reduceEqDiff, Nat.reduceBEq, Nat.reduceGT, Int.reduceEq, Int.reduceNe, Int.reduceLT, Int.reduceLE, Int.reduceToNat, Int.reduceNeg, Int.reduceBEq, Int.reduceAdd, Int.reduceSub, Int.reduceGT, Int.reduceGE, Int.reduceBNe, z1, z2, z3]
      | refine callK_of (c1) ?_
      | rfl
  obtain ⟨hO, hn, hE, hw⟩ := hz rfl
  have lC : CtxLo C := ⟨hO, hn, fun e he => (hE e he).1⟩
  have hs : sizT a + sizT b ≤ 160 := by
    have h1 := (hw a (by simp)).2
    have h2 := (hw b (by simp)).2
    omega
  obtain ⟨o, ho, c2⟩ := con_shEq C lC i a b ha hb hs
  have c3 := con_shAs C i hi t a b ht ha hb o ho c2
  have c4 := con_rmarked t ht
  have c5 := con_r4related a b ha hb
  have c6 := con_ksame a ha b hb
  have cw := con_wakes26
  clear hz hE hw hO lC
  unfold asF at c3
  generalize C.map En.v = rows at *
  cases m1 : markT t
  · rw [m1] at c3 c4
    rw [Bool.false_and, if_neg Bool.false_ne_true] at c3
    unfold resT at c3
    repeat' first
      | simp (config := { maxSteps := 2000000 }) only [go_sem, reduceIte, reduceCtorEq, Nat.reduceAdd, Nat.reduceSub, Nat.reduceMul, Nat.reduceLT, Nat.reduceLeDiff, Nat.reduceEqDiff, Nat.reduceBEq, Nat.reduceGT, Int.reduceEq, Int.reduceNe, Int.reduceLT, Int.reduceLE, Int.reduceToNat, Int.reduceNeg, Int.reduceBEq, Int.reduceAdd, Int.reduceSub, Int.reduceGT, Int.reduceGE, Int.reduceBNe, z1, z2, z3]
      | refine callK_of (c1) ?_
      | refine callK_of (c3) ?_
      | refine callK_of (c4) ?_
      | refine callK_of (cw) ?_
      | rfl
  rw [m1] at c3 c4
  cases m2 : relB a b
  · rw [m2] at c3 c5
    rw [Bool.true_and, if_neg Bool.false_ne_true] at c3
    unfold resT at c3
    repeat' first
      | simp (config := { maxSteps := 2000000 }) only [go_sem, reduceIte, reduceCtorEq, Nat.reduceAdd, Nat.reduceSub, Nat.reduceMul, Nat.reduceLT, Nat.reduceLeDiff, Nat.reduceEqDiff, Nat.reduceBEq, Nat.reduceGT, Int.reduceEq, Int.reduceNe, Int.reduceLT, Int.reduceLE, Int.reduceToNat, Int.reduceNeg, Int.reduceBEq, Int.reduceAdd, Int.reduceSub, Int.reduceGT, Int.reduceGE, Int.reduceBNe, z1, z2, z3]
      | refine callK_of (c1) ?_
      | refine callK_of (c3) ?_
      | refine callK_of (c4) ?_
      | refine callK_of (c5) ?_
      | refine callK_of (cw) ?_
      | rfl
  rw [m2] at c3 c5
  rw [Bool.true_and, if_pos rfl] at c3
  cases m3 : eqT a b
  rotate_left
  · rw [m3] at c3 c6
    rw [if_pos rfl] at c3
    have c7 := con_ksame t ht t ht
    rw [eqT_self] at c7
    unfold resT at c3
    repeat' first
      | simp (config := { maxSteps := 2000000 }) only [go_sem, reduceIte, reduceCtorEq, Nat.reduceAdd, Nat.reduceSub, Nat.reduceMul, Nat.reduceLT, Nat.reduceLeDiff, Nat.reduceEqDiff, Nat.reduceBEq, Nat.reduceGT, Int.reduceEq, Int.reduceNe, Int.reduceLT, Int.reduceLE, Int.reduceToNat, Int.reduceNeg, Int.reduceBEq, Int.reduceAdd, Int.reduceSub, Int.reduceGT, Int.reduceGE, Int.reduceBNe, z1, z2, z3]
      | refine callK_of (c1) ?_
      | refine callK_of (c3) ?_
      | refine callK_of (c4) ?_
      | refine callK_of (c5) ?_
      | refine callK_of (c6) ?_
      | refine callK_of (c7) ?_
      | refine callK_of (cw) ?_
      | rfl
  rw [m3] at c3 c6
  rw [if_neg Bool.false_ne_true] at c3
  cases o with
  | none =>
    unfold resT at c2 c3
    repeat' first
      | simp (config := { maxSteps := 2000000 }) only [go_sem, reduceIte, reduceCtorEq, Nat.reduceAdd, Nat.reduceSub, Nat.reduceMul, Nat.reduceLT, Nat.reduceLeDiff, Nat.reduceEqDiff, Nat.reduceBEq, Nat.reduceGT, Int.reduceEq, Int.reduceNe, Int.reduceLT, Int.reduceLE, Int.reduceToNat, Int.reduceNeg, Int.reduceBEq, Int.reduceAdd, Int.reduceSub, Int.reduceGT, Int.reduceGE, Int.reduceBNe, z1, z2, z3]
      | refine callK_of (c1) ?_
      | refine callK_of (c3) ?_
      | refine callK_of (c4) ?_
      | refine callK_of (c5) ?_
      | refine callK_of (c6) ?_
      | refine callK_of (c2) ?_
      | refine callK_of (cw) ?_
      | rfl
  | some e =>
    have oe := ho e rfl
    have z4 := tv_len e
    have c8 := con_terms [a, b, e, t] (by simp [ha, hb, oe, ht]) (by simp)
    rw [show resT (some e) = .tup [.agg true (tv e), .bool true] from rfl] at c2
    change Con _ _ (resT (some (Tm.mk 12 i 0 0 [a, b, e, t]))) at c3
    rw [show resT (some (Tm.mk 12 i 0 0 [a, b, e, t])) = .tup [.agg true (tv (Tm.mk 12 i 0 0 [a, b, e, t])), .bool true] from rfl, tv_mk] at c3
    simp only [List.map_cons, List.map_nil] at c3 c8
    repeat' first
      | simp (config := { maxSteps := 2000000 }) only [go_sem, reduceIte, reduceCtorEq, Nat.reduceAdd, Nat.reduceSub, Nat.reduceMul, Nat.reduceLT, Nat.reduceLeDiff, Nat.reduceEqDiff, Nat.reduceBEq, Nat.reduceGT, Int.reduceEq, Int.reduceNe, Int.reduceLT, Int.reduceLE, Int.reduceToNat, Int.reduceNeg, Int.reduceBEq, Int.reduceAdd, Int.reduceSub, Int.reduceGT, Int.reduceGE, Int.reduceBNe, z1, z2, z3, z4]
      | refine callK_of (c1) ?_
      | refine callK_of (c3) ?_
      | refine callK_of (c4) ?_
      | refine callK_of (c5) ?_
      | refine callK_of (c6) ?_
      | refine callK_of (c2) ?_
      | refine callK_of (c8) ?_
      | refine callK_of (cw) ?_
      | rfl
end Go.Proofs.YtkldipbhenabfaaGreat.Abs

