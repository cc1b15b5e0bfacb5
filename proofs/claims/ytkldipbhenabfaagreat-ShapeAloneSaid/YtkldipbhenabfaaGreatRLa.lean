/- Small functions of tie and rel; their results. -/
import Derived.Test.YtkldipbhenabfaaGreatRKf
import Derived.Test.YtkldipbhenabfaaGreatRAfV
set_option linter.unusedSimpArgs false
set_option linter.unusedVariables false
namespace Go.Proofs.YtkldipbhenabfaaGreat.Abs
open Go Go.RowKit Go.Proofs.YtkldipbhenabfaaGreat

def tieThen (g h : HT) : HT := ⟨g.i, g.a, h.b, g.x, h.y, us 4 (g.i + 1) 0 [pointsF g.i, pointF g.i g.a g.x, pointF g.i g.b g.y, pointF g.i h.b h.y, g.h, h.h]⟩
theorem hvJ_fill {i : Int} {a b x y : Tm} : fill [.int .i64 0, .int .i64 0, .int .i64 0, .int .i64 0, .int .i64 0, .nils, .int .i64 0, .int .i64 0, .int .i64 0, .int .i64 0, .nils, .int .i64 0, .int .i64 0, .int .i64 0, .int .i64 0, .nils, .int .i64 0, .int .i64 0, .int .i64 0, .int .i64 0, .nils, .int .i64 0, .int .i64 0, .int .i64 0, .int .i64 0, .nils]
    [(0, 1, .int .i64 i), (1, 5, .agg true (tv a)), (6, 5, .agg true (tv b)), (11, 5, .agg true (tv x)), (16, 5, .agg true (tv y))] = (.int .i64 i :: (tv a ++ (tv b ++ (tv x ++ (tv y ++ [.int .i64 0, .int .i64 0, .int .i64 0, .int .i64 0, .nils]))))) := by
  simp [fill, splice, cellsOf, tv_cells]
theorem hvJ_spl {i : Int} {a b x y h : Tm} : splice 26 5 21 (.int .i64 i :: (tv a ++ (tv b ++ (tv x ++ (tv y ++ [.int .i64 0, .int .i64 0, .int .i64 0, .int .i64 0, .nils]))))) (tv h) = hv i a b x y h := by
  simp [splice, hv, tv_cells]
theorem fit_near {i : Int} (h : 0 ≤ i ∧ i ≤ 1000) : IntKind.i64.wrap (i + 1) = i + 1 := w64 (by unfold fit; omega)
set_option maxRecDepth 20000 in
set_option maxHeartbeats 4000000 in
theorem con_tieThen (g h : HT) (hg : g.ok) (hh : h.ok) (hi : 0 ≤ g.i ∧ g.i ≤ 1000) : Con 113 [.agg true g.v, .agg true h.v] (.agg true (tieThen g h).v) := by
  have c1 := con_hPoints g.i
  have c2 := con_hPoint g.i g.a g.x hg.a hg.x
  have c3 := con_hPoint g.i g.b g.y hg.b hg.y
  have c4 := con_hPoint g.i h.b h.y hh.b hh.y
  have c5 := con_ofT 23 (g.i + 1) 0 4 [pointsF g.i, pointF g.i g.a g.x, pointF g.i g.b g.y, pointF g.i h.b h.y, g.h, h.h] (by simp) (by simp)
  have ew := fit_near hi
  unfold tieThen HT.v us
  generalize pointsF g.i = p0 at *
  generalize pointF g.i g.a g.x = p1 at *
  generalize pointF g.i g.b g.y = p2 at *
  generalize pointF g.i h.b h.y = p3 at *
  generalize hT : Tm.mk 23 (g.i + 1) 0 4 [p0, p1, p2, p3, g.h, h.h] = T at *
  have zT' := tv_len T
  refine contract_of_vc mixed Tryz.func113 tr113 ?_
  repeat' first
    | simp (config := { maxSteps := 2000000 }) only [go_sem, reduceIte, reduceCtorEq, Nat.reduceAdd, Nat.reduceSub, Nat.reduceMul, Nat.reduceLT, Nat.reduceLeDiff, Nat.reduceEqDiff, Nat.reduceBEq, Nat.reduceGT, Int.reduceEq, Int.reduceNe, Int.reduceLT, Int.reduceLE, Int.reduceToNat, Int.reduceNeg, Int.reduceBEq, Int.reduceAdd, Int.reduceSub, Int.reduceGT, Int.reduceGE, Int.reduceBNe, hvJ_fill, hvJ_spl, ew, zT']
    | refine callK_of (c1) ?_
    | refine callK_of (c2) ?_
    | refine callK_of (c3) ?_
    | refine callK_of (c4) ?_
    | refine callK_of (c5) ?_
    | rfl
def typesT (i : Int) (h : HT) : Tm := us 10 (i + 1) 0 [so i, h.x, h.y, h.h]
theorem con_tieTypes (i : Int) (h : HT) (hi : 0 ≤ i ∧ i ≤ 1000) : Con 63 [.int .i64 i, .agg true h.v] (.agg true (tv (typesT i h))) := by
  have c1 := con_sort i
  have c2 := con_ofT 23 (i + 1) 0 10 [so i, h.x, h.y, h.h] (by simp) (by simp)
  have ew := fit_near hi
  have z1 := tv_len (typesT i h)
  unfold typesT us HT.v at *
  change Con _ _ (.agg true (tv (so i))) at c1
  refine contract_of_vc mixed Tryz.func63 tr63 ?_
  repeat' first
    | simp (config := { maxSteps := 2000000 }) only [go_sem, reduceIte, reduceCtorEq, Nat.reduceAdd, Nat.reduceSub, Nat.reduceMul, Nat.reduceLT, Nat.reduceLeDiff, Nat.reduceEqDiff, Nat.reduceBEq, Nat.reduceGT, Int.reduceEq, Int.reduceNe, Int.reduceLT, Int.reduceLE, Int.reduceToNat, Int.reduceNeg, Int.reduceBEq, Int.reduceAdd, Int.reduceSub, Int.reduceGT, Int.reduceGE, Int.reduceBNe, ew, z1]
    | refine callK_of (c1) ?_
    | refine callK_of (c2) ?_
    | rfl
def lamsF (i : Int) (a c t : Tm) : Tm := .mk 14 0 0 0 [a, .mk 14 0 0 0 [liftF 1 c, .mk 14 0 0 0 [toldF i a c, t]]]
set_option maxRecDepth 20000 in
set_option maxHeartbeats 2000000 in
theorem con_lams (i : Int) (a c t : Tm) (ha : TOk a) (hc : TOk c) (ht : TOk t) (pa : plainT a = true) (pc : plainT c = true) (h1 : hgtT a ≤ 1000) (h2 : hgtT c ≤ 1000) :
    Con 134 [.int .i64 i, .agg true (tv a), .agg true (tv c), .agg true (tv t)] (.agg true (tv (lamsF i a c t))) := by
  have c1 := con_blift 1 (by decide) c hc 2 0 pc (by omega) (by omega)
  rw [resR_lift] at c1
  have c2 := con_told25 i a c ha hc pa pc h1 h2
  have c3 := con_ofT 14 0 0 0 [toldF i a c, t] (by simp) (by simp)
  have c4 := con_ofT 14 0 0 0 [liftF 1 c, .mk 14 0 0 0 [toldF i a c, t]] (by simp) (by simp)
  have c5 := con_ofT 14 0 0 0 [a, .mk 14 0 0 0 [liftF 1 c, .mk 14 0 0 0 [toldF i a c, t]]] (by simp) (by simp)
  unfold lamsF
  have z1 := tv_len a
  have z2 := tv_len c
  have z3 := tv_len t
  have z4 := tv_len (liftF 1 c)
  generalize liftF 1 c = lc at *
  generalize toldF i a c = tol at *
  have z5 := tv_len (.mk 14 0 0 0 [tol, t])
  have z6 := tv_len (.mk 14 0 0 0 [lc, .mk 14 0 0 0 [tol, t]])
  have z7 := tv_len (.mk 14 0 0 0 [a, .mk 14 0 0 0 [lc, .mk 14 0 0 0 [tol, t]]])
  generalize hA : Tm.mk 14 0 0 0 [a, .mk 14 0 0 0 [lc, .mk 14 0 0 0 [tol, t]]] = A at *
  generalize hB : Tm.mk 14 0 0 0 [lc, .mk 14 0 0 0 [tol, t]] = B at *
  generalize hD : Tm.mk 14 0 0 0 [tol, t] = D at *
  refine contract_of_vc mixed Tryz.func134 tr134 ?_
  repeat' first
    | simp (config := { maxSteps := 2000000 }) only [go_sem, reduceIte, reduceCtorEq, Nat.reduceAdd, Nat.reduceSub, Nat.reduceMul, Nat.reduceLT, Nat.reduceLeDiff, Nat.reduceEqDiff, Nat.reduceBEq, Nat.reduceGT, Int.reduceEq, Int.reduceNe, Int.reduceLT, Int.reduceLE, Int.reduceToNat, Int.reduceNeg, Int.reduceBEq, Int.reduceAdd, Int.reduceSub, Int.reduceGT, Int.reduceGE, Int.reduceBNe, z1, z2, z3, z4, z5, z6, z7]
    | refine callK_of (c1) ?_
    | refine callK_of (c2) ?_
    | refine callK_of (c3) ?_
    | refine callK_of (c4) ?_
    | refine callK_of (c5) ?_
    | rfl

/-! Beneath one binder: the last entry has nothing but its two sides. -/
def belowR (E : List HT) : List (List SV) := (E.map (liftHF 1)).map HT.v ++ [[.int .i64 0, .int .i64 0, .int .i64 0, .int .i64 0, .int .i64 0, .nils, .int .i64 0, .int .i64 0, .int .i64 0, .int .i64 0, .nils, .int .i64 2, .int .i64 0, .int .i64 0, .int .i64 0, .dsl 5 [], .int .i64 2, .int .i64 0, .int .i64 0, .int .i64 0, .dsl 5 [], .int .i64 0, .int .i64 0, .int .i64 0, .int .i64 0, .nils]]
def belowE (E : List HT) : List HT := E.map (liftHF 1) ++ [⟨0, zT, zT, vr 0, vr 0, zT⟩]
theorem below_row (E : List HT) (x : Nat) (hx : x < E.length) : ((E.map (liftHF 1)).map HT.v)[x]?.getD [] = (liftHF 1 (E[x]?.getD zH)).v := by
  rw [List.getElem?_map, List.getElem?_map, List.getElem?_eq_getElem hx]; rfl
set_option maxRecDepth 20000 in
set_option maxHeartbeats 2000000 in
theorem con_beneath (E : List HT) (hE : ∀ g ∈ E, g.ok ∧ g.low) (hn : E.length ≤ 1000) : Con 133 [.dsl 26 (E.map HT.v)] (.dsl 26 (belowR E)) := by
  have v0 := con_var 0
  rw [tv_mk, List.map_nil] at v0
  unfold belowR
  have hrow := ht_row E
  have hyx := below_row E
  have hys : ((E.map (liftHF 1)).map HT.v).length = E.length := by simp
  have hlen : (E.map HT.v).length = E.length := by simp
  generalize (E.map (liftHF 1)).map HT.v = ys at *
  generalize E.map HT.v = rows at *
  have m1 : (0 : Int) ≤ (E.length : Int) + 1 := by omega
  have m2 : ((E.length : Int) + 1) * 288 ≤ 140737488355328 := by omega
  have m3 : ((E.length : Int) + 1) ≤ 140737488355328 := by omega
  have w1 : IntKind.i64.wrap ((E.length : Int) + 1) = (E.length : Int) + 1 := w64 (by unfold fit; omega)
  have m4 : (E.length + 1) * 288 ≤ 140737488355328 := by omega
  have m5 : E.length + 1 ≤ 140737488355328 := by omega
  refine contract_of_vc mixed Tryz.func133 tr133 ?_
  simp only [go_sem, reduceIte, reduceCtorEq, Nat.reduceAdd, Nat.reduceSub, Nat.reduceMul, Nat.reduceLT, Nat.reduceLeDiff, Nat.reduceEqDiff, Nat.reduceBEq, Nat.reduceGT, Int.reduceEq, Int.reduceNe, Int.reduceLT, Int.reduceLE, Int.reduceToNat, Int.reduceNeg, Int.reduceBEq, Int.reduceAdd, Int.reduceSub, Int.reduceGT, Int.reduceGE, Int.reduceBNe, hlen, m1, m2, m3, w1, Int.le_refl]
  intros
  refine vc_for (fun x => ⟨(.junk :: .junk :: .junk :: .osl 0 x 0 x :: .junk :: .junk :: .junk :: .junk :: .junk :: .junk :: .dsl 26 rows :: .int .i64 E.length :: .int .i64 x :: .junk :: .junk :: .junk :: .junk :: .junk :: .junk :: .junk :: .junk :: .junk :: .junk :: .junk :: .junk :: .junk :: .junk :: .junk :: []), [⟨false, 26, ys.take x, x - 1, x, true⟩]⟩) E.length (fun x hx => ?_) ?_
  · simp only [go_sem, reduceIte, reduceCtorEq, Nat.reduceAdd, Nat.reduceSub, Nat.reduceMul, Nat.reduceLT, Nat.reduceLeDiff, Nat.reduceEqDiff, Nat.reduceBEq, Nat.reduceGT, Int.reduceEq, Int.reduceNe, Int.reduceLT, Int.reduceLE, Int.reduceToNat, Int.reduceNeg, Int.reduceBEq, Int.reduceAdd, Int.reduceSub, Int.reduceGT, Int.reduceGE, Int.reduceBNe]
    refine ⟨fun h => ?_, fun h => ?_⟩
    · have hlt := of_decide_eq_true h
      have hlx : x < E.length := by omega
      have e0 : (0 : Int) ≤ (x : Int) := by omega
      have hr := hrow x hlx
      have hy := hyx x hlx
      obtain ⟨og, wg⟩ := hE _ (get_lt (d := zH) hlx)
      generalize E[x]?.getD zH = g at *
      have cl := con_hLift 1 g og wg
      have hzl : (liftHF 1 g).v.length = 26 := hv_len
      have tn := take_next (l := ys) (d := []) (i := x) (by omega)
      rw [hy] at tn
      have e1 : (ys.take x).length = x := by simp; omega
      have e2 : (x + 1) * 288 ≤ 140737488355328 := by omega
      have e3 : x + 1 ≤ 140737488355328 := by omega
      rw [show g.v = hv g.i g.a g.b g.x g.y g.h from rfl] at cl
      simp only [go_sem, reduceIte, reduceCtorEq, Nat.reduceAdd, Nat.reduceSub, Nat.reduceMul, Nat.reduceLT, Nat.reduceLeDiff, Nat.reduceEqDiff, Nat.reduceBEq, Nat.reduceGT, Int.reduceEq, Int.reduceNe, Int.reduceLT, Int.reduceLE, Int.reduceToNat, Int.reduceNeg, Int.reduceBEq, Int.reduceAdd, Int.reduceSub, Int.reduceGT, Int.reduceGE, Int.reduceBNe, hlt, hlen, e0, hr]
      refine callK_of cl ?_
      simp only [go_sem, reduceIte, reduceCtorEq, Nat.reduceAdd, Nat.reduceSub, Nat.reduceMul, Nat.reduceLT, Nat.reduceLeDiff, Nat.reduceEqDiff, Nat.reduceBEq, Nat.reduceGT, Int.reduceEq, Int.reduceNe, Int.reduceLT, Int.reduceLE, Int.reduceToNat, Int.reduceNeg, Int.reduceBEq, Int.reduceAdd, Int.reduceSub, Int.reduceGT, Int.reduceGE, Int.reduceBNe, hzl, e1, e2, e3, tn]
      refine ⟨hlx, ?_⟩
      rw [w64 (n := (x : Int) + 1) (by unfold fit; omega)]
      exact wk_trunc 1 (by simp [slotsLe]) (by simp) (by simp [below]) (by simp)
    · have hge := of_decide_eq_false h
      have hxe : x = E.length := by omega
      subst hxe
      have ht' : ys.take E.length = ys := by rw [← hys, List.take_length]
      simp only [go_sem, reduceIte, reduceCtorEq, Nat.reduceAdd, Nat.reduceSub, Nat.reduceMul, Nat.reduceLT, Nat.reduceLeDiff, Nat.reduceEqDiff, Nat.reduceBEq, Nat.reduceGT, Int.reduceEq, Int.reduceNe, Int.reduceLT, Int.reduceLE, Int.reduceToNat, Int.reduceNeg, Int.reduceBEq, Int.reduceAdd, Int.reduceSub, Int.reduceGT, Int.reduceGE, Int.reduceBNe, hys, ht']
      refine callK_of v0 ?_
      simp only [go_sem, reduceIte, reduceCtorEq, Nat.reduceAdd, Nat.reduceSub, Nat.reduceMul, Nat.reduceLT, Nat.reduceLeDiff, Nat.reduceEqDiff, Nat.reduceBEq, Nat.reduceGT, Int.reduceEq, Int.reduceNe, Int.reduceLT, Int.reduceLE, Int.reduceToNat, Int.reduceNeg, Int.reduceBEq, Int.reduceAdd, Int.reduceSub, Int.reduceGT, Int.reduceGE, Int.reduceBNe, hys, ht']
      refine callK_of v0 ?_
      simp only [go_sem, reduceIte, reduceCtorEq, Nat.reduceAdd, Nat.reduceSub, Nat.reduceMul, Nat.reduceLT, Nat.reduceLeDiff, Nat.reduceEqDiff, Nat.reduceBEq, Nat.reduceGT, Int.reduceEq, Int.reduceNe, Int.reduceLT, Int.reduceLE, Int.reduceToNat, Int.reduceNeg, Int.reduceBEq, Int.reduceAdd, Int.reduceSub, Int.reduceGT, Int.reduceGE, Int.reduceBNe, hys, ht', m4, m5, fill, splice]
      rw [List.take_of_length_le (by simp [hys])]
  · exact wk_slots (by simp [slotsLe])
theorem below_side (E : List HT) (r : Bool) (x : Nat) (hx : x < E.length + 1) : (((belowR E)[(belowR E).length - 1 - x]?.getD []).drop (bif r then 16 else 11)).take 5 = tv ((sideL (belowE E) r)[x]?.getD default) := by
  have hlen : (belowR E).length = E.length + 1 := by simp [belowR]
  have hlenE : (belowE E).length = E.length + 1 := by simp [belowE]
  have hx' : x < (belowE E).reverse.length := by simpa [hlenE] using hx
  have e : (sideL (belowE E) r)[x]?.getD default = (if r then ((belowE E)[E.length - x]?.getD zH).y else ((belowE E)[E.length - x]?.getD zH).x) := by
    rw [sideL, List.getElem?_map, List.getElem?_eq_getElem hx', List.getElem_reverse, List.getElem?_eq_getElem (by omega)]
    simp only [Option.map_some, Option.getD_some, hlenE, Nat.add_sub_cancel]
  rw [e, hlen, Nat.add_sub_cancel]
  by_cases h0 : x = 0
  · subst h0
    have e1 : (belowR E)[E.length - 0]?.getD [] = [.int .i64 0, .int .i64 0, .int .i64 0, .int .i64 0, .int .i64 0, .nils, .int .i64 0, .int .i64 0, .int .i64 0, .int .i64 0, .nils, .int .i64 2, .int .i64 0, .int .i64 0, .int .i64 0, .dsl 5 [], .int .i64 2, .int .i64 0, .int .i64 0, .int .i64 0, .dsl 5 [], .int .i64 0, .int .i64 0, .int .i64 0, .int .i64 0, .nils] := by
      unfold belowR
      rw [List.getElem?_append_right (by simp)]
      simp
    have e2 : (belowE E)[E.length - 0]?.getD zH = ⟨0, zT, zT, vr 0, vr 0, zT⟩ := by
      unfold belowE
      rw [List.getElem?_append_right (by simp)]
      simp
    rw [e1, e2]
    cases r <;> simp [vr, tv_mk]
  · have hm : E.length - x < E.length := by omega
    have e1 : (belowR E)[E.length - x]?.getD [] = (liftHF 1 (E[E.length - x]?.getD zH)).v := by
      unfold belowR
      rw [List.getElem?_append_left (by simpa using hm), below_row E _ hm]
    have e2 : (belowE E)[E.length - x]?.getD zH = liftHF 1 (E[E.length - x]?.getD zH) := by
      unfold belowE
      rw [List.getElem?_append_left (by simpa using hm), List.getElem?_map, List.getElem?_eq_getElem hm]
      rfl
    rw [e1, e2]
    unfold HT.v
    cases r
    · exact hv_x
    · exact hv_y
theorem con_sideR (rows : List (List SV)) (L : List Tm) (r : Bool) (V : Int) (hV0 : 0 ≤ V) (hV : V ≤ 100000) (hL : VarL V L) (hlL : L.length = rows.length) (hn : rows.length ≤ 1000)
    (hcell : ∀ x, x < rows.length → ((rows[rows.length - 1 - x]?.getD []).drop (bif r then 16 else 11)).take 5 = tv (L[x]?.getD default))
    (t : Tm) (ht : TOk t) (hp : plainT t = true) (hh : hgtT t ≤ 40000) (hf : freeR t ≤ rows.length) :
    Con 70 [.dsl 26 rows, .agg true (tv t), .bool r] (.agg true (tv (sideT L t))) := by
  have hP := varL_put hL hV (by omega)
  have c1 := con_sAll t L ht hp (by omega) hP (by omega)
  obtain ⟨v, hv1, _⟩ := all_of_vars hL hV0 hV t ht 2 0 hp (by omega) (by omega) (by omega)
  unfold sideT
  rw [hv1] at c1 ⊢
  rw [Option.getD_some]
  have hyx := tv_row L
  have hys : (L.map tv).length = rows.length := by rw [List.length_map, hlL]
  have hz := tv_len t
  have hzv := tv_len v
  generalize L.map tv = ys at *
  have m1 : (0 : Int) ≤ (rows.length : Int) := by omega
  have m2 : (rows.length : Int) * 56 ≤ 140737488355328 := by omega
  have m3 : (rows.length : Int) ≤ 140737488355328 := by omega
  have w1 : IntKind.i64.wrap ((rows.length : Int) - 1) = (rows.length : Int) - 1 := w64 (by unfold fit; omega)
  refine contract_of_vc mixed Tryz.func70 tr70 ?_
  simp only [go_sem, reduceIte, reduceCtorEq, Nat.reduceAdd, Nat.reduceSub, Nat.reduceMul, Nat.reduceLT, Nat.reduceLeDiff, Nat.reduceEqDiff, Nat.reduceBEq, Nat.reduceGT, Int.reduceEq, Int.reduceNe, Int.reduceLT, Int.reduceLE, Int.reduceToNat, Int.reduceNeg, Int.reduceBEq, Int.reduceAdd, Int.reduceSub, Int.reduceGT, Int.reduceGE, Int.reduceBNe, m1, m2, m3, w1, Int.le_refl, hz]
  intros
  refine vc_for (fun x => ⟨(.dsl 26 rows :: .junk :: .bool r :: .junk :: .ref 0 0 0 0 :: .junk :: .ref 1 0 0 0 :: .osl 2 x 0 x :: .int .i64 ((rows.length : Int) - 1 - (x : Nat)) :: .junk :: .junk :: .junk :: .junk :: .junk :: .junk :: .junk :: .junk :: .junk :: .junk :: .junk :: .junk :: .junk :: .junk :: .junk :: .junk :: .junk :: .junk :: .junk :: .junk :: .junk :: .junk :: .junk :: .junk :: .junk :: .junk :: .junk :: .junk :: .junk :: .junk :: .junk :: .junk :: .junk :: .junk :: .junk :: .junk :: []),
    [⟨true, 5, [tv t], 0, 0, true⟩, ⟨true, 5, [[.int .i64 0, .int .i64 0, .int .i64 0, .int .i64 0, .nils]], 0, 0, true⟩, ⟨false, 5, ys.take x, x - 1, x, true⟩]⟩) rows.length (fun x hx => ?_) ?_
  · by_cases h : (0 : Int) ≤ (rows.length : Int) - 1 - (x : Nat)
    · have hlx : x < rows.length := by omega
      have hidx : ((rows.length : Int) - 1 - (x : Nat)).toNat = rows.length - 1 - x := by omega
      have hlt2 : (rows.length : Int) - 1 - (x : Nat) < (rows.length : Int) := by omega
      have hr := hcell x hlx
      have hy := hyx x (by omega)
      generalize L[x]?.getD default = u at *
      generalize rows.length - 1 - x = m at *
      have tn := take_next (l := ys) (d := []) (i := x) (by omega)
      rw [hy] at tn
      have hzu := tv_len u
      have e1 : (ys.take x).length = x := by simp; omega
      have e2 : (x + 1) * 56 ≤ 140737488355328 := by omega
      have e3 : x + 1 ≤ 140737488355328 := by omega
      have w4 : IntKind.i64.wrap ((rows.length : Int) - 1 - (x : Nat) - 1) = (rows.length : Int) - 1 - ((x + 1 : Nat) : Int) := by rw [w64 (by unfold fit; omega)]; omega
      cases r
      · change ((rows[m]?.getD []).drop 11).take 5 = tv u at hr
        simp only [go_sem, reduceIte, reduceCtorEq, Nat.reduceAdd, Nat.reduceSub, Nat.reduceMul, Nat.reduceLT, Nat.reduceLeDiff, Nat.reduceEqDiff, Nat.reduceBEq, Nat.reduceGT, Int.reduceEq, Int.reduceNe, Int.reduceLT, Int.reduceLE, Int.reduceToNat, Int.reduceNeg, Int.reduceBEq, Int.reduceAdd, Int.reduceSub, Int.reduceGT, Int.reduceGE, Int.reduceBNe, h, hidx, hlt2, hr, hzu, e1, e2, e3, tn, w4]
        refine ⟨hlx, ?_⟩
        exact wk_trunc 3 (by simp [slotsLe]) (by simp) (by simp [below]) (by simp)
      · change ((rows[m]?.getD []).drop 16).take 5 = tv u at hr
        simp only [go_sem, reduceIte, reduceCtorEq, Nat.reduceAdd, Nat.reduceSub, Nat.reduceMul, Nat.reduceLT, Nat.reduceLeDiff, Nat.reduceEqDiff, Nat.reduceBEq, Nat.reduceGT, Int.reduceEq, Int.reduceNe, Int.reduceLT, Int.reduceLE, Int.reduceToNat, Int.reduceNeg, Int.reduceBEq, Int.reduceAdd, Int.reduceSub, Int.reduceGT, Int.reduceGE, Int.reduceBNe, h, hidx, hlt2, hr, hzu, e1, e2, e3, tn, w4]
        refine ⟨hlx, ?_⟩
        exact wk_trunc 3 (by simp [slotsLe]) (by simp) (by simp [below]) (by simp)
    · have hxe : x = rows.length := by omega
      subst hxe
      have ht' : ys.take rows.length = ys := by rw [← hys, List.take_length]
      simp only [go_sem, reduceIte, reduceCtorEq, Nat.reduceAdd, Nat.reduceSub, Nat.reduceMul, Nat.reduceLT, Nat.reduceLeDiff, Nat.reduceEqDiff, Nat.reduceBEq, Nat.reduceGT, Int.reduceEq, Int.reduceNe, Int.reduceLT, Int.reduceLE, Int.reduceToNat, Int.reduceNeg, Int.reduceBEq, Int.reduceAdd, Int.reduceSub, Int.reduceGT, Int.reduceGE, Int.reduceBNe, h, hys, ht', hz]
      refine callK_of c1 ?_
      simp only [go_sem, reduceIte, reduceCtorEq, Nat.reduceAdd, Nat.reduceSub, Nat.reduceMul, Nat.reduceLT, Nat.reduceLeDiff, Nat.reduceEqDiff, Nat.reduceBEq, Nat.reduceGT, Int.reduceEq, Int.reduceNe, Int.reduceLT, Int.reduceLE, Int.reduceToNat, Int.reduceNeg, Int.reduceBEq, Int.reduceAdd, Int.reduceSub, Int.reduceGT, Int.reduceGE, Int.reduceBNe, resR, Option.map_some, hzv]
  · exact wk_slots (by simp [slotsLe])
end Go.Proofs.YtkldipbhenabfaaGreat.Abs

