/- rel's alike, kind by kind, what it calls being told. -/
import Derived.Test.YtkldipbhenabfaaGreatRLb
import Derived.Test.YtkldipbhenabfaaGreatRAfU
set_option linter.unusedSimpArgs false
set_option linter.unusedVariables false
namespace Go.Proofs.YtkldipbhenabfaaGreat.Abs
open Go Go.RowKit Go.Proofs.YtkldipbhenabfaaGreat

set_option maxRecDepth 20000 in
set_option maxHeartbeats 8000000 in
theorem alike_A (es : List (List SV)) (i : Int) (p0 p1 pp x l0 l1 s lx : Tm) (bv : List SV) (m t h R : HT) (zb : bv.length = 5)
    (c1 : Con 31 [.dsl 26 es, .agg true (tv p0)] (.agg true (tv l0))) (c2 : Con 31 [.dsl 26 es, .agg true (tv p1)] (.agg true (tv l1)))
    (c3 : Con 70 [.dsl 26 es, .agg true (tv pp), .bool false] (.agg true (tv s))) (c4 : Con 31 [.dsl 26 es, .agg true (tv x)] (.agg true (tv lx)))
    (c5 : Con 112 [.int .i64 i, .agg true (tv l0), .agg true (tv l1), .agg true (tv s), .agg true (tv lx)] (.agg true m.v)) (c6 : Con 114 [.agg true m.v] (.agg true t.v))
    (c7 : Con 81 [.dsl 26 es, .agg true (tv x), .agg true bv] (.agg true h.v)) (c8 : Con 113 [.agg true t.v, .agg true h.v] (.agg true R.v)) :
    Con 81 [.dsl 26 es, .agg true [.int .i64 12, .int .i64 i, .int .i64 0, .int .i64 0, .dsl 5 [tv p0, tv p1, tv pp, tv x]], .agg true bv] (.agg true R.v) := by
  have z1 := tv_len p0
  have z2 := tv_len p1
  have z3 := tv_len pp
  have z4 := tv_len x
  have z5 : m.v.length = 26 := hv_len
  have z6 : t.v.length = 26 := hv_len
  have z7 : h.v.length = 26 := hv_len
  have z8 : R.v.length = 26 := hv_len
  generalize m.v = mv at *
  generalize t.v = tv' at *
  generalize h.v = hv' at *
  generalize R.v = Rv at *
  refine contract_of_vc mixed Tryz.func81 tr81 ?_
  repeat' first
    | simp (config := { maxSteps := 2000000 }) only [go_sem, reduceIte, reduceCtorEq, Nat.reduceAdd, Nat.reduceSub, Nat.reduceMul, Nat.reduceLT, Nat.reduceLeDiff, Nat.reduceEqDiff, Nat.reduceBEq, Nat.reduceGT, Int.reduceEq, Int.reduceNe, Int.reduceLT, Int.reduceLE, Int.reduceToNat, Int.reduceNeg, Int.reduceBEq, Int.reduceAdd, Int.reduceSub, Int.reduceGT, Int.reduceGE, Int.reduceBNe, z1, z2, z3, z4, z5, z6, z7, z8, zb]
    | refine callK_of (c1) ?_
    | refine callK_of (c2) ?_
    | refine callK_of (c3) ?_
    | refine callK_of (c4) ?_
    | refine callK_of (c5) ?_
    | refine callK_of (c6) ?_
    | refine callK_of (c7) ?_
    | refine callK_of (c8) ?_
    | rfl
set_option maxRecDepth 20000 in
set_option maxHeartbeats 8000000 in
theorem alike_B (es : List (List SV)) (i ka : Int) (p0 p1 pp x l0 l1 s lx : Tm) (av : List SV) (m h R : HT) (za : av.length = 5) (z0 : av[0]? = some (.int .i64 ka)) (qa : (ka == 12) = false)
    (c1 : Con 32 [.dsl 26 es, .agg true (tv p0)] (.agg true (tv l0))) (c2 : Con 32 [.dsl 26 es, .agg true (tv p1)] (.agg true (tv l1)))
    (c3 : Con 70 [.dsl 26 es, .agg true (tv pp), .bool true] (.agg true (tv s))) (c4 : Con 32 [.dsl 26 es, .agg true (tv x)] (.agg true (tv lx)))
    (c5 : Con 112 [.int .i64 i, .agg true (tv l0), .agg true (tv l1), .agg true (tv s), .agg true (tv lx)] (.agg true m.v))
    (c7 : Con 81 [.dsl 26 es, .agg true av, .agg true (tv x)] (.agg true h.v)) (c8 : Con 113 [.agg true h.v, .agg true m.v] (.agg true R.v)) :
    Con 81 [.dsl 26 es, .agg true av, .agg true [.int .i64 12, .int .i64 i, .int .i64 0, .int .i64 0, .dsl 5 [tv p0, tv p1, tv pp, tv x]]] (.agg true R.v) := by
  have z1 := tv_len p0
  have z2 := tv_len p1
  have z3 := tv_len pp
  have z4 := tv_len x
  have z5 : m.v.length = 26 := hv_len
  have z7 : h.v.length = 26 := hv_len
  have z8 : R.v.length = 26 := hv_len
  generalize m.v = mv at *
  generalize h.v = hv' at *
  generalize R.v = Rv at *
  refine contract_of_vc mixed Tryz.func81 tr81 ?_
  repeat' first
    | simp (config := { maxSteps := 2000000 }) only [go_sem, reduceIte, reduceCtorEq, Nat.reduceAdd, Nat.reduceSub, Nat.reduceMul, Nat.reduceLT, Nat.reduceLeDiff, Nat.reduceEqDiff, Nat.reduceBEq, Nat.reduceGT, Int.reduceEq, Int.reduceNe, Int.reduceLT, Int.reduceLE, Int.reduceToNat, Int.reduceNeg, Int.reduceBEq, Int.reduceAdd, Int.reduceSub, Int.reduceGT, Int.reduceGE, Int.reduceBNe, z1, z2, z3, z4, z5, z7, z8, za, z0, qa]
    | refine callK_of (c1) ?_
    | refine callK_of (c2) ?_
    | refine callK_of (c3) ?_
    | refine callK_of (c4) ?_
    | refine callK_of (c5) ?_
    | refine callK_of (c7) ?_
    | refine callK_of (c8) ?_
    | rfl
set_option maxRecDepth 20000 in
set_option maxHeartbeats 8000000 in
theorem alike_sort (es : List (List SV)) (i : Int) (hi : 0 ≤ i ∧ i ≤ 996) :
    Con 81 [.dsl 26 es, .agg true [.int .i64 1, .int .i64 i, .int .i64 0, .int .i64 0, .dsl 5 []], .agg true [.int .i64 1, .int .i64 i, .int .i64 0, .int .i64 0, .dsl 5 []]] (.agg true (selfF (i + 2) (so (i + 1)) (so i)).v) := by
  have w1 : IntKind.i64.wrap (i + 1) = i + 1 := w64 (by unfold fit; omega)
  have w2 : IntKind.i64.wrap (i + 2) = i + 2 := w64 (by unfold fit; omega)
  have o1 : TOk (so (i + 1)) := tok_so (by unfold fit; omega)
  have o2 : TOk (so i) := tok_so (by unfold fit; omega)
  have c1 := con_sort (i + 1)
  have c2 := con_sort i
  have c3 := con_hSelf (i + 2) _ _ o1 o2
  have zr : (selfF (i + 2) (so (i + 1)) (so i)).v.length = 26 := hv_len
  generalize (selfF (i + 2) (so (i + 1)) (so i)).v = R at *
  unfold so at c3
  refine contract_of_vc mixed Tryz.func81 tr81 ?_
  repeat' first
    | simp (config := { maxSteps := 2000000 }) only [go_sem, reduceIte, reduceCtorEq, Nat.reduceAdd, Nat.reduceSub, Nat.reduceMul, Nat.reduceLT, Nat.reduceLeDiff, Nat.reduceEqDiff, Nat.reduceBEq, Nat.reduceGT, Int.reduceEq, Int.reduceNe, Int.reduceLT, Int.reduceLE, Int.reduceToNat, Int.reduceNeg, Int.reduceBEq, Int.reduceAdd, Int.reduceSub, Int.reduceGT, Int.reduceGE, Int.reduceBNe, w1, w2, zr]
    | refine callK_of (c1) ?_
    | refine callK_of (c2) ?_
    | refine callK_of (c3) ?_
    | rfl
set_option maxRecDepth 20000 in
set_option maxHeartbeats 8000000 in
theorem alike_var (es : List (List SV)) (i : Int) (g : HT) (hi : 0 ≤ i) (hn : es.length ≤ 1000) (hl : i < (es.length : Int)) (hg : es[((es.length : Int) - 1 - i).toNat]?.getD [] = g.v) :
    Con 81 [.dsl 26 es, .agg true [.int .i64 2, .int .i64 i, .int .i64 0, .int .i64 0, .dsl 5 []], .agg true [.int .i64 2, .int .i64 i, .int .i64 0, .int .i64 0, .dsl 5 []]] (.agg true g.v) := by
  have w1 : IntKind.i64.wrap ((es.length : Int) - 1) = (es.length : Int) - 1 := w64 (by unfold fit; omega)
  have w2 : IntKind.i64.wrap ((es.length : Int) - 1 - i) = (es.length : Int) - 1 - i := w64 (by unfold fit; omega)
  have e0 : (0 : Int) ≤ (es.length : Int) - 1 - i := by omega
  have e1 : (es.length : Int) - 1 - i < (es.length : Int) := by omega
  have zr : g.v.length = 26 := hv_len
  generalize g.v = R at *
  refine contract_of_vc mixed Tryz.func81 tr81 ?_
  simp only [go_sem, reduceIte, reduceCtorEq, Nat.reduceAdd, Nat.reduceSub, Nat.reduceMul, Nat.reduceLT, Nat.reduceLeDiff, Nat.reduceEqDiff, Nat.reduceBEq, Nat.reduceGT, Int.reduceEq, Int.reduceNe, Int.reduceLT, Int.reduceLE, Int.reduceToNat, Int.reduceNeg, Int.reduceBEq, Int.reduceAdd, Int.reduceSub, Int.reduceGT, Int.reduceGE, Int.reduceBNe, w1, w2, e0, e1, hg, zr]
  try intros
  try simp only [go_sem, reduceIte, reduceCtorEq, Nat.reduceAdd, Nat.reduceSub, Nat.reduceMul, Nat.reduceLT, Nat.reduceLeDiff, Nat.reduceEqDiff, Nat.reduceBEq, Nat.reduceGT, Int.reduceEq, Int.reduceNe, Int.reduceLT, Int.reduceLE, Int.reduceToNat, Int.reduceNeg, Int.reduceBEq, Int.reduceAdd, Int.reduceSub, Int.reduceGT, Int.reduceGE, Int.reduceBNe, w1, w2, e0, e1, hg, zr]
set_option maxRecDepth 20000 in
set_option maxHeartbeats 8000000 in
theorem alike_eq (es ra rb : List (List SV)) (k i j n k' i' j' n' : Int) (R : HT) (hk : k = 10 ∨ k = 11) (hk' : k' ≠ 12)
    (c1 : Con 115 [.dsl 26 es, .agg true [.int .i64 k, .int .i64 i, .int .i64 j, .int .i64 n, .dsl 5 ra], .agg true [.int .i64 k', .int .i64 i', .int .i64 j', .int .i64 n', .dsl 5 rb]] (.agg true R.v)) :
    Con 81 [.dsl 26 es, .agg true [.int .i64 k, .int .i64 i, .int .i64 j, .int .i64 n, .dsl 5 ra], .agg true [.int .i64 k', .int .i64 i', .int .i64 j', .int .i64 n', .dsl 5 rb]] (.agg true R.v) := by
  have q : (k' == 12) = false := beq_no hk'
  have zr : R.v.length = 26 := hv_len
  generalize R.v = Rv at *
  refine contract_of_vc mixed Tryz.func81 tr81 ?_
  rcases hk with rfl | rfl
  all_goals
    repeat' first
      | simp (config := { maxSteps := 2000000 }) only [go_sem, reduceIte, reduceCtorEq, Nat.reduceAdd, Nat.reduceSub, Nat.reduceMul, Nat.reduceLT, Nat.reduceLeDiff, Nat.reduceEqDiff, Nat.reduceBEq, Nat.reduceGT, Int.reduceEq, Int.reduceNe, Int.reduceLT, Int.reduceLE, Int.reduceToNat, Int.reduceNeg, Int.reduceBEq, Int.reduceAdd, Int.reduceSub, Int.reduceGT, Int.reduceGE, Int.reduceBNe, q, zr]
      | refine callK_of (c1) ?_
      | rfl
set_option maxRecDepth 20000 in
set_option maxHeartbeats 8000000 in
theorem alike_fam (es ra rb : List (List SV)) (k i j n k' i' j' n' : Int) (R : HT) (hk : 3 ≤ k ∧ k ≤ 9) (hk' : k' ≠ 12)
    (c1 : Con 116 [.dsl 26 es, .agg true [.int .i64 k, .int .i64 i, .int .i64 j, .int .i64 n, .dsl 5 ra], .agg true [.int .i64 k', .int .i64 i', .int .i64 j', .int .i64 n', .dsl 5 rb]] (.agg true R.v)) :
    Con 81 [.dsl 26 es, .agg true [.int .i64 k, .int .i64 i, .int .i64 j, .int .i64 n, .dsl 5 ra], .agg true [.int .i64 k', .int .i64 i', .int .i64 j', .int .i64 n', .dsl 5 rb]] (.agg true R.v) := by
  have q : (k' == 12) = false := beq_no hk'
  have q1 : (k == 12) = false := beq_no (by omega)
  have q2 : (k == 1) = false := beq_no (by omega)
  have q3 : (k == 2) = false := beq_no (by omega)
  have q4 : (k == 10) = false := beq_no (by omega)
  have q5 : (k == 11) = false := beq_no (by omega)
  have zr : R.v.length = 26 := hv_len
  generalize R.v = Rv at *
  refine contract_of_vc mixed Tryz.func81 tr81 ?_
  repeat' first
    | simp (config := { maxSteps := 2000000 }) only [go_sem, reduceIte, reduceCtorEq, Nat.reduceAdd, Nat.reduceSub, Nat.reduceMul, Nat.reduceLT, Nat.reduceLeDiff, Nat.reduceEqDiff, Nat.reduceBEq, Nat.reduceGT, Int.reduceEq, Int.reduceNe, Int.reduceLT, Int.reduceLE, Int.reduceToNat, Int.reduceNeg, Int.reduceBEq, Int.reduceAdd, Int.reduceSub, Int.reduceGT, Int.reduceGE, Int.reduceBNe, q, q1, q2, q3, q4, q5, zr]
    | refine callK_of (c1) ?_
    | rfl
theorem con_leftR (rows : List (List SV)) (L : List Tm) (V : Int) (hV0 : 0 ≤ V) (hV : V ≤ 100000) (hL : VarL V L) (hlL : L.length = rows.length) (hn : rows.length ≤ 1000)
    (hcell : ∀ x, x < rows.length → ((rows[rows.length - 1 - x]?.getD []).drop (bif false then 16 else 11)).take 5 = tv (L[x]?.getD default))
    (t : Tm) (ht : TOk t) (hm : markT t = true) (hh : hgtT t ≤ 40000) (hf : freeR t ≤ rows.length) :
    Con 31 [.dsl 26 rows, .agg true (tv t)] (.agg true (tv (sideT L (stripT t)))) := by
  obtain ⟨s1, s2, s3⟩ := strip_of t ht hm
  have s4 := free_strip t hm
  have c0 := con_StripF t ht
  unfold stripF at c0
  rw [mark_right hm, if_pos rfl] at c0
  have c1 := con_sideR rows L false V hV0 hV hL hlL hn hcell (stripT t) s2 s1 (by omega) (by omega)
  have hz := tv_len t
  have hz2 := tv_len (sideT L (stripT t))
  refine contract_of_vc mixed Tryz.func31 tr31 ?_
  repeat' first
    | simp (config := { maxSteps := 2000000 }) only [go_sem, reduceIte, reduceCtorEq, Nat.reduceAdd, Nat.reduceSub, Nat.reduceMul, Nat.reduceLT, Nat.reduceLeDiff, Nat.reduceEqDiff, Nat.reduceBEq, Nat.reduceGT, Int.reduceEq, Int.reduceNe, Int.reduceLT, Int.reduceLE, Int.reduceToNat, Int.reduceNeg, Int.reduceBEq, Int.reduceAdd, Int.reduceSub, Int.reduceGT, Int.reduceGE, Int.reduceBNe, hz, hz2]
    | refine callK_of (c0) ?_
    | refine callK_of (c1) ?_
    | rfl
theorem con_rgtR (rows : List (List SV)) (L : List Tm) (V : Int) (hV0 : 0 ≤ V) (hV : V ≤ 100000) (hL : VarL V L) (hlL : L.length = rows.length) (hn : rows.length ≤ 1000)
    (hcell : ∀ x, x < rows.length → ((rows[rows.length - 1 - x]?.getD []).drop (bif true then 16 else 11)).take 5 = tv (L[x]?.getD default))
    (t : Tm) (ht : TOk t) (hm : markT t = true) (hh : hgtT t ≤ 40000) (hf : freeR t ≤ rows.length) :
    Con 32 [.dsl 26 rows, .agg true (tv t)] (.agg true (tv (sideT L (stripT t)))) := by
  obtain ⟨s1, s2, s3⟩ := strip_of t ht hm
  have s4 := free_strip t hm
  have c0 := con_StripF t ht
  unfold stripF at c0
  rw [mark_right hm, if_pos rfl] at c0
  have c1 := con_sideR rows L true V hV0 hV hL hlL hn hcell (stripT t) s2 s1 (by omega) (by omega)
  have hz := tv_len t
  have hz2 := tv_len (sideT L (stripT t))
  refine contract_of_vc mixed Tryz.func32 tr32 ?_
  repeat' first
    | simp (config := { maxSteps := 2000000 }) only [go_sem, reduceIte, reduceCtorEq, Nat.reduceAdd, Nat.reduceSub, Nat.reduceMul, Nat.reduceLT, Nat.reduceLeDiff, Nat.reduceEqDiff, Nat.reduceBEq, Nat.reduceGT, Int.reduceEq, Int.reduceNe, Int.reduceLT, Int.reduceLE, Int.reduceToNat, Int.reduceNeg, Int.reduceBEq, Int.reduceAdd, Int.reduceSub, Int.reduceGT, Int.reduceGE, Int.reduceBNe, hz, hz2]
    | refine callK_of (c0) ?_
    | refine callK_of (c1) ?_
    | rfl
end Go.Proofs.YtkldipbhenabfaaGreat.Abs

