/- rel's types, equal and family: what they come to, what they call being told. Printed by genLc.py. -/
import Derived.Test.YtkldipbhenabfaaGreatRLb
import Derived.Test.YtkldipbhenabfaaGreatRAfU
import Derived.Test.YtkldipbhenabfaaGreatRAfV
set_option linter.unusedSimpArgs false
set_option linter.unusedVariables false
namespace Go.Proofs.YtkldipbhenabfaaGreat.Abs
open Go Go.RowKit Go.Proofs.YtkldipbhenabfaaGreat

section
variable {i j : Int} {a c b d e f : Tm} {r : List SV}
theorem fp_fill : fill [.int .i64 0, .int .i64 0, .int .i64 0, .int .i64 0, .int .i64 0, .int .i64 0, .nils, .int .i64 0, .int .i64 0, .int .i64 0, .int .i64 0, .nils, .int .i64 0, .int .i64 0, .int .i64 0, .int .i64 0, .nils, .int .i64 0, .int .i64 0, .int .i64 0, .int .i64 0, .nils, .int .i64 0, .int .i64 0, .int .i64 0, .int .i64 0, .nils, .int .i64 0, .int .i64 0, .int .i64 0, .int .i64 0, .nils] [(0, 1, .int .i64 i), (1, 1, .int .i64 j), (2, 5, .agg true (tv a)), (7, 5, .agg true (tv c))] = .int .i64 i :: .int .i64 j :: (tv a ++ (tv c ++ [.int .i64 0, .int .i64 0, .int .i64 0, .int .i64 0, .nils, .int .i64 0, .int .i64 0, .int .i64 0, .int .i64 0, .nils, .int .i64 0, .int .i64 0, .int .i64 0, .int .i64 0, .nils, .int .i64 0, .int .i64 0, .int .i64 0, .int .i64 0, .nils])) := by
  simp [fill, splice, cellsOf, tv_cells]
theorem fp_e : splice 32 5 22 (.int .i64 i :: .int .i64 j :: (tv a ++ (tv c ++ [.int .i64 0, .int .i64 0, .int .i64 0, .int .i64 0, .nils, .int .i64 0, .int .i64 0, .int .i64 0, .int .i64 0, .nils, .int .i64 0, .int .i64 0, .int .i64 0, .int .i64 0, .nils, .int .i64 0, .int .i64 0, .int .i64 0, .int .i64 0, .nils]))) (tv e) = .int .i64 i :: .int .i64 j :: (tv a ++ (tv c ++ (.int .i64 0 :: .int .i64 0 :: .int .i64 0 :: .int .i64 0 :: .nils :: .int .i64 0 :: .int .i64 0 :: .int .i64 0 :: .int .i64 0 :: .nils :: (tv e ++ [.int .i64 0, .int .i64 0, .int .i64 0, .int .i64 0, .nils])))) := by
  simp [splice, tv_cells]
theorem fp_b : splice 32 5 12 (.int .i64 i :: .int .i64 j :: (tv a ++ (tv c ++ (.int .i64 0 :: .int .i64 0 :: .int .i64 0 :: .int .i64 0 :: .nils :: .int .i64 0 :: .int .i64 0 :: .int .i64 0 :: .int .i64 0 :: .nils :: (tv e ++ [.int .i64 0, .int .i64 0, .int .i64 0, .int .i64 0, .nils]))))) (tv b) = .int .i64 i :: .int .i64 j :: (tv a ++ (tv c ++ (tv b ++ (.int .i64 0 :: .int .i64 0 :: .int .i64 0 :: .int .i64 0 :: .nils :: (tv e ++ [.int .i64 0, .int .i64 0, .int .i64 0, .int .i64 0, .nils]))))) := by
  simp [splice, tv_cells]
theorem fp_d : splice 32 5 17 (.int .i64 i :: .int .i64 j :: (tv a ++ (tv c ++ (tv b ++ (.int .i64 0 :: .int .i64 0 :: .int .i64 0 :: .int .i64 0 :: .nils :: (tv e ++ [.int .i64 0, .int .i64 0, .int .i64 0, .int .i64 0, .nils])))))) (tv d) = .int .i64 i :: .int .i64 j :: (tv a ++ (tv c ++ (tv b ++ (tv d ++ (tv e ++ [.int .i64 0, .int .i64 0, .int .i64 0, .int .i64 0, .nils]))))) := by
  simp [splice, tv_cells]
theorem fp_f : splice 32 5 27 (.int .i64 i :: .int .i64 j :: (tv a ++ (tv c ++ (tv b ++ (tv d ++ (tv e ++ [.int .i64 0, .int .i64 0, .int .i64 0, .int .i64 0, .nils])))))) (tv f) = fv i j a c b d e f := by
  simp [splice, fv, tv_cells]
theorem fp_2 : ((.int .i64 i :: .int .i64 j :: (tv a ++ r)).drop 2).take 5 = tv a := by simp [tv_cells]
theorem fp_7 : ((.int .i64 i :: .int .i64 j :: (tv a ++ (tv c ++ r))).drop 7).take 5 = tv c := by simp [tv_cells]
theorem fp_d2 : (SV.int .i64 i :: .int .i64 j :: (tv a ++ r)).drop 2 = tv a ++ r := rfl
theorem fp_t2 : (tv a ++ r).take 5 = tv a := by simp [tv_cells]
theorem fp_d7 : (SV.int .i64 i :: .int .i64 j :: (tv a ++ (tv c ++ r))).drop 7 = tv c ++ r := by simp [tv_cells]
theorem fp_len {p q s t : List SV} : (SV.int .i64 i :: .int .i64 j :: (tv a ++ (tv c ++ (p ++ (q ++ (s ++ t)))))).length = 12 + (p.length + (q.length + (s.length + t.length))) := by simp [tv_len]; omega
theorem cut_p27 {cl : Bool} {cs : List SV} : cut cl 27 true 5 21 cs = .agg cl ((cs.drop 21).take 5) := by simp [cut]
end
set_option maxRecDepth 20000 in
set_option maxHeartbeats 2000000 in
theorem con_relTypes (es : List (List SV)) (i : Int) (av bv : List SV) (e la rb : Tm) (hi : 0 ≤ i ∧ i ≤ 1000) (hla : TOk la) (hrb : TOk rb) (he : TOk e) (za : av.length = 5) (zb : bv.length = 5)
    (cl : Con 31 [.dsl 26 es, .agg true av] (.agg true (tv la))) (cr : Con 32 [.dsl 26 es, .agg true bv] (.agg true (tv rb))) :
    Con 131 [.dsl 26 es, .int .i64 i, .agg true av, .agg true bv, .agg true (tv e)] (.agg true (ofF (i + 1) (so i) la rb e).v) := by
  have c1 := con_sort i
  change Con _ _ (.agg true (tv (so i))) at c1
  have c2 := con_hOf (i + 1) (so i) la rb e (tok_so (by unfold fit; omega)) hla hrb he
  have ew := fit_near hi
  have ze := tv_len e
  have zr : (ofF (i + 1) (so i) la rb e).v.length = 26 := hv_len
  generalize (ofF (i + 1) (so i) la rb e).v = R at *
  refine contract_of_vc mixed Tryz.func131 tr131 ?_
  repeat' first
    | simp (config := { maxSteps := 2000000 }) only [go_sem, reduceIte, reduceCtorEq, Nat.reduceAdd, Nat.reduceSub, Nat.reduceMul, Nat.reduceLT, Nat.reduceLeDiff, Nat.reduceEqDiff, Nat.reduceBEq, Nat.reduceGT, Int.reduceEq, Int.reduceNe, Int.reduceLT, Int.reduceLE, Int.reduceToNat, Int.reduceNeg, Int.reduceBEq, Int.reduceAdd, Int.reduceSub, Int.reduceGT, Int.reduceGE, Int.reduceBNe, ew, ze, zr, za, zb]
    | refine callK_of (c1) ?_
    | refine callK_of (cl) ?_
    | refine callK_of (cr) ?_
    | refine callK_of (c2) ?_
    | rfl

set_option maxRecDepth 20000 in
set_option maxHeartbeats 8000000 in
theorem equal_10 (es : List (List SV)) (i : Int) (a0 a1 a2 b0 b1 b2 l0 r0 e0 P : Tm) (h0 h1 h2 R : HT)
    (c1 : Con 31 [.dsl 26 es, .agg true (tv a0)] (.agg true (tv l0)))
    (c2 : Con 32 [.dsl 26 es, .agg true (tv b0)] (.agg true (tv r0)))
    (c3 : Con 81 [.dsl 26 es, .agg true (tv a0), .agg true (tv b0)] (.agg true h0.v))
    (c4 : Con 129 [.agg true h0.v] (.agg true (tv e0)))
    (c5 : Con 81 [.dsl 26 es, .agg true (tv a1), .agg true (tv b1)] (.agg true h1.v))
    (c6 : Con 81 [.dsl 26 es, .agg true (tv a2), .agg true (tv b2)] (.agg true h2.v))
    (c7 : Con 132 [.int .i64 i, .agg true (tv l0), .agg true (tv r0), .agg true (tv e0), .agg true h1.v, .agg true h2.v] (.agg true (tv P)))
    (c8 : Con 131 [.dsl 26 es, .int .i64 i, .agg true [.int .i64 10, .int .i64 i, .int .i64 0, .int .i64 0, .dsl 5 [tv a0, tv a1, tv a2]], .agg true [.int .i64 10, .int .i64 i, .int .i64 0, .int .i64 0, .dsl 5 [tv b0, tv b1, tv b2]], .agg true (tv P)] (.agg true R.v)) :
    Con 115 [.dsl 26 es, .agg true [.int .i64 10, .int .i64 i, .int .i64 0, .int .i64 0, .dsl 5 [tv a0, tv a1, tv a2]], .agg true [.int .i64 10, .int .i64 i, .int .i64 0, .int .i64 0, .dsl 5 [tv b0, tv b1, tv b2]]] (.agg true R.v) := by
  have za0 := tv_len a0
  have za1 := tv_len a1
  have za2 := tv_len a2
  have zb0 := tv_len b0
  have zb1 := tv_len b1
  have zb2 := tv_len b2
  have zl0 := tv_len l0
  have zr0 := tv_len r0
  have ze0 := tv_len e0
  have zP := tv_len P
  have zh0 : h0.v.length = 26 := hv_len
  have zh1 : h1.v.length = 26 := hv_len
  have zh2 : h2.v.length = 26 := hv_len
  have zR : R.v.length = 26 := hv_len
  generalize h0.v = vh0 at *
  generalize h1.v = vh1 at *
  generalize h2.v = vh2 at *
  generalize R.v = vR at *
  refine contract_of_vc mixed Tryz.func115 tr115 ?_
  repeat' first
    | simp (config := { maxSteps := 2000000 }) only [go_sem, reduceIte, reduceCtorEq, Nat.reduceAdd, Nat.reduceSub, Nat.reduceMul, Nat.reduceLT, Nat.reduceLeDiff, Nat.reduceEqDiff, Nat.reduceBEq, Nat.reduceGT, Int.reduceEq, Int.reduceNe, Int.reduceLT, Int.reduceLE, Int.reduceToNat, Int.reduceNeg, Int.reduceBEq, Int.reduceAdd, Int.reduceSub, Int.reduceGT, Int.reduceGE, Int.reduceBNe, za0, za1, za2, zb0, zb1, zb2, zl0, zr0, ze0, zP, zh0, zh1, zh2, zR]
    | refine callK_of (c1) ?_
    | refine callK_of (c2) ?_
    | refine callK_of (c3) ?_
    | refine callK_of (c4) ?_
    | refine callK_of (c5) ?_
    | refine callK_of (c6) ?_
    | refine callK_of (c7) ?_
    | refine callK_of (c8) ?_
    | rfl

set_option maxRecDepth 20000 in
set_option maxHeartbeats 8000000 in
theorem equal_11 (es : List (List SV)) (i : Int) (a0 a1 b0 b1 l0 r0 e0 : Tm) (h0 h1 R : HT)
    (c1 : Con 31 [.dsl 26 es, .agg true (tv a0)] (.agg true (tv l0)))
    (c2 : Con 32 [.dsl 26 es, .agg true (tv b0)] (.agg true (tv r0)))
    (c3 : Con 81 [.dsl 26 es, .agg true (tv a0), .agg true (tv b0)] (.agg true h0.v))
    (c4 : Con 129 [.agg true h0.v] (.agg true (tv e0)))
    (c5 : Con 81 [.dsl 26 es, .agg true (tv a1), .agg true (tv b1)] (.agg true h1.v))
    (c6 : Con 130 [.int .i64 i, .agg true (tv l0), .agg true (tv r0), .agg true (tv e0), .agg true h1.v] (.agg true R.v)) :
    Con 115 [.dsl 26 es, .agg true [.int .i64 11, .int .i64 i, .int .i64 0, .int .i64 0, .dsl 5 [tv a0, tv a1]], .agg true [.int .i64 11, .int .i64 i, .int .i64 0, .int .i64 0, .dsl 5 [tv b0, tv b1]]] (.agg true R.v) := by
  have za0 := tv_len a0
  have za1 := tv_len a1
  have zb0 := tv_len b0
  have zb1 := tv_len b1
  have zl0 := tv_len l0
  have zr0 := tv_len r0
  have ze0 := tv_len e0
  have zh0 : h0.v.length = 26 := hv_len
  have zh1 : h1.v.length = 26 := hv_len
  have zR : R.v.length = 26 := hv_len
  generalize h0.v = vh0 at *
  generalize h1.v = vh1 at *
  generalize R.v = vR at *
  refine contract_of_vc mixed Tryz.func115 tr115 ?_
  repeat' first
    | simp (config := { maxSteps := 2000000 }) only [go_sem, reduceIte, reduceCtorEq, Nat.reduceAdd, Nat.reduceSub, Nat.reduceMul, Nat.reduceLT, Nat.reduceLeDiff, Nat.reduceEqDiff, Nat.reduceBEq, Nat.reduceGT, Int.reduceEq, Int.reduceNe, Int.reduceLT, Int.reduceLE, Int.reduceToNat, Int.reduceNeg, Int.reduceBEq, Int.reduceAdd, Int.reduceSub, Int.reduceGT, Int.reduceGE, Int.reduceBNe, za0, za1, zb0, zb1, zl0, zr0, ze0, zh0, zh1, zR]
    | refine callK_of (c1) ?_
    | refine callK_of (c2) ?_
    | refine callK_of (c3) ?_
    | refine callK_of (c4) ?_
    | refine callK_of (c5) ?_
    | refine callK_of (c6) ?_
    | rfl

set_option maxRecDepth 40000 in
set_option maxHeartbeats 16000000 in
theorem family_3 (es os ins : List (List SV)) (i j : Int) (a0 a1 b0 b1 l0 r0 l1 r1 e0 e1 F P : Tm) (h0 h1 R : HT)
    (c1 : Con 31 [.dsl 26 es, .agg true (tv a0)] (.agg true (tv l0)))
    (c2 : Con 32 [.dsl 26 es, .agg true (tv b0)] (.agg true (tv r0)))
    (c3 : Con 81 [.dsl 26 es, .agg true (tv a0), .agg true (tv b0)] (.agg true h0.v))
    (c4 : Con 129 [.agg true h0.v] (.agg true (tv e0)))
    (c5 : Con 133 [.dsl 26 es] (.dsl 26 os))
    (c6 : Con 36 [.dsl 26 es, .int .i64 i, .agg true (tv l0), .agg true (tv r0)] (.dsl 26 ins))
    (c7 : Con 31 [.dsl 26 os, .agg true (tv a1)] (.agg true (tv l1)))
    (c8 : Con 32 [.dsl 26 os, .agg true (tv b1)] (.agg true (tv r1)))
    (c9 : Con 81 [.dsl 26 ins, .agg true (tv a1), .agg true (tv b1)] (.agg true h1.v))
    (d1 : Con 129 [.agg true h1.v] (.agg true (tv e1)))
    (d2 : Con 134 [.int .i64 i, .agg true (tv l0), .agg true (tv r0), .agg true (tv e1)] (.agg true (tv F)))
    (d3 : Con 135 [.agg true (fv i j l0 r0 l1 r1 e0 F)] (.agg true (tv P)))
    (d4 : Con 131 [.dsl 26 es, .int .i64 (if j > i then j else i), .agg true [.int .i64 3, .int .i64 i, .int .i64 j, .int .i64 0, .dsl 5 [tv a0, tv a1]], .agg true [.int .i64 3, .int .i64 i, .int .i64 j, .int .i64 0, .dsl 5 [tv b0, tv b1]], .agg true (tv P)] (.agg true R.v)) :
    Con 116 [.dsl 26 es, .agg true [.int .i64 3, .int .i64 i, .int .i64 j, .int .i64 0, .dsl 5 [tv a0, tv a1]], .agg true [.int .i64 3, .int .i64 i, .int .i64 j, .int .i64 0, .dsl 5 [tv b0, tv b1]]] (.agg true R.v) := by
  have za0 := tv_len a0
  have za1 := tv_len a1
  have zb0 := tv_len b0
  have zb1 := tv_len b1
  have zl0 := tv_len l0
  have zr0 := tv_len r0
  have zl1 := tv_len l1
  have zr1 := tv_len r1
  have ze0 := tv_len e0
  have ze1 := tv_len e1
  have zF := tv_len F
  have zP := tv_len P
  have zh0 : h0.v.length = 26 := hv_len
  have zh1 : h1.v.length = 26 := hv_len
  have zR : R.v.length = 26 := hv_len
  generalize h0.v = vh0 at *
  generalize h1.v = vh1 at *
  generalize R.v = vR at *
  have zf : (fv i j l0 r0 l1 r1 e0 F).length = 32 := fv_len
  refine contract_of_vc mixed Tryz.func116 tr116 ?_
  repeat' first
    | simp (config := { maxSteps := 2000000 }) only [go_sem, reduceIte, reduceCtorEq, Nat.reduceAdd, Nat.reduceSub, Nat.reduceMul, Nat.reduceLT, Nat.reduceLeDiff, Nat.reduceEqDiff, Nat.reduceBEq, Nat.reduceGT, Int.reduceEq, Int.reduceNe, Int.reduceLT, Int.reduceLE, Int.reduceToNat, Int.reduceNeg, Int.reduceBEq, Int.reduceAdd, Int.reduceSub, Int.reduceGT, Int.reduceGE, Int.reduceBNe, cut_p27, fp_fill, fp_e, fp_b, fp_d, fp_f, fp_2, fp_7, fp_d2, fp_t2, fp_d7, fp_len, zf, za0, za1, zb0, zb1, zl0, zr0, zl1, zr1, ze0, ze1, zF, zP, zh0, zh1, zR]
    | refine callK_of (c1) ?_
    | refine callK_of (c2) ?_
    | refine callK_of (c3) ?_
    | refine callK_of (c4) ?_
    | refine callK_of (c5) ?_
    | refine callK_of (c6) ?_
    | refine callK_of (c7) ?_
    | refine callK_of (c8) ?_
    | refine callK_of (c9) ?_
    | refine callK_of (d1) ?_
    | refine callK_of (d2) ?_
    | refine callK_of (d3) ?_
    | refine callK_of (d4) ?_
    | rfl

set_option maxRecDepth 40000 in
set_option maxHeartbeats 16000000 in
theorem family_6 (es os ins : List (List SV)) (i j : Int) (a0 a1 b0 b1 l0 r0 l1 r1 e0 e1 F P : Tm) (h0 h1 R : HT)
    (c1 : Con 31 [.dsl 26 es, .agg true (tv a0)] (.agg true (tv l0)))
    (c2 : Con 32 [.dsl 26 es, .agg true (tv b0)] (.agg true (tv r0)))
    (c3 : Con 81 [.dsl 26 es, .agg true (tv a0), .agg true (tv b0)] (.agg true h0.v))
    (c4 : Con 129 [.agg true h0.v] (.agg true (tv e0)))
    (c5 : Con 133 [.dsl 26 es] (.dsl 26 os))
    (c6 : Con 36 [.dsl 26 es, .int .i64 i, .agg true (tv l0), .agg true (tv r0)] (.dsl 26 ins))
    (c7 : Con 31 [.dsl 26 os, .agg true (tv a1)] (.agg true (tv l1)))
    (c8 : Con 32 [.dsl 26 os, .agg true (tv b1)] (.agg true (tv r1)))
    (c9 : Con 81 [.dsl 26 ins, .agg true (tv a1), .agg true (tv b1)] (.agg true h1.v))
    (d1 : Con 129 [.agg true h1.v] (.agg true (tv e1)))
    (d2 : Con 134 [.int .i64 i, .agg true (tv l0), .agg true (tv r0), .agg true (tv e1)] (.agg true (tv F)))
    (d3 : Con 136 [.agg true (fv i j l0 r0 l1 r1 e0 F)] (.agg true (tv P)))
    (d4 : Con 131 [.dsl 26 es, .int .i64 (if j > i then j else i), .agg true [.int .i64 6, .int .i64 i, .int .i64 j, .int .i64 0, .dsl 5 [tv a0, tv a1]], .agg true [.int .i64 6, .int .i64 i, .int .i64 j, .int .i64 0, .dsl 5 [tv b0, tv b1]], .agg true (tv P)] (.agg true R.v)) :
    Con 116 [.dsl 26 es, .agg true [.int .i64 6, .int .i64 i, .int .i64 j, .int .i64 0, .dsl 5 [tv a0, tv a1]], .agg true [.int .i64 6, .int .i64 i, .int .i64 j, .int .i64 0, .dsl 5 [tv b0, tv b1]]] (.agg true R.v) := by
  have za0 := tv_len a0
  have za1 := tv_len a1
  have zb0 := tv_len b0
  have zb1 := tv_len b1
  have zl0 := tv_len l0
  have zr0 := tv_len r0
  have zl1 := tv_len l1
  have zr1 := tv_len r1
  have ze0 := tv_len e0
  have ze1 := tv_len e1
  have zF := tv_len F
  have zP := tv_len P
  have zh0 : h0.v.length = 26 := hv_len
  have zh1 : h1.v.length = 26 := hv_len
  have zR : R.v.length = 26 := hv_len
  generalize h0.v = vh0 at *
  generalize h1.v = vh1 at *
  generalize R.v = vR at *
  have zf : (fv i j l0 r0 l1 r1 e0 F).length = 32 := fv_len
  refine contract_of_vc mixed Tryz.func116 tr116 ?_
  repeat' first
    | simp (config := { maxSteps := 2000000 }) only [go_sem, reduceIte, reduceCtorEq, Nat.reduceAdd, Nat.reduceSub, Nat.reduceMul, Nat.reduceLT, Nat.reduceLeDiff, Nat.reduceEqDiff, Nat.reduceBEq, Nat.reduceGT, Int.reduceEq, Int.reduceNe, Int.reduceLT, Int.reduceLE, Int.reduceToNat, Int.reduceNeg, Int.reduceBEq, Int.reduceAdd, Int.reduceSub, Int.reduceGT, Int.reduceGE, Int.reduceBNe, cut_p27, fp_fill, fp_e, fp_b, fp_d, fp_f, fp_2, fp_7, fp_d2, fp_t2, fp_d7, fp_len, zf, za0, za1, zb0, zb1, zl0, zr0, zl1, zr1, ze0, ze1, zF, zP, zh0, zh1, zR]
    | refine callK_of (c1) ?_
    | refine callK_of (c2) ?_
    | refine callK_of (c3) ?_
    | refine callK_of (c4) ?_
    | refine callK_of (c5) ?_
    | refine callK_of (c6) ?_
    | refine callK_of (c7) ?_
    | refine callK_of (c8) ?_
    | refine callK_of (c9) ?_
    | refine callK_of (d1) ?_
    | refine callK_of (d2) ?_
    | refine callK_of (d3) ?_
    | refine callK_of (d4) ?_
    | rfl

set_option maxRecDepth 40000 in
set_option maxHeartbeats 16000000 in
theorem family_4 (es os ins : List (List SV)) (i j : Int) (a0 a1 a2 b0 b1 b2 l0 r0 l1 r1 e0 e1 F l2 r2 K : Tm) (h0 h1 h2 R : HT)
    (c1 : Con 31 [.dsl 26 es, .agg true (tv a0)] (.agg true (tv l0)))
    (c2 : Con 32 [.dsl 26 es, .agg true (tv b0)] (.agg true (tv r0)))
    (c3 : Con 81 [.dsl 26 es, .agg true (tv a0), .agg true (tv b0)] (.agg true h0.v))
    (c4 : Con 129 [.agg true h0.v] (.agg true (tv e0)))
    (c5 : Con 133 [.dsl 26 es] (.dsl 26 os))
    (c6 : Con 36 [.dsl 26 es, .int .i64 i, .agg true (tv l0), .agg true (tv r0)] (.dsl 26 ins))
    (c7 : Con 31 [.dsl 26 os, .agg true (tv a1)] (.agg true (tv l1)))
    (c8 : Con 32 [.dsl 26 os, .agg true (tv b1)] (.agg true (tv r1)))
    (c9 : Con 81 [.dsl 26 ins, .agg true (tv a1), .agg true (tv b1)] (.agg true h1.v))
    (d1 : Con 129 [.agg true h1.v] (.agg true (tv e1)))
    (d2 : Con 134 [.int .i64 i, .agg true (tv l0), .agg true (tv r0), .agg true (tv e1)] (.agg true (tv F)))
    (d3 : Con 81 [.dsl 26 ins, .agg true (tv a2), .agg true (tv b2)] (.agg true (hv h2.i h2.a h2.b h2.x h2.y h2.h)))
    (d4 : Con 134 [.int .i64 i, .agg true (tv l0), .agg true (tv r0), .agg true (tv h2.h)] (.agg true (tv K)))
    (d5 : Con 31 [.dsl 26 os, .agg true (tv a2)] (.agg true (tv l2)))
    (d6 : Con 32 [.dsl 26 os, .agg true (tv b2)] (.agg true (tv r2)))
    (d7 : Con 137 [.agg true (fv i j l0 r0 l1 r1 e0 F), .agg true (tv l2), .agg true (tv r2), .agg true (tv K)] (.agg true R.v)) :
    Con 116 [.dsl 26 es, .agg true [.int .i64 4, .int .i64 i, .int .i64 j, .int .i64 0, .dsl 5 [tv a0, tv a1, tv a2]], .agg true [.int .i64 4, .int .i64 i, .int .i64 j, .int .i64 0, .dsl 5 [tv b0, tv b1, tv b2]]] (.agg true R.v) := by
  have za0 := tv_len a0
  have za1 := tv_len a1
  have za2 := tv_len a2
  have zb0 := tv_len b0
  have zb1 := tv_len b1
  have zb2 := tv_len b2
  have zl0 := tv_len l0
  have zr0 := tv_len r0
  have zl1 := tv_len l1
  have zr1 := tv_len r1
  have ze0 := tv_len e0
  have ze1 := tv_len e1
  have zF := tv_len F
  have zl2 := tv_len l2
  have zr2 := tv_len r2
  have zK := tv_len K
  have zh0 : h0.v.length = 26 := hv_len
  have zh1 : h1.v.length = 26 := hv_len
  have zR : R.v.length = 26 := hv_len
  generalize h0.v = vh0 at *
  generalize h1.v = vh1 at *
  generalize R.v = vR at *
  have zf : (fv i j l0 r0 l1 r1 e0 F).length = 32 := fv_len
  refine contract_of_vc mixed Tryz.func116 tr116 ?_
  repeat' first
    | simp (config := { maxSteps := 2000000 }) only [go_sem, reduceIte, reduceCtorEq, Nat.reduceAdd, Nat.reduceSub, Nat.reduceMul, Nat.reduceLT, Nat.reduceLeDiff, Nat.reduceEqDiff, Nat.reduceBEq, Nat.reduceGT, Int.reduceEq, Int.reduceNe, Int.reduceLT, Int.reduceLE, Int.reduceToNat, Int.reduceNeg, Int.reduceBEq, Int.reduceAdd, Int.reduceSub, Int.reduceGT, Int.reduceGE, Int.reduceBNe, cut_p27, fp_fill, fp_e, fp_b, fp_d, fp_f, fp_2, fp_7, fp_d2, fp_t2, fp_d7, fp_len, zf, za0, za1, za2, zb0, zb1, zb2, zl0, zr0, zl1, zr1, ze0, ze1, zF, zl2, zr2, zK, zh0, zh1, zR]
    | refine callK_of (c1) ?_
    | refine callK_of (c2) ?_
    | refine callK_of (c3) ?_
    | refine callK_of (c4) ?_
    | refine callK_of (c5) ?_
    | refine callK_of (c6) ?_
    | refine callK_of (c7) ?_
    | refine callK_of (c8) ?_
    | refine callK_of (c9) ?_
    | refine callK_of (d1) ?_
    | refine callK_of (d2) ?_
    | refine callK_of (d3) ?_
    | refine callK_of (d4) ?_
    | refine callK_of (d5) ?_
    | refine callK_of (d6) ?_
    | refine callK_of (d7) ?_
    | rfl

set_option maxRecDepth 40000 in
set_option maxHeartbeats 16000000 in
theorem family_8 (es os ins : List (List SV)) (i j : Int) (a0 a1 a2 b0 b1 b2 l0 r0 l1 r1 e0 e1 F : Tm) (h0 h1 h2 R : HT)
    (c1 : Con 31 [.dsl 26 es, .agg true (tv a0)] (.agg true (tv l0)))
    (c2 : Con 32 [.dsl 26 es, .agg true (tv b0)] (.agg true (tv r0)))
    (c3 : Con 81 [.dsl 26 es, .agg true (tv a0), .agg true (tv b0)] (.agg true h0.v))
    (c4 : Con 129 [.agg true h0.v] (.agg true (tv e0)))
    (c5 : Con 133 [.dsl 26 es] (.dsl 26 os))
    (c6 : Con 36 [.dsl 26 es, .int .i64 i, .agg true (tv l0), .agg true (tv r0)] (.dsl 26 ins))
    (c7 : Con 31 [.dsl 26 os, .agg true (tv a1)] (.agg true (tv l1)))
    (c8 : Con 32 [.dsl 26 os, .agg true (tv b1)] (.agg true (tv r1)))
    (c9 : Con 81 [.dsl 26 ins, .agg true (tv a1), .agg true (tv b1)] (.agg true h1.v))
    (d1 : Con 129 [.agg true h1.v] (.agg true (tv e1)))
    (d2 : Con 134 [.int .i64 i, .agg true (tv l0), .agg true (tv r0), .agg true (tv e1)] (.agg true (tv F)))
    (d3 : Con 81 [.dsl 26 es, .agg true (tv a2), .agg true (tv b2)] (.agg true h2.v))
    (d4 : Con 138 [.agg true (fv i j l0 r0 l1 r1 e0 F), .agg true h2.v] (.agg true R.v)) :
    Con 116 [.dsl 26 es, .agg true [.int .i64 8, .int .i64 i, .int .i64 j, .int .i64 0, .dsl 5 [tv a0, tv a1, tv a2]], .agg true [.int .i64 8, .int .i64 i, .int .i64 j, .int .i64 0, .dsl 5 [tv b0, tv b1, tv b2]]] (.agg true R.v) := by
  have za0 := tv_len a0
  have za1 := tv_len a1
  have za2 := tv_len a2
  have zb0 := tv_len b0
  have zb1 := tv_len b1
  have zb2 := tv_len b2
  have zl0 := tv_len l0
  have zr0 := tv_len r0
  have zl1 := tv_len l1
  have zr1 := tv_len r1
  have ze0 := tv_len e0
  have ze1 := tv_len e1
  have zF := tv_len F
  have zh0 : h0.v.length = 26 := hv_len
  have zh1 : h1.v.length = 26 := hv_len
  have zh2 : h2.v.length = 26 := hv_len
  have zR : R.v.length = 26 := hv_len
  generalize h0.v = vh0 at *
  generalize h1.v = vh1 at *
  generalize h2.v = vh2 at *
  generalize R.v = vR at *
  have zf : (fv i j l0 r0 l1 r1 e0 F).length = 32 := fv_len
  refine contract_of_vc mixed Tryz.func116 tr116 ?_
  repeat' first
    | simp (config := { maxSteps := 2000000 }) only [go_sem, reduceIte, reduceCtorEq, Nat.reduceAdd, Nat.reduceSub, Nat.reduceMul, Nat.reduceLT, Nat.reduceLeDiff, Nat.reduceEqDiff, Nat.reduceBEq, Nat.reduceGT, Int.reduceEq, Int.reduceNe, Int.reduceLT, Int.reduceLE, Int.reduceToNat, Int.reduceNeg, Int.reduceBEq, Int.reduceAdd, Int.reduceSub, Int.reduceGT, Int.reduceGE, Int.reduceBNe, cut_p27, fp_fill, fp_e, fp_b, fp_d, fp_f, fp_2, fp_7, fp_d2, fp_t2, fp_d7, fp_len, zf, za0, za1, za2, zb0, zb1, zb2, zl0, zr0, zl1, zr1, ze0, ze1, zF, zh0, zh1, zh2, zR]
    | refine callK_of (c1) ?_
    | refine callK_of (c2) ?_
    | refine callK_of (c3) ?_
    | refine callK_of (c4) ?_
    | refine callK_of (c5) ?_
    | refine callK_of (c6) ?_
    | refine callK_of (c7) ?_
    | refine callK_of (c8) ?_
    | refine callK_of (c9) ?_
    | refine callK_of (d1) ?_
    | refine callK_of (d2) ?_
    | refine callK_of (d3) ?_
    | refine callK_of (d4) ?_
    | rfl

set_option maxRecDepth 40000 in
set_option maxHeartbeats 16000000 in
theorem family_9 (es os ins : List (List SV)) (i j : Int) (a0 a1 a2 b0 b1 b2 l0 r0 l1 r1 e0 e1 F : Tm) (h0 h1 h2 R : HT)
    (c1 : Con 31 [.dsl 26 es, .agg true (tv a0)] (.agg true (tv l0)))
    (c2 : Con 32 [.dsl 26 es, .agg true (tv b0)] (.agg true (tv r0)))
    (c3 : Con 81 [.dsl 26 es, .agg true (tv a0), .agg true (tv b0)] (.agg true h0.v))
    (c4 : Con 129 [.agg true h0.v] (.agg true (tv e0)))
    (c5 : Con 133 [.dsl 26 es] (.dsl 26 os))
    (c6 : Con 36 [.dsl 26 es, .int .i64 i, .agg true (tv l0), .agg true (tv r0)] (.dsl 26 ins))
    (c7 : Con 31 [.dsl 26 os, .agg true (tv a1)] (.agg true (tv l1)))
    (c8 : Con 32 [.dsl 26 os, .agg true (tv b1)] (.agg true (tv r1)))
    (c9 : Con 81 [.dsl 26 ins, .agg true (tv a1), .agg true (tv b1)] (.agg true h1.v))
    (d1 : Con 129 [.agg true h1.v] (.agg true (tv e1)))
    (d2 : Con 134 [.int .i64 i, .agg true (tv l0), .agg true (tv r0), .agg true (tv e1)] (.agg true (tv F)))
    (d3 : Con 81 [.dsl 26 es, .agg true (tv a2), .agg true (tv b2)] (.agg true h2.v))
    (d4 : Con 139 [.agg true (fv i j l0 r0 l1 r1 e0 F), .agg true h2.v] (.agg true R.v)) :
    Con 116 [.dsl 26 es, .agg true [.int .i64 9, .int .i64 i, .int .i64 j, .int .i64 0, .dsl 5 [tv a0, tv a1, tv a2]], .agg true [.int .i64 9, .int .i64 i, .int .i64 j, .int .i64 0, .dsl 5 [tv b0, tv b1, tv b2]]] (.agg true R.v) := by
  have za0 := tv_len a0
  have za1 := tv_len a1
  have za2 := tv_len a2
  have zb0 := tv_len b0
  have zb1 := tv_len b1
  have zb2 := tv_len b2
  have zl0 := tv_len l0
  have zr0 := tv_len r0
  have zl1 := tv_len l1
  have zr1 := tv_len r1
  have ze0 := tv_len e0
  have ze1 := tv_len e1
  have zF := tv_len F
  have zh0 : h0.v.length = 26 := hv_len
  have zh1 : h1.v.length = 26 := hv_len
  have zh2 : h2.v.length = 26 := hv_len
  have zR : R.v.length = 26 := hv_len
  generalize h0.v = vh0 at *
  generalize h1.v = vh1 at *
  generalize h2.v = vh2 at *
  generalize R.v = vR at *
  have zf : (fv i j l0 r0 l1 r1 e0 F).length = 32 := fv_len
  refine contract_of_vc mixed Tryz.func116 tr116 ?_
  repeat' first
    | simp (config := { maxSteps := 2000000 }) only [go_sem, reduceIte, reduceCtorEq, Nat.reduceAdd, Nat.reduceSub, Nat.reduceMul, Nat.reduceLT, Nat.reduceLeDiff, Nat.reduceEqDiff, Nat.reduceBEq, Nat.reduceGT, Int.reduceEq, Int.reduceNe, Int.reduceLT, Int.reduceLE, Int.reduceToNat, Int.reduceNeg, Int.reduceBEq, Int.reduceAdd, Int.reduceSub, Int.reduceGT, Int.reduceGE, Int.reduceBNe, cut_p27, fp_fill, fp_e, fp_b, fp_d, fp_f, fp_2, fp_7, fp_d2, fp_t2, fp_d7, fp_len, zf, za0, za1, za2, zb0, zb1, zb2, zl0, zr0, zl1, zr1, ze0, ze1, zF, zh0, zh1, zh2, zR]
    | refine callK_of (c1) ?_
    | refine callK_of (c2) ?_
    | refine callK_of (c3) ?_
    | refine callK_of (c4) ?_
    | refine callK_of (c5) ?_
    | refine callK_of (c6) ?_
    | refine callK_of (c7) ?_
    | refine callK_of (c8) ?_
    | refine callK_of (c9) ?_
    | refine callK_of (d1) ?_
    | refine callK_of (d2) ?_
    | refine callK_of (d3) ?_
    | refine callK_of (d4) ?_
    | rfl

set_option maxRecDepth 40000 in
set_option maxHeartbeats 16000000 in
theorem family_5 (es os ins : List (List SV)) (i j : Int) (a0 a1 a2 a3 b0 b1 b2 b3 l0 r0 l1 r1 e0 e1 F : Tm) (h0 h1 h2 h3 R : HT)
    (c1 : Con 31 [.dsl 26 es, .agg true (tv a0)] (.agg true (tv l0)))
    (c2 : Con 32 [.dsl 26 es, .agg true (tv b0)] (.agg true (tv r0)))
    (c3 : Con 81 [.dsl 26 es, .agg true (tv a0), .agg true (tv b0)] (.agg true h0.v))
    (c4 : Con 129 [.agg true h0.v] (.agg true (tv e0)))
    (c5 : Con 133 [.dsl 26 es] (.dsl 26 os))
    (c6 : Con 36 [.dsl 26 es, .int .i64 i, .agg true (tv l0), .agg true (tv r0)] (.dsl 26 ins))
    (c7 : Con 31 [.dsl 26 os, .agg true (tv a1)] (.agg true (tv l1)))
    (c8 : Con 32 [.dsl 26 os, .agg true (tv b1)] (.agg true (tv r1)))
    (c9 : Con 81 [.dsl 26 ins, .agg true (tv a1), .agg true (tv b1)] (.agg true h1.v))
    (d1 : Con 129 [.agg true h1.v] (.agg true (tv e1)))
    (d2 : Con 134 [.int .i64 i, .agg true (tv l0), .agg true (tv r0), .agg true (tv e1)] (.agg true (tv F)))
    (d3 : Con 81 [.dsl 26 es, .agg true (tv a2), .agg true (tv b2)] (.agg true h2.v))
    (d4 : Con 81 [.dsl 26 es, .agg true (tv a3), .agg true (tv b3)] (.agg true h3.v))
    (d5 : Con 140 [.agg true (fv i j l0 r0 l1 r1 e0 F), .agg true h2.v, .agg true h3.v] (.agg true R.v)) :
    Con 116 [.dsl 26 es, .agg true [.int .i64 5, .int .i64 i, .int .i64 j, .int .i64 0, .dsl 5 [tv a0, tv a1, tv a2, tv a3]], .agg true [.int .i64 5, .int .i64 i, .int .i64 j, .int .i64 0, .dsl 5 [tv b0, tv b1, tv b2, tv b3]]] (.agg true R.v) := by
  have za0 := tv_len a0
  have za1 := tv_len a1
  have za2 := tv_len a2
  have za3 := tv_len a3
  have zb0 := tv_len b0
  have zb1 := tv_len b1
  have zb2 := tv_len b2
  have zb3 := tv_len b3
  have zl0 := tv_len l0
  have zr0 := tv_len r0
  have zl1 := tv_len l1
  have zr1 := tv_len r1
  have ze0 := tv_len e0
  have ze1 := tv_len e1
  have zF := tv_len F
  have zh0 : h0.v.length = 26 := hv_len
  have zh1 : h1.v.length = 26 := hv_len
  have zh2 : h2.v.length = 26 := hv_len
  have zh3 : h3.v.length = 26 := hv_len
  have zR : R.v.length = 26 := hv_len
  generalize h0.v = vh0 at *
  generalize h1.v = vh1 at *
  generalize h2.v = vh2 at *
  generalize h3.v = vh3 at *
  generalize R.v = vR at *
  have zf : (fv i j l0 r0 l1 r1 e0 F).length = 32 := fv_len
  refine contract_of_vc mixed Tryz.func116 tr116 ?_
  repeat' first
    | simp (config := { maxSteps := 2000000 }) only [go_sem, reduceIte, reduceCtorEq, Nat.reduceAdd, Nat.reduceSub, Nat.reduceMul, Nat.reduceLT, Nat.reduceLeDiff, Nat.reduceEqDiff, Nat.reduceBEq, Nat.reduceGT, Int.reduceEq, Int.reduceNe, Int.reduceLT, Int.reduceLE, Int.reduceToNat, Int.reduceNeg, Int.reduceBEq, Int.reduceAdd, Int.reduceSub, Int.reduceGT, Int.reduceGE, Int.reduceBNe, cut_p27, fp_fill, fp_e, fp_b, fp_d, fp_f, fp_2, fp_7, fp_d2, fp_t2, fp_d7, fp_len, zf, za0, za1, za2, za3, zb0, zb1, zb2, zb3, zl0, zr0, zl1, zr1, ze0, ze1, zF, zh0, zh1, zh2, zh3, zR]
    | refine callK_of (c1) ?_
    | refine callK_of (c2) ?_
    | refine callK_of (c3) ?_
    | refine callK_of (c4) ?_
    | refine callK_of (c5) ?_
    | refine callK_of (c6) ?_
    | refine callK_of (c7) ?_
    | refine callK_of (c8) ?_
    | refine callK_of (c9) ?_
    | refine callK_of (d1) ?_
    | refine callK_of (d2) ?_
    | refine callK_of (d3) ?_
    | refine callK_of (d4) ?_
    | refine callK_of (d5) ?_
    | rfl

set_option maxRecDepth 40000 in
set_option maxHeartbeats 16000000 in
theorem family_7 (es os ins : List (List SV)) (i j : Int) (a0 a1 a2 a3 b0 b1 b2 b3 l0 r0 l1 r1 e0 e1 F : Tm) (h0 h1 h2 h3 R : HT)
    (c1 : Con 31 [.dsl 26 es, .agg true (tv a0)] (.agg true (tv l0)))
    (c2 : Con 32 [.dsl 26 es, .agg true (tv b0)] (.agg true (tv r0)))
    (c3 : Con 81 [.dsl 26 es, .agg true (tv a0), .agg true (tv b0)] (.agg true h0.v))
    (c4 : Con 129 [.agg true h0.v] (.agg true (tv e0)))
    (c5 : Con 133 [.dsl 26 es] (.dsl 26 os))
    (c6 : Con 36 [.dsl 26 es, .int .i64 i, .agg true (tv l0), .agg true (tv r0)] (.dsl 26 ins))
    (c7 : Con 31 [.dsl 26 os, .agg true (tv a1)] (.agg true (tv l1)))
    (c8 : Con 32 [.dsl 26 os, .agg true (tv b1)] (.agg true (tv r1)))
    (c9 : Con 81 [.dsl 26 ins, .agg true (tv a1), .agg true (tv b1)] (.agg true h1.v))
    (d1 : Con 129 [.agg true h1.v] (.agg true (tv e1)))
    (d2 : Con 134 [.int .i64 i, .agg true (tv l0), .agg true (tv r0), .agg true (tv e1)] (.agg true (tv F)))
    (d3 : Con 81 [.dsl 26 es, .agg true (tv a2), .agg true (tv b2)] (.agg true h2.v))
    (d4 : Con 81 [.dsl 26 es, .agg true (tv a3), .agg true (tv b3)] (.agg true h3.v))
    (d5 : Con 141 [.agg true (fv i j l0 r0 l1 r1 e0 F), .agg true h2.v, .agg true h3.v] (.agg true R.v)) :
    Con 116 [.dsl 26 es, .agg true [.int .i64 7, .int .i64 i, .int .i64 j, .int .i64 0, .dsl 5 [tv a0, tv a1, tv a2, tv a3]], .agg true [.int .i64 7, .int .i64 i, .int .i64 j, .int .i64 0, .dsl 5 [tv b0, tv b1, tv b2, tv b3]]] (.agg true R.v) := by
  have za0 := tv_len a0
  have za1 := tv_len a1
  have za2 := tv_len a2
  have za3 := tv_len a3
  have zb0 := tv_len b0
  have zb1 := tv_len b1
  have zb2 := tv_len b2
  have zb3 := tv_len b3
  have zl0 := tv_len l0
  have zr0 := tv_len r0
  have zl1 := tv_len l1
  have zr1 := tv_len r1
  have ze0 := tv_len e0
  have ze1 := tv_len e1
  have zF := tv_len F
  have zh0 : h0.v.length = 26 := hv_len
  have zh1 : h1.v.length = 26 := hv_len
  have zh2 : h2.v.length = 26 := hv_len
  have zh3 : h3.v.length = 26 := hv_len
  have zR : R.v.length = 26 := hv_len
  generalize h0.v = vh0 at *
  generalize h1.v = vh1 at *
  generalize h2.v = vh2 at *
  generalize h3.v = vh3 at *
  generalize R.v = vR at *
  have zf : (fv i j l0 r0 l1 r1 e0 F).length = 32 := fv_len
  refine contract_of_vc mixed Tryz.func116 tr116 ?_
  repeat' first
    | simp (config := { maxSteps := 2000000 }) only [go_sem, reduceIte, reduceCtorEq, Nat.reduceAdd, Nat.reduceSub, Nat.reduceMul, Nat.reduceLT, Nat.reduceLeDiff, Nat.reduceEqDiff, Nat.reduceBEq, Nat.reduceGT, Int.reduceEq, Int.reduceNe, Int.reduceLT, Int.reduceLE, Int.reduceToNat, Int.reduceNeg, Int.reduceBEq, Int.reduceAdd, Int.reduceSub, Int.reduceGT, Int.reduceGE, Int.reduceBNe, cut_p27, fp_fill, fp_e, fp_b, fp_d, fp_f, fp_2, fp_7, fp_d2, fp_t2, fp_d7, fp_len, zf, za0, za1, za2, za3, zb0, zb1, zb2, zb3, zl0, zr0, zl1, zr1, ze0, ze1, zF, zh0, zh1, zh2, zh3, zR]
    | refine callK_of (c1) ?_
    | refine callK_of (c2) ?_
    | refine callK_of (c3) ?_
    | refine callK_of (c4) ?_
    | refine callK_of (c5) ?_
    | refine callK_of (c6) ?_
    | refine callK_of (c7) ?_
    | refine callK_of (c8) ?_
    | refine callK_of (c9) ?_
    | refine callK_of (d1) ?_
    | refine callK_of (d2) ?_
    | refine callK_of (d3) ?_
    | refine callK_of (d4) ?_
    | refine callK_of (d5) ?_
    | rfl
end Go.Proofs.YtkldipbhenabfaaGreat.Abs

