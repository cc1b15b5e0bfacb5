/- The sides of a term in an environment; what is told of two variables; an environment beneath three. -/
import Derived.Test.YtkldipbhenabfaaGreatRKd
import Derived.Test.YtkldipbhenabfaaGreatRKc
import Derived.Test.YtkldipbhenabfaaGreatRJl
set_option linter.unusedSimpArgs false
set_option linter.unusedVariables false
namespace Go.Proofs.YtkldipbhenabfaaGreat.Abs
open Go Go.RowKit Go.Proofs.YtkldipbhenabfaaGreat

section
variable {k i j n : Int} {a b c d : Tm}
theorem freeR1 (hk : k ≠ 2) : freeR (.mk k i j n [a]) = max 0 (freeR a - bindsN k 0) := by rw [freeR_mk hk]; rfl
theorem freeR2 (hk : k ≠ 2) : freeR (.mk k i j n [a, b]) = max (max 0 (freeR a - bindsN k 0)) (freeR b - bindsN k 1) := by rw [freeR_mk hk]; rfl
theorem freeR3 (hk : k ≠ 2) : freeR (.mk k i j n [a, b, c]) = max (max (max 0 (freeR a - bindsN k 0)) (freeR b - bindsN k 1)) (freeR c - bindsN k 2) := by rw [freeR_mk hk]; rfl
theorem freeR4 (hk : k ≠ 2) : freeR (.mk k i j n [a, b, c, d]) = max (max (max (max 0 (freeR a - bindsN k 0)) (freeR b - bindsN k 1)) (freeR c - bindsN k 2)) (freeR d - bindsN k 3) := by rw [freeR_mk hk]; rfl
end
theorem free_strip (t : Tm) : markT t = true → freeR (stripT t) ≤ freeR t := by
  induction t using Tm.ind with
  | h k i j n l ih =>
    intro hm
    have hs := shp_of hm
    cases hs with
    | sort i h => rw [stripT_id (by omega)]; exact Int.le_refl _
    | var i h => rw [stripT_id (by omega)]; exact Int.le_refl _
    | tr i a b p x h ma mb mp mx =>
      have q1 := ih a (by simp) ma
      have q2 := ih b (by simp) mb
      have q3 := ih x (by simp) mx
      have e : ∀ p : Int, bindsN 12 p = 0 ∧ bindsN 23 p = 0 := fun p => by unfold bindsN; simp
      rw [stripT_tr, freeR4 (by decide), freeR4 (by decide), (e 0).1, (e 1).1, (e 2).1, (e 3).1, (e 0).2, (e 1).2, (e 2).2, (e 3).2]
      omega
    | lam i j a b x h h' ma mb mx =>
      have q1 := ih a (by simp) ma
      have q3 := ih x (by simp) mx
      rw [stripT_lam, freeR2 (by decide), freeR3 (by decide), show bindsN 14 0 = 0 from rfl, show bindsN 14 1 = 1 from rfl, show bindsN 4 0 = 0 from rfl, show bindsN 4 1 = 1 from rfl, show bindsN 4 2 = 1 from rfl]
      omega
    | two k i j a b hk h h' _ ma mb =>
      have q1 := ih a (by simp) ma
      have q2 := ih b (by simp) mb
      have e : stripT (.mk k i j 0 [a, b]) = .mk (k + 10) 0 0 0 [stripT a, stripT b] := by
        rw [stripT_gen (by omega) (by omega) (by omega)]
        rcases hk with rfl | rfl | rfl <;> rfl
      have e2 : bindsN (k + 10) 0 = bindsN k 0 ∧ bindsN (k + 10) 1 = bindsN k 1 := by rcases hk with rfl | rfl | rfl <;> exact ⟨rfl, rfl⟩
      rw [e, freeR2 (by omega), freeR2 (by omega), e2.1, e2.2]
      omega
    | three k i j a b c hk h h' _ ma mb mc =>
      have q1 := ih a (by simp) ma
      have q2 := ih b (by simp) mb
      have q3 := ih c (by simp) mc
      rcases hk with rfl | rfl | rfl
      · rw [show stripT (.mk 8 i j 0 [a, b, c]) = .mk 18 0 0 0 [stripT c] by rw [stripT_gen (by omega) (by omega) (by omega)]; rfl, freeR1 (by decide), freeR3 (by decide), show bindsN 18 0 = 0 from rfl, show bindsN 8 2 = 0 from rfl]
        omega
      · rw [show stripT (.mk 9 i j 0 [a, b, c]) = .mk 19 0 0 0 [stripT c] by rw [stripT_gen (by omega) (by omega) (by omega)]; rfl, freeR1 (by decide), freeR3 (by decide), show bindsN 19 0 = 0 from rfl, show bindsN 9 2 = 0 from rfl]
        omega
      · rw [show stripT (.mk 10 i j 0 [a, b, c]) = .mk 20 0 0 0 [stripT a, stripT b, stripT c] by rw [stripT_gen (by omega) (by omega) (by omega)]; rfl, freeR3 (by decide), freeR3 (by decide), show bindsN 20 0 = 0 from rfl, show bindsN 20 1 = 0 from rfl, show bindsN 20 2 = 0 from rfl, show bindsN 10 0 = 0 from rfl, show bindsN 10 1 = 0 from rfl, show bindsN 10 2 = 0 from rfl]
        omega
    | four k i j a b c d hk h h' ma mb mc md =>
      have q1 := ih a (by simp) ma
      have q2 := ih b (by simp) mb
      have q3 := ih c (by simp) mc
      have q4 := ih d (by simp) md
      rcases hk with rfl | rfl
      · rw [show stripT (.mk 5 i j 0 [a, b, c, d]) = .mk 15 0 0 0 [stripT c, stripT d] by rw [stripT_gen (by omega) (by omega) (by omega)]; rfl, freeR2 (by decide), freeR4 (by decide), show bindsN 15 0 = 0 from rfl, show bindsN 15 1 = 0 from rfl, show bindsN 5 2 = 0 from rfl, show bindsN 5 3 = 0 from rfl]
        omega
      · rw [show stripT (.mk 7 i j 0 [a, b, c, d]) = .mk 17 0 0 0 [stripT a, stripT b, stripT c, stripT d] by rw [stripT_gen (by omega) (by omega) (by omega)]; rfl, freeR4 (by decide), freeR4 (by decide), show bindsN 17 0 = 0 from rfl, show bindsN 17 1 = 1 from rfl, show bindsN 17 2 = 0 from rfl, show bindsN 17 3 = 0 from rfl, show bindsN 7 0 = 0 from rfl, show bindsN 7 1 = 1 from rfl, show bindsN 7 2 = 0 from rfl, show bindsN 7 3 = 0 from rfl]
        omega

def sideL (E : List HT) (r : Bool) : List Tm := E.reverse.map (fun g => if r then g.y else g.x)
def sideT (L : List Tm) (t : Tm) : Tm := (allT L 0 t).getD zT
theorem sideL_len (E : List HT) (r : Bool) : (sideL E r).length = E.length := by simp [sideL]
theorem sideL_row (E : List HT) (r : Bool) (x : Nat) (hx : x < E.length) : ((sideL E r).map tv)[x]?.getD [] = tv (if r then (E[E.length - 1 - x]?.getD zH).y else (E[E.length - 1 - x]?.getD zH).x) := by
  have hx' : x < E.reverse.length := by simpa using hx
  rw [sideL, List.getElem?_map, List.getElem?_map, List.getElem?_eq_getElem hx', List.getElem_reverse, List.getElem?_eq_getElem (by omega)]
  rfl
theorem ht_row (E : List HT) (x : Nat) (hx : x < E.length) : (E.map HT.v)[x]?.getD [] = hv (E[x]?.getD zH).i (E[x]?.getD zH).a (E[x]?.getD zH).b (E[x]?.getD zH).x (E[x]?.getD zH).y (E[x]?.getD zH).h := by
  rw [List.getElem?_map, List.getElem?_eq_getElem hx]; rfl
set_option maxRecDepth 20000 in
set_option maxHeartbeats 2000000 in
theorem con_side (E : List HT) (r : Bool) (V : Int) (hV0 : 0 ≤ V) (hV : V ≤ 100000) (hL : VarL V (sideL E r)) (hn : E.length ≤ 1000) (t : Tm) (ht : TOk t) (hp : plainT t = true) (hh : hgtT t ≤ 40000) (hf : freeR t ≤ E.length) :
    Con 70 [.dsl 26 (E.map HT.v), .agg true (tv t), .bool r] (.agg true (tv (sideT (sideL E r) t))) := by
  have hP := varL_put hL hV (by rw [sideL_len]; exact hn)
  have c1 := con_sAll t (sideL E r) ht hp (by omega) hP (by rw [sideL_len]; exact hf)
  obtain ⟨v, hv1, _⟩ := all_of_vars hL hV0 hV t ht 2 0 hp (by omega) (by omega) (by rw [sideL_len]; omega)
  unfold sideT
  rw [hv1] at c1 ⊢
  rw [Option.getD_some]
  have hrow := ht_row E
  have hyx := sideL_row E r
  have hys : ((sideL E r).map tv).length = E.length := by rw [List.length_map, sideL_len]
  have hlen : (E.map HT.v).length = E.length := by simp
  have hz := tv_len t
  have hzv := tv_len v
  generalize (sideL E r).map tv = ys at *
  generalize E.map HT.v = rows at *
  have m1 : (0 : Int) ≤ (E.length : Int) := by omega
  have m2 : (E.length : Int) * 56 ≤ 140737488355328 := by omega
  have m3 : (E.length : Int) ≤ 140737488355328 := by omega
  have w1 : IntKind.i64.wrap ((E.length : Int) - 1) = (E.length : Int) - 1 := w64 (by unfold fit; omega)
  refine contract_of_vc mixed Tryz.func70 tr70 ?_
  simp only [go_sem, reduceIte, reduceCtorEq, Nat.reduceAdd, Nat.reduceSub, Nat.reduceMul, Nat.reduceLT, Nat.reduceLeDiff, Nat.reduceEqDiff, Nat.reduceBEq, Nat.reduceGT, Int.reduceEq, Int.reduceNe, Int.reduceLT, Int.reduceLE, Int.reduceToNat, Int.reduceNeg, Int.reduceBEq, Int.reduceAdd, Int.reduceSub, Int.reduceGT, Int.reduceGE, Int.reduceBNe, hlen, m1, m2, m3, w1, Int.le_refl, hz]
  intros
  refine vc_for (fun x => ⟨(.dsl 26 rows :: .junk :: .bool r :: .junk :: .ref 0 0 0 0 :: .junk :: .ref 1 0 0 0 :: .osl 2 x 0 x :: .int .i64 ((E.length : Int) - 1 - (x : Nat)) :: .junk :: .junk :: .junk :: .junk :: .junk :: .junk :: .junk :: .junk :: .junk :: .junk :: .junk :: .junk :: .junk :: .junk :: .junk :: .junk :: .junk :: .junk :: .junk :: .junk :: .junk :: .junk :: .junk :: .junk :: .junk :: .junk :: .junk :: .junk :: .junk :: .junk :: .junk :: .junk :: .junk :: .junk :: .junk :: .junk :: []),
    [⟨true, 5, [tv t], 0, 0, true⟩, ⟨true, 5, [[.int .i64 0, .int .i64 0, .int .i64 0, .int .i64 0, .nils]], 0, 0, true⟩, ⟨false, 5, ys.take x, x - 1, x, true⟩]⟩) E.length (fun x hx => ?_) ?_
  · by_cases h : (0 : Int) ≤ (E.length : Int) - 1 - (x : Nat)
    · have hlx : x < E.length := by omega
      have hlm : E.length - 1 - x < E.length := by omega
      have hidx : ((E.length : Int) - 1 - (x : Nat)).toNat = E.length - 1 - x := by omega
      have hlt2 : (E.length : Int) - 1 - (x : Nat) < (E.length : Int) := by omega
      have hr := hrow _ hlm
      have hy := hyx x hlx
      generalize E[E.length - 1 - x]?.getD zH = g at *
      generalize E.length - 1 - x = m at *
      have tn := take_next (l := ys) (d := []) (i := x) (by omega)
      rw [hy] at tn
      have e1 : (ys.take x).length = x := by simp; omega
      have e2 : (x + 1) * 56 ≤ 140737488355328 := by omega
      have e3 : x + 1 ≤ 140737488355328 := by omega
      have w4 : IntKind.i64.wrap ((E.length : Int) - 1 - (x : Nat) - 1) = (E.length : Int) - 1 - ((x + 1 : Nat) : Int) := by rw [w64 (by unfold fit; omega)]; omega
      cases r
      · rw [if_neg Bool.false_ne_true] at tn
        simp only [go_sem, reduceIte, reduceCtorEq, Nat.reduceAdd, Nat.reduceSub, Nat.reduceMul, Nat.reduceLT, Nat.reduceLeDiff, Nat.reduceEqDiff, Nat.reduceBEq, Nat.reduceGT, Int.reduceEq, Int.reduceNe, Int.reduceLT, Int.reduceLE, Int.reduceToNat, Int.reduceNeg, Int.reduceBEq, Int.reduceAdd, Int.reduceSub, Int.reduceGT, Int.reduceGE, Int.reduceBNe, hlen, h, hidx, hlt2, hr, e1, e2, e3, tn, w4]
        refine ⟨hlx, ?_⟩
        exact wk_trunc 3 (by simp [slotsLe]) (by simp) (by simp [below]) (by simp)
      · rw [if_pos rfl] at tn
        simp only [go_sem, reduceIte, reduceCtorEq, Nat.reduceAdd, Nat.reduceSub, Nat.reduceMul, Nat.reduceLT, Nat.reduceLeDiff, Nat.reduceEqDiff, Nat.reduceBEq, Nat.reduceGT, Int.reduceEq, Int.reduceNe, Int.reduceLT, Int.reduceLE, Int.reduceToNat, Int.reduceNeg, Int.reduceBEq, Int.reduceAdd, Int.reduceSub, Int.reduceGT, Int.reduceGE, Int.reduceBNe, hlen, h, hidx, hlt2, hr, e1, e2, e3, tn, w4]
        refine ⟨hlx, ?_⟩
        exact wk_trunc 3 (by simp [slotsLe]) (by simp) (by simp [below]) (by simp)
    · have hxe : x = E.length := by omega
      subst hxe
      have ht' : ys.take E.length = ys := by rw [← hys, List.take_length]
      simp only [go_sem, reduceIte, reduceCtorEq, Nat.reduceAdd, Nat.reduceSub, Nat.reduceMul, Nat.reduceLT, Nat.reduceLeDiff, Nat.reduceEqDiff, Nat.reduceBEq, Nat.reduceGT, Int.reduceEq, Int.reduceNe, Int.reduceLT, Int.reduceLE, Int.reduceToNat, Int.reduceNeg, Int.reduceBEq, Int.reduceAdd, Int.reduceSub, Int.reduceGT, Int.reduceGE, Int.reduceBNe, h, hys, ht', hz]
      refine callK_of c1 ?_
      simp only [go_sem, reduceIte, reduceCtorEq, Nat.reduceAdd, Nat.reduceSub, Nat.reduceMul, Nat.reduceLT, Nat.reduceLeDiff, Nat.reduceEqDiff, Nat.reduceBEq, Nat.reduceGT, Int.reduceEq, Int.reduceNe, Int.reduceLT, Int.reduceLE, Int.reduceToNat, Int.reduceNeg, Int.reduceBEq, Int.reduceAdd, Int.reduceSub, Int.reduceGT, Int.reduceGE, Int.reduceBNe, resR, Option.map_some, hzv]
  · exact wk_slots (by simp [slotsLe])
theorem con_left (E : List HT) (V : Int) (hV0 : 0 ≤ V) (hV : V ≤ 100000) (hL : VarL V (sideL E false)) (hn : E.length ≤ 1000) (t : Tm) (ht : TOk t) (hm : markT t = true) (hh : hgtT t ≤ 40000) (hf : freeR t ≤ E.length) :
    Con 31 [.dsl 26 (E.map HT.v), .agg true (tv t)] (.agg true (tv (sideT (sideL E false) (stripT t)))) := by
  obtain ⟨s1, s2, s3⟩ := strip_of t ht hm
  have s4 := free_strip t hm
  have c0 := con_StripF t ht
  unfold stripF at c0
  rw [mark_right hm, if_pos rfl] at c0
  have c1 := con_side E false V hV0 hV hL hn (stripT t) s2 s1 (by omega) (by omega)
  have hz := tv_len t
  have hz2 := tv_len (sideT (sideL E false) (stripT t))
  generalize E.map HT.v = rows at *
  refine contract_of_vc mixed Tryz.func31 tr31 ?_
  repeat' first
    | simp (config := { maxSteps := 2000000 }) only [go_sem, reduceIte, reduceCtorEq, Nat.reduceAdd, Nat.reduceSub, Nat.reduceMul, Nat.reduceLT, Nat.reduceLeDiff, Nat.reduceEqDiff, Nat.reduceBEq, Nat.reduceGT, Int.reduceEq, Int.reduceNe, Int.reduceLT, Int.reduceLE, Int.reduceToNat, Int.reduceNeg, Int.reduceBEq, Int.reduceAdd, Int.reduceSub, Int.reduceGT, Int.reduceGE, Int.reduceBNe, hz, hz2]
    | refine callK_of (c0) ?_
    | refine callK_of (c1) ?_
    | rfl
theorem con_rgt (E : List HT) (V : Int) (hV0 : 0 ≤ V) (hV : V ≤ 100000) (hL : VarL V (sideL E true)) (hn : E.length ≤ 1000) (t : Tm) (ht : TOk t) (hm : markT t = true) (hh : hgtT t ≤ 40000) (hf : freeR t ≤ E.length) :
    Con 32 [.dsl 26 (E.map HT.v), .agg true (tv t)] (.agg true (tv (sideT (sideL E true) (stripT t)))) := by
  obtain ⟨s1, s2, s3⟩ := strip_of t ht hm
  have s4 := free_strip t hm
  have c0 := con_StripF t ht
  unfold stripF at c0
  rw [mark_right hm, if_pos rfl] at c0
  have c1 := con_side E true V hV0 hV hL hn (stripT t) s2 s1 (by omega) (by omega)
  have hz := tv_len t
  have hz2 := tv_len (sideT (sideL E true) (stripT t))
  generalize E.map HT.v = rows at *
  refine contract_of_vc mixed Tryz.func32 tr32 ?_
  repeat' first
    | simp (config := { maxSteps := 2000000 }) only [go_sem, reduceIte, reduceCtorEq, Nat.reduceAdd, Nat.reduceSub, Nat.reduceMul, Nat.reduceLT, Nat.reduceLeDiff, Nat.reduceEqDiff, Nat.reduceBEq, Nat.reduceGT, Int.reduceEq, Int.reduceNe, Int.reduceLT, Int.reduceLE, Int.reduceToNat, Int.reduceNeg, Int.reduceBEq, Int.reduceAdd, Int.reduceSub, Int.reduceGT, Int.reduceGE, Int.reduceBNe, hz, hz2]
    | refine callK_of (c0) ?_
    | refine callK_of (c1) ?_
    | rfl

/-! Told, Three -/
theorem resR_lift (k : Int) (a : Tm) : resR ((liftT k 0 a).map tv) = .tup [.agg true (tv (liftF k a)), .bool (liftT k 0 a).isSome] := by
  unfold liftF
  cases liftT k 0 a <;> rfl
def toldF (i : Int) (a b : Tm) : Tm := us 6 i 0 [liftF 2 a, liftF 2 b, vr 1, vr 0]
theorem con_told25 (i : Int) (a b : Tm) (ha : TOk a) (hb : TOk b) (pa : plainT a = true) (pb : plainT b = true) (h1 : hgtT a ≤ 1000) (h2 : hgtT b ≤ 1000) :
    Con 35 [.int .i64 i, .agg true (tv a), .agg true (tv b)] (.agg true (tv (toldF i a b))) := by
  have c1 := con_blift 2 (by decide) a ha 2 0 pa (by omega) (by omega)
  have c2 := con_blift 2 (by decide) b hb 2 0 pb (by omega) (by omega)
  rw [resR_lift] at c1 c2
  have z1 := tv_len a
  have z2 := tv_len b
  have z3 := tv_len (liftF 2 a)
  have z4 := tv_len (liftF 2 b)
  have c3 := con_ofT 23 i 0 6 [liftF 2 a, liftF 2 b, vr 1, vr 0] (by simp) (by simp)
  have v1 := con_var 1
  have v0 := con_var 0
  unfold toldF us
  refine contract_of_vc mixed Tryz.func35 tr35 ?_
  unfold vr at *
  repeat' first
    | simp (config := { maxSteps := 2000000 }) only [go_sem, reduceIte, reduceCtorEq, Nat.reduceAdd, Nat.reduceSub, Nat.reduceMul, Nat.reduceLT, Nat.reduceLeDiff, Nat.reduceEqDiff, Nat.reduceBEq, Nat.reduceGT, Int.reduceEq, Int.reduceNe, Int.reduceLT, Int.reduceLE, Int.reduceToNat, Int.reduceNeg, Int.reduceBEq, Int.reduceAdd, Int.reduceSub, Int.reduceGT, Int.reduceGE, Int.reduceBNe, z1, z2, z3, z4]
    | refine callK_of (c1) ?_
    | refine callK_of (c2) ?_
    | refine callK_of (v1) ?_
    | refine callK_of (v0) ?_
    | refine callK_of (c3) ?_
    | rfl
def threeF (E : List HT) (i : Int) (a b : Tm) : List HT := E.map (liftHF 3) ++ [⟨i, liftF 3 a, liftF 3 b, vr 2, vr 1, vr 0⟩]
theorem lifted_row (E : List HT) (x : Nat) (hx : x < E.length) : ((E.map (liftHF 3)).map HT.v)[x]?.getD [] = (liftHF 3 (E[x]?.getD zH)).v := by
  rw [List.getElem?_map, List.getElem?_map, List.getElem?_eq_getElem hx]; rfl
theorem three_rows (E : List HT) (i : Int) (a b : Tm) : (threeF E i a b).map HT.v = (E.map (liftHF 3)).map HT.v ++ [hv i (liftF 3 a) (liftF 3 b) (vr 2) (vr 1) (vr 0)] := by
  unfold threeF
  rw [List.map_append]; rfl
set_option maxRecDepth 20000 in
set_option maxHeartbeats 2000000 in
theorem con_three (E : List HT) (hE : ∀ g ∈ E, g.ok ∧ g.low) (hn : E.length ≤ 1000) (i : Int) (a b : Tm) (ha : TOk a) (hb : TOk b) (pa : plainT a = true) (pb : plainT b = true) (h1 : hgtT a ≤ 1000) (h2 : hgtT b ≤ 1000) :
    Con 36 [.dsl 26 (E.map HT.v), .int .i64 i, .agg true (tv a), .agg true (tv b)] (.dsl 26 ((threeF E i a b).map HT.v)) := by
  have c1 := con_blift 3 (by decide) a ha 2 0 pa (by omega) (by omega)
  have c2 := con_blift 3 (by decide) b hb 2 0 pb (by omega) (by omega)
  rw [resR_lift] at c1 c2
  have z1 := tv_len a
  have z2 := tv_len b
  have z3 := tv_len (liftF 3 a)
  have z4 := tv_len (liftF 3 b)
  have v2 := con_var 2
  have v1 := con_var 1
  have v0 := con_var 0
  rw [three_rows]
  have hrow := ht_row E
  have hyx := lifted_row E
  have hys : ((E.map (liftHF 3)).map HT.v).length = E.length := by simp
  have hlen : (E.map HT.v).length = E.length := by simp
  generalize (E.map (liftHF 3)).map HT.v = ys at *
  generalize E.map HT.v = rows at *
  have m1 : (0 : Int) ≤ (E.length : Int) + 1 := by omega
  have m2 : ((E.length : Int) + 1) * 288 ≤ 140737488355328 := by omega
  have m3 : ((E.length : Int) + 1) ≤ 140737488355328 := by omega
  have w1 : IntKind.i64.wrap ((E.length : Int) + 1) = (E.length : Int) + 1 := w64 (by unfold fit; omega)
  have m4 : (E.length + 1) * 288 ≤ 140737488355328 := by omega
  have m5 : E.length + 1 ≤ 140737488355328 := by omega
  refine contract_of_vc mixed Tryz.func36 tr36 ?_
  simp only [go_sem, reduceIte, reduceCtorEq, Nat.reduceAdd, Nat.reduceSub, Nat.reduceMul, Nat.reduceLT, Nat.reduceLeDiff, Nat.reduceEqDiff, Nat.reduceBEq, Nat.reduceGT, Int.reduceEq, Int.reduceNe, Int.reduceLT, Int.reduceLE, Int.reduceToNat, Int.reduceNeg, Int.reduceBEq, Int.reduceAdd, Int.reduceSub, Int.reduceGT, Int.reduceGE, Int.reduceBNe, hlen, m1, m2, m3, w1, Int.le_refl, z1, z2]
  intros
  refine vc_for (fun x => ⟨(.junk :: .int .i64 i :: .junk :: .junk :: .junk :: .junk :: .ref 0 0 0 0 :: .ref 1 0 0 0 :: .junk :: .osl 2 x 0 x :: .junk :: .junk :: .junk :: .junk :: .junk :: .junk :: .junk :: .junk :: .junk :: .junk :: .dsl 26 rows :: .int .i64 E.length :: .int .i64 x :: .junk :: .junk :: .junk :: .junk :: .junk :: .junk :: .junk :: .junk :: .junk :: .junk :: .junk :: .junk :: .junk :: .junk :: .junk :: .junk :: .junk :: .junk :: .junk :: .junk :: .junk :: .junk :: .junk :: .junk :: .junk :: .junk :: .junk :: .junk :: .junk :: []),
    [⟨true, 5, [tv a], 0, 0, true⟩, ⟨true, 5, [tv b], 0, 0, true⟩, ⟨false, 26, ys.take x, x - 1, x, true⟩]⟩) E.length (fun x hx => ?_) ?_
  · simp only [go_sem, reduceIte, reduceCtorEq, Nat.reduceAdd, Nat.reduceSub, Nat.reduceMul, Nat.reduceLT, Nat.reduceLeDiff, Nat.reduceEqDiff, Nat.reduceBEq, Nat.reduceGT, Int.reduceEq, Int.reduceNe, Int.reduceLT, Int.reduceLE, Int.reduceToNat, Int.reduceNeg, Int.reduceBEq, Int.reduceAdd, Int.reduceSub, Int.reduceGT, Int.reduceGE, Int.reduceBNe]
    refine ⟨fun h => ?_, fun h => ?_⟩
    · have hlt := of_decide_eq_true h
      have hlx : x < E.length := by omega
      have e0 : (0 : Int) ≤ (x : Int) := by omega
      have hr := hrow x hlx
      have hy := hyx x hlx
      obtain ⟨og, wg⟩ := hE _ (get_lt (d := zH) hlx)
      generalize E[x]?.getD zH = g at *
      have cl := con_hLift 3 g og wg
      have hzl : (liftHF 3 g).v.length = 26 := hv_len
      have tn := take_next (l := ys) (d := []) (i := x) (by omega)
      rw [hy] at tn
      have e1 : (ys.take x).length = x := by simp; omega
      have e2 : (x + 1) * 288 ≤ 140737488355328 := by omega
      have e3 : x + 1 ≤ 140737488355328 := by omega
      rw [show g.v = hv g.i g.a g.b g.x g.y g.h from rfl] at cl
      simp only [go_sem, reduceIte, reduceCtorEq, Nat.reduceAdd, Nat.reduceSub, Nat.reduceMul, Nat.reduceLT, Nat.reduceLeDiff, Nat.reduceEqDiff, Nat.reduceBEq, Nat.reduceGT, Int.reduceEq, Int.reduceNe, Int.reduceLT, Int.reduceLE, Int.reduceToNat, Int.reduceNeg, Int.reduceBEq, Int.reduceAdd, Int.reduceSub, Int.reduceGT, Int.reduceGE, Int.reduceBNe, hlt, hlen, e0, hr]
      refine callK_of cl ?_
      simp only [go_sem, reduceIte, reduceCtorEq, Nat.reduceAdd, Nat.reduceSub, Nat.reduceMul, Nat.reduceLT, Nat.reduceLeDiff, Nat.reduceEqDiff, Nat.reduceBEq, Nat.reduceGT, Int.reduceEq, Int.reduceNe, Int.reduceLT, Int.reduceLE, Int.reduceToNat, Int.reduceNeg, Int.reduceBEq, Int.reduceAdd, Int.reduceSub, Int.reduceGT, Int.reduceGE, Int.reduceBNe, hzl, e1, e2, e3, tn]
      refine ⟨hlx, ?_⟩
      rw [w64 (n := (x : Int) + 1) (by unfold fit; omega)]
      exact wk_trunc 3 (by simp [slotsLe]) (by simp) (by simp [below]) (by simp)
    · have hge := of_decide_eq_false h
      have hxe : x = E.length := by omega
      subst hxe
      have ht' : ys.take E.length = ys := by rw [← hys, List.take_length]
      unfold vr at *
      simp only [go_sem, reduceIte, reduceCtorEq, Nat.reduceAdd, Nat.reduceSub, Nat.reduceMul, Nat.reduceLT, Nat.reduceLeDiff, Nat.reduceEqDiff, Nat.reduceBEq, Nat.reduceGT, Int.reduceEq, Int.reduceNe, Int.reduceLT, Int.reduceLE, Int.reduceToNat, Int.reduceNeg, Int.reduceBEq, Int.reduceAdd, Int.reduceSub, Int.reduceGT, Int.reduceGE, Int.reduceBNe, hys, ht', z1]
      refine callK_of c1 ?_
      simp only [go_sem, reduceIte, reduceCtorEq, Nat.reduceAdd, Nat.reduceSub, Nat.reduceMul, Nat.reduceLT, Nat.reduceLeDiff, Nat.reduceEqDiff, Nat.reduceBEq, Nat.reduceGT, Int.reduceEq, Int.reduceNe, Int.reduceLT, Int.reduceLE, Int.reduceToNat, Int.reduceNeg, Int.reduceBEq, Int.reduceAdd, Int.reduceSub, Int.reduceGT, Int.reduceGE, Int.reduceBNe, hys, ht', z2, z3]
      refine callK_of c2 ?_
      simp only [go_sem, reduceIte, reduceCtorEq, Nat.reduceAdd, Nat.reduceSub, Nat.reduceMul, Nat.reduceLT, Nat.reduceLeDiff, Nat.reduceEqDiff, Nat.reduceBEq, Nat.reduceGT, Int.reduceEq, Int.reduceNe, Int.reduceLT, Int.reduceLE, Int.reduceToNat, Int.reduceNeg, Int.reduceBEq, Int.reduceAdd, Int.reduceSub, Int.reduceGT, Int.reduceGE, Int.reduceBNe, hys, ht', z3, z4]
      refine callK_of v2 ?_
      simp only [go_sem, reduceIte, reduceCtorEq, Nat.reduceAdd, Nat.reduceSub, Nat.reduceMul, Nat.reduceLT, Nat.reduceLeDiff, Nat.reduceEqDiff, Nat.reduceBEq, Nat.reduceGT, Int.reduceEq, Int.reduceNe, Int.reduceLT, Int.reduceLE, Int.reduceToNat, Int.reduceNeg, Int.reduceBEq, Int.reduceAdd, Int.reduceSub, Int.reduceGT, Int.reduceGE, Int.reduceBNe, hys, ht', z3, z4]
      refine callK_of v1 ?_
      simp only [go_sem, reduceIte, reduceCtorEq, Nat.reduceAdd, Nat.reduceSub, Nat.reduceMul, Nat.reduceLT, Nat.reduceLeDiff, Nat.reduceEqDiff, Nat.reduceBEq, Nat.reduceGT, Int.reduceEq, Int.reduceNe, Int.reduceLT, Int.reduceLE, Int.reduceToNat, Int.reduceNeg, Int.reduceBEq, Int.reduceAdd, Int.reduceSub, Int.reduceGT, Int.reduceGE, Int.reduceBNe, hys, ht', z3, z4]
      refine callK_of v0 ?_
      simp only [go_sem, reduceIte, reduceCtorEq, Nat.reduceAdd, Nat.reduceSub, Nat.reduceMul, Nat.reduceLT, Nat.reduceLeDiff, Nat.reduceEqDiff, Nat.reduceBEq, Nat.reduceGT, Int.reduceEq, Int.reduceNe, Int.reduceLT, Int.reduceLE, Int.reduceToNat, Int.reduceNeg, Int.reduceBEq, Int.reduceAdd, Int.reduceSub, Int.reduceGT, Int.reduceGE, Int.reduceBNe, hys, ht', z3, z4, m4, m5]
      rw [List.take_of_length_le (by simp [hys])]
  · exact wk_slots (by simp [slotsLe])
end Go.Proofs.YtkldipbhenabfaaGreat.Abs

