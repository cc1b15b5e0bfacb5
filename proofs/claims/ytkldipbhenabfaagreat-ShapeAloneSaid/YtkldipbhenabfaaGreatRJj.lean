/- Strip; a context's ways; what is not too heavy. -/
import Derived.Test.YtkldipbhenabfaaGreatRJi
import Derived.Test.YtkldipbhenabfaaGreatRJf
import Derived.Test.YtkldipbhenabfaaGreatRJe
import Derived.Test.YtkldipbhenabfaaGreatRAfP
import Derived.Test.YtkldipbhenabfaaGreatRAfQ
import Derived.Test.YtkldipbhenabfaaGreatRUn
import Derived.Test.YtkldipbhenabfaaGreatRIb
set_option linter.unusedSimpArgs false
set_option linter.unusedVariables false
namespace Go.Proofs.YtkldipbhenabfaaGreat.Abs
open Go Go.RowKit Go.Proofs.YtkldipbhenabfaaGreat

def stripF (t : Tm) : Tm := if rightT t 0 then stripT t else zT
theorem con_StripF (t : Tm) (ht : TOk t) : Con 49 [.agg true (tv t)] (.agg true (tv (stripF t))) := by
  have h1 := con_rightq t ht
  have hz := tv_len t
  unfold stripF
  cases hr : rightT t 0
  · rw [hr] at h1
    refine (contract_of_vc (r := .agg true [.int .i64 0, .int .i64 0, .int .i64 0, .int .i64 0, .nils]) mixed Tryz.func49 tr49 ?_).weaken le_zT
    repeat' first
      | simp (config := { maxSteps := 2000000 }) only [go_sem, reduceIte, reduceCtorEq, Nat.reduceAdd, Nat.reduceSub, Nat.reduceMul, Nat.reduceLT, Nat.reduceLeDiff, Nat.reduceEqDiff, Nat.reduceBEq, Nat.reduceGT, Int.reduceEq, Int.reduceNe, Int.reduceLT, Int.reduceLE, Int.reduceToNat, Int.reduceNeg, Int.reduceBEq, Int.reduceAdd, Int.reduceSub, Int.reduceGT, Int.reduceGE, Int.reduceBNe, hz]
      | refine callK_of (h1) ?_
      | rfl
  · have h2 : Con 89 [.agg true (tv t)] (.agg true (tv (stripT t))) := by
      have hq := hr
      rw [right_or, Bool.or_eq_true] at hq
      rcases hq with hm | hp
      · exact con_mstrip t ht hm
      · rw [strip_plain hp]
        exact con_strip1 t ht hp
    have hz2 := tv_len (stripT t)
    rw [hr] at h1
    rw [if_pos rfl]
    refine contract_of_vc mixed Tryz.func49 tr49 ?_
    repeat' first
      | simp (config := { maxSteps := 2000000 }) only [go_sem, reduceIte, reduceCtorEq, Nat.reduceAdd, Nat.reduceSub, Nat.reduceMul, Nat.reduceLT, Nat.reduceLeDiff, Nat.reduceEqDiff, Nat.reduceBEq, Nat.reduceGT, Int.reduceEq, Int.reduceNe, Int.reduceLT, Int.reduceLE, Int.reduceToNat, Int.reduceNeg, Int.reduceBEq, Int.reduceAdd, Int.reduceSub, Int.reduceGT, Int.reduceGE, Int.reduceBNe, hz, hz2]
      | refine callK_of (h1) ?_
      | refine callK_of (h2) ?_
      | rfl
theorem stripF_of {t : Tm} (ht : TOk t) : TOk (stripF t) ∧ hgtT (stripF t) ≤ hgtT t := by
  unfold stripF
  cases hr : rightT t 0
  · rw [if_neg Bool.false_ne_true]
    refine ⟨tok_zT, ?_⟩
    cases t with
    | mk k i j n l => rw [hgtT_mk]; show hgtT (.mk 0 0 0 0 []) ≤ _; rw [hgtT_mk, hgtL]; omega
  · rw [if_pos rfl]
    rw [right_or, Bool.or_eq_true] at hr
    rcases hr with hm | hp
    · exact (strip_of t ht hm).2
    · rw [strip_plain hp]; exact ⟨ht, Nat.le_refl _⟩

/-! Ways -/
def wayT (n x : Nat) (e : En) : HT := selfF e.i (stripF (liftF ((n : Int) - x) e.a)) (vr ((n : Int) - 1 - x))
def waysF (C : List En) : List HT := if goodC C then (List.range C.length).map (fun x => wayT C.length x (C[x]?.getD default)) else []
theorem way_row (C : List En) (x : Nat) (hx : x < C.length) : (((List.range C.length).map (fun x => wayT C.length x (C[x]?.getD default))).map HT.v)[x]?.getD [] = (wayT C.length x (C[x]?.getD default)).v := by
  rw [List.getElem?_map, List.getElem?_map, List.getElem?_range hx]; rfl
theorem good_ctx {C : List En} (h : goodC C = true) : ctxR C = true ∧ lowC 996 C = true := by
  unfold goodC at h
  rwa [Bool.and_eq_true] at h
set_option maxRecDepth 20000 in
set_option maxHeartbeats 2000000 in
theorem con_ways (C : List En) (hC : CtxOk C) : Con 14 [.dsl 6 (C.map En.v)] (.dsl 26 ((waysF C).map HT.v)) := by
  have c0 := con_tLowCtx C hC 996
  have hlen : (C.map En.v).length = C.length := by simp
  unfold waysF
  cases hg : goodC C
  · unfold goodC at hg
    rw [hg] at c0
    rw [if_neg Bool.false_ne_true]
    refine (contract_of_vc (r := .nils) mixed Tryz.func14 tr14 ?_).weaken (.val _ _ (.cell _ _ (.nils 26)))
    repeat' first
      | simp (config := { maxSteps := 2000000 }) only [go_sem, reduceIte, reduceCtorEq, Nat.reduceAdd, Nat.reduceSub, Nat.reduceMul, Nat.reduceLT, Nat.reduceLeDiff, Nat.reduceEqDiff, Nat.reduceBEq, Nat.reduceGT, Int.reduceEq, Int.reduceNe, Int.reduceLT, Int.reduceLE, Int.reduceToNat, Int.reduceNeg, Int.reduceBEq, Int.reduceAdd, Int.reduceSub, Int.reduceGT, Int.reduceGE, Int.reduceBNe, BEq.rfl]
      | refine callK_of (con_most) ?_
      | refine callK_of (c0) ?_
      | rfl
  · obtain ⟨hR, _⟩ := good_ctx hg
    unfold goodC at hg
    rw [hg] at c0
    rw [if_pos rfl]
    have hat := con_At C hC hR
    obtain ⟨hn, hE⟩ := hC
    have hys : (((List.range C.length).map (fun x => wayT C.length x (C[x]?.getD default))).map HT.v).length = C.length := by simp
    have hyx := way_row C
    generalize ((List.range C.length).map (fun x => wayT C.length x (C[x]?.getD default))).map HT.v = ys at *
    generalize C.map En.v = rows at *
    have m1 : (0 : Int) ≤ (C.length : Int) := by omega
    have m2 : (C.length : Int) * 288 ≤ 140737488355328 := by omega
    have m3 : (C.length : Int) ≤ 140737488355328 := by omega
    have w1 : IntKind.i64.wrap ((C.length : Int) - 1) = (C.length : Int) - 1 := w64 (by unfold fit; omega)
    refine contract_of_vc mixed Tryz.func14 tr14 ?_
    simp only [go_sem, reduceIte, reduceCtorEq, Nat.reduceAdd, Nat.reduceSub, Nat.reduceMul, Nat.reduceLT, Nat.reduceLeDiff, Nat.reduceEqDiff, Nat.reduceBEq, Nat.reduceGT, Int.reduceEq, Int.reduceNe, Int.reduceLT, Int.reduceLE, Int.reduceToNat, Int.reduceNeg, Int.reduceBEq, Int.reduceAdd, Int.reduceSub, Int.reduceGT, Int.reduceGE, Int.reduceBNe, hlen]
    refine callK_of con_most ?_
    simp only [go_sem, reduceIte, reduceCtorEq, Nat.reduceAdd, Nat.reduceSub, Nat.reduceMul, Nat.reduceLT, Nat.reduceLeDiff, Nat.reduceEqDiff, Nat.reduceBEq, Nat.reduceGT, Int.reduceEq, Int.reduceNe, Int.reduceLT, Int.reduceLE, Int.reduceToNat, Int.reduceNeg, Int.reduceBEq, Int.reduceAdd, Int.reduceSub, Int.reduceGT, Int.reduceGE, Int.reduceBNe, hlen]
    refine callK_of c0 ?_
    simp only [go_sem, reduceIte, reduceCtorEq, Nat.reduceAdd, Nat.reduceSub, Nat.reduceMul, Nat.reduceLT, Nat.reduceLeDiff, Nat.reduceEqDiff, Nat.reduceBEq, Nat.reduceGT, Int.reduceEq, Int.reduceNe, Int.reduceLT, Int.reduceLE, Int.reduceToNat, Int.reduceNeg, Int.reduceBEq, Int.reduceAdd, Int.reduceSub, Int.reduceGT, Int.reduceGE, Int.reduceBNe, hlen, m1, m2, m3, w1, Int.le_refl]
    intros
    refine vc_for (fun x => ⟨(.dsl 6 rows :: .junk :: .junk :: .osl 0 x 0 x :: .int .i64 ((C.length : Int) - 1 - (x : Nat)) :: .junk :: .junk :: .junk :: .junk :: .junk :: .junk :: .junk :: .junk :: .junk :: .junk :: .junk :: .junk :: .junk :: .junk :: .junk :: .junk :: .junk :: .junk :: .junk :: .junk :: .junk :: .junk :: .junk :: .junk :: .junk :: .junk :: .junk :: .junk :: .junk :: .junk :: .junk :: .junk :: .junk :: .junk :: []), [⟨false, 26, ys.take x, x - 1, x, true⟩]⟩) C.length (fun x hx => ?_) ?_
    · simp only [go_sem, reduceIte, reduceCtorEq, Nat.reduceAdd, Nat.reduceSub, Nat.reduceMul, Nat.reduceLT, Nat.reduceLeDiff, Nat.reduceEqDiff, Nat.reduceBEq, Nat.reduceGT, Int.reduceEq, Int.reduceNe, Int.reduceLT, Int.reduceLE, Int.reduceToNat, Int.reduceNeg, Int.reduceBEq, Int.reduceAdd, Int.reduceSub, Int.reduceGT, Int.reduceGE, Int.reduceBNe]
      refine ⟨fun h => ?_, fun h => ?_⟩
      · have hlt := of_decide_eq_true h
        have hlx : x < C.length := by omega
        obtain ⟨⟨oa, oi⟩, hh⟩ := hE _ (get_lt (d := default) hlx)
        obtain ⟨hm, _⟩ := ent_mark (ctx_at hR hlx)
        have c1 := hat x hlx
        have hy := hyx x hlx
        have ow : TOk (wayT C.length x (C[x]?.getD default)).a → True := fun _ => trivial
        generalize C[x]?.getD default = e at *
        have ol := tok_liftF0 (k := (C.length : Int) - x) (by omega) (mark_right hm) oa
        have c2 := con_StripF _ ol
        have c3 := con_var ((C.length : Int) - 1 - x)
        have ov : TOk (vr ((C.length : Int) - 1 - x)) := tok_vr (by unfold fit; omega)
        have c4 := con_hSelf e.i _ _ (stripF_of ol).1 ov
        have hzl := tv_len (liftF ((C.length : Int) - x) e.a)
        have hzw : (wayT C.length x e).v.length = 26 := hv_len
        have tn := take_next (l := ys) (d := []) (i := x) (by omega)
        rw [hy] at tn
        have e1 : (ys.take x).length = x := by simp; omega
        have e2 : (x + 1) * 288 ≤ 140737488355328 := by omega
        have e3 : x + 1 ≤ 140737488355328 := by omega
        have w4 : IntKind.i64.wrap ((C.length : Int) - 1 - (x : Nat) - 1) = (C.length : Int) - 1 - ((x + 1 : Nat) : Int) := by rw [w64 (by unfold fit; omega)]; omega
        change Con _ _ (.agg true (wayT C.length x e).v) at c4
        simp only [go_sem, reduceIte, reduceCtorEq, Nat.reduceAdd, Nat.reduceSub, Nat.reduceMul, Nat.reduceLT, Nat.reduceLeDiff, Nat.reduceEqDiff, Nat.reduceBEq, Nat.reduceGT, Int.reduceEq, Int.reduceNe, Int.reduceLT, Int.reduceLE, Int.reduceToNat, Int.reduceNeg, Int.reduceBEq, Int.reduceAdd, Int.reduceSub, Int.reduceGT, Int.reduceGE, Int.reduceBNe, hlen]
        refine callK_of c1 ?_
        simp only [go_sem, reduceIte, reduceCtorEq, Nat.reduceAdd, Nat.reduceSub, Nat.reduceMul, Nat.reduceLT, Nat.reduceLeDiff, Nat.reduceEqDiff, Nat.reduceBEq, Nat.reduceGT, Int.reduceEq, Int.reduceNe, Int.reduceLT, Int.reduceLE, Int.reduceToNat, Int.reduceNeg, Int.reduceBEq, Int.reduceAdd, Int.reduceSub, Int.reduceGT, Int.reduceGE, Int.reduceBNe, hzl]
        refine callK_of c2 ?_
        simp only [go_sem, reduceIte, reduceCtorEq, Nat.reduceAdd, Nat.reduceSub, Nat.reduceMul, Nat.reduceLT, Nat.reduceLeDiff, Nat.reduceEqDiff, Nat.reduceBEq, Nat.reduceGT, Int.reduceEq, Int.reduceNe, Int.reduceLT, Int.reduceLE, Int.reduceToNat, Int.reduceNeg, Int.reduceBEq, Int.reduceAdd, Int.reduceSub, Int.reduceGT, Int.reduceGE, Int.reduceBNe]
        refine callK_of c3 ?_
        simp only [go_sem, reduceIte, reduceCtorEq, Nat.reduceAdd, Nat.reduceSub, Nat.reduceMul, Nat.reduceLT, Nat.reduceLeDiff, Nat.reduceEqDiff, Nat.reduceBEq, Nat.reduceGT, Int.reduceEq, Int.reduceNe, Int.reduceLT, Int.reduceLE, Int.reduceToNat, Int.reduceNeg, Int.reduceBEq, Int.reduceAdd, Int.reduceSub, Int.reduceGT, Int.reduceGE, Int.reduceBNe]
        refine callK_of c4 ?_
        simp only [go_sem, reduceIte, reduceCtorEq, Nat.reduceAdd, Nat.reduceSub, Nat.reduceMul, Nat.reduceLT, Nat.reduceLeDiff, Nat.reduceEqDiff, Nat.reduceBEq, Nat.reduceGT, Int.reduceEq, Int.reduceNe, Int.reduceLT, Int.reduceLE, Int.reduceToNat, Int.reduceNeg, Int.reduceBEq, Int.reduceAdd, Int.reduceSub, Int.reduceGT, Int.reduceGE, Int.reduceBNe, hzw, e1, e2, e3, tn, w4]
        refine ⟨hlx, ?_⟩
        exact wk_trunc 1 (by simp [slotsLe]) (by simp) (by simp [below]) (by simp)
      · have hge := of_decide_eq_false h
        have hxe : x = C.length := by omega
        subst hxe
        have ht : ys.take C.length = ys := by rw [← hys, List.take_length]
        simp only [go_sem, reduceIte, reduceCtorEq, Nat.reduceAdd, Nat.reduceSub, Nat.reduceMul, Nat.reduceLT, Nat.reduceLeDiff, Nat.reduceEqDiff, Nat.reduceBEq, Nat.reduceGT, Int.reduceEq, Int.reduceNe, Int.reduceLT, Int.reduceLE, Int.reduceToNat, Int.reduceNeg, Int.reduceBEq, Int.reduceAdd, Int.reduceSub, Int.reduceGT, Int.reduceGE, Int.reduceBNe, hys, ht]
    · exact wk_slots (by simp [slotsLe])
/-! What is not too heavy -/
theorem greatctx_out (most : Int) (rows : List (List SV)) (hd : most < (rows.length : Int)) : Con 7 [.dsl 6 rows, .int .i64 most] (.bool true) := by
  refine contract_of_vc mixed Tryz.func7 tr7 ?_
  simp only [go_sem, reduceIte, reduceCtorEq, Nat.reduceAdd, Nat.reduceSub, Nat.reduceMul, Nat.reduceLT, Nat.reduceLeDiff, Nat.reduceEqDiff, Nat.reduceBEq, Nat.reduceGT, Int.reduceEq, Int.reduceNe, Int.reduceLT, Int.reduceLE, Int.reduceToNat, Int.reduceNeg, Int.reduceBEq, Int.reduceAdd, Int.reduceSub, Int.reduceGT, Int.reduceGE, Int.reduceBNe, hd]
theorem greatctx_in (most : Int) (C : List En) (W : List SV → Int → Int → Int) (h2 : C.length ≤ 1000000)
    (H : ∀ e ∈ C, ∀ m d, Con 26 [.agg true (tv e.a), .int .i64 m, .int .i64 d] (.int .i64 (W (tv e.a) m d))) (hd : ¬ most < (C.length : Int)) (m : Nat) (hm1 : m ≤ C.length)
    (hm2 : m = C.length ∨ most < sums0 W (C.map fun e => tv e.a) most 200 m) (hm3 : ∀ y, y < m → ¬ most < sums0 W (C.map fun e => tv e.a) most 200 y) :
    Con 7 [.dsl 6 (C.map En.v), .int .i64 most] (.bool (decide (most < sums0 W (C.map fun e => tv e.a) most 200 m))) := by
  have hrow := en_row C
  have hrw : ∀ x, x < C.length → (C.map fun e => tv e.a)[x]?.getD [] = tv (C[x]?.getD default).a := fun x hx => by
    rw [List.getElem?_map, List.getElem?_eq_getElem hx]; rfl
  have hlen : (C.map En.v).length = C.length := by simp
  generalize (C.map fun e => tv e.a) = trs at *
  generalize C.map En.v = rows at *
  refine contract_of_vc mixed Tryz.func7 tr7 ?_
  simp only [go_sem, reduceIte, reduceCtorEq, Nat.reduceAdd, Nat.reduceSub, Nat.reduceMul, Nat.reduceLT, Nat.reduceLeDiff, Nat.reduceEqDiff, Nat.reduceBEq, Nat.reduceGT, Int.reduceEq, Int.reduceNe, Int.reduceLT, Int.reduceLE, Int.reduceToNat, Int.reduceNeg, Int.reduceBEq, Int.reduceAdd, Int.reduceSub, Int.reduceGT, Int.reduceGE, Int.reduceBNe, hlen, hd]
  intro _
  refine vc_for (fun x => ⟨(.dsl 6 rows :: .int .i64 most :: .junk :: .junk :: .bool false :: .int .i64 (sums0 W trs most 200 x) :: .int .i64 x :: .junk :: .junk :: .junk :: .junk :: .junk :: .junk :: .junk :: .junk :: .junk :: .junk :: .junk :: .junk :: .junk :: .junk :: .junk :: .junk :: .junk :: .junk :: .junk :: .junk :: .junk :: .junk :: .junk :: .junk :: .junk :: .junk :: .junk :: .junk :: .junk :: []), []⟩) m (fun x hx => ?_) ?_
  · simp only [go_sem, reduceIte, reduceCtorEq, Nat.reduceAdd, Nat.reduceSub, Nat.reduceMul, Nat.reduceLT, Nat.reduceLeDiff, Nat.reduceEqDiff, Nat.reduceBEq, Nat.reduceGT, Int.reduceEq, Int.reduceNe, Int.reduceLT, Int.reduceLE, Int.reduceToNat, Int.reduceNeg, Int.reduceBEq, Int.reduceAdd, Int.reduceSub, Int.reduceGT, Int.reduceGE, Int.reduceBNe, hlen]
    intro _
    by_cases hxm : x = m
    · subst hxm
      rcases hm2 with hm2 | hm2
      · have hl : ¬ ((x : Int) < (C.length : Int)) := by omega
        simp only [go_sem, reduceIte, reduceCtorEq, Nat.reduceAdd, Nat.reduceSub, Nat.reduceMul, Nat.reduceLT, Nat.reduceLeDiff, Nat.reduceEqDiff, Nat.reduceBEq, Nat.reduceGT, Int.reduceEq, Int.reduceNe, Int.reduceLT, Int.reduceLE, Int.reduceToNat, Int.reduceNeg, Int.reduceBEq, Int.reduceAdd, Int.reduceSub, Int.reduceGT, Int.reduceGE, Int.reduceBNe, hl]
      · have hl : ¬ (sums0 W trs most 200 x ≤ most) := by omega
        refine ⟨fun h => ?_, fun h => ?_⟩
        · simp only [go_sem, reduceIte, reduceCtorEq, Nat.reduceAdd, Nat.reduceSub, Nat.reduceMul, Nat.reduceLT, Nat.reduceLeDiff, Nat.reduceEqDiff, Nat.reduceBEq, Nat.reduceGT, Int.reduceEq, Int.reduceNe, Int.reduceLT, Int.reduceLE, Int.reduceToNat, Int.reduceNeg, Int.reduceBEq, Int.reduceAdd, Int.reduceSub, Int.reduceGT, Int.reduceGE, Int.reduceBNe, h, hl]
        · simp only [go_sem, reduceIte, reduceCtorEq, Nat.reduceAdd, Nat.reduceSub, Nat.reduceMul, Nat.reduceLT, Nat.reduceLeDiff, Nat.reduceEqDiff, Nat.reduceBEq, Nat.reduceGT, Int.reduceEq, Int.reduceNe, Int.reduceLT, Int.reduceLE, Int.reduceToNat, Int.reduceNeg, Int.reduceBEq, Int.reduceAdd, Int.reduceSub, Int.reduceGT, Int.reduceGE, Int.reduceBNe, h, hl]
    · have hxl : x < C.length := by omega
      have hxl' : (x : Int) < (C.length : Int) := by omega
      have e0 : (0 : Int) ≤ (x : Int) := by omega
      have hle : sums0 W trs most 200 x ≤ most := by have := hm3 x (by omega); omega
      have hr := hrow x hxl
      have hw := hrw x hxl
      have hc := H _ (get_lt (d := default) hxl)
      generalize C[x]?.getD default = e at *
      have es : sums0 W trs most 200 (x + 1) = IntKind.i64.wrap (sums0 W trs most 200 x + W (tv e.a) (IntKind.i64.wrap (most - sums0 W trs most 200 x)) 200) := by rw [sums0, hw]
      simp only [go_sem, reduceIte, reduceCtorEq, Nat.reduceAdd, Nat.reduceSub, Nat.reduceMul, Nat.reduceLT, Nat.reduceLeDiff, Nat.reduceEqDiff, Nat.reduceBEq, Nat.reduceGT, Int.reduceEq, Int.reduceNe, Int.reduceLT, Int.reduceLE, Int.reduceToNat, Int.reduceNeg, Int.reduceBEq, Int.reduceAdd, Int.reduceSub, Int.reduceGT, Int.reduceGE, Int.reduceBNe, hlen, hxl', hle, e0, hr]
      refine callK_of (hc _ _) ?_
      simp only [go_sem, reduceIte, reduceCtorEq, Nat.reduceAdd, Nat.reduceSub, Nat.reduceMul, Nat.reduceLT, Nat.reduceLeDiff, Nat.reduceEqDiff, Nat.reduceBEq, Nat.reduceGT, Int.reduceEq, Int.reduceNe, Int.reduceLT, Int.reduceLE, Int.reduceToNat, Int.reduceNeg, Int.reduceBEq, Int.reduceAdd, Int.reduceSub, Int.reduceGT, Int.reduceGE, Int.reduceBNe, ← es]
      refine ⟨by omega, ?_⟩
      rw [w64 (n := (x : Int) + 1) (by unfold fit; omega)]
      exact wk_slots (by simp [slotsLe])
  · exact wk_slots (by simp [slotsLe, sums0])
theorem con_greatctx (most : Int) (h1 : 0 ≤ most) (h2 : most ≤ 900) (C : List En) (hl : ∀ e ∈ C, e.ok) :
    ∃ z, Con 7 [.dsl 6 (C.map En.v), .int .i64 most] (.bool z) ∧ (z = false → (C.length : Int) ≤ most ∧ ∀ e ∈ C, hgtT e.a ≤ 201 ∧ (sizT e.a : Int) ≤ most) := by
  have hlen : (C.map En.v).length = C.length := by simp
  by_cases hd : most < (C.length : Int)
  · exact ⟨true, greatctx_out most _ (by omega), fun h => by cases h⟩
  · obtain ⟨l, hL⟩ : ∃ l, C.map En.a = l := ⟨_, rfl⟩
    have hll : l.length = C.length := by rw [← hL]; simp
    have hmem : ∀ e ∈ C, e.a ∈ l := fun e he => by rw [← hL]; exact List.mem_map_of_mem he
    have hok : ∀ t ∈ l, TOk t := fun t ht => by rw [← hL] at ht; obtain ⟨e, he, rfl⟩ := List.mem_map.1 ht; exact (hl e he).a
    have hrows : (C.map fun e => tv e.a) = l.map tv := by rw [← hL, List.map_map]; rfl
    have H : ∀ (t : Tm) (m d : Int), ∃ z, t ∈ l → Wt3 t m d z := fun t m d => by
      by_cases ht : t ∈ l
      · obtain ⟨z, hz⟩ := con_weigh3 t (hok t ht) m d
        exact ⟨z, fun _ => hz⟩
      · exact ⟨0, fun h => absurd h ht⟩
    obtain ⟨Z, hZ⟩ : ∃ Z : Tm → Int → Int → Int, ∀ t ∈ l, ∀ m d, Wt3 t m d (Z t m d) := ⟨fun t m d => Classical.choose (H t m d), fun t ht m d => Classical.choose_spec (H t m d) ht⟩
    have hW : ∀ e ∈ C, ∀ m d, Con 26 [.agg true (tv e.a), .int .i64 m, .int .i64 d] (.int .i64 (onT Z (fun _ _ => 0) (tv e.a) m d)) := fun e he m d => by
      rw [onT_tv]
      exact (hZ e.a (hmem e he) m d).1
    obtain ⟨x, hx1, hx2, hx3⟩ := least (fun x => most < sums0 (onT Z (fun _ _ => 0)) (C.map fun e => tv e.a) most 200 x) C.length
    refine ⟨_, greatctx_in most C _ (by omega) hW hd x hx1 hx2 hx3, fun hz => ⟨by omega, fun e he => ?_⟩⟩
    have ht := hmem e he
    rw [hrows] at hz hx2 hx3
    have hz' : ¬ most < sums0 (onT Z (fun _ _ => 0)) (l.map tv) most 200 x := of_decide_eq_false hz
    have hxl : x = l.length := by
      rcases hx2 with h | h
      · omega
      · exact absurd h hz'
    rw [sums0_A] at hz'
    have hx3' : ∀ y, y < x → sumsA 0 (fun y m => onT Z (fun _ _ => 0) ((l.map tv)[y]?.getD []) m 200) most y ≤ most := fun y hy => by
      have := hx3 y hy
      rw [sums0_A] at this
      omega
    have hrow : ∀ y, y < l.length → (l.map tv)[y]?.getD [] = tv (l[y]?.getD default) := fun y hy => by
      rw [List.getElem?_map, List.getElem?_eq_getElem hy]; rfl
    obtain ⟨_, _, k3⟩ := sums_ok3 (a := 0) (V := fun y m => onT Z (fun _ _ => 0) ((l.map tv)[y]?.getD []) m 200) (most := most) (n := l.length) (B := fun y => (hgtT (l[y]?.getD default) : Int) ≤ 201) (S := fun y => (sizT (l[y]?.getD default) : Int)) (by omega) (by omega) h1 (by omega) (fun y hy m' hm1 hm2 => by
      simp only [hrow y hy, onT_tv]
      obtain ⟨_, g⟩ := hZ _ (get_lt (d := default) hy) m' 200
      obtain ⟨g1, g2, g3⟩ := g hm1 hm2 (by omega) (by omega)
      exact ⟨g1, g2, fun h => by have := g3 h; exact ⟨by omega, this.2⟩⟩) x (by omega) hx3'
    obtain ⟨k4, k5⟩ := k3 (by omega)
    have hm := siz_mem ht
    rw [hxl] at k5 hz'
    have e5 : sumI (fun y => (sizT (l[y]?.getD default) : Int)) l.length = (sizL l : Int) := sumI_siz l
    rw [e5] at k5
    obtain ⟨y, hy, hye⟩ := List.getElem_of_mem ht
    have := k4 y (by omega)
    rw [List.getElem?_eq_getElem hy, Option.getD_some, hye] at this
    exact ⟨by omega, by omega⟩
end Go.Proofs.YtkldipbhenabfaaGreat.Abs

