/- Contexts, by the program and by the page. -/
import Derived.Test.YtkldipbhenabfaaGreatRJg
import Derived.Test.YtkldipbhenabfaaGreatRJe
set_option linter.unusedSimpArgs false
set_option linter.unusedVariables false
namespace Go.Proofs.YtkldipbhenabfaaGreat.Abs
open Go Go.RowKit Go.Proofs.YtkldipbhenabfaaGreat

structure En where
  a : Tm
  i : Int
  deriving Inhabited
def ev6 (a : Tm) (i : Int) : List SV := tv a ++ [.int .i64 i]
def En.v (e : En) : List SV := ev6 e.a e.i
structure En.ok (e : En) : Prop where
  a : TOk e.a
  i : fit e.i
section
variable {a : Tm} {i : Int}
theorem ev6_len : (ev6 a i).length = 6 := by simp [ev6, tv_len]
theorem ev6_5 : (ev6 a i)[5]? = some (.int .i64 i) := by simp [ev6, tv_cells]
theorem ev6_a : (ev6 a i).take 5 = tv a := by simp [ev6, tv_cells]
theorem ev6_fill : fill [.int .i64 0, .int .i64 0, .int .i64 0, .int .i64 0, .nils, .int .i64 0] [(0, 5, .agg true (tv a)), (5, 1, .int .i64 i)] = ev6 a i := by
  simp [fill, splice, cellsOf, ev6, tv_cells]
end
theorem cut_part6 {cl : Bool} {c : Nat} {cells : List SV} : cut cl 6 true 5 c cells = .agg cl ((cells.drop c).take 5) := by simp [cut]
attribute [go_sem] ev6_len ev6_5 ev6_a ev6_fill cut_part6
theorem en_row (C : List En) (x : Nat) (hx : x < C.length) : (C.map En.v)[x]?.getD [] = ev6 (C[x]?.getD default).a (C[x]?.getD default).i := by
  rw [List.getElem?_map, List.getElem?_eq_getElem hx]; rfl

def entB (k : Nat) (e : En) : Bool := lev e.i && (markT e.a && decide (freeR e.a ≤ (k : Int)))
def ctxR (C : List En) : Bool := allI entB 0 C
def CtxOk (C : List En) : Prop := C.length ≤ 1000 ∧ ∀ e ∈ C, e.ok ∧ hgtT e.a ≤ 1000
theorem lev_lo {i : Int} (h : i < 0) : lev i = false := by
  unfold lev
  rw [show decide (0 ≤ i) = false by simp; omega, Bool.false_and]
theorem lev_hi {i : Int} (h : 1000 < i) : lev i = false := by
  unfold lev
  rw [show decide (i ≤ 1000) = false by simp; omega, Bool.and_false]
theorem lev_in {i : Int} (h1 : ¬ i < 0) (h2 : ¬ 1000 < i) : lev i = true := by
  unfold lev
  rw [show decide (0 ≤ i) = true by simp; omega, show decide (i ≤ 1000) = true by simp; omega, Bool.and_self]

set_option maxRecDepth 10000 in
set_option maxHeartbeats 2000000 in
theorem con_ctxR (C : List En) (hC : CtxOk C) : Con 66 [.dsl 6 (C.map En.v)] (.bool (ctxR C)) := by
  obtain ⟨hn, hE⟩ := hC
  refine contract_of_vc mixed Tryz.func66 tr66 ?_
  have hrow := en_row C
  have hlen : (C.map En.v).length = C.length := by simp
  generalize C.map En.v = rows at *
  simp only [go_sem, reduceIte, reduceCtorEq, Nat.reduceAdd, Nat.reduceSub, Nat.reduceMul, Nat.reduceLT, Nat.reduceLeDiff, Nat.reduceEqDiff, Nat.reduceBEq, Nat.reduceGT, Int.reduceEq, Int.reduceNe, Int.reduceLT, Int.reduceLE, Int.reduceToNat, Int.reduceNeg, Int.reduceBEq, Int.reduceAdd, Int.reduceSub, Int.reduceGT, Int.reduceGE, Int.reduceBNe]
  intros
  refine vc_forp (fun x => ⟨(.junk :: .junk :: .bool false :: .junk :: .junk :: .dsl 6 rows :: .int .i64 rows.length :: .int .i64 x :: .junk :: .junk :: .junk :: .junk :: .junk :: .junk :: .junk :: .junk :: .junk :: .junk :: .junk :: .junk :: .junk :: .junk :: .junk :: .junk :: .junk :: .junk :: .junk :: .junk :: .junk :: .junk :: .junk :: .junk :: .junk :: .junk :: []), []⟩) rows.length (fun x => entB x (C[x]?.getD default) = true) (fun x hx hp => ?_) ?_
  · simp only [go_sem, reduceIte, reduceCtorEq, Nat.reduceAdd, Nat.reduceSub, Nat.reduceMul, Nat.reduceLT, Nat.reduceLeDiff, Nat.reduceEqDiff, Nat.reduceBEq, Nat.reduceGT, Int.reduceEq, Int.reduceNe, Int.reduceLT, Int.reduceLE, Int.reduceToNat, Int.reduceNeg, Int.reduceBEq, Int.reduceAdd, Int.reduceSub, Int.reduceGT, Int.reduceGE, Int.reduceBNe]
    refine ⟨fun h => ?_, fun h => ?_⟩
    · have hlt := of_decide_eq_true h
      have hlt' : x < rows.length := by omega
      have hlx : x < C.length := by omega
      have e0 : (0 : Int) ≤ (x : Int) := by omega
      have hr := hrow x hlx
      obtain ⟨⟨oa, oi⟩, hh⟩ := hE _ (get_lt (d := default) hlx)
      have bad : entB x (C[x]?.getD default) = false → ctxR C = false := fun h => allI_no (d := default) (i := x) hlx (by rw [Nat.zero_add]; exact h)
      obtain ⟨e, he⟩ : ∃ e, C[x]?.getD default = e := ⟨_, rfl⟩
      rw [he] at hr oa oi hh bad ⊢
      unfold entB at bad ⊢
      have c1 := con_marked e.a oa
      have c2 := con_free e.a oa (by omega)
      have hza := tv_len e.a
      by_cases a1 : e.i < 0
      · simp only [go_sem, reduceIte, reduceCtorEq, Nat.reduceAdd, Nat.reduceSub, Nat.reduceMul, Nat.reduceLT, Nat.reduceLeDiff, Nat.reduceEqDiff, Nat.reduceBEq, Nat.reduceGT, Int.reduceEq, Int.reduceNe, Int.reduceLT, Int.reduceLE, Int.reduceToNat, Int.reduceNeg, Int.reduceBEq, Int.reduceAdd, Int.reduceSub, Int.reduceGT, Int.reduceGE, Int.reduceBNe, hlt, e0, hr, a1]
        rw [bad (by rw [lev_lo a1]; rfl)]
      · by_cases a2 : 1000 < e.i
        · simp only [go_sem, reduceIte, reduceCtorEq, Nat.reduceAdd, Nat.reduceSub, Nat.reduceMul, Nat.reduceLT, Nat.reduceLeDiff, Nat.reduceEqDiff, Nat.reduceBEq, Nat.reduceGT, Int.reduceEq, Int.reduceNe, Int.reduceLT, Int.reduceLE, Int.reduceToNat, Int.reduceNeg, Int.reduceBEq, Int.reduceAdd, Int.reduceSub, Int.reduceGT, Int.reduceGE, Int.reduceBNe, hlt, e0, hr, a1, a2]
          rw [bad (by rw [lev_hi a2]; rfl)]
        · rw [lev_in a1 a2, Bool.true_and] at bad ⊢
          simp only [go_sem, reduceIte, reduceCtorEq, Nat.reduceAdd, Nat.reduceSub, Nat.reduceMul, Nat.reduceLT, Nat.reduceLeDiff, Nat.reduceEqDiff, Nat.reduceBEq, Nat.reduceGT, Int.reduceEq, Int.reduceNe, Int.reduceLT, Int.reduceLE, Int.reduceToNat, Int.reduceNeg, Int.reduceBEq, Int.reduceAdd, Int.reduceSub, Int.reduceGT, Int.reduceGE, Int.reduceBNe, hlt, e0, hr, a1, a2, hza]
          refine callK_of c1 ?_
          cases hm : markT e.a
          · simp only [go_sem, reduceIte, reduceCtorEq, Nat.reduceAdd, Nat.reduceSub, Nat.reduceMul, Nat.reduceLT, Nat.reduceLeDiff, Nat.reduceEqDiff, Nat.reduceBEq, Nat.reduceGT, Int.reduceEq, Int.reduceNe, Int.reduceLT, Int.reduceLE, Int.reduceToNat, Int.reduceNeg, Int.reduceBEq, Int.reduceAdd, Int.reduceSub, Int.reduceGT, Int.reduceGE, Int.reduceBNe, hlt, e0, hr, a1, a2, hza]
            rw [bad (by rw [hm]; rfl)]
          · rw [hm, Bool.true_and] at bad
            have ef : freeF e.a = freeR e.a := by unfold freeF; rw [if_pos (mark_right hm)]
            rw [ef] at c2
            simp only [go_sem, reduceIte, reduceCtorEq, Nat.reduceAdd, Nat.reduceSub, Nat.reduceMul, Nat.reduceLT, Nat.reduceLeDiff, Nat.reduceEqDiff, Nat.reduceBEq, Nat.reduceGT, Int.reduceEq, Int.reduceNe, Int.reduceLT, Int.reduceLE, Int.reduceToNat, Int.reduceNeg, Int.reduceBEq, Int.reduceAdd, Int.reduceSub, Int.reduceGT, Int.reduceGE, Int.reduceBNe, hlt, e0, hr, a1, a2, hza]
            refine callK_of c2 ?_
            by_cases a3 : (x : Int) < freeR e.a
            · simp only [go_sem, reduceIte, reduceCtorEq, Nat.reduceAdd, Nat.reduceSub, Nat.reduceMul, Nat.reduceLT, Nat.reduceLeDiff, Nat.reduceEqDiff, Nat.reduceBEq, Nat.reduceGT, Int.reduceEq, Int.reduceNe, Int.reduceLT, Int.reduceLE, Int.reduceToNat, Int.reduceNeg, Int.reduceBEq, Int.reduceAdd, Int.reduceSub, Int.reduceGT, Int.reduceGE, Int.reduceBNe, a3]
              rw [bad (by simp; omega)]
            · have a4 : freeR e.a ≤ (x : Int) := by omega
              simp only [go_sem, reduceIte, reduceCtorEq, Nat.reduceAdd, Nat.reduceSub, Nat.reduceMul, Nat.reduceLT, Nat.reduceLeDiff, Nat.reduceEqDiff, Nat.reduceBEq, Nat.reduceGT, Int.reduceEq, Int.reduceNe, Int.reduceLT, Int.reduceLE, Int.reduceToNat, Int.reduceNeg, Int.reduceBEq, Int.reduceAdd, Int.reduceSub, Int.reduceGT, Int.reduceGE, Int.reduceBNe, a3, a4]
              refine ⟨hlt', ?_⟩
              rw [w64 (n := (x : Int) + 1) (by unfold fit; omega)]
              exact wk_trunc 0 (by simp [slotsLe]) rfl (by simp [below]) (by simp)
    · have hge := of_decide_eq_false h
      have hxe : x = C.length := by omega
      simp only [go_sem, reduceIte, reduceCtorEq, Nat.reduceAdd, Nat.reduceSub, Nat.reduceMul, Nat.reduceLT, Nat.reduceLeDiff, Nat.reduceEqDiff, Nat.reduceBEq, Nat.reduceGT, Int.reduceEq, Int.reduceNe, Int.reduceLT, Int.reduceLE, Int.reduceToNat, Int.reduceNeg, Int.reduceBEq, Int.reduceAdd, Int.reduceSub, Int.reduceGT, Int.reduceGE, Int.reduceBNe, h]
      rw [show ctxR C = true from allI_of (d := default) (f := entB) (fun j hj => by rw [Nat.zero_add]; exact hp j (by omega))]
  · exact wk_trunc 0 (by simp [slotsLe]) rfl (by simp [below]) (by simp)
def lowE (top : Int) (e : En) : Bool := decide (e.i ≤ top) && lowT top e.a
def lowC (top : Int) (C : List En) : Bool := C.all (lowE top)
set_option maxRecDepth 10000 in
set_option maxHeartbeats 2000000 in
theorem con_tLowCtx (C : List En) (hC : CtxOk C) (top : Int) : Con 27 [.dsl 6 (C.map En.v), .int .i64 top] (.bool (ctxR C && lowC top C)) := by
  have c0 := con_ctxR C hC
  obtain ⟨hn, hE⟩ := hC
  refine contract_of_vc mixed Tryz.func27 tr27 ?_
  have hrow := en_row C
  have hlen : (C.map En.v).length = C.length := by simp
  generalize C.map En.v = rows at *
  simp only [go_sem, reduceIte, reduceCtorEq, Nat.reduceAdd, Nat.reduceSub, Nat.reduceMul, Nat.reduceLT, Nat.reduceLeDiff, Nat.reduceEqDiff, Nat.reduceBEq, Nat.reduceGT, Int.reduceEq, Int.reduceNe, Int.reduceLT, Int.reduceLE, Int.reduceToNat, Int.reduceNeg, Int.reduceBEq, Int.reduceAdd, Int.reduceSub, Int.reduceGT, Int.reduceGE, Int.reduceBNe]
  refine callK_of c0 ?_
  cases hR : ctxR C
  · simp only [go_sem, reduceIte, reduceCtorEq, Nat.reduceAdd, Nat.reduceSub, Nat.reduceMul, Nat.reduceLT, Nat.reduceLeDiff, Nat.reduceEqDiff, Nat.reduceBEq, Nat.reduceGT, Int.reduceEq, Int.reduceNe, Int.reduceLT, Int.reduceLE, Int.reduceToNat, Int.reduceNeg, Int.reduceBEq, Int.reduceAdd, Int.reduceSub, Int.reduceGT, Int.reduceGE, Int.reduceBNe]
  · simp only [go_sem, reduceIte, reduceCtorEq, Nat.reduceAdd, Nat.reduceSub, Nat.reduceMul, Nat.reduceLT, Nat.reduceLeDiff, Nat.reduceEqDiff, Nat.reduceBEq, Nat.reduceGT, Int.reduceEq, Int.reduceNe, Int.reduceLT, Int.reduceLE, Int.reduceToNat, Int.reduceNeg, Int.reduceBEq, Int.reduceAdd, Int.reduceSub, Int.reduceGT, Int.reduceGE, Int.reduceBNe]
    intros
    refine vc_forp (fun x => ⟨(.junk :: .int .i64 top :: .junk :: .junk :: .bool false :: .junk :: .junk :: .junk :: .junk :: .junk :: .dsl 6 rows :: .int .i64 rows.length :: .int .i64 x :: .junk :: .junk :: .junk :: .junk :: .junk :: .junk :: .junk :: .junk :: .junk :: .junk :: .junk :: .junk :: .junk :: .junk :: .junk :: []), []⟩) rows.length (fun x => lowE top (C[x]?.getD default) = true) (fun x hx hp => ?_) ?_
    · simp only [go_sem, reduceIte, reduceCtorEq, Nat.reduceAdd, Nat.reduceSub, Nat.reduceMul, Nat.reduceLT, Nat.reduceLeDiff, Nat.reduceEqDiff, Nat.reduceBEq, Nat.reduceGT, Int.reduceEq, Int.reduceNe, Int.reduceLT, Int.reduceLE, Int.reduceToNat, Int.reduceNeg, Int.reduceBEq, Int.reduceAdd, Int.reduceSub, Int.reduceGT, Int.reduceGE, Int.reduceBNe]
      refine ⟨fun h => ?_, fun h => ?_⟩
      · have hlt := of_decide_eq_true h
        have hlt' : x < rows.length := by omega
        have hlx : x < C.length := by omega
        have e0 : (0 : Int) ≤ (x : Int) := by omega
        have hr := hrow x hlx
        obtain ⟨⟨oa, oi⟩, hh⟩ := hE _ (get_lt (d := default) hlx)
        have bad : lowE top (C[x]?.getD default) = false → lowC top C = false := fun h => all_no (d := default) (i := x) hlx h
        obtain ⟨e, he⟩ : ∃ e, C[x]?.getD default = e := ⟨_, rfl⟩
        rw [he] at hr oa oi hh bad ⊢
        unfold lowE at bad ⊢
        have c1 := con_tlow top e.a oa
        have hza := tv_len e.a
        by_cases a1 : top < e.i
        · simp only [go_sem, reduceIte, reduceCtorEq, Nat.reduceAdd, Nat.reduceSub, Nat.reduceMul, Nat.reduceLT, Nat.reduceLeDiff, Nat.reduceEqDiff, Nat.reduceBEq, Nat.reduceGT, Int.reduceEq, Int.reduceNe, Int.reduceLT, Int.reduceLE, Int.reduceToNat, Int.reduceNeg, Int.reduceBEq, Int.reduceAdd, Int.reduceSub, Int.reduceGT, Int.reduceGE, Int.reduceBNe, hlt, e0, hr, a1]
          rw [bad (by rw [show decide (e.i ≤ top) = false by simp; omega]; rfl)]
        · rw [show decide (e.i ≤ top) = true by simp; omega, Bool.true_and] at bad ⊢
          simp only [go_sem, reduceIte, reduceCtorEq, Nat.reduceAdd, Nat.reduceSub, Nat.reduceMul, Nat.reduceLT, Nat.reduceLeDiff, Nat.reduceEqDiff, Nat.reduceBEq, Nat.reduceGT, Int.reduceEq, Int.reduceNe, Int.reduceLT, Int.reduceLE, Int.reduceToNat, Int.reduceNeg, Int.reduceBEq, Int.reduceAdd, Int.reduceSub, Int.reduceGT, Int.reduceGE, Int.reduceBNe, hlt, e0, hr, a1, hza]
          refine callK_of c1 ?_
          cases hm : lowT top e.a
          · simp only [go_sem, reduceIte, reduceCtorEq, Nat.reduceAdd, Nat.reduceSub, Nat.reduceMul, Nat.reduceLT, Nat.reduceLeDiff, Nat.reduceEqDiff, Nat.reduceBEq, Nat.reduceGT, Int.reduceEq, Int.reduceNe, Int.reduceLT, Int.reduceLE, Int.reduceToNat, Int.reduceNeg, Int.reduceBEq, Int.reduceAdd, Int.reduceSub, Int.reduceGT, Int.reduceGE, Int.reduceBNe]
            rw [bad hm]
          · simp only [go_sem, reduceIte, reduceCtorEq, Nat.reduceAdd, Nat.reduceSub, Nat.reduceMul, Nat.reduceLT, Nat.reduceLeDiff, Nat.reduceEqDiff, Nat.reduceBEq, Nat.reduceGT, Int.reduceEq, Int.reduceNe, Int.reduceLT, Int.reduceLE, Int.reduceToNat, Int.reduceNeg, Int.reduceBEq, Int.reduceAdd, Int.reduceSub, Int.reduceGT, Int.reduceGE, Int.reduceBNe]
            refine ⟨hlt', ?_⟩
            rw [w64 (n := (x : Int) + 1) (by unfold fit; omega)]
            exact wk_trunc 0 (by simp [slotsLe]) rfl (by simp [below]) (by simp)
      · have hge := of_decide_eq_false h
        have hxe : x = C.length := by omega
        simp only [go_sem, reduceIte, reduceCtorEq, Nat.reduceAdd, Nat.reduceSub, Nat.reduceMul, Nat.reduceLT, Nat.reduceLeDiff, Nat.reduceEqDiff, Nat.reduceBEq, Nat.reduceGT, Int.reduceEq, Int.reduceNe, Int.reduceLT, Int.reduceLE, Int.reduceToNat, Int.reduceNeg, Int.reduceBEq, Int.reduceAdd, Int.reduceSub, Int.reduceGT, Int.reduceGE, Int.reduceBNe, h]
        rw [show lowC top C = true from all_of (d := default) (fun j hj => hp j (by omega))]
    · exact wk_trunc 0 (by simp [slotsLe]) rfl (by simp [below]) (by simp)
def goodC (C : List En) : Bool := ctxR C && lowC 996 C
theorem con_most : Con 28 [] (.int .i64 996) := by
  refine contract_of_vc mixed Tryz.func28 tr28 ?_
  simp only [go_sem, reduceIte, reduceCtorEq, Nat.reduceAdd, Nat.reduceSub, Nat.reduceMul, Nat.reduceLT, Nat.reduceLeDiff, Nat.reduceEqDiff, Nat.reduceBEq, Nat.reduceGT, Int.reduceEq, Int.reduceNe, Int.reduceLT, Int.reduceLE, Int.reduceToNat, Int.reduceNeg, Int.reduceBEq, Int.reduceAdd, Int.reduceSub, Int.reduceGT, Int.reduceGE, Int.reduceBNe]

/-! Lifted right terms -/
theorem con_liftR (k : Int) (hk : 0 ≤ k) (t : Tm) (ht : TOk t) (hp : rightT t 0 = true) (hh : hgtT t ≤ 1000) : Con 82 [.agg true (tv t), .int .i64 k, .int .i64 0] (.agg true (tv (liftF k t))) := by
  have h1 := con_rightq t ht
  rw [hp] at h1
  have h2 := con_blift k hk t ht 0 0 hp (by omega) (by omega)
  have hz := tv_len t
  have hk' : ¬ k < 0 := by omega
  unfold liftF
  cases hu : liftT k 0 t with
  | none =>
    rw [hu] at h2
    refine (contract_of_vc (r := .agg true [.int .i64 0, .int .i64 0, .int .i64 0, .int .i64 0, .nils]) mixed Tryz.func82 tr82 ?_).weaken le_zT
    have hzz := tv_len zT
    simp only [go_sem, reduceIte, reduceCtorEq, Nat.reduceAdd, Nat.reduceSub, Nat.reduceMul, Nat.reduceLT, Nat.reduceLeDiff, Nat.reduceEqDiff, Nat.reduceBEq, Nat.reduceGT, Int.reduceEq, Int.reduceNe, Int.reduceLT, Int.reduceLE, Int.reduceToNat, Int.reduceNeg, Int.reduceBEq, Int.reduceAdd, Int.reduceSub, Int.reduceGT, Int.reduceGE, Int.reduceBNe, hz, hk']
    refine callK_of h1 ?_
    simp only [go_sem, reduceIte, reduceCtorEq, Nat.reduceAdd, Nat.reduceSub, Nat.reduceMul, Nat.reduceLT, Nat.reduceLeDiff, Nat.reduceEqDiff, Nat.reduceBEq, Nat.reduceGT, Int.reduceEq, Int.reduceNe, Int.reduceLT, Int.reduceLE, Int.reduceToNat, Int.reduceNeg, Int.reduceBEq, Int.reduceAdd, Int.reduceSub, Int.reduceGT, Int.reduceGE, Int.reduceBNe, hz, hk']
    refine callK_of h2 ?_
    simp only [go_sem, reduceIte, reduceCtorEq, Nat.reduceAdd, Nat.reduceSub, Nat.reduceMul, Nat.reduceLT, Nat.reduceLeDiff, Nat.reduceEqDiff, Nat.reduceBEq, Nat.reduceGT, Int.reduceEq, Int.reduceNe, Int.reduceLT, Int.reduceLE, Int.reduceToNat, Int.reduceNeg, Int.reduceBEq, Int.reduceAdd, Int.reduceSub, Int.reduceGT, Int.reduceGE, Int.reduceBNe, resR, Option.map_none, hzz]
  | some u =>
    rw [hu] at h2
    refine contract_of_vc mixed Tryz.func82 tr82 ?_
    have hzz := tv_len u
    simp only [go_sem, reduceIte, reduceCtorEq, Nat.reduceAdd, Nat.reduceSub, Nat.reduceMul, Nat.reduceLT, Nat.reduceLeDiff, Nat.reduceEqDiff, Nat.reduceBEq, Nat.reduceGT, Int.reduceEq, Int.reduceNe, Int.reduceLT, Int.reduceLE, Int.reduceToNat, Int.reduceNeg, Int.reduceBEq, Int.reduceAdd, Int.reduceSub, Int.reduceGT, Int.reduceGE, Int.reduceBNe, hz, hk']
    refine callK_of h1 ?_
    simp only [go_sem, reduceIte, reduceCtorEq, Nat.reduceAdd, Nat.reduceSub, Nat.reduceMul, Nat.reduceLT, Nat.reduceLeDiff, Nat.reduceEqDiff, Nat.reduceBEq, Nat.reduceGT, Int.reduceEq, Int.reduceNe, Int.reduceLT, Int.reduceLE, Int.reduceToNat, Int.reduceNeg, Int.reduceBEq, Int.reduceAdd, Int.reduceSub, Int.reduceGT, Int.reduceGE, Int.reduceBNe, hz, hk']
    refine callK_of h2 ?_
    simp only [go_sem, reduceIte, reduceCtorEq, Nat.reduceAdd, Nat.reduceSub, Nat.reduceMul, Nat.reduceLT, Nat.reduceLeDiff, Nat.reduceEqDiff, Nat.reduceBEq, Nat.reduceGT, Int.reduceEq, Int.reduceNe, Int.reduceLT, Int.reduceLE, Int.reduceToNat, Int.reduceNeg, Int.reduceBEq, Int.reduceAdd, Int.reduceSub, Int.reduceGT, Int.reduceGE, Int.reduceBNe, resR, Option.map_some, hzz, Option.getD_some]
theorem tok_liftF0 {k : Int} (hk : 0 ≤ k) {t : Tm} (ht : rightT t 0 = true) (ho : TOk t) : TOk (liftF k t) := by
  unfold liftF
  cases hu : liftT k 0 t with
  | none => exact tok_zT
  | some u => exact lift_ok k hk t ho 0 0 u ht hu

/-! The type of a variable -/
theorem ctx_at {C : List En} (h : ctxR C = true) {x : Nat} (hx : x < C.length) : entB x (C[x]?.getD default) = true := by
  have key : ∀ (C : List En) (k x : Nat), allI entB k C = true → x < C.length → entB (k + x) (C[x]?.getD default) = true := by
    intro C
    induction C with
    | nil => intro k x _ hx; simp at hx
    | cons e C ih =>
      intro k x h hx
      rw [allI, Bool.and_eq_true] at h
      cases x with
      | zero => simpa using h.1
      | succ x =>
        have := ih (k + 1) x h.2 (by simpa using hx)
        rw [show k + (x + 1) = k + 1 + x by omega]
        simpa using this
  have := key C 0 x h hx
  rwa [Nat.zero_add] at this
theorem ent_mark {k : Nat} {e : En} (h : entB k e = true) : markT e.a = true ∧ freeR e.a ≤ (k : Int) := by
  unfold entB at h
  simp only [Bool.and_eq_true, decide_eq_true_eq] at h
  exact h.2
set_option maxRecDepth 10000 in
theorem con_At (C : List En) (hC : CtxOk C) (hR : ctxR C = true) (x : Nat) (hx : x < C.length) : Con 47 [.dsl 6 (C.map En.v), .int .i64 ((C.length : Int) - 1 - x)] (.tup [.agg true (tv (liftF ((C.length : Int) - x) (C[x]?.getD default).a)), .int .i64 (C[x]?.getD default).i, .bool true]) := by
  have c0 := con_ctxR C hC
  rw [hR] at c0
  obtain ⟨hn, hE⟩ := hC
  obtain ⟨⟨oa, oi⟩, hh⟩ := hE _ (get_lt (d := default) hx)
  obtain ⟨hm, _⟩ := ent_mark (ctx_at hR hx)
  have hr := en_row C x hx
  have c1 := con_liftR ((C.length : Int) - x) (by omega) _ oa (mark_right hm) hh
  have hlen : (C.map En.v).length = C.length := by simp
  generalize C.map En.v = rows at *
  generalize C[x]?.getD default = e at *
  have hza := tv_len e.a
  have hzl := tv_len (liftF ((C.length : Int) - x) e.a)
  generalize C.length = n at *
  subst hlen
  have a1 : ¬ ((rows.length : Int) - 1 - x < 0) := by omega
  have a2 : ¬ ((rows.length : Int) ≤ (rows.length : Int) - 1 - x) := by omega
  have w1 : IntKind.i64.wrap ((rows.length : Int) - 1) = (rows.length : Int) - 1 := w64 (by unfold fit; omega)
  have w2 : IntKind.i64.wrap ((rows.length : Int) - 1 - ((rows.length : Int) - 1 - x)) = (x : Int) := by rw [w64 (by unfold fit; omega)]; omega
  have w3 : IntKind.i64.wrap ((rows.length : Int) - 1 - x + 1) = (rows.length : Int) - x := by rw [w64 (by unfold fit; omega)]; omega
  have e0 : (0 : Int) ≤ (x : Int) := by omega
  have e1 : (x : Int) < (rows.length : Int) := by omega
  refine contract_of_vc mixed Tryz.func47 tr47 ?_
  simp only [go_sem, reduceIte, reduceCtorEq, Nat.reduceAdd, Nat.reduceSub, Nat.reduceMul, Nat.reduceLT, Nat.reduceLeDiff, Nat.reduceEqDiff, Nat.reduceBEq, Nat.reduceGT, Int.reduceEq, Int.reduceNe, Int.reduceLT, Int.reduceLE, Int.reduceToNat, Int.reduceNeg, Int.reduceBEq, Int.reduceAdd, Int.reduceSub, Int.reduceGT, Int.reduceGE, Int.reduceBNe, a1, a2]
  intros
  refine callK_of c0 ?_
  simp only [go_sem, reduceIte, reduceCtorEq, Nat.reduceAdd, Nat.reduceSub, Nat.reduceMul, Nat.reduceLT, Nat.reduceLeDiff, Nat.reduceEqDiff, Nat.reduceBEq, Nat.reduceGT, Int.reduceEq, Int.reduceNe, Int.reduceLT, Int.reduceLE, Int.reduceToNat, Int.reduceNeg, Int.reduceBEq, Int.reduceAdd, Int.reduceSub, Int.reduceGT, Int.reduceGE, Int.reduceBNe, w1, w2, e0, e1, hr, hza]
  intros
  simp only [go_sem, reduceIte, reduceCtorEq, Nat.reduceAdd, Nat.reduceSub, Nat.reduceMul, Nat.reduceLT, Nat.reduceLeDiff, Nat.reduceEqDiff, Nat.reduceBEq, Nat.reduceGT, Int.reduceEq, Int.reduceNe, Int.reduceLT, Int.reduceLE, Int.reduceToNat, Int.reduceNeg, Int.reduceBEq, Int.reduceAdd, Int.reduceSub, Int.reduceGT, Int.reduceGE, Int.reduceBNe, w1, w2, w3, e0, e1, hr, hza]
  refine callK_of c1 ?_
  simp only [go_sem, reduceIte, reduceCtorEq, Nat.reduceAdd, Nat.reduceSub, Nat.reduceMul, Nat.reduceLT, Nat.reduceLeDiff, Nat.reduceEqDiff, Nat.reduceBEq, Nat.reduceGT, Int.reduceEq, Int.reduceNe, Int.reduceLT, Int.reduceLE, Int.reduceToNat, Int.reduceNeg, Int.reduceBEq, Int.reduceAdd, Int.reduceSub, Int.reduceGT, Int.reduceGE, Int.reduceBNe, hzl]
end Go.Proofs.YtkldipbhenabfaaGreat.Abs

