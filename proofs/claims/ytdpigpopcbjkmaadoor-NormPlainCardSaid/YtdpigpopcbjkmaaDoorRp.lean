/- The term by which the statements on norm wake, run. -/
import Derived.Test.YtdpigpopcbjkmaaDoorRo
import Derived.Test.YtdpigpopcbjkmaaDoorLd
set_option linter.unusedSimpArgs false
set_option linter.unusedVariables false
namespace Go.Proofs.YtdpigpopcbjkmaaDoor.Abs
open Go Go.RowKit Go.Proofs.YtdpigpopcbjkmaaDoor

def s0 : Tm := .mk 1 0 0 0 []
def wkT : Tm := .mk 15 0 0 0 [.mk 14 0 0 0 [.mk 1 1 0 0 [], .mk 2 0 0 0 []], .mk 1 0 0 0 []]
def wkG (s : Int) : List (List SV) := [[.undef], mRow 0 1 s 0 0, thR ⟨wkT, [], false, none, none⟩]
def vS0 : Vl := ⟨1, 0, 0, 0, 0, []⟩

theorem wk_weak (s : Int) : ∃ G' th, HCon 40 (wkG s) [.gp 1 0, .gp 2 0] (.ret (vlV vS0)) G' ∧ G'[2]? = some (thR th) := by
  have hl : ∀ G : List (List SV), EvL G 1 (.mk 14 0 0 0 [.mk 1 1 0 0 [], .mk 2 0 0 0 []]) [] (.ret (vlV (nodeV 14 0 0 0 [.mk 1 1 0 0 [], .mk 2 0 0 0 []] G.length))) (G ++ nodeRows (-1) none [] 0 [.mk 1 1 0 0 [], .mk 2 0 0 0 []]) := fun G => evl_node (by simp) (by omega) (by omega)
  have hs : ∀ G : List (List SV), EvL G 1 (.mk 1 0 0 0 []) [] (.ret (vlV vS0)) (G ++ []) := fun G => evl_node (by simp) (by omega) (by omega)
  have h5 : fit 0 := by unfold fit; omega
  have h6 : fit 1 := by unfold fit; omega
  refine ⟨_, _, weak_new (th := ⟨wkT, [], false, none, none⟩) (th1 := ⟨wkT, [], false, none, none⟩) rfl rfl rfl (hcon_eval (evl_app (m := 1) (j := 0) (id := 4) (steps := 0) (most := 1) (seen := s) (guess := 0) (th := ⟨.mk 2 0 0 0 [], [], false, none, none⟩) (hcon_eval (hl (wkG s))) rfl rfl rfl h5 (by omega) (by omega) h6 rfl rfl h6
    (evl_var (i := 0) (id := 5) h5 rfl (weak_new (th := ⟨s0, [], false, none, none⟩) (th1 := ⟨s0, [], false, none, none⟩) rfl rfl rfl (hcon_eval (hs _)) rfl) ⟨_, rfl⟩))) rfl, rfl⟩

theorem wk_head (s : Int) : ∃ G', HCon 24 (wkG s) [.gp 1 0, .gp 2 0] (.ret (vlV vS0)) G' := by
  obtain ⟨G', th, h, h2⟩ := wk_weak s
  exact ⟨_, head_new (th := ⟨wkT, [], false, none, none⟩) rfl rfl h h2 (.base (by decide) (by decide))⟩

theorem wk_quote : ∃ G', HCon 20 (wkG 0) [.gp 1 0, .gp 2 0, .int .i64 0] (.ret (.agg true (tv s0))) G' := by
  obtain ⟨G', h⟩ := wk_head 1
  exact ⟨_, quote_leaf (m := 1) (j := 0) (steps := 0) (most := 1) (seen := 0) (guess := 0) (v := vS0) rfl (by unfold fit; omega) (by omega) (by omega) (by omega) h (by decide) rfl⟩

theorem tok_wkT : TOk wkT := by
  have f : ∀ n : Int, 0 ≤ n → n ≤ 100 → fit n := fun n h1 h2 => by unfold fit; omega
  refine .mk _ _ _ _ _ (f _ (by omega) (by omega)) (f _ (by omega) (by omega)) (f _ (by omega) (by omega)) (f _ (by omega) (by omega)) (by simp) (fun t ht => ?_)
  simp only [List.mem_cons, List.not_mem_nil, or_false] at ht
  rcases ht with rfl | rfl
  · refine .mk _ _ _ _ _ (f _ (by omega) (by omega)) (f _ (by omega) (by omega)) (f _ (by omega) (by omega)) (f _ (by omega) (by omega)) (by simp) (fun t ht => ?_)
    simp only [List.mem_cons, List.not_mem_nil, or_false] at ht
    rcases ht with rfl | rfl <;> exact .mk _ _ _ _ _ (f _ (by omega) (by omega)) (f _ (by omega) (by omega)) (f _ (by omega) (by omega)) (f _ (by omega) (by omega)) (by simp) (fun t ht => by cases ht)
  · exact .mk _ _ _ _ _ (f _ (by omega) (by omega)) (f _ (by omega) (by omega)) (f _ (by omega) (by omega)) (f _ (by omega) (by omega)) (by simp) (fun t ht => by cases ht)

set_option maxRecDepth 10000 in
theorem norm_wk : Con 7 [.agg true (tv wkT), .float .f64 4607182418800017408] (.tup [.agg true (tv s0), .int .i64 0]) := by
  refine contract_of_doorF mixed Tryd.func7 tr7 inv_norm Nrm.idle_norm (noG_two _ _) (noG_res _ _) ?_
  have hc := con_plain wkT tok_wkT
  rw [show rightT wkT 2 = true by kernel_rfl] at hc
  have hn := hcon_new [] 1
  have hl := hcon_close [[.undef], mRow 0 1 0 0 0] wkT []
  obtain ⟨G', hq⟩ := wk_quote
  have h5 := tv_len wkT
  have h6 := tv_len s0
  generalize tv wkT = r at *
  generalize tv s0 = r0 at *
  simp only [go_sem, reduceIte, reduceCtorEq, Nat.reduceAdd, Nat.reduceSub, Nat.reduceMul, Nat.reduceLT, Nat.reduceLeDiff, Nat.reduceEqDiff, Nat.reduceBEq, Nat.reduceGT, Int.reduceEq, Int.reduceNe, Int.reduceLT, Int.reduceLE, Int.reduceToNat, Int.reduceNeg, Int.reduceBEq, Int.reduceAdd, Int.reduceSub, Int.reduceGT, Int.reduceGE, Int.reduceBNe, h5]
  refine callK_of hc ?_
  simp only [go_sem, reduceIte, reduceCtorEq, Nat.reduceAdd, Nat.reduceSub, Nat.reduceMul, Nat.reduceLT, Nat.reduceLeDiff, Nat.reduceEqDiff, Nat.reduceBEq, Nat.reduceGT, Int.reduceEq, Int.reduceNe, Int.reduceLT, Int.reduceLE, Int.reduceToNat, Int.reduceNeg, Int.reduceBEq, Int.reduceAdd, Int.reduceSub, Int.reduceGT, Int.reduceGE, Int.reduceBNe, h5]
  refine callK_of con_limit ?_
  simp only [go_sem, reduceIte, reduceCtorEq, Nat.reduceAdd, Nat.reduceSub, Nat.reduceMul, Nat.reduceLT, Nat.reduceLeDiff, Nat.reduceEqDiff, Nat.reduceBEq, Nat.reduceGT, Int.reduceEq, Int.reduceNe, Int.reduceLT, Int.reduceLE, Int.reduceToNat, Int.reduceNeg, Int.reduceBEq, Int.reduceAdd, Int.reduceSub, Int.reduceGT, Int.reduceGE, Int.reduceBNe, h5]
  refine callH_of hn ?_
  simp only [go_sem, reduceIte, reduceCtorEq, Nat.reduceAdd, Nat.reduceSub, Nat.reduceMul, Nat.reduceLT, Nat.reduceLeDiff, Nat.reduceEqDiff, Nat.reduceBEq, Nat.reduceGT, Int.reduceEq, Int.reduceNe, Int.reduceLT, Int.reduceLE, Int.reduceToNat, Int.reduceNeg, Int.reduceBEq, Int.reduceAdd, Int.reduceSub, Int.reduceGT, Int.reduceGE, Int.reduceBNe, h5]
  refine callH_of hl ?_
  simp only [go_sem, reduceIte, reduceCtorEq, Nat.reduceAdd, Nat.reduceSub, Nat.reduceMul, Nat.reduceLT, Nat.reduceLeDiff, Nat.reduceEqDiff, Nat.reduceBEq, Nat.reduceGT, Int.reduceEq, Int.reduceNe, Int.reduceLT, Int.reduceLE, Int.reduceToNat, Int.reduceNeg, Int.reduceBEq, Int.reduceAdd, Int.reduceSub, Int.reduceGT, Int.reduceGE, Int.reduceBNe, h5]
  refine callH_of hq ?_
  simp only [go_sem, reduceIte, reduceCtorEq, Nat.reduceAdd, Nat.reduceSub, Nat.reduceMul, Nat.reduceLT, Nat.reduceLeDiff, Nat.reduceEqDiff, Nat.reduceBEq, Nat.reduceGT, Int.reduceEq, Int.reduceNe, Int.reduceLT, Int.reduceLE, Int.reduceToNat, Int.reduceNeg, Int.reduceBEq, Int.reduceAdd, Int.reduceSub, Int.reduceGT, Int.reduceGE, Int.reduceBNe, h5, h6]

set_option maxRecDepth 10000 in
theorem head_wk : Con 8 [.agg true (tv wkT), .float .f64 4607182418800017408] (.tup [.agg true (tv s0), .int .i64 0]) := by
  refine contract_of_doorF mixed Tryd.func8 tr8 inv_head Nrm.idle_head (noG_two _ _) (noG_res _ _) ?_
  have hc := con_plain wkT tok_wkT
  rw [show rightT wkT 2 = true by kernel_rfl] at hc
  have hn := hcon_new [] 1
  have hl := hcon_close [[.undef], mRow 0 1 0 0 0] wkT []
  obtain ⟨G', hq⟩ := wk_head 0
  have ht := told_leaf (G := G') (m := 1) (v := vS0) (deep := 0) (by decide) rfl
  have ht' : HCon 23 G' [.gp 1 0, vlV vS0, .int .i64 0] (.ret (.agg true (tv s0))) G' := ht
  clear ht
  have h5 := tv_len wkT
  have h6 := tv_len s0
  generalize tv wkT = r at *
  generalize tv s0 = r0 at *
  generalize vS0 = v0 at *
  simp only [go_sem, reduceIte, reduceCtorEq, Nat.reduceAdd, Nat.reduceSub, Nat.reduceMul, Nat.reduceLT, Nat.reduceLeDiff, Nat.reduceEqDiff, Nat.reduceBEq, Nat.reduceGT, Int.reduceEq, Int.reduceNe, Int.reduceLT, Int.reduceLE, Int.reduceToNat, Int.reduceNeg, Int.reduceBEq, Int.reduceAdd, Int.reduceSub, Int.reduceGT, Int.reduceGE, Int.reduceBNe, h5]
  refine callK_of hc ?_
  simp only [go_sem, reduceIte, reduceCtorEq, Nat.reduceAdd, Nat.reduceSub, Nat.reduceMul, Nat.reduceLT, Nat.reduceLeDiff, Nat.reduceEqDiff, Nat.reduceBEq, Nat.reduceGT, Int.reduceEq, Int.reduceNe, Int.reduceLT, Int.reduceLE, Int.reduceToNat, Int.reduceNeg, Int.reduceBEq, Int.reduceAdd, Int.reduceSub, Int.reduceGT, Int.reduceGE, Int.reduceBNe, h5]
  refine callK_of con_limit ?_
  simp only [go_sem, reduceIte, reduceCtorEq, Nat.reduceAdd, Nat.reduceSub, Nat.reduceMul, Nat.reduceLT, Nat.reduceLeDiff, Nat.reduceEqDiff, Nat.reduceBEq, Nat.reduceGT, Int.reduceEq, Int.reduceNe, Int.reduceLT, Int.reduceLE, Int.reduceToNat, Int.reduceNeg, Int.reduceBEq, Int.reduceAdd, Int.reduceSub, Int.reduceGT, Int.reduceGE, Int.reduceBNe, h5]
  refine callH_of hn ?_
  simp only [go_sem, reduceIte, reduceCtorEq, Nat.reduceAdd, Nat.reduceSub, Nat.reduceMul, Nat.reduceLT, Nat.reduceLeDiff, Nat.reduceEqDiff, Nat.reduceBEq, Nat.reduceGT, Int.reduceEq, Int.reduceNe, Int.reduceLT, Int.reduceLE, Int.reduceToNat, Int.reduceNeg, Int.reduceBEq, Int.reduceAdd, Int.reduceSub, Int.reduceGT, Int.reduceGE, Int.reduceBNe, h5]
  refine callH_of hl ?_
  simp only [go_sem, reduceIte, reduceCtorEq, Nat.reduceAdd, Nat.reduceSub, Nat.reduceMul, Nat.reduceLT, Nat.reduceLeDiff, Nat.reduceEqDiff, Nat.reduceBEq, Nat.reduceGT, Int.reduceEq, Int.reduceNe, Int.reduceLT, Int.reduceLE, Int.reduceToNat, Int.reduceNeg, Int.reduceBEq, Int.reduceAdd, Int.reduceSub, Int.reduceGT, Int.reduceGE, Int.reduceBNe, h5]
  refine callH_of hq ?_
  simp only [go_sem, reduceIte, reduceCtorEq, Nat.reduceAdd, Nat.reduceSub, Nat.reduceMul, Nat.reduceLT, Nat.reduceLeDiff, Nat.reduceEqDiff, Nat.reduceBEq, Nat.reduceGT, Int.reduceEq, Int.reduceNe, Int.reduceLT, Int.reduceLE, Int.reduceToNat, Int.reduceNeg, Int.reduceBEq, Int.reduceAdd, Int.reduceSub, Int.reduceGT, Int.reduceGE, Int.reduceBNe, h5, h6]
  refine callH_of ht' ?_
  simp only [go_sem, reduceIte, reduceCtorEq, Nat.reduceAdd, Nat.reduceSub, Nat.reduceMul, Nat.reduceLT, Nat.reduceLeDiff, Nat.reduceEqDiff, Nat.reduceBEq, Nat.reduceGT, Int.reduceEq, Int.reduceNe, Int.reduceLT, Int.reduceLE, Int.reduceToNat, Int.reduceNeg, Int.reduceBEq, Int.reduceAdd, Int.reduceSub, Int.reduceGT, Int.reduceGE, Int.reduceBNe, h5, h6]

theorem con_s18 (i : Int) : Con 25 [.int .i64 i] (.agg true (tv (.mk 1 i 0 0 []))) := by
  refine (contract_of_vc (r := .agg true [.int .i64 1, .int .i64 i, .int .i64 0, .int .i64 0, .nils]) mixed Tryd.func25 tr25 ?_).weaken (le_leaf _ _ _ _)
  simp only [go_sem, reduceIte, reduceCtorEq, Nat.reduceAdd, Nat.reduceSub, Nat.reduceMul, Nat.reduceLT, Nat.reduceLeDiff, Nat.reduceEqDiff, Nat.reduceBEq, Nat.reduceGT, Int.reduceEq, Int.reduceNe, Int.reduceLT, Int.reduceLE, Int.reduceToNat, Int.reduceNeg, Int.reduceBEq, Int.reduceAdd, Int.reduceSub, Int.reduceGT, Int.reduceGE, Int.reduceBNe]

def wkL : SV := .agg true [.int .i64 15, .int .i64 0, .int .i64 0, .int .i64 0, .dsl 5 [[.int .i64 14, .int .i64 0, .int .i64 0, .int .i64 0, .dsl 5 [[.int .i64 1, .int .i64 1, .int .i64 0, .int .i64 0, .dsl 5 []], [.int .i64 2, .int .i64 0, .int .i64 0, .int .i64 0, .nils]]], [.int .i64 1, .int .i64 0, .int .i64 0, .int .i64 0, .dsl 5 []]]]
theorem wk_le : LeD wkL (.agg true (tv wkT)) := by
  unfold wkL wkT
  simp only [tv_mk, List.map_cons, List.map_nil]
  refine .agg' (.cons (.refl _) (.cons (.refl _) (.cons (.refl _) (.cons (.refl _) (.cons (.rows (.cons rfl ?_ (.cons rfl (.refl _) .nil))) .nil)))))
  exact .cons (.refl _) (.cons (.refl _) (.cons (.refl _) (.cons (.refl _) (.cons (.rows (.cons rfl (.refl _) (.cons rfl (.cons (.refl _) (.cons (.refl _) (.cons (.refl _) (.cons (.refl _) (.cons (.nils 5) .nil))))) .nil))) .nil))))
theorem zt_le : LeD (.agg true [.int .i64 0, .int .i64 0, .int .i64 0, .int .i64 0, .nils]) (.agg true (tv zt)) := by
  unfold zt
  simp only [tv_mk, List.map_nil]
  exact .agg' (.cons (.refl _) (.cons (.refl _) (.cons (.refl _) (.cons (.refl _) (.cons (.nils 5) .nil)))))
theorem tok_zt : TOk zt := .mk _ _ _ _ _ (by unfold fit; omega) (by unfold fit; omega) (by unfold fit; omega) (by unfold fit; omega) (by simp) (fun t ht => by cases ht)

set_option maxRecDepth 10000 in
set_option maxHeartbeats 1000000 in
theorem con_wakes18 : Con 10 [] (.bool true) := by
  refine contract_of_vc mixed Tryd.func10 tr10 ?_
  have h7 := norm_wk.argsD (args' := [wkL, .float .f64 4607182418800017408]) (.cons wk_le (.cons (.refl _) .nil))
  have h8 := head_wk.argsD (args' := [wkL, .float .f64 4607182418800017408]) (.cons wk_le (.cons (.refl _) .nil))
  have hz := (norm_arg zt tok_zt (by kernel_rfl) 4607182418800017408).argsD (args' := [.agg true [.int .i64 0, .int .i64 0, .int .i64 0, .int .i64 0, .nils], .float .f64 4607182418800017408]) (.cons zt_le (.cons (.refl _) .nil))
  simp only [wkL, s0, zt, tv_mk, List.map_nil] at h7 h8 hz
  simp only [go_sem, reduceIte, reduceCtorEq, Nat.reduceAdd, Nat.reduceSub, Nat.reduceMul, Nat.reduceLT, Nat.reduceLeDiff, Nat.reduceEqDiff, Nat.reduceBEq, Nat.reduceGT, Int.reduceEq, Int.reduceNe, Int.reduceLT, Int.reduceLE, Int.reduceToNat, Int.reduceNeg, Int.reduceBEq, Int.reduceAdd, Int.reduceSub, Int.reduceGT, Int.reduceGE, Int.reduceBNe]
  refine callK_of (con_s18 1) ?_
  simp only [go_sem, reduceIte, reduceCtorEq, Nat.reduceAdd, Nat.reduceSub, Nat.reduceMul, Nat.reduceLT, Nat.reduceLeDiff, Nat.reduceEqDiff, Nat.reduceBEq, Nat.reduceGT, Int.reduceEq, Int.reduceNe, Int.reduceLT, Int.reduceLE, Int.reduceToNat, Int.reduceNeg, Int.reduceBEq, Int.reduceAdd, Int.reduceSub, Int.reduceGT, Int.reduceGE, Int.reduceBNe, tv_mk, List.map_nil]
  refine callK_of (con_s18 0) ?_
  simp only [go_sem, reduceIte, reduceCtorEq, Nat.reduceAdd, Nat.reduceSub, Nat.reduceMul, Nat.reduceLT, Nat.reduceLeDiff, Nat.reduceEqDiff, Nat.reduceBEq, Nat.reduceGT, Int.reduceEq, Int.reduceNe, Int.reduceLT, Int.reduceLE, Int.reduceToNat, Int.reduceNeg, Int.reduceBEq, Int.reduceAdd, Int.reduceSub, Int.reduceGT, Int.reduceGE, Int.reduceBNe, tv_mk, List.map_nil]
  refine callK_of h7 ?_
  simp only [go_sem, reduceIte, reduceCtorEq, Nat.reduceAdd, Nat.reduceSub, Nat.reduceMul, Nat.reduceLT, Nat.reduceLeDiff, Nat.reduceEqDiff, Nat.reduceBEq, Nat.reduceGT, Int.reduceEq, Int.reduceNe, Int.reduceLT, Int.reduceLE, Int.reduceToNat, Int.reduceNeg, Int.reduceBEq, Int.reduceAdd, Int.reduceSub, Int.reduceGT, Int.reduceGE, Int.reduceBNe]
  refine callK_of h8 ?_
  simp only [go_sem, reduceIte, reduceCtorEq, Nat.reduceAdd, Nat.reduceSub, Nat.reduceMul, Nat.reduceLT, Nat.reduceLeDiff, Nat.reduceEqDiff, Nat.reduceBEq, Nat.reduceGT, Int.reduceEq, Int.reduceNe, Int.reduceLT, Int.reduceLE, Int.reduceToNat, Int.reduceNeg, Int.reduceBEq, Int.reduceAdd, Int.reduceSub, Int.reduceGT, Int.reduceGE, Int.reduceBNe]
  refine callK_of hz ?_
  simp only [go_sem, reduceIte, reduceCtorEq, Nat.reduceAdd, Nat.reduceSub, Nat.reduceMul, Nat.reduceLT, Nat.reduceLeDiff, Nat.reduceEqDiff, Nat.reduceBEq, Nat.reduceGT, Int.reduceEq, Int.reduceNe, Int.reduceLT, Int.reduceLE, Int.reduceToNat, Int.reduceNeg, Int.reduceBEq, Int.reduceAdd, Int.reduceSub, Int.reduceGT, Int.reduceGE, Int.reduceBNe]
end Go.Proofs.YtdpigpopcbjkmaaDoor.Abs
