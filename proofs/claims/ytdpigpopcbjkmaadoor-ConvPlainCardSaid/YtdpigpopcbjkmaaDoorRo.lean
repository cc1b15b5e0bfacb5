/- norm.Norm and norm.Head of what is not plain; and of the term by which the statement wakes. -/
import Derived.Test.YtdpigpopcbjkmaaDoorAfD
import Derived.Test.YtdpigpopcbjkmaaDoorAfP
import Derived.Test.YtdpigpopcbjkmaaDoorRf
import Derived.Test.YtdpigpopcbjkmaaDoorRn
import Derived.Test.YtdpigpopcbjkmaaDoorFk
set_option linter.unusedSimpArgs false
set_option linter.unusedVariables false
namespace Go.Proofs.YtdpigpopcbjkmaaDoor.Abs
open Go Go.RowKit Go.Proofs.YtdpigpopcbjkmaaDoor

def zt : Tm := .mk 0 0 0 0 []
theorem le_zt (n : Int) : Le (.tup [.agg true [.int .i64 0, .int .i64 0, .int .i64 0, .int .i64 0, .nils], .int .i64 n]) (.tup [.agg true (tv zt), .int .i64 n]) := by
  refine .tup _ _ (.cons _ _ _ _ ?_ (.cons _ _ _ _ (.cell _ _ (.refl _)) .nil))
  rw [zt, tv_mk]
  exact .agg _ _ (.cons _ _ _ _ (.refl _) (.cons _ _ _ _ (.refl _) (.cons _ _ _ _ (.refl _) (.cons _ _ _ _ (.refl _) (.cons _ _ _ _ (.nils 5) .nil)))))

theorem inv_norm (cap : Array Value) (w : World) : (invoke (.fn (.func 16) cap) #[]).run Tryd.prog w = .ok (.enter 16 cap) w := by
  simp [go_sem]
theorem inv_head (cap : Array Value) (w : World) : (invoke (.fn (.func 22) cap) #[]).run Tryd.prog w = .ok (.enter 22 cap) w := by
  simp [go_sem]

theorem noG_two (t : Tm) (b : Nat) : ∀ x ∈ [SV.agg true (tv t), .float .f64 b], NoG x := by
  intro x hx
  simp only [List.mem_cons, List.not_mem_nil, or_false] at hx
  rcases hx with rfl | rfl
  · exact noG_term t true
  · exact .float _ _
theorem noG_leaf (k i j n e : Int) : NoG (.tup [.agg true [.int .i64 k, .int .i64 i, .int .i64 j, .int .i64 n, .nils], .int .i64 e]) := by
  refine .tup _ (fun x hx => ?_)
  simp only [List.mem_cons, List.not_mem_nil, or_false] at hx
  rcases hx with rfl | rfl
  · refine .agg _ _ (fun y hy => ?_)
    simp only [List.mem_cons, List.not_mem_nil, or_false] at hy
    rcases hy with rfl | rfl | rfl | rfl | rfl <;> first | exact .int _ _ | exact .nils
  · exact .int _ _
theorem noG_res (t : Tm) (e : Int) : NoG (.tup [.agg true (tv t), .int .i64 e]) := by
  refine .tup _ (fun x hx => ?_)
  simp only [List.mem_cons, List.not_mem_nil, or_false] at hx
  rcases hx with rfl | rfl
  · exact noG_term t true
  · exact .int _ _

set_option maxRecDepth 10000 in
theorem norm_arg (t : Tm) (ht : TOk t) (hp : plainT t = false) (b : Nat) : Con 7 [.agg true (tv t), .float .f64 b] (.tup [.agg true (tv zt), .int .i64 1]) := by
  refine (contract_of_doorF (r := .tup [.agg true [.int .i64 0, .int .i64 0, .int .i64 0, .int .i64 0, .nils], .int .i64 1]) mixed Tryd.func7 tr7 inv_norm Nrm.idle_norm (noG_two t b) (noG_leaf _ _ _ _ _) ?_).weaken (le_zt 1)
  have hc := con_plain t ht
  rw [show rightT t 2 = false from hp] at hc
  have h5 := tv_len t
  generalize tv t = r at *
  simp only [go_sem, reduceIte, reduceCtorEq, Nat.reduceAdd, Nat.reduceSub, Nat.reduceMul, Nat.reduceLT, Nat.reduceLeDiff, Nat.reduceEqDiff, Nat.reduceBEq, Nat.reduceGT, Int.reduceEq, Int.reduceNe, Int.reduceLT, Int.reduceLE, Int.reduceToNat, Int.reduceNeg, Int.reduceBEq, Int.reduceAdd, Int.reduceSub, Int.reduceGT, Int.reduceGE, Int.reduceBNe, h5]
  refine callK_of hc ?_
  simp only [go_sem, reduceIte, reduceCtorEq, Nat.reduceAdd, Nat.reduceSub, Nat.reduceMul, Nat.reduceLT, Nat.reduceLeDiff, Nat.reduceEqDiff, Nat.reduceBEq, Nat.reduceGT, Int.reduceEq, Int.reduceNe, Int.reduceLT, Int.reduceLE, Int.reduceToNat, Int.reduceNeg, Int.reduceBEq, Int.reduceAdd, Int.reduceSub, Int.reduceGT, Int.reduceGE, Int.reduceBNe]

set_option maxRecDepth 10000 in
theorem head_arg (t : Tm) (ht : TOk t) (hp : plainT t = false) (b : Nat) : Con 8 [.agg true (tv t), .float .f64 b] (.tup [.agg true (tv zt), .int .i64 1]) := by
  refine (contract_of_doorF (r := .tup [.agg true [.int .i64 0, .int .i64 0, .int .i64 0, .int .i64 0, .nils], .int .i64 1]) mixed Tryd.func8 tr8 inv_head Nrm.idle_head (noG_two t b) (noG_leaf _ _ _ _ _) ?_).weaken (le_zt 1)
  have hc := con_plain t ht
  rw [show rightT t 2 = false from hp] at hc
  have h5 := tv_len t
  generalize tv t = r at *
  simp only [go_sem, reduceIte, reduceCtorEq, Nat.reduceAdd, Nat.reduceSub, Nat.reduceMul, Nat.reduceLT, Nat.reduceLeDiff, Nat.reduceEqDiff, Nat.reduceBEq, Nat.reduceGT, Int.reduceEq, Int.reduceNe, Int.reduceLT, Int.reduceLE, Int.reduceToNat, Int.reduceNeg, Int.reduceBEq, Int.reduceAdd, Int.reduceSub, Int.reduceGT, Int.reduceGE, Int.reduceBNe, h5]
  refine callK_of hc ?_
  simp only [go_sem, reduceIte, reduceCtorEq, Nat.reduceAdd, Nat.reduceSub, Nat.reduceMul, Nat.reduceLT, Nat.reduceLeDiff, Nat.reduceEqDiff, Nat.reduceBEq, Nat.reduceGT, Int.reduceEq, Int.reduceNe, Int.reduceLT, Int.reduceLE, Int.reduceToNat, Int.reduceNeg, Int.reduceBEq, Int.reduceAdd, Int.reduceSub, Int.reduceGT, Int.reduceGE, Int.reduceBNe]

/-- The limit of one step. -/
theorem con_limit : Con 19 [.float .f64 4607182418800017408] (.int .i64 1) := by
  intro m w vs h1 h2 h3
  obtain ⟨v, rfl⟩ : ∃ v, vs = [v] := by
    match vs, h2 with
    | [v], _ => exact ⟨v, rfl⟩
  have hv := h3 0 v _ rfl rfl
  cases hv
  refine Calls.mono (Nrm.limit_one w) (fun e w' he => ?_)
  obtain ⟨rfl, rfl⟩ := he
  exact ⟨_, m, rfl, .int _ _, ⟨.refl m, rfl⟩, fun _ _ _ => rfl, h1, rfl, rfl, rfl, Nat.le_refl _, fun _ _ => rfl⟩
end Go.Proofs.YtdpigpopcbjkmaaDoor.Abs
