/- The small functions of bare and het: their contracts. -/
import Derived.Test.YtdpigpopcbjkmaaDoorEv
import Derived.Test.YtdpigpopcbjkmaaDoorAfA
import Derived.Test.YtdpigpopcbjkmaaDoorAfB
import Derived.Test.YtdpigpopcbjkmaaDoorAfC
import Derived.Test.YtdpigpopcbjkmaaDoorAfD

set_option linter.unusedSimpArgs false
set_option linter.unusedVariables false
namespace Go.Proofs.YtdpigpopcbjkmaaDoor.Abs
open Go Go.RowKit Go.Proofs.YtdpigpopcbjkmaaDoor

theorem mixed : Tryd.prog.follows .mixedOrders = true := by kernel_rfl

/-- The contracts' setting. -/
abbrev Con (f : Nat) (args : List SV) (r : SV) : Prop := Contract Tryd.prog f args r

theorem con_of0 (k i j n : Int) : Con 64 [.int .i64 k, .int .i64 i, .int .i64 j, .int .i64 n, .nils] (.agg true (tv (.mk k i j n []))) := by
  refine (contract_of_vc (r := .agg true [.int .i64 k, .int .i64 i, .int .i64 j, .int .i64 n, .nils]) mixed Tryd.func64 tr64 ?_).weaken (le_leaf _ _ _ _)
  simp only [go_sem, reduceIte, reduceCtorEq, Nat.reduceAdd, Nat.reduceSub, Nat.reduceMul, Nat.reduceLT, Nat.reduceLeDiff, Nat.reduceEqDiff, Nat.reduceBEq, Nat.reduceGT, Int.reduceEq, Int.reduceNe, Int.reduceLT, Int.reduceLE, Int.reduceToNat, Int.reduceNeg, Int.reduceBEq, Int.reduceAdd, Int.reduceSub, Int.reduceGT, Int.reduceGE, Int.reduceBNe]

theorem con_of (k i j n : Int) (rows : List (List SV)) (h1 : rows.length ≠ 0) (h2 : rows.length * 56 ≤ 140737488355328) : Con 64 [.int .i64 k, .int .i64 i, .int .i64 j, .int .i64 n, .dsl 5 rows] (.agg true [.int .i64 k, .int .i64 i, .int .i64 j, .int .i64 n, .dsl 5 rows]) := by
  refine contract_of_vc mixed Tryd.func64 tr64 ?_
  simp only [go_sem, reduceIte, reduceCtorEq, Nat.reduceAdd, Nat.reduceSub, Nat.reduceMul, Nat.reduceLT, Nat.reduceLeDiff, Nat.reduceEqDiff, Nat.reduceBEq, Nat.reduceGT, Int.reduceEq, Int.reduceNe, Int.reduceLT, Int.reduceLE, Int.reduceToNat, Int.reduceNeg, Int.reduceBEq, Int.reduceAdd, Int.reduceSub, Int.reduceGT, Int.reduceGE, Int.reduceBNe]
  intro _
  refine ⟨fun h => ?_, fun h => ?_⟩
  · have h3 : rows.length ≤ 140737488355328 := by omega
    simp only [h, h1, h2, h3, go_sem, reduceIte, reduceCtorEq, Nat.reduceAdd, Nat.reduceSub, Nat.reduceMul, Nat.reduceLT, Nat.reduceLeDiff, Nat.reduceEqDiff, Nat.reduceBEq, Nat.reduceGT, Int.reduceEq, Int.reduceNe, Int.reduceLT, Int.reduceLE, Int.reduceToNat, Int.reduceNeg, Int.reduceBEq, Int.reduceAdd, Int.reduceSub, Int.reduceGT, Int.reduceGE, Int.reduceBNe, List.take_length]
  · have := of_decide_eq_false h
    omega

theorem con_var (i : Int) : Con 51 [.int .i64 i] (.agg true (tv (.mk 2 i 0 0 []))) := by
  refine (contract_of_vc (r := .agg true [.int .i64 2, .int .i64 i, .int .i64 0, .int .i64 0, .nils]) mixed Tryd.func51 tr51 ?_).weaken (le_leaf _ _ _ _)
  simp only [go_sem, reduceIte, reduceCtorEq, Nat.reduceAdd, Nat.reduceSub, Nat.reduceMul, Nat.reduceLT, Nat.reduceLeDiff, Nat.reduceEqDiff, Nat.reduceBEq, Nat.reduceGT, Int.reduceEq, Int.reduceNe, Int.reduceLT, Int.reduceLE, Int.reduceToNat, Int.reduceNeg, Int.reduceBEq, Int.reduceAdd, Int.reduceSub, Int.reduceGT, Int.reduceGE, Int.reduceBNe]

theorem con_ofT (k i j n : Int) (l : List Tm) (h1 : l ≠ []) (h2 : l.length * 56 ≤ 140737488355328) : Con 64 [.int .i64 k, .int .i64 i, .int .i64 j, .int .i64 n, .dsl 5 (l.map tv)] (.agg true (tv (.mk k i j n l))) := by
  rw [tv_mk]
  exact con_of k i j n (l.map tv) (by simpa using h1) (by simpa using h2)

/-- The Lean terms of het. -/
def vr (i : Int) : Tm := .mk 2 i 0 0 []
def so (i : Int) : Tm := .mk 1 i 0 0 []
def pt (i : Int) (a x : Tm) : Tm := .mk 17 0 0 0 [so i, vr 0, a, x]

def pts (i : Int) : Tm := .mk 16 0 0 0 [so i, vr 0]

/-- The sum of weights, after so many. -/
def sums (W : List SV → Int → Int → Int) (rows : List (List SV)) (most deep : Int) : Nat → Int
  | 0 => 1
  | x + 1 => IntKind.i64.wrap (sums W rows most deep x + W (rows[x]?.getD []) (IntKind.i64.wrap (most - sums W rows most deep x)) deep)

theorem con_weigh_rows (k i j n most deep : Int) (rows : List (List SV)) (W : List SV → Int → Int → Int) (h2 : rows.length * 56 ≤ 140737488355328) (h5 : ∀ r ∈ rows, r.length = 5)
    (H : ∀ r ∈ rows, ∀ m d, Con 13 [.agg true r, .int .i64 m, .int .i64 d] (.int .i64 (W r m d))) :
    ∃ z, Con 13 [.agg true [.int .i64 k, .int .i64 i, .int .i64 j, .int .i64 n, .dsl 5 rows], .int .i64 most, .int .i64 deep] (.int .i64 z) := by
  by_cases hd : deep < 0
  · refine ⟨IntKind.i64.wrap (most + 1), contract_of_vc mixed Tryd.func13 tr13 ?_⟩
    simp only [go_sem, reduceIte, reduceCtorEq, Nat.reduceAdd, Nat.reduceSub, Nat.reduceMul, Nat.reduceLT, Nat.reduceLeDiff, Nat.reduceEqDiff, Nat.reduceBEq, Nat.reduceGT, Int.reduceEq, Int.reduceNe, Int.reduceLT, Int.reduceLE, Int.reduceToNat, Int.reduceNeg, Int.reduceBEq, Int.reduceAdd, Int.reduceSub, Int.reduceGT, Int.reduceGE, Int.reduceBNe, hd]
  · obtain ⟨m, hm1, hm2, hm3⟩ := least (fun x => most < sums W rows most (IntKind.i64.wrap (deep - 1)) x) rows.length
    refine ⟨sums W rows most (IntKind.i64.wrap (deep - 1)) m, contract_of_vc mixed Tryd.func13 tr13 ?_⟩
    simp only [go_sem, reduceIte, reduceCtorEq, Nat.reduceAdd, Nat.reduceSub, Nat.reduceMul, Nat.reduceLT, Nat.reduceLeDiff, Nat.reduceEqDiff, Nat.reduceBEq, Nat.reduceGT, Int.reduceEq, Int.reduceNe, Int.reduceLT, Int.reduceLE, Int.reduceToNat, Int.reduceNeg, Int.reduceBEq, Int.reduceAdd, Int.reduceSub, Int.reduceGT, Int.reduceGE, Int.reduceBNe, hd]
    refine vc_for (fun x => ⟨[.junk, .int .i64 most, .int .i64 deep, .ref 0 0 0 0, .junk, .junk, .int .i64 0, .int .i64 (sums W rows most (IntKind.i64.wrap (deep - 1)) x), .int .i64 x, .junk, .junk, .junk, .junk, .junk, .junk, .junk, .junk, .junk, .junk, .junk, .junk, .junk, .junk, .junk, .junk, .junk, .junk, .junk, .junk, .junk, .junk, .junk, .junk, .junk, .junk, .junk, .junk, .junk, .junk],
        [⟨true, 5, [[.int .i64 k, .int .i64 i, .int .i64 j, .int .i64 n, .dsl 5 rows]], 0, 0, true⟩]⟩) m (fun x hx => ?_) ?_
    · simp only [go_sem, reduceIte, reduceCtorEq, Nat.reduceAdd, Nat.reduceSub, Nat.reduceMul, Nat.reduceLT, Nat.reduceLeDiff, Nat.reduceEqDiff, Nat.reduceBEq, Nat.reduceGT, Int.reduceEq, Int.reduceNe, Int.reduceLT, Int.reduceLE, Int.reduceToNat, Int.reduceNeg, Int.reduceBEq, Int.reduceAdd, Int.reduceSub, Int.reduceGT, Int.reduceGE, Int.reduceBNe]
      intro _
      by_cases hxm : x = m
      · subst hxm
        rcases hm2 with rfl | hm2
        · have hl : ¬ ((rows.length : Int) < (rows.length : Int)) := by omega
          simp only [go_sem, reduceIte, reduceCtorEq, Nat.reduceAdd, Nat.reduceSub, Nat.reduceMul, Nat.reduceLT, Nat.reduceLeDiff, Nat.reduceEqDiff, Nat.reduceBEq, Nat.reduceGT, Int.reduceEq, Int.reduceNe, Int.reduceLT, Int.reduceLE, Int.reduceToNat, Int.reduceNeg, Int.reduceBEq, Int.reduceAdd, Int.reduceSub, Int.reduceGT, Int.reduceGE, Int.reduceBNe, hl]
        · have hl : ¬ (sums W rows most (IntKind.i64.wrap (deep - 1)) x ≤ most) := by omega
          refine ⟨fun h => ?_, fun h => ?_⟩
          · simp only [go_sem, reduceIte, reduceCtorEq, Nat.reduceAdd, Nat.reduceSub, Nat.reduceMul, Nat.reduceLT, Nat.reduceLeDiff, Nat.reduceEqDiff, Nat.reduceBEq, Nat.reduceGT, Int.reduceEq, Int.reduceNe, Int.reduceLT, Int.reduceLE, Int.reduceToNat, Int.reduceNeg, Int.reduceBEq, Int.reduceAdd, Int.reduceSub, Int.reduceGT, Int.reduceGE, Int.reduceBNe, h, hl]
          · simp only [go_sem, reduceIte, reduceCtorEq, Nat.reduceAdd, Nat.reduceSub, Nat.reduceMul, Nat.reduceLT, Nat.reduceLeDiff, Nat.reduceEqDiff, Nat.reduceBEq, Nat.reduceGT, Int.reduceEq, Int.reduceNe, Int.reduceLT, Int.reduceLE, Int.reduceToNat, Int.reduceNeg, Int.reduceBEq, Int.reduceAdd, Int.reduceSub, Int.reduceGT, Int.reduceGE, Int.reduceBNe, h, hl]
      · have hxl : x < rows.length := by omega
        have hxl' : (x : Int) < (rows.length : Int) := by omega
        have e0 : (0 : Int) ≤ (x : Int) := by omega
        have hle : sums W rows most (IntKind.i64.wrap (deep - 1)) x ≤ most := by have := hm3 x (by omega); omega
        have hm : rows[x]?.getD [] ∈ rows := by rw [List.getElem?_eq_getElem hxl, Option.getD_some]; exact List.getElem_mem hxl
        have h5' := h5 _ hm
        simp only [go_sem, reduceIte, reduceCtorEq, Nat.reduceAdd, Nat.reduceSub, Nat.reduceMul, Nat.reduceLT, Nat.reduceLeDiff, Nat.reduceEqDiff, Nat.reduceBEq, Nat.reduceGT, Int.reduceEq, Int.reduceNe, Int.reduceLT, Int.reduceLE, Int.reduceToNat, Int.reduceNeg, Int.reduceBEq, Int.reduceAdd, Int.reduceSub, Int.reduceGT, Int.reduceGE, Int.reduceBNe, hxl', hle, e0, h5']
        refine callK_of (H _ hm _ _) ?_
        simp only [go_sem, reduceIte, reduceCtorEq, Nat.reduceAdd, Nat.reduceSub, Nat.reduceMul, Nat.reduceLT, Nat.reduceLeDiff, Nat.reduceEqDiff, Nat.reduceBEq, Nat.reduceGT, Int.reduceEq, Int.reduceNe, Int.reduceLT, Int.reduceLE, Int.reduceToNat, Int.reduceNeg, Int.reduceBEq, Int.reduceAdd, Int.reduceSub, Int.reduceGT, Int.reduceGE, Int.reduceBNe]
        refine ⟨by omega, ?_⟩
        rw [w64 (n := (x : Int) + 1) (by unfold fit; omega)]
        exact wk_slots (by simp [slotsLe, sums])
    · exact wk_slots (by simp [slotsLe, sums])
end Go.Proofs.YtdpigpopcbjkmaaDoor.Abs
