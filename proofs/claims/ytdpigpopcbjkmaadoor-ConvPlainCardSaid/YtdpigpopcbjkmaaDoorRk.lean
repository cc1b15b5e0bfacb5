/- conv.Same, by its doors: what is not plain; the terms by which the statements on conv wake. -/
import Derived.Test.YtdpigpopcbjkmaaDoorRj
import Derived.Test.YtdpigpopcbjkmaaDoorRm
import Derived.Test.YtdpigpopcbjkmaaDoorDq
import Derived.Test.YtdpigpopcbjkmaaDoorAfD
import Derived.Test.YtdpigpopcbjkmaaDoorAfP
import Derived.Test.YtdpigpopcbjkmaaDoorRo
import Derived.Test.YtdpigpopcbjkmaaDoorLd
set_option linter.unusedSimpArgs false
set_option linter.unusedVariables false
namespace Go.Proofs.YtdpigpopcbjkmaaDoor.Abs
open Go Go.RowKit Go.Proofs.YtdpigpopcbjkmaaDoor

theorem inv_quick (cap : Array Value) (w : World) : (invoke (.fn (.func 61) cap) #[]).run Tryd.prog w = .ok (.enter 61 cap) w := by
  simp [go_sem]
theorem inv_conv (cap : Array Value) (w : World) : (invoke (.fn (.func 26) cap) #[]).run Tryd.prog w = .ok (.enter 26 cap) w := by
  simp [go_sem]

set_option maxRecDepth 10000 in
theorem hcon_quick {G G' : List (List SV)} {m j a b : Nat} {steps most seen guess most' : Int} {deep : Int} {r : Bool} (hG : G[m]? = some (mRow steps most seen guess j)) (h : HCon 62 (G.set m (mRow 0 most' 0 guess j)) [.gp m 0, .gp a 0, .gp b 0, .int .i64 deep, .bool true] (.ret (.bool r)) G') :
    HCon 43 G [.gp m 0, .gp a 0, .gp b 0, .int .i64 deep, .int .i64 most'] (.ret (.tup [.bool r, .bool true])) G' := by
  refine hcontract_of_doorF mixed Tryd.func43 tr43 inv_quick Nrm.idle_quick ?_
  simp only [go_sem, reduceIte, reduceCtorEq, Nat.reduceAdd, Nat.reduceSub, Nat.reduceMul, Nat.reduceLT, Nat.reduceLeDiff, Nat.reduceEqDiff, Nat.reduceBEq, Nat.reduceGT, Int.reduceEq, Int.reduceNe, Int.reduceLT, Int.reduceLE, Int.reduceToNat, Int.reduceNeg, Int.reduceBEq, Int.reduceAdd, Int.reduceSub, Int.reduceGT, Int.reduceGE, Int.reduceBNe]
  refine callH_of (hcon_renew hG most') ?_
  simp only [go_sem, reduceIte, reduceCtorEq, Nat.reduceAdd, Nat.reduceSub, Nat.reduceMul, Nat.reduceLT, Nat.reduceLeDiff, Nat.reduceEqDiff, Nat.reduceBEq, Nat.reduceGT, Int.reduceEq, Int.reduceNe, Int.reduceLT, Int.reduceLE, Int.reduceToNat, Int.reduceNeg, Int.reduceBEq, Int.reduceAdd, Int.reduceSub, Int.reduceGT, Int.reduceGE, Int.reduceBNe]
  refine callH_of h ?_
  simp only [go_sem, reduceIte, reduceCtorEq, Nat.reduceAdd, Nat.reduceSub, Nat.reduceMul, Nat.reduceLT, Nat.reduceLeDiff, Nat.reduceEqDiff, Nat.reduceBEq, Nat.reduceGT, Int.reduceEq, Int.reduceNe, Int.reduceLT, Int.reduceLE, Int.reduceToNat, Int.reduceNeg, Int.reduceBEq, Int.reduceAdd, Int.reduceSub, Int.reduceGT, Int.reduceGE, Int.reduceBNe]

set_option maxRecDepth 10000 in
theorem hcon_msame {G G' : List (List SV)} {m j a b : Nat} {steps most seen guess : Int} {deep : Int} {r : Bool} (hG : G[m]? = some (mRow steps most seen guess j)) (h : HCon 62 (G.set m (mRow 0 0 0 guess j)) [.gp m 0, .gp a 0, .gp b 0, .int .i64 deep, .bool true] (.ret (.bool r)) G') :
    HCon 27 G [.gp m 0, .gp a 0, .gp b 0, .int .i64 deep, .int .i64 0] (.ret (.bool r)) G' := by
  refine hcontract_of_vc mixed Tryd.func27 tr27 ?_
  simp only [go_sem, reduceIte, reduceCtorEq, Nat.reduceAdd, Nat.reduceSub, Nat.reduceMul, Nat.reduceLT, Nat.reduceLeDiff, Nat.reduceEqDiff, Nat.reduceBEq, Nat.reduceGT, Int.reduceEq, Int.reduceNe, Int.reduceLT, Int.reduceLE, Int.reduceToNat, Int.reduceNeg, Int.reduceBEq, Int.reduceAdd, Int.reduceSub, Int.reduceGT, Int.reduceGE, Int.reduceBNe]
  refine callH_of (hcon_quick hG h) ?_
  simp only [go_sem, reduceIte, reduceCtorEq, Nat.reduceAdd, Nat.reduceSub, Nat.reduceMul, Nat.reduceLT, Nat.reduceLeDiff, Nat.reduceEqDiff, Nat.reduceBEq, Nat.reduceGT, Int.reduceEq, Int.reduceNe, Int.reduceLT, Int.reduceLE, Int.reduceToNat, Int.reduceNeg, Int.reduceBEq, Int.reduceAdd, Int.reduceSub, Int.reduceGT, Int.reduceGE, Int.reduceBNe]

/-- The limit of no step. -/
theorem con_limit0 : Con 19 [.float .f64 0] (.int .i64 0) := by
  intro m w vs h1 h2 h3
  obtain ⟨v, rfl⟩ : ∃ v, vs = [v] := by
    match vs, h2 with
    | [v], _ => exact ⟨v, rfl⟩
  have hv := h3 0 v _ rfl rfl
  cases hv
  refine Calls.mono (Nrm.limit_zero w) (fun e w' he => ?_)
  obtain ⟨rfl, rfl⟩ := he
  exact ⟨_, m, rfl, .int _ _, ⟨.refl m, rfl⟩, fun _ _ _ => rfl, h1, rfl, rfl, rfl, Nat.le_refl _, fun _ _ => rfl⟩

theorem noG_three (a b : Tm) (f : Nat) : ∀ x ∈ [SV.agg true (tv a), .agg true (tv b), .float .f64 f], NoG x := by
  intro x hx
  simp only [List.mem_cons, List.not_mem_nil, or_false] at hx
  rcases hx with rfl | rfl | rfl
  · exact noG_term a true
  · exact noG_term b true
  · exact .float _ _
theorem noG_be (b : Bool) (n : Int) : NoG (.tup [.bool b, .int .i64 n]) := by
  refine .tup _ (fun x hx => ?_)
  simp only [List.mem_cons, List.not_mem_nil, or_false] at hx
  rcases hx with rfl | rfl
  · exact .bool _
  · exact .int _ _

set_option maxRecDepth 10000 in
theorem conv_arg (a b : Tm) (ha : TOk a) (hb : TOk b) (hp : (plainT a && plainT b) = false) (f : Nat) : Con 11 [.agg true (tv a), .agg true (tv b), .float .f64 f] (.tup [.bool false, .int .i64 1]) := by
  refine contract_of_doorF mixed Tryd.func11 tr11 inv_conv Nrm.idle_conv (noG_three a b f) (noG_be _ _) ?_
  have hc := con_plain a ha
  have hd := con_plain b hb
  have h5 := tv_len a
  have h6 := tv_len b
  have h7 : plainT a = rightT a 2 := rfl
  have h8 : plainT b = rightT b 2 := rfl
  rw [h7, h8] at hp
  generalize tv a = r at *
  generalize tv b = r2 at *
  cases hr : rightT a 2 with
  | false =>
    rw [hr] at hc
    simp only [go_sem, reduceIte, reduceCtorEq, Nat.reduceAdd, Nat.reduceSub, Nat.reduceMul, Nat.reduceLT, Nat.reduceLeDiff, Nat.reduceEqDiff, Nat.reduceBEq, Nat.reduceGT, Int.reduceEq, Int.reduceNe, Int.reduceLT, Int.reduceLE, Int.reduceToNat, Int.reduceNeg, Int.reduceBEq, Int.reduceAdd, Int.reduceSub, Int.reduceGT, Int.reduceGE, Int.reduceBNe, h5, h6]
    refine callK_of hc ?_
    simp only [go_sem, reduceIte, reduceCtorEq, Nat.reduceAdd, Nat.reduceSub, Nat.reduceMul, Nat.reduceLT, Nat.reduceLeDiff, Nat.reduceEqDiff, Nat.reduceBEq, Nat.reduceGT, Int.reduceEq, Int.reduceNe, Int.reduceLT, Int.reduceLE, Int.reduceToNat, Int.reduceNeg, Int.reduceBEq, Int.reduceAdd, Int.reduceSub, Int.reduceGT, Int.reduceGE, Int.reduceBNe]
  | true =>
    rw [hr] at hc hp
    have hr2 : rightT b 2 = false := by simpa using hp
    rw [hr2] at hd
    simp only [go_sem, reduceIte, reduceCtorEq, Nat.reduceAdd, Nat.reduceSub, Nat.reduceMul, Nat.reduceLT, Nat.reduceLeDiff, Nat.reduceEqDiff, Nat.reduceBEq, Nat.reduceGT, Int.reduceEq, Int.reduceNe, Int.reduceLT, Int.reduceLE, Int.reduceToNat, Int.reduceNeg, Int.reduceBEq, Int.reduceAdd, Int.reduceSub, Int.reduceGT, Int.reduceGE, Int.reduceBNe, h5, h6]
    refine callK_of hc ?_
    simp only [go_sem, reduceIte, reduceCtorEq, Nat.reduceAdd, Nat.reduceSub, Nat.reduceMul, Nat.reduceLT, Nat.reduceLeDiff, Nat.reduceEqDiff, Nat.reduceBEq, Nat.reduceGT, Int.reduceEq, Int.reduceNe, Int.reduceLT, Int.reduceLE, Int.reduceToNat, Int.reduceNeg, Int.reduceBEq, Int.reduceAdd, Int.reduceSub, Int.reduceGT, Int.reduceGE, Int.reduceBNe, h5, h6]
    refine callK_of hd ?_
    simp only [go_sem, reduceIte, reduceCtorEq, Nat.reduceAdd, Nat.reduceSub, Nat.reduceMul, Nat.reduceLT, Nat.reduceLeDiff, Nat.reduceEqDiff, Nat.reduceBEq, Nat.reduceGT, Int.reduceEq, Int.reduceNe, Int.reduceLT, Int.reduceLE, Int.reduceToNat, Int.reduceNeg, Int.reduceBEq, Int.reduceAdd, Int.reduceSub, Int.reduceGT, Int.reduceGE, Int.reduceBNe]

set_option maxRecDepth 10000 in
theorem conv_run (a b : Tm) (ha : TOk a) (hb : TOk b) (hpa : rightT a 2 = true) (hpb : rightT b 2 = true) {r : Bool} (h : ∃ G', HCon 62 [[.undef], mRow 0 0 0 0 0, thR ⟨a, [], false, none, none⟩, thR ⟨b, [], false, none, none⟩] [.gp 1 0, .gp 2 0, .gp 3 0, .int .i64 0, .bool true] (.ret (.bool r)) G') :
    Con 11 [.agg true (tv a), .agg true (tv b), .float .f64 0] (.tup [.bool r, .int .i64 0]) := by
  refine contract_of_doorF mixed Tryd.func11 tr11 inv_conv Nrm.idle_conv (noG_three a b 0) (noG_be _ _) ?_
  have hc := con_plain a ha
  have hd := con_plain b hb
  rw [hpa] at hc
  rw [hpb] at hd
  have hn := hcon_new [] 0
  have hl := hcon_close [[.undef], mRow 0 0 0 0 0] a []
  have hl2 := hcon_close [[.undef], mRow 0 0 0 0 0, thR ⟨a, [], false, none, none⟩] b []
  obtain ⟨G', h⟩ := h
  have hs := hcon_msame (G := [[.undef], mRow 0 0 0 0 0, thR ⟨a, [], false, none, none⟩, thR ⟨b, [], false, none, none⟩]) (m := 1) (j := 0) (steps := 0) (most := 0) (seen := 0) (guess := 0) rfl h
  have h5 := tv_len a
  have h6 := tv_len b
  generalize thR ⟨a, [], false, none, none⟩ = ta at *
  generalize thR ⟨b, [], false, none, none⟩ = tb at *
  generalize tv a = r1 at *
  generalize tv b = r2 at *
  simp only [go_sem, reduceIte, reduceCtorEq, Nat.reduceAdd, Nat.reduceSub, Nat.reduceMul, Nat.reduceLT, Nat.reduceLeDiff, Nat.reduceEqDiff, Nat.reduceBEq, Nat.reduceGT, Int.reduceEq, Int.reduceNe, Int.reduceLT, Int.reduceLE, Int.reduceToNat, Int.reduceNeg, Int.reduceBEq, Int.reduceAdd, Int.reduceSub, Int.reduceGT, Int.reduceGE, Int.reduceBNe, h5, h6]
  refine callK_of hc ?_
  simp only [go_sem, reduceIte, reduceCtorEq, Nat.reduceAdd, Nat.reduceSub, Nat.reduceMul, Nat.reduceLT, Nat.reduceLeDiff, Nat.reduceEqDiff, Nat.reduceBEq, Nat.reduceGT, Int.reduceEq, Int.reduceNe, Int.reduceLT, Int.reduceLE, Int.reduceToNat, Int.reduceNeg, Int.reduceBEq, Int.reduceAdd, Int.reduceSub, Int.reduceGT, Int.reduceGE, Int.reduceBNe, h5, h6]
  refine callK_of hd ?_
  simp only [go_sem, reduceIte, reduceCtorEq, Nat.reduceAdd, Nat.reduceSub, Nat.reduceMul, Nat.reduceLT, Nat.reduceLeDiff, Nat.reduceEqDiff, Nat.reduceBEq, Nat.reduceGT, Int.reduceEq, Int.reduceNe, Int.reduceLT, Int.reduceLE, Int.reduceToNat, Int.reduceNeg, Int.reduceBEq, Int.reduceAdd, Int.reduceSub, Int.reduceGT, Int.reduceGE, Int.reduceBNe, h5, h6]
  refine callK_of con_limit0 ?_
  simp only [go_sem, reduceIte, reduceCtorEq, Nat.reduceAdd, Nat.reduceSub, Nat.reduceMul, Nat.reduceLT, Nat.reduceLeDiff, Nat.reduceEqDiff, Nat.reduceBEq, Nat.reduceGT, Int.reduceEq, Int.reduceNe, Int.reduceLT, Int.reduceLE, Int.reduceToNat, Int.reduceNeg, Int.reduceBEq, Int.reduceAdd, Int.reduceSub, Int.reduceGT, Int.reduceGE, Int.reduceBNe, h5, h6]
  refine callH_of hn ?_
  simp only [go_sem, reduceIte, reduceCtorEq, Nat.reduceAdd, Nat.reduceSub, Nat.reduceMul, Nat.reduceLT, Nat.reduceLeDiff, Nat.reduceEqDiff, Nat.reduceBEq, Nat.reduceGT, Int.reduceEq, Int.reduceNe, Int.reduceLT, Int.reduceLE, Int.reduceToNat, Int.reduceNeg, Int.reduceBEq, Int.reduceAdd, Int.reduceSub, Int.reduceGT, Int.reduceGE, Int.reduceBNe, h5, h6]
  refine callH_of hl ?_
  simp only [go_sem, reduceIte, reduceCtorEq, Nat.reduceAdd, Nat.reduceSub, Nat.reduceMul, Nat.reduceLT, Nat.reduceLeDiff, Nat.reduceEqDiff, Nat.reduceBEq, Nat.reduceGT, Int.reduceEq, Int.reduceNe, Int.reduceLT, Int.reduceLE, Int.reduceToNat, Int.reduceNeg, Int.reduceBEq, Int.reduceAdd, Int.reduceSub, Int.reduceGT, Int.reduceGE, Int.reduceBNe, h5, h6]
  refine callH_of hl2 ?_
  simp only [go_sem, reduceIte, reduceCtorEq, Nat.reduceAdd, Nat.reduceSub, Nat.reduceMul, Nat.reduceLT, Nat.reduceLeDiff, Nat.reduceEqDiff, Nat.reduceBEq, Nat.reduceGT, Int.reduceEq, Int.reduceNe, Int.reduceLT, Int.reduceLE, Int.reduceToNat, Int.reduceNeg, Int.reduceBEq, Int.reduceAdd, Int.reduceSub, Int.reduceGT, Int.reduceGE, Int.reduceBNe, h5, h6]
  refine callH_of hs ?_
  simp only [go_sem, reduceIte, reduceCtorEq, Nat.reduceAdd, Nat.reduceSub, Nat.reduceMul, Nat.reduceLT, Nat.reduceLeDiff, Nat.reduceEqDiff, Nat.reduceBEq, Nat.reduceGT, Int.reduceEq, Int.reduceNe, Int.reduceLT, Int.reduceLE, Int.reduceToNat, Int.reduceNeg, Int.reduceBEq, Int.reduceAdd, Int.reduceSub, Int.reduceGT, Int.reduceGE, Int.reduceBNe]
end Go.Proofs.YtdpigpopcbjkmaaDoor.Abs
