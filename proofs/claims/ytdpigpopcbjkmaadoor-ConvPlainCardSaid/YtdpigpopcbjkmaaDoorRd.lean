/- Reckon: eval, round by round: the rest. -/
import Derived.Test.YtdpigpopcbjkmaaDoorRc
set_option linter.unusedSimpArgs false
set_option linter.unusedVariables false
namespace Go.Proofs.YtdpigpopcbjkmaaDoor.Abs
open Go Go.RowKit Go.Proofs.YtdpigpopcbjkmaaDoor

set_option maxRecDepth 10000 in
set_option maxHeartbeats 1000000 in
theorem evl_app_out {G G1 : List (List SV)} {m j : Nat} {i' j' n' : Int} {f a : Tm} {e : List Nat} {y : Vl} {steps most seen guess : Int} (hy : HCon 56 G [.gp m 0, .agg true (tv f), envV e] (.ret (vlV y)) G1) (yk : y.k = 14)
    (hm : G1[m]? = some (mRow steps most seen guess j)) (hf : fit guess) (hg : guess ≠ 1) (hs : ¬ steps < most) : EvL G m (.mk 15 i' j' n' [f, a]) e (.pan (.ife 49)) (G1.set m (mRow steps most seen (guessed guess) j)) := by
  refine ⟨1, vcI_step ?_⟩
  rw [tv_mk]
  simp only [go_sem, reduceIte, reduceCtorEq, Nat.reduceAdd, Nat.reduceSub, Nat.reduceMul, Nat.reduceLT, Nat.reduceLeDiff, Nat.reduceEqDiff, Nat.reduceBEq, Nat.reduceGT, Int.reduceEq, Int.reduceNe, Int.reduceLT, Int.reduceLE, Int.reduceToNat, Int.reduceNeg, Int.reduceBEq, Int.reduceAdd, Int.reduceSub, Int.reduceGT, Int.reduceGE, Int.reduceBNe, List.map_cons, List.map_nil]
  refine callK_of (con_stuck_0 (.inl rfl)) ?_
  simp only [go_sem, reduceIte, reduceCtorEq, Nat.reduceAdd, Nat.reduceSub, Nat.reduceMul, Nat.reduceLT, Nat.reduceLeDiff, Nat.reduceEqDiff, Nat.reduceBEq, Nat.reduceGT, Int.reduceEq, Int.reduceNe, Int.reduceLT, Int.reduceLE, Int.reduceToNat, Int.reduceNeg, Int.reduceBEq, Int.reduceAdd, Int.reduceSub, Int.reduceGT, Int.reduceGE, Int.reduceBNe, List.map_cons, List.map_nil, tv_len]
  refine callH_of hy ?_
  simp only [go_sem, reduceIte, reduceCtorEq, Nat.reduceAdd, Nat.reduceSub, Nat.reduceMul, Nat.reduceLT, Nat.reduceLeDiff, Nat.reduceEqDiff, Nat.reduceBEq, Nat.reduceGT, Int.reduceEq, Int.reduceNe, Int.reduceLT, Int.reduceLE, Int.reduceToNat, Int.reduceNeg, Int.reduceBEq, Int.reduceAdd, Int.reduceSub, Int.reduceGT, Int.reduceGE, Int.reduceBNe, vlV, yk]
  exact callH_pan (hcon_take_out hm hf hg hs) trivial ⟨rfl, rfl⟩

set_option maxRecDepth 10000 in
set_option maxHeartbeats 1000000 in
theorem evl_app_pan {G G1 : List (List SV)} {m : Nat} {i' j' n' : Int} {f a : Tm} {e : List Nat} {x : SV} (hy : HCon 56 G [.gp m 0, .agg true (tv f), envV e] (.pan x) G1) : EvL G m (.mk 15 i' j' n' [f, a]) e (.pan x) G1 := by
  refine ⟨1, vcI_step ?_⟩
  rw [tv_mk]
  simp only [go_sem, reduceIte, reduceCtorEq, Nat.reduceAdd, Nat.reduceSub, Nat.reduceMul, Nat.reduceLT, Nat.reduceLeDiff, Nat.reduceEqDiff, Nat.reduceBEq, Nat.reduceGT, Int.reduceEq, Int.reduceNe, Int.reduceLT, Int.reduceLE, Int.reduceToNat, Int.reduceNeg, Int.reduceBEq, Int.reduceAdd, Int.reduceSub, Int.reduceGT, Int.reduceGE, Int.reduceBNe, List.map_cons, List.map_nil]
  refine callK_of (con_stuck_0 (.inl rfl)) ?_
  simp only [go_sem, reduceIte, reduceCtorEq, Nat.reduceAdd, Nat.reduceSub, Nat.reduceMul, Nat.reduceLT, Nat.reduceLeDiff, Nat.reduceEqDiff, Nat.reduceBEq, Nat.reduceGT, Int.reduceEq, Int.reduceNe, Int.reduceLT, Int.reduceLE, Int.reduceToNat, Int.reduceNeg, Int.reduceBEq, Int.reduceAdd, Int.reduceSub, Int.reduceGT, Int.reduceGE, Int.reduceBNe, List.map_cons, List.map_nil, tv_len]
  exact callH_pan hy trivial ⟨rfl, rfl⟩

set_option maxRecDepth 10000 in
set_option maxHeartbeats 1000000 in
theorem evl_app_stuck {G G1 : List (List SV)} {m : Nat} {i' j' n' : Int} {f a : Tm} {e : List Nat} {y : Vl} (hy : HCon 56 G [.gp m 0, .agg true (tv f), envV e] (.ret (vlV y)) G1) (yk : y.k ≠ 14) : EvL G m (.mk 15 i' j' n' [f, a]) e (.ret (vlV (nodeV 15 i' j' n' [f, a] G1.length))) (G1 ++ nodeRows 0 (some y) e 0 [f, a]) := by
  refine ⟨1, vcI_step ?_⟩
  have hc := hcon_nodeA (G := G1) (m := m) 15 i' j' n' [f, a] (by simp) e 0 (some y) (fun q _ h => ⟨y, rfl⟩)
  rw [opt_some, tv_mk] at hc
  rw [tv_mk]
  simp only [go_sem, reduceIte, reduceCtorEq, Nat.reduceAdd, Nat.reduceSub, Nat.reduceMul, Nat.reduceLT, Nat.reduceLeDiff, Nat.reduceEqDiff, Nat.reduceBEq, Nat.reduceGT, Int.reduceEq, Int.reduceNe, Int.reduceLT, Int.reduceLE, Int.reduceToNat, Int.reduceNeg, Int.reduceBEq, Int.reduceAdd, Int.reduceSub, Int.reduceGT, Int.reduceGE, Int.reduceBNe, List.map_cons, List.map_nil] at hc ⊢
  refine callK_of (con_stuck_0 (.inl rfl)) ?_
  simp only [go_sem, reduceIte, reduceCtorEq, Nat.reduceAdd, Nat.reduceSub, Nat.reduceMul, Nat.reduceLT, Nat.reduceLeDiff, Nat.reduceEqDiff, Nat.reduceBEq, Nat.reduceGT, Int.reduceEq, Int.reduceNe, Int.reduceLT, Int.reduceLE, Int.reduceToNat, Int.reduceNeg, Int.reduceBEq, Int.reduceAdd, Int.reduceSub, Int.reduceGT, Int.reduceGE, Int.reduceBNe, List.map_cons, List.map_nil, tv_len]
  refine callH_of hy ?_
  simp only [go_sem, reduceIte, reduceCtorEq, Nat.reduceAdd, Nat.reduceSub, Nat.reduceMul, Nat.reduceLT, Nat.reduceLeDiff, Nat.reduceEqDiff, Nat.reduceBEq, Nat.reduceGT, Int.reduceEq, Int.reduceNe, Int.reduceLT, Int.reduceLE, Int.reduceToNat, Int.reduceNeg, Int.reduceBEq, Int.reduceAdd, Int.reduceSub, Int.reduceGT, Int.reduceGE, Int.reduceBNe, vlV, beq_no yk]
  refine callH_of hc ?_
  simp only [go_sem, reduceIte, reduceCtorEq, Nat.reduceAdd, Nat.reduceSub, Nat.reduceMul, Nat.reduceLT, Nat.reduceLeDiff, Nat.reduceEqDiff, Nat.reduceBEq, Nat.reduceGT, Int.reduceEq, Int.reduceNe, Int.reduceLT, Int.reduceLE, Int.reduceToNat, Int.reduceNeg, Int.reduceBEq, Int.reduceAdd, Int.reduceSub, Int.reduceGT, Int.reduceGE, Int.reduceBNe, vlV]

set_option maxRecDepth 10000 in
set_option maxHeartbeats 1000000 in
theorem evl_fst_pan {G G1 : List (List SV)} {m : Nat} {i' j' n' : Int} {f : Tm} {e : List Nat} {x : SV} (hy : HCon 56 G [.gp m 0, .agg true (tv f), envV e] (.pan x) G1) : EvL G m (.mk 18 i' j' n' [f]) e (.pan x) G1 := by
  refine ⟨1, vcI_step ?_⟩
  rw [tv_mk]
  simp only [go_sem, reduceIte, reduceCtorEq, Nat.reduceAdd, Nat.reduceSub, Nat.reduceMul, Nat.reduceLT, Nat.reduceLeDiff, Nat.reduceEqDiff, Nat.reduceBEq, Nat.reduceGT, Int.reduceEq, Int.reduceNe, Int.reduceLT, Int.reduceLE, Int.reduceToNat, Int.reduceNeg, Int.reduceBEq, Int.reduceAdd, Int.reduceSub, Int.reduceGT, Int.reduceGE, Int.reduceBNe, List.map_cons, List.map_nil]
  refine callK_of (con_stuck_0 (.inr (.inl rfl))) ?_
  simp only [go_sem, reduceIte, reduceCtorEq, Nat.reduceAdd, Nat.reduceSub, Nat.reduceMul, Nat.reduceLT, Nat.reduceLeDiff, Nat.reduceEqDiff, Nat.reduceBEq, Nat.reduceGT, Int.reduceEq, Int.reduceNe, Int.reduceLT, Int.reduceLE, Int.reduceToNat, Int.reduceNeg, Int.reduceBEq, Int.reduceAdd, Int.reduceSub, Int.reduceGT, Int.reduceGE, Int.reduceBNe, List.map_cons, List.map_nil, tv_len]
  exact callH_pan hy trivial ⟨rfl, rfl⟩

set_option maxRecDepth 10000 in
set_option maxHeartbeats 1000000 in
theorem evl_fst_stuck {G G1 : List (List SV)} {m : Nat} {i' j' n' : Int} {f : Tm} {e : List Nat} {y : Vl} (hy : HCon 56 G [.gp m 0, .agg true (tv f), envV e] (.ret (vlV y)) G1) (yk : y.k ≠ 17) : EvL G m (.mk 18 i' j' n' [f]) e (.ret (vlV (nodeV 18 i' j' n' [f] G1.length))) (G1 ++ nodeRows 0 (some y) e 0 [f]) := by
  refine ⟨1, vcI_step ?_⟩
  have hc := hcon_nodeA (G := G1) (m := m) 18 i' j' n' [f] (by simp) e 0 (some y) (fun q _ h => ⟨y, rfl⟩)
  rw [opt_some, tv_mk] at hc
  rw [tv_mk]
  simp only [go_sem, reduceIte, reduceCtorEq, Nat.reduceAdd, Nat.reduceSub, Nat.reduceMul, Nat.reduceLT, Nat.reduceLeDiff, Nat.reduceEqDiff, Nat.reduceBEq, Nat.reduceGT, Int.reduceEq, Int.reduceNe, Int.reduceLT, Int.reduceLE, Int.reduceToNat, Int.reduceNeg, Int.reduceBEq, Int.reduceAdd, Int.reduceSub, Int.reduceGT, Int.reduceGE, Int.reduceBNe, List.map_cons, List.map_nil] at hc ⊢
  refine callK_of (con_stuck_0 (.inr (.inl rfl))) ?_
  simp only [go_sem, reduceIte, reduceCtorEq, Nat.reduceAdd, Nat.reduceSub, Nat.reduceMul, Nat.reduceLT, Nat.reduceLeDiff, Nat.reduceEqDiff, Nat.reduceBEq, Nat.reduceGT, Int.reduceEq, Int.reduceNe, Int.reduceLT, Int.reduceLE, Int.reduceToNat, Int.reduceNeg, Int.reduceBEq, Int.reduceAdd, Int.reduceSub, Int.reduceGT, Int.reduceGE, Int.reduceBNe, List.map_cons, List.map_nil, tv_len]
  refine callH_of hy ?_
  simp only [go_sem, reduceIte, reduceCtorEq, Nat.reduceAdd, Nat.reduceSub, Nat.reduceMul, Nat.reduceLT, Nat.reduceLeDiff, Nat.reduceEqDiff, Nat.reduceBEq, Nat.reduceGT, Int.reduceEq, Int.reduceNe, Int.reduceLT, Int.reduceLE, Int.reduceToNat, Int.reduceNeg, Int.reduceBEq, Int.reduceAdd, Int.reduceSub, Int.reduceGT, Int.reduceGE, Int.reduceBNe, vlV, beq_no yk]
  refine callH_of hc ?_
  simp only [go_sem, reduceIte, reduceCtorEq, Nat.reduceAdd, Nat.reduceSub, Nat.reduceMul, Nat.reduceLT, Nat.reduceLeDiff, Nat.reduceEqDiff, Nat.reduceBEq, Nat.reduceGT, Int.reduceEq, Int.reduceNe, Int.reduceLT, Int.reduceLE, Int.reduceToNat, Int.reduceNeg, Int.reduceBEq, Int.reduceAdd, Int.reduceSub, Int.reduceGT, Int.reduceGE, Int.reduceBNe, vlV]

set_option maxRecDepth 10000 in
set_option maxHeartbeats 1000000 in
theorem evl_snd_pan {G G1 : List (List SV)} {m : Nat} {i' j' n' : Int} {f : Tm} {e : List Nat} {x : SV} (hy : HCon 56 G [.gp m 0, .agg true (tv f), envV e] (.pan x) G1) : EvL G m (.mk 19 i' j' n' [f]) e (.pan x) G1 := by
  refine ⟨1, vcI_step ?_⟩
  rw [tv_mk]
  simp only [go_sem, reduceIte, reduceCtorEq, Nat.reduceAdd, Nat.reduceSub, Nat.reduceMul, Nat.reduceLT, Nat.reduceLeDiff, Nat.reduceEqDiff, Nat.reduceBEq, Nat.reduceGT, Int.reduceEq, Int.reduceNe, Int.reduceLT, Int.reduceLE, Int.reduceToNat, Int.reduceNeg, Int.reduceBEq, Int.reduceAdd, Int.reduceSub, Int.reduceGT, Int.reduceGE, Int.reduceBNe, List.map_cons, List.map_nil]
  refine callK_of (con_stuck_0 (.inr (.inr rfl))) ?_
  simp only [go_sem, reduceIte, reduceCtorEq, Nat.reduceAdd, Nat.reduceSub, Nat.reduceMul, Nat.reduceLT, Nat.reduceLeDiff, Nat.reduceEqDiff, Nat.reduceBEq, Nat.reduceGT, Int.reduceEq, Int.reduceNe, Int.reduceLT, Int.reduceLE, Int.reduceToNat, Int.reduceNeg, Int.reduceBEq, Int.reduceAdd, Int.reduceSub, Int.reduceGT, Int.reduceGE, Int.reduceBNe, List.map_cons, List.map_nil, tv_len]
  exact callH_pan hy trivial ⟨rfl, rfl⟩

set_option maxRecDepth 10000 in
set_option maxHeartbeats 1000000 in
theorem evl_snd_stuck {G G1 : List (List SV)} {m : Nat} {i' j' n' : Int} {f : Tm} {e : List Nat} {y : Vl} (hy : HCon 56 G [.gp m 0, .agg true (tv f), envV e] (.ret (vlV y)) G1) (yk : y.k ≠ 17) : EvL G m (.mk 19 i' j' n' [f]) e (.ret (vlV (nodeV 19 i' j' n' [f] G1.length))) (G1 ++ nodeRows 0 (some y) e 0 [f]) := by
  refine ⟨1, vcI_step ?_⟩
  have hc := hcon_nodeA (G := G1) (m := m) 19 i' j' n' [f] (by simp) e 0 (some y) (fun q _ h => ⟨y, rfl⟩)
  rw [opt_some, tv_mk] at hc
  rw [tv_mk]
  simp only [go_sem, reduceIte, reduceCtorEq, Nat.reduceAdd, Nat.reduceSub, Nat.reduceMul, Nat.reduceLT, Nat.reduceLeDiff, Nat.reduceEqDiff, Nat.reduceBEq, Nat.reduceGT, Int.reduceEq, Int.reduceNe, Int.reduceLT, Int.reduceLE, Int.reduceToNat, Int.reduceNeg, Int.reduceBEq, Int.reduceAdd, Int.reduceSub, Int.reduceGT, Int.reduceGE, Int.reduceBNe, List.map_cons, List.map_nil] at hc ⊢
  refine callK_of (con_stuck_0 (.inr (.inr rfl))) ?_
  simp only [go_sem, reduceIte, reduceCtorEq, Nat.reduceAdd, Nat.reduceSub, Nat.reduceMul, Nat.reduceLT, Nat.reduceLeDiff, Nat.reduceEqDiff, Nat.reduceBEq, Nat.reduceGT, Int.reduceEq, Int.reduceNe, Int.reduceLT, Int.reduceLE, Int.reduceToNat, Int.reduceNeg, Int.reduceBEq, Int.reduceAdd, Int.reduceSub, Int.reduceGT, Int.reduceGE, Int.reduceBNe, List.map_cons, List.map_nil, tv_len]
  refine callH_of hy ?_
  simp only [go_sem, reduceIte, reduceCtorEq, Nat.reduceAdd, Nat.reduceSub, Nat.reduceMul, Nat.reduceLT, Nat.reduceLeDiff, Nat.reduceEqDiff, Nat.reduceBEq, Nat.reduceGT, Int.reduceEq, Int.reduceNe, Int.reduceLT, Int.reduceLE, Int.reduceToNat, Int.reduceNeg, Int.reduceBEq, Int.reduceAdd, Int.reduceSub, Int.reduceGT, Int.reduceGE, Int.reduceBNe, vlV, beq_no yk]
  refine callH_of hc ?_
  simp only [go_sem, reduceIte, reduceCtorEq, Nat.reduceAdd, Nat.reduceSub, Nat.reduceMul, Nat.reduceLT, Nat.reduceLeDiff, Nat.reduceEqDiff, Nat.reduceBEq, Nat.reduceGT, Int.reduceEq, Int.reduceNe, Int.reduceLT, Int.reduceLE, Int.reduceToNat, Int.reduceNeg, Int.reduceBEq, Int.reduceAdd, Int.reduceSub, Int.reduceGT, Int.reduceGE, Int.reduceBNe, vlV]

set_option maxRecDepth 10000 in
set_option maxHeartbeats 1000000 in
theorem evl_j_pan {G G1 : List (List SV)} {m : Nat} {i' j' n' : Int} {a0 a1 a2 a3 a4 f : Tm} {e : List Nat} {x : SV} (hy : HCon 56 G [.gp m 0, .agg true (tv f), envV e] (.pan x) G1) : EvL G m (.mk 22 i' j' n' [a0, a1, a2, a3, a4, f]) e (.pan x) G1 := by
  refine ⟨1, vcI_step ?_⟩
  rw [tv_mk]
  simp only [go_sem, reduceIte, reduceCtorEq, Nat.reduceAdd, Nat.reduceSub, Nat.reduceMul, Nat.reduceLT, Nat.reduceLeDiff, Nat.reduceEqDiff, Nat.reduceBEq, Nat.reduceGT, Int.reduceEq, Int.reduceNe, Int.reduceLT, Int.reduceLE, Int.reduceToNat, Int.reduceNeg, Int.reduceBEq, Int.reduceAdd, Int.reduceSub, Int.reduceGT, Int.reduceGE, Int.reduceBNe, List.map_cons, List.map_nil]
  refine callK_of (con_stuck_5) ?_
  simp only [go_sem, reduceIte, reduceCtorEq, Nat.reduceAdd, Nat.reduceSub, Nat.reduceMul, Nat.reduceLT, Nat.reduceLeDiff, Nat.reduceEqDiff, Nat.reduceBEq, Nat.reduceGT, Int.reduceEq, Int.reduceNe, Int.reduceLT, Int.reduceLE, Int.reduceToNat, Int.reduceNeg, Int.reduceBEq, Int.reduceAdd, Int.reduceSub, Int.reduceGT, Int.reduceGE, Int.reduceBNe, List.map_cons, List.map_nil, tv_len]
  exact callH_pan hy trivial ⟨rfl, rfl⟩

set_option maxRecDepth 10000 in
set_option maxHeartbeats 1000000 in
theorem evl_j_stuck {G G1 : List (List SV)} {m : Nat} {i' j' n' : Int} {a0 a1 a2 a3 a4 f : Tm} {e : List Nat} {y : Vl} (hy : HCon 56 G [.gp m 0, .agg true (tv f), envV e] (.ret (vlV y)) G1) (yk : y.k ≠ 21) : EvL G m (.mk 22 i' j' n' [a0, a1, a2, a3, a4, f]) e (.ret (vlV (nodeV 22 i' j' n' [a0, a1, a2, a3, a4, f] G1.length))) (G1 ++ nodeRows 5 (some y) e 0 [a0, a1, a2, a3, a4, f]) := by
  refine ⟨1, vcI_step ?_⟩
  have hc := hcon_nodeA (G := G1) (m := m) 22 i' j' n' [a0, a1, a2, a3, a4, f] (by simp) e 5 (some y) (fun q _ h => ⟨y, rfl⟩)
  rw [opt_some, tv_mk] at hc
  rw [tv_mk]
  simp only [go_sem, reduceIte, reduceCtorEq, Nat.reduceAdd, Nat.reduceSub, Nat.reduceMul, Nat.reduceLT, Nat.reduceLeDiff, Nat.reduceEqDiff, Nat.reduceBEq, Nat.reduceGT, Int.reduceEq, Int.reduceNe, Int.reduceLT, Int.reduceLE, Int.reduceToNat, Int.reduceNeg, Int.reduceBEq, Int.reduceAdd, Int.reduceSub, Int.reduceGT, Int.reduceGE, Int.reduceBNe, List.map_cons, List.map_nil] at hc ⊢
  refine callK_of (con_stuck_5) ?_
  simp only [go_sem, reduceIte, reduceCtorEq, Nat.reduceAdd, Nat.reduceSub, Nat.reduceMul, Nat.reduceLT, Nat.reduceLeDiff, Nat.reduceEqDiff, Nat.reduceBEq, Nat.reduceGT, Int.reduceEq, Int.reduceNe, Int.reduceLT, Int.reduceLE, Int.reduceToNat, Int.reduceNeg, Int.reduceBEq, Int.reduceAdd, Int.reduceSub, Int.reduceGT, Int.reduceGE, Int.reduceBNe, List.map_cons, List.map_nil, tv_len]
  refine callH_of hy ?_
  simp only [go_sem, reduceIte, reduceCtorEq, Nat.reduceAdd, Nat.reduceSub, Nat.reduceMul, Nat.reduceLT, Nat.reduceLeDiff, Nat.reduceEqDiff, Nat.reduceBEq, Nat.reduceGT, Int.reduceEq, Int.reduceNe, Int.reduceLT, Int.reduceLE, Int.reduceToNat, Int.reduceNeg, Int.reduceBEq, Int.reduceAdd, Int.reduceSub, Int.reduceGT, Int.reduceGE, Int.reduceBNe, vlV, beq_no yk]
  refine callH_of hc ?_
  simp only [go_sem, reduceIte, reduceCtorEq, Nat.reduceAdd, Nat.reduceSub, Nat.reduceMul, Nat.reduceLT, Nat.reduceLeDiff, Nat.reduceEqDiff, Nat.reduceBEq, Nat.reduceGT, Int.reduceEq, Int.reduceNe, Int.reduceLT, Int.reduceLE, Int.reduceToNat, Int.reduceNeg, Int.reduceBEq, Int.reduceAdd, Int.reduceSub, Int.reduceGT, Int.reduceGE, Int.reduceBNe, vlV]

set_option maxRecDepth 10000 in
set_option maxHeartbeats 1000000 in
theorem evl_fst {G G1 G' : List (List SV)} {m j id : Nat} {i' j' n' : Int} {f : Tm} {e : List Nat} {out : HOut} {y : Vl} {steps most seen guess : Int} (hy : HCon 56 G [.gp m 0, .agg true (tv f), envV e] (.ret (vlV y)) G1) (yk : y.k = 17)
    (hid : y.kids[2]? = some id) (hm : G1[m]? = some (mRow steps most seen guess j)) (hf : fit guess) (hg : guess ≠ 1) (hs : steps < most) (hfs : fit (steps + 1))
    (h : HCon 40 (G1.set m (mRow (steps + 1) most seen (guessed guess) j)) [.gp m 0, .gp id 0] out G') (ho : OutV out) : EvL G m (.mk 18 i' j' n' [f]) e out G' := by
  refine ⟨1, vcI_step ?_⟩
  obtain ⟨k1, k2, k3, k4⟩ := ths_at hid
  have k2' : (2 : Int) < y.kids.length := by omega
  rw [tv_mk]
  simp only [go_sem, reduceIte, reduceCtorEq, Nat.reduceAdd, Nat.reduceSub, Nat.reduceMul, Nat.reduceLT, Nat.reduceLeDiff, Nat.reduceEqDiff, Nat.reduceBEq, Nat.reduceGT, Int.reduceEq, Int.reduceNe, Int.reduceLT, Int.reduceLE, Int.reduceToNat, Int.reduceNeg, Int.reduceBEq, Int.reduceAdd, Int.reduceSub, Int.reduceGT, Int.reduceGE, Int.reduceBNe, List.map_cons, List.map_nil]
  refine callK_of (con_stuck_0 (.inr (.inl rfl))) ?_
  simp only [go_sem, reduceIte, reduceCtorEq, Nat.reduceAdd, Nat.reduceSub, Nat.reduceMul, Nat.reduceLT, Nat.reduceLeDiff, Nat.reduceEqDiff, Nat.reduceBEq, Nat.reduceGT, Int.reduceEq, Int.reduceNe, Int.reduceLT, Int.reduceLE, Int.reduceToNat, Int.reduceNeg, Int.reduceBEq, Int.reduceAdd, Int.reduceSub, Int.reduceGT, Int.reduceGE, Int.reduceBNe, List.map_cons, List.map_nil, tv_len]
  refine callH_of hy ?_
  simp only [go_sem, reduceIte, reduceCtorEq, Nat.reduceAdd, Nat.reduceSub, Nat.reduceMul, Nat.reduceLT, Nat.reduceLeDiff, Nat.reduceEqDiff, Nat.reduceBEq, Nat.reduceGT, Int.reduceEq, Int.reduceNe, Int.reduceLT, Int.reduceLE, Int.reduceToNat, Int.reduceNeg, Int.reduceBEq, Int.reduceAdd, Int.reduceSub, Int.reduceGT, Int.reduceGE, Int.reduceBNe, vlV, yk]
  refine callH_of (hcon_take hm hf hg hs hfs) ?_
  simp only [go_sem, reduceIte, reduceCtorEq, Nat.reduceAdd, Nat.reduceSub, Nat.reduceMul, Nat.reduceLT, Nat.reduceLeDiff, Nat.reduceEqDiff, Nat.reduceBEq, Nat.reduceGT, Int.reduceEq, Int.reduceNe, Int.reduceLT, Int.reduceLE, Int.reduceToNat, Int.reduceNeg, Int.reduceBEq, Int.reduceAdd, Int.reduceSub, Int.reduceGT, Int.reduceGE, Int.reduceBNe, vlV, yk, k1, k2', k3, k4, List.map_cons, List.map_nil, tv_len, List.length_map]
  cases out with
  | ret r =>
    obtain ⟨v, rfl⟩ := ho
    refine callH_of h ?_
    simp only [go_sem, reduceIte, reduceCtorEq, Nat.reduceAdd, Nat.reduceSub, Nat.reduceMul, Nat.reduceLT, Nat.reduceLeDiff, Nat.reduceEqDiff, Nat.reduceBEq, Nat.reduceGT, Int.reduceEq, Int.reduceNe, Int.reduceLT, Int.reduceLE, Int.reduceToNat, Int.reduceNeg, Int.reduceBEq, Int.reduceAdd, Int.reduceSub, Int.reduceGT, Int.reduceGE, Int.reduceBNe]
  | pan x => exact callH_pan h trivial ⟨rfl, rfl⟩

set_option maxRecDepth 10000 in
set_option maxHeartbeats 1000000 in
theorem evl_fst_out {G G1 : List (List SV)} {m j : Nat} {i' j' n' : Int} {f : Tm} {e : List Nat} {y : Vl} {steps most seen guess : Int} (hy : HCon 56 G [.gp m 0, .agg true (tv f), envV e] (.ret (vlV y)) G1) (yk : y.k = 17)
    (hm : G1[m]? = some (mRow steps most seen guess j)) (hf : fit guess) (hg : guess ≠ 1) (hs : ¬ steps < most) : EvL G m (.mk 18 i' j' n' [f]) e (.pan (.ife 49)) (G1.set m (mRow steps most seen (guessed guess) j)) := by
  refine ⟨1, vcI_step ?_⟩
  rw [tv_mk]
  simp only [go_sem, reduceIte, reduceCtorEq, Nat.reduceAdd, Nat.reduceSub, Nat.reduceMul, Nat.reduceLT, Nat.reduceLeDiff, Nat.reduceEqDiff, Nat.reduceBEq, Nat.reduceGT, Int.reduceEq, Int.reduceNe, Int.reduceLT, Int.reduceLE, Int.reduceToNat, Int.reduceNeg, Int.reduceBEq, Int.reduceAdd, Int.reduceSub, Int.reduceGT, Int.reduceGE, Int.reduceBNe, List.map_cons, List.map_nil]
  refine callK_of (con_stuck_0 (.inr (.inl rfl))) ?_
  simp only [go_sem, reduceIte, reduceCtorEq, Nat.reduceAdd, Nat.reduceSub, Nat.reduceMul, Nat.reduceLT, Nat.reduceLeDiff, Nat.reduceEqDiff, Nat.reduceBEq, Nat.reduceGT, Int.reduceEq, Int.reduceNe, Int.reduceLT, Int.reduceLE, Int.reduceToNat, Int.reduceNeg, Int.reduceBEq, Int.reduceAdd, Int.reduceSub, Int.reduceGT, Int.reduceGE, Int.reduceBNe, List.map_cons, List.map_nil, tv_len]
  refine callH_of hy ?_
  simp only [go_sem, reduceIte, reduceCtorEq, Nat.reduceAdd, Nat.reduceSub, Nat.reduceMul, Nat.reduceLT, Nat.reduceLeDiff, Nat.reduceEqDiff, Nat.reduceBEq, Nat.reduceGT, Int.reduceEq, Int.reduceNe, Int.reduceLT, Int.reduceLE, Int.reduceToNat, Int.reduceNeg, Int.reduceBEq, Int.reduceAdd, Int.reduceSub, Int.reduceGT, Int.reduceGE, Int.reduceBNe, vlV, yk]
  exact callH_pan (hcon_take_out hm hf hg hs) trivial ⟨rfl, rfl⟩

set_option maxRecDepth 10000 in
set_option maxHeartbeats 1000000 in
theorem evl_snd {G G1 G' : List (List SV)} {m j id : Nat} {i' j' n' : Int} {f : Tm} {e : List Nat} {out : HOut} {y : Vl} {steps most seen guess : Int} (hy : HCon 56 G [.gp m 0, .agg true (tv f), envV e] (.ret (vlV y)) G1) (yk : y.k = 17)
    (hid : y.kids[3]? = some id) (hm : G1[m]? = some (mRow steps most seen guess j)) (hf : fit guess) (hg : guess ≠ 1) (hs : steps < most) (hfs : fit (steps + 1))
    (h : HCon 40 (G1.set m (mRow (steps + 1) most seen (guessed guess) j)) [.gp m 0, .gp id 0] out G') (ho : OutV out) : EvL G m (.mk 19 i' j' n' [f]) e out G' := by
  refine ⟨1, vcI_step ?_⟩
  obtain ⟨k1, k2, k3, k4⟩ := ths_at hid
  have k2' : (3 : Int) < y.kids.length := by omega
  rw [tv_mk]
  simp only [go_sem, reduceIte, reduceCtorEq, Nat.reduceAdd, Nat.reduceSub, Nat.reduceMul, Nat.reduceLT, Nat.reduceLeDiff, Nat.reduceEqDiff, Nat.reduceBEq, Nat.reduceGT, Int.reduceEq, Int.reduceNe, Int.reduceLT, Int.reduceLE, Int.reduceToNat, Int.reduceNeg, Int.reduceBEq, Int.reduceAdd, Int.reduceSub, Int.reduceGT, Int.reduceGE, Int.reduceBNe, List.map_cons, List.map_nil]
  refine callK_of (con_stuck_0 (.inr (.inr rfl))) ?_
  simp only [go_sem, reduceIte, reduceCtorEq, Nat.reduceAdd, Nat.reduceSub, Nat.reduceMul, Nat.reduceLT, Nat.reduceLeDiff, Nat.reduceEqDiff, Nat.reduceBEq, Nat.reduceGT, Int.reduceEq, Int.reduceNe, Int.reduceLT, Int.reduceLE, Int.reduceToNat, Int.reduceNeg, Int.reduceBEq, Int.reduceAdd, Int.reduceSub, Int.reduceGT, Int.reduceGE, Int.reduceBNe, List.map_cons, List.map_nil, tv_len]
  refine callH_of hy ?_
  simp only [go_sem, reduceIte, reduceCtorEq, Nat.reduceAdd, Nat.reduceSub, Nat.reduceMul, Nat.reduceLT, Nat.reduceLeDiff, Nat.reduceEqDiff, Nat.reduceBEq, Nat.reduceGT, Int.reduceEq, Int.reduceNe, Int.reduceLT, Int.reduceLE, Int.reduceToNat, Int.reduceNeg, Int.reduceBEq, Int.reduceAdd, Int.reduceSub, Int.reduceGT, Int.reduceGE, Int.reduceBNe, vlV, yk]
  refine callH_of (hcon_take hm hf hg hs hfs) ?_
  simp only [go_sem, reduceIte, reduceCtorEq, Nat.reduceAdd, Nat.reduceSub, Nat.reduceMul, Nat.reduceLT, Nat.reduceLeDiff, Nat.reduceEqDiff, Nat.reduceBEq, Nat.reduceGT, Int.reduceEq, Int.reduceNe, Int.reduceLT, Int.reduceLE, Int.reduceToNat, Int.reduceNeg, Int.reduceBEq, Int.reduceAdd, Int.reduceSub, Int.reduceGT, Int.reduceGE, Int.reduceBNe, vlV, yk, k1, k2', k3, k4, List.map_cons, List.map_nil, tv_len, List.length_map]
  cases out with
  | ret r =>
    obtain ⟨v, rfl⟩ := ho
    refine callH_of h ?_
    simp only [go_sem, reduceIte, reduceCtorEq, Nat.reduceAdd, Nat.reduceSub, Nat.reduceMul, Nat.reduceLT, Nat.reduceLeDiff, Nat.reduceEqDiff, Nat.reduceBEq, Nat.reduceGT, Int.reduceEq, Int.reduceNe, Int.reduceLT, Int.reduceLE, Int.reduceToNat, Int.reduceNeg, Int.reduceBEq, Int.reduceAdd, Int.reduceSub, Int.reduceGT, Int.reduceGE, Int.reduceBNe]
  | pan x => exact callH_pan h trivial ⟨rfl, rfl⟩

set_option maxRecDepth 10000 in
set_option maxHeartbeats 1000000 in
theorem evl_snd_out {G G1 : List (List SV)} {m j : Nat} {i' j' n' : Int} {f : Tm} {e : List Nat} {y : Vl} {steps most seen guess : Int} (hy : HCon 56 G [.gp m 0, .agg true (tv f), envV e] (.ret (vlV y)) G1) (yk : y.k = 17)
    (hm : G1[m]? = some (mRow steps most seen guess j)) (hf : fit guess) (hg : guess ≠ 1) (hs : ¬ steps < most) : EvL G m (.mk 19 i' j' n' [f]) e (.pan (.ife 49)) (G1.set m (mRow steps most seen (guessed guess) j)) := by
  refine ⟨1, vcI_step ?_⟩
  rw [tv_mk]
  simp only [go_sem, reduceIte, reduceCtorEq, Nat.reduceAdd, Nat.reduceSub, Nat.reduceMul, Nat.reduceLT, Nat.reduceLeDiff, Nat.reduceEqDiff, Nat.reduceBEq, Nat.reduceGT, Int.reduceEq, Int.reduceNe, Int.reduceLT, Int.reduceLE, Int.reduceToNat, Int.reduceNeg, Int.reduceBEq, Int.reduceAdd, Int.reduceSub, Int.reduceGT, Int.reduceGE, Int.reduceBNe, List.map_cons, List.map_nil]
  refine callK_of (con_stuck_0 (.inr (.inr rfl))) ?_
  simp only [go_sem, reduceIte, reduceCtorEq, Nat.reduceAdd, Nat.reduceSub, Nat.reduceMul, Nat.reduceLT, Nat.reduceLeDiff, Nat.reduceEqDiff, Nat.reduceBEq, Nat.reduceGT, Int.reduceEq, Int.reduceNe, Int.reduceLT, Int.reduceLE, Int.reduceToNat, Int.reduceNeg, Int.reduceBEq, Int.reduceAdd, Int.reduceSub, Int.reduceGT, Int.reduceGE, Int.reduceBNe, List.map_cons, List.map_nil, tv_len]
  refine callH_of hy ?_
  simp only [go_sem, reduceIte, reduceCtorEq, Nat.reduceAdd, Nat.reduceSub, Nat.reduceMul, Nat.reduceLT, Nat.reduceLeDiff, Nat.reduceEqDiff, Nat.reduceBEq, Nat.reduceGT, Int.reduceEq, Int.reduceNe, Int.reduceLT, Int.reduceLE, Int.reduceToNat, Int.reduceNeg, Int.reduceBEq, Int.reduceAdd, Int.reduceSub, Int.reduceGT, Int.reduceGE, Int.reduceBNe, vlV, yk]
  exact callH_pan (hcon_take_out hm hf hg hs) trivial ⟨rfl, rfl⟩

set_option maxRecDepth 10000 in
set_option maxHeartbeats 1000000 in
theorem evl_j {G G1 G' : List (List SV)} {m j : Nat} {i' j' n' : Int} {a0 a1 a2 a3 a4 f : Tm} {e : List Nat} {out : HOut} {y : Vl} {steps most seen guess : Int} (hy : HCon 56 G [.gp m 0, .agg true (tv f), envV e] (.ret (vlV y)) G1) (yk : y.k = 21)
    (hm : G1[m]? = some (mRow steps most seen guess j)) (hf : fit guess) (hg : guess ≠ 1) (hs : steps < most) (hfs : fit (steps + 1))
    (h : EvL (G1.set m (mRow (steps + 1) most seen (guessed guess) j)) m a3 e out G') : EvL G m (.mk 22 i' j' n' [a0, a1, a2, a3, a4, f]) e out G' := by
  obtain ⟨n, h⟩ := h
  refine ⟨n + 1, vcI_step ?_⟩
  rw [tv_mk]
  simp only [go_sem, reduceIte, reduceCtorEq, Nat.reduceAdd, Nat.reduceSub, Nat.reduceMul, Nat.reduceLT, Nat.reduceLeDiff, Nat.reduceEqDiff, Nat.reduceBEq, Nat.reduceGT, Int.reduceEq, Int.reduceNe, Int.reduceLT, Int.reduceLE, Int.reduceToNat, Int.reduceNeg, Int.reduceBEq, Int.reduceAdd, Int.reduceSub, Int.reduceGT, Int.reduceGE, Int.reduceBNe, List.map_cons, List.map_nil]
  refine callK_of con_stuck_5 ?_
  simp only [go_sem, reduceIte, reduceCtorEq, Nat.reduceAdd, Nat.reduceSub, Nat.reduceMul, Nat.reduceLT, Nat.reduceLeDiff, Nat.reduceEqDiff, Nat.reduceBEq, Nat.reduceGT, Int.reduceEq, Int.reduceNe, Int.reduceLT, Int.reduceLE, Int.reduceToNat, Int.reduceNeg, Int.reduceBEq, Int.reduceAdd, Int.reduceSub, Int.reduceGT, Int.reduceGE, Int.reduceBNe, List.map_cons, List.map_nil, tv_len]
  refine callH_of hy ?_
  simp only [go_sem, reduceIte, reduceCtorEq, Nat.reduceAdd, Nat.reduceSub, Nat.reduceMul, Nat.reduceLT, Nat.reduceLeDiff, Nat.reduceEqDiff, Nat.reduceBEq, Nat.reduceGT, Int.reduceEq, Int.reduceNe, Int.reduceLT, Int.reduceLE, Int.reduceToNat, Int.reduceNeg, Int.reduceBEq, Int.reduceAdd, Int.reduceSub, Int.reduceGT, Int.reduceGE, Int.reduceBNe, vlV, yk]
  refine callH_of (hcon_take hm hf hg hs hfs) ?_
  simp only [go_sem, reduceIte, reduceCtorEq, Nat.reduceAdd, Nat.reduceSub, Nat.reduceMul, Nat.reduceLT, Nat.reduceLeDiff, Nat.reduceEqDiff, Nat.reduceBEq, Nat.reduceGT, Int.reduceEq, Int.reduceNe, Int.reduceLT, Int.reduceLE, Int.reduceToNat, Int.reduceNeg, Int.reduceBEq, Int.reduceAdd, Int.reduceSub, Int.reduceGT, Int.reduceGE, Int.reduceBNe, vlV, yk, List.map_cons, List.map_nil, tv_len, List.length_map]
  exact vcI_wk (wk_slots (by simp [slotsLe])) h

set_option maxRecDepth 10000 in
set_option maxHeartbeats 1000000 in
theorem evl_j_out {G G1 : List (List SV)} {m j : Nat} {i' j' n' : Int} {a0 a1 a2 a3 a4 f : Tm} {e : List Nat} {y : Vl} {steps most seen guess : Int} (hy : HCon 56 G [.gp m 0, .agg true (tv f), envV e] (.ret (vlV y)) G1) (yk : y.k = 21)
    (hm : G1[m]? = some (mRow steps most seen guess j)) (hf : fit guess) (hg : guess ≠ 1) (hs : ¬ steps < most) : EvL G m (.mk 22 i' j' n' [a0, a1, a2, a3, a4, f]) e (.pan (.ife 49)) (G1.set m (mRow steps most seen (guessed guess) j)) := by
  refine ⟨1, vcI_step ?_⟩
  rw [tv_mk]
  simp only [go_sem, reduceIte, reduceCtorEq, Nat.reduceAdd, Nat.reduceSub, Nat.reduceMul, Nat.reduceLT, Nat.reduceLeDiff, Nat.reduceEqDiff, Nat.reduceBEq, Nat.reduceGT, Int.reduceEq, Int.reduceNe, Int.reduceLT, Int.reduceLE, Int.reduceToNat, Int.reduceNeg, Int.reduceBEq, Int.reduceAdd, Int.reduceSub, Int.reduceGT, Int.reduceGE, Int.reduceBNe, List.map_cons, List.map_nil]
  refine callK_of con_stuck_5 ?_
  simp only [go_sem, reduceIte, reduceCtorEq, Nat.reduceAdd, Nat.reduceSub, Nat.reduceMul, Nat.reduceLT, Nat.reduceLeDiff, Nat.reduceEqDiff, Nat.reduceBEq, Nat.reduceGT, Int.reduceEq, Int.reduceNe, Int.reduceLT, Int.reduceLE, Int.reduceToNat, Int.reduceNeg, Int.reduceBEq, Int.reduceAdd, Int.reduceSub, Int.reduceGT, Int.reduceGE, Int.reduceBNe, List.map_cons, List.map_nil, tv_len]
  refine callH_of hy ?_
  simp only [go_sem, reduceIte, reduceCtorEq, Nat.reduceAdd, Nat.reduceSub, Nat.reduceMul, Nat.reduceLT, Nat.reduceLeDiff, Nat.reduceEqDiff, Nat.reduceBEq, Nat.reduceGT, Int.reduceEq, Int.reduceNe, Int.reduceLT, Int.reduceLE, Int.reduceToNat, Int.reduceNeg, Int.reduceBEq, Int.reduceAdd, Int.reduceSub, Int.reduceGT, Int.reduceGE, Int.reduceBNe, vlV, yk]
  exact callH_pan (hcon_take_out hm hf hg hs) trivial ⟨rfl, rfl⟩
end Go.Proofs.YtdpigpopcbjkmaaDoor.Abs
