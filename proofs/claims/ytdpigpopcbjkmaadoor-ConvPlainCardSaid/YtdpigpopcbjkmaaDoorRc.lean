/- Reckon: eval, round by round. -/
import Derived.Test.YtdpigpopcbjkmaaDoorAfS
import Derived.Test.YtdpigpopcbjkmaaDoorRb
set_option linter.unusedSimpArgs false
set_option linter.unusedVariables false
namespace Go.Proofs.YtdpigpopcbjkmaaDoor.Abs
open Go Go.RowKit Go.Proofs.YtdpigpopcbjkmaaDoor

theorem vcI_wk {C : CT} {b : AC} {Q : AE → St → Prop} {n : Nat} {s s' : St} (h : Wk s s') (k : vcI C b Q n s') : vcI C b Q n s := by
  cases n with
  | zero => exact k
  | succ n =>
    obtain ⟨s0, h1, h2⟩ := k
    exact ⟨s0, .trans h h1, h2⟩

/-- Eval's loop, at a term and an environment, comes to out. -/
def EvL (G : List (List SV)) (m : Nat) (t : Tm) (e : List Nat) (out : HOut) (G' : List (List SV)) : Prop :=
  ∃ n, vcI (CTof Tryd.prog fun x G1 => out = .pan x ∧ G1 = G') a56_54 (bk 0 (rtG [.t 6] out G')) n ⟨(.gp m 0 :: .junk :: envV e :: .junk :: .ref 1 0 0 0 :: .junk :: .junk :: .junk :: .junk :: .junk :: .junk :: .junk :: .junk :: .junk :: .junk :: .junk :: .junk :: .junk :: .junk :: .junk :: .junk :: .junk :: .junk :: .junk :: .junk :: .junk :: .junk :: .junk :: .junk :: .junk :: .junk :: .junk :: .junk :: .junk :: .junk :: .junk :: .junk :: .junk :: .junk :: .junk :: .junk :: .junk :: .junk :: .junk :: .junk :: .junk :: .junk :: .junk :: .junk :: .junk :: .junk :: .junk :: .junk :: .junk :: .junk :: .junk :: .junk :: .junk :: .junk :: .junk :: .junk :: .junk :: .junk :: .junk :: .junk :: .junk :: .junk :: .junk :: .junk :: .junk :: .junk :: .junk :: .junk :: .junk :: .junk :: .junk :: .junk :: .junk :: .junk :: .junk :: .junk :: .junk :: .junk :: .junk :: .junk :: .junk :: .junk :: .junk :: .junk :: .junk :: .junk :: .junk :: .junk :: .junk :: .junk :: .junk :: .junk :: .junk :: .junk :: .junk :: .junk :: .junk :: .junk :: .junk :: .junk :: .junk :: .junk :: .junk :: .junk :: .junk :: .junk :: .junk :: .junk :: .junk :: .junk :: .junk :: .junk :: .junk :: .junk :: .junk :: .junk :: .junk :: .junk :: .junk :: .junk :: .junk :: .junk :: .junk :: .junk :: .junk :: .junk :: .junk :: .junk :: .junk :: .junk :: .junk :: .junk :: .junk :: .junk :: .junk :: .junk :: .junk :: .junk :: .junk :: .junk :: .junk :: .junk :: .junk :: .junk :: .junk :: []), [gOb G, ⟨true, 5, [tv t], 0, 0, true⟩]⟩

set_option maxRecDepth 10000 in
theorem hcon_eval {G G' : List (List SV)} {m : Nat} {t : Tm} {e : List Nat} {out : HOut} (h : EvL G m t e out G') : HCon 56 G [.gp m 0, .agg true (tv t), envV e] out G' := by
  refine hcontract_of_vc mixed Tryd.func56 tr56 ?_
  obtain ⟨n, h⟩ := h
  simp only [go_sem, reduceIte, reduceCtorEq, Nat.reduceAdd, Nat.reduceSub, Nat.reduceMul, Nat.reduceLT, Nat.reduceLeDiff, Nat.reduceEqDiff, Nat.reduceBEq, Nat.reduceGT, Int.reduceEq, Int.reduceNe, Int.reduceLT, Int.reduceLE, Int.reduceToNat, Int.reduceNeg, Int.reduceBEq, Int.reduceAdd, Int.reduceSub, Int.reduceGT, Int.reduceGE, Int.reduceBNe, tv_len]
  exact vc_unroll n (vcI_wk (wk_slots (by simp [slotsLe])) h)

/-- An outcome that is a value, or a panic. -/
def OutV : HOut → Prop
  | .ret r => ∃ v, r = vlV v
  | .pan _ => True

set_option maxRecDepth 10000 in
theorem evl_var {G G' : List (List SV)} {m i id : Nat} {j n : Int} {l : List Tm} {e : List Nat} {out : HOut} (hf : fit i) (hi : e[i]? = some id) (h : HCon 40 G [.gp m 0, .gp id 0] out G') (ho : OutV out) : EvL G m (.mk 2 i j n l) e out G' := by
  refine ⟨1, vcI_step ?_⟩
  rw [tv_mk]
  simp only [go_sem, reduceIte, reduceCtorEq, Nat.reduceAdd, Nat.reduceSub, Nat.reduceMul, Nat.reduceLT, Nat.reduceLeDiff, Nat.reduceEqDiff, Nat.reduceBEq, Nat.reduceGT, Int.reduceEq, Int.reduceNe, Int.reduceLT, Int.reduceLE, Int.reduceToNat, Int.reduceNeg, Int.reduceBEq, Int.reduceAdd, Int.reduceSub, Int.reduceGT, Int.reduceGE, Int.reduceBNe]
  refine callK_of (con_look e i hf) ?_
  simp only [go_sem, reduceIte, reduceCtorEq, Nat.reduceAdd, Nat.reduceSub, Nat.reduceMul, Nat.reduceLT, Nat.reduceLeDiff, Nat.reduceEqDiff, Nat.reduceBEq, Nat.reduceGT, Int.reduceEq, Int.reduceNe, Int.reduceLT, Int.reduceLE, Int.reduceToNat, Int.reduceNeg, Int.reduceBEq, Int.reduceAdd, Int.reduceSub, Int.reduceGT, Int.reduceGE, Int.reduceBNe, hi]
  cases out with
  | ret r =>
    obtain ⟨v, rfl⟩ := ho
    refine callH_of h ?_
    simp only [go_sem, reduceIte, reduceCtorEq, Nat.reduceAdd, Nat.reduceSub, Nat.reduceMul, Nat.reduceLT, Nat.reduceLeDiff, Nat.reduceEqDiff, Nat.reduceBEq, Nat.reduceGT, Int.reduceEq, Int.reduceNe, Int.reduceLT, Int.reduceLE, Int.reduceToNat, Int.reduceNeg, Int.reduceBEq, Int.reduceAdd, Int.reduceSub, Int.reduceGT, Int.reduceGE, Int.reduceBNe]
  | pan x => exact callH_pan h trivial ⟨rfl, rfl⟩

set_option maxRecDepth 10000 in
theorem evl_free {G : List (List SV)} {m i : Nat} {j n : Int} {l : List Tm} {e : List Nat} (hf : fit i) (hi : e[i]? = none) (he : fit e.length) : EvL G m (.mk 2 i j n l) e (.ret (vlV ⟨2, 0, 0, 0, (e.length : Int) - i - 1, []⟩)) G := by
  have hle : e.length ≤ i := List.getElem?_eq_none_iff.1 hi
  refine ⟨1, vcI_step ?_⟩
  rw [tv_mk]
  simp only [go_sem, reduceIte, reduceCtorEq, Nat.reduceAdd, Nat.reduceSub, Nat.reduceMul, Nat.reduceLT, Nat.reduceLeDiff, Nat.reduceEqDiff, Nat.reduceBEq, Nat.reduceGT, Int.reduceEq, Int.reduceNe, Int.reduceLT, Int.reduceLE, Int.reduceToNat, Int.reduceNeg, Int.reduceBEq, Int.reduceAdd, Int.reduceSub, Int.reduceGT, Int.reduceGE, Int.reduceBNe]
  refine callK_of (con_look e i hf) ?_
  simp only [go_sem, reduceIte, reduceCtorEq, Nat.reduceAdd, Nat.reduceSub, Nat.reduceMul, Nat.reduceLT, Nat.reduceLeDiff, Nat.reduceEqDiff, Nat.reduceBEq, Nat.reduceGT, Int.reduceEq, Int.reduceNe, Int.reduceLT, Int.reduceLE, Int.reduceToNat, Int.reduceNeg, Int.reduceBEq, Int.reduceAdd, Int.reduceSub, Int.reduceGT, Int.reduceGE, Int.reduceBNe, hi]
  refine callK_of (con_size e) ?_
  unfold fit at hf he
  simp only [go_sem, reduceIte, reduceCtorEq, Nat.reduceAdd, Nat.reduceSub, Nat.reduceMul, Nat.reduceLT, Nat.reduceLeDiff, Nat.reduceEqDiff, Nat.reduceBEq, Nat.reduceGT, Int.reduceEq, Int.reduceNe, Int.reduceLT, Int.reduceLE, Int.reduceToNat, Int.reduceNeg, Int.reduceBEq, Int.reduceAdd, Int.reduceSub, Int.reduceGT, Int.reduceGE, Int.reduceBNe, w64 (show fit ((e.length : Int) - i) by unfold fit; omega), w64 (show fit ((e.length : Int) - i - 1) by unfold fit; omega), vlV, vlC, thsV_nil]

/-- On no kid waits a kind but the four eliminations. -/
theorem con_stuck_no {k : Int} (h : k ≠ 15 ∧ k ≠ 18 ∧ k ≠ 19 ∧ k ≠ 22) : Con 58 [.int .i64 k] (.int .i64 (-1)) := by
  have := con_stuck k
  rwa [if_neg (by omega), if_neg h.2.2.2] at this
theorem con_stuck_0 {k : Int} (h : k = 15 ∨ k = 18 ∨ k = 19) : Con 58 [.int .i64 k] (.int .i64 0) := by
  have := con_stuck k
  rwa [if_pos h] at this
theorem con_stuck_5 : Con 58 [.int .i64 22] (.int .i64 5) := con_stuck 22

set_option maxRecDepth 10000 in
theorem hcon_node0 {G : List (List SV)} {m : Nat} (k' i' j' n' : Int) (e : List Nat) (k : Int) (y : Option Vl) :
    HCon 68 G [.gp m 0, .agg true (tv (.mk k' i' j' n' [])), envV e, .int .i64 k, optV y] (.ret (vlV ⟨k', i', j', n', 0, []⟩)) G := by
  refine hcontract_of_vc mixed Tryd.func68 tr68 ?_
  rw [tv_mk]
  simp only [go_sem, reduceIte, reduceCtorEq, Nat.reduceAdd, Nat.reduceSub, Nat.reduceMul, Nat.reduceLT, Nat.reduceLeDiff, Nat.reduceEqDiff, Nat.reduceBEq, Nat.reduceGT, Int.reduceEq, Int.reduceNe, Int.reduceLT, Int.reduceLE, Int.reduceToNat, Int.reduceNeg, Int.reduceBEq, Int.reduceAdd, Int.reduceSub, Int.reduceGT, Int.reduceGE, Int.reduceBNe, List.map_nil]
  refine vc_unroll 1 (vcI_step ?_)
  simp only [go_sem, reduceIte, reduceCtorEq, Nat.reduceAdd, Nat.reduceSub, Nat.reduceMul, Nat.reduceLT, Nat.reduceLeDiff, Nat.reduceEqDiff, Nat.reduceBEq, Nat.reduceGT, Int.reduceEq, Int.reduceNe, Int.reduceLT, Int.reduceLE, Int.reduceToNat, Int.reduceNeg, Int.reduceBEq, Int.reduceAdd, Int.reduceSub, Int.reduceGT, Int.reduceGE, Int.reduceBNe, vlV, vlC, thsV_nil]

/-- What a term's node is. -/
def nodeV (k' i' j' n' : Int) (l : List Tm) (a : Nat) : Vl := ⟨k', i', j', n', 0, List.range' a l.length⟩
theorem hcon_nodeA {G : List (List SV)} {m : Nat} (k' i' j' n' : Int) (l : List Tm) (hb : l.length * 56 ≤ 140737488355328) (e : List Nat) (k : Int) (y : Option Vl) (hy : ∀ q : Nat, q < l.length → (q : Int) = k → ∃ v, y = some v) :
    HCon 68 G [.gp m 0, .agg true (tv (.mk k' i' j' n' l)), envV e, .int .i64 k, optV y] (.ret (vlV (nodeV k' i' j' n' l G.length))) (G ++ nodeRows k y e 0 l) := by
  by_cases hz : l = []
  · subst hz
    have := hcon_node0 (G := G) (m := m) k' i' j' n' e k y
    simpa [nodeV, nodeRows] using this
  · exact hcon_node k' i' j' n' l hb hz e k y hy

set_option maxRecDepth 10000 in
theorem evl_node {G : List (List SV)} {m : Nat} {k i j n : Int} {l : List Tm} {e : List Nat} (hb : l.length * 56 ≤ 140737488355328) (hk : k ≠ 2) (hs : k ≠ 15 ∧ k ≠ 18 ∧ k ≠ 19 ∧ k ≠ 22) : EvL G m (.mk k i j n l) e (.ret (vlV (nodeV k i j n l G.length))) (G ++ nodeRows (-1) none e 0 l) := by
  refine ⟨1, vcI_step ?_⟩
  have hc := hcon_nodeA (G := G) (m := m) k i j n l hb e (-1) none (fun q _ h => by omega)
  rw [opt_none, tv_mk] at hc
  rw [tv_mk]
  simp only [go_sem, reduceIte, reduceCtorEq, Nat.reduceAdd, Nat.reduceSub, Nat.reduceMul, Nat.reduceLT, Nat.reduceLeDiff, Nat.reduceEqDiff, Nat.reduceBEq, Nat.reduceGT, Int.reduceEq, Int.reduceNe, Int.reduceLT, Int.reduceLE, Int.reduceToNat, Int.reduceNeg, Int.reduceBEq, Int.reduceAdd, Int.reduceSub, Int.reduceGT, Int.reduceGE, Int.reduceBNe, beq_no hk]
  refine callK_of (con_stuck_no hs) ?_
  simp only [go_sem, reduceIte, reduceCtorEq, Nat.reduceAdd, Nat.reduceSub, Nat.reduceMul, Nat.reduceLT, Nat.reduceLeDiff, Nat.reduceEqDiff, Nat.reduceBEq, Nat.reduceGT, Int.reduceEq, Int.reduceNe, Int.reduceLT, Int.reduceLE, Int.reduceToNat, Int.reduceNeg, Int.reduceBEq, Int.reduceAdd, Int.reduceSub, Int.reduceGT, Int.reduceGE, Int.reduceBNe]
  refine callH_of hc ?_
  simp only [go_sem, reduceIte, reduceCtorEq, Nat.reduceAdd, Nat.reduceSub, Nat.reduceMul, Nat.reduceLT, Nat.reduceLeDiff, Nat.reduceEqDiff, Nat.reduceBEq, Nat.reduceGT, Int.reduceEq, Int.reduceNe, Int.reduceLT, Int.reduceLE, Int.reduceToNat, Int.reduceNeg, Int.reduceBEq, Int.reduceAdd, Int.reduceSub, Int.reduceGT, Int.reduceGE, Int.reduceBNe]

theorem lt_of_get {α : Type} {l : List α} {i : Nat} {x : α} (h : l[i]? = some x) : i < l.length := by
  rcases Nat.lt_or_ge i l.length with h1 | h1
  · exact h1
  · rw [List.getElem?_eq_none h1] at h; cases h

theorem ths_at {l : List Nat} {q id : Nat} (h : l[q]? = some id) : thsV l = .dsl 1 (l.map fun i => [.gp i 0]) ∧ (q : Int) < l.length ∧ q < l.length ∧ (l.map fun i => [SV.gp i 0])[q]?.getD [] = [.gp id 0] := by
  have hq : q < l.length := by
    rcases Nat.lt_or_ge q l.length with h1 | h1
    · exact h1
    · rw [List.getElem?_eq_none h1] at h; cases h
  refine ⟨thsV_ne (by rintro rfl; simp at hq), by omega, hq, by simp [h]⟩
set_option maxRecDepth 10000 in
set_option maxHeartbeats 1000000 in
theorem evl_app {G G1 G' : List (List SV)} {m j id : Nat} {i' j' n' : Int} {f a : Tm} {e : List Nat} {out : HOut} {y : Vl} {th : Th} {steps most seen guess : Int} (hy : HCon 56 G [.gp m 0, .agg true (tv f), envV e] (.ret (vlV y)) G1) (yk : y.k = 14)
    (hid : y.kids[1]? = some id) (hm : G1[m]? = some (mRow steps most seen guess j)) (hf : fit guess) (hg : guess ≠ 1) (hs : steps < most) (hfs : fit (steps + 1)) (hth : (G1.set m (mRow (steps + 1) most seen (guessed guess) j))[id]? = some (thR th)) (hb : th.bare = false) (hl : fit ((th.env.length : Int) + 1))
    (h : EvL (G1.set m (mRow (steps + 1) most seen (guessed guess) j) ++ [thR ⟨a, e, false, none, none⟩]) m th.t (G1.length :: th.env) out G') : EvL G m (.mk 15 i' j' n' [f, a]) e out G' := by
  obtain ⟨n, h⟩ := h
  refine ⟨n + 1, vcI_step ?_⟩
  obtain ⟨t, te, b, w, v⟩ := th
  simp only at hb hl
  subst hb
  obtain ⟨k1, k2, k3, k4⟩ := ths_at hid
  rw [tv_mk]
  simp only [go_sem, reduceIte, reduceCtorEq, Nat.reduceAdd, Nat.reduceSub, Nat.reduceMul, Nat.reduceLT, Nat.reduceLeDiff, Nat.reduceEqDiff, Nat.reduceBEq, Nat.reduceGT, Int.reduceEq, Int.reduceNe, Int.reduceLT, Int.reduceLE, Int.reduceToNat, Int.reduceNeg, Int.reduceBEq, Int.reduceAdd, Int.reduceSub, Int.reduceGT, Int.reduceGE, Int.reduceBNe, List.map_cons, List.map_nil]
  refine callK_of (con_stuck_0 (.inl rfl)) ?_
  simp only [go_sem, reduceIte, reduceCtorEq, Nat.reduceAdd, Nat.reduceSub, Nat.reduceMul, Nat.reduceLT, Nat.reduceLeDiff, Nat.reduceEqDiff, Nat.reduceBEq, Nat.reduceGT, Int.reduceEq, Int.reduceNe, Int.reduceLT, Int.reduceLE, Int.reduceToNat, Int.reduceNeg, Int.reduceBEq, Int.reduceAdd, Int.reduceSub, Int.reduceGT, Int.reduceGE, Int.reduceBNe, List.map_cons, List.map_nil, tv_len]
  refine callH_of hy ?_
  simp only [go_sem, reduceIte, reduceCtorEq, Nat.reduceAdd, Nat.reduceSub, Nat.reduceMul, Nat.reduceLT, Nat.reduceLeDiff, Nat.reduceEqDiff, Nat.reduceBEq, Nat.reduceGT, Int.reduceEq, Int.reduceNe, Int.reduceLT, Int.reduceLE, Int.reduceToNat, Int.reduceNeg, Int.reduceBEq, Int.reduceAdd, Int.reduceSub, Int.reduceGT, Int.reduceGE, Int.reduceBNe, vlV, yk]
  refine callH_of (hcon_take hm hf hg hs hfs) ?_
  have k2' : (1 : Int) < y.kids.length := by omega
  have hlt : id < G1.length := by simpa using lt_of_get hth
  simp only [go_sem, reduceIte, reduceCtorEq, Nat.reduceAdd, Nat.reduceSub, Nat.reduceMul, Nat.reduceLT, Nat.reduceLeDiff, Nat.reduceEqDiff, Nat.reduceBEq, Nat.reduceGT, Int.reduceEq, Int.reduceNe, Int.reduceLT, Int.reduceLE, Int.reduceToNat, Int.reduceNeg, Int.reduceBEq, Int.reduceAdd, Int.reduceSub, Int.reduceGT, Int.reduceGE, Int.reduceBNe, vlV, yk, k1, k2', k3, k4, hth, hlt, List.map_cons, List.map_nil, tv_len, List.length_map]
  refine callH_of (hcon_close _ a e) ?_
  simp only [go_sem, reduceIte, reduceCtorEq, Nat.reduceAdd, Nat.reduceSub, Nat.reduceMul, Nat.reduceLT, Nat.reduceLeDiff, Nat.reduceEqDiff, Nat.reduceBEq, Nat.reduceGT, Int.reduceEq, Int.reduceNe, Int.reduceLT, Int.reduceLE, Int.reduceToNat, Int.reduceNeg, Int.reduceBEq, Int.reduceAdd, Int.reduceSub, Int.reduceGT, Int.reduceGE, Int.reduceBNe, hth, hlt]
  refine callK_of (con_push te _ hl) ?_
  simp only [go_sem, reduceIte, reduceCtorEq, Nat.reduceAdd, Nat.reduceSub, Nat.reduceMul, Nat.reduceLT, Nat.reduceLeDiff, Nat.reduceEqDiff, Nat.reduceBEq, Nat.reduceGT, Int.reduceEq, Int.reduceNe, Int.reduceLT, Int.reduceLE, Int.reduceToNat, Int.reduceNeg, Int.reduceBEq, Int.reduceAdd, Int.reduceSub, Int.reduceGT, Int.reduceGE, Int.reduceBNe]
  exact vcI_wk (wk_slots (by simp [slotsLe])) h
end Go.Proofs.YtdpigpopcbjkmaaDoor.Abs
