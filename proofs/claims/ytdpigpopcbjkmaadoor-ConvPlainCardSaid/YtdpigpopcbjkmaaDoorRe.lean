/- Reckon: weak, symbol, Head, under, variable. -/
import Derived.Test.YtdpigpopcbjkmaaDoorRd
set_option linter.unusedSimpArgs false
set_option linter.unusedVariables false
namespace Go.Proofs.YtdpigpopcbjkmaaDoor.Abs
open Go Go.RowKit Go.Proofs.YtdpigpopcbjkmaaDoor

theorem weak_known {G : List (List SV)} {m id : Nat} {th : Th} {v : Vl} (h : G[id]? = some (thR th)) (hw : th.w = some v) : HCon 40 G [.gp m 0, .gp id 0] (.ret (vlV v)) G := by
  refine hcontract_of_vc mixed Tryd.func40 tr40 ?_
  obtain ⟨t, te, b, w, x⟩ := th
  simp only at hw
  subst hw
  simp only [go_sem, reduceIte, reduceCtorEq, Nat.reduceAdd, Nat.reduceSub, Nat.reduceMul, Nat.reduceLT, Nat.reduceLeDiff, Nat.reduceEqDiff, Nat.reduceBEq, Nat.reduceGT, Int.reduceEq, Int.reduceNe, Int.reduceLT, Int.reduceLE, Int.reduceToNat, Int.reduceNeg, Int.reduceBEq, Int.reduceAdd, Int.reduceSub, Int.reduceGT, Int.reduceGE, Int.reduceBNe, h, opt_some, vlV]

theorem weak_new {G G1 : List (List SV)} {m id : Nat} {th th1 : Th} {v : Vl} (h : G[id]? = some (thR th)) (hw : th.w = none) (hb : th.bare = false) (he : HCon 56 G [.gp m 0, .agg true (tv th.t), envV th.env] (.ret (vlV v)) G1) (h1 : G1[id]? = some (thR th1)) :
    HCon 40 G [.gp m 0, .gp id 0] (.ret (vlV v)) (G1.set id (thR { th1 with w := some v })) := by
  refine hcontract_of_vc mixed Tryd.func40 tr40 ?_
  obtain ⟨t, te, b, w, x⟩ := th
  simp only at hw hb he
  subst hw hb
  simp only [go_sem, reduceIte, reduceCtorEq, Nat.reduceAdd, Nat.reduceSub, Nat.reduceMul, Nat.reduceLT, Nat.reduceLeDiff, Nat.reduceEqDiff, Nat.reduceBEq, Nat.reduceGT, Int.reduceEq, Int.reduceNe, Int.reduceLT, Int.reduceLE, Int.reduceToNat, Int.reduceNeg, Int.reduceBEq, Int.reduceAdd, Int.reduceSub, Int.reduceGT, Int.reduceGE, Int.reduceBNe, h, opt_none]
  refine callH_of he ?_
  have hlt := lt_of_get h1
  simp only [go_sem, reduceIte, reduceCtorEq, Nat.reduceAdd, Nat.reduceSub, Nat.reduceMul, Nat.reduceLT, Nat.reduceLeDiff, Nat.reduceEqDiff, Nat.reduceBEq, Nat.reduceGT, Int.reduceEq, Int.reduceNe, Int.reduceLT, Int.reduceLE, Int.reduceToNat, Int.reduceNeg, Int.reduceBEq, Int.reduceAdd, Int.reduceSub, Int.reduceGT, Int.reduceGE, Int.reduceBNe, h1, thR_s7, gset_self h1, set_set', opt_some, List.getElem?_set_self hlt]

theorem weak_pan {G G1 : List (List SV)} {m id : Nat} {th : Th} {x : SV} (h : G[id]? = some (thR th)) (hw : th.w = none) (hb : th.bare = false) (he : HCon 56 G [.gp m 0, .agg true (tv th.t), envV th.env] (.pan x) G1) :
    HCon 40 G [.gp m 0, .gp id 0] (.pan x) G1 := by
  refine hcontract_of_vc mixed Tryd.func40 tr40 ?_
  obtain ⟨t, te, b, w, y⟩ := th
  simp only at hw hb he
  subst hw hb
  simp only [go_sem, reduceIte, reduceCtorEq, Nat.reduceAdd, Nat.reduceSub, Nat.reduceMul, Nat.reduceLT, Nat.reduceLeDiff, Nat.reduceEqDiff, Nat.reduceBEq, Nat.reduceGT, Int.reduceEq, Int.reduceNe, Int.reduceLT, Int.reduceLE, Int.reduceToNat, Int.reduceNeg, Int.reduceBEq, Int.reduceAdd, Int.reduceSub, Int.reduceGT, Int.reduceGE, Int.reduceBNe, h, opt_none]
  exact callH_pan he trivial ⟨rfl, rfl⟩

/-- No defined symbol stands at a value's head. -/
inductive Neut (G : List (List SV)) : Vl → Prop
  | base {v : Vl} (h : v.k ≠ 23) (hs : v.k ≠ 15 ∧ v.k ≠ 18 ∧ v.k ≠ 19 ∧ v.k ≠ 22) : Neut G v
  | step0 {v y : Vl} {id : Nat} {th : Th} (h : v.k = 15 ∨ v.k = 18 ∨ v.k = 19) (hid : v.kids[0]? = some id) (hth : G[id]? = some (thR th)) (hw : th.w = some y) (hy : Neut G y) : Neut G v
  | step5 {v y : Vl} {id : Nat} {th : Th} (h : v.k = 22) (hid : v.kids[5]? = some id) (hth : G[id]? = some (thR th)) (hw : th.w = some y) (hy : Neut G y) : Neut G v

def SymL (G : List (List SV)) (m : Nat) (v : Vl) (out : HOut) : Prop :=
  ∃ n, vcI (CTof Tryd.prog fun x G1 => out = .pan x ∧ G1 = G) a41_24 (bk 0 (rtG [.t 4] out G)) n ⟨(.gp m 0 :: vlV v :: .junk :: .junk :: .int .i64 0 :: .junk :: .junk :: .junk :: .junk :: .junk :: .junk :: .junk :: .junk :: .junk :: .junk :: .junk :: .junk :: .junk :: .junk :: .junk :: .junk :: .junk :: .junk :: .junk :: .junk :: .junk :: .junk :: .junk :: .junk :: .junk :: .junk :: .junk :: .junk :: .junk :: .junk :: .junk :: .junk :: .junk :: .junk :: .junk :: .junk :: .junk :: .junk :: .junk :: .junk :: .junk :: .junk :: .junk :: .junk :: .junk :: .junk :: .junk :: .junk :: .junk :: .junk :: []), [gOb G]⟩

set_option maxRecDepth 10000 in
theorem symL_of {G : List (List SV)} {m : Nat} {v : Vl} (h : Neut G v) {out : HOut} (ho : out = .ret (.int .i64 0)) : SymL G m v out := by
  induction h with
  | base h hs =>
    refine ⟨1, vcI_step ?_⟩
    simp only [go_sem, reduceIte, reduceCtorEq, Nat.reduceAdd, Nat.reduceSub, Nat.reduceMul, Nat.reduceLT, Nat.reduceLeDiff, Nat.reduceEqDiff, Nat.reduceBEq, Nat.reduceGT, Int.reduceEq, Int.reduceNe, Int.reduceLT, Int.reduceLE, Int.reduceToNat, Int.reduceNeg, Int.reduceBEq, Int.reduceAdd, Int.reduceSub, Int.reduceGT, Int.reduceGE, Int.reduceBNe, vlV, beq_no h]
    refine callK_of (con_stuck_no hs) ?_
    subst ho
    simp only [go_sem, reduceIte, reduceCtorEq, Nat.reduceAdd, Nat.reduceSub, Nat.reduceMul, Nat.reduceLT, Nat.reduceLeDiff, Nat.reduceEqDiff, Nat.reduceBEq, Nat.reduceGT, Int.reduceEq, Int.reduceNe, Int.reduceLT, Int.reduceLE, Int.reduceToNat, Int.reduceNeg, Int.reduceBEq, Int.reduceAdd, Int.reduceSub, Int.reduceGT, Int.reduceGE, Int.reduceBNe]
  | @step0 v y id th h hid hth hw hy ih =>
    obtain ⟨n, ih⟩ := ih
    refine ⟨n + 1, vcI_step ?_⟩
    obtain ⟨k1, k2, k3, k4⟩ := ths_at hid
    have k2' : (0 : Int) < v.kids.length := by omega
    have h23 : v.k ≠ 23 := by omega
    obtain ⟨t, te, b, w, x⟩ := th
    simp only at hw
    subst hw
    simp only [go_sem, reduceIte, reduceCtorEq, Nat.reduceAdd, Nat.reduceSub, Nat.reduceMul, Nat.reduceLT, Nat.reduceLeDiff, Nat.reduceEqDiff, Nat.reduceBEq, Nat.reduceGT, Int.reduceEq, Int.reduceNe, Int.reduceLT, Int.reduceLE, Int.reduceToNat, Int.reduceNeg, Int.reduceBEq, Int.reduceAdd, Int.reduceSub, Int.reduceGT, Int.reduceGE, Int.reduceBNe, vlV, beq_no h23]
    refine callK_of (con_stuck_0 h) ?_
    simp only [go_sem, reduceIte, reduceCtorEq, Nat.reduceAdd, Nat.reduceSub, Nat.reduceMul, Nat.reduceLT, Nat.reduceLeDiff, Nat.reduceEqDiff, Nat.reduceBEq, Nat.reduceGT, Int.reduceEq, Int.reduceNe, Int.reduceLT, Int.reduceLE, Int.reduceToNat, Int.reduceNeg, Int.reduceBEq, Int.reduceAdd, Int.reduceSub, Int.reduceGT, Int.reduceGE, Int.reduceBNe, vlV, k1, k2', k3, k4, hth, opt_some, List.length_map]
    exact vcI_wk (wk_slots (by simp [slotsLe, vlV])) ih
  | @step5 v y id th h hid hth hw hy ih =>
    obtain ⟨n, ih⟩ := ih
    refine ⟨n + 1, vcI_step ?_⟩
    obtain ⟨k1, k2, k3, k4⟩ := ths_at hid
    have k2' : (5 : Int) < v.kids.length := by omega
    have h23 : v.k ≠ 23 := by omega
    have h5 : Con 58 [.int .i64 v.k] (.int .i64 5) := by rw [h]; exact con_stuck_5
    obtain ⟨t, te, b, w, x⟩ := th
    simp only at hw
    subst hw
    simp only [go_sem, reduceIte, reduceCtorEq, Nat.reduceAdd, Nat.reduceSub, Nat.reduceMul, Nat.reduceLT, Nat.reduceLeDiff, Nat.reduceEqDiff, Nat.reduceBEq, Nat.reduceGT, Int.reduceEq, Int.reduceNe, Int.reduceLT, Int.reduceLE, Int.reduceToNat, Int.reduceNeg, Int.reduceBEq, Int.reduceAdd, Int.reduceSub, Int.reduceGT, Int.reduceGE, Int.reduceBNe, vlV, beq_no h23]
    refine callK_of h5 ?_
    simp only [go_sem, reduceIte, reduceCtorEq, Nat.reduceAdd, Nat.reduceSub, Nat.reduceMul, Nat.reduceLT, Nat.reduceLeDiff, Nat.reduceEqDiff, Nat.reduceBEq, Nat.reduceGT, Int.reduceEq, Int.reduceNe, Int.reduceLT, Int.reduceLE, Int.reduceToNat, Int.reduceNeg, Int.reduceBEq, Int.reduceAdd, Int.reduceSub, Int.reduceGT, Int.reduceGE, Int.reduceBNe, vlV, k1, k2', k3, k4, hth, opt_some, List.length_map]
    exact vcI_wk (wk_slots (by simp [slotsLe, vlV])) ih

theorem hcon_symbol {G : List (List SV)} {m : Nat} {v : Vl} (h : Neut G v) : HCon 41 G [.gp m 0, vlV v] (.ret (.int .i64 0)) G := by
  obtain ⟨out, ho⟩ : ∃ out, out = HOut.ret (.int .i64 0) := ⟨_, rfl⟩
  rw [← ho]
  refine hcontract_of_vc mixed Tryd.func41 tr41 ?_
  obtain ⟨n, h⟩ := symL_of (m := m) h ho
  simp only [go_sem, reduceIte, reduceCtorEq, Nat.reduceAdd, Nat.reduceSub, Nat.reduceMul, Nat.reduceLT, Nat.reduceLeDiff, Nat.reduceEqDiff, Nat.reduceBEq, Nat.reduceGT, Int.reduceEq, Int.reduceNe, Int.reduceLT, Int.reduceLE, Int.reduceToNat, Int.reduceNeg, Int.reduceBEq, Int.reduceAdd, Int.reduceSub, Int.reduceGT, Int.reduceGE, Int.reduceBNe]
  exact vc_unroll n (vcI_wk (wk_slots (by simp [slotsLe])) h)

theorem head_known {G : List (List SV)} {m id : Nat} {th : Th} {v : Vl} (h : G[id]? = some (thR th)) (hv : th.v = some v) : HCon 24 G [.gp m 0, .gp id 0] (.ret (vlV v)) G := by
  refine hcontract_of_vc mixed Tryd.func24 tr24 ?_
  obtain ⟨t, te, b, w, x⟩ := th
  simp only at hv
  subst hv
  simp only [go_sem, reduceIte, reduceCtorEq, Nat.reduceAdd, Nat.reduceSub, Nat.reduceMul, Nat.reduceLT, Nat.reduceLeDiff, Nat.reduceEqDiff, Nat.reduceBEq, Nat.reduceGT, Int.reduceEq, Int.reduceNe, Int.reduceLT, Int.reduceLE, Int.reduceToNat, Int.reduceNeg, Int.reduceBEq, Int.reduceAdd, Int.reduceSub, Int.reduceGT, Int.reduceGE, Int.reduceBNe, h, opt_some, vlV]

set_option maxRecDepth 10000 in
theorem head_new {G G1 : List (List SV)} {m id : Nat} {th th1 : Th} {v : Vl} (h : G[id]? = some (thR th)) (hv : th.v = none) (he : HCon 40 G [.gp m 0, .gp id 0] (.ret (vlV v)) G1) (h1 : G1[id]? = some (thR th1)) (hn : Neut G1 v) :
    HCon 24 G [.gp m 0, .gp id 0] (.ret (vlV v)) (G1.set id (thR { th1 with v := some v })) := by
  refine hcontract_of_vc mixed Tryd.func24 tr24 ?_
  obtain ⟨t, te, b, w, y⟩ := th
  simp only at hv
  subst hv
  simp only [go_sem, reduceIte, reduceCtorEq, Nat.reduceAdd, Nat.reduceSub, Nat.reduceMul, Nat.reduceLT, Nat.reduceLeDiff, Nat.reduceEqDiff, Nat.reduceBEq, Nat.reduceGT, Int.reduceEq, Int.reduceNe, Int.reduceLT, Int.reduceLE, Int.reduceToNat, Int.reduceNeg, Int.reduceBEq, Int.reduceAdd, Int.reduceSub, Int.reduceGT, Int.reduceGE, Int.reduceBNe, h, opt_none]
  refine callH_of he ?_
  have hlt := lt_of_get h1
  simp only [go_sem, reduceIte, reduceCtorEq, Nat.reduceAdd, Nat.reduceSub, Nat.reduceMul, Nat.reduceLT, Nat.reduceLeDiff, Nat.reduceEqDiff, Nat.reduceBEq, Nat.reduceGT, Int.reduceEq, Int.reduceNe, Int.reduceLT, Int.reduceLE, Int.reduceToNat, Int.reduceNeg, Int.reduceBEq, Int.reduceAdd, Int.reduceSub, Int.reduceGT, Int.reduceGE, Int.reduceBNe]
  refine vc_unroll 1 (vcI_step ?_)
  simp only [go_sem, reduceIte, reduceCtorEq, Nat.reduceAdd, Nat.reduceSub, Nat.reduceMul, Nat.reduceLT, Nat.reduceLeDiff, Nat.reduceEqDiff, Nat.reduceBEq, Nat.reduceGT, Int.reduceEq, Int.reduceNe, Int.reduceLT, Int.reduceLE, Int.reduceToNat, Int.reduceNeg, Int.reduceBEq, Int.reduceAdd, Int.reduceSub, Int.reduceGT, Int.reduceGE, Int.reduceBNe]
  refine callH_of (hcon_symbol hn) ?_
  simp only [go_sem, reduceIte, reduceCtorEq, Nat.reduceAdd, Nat.reduceSub, Nat.reduceMul, Nat.reduceLT, Nat.reduceLeDiff, Nat.reduceEqDiff, Nat.reduceBEq, Nat.reduceGT, Int.reduceEq, Int.reduceNe, Int.reduceLT, Int.reduceLE, Int.reduceToNat, Int.reduceNeg, Int.reduceBEq, Int.reduceAdd, Int.reduceSub, Int.reduceGT, Int.reduceGE, Int.reduceBNe, h1, thR_s8, gset_self h1, set_set', opt_some, List.getElem?_set_self hlt]

theorem head_pan {G G1 : List (List SV)} {m id : Nat} {th : Th} {x : SV} (h : G[id]? = some (thR th)) (hv : th.v = none) (he : HCon 40 G [.gp m 0, .gp id 0] (.pan x) G1) :
    HCon 24 G [.gp m 0, .gp id 0] (.pan x) G1 := by
  refine hcontract_of_vc mixed Tryd.func24 tr24 ?_
  obtain ⟨t, te, b, w, y⟩ := th
  simp only at hv
  subst hv
  simp only [go_sem, reduceIte, reduceCtorEq, Nat.reduceAdd, Nat.reduceSub, Nat.reduceMul, Nat.reduceLT, Nat.reduceLeDiff, Nat.reduceEqDiff, Nat.reduceBEq, Nat.reduceGT, Int.reduceEq, Int.reduceNe, Int.reduceLT, Int.reduceLE, Int.reduceToNat, Int.reduceNeg, Int.reduceBEq, Int.reduceAdd, Int.reduceSub, Int.reduceGT, Int.reduceGE, Int.reduceBNe, h, opt_none]
  exact callH_pan he trivial ⟨rfl, rfl⟩
end Go.Proofs.YtdpigpopcbjkmaaDoor.Abs
