/- The cong laws' wakes and weights; the laws CongTypes, CongEqs as contracts. -/
import Derived.Test.YtadmdmhocglkfaaGb
set_option linter.unusedSimpArgs false
set_option linter.unusedVariables false
namespace Go.Proofs.Ytadmdmhocglkfaa.Abs
open Go Go.RowKit Go.Proofs.Ytadmdmhocglkfaa

/-- Of arguments that say more. -/
theorem Contract.args {P : Program} {f : Nat} {xs ys : List SV} {r : SV} (h : Contract P f ys r) (hl : Levs xs ys) : Contract P f xs r := by
  intro m w vs h1 h2 h3
  obtain ⟨e, g⟩ := hl.get
  refine h m w vs h1 (by omega) (fun j v x hv hx => ?_)
  obtain ⟨a, ha, hle⟩ := g j x hx
  exact hle.rep (h3 j v a hv ha)

theorem hv3_fill {x y h : Tm} : fill [.int .i64 0, .int .i64 0, .int .i64 0, .int .i64 0, .int .i64 0, .nils, .int .i64 0, .int .i64 0, .int .i64 0, .int .i64 0, .nils, .int .i64 0, .int .i64 0, .int .i64 0, .int .i64 0, .nils, .int .i64 0, .int .i64 0, .int .i64 0, .int .i64 0, .nils, .int .i64 0, .int .i64 0, .int .i64 0, .int .i64 0, .nils]
    [(11, 5, .agg true (tv x)), (16, 5, .agg true (tv y)), (21, 5, .agg true (tv h))] = .int .i64 0 :: .int .i64 0 :: .int .i64 0 :: .int .i64 0 :: .int .i64 0 :: .nils :: .int .i64 0 :: .int .i64 0 :: .int .i64 0 :: .int .i64 0 :: .nils :: (tv x ++ (tv y ++ tv h)) := by
  simp [fill, splice, cellsOf, tv_cells]
theorem fv6_fill {i j : Int} {a c b d e f : Tm} : fill [.int .i64 i, .int .i64 j, .int .i64 0, .int .i64 0, .int .i64 0, .int .i64 0, .nils, .int .i64 0, .int .i64 0, .int .i64 0, .int .i64 0, .nils, .int .i64 0, .int .i64 0, .int .i64 0, .int .i64 0, .nils, .int .i64 0, .int .i64 0, .int .i64 0, .int .i64 0, .nils, .int .i64 0, .int .i64 0, .int .i64 0, .int .i64 0, .nils, .int .i64 0, .int .i64 0, .int .i64 0, .int .i64 0, .nils]
    [(2, 5, .agg true (tv a)), (7, 5, .agg true (tv c)), (12, 5, .agg true (tv b)), (17, 5, .agg true (tv d)), (22, 5, .agg true (tv e)), (27, 5, .agg true (tv f))] = fv i j a c b d e f := by
  simp [fill, splice, cellsOf, fv, tv_cells]

def zF : FT := ⟨0, 0, zT, zT, zT, zT, zT, zT⟩
theorem ok_zF : zF.ok := ⟨by simp only [zF]; unfold fit; omega, by simp only [zF]; unfold fit; omega, tok_zT, tok_zT, tok_zT, tok_zT, tok_zT, tok_zT⟩
theorem les_zF : Les [.int .i64 0, .int .i64 0, .int .i64 0, .int .i64 0, .int .i64 0, .int .i64 0, .nils, .int .i64 0, .int .i64 0, .int .i64 0, .int .i64 0, .nils, .int .i64 0, .int .i64 0, .int .i64 0, .int .i64 0, .nils, .int .i64 0, .int .i64 0, .int .i64 0, .int .i64 0, .nils, .int .i64 0, .int .i64 0, .int .i64 0, .int .i64 0, .nils, .int .i64 0, .int .i64 0, .int .i64 0, .int .i64 0, .nils] zF.v := by
  have e : zF.v = [.int .i64 0, .int .i64 0, .int .i64 0, .int .i64 0, .int .i64 0, .int .i64 0, .dsl 5 [], .int .i64 0, .int .i64 0, .int .i64 0, .int .i64 0, .dsl 5 [], .int .i64 0, .int .i64 0, .int .i64 0, .int .i64 0, .dsl 5 [], .int .i64 0, .int .i64 0, .int .i64 0, .int .i64 0, .dsl 5 [], .int .i64 0, .int .i64 0, .int .i64 0, .int .i64 0, .dsl 5 [], .int .i64 0, .int .i64 0, .int .i64 0, .int .i64 0, .dsl 5 []] := by
    simp [zF, FT.v, fv, zT, tv_mk]
  rw [e]
  repeat' first
    | exact .nil
    | refine .cons _ _ _ _ (.nils 5) ?_
    | refine .cons _ _ _ _ (.refl _) ?_
theorem les_z3 (x y h : Tm) : Les (.int .i64 0 :: .int .i64 0 :: .int .i64 0 :: .int .i64 0 :: .int .i64 0 :: .nils :: .int .i64 0 :: .int .i64 0 :: .int .i64 0 :: .int .i64 0 :: .nils :: (tv x ++ (tv y ++ tv h))) (HT.v ⟨0, zT, zT, x, y, h⟩) := by
  have e : HT.v ⟨0, zT, zT, x, y, h⟩ = .int .i64 0 :: .int .i64 0 :: .int .i64 0 :: .int .i64 0 :: .int .i64 0 :: .dsl 5 [] :: .int .i64 0 :: .int .i64 0 :: .int .i64 0 :: .int .i64 0 :: .dsl 5 [] :: (tv x ++ (tv y ++ tv h)) := by
    simp [HT.v, hv, zT, tv_mk]
  rw [e]
  repeat' first
    | exact Les.refl _
    | refine .cons _ _ _ _ (.nils 5) ?_
    | refine .cons _ _ _ _ (.refl _) ?_

theorem con_l24s (i : Int) : Con 113 [.int .i64 i] (.agg true (tv (so i))) := by
  refine (contract_of_vc (r := .agg true [.int .i64 1, .int .i64 i, .int .i64 0, .int .i64 0, .nils]) mixed Try.func113 tr113 ?_).weaken (le_leaf _ _ _ _)
  simp only [go_sem, reduceIte, reduceCtorEq, Nat.reduceAdd, Nat.reduceSub, Nat.reduceMul, Nat.reduceLT, Nat.reduceLeDiff, Nat.reduceEqDiff, Nat.reduceBEq, Nat.reduceGT, Int.reduceEq, Int.reduceNe, Int.reduceLT, Int.reduceLE, Int.reduceToNat, Int.reduceNeg, Int.reduceBEq, Int.reduceAdd, Int.reduceSub, Int.reduceGT, Int.reduceGE, Int.reduceBNe]
theorem con_l24v (i : Int) : Con 114 [.int .i64 i] (.agg true (tv (vr i))) := by
  refine (contract_of_vc (r := .agg true [.int .i64 2, .int .i64 i, .int .i64 0, .int .i64 0, .nils]) mixed Try.func114 tr114 ?_).weaken (le_leaf _ _ _ _)
  simp only [go_sem, reduceIte, reduceCtorEq, Nat.reduceAdd, Nat.reduceSub, Nat.reduceMul, Nat.reduceLT, Nat.reduceLeDiff, Nat.reduceEqDiff, Nat.reduceBEq, Nat.reduceGT, Int.reduceEq, Int.reduceNe, Int.reduceLT, Int.reduceLE, Int.reduceToNat, Int.reduceNeg, Int.reduceBEq, Int.reduceAdd, Int.reduceSub, Int.reduceGT, Int.reduceGE, Int.reduceBNe]

theorem hv_11 {i : Int} {a b x y h : Tm} : (hv i a b x y h)[11]? = some (.int .i64 x.k) := by simp [hv, tv_cells]
theorem hv_24 {i : Int} {a b x y h : Tm} : (hv i a b x y h)[24]? = some (.int .i64 h.n) := by simp [hv, tv_cells]
theorem hv_25 {i : Int} {a b x y h : Tm} : (hv i a b x y h)[25]? = some (.dsl 5 (h.kids.map tv)) := by simp [hv, tv_cells]

def wF : FT := ⟨0, 0, so 0, so 0, so 0, so 0, vr 0, vr 1⟩
theorem ok_wF : wF.ok := ⟨by simp only [wF]; unfold fit; omega, by simp only [wF]; unfold fit; omega, tok_so (by unfold fit; omega), tok_so (by unfold fit; omega), tok_so (by unfold fit; omega), tok_so (by unfold fit; omega), tok_vr (by unfold fit; omega), tok_vr (by unfold fit; omega)⟩

set_option maxRecDepth 20000 in
set_option maxHeartbeats 2000000 in
theorem con_wakes24 : Con 52 [] (.bool true) := by
  refine contract_of_vc mixed Try.func52 tr52 ?_
  have v2 : TOk (vr 2) := tok_vr (by unfold fit; omega)
  have v3 : TOk (vr 3) := tok_vr (by unfold fit; omega)
  have v4 : TOk (vr 4) := tok_vr (by unfold fit; omega)
  have c1 := con_cFst wF ⟨0, zT, zT, vr 2, vr 3, vr 4⟩ ok_wF ⟨by show fit 0; unfold fit; omega, tok_zT, tok_zT, v2, v3, v4⟩
  have e1 : fstF wF ⟨0, zT, zT, vr 2, vr 3, vr 4⟩ = ⟨0, so 0, so 0, tpart 18 (vr 2), tpart 18 (vr 3), six 18 wF [vr 2, vr 3, vr 4]⟩ := by kernel_rfl
  rw [e1] at c1
  have c1' := Contract.args c1 (.cons _ _ _ _ (.cell _ _ (.refl _)) (.cons _ _ _ _ (.agg _ _ (les_z3 (vr 2) (vr 3) (vr 4))) .nil))
  have c2 := con_cPi wF ok_wF
  have e2 : piF wF = six 13 wF [] := by kernel_rfl
  rw [e2] at c2
  have c3 := con_cPi zF ok_zF
  have e3 : piF zF = zT := by kernel_rfl
  rw [e3] at c3
  have c3' := Contract.args c3 (.cons _ _ _ _ (.agg _ _ les_zF) .nil)
  clear c1 c3 e1 e2 e3
  have k1 : (tpart 18 (vr 2)).k = 18 := rfl
  have k2 : (six 18 wF [vr 2, vr 3, vr 4]).n = 18 := rfl
  have k3 : (six 18 wF [vr 2, vr 3, vr 4]).kids.length = 9 := rfl
  have k4 : (six 13 wF []).n = 13 := rfl
  have k5 : zT.k = 0 := rfl
  simp only [FT.v, HT.v, wF] at *
  repeat' first
    | simp (config := { maxSteps := 2000000 }) only [go_sem, reduceIte, reduceCtorEq, Nat.reduceAdd, Nat.reduceSub, Nat.reduceMul, Nat.reduceLT, Nat.reduceLeDiff, Nat.reduceEqDiff, Nat.reduceBEq, Nat.reduceGT, Int.reduceEq, Int.reduceNe, Int.reduceLT, Int.reduceLE, Int.reduceToNat, Int.reduceNeg, Int.reduceBEq, Int.reduceAdd, Int.reduceSub, Int.reduceGT, Int.reduceGE, Int.reduceBNe, hv3_fill, fv6_fill, hv_11, hv_24, hv_25, tv_0, tv_3, k1, k2, k3, k4, k5, List.length_map]
    | refine callK_of (con_l24s 0) ?_
    | refine callK_of (con_l24v 0) ?_
    | refine callK_of (con_l24v 1) ?_
    | refine callK_of (con_l24v 2) ?_
    | refine callK_of (con_l24v 3) ?_
    | refine callK_of (con_l24v 4) ?_
    | refine callK_of (c1') ?_
    | refine callK_of (c2) ?_
    | refine callK_of (c3') ?_
    | rfl

theorem con_ours24 (g : HT) : Con 54 [.agg true g.v] (.agg true g.v) := by
  refine contract_of_vc mixed Try.func54 tr54 ?_
  unfold HT.v
  simp only [go_sem, reduceIte, reduceCtorEq, Nat.reduceAdd, Nat.reduceSub, Nat.reduceMul, Nat.reduceLT, Nat.reduceLeDiff, Nat.reduceEqDiff, Nat.reduceBEq, Nat.reduceGT, Int.reduceEq, Int.reduceNe, Int.reduceLT, Int.reduceLE, Int.reduceToNat, Int.reduceNeg, Int.reduceBEq, Int.reduceAdd, Int.reduceSub, Int.reduceGT, Int.reduceGE, Int.reduceBNe]
theorem con_fam24 (f : FT) : Con 44 [.agg true f.v] (.agg true f.v) := by
  refine contract_of_vc mixed Try.func44 tr44 ?_
  unfold FT.v
  simp only [go_sem, reduceIte, reduceCtorEq, Nat.reduceAdd, Nat.reduceSub, Nat.reduceMul, Nat.reduceLT, Nat.reduceLeDiff, Nat.reduceEqDiff, Nat.reduceBEq, Nat.reduceGT, Int.reduceEq, Int.reduceNe, Int.reduceLT, Int.reduceLE, Int.reduceToNat, Int.reduceNeg, Int.reduceBEq, Int.reduceAdd, Int.reduceSub, Int.reduceGT, Int.reduceGE, Int.reduceBNe, fv6_fill]
theorem con_same24 (g : HT) (hg : g.ok) : Con 49 [.agg true g.v, .agg true g.v] (.bool true) := by
  refine contract_of_vc mixed Try.func49 tr49 ?_
  unfold HT.v
  repeat' first
    | simp (config := { maxSteps := 2000000 }) only [go_sem, reduceIte, reduceCtorEq, Nat.reduceAdd, Nat.reduceSub, Nat.reduceMul, Nat.reduceLT, Nat.reduceLeDiff, Nat.reduceEqDiff, Nat.reduceBEq, Nat.reduceGT, Int.reduceEq, Int.reduceNe, Int.reduceLT, Int.reduceLE, Int.reduceToNat, Int.reduceNeg, Int.reduceBEq, Int.reduceAdd, Int.reduceSub, Int.reduceGT, Int.reduceGE, Int.reduceBNe, BEq.rfl]
    | refine callK_of (con_same g.a hg.a) ?_
    | refine callK_of (con_same g.b hg.b) ?_
    | refine callK_of (con_same g.x hg.x) ?_
    | refine callK_of (con_same g.y hg.y) ?_
    | refine callK_of (con_same g.h hg.h) ?_
    | rfl

theorem con_heavy24n (f : FT) (hf : f.ok) : ∃ z, Con 42 [.agg true f.v, .nils] (.bool z) := by
  obtain ⟨z, hz⟩ := con_greats 120 [f.a, f.c, f.b, f.d, f.e, f.f] (by simp [hf.a, hf.c, hf.b, hf.d, hf.e, hf.f]) (by simp)
  refine ⟨z, contract_of_vc mixed Try.func42 tr42 ?_⟩
  unfold FT.v
  simp only [go_sem, reduceIte, reduceCtorEq, Nat.reduceAdd, Nat.reduceSub, Nat.reduceMul, Nat.reduceLT, Nat.reduceLeDiff, Nat.reduceEqDiff, Nat.reduceBEq, Nat.reduceGT, Int.reduceEq, Int.reduceNe, Int.reduceLT, Int.reduceLE, Int.reduceToNat, Int.reduceNeg, Int.reduceBEq, Int.reduceAdd, Int.reduceSub, Int.reduceGT, Int.reduceGE, Int.reduceBNe]
  refine callK_of hz ?_
  cases z <;> simp only [go_sem, reduceIte, reduceCtorEq, Nat.reduceAdd, Nat.reduceSub, Nat.reduceMul, Nat.reduceLT, Nat.reduceLeDiff, Nat.reduceEqDiff, Nat.reduceBEq, Nat.reduceGT, Int.reduceEq, Int.reduceNe, Int.reduceLT, Int.reduceLE, Int.reduceToNat, Int.reduceNeg, Int.reduceBEq, Int.reduceAdd, Int.reduceSub, Int.reduceGT, Int.reduceGE, Int.reduceBNe]
  refine vc_for (fun x => ⟨(.junk :: .nils :: .junk :: .junk :: .junk :: .int .i64 0 :: .junk :: .junk :: .junk :: .junk :: .junk :: .junk :: .junk :: .junk :: .junk :: .junk :: .junk :: .junk :: .junk :: .junk :: .junk :: .junk :: .junk :: .junk :: .junk :: .junk :: .junk :: .junk :: .junk :: .junk :: .junk :: .junk :: .junk :: .junk :: .junk :: .junk :: .junk :: .junk :: .junk :: .junk :: .junk :: .junk :: .junk :: .junk :: .junk :: .junk :: .junk :: .junk :: .junk :: .junk :: .junk :: .junk :: .junk :: []), []⟩) 0 (fun x hx => ?_) ?_
  · simp only [go_sem, reduceIte, reduceCtorEq, Nat.reduceAdd, Nat.reduceSub, Nat.reduceMul, Nat.reduceLT, Nat.reduceLeDiff, Nat.reduceEqDiff, Nat.reduceBEq, Nat.reduceGT, Int.reduceEq, Int.reduceNe, Int.reduceLT, Int.reduceLE, Int.reduceToNat, Int.reduceNeg, Int.reduceBEq, Int.reduceAdd, Int.reduceSub, Int.reduceGT, Int.reduceGE, Int.reduceBNe]
  · exact wk_trunc 0 (by simp [slotsLe]) rfl (by simp [below]) (by simp)

theorem any_at {α : Type} {l : List α} {f : α → Bool} {d : α} {x : Nat} (h : x < l.length) (hf : f (l[x]?.getD d) = true) : l.any f = true := by
  rw [List.any_eq_true]
  exact ⟨_, get_lt h, hf⟩
theorem any_none {α : Type} {l : List α} {f : α → Bool} {d : α} (h : ∀ j, j < l.length → f (l[j]?.getD d) = false) : l.any f = false := by
  rw [List.any_eq_false]
  intro y hy
  obtain ⟨i, hi, rfl⟩ := List.getElem_of_mem hy
  have := h i hi
  rw [List.getElem?_eq_getElem hi, Option.getD_some] at this
  simp [this]

set_option maxHeartbeats 1000000 in
theorem con_heavy24 (f : FT) (hf : f.ok) (l : List HT) (hl : ∀ g ∈ l, g.ok) (hn : l.length ≤ 1000) : ∃ z, Con 42 [.agg true f.v, .dsl 26 (l.map HT.v)] (.bool z) := by
  obtain ⟨z, hz⟩ := con_greats 120 [f.a, f.c, f.b, f.d, f.e, f.f] (by simp [hf.a, hf.c, hf.b, hf.d, hf.e, hf.f]) (by simp)
  have H : ∀ g : HT, ∃ z, g.ok → Con 43 [.dsl 5 ([g.a, g.b, g.x, g.y, g.h].map tv), .int .i64 120] (.bool z) := fun g => by
    by_cases hg : g.ok
    · obtain ⟨z, hz⟩ := con_greats 120 [g.a, g.b, g.x, g.y, g.h] (by simp [hg.a, hg.b, hg.x, hg.y, hg.h]) (by simp)
      exact ⟨z, fun _ => hz⟩
    · exact ⟨false, fun h => absurd h hg⟩
  obtain ⟨Z, hZ⟩ : ∃ Z : HT → Bool, ∀ g, g.ok → Con 43 [.dsl 5 ([g.a, g.b, g.x, g.y, g.h].map tv), .int .i64 120] (.bool (Z g)) := ⟨fun g => Classical.choose (H g), fun g => Classical.choose_spec (H g)⟩
  have hrow : ∀ x, x < l.length → (l.map HT.v)[x]?.getD [] = HT.v (l[x]?.getD zH) := fun x hx => by
    rw [List.getElem?_map, List.getElem?_eq_getElem hx]; rfl
  have hlen : (l.map HT.v).length = l.length := by simp
  generalize l.map HT.v = rows at *
  refine ⟨z || l.any Z, contract_of_vc mixed Try.func42 tr42 ?_⟩
  unfold FT.v
  simp only [go_sem, reduceIte, reduceCtorEq, Nat.reduceAdd, Nat.reduceSub, Nat.reduceMul, Nat.reduceLT, Nat.reduceLeDiff, Nat.reduceEqDiff, Nat.reduceBEq, Nat.reduceGT, Int.reduceEq, Int.reduceNe, Int.reduceLT, Int.reduceLE, Int.reduceToNat, Int.reduceNeg, Int.reduceBEq, Int.reduceAdd, Int.reduceSub, Int.reduceGT, Int.reduceGE, Int.reduceBNe]
  refine callK_of hz ?_
  cases z <;> simp only [go_sem, reduceIte, reduceCtorEq, Nat.reduceAdd, Nat.reduceSub, Nat.reduceMul, Nat.reduceLT, Nat.reduceLeDiff, Nat.reduceEqDiff, Nat.reduceBEq, Nat.reduceGT, Int.reduceEq, Int.reduceNe, Int.reduceLT, Int.reduceLE, Int.reduceToNat, Int.reduceNeg, Int.reduceBEq, Int.reduceAdd, Int.reduceSub, Int.reduceGT, Int.reduceGE, Int.reduceBNe]
  refine vc_forp (fun x => ⟨(.junk :: .dsl 26 rows :: .junk :: .junk :: .junk :: .int .i64 x :: .junk :: .junk :: .junk :: .junk :: .junk :: .junk :: .junk :: .junk :: .junk :: .junk :: .junk :: .junk :: .junk :: .junk :: .junk :: .junk :: .junk :: .junk :: .junk :: .junk :: .junk :: .junk :: .junk :: .junk :: .junk :: .junk :: .junk :: .junk :: .junk :: .junk :: .junk :: .junk :: .junk :: .junk :: .junk :: .junk :: .junk :: .junk :: .junk :: .junk :: .junk :: .junk :: .junk :: .junk :: .junk :: .junk :: .junk :: []), []⟩) rows.length (fun x => Z (l[x]?.getD zH) = false) (fun x hx hp => ?_) ?_
  · simp only [go_sem, reduceIte, reduceCtorEq, Nat.reduceAdd, Nat.reduceSub, Nat.reduceMul, Nat.reduceLT, Nat.reduceLeDiff, Nat.reduceEqDiff, Nat.reduceBEq, Nat.reduceGT, Int.reduceEq, Int.reduceNe, Int.reduceLT, Int.reduceLE, Int.reduceToNat, Int.reduceNeg, Int.reduceBEq, Int.reduceAdd, Int.reduceSub, Int.reduceGT, Int.reduceGE, Int.reduceBNe]
    intro _
    refine ⟨fun h => ?_, fun h => ?_⟩
    · have hlt := of_decide_eq_true h
      have hlt' : x < rows.length := by omega
      have hlx : x < l.length := by omega
      have e0 : (0 : Int) ≤ (x : Int) := by omega
      have hr := hrow x hlx
      have hg := hl _ (get_lt (d := zH) hlx)
      have c := hZ _ hg
      obtain ⟨g, hge⟩ : ∃ g, l[x]?.getD zH = g := ⟨_, rfl⟩
      rw [hge] at hr hg c ⊢
      unfold HT.v at hr
      simp only [go_sem, reduceIte, reduceCtorEq, Nat.reduceAdd, Nat.reduceSub, Nat.reduceMul, Nat.reduceLT, Nat.reduceLeDiff, Nat.reduceEqDiff, Nat.reduceBEq, Nat.reduceGT, Int.reduceEq, Int.reduceNe, Int.reduceLT, Int.reduceLE, Int.reduceToNat, Int.reduceNeg, Int.reduceBEq, Int.reduceAdd, Int.reduceSub, Int.reduceGT, Int.reduceGE, Int.reduceBNe, hlt, e0, hr]
      refine callK_of c ?_
      cases hzg : Z g <;> simp only [go_sem, reduceIte, reduceCtorEq, Nat.reduceAdd, Nat.reduceSub, Nat.reduceMul, Nat.reduceLT, Nat.reduceLeDiff, Nat.reduceEqDiff, Nat.reduceBEq, Nat.reduceGT, Int.reduceEq, Int.reduceNe, Int.reduceLT, Int.reduceLE, Int.reduceToNat, Int.reduceNeg, Int.reduceBEq, Int.reduceAdd, Int.reduceSub, Int.reduceGT, Int.reduceGE, Int.reduceBNe]
      · refine ⟨hlt', ?_⟩
        rw [w64 (n := (x : Int) + 1) (by unfold fit; omega)]
        exact wk_trunc 0 (by simp [slotsLe]) rfl (by simp [below]) (by simp)
      · rw [any_at (d := zH) hlx (by rw [hge]; exact hzg)]
    · have hge := of_decide_eq_false h
      have hxe : x = l.length := by omega
      simp only [go_sem, reduceIte, reduceCtorEq, Nat.reduceAdd, Nat.reduceSub, Nat.reduceMul, Nat.reduceLT, Nat.reduceLeDiff, Nat.reduceEqDiff, Nat.reduceBEq, Nat.reduceGT, Int.reduceEq, Int.reduceNe, Int.reduceLT, Int.reduceLE, Int.reduceToNat, Int.reduceNeg, Int.reduceBEq, Int.reduceAdd, Int.reduceSub, Int.reduceGT, Int.reduceGE, Int.reduceBNe, h]
      rw [any_none (d := zH) (fun j hj => hp j (by omega))]
  · exact wk_trunc 0 (by simp [slotsLe]) rfl (by simp [below]) (by simp)
end Go.Proofs.Ytadmdmhocglkfaa.Abs
