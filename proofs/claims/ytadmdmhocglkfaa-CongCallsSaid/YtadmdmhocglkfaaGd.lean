/- The laws CongTypes, CongEqs as contracts; a Fam as an argument. -/
import Derived.Test.YtadmdmhocglkfaaGc
import Derived.Test.YtadmdmhocglkfaaAfH
set_option linter.unusedSimpArgs false
set_option linter.unusedVariables false
namespace Go.Proofs.Ytadmdmhocglkfaa.Abs
open Go Go.RowKit Go.Proofs.Ytadmdmhocglkfaa

theorem fit_c (n : Int) (h1 : -1000 ≤ n) (h2 : n ≤ 1000) : fit n := by unfold fit; omega
theorem tok_piF {f : FT} (hf : f.ok) : TOk (piF f) := by
  unfold piF
  split
  · exact tok_six (fit_c _ (by decide) (by decide)) hf (by simp) (by simp)
  · exact tok_zT
theorem tok_sigF {f : FT} (hf : f.ok) : TOk (sigF f) := by
  unfold sigF
  split
  · exact tok_six (fit_c _ (by decide) (by decide)) hf (by simp) (by simp)
  · exact tok_zT
theorem ok_lamF {f : FT} {t s k : Tm} (hf : f.ok) (ht : TOk t) (hs : TOk s) (hk : TOk k) : (lamF f t s k).ok := by
  unfold lamF
  split
  · exact ⟨fit_mx hf.i hf.j, tok_pi hf.a hf.b, tok_pi hf.c hf.d, tok_lam hf.a ht, tok_lam hf.c hs, tok_six (fit_c _ (by decide) (by decide)) hf (by simp) (by simp [tok_lam hf.a ht, tok_lam hf.c hs, hk])⟩
  · exact ok_zH
theorem tok_ceqF {i : Int} {a c e : Tm} {r s : HT} (hi : fit i) (ha : TOk a) (hc : TOk c) (he : TOk e) (hr : r.ok) (hs : s.ok) : TOk (ceqF i a c e r s) := by
  unfold ceqF
  split
  · exact tok_us (fit_c _ (by decide) (by decide)) hi (fit_c _ (by decide) (by decide)) (by simp) (by simp [ha, hc, he, hr.x, hr.y, hr.h, hs.x, hs.y, hs.h])
  · exact tok_zT
theorem ok_creflF {i : Int} {a c e : Tm} {r : HT} (hi : fit i) (ha : TOk a) (hc : TOk c) (he : TOk e) (hr : r.ok) : (creflF i a c e r).ok := by
  unfold creflF
  split
  · exact ⟨hi, tok_k (fit_c _ (by decide) (by decide)) (by simp) (by simp [ha, hr.x]), tok_k (fit_c _ (by decide) (by decide)) (by simp) (by simp [hc, hr.y]), tok_k (fit_c _ (by decide) (by decide)) (by simp) (by simp [ha, hr.x]), tok_k (fit_c _ (by decide) (by decide)) (by simp) (by simp [hc, hr.y]), tok_us (fit_c _ (by decide) (by decide)) hi (fit_c _ (by decide) (by decide)) (by simp) (by simp [ha, hc, he, hr.x, hr.y, hr.h])⟩
  · exact ok_zH

set_option maxRecDepth 20000 in
set_option maxHeartbeats 4000000 in
theorem law_CongTypes (f : FT) (t u k : Tm) (hf : f.ok) (ht : TOk t) (hu : TOk u) (hk : TOk k) : Con 10 [.agg true f.v, .agg true (tv t), .agg true (tv u), .agg true (tv k)] (.bool true) := by
  refine contract_of_vc mixed Try.func10 tr10 ?_
  obtain ⟨z1, c1⟩ := con_heavy24n f hf
  obtain ⟨z2, c2⟩ := con_greats 120 [t, u, k] (by simp [ht, hu, hk]) (by simp)
  have c3 := con_fam24 f
  have d1 := con_cPi f hf
  have d2 := con_r23Pi f hf
  have d3 := con_same _ (tok_piF hf)
  have d4 := con_cSig f hf
  have d5 := con_r23Sig f hf
  have d6 := con_same _ (tok_sigF hf)
  have d7 := con_cLam f t u k hf ht hu hk
  have d8 := con_r23Lam f t u k hf ht hu hk
  have d9 := con_same24 _ (ok_lamF hf ht hu hk)
  have l1 : f.v.length = 32 := fv_len
  cases z1 <;> cases z2
  all_goals
    repeat' first
      | simp (config := { maxSteps := 2000000 }) only [go_sem, reduceIte, reduceCtorEq, Nat.reduceAdd, Nat.reduceSub, Nat.reduceMul, Nat.reduceLT, Nat.reduceLeDiff, Nat.reduceEqDiff, Nat.reduceBEq, Nat.reduceGT, Int.reduceEq, Int.reduceNe, Int.reduceLT, Int.reduceLE, Int.reduceToNat, Int.reduceNeg, Int.reduceBEq, Int.reduceAdd, Int.reduceSub, Int.reduceGT, Int.reduceGE, Int.reduceBNe, l1]
      | refine callK_of (c1) ?_
      | refine callK_of (c2) ?_
      | refine callK_of (c3) ?_
      | refine callK_of (d1) ?_
      | refine callK_of (d2) ?_
      | refine callK_of (d3) ?_
      | refine callK_of (d4) ?_
      | refine callK_of (d5) ?_
      | refine callK_of (d6) ?_
      | refine callK_of (d7) ?_
      | refine callK_of (d8) ?_
      | refine callK_of (d9) ?_
      | refine callK_of (con_wakes24) ?_
      | rfl

set_option maxRecDepth 20000 in
set_option maxHeartbeats 4000000 in
theorem law_CongEqs (i : Int) (a c e : Tm) (r q : HT) (hi : fit i) (ha : TOk a) (hc : TOk c) (he : TOk e) (hr : r.ok) (hq : q.ok) : Con 11 [.int .i64 i, .agg true (tv a), .agg true (tv c), .agg true (tv e), .agg true r.v, .agg true q.v] (.bool true) := by
  refine contract_of_vc mixed Try.func11 tr11 ?_
  obtain ⟨z1, c1⟩ := con_heavy24 zF ok_zF [r, q] (by simp [hr, hq]) (by simp)
  have c1' := Contract.args c1 (.cons _ _ _ _ (.agg _ _ les_zF) (.cons _ _ _ _ (.cell _ _ (.refl _)) .nil))
  obtain ⟨z2, c2⟩ := con_greats 120 [a, c, e] (by simp [ha, hc, he]) (by simp)
  have c3 := con_ours24 r
  have c4 := con_ours24 q
  have d1 := con_cEq i a c e r q ha hc he hr hq
  have d2 := con_r23CongEq i a c e r q ha hc he hr hq
  have d3 := con_same _ (tok_ceqF hi ha hc he hr hq)
  have d4 := con_cRefl i a c e r ha hc he hr
  have d5 := con_r23Refl i a c e r ha hc he hr
  have d6 := con_same24 _ (ok_creflF hi ha hc he hr)
  have l1 : r.v.length = 26 := hv_len
  have l2 : q.v.length = 26 := hv_len
  clear c1
  cases z1 <;> cases z2
  all_goals
    repeat' first
      | simp (config := { maxSteps := 2000000 }) only [go_sem, reduceIte, reduceCtorEq, Nat.reduceAdd, Nat.reduceSub, Nat.reduceMul, Nat.reduceLT, Nat.reduceLeDiff, Nat.reduceEqDiff, Nat.reduceBEq, Nat.reduceGT, Int.reduceEq, Int.reduceNe, Int.reduceLT, Int.reduceLE, Int.reduceToNat, Int.reduceNeg, Int.reduceBEq, Int.reduceAdd, Int.reduceSub, Int.reduceGT, Int.reduceGE, Int.reduceBNe, l1, l2]
      | refine callK_of (c1') ?_
      | refine callK_of (c2) ?_
      | refine callK_of (c3) ?_
      | refine callK_of (c4) ?_
      | refine callK_of (d1) ?_
      | refine callK_of (d2) ?_
      | refine callK_of (d3) ?_
      | refine callK_of (d4) ?_
      | refine callK_of (d5) ?_
      | refine callK_of (d6) ?_
      | refine callK_of (con_wakes24) ?_
      | rfl

theorem st_fam : structTypes Try.prog 65 = some [3, 3, 47, 47, 47, 47, 47, 47] := by kernel_rfl
theorem arg_fam {x : SV} (h : TyArg Try.prog 65 x) : ∃ g : FT, x = .agg true g.v ∧ g.ok := by
  cases h with
  | agg svs _ h2 =>
    obtain ⟨parts, hl, hp, rfl⟩ := ty_struct st_fam h2
    match parts, hl with
    | [p0, p1, p2, p3, p4, p5, p6, p7], _ =>
      obtain ⟨i, rfl, hi⟩ := ty_int u_int (hp 0 _ p0 rfl rfl)
      obtain ⟨j, rfl, hj⟩ := ty_int u_int (hp 1 _ p1 rfl rfl)
      obtain ⟨a, ha, rfl⟩ := (ty_tm tmT (hp 2 _ p2 rfl rfl)).1 rfl
      obtain ⟨c, hc, rfl⟩ := (ty_tm tmT (hp 3 _ p3 rfl rfl)).1 rfl
      obtain ⟨b, hb, rfl⟩ := (ty_tm tmT (hp 4 _ p4 rfl rfl)).1 rfl
      obtain ⟨d, hd, rfl⟩ := (ty_tm tmT (hp 5 _ p5 rfl rfl)).1 rfl
      obtain ⟨e, he, rfl⟩ := (ty_tm tmT (hp 6 _ p6 rfl rfl)).1 rfl
      obtain ⟨f, hf, rfl⟩ := (ty_tm tmT (hp 7 _ p7 rfl rfl)).1 rfl
      exact ⟨⟨i, j, a, c, b, d, e, f⟩, by simp [FT.v, fv], ⟨hi, hj, ha, hc, hb, hd, he, hf⟩⟩
  | one x h1 _ => have e : isAggT Try.prog 65 = some true := by kernel_rfl
                  rw [e] at h1; cases h1
end Go.Proofs.Ytadmdmhocglkfaa.Abs
