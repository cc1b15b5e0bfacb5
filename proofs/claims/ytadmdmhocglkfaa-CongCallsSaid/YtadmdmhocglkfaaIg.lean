/- The law CongCalls as a contract. -/
import Derived.Test.YtadmdmhocglkfaaIf
set_option linter.unusedSimpArgs false
set_option linter.unusedVariables false
namespace Go.Proofs.Ytadmdmhocglkfaa.Abs
open Go Go.RowKit Go.Proofs.Ytadmdmhocglkfaa

theorem ok_fstF {f : FT} {s : HT} (hf : f.ok) (hs : s.ok) : (fstF f s).ok := by
  unfold fstF
  split
  · exact ⟨hf.i, hf.a, hf.c, tok_part (fit_c _ (by decide) (by decide)) hs.x, tok_part (fit_c _ (by decide) (by decide)) hs.y, tok_six (fit_c _ (by decide) (by decide)) hf (by simp) (by simp [hs.x, hs.y, hs.h])⟩
  · exact ok_zH
theorem ok_pairF {f : FT} {r s : HT} (hf : f.ok) (hr : r.ok) (hs : s.ok) : (pairF f r s).ok := by
  unfold pairF
  split
  · exact ⟨fit_mx hf.i hf.j, tok_sig hf.a hf.b, tok_sig hf.c hf.d, tok_k (fit_c _ (by decide) (by decide)) (by simp) (by simp [hf.a, hf.b, hr.x, hs.x]), tok_k (fit_c _ (by decide) (by decide)) (by simp) (by simp [hf.c, hf.d, hr.y, hs.y]), tok_six (fit_c _ (by decide) (by decide)) hf (by simp) (by simp [hr.x, hr.y, hr.h, hs.x, hs.y, hs.h])⟩
  · exact ok_zH
theorem ok_appF {f : FT} {s r : HT} (hf : f.ok) (hs : s.ok) (hr : r.ok) : (appF f s r).ok := by
  unfold appF
  split
  · rename_i h
    simp only [Bool.and_eq_true] at h
    obtain ⟨pb, pd⟩ := fam_of h.1
    obtain ⟨px, py⟩ := told_of h.2.2
    exact ⟨hf.j, tok_putF hr.x hf.b px pb, tok_putF hr.y hf.d py pd, tok_two (fit_c _ (by decide) (by decide)) hs.x hr.x, tok_two (fit_c _ (by decide) (by decide)) hs.y hr.y, tok_six (fit_c _ (by decide) (by decide)) hf (by simp) (by simp [hr.x, hr.y, hr.h, hs.x, hs.y, hs.h])⟩
  · exact ok_zH
theorem ok_sndF {f : FT} {s : HT} (hf : f.ok) (hs : s.ok) : (sndF f s).ok := by
  unfold sndF
  split
  · rename_i h
    simp only [Bool.and_eq_true] at h
    obtain ⟨pb, pd⟩ := fam_of h.1
    obtain ⟨px, py⟩ := told_of h.2
    have ox : TOk (tpart 18 s.x) := tok_part (fit_c _ (by decide) (by decide)) hs.x
    have oy : TOk (tpart 18 s.y) := tok_part (fit_c _ (by decide) (by decide)) hs.y
    exact ⟨hf.j, tok_putF ox hf.b (plain_part px) pb, tok_putF oy hf.d (plain_part py) pd, tok_part (fit_c _ (by decide) (by decide)) hs.x, tok_part (fit_c _ (by decide) (by decide)) hs.y, tok_six (fit_c _ (by decide) (by decide)) hf (by simp) (by simp [hs.x, hs.y, hs.h])⟩
  · exact ok_zH

set_option maxHeartbeats 1000000 in
theorem con_heavy24h (f : FT) (hf : f.ok) (l : List HT) (hl : ∀ g ∈ l, g.ok) (hn : l.length ≤ 1000) : ∃ z, Con 42 [.agg true f.v, .dsl 26 (l.map HT.v)] (.bool z) ∧ (z = false → f.low ∧ ∀ g ∈ l, g.lo) := by
  obtain ⟨z, hz, hh⟩ := con_greats2 120 (by decide) (by decide) [f.a, f.c, f.b, f.d, f.e, f.f] (by simp [hf.a, hf.c, hf.b, hf.d, hf.e, hf.f]) (by simp)
  have H : ∀ g : HT, ∃ z, g.ok → Con 43 [.dsl 5 ([g.a, g.b, g.x, g.y, g.h].map tv), .int .i64 120] (.bool z) ∧ (z = false → g.lo) := fun g => by
    by_cases hg : g.ok
    · obtain ⟨z, hz, hh⟩ := con_greats2 120 (by decide) (by decide) [g.a, g.b, g.x, g.y, g.h] (by simp [hg.a, hg.b, hg.x, hg.y, hg.h]) (by simp)
      refine ⟨z, fun _ => ⟨hz, fun h => ?_⟩⟩
      have h1 := hh h g.x (by simp)
      have h2 := hh h g.y (by simp)
      exact ⟨by omega, by omega⟩
    · exact ⟨false, fun h => absurd h hg⟩
  obtain ⟨Z, hZ⟩ : ∃ Z : HT → Bool, ∀ g, g.ok → Con 43 [.dsl 5 ([g.a, g.b, g.x, g.y, g.h].map tv), .int .i64 120] (.bool (Z g)) ∧ (Z g = false → g.lo) := ⟨fun g => Classical.choose (H g), fun g => Classical.choose_spec (H g)⟩
  have hrow : ∀ x, x < l.length → (l.map HT.v)[x]?.getD [] = HT.v (l[x]?.getD zH) := fun x hx => by
    rw [List.getElem?_map, List.getElem?_eq_getElem hx]; rfl
  have hlen : (l.map HT.v).length = l.length := by simp
  generalize l.map HT.v = rows at *
  refine ⟨z || l.any Z, contract_of_vc mixed Try.func42 tr42 ?_, fun h => ?_⟩
  · clear hh
    unfold FT.v
    simp only [go_sem, reduceIte, reduceCtorEq, Nat.reduceAdd, Nat.reduceSub, Nat.reduceMul, Nat.reduceLT, Nat.reduceLeDiff, Nat.reduceEqDiff, Nat.reduceBEq, Nat.reduceGT, Int.reduceEq, Int.reduceNe, Int.reduceLT, Int.reduceLE, Int.reduceToNat, Int.reduceNeg, Int.reduceBEq, Int.reduceAdd, Int.reduceSub, Int.reduceGT, Int.reduceGE, Int.reduceBNe]
    refine callK_of hz ?_
    cases z <;> simp only [go_sem, reduceIte, reduceCtorEq, Nat.reduceAdd, Nat.reduceSub, Nat.reduceMul, Nat.reduceLT, Nat.reduceLeDiff, Nat.reduceEqDiff, Nat.reduceBEq, Nat.reduceGT, Int.reduceEq, Int.reduceNe, Int.reduceLT, Int.reduceLE, Int.reduceToNat, Int.reduceNeg, Int.reduceBEq, Int.reduceAdd, Int.reduceSub, Int.reduceGT, Int.reduceGE, Int.reduceBNe]
    refine vc_forp (fun x => ⟨(.junk :: .dsl 26 rows :: .junk :: .junk :: .junk :: .int .i64 x :: .junk :: .junk :: .junk :: .junk :: .junk :: .junk :: .junk :: .junk :: .junk :: .junk :: .junk :: .junk :: .junk :: .junk :: .junk :: .junk :: .junk :: .junk :: .junk :: .junk :: .junk :: .junk :: .junk :: .junk :: .junk :: .junk :: .junk :: .junk :: .junk :: .junk :: .junk :: .junk :: .junk :: .junk :: .junk :: .junk :: .junk :: .junk :: .junk :: .junk :: .junk :: .junk :: .junk :: .junk :: .junk :: .junk :: .junk :: []), []⟩) rows.length (fun x => Z (l[x]?.getD zH) = false) (fun x hx hp => ?_) ?_
    · simp only [go_sem, reduceIte, reduceCtorEq, Nat.reduceAdd, Nat.reduceSub, Nat.reduceMul, Nat.reduceLT, Nat.reduceLeDiff, Nat.reduceEqDiff, Nat.reduceBEq, Nat.reduceGT, Int.reduceEq, Int.reduceNe, Int.reduceLT, Int.reduceLE, Int.reduceToNat, Int.reduceNeg, Int.reduceBEq, Int.reduceAdd, Int.reduceSub, Int.reduceGT, Int.reduceGE, Int.reduceBNe]
      intro _
      refine ⟨fun h => ?_, fun h => ?_⟩
      · have hlt := of_decide_eq_true h
        have hlt' : x < rows.length := by omega
        have hlx : x < l.length := by omega
        have e0 : (0 : Int) ≤ (x : Int) := by omega
        have hr := hrow x hlx
        have hg := hl _ (get_lt (d := zH) hlx)
        have c := (hZ _ hg).1
        obtain ⟨g, hge⟩ : ∃ g, l[x]?.getD zH = g := ⟨_, rfl⟩
        rw [hge] at hr hg c ⊢
        unfold HT.v at hr
        simp only [go_sem, reduceIte, reduceCtorEq, Nat.reduceAdd, Nat.reduceSub, Nat.reduceMul, Nat.reduceLT, Nat.reduceLeDiff, Nat.reduceEqDiff, Nat.reduceBEq, Nat.reduceGT, Int.reduceEq, Int.reduceNe, Int.reduceLT, Int.reduceLE, Int.reduceToNat, Int.reduceNeg, Int.reduceBEq, Int.reduceAdd, Int.reduceSub, Int.reduceGT, Int.reduceGE, Int.reduceBNe, hlt, e0, hr]
        refine callK_of c ?_
        cases hzg : Z g <;> simp only [go_sem, reduceIte, reduceCtorEq, Nat.reduceAdd, Nat.reduceSub, Nat.reduceMul, Nat.reduceLT, Nat.reduceLeDiff, Nat.reduceEqDiff, Nat.reduceBEq, Nat.reduceGT, Int.reduceEq, Int.reduceNe, Int.reduceLT, Int.reduceLE, Int.reduceToNat, Int.reduceNeg, Int.reduceBEq, Int.reduceAdd, Int.reduceSub, Int.reduceGT, Int.reduceGE, Int.reduceBNe]
        · refine ⟨hlt', ?_⟩
          rw [w64 (n := (x : Int) + 1) (by unfold fit; omega)]
          exact wk_trunc 0 (by simp [slotsLe]) rfl (by simp [below]) (by simp)
        · rw [any_at (d := zH) hlx (by rw [hge]; exact hzg)]
      · have hge := of_decide_eq_false h
        have hxe : x = l.length := by omega
        simp only [go_sem, reduceIte, reduceCtorEq, Nat.reduceAdd, Nat.reduceSub, Nat.reduceMul, Nat.reduceLT, Nat.reduceLeDiff, Nat.reduceEqDiff, Nat.reduceBEq, Nat.reduceGT, Int.reduceEq, Int.reduceNe, Int.reduceLT, Int.reduceLE, Int.reduceToNat, Int.reduceNeg, Int.reduceBEq, Int.reduceAdd, Int.reduceSub, Int.reduceGT, Int.reduceGE, Int.reduceBNe, h]
        rw [any_none (d := zH) (fun j hj => hp j (by omega))]
    · exact wk_trunc 0 (by simp [slotsLe]) rfl (by simp [below]) (by simp)
  · rw [Bool.or_eq_false_iff, List.any_eq_false] at h
    have h1 := hh h.1 f.b (by simp)
    have h2 := hh h.1 f.d (by simp)
    refine ⟨⟨by omega, by omega⟩, fun g hg => (hZ g (hl g hg)).2 ?_⟩
    have := h.2 g hg
    simpa using this

set_option maxRecDepth 20000 in
set_option maxHeartbeats 4000000 in
theorem law_CongCalls (f : FT) (a b : HT) (hf : f.ok) (ha : a.ok) (hb : b.ok) : Con 14 [.agg true f.v, .agg true a.v, .agg true b.v] (.bool true) := by
  refine contract_of_vc mixed Try.func14 tr14 ?_
  obtain ⟨z, c1, hz⟩ := con_heavy24h f hf [a, b] (by simp [ha, hb]) (by simp)
  have l0 : f.v.length = 32 := fv_len
  have l1 : a.v.length = 26 := hv_len
  have l2 : b.v.length = 26 := hv_len
  cases z
  · obtain ⟨wf, hw⟩ := hz rfl
    have wa := hw a (by simp)
    have wb := hw b (by simp)
    have c2 := con_fam24 f
    have c3 := con_ours24 a
    have c4 := con_ours24 b
    have d1 := con_cApp f a b hf ha hb wf wb
    have d2 := con_r23App f a b hf ha hb wf wb
    have d3 := con_same24 _ (ok_appF hf ha hb)
    have d4 := con_cPair f a b hf ha hb
    have d5 := con_r23Pair f a b hf ha hb
    have d6 := con_same24 _ (ok_pairF hf ha hb)
    have d7 := con_cFst f a hf ha
    have d8 := con_r23Fst f a hf ha
    have d9 := con_same24 _ (ok_fstF hf ha)
    have e7 := con_cSnd f a hf ha wf wa
    have e8 := con_r23Snd f a hf ha wf wa
    have e9 := con_same24 _ (ok_sndF hf ha)
    repeat' first
      | simp (config := { maxSteps := 2000000 }) only [go_sem, reduceIte, reduceCtorEq, Nat.reduceAdd, Nat.reduceSub, Nat.reduceMul, Nat.reduceLT, Nat.reduceLeDiff, Nat.reduceEqDiff, Nat.reduceBEq, Nat.reduceGT, Int.reduceEq, Int.reduceNe, Int.reduceLT, Int.reduceLE, Int.reduceToNat, Int.reduceNeg, Int.reduceBEq, Int.reduceAdd, Int.reduceSub, Int.reduceGT, Int.reduceGE, Int.reduceBNe, l0, l1, l2]
      | refine callK_of (c1) ?_
      | refine callK_of (c2) ?_
      | refine callK_of (c3) ?_
      | refine callK_of (c4) ?_
      | refine callK_of (d1) ?_
      | refine callK_of (d2) ?_
      | refine callK_of (d3) ?_
      | refine callK_of (d4) ?_
      | refine callK_of (d5) ?_
      | refine callK_of (d6) ?_
      | refine callK_of (d7) ?_
      | refine callK_of (d8) ?_
      | refine callK_of (d9) ?_
      | refine callK_of (e7) ?_
      | refine callK_of (e8) ?_
      | refine callK_of (e9) ?_
      | refine callK_of (con_wakes24) ?_
      | rfl
  · repeat' first
      | simp (config := { maxSteps := 2000000 }) only [go_sem, reduceIte, reduceCtorEq, Nat.reduceAdd, Nat.reduceSub, Nat.reduceMul, Nat.reduceLT, Nat.reduceLeDiff, Nat.reduceEqDiff, Nat.reduceBEq, Nat.reduceGT, Int.reduceEq, Int.reduceNe, Int.reduceLT, Int.reduceLE, Int.reduceToNat, Int.reduceNeg, Int.reduceBEq, Int.reduceAdd, Int.reduceSub, Int.reduceGT, Int.reduceGE, Int.reduceBNe, l0, l1, l2]
      | refine callK_of (c1) ?_
      | rfl
end Go.Proofs.Ytadmdmhocglkfaa.Abs
