/- Putting a term for the variable 0, as a function on terms; the program's walk comes to it; strip of a plain term. -/
import Derived.Test.YtkldipbhenabfaaGreatIa
set_option linter.unusedSimpArgs false
set_option linter.unusedVariables false
set_option linter.unusedSimpArgs false
set_option linter.unusedVariables false
namespace Go.Proofs.YtkldipbhenabfaaGreat.Abs
open Go Go.RowKit Go.Proofs.YtkldipbhenabfaaGreat

mutual
/-- u for the variable d, d more binders around it; none: a variable would be too great. -/
def putT (u : Tm) : Int → Tm → Option Tm
  | d, .mk kk i j n l =>
    if kk = 2 ∧ d ≤ i then (if i = d then liftT d 0 u else some (vr (i - 1)))
    else (putL u d kk 0 l).map (Tm.mk kk i j n)
def putL (u : Tm) : Int → Int → Nat → List Tm → Option (List Tm)
  | _, _, _, [] => some []
  | d, kk, p, t :: l => match putT u (d + bindsN kk p) t with
    | none => none
    | some v => match putL u d kk (p + 1) l with
      | none => none
      | some r => some (v :: r)
end
theorem putL_all (u : Tm) (d kk : Int) : ∀ (l : List Tm) (p : Nat), putL u d kk p l = allS (fun p t => putT u (d + bindsN kk p) t) p l := by
  intro l
  induction l with
  | nil => intro p; rw [putL]; rfl
  | cons t l ih =>
    intro p
    rw [putL, allS, ih]
    cases putT u (d + bindsN kk p) t with
    | none => rfl
    | some v => cases allS (fun p t => putT u (d + bindsN kk ((p : Nat) : Int)) t) (p + 1) l <;> rfl
theorem putT_var {u : Tm} {d kk i j n : Int} {l : List Tm} (h : kk = 2 ∧ d ≤ i) : putT u d (.mk kk i j n l) = if i = d then liftT d 0 u else some (vr (i - 1)) := by
  rw [putT, if_pos h]
theorem putT_node {u : Tm} {d kk i j n : Int} {l : List Tm} (h : ¬ (kk = 2 ∧ d ≤ i)) : putT u d (.mk kk i j n l) = (allS (fun p t => putT u (d + bindsN kk p) t) 0 l).map (Tm.mk kk i j n) := by
  rw [putT, if_neg h, putL_all]
theorem putT_v {u : Tm} {d kk i j n : Int} {l : List Tm} (h : ¬ (kk = 2 ∧ d ≤ i)) :
    ((allS (fun p r => onT (fun t => (putT u (d + bindsN kk (p : Nat)) t).map tv) none r) 0 (l.map tv)).map fun rs => [.int .i64 kk, .int .i64 i, .int .i64 j, .int .i64 n, .dsl 5 rs]) = (putT u d (.mk kk i j n l)).map tv := by
  rw [allS_map, allS_congr (Y := fun p t => (putT u (d + bindsN kk (p : Nat)) t).map tv) (fun p t _ => by rw [onT_tv]), allS_post, putT_node h]
  simp only [Option.map_map]
  congr 1
  funext rs
  simp only [Function.comp, tv_mk]

set_option maxRecDepth 10000 in
theorem con_walk_var (u : Tm) (hu : TOk u) (w : Int) (hr : rightT u w = true) (hh : (2 : Int) * hgtT u ≤ 1000000000000) (kk i j n d : Int) (b : Bool) (l : List Tm) (h1 : kk = 2) (h2 : d ≤ i) (hi : i ≤ 2147483647) (hd : 0 ≤ d) :
    Con 145 [pv u, .agg true (tv (.mk kk i j n l)), .int .i64 d, .bool b] (resR ((putT u d (.mk kk i j n l)).map tv)) := by
  rw [putT_var ⟨h1, h2⟩]
  have ew : IntKind.i64.wrap (i - d) = i - d := w64 (by unfold fit; omega)
  have q1 : (kk == 2) = true := by simp [h1]
  by_cases h : i = d
  · rw [if_pos h]
    have hc := con_at_one u hu d b hd w hr hh
    rw [show (0 : Int) = i - d by omega] at hc
    refine contract_of_vc mixed Tryz.func145 tr145 ?_
    rw [tv_mk]
    simp only [go_sem, reduceIte, reduceCtorEq, Nat.reduceAdd, Nat.reduceSub, Nat.reduceMul, Nat.reduceLT, Nat.reduceLeDiff, Nat.reduceEqDiff, Nat.reduceBEq, Nat.reduceGT, Int.reduceEq, Int.reduceNe, Int.reduceLT, Int.reduceLE, Int.reduceToNat, Int.reduceNeg, Int.reduceBEq, Int.reduceAdd, Int.reduceSub, Int.reduceGT, Int.reduceGE, Int.reduceBNe, q1, h2, ew]
    refine callK_of hc ?_
    rw [show i - d = 0 by omega]
    cases liftT d 0 u with
    | none =>
      have hz := tv_len zT
      simp only [go_sem, reduceIte, reduceCtorEq, Nat.reduceAdd, Nat.reduceSub, Nat.reduceMul, Nat.reduceLT, Nat.reduceLeDiff, Nat.reduceEqDiff, Nat.reduceBEq, Nat.reduceGT, Int.reduceEq, Int.reduceNe, Int.reduceLT, Int.reduceLE, Int.reduceToNat, Int.reduceNeg, Int.reduceBEq, Int.reduceAdd, Int.reduceSub, Int.reduceGT, Int.reduceGE, Int.reduceBNe, resR, Option.map_none, hz]
    | some v =>
      have hz := tv_len v
      simp only [go_sem, reduceIte, reduceCtorEq, Nat.reduceAdd, Nat.reduceSub, Nat.reduceMul, Nat.reduceLT, Nat.reduceLeDiff, Nat.reduceEqDiff, Nat.reduceBEq, Nat.reduceGT, Int.reduceEq, Int.reduceNe, Int.reduceLT, Int.reduceLE, Int.reduceToNat, Int.reduceNeg, Int.reduceBEq, Int.reduceAdd, Int.reduceSub, Int.reduceGT, Int.reduceGE, Int.reduceBNe, resR, Option.map_some, hz]
  · rw [if_neg h]
    have hc := con_at_hi u (i - d) d b hd (by omega) (by omega) (by omega)
    rw [show i - d - 1 + d = i - 1 by omega] at hc
    have hz := tv_len (vr (i - 1))
    refine contract_of_vc mixed Tryz.func145 tr145 ?_
    rw [tv_mk]
    simp only [go_sem, reduceIte, reduceCtorEq, Nat.reduceAdd, Nat.reduceSub, Nat.reduceMul, Nat.reduceLT, Nat.reduceLeDiff, Nat.reduceEqDiff, Nat.reduceBEq, Nat.reduceGT, Int.reduceEq, Int.reduceNe, Int.reduceLT, Int.reduceLE, Int.reduceToNat, Int.reduceNeg, Int.reduceBEq, Int.reduceAdd, Int.reduceSub, Int.reduceGT, Int.reduceGE, Int.reduceBNe, q1, h2, ew]
    refine callK_of hc ?_
    simp only [go_sem, reduceIte, reduceCtorEq, Nat.reduceAdd, Nat.reduceSub, Nat.reduceMul, Nat.reduceLT, Nat.reduceLeDiff, Nat.reduceEqDiff, Nat.reduceBEq, Nat.reduceGT, Int.reduceEq, Int.reduceNe, Int.reduceLT, Int.reduceLE, Int.reduceToNat, Int.reduceNeg, Int.reduceBEq, Int.reduceAdd, Int.reduceSub, Int.reduceGT, Int.reduceGE, Int.reduceBNe, resR, Option.map_some, hz]

theorem con_walk (u : Tm) (hu : TOk u) (wu : Int) (hru : rightT u wu = true) (hh : (2 : Int) * hgtT u ≤ 1000000000000) (t : Tm) : TOk t → ∀ (w d : Int) (b : Bool), rightT t w = true → 0 ≤ d → d + 2 * hgtT t ≤ 1000000000000 →
    Con 145 [pv u, .agg true (tv t), .int .i64 d, .bool b] (resR ((putT u d t).map tv)) := by
  induction t using Tm.ind with
  | h kk i j n l ih =>
    intro hok w d b hr hd hb2
    cases hok with
    | mk _ _ _ _ _ f1 f2 f3 f4 hb hl =>
    rw [hgtT_mk] at hb2
    by_cases hv : kk = 2 ∧ d ≤ i
    · exact con_walk_var u hu wu hru hh kk i j n d b l hv.1 hv.2 (right_var hr hv.1).2 hd
    · have h := con_walk_rows u kk i j n d b (l.map tv) (fun p r => onT (fun t => (putT u (d + bindsN kk (p : Nat)) t).map tv) none r) (by simpa using hb) (rows5 l) hv hd (by omega)
        (fun p r hr u hu => by
          obtain ⟨t, ht, rfl⟩ := List.mem_map.1 hr
          simp only [onT_tv] at hu
          cases he : putT _ (d + bindsN kk (p : Nat)) t with
          | none => rw [he] at hu; cases hu
          | some v => rw [he] at hu; cases hu; exact tv_len v)
        (fun p r hr' b' => by
          obtain ⟨t, ht, rfl⟩ := List.mem_map.1 hr'
          simp only [onT_tv]
          obtain ⟨w', hw⟩ := right_kid hr ht
          have hm := hgt_mem ht
          have hbl := binds_le kk p
          exact ih t ht (hl t ht) w' _ b' hw (by omega) (by omega))
      rw [putT_v hv, ← tv_mk] at h
      exact h

theorem plain_kind {t : Tm} (h : plainT t = true) : t.k = 1 ∨ t.k = 2 ∨ 13 ≤ t.k := by
  cases t with
  | mk k i j n l =>
  show k = 1 ∨ k = 2 ∨ 13 ≤ k
  have h' : rightT (.mk k i j n l) 2 = true := h
  rw [rightT_mk, Bool.and_eq_true] at h'
  have h1 := h'.1
  unfold rightN at h1
  rw [Bool.and_eq_true] at h1
  have h2 := h1.1
  unfold sortN at h2
  by_cases a : k = 1 ∨ k = 2
  · omega
  · rw [if_neg a] at h2
    by_cases b : k ≤ 12
    · rw [if_pos b] at h2
      exact absurd h2 (by decide)
    · omega

set_option maxRecDepth 10000 in
set_option maxHeartbeats 2000000 in
theorem con_strip1 (t : Tm) (ht : TOk t) (hp : plainT t = true) : Con 89 [.agg true (tv t)] (.agg true (tv t)) := by
  have hk := plain_kind hp
  have hc := con_copy t ht
  cases t with
  | mk k i j n l =>
  change k = 1 ∨ k = 2 ∨ 13 ≤ k at hk
  have q3 : (k == 3) = false := by simp; omega
  have q4 : (k == 4) = false := by simp; omega
  have q5 : (k == 5) = false := by simp; omega
  have q6 : (k == 6) = false := by simp; omega
  have q7 : (k == 7) = false := by simp; omega
  have q8 : (k == 8) = false := by simp; omega
  have q9 : (k == 9) = false := by simp; omega
  have q10 : (k == 10) = false := by simp; omega
  have q11 : (k == 11) = false := by simp; omega
  have q12 : (k == 12) = false := by simp; omega
  refine contract_of_vc mixed Tryz.func89 tr89 ?_
  rw [tv_mk] at hc ⊢
  simp only [go_sem, reduceIte, reduceCtorEq, Nat.reduceAdd, Nat.reduceSub, Nat.reduceMul, Nat.reduceLT, Nat.reduceLeDiff, Nat.reduceEqDiff, Nat.reduceBEq, Nat.reduceGT, Int.reduceEq, Int.reduceNe, Int.reduceLT, Int.reduceLE, Int.reduceToNat, Int.reduceNeg, Int.reduceBEq, Int.reduceAdd, Int.reduceSub, Int.reduceGT, Int.reduceGE, Int.reduceBNe, q3, q4, q5, q6, q7, q8, q9, q10, q11, q12]
  refine callK_of hc ?_
  simp only [go_sem, reduceIte, reduceCtorEq, Nat.reduceAdd, Nat.reduceSub, Nat.reduceMul, Nat.reduceLT, Nat.reduceLeDiff, Nat.reduceEqDiff, Nat.reduceBEq, Nat.reduceGT, Int.reduceEq, Int.reduceNe, Int.reduceLT, Int.reduceLE, Int.reduceToNat, Int.reduceNeg, Int.reduceBEq, Int.reduceAdd, Int.reduceSub, Int.reduceGT, Int.reduceGE, Int.reduceBNe]
theorem con_strip (t : Tm) (ht : TOk t) (hp : plainT t = true) : Con 49 [.agg true (tv t)] (.agg true (tv t)) := by
  have h1 := con_rightq t ht
  rw [right_weak hp] at h1
  have h2 := con_strip1 t ht hp
  have hz := tv_len t
  refine contract_of_vc mixed Tryz.func49 tr49 ?_
  simp only [go_sem, reduceIte, reduceCtorEq, Nat.reduceAdd, Nat.reduceSub, Nat.reduceMul, Nat.reduceLT, Nat.reduceLeDiff, Nat.reduceEqDiff, Nat.reduceBEq, Nat.reduceGT, Int.reduceEq, Int.reduceNe, Int.reduceLT, Int.reduceLE, Int.reduceToNat, Int.reduceNeg, Int.reduceBEq, Int.reduceAdd, Int.reduceSub, Int.reduceGT, Int.reduceGE, Int.reduceBNe, hz]
  refine callK_of h1 ?_
  simp only [go_sem, reduceIte, reduceCtorEq, Nat.reduceAdd, Nat.reduceSub, Nat.reduceMul, Nat.reduceLT, Nat.reduceLeDiff, Nat.reduceEqDiff, Nat.reduceBEq, Nat.reduceGT, Int.reduceEq, Int.reduceNe, Int.reduceLT, Int.reduceLE, Int.reduceToNat, Int.reduceNeg, Int.reduceBEq, Int.reduceAdd, Int.reduceSub, Int.reduceGT, Int.reduceGE, Int.reduceBNe, hz]
  refine callK_of h2 ?_
  simp only [go_sem, reduceIte, reduceCtorEq, Nat.reduceAdd, Nat.reduceSub, Nat.reduceMul, Nat.reduceLT, Nat.reduceLeDiff, Nat.reduceEqDiff, Nat.reduceBEq, Nat.reduceGT, Int.reduceEq, Int.reduceNe, Int.reduceLT, Int.reduceLE, Int.reduceToNat, Int.reduceNeg, Int.reduceBEq, Int.reduceAdd, Int.reduceSub, Int.reduceGT, Int.reduceGE, Int.reduceBNe, hz]
theorem con_open (t : Tm) (hp : plainT t = true) : Con 144 [.agg true (tv t)] (.bool true) := by
  have hk := plain_kind hp
  cases t with
  | mk k i j n l =>
  change k = 1 ∨ k = 2 ∨ 13 ≤ k at hk
  refine contract_of_vc mixed Tryz.func144 tr144 ?_
  rw [tv_mk]
  rcases hk with rfl | rfl | hk
  · simp only [go_sem, reduceIte, reduceCtorEq, Nat.reduceAdd, Nat.reduceSub, Nat.reduceMul, Nat.reduceLT, Nat.reduceLeDiff, Nat.reduceEqDiff, Nat.reduceBEq, Nat.reduceGT, Int.reduceEq, Int.reduceNe, Int.reduceLT, Int.reduceLE, Int.reduceToNat, Int.reduceNeg, Int.reduceBEq, Int.reduceAdd, Int.reduceSub, Int.reduceGT, Int.reduceGE, Int.reduceBNe]
  · simp only [go_sem, reduceIte, reduceCtorEq, Nat.reduceAdd, Nat.reduceSub, Nat.reduceMul, Nat.reduceLT, Nat.reduceLeDiff, Nat.reduceEqDiff, Nat.reduceBEq, Nat.reduceGT, Int.reduceEq, Int.reduceNe, Int.reduceLT, Int.reduceLE, Int.reduceToNat, Int.reduceNeg, Int.reduceBEq, Int.reduceAdd, Int.reduceSub, Int.reduceGT, Int.reduceGE, Int.reduceBNe]
  · have q1 : (k == 1) = false := by simp; omega
    have q2 : (k == 2) = false := by simp; omega
    simp only [go_sem, reduceIte, reduceCtorEq, Nat.reduceAdd, Nat.reduceSub, Nat.reduceMul, Nat.reduceLT, Nat.reduceLeDiff, Nat.reduceEqDiff, Nat.reduceBEq, Nat.reduceGT, Int.reduceEq, Int.reduceNe, Int.reduceLT, Int.reduceLE, Int.reduceToNat, Int.reduceNeg, Int.reduceBEq, Int.reduceAdd, Int.reduceSub, Int.reduceGT, Int.reduceGE, Int.reduceBNe, q1, q2, hk]
end Go.Proofs.YtkldipbhenabfaaGreat.Abs
