/- All of plain terms, by the program. -/
import Derived.Test.YtkldipbhenabfaaGreatRKa
import Derived.Test.YtkldipbhenabfaaGreatRIe
set_option linter.unusedSimpArgs false
set_option linter.unusedVariables false
namespace Go.Proofs.YtkldipbhenabfaaGreat.Abs
open Go Go.RowKit Go.Proofs.YtkldipbhenabfaaGreat

theorem pm_ge {F : Nat → Int} {y : Nat} : ∀ {x : Nat}, y < x → F y ≤ pm F x := by
  intro x
  induction x with
  | zero => intro h; omega
  | succ x ih =>
    intro h
    rw [pm]
    rcases Nat.lt_succ_iff_lt_or_eq.1 h with h1 | rfl
    · have := ih h1; omega
    · omega
theorem free_kid {k i j n : Int} {l : List Tm} (hk : k ≠ 2) {x : Nat} (hx : x < l.length) : freeR (l[x]?.getD default) - bindsN k (x : Nat) ≤ freeR (.mk k i j n l) := by
  rw [freeR_mk hk]
  exact pm_ge (F := fun y => freeR (l[y]?.getD default) - bindsN k ((y : Nat) : Int)) hx
theorem tv_row (l : List Tm) (x : Nat) (hx : x < l.length) : (l.map tv)[x]?.getD [] = tv (l[x]?.getD default) := by
  rw [List.getElem?_map, List.getElem?_eq_getElem hx]; rfl

def PutOk (L : List Tm) : Prop := L.length ≤ 1000 ∧ ∀ u ∈ L, TOk u ∧ plainT u = true ∧ hgtT u ≤ 1000

set_option maxRecDepth 10000 in
theorem con_walkL_var (L : List Tm) (cs : List SV) (Hat : ∀ n : Nat, n < L.length → ∀ (d : Int) (b : Bool), 0 ≤ d → Con 160 [.dref 3 cs 0, .int .i64 n, .int .i64 d, .bool b] (resR ((liftT d 0 (L[n]?.getD default)).map tv)))
    (i j n d : Int) (b : Bool) (l : List Tm) (h2 : d ≤ i) (hi : i ≤ 2147483647) (hd : 0 ≤ d) (hf : i + 1 - d ≤ L.length) :
    Con 145 [.dref 3 cs 0, .agg true (tv (.mk 2 i j n l)), .int .i64 d, .bool b] (resR ((allT L d (.mk 2 i j n l)).map tv)) := by
  have hn : (i - d).toNat < L.length := by omega
  have hc := Hat (i - d).toNat hn d b hd
  have en : (((i - d).toNat : Nat) : Int) = i - d := Int.toNat_of_nonneg (by omega)
  rw [en] at hc
  rw [allT_var ⟨rfl, h2⟩ (u := L[(i - d).toNat]?.getD default) (by rw [List.getElem?_eq_getElem hn]; rfl)]
  generalize L[(i - d).toNat]?.getD default = u at *
  have ew : IntKind.i64.wrap (i - d) = i - d := w64 (by unfold fit; omega)
  refine contract_of_vc mixed Tryz.func145 tr145 ?_
  rw [tv_mk]
  simp only [go_sem, reduceIte, reduceCtorEq, Nat.reduceAdd, Nat.reduceSub, Nat.reduceMul, Nat.reduceLT, Nat.reduceLeDiff, Nat.reduceEqDiff, Nat.reduceBEq, Nat.reduceGT, Int.reduceEq, Int.reduceNe, Int.reduceLT, Int.reduceLE, Int.reduceToNat, Int.reduceNeg, Int.reduceBEq, Int.reduceAdd, Int.reduceSub, Int.reduceGT, Int.reduceGE, Int.reduceBNe, h2, ew]
  refine callK_of hc ?_
  cases liftT d 0 u with
  | none =>
    have hz := tv_len zT
    simp only [go_sem, reduceIte, reduceCtorEq, Nat.reduceAdd, Nat.reduceSub, Nat.reduceMul, Nat.reduceLT, Nat.reduceLeDiff, Nat.reduceEqDiff, Nat.reduceBEq, Nat.reduceGT, Int.reduceEq, Int.reduceNe, Int.reduceLT, Int.reduceLE, Int.reduceToNat, Int.reduceNeg, Int.reduceBEq, Int.reduceAdd, Int.reduceSub, Int.reduceGT, Int.reduceGE, Int.reduceBNe, resR, Option.map_none, hz]
  | some v =>
    have hz := tv_len v
    simp only [go_sem, reduceIte, reduceCtorEq, Nat.reduceAdd, Nat.reduceSub, Nat.reduceMul, Nat.reduceLT, Nat.reduceLeDiff, Nat.reduceEqDiff, Nat.reduceBEq, Nat.reduceGT, Int.reduceEq, Int.reduceNe, Int.reduceLT, Int.reduceLE, Int.reduceToNat, Int.reduceNeg, Int.reduceBEq, Int.reduceAdd, Int.reduceSub, Int.reduceGT, Int.reduceGE, Int.reduceBNe, resR, Option.map_some, hz]
theorem con_walkL (L : List Tm) (cs : List SV) (Hat : ∀ n : Nat, n < L.length → ∀ (d : Int) (b : Bool), 0 ≤ d → Con 160 [.dref 3 cs 0, .int .i64 n, .int .i64 d, .bool b] (resR ((liftT d 0 (L[n]?.getD default)).map tv)))
    (t : Tm) : TOk t → ∀ (w d : Int) (b : Bool), rightT t w = true → 0 ≤ d → d + 2 * hgtT t ≤ 1000000000000 → freeR t - d ≤ L.length →
    Con 145 [.dref 3 cs 0, .agg true (tv t), .int .i64 d, .bool b] (resR ((allT L d t).map tv)) := by
  induction t using Tm.ind with
  | h kk i j n l ih =>
    intro hok w d b hr hd hb2 hf
    obtain ⟨f1, f2, f3, f4, hb, hl⟩ := tok_of hok
    rw [hgtT_mk] at hb2
    by_cases hv : kk = 2 ∧ d ≤ i
    · obtain ⟨rfl, hv2⟩ := hv
      rw [freeR, if_pos rfl] at hf
      exact con_walkL_var L cs Hat i j n d b l hv2 (right_var hr rfl).2 hd hf
    · have hlen : (l.map tv).length = l.length := by simp
      have h := con_walkL_rows cs kk i j n d b (l.map tv) (fun p r => onT (fun t => (allT L (d + bindsN kk (p : Nat)) t).map tv) none r) (by omega) (rows5 l) hv hd (by omega)
        (fun p r hr u hu => by
          obtain ⟨t, ht, rfl⟩ := List.mem_map.1 hr
          simp only [onT_tv] at hu
          cases he : allT L (d + bindsN kk (p : Nat)) t with
          | none => rw [he] at hu; cases hu
          | some v => rw [he] at hu; cases hu; exact tv_len v)
        (fun p hp b' => by
          rw [hlen] at hp
          rw [tv_row l p hp, onT_tv]
          have ht := get_lt (d := default) hp
          obtain ⟨w', hw⟩ := right_kid hr ht
          have hm := hgt_mem ht
          have hbl := binds_le kk p
          by_cases hk2 : kk = 2
          · subst hk2
            have := var_kids hr
            subst this
            simp at hp
          · have hfk := free_kid (i := i) (j := j) (n := n) hk2 hp
            exact ih _ ht (hl _ ht) w' _ b' hw (by omega) (by omega) (by omega))
      rw [allT_v hv, ← tv_mk] at h
      exact h

set_option maxRecDepth 20000 in
set_option maxHeartbeats 8000000 in
theorem con_putL (t : Tm) (L : List Tm) (ht : TOk t) (hpt : plainT t = true) (ht2 : hgtT t ≤ 100000) (hL : PutOk L) (hf : freeR t ≤ L.length) :
    Con 124 [.agg true (tv t), .dsl 5 (L.map tv), .bool false] (resR ((allT L 0 t).map tv)) := by
  obtain ⟨hn, hu⟩ := hL
  have c2 := con_open t hpt
  have hz := tv_len t
  have h0 := tv_0 (t := t)
  have hlen : (L.map tv).length = L.length := by simp
  have hrow := tv_row L
  have c4n : L = [] → ∀ b, Con 145 [.dref 3 [.dsl 5 (L.map tv), .nils, .bool false] 0, .agg true (tv t), .int .i64 0, .bool b] (resR ((allT L 0 t).map tv)) := fun hL b =>
    con_walkL L _ (fun n hn' => by subst hL; simp at hn') t ht 2 0 b hpt (by omega) (by omega) (by omega)
  have c4 : ∀ b, Con 145 [.dref 3 [.dsl 5 (L.map tv), .dsl 5 (L.map tv), .bool false] 0, .agg true (tv t), .int .i64 0, .bool b] (resR ((allT L 0 t).map tv)) := fun b =>
    con_walkL L _ (fun n hn' d b hd => con_atL L (fun u hm => ⟨(hu u hm).1, plain_right (hu u hm).2.1, (hu u hm).2.2⟩) n hn' hn d b hd) t ht 2 0 b hpt (by omega) (by omega) (by omega)
  have h5 := rows5 L
  have hfin : resR ((allT L 0 t).map tv) = resR ((allT L 0 t).map tv) := rfl
  generalize hX : allT L 0 t = X at *
  obtain ⟨u0, hu0⟩ : ∃ u0, (L.map tv)[0]?.getD [] = u0 := ⟨_, rfl⟩
  refine contract_of_vc mixed Tryz.func124 tr124 ?_
  simp only [go_sem, reduceIte, reduceCtorEq, Nat.reduceAdd, Nat.reduceSub, Nat.reduceMul, Nat.reduceLT, Nat.reduceLeDiff, Nat.reduceEqDiff, Nat.reduceBEq, Nat.reduceGT, Int.reduceEq, Int.reduceNe, Int.reduceLT, Int.reduceLE, Int.reduceToNat, Int.reduceNeg, Int.reduceBEq, Int.reduceAdd, Int.reduceSub, Int.reduceGT, Int.reduceGE, Int.reduceBNe, hz]
  intros
  refine vc_for (fun x => if x = 0 then ⟨(.junk :: .dsl 5 (L.map tv) :: .bool false :: .ref 0 0 0 0 :: .junk :: .junk :: .ref 1 0 0 0 :: .junk :: .ref 2 0 0 0 :: .junk :: .junk :: .junk :: .junk :: .junk :: .junk :: .dsl 5 (L.map tv) :: .int .i64 (L.map tv).length :: .int .i64 0 :: .junk :: .junk :: .junk :: .junk :: .junk :: .junk :: .junk :: .junk :: .junk :: .junk :: .junk :: .junk :: .junk :: .junk :: .junk :: .junk :: .junk :: .junk :: .junk :: .junk :: .junk :: .junk :: .junk :: .junk :: .junk :: .junk :: .junk :: .junk :: .junk :: .junk :: .junk :: .junk :: .junk :: .junk :: .junk :: .junk :: .junk :: .junk :: []),
      [⟨true, 5, [tv t], 0, 0, true⟩, ⟨true, 5, [[.int .i64 0, .int .i64 0, .int .i64 0, .int .i64 0, .nils]], 0, 0, true⟩, ⟨true, 3, [[.dsl 5 (L.map tv), .nils, .bool false]], 0, 0, true⟩]⟩
    else ⟨(.junk :: .dsl 5 (L.map tv) :: .bool false :: .ref 0 0 0 0 :: .junk :: .junk :: .ref 1 0 0 0 :: .junk :: .ref 2 0 0 0 :: .junk :: .junk :: .junk :: .junk :: .junk :: .junk :: .dsl 5 (L.map tv) :: .int .i64 (L.map tv).length :: .int .i64 x :: .junk :: .junk :: .junk :: .junk :: .junk :: .junk :: .junk :: .junk :: .junk :: .junk :: .junk :: .junk :: .junk :: .junk :: .junk :: .junk :: .junk :: .junk :: .junk :: .junk :: .junk :: .junk :: .junk :: .junk :: .junk :: .junk :: .junk :: .junk :: .junk :: .junk :: .junk :: .junk :: .junk :: .junk :: .junk :: .junk :: .junk :: .junk :: []),
      [⟨true, 5, [tv t], 0, 0, true⟩, ⟨true, 5, [[.int .i64 0, .int .i64 0, .int .i64 0, .int .i64 0, .nils]], 0, 0, true⟩, ⟨true, 3, [[.dsl 5 (L.map tv), .osl 5 (x - 1) 0 x, .bool false]], 0, 0, false⟩,
       ⟨true, 5, [u0], 0, 0, true⟩, ⟨false, 5, [[.int .i64 0, .int .i64 0, .int .i64 0, .int .i64 0, .nils]], 0, 0, true⟩, ⟨false, 5, (L.map tv).take x, x - 1, x - 1, true⟩]⟩) L.length (fun x hx => ?_) ?_
  · by_cases hx0 : x = 0
    · subst hx0
      rw [if_pos rfl]
      by_cases hLe : L = []
      · have hl0 : (L.map tv).length = 0 := by rw [hLe]; rfl
        have c4' := c4n hLe
        simp only [go_sem, reduceIte, reduceCtorEq, Nat.reduceAdd, Nat.reduceSub, Nat.reduceMul, Nat.reduceLT, Nat.reduceLeDiff, Nat.reduceEqDiff, Nat.reduceBEq, Nat.reduceGT, Int.reduceEq, Int.reduceNe, Int.reduceLT, Int.reduceLE, Int.reduceToNat, Int.reduceNeg, Int.reduceBEq, Int.reduceAdd, Int.reduceSub, Int.reduceGT, Int.reduceGE, Int.reduceBNe, hl0, h0]
        refine callK_of (c4' _) ?_
        cases X with
        | none =>
          have hzz := tv_len zT
          simp only [go_sem, reduceIte, reduceCtorEq, Nat.reduceAdd, Nat.reduceSub, Nat.reduceMul, Nat.reduceLT, Nat.reduceLeDiff, Nat.reduceEqDiff, Nat.reduceBEq, Nat.reduceGT, Int.reduceEq, Int.reduceNe, Int.reduceLT, Int.reduceLE, Int.reduceToNat, Int.reduceNeg, Int.reduceBEq, Int.reduceAdd, Int.reduceSub, Int.reduceGT, Int.reduceGE, Int.reduceBNe, resR, Option.map_none, hzz]
        | some v =>
          have hzz := tv_len v
          simp only [go_sem, reduceIte, reduceCtorEq, Nat.reduceAdd, Nat.reduceSub, Nat.reduceMul, Nat.reduceLT, Nat.reduceLeDiff, Nat.reduceEqDiff, Nat.reduceBEq, Nat.reduceGT, Int.reduceEq, Int.reduceNe, Int.reduceLT, Int.reduceLE, Int.reduceToNat, Int.reduceNeg, Int.reduceBEq, Int.reduceAdd, Int.reduceSub, Int.reduceGT, Int.reduceGE, Int.reduceBNe, resR, Option.map_some, hzz]
      · have hpos : 0 < L.length := List.length_pos_iff.2 hLe
        obtain ⟨o1, o2, o3⟩ := hu _ (get_lt (d := default) hpos)
        have c1 := con_rightq _ o1
        rw [right_weak o2] at c1
        have c3 := con_strip _ o1 o2
        have hr := hrow 0 hpos
        rw [hu0] at hr
        have hz2 := tv_len (L[0]?.getD default)
        have h0u := tv_0 (t := L[0]?.getD default)
        have tk : (L.map tv).take 1 = [u0] := by
          rw [← hu0]
          cases L with
          | nil => exact absurd rfl hLe
          | cons a L => rfl
        have hlt : (0 : Int) < ((L.map tv).length : Int) := by omega
        rw [← hr] at c1 c3 hz2 h0u
        simp only [go_sem, reduceIte, reduceCtorEq, Nat.reduceAdd, Nat.reduceSub, Nat.reduceMul, Nat.reduceLT, Nat.reduceLeDiff, Nat.reduceEqDiff, Nat.reduceBEq, Nat.reduceGT, Int.reduceEq, Int.reduceNe, Int.reduceLT, Int.reduceLE, Int.reduceToNat, Int.reduceNeg, Int.reduceBEq, Int.reduceAdd, Int.reduceSub, Int.reduceGT, Int.reduceGE, Int.reduceBNe, hz, hlt, hu0, hz2]
        refine callK_of c1 ?_
        simp only [go_sem, reduceIte, reduceCtorEq, Nat.reduceAdd, Nat.reduceSub, Nat.reduceMul, Nat.reduceLT, Nat.reduceLeDiff, Nat.reduceEqDiff, Nat.reduceBEq, Nat.reduceGT, Int.reduceEq, Int.reduceNe, Int.reduceLT, Int.reduceLE, Int.reduceToNat, Int.reduceNeg, Int.reduceBEq, Int.reduceAdd, Int.reduceSub, Int.reduceGT, Int.reduceGE, Int.reduceBNe, hz, hz2, h0, h0u]
        refine callK_of c2 ?_
        simp only [go_sem, reduceIte, reduceCtorEq, Nat.reduceAdd, Nat.reduceSub, Nat.reduceMul, Nat.reduceLT, Nat.reduceLeDiff, Nat.reduceEqDiff, Nat.reduceBEq, Nat.reduceGT, Int.reduceEq, Int.reduceNe, Int.reduceLT, Int.reduceLE, Int.reduceToNat, Int.reduceNeg, Int.reduceBEq, Int.reduceAdd, Int.reduceSub, Int.reduceGT, Int.reduceGE, Int.reduceBNe, hz, hz2, h0, h0u]
        refine callK_of c3 ?_
        simp only [go_sem, reduceIte, reduceCtorEq, Nat.reduceAdd, Nat.reduceSub, Nat.reduceMul, Nat.reduceLT, Nat.reduceLeDiff, Nat.reduceEqDiff, Nat.reduceBEq, Nat.reduceGT, Int.reduceEq, Int.reduceNe, Int.reduceLT, Int.reduceLE, Int.reduceToNat, Int.reduceNeg, Int.reduceBEq, Int.reduceAdd, Int.reduceSub, Int.reduceGT, Int.reduceGE, Int.reduceBNe, hz, hz2, h0, h0u]
        refine ⟨hpos, ?_⟩
        rw [tk]
        exact wk_trunc 6 (by simp [slotsLe]) (by simp) (by simp [below]) (by simp [below])
    · rw [if_neg hx0]
      have hw : (((x - 1 : Nat) + 1 : Nat) : Int) = x := by omega
      obtain ⟨y, rfl⟩ : ∃ y, x = y + 1 := ⟨x - 1, by omega⟩
      simp only [Nat.add_sub_cancel]
      simp only [go_sem, reduceIte, reduceCtorEq, Nat.reduceAdd, Nat.reduceSub, Nat.reduceMul, Nat.reduceLT, Nat.reduceLeDiff, Nat.reduceEqDiff, Nat.reduceBEq, Nat.reduceGT, Int.reduceEq, Int.reduceNe, Int.reduceLT, Int.reduceLE, Int.reduceToNat, Int.reduceNeg, Int.reduceBEq, Int.reduceAdd, Int.reduceSub, Int.reduceGT, Int.reduceGE, Int.reduceBNe]
      refine ⟨fun h => ?_, fun h => ?_⟩
      · have hlt := of_decide_eq_true h
        have hlx : y + 1 < L.length := by omega
        obtain ⟨o1, o2, o3⟩ := hu _ (get_lt (d := default) hlx)
        have c1 := con_rightq _ o1
        rw [right_weak o2] at c1
        have c3 := con_strip _ o1 o2
        have hr := hrow (y + 1) hlx
        have hz2 := tv_len (L[y + 1]?.getD default)
        have h0u := tv_0 (t := L[y + 1]?.getD default)
        have e0 : (0 : Int) ≤ ((y + 1 : Nat) : Int) := by omega
        have tn := take_next (l := L.map tv) (d := []) (i := y + 1) (by omega)
        rw [hr] at tn
        have e1 : ((L.map tv).take (y + 1)).length = y + 1 := by simp; omega
        have e2 : (y + 1 + 1) * 56 ≤ 140737488355328 := by omega
        have e3 : y + 1 + 1 ≤ 140737488355328 := by omega
        generalize L[y + 1]?.getD default = v at *
        simp only [go_sem, reduceIte, reduceCtorEq, Nat.reduceAdd, Nat.reduceSub, Nat.reduceMul, Nat.reduceLT, Nat.reduceLeDiff, Nat.reduceEqDiff, Nat.reduceBEq, Nat.reduceGT, Int.reduceEq, Int.reduceNe, Int.reduceLT, Int.reduceLE, Int.reduceToNat, Int.reduceNeg, Int.reduceBEq, Int.reduceAdd, Int.reduceSub, Int.reduceGT, Int.reduceGE, Int.reduceBNe, hz, hlt, e0, hr, hz2]
        refine callK_of c1 ?_
        simp only [go_sem, reduceIte, reduceCtorEq, Nat.reduceAdd, Nat.reduceSub, Nat.reduceMul, Nat.reduceLT, Nat.reduceLeDiff, Nat.reduceEqDiff, Nat.reduceBEq, Nat.reduceGT, Int.reduceEq, Int.reduceNe, Int.reduceLT, Int.reduceLE, Int.reduceToNat, Int.reduceNeg, Int.reduceBEq, Int.reduceAdd, Int.reduceSub, Int.reduceGT, Int.reduceGE, Int.reduceBNe, hz, hz2, h0, h0u]
        refine callK_of c2 ?_
        simp only [go_sem, reduceIte, reduceCtorEq, Nat.reduceAdd, Nat.reduceSub, Nat.reduceMul, Nat.reduceLT, Nat.reduceLeDiff, Nat.reduceEqDiff, Nat.reduceBEq, Nat.reduceGT, Int.reduceEq, Int.reduceNe, Int.reduceLT, Int.reduceLE, Int.reduceToNat, Int.reduceNeg, Int.reduceBEq, Int.reduceAdd, Int.reduceSub, Int.reduceGT, Int.reduceGE, Int.reduceBNe, hz, hz2, h0, h0u]
        refine callK_of c3 ?_
        simp only [go_sem, reduceIte, reduceCtorEq, Nat.reduceAdd, Nat.reduceSub, Nat.reduceMul, Nat.reduceLT, Nat.reduceLeDiff, Nat.reduceEqDiff, Nat.reduceBEq, Nat.reduceGT, Int.reduceEq, Int.reduceNe, Int.reduceLT, Int.reduceLE, Int.reduceToNat, Int.reduceNeg, Int.reduceBEq, Int.reduceAdd, Int.reduceSub, Int.reduceGT, Int.reduceGE, Int.reduceBNe, hz, hz2, h0, h0u, e1, e2, e3, tn]
        have es : ((L.map tv).take (y + 1) ++ [[SV.int .i64 0, .int .i64 0, .int .i64 0, .int .i64 0, .nils]]).set (y + 1) (tv v) = (L.map tv).take (y + 1 + 1) := by
          rw [List.set_append_right _ _ (by omega), e1, Nat.sub_self, List.set_cons_zero, tn]
        refine ⟨⟨e0, by omega⟩, by omega, hlx, ?_⟩
        rw [es, w64 (n := ((y + 1 : Nat) : Int) + 1) (by unfold fit; omega)]
        simp only [Nat.add_sub_cancel]
        exact wk_trunc 6 (by simp [slotsLe]) (by simp) (by simp [below]) (by simp [below])
      · have hge := of_decide_eq_false h
        have hxe : y + 1 = L.length := by omega
        have ht' : (L.map tv).take (y + 1) = L.map tv := by rw [hxe, ← hlen, List.take_length]
        simp only [go_sem, reduceIte, reduceCtorEq, Nat.reduceAdd, Nat.reduceSub, Nat.reduceMul, Nat.reduceLT, Nat.reduceLeDiff, Nat.reduceEqDiff, Nat.reduceBEq, Nat.reduceGT, Int.reduceEq, Int.reduceNe, Int.reduceLT, Int.reduceLE, Int.reduceToNat, Int.reduceNeg, Int.reduceBEq, Int.reduceAdd, Int.reduceSub, Int.reduceGT, Int.reduceGE, Int.reduceBNe, ht', h0]
        refine callK_of (c4 _) ?_
        cases X with
        | none =>
          have hzz := tv_len zT
          simp only [go_sem, reduceIte, reduceCtorEq, Nat.reduceAdd, Nat.reduceSub, Nat.reduceMul, Nat.reduceLT, Nat.reduceLeDiff, Nat.reduceEqDiff, Nat.reduceBEq, Nat.reduceGT, Int.reduceEq, Int.reduceNe, Int.reduceLT, Int.reduceLE, Int.reduceToNat, Int.reduceNeg, Int.reduceBEq, Int.reduceAdd, Int.reduceSub, Int.reduceGT, Int.reduceGE, Int.reduceBNe, resR, Option.map_none, hzz]
        | some v =>
          have hzz := tv_len v
          simp only [go_sem, reduceIte, reduceCtorEq, Nat.reduceAdd, Nat.reduceSub, Nat.reduceMul, Nat.reduceLT, Nat.reduceLeDiff, Nat.reduceEqDiff, Nat.reduceBEq, Nat.reduceGT, Int.reduceEq, Int.reduceNe, Int.reduceLT, Int.reduceLE, Int.reduceToNat, Int.reduceNeg, Int.reduceBEq, Int.reduceAdd, Int.reduceSub, Int.reduceGT, Int.reduceGE, Int.reduceBNe, resR, Option.map_some, hzz]
  · rw [if_pos rfl]
    exact wk_slots (by simp [slotsLe])
end Go.Proofs.YtkldipbhenabfaaGreat.Abs

