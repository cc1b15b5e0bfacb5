/- Lifting terms: the program and the page come to the same. -/
import Derived.Test.YtkldipbhenabfaaGreatHd
set_option linter.unusedSimpArgs false
set_option linter.unusedVariables false
set_option linter.unusedSimpArgs false
set_option linter.unusedVariables false
namespace Go.Proofs.YtkldipbhenabfaaGreat.Abs
open Go Go.RowKit Go.Proofs.YtkldipbhenabfaaGreat

theorem allI_mem {α : Type} {f : Nat → α → Bool} {x : α} : ∀ {l : List α} {p : Nat}, allI f p l = true → x ∈ l → ∃ q, f q x = true := by
  intro l
  induction l with
  | nil => intro p _ h; cases h
  | cons y l ih =>
    intro p h hx
    rw [allI, Bool.and_eq_true] at h
    rcases List.mem_cons.1 hx with rfl | hx
    · exact ⟨p, h.1⟩
    · exact ih h.2 hx
theorem right_kid {k i j n w : Int} {l : List Tm} {t : Tm} (h : rightT (.mk k i j n l) w = true) (ht : t ∈ l) : ∃ w', rightT t w' = true := by
  rw [rightT_mk, Bool.and_eq_true] at h
  obtain ⟨q, hq⟩ := allI_mem h.2 ht
  exact ⟨_, hq⟩
theorem right_var {k i j n w : Int} {l : List Tm} (h : rightT (.mk k i j n l) w = true) (hk : k = 2) : 0 ≤ i ∧ i ≤ 2147483647 := by
  rw [rightT_mk, Bool.and_eq_true] at h
  have h1 := h.1
  unfold rightN at h1
  rw [Bool.and_eq_true, Bool.and_eq_true] at h1
  have h2 := h1.2.2
  unfold numsB at h2
  rw [if_neg (by omega), if_pos hk] at h2
  simp only [Bool.and_eq_true, decide_eq_true_eq] at h2
  exact ⟨h2.1, h2.2.1⟩

theorem liftT_mk (kk i j n k fr : Int) (l : List Tm) : liftT k fr (.mk kk i j n l) = (liftI kk i k fr).bind fun i' => (allS (fun p t => liftT k (fr + bindsN kk p) t) 0 l).map (Tm.mk kk i' j n) := by
  rw [liftT, liftL_all]
  unfold liftI
  split
  · split <;> rfl
  · rfl
theorem liftT_v (kk i j n k fr : Int) (l : List Tm) : liftN kk i j n k fr (allS (fun p r => onT (fun t => (liftT k (fr + bindsN kk (p : Nat)) t).map tv) none r) 0 (l.map tv)) = (liftT k fr (.mk kk i j n l)).map tv := by
  rw [allS_map, allS_congr (Y := fun p t => (liftT k (fr + bindsN kk (p : Nat)) t).map tv) (fun p t _ => by rw [onT_tv]), allS_post, liftT_mk]
  unfold liftN
  cases liftI kk i k fr with
  | none => rfl
  | some i' =>
    simp only [Option.bind_some, Option.map_map]
    congr 1
    funext rs
    simp only [Function.comp, tv_mk]

theorem con_blift (k : Int) (hk : 0 ≤ k) (t : Tm) : TOk t → ∀ (w fr : Int), rightT t w = true → 0 ≤ fr → fr + 2 * hgtT t ≤ 1000000000000 →
    Con 33 [.agg true (tv t), .int .i64 k, .int .i64 fr] (resR ((liftT k fr t).map tv)) := by
  induction t using Tm.ind with
  | h kk i j n l ih =>
    intro hok w fr hr hf hb2
    cases hok with
    | mk _ _ _ _ _ f1 f2 f3 f4 hb hl =>
    rw [hgtT_mk] at hb2
    have h := con_blift_rows kk i j n k fr (l.map tv) (fun p r => onT (fun t => (liftT k (fr + bindsN kk (p : Nat)) t).map tv) none r) (by simpa using hb) (rows5 l) (right_var hr) hk hf (by omega)
      (fun p r hr u hu => by
        obtain ⟨t, ht, rfl⟩ := List.mem_map.1 hr
        simp only [onT_tv] at hu
        cases he : liftT k (fr + bindsN kk (p : Nat)) t with
        | none => rw [he] at hu; cases hu
        | some v => rw [he] at hu; cases hu; exact tv_len v)
      (fun p r hr' => by
        obtain ⟨t, ht, rfl⟩ := List.mem_map.1 hr'
        simp only [onT_tv]
        obtain ⟨w', hw⟩ := right_kid hr ht
        have hm := hgt_mem ht
        have hbl := binds_le kk p
        exact ih t ht (hl t ht) w' _ hw (by omega) (by omega))
    rw [liftT_v, ← tv_mk] at h
    exact h
theorem con_rlift (k : Int) (hk : 0 ≤ k) (t : Tm) : TOk t → ∀ (w fr : Int), rightT t w = true → 0 ≤ fr → fr + 2 * hgtT t ≤ 1000000000000 →
    Con 109 [.agg true (tv t), .int .i64 k, .int .i64 fr] (resR ((liftT k fr t).map tv)) := by
  induction t using Tm.ind with
  | h kk i j n l ih =>
    intro hok w fr hr hf hb2
    cases hok with
    | mk _ _ _ _ _ f1 f2 f3 f4 hb hl =>
    rw [hgtT_mk] at hb2
    have h := con_rlift_rows kk i j n k fr (l.map tv) (fun p r => onT (fun t => (liftT k (fr + bindsN kk (p : Nat)) t).map tv) none r) (by simpa using hb) (rows5 l) (right_var hr) hk hf (by omega)
      (fun p r hr u hu => by
        obtain ⟨t, ht, rfl⟩ := List.mem_map.1 hr
        simp only [onT_tv] at hu
        cases he : liftT k (fr + bindsN kk (p : Nat)) t with
        | none => rw [he] at hu; cases hu
        | some v => rw [he] at hu; cases hu; exact tv_len v)
      (fun p r hr' => by
        obtain ⟨t, ht, rfl⟩ := List.mem_map.1 hr'
        simp only [onT_tv]
        obtain ⟨w', hw⟩ := right_kid hr ht
        have hm := hgt_mem ht
        have hbl := binds_le kk p
        exact ih t ht (hl t ht) w' _ hw (by omega) (by omega))
    rw [liftT_v, ← tv_mk] at h
    exact h

/-- What is lifted is as right as what was. -/
theorem allS_len {α β : Type} {X : Nat → α → Option β} : ∀ {l : List α} {p : Nat} {r : List β}, allS X p l = some r → r.length = l.length := by
  intro l
  induction l with
  | nil => intro p r h; cases h; rfl
  | cons x l ih =>
    intro p r h
    rw [allS] at h
    split at h
    · cases h
    · split at h
      · cases h
      · rename_i hr; cases h; rw [List.length_cons, List.length_cons, ih hr]
theorem allS_allI {α β : Type} {X : Nat → α → Option β} {f : Nat → α → Bool} {g : Nat → β → Bool} : ∀ {l : List α} {p : Nat} {r : List β}, allS X p l = some r → (∀ q, ∀ x ∈ l, ∀ u, X q x = some u → f q x = true → g q u = true) → allI f p l = true → allI g p r = true := by
  intro l
  induction l with
  | nil => intro p r h _ _; cases h; rfl
  | cons x l ih =>
    intro p r h hf ha
    rw [allI, Bool.and_eq_true] at ha
    rw [allS] at h
    split at h
    · cases h
    · rename_i u hu
      split at h
      · cases h
      · rename_i r' hr
        cases h
        rw [allI, hf p x (by simp) u hu ha.1, ih hr (fun q y hy => hf q y (by simp [hy])) ha.2]
        rfl
theorem lift_right (k : Int) (hk : 0 ≤ k) (t : Tm) : ∀ w fr u, rightT t w = true → liftT k fr t = some u → rightT u w = true := by
  induction t using Tm.ind with
  | h kk i j n l ih =>
    intro w fr u hr hu
    have hv := right_var hr
    rw [liftT_mk] at hu
    rw [rightT_mk, Bool.and_eq_true] at hr
    cases hI : liftI kk i k fr with
    | none => rw [hI] at hu; cases hu
    | some i' =>
      rw [hI, Option.bind_some] at hu
      cases hA : allS (fun p t => liftT k (fr + bindsN kk p) t) 0 l with
      | none => rw [hA] at hu; cases hu
      | some us =>
        rw [hA] at hu
        cases hu
        rw [rightT_mk, allS_len hA, Bool.and_eq_true]
        refine ⟨?_, allS_allI hA (fun q x hx u hu hf => ih x hx _ _ _ hf hu) hr.2⟩
        unfold liftI at hI
        split at hI
        · rename_i hc
          split at hI
          · cases hI
          · rename_i hlt
            cases hI
            obtain ⟨h1, h2⟩ := hv hc.1
            have h3 := hr.1
            unfold rightN at h3 ⊢
            rw [Bool.and_eq_true, Bool.and_eq_true] at h3 ⊢
            refine ⟨h3.1, h3.2.1, ?_⟩
            have h4 := h3.2.2
            unfold numsB at h4 ⊢
            rw [if_neg (by omega), if_pos hc.1] at h4 ⊢
            simp only [Bool.and_eq_true, decide_eq_true_eq] at h4 ⊢
            exact ⟨by omega, by omega, h4.2.2⟩
        · cases hI
          exact hr.1
theorem allS_all {α β : Type} {X : Nat → α → Option β} {P : β → Prop} : ∀ {l : List α} {p : Nat} {r : List β}, allS X p l = some r → (∀ q, ∀ x ∈ l, ∀ u, X q x = some u → P u) → ∀ u ∈ r, P u := by
  intro l
  induction l with
  | nil => intro p r h _ u hu; cases h; cases hu
  | cons x l ih =>
    intro p r h hf v hv
    rw [allS] at h
    split at h
    · cases h
    · rename_i u hu
      split at h
      · cases h
      · rename_i r' hr
        cases h
        rcases List.mem_cons.1 hv with rfl | hv
        · exact hf p x (by simp) _ hu
        · exact ih hr (fun q y hy => hf q y (by simp [hy])) v hv
theorem lift_ok (k : Int) (hk : 0 ≤ k) (t : Tm) : TOk t → ∀ (w fr : Int) u, rightT t w = true → liftT k fr t = some u → TOk u := by
  induction t using Tm.ind with
  | h kk i j n l ih =>
    intro hok w fr u hr hu
    cases hok with
    | mk _ _ _ _ _ f1 f2 f3 f4 hb hl =>
    have hv := right_var hr
    rw [liftT_mk] at hu
    cases hI : liftI kk i k fr with
    | none => rw [hI] at hu; cases hu
    | some i' =>
      rw [hI, Option.bind_some] at hu
      cases hA : allS (fun p t => liftT k (fr + bindsN kk p) t) 0 l with
      | none => rw [hA] at hu; cases hu
      | some us =>
        rw [hA] at hu
        cases hu
        refine .mk _ _ _ _ _ f1 ?_ f3 f4 (by rw [allS_len hA]; exact hb) (allS_all hA (fun q x hx u hu => ?_))
        · unfold liftI at hI
          split at hI
          · rename_i hc
            split at hI
            · cases hI
            · rename_i hlt
              cases hI
              obtain ⟨h1, h2⟩ := hv hc.1
              unfold fit
              omega
          · cases hI
            exact f2
        · obtain ⟨w', hw⟩ := right_kid hr hx
          exact ih x hx (hl x hx) w' _ u hw hu
theorem right_weak {t : Tm} (h : rightT t 2 = true) : rightT t 0 = true := by
  cases t with
  | mk k i j n l =>
  rw [rightT_mk, Bool.and_eq_true] at h ⊢
  refine ⟨?_, h.2⟩
  have h1 := h.1
  unfold rightN at h1 ⊢
  rw [Bool.and_eq_true] at h1 ⊢
  exact ⟨rfl, h1.2⟩
theorem right_k0 {t : Tm} {w : Int} (h : rightT t w = true) : t.k ≠ 0 := by
  cases t with
  | mk k i j n l =>
  intro hk
  change k = 0 at hk
  subst hk
  rw [rightT_mk, Bool.and_eq_true] at h
  have h1 := h.1
  unfold rightN at h1
  rw [Bool.and_eq_true, Bool.and_eq_true] at h1
  have h2 := h1.2.1
  have hk : kidsN 0 n = -1 := by
    unfold kidsN
    rw [if_neg (by omega)]
    rfl
  rw [hk] at h2
  simp only [Bool.not_eq_true', bne_eq_false_iff_eq] at h2
  omega

theorem con_rmarkedE (t : Tm) : TOk t → ∃ z, Con 21 [.agg true (tv t)] (.bool z) := by
  induction t using Tm.ind with
  | h k i j n l ih =>
    intro hok
    cases hok with
    | mk _ _ _ _ _ f1 f2 f3 f4 hb hl =>
    have h := con_rmarked_rows k i j n (l.map tv) (fun p r => onT (fun t => if ((k == 12) && ((p : Int) == 2)) = true then plainT t else Classical.epsilon (fun z => Con 21 [.agg true (tv t)] (.bool z))) false r) (by simpa using hb) (rows5 l)
      (fun p r hr hc => by
        obtain ⟨t, ht, rfl⟩ := List.mem_map.1 hr
        simp only [onT_tv]
        rw [if_pos hc]
        exact con_rplain t (hl t ht))
      (fun p r hr hc => by
        obtain ⟨t, ht, rfl⟩ := List.mem_map.1 hr
        simp only [onT_tv]
        rw [if_neg (by rw [hc]; exact Bool.false_ne_true)]
        exact Classical.epsilon_spec (ih t ht (hl t ht)))
    rw [← tv_mk] at h
    exact ⟨_, h⟩
theorem con_rrightP (t : Tm) (ht : TOk t) (hp : plainT t = true) : Con 105 [.agg true (tv t)] (.bool true) := by
  refine contract_of_vc mixed Tryz.func105 tr105 ?_
  obtain ⟨z, h1⟩ := con_rmarkedE t ht
  have h2 := con_rplain t ht
  rw [hp] at h2
  have hz := tv_len t
  simp only [go_sem, reduceIte, reduceCtorEq, Nat.reduceAdd, Nat.reduceSub, Nat.reduceMul, Nat.reduceLT, Nat.reduceLeDiff, Nat.reduceEqDiff, Nat.reduceBEq, Nat.reduceGT, Int.reduceEq, Int.reduceNe, Int.reduceLT, Int.reduceLE, Int.reduceToNat, Int.reduceNeg, Int.reduceBEq, Int.reduceAdd, Int.reduceSub, Int.reduceGT, Int.reduceGE, Int.reduceBNe, hz]
  refine callK_of h1 ?_
  cases z <;> simp only [go_sem, reduceIte, reduceCtorEq, Nat.reduceAdd, Nat.reduceSub, Nat.reduceMul, Nat.reduceLT, Nat.reduceLeDiff, Nat.reduceEqDiff, Nat.reduceBEq, Nat.reduceGT, Int.reduceEq, Int.reduceNe, Int.reduceLT, Int.reduceLE, Int.reduceToNat, Int.reduceNeg, Int.reduceBEq, Int.reduceAdd, Int.reduceSub, Int.reduceGT, Int.reduceGE, Int.reduceBNe, hz]
  refine callK_of h2 ?_
  simp only [go_sem, reduceIte, reduceCtorEq, Nat.reduceAdd, Nat.reduceSub, Nat.reduceMul, Nat.reduceLT, Nat.reduceLeDiff, Nat.reduceEqDiff, Nat.reduceBEq, Nat.reduceGT, Int.reduceEq, Int.reduceNe, Int.reduceLT, Int.reduceLE, Int.reduceToNat, Int.reduceNeg, Int.reduceBEq, Int.reduceAdd, Int.reduceSub, Int.reduceGT, Int.reduceGE, Int.reduceBNe]

/-- A term lifted, or the empty term. -/
def liftF (k : Int) (t : Tm) : Tm := (liftT k 0 t).getD zT
theorem con_liftF (k : Int) (hk : 0 ≤ k) (t : Tm) (ht : TOk t) (hp : plainT t = true) (hh : hgtT t ≤ 1000) : Con 82 [.agg true (tv t), .int .i64 k, .int .i64 0] (.agg true (tv (liftF k t))) := by
  have h1 := con_rightq t ht
  rw [right_weak hp] at h1
  have h2 := con_blift k hk t ht 2 0 hp (by omega) (by omega)
  have hz := tv_len t
  have hk' : ¬ k < 0 := by omega
  unfold liftF
  cases hu : liftT k 0 t with
  | none =>
    rw [hu] at h2
    refine (contract_of_vc (r := .agg true [.int .i64 0, .int .i64 0, .int .i64 0, .int .i64 0, .nils]) mixed Tryz.func82 tr82 ?_).weaken le_zT
    have hzz := tv_len zT
    simp only [go_sem, reduceIte, reduceCtorEq, Nat.reduceAdd, Nat.reduceSub, Nat.reduceMul, Nat.reduceLT, Nat.reduceLeDiff, Nat.reduceEqDiff, Nat.reduceBEq, Nat.reduceGT, Int.reduceEq, Int.reduceNe, Int.reduceLT, Int.reduceLE, Int.reduceToNat, Int.reduceNeg, Int.reduceBEq, Int.reduceAdd, Int.reduceSub, Int.reduceGT, Int.reduceGE, Int.reduceBNe, hz, hk']
    refine callK_of h1 ?_
    simp only [go_sem, reduceIte, reduceCtorEq, Nat.reduceAdd, Nat.reduceSub, Nat.reduceMul, Nat.reduceLT, Nat.reduceLeDiff, Nat.reduceEqDiff, Nat.reduceBEq, Nat.reduceGT, Int.reduceEq, Int.reduceNe, Int.reduceLT, Int.reduceLE, Int.reduceToNat, Int.reduceNeg, Int.reduceBEq, Int.reduceAdd, Int.reduceSub, Int.reduceGT, Int.reduceGE, Int.reduceBNe, hz, hk']
    refine callK_of h2 ?_
    simp only [go_sem, reduceIte, reduceCtorEq, Nat.reduceAdd, Nat.reduceSub, Nat.reduceMul, Nat.reduceLT, Nat.reduceLeDiff, Nat.reduceEqDiff, Nat.reduceBEq, Nat.reduceGT, Int.reduceEq, Int.reduceNe, Int.reduceLT, Int.reduceLE, Int.reduceToNat, Int.reduceNeg, Int.reduceBEq, Int.reduceAdd, Int.reduceSub, Int.reduceGT, Int.reduceGE, Int.reduceBNe, resR, Option.map_none, hzz]
  | some u =>
    rw [hu] at h2
    refine contract_of_vc mixed Tryz.func82 tr82 ?_
    have hzz := tv_len u
    simp only [go_sem, reduceIte, reduceCtorEq, Nat.reduceAdd, Nat.reduceSub, Nat.reduceMul, Nat.reduceLT, Nat.reduceLeDiff, Nat.reduceEqDiff, Nat.reduceBEq, Nat.reduceGT, Int.reduceEq, Int.reduceNe, Int.reduceLT, Int.reduceLE, Int.reduceToNat, Int.reduceNeg, Int.reduceBEq, Int.reduceAdd, Int.reduceSub, Int.reduceGT, Int.reduceGE, Int.reduceBNe, hz, hk']
    refine callK_of h1 ?_
    simp only [go_sem, reduceIte, reduceCtorEq, Nat.reduceAdd, Nat.reduceSub, Nat.reduceMul, Nat.reduceLT, Nat.reduceLeDiff, Nat.reduceEqDiff, Nat.reduceBEq, Nat.reduceGT, Int.reduceEq, Int.reduceNe, Int.reduceLT, Int.reduceLE, Int.reduceToNat, Int.reduceNeg, Int.reduceBEq, Int.reduceAdd, Int.reduceSub, Int.reduceGT, Int.reduceGE, Int.reduceBNe, hz, hk']
    refine callK_of h2 ?_
    simp only [go_sem, reduceIte, reduceCtorEq, Nat.reduceAdd, Nat.reduceSub, Nat.reduceMul, Nat.reduceLT, Nat.reduceLeDiff, Nat.reduceEqDiff, Nat.reduceBEq, Nat.reduceGT, Int.reduceEq, Int.reduceNe, Int.reduceLT, Int.reduceLE, Int.reduceToNat, Int.reduceNeg, Int.reduceBEq, Int.reduceAdd, Int.reduceSub, Int.reduceGT, Int.reduceGE, Int.reduceBNe, resR, Option.map_some, hzz, Option.getD_some]
theorem con_rliftF (k : Int) (hk : 0 ≤ k) (t : Tm) (ht : TOk t) (hp : plainT t = true) (hh : hgtT t ≤ 1000) : Con 77 [.agg true (tv t), .int .i64 k, .int .i64 0] (.agg true (tv (liftF k t))) := by
  have h1 := con_rrightP t ht hp
  have h2 := con_rlift k hk t ht 2 0 hp (by omega) (by omega)
  have hz := tv_len t
  have hk' : ¬ k < 0 := by omega
  unfold liftF
  cases hu : liftT k 0 t with
  | none =>
    rw [hu] at h2
    refine (contract_of_vc (r := .agg true [.int .i64 0, .int .i64 0, .int .i64 0, .int .i64 0, .nils]) mixed Tryz.func77 tr77 ?_).weaken le_zT
    have hzz := tv_len zT
    simp only [go_sem, reduceIte, reduceCtorEq, Nat.reduceAdd, Nat.reduceSub, Nat.reduceMul, Nat.reduceLT, Nat.reduceLeDiff, Nat.reduceEqDiff, Nat.reduceBEq, Nat.reduceGT, Int.reduceEq, Int.reduceNe, Int.reduceLT, Int.reduceLE, Int.reduceToNat, Int.reduceNeg, Int.reduceBEq, Int.reduceAdd, Int.reduceSub, Int.reduceGT, Int.reduceGE, Int.reduceBNe, hz, hk']
    refine callK_of h1 ?_
    simp only [go_sem, reduceIte, reduceCtorEq, Nat.reduceAdd, Nat.reduceSub, Nat.reduceMul, Nat.reduceLT, Nat.reduceLeDiff, Nat.reduceEqDiff, Nat.reduceBEq, Nat.reduceGT, Int.reduceEq, Int.reduceNe, Int.reduceLT, Int.reduceLE, Int.reduceToNat, Int.reduceNeg, Int.reduceBEq, Int.reduceAdd, Int.reduceSub, Int.reduceGT, Int.reduceGE, Int.reduceBNe, hz, hk']
    refine callK_of h2 ?_
    simp only [go_sem, reduceIte, reduceCtorEq, Nat.reduceAdd, Nat.reduceSub, Nat.reduceMul, Nat.reduceLT, Nat.reduceLeDiff, Nat.reduceEqDiff, Nat.reduceBEq, Nat.reduceGT, Int.reduceEq, Int.reduceNe, Int.reduceLT, Int.reduceLE, Int.reduceToNat, Int.reduceNeg, Int.reduceBEq, Int.reduceAdd, Int.reduceSub, Int.reduceGT, Int.reduceGE, Int.reduceBNe, resR, Option.map_none, hzz]
  | some u =>
    rw [hu] at h2
    refine contract_of_vc mixed Tryz.func77 tr77 ?_
    have hzz := tv_len u
    simp only [go_sem, reduceIte, reduceCtorEq, Nat.reduceAdd, Nat.reduceSub, Nat.reduceMul, Nat.reduceLT, Nat.reduceLeDiff, Nat.reduceEqDiff, Nat.reduceBEq, Nat.reduceGT, Int.reduceEq, Int.reduceNe, Int.reduceLT, Int.reduceLE, Int.reduceToNat, Int.reduceNeg, Int.reduceBEq, Int.reduceAdd, Int.reduceSub, Int.reduceGT, Int.reduceGE, Int.reduceBNe, hz, hk']
    refine callK_of h1 ?_
    simp only [go_sem, reduceIte, reduceCtorEq, Nat.reduceAdd, Nat.reduceSub, Nat.reduceMul, Nat.reduceLT, Nat.reduceLeDiff, Nat.reduceEqDiff, Nat.reduceBEq, Nat.reduceGT, Int.reduceEq, Int.reduceNe, Int.reduceLT, Int.reduceLE, Int.reduceToNat, Int.reduceNeg, Int.reduceBEq, Int.reduceAdd, Int.reduceSub, Int.reduceGT, Int.reduceGE, Int.reduceBNe, hz, hk']
    refine callK_of h2 ?_
    simp only [go_sem, reduceIte, reduceCtorEq, Nat.reduceAdd, Nat.reduceSub, Nat.reduceMul, Nat.reduceLT, Nat.reduceLeDiff, Nat.reduceEqDiff, Nat.reduceBEq, Nat.reduceGT, Int.reduceEq, Int.reduceNe, Int.reduceLT, Int.reduceLE, Int.reduceToNat, Int.reduceNeg, Int.reduceBEq, Int.reduceAdd, Int.reduceSub, Int.reduceGT, Int.reduceGE, Int.reduceBNe, resR, Option.map_some, hzz, Option.getD_some]
end Go.Proofs.YtkldipbhenabfaaGreat.Abs
