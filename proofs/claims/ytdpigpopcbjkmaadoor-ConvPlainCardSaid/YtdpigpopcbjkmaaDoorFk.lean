/- Plain terms by the page are those by the program; several at once; small functions of het and of the page. -/
import Derived.Test.YtdpigpopcbjkmaaDoorFj
set_option linter.unusedSimpArgs false
set_option linter.unusedVariables false
namespace Go.Proofs.YtdpigpopcbjkmaaDoor.Abs
open Go Go.RowKit Go.Proofs.YtdpigpopcbjkmaaDoor

abbrev plainT (t : Tm) : Bool := rightT t 2

theorem kids_none (k n : Int) (h : k ≤ 0 ∨ 23 < k) : kidsN k n = -1 := by
  unfold kidsN tab
  rw [if_neg (by omega), if_neg (by simp only [List.length_cons, List.length_nil]; omega)]

theorem len_none (k n : Int) (len : Nat) (h : k ≤ 0 ∨ 23 < k) : ((len : Int) == kidsN k n) = false := by
  rw [kids_none k n h]
  exact beq_no (by omega)

theorem rplainN_eq (k i j n : Int) (len : Nat) : rplainN k i j n len = rightN k i j n 2 len := by
  unfold rplainN rightN nodeB
  rw [show (!((len : Int) != kidsN k n)) = ((len : Int) == kidsN k n) by simp [bne]]
  by_cases h : k ≤ 0 ∨ 23 < k
  · rw [len_none k n len h]; simp
  · congr 1
    have hs : sortN k = if k = 1 ∨ k = 2 then 0 else if k ≤ 12 then 1 else 2 := rfl
    by_cases h1 : k = 1
    · subst h1; rfl
    · by_cases h2 : k = 2
      · subst h2; rfl
      · rw [hs, if_neg (by omega)]
        have e1 : (k != 1) = true := by simp [h1]
        have e2 : (k != 2) = true := by simp [h2]
        rw [e1, e2]
        have e4 : decide (k > 23) = false := by simp; omega
        rw [e4]
        by_cases h3 : k ≤ 12
        · rw [if_pos h3]
          have e3 : decide (k < 13) = true := by simp; omega
          rw [e3]; rfl
        · rw [if_neg h3]
          have e3 : decide (k < 13) = false := by simp; omega
          rw [e3]; rfl

theorem allI_all {α : Type} {f : α → Bool} : ∀ {l : List α} {p : Nat}, allI (fun _ x => f x) p l = l.all f := by
  intro l
  induction l with
  | nil => intro p; rfl
  | cons x l ih => intro p; simp only [allI, List.all_cons, ih]

/-- Of a right node of that sort, or of any, plain: the kids are asked to be plain. -/
theorem plain_kids (k i j n : Int) (l : List Tm) : rightT (.mk k i j n l) 2 = (rightN k i j n 2 l.length && l.all plainT) := by
  rw [rightT_mk]
  cases h : rightN k i j n 2 l.length
  · rfl
  · rw [Bool.true_and, Bool.true_and]
    unfold rightN at h
    simp only [Bool.and_eq_true, Bool.or_eq_true, Bool.not_eq_true', bne_eq_false_iff_eq] at h
    obtain ⟨h1, h2, _⟩ := h
    have hs : sortN k = if k = 1 ∨ k = 2 then 0 else if k ≤ 12 then 1 else 2 := rfl
    by_cases h12 : k = 1 ∨ k = 2
    · have : l = [] := by
        rcases h12 with rfl | rfl
        · exact List.length_eq_zero_iff.1 (by simpa [kidsN, tab] using h2)
        · exact List.length_eq_zero_iff.1 (by simpa [kidsN, tab] using h2)
      subst this; rfl
    · rw [if_neg h12] at hs
      have hk : sortN k = 2 := by
        rcases h1 with h1 | h1 | h1
        · omega
        · rw [hs] at h1; split at h1 <;> omega
        · exact h1
      have h13 : k ≠ 12 := by
        intro e; subst e; simp [sortN] at hk
      rw [allI_congr (g := fun _ t => plainT t) (fun p t _ => by unfold ofN; rw [if_neg (by omega), hk]), allI_all]

theorem con_rplain (t : Tm) : TOk t → Con 6 [.agg true (tv t)] (.bool (plainT t)) := by
  induction t using Tm.ind with
  | h k i j n l ih =>
    intro hok
    cases hok with
    | mk _ _ _ _ _ f1 f2 f3 f4 hb hl =>
    have h := con_rplain_rows k i j n (l.map tv) (onT plainT false) (by simpa using hb) (rows5 l) (fun r hr => by
      obtain ⟨t, ht, rfl⟩ := List.mem_map.1 hr
      rw [onT_tv]
      exact ih t ht (hl t ht))
    rw [List.length_map, rplainN_eq, List.all_map, ← tv_mk] at h
    have e : l.all (onT plainT false ∘ tv) = l.all plainT := by
      congr 1; funext t; simp [onT_tv]
    rw [e, ← plain_kids] at h
    exact h

/-- Several. -/
abbrev plains (l : List Tm) : Bool := l.all plainT

theorem onT_all (l : List Tm) (f : Tm → Bool) : (l.map tv).all (onT f false) = l.all f := by
  rw [List.all_map]
  congr 1; funext t; simp [onT_tv]

theorem take_next {α : Type} {l : List α} {i : Nat} {d : α} (h : i < l.length) : l.take i ++ [l[i]?.getD d] = l.take (i + 1) := by
  rw [List.take_add_one, List.getElem?_eq_getElem h]
  rfl

end Go.Proofs.YtdpigpopcbjkmaaDoor.Abs
