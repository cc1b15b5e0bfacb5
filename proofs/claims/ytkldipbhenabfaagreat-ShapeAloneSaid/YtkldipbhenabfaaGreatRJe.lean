/- Marked and right terms, by the program and by the page. -/
import Derived.Test.YtkldipbhenabfaaGreatRHe
import Derived.Test.YtkldipbhenabfaaGreatRAfP
import Derived.Test.YtkldipbhenabfaaGreatRAfQ
import Derived.Test.YtkldipbhenabfaaGreatRHb
set_option linter.unusedSimpArgs false
set_option linter.unusedVariables false
namespace Go.Proofs.YtkldipbhenabfaaGreat.Abs
open Go Go.RowKit Go.Proofs.YtkldipbhenabfaaGreat

abbrev markT (t : Tm) : Bool := rightT t 1
theorem con_marked (t : Tm) (ht : TOk t) : Con 54 [.agg true (tv t)] (.bool (markT t)) := by
  refine contract_of_vc mixed Tryz.func54 tr54 ?_
  have hc := con_right t ht 1
  cases t with
  | mk k i j n l =>
  rw [tv_mk] at hc ⊢
  simp only [go_sem, reduceIte, reduceCtorEq, Nat.reduceAdd, Nat.reduceSub, Nat.reduceMul, Nat.reduceLT, Nat.reduceLeDiff, Nat.reduceEqDiff, Nat.reduceBEq, Nat.reduceGT, Int.reduceEq, Int.reduceNe, Int.reduceLT, Int.reduceLE, Int.reduceToNat, Int.reduceNeg, Int.reduceBEq, Int.reduceAdd, Int.reduceSub, Int.reduceGT, Int.reduceGE, Int.reduceBNe]
  refine callK_of hc ?_
  simp only [go_sem, reduceIte, reduceCtorEq, Nat.reduceAdd, Nat.reduceSub, Nat.reduceMul, Nat.reduceLT, Nat.reduceLeDiff, Nat.reduceEqDiff, Nat.reduceBEq, Nat.reduceGT, Int.reduceEq, Int.reduceNe, Int.reduceLT, Int.reduceLE, Int.reduceToNat, Int.reduceNeg, Int.reduceBEq, Int.reduceAdd, Int.reduceSub, Int.reduceGT, Int.reduceGE, Int.reduceBNe]

theorem rmarkedN_eq (k i j n : Int) (len : Nat) : rmarkedN k i j n len = rightN k i j n 1 len := by
  unfold rmarkedN rightN nodeB
  rw [show (!((len : Int) != kidsN k n)) = ((len : Int) == kidsN k n) by simp [bne]]
  by_cases h : k ≤ 0 ∨ 23 < k
  · rw [len_none k n len h]; simp
  · congr 1
    have hs : sortN k = if k = 1 ∨ k = 2 then 0 else if k ≤ 12 then 1 else 2 := rfl
    have e1 : decide (k < 1) = false := by simp; omega
    rw [e1, hs]
    by_cases h1 : k = 1 ∨ k = 2
    · rw [if_pos h1]
      have e4 : decide (k > 12) = false := by simp; omega
      rw [e4]; rfl
    · rw [if_neg h1]
      by_cases h3 : k ≤ 12
      · rw [if_pos h3]
        have e4 : decide (k > 12) = false := by simp; omega
        rw [e4]; rfl
      · rw [if_neg h3]
        have e4 : decide (k > 12) = true := by simp; omega
        rw [e4]; rfl
theorem mark_kids (k i j n : Int) (l : List Tm) : markT (.mk k i j n l) = (rightN k i j n 1 l.length && allI (fun p t => if ((k == 12) && ((p : Int) == 2)) = true then plainT t else markT t) 0 l) := by
  show rightT _ 1 = _
  rw [rightT_mk]
  cases h : rightN k i j n 1 l.length
  · rfl
  · rw [Bool.true_and, Bool.true_and]
    unfold rightN at h
    simp only [Bool.and_eq_true, Bool.or_eq_true, Bool.not_eq_true', bne_eq_false_iff_eq] at h
    obtain ⟨h1, h2, _⟩ := h
    have hs : sortN k = if k = 1 ∨ k = 2 then 0 else if k ≤ 12 then 1 else 2 := rfl
    by_cases h12 : k = 1 ∨ k = 2
    · have : l = [] := by
        rcases h12 with rfl | rfl
        · exact List.length_eq_zero_iff.1 (by simpa [kidsN, tab] using h2)
        · exact List.length_eq_zero_iff.1 (by simpa [kidsN, tab] using h2)
      subst this; rfl
    · rw [if_neg h12] at hs
      have hk : sortN k = 1 := by
        rcases h1 with h1 | h1 | h1
        · omega
        · rw [hs] at h1; split at h1 <;> omega
        · exact h1
      refine allI_congr (fun p t _ => ?_)
      unfold ofN
      rw [hk]
      by_cases a : k = 12
      · by_cases b : p = 2
        · subst b; subst a; rfl
        · rw [if_neg (fun h => b h.2), beq_no (show (p : Int) ≠ 2 by omega), Bool.and_false]; rfl
      · rw [if_neg (fun h => a h.1), beq_no a, Bool.false_and]; rfl

theorem con_rmarked (t : Tm) : TOk t → Con 21 [.agg true (tv t)] (.bool (markT t)) := by
  induction t using Tm.ind with
  | h k i j n l ih =>
    intro hok
    cases hok with
    | mk _ _ _ _ _ f1 f2 f3 f4 hb hl =>
    have h := con_rmarked_rows k i j n (l.map tv) (fun p r => onT (fun t => if ((k == 12) && ((p : Int) == 2)) = true then plainT t else markT t) false r) (by simpa using hb) (rows5 l)
      (fun p r hr hc => by
        obtain ⟨t, ht, rfl⟩ := List.mem_map.1 hr
        simp only [onT_tv]
        rw [if_pos hc]
        exact con_rplain t (hl t ht))
      (fun p r hr hc => by
        obtain ⟨t, ht, rfl⟩ := List.mem_map.1 hr
        simp only [onT_tv]
        rw [if_neg (by rw [hc]; exact Bool.false_ne_true)]
        exact ih t ht (hl t ht))
    rw [List.length_map, rmarkedN_eq, allI_map, allI_congr (g := fun p t => if ((k == 12) && ((p : Int) == 2)) = true then plainT t else markT t) (fun p t _ => by rw [onT_tv]), ← mark_kids, ← tv_mk] at h
    exact h
theorem right_or (t : Tm) : rightT t 0 = (markT t || plainT t) := by
  cases t with
  | mk k i j n l =>
  show rightT _ 0 = (rightT _ 1 || rightT _ 2)
  rw [rightT_mk, rightT_mk, rightT_mk]
  unfold rightN sortN
  by_cases h1 : k = 1 ∨ k = 2
  · rw [if_pos h1]; simp
  · rw [if_neg h1]
    by_cases h2 : k ≤ 12
    · rw [if_pos h2]; simp
    · rw [if_neg h2]; simp
theorem mark_right {t : Tm} (h : markT t = true) : rightT t 0 = true := by rw [right_or, h, Bool.true_or]
theorem plain_right {t : Tm} (h : plainT t = true) : rightT t 0 = true := by rw [right_or, h, Bool.or_true]
end Go.Proofs.YtkldipbhenabfaaGreat.Abs

set_option linter.unusedSimpArgs false
set_option linter.unusedVariables false
namespace Go.Proofs.YtkldipbhenabfaaGreat.Abs
open Go Go.RowKit Go.Proofs.YtkldipbhenabfaaGreat

mutual
def sizT : Tm → Nat
  | .mk _ _ _ _ l => sizL l + 1
def sizL : List Tm → Nat
  | [] => 0
  | t :: l => sizT t + sizL l
end
theorem sizT_mk (k i j n : Int) (l : List Tm) : sizT (.mk k i j n l) = sizL l + 1 := by rw [sizT]
theorem siz_mem {t : Tm} : ∀ {l : List Tm}, t ∈ l → sizT t ≤ sizL l := by
  intro l
  induction l with
  | nil => intro h; cases h
  | cons u l ih =>
    intro h
    rw [sizL]
    rcases List.mem_cons.1 h with rfl | h
    · omega
    · have := ih h; omega
def sumI (S : Nat → Int) : Nat → Int
  | 0 => 0
  | x + 1 => sumI S x + S x
theorem sumI_shift (S : Nat → Int) : ∀ x, sumI S (x + 1) = S 0 + sumI (fun y => S (y + 1)) x := by
  intro x
  induction x with
  | zero => simp only [sumI]; omega
  | succ x ih => rw [sumI, ih, sumI]; omega
theorem sumI_siz (l : List Tm) : sumI (fun y => (sizT (l[y]?.getD default) : Int)) l.length = (sizL l : Int) := by
  induction l with
  | nil => simp [sumI, sizL]
  | cons t l ih =>
    rw [List.length_cons, sumI_shift, sizL]
    simp only [List.getElem?_cons_succ, List.getElem?_cons_zero, Option.getD_some]
    rw [ih]
    omega
theorem sums_ok3 {a : Int} {V : Nat → Int → Int} {most : Int} {n : Nat} {B : Nat → Prop} {S : Nat → Int} (h0 : 0 ≤ a) (h1 : a ≤ 1) (hm : 0 ≤ most) (hm2 : most ≤ 1000000)
    (hV : ∀ x, x < n → ∀ m, 0 ≤ m → m ≤ 1000000 → 1 ≤ V x m ∧ V x m ≤ m + 1 ∧ (V x m ≤ m → B x ∧ S x ≤ V x m)) :
    ∀ x, x ≤ n → (∀ y, y < x → sumsA a V most y ≤ most) → 0 ≤ sumsA a V most x ∧ sumsA a V most x ≤ most + 1 ∧ (sumsA a V most x ≤ most → (∀ y, y < x → B y) ∧ sumI S x ≤ sumsA a V most x - a) := by
  intro x
  induction x with
  | zero => intro _ _; exact ⟨h0, by show a ≤ most + 1; omega, fun _ => ⟨fun y hy => absurd hy (Nat.not_lt_zero _), by show (0 : Int) ≤ a - a; omega⟩⟩
  | succ x ih =>
    intro hx hle
    obtain ⟨g1, g2, g3⟩ := ih (by omega) (fun y hy => hle y (by omega))
    have hs := hle x (by omega)
    have e1 : IntKind.i64.wrap (most - sumsA a V most x) = most - sumsA a V most x := w64 (by unfold fit; omega)
    obtain ⟨v1, v2, v3⟩ := hV x (by omega) (most - sumsA a V most x) (by omega) (by omega)
    have e2 : sumsA a V most (x + 1) = sumsA a V most x + V x (most - sumsA a V most x) := by
      show IntKind.i64.wrap (sumsA a V most x + V x (IntKind.i64.wrap (most - sumsA a V most x))) = _
      rw [e1, w64 (by unfold fit; omega)]
    rw [e2]
    refine ⟨by omega, by omega, fun h => ?_⟩
    obtain ⟨g4, g5⟩ := g3 hs
    obtain ⟨v4, v5⟩ := v3 (by omega)
    refine ⟨fun y hy => ?_, by rw [sumI]; omega⟩
    rcases Nat.lt_succ_iff_lt_or_eq.1 hy with h3 | rfl
    · exact g4 y h3
    · exact v4

def Wt3 (t : Tm) (m d z : Int) : Prop := Con 26 [.agg true (tv t), .int .i64 m, .int .i64 d] (.int .i64 z) ∧
  (0 ≤ m → m ≤ 1000000 → -1 ≤ d → d ≤ 1000 → 1 ≤ z ∧ z ≤ m + 1 ∧ (z ≤ m → (hgtT t : Int) ≤ d + 1 ∧ (sizT t : Int) ≤ z))

theorem con_weigh3 (t : Tm) : TOk t → ∀ m d, ∃ z, Wt3 t m d z := by
  induction t using Tm.ind with
  | h k i j n l ih =>
    intro hok m d
    cases hok with
    | mk _ _ _ _ _ f1 f2 f3 f4 hb hl =>
    unfold Wt3
    rw [tv_mk]
    by_cases hd : d < 0
    · refine ⟨_, weigh_neg k i j n m d _ hd, fun h1 h2 h3 h4 => ?_⟩
      rw [w64 (by unfold fit; omega)]
      exact ⟨by omega, by omega, fun h => by omega⟩
    · have H : ∀ (t : Tm) (m d : Int), ∃ z, t ∈ l → Wt3 t m d z := fun t m d => by
        by_cases ht : t ∈ l
        · obtain ⟨z, hz⟩ := ih t ht (hl t ht) m d
          exact ⟨z, fun _ => hz⟩
        · exact ⟨0, fun h => absurd h ht⟩
      obtain ⟨Z, hZ⟩ : ∃ Z : Tm → Int → Int → Int, ∀ t ∈ l, ∀ m d, Wt3 t m d (Z t m d) := ⟨fun t m d => Classical.choose (H t m d), fun t ht m d => Classical.choose_spec (H t m d) ht⟩
      have hW : ∀ r ∈ l.map tv, ∀ m d, Con 26 [.agg true r, .int .i64 m, .int .i64 d] (.int .i64 (onT Z (fun _ _ => 0) r m d)) := fun r hr m d => by
        obtain ⟨t, ht, rfl⟩ := List.mem_map.1 hr
        rw [onT_tv]
        exact (hZ t ht m d).1
      obtain ⟨x, hx1, hx2, hx3⟩ := least (fun x => m < sums (onT Z (fun _ _ => 0)) (l.map tv) m (IntKind.i64.wrap (d - 1)) x) (l.map tv).length
      refine ⟨_, weigh_pos k i j n m d (l.map tv) _ (by simpa using hb) (rows5 l) hW hd x hx1 hx2 hx3, fun h1 h2 h3 h4 => ?_⟩
      rw [sums_A]
      have e1 : IntKind.i64.wrap (d - 1) = d - 1 := w64 (by unfold fit; omega)
      rw [e1]
      have hx3' : ∀ y, y < x → sumsA 1 (fun y m => onT Z (fun _ _ => 0) ((l.map tv)[y]?.getD []) m (d - 1)) m y ≤ m := fun y hy => by
        have := hx3 y hy
        rw [sums_A, e1] at this
        omega
      have hlen : (l.map tv).length = l.length := by simp
      have hrow : ∀ y, y < l.length → (l.map tv)[y]?.getD [] = tv (l[y]?.getD default) := fun y hy => by
        rw [List.getElem?_map, List.getElem?_eq_getElem hy]; rfl
      have key := sums_ok3 (a := 1) (V := fun y m => onT Z (fun _ _ => 0) ((l.map tv)[y]?.getD []) m (d - 1)) (most := m) (n := l.length) (B := fun y => (hgtT (l[y]?.getD default) : Int) ≤ d) (S := fun y => (sizT (l[y]?.getD default) : Int)) (by omega) (by omega) h1 h2 (fun y hy m' hm1 hm2 => by
        simp only [hrow y hy, onT_tv]
        obtain ⟨_, g⟩ := hZ _ (get_lt (d := default) hy) m' (d - 1)
        obtain ⟨g1, g2, g3⟩ := g hm1 hm2 (by omega) (by omega)
        exact ⟨g1, g2, fun h => by have := g3 h; exact ⟨by omega, this.2⟩⟩) x (by omega) hx3'
      obtain ⟨k1, k2, k3⟩ := key
      refine ⟨?_, k2, fun hz => ?_⟩
      · cases x with
        | zero => exact Int.le_refl _
        | succ x =>
          have hs := hx3' x (by omega)
          have := sums_ok (a := 1) (V := fun y m => onT Z (fun _ _ => 0) ((l.map tv)[y]?.getD []) m (d - 1)) (most := m) (n := l.length) (B := fun _ => True) (by omega) (by omega) h1 h2 (fun y hy m' hm1 hm2 => by
            simp only [hrow y hy, onT_tv]
            obtain ⟨_, g⟩ := hZ _ (get_lt (d := default) hy) m' (d - 1)
            obtain ⟨g1, g2, g3⟩ := g hm1 hm2 (by omega) (by omega)
            exact ⟨g1, g2, fun _ => trivial⟩) x (by omega) (fun y hy => hx3' y (by omega))
          obtain ⟨q1, _, _⟩ := this
          obtain ⟨_, g⟩ := hZ _ (get_lt (d := default) (show x < l.length by omega)) (m - sumsA 1 (fun y m => onT Z (fun _ _ => 0) ((l.map tv)[y]?.getD []) m (d - 1)) m x) (d - 1)
          obtain ⟨g1, g2, _⟩ := g (by omega) (by omega) (by omega) (by omega)
          have e2 : sumsA 1 (fun y m => onT Z (fun _ _ => 0) ((l.map tv)[y]?.getD []) m (d - 1)) m (x + 1) = sumsA 1 (fun y m => onT Z (fun _ _ => 0) ((l.map tv)[y]?.getD []) m (d - 1)) m x + Z (l[x]?.getD default) (m - sumsA 1 (fun y m => onT Z (fun _ _ => 0) ((l.map tv)[y]?.getD []) m (d - 1)) m x) (d - 1) := by
            have e3 : IntKind.i64.wrap (m - sumsA 1 (fun y m => onT Z (fun _ _ => 0) ((l.map tv)[y]?.getD []) m (d - 1)) m x) = m - sumsA 1 (fun y m => onT Z (fun _ _ => 0) ((l.map tv)[y]?.getD []) m (d - 1)) m x := w64 (by unfold fit; omega)
            rw [sumsA, e3, hrow x (by omega), onT_tv, w64 (by unfold fit; omega)]
          rw [e2]
          omega
      · have hxl : x = l.length := by
          rcases hx2 with h | h
          · omega
          · rw [sums_A, e1] at h; omega
        obtain ⟨k4, k5⟩ := k3 hz
        rw [hgtT_mk, sizT_mk]
        have : hgtL l ≤ d.toNat := hgtL_le (fun t ht => by
          obtain ⟨y, hy, rfl⟩ := List.getElem_of_mem ht
          have := k4 y (by omega)
          rw [List.getElem?_eq_getElem hy, Option.getD_some] at this
          omega)
        refine ⟨by omega, ?_⟩
        have e5 : sumI (fun y => (sizT (l[y]?.getD default) : Int)) x = (sizL l : Int) := by rw [hxl]; exact sumI_siz l
        rw [e5] at k5
        omega
theorem con_greats3 (most : Int) (h1 : 0 ≤ most) (h2 : most ≤ 1000000) (l : List Tm) (hl : ∀ t ∈ l, TOk t) (hb : l.length * 56 ≤ 140737488355328) :
    ∃ z, Con 46 [.dsl 5 (l.map tv), .int .i64 most] (.bool z) ∧ (z = false → ∀ t ∈ l, hgtT t ≤ 201 ∧ (sizT t : Int) ≤ most) := by
  by_cases hd : most < ((l.map tv).length : Int)
  · exact ⟨true, greats_out most _ hd, fun h => by cases h⟩
  · have H : ∀ (t : Tm) (m d : Int), ∃ z, t ∈ l → Wt3 t m d z := fun t m d => by
      by_cases ht : t ∈ l
      · obtain ⟨z, hz⟩ := con_weigh3 t (hl t ht) m d
        exact ⟨z, fun _ => hz⟩
      · exact ⟨0, fun h => absurd h ht⟩
    obtain ⟨Z, hZ⟩ : ∃ Z : Tm → Int → Int → Int, ∀ t ∈ l, ∀ m d, Wt3 t m d (Z t m d) := ⟨fun t m d => Classical.choose (H t m d), fun t ht m d => Classical.choose_spec (H t m d) ht⟩
    have hW : ∀ r ∈ l.map tv, ∀ m d, Con 26 [.agg true r, .int .i64 m, .int .i64 d] (.int .i64 (onT Z (fun _ _ => 0) r m d)) := fun r hr m d => by
      obtain ⟨t, ht, rfl⟩ := List.mem_map.1 hr
      rw [onT_tv]
      exact (hZ t ht m d).1
    obtain ⟨x, hx1, hx2, hx3⟩ := least (fun x => most < sums0 (onT Z (fun _ _ => 0)) (l.map tv) most 200 x) (l.map tv).length
    refine ⟨_, greats_in most (l.map tv) _ (by simpa using hb) (rows5 l) hW hd x hx1 hx2 hx3, fun hz t ht => ?_⟩
    have hz' : ¬ most < sums0 (onT Z (fun _ _ => 0)) (l.map tv) most 200 x := of_decide_eq_false hz
    have hxl : x = l.length := by
      rcases hx2 with h | h
      · rw [h]; simp
      · exact absurd h hz'
    rw [sums0_A] at hz'
    have hx3' : ∀ y, y < x → sumsA 0 (fun y m => onT Z (fun _ _ => 0) ((l.map tv)[y]?.getD []) m 200) most y ≤ most := fun y hy => by
      have := hx3 y hy
      rw [sums0_A] at this
      omega
    have hrow : ∀ y, y < l.length → (l.map tv)[y]?.getD [] = tv (l[y]?.getD default) := fun y hy => by
      rw [List.getElem?_map, List.getElem?_eq_getElem hy]; rfl
    obtain ⟨_, _, k3⟩ := sums_ok3 (a := 0) (V := fun y m => onT Z (fun _ _ => 0) ((l.map tv)[y]?.getD []) m 200) (most := most) (n := l.length) (B := fun y => (hgtT (l[y]?.getD default) : Int) ≤ 201) (S := fun y => (sizT (l[y]?.getD default) : Int)) (by omega) (by omega) h1 h2 (fun y hy m' hm1 hm2 => by
      simp only [hrow y hy, onT_tv]
      obtain ⟨_, g⟩ := hZ _ (get_lt (d := default) hy) m' 200
      obtain ⟨g1, g2, g3⟩ := g hm1 hm2 (by omega) (by omega)
      exact ⟨g1, g2, fun h => by have := g3 h; exact ⟨by omega, this.2⟩⟩) x (by omega) hx3'
    obtain ⟨k4, k5⟩ := k3 (by omega)
    have hm := siz_mem ht
    rw [hxl] at k5 hz'
    have e5 : sumI (fun y => (sizT (l[y]?.getD default) : Int)) l.length = (sizL l : Int) := sumI_siz l
    rw [e5] at k5
    obtain ⟨y, hy, rfl⟩ := List.getElem_of_mem ht
    have := k4 y (by omega)
    rw [List.getElem?_eq_getElem hy, Option.getD_some] at this
    exact ⟨by omega, by omega⟩

end Go.Proofs.YtkldipbhenabfaaGreat.Abs

set_option linter.unusedSimpArgs false
set_option linter.unusedVariables false
namespace Go.Proofs.YtkldipbhenabfaaGreat.Abs
open Go Go.RowKit Go.Proofs.YtkldipbhenabfaaGreat

def lqd {α : Type} (S : α → St) (I : α → Prop) (μ : α → Nat) (u : α) (Q : AE → St → Prop) : AE → St → Prop := fun e s' => match e with | .normal => ∃ v, μ v < μ u ∧ I v ∧ Wk s' (S v) | e => Q e s'
section
variable {α : Type} {S : α → St} {I : α → Prop} {μ : α → Nat} {u : α} {Q : AE → St → Prop} {s : St}
theorem lqd_n : lqd S I μ u Q .normal s = (∃ v, μ v < μ u ∧ I v ∧ Wk s (S v)) := Eq.trans rfl rfl
theorem lqd_e {j : Nat} : lqd S I μ u Q (.exit j) s = Q (.exit j) s := Eq.trans rfl rfl
theorem lqd_r : lqd S I μ u Q .ret s = Q .ret s := Eq.trans rfl rfl
attribute [go_sem] lqd_n lqd_e lqd_r
end
theorem vc_down {C : Nat → List SV → SV → Prop} {b : AC} {Q : AE → St → Prop} {α : Type} (S : α → St) (I : α → Prop) (μ : α → Nat) (hstep : ∀ u, I u → vc C b (lqd S I μ u Q) (S u)) {s : St} (u0 : α) (hI : I u0) (h0 : Wk s (S u0)) : vc C (.loop b) Q s := by
  refine vc_loop (fun m s => ∃ u, m = μ u ∧ I u ∧ Wk s (S u)) (fun m s hI => ?_) (μ u0) s ⟨u0, rfl, hI, h0⟩
  obtain ⟨u, rfl, hI, hw⟩ := hI
  refine ⟨S u, hw, vc_mono (fun e s' he => ?_) (hstep u hI)⟩
  cases e with
  | normal => obtain ⟨v, h1, h2, h3⟩ := he; exact ⟨μ v, h1, v, rfl, h2, h3⟩
  | exit id => exact he
  | ret => exact he

mutual
def headT : Tm → Tm
  | .mk k i j n l => if k = 12 then (headL l).getD 3 zT else .mk k i j n l
def headL : List Tm → List Tm
  | [] => []
  | t :: l => headT t :: headL l
end
mutual
def eraseT : Tm → Tm
  | .mk k i j n l => if k = 12 then (eraseL l).getD 3 zT else .mk k i j n (eraseL l)
def eraseL : List Tm → List Tm
  | [] => []
  | t :: l => eraseT t :: eraseL l
end
mutual
def cntT : Tm → Nat
  | .mk k _ _ _ l => (if k = 12 then 1 else 0) + cntL l
def cntL : List Tm → Nat
  | [] => 0
  | t :: l => cntT t + cntL l
end
theorem eraseL_map : ∀ l : List Tm, eraseL l = l.map eraseT := by
  intro l
  induction l with
  | nil => rw [eraseL]; rfl
  | cons t l ih => rw [eraseL, ih]; rfl
theorem headT_tr {i j n : Int} {a b p x : Tm} : headT (.mk 12 i j n [a, b, p, x]) = headT x := by
  rw [headT, if_pos rfl, headL, headL, headL, headL, headL]; rfl
theorem headT_no {k i j n : Int} {l : List Tm} (h : k ≠ 12) : headT (.mk k i j n l) = .mk k i j n l := by rw [headT, if_neg h]
theorem eraseT_tr {i j n : Int} {a b p x : Tm} : eraseT (.mk 12 i j n [a, b, p, x]) = eraseT x := by
  rw [eraseT, if_pos rfl, eraseL, eraseL, eraseL, eraseL, eraseL]; rfl
theorem eraseT_no {k i j n : Int} {l : List Tm} (h : k ≠ 12) : eraseT (.mk k i j n l) = .mk k i j n (l.map eraseT) := by rw [eraseT, if_neg h, eraseL_map]
theorem cntT_mk (k i j n : Int) (l : List Tm) : cntT (.mk k i j n l) = (if k = 12 then 1 else 0) + cntL l := by rw [cntT]
theorem cnt_mem {t : Tm} : ∀ {l : List Tm}, t ∈ l → cntT t ≤ cntL l := by
  intro l
  induction l with
  | nil => intro h; cases h
  | cons u l ih =>
    intro h
    rw [cntL]
    rcases List.mem_cons.1 h with rfl | h
    · omega
    · have := ih h; omega
theorem mark_kid {k i j n : Int} {l : List Tm} {t : Tm} (h : markT (.mk k i j n l) = true) (hk : k ≠ 12) (ht : t ∈ l) : markT t = true := by
  rw [mark_kids, Bool.and_eq_true] at h
  obtain ⟨q, hq⟩ := allI_mem h.2 ht
  rw [beq_no hk, Bool.false_and] at hq
  simpa using hq
theorem mark_tr {i j n : Int} {l : List Tm} (h : markT (.mk 12 i j n l) = true) : ∃ a b p x, l = [a, b, p, x] ∧ markT a = true ∧ markT b = true ∧ plainT p = true ∧ markT x = true := by
  rw [mark_kids, Bool.and_eq_true] at h
  obtain ⟨h1, h2⟩ := h
  unfold rightN at h1
  simp only [Bool.and_eq_true, Bool.not_eq_true', bne_eq_false_iff_eq] at h1
  have h3 := h1.2.1
  have e : kidsN 12 n = 4 := by unfold kidsN; rfl
  rw [e] at h3
  match l, h3 with
  | [a, b, p, x], _ =>
    refine ⟨a, b, p, x, rfl, ?_⟩
    simp only [allI, Bool.and_eq_true] at h2
    obtain ⟨q1, q2, q3, q4, _⟩ := h2
    exact ⟨by simpa using q1, by simpa using q2, by simpa using q3, by simpa using q4⟩
theorem mark_pos {k i j n : Int} {l : List Tm} (h : markT (.mk k i j n l) = true) : 1 ≤ k ∧ k ≤ 12 := by
  rw [mark_kids, Bool.and_eq_true, ← rmarkedN_eq] at h
  have h1 := h.1
  unfold rmarkedN at h1
  simp only [Bool.and_eq_true, Bool.not_eq_true', Bool.or_eq_false_iff, decide_eq_false_iff_not] at h1
  omega

theorem head_of (t : Tm) : TOk t → markT t = true → TOk (headT t) ∧ markT (headT t) = true ∧ (headT t).k ≠ 12 ∧ eraseT (headT t) = eraseT t ∧ cntT (headT t) ≤ cntT t ∧ (t.k ≠ 12 → headT t = t) ∧ hgtT (headT t) ≤ hgtT t ∧ sizT (headT t) ≤ sizT t := by
  induction t using Tm.ind with
  | h k i j n l ih =>
    intro hok hm
    by_cases hk : k = 12
    · subst hk
      obtain ⟨a, b, p, x, rfl, ma, mb, mp, mx⟩ := mark_tr hm
      cases hok with
      | mk _ _ _ _ _ f1 f2 f3 f4 hb hl =>
      obtain ⟨g0, g1, g2, g3, g4, g5, g6, g7⟩ := ih x (by simp) (hl x (by simp)) mx
      have c1 : cntT x ≤ cntL [a, b, p, x] := cnt_mem (by simp)
      have c2 : hgtT x ≤ hgtL [a, b, p, x] := hgt_mem (by simp)
      have c3 : sizT x ≤ sizL [a, b, p, x] := siz_mem (by simp)
      rw [headT_tr, eraseT_tr, cntT_mk, hgtT_mk, sizT_mk, if_pos rfl]
      exact ⟨g0, g1, g2, g3, by omega, fun h => absurd rfl h, by omega, by omega⟩
    · rw [headT_no hk]
      exact ⟨hok, hm, hk, rfl, Nat.le_refl _, fun _ => rfl, Nat.le_refl _, Nat.le_refl _⟩
end Go.Proofs.YtkldipbhenabfaaGreat.Abs

set_option linter.unusedSimpArgs false
set_option linter.unusedVariables false
namespace Go.Proofs.YtkldipbhenabfaaGreat.Abs
open Go Go.RowKit Go.Proofs.YtkldipbhenabfaaGreat

def stripD (k : Int) : Nat := if k = 5 ∨ k = 8 ∨ k = 9 then 2 else 0
mutual
def stripT : Tm → Tm
  | .mk k i j n l =>
    if k = 12 then .mk 23 i 0 5 [(stripL l).getD 0 zT, (stripL l).getD 1 zT, l.getD 2 zT, (stripL l).getD 3 zT]
    else if k = 4 then .mk 14 0 0 0 [(stripL l).getD 0 zT, (stripL l).getD 2 zT]
    else if 3 ≤ k ∧ k ≤ 11 then .mk (k + 10) 0 0 0 ((stripL l).drop (stripD k))
    else .mk k i j n l
def stripL : List Tm → List Tm
  | [] => []
  | t :: l => stripT t :: stripL l
end
theorem stripL_map : ∀ l : List Tm, stripL l = l.map stripT := by
  intro l
  induction l with
  | nil => rw [stripL]; rfl
  | cons t l ih => rw [stripL, ih]; rfl
theorem stripT_tr {i j n : Int} {a b p x : Tm} : stripT (.mk 12 i j n [a, b, p, x]) = .mk 23 i 0 5 [stripT a, stripT b, p, stripT x] := by
  rw [stripT, if_pos rfl, stripL_map]; rfl
theorem stripT_lam {i j n : Int} {a b x : Tm} : stripT (.mk 4 i j n [a, b, x]) = .mk 14 0 0 0 [stripT a, stripT x] := by
  rw [stripT, if_neg (by decide), if_pos rfl, stripL_map]; rfl
theorem stripT_gen {k i j n : Int} {l : List Tm} (h1 : 3 ≤ k) (h2 : k ≤ 11) (h4 : k ≠ 4) : stripT (.mk k i j n l) = .mk (k + 10) 0 0 0 ((l.drop (stripD k)).map stripT) := by
  rw [stripT, if_neg (by omega), if_neg h4, if_pos ⟨h1, h2⟩, stripL_map, List.map_drop]
theorem stripT_id {k i j n : Int} {l : List Tm} (h : k ≤ 2 ∨ 13 ≤ k) : stripT (.mk k i j n l) = .mk k i j n l := by
  rw [stripT, if_neg (by omega), if_neg (by omega), if_neg (by omega)]
theorem strip_plain {t : Tm} (h : plainT t = true) : stripT t = t := by
  cases t with
  | mk k i j n l =>
  have h : rightT (.mk k i j n l) 2 = true := h
  rw [plain_kids, Bool.and_eq_true, ← rplainN_eq] at h
  have h1 := h.1
  unfold rplainN at h1
  simp only [Bool.and_eq_true, Bool.not_eq_true', Bool.and_eq_false_iff, bne_eq_false_iff_eq, Bool.or_eq_false_iff, decide_eq_false_iff_not] at h1
  exact stripT_id (by omega)
theorem mark_len {k i j n : Int} {l : List Tm} (h : markT (.mk k i j n l) = true) : (l.length : Int) = kidsN k n ∧ numsB k i j n = true := by
  rw [mark_kids, Bool.and_eq_true, ← rmarkedN_eq] at h
  have h1 := h.1
  unfold rmarkedN nodeB at h1
  simp only [Bool.and_eq_true, beq_iff_eq] at h1
  exact ⟨h1.2.1, h1.2.2⟩
inductive Shp : Tm → Prop
  | sort (i : Int) : 0 ≤ i ∧ i ≤ 1000 → Shp (.mk 1 i 0 0 [])
  | var (i : Int) : 0 ≤ i ∧ i ≤ 2147483647 → Shp (.mk 2 i 0 0 [])
  | tr (i : Int) (a b p x : Tm) : 0 ≤ i ∧ i ≤ 1000 → markT a = true → markT b = true → plainT p = true → markT x = true → Shp (.mk 12 i 0 0 [a, b, p, x])
  | lam (i j : Int) (a b x : Tm) : 0 ≤ i ∧ i ≤ 1000 → 0 ≤ j ∧ j ≤ 1000 → markT a = true → markT b = true → markT x = true → Shp (.mk 4 i j 0 [a, b, x])
  | two (k i j : Int) (a b : Tm) : k = 3 ∨ k = 6 ∨ k = 11 → 0 ≤ i ∧ i ≤ 1000 → 0 ≤ j ∧ j ≤ 1000 → (k = 11 → j = 0) → markT a = true → markT b = true → Shp (.mk k i j 0 [a, b])
  | three (k i j : Int) (a b c : Tm) : k = 8 ∨ k = 9 ∨ k = 10 → 0 ≤ i ∧ i ≤ 1000 → 0 ≤ j ∧ j ≤ 1000 → (k = 10 → j = 0) → markT a = true → markT b = true → markT c = true → Shp (.mk k i j 0 [a, b, c])
  | four (k i j : Int) (a b c d : Tm) : k = 5 ∨ k = 7 → 0 ≤ i ∧ i ≤ 1000 → 0 ≤ j ∧ j ≤ 1000 → markT a = true → markT b = true → markT c = true → markT d = true → Shp (.mk k i j 0 [a, b, c, d])
theorem levq_le {i : Int} (h : lev i = true) : 0 ≤ i ∧ i ≤ 1000 := by
  unfold lev at h
  simpa using h
set_option maxHeartbeats 1000000 in
theorem shp_of {t : Tm} (h : markT t = true) : Shp t := by
  cases t with
  | mk k i j n l =>
  obtain ⟨h1, h2⟩ := mark_pos h
  obtain ⟨hl, hn⟩ := mark_len h
  have hk : ∀ t ∈ l, k ≠ 12 → markT t = true := fun t ht hk => mark_kid h hk ht
  have hc : k = 1 ∨ k = 2 ∨ k = 3 ∨ k = 4 ∨ k = 5 ∨ k = 6 ∨ k = 7 ∨ k = 8 ∨ k = 9 ∨ k = 10 ∨ k = 11 ∨ k = 12 := by omega
  rcases hc with rfl | rfl | rfl | rfl | rfl | rfl | rfl | rfl | rfl | rfl | rfl | rfl
  · rw [show kidsN 1 n = 0 from rfl] at hl
    have : l = [] := List.length_eq_zero_iff.1 (by omega)
    subst this
    simp only [numsB, if_true, true_or, Bool.and_eq_true, beq_iff_eq] at hn
    obtain ⟨q1, rfl, rfl⟩ := hn
    exact .sort i (levq_le q1)
  · rw [show kidsN 2 n = 0 from rfl] at hl
    have : l = [] := List.length_eq_zero_iff.1 (by omega)
    subst this
    unfold numsB at hn
    rw [if_neg (by omega), if_pos rfl] at hn
    simp only [Bool.and_eq_true, beq_iff_eq, decide_eq_true_eq] at hn
    obtain ⟨q1, q2, rfl, rfl⟩ := hn
    exact .var i ⟨q1, q2⟩
  · rw [show kidsN 3 n = 2 from rfl] at hl
    match l, hl with
    | [a, b], _ =>
      unfold numsB at hn
      rw [if_neg (by omega), if_neg (by omega), if_pos (by omega)] at hn
      simp only [Bool.and_eq_true, beq_iff_eq] at hn
      obtain ⟨q1, q2, rfl⟩ := hn
      exact .two 3 i j a b (by omega) (levq_le q1) (levq_le q2) (fun h => by omega) (hk a (by simp) (by decide)) (hk b (by simp) (by decide))
  · rw [show kidsN 4 n = 3 from rfl] at hl
    match l, hl with
    | [a, b, c], _ =>
      unfold numsB at hn
      rw [if_neg (by omega), if_neg (by omega), if_pos (by omega)] at hn
      simp only [Bool.and_eq_true, beq_iff_eq] at hn
      obtain ⟨q1, q2, rfl⟩ := hn
      exact .lam i j a b c (levq_le q1) (levq_le q2) (hk a (by simp) (by decide)) (hk b (by simp) (by decide)) (hk c (by simp) (by decide))
  · rw [show kidsN 5 n = 4 from rfl] at hl
    match l, hl with
    | [a, b, c, d], _ =>
      unfold numsB at hn
      rw [if_neg (by omega), if_neg (by omega), if_pos (by omega)] at hn
      simp only [Bool.and_eq_true, beq_iff_eq] at hn
      obtain ⟨q1, q2, rfl⟩ := hn
      exact .four 5 i j a b c d (by omega) (levq_le q1) (levq_le q2) (hk a (by simp) (by decide)) (hk b (by simp) (by decide)) (hk c (by simp) (by decide)) (hk d (by simp) (by decide))
  · rw [show kidsN 6 n = 2 from rfl] at hl
    match l, hl with
    | [a, b], _ =>
      unfold numsB at hn
      rw [if_neg (by omega), if_neg (by omega), if_pos (by omega)] at hn
      simp only [Bool.and_eq_true, beq_iff_eq] at hn
      obtain ⟨q1, q2, rfl⟩ := hn
      exact .two 6 i j a b (by omega) (levq_le q1) (levq_le q2) (fun h => by omega) (hk a (by simp) (by decide)) (hk b (by simp) (by decide))
  · rw [show kidsN 7 n = 4 from rfl] at hl
    match l, hl with
    | [a, b, c, d], _ =>
      unfold numsB at hn
      rw [if_neg (by omega), if_neg (by omega), if_pos (by omega)] at hn
      simp only [Bool.and_eq_true, beq_iff_eq] at hn
      obtain ⟨q1, q2, rfl⟩ := hn
      exact .four 7 i j a b c d (by omega) (levq_le q1) (levq_le q2) (hk a (by simp) (by decide)) (hk b (by simp) (by decide)) (hk c (by simp) (by decide)) (hk d (by simp) (by decide))
  · rw [show kidsN 8 n = 3 from rfl] at hl
    match l, hl with
    | [a, b, c], _ =>
      unfold numsB at hn
      rw [if_neg (by omega), if_neg (by omega), if_pos (by omega)] at hn
      simp only [Bool.and_eq_true, beq_iff_eq] at hn
      obtain ⟨q1, q2, rfl⟩ := hn
      exact .three 8 i j a b c (by omega) (levq_le q1) (levq_le q2) (fun h => by omega) (hk a (by simp) (by decide)) (hk b (by simp) (by decide)) (hk c (by simp) (by decide))
  · rw [show kidsN 9 n = 3 from rfl] at hl
    match l, hl with
    | [a, b, c], _ =>
      unfold numsB at hn
      rw [if_neg (by omega), if_neg (by omega), if_pos (by omega)] at hn
      simp only [Bool.and_eq_true, beq_iff_eq] at hn
      obtain ⟨q1, q2, rfl⟩ := hn
      exact .three 9 i j a b c (by omega) (levq_le q1) (levq_le q2) (fun h => by omega) (hk a (by simp) (by decide)) (hk b (by simp) (by decide)) (hk c (by simp) (by decide))
  · rw [show kidsN 10 n = 3 from rfl] at hl
    match l, hl with
    | [a, b, c], _ =>
      unfold numsB at hn
      rw [if_pos (by omega)] at hn
      simp only [Bool.and_eq_true, beq_iff_eq] at hn
      obtain ⟨q1, rfl, rfl⟩ := hn
      exact .three 10 i 0 a b c (by omega) (levq_le q1) (by omega) (fun h => rfl) (hk a (by simp) (by decide)) (hk b (by simp) (by decide)) (hk c (by simp) (by decide))
  · rw [show kidsN 11 n = 2 from rfl] at hl
    match l, hl with
    | [a, b], _ =>
      unfold numsB at hn
      rw [if_pos (by omega)] at hn
      simp only [Bool.and_eq_true, beq_iff_eq] at hn
      obtain ⟨q1, rfl, rfl⟩ := hn
      exact .two 11 i 0 a b (by omega) (levq_le q1) (by omega) (fun h => rfl) (hk a (by simp) (by decide)) (hk b (by simp) (by decide))
  · obtain ⟨a, b, p, x, rfl, ma, mb, mp, mx⟩ := mark_tr h
    unfold numsB at hn
    rw [if_pos (by omega)] at hn
    simp only [Bool.and_eq_true, beq_iff_eq] at hn
    obtain ⟨q1, rfl, rfl⟩ := hn
    exact .tr i a b p x (levq_le q1) ma mb mp mx

theorem plain_of {k i j n : Int} {l : List Tm} (h : rightN k i j n 2 l.length = true) (hl : ∀ t ∈ l, plainT t = true) : plainT (.mk k i j n l) = true := by
  show rightT (.mk k i j n l) 2 = true
  rw [plain_kids, h, Bool.true_and, List.all_eq_true]
  exact hl
theorem tok_of {k i j n : Int} {l : List Tm} (h : TOk (.mk k i j n l)) : fit k ∧ fit i ∧ fit j ∧ fit n ∧ l.length * 56 ≤ 140737488355328 ∧ ∀ t ∈ l, TOk t := by
  cases h with
  | mk _ _ _ _ _ f1 f2 f3 f4 hb hl => exact ⟨f1, f2, f3, f4, hb, hl⟩
theorem strip_of (t : Tm) : TOk t → markT t = true → plainT (stripT t) = true ∧ TOk (stripT t) ∧ hgtT (stripT t) ≤ hgtT t := by
  induction t using Tm.ind with
  | h k i j n l ih =>
    intro hok hm
    obtain ⟨f1, f2, f3, f4, hb, hl⟩ := tok_of hok
    have hkids : ∀ t ∈ l, markT t = true → plainT (stripT t) = true ∧ TOk (stripT t) ∧ hgtT (stripT t) ≤ hgtT t := fun t ht hm => ih t ht (hl t ht) hm
    have hs := shp_of hm
    cases hs with
    | sort i h => rw [stripT_id (by omega)]; exact ⟨plain_of (by unfold rightN; simp [sortN, kidsN, tab, numsB, lev, h]) (by simp), hok, Nat.le_refl _⟩
    | var i h => rw [stripT_id (by omega)]; exact ⟨plain_of (by unfold rightN; simp [sortN, kidsN, tab, numsB, h]) (by simp), hok, Nat.le_refl _⟩
    | tr i a b p x h ma mb mp mx =>
      rw [stripT_tr]
      obtain ⟨a1, a2, a3⟩ := hkids a (by simp) ma
      obtain ⟨b1, b2, b3⟩ := hkids b (by simp) mb
      obtain ⟨x1, x2, x3⟩ := hkids x (by simp) mx
      refine ⟨plain_of (by unfold rightN; simp [sortN, kidsN, tab, numsB, lev, h]; rfl) (by simp [a1, b1, x1, mp]), .mk _ _ _ _ _ (by unfold fit; omega) f2 (by unfold fit; omega) (by unfold fit; omega) (by simp) (by simp [a2, b2, x2, hl p (by simp)]), ?_⟩
      simp only [hgtT_mk, hgtL]
      omega
    | lam i j a b x h h' ma mb mx =>
      rw [stripT_lam]
      obtain ⟨a1, a2, a3⟩ := hkids a (by simp) ma
      obtain ⟨x1, x2, x3⟩ := hkids x (by simp) mx
      refine ⟨plain_of (by unfold rightN; simp [sortN, kidsN, tab, numsB]) (by simp [a1, x1]), .mk _ _ _ _ _ (by unfold fit; omega) (by unfold fit; omega) (by unfold fit; omega) (by unfold fit; omega) (by simp) (by simp [a2, x2]), ?_⟩
      simp only [hgtT_mk, hgtL]
      omega
    | two k i j a b hk h h' _ ma mb =>
      obtain ⟨a1, a2, a3⟩ := hkids a (by simp) ma
      obtain ⟨b1, b2, b3⟩ := hkids b (by simp) mb
      have e : stripT (.mk k i j 0 [a, b]) = .mk (k + 10) 0 0 0 [stripT a, stripT b] := by
        rw [stripT_gen (by omega) (by omega) (by omega)]
        rcases hk with rfl | rfl | rfl <;> rfl
      rw [e]
      refine ⟨plain_of (by rcases hk with rfl | rfl | rfl <;> rfl) (by simp [a1, b1]), .mk _ _ _ _ _ (by unfold fit; omega) (by unfold fit; omega) (by unfold fit; omega) (by unfold fit; omega) (by simp) (by simp [a2, b2]), ?_⟩
      simp only [hgtT_mk, hgtL]
      omega
    | three k i j a b c hk h h' _ ma mb mc =>
      obtain ⟨a1, a2, a3⟩ := hkids a (by simp) ma
      obtain ⟨b1, b2, b3⟩ := hkids b (by simp) mb
      obtain ⟨c1, c2, c3⟩ := hkids c (by simp) mc
      by_cases h10 : k = 10
      · subst h10
        have e : stripT (.mk 10 i j 0 [a, b, c]) = .mk 20 0 0 0 [stripT a, stripT b, stripT c] := by
          rw [stripT_gen (by omega) (by omega) (by omega)]; rfl
        rw [e]
        refine ⟨plain_of rfl (by simp [a1, b1, c1]), .mk _ _ _ _ _ (by unfold fit; omega) (by unfold fit; omega) (by unfold fit; omega) (by unfold fit; omega) (by simp) (by simp [a2, b2, c2]), ?_⟩
        simp only [hgtT_mk, hgtL]
        omega
      · have e : stripT (.mk k i j 0 [a, b, c]) = .mk (k + 10) 0 0 0 [stripT c] := by
          rw [stripT_gen (by omega) (by omega) (by omega)]
          rcases hk with rfl | rfl | rfl
          · rfl
          · rfl
          · exact absurd rfl h10
        rw [e]
        refine ⟨plain_of (by rcases hk with rfl | rfl | rfl; rfl; rfl; exact absurd rfl h10) (by simp [c1]), .mk _ _ _ _ _ (by unfold fit; omega) (by unfold fit; omega) (by unfold fit; omega) (by unfold fit; omega) (by simp) (by simp [c2]), ?_⟩
        simp only [hgtT_mk, hgtL]
        omega
    | four k i j a b c d hk h h' ma mb mc md =>
      obtain ⟨a1, a2, a3⟩ := hkids a (by simp) ma
      obtain ⟨b1, b2, b3⟩ := hkids b (by simp) mb
      obtain ⟨c1, c2, c3⟩ := hkids c (by simp) mc
      obtain ⟨d1, d2, d3⟩ := hkids d (by simp) md
      rcases hk with rfl | rfl
      · have e : stripT (.mk 5 i j 0 [a, b, c, d]) = .mk 15 0 0 0 [stripT c, stripT d] := by
          rw [stripT_gen (by omega) (by omega) (by omega)]; rfl
        rw [e]
        refine ⟨plain_of rfl (by simp [c1, d1]), .mk _ _ _ _ _ (by unfold fit; omega) (by unfold fit; omega) (by unfold fit; omega) (by unfold fit; omega) (by simp) (by simp [c2, d2]), ?_⟩
        simp only [hgtT_mk, hgtL]
        omega
      · have e : stripT (.mk 7 i j 0 [a, b, c, d]) = .mk 17 0 0 0 [stripT a, stripT b, stripT c, stripT d] := by
          rw [stripT_gen (by omega) (by omega) (by omega)]; rfl
        rw [e]
        refine ⟨plain_of rfl (by simp [a1, b1, c1, d1]), .mk _ _ _ _ _ (by unfold fit; omega) (by unfold fit; omega) (by unfold fit; omega) (by unfold fit; omega) (by simp) (by simp [a2, b2, c2, d2]), ?_⟩
        simp only [hgtT_mk, hgtL]
        omega

def pm (F : Nat → Int) : Nat → Int
  | 0 => 0
  | x + 1 => max (pm F x) (F x)
theorem pm_pos (F : Nat → Int) : ∀ x, 0 ≤ pm F x := by
  intro x
  induction x with
  | zero => exact Int.le_refl _
  | succ x ih => rw [pm]; omega
theorem pm_down (F : Nat → Int) (d : Int) (hd : 0 ≤ d) : ∀ x, pm (fun y => max (F y - d) 0) x = max (pm F x - d) 0 := by
  intro x
  induction x with
  | zero => simp only [pm]; omega
  | succ x ih => rw [pm, pm, ih]; omega
theorem pm_congr {F G : Nat → Int} : ∀ {x : Nat}, (∀ y, y < x → F y = G y) → pm F x = pm G x := by
  intro x
  induction x with
  | zero => intro _; rfl
  | succ x ih => intro h; rw [pm, pm, ih (fun y hy => h y (by omega)), h x (by omega)]
theorem pm_le {F : Nat → Int} {b : Int} (hb : 0 ≤ b) : ∀ {x : Nat}, (∀ y, y < x → F y ≤ b) → pm F x ≤ b := by
  intro x
  induction x with
  | zero => intro _; exact hb
  | succ x ih => intro h; rw [pm]; have := ih (fun y hy => h y (by omega)); have := h x (by omega); omega
theorem pm_shift (F : Nat → Int) : ∀ x, pm F (x + 1) = max (F 0) (pm (fun y => F (y + 1)) x) := by
  intro x
  induction x with
  | zero => simp only [pm]; omega
  | succ x ih => rw [pm, ih, pm]; omega
mutual
def freeR : Tm → Int
  | .mk k i _ _ l => if k = 2 then i + 1 else freeL k 0 l
def freeL (k : Int) : Nat → List Tm → Int
  | _, [] => 0
  | p, t :: l => max (freeR t - bindsN k p) (freeL k (p + 1) l)
end
theorem freeL_pm (k : Int) : ∀ (l : List Tm) (p : Nat), freeL k p l = pm (fun y => freeR (l[y]?.getD default) - bindsN k ((p + y : Nat) : Int)) l.length := by
  intro l
  induction l with
  | nil => intro p; rw [freeL]; rfl
  | cons t l ih =>
    intro p
    rw [freeL, ih, List.length_cons, pm_shift]
    simp only [List.getElem?_cons_zero, List.getElem?_cons_succ, Option.getD_some, Nat.add_zero]
    congr 1
    refine pm_congr (fun y _ => ?_)
    rw [show p + 1 + y = p + (y + 1) by omega]
theorem freeR_mk {k i j n : Int} {l : List Tm} (h : k ≠ 2) : freeR (.mk k i j n l) = pm (fun y => freeR (l[y]?.getD default) - bindsN k ((y : Nat) : Int)) l.length := by
  rw [freeR, if_neg h, freeL_pm]
  exact pm_congr (fun y _ => by rw [Nat.zero_add])
theorem freeR_bd (t : Tm) : ∀ w, rightT t w = true → 0 ≤ freeR t ∧ freeR t ≤ 2147483648 := by
  induction t using Tm.ind with
  | h k i j n l ih =>
    intro w hr
    by_cases h : k = 2
    · have := right_var hr h
      rw [freeR, if_pos h]
      omega
    · rw [freeR_mk h]
      refine ⟨pm_pos _ _, pm_le (by omega) (fun y hy => ?_)⟩
      obtain ⟨w', hw⟩ := right_kid hr (get_lt (d := default) hy)
      have := ih _ (get_lt (d := default) hy) w' hw
      have := binds_le k y
      omega
end Go.Proofs.YtkldipbhenabfaaGreat.Abs

set_option linter.unusedSimpArgs false
set_option linter.unusedVariables false
namespace Go.Proofs.YtkldipbhenabfaaGreat.Abs
open Go Go.RowKit Go.Proofs.YtkldipbhenabfaaGreat

def headF (t : Tm) : Tm := if markT t then headT t else zT
set_option maxRecDepth 10000 in
set_option maxHeartbeats 1000000 in
theorem con_head (t : Tm) (ht : TOk t) : Con 17 [.agg true (tv t)] (.agg true (tv (headF t))) := by
  have h1 := con_marked t ht
  have hz := tv_len t
  unfold headF
  cases hm : markT t
  · rw [hm] at h1
    refine (contract_of_vc (r := .agg true [.int .i64 0, .int .i64 0, .int .i64 0, .int .i64 0, .nils]) mixed Tryz.func17 tr17 ?_).weaken le_zT
    simp only [go_sem, reduceIte, reduceCtorEq, Nat.reduceAdd, Nat.reduceSub, Nat.reduceMul, Nat.reduceLT, Nat.reduceLeDiff, Nat.reduceEqDiff, Nat.reduceBEq, Nat.reduceGT, Int.reduceEq, Int.reduceNe, Int.reduceLT, Int.reduceLE, Int.reduceToNat, Int.reduceNeg, Int.reduceBEq, Int.reduceAdd, Int.reduceSub, Int.reduceGT, Int.reduceGE, Int.reduceBNe, hz]
    refine callK_of h1 ?_
    simp only [go_sem, reduceIte, reduceCtorEq, Nat.reduceAdd, Nat.reduceSub, Nat.reduceMul, Nat.reduceLT, Nat.reduceLeDiff, Nat.reduceEqDiff, Nat.reduceBEq, Nat.reduceGT, Int.reduceEq, Int.reduceNe, Int.reduceLT, Int.reduceLE, Int.reduceToNat, Int.reduceNeg, Int.reduceBEq, Int.reduceAdd, Int.reduceSub, Int.reduceGT, Int.reduceGE, Int.reduceBNe, hz]
  · rw [hm] at h1
    rw [if_pos rfl]
    obtain ⟨h, hh⟩ : ∃ h, headT t = h := ⟨_, rfl⟩
    rw [hh]
    refine contract_of_vc mixed Tryz.func17 tr17 ?_
    simp only [go_sem, reduceIte, reduceCtorEq, Nat.reduceAdd, Nat.reduceSub, Nat.reduceMul, Nat.reduceLT, Nat.reduceLeDiff, Nat.reduceEqDiff, Nat.reduceBEq, Nat.reduceGT, Int.reduceEq, Int.reduceNe, Int.reduceLT, Int.reduceLE, Int.reduceToNat, Int.reduceNeg, Int.reduceBEq, Int.reduceAdd, Int.reduceSub, Int.reduceGT, Int.reduceGE, Int.reduceBNe, hz]
    refine callK_of h1 ?_
    simp only [go_sem, reduceIte, reduceCtorEq, Nat.reduceAdd, Nat.reduceSub, Nat.reduceMul, Nat.reduceLT, Nat.reduceLeDiff, Nat.reduceEqDiff, Nat.reduceBEq, Nat.reduceGT, Int.reduceEq, Int.reduceNe, Int.reduceLT, Int.reduceLE, Int.reduceToNat, Int.reduceNeg, Int.reduceBEq, Int.reduceAdd, Int.reduceSub, Int.reduceGT, Int.reduceGE, Int.reduceBNe, hz]
    refine vc_down (fun u => ⟨(.junk :: .ref 0 0 0 0 :: .ref 1 0 0 0 :: .junk :: .junk :: .junk :: .junk :: .junk :: .junk :: .junk :: .junk :: .junk :: .junk :: .junk :: .junk :: .junk :: []), [⟨true, 5, [tv u], 0, 0, true⟩, ⟨true, 5, [[.int .i64 0, .int .i64 0, .int .i64 0, .int .i64 0, .nils]], 0, 0, true⟩]⟩) (fun u => TOk u ∧ markT u = true ∧ headT u = h) hgtT (fun u hI => ?_) t ⟨ht, hm, hh⟩ ?_
    · obtain ⟨ho, hmu, he⟩ := hI
      have hc := con_copy u ho
      have hzu := tv_len u
      have h0 := tv_0 (t := u)
      cases u with
      | mk kk i j n l =>
      by_cases hk : kk = 12
      · subst hk
        obtain ⟨a, b, p, x, rfl, ma, mb, mp, mx⟩ := mark_tr hmu
        obtain ⟨_, _, _, _, _, hl⟩ := tok_of ho
        have hzx := tv_len x
        have hlt : hgtT x ≤ hgtL [a, b, p, x] := hgt_mem (by simp)
        clear hc hzu h0
        rw [tv_mk]
        simp only [go_sem, reduceIte, reduceCtorEq, Nat.reduceAdd, Nat.reduceSub, Nat.reduceMul, Nat.reduceLT, Nat.reduceLeDiff, Nat.reduceEqDiff, Nat.reduceBEq, Nat.reduceGT, Int.reduceEq, Int.reduceNe, Int.reduceLT, Int.reduceLE, Int.reduceToNat, Int.reduceNeg, Int.reduceBEq, Int.reduceAdd, Int.reduceSub, Int.reduceGT, Int.reduceGE, Int.reduceBNe, List.map_cons, List.map_nil, hzx]
        refine ⟨x, by rw [hgtT_mk]; omega, ⟨hl x (by simp), mx, by rw [← he, headT_tr]⟩, wk_slots (by simp [slotsLe])⟩
      · rw [headT_no hk] at he
        subst he
        have q : (kk == 12) = false := beq_no hk
        rw [tv_mk] at hc hzu ⊢
        simp only [go_sem, reduceIte, reduceCtorEq, Nat.reduceAdd, Nat.reduceSub, Nat.reduceMul, Nat.reduceLT, Nat.reduceLeDiff, Nat.reduceEqDiff, Nat.reduceBEq, Nat.reduceGT, Int.reduceEq, Int.reduceNe, Int.reduceLT, Int.reduceLE, Int.reduceToNat, Int.reduceNeg, Int.reduceBEq, Int.reduceAdd, Int.reduceSub, Int.reduceGT, Int.reduceGE, Int.reduceBNe, q]
        refine callK_of hc ?_
        simp only [go_sem, reduceIte, reduceCtorEq, Nat.reduceAdd, Nat.reduceSub, Nat.reduceMul, Nat.reduceLT, Nat.reduceLeDiff, Nat.reduceEqDiff, Nat.reduceBEq, Nat.reduceGT, Int.reduceEq, Int.reduceNe, Int.reduceLT, Int.reduceLE, Int.reduceToNat, Int.reduceNeg, Int.reduceBEq, Int.reduceAdd, Int.reduceSub, Int.reduceGT, Int.reduceGE, Int.reduceBNe]
    · exact wk_slots (by simp [slotsLe])
set_option maxRecDepth 10000 in
set_option maxHeartbeats 2000000 in
theorem con_erase1 (N : Nat) : ∀ t, hgtT t ≤ N → TOk t → markT t = true → Con 64 [.agg true (tv t)] (.agg true (tv (eraseT t))) := by
  induction N with
  | zero => intro t h; cases t with | mk k i j n l => rw [hgtT_mk] at h; omega
  | succ N ih =>
    intro t hN ht hm
    obtain ⟨h, hh⟩ : ∃ h, headT t = h := ⟨_, rfl⟩
    obtain ⟨g0, g1, g2, g3, g4, g5, g6, g7⟩ := head_of t ht hm
    rw [hh] at g0 g1 g2 g3 g4 g6
    have hz := tv_len t
    cases h with
    | mk kk i j n l =>
    change kk ≠ 12 at g2
    rw [← g3, eraseT_no g2]
    obtain ⟨_, _, _, _, hb, hl⟩ := tok_of g0
    rw [hgtT_mk] at g6
    have H : ∀ r ∈ l.map tv, Con 64 [.agg true r] (.agg true (onT (fun t => tv (eraseT t)) [] r)) := fun r hr => by
      obtain ⟨u, hu, rfl⟩ := List.mem_map.1 hr
      rw [onT_tv]
      exact ih u (by have := hgt_mem hu; omega) (hl u hu) (mark_kid g1 g2 hu)
    have H5 : ∀ r ∈ l.map tv, (onT (fun t => tv (eraseT t)) [] r).length = 5 := fun r hr => by
      obtain ⟨u, hu, rfl⟩ := List.mem_map.1 hr
      rw [onT_tv]
      exact tv_len _
    have hY : tv (.mk kk i j n (l.map eraseT)) = [.int .i64 kk, .int .i64 i, .int .i64 j, .int .i64 n, .dsl 5 ((l.map tv).map (onT (fun t => tv (eraseT t)) []))] := by
      have e : (l.map eraseT).map tv = (l.map tv).map (onT (fun t => tv (eraseT t)) []) := by
        rw [List.map_map, List.map_map]
        apply List.map_congr_left
        intro u _
        simp only [Function.comp, onT_tv]
      rw [tv_mk, e]
    have hlen : (l.map tv).length = l.length := by simp
    have h5 := rows5 l
    have q : (kk == 12) = false := beq_no g2
    by_cases he : l = []
    · subst he
      refine (contract_of_vc (r := .agg true [.int .i64 kk, .int .i64 i, .int .i64 j, .int .i64 n, .nils]) mixed Tryz.func64 tr64 ?_).weaken (le_leaf kk i j n)
      simp only [go_sem, reduceIte, reduceCtorEq, Nat.reduceAdd, Nat.reduceSub, Nat.reduceMul, Nat.reduceLT, Nat.reduceLeDiff, Nat.reduceEqDiff, Nat.reduceBEq, Nat.reduceGT, Int.reduceEq, Int.reduceNe, Int.reduceLT, Int.reduceLE, Int.reduceToNat, Int.reduceNeg, Int.reduceBEq, Int.reduceAdd, Int.reduceSub, Int.reduceGT, Int.reduceGE, Int.reduceBNe, hz]
      refine vc_down (fun u => ⟨(.junk :: .ref 0 0 0 0 :: .ref 1 0 0 0 :: .junk :: .junk :: .junk :: .junk :: .junk :: .junk :: .junk :: .junk :: .junk :: .junk :: .junk :: .junk :: .junk :: .junk :: .junk :: .junk :: .junk :: .junk :: .junk :: .junk :: .junk :: .junk :: .junk :: .junk :: .junk :: .junk :: .junk :: .junk :: .junk :: .junk :: .junk :: .junk :: .junk :: .junk :: .junk :: .junk :: .junk :: []), [⟨true, 5, [tv u], 0, 0, true⟩, ⟨true, 5, [[.int .i64 0, .int .i64 0, .int .i64 0, .int .i64 0, .nils]], 0, 0, true⟩]⟩) (fun u => TOk u ∧ markT u = true ∧ headT u = .mk kk i j n []) hgtT (fun u hI => ?_) t ⟨ht, hm, hh⟩ ?_
      · obtain ⟨ho, hmu, he⟩ := hI
        cases u with
        | mk kk' i' j' n' l' =>
        by_cases hk : kk' = 12
        · subst hk
          obtain ⟨a, b, p, x, rfl, ma, mb, mp, mx⟩ := mark_tr hmu
          obtain ⟨_, _, _, _, _, hl⟩ := tok_of ho
          have hzx := tv_len x
          have hlt : hgtT x ≤ hgtL [a, b, p, x] := hgt_mem (by simp)
          rw [tv_mk]
          simp only [go_sem, reduceIte, reduceCtorEq, Nat.reduceAdd, Nat.reduceSub, Nat.reduceMul, Nat.reduceLT, Nat.reduceLeDiff, Nat.reduceEqDiff, Nat.reduceBEq, Nat.reduceGT, Int.reduceEq, Int.reduceNe, Int.reduceLT, Int.reduceLE, Int.reduceToNat, Int.reduceNeg, Int.reduceBEq, Int.reduceAdd, Int.reduceSub, Int.reduceGT, Int.reduceGE, Int.reduceBNe, List.map_cons, List.map_nil, hzx]
          refine ⟨x, by rw [hgtT_mk]; omega, ⟨hl x (by simp), mx, by rw [← he, headT_tr]⟩, wk_slots (by simp [slotsLe])⟩
        · rw [headT_no hk] at he
          cases he
          rw [tv_mk]
          simp only [go_sem, reduceIte, reduceCtorEq, Nat.reduceAdd, Nat.reduceSub, Nat.reduceMul, Nat.reduceLT, Nat.reduceLeDiff, Nat.reduceEqDiff, Nat.reduceBEq, Nat.reduceGT, Int.reduceEq, Int.reduceNe, Int.reduceLT, Int.reduceLE, Int.reduceToNat, Int.reduceNeg, Int.reduceBEq, Int.reduceAdd, Int.reduceSub, Int.reduceGT, Int.reduceGE, Int.reduceBNe, q, List.map_nil]
      · exact wk_slots (by simp [slotsLe])
    · rw [hY]
      have hne : (l.map tv).length ≠ 0 := fun h => he (List.length_eq_zero_iff.1 (by omega))
      have h2 : (l.map tv).length * 56 ≤ 140737488355328 := by omega
      refine contract_of_vc mixed Tryz.func64 tr64 ?_
      simp only [go_sem, reduceIte, reduceCtorEq, Nat.reduceAdd, Nat.reduceSub, Nat.reduceMul, Nat.reduceLT, Nat.reduceLeDiff, Nat.reduceEqDiff, Nat.reduceBEq, Nat.reduceGT, Int.reduceEq, Int.reduceNe, Int.reduceLT, Int.reduceLE, Int.reduceToNat, Int.reduceNeg, Int.reduceBEq, Int.reduceAdd, Int.reduceSub, Int.reduceGT, Int.reduceGE, Int.reduceBNe, hz]
      refine vc_down (fun u => ⟨(.junk :: .ref 0 0 0 0 :: .ref 1 0 0 0 :: .junk :: .junk :: .junk :: .junk :: .junk :: .junk :: .junk :: .junk :: .junk :: .junk :: .junk :: .junk :: .junk :: .junk :: .junk :: .junk :: .junk :: .junk :: .junk :: .junk :: .junk :: .junk :: .junk :: .junk :: .junk :: .junk :: .junk :: .junk :: .junk :: .junk :: .junk :: .junk :: .junk :: .junk :: .junk :: .junk :: .junk :: []), [⟨true, 5, [tv u], 0, 0, true⟩, ⟨true, 5, [[.int .i64 0, .int .i64 0, .int .i64 0, .int .i64 0, .nils]], 0, 0, true⟩]⟩) (fun u => TOk u ∧ markT u = true ∧ headT u = .mk kk i j n l) hgtT (fun u hI => ?_) t ⟨ht, hm, hh⟩ ?_
      · obtain ⟨ho, hmu, he⟩ := hI
        cases u with
        | mk kk' i' j' n' l' =>
        by_cases hk : kk' = 12
        · subst hk
          obtain ⟨a, b, p, x, rfl, ma, mb, mp, mx⟩ := mark_tr hmu
          obtain ⟨_, _, _, _, _, hl⟩ := tok_of ho
          have hzx := tv_len x
          have hlt : hgtT x ≤ hgtL [a, b, p, x] := hgt_mem (by simp)
          rw [tv_mk]
          simp only [go_sem, reduceIte, reduceCtorEq, Nat.reduceAdd, Nat.reduceSub, Nat.reduceMul, Nat.reduceLT, Nat.reduceLeDiff, Nat.reduceEqDiff, Nat.reduceBEq, Nat.reduceGT, Int.reduceEq, Int.reduceNe, Int.reduceLT, Int.reduceLE, Int.reduceToNat, Int.reduceNeg, Int.reduceBEq, Int.reduceAdd, Int.reduceSub, Int.reduceGT, Int.reduceGE, Int.reduceBNe, List.map_cons, List.map_nil, hzx]
          refine ⟨x, by rw [hgtT_mk]; omega, ⟨hl x (by simp), mx, by rw [← he, headT_tr]⟩, wk_slots (by simp [slotsLe])⟩
        · rw [headT_no hk] at he
          cases he
          rw [tv_mk]
          generalize l.map tv = rows at *
          have hz1 : ((rows.length : Int) == 0) = false := beq_no (by omega)
          have hz2 : (rows.length : Int) * 56 ≤ 140737488355328 := by omega
          have hz3 : (rows.length : Int) ≤ 140737488355328 := by omega
          have hz4 : (0 : Int) ≤ (rows.length : Int) := by omega
          generalize hX : onT (fun t => tv (eraseT t)) [] = X at *
          have hys : (rows.map X).length = rows.length := by simp
          have hyx : ∀ x, x < rows.length → (rows.map X)[x]?.getD [] = X (rows[x]?.getD []) := fun x hx => by
            rw [List.getElem?_map, List.getElem?_eq_getElem hx]; rfl
          generalize rows.map X = ys at *
          simp only [go_sem, reduceIte, reduceCtorEq, Nat.reduceAdd, Nat.reduceSub, Nat.reduceMul, Nat.reduceLT, Nat.reduceLeDiff, Nat.reduceEqDiff, Nat.reduceBEq, Nat.reduceGT, Int.reduceEq, Int.reduceNe, Int.reduceLT, Int.reduceLE, Int.reduceToNat, Int.reduceNeg, Int.reduceBEq, Int.reduceAdd, Int.reduceSub, Int.reduceGT, Int.reduceGE, Int.reduceBNe, q, hz1, hz2, hz3, hz4, Int.le_refl]
          intros
          refine vc_for (fun x => ⟨(.junk :: .ref 0 0 0 0 :: .ref 1 0 0 0 :: .osl 2 0 0 rows.length :: .junk :: .junk :: .junk :: .junk :: .junk :: .junk :: .junk :: .junk :: .junk :: .junk :: .junk :: .junk :: .junk :: .junk :: .junk :: .junk :: .junk :: .junk :: .junk :: .junk :: .dsl 5 rows :: .int .i64 rows.length :: .int .i64 x :: .junk :: .junk :: .junk :: .junk :: .junk :: .junk :: .junk :: .junk :: .junk :: .junk :: .junk :: .junk :: .junk :: []),
            [⟨true, 5, [[.int .i64 kk, .int .i64 i, .int .i64 j, .int .i64 n, .dsl 5 rows]], 0, 0, true⟩, ⟨true, 5, [[.int .i64 0, .int .i64 0, .int .i64 0, .int .i64 0, .nils]], 0, 0, true⟩,
             ⟨false, 5, ys.take x ++ List.replicate (ys.length - x) [.int .i64 0, .int .i64 0, .int .i64 0, .int .i64 0, .nils], 0, 0, true⟩]⟩) rows.length (fun x hx => ?_) ?_
          · simp only [go_sem, reduceIte, reduceCtorEq, Nat.reduceAdd, Nat.reduceSub, Nat.reduceMul, Nat.reduceLT, Nat.reduceLeDiff, Nat.reduceEqDiff, Nat.reduceBEq, Nat.reduceGT, Int.reduceEq, Int.reduceNe, Int.reduceLT, Int.reduceLE, Int.reduceToNat, Int.reduceNeg, Int.reduceBEq, Int.reduceAdd, Int.reduceSub, Int.reduceGT, Int.reduceGE, Int.reduceBNe]
            refine ⟨fun h => ?_, fun h => ?_⟩
            · have hlt := of_decide_eq_true h
              have hlt' : x < rows.length := by omega
              have e0 : (0 : Int) ≤ (x : Int) := by omega
              have hm := get_lt (d := []) hlt'
              have h5' := h5 _ hm
              have hu := H5 _ hm
              have hc := H _ hm
              have hy := hyx x hlt'
              simp only [go_sem, reduceIte, reduceCtorEq, Nat.reduceAdd, Nat.reduceSub, Nat.reduceMul, Nat.reduceLT, Nat.reduceLeDiff, Nat.reduceEqDiff, Nat.reduceBEq, Nat.reduceGT, Int.reduceEq, Int.reduceNe, Int.reduceLT, Int.reduceLE, Int.reduceToNat, Int.reduceNeg, Int.reduceBEq, Int.reduceAdd, Int.reduceSub, Int.reduceGT, Int.reduceGE, Int.reduceBNe, hlt, e0, h5']
              refine callK_of hc ?_
              simp only [go_sem, reduceIte, reduceCtorEq, Nat.reduceAdd, Nat.reduceSub, Nat.reduceMul, Nat.reduceLT, Nat.reduceLeDiff, Nat.reduceEqDiff, Nat.reduceBEq, Nat.reduceGT, Int.reduceEq, Int.reduceNe, Int.reduceLT, Int.reduceLE, Int.reduceToNat, Int.reduceNeg, Int.reduceBEq, Int.reduceAdd, Int.reduceSub, Int.reduceGT, Int.reduceGE, Int.reduceBNe, hlt, hlt', e0, hu, hys]
              have ts := take_set (l := ys) (z := [.int .i64 0, .int .i64 0, .int .i64 0, .int .i64 0, .nils]) (d := []) (i := x) (by omega)
              rw [hy, hys] at ts
              refine ⟨by simp [hys]; omega, ?_⟩
              rw [w64 (n := (x : Int) + 1) (by unfold fit; omega)]
              exact wk_trunc 3 (by simp [slotsLe]) (by simp only [List.take_succ_cons, List.take_zero, ts]) (by simp [below]) (by simp)
            · have hge := of_decide_eq_false h
              have hxe : x = rows.length := by omega
              subst hxe
              have ht : ys.take rows.length = ys := by rw [← hys, List.take_length]
              simp only [go_sem, reduceIte, reduceCtorEq, Nat.reduceAdd, Nat.reduceSub, Nat.reduceMul, Nat.reduceLT, Nat.reduceLeDiff, Nat.reduceEqDiff, Nat.reduceBEq, Nat.reduceGT, Int.reduceEq, Int.reduceNe, Int.reduceLT, Int.reduceLE, Int.reduceToNat, Int.reduceNeg, Int.reduceBEq, Int.reduceAdd, Int.reduceSub, Int.reduceGT, Int.reduceGE, Int.reduceBNe, hys, ht, Nat.sub_self, List.replicate_zero, List.append_nil]
          · simp only [List.take_zero, List.nil_append, Nat.sub_zero, hys]
            exact wk_slots (by simp [slotsLe])
      · exact wk_slots (by simp [slotsLe])
theorem con_erase (t : Tm) (ht : TOk t) (hm : markT t = true) : Con 64 [.agg true (tv t)] (.agg true (tv (eraseT t))) := con_erase1 _ t (Nat.le_refl _) ht hm

/-! Counts -/
end Go.Proofs.YtkldipbhenabfaaGreat.Abs

