/- Heights of what is not too heavy; beneath how many binders a kid stands. -/
import Derived.Test.YtadmdmhocglkfaaFo
set_option linter.unusedSimpArgs false
set_option linter.unusedVariables false
namespace Go.Proofs.Ytadmdmhocglkfaa.Abs
open Go Go.RowKit Go.Proofs.Ytadmdmhocglkfaa

mutual
/-- How high a term is. -/
def hgtT : Tm → Nat
  | .mk _ _ _ _ l => hgtL l + 1
def hgtL : List Tm → Nat
  | [] => 0
  | t :: l => max (hgtT t) (hgtL l)
end
theorem hgtT_mk (k i j n : Int) (l : List Tm) : hgtT (.mk k i j n l) = hgtL l + 1 := by rw [hgtT]
theorem hgt_mem {t : Tm} : ∀ {l : List Tm}, t ∈ l → hgtT t ≤ hgtL l := by
  intro l
  induction l with
  | nil => intro h; cases h
  | cons u l ih =>
    intro h
    rw [hgtL]
    rcases List.mem_cons.1 h with rfl | h
    · omega
    · have := ih h; omega
theorem hgtL_le {b : Nat} : ∀ {l : List Tm}, (∀ t ∈ l, hgtT t ≤ b) → hgtL l ≤ b := by
  intro l
  induction l with
  | nil => intro _; rw [hgtL]; omega
  | cons u l ih =>
    intro h
    rw [hgtL]
    have h1 := h u (by simp)
    have h2 := ih (fun t ht => h t (by simp [ht]))
    omega

/-- Sums that end once they are too great. -/
def sumsA (a : Int) (V : Nat → Int → Int) (most : Int) : Nat → Int
  | 0 => a
  | x + 1 => IntKind.i64.wrap (sumsA a V most x + V x (IntKind.i64.wrap (most - sumsA a V most x)))

theorem sums_ok {a : Int} {V : Nat → Int → Int} {most : Int} {n : Nat} {B : Nat → Prop} (h0 : 0 ≤ a) (h1 : a ≤ 1) (hm : 0 ≤ most) (hm2 : most ≤ 1000000)
    (hV : ∀ x, x < n → ∀ m, 0 ≤ m → m ≤ 1000000 → 1 ≤ V x m ∧ V x m ≤ m + 1 ∧ (V x m ≤ m → B x)) :
    ∀ x, x ≤ n → (∀ y, y < x → sumsA a V most y ≤ most) → 0 ≤ sumsA a V most x ∧ sumsA a V most x ≤ most + 1 ∧ (sumsA a V most x ≤ most → ∀ y, y < x → B y) := by
  intro x
  induction x with
  | zero => intro _ _; exact ⟨h0, by show a ≤ most + 1; omega, fun _ y hy => absurd hy (Nat.not_lt_zero _)⟩
  | succ x ih =>
    intro hx hle
    obtain ⟨g1, g2, g3⟩ := ih (by omega) (fun y hy => hle y (by omega))
    have hs := hle x (by omega)
    have e1 : IntKind.i64.wrap (most - sumsA a V most x) = most - sumsA a V most x := w64 (by unfold fit; omega)
    obtain ⟨v1, v2, v3⟩ := hV x (by omega) (most - sumsA a V most x) (by omega) (by omega)
    have e2 : sumsA a V most (x + 1) = sumsA a V most x + V x (most - sumsA a V most x) := by
      show IntKind.i64.wrap (sumsA a V most x + V x (IntKind.i64.wrap (most - sumsA a V most x))) = _
      rw [e1, w64 (by unfold fit; omega)]
    rw [e2]
    refine ⟨by omega, by omega, fun h y hy => ?_⟩
    rcases Nat.lt_succ_iff_lt_or_eq.1 hy with h3 | rfl
    · exact g3 hs y h3
    · exact v3 (by omega)

theorem weigh_neg (k i j n most deep : Int) (rows : List (List SV)) (hd : deep < 0) : Con 86 [.agg true [.int .i64 k, .int .i64 i, .int .i64 j, .int .i64 n, .dsl 5 rows], .int .i64 most, .int .i64 deep] (.int .i64 (IntKind.i64.wrap (most + 1))) := by
  refine contract_of_vc mixed Try.func86 tr86 ?_
  simp only [go_sem, reduceIte, reduceCtorEq, Nat.reduceAdd, Nat.reduceSub, Nat.reduceMul, Nat.reduceLT, Nat.reduceLeDiff, Nat.reduceEqDiff, Nat.reduceBEq, Nat.reduceGT, Int.reduceEq, Int.reduceNe, Int.reduceLT, Int.reduceLE, Int.reduceToNat, Int.reduceNeg, Int.reduceBEq, Int.reduceAdd, Int.reduceSub, Int.reduceGT, Int.reduceGE, Int.reduceBNe, hd]

theorem weigh_pos (k i j n most deep : Int) (rows : List (List SV)) (W : List SV → Int → Int → Int) (h2 : rows.length * 56 ≤ 140737488355328) (h5 : ∀ r ∈ rows, r.length = 5)
    (H : ∀ r ∈ rows, ∀ m d, Con 86 [.agg true r, .int .i64 m, .int .i64 d] (.int .i64 (W r m d))) (hd : ¬ deep < 0) (m : Nat) (hm1 : m ≤ rows.length)
    (hm2 : m = rows.length ∨ most < sums W rows most (IntKind.i64.wrap (deep - 1)) m) (hm3 : ∀ y, y < m → ¬ most < sums W rows most (IntKind.i64.wrap (deep - 1)) y) :
    Con 86 [.agg true [.int .i64 k, .int .i64 i, .int .i64 j, .int .i64 n, .dsl 5 rows], .int .i64 most, .int .i64 deep] (.int .i64 (sums W rows most (IntKind.i64.wrap (deep - 1)) m)) := by
  refine contract_of_vc mixed Try.func86 tr86 ?_
  simp only [go_sem, reduceIte, reduceCtorEq, Nat.reduceAdd, Nat.reduceSub, Nat.reduceMul, Nat.reduceLT, Nat.reduceLeDiff, Nat.reduceEqDiff, Nat.reduceBEq, Nat.reduceGT, Int.reduceEq, Int.reduceNe, Int.reduceLT, Int.reduceLE, Int.reduceToNat, Int.reduceNeg, Int.reduceBEq, Int.reduceAdd, Int.reduceSub, Int.reduceGT, Int.reduceGE, Int.reduceBNe, hd]
  refine vc_for (fun x => ⟨(.junk :: .int .i64 most :: .int .i64 deep :: .ref 0 0 0 0 :: .junk :: .junk :: .int .i64 0 :: .int .i64 (sums W rows most (IntKind.i64.wrap (deep - 1)) x) :: .int .i64 x :: .junk :: .junk :: .junk :: .junk :: .junk :: .junk :: .junk :: .junk :: .junk :: .junk :: .junk :: .junk :: .junk :: .junk :: .junk :: .junk :: .junk :: .junk :: .junk :: .junk :: .junk :: .junk :: .junk :: .junk :: .junk :: .junk :: .junk :: .junk :: .junk :: .junk :: []),
      [⟨true, 5, [[.int .i64 k, .int .i64 i, .int .i64 j, .int .i64 n, .dsl 5 rows]], 0, 0, true⟩]⟩) m (fun x hx => ?_) ?_
  · simp only [go_sem, reduceIte, reduceCtorEq, Nat.reduceAdd, Nat.reduceSub, Nat.reduceMul, Nat.reduceLT, Nat.reduceLeDiff, Nat.reduceEqDiff, Nat.reduceBEq, Nat.reduceGT, Int.reduceEq, Int.reduceNe, Int.reduceLT, Int.reduceLE, Int.reduceToNat, Int.reduceNeg, Int.reduceBEq, Int.reduceAdd, Int.reduceSub, Int.reduceGT, Int.reduceGE, Int.reduceBNe]
    intro _
    by_cases hxm : x = m
    · subst hxm
      rcases hm2 with rfl | hm2
      · have hl : ¬ ((rows.length : Int) < (rows.length : Int)) := by omega
        simp only [go_sem, reduceIte, reduceCtorEq, Nat.reduceAdd, Nat.reduceSub, Nat.reduceMul, Nat.reduceLT, Nat.reduceLeDiff, Nat.reduceEqDiff, Nat.reduceBEq, Nat.reduceGT, Int.reduceEq, Int.reduceNe, Int.reduceLT, Int.reduceLE, Int.reduceToNat, Int.reduceNeg, Int.reduceBEq, Int.reduceAdd, Int.reduceSub, Int.reduceGT, Int.reduceGE, Int.reduceBNe, hl]
      · have hl : ¬ (sums W rows most (IntKind.i64.wrap (deep - 1)) x ≤ most) := by omega
        refine ⟨fun h => ?_, fun h => ?_⟩
        · simp only [go_sem, reduceIte, reduceCtorEq, Nat.reduceAdd, Nat.reduceSub, Nat.reduceMul, Nat.reduceLT, Nat.reduceLeDiff, Nat.reduceEqDiff, Nat.reduceBEq, Nat.reduceGT, Int.reduceEq, Int.reduceNe, Int.reduceLT, Int.reduceLE, Int.reduceToNat, Int.reduceNeg, Int.reduceBEq, Int.reduceAdd, Int.reduceSub, Int.reduceGT, Int.reduceGE, Int.reduceBNe, h, hl]
        · simp only [go_sem, reduceIte, reduceCtorEq, Nat.reduceAdd, Nat.reduceSub, Nat.reduceMul, Nat.reduceLT, Nat.reduceLeDiff, Nat.reduceEqDiff, Nat.reduceBEq, Nat.reduceGT, Int.reduceEq, Int.reduceNe, Int.reduceLT, Int.reduceLE, Int.reduceToNat, Int.reduceNeg, Int.reduceBEq, Int.reduceAdd, Int.reduceSub, Int.reduceGT, Int.reduceGE, Int.reduceBNe, h, hl]
    · have hxl : x < rows.length := by omega
      have hxl' : (x : Int) < (rows.length : Int) := by omega
      have e0 : (0 : Int) ≤ (x : Int) := by omega
      have hle : sums W rows most (IntKind.i64.wrap (deep - 1)) x ≤ most := by have := hm3 x (by omega); omega
      have hm := get_lt (d := []) hxl
      have h5' := h5 _ hm
      simp only [go_sem, reduceIte, reduceCtorEq, Nat.reduceAdd, Nat.reduceSub, Nat.reduceMul, Nat.reduceLT, Nat.reduceLeDiff, Nat.reduceEqDiff, Nat.reduceBEq, Nat.reduceGT, Int.reduceEq, Int.reduceNe, Int.reduceLT, Int.reduceLE, Int.reduceToNat, Int.reduceNeg, Int.reduceBEq, Int.reduceAdd, Int.reduceSub, Int.reduceGT, Int.reduceGE, Int.reduceBNe, hxl', hle, e0, h5']
      refine callK_of (H _ hm _ _) ?_
      simp only [go_sem, reduceIte, reduceCtorEq, Nat.reduceAdd, Nat.reduceSub, Nat.reduceMul, Nat.reduceLT, Nat.reduceLeDiff, Nat.reduceEqDiff, Nat.reduceBEq, Nat.reduceGT, Int.reduceEq, Int.reduceNe, Int.reduceLT, Int.reduceLE, Int.reduceToNat, Int.reduceNeg, Int.reduceBEq, Int.reduceAdd, Int.reduceSub, Int.reduceGT, Int.reduceGE, Int.reduceBNe]
      refine ⟨by omega, ?_⟩
      rw [w64 (n := (x : Int) + 1) (by unfold fit; omega)]
      exact wk_slots (by simp [slotsLe, sums])
  · exact wk_slots (by simp [slotsLe, sums])

theorem sums_A (W : List SV → Int → Int → Int) (rows : List (List SV)) (most d : Int) : ∀ x, sums W rows most d x = sumsA 1 (fun y m => W (rows[y]?.getD []) m d) most x := by
  intro x
  induction x with
  | zero => rfl
  | succ x ih => rw [sums, sumsA, ih]
theorem sums0_A (W : List SV → Int → Int → Int) (rows : List (List SV)) (most d : Int) : ∀ x, sums0 W rows most d x = sumsA 0 (fun y m => W (rows[y]?.getD []) m d) most x := by
  intro x
  induction x with
  | zero => rfl
  | succ x ih => rw [sums0, sumsA, ih]

/-- What a weight tells. -/
def Wt (t : Tm) (m d z : Int) : Prop := Con 86 [.agg true (tv t), .int .i64 m, .int .i64 d] (.int .i64 z) ∧
  (0 ≤ m → m ≤ 1000000 → -1 ≤ d → d ≤ 1000 → 1 ≤ z ∧ z ≤ m + 1 ∧ (z ≤ m → (hgtT t : Int) ≤ d + 1))

theorem con_weigh2 (t : Tm) : TOk t → ∀ m d, ∃ z, Wt t m d z := by
  induction t using Tm.ind with
  | h k i j n l ih =>
    intro hok m d
    cases hok with
    | mk _ _ _ _ _ f1 f2 f3 f4 hb hl =>
    unfold Wt
    rw [tv_mk]
    by_cases hd : d < 0
    · refine ⟨_, weigh_neg k i j n m d _ hd, fun h1 h2 h3 h4 => ?_⟩
      rw [w64 (by unfold fit; omega)]
      exact ⟨by omega, by omega, fun h => by omega⟩
    · have H : ∀ (t : Tm) (m d : Int), ∃ z, t ∈ l → Wt t m d z := fun t m d => by
        by_cases ht : t ∈ l
        · obtain ⟨z, hz⟩ := ih t ht (hl t ht) m d
          exact ⟨z, fun _ => hz⟩
        · exact ⟨0, fun h => absurd h ht⟩
      obtain ⟨Z, hZ⟩ : ∃ Z : Tm → Int → Int → Int, ∀ t ∈ l, ∀ m d, Wt t m d (Z t m d) := ⟨fun t m d => Classical.choose (H t m d), fun t ht m d => Classical.choose_spec (H t m d) ht⟩
      have hW : ∀ r ∈ l.map tv, ∀ m d, Con 86 [.agg true r, .int .i64 m, .int .i64 d] (.int .i64 (onT Z (fun _ _ => 0) r m d)) := fun r hr m d => by
        obtain ⟨t, ht, rfl⟩ := List.mem_map.1 hr
        rw [onT_tv]
        exact (hZ t ht m d).1
      obtain ⟨x, hx1, hx2, hx3⟩ := least (fun x => m < sums (onT Z (fun _ _ => 0)) (l.map tv) m (IntKind.i64.wrap (d - 1)) x) (l.map tv).length
      refine ⟨_, weigh_pos k i j n m d (l.map tv) _ (by simpa using hb) (rows5 l) hW hd x hx1 hx2 hx3, fun h1 h2 h3 h4 => ?_⟩
      rw [sums_A]
      have e1 : IntKind.i64.wrap (d - 1) = d - 1 := w64 (by unfold fit; omega)
      rw [e1]
      have hx3' : ∀ y, y < x → sumsA 1 (fun y m => onT Z (fun _ _ => 0) ((l.map tv)[y]?.getD []) m (d - 1)) m y ≤ m := fun y hy => by
        have := hx3 y hy
        rw [sums_A, e1] at this
        omega
      have hlen : (l.map tv).length = l.length := by simp
      have hrow : ∀ y, y < l.length → (l.map tv)[y]?.getD [] = tv (l[y]?.getD default) := fun y hy => by
        rw [List.getElem?_map, List.getElem?_eq_getElem hy]; rfl
      have key := sums_ok (a := 1) (V := fun y m => onT Z (fun _ _ => 0) ((l.map tv)[y]?.getD []) m (d - 1)) (most := m) (n := l.length) (B := fun y => (hgtT (l[y]?.getD default) : Int) ≤ d) (by omega) (by omega) h1 h2 (fun y hy m' hm1 hm2 => by
        simp only [hrow y hy, onT_tv]
        obtain ⟨_, g⟩ := hZ _ (get_lt (d := default) hy) m' (d - 1)
        obtain ⟨g1, g2, g3⟩ := g hm1 hm2 (by omega) (by omega)
        exact ⟨g1, g2, fun h => by have := g3 h; omega⟩) x (by omega) hx3'
      obtain ⟨k1, k2, k3⟩ := key
      refine ⟨?_, k2, fun hz => ?_⟩
      · cases x with
        | zero => exact Int.le_refl _
        | succ x =>
          have hs := hx3' x (by omega)
          have := sums_ok (a := 1) (V := fun y m => onT Z (fun _ _ => 0) ((l.map tv)[y]?.getD []) m (d - 1)) (most := m) (n := l.length) (B := fun _ => True) (by omega) (by omega) h1 h2 (fun y hy m' hm1 hm2 => by
            simp only [hrow y hy, onT_tv]
            obtain ⟨_, g⟩ := hZ _ (get_lt (d := default) hy) m' (d - 1)
            obtain ⟨g1, g2, g3⟩ := g hm1 hm2 (by omega) (by omega)
            exact ⟨g1, g2, fun _ => trivial⟩) x (by omega) (fun y hy => hx3' y (by omega))
          obtain ⟨q1, _, _⟩ := this
          obtain ⟨_, g⟩ := hZ _ (get_lt (d := default) (show x < l.length by omega)) (m - sumsA 1 (fun y m => onT Z (fun _ _ => 0) ((l.map tv)[y]?.getD []) m (d - 1)) m x) (d - 1)
          obtain ⟨g1, g2, _⟩ := g (by omega) (by omega) (by omega) (by omega)
          have e2 : sumsA 1 (fun y m => onT Z (fun _ _ => 0) ((l.map tv)[y]?.getD []) m (d - 1)) m (x + 1) = sumsA 1 (fun y m => onT Z (fun _ _ => 0) ((l.map tv)[y]?.getD []) m (d - 1)) m x + Z (l[x]?.getD default) (m - sumsA 1 (fun y m => onT Z (fun _ _ => 0) ((l.map tv)[y]?.getD []) m (d - 1)) m x) (d - 1) := by
            have e3 : IntKind.i64.wrap (m - sumsA 1 (fun y m => onT Z (fun _ _ => 0) ((l.map tv)[y]?.getD []) m (d - 1)) m x) = m - sumsA 1 (fun y m => onT Z (fun _ _ => 0) ((l.map tv)[y]?.getD []) m (d - 1)) m x := w64 (by unfold fit; omega)
            rw [sumsA, e3, hrow x (by omega), onT_tv, w64 (by unfold fit; omega)]
          rw [e2]
          omega
      · have hxl : x = l.length := by
          rcases hx2 with h | h
          · omega
          · rw [sums_A, e1] at h; omega
        rw [hgtT_mk]
        have : hgtL l ≤ d.toNat := hgtL_le (fun t ht => by
          obtain ⟨y, hy, rfl⟩ := List.getElem_of_mem ht
          have := k3 hz y (by omega)
          rw [List.getElem?_eq_getElem hy, Option.getD_some] at this
          omega)
        omega
end Go.Proofs.Ytadmdmhocglkfaa.Abs
