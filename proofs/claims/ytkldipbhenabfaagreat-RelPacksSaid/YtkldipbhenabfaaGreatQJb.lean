/- Sizes of what is not too heavy. -/
import Derived.Test.YtkldipbhenabfaaGreatQHb
set_option linter.unusedSimpArgs false
set_option linter.unusedVariables false
namespace Go.Proofs.YtkldipbhenabfaaGreat.Abs
open Go Go.RowKit Go.Proofs.YtkldipbhenabfaaGreat

mutual
/-- How many nodes a term has. -/
def sizT : Tm → Nat
  | .mk _ _ _ _ l => sizL l + 1
def sizL : List Tm → Nat
  | [] => 0
  | t :: l => sizT t + sizL l
end
theorem sizT_mk (k i j n : Int) (l : List Tm) : sizT (.mk k i j n l) = sizL l + 1 := by rw [sizT]
theorem siz_mem {t : Tm} : ∀ {l : List Tm}, t ∈ l → sizT t ≤ sizL l := by
  intro l
  induction l with
  | nil => intro h; cases h
  | cons u l ih =>
    intro h
    rw [sizL]
    rcases List.mem_cons.1 h with rfl | h
    · omega
    · have := ih h; omega
def sumI (S : Nat → Int) : Nat → Int
  | 0 => 0
  | x + 1 => sumI S x + S x
theorem sumI_shift (S : Nat → Int) : ∀ x, sumI S (x + 1) = S 0 + sumI (fun y => S (y + 1)) x := by
  intro x
  induction x with
  | zero => simp only [sumI]; omega
  | succ x ih => rw [sumI, ih, sumI]; omega
theorem sumI_siz (l : List Tm) : sumI (fun y => (sizT (l[y]?.getD default) : Int)) l.length = (sizL l : Int) := by
  induction l with
  | nil => simp [sumI, sizL]
  | cons t l ih =>
    rw [List.length_cons, sumI_shift, sizL]
    simp only [List.getElem?_cons_succ, List.getElem?_cons_zero, Option.getD_some]
    rw [ih]
    omega
theorem sums_ok3 {a : Int} {V : Nat → Int → Int} {most : Int} {n : Nat} {B : Nat → Prop} {S : Nat → Int} (h0 : 0 ≤ a) (h1 : a ≤ 1) (hm : 0 ≤ most) (hm2 : most ≤ 1000000)
    (hV : ∀ x, x < n → ∀ m, 0 ≤ m → m ≤ 1000000 → 1 ≤ V x m ∧ V x m ≤ m + 1 ∧ (V x m ≤ m → B x ∧ S x ≤ V x m)) :
    ∀ x, x ≤ n → (∀ y, y < x → sumsA a V most y ≤ most) → 0 ≤ sumsA a V most x ∧ sumsA a V most x ≤ most + 1 ∧ (sumsA a V most x ≤ most → (∀ y, y < x → B y) ∧ sumI S x ≤ sumsA a V most x - a) := by
  intro x
  induction x with
  | zero => intro _ _; exact ⟨h0, by show a ≤ most + 1; omega, fun _ => ⟨fun y hy => absurd hy (Nat.not_lt_zero _), by show (0 : Int) ≤ a - a; omega⟩⟩
  | succ x ih =>
    intro hx hle
    obtain ⟨g1, g2, g3⟩ := ih (by omega) (fun y hy => hle y (by omega))
    have hs := hle x (by omega)
    have e1 : IntKind.i64.wrap (most - sumsA a V most x) = most - sumsA a V most x := w64 (by unfold fit; omega)
    obtain ⟨v1, v2, v3⟩ := hV x (by omega) (most - sumsA a V most x) (by omega) (by omega)
    have e2 : sumsA a V most (x + 1) = sumsA a V most x + V x (most - sumsA a V most x) := by
      show IntKind.i64.wrap (sumsA a V most x + V x (IntKind.i64.wrap (most - sumsA a V most x))) = _
      rw [e1, w64 (by unfold fit; omega)]
    rw [e2]
    refine ⟨by omega, by omega, fun h => ?_⟩
    obtain ⟨g4, g5⟩ := g3 hs
    obtain ⟨v4, v5⟩ := v3 (by omega)
    refine ⟨fun y hy => ?_, by rw [sumI]; omega⟩
    rcases Nat.lt_succ_iff_lt_or_eq.1 hy with h3 | rfl
    · exact g4 y h3
    · exact v4

/-- What a weight tells: of heights and sizes. -/
def Wt3 (t : Tm) (m d z : Int) : Prop := Con 26 [.agg true (tv t), .int .i64 m, .int .i64 d] (.int .i64 z) ∧
  (0 ≤ m → m ≤ 1000000 → -1 ≤ d → d ≤ 1000 → 1 ≤ z ∧ z ≤ m + 1 ∧ (z ≤ m → (hgtT t : Int) ≤ d + 1 ∧ (sizT t : Int) ≤ z))

theorem con_weigh3 (t : Tm) : TOk t → ∀ m d, ∃ z, Wt3 t m d z := by
  induction t using Tm.ind with
  | h k i j n l ih =>
    intro hok m d
    cases hok with
    | mk _ _ _ _ _ f1 f2 f3 f4 hb hl =>
    unfold Wt3
    rw [tv_mk]
    by_cases hd : d < 0
    · refine ⟨_, weigh_neg k i j n m d _ hd, fun h1 h2 h3 h4 => ?_⟩
      rw [w64 (by unfold fit; omega)]
      exact ⟨by omega, by omega, fun h => by omega⟩
    · have H : ∀ (t : Tm) (m d : Int), ∃ z, t ∈ l → Wt3 t m d z := fun t m d => by
        by_cases ht : t ∈ l
        · obtain ⟨z, hz⟩ := ih t ht (hl t ht) m d
          exact ⟨z, fun _ => hz⟩
        · exact ⟨0, fun h => absurd h ht⟩
      obtain ⟨Z, hZ⟩ : ∃ Z : Tm → Int → Int → Int, ∀ t ∈ l, ∀ m d, Wt3 t m d (Z t m d) := ⟨fun t m d => Classical.choose (H t m d), fun t ht m d => Classical.choose_spec (H t m d) ht⟩
      have hW : ∀ r ∈ l.map tv, ∀ m d, Con 26 [.agg true r, .int .i64 m, .int .i64 d] (.int .i64 (onT Z (fun _ _ => 0) r m d)) := fun r hr m d => by
        obtain ⟨t, ht, rfl⟩ := List.mem_map.1 hr
        rw [onT_tv]
        exact (hZ t ht m d).1
      obtain ⟨x, hx1, hx2, hx3⟩ := least (fun x => m < sums (onT Z (fun _ _ => 0)) (l.map tv) m (IntKind.i64.wrap (d - 1)) x) (l.map tv).length
      refine ⟨_, weigh_pos k i j n m d (l.map tv) _ (by simpa using hb) (rows5 l) hW hd x hx1 hx2 hx3, fun h1 h2 h3 h4 => ?_⟩
      rw [sums_A]
      have e1 : IntKind.i64.wrap (d - 1) = d - 1 := w64 (by unfold fit; omega)
      rw [e1]
      have hx3' : ∀ y, y < x → sumsA 1 (fun y m => onT Z (fun _ _ => 0) ((l.map tv)[y]?.getD []) m (d - 1)) m y ≤ m := fun y hy => by
        have := hx3 y hy
        rw [sums_A, e1] at this
        omega
      have hlen : (l.map tv).length = l.length := by simp
      have hrow : ∀ y, y < l.length → (l.map tv)[y]?.getD [] = tv (l[y]?.getD default) := fun y hy => by
        rw [List.getElem?_map, List.getElem?_eq_getElem hy]; rfl
      have key := sums_ok3 (a := 1) (V := fun y m => onT Z (fun _ _ => 0) ((l.map tv)[y]?.getD []) m (d - 1)) (most := m) (n := l.length) (B := fun y => (hgtT (l[y]?.getD default) : Int) ≤ d) (S := fun y => (sizT (l[y]?.getD default) : Int)) (by omega) (by omega) h1 h2 (fun y hy m' hm1 hm2 => by
        simp only [hrow y hy, onT_tv]
        obtain ⟨_, g⟩ := hZ _ (get_lt (d := default) hy) m' (d - 1)
        obtain ⟨g1, g2, g3⟩ := g hm1 hm2 (by omega) (by omega)
        exact ⟨g1, g2, fun h => by have := g3 h; exact ⟨by omega, this.2⟩⟩) x (by omega) hx3'
      obtain ⟨k1, k2, k3⟩ := key
      refine ⟨?_, k2, fun hz => ?_⟩
      · cases x with
        | zero => exact Int.le_refl _
        | succ x =>
          have hs := hx3' x (by omega)
          have := sums_ok (a := 1) (V := fun y m => onT Z (fun _ _ => 0) ((l.map tv)[y]?.getD []) m (d - 1)) (most := m) (n := l.length) (B := fun _ => True) (by omega) (by omega) h1 h2 (fun y hy m' hm1 hm2 => by
            simp only [hrow y hy, onT_tv]
            obtain ⟨_, g⟩ := hZ _ (get_lt (d := default) hy) m' (d - 1)
            obtain ⟨g1, g2, g3⟩ := g hm1 hm2 (by omega) (by omega)
            exact ⟨g1, g2, fun _ => trivial⟩) x (by omega) (fun y hy => hx3' y (by omega))
          obtain ⟨q1, _, _⟩ := this
          obtain ⟨_, g⟩ := hZ _ (get_lt (d := default) (show x < l.length by omega)) (m - sumsA 1 (fun y m => onT Z (fun _ _ => 0) ((l.map tv)[y]?.getD []) m (d - 1)) m x) (d - 1)
          obtain ⟨g1, g2, _⟩ := g (by omega) (by omega) (by omega) (by omega)
          have e2 : sumsA 1 (fun y m => onT Z (fun _ _ => 0) ((l.map tv)[y]?.getD []) m (d - 1)) m (x + 1) = sumsA 1 (fun y m => onT Z (fun _ _ => 0) ((l.map tv)[y]?.getD []) m (d - 1)) m x + Z (l[x]?.getD default) (m - sumsA 1 (fun y m => onT Z (fun _ _ => 0) ((l.map tv)[y]?.getD []) m (d - 1)) m x) (d - 1) := by
            have e3 : IntKind.i64.wrap (m - sumsA 1 (fun y m => onT Z (fun _ _ => 0) ((l.map tv)[y]?.getD []) m (d - 1)) m x) = m - sumsA 1 (fun y m => onT Z (fun _ _ => 0) ((l.map tv)[y]?.getD []) m (d - 1)) m x := w64 (by unfold fit; omega)
            rw [sumsA, e3, hrow x (by omega), onT_tv, w64 (by unfold fit; omega)]
          rw [e2]
          omega
      · have hxl : x = l.length := by
          rcases hx2 with h | h
          · omega
          · rw [sums_A, e1] at h; omega
        obtain ⟨k4, k5⟩ := k3 hz
        rw [hgtT_mk, sizT_mk]
        have : hgtL l ≤ d.toNat := hgtL_le (fun t ht => by
          obtain ⟨y, hy, rfl⟩ := List.getElem_of_mem ht
          have := k4 y (by omega)
          rw [List.getElem?_eq_getElem hy, Option.getD_some] at this
          omega)
        refine ⟨by omega, ?_⟩
        have e5 : sumI (fun y => (sizT (l[y]?.getD default) : Int)) x = (sizL l : Int) := by rw [hxl]; exact sumI_siz l
        rw [e5] at k5
        omega
end Go.Proofs.YtkldipbhenabfaaGreat.Abs

