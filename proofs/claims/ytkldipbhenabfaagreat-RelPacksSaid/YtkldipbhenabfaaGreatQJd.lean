/- Marked terms as plain ones, free variables, in plain Lean. -/
import Derived.Test.YtkldipbhenabfaaGreatQJc
set_option linter.unusedSimpArgs false
set_option linter.unusedVariables false
namespace Go.Proofs.YtkldipbhenabfaaGreat.Abs
open Go Go.RowKit Go.Proofs.YtkldipbhenabfaaGreat

def stripD (k : Int) : Nat := if k = 5 ∨ k = 8 ∨ k = 9 then 2 else 0
mutual
/-- A right term as a plain one. -/
def stripT : Tm → Tm
  | .mk k i j n l =>
    if k = 12 then .mk 23 i 0 5 [(stripL l).getD 0 zT, (stripL l).getD 1 zT, l.getD 2 zT, (stripL l).getD 3 zT]
    else if k = 4 then .mk 14 0 0 0 [(stripL l).getD 0 zT, (stripL l).getD 2 zT]
    else if 3 ≤ k ∧ k ≤ 11 then .mk (k + 10) 0 0 0 ((stripL l).drop (stripD k))
    else .mk k i j n l
def stripL : List Tm → List Tm
  | [] => []
  | t :: l => stripT t :: stripL l
end
theorem stripL_map : ∀ l : List Tm, stripL l = l.map stripT := by
  intro l
  induction l with
  | nil => rw [stripL]; rfl
  | cons t l ih => rw [stripL, ih]; rfl
theorem stripT_tr {i j n : Int} {a b p x : Tm} : stripT (.mk 12 i j n [a, b, p, x]) = .mk 23 i 0 5 [stripT a, stripT b, p, stripT x] := by
  rw [stripT, if_pos rfl, stripL_map]; rfl
theorem stripT_lam {i j n : Int} {a b x : Tm} : stripT (.mk 4 i j n [a, b, x]) = .mk 14 0 0 0 [stripT a, stripT x] := by
  rw [stripT, if_neg (by decide), if_pos rfl, stripL_map]; rfl
theorem stripT_gen {k i j n : Int} {l : List Tm} (h1 : 3 ≤ k) (h2 : k ≤ 11) (h4 : k ≠ 4) : stripT (.mk k i j n l) = .mk (k + 10) 0 0 0 ((l.drop (stripD k)).map stripT) := by
  rw [stripT, if_neg (by omega), if_neg h4, if_pos ⟨h1, h2⟩, stripL_map, List.map_drop]
theorem stripT_id {k i j n : Int} {l : List Tm} (h : k ≤ 2 ∨ 13 ≤ k) : stripT (.mk k i j n l) = .mk k i j n l := by
  rw [stripT, if_neg (by omega), if_neg (by omega), if_neg (by omega)]
theorem strip_plain {t : Tm} (h : plainT t = true) : stripT t = t := by
  cases t with
  | mk k i j n l =>
  have h : rightT (.mk k i j n l) 2 = true := h
  rw [plain_kids, Bool.and_eq_true, ← rplainN_eq] at h
  have h1 := h.1
  unfold rplainN at h1
  simp only [Bool.and_eq_true, Bool.not_eq_true', Bool.and_eq_false_iff, bne_eq_false_iff_eq, Bool.or_eq_false_iff, decide_eq_false_iff_not] at h1
  exact stripT_id (by omega)
theorem mark_len {k i j n : Int} {l : List Tm} (h : markT (.mk k i j n l) = true) : (l.length : Int) = kidsN k n ∧ numsB k i j n = true := by
  rw [mark_kids, Bool.and_eq_true, ← rmarkedN_eq] at h
  have h1 := h.1
  unfold rmarkedN nodeB at h1
  simp only [Bool.and_eq_true, beq_iff_eq] at h1
  exact ⟨h1.2.1, h1.2.2⟩
/-- The shapes of marked terms. -/
inductive Shp : Tm → Prop
  | sort (i : Int) : 0 ≤ i ∧ i ≤ 1000 → Shp (.mk 1 i 0 0 [])
  | var (i : Int) : 0 ≤ i ∧ i ≤ 2147483647 → Shp (.mk 2 i 0 0 [])
  | tr (i : Int) (a b p x : Tm) : 0 ≤ i ∧ i ≤ 1000 → markT a = true → markT b = true → plainT p = true → markT x = true → Shp (.mk 12 i 0 0 [a, b, p, x])
  | lam (i j : Int) (a b x : Tm) : 0 ≤ i ∧ i ≤ 1000 → 0 ≤ j ∧ j ≤ 1000 → markT a = true → markT b = true → markT x = true → Shp (.mk 4 i j 0 [a, b, x])
  | two (k i j : Int) (a b : Tm) : k = 3 ∨ k = 6 ∨ k = 11 → 0 ≤ i ∧ i ≤ 1000 → 0 ≤ j ∧ j ≤ 1000 → (k = 11 → j = 0) → markT a = true → markT b = true → Shp (.mk k i j 0 [a, b])
  | three (k i j : Int) (a b c : Tm) : k = 8 ∨ k = 9 ∨ k = 10 → 0 ≤ i ∧ i ≤ 1000 → 0 ≤ j ∧ j ≤ 1000 → (k = 10 → j = 0) → markT a = true → markT b = true → markT c = true → Shp (.mk k i j 0 [a, b, c])
  | four (k i j : Int) (a b c d : Tm) : k = 5 ∨ k = 7 → 0 ≤ i ∧ i ≤ 1000 → 0 ≤ j ∧ j ≤ 1000 → markT a = true → markT b = true → markT c = true → markT d = true → Shp (.mk k i j 0 [a, b, c, d])
theorem levq_le {i : Int} (h : lev i = true) : 0 ≤ i ∧ i ≤ 1000 := by
  unfold lev at h
  simpa using h
set_option maxHeartbeats 1000000 in
theorem shp_of {t : Tm} (h : markT t = true) : Shp t := by
  cases t with
  | mk k i j n l =>
  obtain ⟨h1, h2⟩ := mark_pos h
  obtain ⟨hl, hn⟩ := mark_len h
  have hk : ∀ t ∈ l, k ≠ 12 → markT t = true := fun t ht hk => mark_kid h hk ht
  have hc : k = 1 ∨ k = 2 ∨ k = 3 ∨ k = 4 ∨ k = 5 ∨ k = 6 ∨ k = 7 ∨ k = 8 ∨ k = 9 ∨ k = 10 ∨ k = 11 ∨ k = 12 := by omega
  rcases hc with rfl | rfl | rfl | rfl | rfl | rfl | rfl | rfl | rfl | rfl | rfl | rfl
  · rw [show kidsN 1 n = 0 from rfl] at hl
    have : l = [] := List.length_eq_zero_iff.1 (by omega)
    subst this
    simp only [numsB, if_true, true_or, Bool.and_eq_true, beq_iff_eq] at hn
    obtain ⟨q1, rfl, rfl⟩ := hn
    exact .sort i (levq_le q1)
  · rw [show kidsN 2 n = 0 from rfl] at hl
    have : l = [] := List.length_eq_zero_iff.1 (by omega)
    subst this
    unfold numsB at hn
    rw [if_neg (by omega), if_pos rfl] at hn
    simp only [Bool.and_eq_true, beq_iff_eq, decide_eq_true_eq] at hn
    obtain ⟨q1, q2, rfl, rfl⟩ := hn
    exact .var i ⟨q1, q2⟩
  · rw [show kidsN 3 n = 2 from rfl] at hl
    match l, hl with
    | [a, b], _ =>
      unfold numsB at hn
      rw [if_neg (by omega), if_neg (by omega), if_pos (by omega)] at hn
      simp only [Bool.and_eq_true, beq_iff_eq] at hn
      obtain ⟨q1, q2, rfl⟩ := hn
      exact .two 3 i j a b (by omega) (levq_le q1) (levq_le q2) (fun h => by omega) (hk a (by simp) (by decide)) (hk b (by simp) (by decide))
  · rw [show kidsN 4 n = 3 from rfl] at hl
    match l, hl with
    | [a, b, c], _ =>
      unfold numsB at hn
      rw [if_neg (by omega), if_neg (by omega), if_pos (by omega)] at hn
      simp only [Bool.and_eq_true, beq_iff_eq] at hn
      obtain ⟨q1, q2, rfl⟩ := hn
      exact .lam i j a b c (levq_le q1) (levq_le q2) (hk a (by simp) (by decide)) (hk b (by simp) (by decide)) (hk c (by simp) (by decide))
  · rw [show kidsN 5 n = 4 from rfl] at hl
    match l, hl with
    | [a, b, c, d], _ =>
      unfold numsB at hn
      rw [if_neg (by omega), if_neg (by omega), if_pos (by omega)] at hn
      simp only [Bool.and_eq_true, beq_iff_eq] at hn
      obtain ⟨q1, q2, rfl⟩ := hn
      exact .four 5 i j a b c d (by omega) (levq_le q1) (levq_le q2) (hk a (by simp) (by decide)) (hk b (by simp) (by decide)) (hk c (by simp) (by decide)) (hk d (by simp) (by decide))
  · rw [show kidsN 6 n = 2 from rfl] at hl
    match l, hl with
    | [a, b], _ =>
      unfold numsB at hn
      rw [if_neg (by omega), if_neg (by omega), if_pos (by omega)] at hn
      simp only [Bool.and_eq_true, beq_iff_eq] at hn
      obtain ⟨q1, q2, rfl⟩ := hn
      exact .two 6 i j a b (by omega) (levq_le q1) (levq_le q2) (fun h => by omega) (hk a (by simp) (by decide)) (hk b (by simp) (by decide))
  · rw [show kidsN 7 n = 4 from rfl] at hl
    match l, hl with
    | [a, b, c, d], _ =>
      unfold numsB at hn
      rw [if_neg (by omega), if_neg (by omega), if_pos (by omega)] at hn
      simp only [Bool.and_eq_true, beq_iff_eq] at hn
      obtain ⟨q1, q2, rfl⟩ := hn
      exact .four 7 i j a b c d (by omega) (levq_le q1) (levq_le q2) (hk a (by simp) (by decide)) (hk b (by simp) (by decide)) (hk c (by simp) (by decide)) (hk d (by simp) (by decide))
  · rw [show kidsN 8 n = 3 from rfl] at hl
    match l, hl with
    | [a, b, c], _ =>
      unfold numsB at hn
      rw [if_neg (by omega), if_neg (by omega), if_pos (by omega)] at hn
      simp only [Bool.and_eq_true, beq_iff_eq] at hn
      obtain ⟨q1, q2, rfl⟩ := hn
      exact .three 8 i j a b c (by omega) (levq_le q1) (levq_le q2) (fun h => by omega) (hk a (by simp) (by decide)) (hk b (by simp) (by decide)) (hk c (by simp) (by decide))
  · rw [show kidsN 9 n = 3 from rfl] at hl
    match l, hl with
    | [a, b, c], _ =>
      unfold numsB at hn
      rw [if_neg (by omega), if_neg (by omega), if_pos (by omega)] at hn
      simp only [Bool.and_eq_true, beq_iff_eq] at hn
      obtain ⟨q1, q2, rfl⟩ := hn
      exact .three 9 i j a b c (by omega) (levq_le q1) (levq_le q2) (fun h => by omega) (hk a (by simp) (by decide)) (hk b (by simp) (by decide)) (hk c (by simp) (by decide))
  · rw [show kidsN 10 n = 3 from rfl] at hl
    match l, hl with
    | [a, b, c], _ =>
      unfold numsB at hn
      rw [if_pos (by omega)] at hn
      simp only [Bool.and_eq_true, beq_iff_eq] at hn
      obtain ⟨q1, rfl, rfl⟩ := hn
      exact .three 10 i 0 a b c (by omega) (levq_le q1) (by omega) (fun h => rfl) (hk a (by simp) (by decide)) (hk b (by simp) (by decide)) (hk c (by simp) (by decide))
  · rw [show kidsN 11 n = 2 from rfl] at hl
    match l, hl with
    | [a, b], _ =>
      unfold numsB at hn
      rw [if_pos (by omega)] at hn
      simp only [Bool.and_eq_true, beq_iff_eq] at hn
      obtain ⟨q1, rfl, rfl⟩ := hn
      exact .two 11 i 0 a b (by omega) (levq_le q1) (by omega) (fun h => rfl) (hk a (by simp) (by decide)) (hk b (by simp) (by decide))
  · obtain ⟨a, b, p, x, rfl, ma, mb, mp, mx⟩ := mark_tr h
    unfold numsB at hn
    rw [if_pos (by omega)] at hn
    simp only [Bool.and_eq_true, beq_iff_eq] at hn
    obtain ⟨q1, rfl, rfl⟩ := hn
    exact .tr i a b p x (levq_le q1) ma mb mp mx

theorem plain_of {k i j n : Int} {l : List Tm} (h : rightN k i j n 2 l.length = true) (hl : ∀ t ∈ l, plainT t = true) : plainT (.mk k i j n l) = true := by
  show rightT (.mk k i j n l) 2 = true
  rw [plain_kids, h, Bool.true_and, List.all_eq_true]
  exact hl
theorem tok_of {k i j n : Int} {l : List Tm} (h : TOk (.mk k i j n l)) : fit k ∧ fit i ∧ fit j ∧ fit n ∧ l.length * 56 ≤ 140737488355328 ∧ ∀ t ∈ l, TOk t := by
  cases h with
  | mk _ _ _ _ _ f1 f2 f3 f4 hb hl => exact ⟨f1, f2, f3, f4, hb, hl⟩
/-- Of a marked term: the plain one is plain, sound, and not higher. -/
theorem strip_of (t : Tm) : TOk t → markT t = true → plainT (stripT t) = true ∧ TOk (stripT t) ∧ hgtT (stripT t) ≤ hgtT t := by
  induction t using Tm.ind with
  | h k i j n l ih =>
    intro hok hm
    obtain ⟨f1, f2, f3, f4, hb, hl⟩ := tok_of hok
    have hkids : ∀ t ∈ l, markT t = true → plainT (stripT t) = true ∧ TOk (stripT t) ∧ hgtT (stripT t) ≤ hgtT t := fun t ht hm => ih t ht (hl t ht) hm
    have hs := shp_of hm
    cases hs with
    | sort i h => rw [stripT_id (by omega)]; exact ⟨plain_of (by unfold rightN; simp [sortN, kidsN, tab, numsB, lev, h]) (by simp), hok, Nat.le_refl _⟩
    | var i h => rw [stripT_id (by omega)]; exact ⟨plain_of (by unfold rightN; simp [sortN, kidsN, tab, numsB, h]) (by simp), hok, Nat.le_refl _⟩
    | tr i a b p x h ma mb mp mx =>
      rw [stripT_tr]
      obtain ⟨a1, a2, a3⟩ := hkids a (by simp) ma
      obtain ⟨b1, b2, b3⟩ := hkids b (by simp) mb
      obtain ⟨x1, x2, x3⟩ := hkids x (by simp) mx
      refine ⟨plain_of (by unfold rightN; simp [sortN, kidsN, tab, numsB, lev, h]; rfl) (by simp [a1, b1, x1, mp]), .mk _ _ _ _ _ (by unfold fit; omega) f2 (by unfold fit; omega) (by unfold fit; omega) (by simp) (by simp [a2, b2, x2, hl p (by simp)]), ?_⟩
      simp only [hgtT_mk, hgtL]
      omega
    | lam i j a b x h h' ma mb mx =>
      rw [stripT_lam]
      obtain ⟨a1, a2, a3⟩ := hkids a (by simp) ma
      obtain ⟨x1, x2, x3⟩ := hkids x (by simp) mx
      refine ⟨plain_of (by unfold rightN; simp [sortN, kidsN, tab, numsB]) (by simp [a1, x1]), .mk _ _ _ _ _ (by unfold fit; omega) (by unfold fit; omega) (by unfold fit; omega) (by unfold fit; omega) (by simp) (by simp [a2, x2]), ?_⟩
      simp only [hgtT_mk, hgtL]
      omega
    | two k i j a b hk h h' _ ma mb =>
      obtain ⟨a1, a2, a3⟩ := hkids a (by simp) ma
      obtain ⟨b1, b2, b3⟩ := hkids b (by simp) mb
      have e : stripT (.mk k i j 0 [a, b]) = .mk (k + 10) 0 0 0 [stripT a, stripT b] := by
        rw [stripT_gen (by omega) (by omega) (by omega)]
        rcases hk with rfl | rfl | rfl <;> rfl
      rw [e]
      refine ⟨plain_of (by rcases hk with rfl | rfl | rfl <;> rfl) (by simp [a1, b1]), .mk _ _ _ _ _ (by unfold fit; omega) (by unfold fit; omega) (by unfold fit; omega) (by unfold fit; omega) (by simp) (by simp [a2, b2]), ?_⟩
      simp only [hgtT_mk, hgtL]
      omega
    | three k i j a b c hk h h' _ ma mb mc =>
      obtain ⟨a1, a2, a3⟩ := hkids a (by simp) ma
      obtain ⟨b1, b2, b3⟩ := hkids b (by simp) mb
      obtain ⟨c1, c2, c3⟩ := hkids c (by simp) mc
      by_cases h10 : k = 10
      · subst h10
        have e : stripT (.mk 10 i j 0 [a, b, c]) = .mk 20 0 0 0 [stripT a, stripT b, stripT c] := by
          rw [stripT_gen (by omega) (by omega) (by omega)]; rfl
        rw [e]
        refine ⟨plain_of rfl (by simp [a1, b1, c1]), .mk _ _ _ _ _ (by unfold fit; omega) (by unfold fit; omega) (by unfold fit; omega) (by unfold fit; omega) (by simp) (by simp [a2, b2, c2]), ?_⟩
        simp only [hgtT_mk, hgtL]
        omega
      · have e : stripT (.mk k i j 0 [a, b, c]) = .mk (k + 10) 0 0 0 [stripT c] := by
          rw [stripT_gen (by omega) (by omega) (by omega)]
          rcases hk with rfl | rfl | rfl
          · rfl
          · rfl
          · exact absurd rfl h10
        rw [e]
        refine ⟨plain_of (by rcases hk with rfl | rfl | rfl; rfl; rfl; exact absurd rfl h10) (by simp [c1]), .mk _ _ _ _ _ (by unfold fit; omega) (by unfold fit; omega) (by unfold fit; omega) (by unfold fit; omega) (by simp) (by simp [c2]), ?_⟩
        simp only [hgtT_mk, hgtL]
        omega
    | four k i j a b c d hk h h' ma mb mc md =>
      obtain ⟨a1, a2, a3⟩ := hkids a (by simp) ma
      obtain ⟨b1, b2, b3⟩ := hkids b (by simp) mb
      obtain ⟨c1, c2, c3⟩ := hkids c (by simp) mc
      obtain ⟨d1, d2, d3⟩ := hkids d (by simp) md
      rcases hk with rfl | rfl
      · have e : stripT (.mk 5 i j 0 [a, b, c, d]) = .mk 15 0 0 0 [stripT c, stripT d] := by
          rw [stripT_gen (by omega) (by omega) (by omega)]; rfl
        rw [e]
        refine ⟨plain_of rfl (by simp [c1, d1]), .mk _ _ _ _ _ (by unfold fit; omega) (by unfold fit; omega) (by unfold fit; omega) (by unfold fit; omega) (by simp) (by simp [c2, d2]), ?_⟩
        simp only [hgtT_mk, hgtL]
        omega
      · have e : stripT (.mk 7 i j 0 [a, b, c, d]) = .mk 17 0 0 0 [stripT a, stripT b, stripT c, stripT d] := by
          rw [stripT_gen (by omega) (by omega) (by omega)]; rfl
        rw [e]
        refine ⟨plain_of rfl (by simp [a1, b1, c1, d1]), .mk _ _ _ _ _ (by unfold fit; omega) (by unfold fit; omega) (by unfold fit; omega) (by unfold fit; omega) (by simp) (by simp [a2, b2, c2, d2]), ?_⟩
        simp only [hgtT_mk, hgtL]
        omega

/-- The greatest of the first x, at least 0. -/
def pm (F : Nat → Int) : Nat → Int
  | 0 => 0
  | x + 1 => max (pm F x) (F x)
theorem pm_pos (F : Nat → Int) : ∀ x, 0 ≤ pm F x := by
  intro x
  induction x with
  | zero => exact Int.le_refl _
  | succ x ih => rw [pm]; omega
theorem pm_down (F : Nat → Int) (d : Int) (hd : 0 ≤ d) : ∀ x, pm (fun y => max (F y - d) 0) x = max (pm F x - d) 0 := by
  intro x
  induction x with
  | zero => simp only [pm]; omega
  | succ x ih => rw [pm, pm, ih]; omega
theorem pm_congr {F G : Nat → Int} : ∀ {x : Nat}, (∀ y, y < x → F y = G y) → pm F x = pm G x := by
  intro x
  induction x with
  | zero => intro _; rfl
  | succ x ih => intro h; rw [pm, pm, ih (fun y hy => h y (by omega)), h x (by omega)]
theorem pm_le {F : Nat → Int} {b : Int} (hb : 0 ≤ b) : ∀ {x : Nat}, (∀ y, y < x → F y ≤ b) → pm F x ≤ b := by
  intro x
  induction x with
  | zero => intro _; exact hb
  | succ x ih => intro h; rw [pm]; have := ih (fun y hy => h y (by omega)); have := h x (by omega); omega
theorem pm_shift (F : Nat → Int) : ∀ x, pm F (x + 1) = max (F 0) (pm (fun y => F (y + 1)) x) := by
  intro x
  induction x with
  | zero => simp only [pm]; omega
  | succ x ih => rw [pm, ih, pm]; omega
mutual
/-- The least number below which all free variables are. -/
def freeR : Tm → Int
  | .mk k i _ _ l => if k = 2 then i + 1 else freeL k 0 l
def freeL (k : Int) : Nat → List Tm → Int
  | _, [] => 0
  | p, t :: l => max (freeR t - bindsN k p) (freeL k (p + 1) l)
end
theorem freeL_pm (k : Int) : ∀ (l : List Tm) (p : Nat), freeL k p l = pm (fun y => freeR (l[y]?.getD default) - bindsN k ((p + y : Nat) : Int)) l.length := by
  intro l
  induction l with
  | nil => intro p; rw [freeL]; rfl
  | cons t l ih =>
    intro p
    rw [freeL, ih, List.length_cons, pm_shift]
    simp only [List.getElem?_cons_zero, List.getElem?_cons_succ, Option.getD_some, Nat.add_zero]
    congr 1
    refine pm_congr (fun y _ => ?_)
    rw [show p + 1 + y = p + (y + 1) by omega]
theorem freeR_mk {k i j n : Int} {l : List Tm} (h : k ≠ 2) : freeR (.mk k i j n l) = pm (fun y => freeR (l[y]?.getD default) - bindsN k ((y : Nat) : Int)) l.length := by
  rw [freeR, if_neg h, freeL_pm]
  exact pm_congr (fun y _ => by rw [Nat.zero_add])
theorem freeR_bd (t : Tm) : ∀ w, rightT t w = true → 0 ≤ freeR t ∧ freeR t ≤ 2147483648 := by
  induction t using Tm.ind with
  | h k i j n l ih =>
    intro w hr
    by_cases h : k = 2
    · have := right_var hr h
      rw [freeR, if_pos h]
      omega
    · rw [freeR_mk h]
      refine ⟨pm_pos _ _, pm_le (by omega) (fun y hy => ?_)⟩
      obtain ⟨w', hw⟩ := right_kid hr (get_lt (d := default) hy)
      have := ih _ (get_lt (d := default) hy) w' hw
      have := binds_le k y
      omega
end Go.Proofs.YtkldipbhenabfaaGreat.Abs

