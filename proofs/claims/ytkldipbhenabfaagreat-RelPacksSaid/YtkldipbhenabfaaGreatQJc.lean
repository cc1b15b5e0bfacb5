/- Heads, erasures and counts of marked terms, in plain Lean; a loop that goes down. -/
import Derived.Test.YtkldipbhenabfaaGreatQJa
import Derived.Test.YtkldipbhenabfaaGreatQJb
set_option linter.unusedSimpArgs false
set_option linter.unusedVariables false
namespace Go.Proofs.YtkldipbhenabfaaGreat.Abs
open Go Go.RowKit Go.Proofs.YtkldipbhenabfaaGreat

/-- What the round of a loop at u must come to: a round at something less, or an end. -/
def lqd {α : Type} (S : α → St) (I : α → Prop) (μ : α → Nat) (u : α) (Q : AE → St → Prop) : AE → St → Prop := fun e s' => match e with | .normal => ∃ v, μ v < μ u ∧ I v ∧ Wk s' (S v) | e => Q e s'
section
variable {α : Type} {S : α → St} {I : α → Prop} {μ : α → Nat} {u : α} {Q : AE → St → Prop} {s : St}
theorem lqd_n : lqd S I μ u Q .normal s = (∃ v, μ v < μ u ∧ I v ∧ Wk s (S v)) := Eq.trans rfl rfl
theorem lqd_e {j : Nat} : lqd S I μ u Q (.exit j) s = Q (.exit j) s := Eq.trans rfl rfl
theorem lqd_r : lqd S I μ u Q .ret s = Q .ret s := Eq.trans rfl rfl
attribute [go_sem] lqd_n lqd_e lqd_r
end
theorem vc_down {C : Nat → List SV → SV → Prop} {b : AC} {Q : AE → St → Prop} {α : Type} (S : α → St) (I : α → Prop) (μ : α → Nat) (hstep : ∀ u, I u → vc C b (lqd S I μ u Q) (S u)) {s : St} (u0 : α) (hI : I u0) (h0 : Wk s (S u0)) : vc C (.loop b) Q s := by
  refine vc_loop (fun m s => ∃ u, m = μ u ∧ I u ∧ Wk s (S u)) (fun m s hI => ?_) (μ u0) s ⟨u0, rfl, hI, h0⟩
  obtain ⟨u, rfl, hI, hw⟩ := hI
  refine ⟨S u, hw, vc_mono (fun e s' he => ?_) (hstep u hI)⟩
  cases e with
  | normal => obtain ⟨v, h1, h2, h3⟩ := he; exact ⟨μ v, h1, v, rfl, h2, h3⟩
  | exit id => exact he
  | ret => exact he

mutual
/-- A marked term beneath its transports. -/
def headT : Tm → Tm
  | .mk k i j n l => if k = 12 then (headL l).getD 3 zT else .mk k i j n l
def headL : List Tm → List Tm
  | [] => []
  | t :: l => headT t :: headL l
end
mutual
/-- A marked term without its transports. -/
def eraseT : Tm → Tm
  | .mk k i j n l => if k = 12 then (eraseL l).getD 3 zT else .mk k i j n (eraseL l)
def eraseL : List Tm → List Tm
  | [] => []
  | t :: l => eraseT t :: eraseL l
end
mutual
/-- How many transports stand in a term. -/
def cntT : Tm → Nat
  | .mk k _ _ _ l => (if k = 12 then 1 else 0) + cntL l
def cntL : List Tm → Nat
  | [] => 0
  | t :: l => cntT t + cntL l
end
theorem eraseL_map : ∀ l : List Tm, eraseL l = l.map eraseT := by
  intro l
  induction l with
  | nil => rw [eraseL]; rfl
  | cons t l ih => rw [eraseL, ih]; rfl
theorem headT_tr {i j n : Int} {a b p x : Tm} : headT (.mk 12 i j n [a, b, p, x]) = headT x := by
  rw [headT, if_pos rfl, headL, headL, headL, headL, headL]; rfl
theorem headT_no {k i j n : Int} {l : List Tm} (h : k ≠ 12) : headT (.mk k i j n l) = .mk k i j n l := by rw [headT, if_neg h]
theorem eraseT_tr {i j n : Int} {a b p x : Tm} : eraseT (.mk 12 i j n [a, b, p, x]) = eraseT x := by
  rw [eraseT, if_pos rfl, eraseL, eraseL, eraseL, eraseL, eraseL]; rfl
theorem eraseT_no {k i j n : Int} {l : List Tm} (h : k ≠ 12) : eraseT (.mk k i j n l) = .mk k i j n (l.map eraseT) := by rw [eraseT, if_neg h, eraseL_map]
theorem cntT_mk (k i j n : Int) (l : List Tm) : cntT (.mk k i j n l) = (if k = 12 then 1 else 0) + cntL l := by rw [cntT]
theorem cnt_mem {t : Tm} : ∀ {l : List Tm}, t ∈ l → cntT t ≤ cntL l := by
  intro l
  induction l with
  | nil => intro h; cases h
  | cons u l ih =>
    intro h
    rw [cntL]
    rcases List.mem_cons.1 h with rfl | h
    · omega
    · have := ih h; omega
theorem mark_kid {k i j n : Int} {l : List Tm} {t : Tm} (h : markT (.mk k i j n l) = true) (hk : k ≠ 12) (ht : t ∈ l) : markT t = true := by
  rw [mark_kids, Bool.and_eq_true] at h
  obtain ⟨q, hq⟩ := allI_mem h.2 ht
  rw [beq_no hk, Bool.false_and] at hq
  simpa using hq
theorem mark_tr {i j n : Int} {l : List Tm} (h : markT (.mk 12 i j n l) = true) : ∃ a b p x, l = [a, b, p, x] ∧ markT a = true ∧ markT b = true ∧ plainT p = true ∧ markT x = true := by
  rw [mark_kids, Bool.and_eq_true] at h
  obtain ⟨h1, h2⟩ := h
  unfold rightN at h1
  simp only [Bool.and_eq_true, Bool.not_eq_true', bne_eq_false_iff_eq] at h1
  have h3 := h1.2.1
  have e : kidsN 12 n = 4 := by unfold kidsN; rfl
  rw [e] at h3
  match l, h3 with
  | [a, b, p, x], _ =>
    refine ⟨a, b, p, x, rfl, ?_⟩
    simp only [allI, Bool.and_eq_true] at h2
    obtain ⟨q1, q2, q3, q4, _⟩ := h2
    exact ⟨by simpa using q1, by simpa using q2, by simpa using q3, by simpa using q4⟩
theorem mark_pos {k i j n : Int} {l : List Tm} (h : markT (.mk k i j n l) = true) : 1 ≤ k ∧ k ≤ 12 := by
  rw [mark_kids, Bool.and_eq_true, ← rmarkedN_eq] at h
  have h1 := h.1
  unfold rmarkedN at h1
  simp only [Bool.and_eq_true, Bool.not_eq_true', Bool.or_eq_false_iff, decide_eq_false_iff_not] at h1
  omega

/-- Of a marked term: its head is marked, no transport, of the same erasure, with no more transports. -/
theorem head_of (t : Tm) : TOk t → markT t = true → TOk (headT t) ∧ markT (headT t) = true ∧ (headT t).k ≠ 12 ∧ eraseT (headT t) = eraseT t ∧ cntT (headT t) ≤ cntT t ∧ (t.k ≠ 12 → headT t = t) ∧ hgtT (headT t) ≤ hgtT t ∧ sizT (headT t) ≤ sizT t := by
  induction t using Tm.ind with
  | h k i j n l ih =>
    intro hok hm
    by_cases hk : k = 12
    · subst hk
      obtain ⟨a, b, p, x, rfl, ma, mb, mp, mx⟩ := mark_tr hm
      cases hok with
      | mk _ _ _ _ _ f1 f2 f3 f4 hb hl =>
      obtain ⟨g0, g1, g2, g3, g4, g5, g6, g7⟩ := ih x (by simp) (hl x (by simp)) mx
      have c1 : cntT x ≤ cntL [a, b, p, x] := cnt_mem (by simp)
      have c2 : hgtT x ≤ hgtL [a, b, p, x] := hgt_mem (by simp)
      have c3 : sizT x ≤ sizL [a, b, p, x] := siz_mem (by simp)
      rw [headT_tr, eraseT_tr, cntT_mk, hgtT_mk, sizT_mk, if_pos rfl]
      exact ⟨g0, g1, g2, g3, by omega, fun h => absurd rfl h, by omega, by omega⟩
    · rw [headT_no hk]
      exact ⟨hok, hm, hk, rfl, Nat.le_refl _, fun _ => rfl, Nat.le_refl _, Nat.le_refl _⟩
end Go.Proofs.YtkldipbhenabfaaGreat.Abs

