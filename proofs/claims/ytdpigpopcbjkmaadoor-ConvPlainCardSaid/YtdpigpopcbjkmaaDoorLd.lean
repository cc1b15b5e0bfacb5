/- Values that say more or less, at any depth: nil rows for empty ones. -/
import Derived.Test.YtdpigpopcbjkmaaDoorEv
set_option linter.unusedSimpArgs false
set_option linter.unusedVariables false
namespace Go.Proofs.YtdpigpopcbjkmaaDoor.Abs
open Go Go.RowKit

inductive LeD : SV → SV → Prop
  | refl (v : SV) : LeD v v
  | nils (sz : Nat) : LeD .nils (.dsl sz [])
  | dsl (sz : Nat) (l r : List (List SV)) : l.length = r.length → (∀ x ∈ r, x.length = sz) → (∀ (j : Nat) a b, l.flatten[j]? = some a → r.flatten[j]? = some b → LeD a b) → LeD (.dsl sz l) (.dsl sz r)
  | agg (l r : List SV) : l.length = r.length → (∀ (j : Nat) a b, l[j]? = some a → r[j]? = some b → LeD a b) → LeD (.agg true l) (.agg true r)

theorem LeD.rep {m : Mem} {a b : SV} (h : LeD a b) : ∀ {v : Value}, Rep m v a → Rep m v b := by
  induction h with
  | refl v => exact fun h => h
  | nils sz => intro v hr; cases hr; exact .dsl0 _ _ _
  | dsl sz l r hl hw _ ih =>
    intro v hr
    cases hr with
    | dsl0 _ A cap =>
      have : r = [] := List.length_eq_zero_iff.1 (by simpa using hl.symm)
      subst this
      exact .dsl0 _ _ _
    | dsl _ _ cap b off vs h0 h1 h2 h3 h4 h5 h6 =>
      have f1 : l.flatten.length = l.length * sz := flat_len h3
      have f2 : r.flatten.length = r.length * sz := flat_len hw
      rw [hl]
      refine .dsl sz r cap b off vs h0 (by omega) (by omega) hw (by rw [h4, f1, f2, hl]) h5 (fun j v y hv hy => ?_)
      have hj : j < l.flatten.length := by
        have := (List.getElem?_eq_some_iff.1 hv).1
        omega
      exact ih j _ y (List.getElem?_eq_getElem hj) hy (h6 j v _ hv (List.getElem?_eq_getElem hj))
  | agg l r hl _ ih =>
    intro v hr
    cases hr with
    | agg vs _ h0 h1 h2 =>
      refine .agg vs r h0 (by omega) (fun j v y hv hy => ?_)
      have hj : j < l.length := by
        have := (List.getElem?_eq_some_iff.1 hv).1
        omega
      exact ih j _ y (List.getElem?_eq_getElem hj) hy (h2 j v _ hv (List.getElem?_eq_getElem hj))

def LeDs (l r : List SV) : Prop := l.length = r.length ∧ ∀ (j : Nat) a b, l[j]? = some a → r[j]? = some b → LeD a b
theorem LeDs.nil : LeDs [] [] := ⟨rfl, fun j a b h => by simp at h⟩
theorem LeDs.cons {a b : SV} {l r : List SV} (h : LeD a b) (k : LeDs l r) : LeDs (a :: l) (b :: r) := by
  refine ⟨by simp [k.1], fun j x y hx hy => ?_⟩
  cases j with
  | zero => simp at hx hy; subst hx hy; exact h
  | succ j => exact k.2 j x y (by simpa using hx) (by simpa using hy)
theorem LeDs.refl (l : List SV) : LeDs l l := ⟨rfl, fun j a b h k => by rw [h] at k; cases k; exact .refl _⟩
theorem LeDs.app {l r l' r' : List SV} (h : LeDs l r) (k : LeDs l' r') : LeDs (l ++ l') (r ++ r') := by
  refine ⟨by simp [h.1, k.1], fun j x y hx hy => ?_⟩
  by_cases hj : j < l.length
  · rw [List.getElem?_append_left hj] at hx
    rw [List.getElem?_append_left (by rw [← h.1]; exact hj)] at hy
    exact h.2 j x y hx hy
  · rw [List.getElem?_append_right (by omega)] at hx
    rw [List.getElem?_append_right (by rw [← h.1]; omega)] at hy
    rw [← h.1] at hy
    exact k.2 _ x y hx hy
theorem LeD.agg' {l r : List SV} (h : LeDs l r) : LeD (.agg true l) (.agg true r) := .agg _ _ h.1 h.2
/-- Rows, one by one. -/
inductive LeRows (sz : Nat) : List (List SV) → List (List SV) → Prop
  | nil : LeRows sz [] []
  | cons {a b : List SV} {l r : List (List SV)} : b.length = sz → LeDs a b → LeRows sz l r → LeRows sz (a :: l) (b :: r)
theorem LeD.rows {sz : Nat} {l r : List (List SV)} (h : LeRows sz l r) : LeD (.dsl sz l) (.dsl sz r) := by
  have key : l.length = r.length ∧ (∀ x ∈ r, x.length = sz) ∧ LeDs l.flatten r.flatten := by
    induction h with
    | nil => exact ⟨rfl, by simp, .nil⟩
    | cons hb h _ ih =>
      obtain ⟨i1, i2, i3⟩ := ih
      refine ⟨by simp [i1], fun x hx => ?_, ?_⟩
      · rcases List.mem_cons.1 hx with rfl | hx
        · exact hb
        · exact i2 x hx
      · rw [List.flatten_cons, List.flatten_cons]; exact h.app i3
  exact .dsl _ _ _ key.1 key.2.1 key.2.2.2

theorem Contract.argsD {P : Program} {f : Nat} {args args' : List SV} {r : SV} (h : Contract P f args r) (hl : LeDs args' args) : Contract P f args' r := by
  intro m w vs h1 h2 h3
  refine h m w vs h1 (by rw [h2, hl.1]) (fun j v y hv hy => ?_)
  have hj : j < args'.length := by
    have := (List.getElem?_eq_some_iff.1 hv).1
    omega
  exact (hl.2 j _ y (List.getElem?_eq_getElem hj) hy).rep (h3 j v _ hv (List.getElem?_eq_getElem hj))
end Go.Proofs.YtdpigpopcbjkmaaDoor.Abs
