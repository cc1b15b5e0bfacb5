/- What an operation of the model does is what the abstract one says. -/
import Derived.Test.YtadmdmhocglkfaaAbsC
import Derived.Laws.CopyRow
import Derived.Laws.AppendOwn
import Derived.Laws.MakeOwn
import Derived.ChangeKeysEq
set_option linter.unusedSimpArgs false
set_option linter.unusedVariables false
namespace Go.Proofs.Ytadmdmhocglkfaa.Abs
open Go Go.RowKit

theorem rep_cell {m : Mem} {v : Value} {s : SV} (h : (match v with
      | .bool b => some (SV.bool b) | .int k n => some (.int k n) | .float k b => some (.float k b) | .string s => some (.str s)
      | .pointer none => some .nilp | .slice none 0 0 => some .nils | _ => none) = some s) : Rep m v s ∧ v.oneCell' = true := by
  split at h <;> first | (cases h; done) | skip
  all_goals (cases h)
  · exact ⟨.bool _, rfl⟩
  · exact ⟨.int _ _, rfl⟩
  · exact ⟨.float _ _, rfl⟩
  · exact ⟨.str _, rfl⟩
  · exact ⟨.nilp, rfl⟩
  · exact ⟨.nils, rfl⟩

theorem mapM_rel {α β : Type} {f : α → Option β} {R : α → β → Prop} (hf : ∀ a b, f a = some b → R a b) : ∀ {l : List α} {l' : List β}, l.mapM f = some l' → l'.length = l.length ∧ ∀ (j : Nat) a b, l[j]? = some a → l'[j]? = some b → R a b := by
  intro l
  induction l with
  | nil => intro l' h; simp at h; subst h; exact ⟨rfl, by simp⟩
  | cons a l ih =>
    intro l' h
    simp only [List.mapM_cons, Option.bind_eq_bind, Option.bind_eq_some_iff, Option.pure_def, Option.some.injEq] at h
    obtain ⟨b, hb, r, hr, rfl⟩ := h
    obtain ⟨h1, h2⟩ := ih hr
    refine ⟨by simp [h1], fun j a' b' ha hb' => ?_⟩
    cases j with
    | zero => simp at ha hb'; subst ha; subst hb'; exact hf _ _ hb
    | succ j => exact h2 j a' b' (by simpa using ha) (by simpa using hb')

theorem rep_const {m : Mem} {v : Value} {s : SV} (h : ofVal v = some s) : Rep m v s ∧ s.closed = true ∧ s.ok = true := by
  unfold ofVal at h
  split at h <;> first | (cases h; done) | skip
  · cases h; exact ⟨.bool _, rfl, rfl⟩
  · cases h; exact ⟨.int _ _, rfl, rfl⟩
  · cases h; exact ⟨.float _ _, rfl, rfl⟩
  · cases h; exact ⟨.str _, rfl, rfl⟩
  · cases h; exact ⟨.nilp, rfl, rfl⟩
  · cases h; exact ⟨.nils, rfl, rfl⟩
  · rename_i cs
    split at h
    · rename_i l hl
      cases h
      obtain ⟨h1, h2⟩ := mapM_rel (R := fun v s => Rep m v s ∧ v.oneCell' = true) (fun a b hab => rep_cell hab) hl
      have := Rep.agg (m := m) cs.toList l (fun v hv => ?_) h1.symm (fun j v x hv hx => (h2 j v x hv hx).1)
      · exact ⟨by simpa using this, rfl, rfl⟩
      · obtain ⟨j, hj⟩ := List.getElem?_of_mem hv
        have hjl : j < l.length := by
          rw [h1]
          rcases Nat.lt_or_ge j cs.toList.length with h | h
          · exact h
          · rw [List.getElem?_eq_none h] at hj; cases hj
        exact (h2 j v _ hj (List.getElem?_eq_getElem hjl)).2
    · cases h

/-- The cells of a value, one by one. -/
theorem cells_rel {E : Env} {v : Value} {s : SV} (h : RelV E v s) (hok : s.ok = true) : ∃ vs : List Value, v.cells = vs.toArray ∧ vs.length = (cellsOf s).length ∧ (∀ u ∈ vs, u.oneCell' = true) ∧
    (∀ (j : Nat) (u : Value) (x : SV), vs[j]? = some u → (cellsOf s)[j]? = some x → RelV E u x) ∧ (s.closed = true → ∀ (j : Nat) (u : Value) (x : SV), vs[j]? = some u → (cellsOf s)[j]? = some x → Rep E.m u x) := by
  have one : v.cells = #[v] → v.oneCell' = true → cellsOf s = [s] → ∃ vs : List Value, v.cells = vs.toArray ∧ vs.length = (cellsOf s).length ∧ (∀ u ∈ vs, u.oneCell' = true) ∧
    (∀ (j : Nat) (u : Value) (x : SV), vs[j]? = some u → (cellsOf s)[j]? = some x → RelV E u x) ∧ (s.closed = true → ∀ (j : Nat) (u : Value) (x : SV), vs[j]? = some u → (cellsOf s)[j]? = some x → Rep E.m u x) := by
    intro h1 h2 h3
    refine ⟨[v], h1, by simp [h3], by simpa using h2, fun j u x hu hx => ?_, fun hc j u x hu hx => ?_⟩
    · rw [h3] at hx
      cases j <;> simp at hu hx
      subst hu; subst hx; exact h
    · rw [h3] at hx
      cases j <;> simp at hu hx
      subst hu; subst hx; exact h.closed_rep hc
  cases h with
  | junk => simp [SV.ok] at hok
  | undef => simp [SV.ok] at hok
  | rep _ _ hr =>
    cases hr with
    | agg vs l h0 h1 h2 => exact ⟨vs, rfl, h1, h0, fun j u x hu hx => .rep u x (h2 j u x hu hx), fun _ => h2⟩
    | tup vs l h1 h2 => simp [SV.ok] at hok
    | bool b => exact one rfl rfl rfl
    | int k n => exact one rfl rfl rfl
    | float k b => exact one rfl rfl rfl
    | str s => exact one rfl rfl rfl
    | nilp => exact one rfl rfl rfl
    | nils => exact one rfl rfl rfl
    | fn f => exact one rfl rfl rfl
    | dref => exact one rfl rfl rfl
    | dsl0 => exact one rfl rfl rfl
    | dsl => exact one rfl rfl rfl
  | ref o g e c b j ob h1 h2 h3 => exact one rfl rfl rfl
  | osl o g off len A n cap ob h1 h2 hnl h3 => exact one rfl rfl rfl
  | agg vs l h0 h1 h2 => exact ⟨vs, rfl, h1, h0, h2, fun hc => by simp [SV.closed] at hc⟩
end Go.Proofs.Ytadmdmhocglkfaa.Abs
