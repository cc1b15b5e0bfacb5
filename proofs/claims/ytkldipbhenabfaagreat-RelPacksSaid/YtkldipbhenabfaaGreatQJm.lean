/- A context as an argument. -/
import Derived.Test.YtkldipbhenabfaaGreatQFo
import Derived.Test.YtkldipbhenabfaaGreatQJl
set_option linter.unusedSimpArgs false
set_option linter.unusedVariables false
namespace Go.Proofs.YtkldipbhenabfaaGreat.Abs
open Go Go.RowKit Go.Proofs.YtkldipbhenabfaaGreat

theorem st_ent : structTypes Tryz.prog 54 = some [34, 3] := by kernel_rfl
theorem ty_ent {svs : List SV} (h : TySV Tryz.prog 54 svs) : ∃ e : En, e.ok ∧ svs = e.v := by
  obtain ⟨parts, hl, hp, rfl⟩ := ty_struct st_ent h
  match parts, hl with
  | [p0, p1], _ =>
    obtain ⟨a, ha, rfl⟩ := (ty_tm tmT (hp 0 _ p0 rfl rfl)).1 rfl
    obtain ⟨i, rfl, hi⟩ := ty_int u_int (hp 1 _ p1 rfl rfl)
    exact ⟨⟨a, i⟩, ⟨ha, hi⟩, by simp [En.v, ev6]⟩
theorem arg_ctx {x : SV} (h : TyArg Tryz.prog 22 x) : ∃ C : List En, x = .dsl 6 (C.map En.v) ∧ (∀ e ∈ C, e.ok) := by
  cases h with
  | agg svs h1 _ => have e : isAggT Tryz.prog 22 = some false := by kernel_rfl
                    rw [e] at h1; cases h1
  | one x _ h2 =>
    obtain ⟨l, e, _, hl⟩ := ty_slice (e := 54) (by kernel_rfl) h2
    have e1 : Tryz.prog.cellsOf 54 = 6 := by kernel_rfl
    rw [e1] at e
    obtain ⟨xs, rfl, hx⟩ := map_of (f := En.v) (p := En.ok) (l := l) (fun r hr => by obtain ⟨e, h1, h2⟩ := ty_ent (hl r hr); exact ⟨e, h1, h2⟩)
    cases e
    exact ⟨xs, rfl, hx⟩
end Go.Proofs.YtkldipbhenabfaaGreat.Abs

