/- The readings of the laws' arguments: terms, Hets, numbers. -/
import Derived.Test.YtkldipbhenabfaaGreatFn
import Derived.Test.YtkldipbhenabfaaGreatArg
set_option linter.unusedSimpArgs false
set_option linter.unusedVariables false
namespace Go.Proofs.YtkldipbhenabfaaGreat.Abs
open Go Go.RowKit Go.Proofs.YtkldipbhenabfaaGreat

theorem tmT : TmT Tryz.prog 34 24 3 := ⟨by kernel_rfl, by kernel_rfl, by kernel_rfl, by kernel_rfl, by kernel_rfl⟩
theorem st_het : structTypes Tryz.prog 37 = some [3, 34, 34, 34, 34, 34] := by kernel_rfl

theorem arg_tm {x : SV} (h : TyArg Tryz.prog 34 x) : ∃ t, x = .agg true (tv t) ∧ TOk t := by
  cases h with
  | agg svs _ h2 =>
    obtain ⟨t, ht, rfl⟩ := (ty_tm tmT h2).1 rfl
    exact ⟨t, rfl, ht⟩
  | one x h1 _ => have e : isAggT Tryz.prog 34 = some true := by kernel_rfl
                  rw [e] at h1; cases h1
theorem ty_het {svs : List SV} (h : TySV Tryz.prog 37 svs) : ∃ g : HT, g.ok ∧ svs = g.v := by
  obtain ⟨parts, hl, hp, rfl⟩ := ty_struct st_het h
  match parts, hl with
  | [p0, p1, p2, p3, p4, p5], _ =>
    obtain ⟨i, rfl, hi⟩ := ty_int u_int (hp 0 _ p0 rfl rfl)
    obtain ⟨a, ha, rfl⟩ := (ty_tm tmT (hp 1 _ p1 rfl rfl)).1 rfl
    obtain ⟨b, hb, rfl⟩ := (ty_tm tmT (hp 2 _ p2 rfl rfl)).1 rfl
    obtain ⟨x, hx, rfl⟩ := (ty_tm tmT (hp 3 _ p3 rfl rfl)).1 rfl
    obtain ⟨y, hy, rfl⟩ := (ty_tm tmT (hp 4 _ p4 rfl rfl)).1 rfl
    obtain ⟨z, hz, rfl⟩ := (ty_tm tmT (hp 5 _ p5 rfl rfl)).1 rfl
    exact ⟨⟨i, a, b, x, y, z⟩, ⟨hi, ha, hb, hx, hy, hz⟩, by simp [HT.v, hv]⟩
theorem arg_het {x : SV} (h : TyArg Tryz.prog 37 x) : ∃ g : HT, x = .agg true g.v ∧ g.ok := by
  cases h with
  | agg svs _ h2 =>
    obtain ⟨g, hg, rfl⟩ := ty_het h2
    exact ⟨g, rfl, hg⟩
  | one x h1 _ => have e : isAggT Tryz.prog 37 = some true := by kernel_rfl
                  rw [e] at h1; cases h1
end Go.Proofs.YtkldipbhenabfaaGreat.Abs
