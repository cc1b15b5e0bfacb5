/- The laws ShapeHeads and ShapeWays as contracts. -/
import Derived.Test.YtkldipbhenabfaaGreatQJj
import Derived.Test.YtkldipbhenabfaaGreatQJk
set_option linter.unusedSimpArgs false
set_option linter.unusedVariables false
namespace Go.Proofs.YtkldipbhenabfaaGreat.Abs
open Go Go.RowKit Go.Proofs.YtkldipbhenabfaaGreat

theorem con_terms (l : List Tm) (hl : ∀ t ∈ l, TOk t) (hb : l.length * 56 ≤ 140737488355328) : Con 10 [.dsl 5 (l.map tv), .dsl 5 (l.map tv)] (.bool true) :=
  con_terms_rows (l.map tv) (by simpa using hb) (rows5 l) (fun r hr => by
    obtain ⟨t, ht, rfl⟩ := List.mem_map.1 hr
    exact con_same t (hl t ht))
theorem tokso (i : Int) (h : 0 ≤ i) (h2 : i ≤ 1000) : TOk (so i) := tok_so (by unfold fit; omega)
theorem relB_so (i j : Int) (hi : 0 ≤ i ∧ i ≤ 1000) (hj : 0 ≤ j ∧ j ≤ 1000) : relB (so i) (so j) = (i == j) := by
  have m : ∀ i : Int, 0 ≤ i ∧ i ≤ 1000 → markT (so i) = true := fun i h => by
    show rightT (.mk 1 i 0 0 []) 1 = true
    rw [rightT_mk]
    unfold rightN
    simp [sortN, kidsN, tab, numsB, lev, h, allI]
  have e : ∀ i : Int, eraseT (so i) = so i := fun i => by unfold so; rw [eraseT_no (by decide)]; rfl
  unfold relB
  rw [m i hi, m j hj, e, e, Bool.true_and, Bool.true_and]
  by_cases h : i = j
  · subst h; rw [eqT_self]; simp
  · rw [eqT_ne (fun h' => h (by unfold so at h'; cases h'; rfl)), beq_no h]
theorem hvJ_11 {i : Int} {a b x y h : Tm} : (hv i a b x y h)[11]? = some (.int .i64 x.k) := by simp [hv, tv_cells]
end Go.Proofs.YtkldipbhenabfaaGreat.Abs

