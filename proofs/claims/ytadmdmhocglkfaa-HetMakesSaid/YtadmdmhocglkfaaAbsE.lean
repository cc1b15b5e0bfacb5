/- Structs and slices that are written out; cuts of slices. -/
import Derived.Test.YtadmdmhocglkfaaAbsB
set_option linter.unusedSimpArgs false
set_option linter.unusedVariables false
namespace Go.Proofs.Ytadmdmhocglkfaa.Abs
open Go Go.RowKit

section
variable {P : Program} {U : Nat → Prop} {w0 : World} {own : Nat → Prop} {E : Env} {w : World} {s : St} {a : Act}

theorem fold_set (off : Nat) : ∀ (l : List Value) (k : Nat) (cs : Array Value), off + k + l.length ≤ cs.size → ((l.zipIdx k).foldl (fun cs (x : Value × Nat) => cs.setIfInBounds (off + x.2) x.1) cs).size = cs.size ∧
    ∀ m, ((l.zipIdx k).foldl (fun cs (x : Value × Nat) => cs.setIfInBounds (off + x.2) x.1) cs)[m]? = if off + k ≤ m ∧ m < off + k + l.length then l[m - (off + k)]? else cs[m]? := by
  intro l
  induction l with
  | nil => intro k cs _; exact ⟨rfl, fun m => by rw [if_neg (by simp only [List.length_nil]; omega)]; rfl⟩
  | cons v l ih =>
    intro k cs h
    simp only [List.length_cons] at h
    obtain ⟨h1, h2⟩ := ih (k + 1) (cs.setIfInBounds (off + k) v) (by simp; omega)
    simp only [List.zipIdx_cons, List.foldl_cons]
    refine ⟨by rw [h1]; simp, fun m => ?_⟩
    rw [h2 m]
    by_cases hm : m = off + k
    · subst hm
      rw [if_neg (by omega), if_pos (by simp), Array.getElem?_setIfInBounds_self_of_lt (by omega)]
      simp
    · by_cases hin : off + (k + 1) ≤ m ∧ m < off + (k + 1) + l.length
      · rw [if_pos hin, if_pos (by simp; omega)]
        rw [show m - (off + k) = (m - (off + (k + 1))) + 1 by omega]
        simp
      · rw [if_neg hin, if_neg (by simp; omega), Array.getElem?_setIfInBounds_ne (by omega)]

theorem fold_cells (off : Nat) (vs : List Value) (cs : Array Value) (h : off + vs.length ≤ cs.size) : (vs.toArray.zipIdx.foldl (fun cs (x : Value × Nat) => cs.setIfInBounds (off + x.2) x.1) cs).size = cs.size ∧
    ∀ m, (vs.toArray.zipIdx.foldl (fun cs (x : Value × Nat) => cs.setIfInBounds (off + x.2) x.1) cs)[m]? = if off ≤ m ∧ m < off + vs.length then vs[m - off]? else cs[m]? := by
  have := fold_set off vs 0 cs (by omega)
  rw [← Array.foldl_toList, Array.toList_zipIdx]
  simpa using this

/-- What is written out into a struct. -/
theorem fill_sound {t : TypeId} {fs : Array Field} {places : Array (Nat × Nat)} (hp : ∀ (i : Nat) (f : Field), fs[i]? = some f → places[i]? = some (f.offset, P.cellsOf f.type)) (hfs : ∀ (i : Nat) (f : Field), fieldT P t i = some f → fs[i]? = some f) (R : Value → SV → Prop) :
    ∀ (parts : List (Nat × Operand)) (ps : List (Nat × Nat × AX)) (cs : Array Value) (cells : List SV), trParts P t parts = some ps → cs.size = cells.length → (∀ p ∈ ps, p.1 + p.2.1 ≤ cells.length ∧ 0 < p.2.1) →
      (∀ (k : Nat) (v : Value) (x : SV), cs[k]? = some v → cells[k]? = some x → R v x) → (∀ v ∈ cs.toList, v.oneCell' = true) → partsOk (ps.map fun p => (p.1, p.2.1, s.get p.2.2)) →
      (∀ q ∈ parts, ∀ ax, trX q.2 = some ax → ∃ vs : List Value, (a.eval q.2).cells = vs.toArray ∧ vs.length = (cellsOf (s.get ax)).length ∧ (∀ u ∈ vs, u.oneCell' = true) ∧ ∀ (j : Nat) (u : Value) (x : SV), vs[j]? = some u → (cellsOf (s.get ax))[j]? = some x → R u x) →
      ∃ cs', Instr.fill (places[·]?) cs (parts.map fun q => (q.1, a.eval q.2)) = some cs' ∧ cs'.size = (fill cells (ps.map fun p => (p.1, p.2.1, s.get p.2.2))).length ∧ (∀ v ∈ cs'.toList, v.oneCell' = true) ∧
        ∀ (k : Nat) (v : Value) (x : SV), cs'[k]? = some v → (fill cells (ps.map fun p => (p.1, p.2.1, s.get p.2.2)))[k]? = some x → R v x := by
  intro parts
  induction parts with
  | nil =>
    intro ps cs cells htr hsz hps hR hone hok hx
    simp only [trParts, Option.some.injEq] at htr
    subst htr
    exact ⟨cs, rfl, hsz, hone, hR⟩
  | cons q parts ih =>
    obtain ⟨i, x⟩ := q
    intro ps cs cells htr hsz hps hR hone hok hx
    simp only [trParts, Option.bind_eq_bind, Option.bind_eq_some_iff, Option.pure_def, Option.some.injEq] at htr
    obtain ⟨f, hf, ax, hax, ps', hps', rfl⟩ := htr
    have hpl := hp i f (hfs i f hf)
    obtain ⟨h1, h2⟩ := hps _ (List.mem_cons_self ..)
    simp only at h1 h2
    simp only [List.map_cons, partsOk] at hok
    obtain ⟨o1, o2, o3⟩ := hok
    obtain ⟨vs, b1, b2, b3, b4⟩ := hx (i, x) (List.mem_cons_self ..) ax hax
    simp only at b1
    have hvl : vs.length = P.cellsOf f.type := by omega
    obtain ⟨f1, f2⟩ := fold_cells f.offset vs cs (by omega)
    have hspl : ∀ k, (splice cells.length (P.cellsOf f.type) f.offset cells (cellsOf (s.get ax)))[k]? = if f.offset ≤ k ∧ k < f.offset + P.cellsOf f.type then (cellsOf (s.get ax))[k - f.offset]? else cells[k]? := by
      intro k
      rw [splice_eq rfl h1 o2 h2, mid_get _ _ _ (by omega), o2]
    have hlen := splice_len (cells := cells) rfl h1 o2 h2
    obtain ⟨cs', c1, c2, c3, c4⟩ := ih ps' (vs.toArray.zipIdx.foldl (fun cs (x : Value × Nat) => cs.setIfInBounds (f.offset + x.2) x.1) cs) (splice cells.length (P.cellsOf f.type) f.offset cells (cellsOf (s.get ax))) hps' (by rw [f1, hlen, hsz])
      (fun p hp => by rw [hlen]; exact hps p (List.mem_cons_of_mem _ hp))
      (fun k v y hv hy => by
        rw [f2 k] at hv
        rw [hspl k] at hy
        rw [hvl] at hv
        split at hv
        · rename_i hin
          rw [if_pos hin] at hy
          exact b4 _ v y hv hy
        · rename_i hin
          rw [if_neg hin] at hy
          exact hR k v y hv hy)
      (fun v hv => by
        obtain ⟨k, hk⟩ := List.getElem?_of_mem hv
        have hk' := f2 k
        rw [Array.getElem?_toList] at hk
        rw [hk] at hk'
        split at hk'
        · exact b3 v (List.mem_of_getElem? hk'.symm)
        · exact hone v (List.mem_of_getElem? (by rw [Array.getElem?_toList]; exact hk'.symm)))
      o3 (fun q hq => hx q (List.mem_cons_of_mem _ hq))
    refine ⟨cs', ?_, c2, c3, c4⟩
    simp only [List.map_cons, Instr.fill, hpl, b1, List.size_toArray]
    rw [if_neg (by simp only [Bool.or_eq_true, decide_eq_true_eq, not_or]; omega)]
    exact c1

theorem places_of {fs : Array Field} (h : fs.toList.all (fun f => (P.info? f.type).isSome) = true) (w : World) :
    ∃ places : Array (Nat × Nat), (fs.mapM (fun f => do pure (f.offset, ← sizeOf f.type) : Field → Sem (Nat × Nat))).run P w = .ok places w ∧ ∀ (i : Nat) (f : Field), fs[i]? = some f → places[i]? = some (f.offset, P.cellsOf f.type) := by
  obtain ⟨l⟩ := fs
  have key : ∀ l : List Field, l.all (fun f => (P.info? f.type).isSome) = true → (l.mapM (fun f => do pure (f.offset, ← sizeOf f.type) : Field → Sem (Nat × Nat))).run P w = .ok (l.map fun f => (f.offset, P.cellsOf f.type)) w := by
    intro l
    induction l with
    | nil => intro _; rfl
    | cons f l ih =>
      intro h
      simp only [List.all_cons, Bool.and_eq_true] at h
      obtain ⟨i, hi⟩ := Option.isSome_iff_exists.1 h.1
      have h1 := run_sizeOf (P := P) w hi
      simp only [List.mapM_cons, Sem.run_bind, h1, Result.andThen_ok, Sem.run_pure, ih h.2, List.map_cons]
  refine ⟨(l.map fun f => (f.offset, P.cellsOf f.type)).toArray, ?_, fun i f hf => ?_⟩
  · have := key l (by simpa using h)
    rw [List.mapM_toArray, Sem.run_map, this]
    rfl
  · simp only [List.getElem?_toArray] at hf
    simp [hf]
end
end Go.Proofs.Ytadmdmhocglkfaa.Abs
