/- Several values closed; slices that are written out; cuts. -/
import Derived.Test.YtadmdmhocglkfaaAbsE
set_option linter.unusedSimpArgs false
set_option linter.unusedVariables false
namespace Go.Proofs.Ytadmdmhocglkfaa.Abs
open Go Go.RowKit

section
variable {P : Program} {U : Nat → Prop} {w0 : World} {own : Nat → Prop} {E : Env} {w : World} {s : St} {a : Act}

theorem closeC_ok {hp hp' : List Ob} {s s' : SV} (h : closeC hp s = some (s', hp')) : s'.ok = true ∧ s'.closed = true := by
  cases s with
  | osl o g off len =>
    simp only [closeC] at h
    split at h
    rotate_left
    · cases h
    split at h
    rotate_left
    · cases h
    cases h
    exact ⟨rfl, rfl⟩
  | agg b l => cases b <;> simp [closeC] at h; rw [← h.1]; exact ⟨rfl, rfl⟩
  | junk => simp [closeC] at h
  | undef => simp [closeC] at h
  | ref _ _ _ _ => simp [closeC] at h
  | tup _ => simp [closeC] at h
  | _ => simp only [closeC, Option.some.injEq, Prod.mk.injEq] at h; rw [← h.1]; exact ⟨rfl, rfl⟩

theorem closeV_ok {hp hp' : List Ob} {s s' : SV} (h : closeV hp s = some (s', hp')) : s'.ok = true ∧ s'.closed = true := by
  have plain : closeV hp s = closeC hp s → s'.ok = true ∧ s'.closed = true := fun e => closeC_ok (e ▸ h)
  cases s with
  | agg b l =>
    cases b with
    | true => exact plain rfl
    | false =>
      simp only [closeV] at h
      split at h
      · cases h; exact ⟨rfl, rfl⟩
      · cases h
  | ref o g e c =>
    simp only [closeV] at h
    split at h
    rotate_left
    · cases h
    split at h
    rotate_left
    · cases h
    split at h
    · cases h; exact ⟨rfl, rfl⟩
    · split at h
      · cases h; exact ⟨rfl, rfl⟩
      · cases h
  | _ => exact plain rfl

/-- The objects that values lead to, each seen as it is when it comes up. -/
theorem closeVs_sound : ∀ {l l' : List SV} {E : Env} {hp hp' : List Ob} {vs : List Value}, W w0 own E w → (∀ o, U o → E.H o = hp[o]?) →
    closeVs hp l = some (l', hp') → vs.length = l.length → (∀ (j : Nat) (v : Value) (x : SV), vs[j]? = some v → l[j]? = some x → RelV E v x) → (∀ o ∈ idsVs hp l, U o) →
    hp'.length = hp.length ∧ l'.length = l.length ∧ ∃ E', Step U w0 own E E' w hp' ∧ (∀ (j : Nat) (v : Value) (x : SV), vs[j]? = some v → l'[j]? = some x → Rep E'.m v x) := by
  intro l
  induction l with
  | nil =>
    intro l' E hp hp' vs hW hu hc hl hr hi
    simp only [closeVs, Option.some.injEq, Prod.mk.injEq] at hc
    obtain ⟨rfl, rfl⟩ := hc
    exact ⟨rfl, rfl, E, Step.refl hW hu, by simp⟩
  | cons s l ih =>
    intro l' E hp hp' vs hW hu hc hl hr hi
    cases vs with
    | nil => simp at hl
    | cons v vs =>
      simp only [closeVs] at hc
      split at hc
      rotate_left
      · cases hc
      rename_i c' h1 hc1
      split at hc
      rotate_left
      · cases hc
      rename_i r' h2 hc2
      cases hc
      simp only [idsVs, hc1] at hi
      obtain ⟨e1, E1, st1, rep1, b1, t1⟩ := closeV_sound hW hu hc1 (hr 0 v s rfl rfl) (fun o ho => hi o (List.mem_append_left _ ho))
      obtain ⟨e2, e3, E2, st2, rep2⟩ := ih st1.wo st1.on hc2 (by simpa using hl) (fun j v' x hv hx => (hr (j + 1) v' x (by simpa using hv) (by simpa using hx)).mono st1.ext) (fun o ho => hi o (List.mem_append_right _ ho))
      refine ⟨e2.trans e1, by simp [e3], E2, st1.trans st2, fun j v' x hv hx => ?_⟩
      cases j with
      | zero =>
        simp only [List.getElem?_cons_zero, Option.some.injEq] at hv hx
        subst hv; subst hx
        exact rep1.mono st2.ext.m
      | succ j => exact rep2 j v' x (by simpa using hv) (by simpa using hx)

theorem closeRows_eq {l : List SV} : ∀ {hp hp' : List Ob} {rows : List (List SV)}, closeRows hp l = some (rows, hp') → ∃ l', closeVs hp l = some (l', hp') ∧ rows = l'.map cellsOf ∧ ∀ x ∈ l', x.ok = true ∧ x.closed = true := by
  induction l with
  | nil => intro hp hp' rows h; simp only [closeRows, Option.some.injEq, Prod.mk.injEq] at h; obtain ⟨rfl, rfl⟩ := h; exact ⟨[], rfl, rfl, by simp⟩
  | cons c l ih =>
    intro hp hp' rows h
    simp only [closeRows] at h
    split at h
    rotate_left
    · cases h
    rename_i c' h1 hc1
    split at h
    rotate_left
    · cases h
    rename_i r' h2 hc2
    cases h
    obtain ⟨l', e1, e2, e3⟩ := ih hc2
    refine ⟨c' :: l', by simp [closeVs, hc1, e1], by simp [e2], fun x hx => ?_⟩
    rcases List.mem_cons.1 hx with rfl | hx
    · exact closeV_ok hc1
    · exact e3 x hx

/-- Rows that are written one behind the other. -/
theorem fill_rows {sz : Nat} (m : Mem) (hsz : 0 < sz) : ∀ (parts : List (Nat × Value)) (k : Nat) (xs : List SV) (cs : Array Value), parts.length = xs.length → (∀ (j : Nat) q, parts[j]? = some q → q.1 = k + j) → (k + parts.length) * sz ≤ cs.size →
    (∀ x ∈ xs, x.ok = true ∧ x.closed = true ∧ (cellsOf x).length = sz) → (∀ (j : Nat) q x, parts[j]? = some q → xs[j]? = some x → Rep m q.2 x) → (∀ v ∈ cs.toList, v.oneCell' = true) →
    ∃ cs', Instr.fill (fun i => some (i * sz, sz)) cs parts = some cs' ∧ cs'.size = cs.size ∧ (∀ v ∈ cs'.toList, v.oneCell' = true) ∧ (∀ i, i < k * sz → cs'[i]? = cs[i]?) ∧
      ∀ (i : Nat) (v : Value) (x : SV), cs'[k * sz + i]? = some v → (xs.map cellsOf).flatten[i]? = some x → Rep m v x := by
  intro parts
  induction parts with
  | nil =>
    intro k xs cs hl hk hfit hx hr hone
    have : xs = [] := List.eq_nil_of_length_eq_zero (by simpa using hl.symm)
    subst this
    exact ⟨cs, rfl, rfl, hone, fun _ _ => rfl, by simp⟩
  | cons q parts ih =>
    intro k xs cs hl hk hfit hx hr hone
    cases xs with
    | nil => simp at hl
    | cons x xs =>
      obtain ⟨i, v⟩ := q
      have hi : i = k := by simpa using hk 0 (i, v) rfl
      subst hi
      obtain ⟨x1, x2, x3⟩ := hx x (List.mem_cons_self ..)
      have hrv := hr 0 (i, v) x rfl rfl
      obtain ⟨vs, b1, b2, b3, b4, b5⟩ := cells_rel (E := { m := m, m0 := m, H := fun _ => none, β := fun _ => 0, t := fun _ => 0 }) (.rep v x hrv) x1
      have hvl : vs.length = sz := by omega
      have hmul : (i + 1) * sz ≤ (i + (parts.length + 1)) * sz := Nat.mul_le_mul_right _ (by omega)
      simp only [List.length_cons] at hfit
      have hs1 : (i + 1) * sz = i * sz + sz := Nat.succ_mul i sz
      obtain ⟨f1, f2⟩ := fold_cells (i * sz) vs cs (by omega)
      obtain ⟨cs', c1, c2, c3, c4, c5⟩ := ih (i + 1) xs (vs.toArray.zipIdx.foldl (fun cs (x : Value × Nat) => cs.setIfInBounds (i * sz + x.2) x.1) cs) (by simpa using hl)
        (fun j q hq => by have := hk (j + 1) q (by simpa using hq); omega) (by rw [f1]; rw [show i + 1 + parts.length = i + (parts.length + 1) by omega]; exact hfit)
        (fun y hy => hx y (List.mem_cons_of_mem _ hy)) (fun j q y hq hy => hr (j + 1) q y (by simpa using hq) (by simpa using hy))
        (fun u hu => by
          obtain ⟨k', hk'⟩ := List.getElem?_of_mem hu
          have h2 := f2 k'
          rw [Array.getElem?_toList] at hk'
          rw [hk'] at h2
          split at h2
          · exact b3 u (List.mem_of_getElem? h2.symm)
          · exact hone u (List.mem_of_getElem? (by rw [Array.getElem?_toList]; exact h2.symm)))
      refine ⟨cs', ?_, by rw [c2, f1], c3, fun j hj => ?_, fun j u y hu hy => ?_⟩
      · simp only [Instr.fill, b1, List.size_toArray]
        rw [if_neg (by simp only [Bool.or_eq_true, decide_eq_true_eq, not_or]; omega)]
        exact c1
      · rw [c4 j (by omega), f2 j, if_neg (by omega)]
      · simp only [List.map_cons, List.flatten_cons] at hy
        by_cases hj : j < sz
        · rw [List.getElem?_append_left (by omega)] at hy
          rw [c4 _ (by omega), f2, if_pos (by omega), show i * sz + j - i * sz = j by omega] at hu
          exact b5 x2 j u y hu hy
        · rw [List.getElem?_append_right (by omega), x3] at hy
          refine c5 (j - sz) u y ?_ hy
          rw [hs1, show i * sz + sz + (j - sz) = i * sz + j by omega]
          exact hu

theorem row_get {l : List (Nat × Operand)} : ∀ {k : Nat} {xs : List AX}, trRow k l = some xs → xs.length = l.length ∧ ∀ (j : Nat) q, l[j]? = some q → q.1 = k + j ∧ ∃ ax, xs[j]? = some ax ∧ trX q.2 = some ax := by
  induction l with
  | nil => intro k xs h; simp only [trRow, Option.some.injEq] at h; subst h; exact ⟨rfl, by simp⟩
  | cons q l ih =>
    intro k xs h
    obtain ⟨i, x⟩ := q
    simp only [trRow] at h
    split at h
    rotate_left
    · cases h
    rename_i hik
    simp only [Option.bind_eq_bind, Option.bind_eq_some_iff, Option.pure_def, Option.some.injEq] at h
    obtain ⟨ax, hax, r, hr, rfl⟩ := h
    obtain ⟨h1, h2⟩ := ih hr
    refine ⟨by simp [h1], fun j q hq => ?_⟩
    cases j with
    | zero =>
      simp only [List.getElem?_cons_zero, Option.some.injEq] at hq
      subst hq
      exact ⟨by simp [hik], ax, rfl, hax⟩
    | succ j =>
      obtain ⟨g1, ax', g2, g3⟩ := h2 j q (by simpa using hq)
      exact ⟨by omega, ax', by simpa using g2, g3⟩

theorem bslice_sound {t e : TypeId} {z : SV} {len : Nat} {parts : Array (Nat × Operand)} {xs : List AX} {rows : List (List SV)} {h : List Ob} (hW : W w0 own E w) (hu : ∀ o, U o → E.H o = s.hp[o]?) (hn : U s.hp.length) (ht : P.underlying t = some (.slice e)) (hz : zeroT P e = some z)
    (hpos : 0 < P.cellsOf e) (hzl : (cellsOf z).length = P.cellsOf e) (hrow : trRow 0 parts.toList = some xs) (hxl : xs.length = len) (hsmall : len * P.cellsOf e ≤ 2 ^ 24) (hc : closeRows s.hp (xs.map s.get) = some (rows, h)) (hob : ∀ r ∈ rows, r.length = P.cellsOf e)
    (hx : ∀ q ∈ parts.toList, ∀ ax, trX q.2 = some ax → RelV E (a.eval q.2) (s.get ax)) (hi : ∀ o ∈ idsVs s.hp (xs.map s.get), U o) :
    ∃ v w' E', (Instr.buildSlice t len (parts.map fun (i, x) => (i, a.eval x))).run P w = .ok v w' ∧ RelV E' v (.osl h.length 0 0 rows.length) ∧
      Step U w0 own E E' w' (h ++ [{ box := false, sz := P.cellsOf e, els := rows, frz := 0, gen := 0, cl := true }]) ∧ w.heap.size ≤ w'.heap.size := by
  obtain ⟨l', hcv, rfl, hok⟩ := closeRows_eq hc
  obtain ⟨r1, r2⟩ := row_get hrow
  obtain ⟨i, zv, hi0, hzv, hofz, hrep⟩ := zero_rel (m := E.m) hz
  have hci := cellsOf_info hi0
  obtain ⟨zs, y1, y2, y3, y4, y5⟩ := cells_rel (.rep _ _ hrep : RelV E zv z) (rep_const (m := E.m) hofz).2.2
  have hzsz : zv.cells.size = P.cellsOf e := by rw [y1]; simp; omega
  obtain ⟨q1, q2, E1, st1, rep1⟩ := closeVs_sound (vs := parts.toList.map fun q => a.eval q.2) hW hu hcv (by simp [r1]) (fun j v x hv hx' => by
    rw [List.getElem?_map] at hv hx'
    cases hq : parts.toList[j]? with
    | none => rw [hq] at hv; cases hv
    | some q =>
      rw [hq] at hv
      simp only [Option.map_some, Option.some.injEq] at hv
      obtain ⟨_, ax, g2, g3⟩ := r2 j q hq
      rw [g2] at hx'
      simp only [Option.map_some, Option.some.injEq] at hx'
      subst hv; subst hx'
      exact hx q (List.mem_of_getElem? hq) ax g3) hi
  have hll : l'.length = len := by rw [q2]; simp [hxl]
  have hbase : ∀ v ∈ (Array.map (fun x => zv.cells[x % zv.cells.size]!) (Array.range (len * i.size))).toList, v.oneCell' = true := by
    intro v hv
    obtain ⟨k, hk⟩ := List.getElem?_of_mem hv
    exact (made_one (z := zv.cells) (n := len * i.size) (by rw [y1]; simpa using y3) (by omega) k v (by rw [Array.getElem?_toList] at hk; exact hk)).1
  obtain ⟨cs', c1, c2, c3, c4, c5⟩ := fill_rows E1.m hpos (parts.toList.map fun q => (q.1, a.eval q.2)) 0 l' ((Array.range (len * i.size)).map (zv.cells[· % zv.cells.size]!)) (by simp [hll, ← r1, hxl])
    (fun j q hq => by
      rw [List.getElem?_map] at hq
      cases hq' : parts.toList[j]? with
      | none => rw [hq'] at hq; cases hq
      | some q' =>
        rw [hq'] at hq
        simp only [Option.map_some, Option.some.injEq] at hq
        subst hq
        exact (r2 j q' hq').1)
    (by simp [← r1, hxl, hci])
    (fun x hx => ⟨(hok x hx).1, (hok x hx).2, hob _ (List.mem_map_of_mem hx)⟩)
    (fun j q x hq hx' => by
      rw [List.getElem?_map] at hq
      cases hq' : parts.toList[j]? with
      | none => rw [hq'] at hq; cases hq
      | some q' =>
        rw [hq'] at hq
        simp only [Option.map_some, Option.some.injEq] at hq
        subst hq
        exact rep1 j _ x (by rw [List.getElem?_map, hq']; rfl) hx')
    hbase
  have hrun : (Instr.buildSlice t len (parts.map fun (i, x) => (i, a.eval x))).run P w = .ok (.slice (some ⟨w.heap.size, 0, none⟩) len len) (w.alloc (.cells cs' e)) := by
    have hsm : ¬ (len * i.size > 2 ^ 24) := by rw [← hci]; omega
    have hpl : (parts.map fun (i, x) => (i, a.eval x)).toList = parts.toList.map fun q => (q.1, a.eval q.2) := by rw [Array.toList_map]
    rw [hci] at c1
    rcases Nat.eq_zero_or_pos len with h0 | h0
    · subst h0
      have hnil : parts.toList = [] := List.eq_nil_of_length_eq_zero (by omega)
      rw [hnil] at c1
      simp only [List.map_nil, Instr.fill, Option.some.injEq] at c1
      have hcs0 : cs' = #[] := by rw [← c1]; simp
      have hp0 : parts = #[] := Array.ext' (by simpa using hnil)
      rw [hp0, hcs0]
      simp [Instr.buildSlice, run_underlying ht, sizeOf, typeInfo, hi0, Instr.fill, newRow]
      rw [Array.range_zero', Array.map_empty]
    · have hnz : ¬ (len * i.size = 0) := by
        intro h
        rcases Nat.mul_eq_zero.1 h with h | h <;> omega
      simp only [Instr.buildSlice, Sem.run_bind, run_underlying ht, Result.andThen_ok, run_sizeOf w hi0, hci, if_neg hsm, if_neg hnz, zeroValue, run_typeInfo w hi0, hzv, Sem.run_pure, hpl, c1, newRow, run_newObj]
      rfl
  have hnl : h.length = s.hp.length := q1
  have hn' : U ({ s with hp := h } : St).hp.length := by show U h.length; rw [hnl]; exact hn
  obtain ⟨E', a1, a2, a3, a4⟩ := step_new (s := { s with hp := h }) st1.wo st1.on hn' cs' e { box := false, sz := P.cellsOf e, els := l'.map cellsOf, frz := 0, gen := 0, cl := true }
    hob (Nat.zero_le _) (by rw [c2]; simp [hll, hci]) (by simp) (by
      show (l'.map cellsOf).length ≤ _
      rw [List.length_map, hll]
      have : len * 1 ≤ len * P.cellsOf e := Nat.mul_le_mul_left _ hpos
      omega)
    (fun k v hv => c3 v (List.mem_of_getElem? (by rw [Array.getElem?_toList]; exact hv))) (fun k v x hv hx => .rep v x (c5 k v x (by rw [Nat.zero_mul, Nat.zero_add]; exact hv) hx)) (fun _ k v x hv hx => c5 k v x (by rw [Nat.zero_mul, Nat.zero_add]; exact hv) hx)
  refine ⟨_, _, E', hrun, ?_, st1.trans a1, by simp⟩
  refine .osl _ _ _ _ _ _ _ _ a2 (Nat.le_refl _) ⟨by simp [hll], by simp [hll], fun _ => ⟨_, _, rfl⟩⟩ (fun _ => ⟨by simp, .inl ⟨by rw [a3]; simp, ?_⟩⟩)
  rw [a4, c2]
  simp [hci]
end
end Go.Proofs.Ytadmdmhocglkfaa.Abs
