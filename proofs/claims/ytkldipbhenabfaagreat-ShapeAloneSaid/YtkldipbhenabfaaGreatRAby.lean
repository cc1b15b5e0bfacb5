/- The abstract evaluator, second half: calls, regions, soundness, arguments. -/
import Derived.Test.YtkldipbhenabfaaGreatRAbx
import Derived.Carry
import Derived.SizedLaws
import Derived.ChangeCalls
/-! Structs and slices that are written out; cuts of slices. -/
set_option linter.unusedSimpArgs false
set_option linter.unusedVariables false
namespace Go.Proofs.YtkldipbhenabfaaGreat.Abs
open Go Go.RowKit

section
variable {P : Program} {U : Nat → Prop} {w0 : World} {own : Nat → Prop} {E : Env} {w : World} {s : St} {a : Act}

theorem fold_set (off : Nat) : ∀ (l : List Value) (k : Nat) (cs : Array Value), off + k + l.length ≤ cs.size → ((l.zipIdx k).foldl (fun cs (x : Value × Nat) => cs.setIfInBounds (off + x.2) x.1) cs).size = cs.size ∧
    ∀ m, ((l.zipIdx k).foldl (fun cs (x : Value × Nat) => cs.setIfInBounds (off + x.2) x.1) cs)[m]? = if off + k ≤ m ∧ m < off + k + l.length then l[m - (off + k)]? else cs[m]? := by
  intro l
  induction l with
  | nil => intro k cs _; exact ⟨rfl, fun m => by rw [if_neg (by simp only [List.length_nil]; omega)]; rfl⟩
  | cons v l ih =>
    intro k cs h
    simp only [List.length_cons] at h
    obtain ⟨h1, h2⟩ := ih (k + 1) (cs.setIfInBounds (off + k) v) (by simp; omega)
    simp only [List.zipIdx_cons, List.foldl_cons]
    refine ⟨by rw [h1]; simp, fun m => ?_⟩
    rw [h2 m]
    by_cases hm : m = off + k
    · subst hm
      rw [if_neg (by omega), if_pos (by simp), Array.getElem?_setIfInBounds_self_of_lt (by omega)]
      simp
    · by_cases hin : off + (k + 1) ≤ m ∧ m < off + (k + 1) + l.length
      · rw [if_pos hin, if_pos (by simp; omega)]
        rw [show m - (off + k) = (m - (off + (k + 1))) + 1 by omega]
        simp
      · rw [if_neg hin, if_neg (by simp; omega), Array.getElem?_setIfInBounds_ne (by omega)]

theorem fold_cells (off : Nat) (vs : List Value) (cs : Array Value) (h : off + vs.length ≤ cs.size) : (vs.toArray.zipIdx.foldl (fun cs (x : Value × Nat) => cs.setIfInBounds (off + x.2) x.1) cs).size = cs.size ∧
    ∀ m, (vs.toArray.zipIdx.foldl (fun cs (x : Value × Nat) => cs.setIfInBounds (off + x.2) x.1) cs)[m]? = if off ≤ m ∧ m < off + vs.length then vs[m - off]? else cs[m]? := by
  have := fold_set off vs 0 cs (by omega)
  rw [← Array.foldl_toList, Array.toList_zipIdx]
  simpa using this

theorem fill_sound {t : TypeId} {fs : Array Field} {places : Array (Nat × Nat)} (hp : ∀ (i : Nat) (f : Field), fs[i]? = some f → places[i]? = some (f.offset, P.cellsOf f.type)) (hfs : ∀ (i : Nat) (f : Field), fieldT P t i = some f → fs[i]? = some f) (R : Value → SV → Prop) :
    ∀ (parts : List (Nat × Operand)) (ps : List (Nat × Nat × AX)) (cs : Array Value) (cells : List SV), trParts P t parts = some ps → cs.size = cells.length → (∀ p ∈ ps, p.1 + p.2.1 ≤ cells.length ∧ 0 < p.2.1) →
      (∀ (k : Nat) (v : Value) (x : SV), cs[k]? = some v → cells[k]? = some x → R v x) → (∀ v ∈ cs.toList, v.oneCell' = true) → partsOk (ps.map fun p => (p.1, p.2.1, s.get p.2.2)) →
      (∀ q ∈ parts, ∀ ax, trX q.2 = some ax → ∃ vs : List Value, (a.eval q.2).cells = vs.toArray ∧ vs.length = (cellsOf (s.get ax)).length ∧ (∀ u ∈ vs, u.oneCell' = true) ∧ ∀ (j : Nat) (u : Value) (x : SV), vs[j]? = some u → (cellsOf (s.get ax))[j]? = some x → R u x) →
      ∃ cs', Instr.fill (places[·]?) cs (parts.map fun q => (q.1, a.eval q.2)) = some cs' ∧ cs'.size = (fill cells (ps.map fun p => (p.1, p.2.1, s.get p.2.2))).length ∧ (∀ v ∈ cs'.toList, v.oneCell' = true) ∧
        ∀ (k : Nat) (v : Value) (x : SV), cs'[k]? = some v → (fill cells (ps.map fun p => (p.1, p.2.1, s.get p.2.2)))[k]? = some x → R v x := by
  intro parts
  induction parts with
  | nil =>
    intro ps cs cells htr hsz hps hR hone hok hx
    simp only [trParts, Option.some.injEq] at htr
    subst htr
    exact ⟨cs, rfl, hsz, hone, hR⟩
  | cons q parts ih =>
    obtain ⟨i, x⟩ := q
    intro ps cs cells htr hsz hps hR hone hok hx
    simp only [trParts, Option.bind_eq_bind, Option.bind_eq_some_iff, Option.pure_def, Option.some.injEq] at htr
    obtain ⟨f, hf, ax, hax, ps', hps', rfl⟩ := htr
    have hpl := hp i f (hfs i f hf)
    obtain ⟨h1, h2⟩ := hps _ (List.mem_cons_self ..)
    simp only at h1 h2
    simp only [List.map_cons, partsOk] at hok
    obtain ⟨o1, o2, o3⟩ := hok
    obtain ⟨vs, b1, b2, b3, b4⟩ := hx (i, x) (List.mem_cons_self ..) ax hax
    simp only at b1
    have hvl : vs.length = P.cellsOf f.type := by omega
    obtain ⟨f1, f2⟩ := fold_cells f.offset vs cs (by omega)
    have hspl : ∀ k, (splice cells.length (P.cellsOf f.type) f.offset cells (cellsOf (s.get ax)))[k]? = if f.offset ≤ k ∧ k < f.offset + P.cellsOf f.type then (cellsOf (s.get ax))[k - f.offset]? else cells[k]? := by
      intro k
      rw [splice_eq rfl h1 o2 h2, mid_get _ _ _ (by omega), o2]
    have hlen := splice_len (cells := cells) rfl h1 o2 h2
    obtain ⟨cs', c1, c2, c3, c4⟩ := ih ps' (vs.toArray.zipIdx.foldl (fun cs (x : Value × Nat) => cs.setIfInBounds (f.offset + x.2) x.1) cs) (splice cells.length (P.cellsOf f.type) f.offset cells (cellsOf (s.get ax))) hps' (by rw [f1, hlen, hsz])
      (fun p hp => by rw [hlen]; exact hps p (List.mem_cons_of_mem _ hp))
      (fun k v y hv hy => by
        rw [f2 k] at hv
        rw [hspl k] at hy
        rw [hvl] at hv
        split at hv
        · rename_i hin
          rw [if_pos hin] at hy
          exact b4 _ v y hv hy
        · rename_i hin
          rw [if_neg hin] at hy
          exact hR k v y hv hy)
      (fun v hv => by
        obtain ⟨k, hk⟩ := List.getElem?_of_mem hv
        have hk' := f2 k
        rw [Array.getElem?_toList] at hk
        rw [hk] at hk'
        split at hk'
        · exact b3 v (List.mem_of_getElem? hk'.symm)
        · exact hone v (List.mem_of_getElem? (by rw [Array.getElem?_toList]; exact hk'.symm)))
      o3 (fun q hq => hx q (List.mem_cons_of_mem _ hq))
    refine ⟨cs', ?_, c2, c3, c4⟩
    simp only [List.map_cons, Instr.fill, hpl, b1, List.size_toArray]
    rw [if_neg (by simp only [Bool.or_eq_true, decide_eq_true_eq, not_or]; omega)]
    exact c1

theorem places_of {fs : Array Field} (h : fs.toList.all (fun f => (P.info? f.type).isSome) = true) (w : World) :
    ∃ places : Array (Nat × Nat), (fs.mapM (fun f => do pure (f.offset, ← sizeOf f.type) : Field → Sem (Nat × Nat))).run P w = .ok places w ∧ ∀ (i : Nat) (f : Field), fs[i]? = some f → places[i]? = some (f.offset, P.cellsOf f.type) := by
  obtain ⟨l⟩ := fs
  have key : ∀ l : List Field, l.all (fun f => (P.info? f.type).isSome) = true → (l.mapM (fun f => do pure (f.offset, ← sizeOf f.type) : Field → Sem (Nat × Nat))).run P w = .ok (l.map fun f => (f.offset, P.cellsOf f.type)) w := by
    intro l
    induction l with
    | nil => intro _; rfl
    | cons f l ih =>
      intro h
      simp only [List.all_cons, Bool.and_eq_true] at h
      obtain ⟨i, hi⟩ := Option.isSome_iff_exists.1 h.1
      have h1 := run_sizeOf (P := P) w hi
      simp only [List.mapM_cons, Sem.run_bind, h1, Result.andThen_ok, Sem.run_pure, ih h.2, List.map_cons]
  refine ⟨(l.map fun f => (f.offset, P.cellsOf f.type)).toArray, ?_, fun i f hf => ?_⟩
  · have := key l (by simpa using h)
    rw [List.mapM_toArray, Sem.run_map, this]
    rfl
  · simp only [List.getElem?_toArray] at hf
    simp [hf]
end
end Go.Proofs.YtkldipbhenabfaaGreat.Abs

/-! Several values closed; slices that are written out; cuts. -/
namespace Go.Proofs.YtkldipbhenabfaaGreat.Abs
open Go Go.RowKit

section
variable {P : Program} {U : Nat → Prop} {w0 : World} {own : Nat → Prop} {E : Env} {w : World} {s : St} {a : Act}

theorem closeC_ok {hp hp' : List Ob} {s s' : SV} (h : closeC hp s = some (s', hp')) : s'.ok = true ∧ s'.closed = true := by
  cases s with
  | osl o g off len =>
    simp only [closeC] at h
    split at h
    rotate_left
    · cases h
    split at h
    rotate_left
    · cases h
    cases h
    exact ⟨rfl, rfl⟩
  | agg b l => cases b <;> simp [closeC] at h; rw [← h.1]; exact ⟨rfl, rfl⟩
  | junk => simp [closeC] at h
  | undef => simp [closeC] at h
  | ref _ _ _ _ => simp [closeC] at h
  | tup _ => simp [closeC] at h
  | _ => simp only [closeC, Option.some.injEq, Prod.mk.injEq] at h; rw [← h.1]; exact ⟨rfl, rfl⟩

theorem closeV_ok {hp hp' : List Ob} {s s' : SV} (h : closeV hp s = some (s', hp')) : s'.ok = true ∧ s'.closed = true := by
  have plain : closeV hp s = closeC hp s → s'.ok = true ∧ s'.closed = true := fun e => closeC_ok (e ▸ h)
  cases s with
  | agg b l =>
    cases b with
    | true => exact plain rfl
    | false =>
      simp only [closeV] at h
      split at h
      · cases h; exact ⟨rfl, rfl⟩
      · cases h
  | ref o g e c =>
    simp only [closeV] at h
    split at h
    rotate_left
    · cases h
    split at h
    rotate_left
    · cases h
    split at h
    · cases h; exact ⟨rfl, rfl⟩
    · split at h
      · cases h; exact ⟨rfl, rfl⟩
      · cases h
  | _ => exact plain rfl

theorem closeVs_sound : ∀ {l l' : List SV} {E : Env} {hp hp' : List Ob} {vs : List Value}, W w0 own E w → (∀ o, U o → E.H o = hp[o]?) →
    closeVs hp l = some (l', hp') → vs.length = l.length → (∀ (j : Nat) (v : Value) (x : SV), vs[j]? = some v → l[j]? = some x → RelV E v x) → (∀ o ∈ idsVs hp l, U o) →
    hp'.length = hp.length ∧ l'.length = l.length ∧ ∃ E', Step U w0 own E E' w hp' ∧ (∀ (j : Nat) (v : Value) (x : SV), vs[j]? = some v → l'[j]? = some x → Rep E'.m v x) := by
  intro l
  induction l with
  | nil =>
    intro l' E hp hp' vs hW hu hc hl hr hi
    simp only [closeVs, Option.some.injEq, Prod.mk.injEq] at hc
    obtain ⟨rfl, rfl⟩ := hc
    exact ⟨rfl, rfl, E, Step.refl hW hu, by simp⟩
  | cons s l ih =>
    intro l' E hp hp' vs hW hu hc hl hr hi
    cases vs with
    | nil => simp at hl
    | cons v vs =>
      simp only [closeVs] at hc
      split at hc
      rotate_left
      · cases hc
      rename_i c' h1 hc1
      split at hc
      rotate_left
      · cases hc
      rename_i r' h2 hc2
      cases hc
      simp only [idsVs, hc1] at hi
      obtain ⟨e1, E1, st1, rep1, b1, t1⟩ := closeV_sound hW hu hc1 (hr 0 v s rfl rfl) (fun o ho => hi o (List.mem_append_left _ ho))
      obtain ⟨e2, e3, E2, st2, rep2⟩ := ih st1.wo st1.on hc2 (by simpa using hl) (fun j v' x hv hx => (hr (j + 1) v' x (by simpa using hv) (by simpa using hx)).mono st1.ext) (fun o ho => hi o (List.mem_append_right _ ho))
      refine ⟨e2.trans e1, by simp [e3], E2, st1.trans st2, fun j v' x hv hx => ?_⟩
      cases j with
      | zero =>
        simp only [List.getElem?_cons_zero, Option.some.injEq] at hv hx
        subst hv; subst hx
        exact rep1.mono st2.ext.m
      | succ j => exact rep2 j v' x (by simpa using hv) (by simpa using hx)

theorem closeRows_eq {l : List SV} : ∀ {hp hp' : List Ob} {rows : List (List SV)}, closeRows hp l = some (rows, hp') → ∃ l', closeVs hp l = some (l', hp') ∧ rows = l'.map cellsOf ∧ ∀ x ∈ l', x.ok = true ∧ x.closed = true := by
  induction l with
  | nil => intro hp hp' rows h; simp only [closeRows, Option.some.injEq, Prod.mk.injEq] at h; obtain ⟨rfl, rfl⟩ := h; exact ⟨[], rfl, rfl, by simp⟩
  | cons c l ih =>
    intro hp hp' rows h
    simp only [closeRows] at h
    split at h
    rotate_left
    · cases h
    rename_i c' h1 hc1
    split at h
    rotate_left
    · cases h
    rename_i r' h2 hc2
    cases h
    obtain ⟨l', e1, e2, e3⟩ := ih hc2
    refine ⟨c' :: l', by simp [closeVs, hc1, e1], by simp [e2], fun x hx => ?_⟩
    rcases List.mem_cons.1 hx with rfl | hx
    · exact closeV_ok hc1
    · exact e3 x hx

theorem fill_rows {sz : Nat} (m : Mem) (hsz : 0 < sz) : ∀ (parts : List (Nat × Value)) (k : Nat) (xs : List SV) (cs : Array Value), parts.length = xs.length → (∀ (j : Nat) q, parts[j]? = some q → q.1 = k + j) → (k + parts.length) * sz ≤ cs.size →
    (∀ x ∈ xs, x.ok = true ∧ x.closed = true ∧ (cellsOf x).length = sz) → (∀ (j : Nat) q x, parts[j]? = some q → xs[j]? = some x → Rep m q.2 x) → (∀ v ∈ cs.toList, v.oneCell' = true) →
    ∃ cs', Instr.fill (fun i => some (i * sz, sz)) cs parts = some cs' ∧ cs'.size = cs.size ∧ (∀ v ∈ cs'.toList, v.oneCell' = true) ∧ (∀ i, i < k * sz → cs'[i]? = cs[i]?) ∧
      ∀ (i : Nat) (v : Value) (x : SV), cs'[k * sz + i]? = some v → (xs.map cellsOf).flatten[i]? = some x → Rep m v x := by
  intro parts
  induction parts with
  | nil =>
    intro k xs cs hl hk hfit hx hr hone
    have : xs = [] := List.eq_nil_of_length_eq_zero (by simpa using hl.symm)
    subst this
    exact ⟨cs, rfl, rfl, hone, fun _ _ => rfl, by simp⟩
  | cons q parts ih =>
    intro k xs cs hl hk hfit hx hr hone
    cases xs with
    | nil => simp at hl
    | cons x xs =>
      obtain ⟨i, v⟩ := q
      have hi : i = k := by simpa using hk 0 (i, v) rfl
      subst hi
      obtain ⟨x1, x2, x3⟩ := hx x (List.mem_cons_self ..)
      have hrv := hr 0 (i, v) x rfl rfl
      obtain ⟨vs, b1, b2, b3, b4, b5⟩ := cells_rel (E := { m := m, m0 := m, H := fun _ => none, β := fun _ => 0, t := fun _ => 0 }) (.rep v x hrv) x1
      have hvl : vs.length = sz := by omega
      have hmul : (i + 1) * sz ≤ (i + (parts.length + 1)) * sz := Nat.mul_le_mul_right _ (by omega)
      simp only [List.length_cons] at hfit
      have hs1 : (i + 1) * sz = i * sz + sz := Nat.succ_mul i sz
      obtain ⟨f1, f2⟩ := fold_cells (i * sz) vs cs (by omega)
      obtain ⟨cs', c1, c2, c3, c4, c5⟩ := ih (i + 1) xs (vs.toArray.zipIdx.foldl (fun cs (x : Value × Nat) => cs.setIfInBounds (i * sz + x.2) x.1) cs) (by simpa using hl)
        (fun j q hq => by have := hk (j + 1) q (by simpa using hq); omega) (by rw [f1]; rw [show i + 1 + parts.length = i + (parts.length + 1) by omega]; exact hfit)
        (fun y hy => hx y (List.mem_cons_of_mem _ hy)) (fun j q y hq hy => hr (j + 1) q y (by simpa using hq) (by simpa using hy))
        (fun u hu => by
          obtain ⟨k', hk'⟩ := List.getElem?_of_mem hu
          have h2 := f2 k'
          rw [Array.getElem?_toList] at hk'
          rw [hk'] at h2
          split at h2
          · exact b3 u (List.mem_of_getElem? h2.symm)
          · exact hone u (List.mem_of_getElem? (by rw [Array.getElem?_toList]; exact h2.symm)))
      refine ⟨cs', ?_, by rw [c2, f1], c3, fun j hj => ?_, fun j u y hu hy => ?_⟩
      · simp only [Instr.fill, b1, List.size_toArray]
        rw [if_neg (by simp only [Bool.or_eq_true, decide_eq_true_eq, not_or]; omega)]
        exact c1
      · rw [c4 j (by omega), f2 j, if_neg (by omega)]
      · simp only [List.map_cons, List.flatten_cons] at hy
        by_cases hj : j < sz
        · rw [List.getElem?_append_left (by omega)] at hy
          rw [c4 _ (by omega), f2, if_pos (by omega), show i * sz + j - i * sz = j by omega] at hu
          exact b5 x2 j u y hu hy
        · rw [List.getElem?_append_right (by omega), x3] at hy
          refine c5 (j - sz) u y ?_ hy
          rw [hs1, show i * sz + sz + (j - sz) = i * sz + j by omega]
          exact hu

theorem row_get {l : List (Nat × Operand)} : ∀ {k : Nat} {xs : List AX}, trRow k l = some xs → xs.length = l.length ∧ ∀ (j : Nat) q, l[j]? = some q → q.1 = k + j ∧ ∃ ax, xs[j]? = some ax ∧ trX q.2 = some ax := by
  induction l with
  | nil => intro k xs h; simp only [trRow, Option.some.injEq] at h; subst h; exact ⟨rfl, by simp⟩
  | cons q l ih =>
    intro k xs h
    obtain ⟨i, x⟩ := q
    simp only [trRow] at h
    split at h
    rotate_left
    · cases h
    rename_i hik
    simp only [Option.bind_eq_bind, Option.bind_eq_some_iff, Option.pure_def, Option.some.injEq] at h
    obtain ⟨ax, hax, r, hr, rfl⟩ := h
    obtain ⟨h1, h2⟩ := ih hr
    refine ⟨by simp [h1], fun j q hq => ?_⟩
    cases j with
    | zero =>
      simp only [List.getElem?_cons_zero, Option.some.injEq] at hq
      subst hq
      exact ⟨by simp [hik], ax, rfl, hax⟩
    | succ j =>
      obtain ⟨g1, ax', g2, g3⟩ := h2 j q (by simpa using hq)
      exact ⟨by omega, ax', by simpa using g2, g3⟩

theorem bslice_sound {t e : TypeId} {z : SV} {len : Nat} {parts : Array (Nat × Operand)} {xs : List AX} {rows : List (List SV)} {h : List Ob} (hW : W w0 own E w) (hu : ∀ o, U o → E.H o = s.hp[o]?) (hn : U s.hp.length) (ht : P.underlying t = some (.slice e)) (hz : zeroT P e = some z)
    (hpos : 0 < P.cellsOf e) (hzl : (cellsOf z).length = P.cellsOf e) (hrow : trRow 0 parts.toList = some xs) (hxl : xs.length = len) (hsmall : len * P.cellsOf e ≤ 2 ^ 24) (hc : closeRows s.hp (xs.map s.get) = some (rows, h)) (hob : ∀ r ∈ rows, r.length = P.cellsOf e)
    (hx : ∀ q ∈ parts.toList, ∀ ax, trX q.2 = some ax → RelV E (a.eval q.2) (s.get ax)) (hi : ∀ o ∈ idsVs s.hp (xs.map s.get), U o) :
    ∃ v w' E', (Instr.buildSlice t len (parts.map fun (i, x) => (i, a.eval x))).run P w = .ok v w' ∧ RelV E' v (.osl h.length 0 0 rows.length) ∧
      Step U w0 own E E' w' (h ++ [{ box := false, sz := P.cellsOf e, els := rows, frz := 0, gen := 0, cl := true }]) ∧ w.heap.size ≤ w'.heap.size := by
  obtain ⟨l', hcv, rfl, hok⟩ := closeRows_eq hc
  obtain ⟨r1, r2⟩ := row_get hrow
  obtain ⟨i, zv, hi0, hzv, hofz, hrep⟩ := zero_rel (m := E.m) hz
  have hci := cellsOf_info hi0
  obtain ⟨zs, y1, y2, y3, y4, y5⟩ := cells_rel (.rep _ _ hrep : RelV E zv z) (rep_const (m := E.m) hofz).2.2
  have hzsz : zv.cells.size = P.cellsOf e := by rw [y1]; simp; omega
  obtain ⟨q1, q2, E1, st1, rep1⟩ := closeVs_sound (vs := parts.toList.map fun q => a.eval q.2) hW hu hcv (by simp [r1]) (fun j v x hv hx' => by
    rw [List.getElem?_map] at hv hx'
    cases hq : parts.toList[j]? with
    | none => rw [hq] at hv; cases hv
    | some q =>
      rw [hq] at hv
      simp only [Option.map_some, Option.some.injEq] at hv
      obtain ⟨_, ax, g2, g3⟩ := r2 j q hq
      rw [g2] at hx'
      simp only [Option.map_some, Option.some.injEq] at hx'
      subst hv; subst hx'
      exact hx q (List.mem_of_getElem? hq) ax g3) hi
  have hll : l'.length = len := by rw [q2]; simp [hxl]
  have hbase : ∀ v ∈ (Array.map (fun x => zv.cells[x % zv.cells.size]!) (Array.range (len * i.size))).toList, v.oneCell' = true := by
    intro v hv
    obtain ⟨k, hk⟩ := List.getElem?_of_mem hv
    exact (made_one (z := zv.cells) (n := len * i.size) (by rw [y1]; simpa using y3) (by omega) k v (by rw [Array.getElem?_toList] at hk; exact hk)).1
  obtain ⟨cs', c1, c2, c3, c4, c5⟩ := fill_rows E1.m hpos (parts.toList.map fun q => (q.1, a.eval q.2)) 0 l' ((Array.range (len * i.size)).map (zv.cells[· % zv.cells.size]!)) (by simp [hll, ← r1, hxl])
    (fun j q hq => by
      rw [List.getElem?_map] at hq
      cases hq' : parts.toList[j]? with
      | none => rw [hq'] at hq; cases hq
      | some q' =>
        rw [hq'] at hq
        simp only [Option.map_some, Option.some.injEq] at hq
        subst hq
        exact (r2 j q' hq').1)
    (by simp [← r1, hxl, hci])
    (fun x hx => ⟨(hok x hx).1, (hok x hx).2, hob _ (List.mem_map_of_mem hx)⟩)
    (fun j q x hq hx' => by
      rw [List.getElem?_map] at hq
      cases hq' : parts.toList[j]? with
      | none => rw [hq'] at hq; cases hq
      | some q' =>
        rw [hq'] at hq
        simp only [Option.map_some, Option.some.injEq] at hq
        subst hq
        exact rep1 j _ x (by rw [List.getElem?_map, hq']; rfl) hx')
    hbase
  have hrun : (Instr.buildSlice t len (parts.map fun (i, x) => (i, a.eval x))).run P w = .ok (.slice (some ⟨w.heap.size, 0, none⟩) len len) (w.alloc (.cells cs' e)) := by
    have hsm : ¬ (len * i.size > 2 ^ 24) := by rw [← hci]; omega
    have hpl : (parts.map fun (i, x) => (i, a.eval x)).toList = parts.toList.map fun q => (q.1, a.eval q.2) := by rw [Array.toList_map]
    rw [hci] at c1
    rcases Nat.eq_zero_or_pos len with h0 | h0
    · subst h0
      have hnil : parts.toList = [] := List.eq_nil_of_length_eq_zero (by omega)
      rw [hnil] at c1
      simp only [List.map_nil, Instr.fill, Option.some.injEq] at c1
      have hcs0 : cs' = #[] := by rw [← c1]; simp
      have hp0 : parts = #[] := Array.ext' (by simpa using hnil)
      rw [hp0, hcs0]
      simp [Instr.buildSlice, run_underlying ht, sizeOf, typeInfo, hi0, Instr.fill, newRow]
      rw [Array.range_zero', Array.map_empty]
    · have hnz : ¬ (len * i.size = 0) := by
        intro h
        rcases Nat.mul_eq_zero.1 h with h | h <;> omega
      simp only [Instr.buildSlice, Sem.run_bind, run_underlying ht, Result.andThen_ok, run_sizeOf w hi0, hci, if_neg hsm, if_neg hnz, zeroValue, run_typeInfo w hi0, hzv, Sem.run_pure, hpl, c1, newRow, run_newObj]
      rfl
  have hnl : h.length = s.hp.length := q1
  have hn' : U ({ s with hp := h } : St).hp.length := by show U h.length; rw [hnl]; exact hn
  obtain ⟨E', a1, a2, a3, a4⟩ := step_new (s := { s with hp := h }) st1.wo st1.on hn' cs' e { box := false, sz := P.cellsOf e, els := l'.map cellsOf, frz := 0, gen := 0, cl := true }
    hob (Nat.zero_le _) (by rw [c2]; simp [hll, hci]) (by simp) (by
      show (l'.map cellsOf).length ≤ _
      rw [List.length_map, hll]
      have : len * 1 ≤ len * P.cellsOf e := Nat.mul_le_mul_left _ hpos
      omega)
    (fun k v hv => c3 v (List.mem_of_getElem? (by rw [Array.getElem?_toList]; exact hv))) (fun k v x hv hx => .rep v x (c5 k v x (by rw [Nat.zero_mul, Nat.zero_add]; exact hv) hx)) (fun _ k v x hv hx => c5 k v x (by rw [Nat.zero_mul, Nat.zero_add]; exact hv) hx)
  refine ⟨_, _, E', hrun, ?_, st1.trans a1, by simp⟩
  refine .osl _ _ _ _ _ _ _ _ a2 (Nat.le_refl _) ⟨by simp [hll], by simp [hll], fun _ => ⟨_, _, rfl⟩⟩ (fun _ => ⟨by simp, .inl ⟨by rw [a3]; simp, ?_⟩⟩)
  rw [a4, c2]
  simp [hci]
end
end Go.Proofs.YtkldipbhenabfaaGreat.Abs

/-! Cuts of slices and strings; every operation that is no call. -/
namespace Go.Proofs.YtkldipbhenabfaaGreat.Abs
open Go Go.RowKit

section
variable {P : Program} {U : Nat → Prop} {w0 : World} {own : Nat → Prop} {E : Env} {w : World} {s : St} {a : Act}

theorem int_of {v : Value} {k : IntKind} {n : Int} (h : RelV E v (.int k n)) : v = .int k n := by
  cases h.closed_rep rfl with
  | int => rfl
theorem bool_of {v : Value} {b : Bool} (h : RelV E v (.bool b)) : v = .bool b := by
  cases h.closed_rep rfl with
  | bool => rfl
theorem float_of {v : Value} {k : FloatKind} {n : Nat} (h : RelV E v (.float k n)) : v = .float k n := by
  cases h.closed_rep rfl with
  | float => rfl
theorem fn_of {v : Value} {f : Nat} (h : RelV E v (.fn f)) : v = .func (.func f) #[] #[] := by
  cases h.closed_rep rfl with
  | fn => rfl
theorem str_of {v : Value} {b : ByteArray} (h : RelV E v (.str b)) : v = .string b := by
  cases h.closed_rep rfl with
  | str => rfl
theorem nilp_of {v : Value} (h : RelV E v .nilp) : v = .pointer none := by
  cases h.closed_rep rfl with
  | nilp => rfl
theorem nils_of {v : Value} (h : RelV E v .nils) : v = .slice none 0 0 := by
  cases h.closed_rep rfl with
  | nils => rfl

theorem bound_run {ox : Option Operand} {oax : Option AX} {d y : Nat} {p : Prop} {n : Nat} {code : BoundsCode} (ht : trOX ox = some oax) (hb : bound s oax d = some (p, n)) (hp : p) (hx : ∀ x, ox = some x → ∀ ax, trX x = some ax → RelV E (a.eval x) (s.get ax)) (hd : d ≤ y) :
    n ≤ d ∧ ((ox = none ∧ n = d) ∨ ∃ v, ox.map a.eval = some v ∧ (Instr.sliceBound v y code).run P w = .ok n w) := by
  cases ox with
  | none =>
    simp only [trOX, Option.some.injEq] at ht
    subst ht
    simp only [bound, Option.some.injEq, Prod.mk.injEq] at hb
    exact ⟨by omega, .inl ⟨rfl, hb.2.symm⟩⟩
  | some x =>
    simp only [trOX, Option.map_eq_some_iff] at ht
    obtain ⟨ax, hax, rfl⟩ := ht
    simp only [bound] at hb
    split at hb
    · rename_i k i hg
      simp only [Option.some.injEq, Prod.mk.injEq] at hb
      obtain ⟨rfl, rfl⟩ := hb
      have hv := hx x rfl ax hax
      rw [hg] at hv
      have := int_of hv
      refine ⟨by omega, .inr ⟨_, rfl, ?_⟩⟩
      rw [this]
      simp [Instr.sliceBound, asIntOf, hp.1, show i ≤ (y : Int) by omega]
    · cases hb

theorem run_slice {t e : TypeId} {lo hi : Option Value} {A : Option Addr} {len cap h l : Nat} (ht : P.underlying t = some (.slice e)) (hi0 : (P.info? e).isSome) (hh : (hi = none ∧ h = len) ∨ ∃ v, hi = some v ∧ (Instr.sliceBound v cap .sliceAcap).run P w = .ok h w)
    (hl : (lo = none ∧ l = 0) ∨ ∃ v, lo = some v ∧ (Instr.sliceBound v h .sliceB).run P w = .ok l w) :
    (Instr.sliceAt t (.slice A len cap) lo hi none).run P w = .ok (.slice (if cap = l then A else A.map (·.add (l * P.cellsOf e))) (h - l) (cap - l)) w := by
  obtain ⟨i, hi1⟩ := Option.isSome_iff_exists.1 hi0
  have hsz := run_sizeOf (P := P) w hi1
  rcases hh with ⟨rfl, rfl⟩ | ⟨v, rfl, hv⟩ <;> rcases hl with ⟨rfl, rfl⟩ | ⟨u, rfl, hu⟩ <;>
    simp [Instr.sliceAt, run_underlying ht, Instr.slice, Instr.sliceBounds, hsz, *]

theorem run_slice_str {t : TypeId} {lo hi : Option Value} {b : ByteArray} {h l : Nat} (ht : P.underlying t = some .string) (hh : (hi = none ∧ h = b.size) ∨ ∃ v, hi = some v ∧ (Instr.sliceBound v b.size .sliceAlen).run P w = .ok h w)
    (hl : (lo = none ∧ l = 0) ∨ ∃ v, lo = some v ∧ (Instr.sliceBound v h .sliceB).run P w = .ok l w) :
    (Instr.sliceAt t (.string b) lo hi none).run P w = .ok (.string (b.extract l h)) w := by
  rcases hh with ⟨rfl, rfl⟩ | ⟨v, rfl, hv⟩ <;> rcases hl with ⟨rfl, rfl⟩ | ⟨u, rfl, hu⟩ <;>
    simp [Instr.sliceAt, run_underlying ht, Instr.slice, Instr.sliceBounds, *]

theorem bounds_of {lo hi : Option Operand} {alo ahi : Option AX} {d y : Nat} {p q : Prop} {h n : Nat} {c1 c2 : BoundsCode} (hlo : trOX lo = some alo) (hhi : trOX hi = some ahi) (hb : bound s ahi d = some (p, h)) (hb2 : loB s alo h = some (q, n)) (hp : p) (hq : q)
    (hxl : ∀ y, lo = some y → ∀ ax, trX y = some ax → RelV E (a.eval y) (s.get ax)) (hxh : ∀ y, hi = some y → ∀ ax, trX y = some ax → RelV E (a.eval y) (s.get ax)) (hd : d ≤ y) :
    h ≤ d ∧ n ≤ h ∧ ((hi.map a.eval = none ∧ h = d) ∨ ∃ v, hi.map a.eval = some v ∧ (Instr.sliceBound v y c1).run P w = .ok h w) ∧ ((lo.map a.eval = none ∧ n = 0) ∨ ∃ v, lo.map a.eval = some v ∧ (Instr.sliceBound v h c2).run P w = .ok n w) := by
  obtain ⟨h1, h2⟩ := bound_run (P := P) (w := w) (code := c1) hhi hb hp hxh hd
  refine ⟨h1, ?_⟩
  have h2' : (hi.map a.eval = none ∧ h = d) ∨ ∃ v, hi.map a.eval = some v ∧ (Instr.sliceBound v y c1).run P w = .ok h w := by
    rcases h2 with ⟨rfl, e⟩ | h2
    · exact .inl ⟨rfl, e⟩
    · exact .inr h2
  cases lo with
  | none =>
    simp only [trOX, Option.some.injEq] at hlo
    subst hlo
    simp only [loB, Option.some.injEq, Prod.mk.injEq] at hb2
    obtain ⟨_, rfl⟩ := hb2
    exact ⟨Nat.zero_le _, h2', .inl ⟨rfl, rfl⟩⟩
  | some x =>
    have hl2 : ∃ ax, alo = some ax := by
      simp only [trOX, Option.map_eq_some_iff] at hlo
      obtain ⟨ax, _, rfl⟩ := hlo
      exact ⟨ax, rfl⟩
    obtain ⟨ax, rfl⟩ := hl2
    obtain ⟨g1, g2⟩ := bound_run (P := P) (w := w) (code := c2) (y := h) hlo hb2 hq hxl (Nat.le_refl _)
    rcases g2 with ⟨g2, _⟩ | g2
    · cases g2
    · exact ⟨g1, h2', .inr g2⟩

theorem rep_cut {m : Mem} {sz : Nat} {l : List (List SV)} {A : Option Addr} {cap h n : Nat} (hr : Rep m (.slice A l.length cap) (.dsl sz l)) (hh : h ≤ l.length) (hn : n ≤ h) :
    Rep m (.slice (if cap = n then A else A.map (·.add (n * sz))) (h - n) (cap - n)) (.dsl sz ((l.drop n).take (h - n))) := by
  have hlen : ((l.drop n).take (h - n)).length = h - n := by simp; omega
  rcases Nat.eq_zero_or_pos (h - n) with h0 | h0
  · rw [h0, List.take_zero]
    exact .dsl0 _ _ _
  · generalize hv : Value.slice A l.length cap = v at hr
    cases hr with
    | dsl0 => simp at hh; omega
    | dsl _ _ cap' b off vs g0 g1 g2 g3 g4 g5 g6 =>
      injection hv with e1 e2 e3
      subst e1; subst e3
      have hfl := flat_len g3
      have hrows : ∀ r ∈ (l.drop n).take (h - n), r.length = sz := fun r hr => g3 r (List.mem_of_mem_drop (List.mem_of_mem_take hr))
      have hfl2 : ((l.drop n).take (h - n)).flatten = (l.flatten.drop (n * sz)).take ((h - n) * sz) := by
        rw [flat_take (sz := sz) (fun r hr => g3 r (List.mem_of_mem_drop hr)), flat_drop g3]
      have hmul : (n + (h - n)) * sz ≤ l.length * sz := Nat.mul_le_mul_right _ (by omega)
      rw [Nat.add_mul] at hmul
      rw [if_neg (by omega)]
      simp only [Option.map_some, add_off]
      have hsub : ∀ (j : Nat) (v : Value), ((vs.drop (n * sz)).take ((h - n) * sz))[j]? = some v → vs[n * sz + j]? = some v := by
        intro j v hv
        rw [List.getElem?_take] at hv
        split at hv
        · exact getElem?_drop_some hv
        · cases hv
      have := Rep.dsl (m := m) sz ((l.drop n).take (h - n)) (cap - n) b (off + n * sz) ((vs.drop (n * sz)).take ((h - n) * sz)) (fun v hv => g0 v (List.mem_of_mem_drop (List.mem_of_mem_take hv))) (by omega) (by omega) hrows
        (by rw [flat_len hrows, hlen]; simp only [List.length_take, List.length_drop]; omega) (fun j v hv => by have := g5 _ v (hsub j v hv); rw [Nat.add_assoc]; exact this) (fun j v x hv hx => by
          rw [hfl2, List.getElem?_take] at hx
          split at hx
          · exact g6 _ v x (hsub j v hv) (getElem?_drop_some hx)
          · cases hx)
      rw [hlen] at this
      exact this
theorem slc_sound {t : TypeId} {z : Nat} {xv : Value} {x : SV} {lo hi : Option Operand} {alo ahi : Option AX} {eff : Eff} (hu : ∀ o, U o → E.H o = s.hp[o]?) (hx : RelV E xv x) (hlo : trOX lo = some alo) (hhi : trOX hi = some ahi) (hs : absSlc s z x alo ahi = some eff) (hob : eff.ob)
    (hxl : ∀ y, lo = some y → ∀ ax, trX y = some ax → RelV E (a.eval y) (s.get ax)) (hxh : ∀ y, hi = some y → ∀ ax, trX y = some ax → RelV E (a.eval y) (s.get ax)) (hi1 : ∀ o ∈ idsC x, U o)
    (ht : (∃ e, P.underlying t = some (.slice e) ∧ (P.info? e).isSome ∧ z = P.cellsOf e ∧ 0 < z) ∨ (P.underlying t = some .string ∧ z = 0)) :
    ∃ v, (Instr.sliceAt t xv (lo.map a.eval) (hi.map a.eval) none).run P w = .ok v w ∧ RelV E v eff.val ∧ eff.hp = s.hp ∧ eff.as := by
  cases x with
  | dsl sz l =>
    rcases ht with ⟨e, ht, hinf, rfl, hzp⟩ | ⟨_, rfl⟩
    rotate_left
    · simp [absSlc] at hs
    simp only [absSlc] at hs
    split at hs
    · cases hs
    rename_i hne
    have hse : sz = P.cellsOf e := by omega
    subst hse
    split at hs
    rotate_left
    · cases hs
    rename_i p h hb
    split at hs
    rotate_left
    · cases hs
    rename_i q n hb2
    cases hs
    obtain ⟨hp, hq⟩ := hob
    have hr := hx.closed_rep rfl
    have hshape : ∃ A cap, xv = .slice A l.length cap ∧ l.length ≤ cap := by
      cases hr with
      | dsl0 _ A cap => exact ⟨A, cap, rfl, by simp⟩
      | dsl _ _ cap b off vs g0 g1 => exact ⟨_, cap, rfl, g1⟩
    obtain ⟨A, cap, rfl, hlc⟩ := hshape
    obtain ⟨h1, h2, h3, h4⟩ := bounds_of (P := P) (w := w) (c1 := .sliceAcap) (c2 := .sliceB) hlo hhi hb hb2 hp hq hxl hxh hlc
    exact ⟨_, run_slice ht hinf h3 h4, .rep _ _ (rep_cut hr h1 h2), rfl, trivial⟩
  | osl o g off len =>
    have hU := hi1 o (by simp [idsC])
    rcases ht with ⟨e, ht, hinf, rfl, hzp⟩ | ⟨_, rfl⟩
    rotate_left
    · simp only [absSlc] at hs
      split at hs
      · simp at hs
      · cases hs
    cases hx with
    | rep _ _ hr => cases hr
    | osl _ _ _ _ A m cap ob ho hg hnl hcur =>
    simp only [absSlc] at hs
    rw [← hu o hU, ho] at hs
    simp only at hs
    split at hs
    · cases hs
    rename_i hne
    have hse : ob.sz = P.cellsOf e := by omega
    split at hs
    rotate_left
    · cases hs
    rename_i p h hb
    split at hs
    rotate_left
    · cases hs
    rename_i q n hb2
    cases hs
    obtain ⟨hp, hq⟩ := hob
    obtain ⟨rfl, hlc, hAs⟩ := hnl
    obtain ⟨h1, h2, h3, h4⟩ := bounds_of (P := P) (w := w) (c1 := .sliceAcap) (c2 := .sliceB) hlo hhi hb hb2 hp hq hxl hxh hlc
    refine ⟨_, run_slice ht hinf h3 h4, ?_, rfl, trivial⟩
    refine .osl _ _ _ _ _ _ _ ob ho hg ⟨rfl, by omega, fun hp => ?_⟩ (fun hgg => ?_)
    · obtain ⟨b, j, rfl⟩ := hAs (by omega)
      rw [if_neg (by omega)]
      exact ⟨b, j + n * P.cellsOf e, by simp only [Option.map_some, add_off]⟩
    obtain ⟨hfit, hA⟩ := hcur hgg
    refine ⟨by omega, ?_⟩
    by_cases hcn : cap = n
    · exact .inr (by omega)
    · rcases hA with ⟨rfl, hfit2⟩ | h0
      · rw [if_neg hcn]
        refine .inl ⟨?_, ?_⟩
        · simp only [Option.map_some, add_off]
          rw [Nat.add_mul, hse]
        · rw [show off + n + (cap - n) = off + cap by omega]; exact hfit2
      · omega
  | str b =>
    have hz : z = 0 := by
      rcases Nat.eq_zero_or_pos z with h | h
      · exact h
      · simp [absSlc, show z ≠ 0 by omega] at hs
    rcases ht with ⟨e, ht, hinf, rfl, hzp⟩ | ⟨ht, _⟩
    · omega
    have := str_of hx
    subst this
    simp only [absSlc, hz, ne_eq, not_true_eq_false, if_false] at hs
    split at hs
    rotate_left
    · cases hs
    rename_i p h hb
    split at hs
    rotate_left
    · cases hs
    rename_i q n hb2
    cases hs
    obtain ⟨hp, hq⟩ := hob
    obtain ⟨h1, h2, h3, h4⟩ := bounds_of (P := P) (w := w) (c1 := .sliceAlen) (c2 := .sliceB) hlo hhi hb hb2 hp hq hxl hxh (Nat.le_refl _)
    exact ⟨_, run_slice_str ht h3 h4, .rep _ _ (.str _), rfl, trivial⟩
  | _ => simp [absSlc] at hs
end
end Go.Proofs.YtkldipbhenabfaaGreat.Abs

/-! EVERY OPERATION THAT IS NO CALL does in the model what the abstract one says. -/
namespace Go.Proofs.YtkldipbhenabfaaGreat.Abs
open Go Go.RowKit

section
variable {P : Program} {U : Nat → Prop} {w0 : World} {own : Nat → Prop} {E : Env} {w : World} {s : St} {a : Act}

theorem val_eff {o : Option SV} {eff : Eff} (h : s.val o = some eff) : ∃ v, o = some v ∧ eff.val = v ∧ eff.hp = s.hp ∧ eff.as := by
  cases o with
  | none => simp [St.val] at h
  | some v => simp only [St.val, Option.some.injEq] at h; subst h; exact ⟨v, rfl, rfl, rfl, trivial⟩

theorem equalIn_bool {t : TypeId} {d : Nat} {b c : Bool} (h : P.underlying t = some .bool) : (Op.equalIn (d + 1) t (.bool b) (.bool c)).run P w = .ok (b == c) w := by
  simp [Op.equalIn, run_underlying h]
theorem equalIn_ptr {t e : TypeId} {d : Nat} {p : Option Addr} (h : P.underlying t = some (.pointer e)) : (Op.equalIn (d + 1) t (.pointer p) (.pointer none)).run P w = .ok p.isNone w := by
  cases p <;> simp [Op.equalIn, run_underlying h]

theorem eq_sound {op : BinOp} {t : TypeId} {u v : Value} {b : Bool} {r : SV} (h : eqB op b = some r) (he : (Op.equal t u v).run P w = .ok b w) (hn : ∀ k n, u ≠ .int k n) (hf : ∀ k n, u ≠ .float k n) (hs : ∀ b, u ≠ .string b) (hc : ∀ k m n, u ≠ .complex k m n) (hg : ∀ x y, eqGuard op t x y u v = pure ())
    (x y : Operand) : ∃ z, (do eqGuard op t x y u v; binOp op t u v : Sem Value).run P w = .ok z w ∧ RelV E z r := by
  rw [hg x y]
  cases op <;> simp only [eqB, Option.some.injEq] at h <;> first | (cases h; done) | skip
  · subst h
    have hb : binOp .eql t u v = (do pure (.bool (← Op.equal t u v))) := by
      cases u <;> first | (exact absurd rfl (hn _ _)) | (exact absurd rfl (hf _ _)) | (exact absurd rfl (hs _)) | (exact absurd rfl (hc _ _ _)) | (cases v <;> rfl)
    exact ⟨.bool b, by simp [hb, he], .rep _ _ (.bool _)⟩
  · subst h
    have hb : binOp .neq t u v = (do pure (.bool (!(← Op.equal t u v)))) := by
      cases u <;> first | (exact absurd rfl (hn _ _)) | (exact absurd rfl (hf _ _)) | (exact absurd rfl (hs _)) | (exact absurd rfl (hc _ _ _)) | (cases v <;> rfl)
    exact ⟨.bool (!b), by simp [hb, he], .rep _ _ (.bool _)⟩

theorem bin_sound {op : BinOp} {t : TypeId} {kd : Nat} {x y : Operand} {u v : Value} {sx sy r : SV} (hu : RelV E u sx) (hv : RelV E v sy) (h : evBin kd op sx sy = some r)
    (ht : (kd = 0 ∧ ∃ k, P.underlying t = some (.int k)) ∨ (kd = 1 ∧ P.underlying t = some .bool) ∨ (kd = 2 ∧ ∃ e, P.underlying t = some (.pointer e)) ∨ (kd = 3 ∧ ∃ k, P.underlying t = some (.float k))) :
    ∃ z, (do eqGuard op t x y u v; binOp op t u v : Sem Value).run P w = .ok z w ∧ RelV E z r := by
  have hptr : ∀ p : Option Addr, u = .pointer p → sy = .nilp → (if kd = 2 then eqB op p.isNone else none) = some r → ∃ z, (do eqGuard op t x y u v; binOp op t u v : Sem Value).run P w = .ok z w ∧ RelV E z r := by
    intro p hp hs hk
    subst hp; subst hs
    split at hk
    rotate_left
    · cases hk
    rename_i hk2
    rcases ht with ⟨h0, _⟩ | ⟨h0, _⟩ | ⟨_, e, hte⟩ | ⟨h0, _⟩
    · omega
    · omega
    rotate_left
    · omega
    · have := nilp_of hv
      subst this
      refine eq_sound hk ?_ (by simp) (by simp) (by simp) (by simp) (fun x y => eqGuard_at_pointer _ _ _ _ _ _) x y
      exact equalIn_ptr (d := 9999) hte
  cases sx with
  | int k n =>
    have := int_of hu
    subst this
    cases sy with
    | int k' m =>
      have := int_of hv
      subst this
      simp only [evBin] at h
      split at h
      rotate_left
      · cases h
      rename_i hk
      obtain ⟨_, rfl⟩ := hk
      cases op <;> simp only [intBin, Option.some.injEq] at h <;> first | (cases h; done) | skip
      all_goals subst h
      all_goals first
        | (refine ⟨.int k _, ?_, .rep _ _ (.int _ _)⟩; simp [eqGuard_at_int, binOp, Op.intArith]; done)
        | (refine ⟨.bool _, ?_, .rep _ _ (.bool _)⟩; simp [eqGuard_at_int, binOp, Op.intCmp]; done)
    | _ => simp [evBin] at h
  | bool b =>
    have := bool_of hu
    subst this
    cases sy with
    | bool c =>
      have := bool_of hv
      subst this
      simp only [evBin] at h
      split at h
      rotate_left
      · cases h
      rename_i hk
      rcases ht with ⟨h0, _⟩ | ⟨_, hte⟩ | ⟨h0, _⟩ | ⟨h0, _⟩
      · omega
      rotate_left
      · omega
      · omega
      · refine eq_sound h ?_ (by simp) (by simp) (by simp) (by simp) (fun x y => eqGuard_at_bool _ _ _ _ _ _) x y
        exact equalIn_bool (d := 9999) hte
    | _ => simp [evBin] at h
  | float k b =>
    have := float_of hu
    subst this
    cases sy with
    | float k' c =>
      have := float_of hv
      subst this
      simp only [evBin] at h
      split at h
      rotate_left
      · cases h
      rename_i hk
      obtain ⟨_, rfl⟩ := hk
      cases op <;> simp only [fltBin, Option.some.injEq] at h <;> first | (cases h; done) | skip
      all_goals subst h
      all_goals
        refine ⟨.bool _, ?_, .rep _ _ (.bool _)⟩
        simp [eqGuard_at_float, binOp, Op.floatCmp]
    | _ => simp [evBin] at h
  | ref o g e c =>
    cases sy with
    | nilp =>
      cases hu with
      | rep _ _ hr => cases hr
      | ref _ _ _ _ b j => exact hptr _ rfl rfl (by simpa [evBin] using h)
    | _ => simp [evBin] at h
  | dref z l c =>
    cases sy with
    | nilp =>
      cases hu.closed_rep rfl with
      | dref _ _ _ b off vs => exact hptr _ rfl rfl (by simpa [evBin] using h)
    | _ => simp [evBin] at h
  | nilp =>
    cases sy with
    | nilp => exact hptr _ (nilp_of hu) rfl (by simpa [evBin] using h)
    | _ => simp [evBin] at h
  | _ => simp [evBin] at h

theorem agg_of {u : Value} {b : Bool} {l : List SV} (h : RelV E u (.agg b l)) : ∃ vs : List Value, u = .agg vs.toArray ∧ (∀ v ∈ vs, v.oneCell' = true) ∧ vs.length = l.length ∧
    (∀ (j : Nat) (v : Value) (x : SV), vs[j]? = some v → l[j]? = some x → RelV E v x) ∧ (b = true → ∀ (j : Nat) (v : Value) (x : SV), vs[j]? = some v → l[j]? = some x → Rep E.m v x) := by
  cases h with
  | rep _ _ hr =>
    cases hr with
    | agg vs _ h0 h1 h2 => exact ⟨vs, rfl, h0, h1, fun j v x hv hx => .rep _ _ (h2 j v x hv hx), fun _ => h2⟩
  | agg vs _ h0 h1 h2 => exact ⟨vs, rfl, h0, h1, h2, fun hb => by cases hb⟩

theorem field_sound {t : TypeId} {i : Nat} {f : Field} {ag b : Bool} {u : Value} {l : List SV} (hf : fieldT P t i = some f) (hag : isAggT P f.type = some ag) (h1 : ag = true ∨ P.cellsOf f.type = 1) (hfit : f.offset + P.cellsOf f.type ≤ l.length) (hu : RelV E u (.agg b l)) :
    ∃ v, (Instr.field t u i).run P w = .ok v w ∧ RelV E v (cut b (l.length + 1) ag (P.cellsOf f.type) f.offset l) := by
  obtain ⟨vs, rfl, g1, g2, g3, g4⟩ := agg_of hu
  have hfs : ∃ fs, P.underlying t = some (.struct fs) ∧ fs[i]? = some f := by
    unfold fieldT at hf
    split at hf
    · rename_i fs hu'; exact ⟨fs, hu', hf⟩
    · cases hf
  obtain ⟨fs, hfu, hfi⟩ := hfs
  obtain ⟨inf, hinf⟩ := info_agg hag
  have hsz := run_sizeOf (P := P) w hinf
  unfold cut
  cases ag with
  | true =>
    refine ⟨.agg ((vs.drop f.offset).take (P.cellsOf f.type)).toArray, ?_, ?_⟩
    · simp [Instr.field, run_underlying hfu, hfi, asAgg, part, run_isAgg_of hag, hsz]
    · simp only [if_true]
      rw [if_neg (by omega)]
      have hsub : ∀ (j : Nat) (v : Value), ((vs.drop f.offset).take (P.cellsOf f.type))[j]? = some v → vs[f.offset + j]? = some v := by
        intro j v hv
        rw [List.getElem?_take] at hv
        split at hv
        · exact getElem?_drop_some hv
        · cases hv
      have hsub2 : ∀ (j : Nat) (v : SV), ((l.drop f.offset).take (P.cellsOf f.type))[j]? = some v → l[f.offset + j]? = some v := by
        intro j v hv
        rw [List.getElem?_take] at hv
        split at hv
        · exact getElem?_drop_some hv
        · cases hv
      cases b with
      | true => exact .rep _ _ (.agg _ _ (fun v hv => g1 v (List.mem_of_mem_drop (List.mem_of_mem_take hv))) (by simp; omega) (fun j v x hv hx => g4 rfl _ v x (hsub j v hv) (hsub2 j x hx)))
      | false => exact .agg _ _ (fun v hv => g1 v (List.mem_of_mem_drop (List.mem_of_mem_take hv))) (by simp; omega) (fun j v x hv hx => g3 _ v x (hsub j v hv) (hsub2 j x hx))
  | false =>
    have hn : P.cellsOf f.type = 1 := by simpa using h1
    have hlt : f.offset < vs.length := by omega
    refine ⟨vs[f.offset], ?_, ?_⟩
    · simp [Instr.field, run_underlying hfu, hfi, asAgg, part, run_isAgg_of hag, hlt]
    · simp only [Bool.false_eq_true, if_false]
      exact g3 f.offset _ _ (List.getElem?_eq_getElem hlt) (by rw [List.getD, List.getElem?_eq_getElem (by omega)]; rfl)

theorem iad_sound {t e : TypeId} {xv iv : Value} {x i r : SV} {p : Prop} (hu : ∀ o, U o → E.H o = s.hp[o]?) (ht : P.underlying t = some (.slice e)) (hpos : 0 < P.cellsOf e) (h : absIad s.hp (P.cellsOf e) x i = some (p, r)) (hp : p) (hx : RelV E xv x) (hi : RelV E iv i) (hids : ∀ o ∈ idsC x, U o) :
    ∃ v, (Instr.indexAt t xv iv).run P w = .ok v w ∧ RelV E v r := by
  have hinf : ∃ inf, P.info? e = some inf := by
    cases hq : P.info? e with
    | none => simp [Program.cellsOf, hq] at hpos
    | some inf => exact ⟨inf, rfl⟩
  obtain ⟨inf, hinf⟩ := hinf
  have hsz := run_sizeOf (P := P) w hinf
  have hrun : ∀ (k : IntKind) (n : Int) (b j len cap : Nat), 0 ≤ n → n < len → (Instr.indexAt t (.slice (some ⟨b, j, none⟩) len cap) (.int k n)).run P w = .ok (.pointer (some ⟨b, j + n.toNat * P.cellsOf e, none⟩)) w := by
    intro k n b j len cap h0 h1
    simp [Instr.indexAt, asIntOf, run_underlying ht, h0, h1, hsz, add_off]
  cases i with
  | int k n =>
    have := int_of hi
    subst this
    cases x with
    | osl o g off len =>
      have hU := hids o (by simp [idsC])
      cases hx with
      | rep _ _ hr => cases hr
      | osl _ _ _ _ A m cap ob ho hg hnl hcur =>
        simp only [absIad] at h
        rw [← hu o hU, ho] at h
        simp only at h
        split at h
        rotate_left
        · cases h
        rename_i hse
        cases h
        obtain ⟨h0, h1⟩ := hp
        obtain ⟨rfl, hlc, hA⟩ := hnl
        obtain ⟨b, j, rfl⟩ := hA (by omega)
        refine ⟨_, hrun k n b j m cap h0 h1, .ref _ _ _ _ _ _ ob ho hg (fun hgg => ?_)⟩
        obtain ⟨hfit, hA2⟩ := hcur hgg
        rcases hA2 with ⟨hA2, _⟩ | h0
        · simp only [Option.some.injEq, Addr.mk.injEq] at hA2
          obtain ⟨rfl, rfl, _⟩ := hA2
          exact ⟨rfl, by rw [Nat.add_mul, hse]; omega⟩
        · omega
    | dsl z l =>
      have hr := hx.closed_rep rfl
      simp only [absIad] at h
      split at h
      rotate_left
      · cases h
      rename_i hse
      cases h
      obtain ⟨h0, h1⟩ := hp
      cases hr with
      | dsl0 => simp at h1; omega
      | dsl _ _ cap b off vs g0 g1 g2 g3 g4 g5 g6 =>
        refine ⟨_, hrun k n b off l.length cap h0 h1, ?_⟩
        have hlt : n.toNat < l.length := by omega
        have hel : l[n.toNat]? = some (l.getD n.toNat []) := by simp [List.getD, List.getElem?_eq_getElem hlt]
        have hrl := g3 _ (List.mem_of_getElem? hel)
        have hfl := flat_len g3
        have h2 : (n.toNat + 1) * z ≤ l.length * z := Nat.mul_le_mul_right _ hlt
        rw [Nat.succ_mul] at h2
        subst hse
        have hsub : ∀ (j : Nat) (v : Value), ((vs.drop (n.toNat * P.cellsOf e)).take (P.cellsOf e))[j]? = some v → j < P.cellsOf e ∧ vs[n.toNat * P.cellsOf e + j]? = some v := by
          intro j v hv
          rw [List.getElem?_take] at hv
          split at hv
          · exact ⟨by omega, getElem?_drop_some hv⟩
          · cases hv
        have := Rep.dref (m := E.m) (P.cellsOf e) (l.getD n.toNat []) 0 b (off + n.toNat * P.cellsOf e) ((vs.drop (n.toNat * P.cellsOf e)).take (P.cellsOf e)) (fun v hv => g0 v (List.mem_of_mem_drop (List.mem_of_mem_take hv))) (by simp; omega) hrl
          (fun j v hv => by have := g5 _ v (hsub j v hv).2; rw [Nat.add_assoc]; exact this)
          (fun j v x hv hx => by
            obtain ⟨hj, hv'⟩ := hsub j v hv
            refine g6 _ v x hv' ?_
            rw [flat_get g3 _ _ hj, hel]
            exact hx)
        exact .rep _ _ this
    | _ => simp [absIad] at h
  | _ => cases x <;> simp [absIad] at h

theorem len_sound {st : Bool} {t : TypeId} {ts : Array TypeId} {ty : TypeId} {xv : Value} {x : SV} {eff : Eff} (ht0 : ts.getD 0 0 = t) (hts : 0 < ts.size) (ht : st = false ∧ (∃ e, P.underlying t = some (.slice e)) ∨ st = true ∧ P.underlying t = some .string) (h : absLen s.hp st x = some eff) (hx : RelV E xv x) :
    ∃ v, (Builtin.len_ ts ty #[xv]).run P w = .ok v w ∧ RelV E v eff.val ∧ eff.hp = s.hp ∧ eff.as := by
  have ht1 : ts[0]? = some t := by
    rw [Array.getElem?_eq_getElem hts]
    simp [hts] at ht0
    rw [ht0]
  rcases ht with ⟨rfl, e, he⟩ | ⟨rfl, he⟩
  · have hsl : ∀ A n cap, xv = .slice A n cap → (Builtin.len_ ts ty #[xv]).run P w = .ok (.int .i64 n) w := by
      intro A n cap hxv
      subst hxv
      simp [Builtin.len_, ht1, run_underlying he, goInt]
    cases x with
    | nils =>
      simp only [absLen, Option.some.injEq] at h
      subst h
      have := nils_of hx
      exact ⟨_, hsl _ _ _ this, .rep _ _ (.int _ _), rfl, trivial⟩
    | dsl z l =>
      simp only [absLen, Option.some.injEq] at h
      subst h
      have hr := hx.closed_rep rfl
      have hshape : ∃ A cap, xv = .slice A l.length cap ∧ l.length ≤ 140737488355328 := by
        cases hr with
        | dsl0 _ A cap => exact ⟨A, cap, rfl, by simp⟩
        | dsl _ _ cap b off vs g0 g1 g2 => exact ⟨_, cap, rfl, g2⟩
      obtain ⟨A, cap, h1, h2⟩ := hshape
      exact ⟨_, hsl _ _ _ h1, .rep _ _ (.int _ _), rfl, h2⟩
    | osl o g off len =>
      simp only [absLen, Option.some.injEq] at h
      subst h
      cases hx with
      | rep _ _ hr => cases hr
      | osl _ _ _ _ A m cap ob ho hg hnl hcur =>
        obtain ⟨rfl, _, _⟩ := hnl
        exact ⟨_, hsl _ _ _ rfl, .rep _ _ (.int _ _), rfl, trivial⟩
    | _ => simp [absLen] at h
  · cases x with
    | str b =>
      simp only [absLen, Option.some.injEq] at h
      subst h
      have := str_of hx
      subst this
      exact ⟨.int .i64 b.size, by simp [Builtin.len_, ht1, run_underlying he, goInt], .rep _ _ (.int _ _), rfl, trivial⟩
    | _ => simp [absLen] at h

theorem op_sound {o : Oper} {aop : AOp} {eff : Eff} (tr : trOp P o.op = some aop) (he : absOp s aop = some eff) (hob : eff.ob) (hW : W w0 own E w) (hu : ∀ i, U i → E.H i = s.hp[i]?) (hn : creates s aop = true → U s.hp.length) (hids : ∀ i ∈ usesO s aop, U i)
    (hx : ∀ x ∈ o.op.operands, ∀ ax, trX x = some ax → RelV E (a.eval x) (s.get ax)) : OpRes P (execOp a.eval o) U w0 own E w eff := by
  obtain ⟨dst, op, ty, pos, after, guard⟩ := o
  simp only at tr hx
  cases op with
  | move x =>
    simp only [trOp, Option.map_eq_some_iff] at tr
    obtain ⟨ax, hax, rfl⟩ := tr
    simp only [absOp] at he
    obtain ⟨v, hv, e1, e2, e3⟩ := val_eff he
    cases hv
    exact OpRes.pure_ hW hu (by simp [execOp]; rfl) (by rw [e1]; exact hx x (by simp [Op.operands]) ax hax) e2 e3
  | assign x =>
    simp only [trOp, Option.map_eq_some_iff] at tr
    obtain ⟨ax, hax, rfl⟩ := tr
    simp only [absOp] at he
    obtain ⟨v, hv, e1, e2, e3⟩ := val_eff he
    cases hv
    exact OpRes.pure_ hW hu (by simp [execOp]; rfl) (by rw [e1]; exact hx x (by simp [Op.operands]) ax hax) e2 e3
  | pick c x y =>
    simp only [trOp, Option.bind_eq_bind, Option.bind_eq_some_iff, Option.pure_def, Option.some.injEq] at tr
    obtain ⟨ac, hac, ax, hax, ay, hay, rfl⟩ := tr
    simp only [absOp] at he
    split at he
    rotate_left
    · cases he
    rename_i t hc
    obtain ⟨v, hv, e1, e2, e3⟩ := val_eff he
    cases hv
    have hcv := hx c (by simp [Op.operands]) ac hac
    rw [hc] at hcv
    have := bool_of hcv
    refine OpRes.pure_ (v := if t then a.eval x else a.eval y) hW hu (by cases t <;> simp [execOp, this, asBool]) ?_ e2 e3
    rw [e1]
    cases t
    · exact hx y (by simp [Op.operands]) ay hay
    · exact hx x (by simp [Op.operands]) ax hax
  | alloc t =>
    simp only [trOp, Option.map_eq_some_iff] at tr
    obtain ⟨z, hz, rfl⟩ := tr
    obtain ⟨i, zv, hi, hzv, hofz, hrep⟩ := zero_rel (m := E.m) hz
    simp only [absOp, Option.some.injEq] at he
    subst he
    obtain ⟨E', b1, b2⟩ := box_sound (s := s) hW hu (hn rfl) t (.rep _ _ hrep) (rep_const (m := E.m) hofz).2.2
    rw [(rep_const (m := E.m) hofz).2.1] at b2
    refine ⟨_, _, E', .inl ?_, b1, b2, by simp, trivial⟩
    simp [execOp, Instr.alloc, zeroValue, typeInfo, hi, hzv, newVar, newRow]
  | box t x =>
    simp only [trOp, Option.map_eq_some_iff] at tr
    obtain ⟨ax, hax, rfl⟩ := tr
    simp only [absOp, Option.some.injEq] at he
    subst he
    obtain ⟨E', b1, b2⟩ := box_sound (s := s) hW hu (hn rfl) t (hx x (by simp [Op.operands]) ax hax) hob
    refine ⟨_, _, E', .inl ?_, b1, b2, by simp, trivial⟩
    simp [execOp, Instr.box, newVar, newRow]
  | build t parts =>
    simp only [trOp] at tr
    split at tr
    rotate_left
    · cases tr
    rename_i fs hfs
    simp only [Option.bind_eq_bind, Option.bind_eq_some_iff] at tr
    obtain ⟨z, hz, ps, hps, tr⟩ := tr
    split at tr
    rotate_left
    · cases tr
    rename_i hall
    cases tr
    simp only [Bool.and_eq_true, List.all_eq_true, decide_eq_true_eq] at hall
    obtain ⟨hinf, hbnds⟩ := hall
    simp only [absOp, Option.some.injEq] at he
    subst he
    obtain ⟨i, zv, hi, hzv, hofz, hrep⟩ := zero_rel (m := E.m) hz
    have hzc := (rep_const (m := E.m) hofz).2.1
    have hzok := (rep_const (m := E.m) hofz).2.2
    obtain ⟨places, p1, p2⟩ := places_of (P := P) (fs := fs) (by rw [List.all_eq_true]; exact hinf) w
    have hfld : ∀ (j : Nat) (f : Field), fieldT P t j = some f → fs[j]? = some f := fun j f hf => by simpa [fieldT, hfs] using hf
    obtain ⟨zs, y1, y2, y3, y4, y5⟩ := cells_rel (.rep _ _ hrep : RelV E zv z) hzok
    -- each part, its cells
    have hpart : ∀ q ∈ parts.toList, ∀ ax, trX q.2 = some ax → RelV E (a.eval q.2) (s.get ax) := fun q hq ax hax => hx q.2 (by
      simp only [Op.operands, List.mem_toArray, List.mem_map]
      exact ⟨q, hq, rfl⟩) ax hax
    have hokp : ∀ {l : List (Nat × Operand)} {ps : List (Nat × Nat × AX)}, trParts P t l = some ps → partsOk (ps.map fun p => (p.1, p.2.1, s.get p.2.2)) → ∀ q ∈ l, ∀ ax, trX q.2 = some ax → (s.get ax).ok = true ∧ ((ps.all fun p => (s.get p.2.2).closed) = true → (s.get ax).closed = true) := by
      intro l
      induction l with
      | nil => intro ps _ _ q hq; cases hq
      | cons q0 l ih =>
        obtain ⟨j, x⟩ := q0
        intro ps htr hok q hq ax hax
        simp only [trParts, Option.bind_eq_bind, Option.bind_eq_some_iff, Option.pure_def, Option.some.injEq] at htr
        obtain ⟨f, hf, ax0, hax0, ps', hps', rfl⟩ := htr
        simp only [List.map_cons, partsOk] at hok
        rcases List.mem_cons.1 hq with rfl | hq
        · rw [hax0] at hax
          cases hax
          exact ⟨hok.1, fun hc => by simp only [List.all_cons, Bool.and_eq_true] at hc; exact hc.1⟩
        · obtain ⟨g1, g2⟩ := ih hps' hok.2.2 q hq ax hax
          exact ⟨g1, fun hc => by simp only [List.all_cons, Bool.and_eq_true] at hc; exact g2 hc.2⟩
    have hrunB : ∀ cs', Instr.fill (places[·]?) zv.cells (parts.toList.map fun q => (q.1, a.eval q.2)) = some cs' → (execOp a.eval { dst := dst, op := .build t parts, type := ty, pos := pos, after := after, guard := guard }).run P w = .ok (.value (.agg cs')) w := by
      intro cs' hc
      have hpl : (parts.map fun (i, x) => (i, a.eval x)).toList = parts.toList.map fun q => (q.1, a.eval q.2) := by rw [Array.toList_map]
      simp only [execOp, Instr.build, Sem.run_bind, zeroValue, run_typeInfo w hi, Result.andThen_ok, hzv, Sem.run_pure, run_underlying hfs, p1, hpl, hc]
    by_cases hcl : (ps.all fun p => (s.get p.2.2).closed) = true
    · obtain ⟨cs', c1, c2, c3, c4⟩ := fill_sound (P := P) (s := s) (a := a) (t := t) p2 hfld (Rep E.m) parts.toList ps zv.cells (cellsOf z) hps (by rw [y1]; simpa using y2) (fun p hp => hbnds p hp) (fun k v x hv hx' => by rw [y1] at hv; exact y5 hzc k v x (by simpa using hv) hx')
        (by rw [y1]; simpa using y3) hob (fun q hq ax hax => by
          obtain ⟨vs, b1, b2, b3, b4, b5⟩ := cells_rel (hpart q hq ax hax) (hokp hps hob q hq ax hax).1
          exact ⟨vs, b1, b2, b3, b5 ((hokp hps hob q hq ax hax).2 hcl)⟩)
      refine OpRes.pure_ (v := .agg cs') hW hu (hrunB cs' c1) ?_ rfl trivial
      show RelV E (.agg cs') (.agg (ps.all fun p => (s.get p.2.2).closed) _)
      rw [hcl]
      have := Rep.agg (m := E.m) cs'.toList (fill (cellsOf z) (ps.map fun p => (p.1, p.2.1, s.get p.2.2))) c3 (by simpa using c2) (fun j v x hv hx' => c4 j v x (by simpa using hv) hx')
      exact .rep _ _ (by simpa using this)
    · obtain ⟨cs', c1, c2, c3, c4⟩ := fill_sound (P := P) (s := s) (a := a) (t := t) p2 hfld (RelV E) parts.toList ps zv.cells (cellsOf z) hps (by rw [y1]; simpa using y2) (fun p hp => hbnds p hp) (fun k v x hv hx' => by rw [y1] at hv; exact y4 k v x (by simpa using hv) hx')
        (by rw [y1]; simpa using y3) hob (fun q hq ax hax => by
          obtain ⟨vs, b1, b2, b3, b4, b5⟩ := cells_rel (hpart q hq ax hax) (hokp hps hob q hq ax hax).1
          exact ⟨vs, b1, b2, b3, b4⟩)
      refine OpRes.pure_ (v := .agg cs') hW hu (hrunB cs' c1) ?_ rfl trivial
      show RelV E (.agg cs') (.agg (ps.all fun p => (s.get p.2.2).closed) _)
      rw [show (ps.all fun p => (s.get p.2.2).closed) = false by simpa using hcl]
      have := RelV.agg (E := E) cs'.toList (fill (cellsOf z) (ps.map fun p => (p.1, p.2.1, s.get p.2.2))) c3 (by simpa using c2) (fun j v x hv hx' => c4 j v x (by simpa using hv) hx')
      simpa using this
  | buildSlice t len parts =>
    simp only [trOp, Option.bind_eq_bind, Option.bind_eq_some_iff] at tr
    obtain ⟨e, he0, xs, hxs, tr⟩ := tr
    split at tr
    rotate_left
    · cases tr
    rename_i hcond
    cases tr
    obtain ⟨c1, c2, c3, c4⟩ := hcond
    have hte : P.underlying t = some (.slice e) := by
      unfold elemT at he0
      split at he0
      · rename_i hu'; cases he0; exact hu'
      · cases he0
    obtain ⟨z, hz⟩ := Option.isSome_iff_exists.1 c4.1
    have hzl : (cellsOf z).length = P.cellsOf e := by
      have := c4.2
      simpa [hz] using this
    simp only [absOp] at he
    split at he
    rotate_left
    · cases he
    rename_i rows h hcr
    cases he
    obtain ⟨v, w', E', r1, r2, r3, r4⟩ := bslice_sound (P := P) (s := s) (a := a) hW hu (hn rfl) hte hz c2 hzl hxs c1 c3 hcr hob (fun q hq ax hax => hx q.2 (by
      simp only [Op.operands, List.mem_toArray, List.mem_map]
      exact ⟨q, hq, rfl⟩) ax hax) hids
    exact ⟨v, w', E', .inl (by simp [execOp, r1]), r2, r3, r4, trivial⟩
  | load t x =>
    simp only [trOp, Option.bind_eq_bind, Option.bind_eq_some_iff] at tr
    obtain ⟨ag, hag, ax, hax, tr⟩ := tr
    split at tr
    rotate_left
    · cases tr
    rename_i h1
    cases tr
    obtain ⟨u, r1, r2, r3, r4⟩ := load_sound hW hu hag h1 he hob (hx x (by simp [Op.operands]) ax hax) hids
    exact OpRes.pure_ hW hu (by simp [execOp, r1]) r2 r3 r4
  | store t x y =>
    simp only [trOp, Option.bind_eq_bind, Option.bind_eq_some_iff] at tr
    obtain ⟨ag, hag, ax, hax, ay, hay, tr⟩ := tr
    split at tr
    rotate_left
    · cases tr
    rename_i h1
    cases tr
    obtain ⟨w', E', r1, r2, r3, r4, r5⟩ := store_sound (s := s) hW hu hag h1.2 he hob (hx x (by simp [Op.operands]) ax hax) (hx y (by simp [Op.operands]) ay hay) (fun i hi => hids i (List.mem_append_left _ hi)) (fun i hi => hids i (List.mem_append_right _ hi))
    exact ⟨undef, w', E', .inr ⟨by simp [execOp, r1], rfl⟩, by rw [r4]; exact .undef, r2, r3, r5⟩
  | nilCheck x =>
    simp only [trOp, Option.map_eq_some_iff] at tr
    obtain ⟨ax, hax, rfl⟩ := tr
    have hv := hx x (by simp [Op.operands]) ax hax
    simp only [absOp] at he
    split at he
    · rename_i o g e c hc
      obtain ⟨v, hv', e1, e2, e3⟩ := val_eff he
      cases hv'
      rw [hc] at hv
      have hshape : ∃ b, a.eval x = .pointer (some b) := by
        have hv2 := hv
        generalize a.eval x = u at hv2
        cases hv2 with
        | rep _ _ hr => cases hr
        | ref _ _ _ _ b j => exact ⟨_, rfl⟩
      obtain ⟨b, hb⟩ := hshape
      exact OpRes.pure_ (v := a.eval x) hW hu (by simp [execOp, hb]) (by rw [e1]; exact hv) e2 e3
    · rename_i z l c hc
      obtain ⟨v, hv', e1, e2, e3⟩ := val_eff he
      cases hv'
      rw [hc] at hv
      have hshape : ∃ b, a.eval x = .pointer (some b) := by
        have := hv.closed_rep rfl
        generalize a.eval x = u at this
        cases this with
        | dref => exact ⟨_, rfl⟩
      obtain ⟨b, hb⟩ := hshape
      exact OpRes.pure_ (v := a.eval x) hW hu (by simp [execOp, hb]) (by rw [e1]; exact hv) e2 e3
    · cases he
  | binOp op t x y yt =>
    have key : ∀ kd ax ay, trX x = some ax → trX y = some ay → aop = .bin kd op ax ay → ((kd = 0 ∧ ∃ k, P.underlying t = some (.int k)) ∨ (kd = 1 ∧ P.underlying t = some .bool) ∨ (kd = 2 ∧ ∃ e, P.underlying t = some (.pointer e)) ∨ (kd = 3 ∧ ∃ k, P.underlying t = some (.float k))) →
        OpRes P (execOp a.eval { dst := dst, op := .binOp op t x y yt, type := ty, pos := pos, after := after, guard := guard }) U w0 own E w eff := by
      intro kd ax ay hax hay h1 h2
      subst h1
      simp only [absOp] at he
      obtain ⟨v, hv, e1, e2, e3⟩ := val_eff he
      obtain ⟨z, r1, r2⟩ := bin_sound (P := P) (w := w) (x := x) (y := y) (hx x (by simp [Op.operands]) ax hax) (hx y (by simp [Op.operands]) ay hay) hv h2
      refine OpRes.pure_ (v := z) hW hu ?_ (by rw [e1]; exact r2) e2 e3
      show (do pure (Next.value (← (do eqGuard op t x y (a.eval x) (a.eval y); binOp op t (a.eval x) (a.eval y) : Sem Value))) : Sem Next).run P w = _
      rw [Sem.run_bind, r1]
      rfl
    simp only [trOp] at tr
    split at tr
    · rename_i k hk
      simp only [Option.bind_eq_bind, Option.bind_eq_some_iff, Option.pure_def, Option.some.injEq] at tr
      obtain ⟨ax, hax, ay, hay, rfl⟩ := tr
      exact key 0 ax ay hax hay rfl (.inl ⟨rfl, k, hk⟩)
    · rename_i hk
      simp only [Option.bind_eq_bind, Option.bind_eq_some_iff, Option.pure_def, Option.some.injEq] at tr
      obtain ⟨ax, hax, ay, hay, rfl⟩ := tr
      exact key 1 ax ay hax hay rfl (.inr (.inl ⟨rfl, hk⟩))
    · rename_i k hk
      simp only [Option.bind_eq_bind, Option.bind_eq_some_iff, Option.pure_def, Option.some.injEq] at tr
      obtain ⟨ax, hax, ay, hay, rfl⟩ := tr
      exact key 3 ax ay hax hay rfl (.inr (.inr (.inr ⟨rfl, k, hk⟩)))
    · rename_i e hk
      simp only [Option.bind_eq_bind, Option.bind_eq_some_iff, Option.pure_def, Option.some.injEq] at tr
      obtain ⟨ax, hax, ay, hay, rfl⟩ := tr
      exact key 2 ax ay hax hay rfl (.inr (.inr (.inl ⟨rfl, e, hk⟩)))
    · cases tr
  | unOp op t x =>
    simp only [trOp, Option.map_eq_some_iff] at tr
    obtain ⟨ax, hax, rfl⟩ := tr
    have hv := hx x (by simp [Op.operands]) ax hax
    simp only [absOp] at he
    split at he
    · rename_i b hc
      obtain ⟨v, hv', e1, e2, e3⟩ := val_eff he
      cases hv'
      rw [hc] at hv
      have := bool_of hv
      exact OpRes.pure_ (v := .bool (!b)) hW hu (by simp [execOp, this, Op.unary]) (by rw [e1]; exact .rep _ _ (.bool _)) e2 e3
    · rename_i k n hc
      obtain ⟨v, hv', e1, e2, e3⟩ := val_eff he
      cases hv'
      rw [hc] at hv
      have := int_of hv
      exact OpRes.pure_ (v := .int k (k.wrap (0 - n))) hW hu (by simp [execOp, this, Op.unary, Op.intArith]) (by rw [e1]; exact .rep _ _ (.int _ _)) e2 e3
    · cases he
  | convert src dst' x =>
    simp only [trOp] at tr
    split at tr
    rotate_left
    · cases tr
    rename_i k1 k2 hs hd
    simp only [Option.map_eq_some_iff] at tr
    obtain ⟨ax, hax, rfl⟩ := tr
    have hv := hx x (by simp [Op.operands]) ax hax
    simp only [absOp] at he
    split at he
    rotate_left
    · cases he
    rename_i k n hc
    obtain ⟨v, hv', e1, e2, e3⟩ := val_eff he
    cases hv'
    rw [hc] at hv
    have := int_of hv
    exact OpRes.pure_ (v := .int k2 (k2.wrap n)) hW hu (by simp [execOp, this, convert, run_underlying hs, run_underlying hd, Conv.intToInt]) (by rw [e1]; exact .rep _ _ (.int _ _)) e2 e3
  | makeSlice t l c =>
    simp only [trOp, Option.bind_eq_bind, Option.bind_eq_some_iff] at tr
    obtain ⟨e, he0, z, hz, tr⟩ := tr
    split at tr
    rotate_left
    · cases tr
    rename_i hcond
    simp only [Option.bind_eq_some_iff, Option.pure_def, Option.some.injEq] at tr
    obtain ⟨al, hal, ac, hac, rfl⟩ := tr
    have hte : P.underlying t = some (.slice e) := by
      unfold elemT at he0
      split at he0
      · rename_i hu'; cases he0; exact hu'
      · cases he0
    have hvl := hx l (by simp [Op.operands]) al hal
    have hvc := hx c (by simp [Op.operands]) ac hac
    simp only [absOp] at he
    split at he
    rotate_left
    · cases he
    rename_i kl l' kc c' hl hc
    cases he
    rw [hl] at hvl
    rw [hc] at hvc
    obtain ⟨o1, o2, o3, o4⟩ := hob
    obtain ⟨v, w', E', r1, r2, r3, r4⟩ := mk_sound (P := P) (s := s) (kl := kl) (kc := kc) hW hu (hn rfl) hte hz hcond.1 hcond.2 o1 o2 o3 o4
    exact ⟨v, w', E', .inl (by simp [execOp, int_of hvl, int_of hvc, r1]), r2, r3, r4, trivial⟩
  | slice t x lo hi mx =>
    cases mx with
    | some m => simp [trOp] at tr
    | none =>
      simp only [trOp] at tr
      split at tr
      · rename_i e hk
        split at tr
        rotate_left
        · cases tr
        rename_i hinf
        simp only [Option.bind_eq_bind, Option.bind_eq_some_iff, Option.pure_def, Option.some.injEq] at tr
        obtain ⟨ax, hax, alo, hlo, ahi, hhi, rfl⟩ := tr
        simp only [absOp] at he
        obtain ⟨v, r1, r2, r3, r4⟩ := slc_sound (P := P) (w := w) (a := a) (E := E) hu (hx x (by simp [Op.operands]) ax hax) hlo hhi he hob
          (fun y hy ax hax => hx y (by subst hy; simp [Op.operands]) ax hax) (fun y hy ax hax => hx y (by subst hy; simp [Op.operands]) ax hax) hids (.inl ⟨e, hk, hinf.1, rfl, hinf.2⟩)
        exact OpRes.pure_ hW hu (by simp [execOp, r1]) r2 r3 r4
      · rename_i hk
        simp only [Option.bind_eq_bind, Option.bind_eq_some_iff, Option.pure_def, Option.some.injEq] at tr
        obtain ⟨ax, hax, alo, hlo, ahi, hhi, rfl⟩ := tr
        simp only [absOp] at he
        obtain ⟨v, r1, r2, r3, r4⟩ := slc_sound (P := P) (w := w) (a := a) (E := E) hu (hx x (by simp [Op.operands]) ax hax) hlo hhi he hob
          (fun y hy ax hax => hx y (by subst hy; simp [Op.operands]) ax hax) (fun y hy ax hax => hx y (by subst hy; simp [Op.operands]) ax hax) hids (.inr ⟨hk, rfl⟩)
        exact OpRes.pure_ hW hu (by simp [execOp, r1]) r2 r3 r4
      · cases tr
  | fieldAddr t x i =>
    simp only [trOp, Option.bind_eq_bind, Option.bind_eq_some_iff] at tr
    obtain ⟨f, hf, tr⟩ := tr
    split at tr
    · cases tr
    rename_i hz
    simp only [Option.bind_eq_some_iff, Option.pure_def, Option.some.injEq] at tr
    obtain ⟨ax, hax, rfl⟩ := tr
    have hv := hx x (by simp [Op.operands]) ax hax
    have hfs : ∃ fs, P.underlying t = some (.struct fs) ∧ fs[i]? = some f := by
      unfold fieldT at hf
      split at hf
      · rename_i fs hu'; exact ⟨fs, hu', hf⟩
      · cases hf
    obtain ⟨fs, hfu, hfi⟩ := hfs
    have hinf : ∃ inf, P.info? f.type = some inf := by
      cases hq : P.info? f.type with
      | none => simp [Program.cellsOf, hq] at hz
      | some inf => exact ⟨inf, rfl⟩
    obtain ⟨inf, hinf⟩ := hinf
    have hrun : ∀ b j, a.eval x = .pointer (some ⟨b, j, none⟩) → (execOp a.eval { dst := dst, op := .fieldAddr t x i, type := ty, pos := pos, after := after, guard := guard }).run P w = .ok (.value (.pointer (some ⟨b, j + f.offset, none⟩))) w := by
      intro b j hb
      simp [execOp, hb, Instr.fieldAt, run_underlying hfu, hfi, Instr.sureAddr, fieldPlace, run_sizeOf w hinf, hz, add_off]
    simp only [absOp] at he
    split at he
    · rename_i o g e c hc
      obtain ⟨v, hv', e1, e2, e3⟩ := val_eff he
      cases hv'
      rw [hc] at hv
      generalize hval : a.eval x = u at hv
      cases hv with
      | rep _ _ hr => cases hr
      | ref _ _ _ _ b j ob h1 h2 h3 =>
        refine OpRes.pure_ hW hu (hrun b j hval) ?_ e2 e3
        rw [e1]
        exact .ref _ _ _ _ _ _ ob h1 h2 (fun hg => ⟨(h3 hg).1, by have := (h3 hg).2; omega⟩)
    · rename_i z l c hc
      obtain ⟨v, hv', e1, e2, e3⟩ := val_eff he
      cases hv'
      rw [hc] at hv
      have hr := hv.closed_rep rfl
      generalize hval : a.eval x = u at hr
      cases hr with
      | dref _ _ _ b off vs g0 g1 g2 g3 g4 =>
        refine OpRes.pure_ hW hu (hrun b (off + c) hval) ?_ e2 e3
        rw [e1, Nat.add_assoc]
        exact .rep _ _ (.dref z l (c + f.offset) b off vs g0 g1 g2 g3 g4)
    · cases he
  | field t x i =>
    simp only [trOp, Option.bind_eq_bind, Option.bind_eq_some_iff] at tr
    obtain ⟨f, hf, ag, hag, tr⟩ := tr
    split at tr
    rotate_left
    · cases tr
    rename_i h1
    simp only [Option.bind_eq_some_iff, Option.pure_def, Option.some.injEq] at tr
    obtain ⟨ax, hax, rfl⟩ := tr
    have hv := hx x (by simp [Op.operands]) ax hax
    simp only [absOp] at he
    split at he
    rotate_left
    · cases he
    rename_i b l hc
    cases he
    rw [hc] at hv
    obtain ⟨v, r1, r2⟩ := field_sound (P := P) (w := w) hf hag h1 hob hv
    exact OpRes.pure_ hW hu (by simp [execOp, r1]) r2 rfl trivial
  | indexAddr t x i =>
    simp only [trOp, Option.bind_eq_bind, Option.bind_eq_some_iff] at tr
    obtain ⟨e, he0, tr⟩ := tr
    split at tr
    rotate_left
    · cases tr
    rename_i hpos
    simp only [Option.bind_eq_some_iff, Option.pure_def, Option.some.injEq] at tr
    obtain ⟨ax, hax, ai, hai, rfl⟩ := tr
    have hte : P.underlying t = some (.slice e) := by
      unfold elemT at he0
      split at he0
      · rename_i hu'; cases he0; exact hu'
      · cases he0
    simp only [absOp] at he
    split at he
    rotate_left
    · cases he
    rename_i p v hp
    cases he
    obtain ⟨u, r1, r2⟩ := iad_sound (P := P) (w := w) hu hte hpos hp hob (hx x (by simp [Op.operands]) ax hax) (hx i (by simp [Op.operands]) ai hai) hids
    exact OpRes.pure_ hW hu (by simp [execOp, r1]) r2 rfl trivial
  | extract x i =>
    simp only [trOp, Option.map_eq_some_iff] at tr
    obtain ⟨ax, hax, rfl⟩ := tr
    have hv := hx x (by simp [Op.operands]) ax hax
    simp only [absOp] at he
    split at he
    rotate_left
    · cases he
    rename_i l hc
    split at he
    rotate_left
    · cases he
    rename_i r hr
    obtain ⟨v, hv', e1, e2, e3⟩ := val_eff he
    cases hv'
    rw [hc] at hv
    have hrep := hv.tup_rep
    generalize hval : a.eval x = u at hrep
    cases hrep with
    | tup vs _ g1 g2 =>
      have hlt : i < vs.length := by
        rw [g1]
        rcases Nat.lt_or_ge i l.length with h | h
        · exact h
        · rw [List.getElem?_eq_none h] at hr; cases hr
      have hget : vs[i]? = some vs[i] := List.getElem?_eq_getElem hlt
      refine OpRes.pure_ (v := vs[i]) hW hu (by simp [execOp, hval, Instr.extract, hlt]) ?_ e2 e3
      rw [e1]
      exact .rep _ _ (g2 i _ r hget hr)
  | call c =>
    obtain ⟨callee, args, argTypes⟩ := c
    simp only [trOp] at tr
    split at tr
    · rename_i x hargs
      have hargs' : args = #[x] := by simpa using congrArg List.toArray hargs
      subst hargs'
      have hrun : ∀ v, (Builtin.len_ argTypes ty #[a.eval x]).run P w = .ok v w → (execOp a.eval { dst := dst, op := .call { callee := .builtin .len, args := #[x], argTypes := argTypes }, type := ty, pos := pos, after := after, guard := guard }).run P w = .ok (.value v) w := by
        intro v hv
        simp [execOp, resolve, invoke, builtin, hv]
      have hv := hx x (by simp [Op.operands, Call.operands])
      have key : ∀ (st : Bool) (ax : AX), trX x = some ax → aop = .len st ax → (st = false ∧ (∃ e, P.underlying (argTypes.getD 0 0) = some (.slice e)) ∨ st = true ∧ P.underlying (argTypes.getD 0 0) = some .string) → 0 < argTypes.size →
          OpRes P (execOp a.eval { dst := dst, op := .call { callee := .builtin .len, args := #[x], argTypes := argTypes }, type := ty, pos := pos, after := after, guard := guard }) U w0 own E w eff := by
        intro st ax hax haop hty hsz
        subst haop
        simp only [absOp] at he
        obtain ⟨v, r1, r2, r3, r4⟩ := len_sound (P := P) (w := w) (ty := ty) rfl hsz hty he (hv ax hax)
        exact OpRes.pure_ hW hu (hrun v r1) r2 r3 r4
      split at tr
      · cases tr
      rename_i hsz
      split at tr
      · rename_i e hk
        simp only [Option.map_eq_some_iff] at tr
        obtain ⟨ax, hax, rfl⟩ := tr
        exact key false ax hax rfl (.inl ⟨rfl, e, hk⟩) (by omega)
      · rename_i hk
        simp only [Option.map_eq_some_iff] at tr
        obtain ⟨ax, hax, rfl⟩ := tr
        exact key true ax hax rfl (.inr ⟨rfl, hk⟩) (by omega)
      · cases tr
    · rename_i sx x hargs
      have hargs' : args = #[sx, x] := by simpa using congrArg List.toArray hargs
      subst hargs'
      simp only [Option.bind_eq_bind, Option.bind_eq_some_iff] at tr
      obtain ⟨e, he0, z, hz, tr⟩ := tr
      split at tr
      rotate_left
      · cases tr
      rename_i hc
      obtain ⟨c1, c2, c3⟩ := hc
      simp only [Option.bind_eq_some_iff, Option.pure_def, Option.some.injEq] at tr
      obtain ⟨as, has, ax, hax, rfl⟩ := tr
      have hte : P.underlying (argTypes.getD 0 0) = some (.slice e) := by
        unfold elemT at he0
        split at he0
        · rename_i hu'; cases he0; exact hu'
        · cases he0
      simp only [absOp] at he
      obtain ⟨v, w', E', r1, r2, r3, r4, r5⟩ := app_sound (P := P) (s := s) (ty := ty) hW hu (fun h => hn (by simp only [creates, h])) hte hz c3 c2 he hob (hx sx (by simp [Op.operands, Call.operands]) as has) (hx x (by simp [Op.operands, Call.operands]) ax hax)
        (fun i hi => hids i (List.mem_append_left _ hi)) (fun i hi => hids i (List.mem_append_right _ hi))
      rw [← c1] at r1
      exact ⟨v, w', E', .inl (by simp [execOp, resolve, invoke, builtin, r1]), r2, r3, r4, r5⟩
    · rename_i x y hargs
      have hargs' : args = #[x, y] := by simpa using congrArg List.toArray hargs
      subst hargs'
      simp only [Option.bind_eq_bind, Option.bind_eq_some_iff, Option.pure_def, Option.some.injEq] at tr
      obtain ⟨ax, hax, ay, hay, rfl⟩ := tr
      have h1 := hx x (by simp [Op.operands, Call.operands]) ax hax
      have h2 := hx y (by simp [Op.operands, Call.operands]) ay hay
      simp only [absOp] at he
      split at he
      rotate_left
      · cases he
      rename_i k n k' m hn1 hn2
      obtain ⟨v, hv', e1, e2, e3⟩ := val_eff he
      cases hv'
      rw [hn1] at h1
      rw [hn2] at h2
      refine OpRes.pure_ hW hu (v := .int k (if m > n then m else n)) (by simp [execOp, resolve, invoke, builtin, Builtin.max_, Builtin.max2, int_of h1, int_of h2]) ?_ e2 e3
      rw [e1]
      exact .rep _ _ (.int _ _)
    · rename_i x y hargs
      have hargs' : args = #[x, y] := by simpa using congrArg List.toArray hargs
      subst hargs'
      simp only [Option.bind_eq_bind, Option.bind_eq_some_iff, Option.pure_def, Option.some.injEq] at tr
      obtain ⟨ax, hax, ay, hay, rfl⟩ := tr
      have h1 := hx x (by simp [Op.operands, Call.operands]) ax hax
      have h2 := hx y (by simp [Op.operands, Call.operands]) ay hay
      simp only [absOp] at he
      split at he
      rotate_left
      · cases he
      rename_i k n k' m hn1 hn2
      obtain ⟨v, hv', e1, e2, e3⟩ := val_eff he
      cases hv'
      rw [hn1] at h1
      rw [hn2] at h2
      refine OpRes.pure_ hW hu (v := .int k (if m < n then m else n)) (by simp [execOp, resolve, invoke, builtin, Builtin.min_, Builtin.min2, int_of h1, int_of h2]) ?_ e2 e3
      rw [e1]
      exact .rep _ _ (.int _ _)
    · split at tr
      · split at tr
        · simp only [Option.map_eq_some_iff] at tr
          obtain ⟨xs, _, rfl⟩ := tr
          simp [absOp] at he
        · cases tr
      · cases tr
    · simp only [Option.map_eq_some_iff] at tr
      obtain ⟨xs, _, rfl⟩ := tr
      simp [absOp] at he
    · cases tr
  | _ => simp [trOp] at tr
end
end Go.Proofs.YtkldipbhenabfaaGreat.Abs

/-! One operation, calls too; regions in the order of the text. -/
namespace Go.Proofs.YtkldipbhenabfaaGreat.Abs
open Go Go.RowKit

def Contract (P : Program) (f : Nat) (args : List SV) (r : SV) : Prop :=
  ∀ (m : Mem) (w : World) (vs : List Value), (∀ b j v, m b j = some v → w.cell? ⟨b, j, none⟩ = some v) → vs.length = args.length → (∀ (j : Nat) v x, vs[j]? = some v → args[j]? = some x → Rep m v x) →
    Calls P f vs.toArray w fun e w' => ∃ v m', e = .returned v ∧ Rep m' v r ∧ m.le m' ∧ (∀ b j, b < w.heap.size → m' b j = m b j) ∧ (∀ b j v, m' b j = some v → w'.cell? ⟨b, j, none⟩ = some v) ∧
      w'.os = w.os ∧ w'.tape = w.tape ∧ w'.output = w.output ∧ w.heap.size ≤ w'.heap.size ∧ ∀ k, k < w.heap.size → w'.heap[k]? = w.heap[k]?

section
variable {P : Program} {U : Nat → Prop} {w0 : World} {own : Nat → Prop} {E : Env} {w : World} {s : St} {a : Act} {M0 : Mem}

theorem W.called {w' : World} {m' : Mem} (h : W w0 own E w) (h1 : E.m.le m') (h2 : ∀ b j, b < w.heap.size → m' b j = E.m b j) (h3 : ∀ b j v, m' b j = some v → w'.cell? ⟨b, j, none⟩ = some v)
    (h4 : w'.os = w.os) (h5 : w'.tape = w.tape) (h6 : w'.output = w.output) (h7 : w.heap.size ≤ w'.heap.size) (h8 : ∀ k, k < w.heap.size → w'.heap[k]? = w.heap[k]?) : Ext E { E with m := m' } ∧ W w0 own { E with m := m' } w' := by
  have hext : Ext E { E with m := m' } := ⟨h1, fun o ob ho => ⟨ob, ho, rfl, Nat.le_refl _, fun _ => ⟨rfl, rfl, Nat.le_refl _⟩⟩, rfl⟩
  refine ⟨hext, ⟨h4.trans h.os, h5.trans h.tape, h6.trans h.output, Nat.le_trans h.size h7, fun k hk ho => ?_, h3, fun o ob ho => ?_, h.inj, fun b j hb ho => ?_⟩⟩
  · rw [h8 k (Nat.lt_of_lt_of_le hk h.size)]
    exact h.block k hk ho
  · have hk := h.obs o ob ho
    refine ⟨hk.rows, hk.frz, hk.fit, hk.box, hk.bnd, fun ht => ?_⟩
    obtain ⟨c, e, k⟩ := hk.live ht
    have hlt := h.lt ho ht
    refine ⟨c, e, ⟨?_, k.size, k.new, fun j v x hv hx => (k.rel j v x hv hx).mono hext, k.one, fun j hj => ?_, fun j hj => ?_, fun hb j v x hv hx => (k.clo hb j v x hv hx).mono h1⟩⟩
    · show w'.heap[E.β o]? = _
      rw [h8 _ hlt]; exact k.blk
    · show m' (E.β o) j = _
      rw [h2 _ _ hlt]; exact k.old j hj
    · show m' (E.β o) j = _
      rw [h2 _ _ hlt]; exact k.free j hj
  · show m' b j = E.m0 b j
    rw [h2 b j (Nat.lt_of_lt_of_le hb h.size)]
    exact h.keep b j hb ho

def Does (C : Nat → List SV → SV → Prop) (o : AOper) (s : St) (v : SV) (h : List Ob) (q : Prop) : Prop :=
  (∃ f args vs, (o.op = .call f args ∨ ∃ fs x, o.op = .callv fs x args ∧ s.get x = .fn f ∧ fs.contains f = true) ∧ closeVs s.hp (args.map s.get) = some (vs, h) ∧ C f vs v ∧ q) ∨
  (∃ e, absOp s o.op = some e ∧ e.ob ∧ e.val = v ∧ e.hp = h ∧ (e.as → q))

theorem trXs_get {l : List Operand} : ∀ {xs : List AX}, trXs l = some xs → xs.length = l.length ∧ ∀ (j : Nat) x, l[j]? = some x → ∃ ax, xs[j]? = some ax ∧ trX x = some ax := by
  induction l with
  | nil => intro xs h; simp only [trXs, Option.some.injEq] at h; subst h; simp
  | cons y l ih =>
    intro xs h
    simp only [trXs, Option.bind_eq_bind, Option.bind_eq_some_iff, Option.pure_def, Option.some.injEq] at h
    obtain ⟨ay, hay, r, hr, rfl⟩ := h
    obtain ⟨h1, h2⟩ := ih hr
    refine ⟨by simp [h1], fun j x hx => ?_⟩
    cases j with
    | zero => simp at hx; subst hx; exact ⟨ay, by simp, hay⟩
    | succ j => obtain ⟨ax, g1, g2⟩ := h2 j x (by simpa using hx); exact ⟨ax, by simpa using g1, g2⟩

theorem does_wp {o : Oper} {ao : AOper} {v : SV} {h : List Ob} {q : Prop} (tr : trOp P o.op = some ao.op) (hD : Does (Contract P) ao s v h q) (hW : W w0 own E w) (hu : ∀ i, U i → E.H i = s.hp[i]?)
    (hn : creates s ao.op = true → U s.hp.length) (hids : ∀ i ∈ usesO s ao.op, U i) (hx : ∀ x ∈ o.op.operands, ∀ ax, trX x = some ax → RelV E (a.eval x) (s.get ax)) (K : Act → World → Prop) (Q : Exit → Act → World → Prop)
    (hK : ∀ u w' E', RelV E' u v → Step U w0 own E E' w' h → q → K (a.put o.dst u) w') : o.wp P a w K Q := by
  rcases hD with ⟨f, args, vs, hop, hcl, hC, hq⟩ | ⟨e, he, hob, rfl, rfl, hq⟩
  · obtain ⟨dst, op, ty, pos, after, guard⟩ := o
    obtain ⟨d, aop, g, id, fp, chk⟩ := ao
    simp only at hop tr hx hn hids hK
    have hcall : ∃ c fn, op = .call c ∧ P.funcs[f]? = some fn ∧ fn.body.isSome ∧ fn.name ≠ "runtime.NumGoroutine" ∧ trXs c.args.toList = some args ∧ (∀ y ∈ c.args.toList, y ∈ (Op.call c).operands) ∧
        (c.callee = .value (.func f) ∨ ∃ t, c.callee = .value (.tmp t) ∧ RelV E (a.eval (.tmp t)) (.fn f)) := by
      rcases hop with hop | ⟨fs, x, hop, hfx, hin⟩
      · subst hop
        cases op with
        | call c =>
          simp only [trOp] at tr
          split at tr
          · split at tr
            · cases tr
            · split at tr <;> simp at tr
          · simp only [Option.bind_eq_bind, Option.bind_eq_some_iff] at tr
            obtain ⟨_, _, _, _, tr⟩ := tr
            split at tr
            · simp [Option.bind_eq_some_iff] at tr
            · cases tr
          · simp [Option.bind_eq_some_iff] at tr
          · simp [Option.bind_eq_some_iff] at tr
          · rename_i f' xs hcal
            split at tr
            · rename_i fn hfn
              split at tr
              · rename_i hc
                simp only [Option.map_eq_some_iff, AOp.call.injEq] at tr
                obtain ⟨xs', h1, h2, h3⟩ := tr
                subst h2; subst h3
                exact ⟨c, fn, rfl, hfn, hc.1, hc.2, h1, fun y hy => by simp [Op.operands, Call.operands, hcal, Array.mem_def, hy], .inl hcal⟩
              · cases tr
            · cases tr
          · simp only [Option.map_eq_some_iff] at tr
            obtain ⟨_, _, h2⟩ := tr
            cases h2
          · cases tr
        | slice t x lo hi mx =>
          cases mx with
          | some m => simp [trOp] at tr
          | none =>
            simp only [trOp] at tr
            split at tr
            · split at tr
              · simp [Option.bind_eq_some_iff] at tr
              · cases tr
            · simp [Option.bind_eq_some_iff] at tr
            · cases tr
        | _ => simp only [trOp] at tr; repeat' (first | (split at tr) | (simp [Option.bind_eq_some_iff] at tr; done) | (cases tr; done) | (simp [Option.bind_eq_some_iff] at tr))
      · subst hop
        cases op with
        | call c =>
          simp only [trOp] at tr
          split at tr
          · split at tr
            · cases tr
            · split at tr <;> simp at tr
          · simp only [Option.bind_eq_bind, Option.bind_eq_some_iff] at tr
            obtain ⟨_, _, _, _, tr⟩ := tr
            split at tr
            · simp [Option.bind_eq_some_iff] at tr
            · cases tr
          · simp [Option.bind_eq_some_iff] at tr
          · simp [Option.bind_eq_some_iff] at tr
          · split at tr
            · split at tr
              · simp only [Option.map_eq_some_iff] at tr
                obtain ⟨_, _, h2⟩ := tr
                cases h2
              · cases tr
            · cases tr
          · rename_i xs t hcal
            simp only [Option.map_eq_some_iff, AOp.callv.injEq] at tr
            obtain ⟨xs', h1, h2, h3, h4⟩ := tr
            subst h2; subst h3; subst h4
            have hm : f ∈ canCall P c.argTypes := List.contains_iff_mem.1 hin
            unfold canCall at hm
            rw [List.mem_filter] at hm
            have hm2 := hm.2
            split at hm2
            · rename_i fn hfn
              simp only [Bool.and_eq_true, bne_iff_ne, ne_eq] at hm2
              refine ⟨c, fn, rfl, hfn, hm2.2.1, hm2.2.2, h1, fun y hy => by simp [Op.operands, Call.operands, hcal, Array.mem_def, hy], .inr ⟨t, hcal, ?_⟩⟩
              rw [← hfx]
              exact hx (.tmp t) (by simp [Op.operands, Call.operands, hcal]) (.t t) rfl
            · cases hm2
          · cases tr
        | slice t x lo hi mx =>
          cases mx with
          | some m => simp [trOp] at tr
          | none =>
            simp only [trOp] at tr
            split at tr
            · split at tr
              · simp [Option.bind_eq_some_iff] at tr
              · cases tr
            · simp [Option.bind_eq_some_iff] at tr
            · cases tr
        | _ => simp only [trOp] at tr; repeat' (first | (split at tr) | (simp [Option.bind_eq_some_iff] at tr; done) | (cases tr; done) | (simp [Option.bind_eq_some_iff] at tr))
    obtain ⟨c, fn, rfl, hfn, hbody, hname, hargs, hops, hcal⟩ := hcall
    have hids : ∀ i ∈ idsVs s.hp (args.map s.get), U i := by
      rcases hop with hop | ⟨fs, x, hop, _, _⟩ <;> · subst hop; exact hids
    obtain ⟨hl, hget⟩ := trXs_get hargs
    have hrun : (execOp a.eval { dst := dst, op := .call c, type := ty, pos := pos, after := after, guard := guard }).run P w = .ok (.enter f (c.args.map a.eval)) w := by
      obtain ⟨b, hb⟩ := Option.isSome_iff_exists.1 hbody
      rcases hcal with hcal | ⟨t, hcal, hrel⟩
      · simp [execOp, resolve, hcal, Act.eval, Deferred.ofValue, invoke, callFunc, hfn, hname, hb]
      · have hv := fn_of hrel
        simp [execOp, resolve, hcal, hv, Deferred.ofValue, invoke, callFunc, hfn, hname, hb]
    have hvs : (c.args.map a.eval) = (c.args.toList.map a.eval).toArray := by rw [← Array.toList_map]
    have hrel : ∀ (j : Nat) (v : Value) (x : SV), (c.args.toList.map a.eval)[j]? = some v → (args.map s.get)[j]? = some x → RelV E v x := by
      intro j v x hv hx'
      simp only [List.getElem?_map, Option.map_eq_some_iff] at hv hx'
      obtain ⟨y, hy, rfl⟩ := hv
      obtain ⟨ax, hax, rfl⟩ := hx'
      obtain ⟨ax', g1, g2⟩ := hget j y hy
      rw [hax] at g1
      cases g1
      exact hx y (hops y (List.mem_of_getElem? hy)) ax g2
    obtain ⟨_, hlen, E1, st1, rep1⟩ := closeVs_sound hW hu hcl (by rw [List.length_map, List.length_map, hl]) hrel hids
    unfold Oper.wp
    rw [hrun]
    simp only [Oper.upon]
    rw [hvs]
    refine Calls.mono (hC E1.m w _ st1.wo.mem (by rw [hlen, List.length_map, List.length_map, hl]) rep1) (fun e w' he => ?_)
    obtain ⟨u, m', rfl, k1, k2, k3, k4, k5, k6, k7, k8, k9⟩ := he
    obtain ⟨g1, g2⟩ := st1.wo.called k2 k3 k4 k5 k6 k7 k8 k9
    exact hK u w' _ (.rep _ _ k1) ⟨st1.ext.trans g1, g2, st1.on, st1.off⟩ hq
  · obtain ⟨u, w', E', h1, h2, h3, h4, h5⟩ := op_sound (P := P) (o := o) tr he hob hW hu hn hids hx
    unfold Oper.wp
    rcases h1 with h1 | ⟨h1, rfl⟩
    · rw [h1]; exact hK u w' E' h2 h3 (hq h5)
    · rw [h1]; exact hK undef w' E' h2 h3 (hq h5)

structure SR (w0 : World) (own : Nat → Prop) (M0 : Mem) (E : Env) (s : St) (a : Act) (w : World) : Prop where
  wo : W w0 own E w
  hp : ∀ o, E.H o = s.hp[o]?
  len : s.sl.length = a.tmps.size
  sl : ∀ i, RelV E (a.tmps.getD i undef) (s.sl.getD i .undef)
  dfr : a.defers = []
  z : E.m0 = M0
  le : M0.le E.m

theorem put_rel {u : Value} {v : SV} {d : Option Nat} {hp : List Ob} (hl : s.sl.length = a.tmps.size) (h : ∀ i, RelV E (a.tmps.getD i undef) (s.sl.getD i .undef)) (hv : RelV E u v) :
    ∀ i, RelV E ((a.put d u).tmps.getD i undef) (({ s with hp := hp }.put d v).sl.getD i .undef) := by
  intro i
  cases d with
  | none => exact h i
  | some d =>
    by_cases hd : d = i
    · subst hd
      rcases Nat.lt_or_ge d a.tmps.size with hlt | hge
      · simp [Act.put, St.put, Array.getElem?_setIfInBounds, List.getElem?_set, hlt, hl, hv]
      · have := h d
        simpa [Act.put, St.put, Array.getElem?_setIfInBounds, List.getElem?_set, show ¬ d < a.tmps.size by omega, hl] using this
    · have := h i
      simpa [Act.put, St.put, Array.getElem?_setIfInBounds, List.getElem?_set, hd] using this

theorem put_len {u : Value} {v : SV} {d : Option Nat} {hp : List Ob} (hl : s.sl.length = a.tmps.size) : ({ s with hp := hp }.put d v).sl.length = (a.put d u).tmps.size := by
  cases d <;> simp [Act.put, St.put, hl]
theorem put_dfr {u : Value} {d : Option Nat} : (a.put d u).defers = a.defers := by cases d <;> rfl
theorem put_hp {v : SV} {d : Option Nat} : (s.put d v).hp = s.hp := by cases d <;> rfl

theorem SR.step {u : Value} {v : SV} {d : Option Nat} {h : List Ob} {w' : World} {E' : Env} (hS : SR w0 own M0 E s a w) (hv : RelV E' u v) (st : Step (fun _ => True) w0 own E E' w' h) :
    SR w0 own M0 E' ({ s with hp := h }.put d v) (a.put d u) w' :=
  ⟨st.wo, fun o => by rw [put_hp]; exact st.on o trivial, put_len hS.len, put_rel hS.len (fun i => (hS.sl i).mono st.ext) hv, by rw [put_dfr]; exact hS.dfr, st.ext.z.trans hS.z, fun b j v hv => st.ext.m b j v (hS.le b j v hv)⟩

theorem SR.x (hS : SR w0 own M0 E s a w) {x : Operand} {ax : AX} (h : trX x = some ax) : RelV E (a.eval x) (s.get ax) := by
  cases x with
  | tmp t => simp only [trX, Option.some.injEq] at h; subst h; exact hS.sl t
  | const v =>
    simp only [trX, Option.map_eq_some_iff] at h
    obtain ⟨sv, hsv, rfl⟩ := h
    exact .rep _ _ (rep_const hsv).1
  | func f => simp only [trX, Option.some.injEq] at h; subst h; exact .rep _ _ (.fn f)
  | _ => simp [trX] at h

theorem undef_of {v : Value} (h : RelV E v .undef) : v = undef := by
  cases h with
  | undef => rfl
  | rep _ _ hr => cases hr

theorem guard_of {o : Oper} {ao : AOper} {ops : Array Oper} (tr : trOper P ops o = some ao) : trOp P o.op = some ao.op ∧ o.dst = ao.d ∧
    ((o.guard = none ∧ ao.g = none) ∨ ∃ j want t, o.guard = some (j, want) ∧ (ops[j]?).bind (·.dst) = some t ∧ ao.g = some (t, want)) := by
  unfold trOper at tr
  split at tr
  · rename_i op hop
    split at tr
    · rename_i hg; cases tr; exact ⟨hop, rfl, .inl ⟨hg, rfl⟩⟩
    · rename_i j want hg
      split at tr
      · rename_i t ht; cases tr; exact ⟨hop, rfl, .inr ⟨j, want, t, hg, ht, rfl⟩⟩
      · cases tr
  · cases tr

theorem wanted_none {o : Oper} {f : Nat → Option Bool} (h : o.guard = none) : Region.wanted o f = true := by simp [Region.wanted, h]

theorem wanted_bool {o : Oper} {ops : Array Oper} {j t : Nat} {want b : Bool} (h : o.guard = some (j, want)) (ht : (ops[j]?).bind (·.dst) = some t) (hv : RelV E (a.tmps.getD t undef) (.bool b)) : Region.wanted o (yielded ops a.tmps) = (b == want) := by
  have := bool_of hv
  have h2 : a.tmps[t]? = some (.bool b) := by
    rw [Array.getD_eq_getD_getElem?] at this
    cases h3 : a.tmps[t]? with
    | none => rw [h3] at this; cases this
    | some u => rw [h3] at this; simpa using this
  simp only [Region.wanted, h, yielded, ht, Option.bind_some, h2]
  cases b <;> cases want <;> rfl

theorem wanted_undef {o : Oper} {ops : Array Oper} {j t : Nat} {want : Bool} (h : o.guard = some (j, want)) (ht : (ops[j]?).bind (·.dst) = some t) (hv : RelV E (a.tmps.getD t undef) .undef) : Region.wanted o (yielded ops a.tmps) = false := by
  have := undef_of hv
  rw [Array.getD_eq_getD_getElem?] at this
  simp only [Region.wanted, h, yielded, ht, Option.bind_some]
  cases h3 : a.tmps[t]? with
  | none => rfl
  | some u =>
    rw [h3] at this
    have : u = undef := by simpa using this
    subst this
    rfl

theorem does_of_vc1 {C : Nat → List SV → SV → Prop} {o : AOper} {K : St → Prop} (h : vc1 C o s K) : ∃ v hp q, Does C o s v hp q ∧ (q → K ({ s with hp := hp }.put o.d v)) := by
  unfold vc1 at h
  split at h
  · rename_i f args hop
    split at h
    · rename_i vs hh hcl
      obtain ⟨r, hC, hK⟩ := h
      exact ⟨r, hh, True, .inl ⟨f, args, vs, .inl hop, hcl, hC, trivial⟩, fun _ => hK⟩
    · exact h.elim
  · rename_i fs x args hop
    split at h
    · rename_i f hf
      split at h
      · rename_i hin
        split at h
        · rename_i vs hh hcl
          obtain ⟨r, hC, hK⟩ := h
          exact ⟨r, hh, True, .inl ⟨f, args, vs, .inr ⟨fs, x, hop, hf, hin⟩, hcl, hC, trivial⟩, fun _ => hK⟩
        · exact h.elim
      · exact h.elim
    · exact h.elim
  · rename_i c a b hop
    split at h
    · rename_i t ht
      have he : absOp s o.op = some { ob := True, val := if t then s.get a else s.get b, hp := s.hp } := by rw [hop]; simp only [absOp, ht, St.val]
      refine ⟨if t then s.get a else s.get b, s.hp, True, .inr ⟨_, he, trivial, rfl, rfl, fun _ => trivial⟩, fun _ => ?_⟩
      cases t with
      | true => exact h.1 rfl
      | false => exact h.2 rfl
    · exact h.elim
  · split at h
    · rename_i e he
      exact ⟨e.val, e.hp, e.as, .inr ⟨e, he, h.1, rfl, rfl, id⟩, h.2⟩
    · exact h.elim

theorem ops_sound {ops : Array Oper} {Q : Exit → Act → World → Prop} {K : St → Prop} (hK : ∀ E s a w, SR w0 own M0 E s a w → K s → Q .normal a w) : ∀ (l : List Oper) (rest : List AOper) (k : Nat) (E : Env) (s : St) (a : Act) (w : World),
    trOps P ops l = some rest → (∀ (j : Nat) o, l[j]? = some o → ops[k + j]? = some o) → SR w0 own M0 E s a w → vcOps (Contract P) rest s K → wpOps P ops Q (List.range' k l.length) a w := by
  intro l
  induction l with
  | nil =>
    intro rest k E s a w htr _ hS hvc
    simp only [trOps, Option.some.injEq] at htr
    subst htr
    simp only [vcOps] at hvc
    simpa [wpOps] using hK E s a w hS hvc
  | cons o l ih =>
    intro rest k E s a w htr hget hS hvc
    simp only [trOps, Option.bind_eq_bind, Option.bind_eq_some_iff, Option.pure_def, Option.some.injEq] at htr
    obtain ⟨ao, hao, rest', hrest, rfl⟩ := htr
    obtain ⟨tr, hd, hg⟩ := guard_of hao
    have hk : ops[k]? = some o := by simpa using hget 0 o rfl
    have hget' : ∀ (j : Nat) o', l[j]? = some o' → ops[k + 1 + j]? = some o' := fun j o' hj => by
      have := hget (j + 1) o' (by simpa using hj)
      rwa [show k + 1 + j = k + (j + 1) by omega]
    have go : vc1 (Contract P) ao s (fun s' => vcOps (Contract P) rest' s' K) → o.wp P a w (wpOps P ops Q (List.range' (k + 1) l.length)) Q := by
      intro h1
      obtain ⟨v, hp, q, hD, hn⟩ := does_of_vc1 h1
      refine does_wp (U := fun _ => True) tr hD hS.wo (fun i _ => hS.hp i) (fun _ => trivial) (fun _ _ => trivial) (fun x _ ax hax => hS.x hax) _ _ (fun u w' E' hv st hq => ?_)
      rw [hd]
      exact ih rest' (k + 1) E' _ _ w' hrest hget' (hS.step hv st) (hn hq)
    have skip : vcOps (Contract P) rest' (s.put ao.d .undef) K → wpOps P ops Q (List.range' (k + 1) l.length) (a.put o.dst undef) w := by
      intro h1
      refine ih rest' (k + 1) E _ _ w hrest hget' ?_ h1
      rw [hd]
      have := hS.step (d := ao.d) (.undef : RelV E undef .undef) (Step.refl hS.wo (fun o _ => hS.hp o))
      exact this
    rw [List.length_cons, List.range'_succ, wpOps]
    simp only [hk]
    rcases hg with ⟨hg1, hg2⟩ | ⟨j, want, t, hg1, hg2, hg3⟩
    · rw [if_pos (wanted_none hg1)]
      simp only [vcOps, hg2] at hvc
      exact .inl (go hvc)
    · simp only [vcOps, hg3] at hvc
      have hst := hS.sl t
      split at hvc
      · rename_i b hb
        rw [hb] at hst
        have hw := wanted_bool hg1 hg2 hst
        by_cases hbw : b = want
        · rw [if_pos (by rw [hw]; simp [hbw])]
          exact .inl (go (hvc.1 (by simp [hbw])))
        · rw [if_neg (by rw [hw]; simp [hbw])]
          exact skip (hvc.2 (by simp [hbw]))
      · rename_i hb
        rw [hb] at hst
        rw [if_neg (by rw [wanted_undef hg1 hg2 hst]; simp)]
        exact skip hvc
      · exact hvc.elim
end
end Go.Proofs.YtkldipbhenabfaaGreat.Abs

/-! What an abstract operation does not touch stays; a row of steps seen through the set of those that are done. -/
namespace Go.Proofs.YtkldipbhenabfaaGreat.Abs
open Go Go.RowKit

theorem set_other {hp : List Ob} {o i : Nat} {ob : Ob} (h : i ≠ o) : (hp.set o ob)[i]? = hp[i]? := by
  rw [List.getElem?_set_ne (Ne.symm h)]
theorem app_other {hp : List Ob} {i : Nat} {ob : Ob} (h : i ≠ hp.length) : (hp ++ [ob])[i]? = hp[i]? := by
  rcases Nat.lt_or_ge i hp.length with h1 | h1
  · rw [List.getElem?_append_left h1]
  · rw [List.getElem?_append_right h1, List.getElem?_eq_none (show hp.length ≤ i by omega), List.getElem?_eq_none]
    simp; omega

theorem closeC_frame {hp h : List Ob} {x x' : SV} (hc : closeC hp x = some (x', h)) : h.length = hp.length ∧ ∀ i, i ∉ idsC x → h[i]? = hp[i]? := by
  cases x with
  | osl o g off len =>
    simp only [closeC] at hc
    split at hc
    · split at hc
      · cases hc
        exact ⟨by simp [fz], fun i hi => by simp only [idsC, List.mem_singleton] at hi; exact set_other hi⟩
      · cases hc
    · cases hc
  | agg b l => cases b <;> simp [closeC] at hc; obtain ⟨_, rfl⟩ := hc; exact ⟨rfl, fun _ _ => rfl⟩
  | _ => first | (simp [closeC] at hc; done) | (simp [closeC] at hc; obtain ⟨_, rfl⟩ := hc; exact ⟨rfl, fun _ _ => rfl⟩)

theorem closeCs_frame {l : List SV} : ∀ {hp h : List Ob} {l' : List SV}, closeCs hp l = some (l', h) → h.length = hp.length ∧ ∀ i, i ∉ l.flatMap idsC → h[i]? = hp[i]? := by
  induction l with
  | nil => intro hp h l' hc; simp only [closeCs, Option.some.injEq, Prod.mk.injEq] at hc; obtain ⟨_, rfl⟩ := hc; exact ⟨rfl, fun _ _ => rfl⟩
  | cons c r ih =>
    intro hp h l' hc
    simp only [closeCs] at hc
    split at hc
    · rename_i c' h1 h2
      split at hc
      · rename_i r' h3 h4
        cases hc
        obtain ⟨a1, a2⟩ := closeC_frame h2
        obtain ⟨b1, b2⟩ := ih h4
        refine ⟨b1.trans a1, fun i hi => ?_⟩
        simp only [List.flatMap_cons, List.mem_append, not_or] at hi
        rw [b2 i hi.2, a2 i hi.1]
      · cases hc
    · cases hc

theorem closeV_frame {hp h : List Ob} {x x' : SV} (hc : closeV hp x = some (x', h)) : h.length = hp.length ∧ ∀ i, i ∉ idsV hp x → h[i]? = hp[i]? := by
  have gen : closeC hp x = some (x', h) → idsV hp x = idsC x → h.length = hp.length ∧ ∀ i, i ∉ idsV hp x → h[i]? = hp[i]? := fun h1 h2 => by rw [h2]; exact closeC_frame h1
  cases x with
  | agg b l =>
    cases b with
    | true => exact gen hc rfl
    | false =>
      simp only [closeV] at hc
      split at hc
      · rename_i l' h1 h2; cases hc; exact closeCs_frame h2
      · cases hc
  | ref o g e c =>
    simp only [closeV] at hc
    split at hc
    rotate_left
    · cases hc
    rename_i ob ho
    split at hc
    rotate_left
    · cases hc
    split at hc
    · cases hc
      refine ⟨by simp [fz], fun i hi => ?_⟩
      simp only [idsV, List.mem_cons, not_or] at hi
      exact set_other hi.1
    · rename_i hcl
      split at hc
      rotate_left
      · cases hc
      rename_i l' h1 h2
      cases hc
      obtain ⟨a1, a2⟩ := closeCs_frame h2
      refine ⟨by simp [a1], fun i hi => ?_⟩
      simp only [idsV, ho, hcl, List.mem_cons, not_or] at hi
      rw [set_other hi.1]
      exact a2 i (by simpa using hi.2)
  | _ => exact gen hc rfl

theorem closeVs_frame {l : List SV} : ∀ {hp h : List Ob} {l' : List SV}, closeVs hp l = some (l', h) → h.length = hp.length ∧ ∀ i, i ∉ idsVs hp l → h[i]? = hp[i]? := by
  induction l with
  | nil => intro hp h l' hc; simp only [closeVs, Option.some.injEq, Prod.mk.injEq] at hc; obtain ⟨_, rfl⟩ := hc; exact ⟨rfl, fun _ _ => rfl⟩
  | cons c r ih =>
    intro hp h l' hc
    simp only [closeVs] at hc
    split at hc
    · rename_i c' h1 h2
      split at hc
      · rename_i r' h3 h4
        cases hc
        obtain ⟨a1, a2⟩ := closeV_frame h2
        obtain ⟨b1, b2⟩ := ih h4
        refine ⟨b1.trans a1, fun i hi => ?_⟩
        simp only [idsVs, h2, List.mem_append, not_or] at hi
        rw [b2 i hi.2, a2 i hi.1]
      · cases hc
    · cases hc

section
variable {s : St}

theorem touchD_none {op : AOp} (h : touches op = false) : touchD s op = [] := by
  cases op <;> first | (simp [touches] at h; done) | rfl

theorem val_hp {o : Option SV} {e : Eff} (h : s.val o = some e) : e.hp = s.hp := by
  cases o <;> simp [St.val] at h
  subst h; rfl

theorem absLoad_hp {ag : Bool} {n : Nat} {x : SV} {e : Eff} {hp : List Ob} (h : absLoad hp ag n x = some e) : e.hp = hp := by
  unfold absLoad at h
  repeat' (split at h)
  all_goals first | (cases h; rfl) | (cases h; done)

theorem absSlc_hp {z : Nat} {x : SV} {lo hi : Option AX} {e : Eff} (h : absSlc s z x lo hi = some e) : e.hp = s.hp := by
  unfold absSlc at h
  repeat' (split at h)
  all_goals first | (cases h; rfl) | (cases h; done)

theorem absLen_hp {st : Bool} {x : SV} {e : Eff} {hp : List Ob} (h : absLen hp st x = some e) : e.hp = hp := by
  unfold absLen at h
  repeat' (split at h)
  all_goals first | (cases h; rfl) | (cases h; done)

theorem absOp_frame {op : AOp} {e : Eff} (h : absOp s op = some e) : ∀ i, i ∉ chgD s op → e.hp[i]? = s.hp[i]? := by
  intro i hi
  cases op with
  | new cells =>
    simp only [absOp, Option.some.injEq] at h; subst h
    simp [chgD, reader, touchD, usesO, creates] at hi
    exact app_other hi
  | box x =>
    simp only [absOp, Option.some.injEq] at h; subst h
    simp [chgD, reader, touchD, usesO, creates] at hi
    exact app_other hi
  | mk sz bytes zero l c =>
    simp only [absOp] at h
    split at h
    · cases h
      simp [chgD, reader, touchD, usesO, creates] at hi
      exact app_other hi
    · cases h
  | bslice sz ps =>
    simp only [absOp] at h
    split at h
    · rename_i rows hh hr
      cases h
      obtain ⟨l', h1, _, _⟩ := closeRows_eq hr
      obtain ⟨a1, a2⟩ := closeVs_frame h1
      simp [chgD, reader, touchD, usesO, creates] at hi
      rw [app_other (by rw [a1]; exact hi.2)]
      exact a2 i hi.1
    · cases h
  | load ag n x => simp only [absOp] at h; rw [absLoad_hp h]
  | slc z x lo hi => simp only [absOp] at h; rw [absSlc_hp h]
  | len st x => simp only [absOp] at h; rw [absLen_hp h]
  | store n x y =>
    simp only [absOp, absStore] at h
    split at h
    rotate_left
    · cases h
    rename_i o g e0 c ha
    split at h
    rotate_left
    · cases h
    rename_i ob hob
    split at h
    rotate_left
    · cases h
    simp only [chgD, reader, touchD, usesO, creates, Bool.false_eq_true, if_false, List.append_nil, List.mem_append, not_or, ha, idsC, List.mem_singleton] at hi
    split at h
    · cases h
      exact set_other hi.1
    · rename_i hbox
      split at h
      rotate_left
      · cases h
      rename_i x' hh hcv
      split at h
      rotate_left
      · cases h
      split at h
      rotate_left
      · cases h
      cases h
      obtain ⟨a1, a2⟩ := closeV_frame hcv
      show (hh.set o _)[i]? = _
      rw [set_other hi.1]
      exact a2 i (fun hm => hi.2 (by simp only [usesS, hob, if_neg hbox]; exact hm))
  | app sz bytes x y =>
    simp only [absOp, absApp] at h
    split at h
    rotate_left
    · cases h
    split at h
    · rename_i ha
      cases h
      simp only [chgD, reader, touchD, usesO, creates, Bool.false_eq_true, if_false, if_true, ha, List.mem_append, not_or, List.mem_singleton] at hi
      exact app_other hi.2
    · rename_i o g off len ha
      split at h
      rotate_left
      · cases h
      split at h
      rotate_left
      · cases h
      cases h
      simp only [chgD, reader, touchD, usesO, creates, Bool.false_eq_true, if_false, ha, List.mem_append, not_or, idsC, List.mem_singleton] at hi
      exact set_other hi.1.1
    · cases h
  | iad sz x y =>
    simp only [absOp] at h
    split at h
    · cases h; rfl
    · cases h
  | build zero parts => simp only [absOp, Option.some.injEq] at h; subst h; rfl
  | call f args => simp [absOp] at h
  | callv fs x args => simp [absOp] at h
  | fld ag off n x =>
    simp only [absOp] at h
    split at h
    · cases h; rfl
    · cases h
  | _ =>
    simp only [absOp] at h
    first
      | (rw [val_hp h]; done)
      | (repeat' (split at h)
         all_goals first | (rw [val_hp h]; done) | (cases h; done))

theorem does_frame {C : Nat → List SV → SV → Prop} {o : AOper} {v : SV} {hp : List Ob} {q : Prop} (h : Does C o s v hp q) : ∀ i, i ∉ chgD s o.op → hp[i]? = s.hp[i]? := by
  intro i hi
  rcases h with ⟨f, args, vs, hop, hcl, _⟩ | ⟨e, he, _, _, rfl, _⟩
  · rcases hop with hop | ⟨fs, x, hop, _, _⟩ <;>
    · rw [hop] at hi
      simp only [chgD, reader, touchD, usesO, creates, Bool.false_eq_true, if_false, List.append_nil] at hi
      exact (closeVs_frame hcl).2 i hi
  · exact absOp_frame he i hi
end

/-! ### A row of steps, of which only some are done -/
section
variable {X : Type} (f : Nat → Nat → X) (wr : Nat → Nat → Bool)

def atL (L : Nat → Bool) : Nat → Nat → X
  | 0, p => f 0 p
  | k + 1, p => if L k && wr k p then f (k + 1) p else atL L k p

variable {f wr}

theorem atL_all {L : Nat → Bool} (hf : ∀ k p, wr k p = false → f (k + 1) p = f k p) {p : Nat} : ∀ {k : Nat}, (∀ j, j < k → wr j p = true → L j = true) → atL f wr L k p = f k p := by
  intro k
  induction k with
  | zero => intro _; rfl
  | succ k ih =>
    intro h
    simp only [atL]
    cases hw : wr k p with
    | true => simp [h k (Nat.lt_succ_self k) hw]
    | false => simp only [Bool.and_false, Bool.false_eq_true, if_false]; rw [hf k p hw]; exact ih (fun j hj => h j (Nat.lt_succ_of_lt hj))

theorem atL_read {L : Nat → Bool} (hf : ∀ k p, wr k p = false → f (k + 1) p = f k p) {p i : Nat} (h1 : ∀ j, j < i → wr j p = true → L j = true) : ∀ {n : Nat}, i ≤ n → (∀ k, i ≤ k → k < n → wr k p = true → L k = false) → atL f wr L n p = f i p := by
  intro n
  induction n with
  | zero => intro hi _; have : i = 0 := by omega
            subst this; rfl
  | succ n ih =>
    intro hi h2
    by_cases hn : i = n + 1
    · subst hn; exact atL_all hf h1
    · simp only [atL]
      have := ih (by omega) (fun k hk hkn => h2 k hk (by omega))
      cases hw : wr n p with
      | true => simp [h2 n (by omega) (by omega) hw, this]
      | false => simp [this]

theorem atL_write {L : Nat → Bool} {p i : Nat} (hL : L i = true) (hw : wr i p = true) : ∀ {n : Nat}, i < n → (∀ k, i < k → k < n → wr k p = true → L k = false) → atL f wr L n p = f (i + 1) p := by
  intro n
  induction n with
  | zero => intro hi; omega
  | succ n ih =>
    intro hi h2
    simp only [atL]
    by_cases hn : i = n
    · subst hn; simp [hL, hw]
    · have := ih (by omega) (fun k hk hkn => h2 k hk (by omega))
      cases hw' : wr n p with
      | true => simp [h2 n (by omega) (by omega) hw', this]
      | false => simp [this]

theorem atL_keep {L L' : Nat → Bool} {p i : Nat} (hL : ∀ k, k ≠ i → L' k = L k) (hw : wr i p = false) : ∀ {n : Nat}, atL f wr L' n p = atL f wr L n p := by
  intro n
  induction n with
  | zero => rfl
  | succ n ih =>
    simp only [atL]
    by_cases hn : n = i
    · subst hn; simp [hw, ih]
    · rw [hL n hn, ih]

theorem atL_none {L : Nat → Bool} (hL : ∀ k, L k = false) {p : Nat} : ∀ {n : Nat}, atL f wr L n p = f 0 p := by
  intro n
  induction n with
  | zero => rfl
  | succ n ih => simp [atL, hL n, ih]
end

/-! ### Which operations stand ahead of which -/
def Down (ops : Array Oper) (L : Nat → Bool) : Prop := ∀ j o, ops[j]? = some o → L j = true → ∀ e ∈ o.after, Region.binds .any e = true → L e.on = true

theorem msk_spec {acc : List Nat} {i : Nat} : ∀ {es : List Edge}, (msk acc es).testBit i = true → ∃ e ∈ es, Region.binds .any e = true ∧ (i = e.on ∨ (acc.getD e.on 0).testBit i = true) := by
  intro es
  induction es with
  | nil => intro h; simp [msk] at h
  | cons e r ih =>
    intro h
    simp only [msk] at h
    split at h
    · rename_i hb
      simp only [Nat.testBit_or, Bool.or_eq_true, Nat.testBit_two_pow, decide_eq_true_eq] at h
      rcases h with (h | h) | h
      · obtain ⟨e', h1, h2⟩ := ih h; exact ⟨e', List.mem_cons_of_mem _ h1, h2⟩
      · exact ⟨e, List.mem_cons_self, hb, .inl h.symm⟩
      · exact ⟨e, List.mem_cons_self, hb, .inr h⟩
    · obtain ⟨e', h1, h2⟩ := ih h; exact ⟨e', List.mem_cons_of_mem _ h1, h2⟩

theorem msks_spec {ops : Array Oper} {L : Nat → Bool} (hL : Down ops L) : ∀ (l : List Oper) (acc : List Nat), (∀ (j : Nat) o, l[j]? = some o → ops[acc.length + j]? = some o) →
    (∀ k i, (acc.getD k 0).testBit i = true → L k = true → L i = true) → ∀ k i, ((msks l acc).getD k 0).testBit i = true → L k = true → L i = true := by
  intro l
  induction l with
  | nil => intro acc _ h; exact h
  | cons o l ih =>
    intro acc hget h
    refine ih (acc ++ [msk acc o.after.toList]) (fun j o' hj => ?_) (fun k i hb hk => ?_)
    · have := hget (j + 1) o' (by simpa using hj)
      rwa [List.length_append, List.length_singleton, show acc.length + 1 + j = acc.length + (j + 1) by omega]
    · by_cases hka : k < acc.length
      · rw [List.getD_eq_getElem?_getD, List.getElem?_append_left hka, ← List.getD_eq_getElem?_getD] at hb
        exact h k i hb hk
      · by_cases hke : k = acc.length
        · subst hke
          rw [List.getD_eq_getElem?_getD, List.getElem?_append_right (Nat.le_refl _)] at hb
          simp only [Nat.sub_self, List.getElem?_cons_zero, Option.getD_some] at hb
          obtain ⟨e, he, hbn, hi⟩ := msk_spec hb
          have h0 : ops[acc.length]? = some o := by simpa using hget 0 o rfl
          have hLe := hL _ o h0 hk e (Array.mem_def.2 he) hbn
          rcases hi with rfl | hi
          · exact hLe
          · exact h _ i hi hLe
        · rw [List.getD_eq_getElem?_getD, List.getElem?_append_right (by omega), List.getElem?_eq_none (by simp; omega)] at hb
          simp at hb
end Go.Proofs.YtkldipbhenabfaaGreat.Abs

/-! A region whose order is drawn. -/
namespace Go.Proofs.YtkldipbhenabfaaGreat.Abs
open Go Go.RowKit

def WantA (o : AOper) (s : St) (b : Bool) : Prop :=
  match o.g with
  | none => b = true
  | some (t, want) => (∃ c, s.sl.getD t .undef = .bool c ∧ b = (c == want)) ∨ (s.sl.getD t .undef = .undef ∧ b = false)

structure Trace (C : Nat → List SV → SV → Prop) (l : List AOper) (s : St) (fps : List (Nat × AOp × St)) (p : Prop) (K : St → Prop) (σ : Nat → St) (v : Nat → SV) (q : Nat → Prop) (on : Nat → Bool) : Prop where
  zero : σ 0 = s
  want : ∀ i ao, l[i]? = some ao → WantA ao (σ i) (on i)
  next : ∀ i ao, l[i]? = some ao → σ (i + 1) = ({ σ i with hp := (σ (i + 1)).hp } : St).put ao.d (v i)
  does : ∀ i ao, l[i]? = some ao → on i = true → Does C ao (σ i) (v i) (σ (i + 1)).hp (q i) ∧ ∀ f ∈ fps, f.1 ∈ ao.chk → apartD f.2.2 f.2.1 (σ i) ao.op
  skip : ∀ i ao, l[i]? = some ao → on i = false → v i = .undef ∧ (σ (i + 1)).hp = (σ i).hp ∧ q i
  apart : ∀ i j a b, i < j → l[i]? = some a → l[j]? = some b → on i = true → on j = true → a.fp = true → a.id ∈ b.chk → apartD (σ i) a.op (σ j) b.op
  fin : p → (∀ i, i < l.length → q i) → K (σ l.length)

theorem clear_of {o : AOper} {s : St} {fps : List (Nat × AOp × St)} (h : clear o s fps) : ∀ f ∈ fps, f.1 ∈ o.chk → apartD f.2.2 f.2.1 s o.op := by
  unfold clear at h
  split at h
  · rename_i hc; intro f _ hf; rw [hc] at hf; cases hf
  · exact h

theorem does_of_stepD {C : Nat → List SV → SV → Prop} {o : AOper} {s : St} {K : St → Prop → Prop} (h : stepD C o s K) : ∃ v hp q, Does C o s v hp q ∧ K ({ s with hp := hp }.put o.d v) q := by
  unfold stepD at h
  split at h
  · rename_i f args hop
    split at h
    · rename_i vs hh hcl
      obtain ⟨r, hC, hK⟩ := h
      exact ⟨r, hh, True, .inl ⟨f, args, vs, .inl hop, hcl, hC, trivial⟩, hK⟩
    · exact h.elim
  · rename_i fs x args hop
    split at h
    · rename_i f hf
      split at h
      · rename_i hin
        split at h
        · rename_i vs hh hcl
          obtain ⟨r, hC, hK⟩ := h
          exact ⟨r, hh, True, .inl ⟨f, args, vs, .inr ⟨fs, x, hop, hf, hin⟩, hcl, hC, trivial⟩, hK⟩
        · exact h.elim
      · exact h.elim
    · exact h.elim
  · rename_i c a b hop
    split at h
    · rename_i t ht
      have he : absOp s o.op = some { ob := True, val := if t then s.get a else s.get b, hp := s.hp } := by rw [hop]; simp only [absOp, ht, St.val]
      refine ⟨if t then s.get a else s.get b, s.hp, True, .inr ⟨_, he, trivial, rfl, rfl, fun _ => trivial⟩, ?_⟩
      cases t with
      | true => exact h.1 rfl
      | false => exact h.2 rfl
    · exact h.elim
  · split at h
    · rename_i e he
      exact ⟨e.val, e.hp, e.as, .inr ⟨e, he, h.1, rfl, rfl, id⟩, h.2⟩
    · exact h.elim

theorem put_put_hp (s : St) (hp : List Ob) (d : Option Nat) (v : SV) : ({ s with hp := hp }.put d v).hp = hp := put_hp

theorem Trace.cons {C : Nat → List SV → SV → Prop} {o : AOper} {l : List AOper} {s s1 : St} {fps fps' : List (Nat × AOp × St)} {p p' : Prop} {K : St → Prop} {σ : Nat → St} {v : Nat → SV} {q : Nat → Prop} {on : Nat → Bool}
    {v0 : SV} {q0 : Prop} {b0 : Bool} (h : Trace C l s1 fps' p' K σ v q on) (hw : WantA o s b0) (hs1 : s1 = ({ s with hp := s1.hp } : St).put o.d v0) (hd : b0 = true → Does C o s v0 s1.hp q0 ∧ ∀ f ∈ fps, f.1 ∈ o.chk → apartD f.2.2 f.2.1 s o.op)
    (hk : b0 = false → v0 = .undef ∧ s1.hp = s.hp ∧ q0) (hp : p → q0 → p') (hf : ∀ f ∈ fps, f ∈ fps') (hf2 : b0 = true → o.fp = true → (o.id, o.op, s) ∈ fps') :
    Trace C (o :: l) s fps p K (fun i => match i with | 0 => s | i + 1 => σ i) (fun i => match i with | 0 => v0 | i + 1 => v i) (fun i => match i with | 0 => q0 | i + 1 => q i) (fun i => match i with | 0 => b0 | i + 1 => on i) := by
  have h0 := h.zero
  refine ⟨rfl, fun i ao ha => ?_, fun i ao ha => ?_, fun i ao ha hon => ?_, fun i ao ha hon => ?_, fun i j a b hij ha hb hi hj hfp hid => ?_, fun hp0 hq => ?_⟩
  · cases i with
    | zero => simp at ha; subst ha; exact hw
    | succ i => exact h.want i ao (by simpa using ha)
  · cases i with
    | zero => simp at ha; subst ha; simp only [h0]; exact hs1
    | succ i => exact h.next i ao (by simpa using ha)
  · cases i with
    | zero => simp at ha; subst ha; simp only [h0]; exact hd hon
    | succ i =>
      obtain ⟨g1, g2⟩ := h.does i ao (by simpa using ha) hon
      exact ⟨g1, fun f hfm hc => g2 f (hf f hfm) hc⟩
  · cases i with
    | zero => simp at ha; subst ha; simp only [h0]; exact hk hon
    | succ i => exact h.skip i ao (by simpa using ha) hon
  · cases j with
    | zero => omega
    | succ j =>
      cases i with
      | zero =>
        simp at ha; subst ha
        exact (h.does j b (by simpa using hb) hj).2 _ (hf2 hi hfp) hid
      | succ i => exact h.apart i j a b (by omega) (by simpa using ha) (by simpa using hb) hi hj hfp hid
  · exact h.fin (hp hp0 (hq 0 (by simp))) (fun i hi => hq (i + 1) (by simp; omega))

theorem trace_of {C : Nat → List SV → SV → Prop} {K : St → Prop} : ∀ (l : List AOper) (s : St) (fps : List (Nat × AOp × St)) (p : Prop), vcDr C l s fps p K → ∃ σ v q on, Trace C l s fps p K σ v q on := by
  intro l
  induction l with
  | nil =>
    intro s fps p h
    simp only [vcDr] at h
    exact ⟨fun _ => s, fun _ => .undef, fun _ => True, fun _ => false, rfl, by simp, by simp, by simp, by simp, by simp, fun hp _ => h hp⟩
  | cons o l ih =>
    intro s fps p h
    have go : ∀ b0, WantA o s b0 → b0 = true → clear o s fps ∧ stepD C o s (fun s' q => vcDr C l s' (if o.fp then (o.id, o.op, s) :: fps else fps) (p ∧ q) K) → ∃ σ v q on, Trace C (o :: l) s fps p K σ v q on := by
      intro b0 hw hb h
      obtain ⟨h1, h2⟩ := h
      obtain ⟨v0, hp, q0, hD, hK⟩ := does_of_stepD h2
      obtain ⟨σ, v, q, on, hT⟩ := ih _ _ _ hK
      exact ⟨_, _, _, _, hT.cons hw (by rw [put_put_hp]) (fun _ => ⟨by rw [put_put_hp]; exact hD, clear_of h1⟩) (fun h => by rw [hb] at h; cases h) (fun hp hq => ⟨hp, hq⟩)
        (fun f hf => by split
                        · exact List.mem_cons_of_mem _ hf
                        · exact hf) (fun _ hfp => by rw [if_pos hfp]; exact List.mem_cons_self)⟩
    have sk : ∀ b0, WantA o s b0 → b0 = false → vcDr C l (s.put o.d .undef) fps p K → ∃ σ v q on, Trace C (o :: l) s fps p K σ v q on := by
      intro b0 hw hb h
      obtain ⟨σ, v, q, on, hT⟩ := ih _ _ _ h
      refine ⟨_, _, _, _, hT.cons (v0 := .undef) (q0 := True) hw ?_ (fun h => by rw [hb] at h; cases h) (fun _ => ⟨rfl, put_hp, trivial⟩) (fun hp _ => hp) (fun f hf => hf) (fun h => by rw [hb] at h; cases h)⟩
      rw [put_hp]
    simp only [vcDr] at h
    split at h
    · rename_i hg
      exact go true (by simp [WantA, hg]) rfl h
    · rename_i t want hg
      split at h
      · rename_i b hb
        by_cases hbw : b = want
        · exact go (b == want) (by simp only [WantA, hg]; exact .inl ⟨b, hb, rfl⟩) (by simp [hbw]) (h.1 (by simp [hbw]))
        · exact sk (b == want) (by simp only [WantA, hg]; exact .inl ⟨b, hb, rfl⟩) (by simp [hbw]) (h.2 (by simp [hbw]))
      · rename_i hb
        exact sk false (by unfold WantA; rw [hg]; exact .inr ⟨hb, rfl⟩) rfl h
      · exact h.elim

theorem trOps_get {P : Program} {ops : Array Oper} : ∀ {l : List Oper} {r : List AOper}, trOps P ops l = some r → r.length = l.length ∧ ∀ (j : Nat) ao, r[j]? = some ao → ∃ o, l[j]? = some o ∧ trOper P ops o = some ao := by
  intro l
  induction l with
  | nil => intro r h; simp only [trOps, Option.some.injEq] at h; subst h; simp
  | cons y l ih =>
    intro r h
    simp only [trOps, Option.bind_eq_bind, Option.bind_eq_some_iff, Option.pure_def, Option.some.injEq] at h
    obtain ⟨ay, hay, r', hr, rfl⟩ := h
    obtain ⟨h1, h2⟩ := ih hr
    refine ⟨by simp [h1], fun j ao ha => ?_⟩
    cases j with
    | zero => simp at ha; subst ha; exact ⟨y, by simp, hay⟩
    | succ j => obtain ⟨o, g1, g2⟩ := h2 j ao (by simpa using ha); exact ⟨o, by simpa using g1, g2⟩

theorem annot_get {m : List Nat} {l : List AOper} {j : Nat} {ao : AOper} (h : (annot m l)[j]? = some ao) : ∃ a0, l[j]? = some a0 ∧ ao.op = a0.op ∧ ao.d = a0.d ∧ ao.g = a0.g := by
  simp only [annot, List.getElem?_map, Option.map_eq_some_iff] at h
  obtain ⟨⟨a0, k⟩, h1, rfl⟩ := h
  rw [List.getElem?_zipIdx, Option.map_eq_some_iff] at h1
  obtain ⟨a1, h2, h3⟩ := h1
  cases h3
  exact ⟨a0, h2, rfl, rfl, rfl⟩

theorem looks_operand {ops : Array Oper} {o : Oper} {t : Tmp} (h : Operand.tmp t ∈ o.op.operands) : t ∈ o.looksAt ops :=
  List.mem_append_left _ (List.mem_filterMap.2 ⟨.tmp t, by simpa using h, rfl⟩)
theorem looks_guard {ops : Array Oper} {o : Oper} {j t : Nat} {want : Bool} (h : o.guard = some (j, want)) (ht : (ops[j]?).bind (·.dst) = some t) : t ∈ o.looksAt ops := by
  simp [Oper.looksAt, h, ht]

section
variable {P : Program} {w0 : World} {own : Nat → Prop} {M0 : Mem} {ops : Array Oper} {Q : Exit → Act → World → Prop} {K : St → Prop} {l : List AOper} {s : St} {σ : Nat → St} {v : Nat → SV} {q : Nat → Prop} {on : Nat → Bool}

def fO (σ : Nat → St) (k p : Nat) : Option Ob := (σ k).hp[p]?
def wO (l : List AOper) (σ : Nat → St) (on : Nat → Bool) (k p : Nat) : Bool := on k && (match l[k]? with | some ao => (chgD (σ k) ao.op).contains p | none => false)
def fS (σ : Nat → St) (k t : Nat) : SV := (σ k).sl.getD t .undef
def wS (l : List AOper) (k t : Nat) : Bool := match l[k]? with | some ao => ao.d == some t | none => false

structure Inv (w0 : World) (own : Nat → Prop) (M0 : Mem) (ops : Array Oper) (l : List AOper) (s : St) (σ : Nat → St) (on : Nat → Bool) (q : Nat → Prop) (L : Nat → Bool) (E : Env) (a : Act) (w : World) : Prop where
  down : Down ops L
  wo : W w0 own E w
  hp : ∀ o, E.H o = atL (fO σ) (wO l σ on) L l.length o
  len : s.sl.length = a.tmps.size
  sl : ∀ t, RelV E (a.tmps.getD t undef) (atL (fS σ) (wS l) L l.length t)
  dfr : a.defers = []
  z : E.m0 = M0
  le : M0.le E.m
  q : ∀ i, L i = true → q i

theorem fS_keep (hT : Trace (Contract P) l s [] True K σ v q on) (hn : ∀ k, l.length ≤ k → σ (k + 1) = σ k) : ∀ k t, wS l k t = false → fS σ (k + 1) t = fS σ k t := by
  intro k t h
  unfold fS
  rcases Nat.lt_or_ge k l.length with hk | hk
  · have ha : l[k]? = some l[k] := List.getElem?_eq_getElem hk
    rw [hT.next k _ ha]
    simp only [wS, ha, beq_eq_false_iff_ne, ne_eq] at h
    cases hd : l[k].d with
    | none => rfl
    | some d =>
      rw [hd] at h
      have : d ≠ t := fun e => h (by rw [e])
      simp [St.put, List.getElem?_set, this]
  · rw [hn k hk]

theorem fO_keep (hT : Trace (Contract P) l s [] True K σ v q on) (hn : ∀ k, l.length ≤ k → σ (k + 1) = σ k) : ∀ k p, wO l σ on k p = false → fO σ (k + 1) p = fO σ k p := by
  intro k p h
  unfold fO
  rcases Nat.lt_or_ge k l.length with hk | hk
  · have ha : l[k]? = some l[k] := List.getElem?_eq_getElem hk
    simp only [wO, ha] at h
    cases ho : on k with
    | true =>
      rw [ho] at h
      simp at h
      exact does_frame (hT.does k _ ha ho).1 p h
    | false => rw [(hT.skip k _ ha ho).2.1]
  · rw [hn k hk]

theorem okDraw_pair {i j : Nat} {x y : Oper} {a b : AOper} (h : okDraw ops l = true) (hij : i < j) (hx : ops[i]? = some x) (hy : ops[j]? = some y) (ha : l[i]? = some a) (hb : l[j]? = some b) :
    ((msks ops.toList []).getD j 0).testBit i = true ∨ (Oper.apart ops x y = true ∧ (fineS a.op b.op = true ∨ (a.fp = true ∧ a.id = i ∧ i ∈ b.chk))) := by
  simp only [okDraw, Bool.and_eq_true, List.all_eq_true, List.mem_range] at h
  have hj : j < l.length := by
    rcases Nat.lt_or_ge j l.length with h | h
    · exact h
    · rw [List.getElem?_eq_none h] at hb; cases hb
  have := h.2 j hj i hij
  simp only [hx, hy, ha, hb, Bool.or_eq_true, Bool.and_eq_true, beq_iff_eq, List.contains_eq_mem, decide_eq_true_eq] at this
  rcases this with h | ⟨h1, h2 | ⟨⟨h2, h3⟩, h4⟩⟩
  · exact .inl h
  · exact .inr ⟨h1, .inl h2⟩
  · exact .inr ⟨h1, .inr ⟨h2, h3, h4⟩⟩

theorem okDraw_len (h : okDraw ops l = true) : l.length = ops.size := by
  simp only [okDraw, Bool.and_eq_true, beq_iff_eq] at h
  exact h.1.1

theorem okDraw_edge {i : Nat} {o : Oper} {e : Edge} (h : okDraw ops l = true) (ho : ops[i]? = some o) (he : e ∈ o.after) (hb : Region.binds .any e = true) : e.on < i := by
  simp only [okDraw, Bool.and_eq_true, List.all_eq_true] at h
  have := h.1.2 (o, i) (by
    rw [List.mem_iff_getElem?]
    exact ⟨i, by rw [List.getElem?_zipIdx]; simp [ho]⟩) e (by simpa using he)
  simpa [hb] using this

theorem ahead_done {L : Nat → Bool} {i j : Nat} {o : Oper} (hd : Down ops L) (ho : ops[i]? = some o) (hi : ∀ e ∈ o.after, Region.binds .any e = true → L e.on = true) (hij : j ≠ i) (hb : ((msks ops.toList []).getD i 0).testBit j = true) : L j = true := by
  let L' : Nat → Bool := fun k => L k || k == i
  have hd' : Down ops L' := by
    intro k o' ho' hk e he hbn
    by_cases hki : k = i
    · subst hki
      rw [ho] at ho'; cases ho'
      simp [L', hi e he hbn]
    · have : L k = true := by simpa [L', hki] using hk
      simp [L', hd k o' ho' this e he hbn]
  have := msks_spec hd' ops.toList [] (fun j o hj => by simpa using hj) (fun k i h => by simp at h) i j hb (by simp [L'])
  simpa [L', hij] using this

theorem behind_not {L : Nat → Bool} {i k : Nat} (hd : Down ops L) (hi : L i = false) (hb : ((msks ops.toList []).getD k 0).testBit i = true) : L k = false := by
  cases hk : L k with
  | false => rfl
  | true =>
    have := msks_spec hd ops.toList [] (fun j o hj => by simpa using hj) (fun k i h => by simp at h) k i hb hk
    rw [hi] at this; cases this

structure Place (l : List AOper) (σ : Nat → St) (on : Nat → Bool) (L : Nat → Bool) (i : Nat) (o : Oper) (ao : AOper) (ops : Array Oper) : Prop where
  slotR : ∀ t, t ∈ o.looksAt ops → atL (fS σ) (wS l) L l.length t = (σ i).sl.getD t .undef
  slotW : ∀ t, ao.d = some t → ∀ k, i < k → k < l.length → wS l k t = true → L k = false
  obR : on i = true → ∀ p, p ∈ touchD (σ i) ao.op → atL (fO σ) (wO l σ on) L l.length p = (σ i).hp[p]?
  obW : on i = true → ∀ p, p ∈ chgD (σ i) ao.op → ∀ k, i < k → k < l.length → wO l σ on k p = true → L k = false

theorem chg_touch {s : St} {op : AOp} {p : Nat} (h : p ∈ chgD s op) : p ∈ touchD s op := by
  unfold chgD at h
  split at h
  · cases h
  · exact h

theorem place_of {L : Nat → Bool} {i : Nat} {o : Oper} {ao : AOper} (hok : okDraw ops l = true) (hT : Trace (Contract P) l s [] True K σ v q on) (hn : ∀ k, l.length ≤ k → σ (k + 1) = σ k) (hdst : ∀ (k : Nat) a o, l[k]? = some a → ops[k]? = some o → o.dst = a.d)
    (hd : Down ops L) (hL : L i = false) (ho : ops[i]? = some o) (ha : l[i]? = some ao) (hr : ∀ e ∈ o.after, Region.binds .any e = true → L e.on = true) : Place l σ on L i o ao ops := by
  have hlen := okDraw_len hok
  have hi : i < l.length := by
    rcases Nat.lt_or_ge i l.length with h | h
    · exact h
    · rw [List.getElem?_eq_none h] at ha; cases ha
  have getk : ∀ k, k < l.length → ∃ a x, l[k]? = some a ∧ ops[k]? = some x := fun k hk => ⟨l[k], ops[k]'(by omega), List.getElem?_eq_getElem hk, Array.getElem?_eq_getElem (by omega)⟩
  -- an elder that writes a place it sees is done, a follower is not
  have slots1 : ∀ t, t ∈ o.looksAt ops → ∀ j, j < i → wS l j t = true → L j = true := by
    intro t ht j hj hw
    obtain ⟨a, x, h1, h2⟩ := getk j (by omega)
    simp only [wS, h1, beq_iff_eq] at hw
    rcases okDraw_pair hok hj h2 ho h1 ha with hb | ⟨hap, _⟩
    · exact ahead_done hd ho hr (by omega) hb
    · exact absurd ht ((Oper.apart_spec hap).1 t (by rw [hdst j a x h1 h2]; exact hw))
  have slots2 : ∀ t, t ∈ o.looksAt ops → ∀ k, i ≤ k → k < l.length → wS l k t = true → L k = false := by
    intro t ht k hk hkl hw
    by_cases hki : k = i
    · subst hki; exact hL
    obtain ⟨a, x, h1, h2⟩ := getk k hkl
    simp only [wS, h1, beq_iff_eq] at hw
    rcases okDraw_pair hok (show i < k by omega) ho h2 ha h1 with hb | ⟨hap, _⟩
    · exact behind_not hd hL hb
    · exact absurd ht ((Oper.apart_spec hap).2.2 t (by rw [hdst k a x h1 h2]; exact hw))
  have far1 : on i = true → ∀ p, p ∈ touchD (σ i) ao.op → ∀ j, j < i → wO l σ on j p = true → L j = true := by
    intro hon p hp j hj hw
    obtain ⟨a, x, h1, h2⟩ := getk j (by omega)
    simp only [wO, h1, Bool.and_eq_true, List.contains_eq_mem, decide_eq_true_eq] at hw
    rcases okDraw_pair hok hj h2 ho h1 ha with hb | ⟨_, hf | ⟨f1, f2, f3⟩⟩
    · exact ahead_done hd ho hr (by omega) hb
    · exfalso
      simp only [fineS, Bool.or_eq_true, Bool.not_eq_true', Bool.and_eq_true] at hf
      rcases hf with (h | h) | h
      · have := chg_touch hw.2; rw [touchD_none h] at this; cases this
      · rw [touchD_none h] at hp; cases hp
      · have := hw.2; simp [chgD, h.1] at this
    · exact absurd hp ((hT.apart j i a ao hj h1 ha hw.1 hon f1 (by rw [f2]; exact f3)).1 p hw.2)
  have far2 : on i = true → ∀ p, p ∈ touchD (σ i) ao.op → ∀ k, i < k → k < l.length → wO l σ on k p = true → L k = false := by
    intro hon p hp k hk hkl hw
    obtain ⟨a, x, h1, h2⟩ := getk k hkl
    simp only [wO, h1, Bool.and_eq_true, List.contains_eq_mem, decide_eq_true_eq] at hw
    rcases okDraw_pair hok hk ho h2 ha h1 with hb | ⟨_, hf | ⟨f1, f2, f3⟩⟩
    · exact behind_not hd hL hb
    · exfalso
      simp only [fineS, Bool.or_eq_true, Bool.not_eq_true', Bool.and_eq_true] at hf
      rcases hf with (h | h) | h
      · rw [touchD_none h] at hp; cases hp
      · have := chg_touch hw.2; rw [touchD_none h] at this; cases this
      · have := hw.2; simp [chgD, h.2] at this
    · exact absurd hw.2 ((hT.apart i k ao a hk ha h1 hon hw.1 f1 (by rw [f2]; exact f3)).2 p hp)
  refine ⟨fun t ht => ?_, fun t ht k hk hkl hw => ?_, fun hon p hp => ?_, fun hon p hp => far2 hon p (chg_touch hp)⟩
  · exact atL_read (fS_keep hT hn) (slots1 t ht) (Nat.le_of_lt hi) (slots2 t ht)
  · obtain ⟨a, x, h1, h2⟩ := getk k hkl
    simp only [wS, h1, beq_iff_eq] at hw
    rcases okDraw_pair hok hk ho h2 ha h1 with hb | ⟨hap, _⟩
    · exact behind_not hd hL hb
    · exact absurd (by rw [hdst k a x h1 h2]; exact hw) ((Oper.apart_spec hap).2.1 t (by rw [hdst i ao o ha ho]; exact ht))
  · exact atL_read (fO_keep hT hn) (far1 hon p hp) (Nat.le_of_lt hi) (fun k hk hkl hw => by
      by_cases hki : k = i
      · subst hki; exact hL
      · exact far2 hon p hp k (by omega) hkl hw)

theorem sl_len (hT : Trace (Contract P) l s [] True K σ v q on) (hn : ∀ k, l.length ≤ k → σ (k + 1) = σ k) : ∀ k, (σ k).sl.length = s.sl.length := by
  intro k
  induction k with
  | zero => rw [hT.zero]
  | succ k ih =>
    rcases Nat.lt_or_ge k l.length with hk | hk
    · rw [hT.next k _ (List.getElem?_eq_getElem hk)]
      cases (l[k]).d <;> simp [St.put, ih]
    · rw [hn k hk, ih]

theorem set_L (listed : Array Bool) (i : Nat) (hi : i < listed.size) (k : Nat) : (listed.setIfInBounds i true).getD k false = (listed.getD k false || k == i) := by
  by_cases h : k = i
  · subst h; simp [hi]
  · rw [getD_set_ne false (Ne.symm h)]; simp [h]

theorem Inv.step {L L' : Nat → Bool} {E E' : Env} {a : Act} {w w' : World} {i : Nat} {o : Oper} {ao : AOper} {u : Value} (hT : Trace (Contract P) l s [] True K σ v q on) (hn : ∀ k, l.length ≤ k → σ (k + 1) = σ k) (hI : Inv w0 own M0 ops l s σ on q L E a w) (hp : Place l σ on L i o ao ops)
    (ha : l[i]? = some ao) (ho : ops[i]? = some o) (hr : ∀ e ∈ o.after, Region.binds .any e = true → L e.on = true) (hL : L i = false) (hL' : ∀ k, L' k = (L k || k == i)) (hv : RelV E' u (v i))
    (st : Step (fun p => on i = true ∧ p ∈ touchD (σ i) ao.op) w0 own E E' w' (σ (i + 1)).hp) (hq : q i) : Inv w0 own M0 ops l s σ on q L' E' (a.put ao.d u) w' := by
  have hi : i < l.length := by
    rcases Nat.lt_or_ge i l.length with h | h
    · exact h
    · rw [List.getElem?_eq_none h] at ha; cases ha
  have hLi : L' i = true := by simp [hL']
  have hLk : ∀ k, k ≠ i → L' k = L k := fun k hk => by simp [hL', hk]
  have late : ∀ {wr : Nat → Bool}, (∀ k, i < k → k < l.length → wr k = true → L k = false) → ∀ k, i < k → k < l.length → wr k = true → L' k = false := fun h k h1 h2 h3 => by
    rw [hLk k (by omega)]; exact h k h1 h2 h3
  refine ⟨fun j o' ho' hj e he hb => ?_, st.wo, fun p => ?_, ?_, fun t => ?_, ?_, st.ext.z.trans hI.z, fun b j v hv => st.ext.m b j v (hI.le b j v hv), fun j hj => ?_⟩
  · by_cases hji : j = i
    · subst hji; rw [ho] at ho'; cases ho'; rw [hL', hr e he hb]; rfl
    · rw [hL', hI.down j o' ho' (by rw [← hLk j hji]; exact hj) e he hb]; rfl
  · by_cases hw : wO l σ on i p = true
    · have hw2 := hw
      simp only [wO, ha, Bool.and_eq_true, List.contains_eq_mem, decide_eq_true_eq] at hw2
      rw [atL_write hLi hw hi (late (hp.obW hw2.1 p hw2.2))]
      exact st.on p ⟨hw2.1, chg_touch hw2.2⟩
    · have hwf : wO l σ on i p = false := by simpa using hw
      rw [atL_keep hLk hwf]
      by_cases hU : on i = true ∧ p ∈ touchD (σ i) ao.op
      · rw [st.on p hU, hp.obR hU.1 p hU.2]
        exact fO_keep hT hn i p hwf
      · rw [st.off p hU]; exact hI.hp p
  · cases ao.d <;> simp [Act.put, hI.len]
  · by_cases hw : wS l i t = true
    · have hw2 := hw
      simp only [wS, ha, beq_iff_eq] at hw2
      rw [atL_write hLi hw hi (late (hp.slotW t hw2))]
      have hnx : (fS σ (i + 1) t) = (({ σ i with hp := (σ (i + 1)).hp } : St).put ao.d (v i)).sl.getD t .undef := by
        unfold fS; rw [← hT.next i ao ha]
      rw [hnx, hw2]
      have hl1 := sl_len hT hn i
      have hl2 := hI.len
      rcases Nat.lt_or_ge t a.tmps.size with hlt | hge
      · simpa [Act.put, St.put, Array.getElem?_setIfInBounds, List.getElem?_set, hlt, show t < (σ i).sl.length by omega] using hv
      · have h1 : (a.put (some t) u).tmps.getD t undef = undef := by simp [Act.put, Array.getElem?_setIfInBounds, show ¬ t < a.tmps.size by omega]
        have h2 : (({ σ i with hp := (σ (i + 1)).hp } : St).put (some t) (v i)).sl.getD t .undef = .undef := by
          rw [List.getD_eq_getElem?_getD, List.getElem?_eq_none]
          · rfl
          · simp [St.put]; omega
        rw [h1, h2]
        exact .undef
    · have hwf : wS l i t = false := by simpa using hw
      rw [atL_keep hLk hwf]
      have hne : ao.d ≠ some t := by simpa [wS, ha] using hwf
      have h1 := (hI.sl t).mono st.ext
      cases hdd : ao.d with
      | none => exact h1
      | some d =>
        have : d ≠ t := fun e => hne (by rw [hdd, e])
        simpa [Act.put, Array.getElem?_setIfInBounds, this] using h1
  · rw [put_dfr]; exact hI.dfr
  · by_cases hji : j = i
    · subst hji; exact hq
    · exact hI.q j (by rw [← hLk j hji]; exact hj)

theorem countP_less {p p' : Nat → Bool} {i : Nat} (h : ∀ k, p' k = true → p k = true) : ∀ {l : List Nat}, i ∈ l → p i = true → p' i = false → l.countP p' < l.countP p := by
  intro l
  induction l with
  | nil => intro hi; cases hi
  | cons x l ih =>
    intro hi h1 h2
    rw [List.countP_cons, List.countP_cons]
    have hle : l.countP p' ≤ l.countP p := List.countP_mono_left (fun k _ hk => h k hk)
    rcases List.mem_cons.1 hi with rfl | hi
    · simp [h1, h2]; omega
    · have := ih hi h1 h2
      cases hx : p' x with
      | true => simp [h x hx]; omega
      | false => simp; omega

theorem any_sound (hok : okDraw ops l = true) (hT : Trace (Contract P) l s [] True K σ v q on) (hn : ∀ k, l.length ≤ k → σ (k + 1) = σ k) (hops : ∀ (k : Nat) a, l[k]? = some a → ∃ o a0, ops[k]? = some o ∧ trOper P ops o = some a0 ∧ a.op = a0.op ∧ a.d = a0.d ∧ a.g = a0.g)
    (hK : ∀ E s a w, SR w0 own M0 E s a w → K s → Q .normal a w) : ∀ (fuel : Nat) (listed : Array Bool) (E : Env) (a : Act) (w : World), listed.size = ops.size → (List.range ops.size).countP (fun k => !listed.getD k false) ≤ fuel →
      Inv w0 own M0 ops l s σ on q (fun k => listed.getD k false) E a w → wpAny P .any ops Q fuel listed a w := by
  have hlen := okDraw_len hok
  have hdst : ∀ (k : Nat) a o, l[k]? = some a → ops[k]? = some o → o.dst = a.d := by
    intro k a o h1 h2
    obtain ⟨o', a0, g1, g2, g3, g4, g5⟩ := hops k a h1
    rw [h2] at g1; cases g1
    rw [g4]; exact (guard_of g2).2.1
  -- all are done where none is ready
  have alldone : ∀ (listed : Array Bool), listed.size = ops.size → Region.ready .any ops listed = [] → ∀ k, k < ops.size → listed.getD k false = true := by
    intro listed hsz hr k
    induction k using Nat.strongRecOn with
    | _ k ih =>
      intro hk
      cases hl : listed.getD k false with
      | true => rfl
      | false =>
        exfalso
        have ho : ops[k]? = some ops[k] := Array.getElem?_eq_getElem hk
        have : k ∈ Region.ready .any ops listed := mem_ready.2 ⟨by simpa [hsz, hk] using hl, _, ho, fun e he hb => by
          have := okDraw_edge hok ho he hb
          exact ih e.on this (by omega)⟩
        rw [hr] at this; cases this
  have final : ∀ (listed : Array Bool) (E : Env) (a : Act) (w : World), listed.size = ops.size → Region.ready .any ops listed = [] → Inv w0 own M0 ops l s σ on q (fun k => listed.getD k false) E a w → Q .normal a w := by
    intro listed E a w hsz hr hI
    have hall := alldone listed hsz hr
    refine hK E (σ l.length) a w ⟨hI.wo, fun p => ?_, ?_, fun t => ?_, hI.dfr, hI.z, hI.le⟩ (hT.fin trivial (fun i hi => hI.q i (hall i (by omega))))
    · rw [hI.hp p, atL_all (fO_keep hT hn) (fun j hj _ => hall j (by omega))]; rfl
    · rw [sl_len hT hn]; exact hI.len
    · have := hI.sl t
      rw [atL_all (fS_keep hT hn) (fun j hj _ => hall j (by omega))] at this
      exact this
  intro fuel
  induction fuel with
  | zero =>
    intro listed E a w hsz hc hI
    have hr : Region.ready .any ops listed = [] := by
      rw [List.eq_nil_iff_forall_not_mem]
      intro k hk
      obtain ⟨h1, o, ho, _⟩ := mem_ready.1 hk
      have hk2 : k < ops.size := (Array.getElem?_eq_some_iff.1 ho).1
      have : 0 < (List.range ops.size).countP (fun k => !listed.getD k false) := List.countP_pos_iff.2 ⟨k, List.mem_range.2 hk2, by
        have h3 : k < listed.size := by omega
        simp [h3] at h1 ⊢; exact h1⟩
      omega
    exact ⟨hr, final listed E a w hsz hr hI⟩
  | succ fuel ih =>
    intro listed E a w hsz hc hI
    refine ⟨fun hr => final listed E a w hsz hr hI, fun i hi => ?_⟩
    obtain ⟨h1, o, ho, hpre⟩ := mem_ready.1 hi
    have hi2 : i < ops.size := (Array.getElem?_eq_some_iff.1 ho).1
    have hiL : listed.getD i false = false := by
      have h3 : i < listed.size := by omega
      simp [h3] at h1 ⊢; exact h1
    have ha : l[i]? = some l[i] := List.getElem?_eq_getElem (by omega)
    obtain ⟨o', a0, g1, g2, g3, g4, g5⟩ := hops i _ ha
    rw [ho] at g1; cases g1
    obtain ⟨tr, hd, hg⟩ := guard_of g2
    rw [← g3] at tr
    rw [← g4] at hd
    have hP := place_of hok hT hn hdst hI.down hiL ho ha hpre
    have hset : ∀ k, (listed.setIfInBounds i true).getD k false = (listed.getD k false || k == i) := set_L listed i (by omega)
    have hcnt : (List.range ops.size).countP (fun k => !(listed.setIfInBounds i true).getD k false) ≤ fuel := by
      have : (List.range ops.size).countP (fun k => !(listed.setIfInBounds i true).getD k false) < (List.range ops.size).countP (fun k => !listed.getD k false) := by
        refine countP_less (fun k hk => ?_) (List.mem_range.2 hi2) (by rw [hiL]; rfl) (by rw [hset]; simp)
        rw [hset] at hk
        simp only [Bool.not_or, Bool.and_eq_true] at hk
        exact hk.1
      omega
    have cont : ∀ (E' : Env) (u : Value) (w' : World), RelV E' u (v i) → Step (fun p => on i = true ∧ p ∈ touchD (σ i) (l[i]'(by omega)).op) w0 own E E' w' (σ (i + 1)).hp → q i → wpAny P .any ops Q fuel (listed.setIfInBounds i true) (a.put o.dst u) w' := by
      intro E' u w' hv st hq
      rw [hd]
      exact ih _ E' _ w' (by simp [hsz]) hcnt (hI.step hT hn hP ha ho hpre hiL hset hv st hq)
    unfold wpOp
    simp only [ho]
    have hslot : ∀ t, t ∈ o.looksAt ops → RelV E (a.tmps.getD t undef) ((σ i).sl.getD t .undef) := fun t ht => by
      have := hI.sl t
      rwa [hP.slotR t ht] at this
    have hwant : Region.wanted o (yielded ops a.tmps) = on i := by
      have hW := hT.want i _ ha
      rcases hg with ⟨hg1, hg2⟩ | ⟨j, want, t, hg1, hg2, hg3⟩
      · rw [wanted_none hg1]
        simp only [WantA, g5, hg2] at hW
        exact hW.symm
      · have hst := hslot t (looks_guard hg1 hg2)
        simp only [WantA, g5, hg3] at hW
        rcases hW with ⟨c, h1, h2⟩ | ⟨h1, h2⟩
        · rw [h1] at hst
          rw [wanted_bool hg1 hg2 hst, h2]
        · rw [h1] at hst
          rw [wanted_undef hg1 hg2 hst, h2]
    rw [hwant]
    cases hon : on i with
    | false =>
      simp only [Bool.false_eq_true, if_false]
      obtain ⟨e1, e2, e3⟩ := hT.skip i _ ha hon
      refine cont E undef w (by rw [e1]; exact .undef) ⟨Ext.refl E, hI.wo, fun p hp => ?_, fun _ _ => rfl⟩ e3
      rw [hon] at hp; cases hp.1
    | true =>
      simp only [if_true]
      obtain ⟨hD, _⟩ := hT.does i _ ha hon
      refine .inl (does_wp (U := fun p => on i = true ∧ p ∈ touchD (σ i) (l[i]'(by omega)).op) tr hD hI.wo (fun p hp => by rw [hI.hp p, hP.obR hp.1 p hp.2]) (fun hc => ⟨hon, by simp [touchD, hc]⟩) (fun p hp => ⟨hon, by simp [touchD, hp]⟩) (fun x hx ax hax => ?_) _ _
        (fun u w' E' hv st hq => cont E' u w' hv st hq))
      cases x with
      | tmp t => simp only [trX, Option.some.injEq] at hax; subst hax; exact hslot t (looks_operand hx)
      | const c =>
        simp only [trX, Option.map_eq_some_iff] at hax
        obtain ⟨sv, hsv, rfl⟩ := hax
        exact .rep _ _ (rep_const hsv).1
      | func f => simp only [trX, Option.some.injEq] at hax; subst hax; exact .rep _ _ (.fn f)
      | _ => simp [trX] at hax

theorem draw_sound {E : Env} {a : Act} {w : World} {l0 : List AOper} {id : Nat} (hm : P.follows .mixedOrders = true) (htr : trOps P ops ops.toList = some l0) (hl : l = annot (msks ops.toList []) l0) (hok : okDraw ops l = true)
    (hK : ∀ E s a w, SR w0 own M0 E s a w → K s → Q .normal a w) (hS : SR w0 own M0 E s a w) (h : vcDr (Contract P) l s [] True K) : (Code.region id ops true).wp P Q a w := by
  obtain ⟨σ0, v, q, on, hT0⟩ := trace_of l s [] True h
  -- the trace, standing still past its end
  let σ : Nat → St := fun k => σ0 (min k l.length)
  have hσ : ∀ k, k ≤ l.length → σ k = σ0 k := fun k hk => by simp only [σ]; rw [Nat.min_eq_left hk]
  have lt_of : ∀ {i : Nat} {ao : AOper}, l[i]? = some ao → i < l.length := fun {i ao} h => by
    rcases Nat.lt_or_ge i l.length with h1 | h1
    · exact h1
    · rw [List.getElem?_eq_none h1] at h; cases h
  have hT : Trace (Contract P) l s [] True K σ v q on := by
    refine ⟨by rw [hσ 0 (Nat.zero_le _)]; exact hT0.zero, fun i ao ha => ?_, fun i ao ha => ?_, fun i ao ha ho => ?_, fun i ao ha ho => ?_, fun i j a b hij ha hb => ?_, fun _ hq => by rw [hσ _ (Nat.le_refl _)]; exact hT0.fin trivial hq⟩
    · rw [hσ i (by have := lt_of ha; omega)]; exact hT0.want i ao ha
    · rw [hσ i (by have := lt_of ha; omega), hσ (i + 1) (lt_of ha)]; exact hT0.next i ao ha
    · rw [hσ i (by have := lt_of ha; omega), hσ (i + 1) (lt_of ha)]; exact hT0.does i ao ha ho
    · rw [hσ i (by have := lt_of ha; omega), hσ (i + 1) (lt_of ha)]; exact hT0.skip i ao ha ho
    · rw [hσ i (by have := lt_of ha; omega), hσ j (by have := lt_of hb; omega)]; exact hT0.apart i j a b hij ha hb
  have hn : ∀ k, l.length ≤ k → σ (k + 1) = σ k := fun k hk => by simp only [σ]; rw [Nat.min_eq_right hk, Nat.min_eq_right (by omega)]
  have hops : ∀ (k : Nat) a, l[k]? = some a → ∃ o a0, ops[k]? = some o ∧ trOper P ops o = some a0 ∧ a.op = a0.op ∧ a.d = a0.d ∧ a.g = a0.g := by
    intro k a ha
    rw [hl] at ha
    obtain ⟨a0, h1, h2, h3, h4⟩ := annot_get ha
    obtain ⟨o, g1, g2⟩ := (trOps_get htr).2 k a0 h1
    exact ⟨o, a0, by simpa using g1, g2, h2, h3, h4⟩
  refine wp_region_any hm (any_sound hok hT hn hops hK ops.size (Array.replicate ops.size false) E a _ (by simp) (Nat.le_trans (List.countP_le_length) (by simp)) ?_)
  have hnone : ∀ k, (Array.replicate ops.size false).getD k false = false := fun k => by
    rcases Nat.lt_or_ge k ops.size with h | h <;> simp [h]
  refine ⟨fun j o _ hj => ?_, hS.wo.drew, fun p => ?_, hS.len, fun t => ?_, hS.dfr, hS.z, hS.le, fun i hi => ?_⟩
  · rw [hnone j] at hj; cases hj
  · rw [atL_none hnone, hS.hp p]; simp only [fO, hT.zero]
  · rw [atL_none hnone]; simp only [fS, hT.zero]; exact hS.sl t
  · rw [hnone i] at hi; cases hi
end
end Go.Proofs.YtkldipbhenabfaaGreat.Abs

/-! Code, and whole functions: 'contract_of_vc'. -/
namespace Go.Proofs.YtkldipbhenabfaaGreat.Abs
open Go Go.RowKit

section
variable {P : Program} {w0 : World} {own : Nat → Prop} {M0 : Mem}

def AE.ex : AE → Exit
  | .normal => .normal
  | .exit id => .exit id
  | .ret => .ret

theorem below_rel {E E' : Env} {n : Nat} (hm : E'.m = E.m) (hβ : E'.β = E.β) (ht : E'.t = E.t) (hH : ∀ o, o < n → E'.H o = E.H o) {v : Value} {x : SV} (h : RelV E v x) (hb : below n x = true) : RelV E' v x := by
  cases h with
  | junk => exact .junk _
  | undef => exact .undef
  | rep _ _ hr => exact .rep _ _ (by rw [hm]; exact hr)
  | ref o g e c b j ob h1 h2 h3 =>
    simp only [below, decide_eq_true_eq] at hb
    exact .ref o g e c b j ob (by rw [hH o hb]; exact h1) h2 (by rw [hβ]; exact h3)
  | osl o g off len A k cap ob h1 h2 h3 h4 =>
    simp only [below, decide_eq_true_eq] at hb
    exact .osl o g off len A k cap ob (by rw [hH o hb]; exact h1) h2 h3 (by rw [hβ, ht]; exact h4)
  | agg vs l h0 h1 h2 =>
    simp only [below, List.all_eq_true] at hb
    refine .agg vs l h0 h1 (fun j v x hv hx => ?_)
    have hbx := hb x (List.mem_of_getElem? hx)
    have hone := h0 v (List.mem_of_getElem? hv)
    cases h2 j v x hv hx with
    | junk => exact .junk _
    | undef => exact .undef
    | rep _ _ hr => exact .rep _ _ (by rw [hm]; exact hr)
    | ref o g e c b j ob k1 k2 k3 =>
      simp only [decide_eq_true_eq] at hbx
      exact .ref o g e c b j ob (by rw [hH o hbx]; exact k1) k2 (by rw [hβ]; exact k3)
    | osl o g off len A k cap ob k1 k2 k3 k4 =>
      simp only [decide_eq_true_eq] at hbx
      exact .osl o g off len A k cap ob (by rw [hH o hbx]; exact k1) k2 k3 (by rw [hβ, ht]; exact k4)
    | agg => simp at hbx

theorem SR.closed {E E1 : Env} {s : St} {a : Act} {w : World} {h : List Ob} (hS : SR w0 own M0 E s a w) (st : Step (fun _ => True) w0 own E E1 w h) : SR w0 own M0 E1 { s with hp := h } a w :=
  ⟨st.wo, fun o => st.on o trivial, hS.len, fun i => (hS.sl i).mono st.ext, hS.dfr, st.ext.z.trans hS.z, fun b j v hv => st.ext.m b j v (hS.le b j v hv)⟩
theorem set_rel {s : St} {a : Act} {E : Env} {i : Nat} {x v : SV} (hi : s.sl[i]? = some x) (h : ∀ j, RelV E (a.tmps.getD j undef) (s.sl.getD j .undef)) (hv : RelV E (a.tmps.getD i undef) v) : ∀ j, RelV E (a.tmps.getD j undef) ((s.sl.set i v).getD j .undef) := by
  intro j
  by_cases hij : i = j
  · subst hij
    have hlt : i < s.sl.length := by
      rcases Nat.lt_or_ge i s.sl.length with h | h
      · exact h
      · rw [List.getElem?_eq_none h] at hi; cases hi
    rw [List.getD_eq_getElem?_getD, List.getElem?_set_self hlt]
    exact hv
  · have := h j
    rw [List.getD_eq_getElem?_getD, List.getElem?_set_ne hij, ← List.getD_eq_getElem?_getD]; exact this

theorem wk_sound {s s' : St} (h : Wk s s') : ∀ {E : Env} {a : Act} {w : World}, SR w0 own M0 E s a w → ∃ E', SR w0 own M0 E' s' a w := by
  induction h with
  | refl s => intro E a w hS; exact ⟨E, hS⟩
  | trans _ _ ih1 ih2 => intro E a w hS; obtain ⟨E1, h1⟩ := ih1 hS; exact ih2 h1
  | slots s l hl hv =>
    intro E a w hS
    refine ⟨E, hS.wo, hS.hp, by simpa [hl] using hS.len, fun i => ?_, hS.dfr, hS.z, hS.le⟩
    show RelV E (a.tmps.getD i undef) (l.getD i .undef)
    have := hS.sl i
    rcases Nat.lt_or_ge i l.length with hi | hi
    · have h1 : l[i]? = some l[i] := List.getElem?_eq_getElem hi
      rw [List.getD_eq_getElem?_getD, h1]
      rcases hv i _ h1 with h2 | h2
      · rw [Option.getD_some, h2]; exact .junk _
      · rw [List.getD_eq_getElem?_getD, h2] at this; exact this
    · rw [List.getD_eq_getElem?_getD, List.getElem?_eq_none (by omega)] at this ⊢; exact this
  | trunc s n h1 h2 =>
    intro E a w hS
    let E' : Env := { E with H := fun o => if o < n then E.H o else none }
    have hH : ∀ o, o < n → E'.H o = E.H o := fun o ho => by simp [E', ho]
    have hsome : ∀ o ob, E'.H o = some ob → o < n ∧ E.H o = some ob := fun o ob ho => by
      by_cases hon : o < n
      · exact ⟨hon, by rw [← hH o hon]; exact ho⟩
      · simp [E', hon] at ho
    refine ⟨E', ⟨⟨hS.wo.os, hS.wo.tape, hS.wo.output, hS.wo.size, hS.wo.block, hS.wo.mem, fun o ob ho => ?_, fun o o' ob ob' k1 k2 => hS.wo.inj o o' ob ob' (hsome _ _ k1).2 (hsome _ _ k2).2, hS.wo.keep⟩, fun o => ?_, hS.len, fun i => ?_, hS.dfr, hS.z, hS.le⟩⟩
    · obtain ⟨hon, hE⟩ := hsome o ob ho
      have hk := hS.wo.obs o ob hE
      refine ⟨hk.rows, hk.frz, hk.fit, hk.box, hk.bnd, fun ht => ?_⟩
      obtain ⟨c, e, k⟩ := hk.live ht
      refine ⟨c, e, ⟨k.blk, k.size, k.new, fun j v x hv hx => ?_, k.one, k.old, k.free, k.clo⟩⟩
      by_cases hcl : ob.box = false ∨ ob.cl = true
      · exact .rep _ _ (k.clo hcl j v x hv hx)
      · have hb : ob.box = true := by cases h : ob.box <;> simp [h] at hcl ⊢
        have hc : ob.cl = false := by cases h : ob.cl <;> simp [h] at hcl ⊢
        have hmem : ob ∈ s.hp.take n := by
          refine List.mem_of_getElem? (i := o) ?_
          rw [List.getElem?_take, if_pos hon, ← hS.hp o]; exact hE
        obtain ⟨r, hr, hxr⟩ := List.mem_flatten.1 (List.mem_of_getElem? hx)
        exact below_rel (E := E) (E' := E') (n := n) rfl rfl rfl hH (k.rel j v x hv hx) (h2 ob hmem hb hc r hr x hxr)
    · show (if o < n then E.H o else none) = (s.hp.take n)[o]?
      rw [List.getElem?_take, hS.hp o]
    · have := hS.sl i
      rcases Nat.lt_or_ge i s.sl.length with hi | hi
      · refine below_rel (E := E) (E' := E') (n := n) rfl rfl rfl hH this (h1 _ ?_)
        rw [List.getD_eq_getElem?_getD, List.getElem?_eq_getElem hi]
        exact List.getElem_mem hi
      · have h3 : s.sl.getD i .undef = .undef := by rw [List.getD_eq_getElem?_getD, List.getElem?_eq_none (by omega)]; rfl
        show RelV E' _ (s.sl.getD i .undef)
        rw [h3] at this ⊢
        rw [undef_of this]; exact .undef
  | ghost s i sz hi =>
    intro E a w hS
    have hnone : E.H s.hp.length = none := by rw [hS.hp, List.getElem?_eq_none (Nat.le_refl _)]
    let ob : Ob := { box := false, sz := sz, els := [], frz := 0, gen := 0, cl := true }
    let E' : Env := { E with H := fun o => if o = s.hp.length then some ob else E.H o, t := fun o => if o = s.hp.length then 0 else E.t o }
    have hne : ∀ o ob1, E.H o = some ob1 → o ≠ s.hp.length := fun o ob1 ho => by rintro rfl; rw [hnone] at ho; cases ho
    have hext : Ext E E' := ⟨fun _ _ _ h => h, fun o ob1 ho => ⟨ob1, by simp [E', hne o ob1 ho, ho], rfl, Nat.le_refl _, fun _ => ⟨rfl, by simp [E', hne o ob1 ho], Nat.le_refl _⟩⟩, rfl⟩
    refine ⟨E', ⟨⟨hS.wo.os, hS.wo.tape, hS.wo.output, hS.wo.size, hS.wo.block, hS.wo.mem, fun o ob1 ho => ?_, fun o o' ob1 ob2 k1 k2 hoo t1 t2 => ?_, hS.wo.keep⟩, fun o => ?_, ?_, fun j => ?_, hS.dfr, hS.z, hS.le⟩⟩
    · by_cases hon : o = s.hp.length
      · subst hon
        have : ob1 = ob := by simp [E'] at ho; exact ho.symm
        subst this
        exact ⟨by simp [ob], by simp [ob], by simp [ob], by simp [ob], by simp [ob], fun h => by simp [E'] at h⟩
      · have hE : E.H o = some ob1 := by simpa [E', hon] using ho
        have hk := hS.wo.obs o ob1 hE
        refine ⟨hk.rows, hk.frz, by simpa [E', hon] using hk.fit, hk.box, hk.bnd, fun ht => ?_⟩
        obtain ⟨c, e, k⟩ := hk.live (by simpa [E', hon] using ht)
        exact ⟨c, e, ⟨k.blk, by simpa [E', hon] using k.size, k.new, fun j v x hv hx => (k.rel j v x hv hx).mono hext, k.one, k.old, k.free, k.clo⟩⟩
    · have n1 : o ≠ s.hp.length := by rintro rfl; simp [E'] at t1
      have n2 : o' ≠ s.hp.length := by rintro rfl; simp [E'] at t2
      exact hS.wo.inj o o' ob1 ob2 (by simpa [E', n1] using k1) (by simpa [E', n2] using k2) hoo (by simpa [E', n1] using t1) (by simpa [E', n2] using t2)
    · show (if o = s.hp.length then some ob else E.H o) = (s.hp ++ [ob])[o]?
      by_cases hon : o = s.hp.length
      · subst hon; simp
      · rw [if_neg hon, hS.hp o, app_other hon]
    · simpa using hS.len
    · show RelV E' _ ((s.sl.set i (.osl s.hp.length 0 0 0)).getD j .undef)
      by_cases hij : i = j
      · subst hij
        have hlt : i < s.sl.length := by
          rcases Nat.lt_or_ge i s.sl.length with h | h
          · exact h
          · rw [List.getElem?_eq_none h] at hi; cases hi
        have hv := hS.sl i
        rw [List.getD_eq_getElem?_getD, hi] at hv
        have := nils_of hv
        rw [this, List.getD_eq_getElem?_getD, List.getElem?_set_self hlt]
        exact .osl _ _ _ _ _ _ _ ob (by simp [E']) (Nat.le_refl _) ⟨rfl, Nat.le_refl _, fun h => by omega⟩ (fun _ => ⟨by simp [ob], .inr rfl⟩)
      · have := (hS.sl j).mono hext
        rw [List.getD_eq_getElem?_getD, List.getElem?_set_ne hij, ← List.getD_eq_getElem?_getD]; exact this
  | clos s i x v h hi hc =>
    intro E a w hS
    have hx := hS.sl i
    rw [List.getD_eq_getElem?_getD (l := s.sl), hi, Option.getD_some] at hx
    obtain ⟨_, E1, st, hrep, _⟩ := closeV_sound (U := fun _ => True) hS.wo (fun o _ => hS.hp o) hc hx (fun _ _ => trivial)
    have h1 := hS.closed st
    exact ⟨E1, h1.wo, h1.hp, by simpa using h1.len, set_rel (s := { s with hp := h }) hi h1.sl (.rep _ _ hrep), h1.dfr, h1.z, h1.le⟩
  | nil s i sz hi =>
    intro E a w hS
    have hx := hS.sl i
    rw [List.getD_eq_getElem?_getD (l := s.sl), hi, Option.getD_some] at hx
    refine ⟨E, hS.wo, hS.hp, by simpa using hS.len, set_rel hi hS.sl ?_, hS.dfr, hS.z, hS.le⟩
    revert hx
    generalize a.tmps.getD i undef = u
    intro hx
    cases hx with
    | rep _ _ hr => exact .rep _ _ (by cases hr; exact .dsl0 _ _ _)

theorem vc_sound (hm : P.follows .mixedOrders = true) : ∀ (c : Code) (ac : AC), trC P c = some ac → ∀ {QA : AE → St → Prop} {Q : Exit → Act → World → Prop}, (∀ e E s a w, SR w0 own M0 E s a w → QA e s → Q e.ex a w) →
    ∀ (E : Env) (s : St) (a : Act) (w : World), SR w0 own M0 E s a w → vc (Contract P) ac QA s → c.wp P Q a w := by
  intro c
  induction c with
  | skip => intro ac tr QA Q hQ E s a w hS h; simp only [trC, Option.some.injEq] at tr; subst tr; exact wp_skip (hQ .normal E s a w hS h)
  | ret => intro ac tr QA Q hQ E s a w hS h; simp only [trC, Option.some.injEq] at tr; subst tr; exact wp_ret (hQ .ret E s a w hS h)
  | exit id => intro ac tr QA Q hQ E s a w hS h; simp only [trC, Option.some.injEq] at tr; subst tr; exact wp_exit (hQ (.exit id) E s a w hS h)
  | region id ops draw =>
    intro ac tr QA Q hQ E s a w hS h
    simp only [trC, Option.bind_eq_bind, Option.bind_eq_some_iff] at tr
    obtain ⟨l, hl, tr⟩ := tr
    cases draw with
    | true =>
      simp only [if_true] at tr
      split at tr
      rotate_left
      · cases tr
      rename_i hok
      cases tr
      simp only [vc, if_true] at h
      exact draw_sound hm hl rfl hok (fun E s a w hS hk => hQ .normal E s a w hS hk) hS h
    | false =>
      simp only [Bool.false_eq_true, if_false] at tr
      cases tr
      simp only [vc, Bool.false_eq_true, if_false] at h
      refine wp_region ?_
      rw [List.range_eq_range', ← Array.length_toList]
      exact ops_sound (fun E s a w hS hk => hQ .normal E s a w hS hk) ops.toList l 0 E s a w hl (fun j o hj => by simpa using hj) hS h
  | seq x y ihx ihy =>
    intro ac tr QA Q hQ E s a w hS h
    simp only [trC, Option.bind_eq_bind, Option.bind_eq_some_iff, Option.pure_def, Option.some.injEq] at tr
    obtain ⟨ax, hax, ay, hay, rfl⟩ := tr
    simp only [vc] at h
    refine wp_seq (ihx ax hax (fun e E s a w hS he => ?_) E s a w hS h)
    cases e with
    | normal => exact ihy ay hay hQ E s a w hS he
    | exit id => exact hQ (.exit id) E s a w hS he
    | ret => exact hQ .ret E s a w hS he
  | cond c x y ihx ihy =>
    intro ac tr QA Q hQ E s a w hS h
    simp only [trC, Option.bind_eq_bind, Option.bind_eq_some_iff, Option.pure_def, Option.some.injEq] at tr
    obtain ⟨cx, hcx, ax, hax, ay, hay, rfl⟩ := tr
    simp only [vc] at h
    split at h
    rotate_left
    · exact h.elim
    rename_i t ht
    have hv := hS.x hcx
    rw [ht] at hv
    exact wp_cond_split (bool_of hv) (fun h1 => ihx ax hax hQ E s a w hS (h.1 h1)) (fun h1 => ihy ay hay hQ E s a w hS (h.2 h1))
  | block id x ih =>
    intro ac tr QA Q hQ E s a w hS h
    simp only [trC, Option.bind_eq_bind, Option.bind_eq_some_iff, Option.pure_def, Option.some.injEq] at tr
    obtain ⟨ax, hax, rfl⟩ := tr
    simp only [vc] at h
    refine wp_block (ih ax hax (fun e E s a w hS he => ?_) E s a w hS h)
    cases e with
    | normal => exact hQ .normal E s a w hS he
    | exit j =>
      simp only [AE.ex, Exit.inBlock]
      simp only at he
      split at he
      · rename_i hj; rw [if_pos hj]; exact hQ .normal E s a w hS he
      · rename_i hj; rw [if_neg hj]; exact hQ (.exit j) E s a w hS he
    | ret => exact hQ .ret E s a w hS he
  | loop x ih =>
    intro ac tr QA Q hQ E s a w hS h
    simp only [trC, Option.bind_eq_bind, Option.bind_eq_some_iff, Option.pure_def, Option.some.injEq] at tr
    obtain ⟨ax, hax, rfl⟩ := tr
    simp only [vc] at h
    obtain ⟨n, h⟩ := h
    have key : ∀ n (E : Env) (s : St) (a : Act) (w : World), SR w0 own M0 E s a w → vcIter (fun Q' s' => vc (Contract P) ax Q' s') QA n s → ∀ (b : Frame) (k : List Item) (cs : List Frame),
        ∃ e a' w', Q e a' w' ∧ Arrives P (lone (b.at a (.code x :: .inLoop x :: k)) cs w) b k cs e a' w' := by
      intro n
      induction n with
      | zero => intro E s a w _ h; simp only [vcIter] at h
      | succ n ihn =>
        intro E s a w hS h b k cs
        simp only [vcIter] at h
        obtain ⟨s0, hwk, hb⟩ := h
        obtain ⟨E0, hS0⟩ := wk_sound hwk hS
        have hbody := ih ax hax (Q := Exit.then (fun a w => ∃ E s, SR w0 own M0 E s a w ∧ vcIter (fun Q' s' => vc (Contract P) ax Q' s') QA n s) Q) (fun e E s a w hS he => by
          cases e with
          | normal => exact ⟨E, s, hS, he⟩
          | exit id => exact hQ (.exit id) E s a w hS he
          | ret => exact hQ .ret E s a w hS he) E0 s0 a w hS0 hb
        obtain ⟨e, a₁, w₁, hq, harr⟩ := hbody b (.inLoop x :: k) cs
        cases e with
        | normal =>
          obtain ⟨E1, s1, hS1, h1⟩ := hq
          obtain ⟨e₂, a₂, w₂, hq₂, harr₂⟩ := ihn E1 s1 a₁ w₁ hS1 h1 b k cs
          exact ⟨e₂, a₂, w₂, hq₂, .of_steps (Steps.trans harr (.one step_inLoop)) harr₂⟩
        | exit id => exact ⟨_, a₁, w₁, hq, .pass (x := .inLoop x) rfl (fun _ _ => .inl (by simp)) harr⟩
        | goto l => exact ⟨_, a₁, w₁, hq, .pass (x := .inLoop x) rfl (fun _ _ => .inl (by simp)) harr⟩
        | ret => exact ⟨_, a₁, w₁, hq, .pass (x := .inLoop x) rfl (fun _ _ => .inl (by simp)) harr⟩
        | panic ch => exact ⟨_, a₁, w₁, hq, .pass (x := .inLoop x) rfl (fun _ _ => .inl (by simp)) harr⟩
        | outgrown => exact ⟨_, a₁, w₁, hq, .pass (x := .inLoop x) rfl (fun _ _ => .inl (by simp)) harr⟩
    intro b k cs
    obtain ⟨e, a', w', hq, harr⟩ := key n E s a w hS h b k cs
    exact ⟨e, a', w', hq, .of_steps (.one step_loop) harr⟩
  | _ => intro ac tr; simp [trC] at tr

def resOf (P : Program) (tmps : Array Value) : ResultVar → Sem Value
  | .tmp t => pure (tmps.getD t undef)
  | .cell a t => do loadVar t (← asAddr (tmps.getD a undef))

theorem ptr_of_load {hp : List Ob} {ag : Bool} {n : Nat} {x : SV} {v : Value} {e : Eff} {E : Env} (he : absLoad hp ag n x = some e) (h : RelV E v x) : ∃ A, v = .pointer (some A) := by
  cases x with
  | ref o g e' c =>
    cases h with
    | rep _ _ hr => cases hr
    | ref => exact ⟨_, rfl⟩
  | dref z l c =>
    cases h.closed_rep rfl with
    | dref => exact ⟨_, rfl⟩
  | _ => simp [absLoad] at he

theorem run_mapM_nil {f : ResultVar → Sem Value} {w : World} : (List.mapM f []).run P w = .ok [] w := by simp
theorem run_mapM_cons {f : ResultVar → Sem Value} {r : ResultVar} {rs : List ResultVar} {u : Value} {us : List Value} {w : World} (h1 : (f r).run P w = .ok u w) (h2 : (rs.mapM f).run P w = .ok us w) : (List.mapM f (r :: rs)).run P w = .ok (u :: us) w := by
  rw [List.mapM_cons]
  simp [h1, h2]

theorem retv_sound {a : Act} {w : World} : ∀ (rs : List ResultVar) (as : List AR) (p : Prop) (svs : List SV) (hp' : List Ob) (E : Env) (s : St), trR P rs = some as → retvs s as = some (p, svs, hp') → p → SR w0 own M0 E s a w →
    ∃ (vs : List Value) (E' : Env), (rs.mapM (resOf P a.tmps)).run P w = .ok vs w ∧ vs.length = svs.length ∧ (∀ (j : Nat) v x, vs[j]? = some v → svs[j]? = some x → Rep E'.m v x) ∧ SR w0 own M0 E' { s with hp := hp' } a w ∧ E.m.le E'.m := by
  intro rs
  induction rs with
  | nil =>
    intro as p svs hp' E s htr hr hp hS
    simp only [trR, Option.some.injEq] at htr
    subst htr
    simp only [retvs, Option.some.injEq, Prod.mk.injEq] at hr
    obtain ⟨_, rfl, rfl⟩ := hr
    exact ⟨[], E, run_mapM_nil, rfl, by simp, hS, fun _ _ _ h => h⟩
  | cons r rs ih =>
    intro as p svs hp' E s htr hr hp hS
    have hhead : ∃ ar ars, as = ar :: ars ∧ trR P rs = some ars ∧ (∀ p1 v h, retv1 s ar = some (p1, v, h) → p1 → ∃ (u : Value) (E1 : Env), (resOf P a.tmps r).run P w = .ok u w ∧ Rep E1.m u v ∧ SR w0 own M0 E1 { s with hp := h } a w ∧ E.m.le E1.m) := by
      cases r with
      | tmp t =>
        simp only [trR, Option.bind_eq_bind, Option.bind_eq_some_iff, Option.pure_def, Option.some.injEq] at htr
        obtain ⟨ars, hars, rfl⟩ := htr
        refine ⟨_, ars, rfl, hars, fun p1 v h h1 _ => ?_⟩
        simp only [retv1] at h1
        split at h1
        rotate_left
        · cases h1
        rename_i v' h' hc
        cases h1
        obtain ⟨_, E1, st, hrep, _⟩ := closeV_sound (U := fun _ => True) hS.wo (fun o _ => hS.hp o) hc (hS.sl t) (fun _ _ => trivial)
        exact ⟨_, E1, rfl, hrep, hS.closed st, st.ext.m⟩
      | cell t ty =>
        simp only [trR, Option.bind_eq_bind, Option.bind_eq_some_iff] at htr
        obtain ⟨ag, hag, htr⟩ := htr
        split at htr
        rotate_left
        · cases htr
        rename_i h1
        simp only [Option.bind_eq_some_iff, Option.pure_def, Option.some.injEq] at htr
        obtain ⟨ars, hars, rfl⟩ := htr
        refine ⟨_, ars, rfl, hars, fun p1 v h hr1 hp1 => ?_⟩
        simp only [retv1] at hr1
        split at hr1
        rotate_left
        · cases hr1
        rename_i e he
        split at hr1
        rotate_left
        · cases hr1
        rename_i v' h' hc
        cases hr1
        obtain ⟨u, g1, g2, g3, g4⟩ := load_sound (s := s) (P := P) (U := fun _ => True) hS.wo (fun o _ => hS.hp o) hag h1 he hp1 (hS.sl t) (fun _ _ => trivial)
        rw [g3] at hc
        obtain ⟨_, E1, st, hrep, _⟩ := closeV_sound (U := fun _ => True) hS.wo (fun o _ => hS.hp o) hc g2 (fun _ _ => trivial)
        obtain ⟨A, hA⟩ := ptr_of_load he (hS.sl t)
        refine ⟨u, E1, ?_, hrep, hS.closed st, st.ext.m⟩
        rw [hA] at g1
        simp only [resOf, hA, asAddr]
        simpa [Instr.loadAt, Instr.sureAddr] using g1
    obtain ⟨ar, ars, rfl, hars, hh⟩ := hhead
    simp only [retvs] at hr
    split at hr
    rotate_left
    · cases hr
    rename_i p1 v1 h1 hr1
    split at hr
    rotate_left
    · cases hr
    rename_i q vs1 h2 hr2
    cases hr
    obtain ⟨u, E1, k1, k2, k3, k4⟩ := hh p1 v1 h1 hr1 hp.1
    obtain ⟨us, E2, m1, m2, m3, m4, m5⟩ := ih ars q vs1 hp' E1 _ hars hr2 hp.2 k3
    refine ⟨u :: us, E2, run_mapM_cons k1 m1, by simp [m2], fun j v x hv hx => ?_, m4, fun b j v hv => m5 b j v (k4 b j v hv)⟩
    cases j with
    | zero => simp at hv hx; subst hv; subst hx; exact k2.mono m5
    | succ j => exact m3 j v x (by simpa using hv) (by simpa using hx)

theorem results_run {fn : Func} {tmps : Array Value} {vs : List Value} {w : World} (h : (fn.results.toList.mapM (resOf P tmps)).run P w = .ok vs w) : (results fn tmps).run P w = .ok (if h : vs.toArray.size = 1 then vs.toArray[0] else .tuple vs.toArray) w := by
  have h1 : results fn tmps = (do
      let vs ← fn.results.mapM (resOf P tmps)
      pure (if h : vs.size = 1 then vs[0] else .tuple vs)) := by
    unfold results resOf
    rfl
  have h2 : (fn.results.mapM (resOf P tmps)).run P w = .ok vs.toArray w := by
    rw [Array.mapM_eq_mapM_toList]
    simp [h]
  rw [h1, Sem.run_bind, h2]
  rfl

theorem contract_of_vc {f : Nat} {fn : Func} {af : AF} {args : List SV} {r : SV} (hm : P.follows .mixedOrders = true) (hf : P.funcs[f]? = some fn) (htr : trF P fn = some af) (h : vcF (Contract P) af args r) : Contract P f args r := by
  intro m w vs hmem hlen hrep
  unfold trF at htr
  split at htr
  rotate_left
  · cases htr
  rename_i c hb
  simp only [Option.bind_eq_bind, Option.bind_eq_some_iff, Option.pure_def, Option.some.injEq] at htr
  obtain ⟨ars, hars, ac, hac, rfl⟩ := htr
  let E0 : Env := { m := m, m0 := m, H := fun _ => none, β := fun _ => 0, t := fun _ => 0 }
  have hW : W w (fun _ => False) E0 w := ⟨rfl, rfl, rfl, Nat.le_refl _, fun _ _ _ => rfl, hmem, fun o ob ho => (by cases ho), fun o o' ob ob' ho => (by cases ho), fun _ _ _ _ => rfl⟩
  have hS : SR w (fun _ => False) m E0 { sl := args ++ List.replicate (fn.ntmps - args.length) .undef, hp := [] } { tmps := vs.toArray ++ Array.replicate (fn.ntmps - vs.toArray.size) undef, defers := [] } w := by
    refine ⟨hW, fun o => rfl, by simp [hlen], fun i => ?_, rfl, rfl, fun _ _ _ h => h⟩
    rcases Nat.lt_or_ge i vs.length with hi | hi
    · have h1 : (vs.toArray ++ Array.replicate (fn.ntmps - vs.toArray.size) undef).getD i undef = vs[i] := by
        rw [Array.getD_eq_getD_getElem?, Array.getElem?_append_left (by simpa using hi)]; simp [hi]
      have h2 : (args ++ List.replicate (fn.ntmps - args.length) SV.undef).getD i .undef = args[i]'(by omega) := by
        rw [List.getD_eq_getElem?_getD, List.getElem?_append_left (by omega), List.getElem?_eq_getElem (by omega)]; rfl
      show RelV E0 ((vs.toArray ++ Array.replicate (fn.ntmps - vs.toArray.size) undef).getD i undef) ((args ++ List.replicate (fn.ntmps - args.length) SV.undef).getD i .undef)
      rw [h1, h2]
      exact .rep _ _ (hrep i _ _ (List.getElem?_eq_getElem hi) (List.getElem?_eq_getElem (by omega)))
    · have h1 : (vs.toArray ++ Array.replicate (fn.ntmps - vs.toArray.size) undef).getD i undef = undef := by
        rw [Array.getD_eq_getD_getElem?, Array.getElem?_append_right (by simpa using hi)]
        simp only [Array.getElem?_replicate]
        split <;> rfl
      have h2 : (args ++ List.replicate (fn.ntmps - args.length) SV.undef).getD i .undef = .undef := by
        rw [List.getD_eq_getElem?_getD, List.getElem?_append_right (by omega), List.getElem?_replicate]
        split <;> rfl
      show RelV E0 ((vs.toArray ++ Array.replicate (fn.ntmps - vs.toArray.size) undef).getD i undef) ((args ++ List.replicate (fn.ntmps - args.length) SV.undef).getD i .undef)
      rw [h1, h2]
      exact .undef
  refine calls_of_wp hf hb ?_
  have fin : ∀ (E : Env) (s : St) (a : Act) (w' : World), SR w (fun _ => False) m E s a w' → retIs ars r s → a.defers = [] ∧ ∃ v, (results fn a.tmps).run P w' = .ok v w' ∧ ∃ v' m', Ending.returned v = .returned v' ∧ Rep m' v' r ∧ m.le m' ∧ (∀ b j, b < w.heap.size → m' b j = m b j) ∧ (∀ b j v, m' b j = some v → w'.cell? ⟨b, j, none⟩ = some v) ∧
      w'.os = w.os ∧ w'.tape = w.tape ∧ w'.output = w.output ∧ w.heap.size ≤ w'.heap.size ∧ ∀ k, k < w.heap.size → w'.heap[k]? = w.heap[k]? := by
    intro E s a w' hS hr
    refine ⟨hS.dfr, ?_⟩
    unfold retIs at hr
    split at hr
    rotate_left
    · exact hr.elim
    rename_i p svs hp' hrv
    obtain ⟨hp, rfl⟩ := hr
    obtain ⟨us, E', k1, k2, k3, k4, k5⟩ := retv_sound fn.results.toList ars p svs hp' E s hars hrv hp hS
    refine ⟨_, results_run k1, _, E'.m, rfl, ?_, k4.le, fun b j hb => ?_, k4.wo.mem, k4.wo.os, k4.wo.tape, k4.wo.output, k4.wo.size, fun k hk => k4.wo.block k hk (fun h => h)⟩
    · match svs, us, k2 with
      | [sv], [u], _ => exact k3 0 u sv rfl rfl
      | [], [], _ => exact .tup [] [] rfl (by simp)
      | x :: y :: l, u :: t :: l', hl =>
        have : ¬ (u :: t :: l').toArray.size = 1 := by simp
        rw [dif_neg this]
        exact .tup _ _ hl k3
    · rw [k4.wo.keep b j hb (fun h => h), k4.z]
  refine vc_sound hm c ac hac (fun e E s a w' hS he => ?_) E0 _ _ w hS h
  cases e with
  | normal => exact fin E s a w' hS he
  | exit id => exact he.elim
  | ret => exact fin E s a w' hS he
end
end Go.Proofs.YtkldipbhenabfaaGreat.Abs

/-! From the row's reading of an argument ('DataW.trod') to the closed abstract value that stands for it. -/
namespace Go.Proofs.YtkldipbhenabfaaGreat.Abs
open Go Go.RowKit

def memOf (w : World) : Mem := fun b j => w.cell? ⟨b, j, none⟩

inductive TySV (P : Program) : TypeId → List SV → Prop
  | bool (t : TypeId) (b : Bool) : P.underlying t = some .bool → TySV P t [.bool b]
  | int (t : TypeId) (k : IntKind) (n : Int) : P.underlying t = some (.int k) → (Lit.int k n).wf = true → TySV P t [.int k n]
  | float (t : TypeId) (k : FloatKind) (b : Nat) : P.underlying t = some (.float k) → (Lit.float k b).wf = true → TySV P t [.float k b]
  | str (t : TypeId) (s : ByteArray) : P.underlying t = some .string → s.size ≤ reachBytes → TySV P t [.str s]
  | slice (t e : TypeId) (l : List (List SV)) : P.underlying t = some (.slice e) → l.length * P.bytesOf e ≤ reachBytes → (∀ r ∈ l, TySV P e r) → TySV P t [.dsl (P.cellsOf e) l]
  | struct (t : TypeId) (fs : Array Field) (parts : List (List SV)) : P.underlying t = some (.struct fs) → parts.length = fs.toList.length → (∀ (i : Nat) (f : Field) (p : List SV), fs.toList[i]? = some f → parts[i]? = some p → TySV P f.type p) → TySV P t parts.flatten

def tiled (P : Program) : List Field → Nat → Nat → Bool
  | [], o, n => o == n
  | f :: fs, o, n => f.offset == o && tiled P fs (o + P.cellsOf f.type) n

def flatS (P : Program) (S : List TypeId) : Bool :=
  S.all fun t => match P.underlying t with
    | some .bool => true
    | some (.int _) => true
    | some (.float _) => true
    | some .string => true
    | some (.slice e) => S.contains e && decide (0 < P.cellsOf e) && decide (0 < P.bytesOf e)
    | some (.struct fs) => (fs.toList.all fun f => S.contains f.type) && tiled P fs.toList 0 (P.cellsOf t)
    | _ => false

theorem choose_list {X : Type} {p : Nat → X → Prop} : ∀ {n : Nat}, (∀ i, i < n → ∃ x, p i x) → ∃ l : List X, l.length = n ∧ ∀ (i : Nat) x, l[i]? = some x → p i x := by
  intro n
  induction n with
  | zero => intro _; exact ⟨[], rfl, by simp⟩
  | succ n ih =>
    intro h
    obtain ⟨l, h1, h2⟩ := ih (fun i hi => h i (Nat.lt_succ_of_lt hi))
    obtain ⟨x, hx⟩ := h n (Nat.lt_succ_self n)
    refine ⟨l ++ [x], by simp [h1], fun i y hy => ?_⟩
    rcases Nat.lt_or_ge i l.length with hi | hi
    · rw [List.getElem?_append_left hi] at hy; exact h2 i y hy
    · rw [List.getElem?_append_right hi] at hy
      have : i = n := by
        rcases Nat.lt_or_ge (i - l.length) 1 with h | h
        · omega
        · rw [List.getElem?_eq_none (by simpa using h)] at hy; cases hy
      subst this
      have : i - l.length = 0 := by omega
      rw [this] at hy
      simp at hy; subst hy; exact hx

theorem mapM_get {α β : Type} {f : α → Option β} : ∀ {l : List α} {l' : List β}, l.mapM f = some l' → l'.length = l.length ∧ ∀ (i : Nat) (a : α), l[i]? = some a → ∃ b, l'[i]? = some b ∧ f a = some b := by
  intro l
  induction l with
  | nil => intro l' h; simp at h; subst h; simp
  | cons a l ih =>
    intro l' h
    rw [List.mapM_cons] at h
    simp only [Option.bind_eq_bind, Option.bind_eq_some_iff, Option.pure_def, Option.some.injEq] at h
    obtain ⟨b, hb, r, hr, rfl⟩ := h
    obtain ⟨h1, h2⟩ := ih hr
    refine ⟨by simp [h1], fun i x hx => ?_⟩
    cases i with
    | zero => simp at hx; subst hx; exact ⟨b, by simp, hb⟩
    | succ i => obtain ⟨y, g1, g2⟩ := h2 i x (by simpa using hx); exact ⟨y, by simpa using g1, g2⟩

theorem cells_get {w : World} {base : Nat} {a : Addr} {n : Nat} {cs : List Value} (h : w.cells? base a n = some cs) : cs.length = n ∧ ∀ i, i < n → ∃ v, cs[i]? = some v ∧ w.cell? (a.add i) = some v := by
  unfold World.cells? at h
  split at h
  · obtain ⟨h1, h2⟩ := mapM_get h
    refine ⟨by simpa using h1, fun i hi => ?_⟩
    exact h2 i i (by simp [hi])
  · cases h

theorem tiled_flat {P : Program} {cs : List Value} : ∀ {fs : List Field} {o : Nat} {parts : List (List SV)}, tiled P fs o cs.length = true → parts.length = fs.length →
    (∀ (i : Nat) (f : Field) (p : List SV), fs[i]? = some f → parts[i]? = some p → p.length = P.cellsOf f.type) → parts.flatten.length = cs.length - o ∧ o ≤ cs.length ∧
    ∀ (R : Value → SV → Prop), (∀ (i : Nat) (f : Field) (p : List SV), fs[i]? = some f → parts[i]? = some p → ∀ (j : Nat) v x, ((cs.drop f.offset).take (P.cellsOf f.type))[j]? = some v → p[j]? = some x → R v x) →
      ∀ (j : Nat) v x, (cs.drop o)[j]? = some v → parts.flatten[j]? = some x → R v x := by
  intro fs
  induction fs with
  | nil =>
    intro o parts ht hl _
    simp only [tiled, beq_iff_eq] at ht
    have : parts = [] := List.length_eq_zero_iff.1 (by simpa using hl)
    subst this
    exact ⟨by simp [ht], by omega, fun R _ j v x _ hx => by simp at hx⟩
  | cons f fs ih =>
    intro o parts ht hl hlen
    simp only [tiled, Bool.and_eq_true, beq_iff_eq] at ht
    obtain ⟨ho, ht⟩ := ht
    cases parts with
    | nil => simp at hl
    | cons p parts =>
      obtain ⟨h1, h2, h3⟩ := ih ht (by simpa using hl) (fun i g q hg hq => hlen (i + 1) g q (by simpa using hg) (by simpa using hq))
      have hp := hlen 0 f p rfl rfl
      refine ⟨by simp only [List.flatten_cons, List.length_append]; omega, by omega, fun R hR j v x hv hx => ?_⟩
      rw [List.flatten_cons] at hx
      rcases Nat.lt_or_ge j p.length with hj | hj
      · rw [List.getElem?_append_left hj] at hx
        refine hR 0 f p rfl rfl j v x ?_ hx
        rw [List.getElem?_take, if_pos (by omega), ho]
        exact hv
      · rw [List.getElem?_append_right hj] at hx
        refine h3 R (fun i g q hg hq => hR (i + 1) g q (by simpa using hg) (by simpa using hq)) (j - p.length) v x ?_ hx
        rw [List.getElem?_drop] at hv ⊢
        rw [show o + P.cellsOf f.type + (j - p.length) = o + j by omega]
        exact hv

section
variable {H : Type} {enc : TypeId × Value → H} {P : Program} {w : World} {base : Nat} {sp : Nat → Bool} {held : Bool}

theorem weightsAll_mem {e : TypeId} {n : Nat} {d : DataW H} : ∀ {ds : List (DataW H)}, d ∈ ds → n ∈ d.weights P e → n ∈ DataW.weightsAll P e ds := by
  intro ds
  induction ds with
  | nil => intro h; cases h
  | cons x ds ih =>
    intro h hn
    simp only [DataW.weightsAll, List.mem_append]
    rcases List.mem_cons.1 h with rfl | h
    · exact .inl hn
    · exact .inr (ih h hn)

theorem trod_rep {S : List TypeId} (hS : flatS P S = true) : ∀ (fuel : Nat) (t : TypeId) (cs : List Value) (x : DataW H × List MemPlace), t ∈ S → (∀ n ∈ x.1.weights P t, n ≤ reachBytes) → DataW.trod enc P w base sp held fuel t cs = some x →
    ∃ svs, TySV P t svs ∧ svs.length = cs.length ∧ (∀ v ∈ cs, v.oneCell' = true) ∧ ∀ (j : Nat) v y, cs[j]? = some v → svs[j]? = some y → Rep (memOf w) v y := by
  intro fuel
  induction fuel with
  | zero => intro t cs x _ _ h; simp [DataW.trod] at h
  | succ fuel ih =>
    intro t cs x ht hwt h
    have hT := hS
    simp only [flatS, List.all_eq_true] at hT
    have hT := hT t ht
    have one : ∀ (v : Value) (y : SV), cs = [v] → v.oneCell' = true → TySV P t [y] → Rep (memOf w) v y → ∃ svs, TySV P t svs ∧ svs.length = cs.length ∧ (∀ v ∈ cs, v.oneCell' = true) ∧ ∀ (j : Nat) v y, cs[j]? = some v → svs[j]? = some y → Rep (memOf w) v y := by
      intro v y hc ho hty hr
      subst hc
      refine ⟨[y], hty, rfl, fun u hu => by simp at hu; subst hu; exact ho, fun j u z hu hz => ?_⟩
      cases j with
      | zero => simp at hu hz; subst hu; subst hz; exact hr
      | succ j => simp at hu
    have single : (∀ d, P.underlying t = some d → (d = .bool ∨ (∃ k, d = .int k) ∨ (∃ k, d = .float k) ∨ d = .string)) → ∃ v, cs = [v] := by
      intro hd
      cases cs with
      | nil =>
        cases hu : P.underlying t with
        | none => simp [DataW.trod, hu] at h
        | some d => rcases hd d hu with rfl | ⟨k, rfl⟩ | ⟨k, rfl⟩ | rfl <;> simp [DataW.trod, hu] at h
      | cons v r =>
        cases r with
        | nil => exact ⟨v, rfl⟩
        | cons u r =>
          exfalso
          cases hu : P.underlying t with
          | none => simp [DataW.trod, hu] at h
          | some d => rcases hd d hu with rfl | ⟨k, rfl⟩ | ⟨k, rfl⟩ | rfl <;> cases v <;> simp [DataW.trod, hu] at h
    split at hT
    · rename_i hu
      obtain ⟨v, rfl⟩ := single (fun d hd => by rw [hu] at hd; cases hd; exact .inl rfl)
      cases v <;> simp [DataW.trod, hu] at h
      rename_i b
      exact one _ _ rfl rfl (.bool t b hu) (.bool b)
    · rename_i k hu
      obtain ⟨v, rfl⟩ := single (fun d hd => by rw [hu] at hd; cases hd; exact .inr (.inl ⟨k, rfl⟩))
      cases v <;> simp [DataW.trod, hu] at h
      rename_i k' n
      obtain ⟨⟨rfl, hw⟩, _⟩ := h
      exact one _ _ rfl rfl (.int t k' n hu hw) (.int k' n)
    · rename_i k hu
      obtain ⟨v, rfl⟩ := single (fun d hd => by rw [hu] at hd; cases hd; exact .inr (.inr (.inl ⟨k, rfl⟩)))
      cases v <;> simp [DataW.trod, hu] at h
      rename_i k' n
      obtain ⟨⟨rfl, hw⟩, _⟩ := h
      exact one _ _ rfl rfl (.float t k' n hu hw) (.float k' n)
    · rename_i hu
      obtain ⟨v, rfl⟩ := single (fun d hd => by rw [hu] at hd; cases hd; exact .inr (.inr (.inr rfl)))
      cases v <;> simp [DataW.trod, hu] at h
      rename_i b
      refine one _ _ rfl rfl (.str t b hu ?_) (.str b)
      have := hwt b.data.toList.length (by rw [← h.2]; simp [DataW.weights])
      simpa using this
    · rename_i e hu
      simp only [Bool.and_eq_true, List.contains_eq_mem, decide_eq_true_eq] at hT
      obtain ⟨⟨heS, hpos⟩, hbpos⟩ := hT
      have hsl : ∃ A len cap, cs = [.slice A len cap] := by
        cases cs with
        | nil => simp [DataW.trod, hu] at h
        | cons v r =>
          cases r with
          | nil =>
            cases v with
            | slice A len cap => exact ⟨A, len, cap, rfl⟩
            | _ => simp [DataW.trod, hu] at h
          | cons u r => cases v <;> simp [DataW.trod, hu] at h
      obtain ⟨A, len, cap, rfl⟩ := hsl
      cases A with
      | none =>
        have hz : len = 0 ∧ cap = 0 := by
          cases len <;> cases cap <;> simp [DataW.trod, hu] at h ⊢
        obtain ⟨rfl, rfl⟩ := hz
        exact one _ _ rfl rfl (.slice t e [] hu (by simp) (by simp)) (.dsl0 _ _ _)
      | some a =>
        simp only [DataW.trod, hu] at h
        split at h
        rotate_left
        · cases h
        rename_i hcond
        obtain ⟨hba, hlc, hcm⟩ := hcond
        simp only [Option.bind_eq_some_iff] at h
        obtain ⟨elems, hel, h⟩ := h
        simp only [Option.map_eq_some_iff] at h
        obtain ⟨rest, hrest, rfl⟩ := h
        simp only [DataW.weights, hu] at hwt
        obtain ⟨hl1, hl2⟩ := mapM_get hel
        have hsz : len * P.bytesOf e ≤ reachBytes := by
          have := hwt _ List.mem_cons_self
          simp only [List.length_map, hl1, List.length_range] at this
          exact Nat.le_trans (Nat.mul_le_mul_right _ (Nat.le_add_right _ _)) this
        have hlen47 : len ≤ 140737488355328 := by
          have h1 : len * 1 ≤ len * P.bytesOf e := Nat.mul_le_mul_left _ hbpos
          have h2 : reachBytes ≤ 140737488355328 := by decide
          omega
        have hrow : ∀ i, i < len → ∃ q : List Value × List SV, w.cells? base (a.add (i * P.cellsOf e)) (P.cellsOf e) = some q.1 ∧ TySV P e q.2 ∧ q.2.length = q.1.length ∧ (∀ v ∈ q.1, v.oneCell' = true) ∧ ∀ (j : Nat) v y, q.1[j]? = some v → q.2[j]? = some y → Rep (memOf w) v y := by
          intro i hi
          obtain ⟨b, hbm, hb⟩ := hl2 i i (by simp [hi])
          simp only [Option.bind_eq_some_iff] at hb
          obtain ⟨cs1, hc1, hc2⟩ := hb
          obtain ⟨svs, g1, g2, g3, g4⟩ := ih e cs1 b heS (fun n hn => hwt n (List.mem_cons_of_mem _ (List.mem_append_left _ (weightsAll_mem (List.mem_map.2 ⟨b, List.mem_of_getElem? hbm, rfl⟩) hn)))) hc2
          exact ⟨(cs1, svs), hc1, g1, g2, g3, g4⟩
        obtain ⟨qs, hq1, hq2⟩ := choose_list hrow
        have hty : ∀ r ∈ qs.map (·.2), TySV P e r := by
          intro r hr
          obtain ⟨q, hq, rfl⟩ := List.mem_map.1 hr
          obtain ⟨i, hi⟩ := List.getElem?_of_mem hq
          exact (hq2 i q hi).2.1
        have hlen : ∀ q ∈ qs, q.1.length = P.cellsOf e := by
          intro q hq
          obtain ⟨i, hi⟩ := List.getElem?_of_mem hq
          exact (cells_get (hq2 i q hi).1).1
        have hrows : ∀ r ∈ qs.map (·.2), r.length = P.cellsOf e := by
          intro r hr
          obtain ⟨q, hq, rfl⟩ := List.mem_map.1 hr
          obtain ⟨i, hi⟩ := List.getElem?_of_mem hq
          rw [(hq2 i q hi).2.2.1, hlen q hq]
        have hvrows : ∀ r ∈ qs.map (·.1), r.length = P.cellsOf e := by
          intro r hr
          obtain ⟨q, hq, rfl⟩ := List.mem_map.1 hr
          exact hlen q hq
        refine one _ _ rfl rfl (.slice t e (qs.map (·.2)) hu (by simpa [hq1] using hsz) hty) ?_
        rcases Nat.eq_zero_or_pos len with h0 | h0
        · have : qs = [] := List.length_eq_zero_iff.1 (by omega)
          subst this; subst h0
          exact .dsl0 _ _ _
        · have hspot : a = ⟨a.block, a.off, none⟩ := by
            obtain ⟨q, hq⟩ : ∃ q, qs[0]? = some q := ⟨qs[0]'(by omega), List.getElem?_eq_getElem (by omega)⟩
            obtain ⟨v, _, hv⟩ := (cells_get (hq2 0 q hq).1).2 0 hpos
            have hv' : w.cell? a = some v := by simpa [Addr.add] using hv
            unfold World.cell? at hv'
            obtain ⟨b, o, spt⟩ := a
            cases spt with
            | none => rfl
            | some x =>
              simp only at hv'
              split at hv' <;> simp at hv'
          have hfl := flat_len hrows
          have hvfl := flat_len hvrows
          have hidx : ∀ j v, (qs.map (·.1)).flatten[j]? = some v → ∃ q, qs[j / P.cellsOf e]? = some q ∧ j % P.cellsOf e < P.cellsOf e ∧ q.1[j % P.cellsOf e]? = some v := by
            intro j v hv
            have hm := Nat.mod_lt j hpos
            have hdj : j / P.cellsOf e * P.cellsOf e + j % P.cellsOf e = j := Nat.div_add_mod' j _
            rw [← hdj, flat_get hvrows _ _ hm] at hv
            simp only [List.getElem?_map, Option.bind_eq_some_iff, Option.map_eq_some_iff] at hv
            obtain ⟨r, ⟨q, hq, rfl⟩, hv⟩ := hv
            exact ⟨q, hq, hm, hv⟩
          rw [hspot]
          have hR := Rep.dsl (m := memOf w) (P.cellsOf e) (qs.map (·.2)) cap a.block a.off (qs.map (·.1)).flatten (fun v hv => by
              obtain ⟨r, hr, hvr⟩ := List.mem_flatten.1 hv
              obtain ⟨q, hq, rfl⟩ := List.mem_map.1 hr
              obtain ⟨i, hi⟩ := List.getElem?_of_mem hq
              exact (hq2 i q hi).2.2.2.1 v hvr) (by simp [hq1, hlc]) (by simp [hq1]; exact hlen47) hrows (by rw [hvfl, hfl]; simp) (fun j v hv => by
              obtain ⟨q, hq, hm, hv'⟩ := hidx j v hv
              obtain ⟨u, hu1, hu2⟩ := (cells_get (hq2 _ q hq).1).2 _ hm
              rw [hv'] at hu1; cases hu1
              have hdj : j / P.cellsOf e * P.cellsOf e + j % P.cellsOf e = j := Nat.div_add_mod' j _
              rw [hspot, add_off, add_off] at hu2
              show w.cell? ⟨a.block, a.off + j, none⟩ = some v
              rw [← hdj, ← Nat.add_assoc]
              exact hu2) (fun j v y hv hy => by
              obtain ⟨q, hq, hm, hv'⟩ := hidx j v hv
              have hdj : j / P.cellsOf e * P.cellsOf e + j % P.cellsOf e = j := Nat.div_add_mod' j _
              rw [← hdj, flat_get hrows _ _ hm] at hy
              simp only [List.getElem?_map, hq, Option.map_some, Option.bind_some] at hy
              exact (hq2 _ q hq).2.2.2.2 _ v y hv' hy)
          simpa [hq1] using hR
    · rename_i fs hu
      simp only [Bool.and_eq_true, List.all_eq_true, List.contains_eq_mem, decide_eq_true_eq] at hT
      obtain ⟨hin, htl⟩ := hT
      have h2 : cs.length = P.cellsOf t ∧ ∃ xs, (fs.toList.mapM fun f => DataW.trod enc P w base sp held fuel f.type ((cs.drop f.offset).take (P.cellsOf f.type))) = some xs ∧ x.1 = .agg (xs.map (·.1)) := by
        have h' : (if cs.length = P.cellsOf t then (fs.toList.mapM fun f => DataW.trod enc P w base sp held fuel f.type ((cs.drop f.offset).take (P.cellsOf f.type))).map fun xs => (DataW.agg (xs.map (·.1)), xs.flatMap (·.2)) else none) = some x := by
          rw [← h]
          simp only [DataW.trod, hu]
        split at h'
        · rename_i hl
          simp only [Option.map_eq_some_iff] at h'
          obtain ⟨xs, hxs, rfl⟩ := h'
          exact ⟨hl, xs, hxs, rfl⟩
        · cases h'
      obtain ⟨hcl, xs, hxs, hx1⟩ := h2
      rw [hx1] at hwt
      simp only [DataW.weights, hu] at hwt
      obtain ⟨hl1, hl2⟩ := mapM_get hxs
      have hparts : ∀ i, i < fs.toList.length → ∃ p : List SV, ∀ f, fs.toList[i]? = some f → TySV P f.type p ∧ p.length = ((cs.drop f.offset).take (P.cellsOf f.type)).length ∧ (∀ v ∈ (cs.drop f.offset).take (P.cellsOf f.type), v.oneCell' = true) ∧
          ∀ (j : Nat) v y, ((cs.drop f.offset).take (P.cellsOf f.type))[j]? = some v → p[j]? = some y → Rep (memOf w) v y := by
        intro i hi
        have hf : fs.toList[i]? = some fs.toList[i] := List.getElem?_eq_getElem hi
        obtain ⟨b, hbm, hb⟩ := hl2 i _ hf
        obtain ⟨svs, g1, g2, g3, g4⟩ := ih _ _ b (hin _ (List.getElem_mem hi)) (fun n hn => hwt n (DataW.weights_mem_each (j := i) (t := fs.toList[i].type) (d := b.1) (by simp only [List.getElem?_map, hf, Option.map_some]) (by rw [List.getElem?_map, hbm]; rfl) n hn)) hb
        refine ⟨svs, fun f hf' => ?_⟩
        rw [hf] at hf'; cases hf'
        exact ⟨g1, g2, g3, g4⟩
      obtain ⟨parts, hp1, hp2⟩ := choose_list hparts
      have fitl : ∀ {fs : List Field} {o n : Nat}, tiled P fs o n = true → ∀ (i : Nat) f, fs[i]? = some f → f.offset + P.cellsOf f.type ≤ n := by
        intro fs
        induction fs with
        | nil => intro o n _ i f hf; simp at hf
        | cons g fs ih2 =>
          intro o n ht i f hf
          simp only [tiled, Bool.and_eq_true, beq_iff_eq] at ht
          have lo : ∀ {fs : List Field} {o n : Nat}, tiled P fs o n = true → o ≤ n := by
            intro fs
            induction fs with
            | nil => intro o n h; simp only [tiled, beq_iff_eq] at h; omega
            | cons g fs ih3 => intro o n h; simp only [tiled, Bool.and_eq_true] at h; have := ih3 h.2; omega
          cases i with
          | zero => simp at hf; subst hf; have := lo ht.2; omega
          | succ i => exact ih2 ht.2 i f (by simpa using hf)
      have hplen : ∀ (i : Nat) (f : Field) (p : List SV), fs.toList[i]? = some f → parts[i]? = some p → p.length = P.cellsOf f.type := by
        intro i f p hf hp
        rw [(hp2 i p hp f hf).2.1]
        have := fitl htl i f hf
        simp; omega
      obtain ⟨f1, f2, f3⟩ := tiled_flat (P := P) (cs := cs) (fs := fs.toList) (o := 0) (parts := parts) (by rw [hcl]; exact htl) (by rw [hp1]) hplen
      refine ⟨parts.flatten, .struct t fs parts hu (by rw [hp1]) (fun i f p hf hp => (hp2 i p hp f hf).1), by rw [f1]; rfl, ?_, fun j v y hv hy => ?_⟩
      · intro v hv
        obtain ⟨j, hj⟩ := List.getElem?_of_mem hv
        have hjl : j < cs.length := by
          rcases Nat.lt_or_ge j cs.length with h | h
          · exact h
          · rw [List.getElem?_eq_none h] at hj; cases hj
        exact f3 (fun v _ => v.oneCell' = true) (fun i f p hf hp k v x hv _ => (hp2 i p hp f hf).2.2.1 v (List.mem_of_getElem? hv)) j v _ hj (List.getElem?_eq_getElem (show j < parts.flatten.length by omega))
      · exact f3 (Rep (memOf w)) (fun i f p hf hp => (hp2 i p hp f hf).2.2.2) j v y hv hy
    · cases hT
end
end Go.Proofs.YtkldipbhenabfaaGreat.Abs

/-! A law's row, out of the contract of its function: whatever the arguments, it hands back true. -/
namespace Go.Proofs.YtkldipbhenabfaaGreat.Abs
open Go Go.RowKit

inductive TyArg (P : Program) (t : TypeId) : SV → Prop
  | agg (svs : List SV) : isAggT P t = some true → TySV P t svs → TyArg P t (.agg true svs)
  | one (x : SV) : isAggT P t = some false → TySV P t [x] → TyArg P t x

def TyArgs (P : Program) : List TypeId → List SV → Prop
  | [], [] => True
  | t :: ts, x :: xs => TyArg P t x ∧ TyArgs P ts xs
  | _, _ => False

section
variable {H : Type} {enc : TypeId × Value → H} {P : Program} {w : World} {base : Nat} {sp : Nat → Bool} {held : Bool}

theorem arg_rep {S : List TypeId} (hS : flatS P S = true) {b0 : Nat} {t : TypeId} {v : Value} {d : DataW H} {ps : List MemPlace} (ht : t ∈ S) (hval : Value.okWide P w .any b0 t v) (hwt : ∀ n ∈ d.weights P t, n ≤ reachBytes)
    (h : DataW.Trod enc P w base sp held t v d ps) : ∃ x, TyArg P t x ∧ Rep (memOf w) v x := by
  obtain ⟨fuel, h⟩ := h
  obtain ⟨svs, g1, g2, g3, g4⟩ := trod_rep hS fuel t v.cells.toList (d, ps) ht hwt h
  have hT := hS
  simp only [flatS, List.all_eq_true] at hT
  have hT := hT t ht
  have one : isAggT P t = some false → v.oneCell' = true → ∃ x, TyArg P t x ∧ Rep (memOf w) v x := by
    intro ha ho
    have hc : v.cells = #[v] := by cases v <;> first | rfl | (simp [Value.oneCell'] at ho)
    rw [hc] at g2 g4
    match svs, g2 with
    | [x], _ => exact ⟨x, .one x ha g1, g4 0 v x rfl rfl⟩
  split at hT
  · rename_i hu
    exact one (by simp [isAggT, hu]) (by
      simp only [Value.okWide, hu, Cell.okWide] at hval
      cases v <;> simp_all [Cell.ok, Value.oneCell'])
  · rename_i k hu
    exact one (by simp [isAggT, hu]) (by
      simp only [Value.okWide, hu, Cell.okWide] at hval
      cases v <;> simp_all [Cell.ok, Value.oneCell'])
  · rename_i k hu
    exact one (by simp [isAggT, hu]) (by
      simp only [Value.okWide, hu, Cell.okWide] at hval
      cases v <;> simp_all [Cell.ok, Value.oneCell'])
  · rename_i hu
    exact one (by simp [isAggT, hu]) (by
      simp only [Value.okWide, hu, Cell.okWide] at hval
      cases v <;> simp_all [Cell.ok, Value.oneCell'])
  · rename_i e hu
    exact one (by simp [isAggT, hu]) (by
      simp only [Value.okWide, hu, Cell.okWide] at hval
      cases v <;> simp_all [Cell.ok, Value.oneCell'])
  · rename_i fs hu
    simp only [Value.okWide, hu] at hval
    obtain ⟨cs, rfl, _, _⟩ := hval
    refine ⟨.agg true svs, .agg svs (by simp [isAggT, hu]) g1, ?_⟩
    have := Rep.agg (m := memOf w) cs.toList svs g3 (by rw [g2]; rfl) g4
    simpa using this
  · cases hT

theorem args_rep {S : List TypeId} (hS : flatS P S = true) {b0 : Nat} : ∀ {ts : List TypeId} {vs : List Value} {ds : List (DataW H)} {ps : List MemPlace}, (∀ t ∈ ts, t ∈ S) → (∀ (j : Nat) t v, ts[j]? = some t → vs[j]? = some v → Value.okWide P w .any b0 t v) →
    (∀ n ∈ DataW.weightsEach P ts ds, n ≤ reachBytes) → DataW.TrodAll enc P w base sp held ts vs ds ps → ∃ xs, TyArgs P ts xs ∧ xs.length = vs.length ∧ ∀ (j : Nat) v x, vs[j]? = some v → xs[j]? = some x → Rep (memOf w) v x := by
  intro ts
  induction ts with
  | nil =>
    intro vs ds ps _ _ _ h
    cases vs with
    | nil => exact ⟨[], trivial, rfl, by simp⟩
    | cons v vs => cases ds <;> exact h.elim
  | cons t ts ih =>
    intro vs ds ps hS' hval hwt h
    cases vs with
    | nil => cases ds <;> exact h.elim
    | cons v vs =>
      cases ds with
      | nil => exact h.elim
      | cons d ds =>
        obtain ⟨p, q, h1, h2, rfl⟩ := h
        simp only [DataW.weightsEach, List.mem_append] at hwt
        obtain ⟨x, a1, a2⟩ := arg_rep hS (hS' t List.mem_cons_self) (hval 0 t v rfl rfl) (fun n hn => hwt n (.inl hn)) h1
        obtain ⟨xs, b1, b2, b3⟩ := ih (fun u hu => hS' u (List.mem_cons_of_mem _ hu)) (fun j u z hu hz => hval (j + 1) u z (by simpa using hu) (by simpa using hz)) (fun n hn => hwt n (.inr hn)) h2
        refine ⟨x :: xs, ⟨a1, b1⟩, by simp [b2], fun j u z hu hz => ?_⟩
        cases j with
        | zero => simp at hu hz; subst hu; subst hz; exact a2
        | succ j => exact b3 j u z (by simpa using hu) (by simpa using hz)

theorem trodAll_below (hl : laidOutB P = true) {W W' : World} (hb : Below W.heap.size W W') : ∀ {ts : List TypeId} {vs : List Value} {ds : List (DataW H)} {ps : List MemPlace}, (∀ t ∈ ts, P.readableRec t = true ∧ t < P.types.size) →
    (∀ x ∈ ps, x.block < W.heap.size) → DataW.TrodAll enc P W 0 (fun _ => true) true ts vs ds ps → DataW.TrodAll enc P W' 0 (fun b => decide (b < W.heap.size)) true ts vs ds ps := by
  intro ts
  induction ts with
  | nil =>
    intro vs ds ps _ _ h
    cases vs with
    | nil => cases ds with
      | nil => exact h
      | cons d ds => exact h.elim
    | cons v vs => cases ds <;> exact h.elim
  | cons t ts ih =>
    intro vs ds ps hr hlt h
    cases vs with
    | nil => cases ds <;> exact h.elim
    | cons v vs =>
      cases ds with
      | nil => exact h.elim
      | cons d ds =>
        obtain ⟨p, q, h1, h2, rfl⟩ := h
        exact ⟨p, q, Below.trod hl (hr t List.mem_cons_self).1 (hr t List.mem_cons_self).2 h1 hb (fun x hx => hlt x (List.mem_append_left _ hx)), ih (fun u hu => hr u (List.mem_cons_of_mem _ hu)) (fun x hx => hlt x (List.mem_append_right _ hx)) h2, rfl⟩
end

theorem weightsEach_more {H : Type} {P : Program} {n : Nat} {us : List TypeId} {es : List (DataW H)} : ∀ {ts : List TypeId} {ds : List (DataW H)}, n ∈ DataW.weightsEach P ts ds → n ∈ DataW.weightsEach P (ts ++ us) (ds ++ es) := by
  intro ts
  induction ts with
  | nil => intro ds h; simp [DataW.weightsEach] at h
  | cons t ts ih =>
    intro ds h
    cases ds with
    | nil => simp [DataW.weightsEach] at h
    | cons d ds =>
      simp only [List.cons_append, DataW.weightsEach, List.mem_append] at h ⊢
      rcases h with h | h
      · exact .inl h
      · exact .inr (ih h)

theorem law_lifted {H : Type} {enc : TypeId × Value → H} {C : Checked} {os : Os} {f : FuncId} {fn : Func} {s : ChangeSpec} {S : List TypeId} {tb : TypeId} {apart fresh handsOn : Bool} (own : ownKnob C.prog.godebug = none) (started : os.Started) (noInit : C.prog.inits.idxOf? f = none)
    (hfn : C.prog.funcs[f]? = some fn) (hvars : s.vars = [])
    (witness : ∃ (w : World) (tape : Tape) (i : Input), w.os = os ∧ (w.forCall tape i).Shaped C.prog ∧ i.vars = [] ∧ Input.okWide C.prog (w.forCall tape i) .any w.heap.size f i ∧
      s.pre6 enc C.prog fn [] apart (w.forCall tape i).memory i.args ∧ ({} : Assume).holds C.prog (lone (Frame.enter C.prog f i.args .normal) [] (w.forCall tape i)))
    (hs : ∀ ds : List (DataW H), ds.length = fn.params.size → s.fn H ds = { results := [.lit (.bool true)], args := ds }) (hres : fn.resultTypes = #[tb]) (htb : C.prog.underlying tb = some .bool)
    (hS : flatS C.prog S = true) (hpar : ∀ t ∈ fn.params.toList, t ∈ S) (hlaid : laidOutB C.prog = true) (hread : ∀ t ∈ fn.params.toList, C.prog.readableRec t = true ∧ t < C.prog.types.size)
    (law : ∀ args : List SV, TyArgs C.prog fn.params.toList args → Contract C.prog f args (.bool true)) :
    ReturnsInHanded {} C os f .any (s.pre6 enc C.prog fn [] apart) (s.post enc C.prog fn apart fresh handsOn false) := by
  refine returnsInHanded_of_change_sized (C := C) own started noInit hfn witness ?_
  intro W base args ds gs before hval hW _ hsz _
  have hW' := hW
  have hlt : ∀ x ∈ before, x.block < W.heap.size := fun x hx => hW'.lt x hx
  obtain ⟨p, q, hA, hV, rfl, hfz, hnd⟩ := hW
  rw [hvars] at hV
  have hgs : gs = [] ∧ q = [] := by
    cases gs with
    | nil => exact ⟨rfl, hV⟩
    | cons g gs => exact hV.elim
  obtain ⟨rfl, rfl⟩ := hgs
  have hwt : ∀ n ∈ DataW.weightsEach C.prog fn.params.toList ds, n ≤ reachBytes := by
    intro n hn
    have := List.all_eq_true.1 hsz n (weightsEach_more hn)
    simpa using this
  have hdl : ds.length = fn.params.size := by
    have := (trodAll_length hA).2
    simpa using this
  obtain ⟨xs, a1, a2, a3⟩ := args_rep hS hpar (fun j t v ht hv => hval j t v (by simpa using ht) (by simpa using hv)) hwt hA
  have hc := law xs a1 (memOf W) W args.toList (fun b j v h => h) a2.symm a3
  refine Calls.mono hc (fun e W' he => ?_)
  obtain ⟨v, m', rfl, k1, k2, k3, k4, k5, k6, k7, k8, k9⟩ := he
  cases k1
  have hb : Below W.heap.size W W' := ⟨k5, k6, k7, k8, k9⟩
  refine ⟨_, rfl, ds, [], p ++ [], [], p, [], hW', ?_, ?_, ?_, hb.frame _, fun h => by cases h⟩
  · rw [List.append_nil, hs ds hdl, hres]
    exact ⟨[], [], ⟨1, by simp [DataW.trod, htb, Value.cells]⟩, rfl, rfl⟩
  · rw [List.append_nil, hs ds hdl]
    exact trodAll_below hlaid hb hread (fun x hx => hlt x (by simpa using hx)) hA
  · rw [List.append_nil, hs ds hdl, hvars]
    rfl
end Go.Proofs.YtkldipbhenabfaaGreat.Abs

