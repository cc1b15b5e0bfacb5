/- Rows that are made: new objects, makeSlice, append. -/
import Derived.Test.YtadmdmhocglkfaaAbsS
set_option linter.unusedSimpArgs false
set_option linter.unusedVariables false
namespace Go.Proofs.Ytadmdmhocglkfaa.Abs
open Go Go.RowKit

section
variable {P : Program} {U : Nat → Prop} {w0 : World} {own : Nat → Prop} {E : Env} {w : World} {s : St} {a : Act}

/-- A new row of cells, as a new object or as an elder one's new row. -/
theorem W.bind (h : W w0 own E w) (n : Nat) (c : Array Value) (e : TypeId) (ob : Ob) (hn : ∀ ob0, E.H n = some ob0 → ob0.gen < ob.gen ∧ ob.sz = ob0.sz)
    (hr : ∀ r ∈ ob.els, r.length = ob.sz) (hf : ob.frz ≤ ob.els.length) (hfit : ob.els.length * ob.sz ≤ c.size) (hbox : ob.box = true → ob.els.length = 1) (hbnd : ob.els.length ≤ 140737488355328)
    (hone : ∀ (k : Nat) (v : Value), c[k]? = some v → v.oneCell' = true)
    (hrel : ∀ (k : Nat) (v : Value) (x : SV), c[k]? = some v → ob.els.flatten[k]? = some x → RelV E v x)
    (hclo : (ob.box = false ∨ ob.cl = true) → ∀ (k : Nat) (v : Value) (x : SV), c[k]? = some v → ob.els.flatten[k]? = some x → Rep E.m v x) :
    ∃ E', Ext E E' ∧ W w0 own E' (w.alloc (.cells c e)) ∧ E'.H = (fun o => if o = n then some ob else E.H o) ∧ E'.β n = w.heap.size ∧ E'.t n = c.size := by
  let E' : Env := { m := fun b j => if b = w.heap.size then (if j < ob.frz * ob.sz then c[j]? else none) else E.m b j, m0 := E.m0, H := fun o => if o = n then some ob else E.H o,
                    β := fun o => if o = n then w.heap.size else E.β o, t := fun o => if o = n then c.size else E.t o }
  have hm : E.m.le E'.m := by
    intro b j v hv
    have := mem_lt (h.mem b j v hv)
    simp only [E', if_neg (show b ≠ w.heap.size by omega)]
    exact hv
  have hext : Ext E E' := by
    refine ⟨hm, fun o ob1 ho => ?_, rfl⟩
    by_cases hon : o = n
    · subst hon
      obtain ⟨h1, h2⟩ := hn ob1 ho
      exact ⟨ob, by simp [E'], h2, by omega, fun hg => by omega⟩
    · exact ⟨ob1, by simp only [E', if_neg hon]; exact ho, rfl, Nat.le_refl _, fun _ => by simp only [E', if_neg hon]; simp⟩
  have hmem : ∀ b j v, E'.m b j = some v → (w.alloc (.cells c e)).cell? ⟨b, j, none⟩ = some v := fun b j v hv => by
    by_cases hb : b = w.heap.size
    · subst hb
      simp only [E', if_true] at hv
      split at hv
      · rw [cell_of (heap_alloc_new w _)]; exact hv
      · cases hv
    · simp only [E', if_neg hb] at hv
      have := h.mem b j v hv
      rw [World.cell?_alloc_lt w _ _ (mem_lt this)]
      exact this
  refine ⟨E', hext, ⟨h.os, h.tape, h.output, by simp; exact Nat.le_succ_of_le h.size, fun k hk ho => ?_, hmem, fun o ob1 ho => ?_, fun o o' ob1 ob2 h1 h2 hne ht ht' => ?_, fun b j hb hown => by simp only [E']; rw [if_neg (by have := h.size; omega)]; exact h.keep b j hb hown⟩, rfl, by simp [E'], by simp [E']⟩
  · rw [Below.heap_alloc _ _ _ (Nat.lt_of_lt_of_le hk h.size)]
    exact h.block k hk ho
  · by_cases hon : o = n
    · subst hon
      have : ob1 = ob := by simp [E'] at ho; exact ho.symm
      subst this
      refine ⟨hr, hf, by simpa [E'] using hfit, hbox, hbnd, fun ht => ⟨c, e, ⟨?_, by simp [E'], ?_, fun k v x hv hx => (hrel k v x hv hx).mono hext, hone, ?_, ?_, fun hb k v x hv hx => (hclo hb k v x hv hx).mono hm⟩⟩⟩
      · simp only [E', if_true]; exact heap_alloc_new w _
      · left; simp [E']; exact h.size
      · intro k hk; simp only [E', if_true, if_pos hk]
      · intro k hk; simp only [E', if_true, if_neg (show ¬ k < ob1.frz * ob1.sz by omega)]
    · have ho' : E.H o = some ob1 := by simpa [E', hon] using ho
      have hk := h.obs o ob1 ho'
      refine ⟨hk.rows, hk.frz, by simpa [E', hon] using hk.fit, hk.box, hk.bnd, fun ht => ?_⟩
      have ht' : 0 < E.t o := by simpa [E', hon] using ht
      obtain ⟨c1, e1, k⟩ := hk.live ht'
      have hlt := h.lt ho' ht'
      have hne : E.β o ≠ w.heap.size := by omega
      refine ⟨c1, e1, ⟨?_, by simpa [E', hon] using k.size, by simpa [E', hon] using k.new, fun j v x hv hx => (k.rel j v x hv hx).mono hext, k.one, fun j hj => ?_, fun j hj => ?_, fun hb j v x hv hx => (k.clo hb j v x hv hx).mono hm⟩⟩
      · simp only [E', if_neg hon]
        rw [Below.heap_alloc _ _ _ hlt]
        exact k.blk
      · simp only [E', if_neg hon, if_neg hne]; exact k.old j hj
      · simp only [E', if_neg hon, if_neg hne]; exact k.free j hj
  · by_cases ho : o = n <;> by_cases ho' : o' = n
    · omega
    · subst ho
      have h2' : E.H o' = some ob2 := by simpa [E', ho'] using h2
      have := h.lt h2' (by simpa [E', ho'] using ht')
      simp [E', ho']; omega
    · subst ho'
      have h1' : E.H o = some ob1 := by simpa [E', ho] using h1
      have := h.lt h1' (by simpa [E', ho] using ht)
      simp [E', ho]; omega
    · simp only [E', if_neg ho, if_neg ho'] at *
      exact h.inj o o' ob1 ob2 h1 h2 hne ht ht'

/-- A new object, seen by the objects of U. -/
theorem step_new (hW : W w0 own E w) (hu : ∀ o, U o → E.H o = s.hp[o]?) (hn : U s.hp.length) (c : Array Value) (e : TypeId) (ob : Ob)
    (hr : ∀ r ∈ ob.els, r.length = ob.sz) (hf : ob.frz ≤ ob.els.length) (hfit : ob.els.length * ob.sz ≤ c.size) (hbox : ob.box = true → ob.els.length = 1) (hbnd : ob.els.length ≤ 140737488355328)
    (hone : ∀ (k : Nat) (v : Value), c[k]? = some v → v.oneCell' = true)
    (hrel : ∀ (k : Nat) (v : Value) (x : SV), c[k]? = some v → ob.els.flatten[k]? = some x → RelV E v x)
    (hclo : (ob.box = false ∨ ob.cl = true) → ∀ (k : Nat) (v : Value) (x : SV), c[k]? = some v → ob.els.flatten[k]? = some x → Rep E.m v x) :
    ∃ E', Step U w0 own E E' (w.alloc (.cells c e)) (s.hp ++ [ob]) ∧ E'.H s.hp.length = some ob ∧ E'.β s.hp.length = w.heap.size ∧ E'.t s.hp.length = c.size := by
  have hnone : E.H s.hp.length = none := by rw [hu _ hn]; simp
  obtain ⟨E', a1, a2, a3, a4, a5⟩ := hW.bind s.hp.length c e ob (fun ob0 h0 => by rw [hnone] at h0; cases h0) hr hf hfit hbox hbnd hone hrel hclo
  refine ⟨E', ⟨a1, a2, fun o ho => ?_, fun o ho => ?_⟩, by rw [a3]; simp, a4, a5⟩
  · rw [a3]
    by_cases hon : o = s.hp.length
    · simp [hon]
    · simp only [if_neg hon, hu o ho]
      rcases Nat.lt_or_ge o s.hp.length with h1 | h1
      · rw [List.getElem?_append_left h1]
      · rw [List.getElem?_eq_none h1, List.getElem?_eq_none (by simp; omega)]
  · rw [a3]
    have : o ≠ s.hp.length := by rintro rfl; exact ho hn
    simp only [if_neg this]

theorem box_sound {v : Value} {x : SV} (hW : W w0 own E w) (hu : ∀ o, U o → E.H o = s.hp[o]?) (hn : U s.hp.length) (t : TypeId) (hx : RelV E v x) (hok : x.ok = true) :
    ∃ E', RelV E' (.pointer (some ⟨w.heap.size, 0, none⟩)) (.ref s.hp.length 0 0 0) ∧
      Step U w0 own E E' (w.alloc (.cells v.cells t)) (s.hp ++ [{ box := true, sz := (cellsOf x).length, els := [cellsOf x], frz := 0, gen := 0, cl := x.closed }]) := by
  obtain ⟨vs, b1, b2, b3, b4, b5⟩ := cells_rel hx hok
  obtain ⟨E', a1, a2, a3, a4⟩ := step_new (s := s) hW hu hn v.cells t { box := true, sz := (cellsOf x).length, els := [cellsOf x], frz := 0, gen := 0, cl := x.closed } (by simp) (by simp) (by simp [b1, b2]) (by simp) (by simp)
    (fun k v hv => by rw [b1] at hv; exact b3 v (List.mem_of_getElem? (by simpa using hv))) (fun k v y hv hy => by rw [b1] at hv; exact b4 k v y (by simpa using hv) (by simpa using hy))
    (fun hb k v y hv hy => by
      rw [b1] at hv
      rcases hb with hb | hb
      · cases hb
      · exact b5 hb k v y (by simpa using hv) (by simpa using hy))
  refine ⟨E', ?_, a1⟩
  exact .ref _ _ _ _ _ _ _ a2 (Nat.le_refl _) (fun _ => by simp [a3])

theorem zero_rel {m : Mem} {e : TypeId} {z : SV} (h : zeroT P e = some z) : ∃ i v, P.info? e = some i ∧ i.zero = some v ∧ ofVal v = some z ∧ Rep m v z := by
  unfold zeroT at h
  cases hi : P.info? e with
  | none => simp [hi] at h
  | some i =>
    cases hz : i.zero with
    | none => simp [hi, hz] at h
    | some v =>
      simp only [hi, hz, Option.bind_some] at h
      exact ⟨i, v, rfl, hz, h, (rep_const h).1⟩

theorem made_one {z : Array Value} {n : Nat} (h1 : ∀ v ∈ z.toList, v.oneCell' = true) (hz : 0 < z.size) (k : Nat) (v : Value) (hv : (madeCells z n)[k]? = some v) : v.oneCell' = true ∧ z[k % z.size]? = some v := by
  unfold madeCells at hv
  rw [Array.getElem?_map] at hv
  by_cases hk : k < n
  · have : (Array.range n)[k]? = some k := by simp [hk]
    rw [this] at hv
    simp only [Option.map_some, Option.some.injEq] at hv
    have hlt : k % z.size < z.size := Nat.mod_lt _ hz
    have hget : z[k % z.size]? = some v := by
      rw [← hv]
      simp [getElem!_pos, hlt]
    refine ⟨h1 v ?_, hget⟩
    have := List.mem_of_getElem? (show z.toList[k % z.size]? = some v by simpa using hget)
    exact this
  · have : (Array.range n)[k]? = none := by simp; omega
    rw [this] at hv
    cases hv

theorem mk_sound {t e : TypeId} {z : SV} {kl kc : IntKind} {l c : Int} (hW : W w0 own E w) (hu : ∀ o, U o → E.H o = s.hp[o]?) (hn : U s.hp.length) (ht : P.underlying t = some (.slice e)) (hz : zeroT P e = some z)
    (hsz : (cellsOf z).length = P.cellsOf e) (hpos : 0 < P.cellsOf e) (h1 : 0 ≤ l) (h2 : l ≤ c) (h3 : c * (P.bytesOf e : Int) ≤ 140737488355328) (h4 : c ≤ 140737488355328) :
    ∃ v w' E', (Instr.makeSlice t (.int kl l) (.int kc c)).run P w = .ok v w' ∧ RelV E' v (.osl s.hp.length 0 0 l.toNat) ∧
      Step U w0 own E E' w' (s.hp ++ [{ box := false, sz := P.cellsOf e, els := List.replicate l.toNat (cellsOf z), frz := 0, gen := 0, cl := true }]) ∧ w.heap.size ≤ w'.heap.size := by
  obtain ⟨i, zv, hi, hzv, hofz, hrep⟩ := zero_rel (m := E.m) hz
  have hci := cellsOf_info hi
  have hbi : P.bytesOf e = i.bytes := by simp [Program.bytesOf, hi]
  obtain ⟨vs, b1, b2, b3, b4, b5⟩ := cells_rel (.rep _ _ hrep : RelV E zv z) (rep_const (m := E.m) hofz).2.2
  have hclz := (rep_const (m := E.m) hofz).2.1
  have hrun := run_make (P := P) w t e i zv ht hi hzv kl kc l c h1 h2 (by rw [hbi] at h3; rw [Int.mul_comm]; omega) (by omega)
  rw [b1] at hrun
  have hmul : l.toNat * P.cellsOf e ≤ c.toNat * P.cellsOf e := Nat.mul_le_mul_right _ (by omega)
  have hrows : ∀ r ∈ List.replicate l.toNat (cellsOf z), r.length = P.cellsOf e := fun r hr => by rw [(List.mem_replicate.1 hr).2]; exact hsz
  have hrel : ∀ (k : Nat) (v : Value) (x : SV), (madeCells vs.toArray (c.toNat * i.size))[k]? = some v → (List.replicate l.toNat (cellsOf z)).flatten[k]? = some x → Rep E.m v x := by
    intro k v x hv hx
    have hvs : vs.toArray.size = P.cellsOf e := by simp; omega
    have h5 := (made_one (by simpa using b3) (by omega) k v hv).2
    rw [hvs] at h5
    have h6 := flat_get hrows (k / P.cellsOf e) (k % P.cellsOf e) (Nat.mod_lt _ hpos)
    rw [Nat.div_add_mod' k (P.cellsOf e)] at h6
    rw [h6] at hx
    cases hq : (List.replicate l.toNat (cellsOf z))[k / P.cellsOf e]? with
    | none => rw [hq] at hx; cases hx
    | some r =>
      rw [hq] at hx
      have hr := List.mem_of_getElem? hq
      rw [(List.mem_replicate.1 hr).2] at hx
      exact b5 hclz _ v x (by simpa using h5) hx
  obtain ⟨E', a1, a2, a3, a4⟩ := step_new (s := s) hW hu hn (madeCells vs.toArray (c.toNat * i.size)) e { box := false, sz := P.cellsOf e, els := List.replicate l.toNat (cellsOf z), frz := 0, gen := 0, cl := true }
    hrows (Nat.zero_le _) (by rw [size_madeCells, ← hci]; simpa using hmul) (by simp) (by simp; omega) (fun k v hv => (made_one (by simpa using b3) (by simp; omega) k v hv).1)
    (fun k v x hv hx => .rep v x (hrel k v x hv hx)) (fun _ => hrel)
  refine ⟨_, _, E', hrun, ?_, a1, by simp⟩
  refine .osl _ _ _ _ _ _ _ _ a2 (Nat.le_refl _) ⟨rfl, by omega, fun _ => ⟨_, _, rfl⟩⟩ (fun _ => ⟨by simp, .inl ⟨by simp [a3], ?_⟩⟩)
  rw [a4, size_madeCells, ← hci]
  simp
end
end Go.Proofs.Ytadmdmhocglkfaa.Abs
