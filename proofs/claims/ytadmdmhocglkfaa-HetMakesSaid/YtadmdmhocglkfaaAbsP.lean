/- Objects that turn: a store, a freeze; what a frozen object reads as. -/
import Derived.Test.YtadmdmhocglkfaaAbsR
set_option linter.unusedSimpArgs false
set_option linter.unusedVariables false
namespace Go.Proofs.Ytadmdmhocglkfaa.Abs
open Go Go.RowKit

theorem cell_of {w : World} {b : Nat} {c : Array Value} {e : TypeId} (h : w.heap[b]? = some (.cells c e (0, 0))) (j : Nat) : w.cell? ⟨b, j, none⟩ = c[j]? := by
  simp [World.cell?, h]

theorem unfrozen {w : World} {b : Nat} {c : Array Value} {e : TypeId} (h : w.heap[b]? = some (.cells c e (0, 0))) (j : Nat) : w.frozen? ⟨b, j, none⟩ = false := by
  simp [World.frozen?, h]

/-- One object's row has turned, where it may. -/
theorem W.put {w0 : World} {own : Nat → Prop} {E : Env} {w w' : World} (h : W w0 own E w) {o : Nat} {ob ob' : Ob} {c c' : Array Value} {e : TypeId} (ho : E.H o = some ob)
    (hl : Live w0.heap.size own E w o ob c e) (h1 : w'.os = w.os) (h2 : w'.tape = w.tape) (h3 : w'.output = w.output) (h4 : w'.heap.size = w.heap.size) (h5 : ∀ k, k ≠ E.β o → w'.heap[k]? = w.heap[k]?)
    (h6 : w'.heap[E.β o]? = some (.cells c' e (0, 0))) (hc : c'.size = c.size) (hz : ob'.sz = ob.sz) (hg : ob.gen ≤ ob'.gen) (hlen : ob.els.length ≤ ob'.els.length) (hfz : ob.frz ≤ ob'.frz)
    (hold : ∀ j, j < ob.frz * ob.sz → c'[j]? = c[j]?) (hr : ∀ r ∈ ob'.els, r.length = ob'.sz) (hf : ob'.frz ≤ ob'.els.length) (hfit : ob'.els.length * ob.sz ≤ c.size) (hbox : ob'.box = true → ob'.els.length = 1) (hbnd : ob'.els.length ≤ 140737488355328) (hone : ∀ (k : Nat) (v : Value), c'[k]? = some v → v.oneCell' = true)
    (hrel : ∀ (k : Nat) (v : Value) (x : SV), c'[k]? = some v → ob'.els.flatten[k]? = some x → RelV E v x)
    (hclo : (ob'.box = false ∨ ob'.cl = true) → ∀ (k : Nat) (v : Value) (x : SV), c'[k]? = some v → ob'.els.flatten[k]? = some x → Rep E.m v x) :
    ∃ E', Ext E E' ∧ W w0 own E' w' ∧ E'.H = (fun i => if i = o then some ob' else E.H i) ∧ E'.β = E.β ∧ E'.t = E.t ∧ (∀ j, j < ob'.frz * ob.sz → E'.m (E.β o) j = c'[j]?) ∧ (∀ b j, b ≠ E.β o → E'.m b j = E.m b j) := by
  let E' : Env := { E with m := fun b j => if b = E.β o then (if j < ob'.frz * ob.sz then c'[j]? else none) else E.m b j, H := fun i => if i = o then some ob' else E.H i }
  have hle : ob.frz * ob.sz ≤ ob'.frz * ob.sz := Nat.mul_le_mul_right _ hfz
  have hm : E.m.le E'.m := by
    intro b j v hv
    by_cases hb : b = E.β o
    · subst hb
      rcases Nat.lt_or_ge j (ob.frz * ob.sz) with hj | hj
      · rw [hl.old j hj] at hv
        simp only [E', if_true, if_pos (show j < ob'.frz * ob.sz by omega)]
        rw [hold j hj]; exact hv
      · rw [hl.free j hj] at hv; cases hv
    · simp only [E', if_neg hb]; exact hv
  have hext : Ext E E' := by
    refine ⟨hm, fun i ob1 hi => ?_, rfl⟩
    by_cases hio : i = o
    · subst hio
      rw [ho] at hi; cases hi
      exact ⟨ob', by simp [E'], hz, hg, fun _ => ⟨rfl, rfl, hlen⟩⟩
    · exact ⟨ob1, by simp only [E', if_neg hio]; exact hi, rfl, Nat.le_refl _, fun _ => ⟨rfl, rfl, Nat.le_refl _⟩⟩
  have ht : 0 < E.t o ∨ E.t o = 0 := by omega
  refine ⟨E', hext, ⟨h1.trans h.os, h2.trans h.tape, h3.trans h.output, by rw [h4]; exact h.size, fun k hk hown => ?_, fun b j v hv => ?_, fun i ob1 hi => ?_, fun i i' ob1 ob2 hi hi' hne ht1 ht2 => ?_, fun b j hb hown => by
    simp only [E']
    rw [if_neg ?_]
    · exact h.keep b j hb hown
    · rintro rfl
      rcases hl.new with hn | hn
      · omega
      · exact hown hn⟩, rfl, rfl, rfl, fun j hj => ?_, fun b j hb => ?_⟩
  · rw [h5 k ?_]
    · exact h.block k hk hown
    · rintro rfl
      rcases hl.new with hn | hn
      · omega
      · exact hown hn
  · by_cases hb : b = E.β o
    · subst hb
      rw [cell_of h6]
      simp only [E', if_true] at hv
      split at hv
      · exact hv
      · cases hv
    · simp only [E', if_neg hb] at hv
      have := h.mem b j v hv
      rw [← this]
      exact World.cell?_of_block (w := w) (h5 b hb)
  · by_cases hio : i = o
    · subst hio
      have : ob1 = ob' := by simp [E'] at hi; exact hi.symm
      subst this
      refine ⟨hr, hf, by rw [hz]; show _ ≤ E.t i; rw [← hl.size]; exact hfit, hbox, hbnd, fun _ => ⟨c', e, ⟨h6, by rw [hc]; exact hl.size, hl.new, fun k v x hv hx => (hrel k v x hv hx).mono hext, hone, fun k hk => ?_, fun k hk => ?_, fun hb k v x hv hx => (hclo hb k v x hv hx).mono hm⟩⟩⟩
      · rw [hz] at hk; simp only [E', if_true, if_pos hk]
      · rw [hz] at hk; simp only [E', if_true, if_neg (show ¬ k < ob1.frz * ob.sz by omega)]
    · have hi' : E.H i = some ob1 := by simpa [E', hio] using hi
      have hk := h.obs i ob1 hi'
      refine ⟨hk.rows, hk.frz, hk.fit, hk.box, hk.bnd, fun hti => ?_⟩
      obtain ⟨c1, e1, k⟩ := hk.live hti
      by_cases hto : 0 < E.t o
      · have hne : E.β i ≠ E.β o := h.inj i o ob1 ob hi' ho hio hti hto
        refine ⟨c1, e1, ⟨by show w'.heap[E.β i]? = _; rw [h5 _ hne]; exact k.blk, k.size, k.new, fun j v x hv hx => (k.rel j v x hv hx).mono hext, k.one, fun j hj => ?_, fun j hj => ?_, fun hb j v x hv hx => (k.clo hb j v x hv hx).mono hm⟩⟩
        · show E'.m (E.β i) j = _; simp only [E', if_neg hne]; exact k.old j hj
        · show E'.m (E.β i) j = _; simp only [E', if_neg hne]; exact k.free j hj
      · -- the row of o is empty
        have hc0 : c.size = 0 := by rw [hl.size]; omega
        have hne : E.β i ≠ E.β o := by
          intro heq
          have hb1 := k.blk
          rw [heq, hl.blk] at hb1
          injection hb1 with hb1
          injection hb1 with hb1
          subst hb1
          have h1 := k.size
          have h2 : 0 < E.t i := hti
          omega
        refine ⟨c1, e1, ⟨by show w'.heap[E.β i]? = _; rw [h5 _ hne]; exact k.blk, k.size, k.new, fun j v x hv hx => (k.rel j v x hv hx).mono hext, k.one, fun j hj => ?_, fun j hj => ?_, fun hb j v x hv hx => (k.clo hb j v x hv hx).mono hm⟩⟩
        · show E'.m (E.β i) j = _; simp only [E', if_neg hne]; exact k.old j hj
        · show E'.m (E.β i) j = _; simp only [E', if_neg hne]; exact k.free j hj
  · have hi1 : ∃ ob3, E.H i = some ob3 := by
      by_cases hio : i = o
      · exact ⟨ob, hio ▸ ho⟩
      · exact ⟨ob1, by simpa [E', hio] using hi⟩
    have hi2 : ∃ ob3, E.H i' = some ob3 := by
      by_cases hio : i' = o
      · exact ⟨ob, hio ▸ ho⟩
      · exact ⟨ob2, by simpa [E', hio] using hi'⟩
    obtain ⟨ob3, h3'⟩ := hi1
    obtain ⟨ob4, h4'⟩ := hi2
    exact h.inj i i' ob3 ob4 h3' h4' hne ht1 ht2
  · simp only [E', if_true, if_pos hj]
  · simp only [E', if_neg hb]

/-- The same, of an object with no cell. -/
theorem W.put0 {w0 : World} {own : Nat → Prop} {E : Env} {w : World} (h : W w0 own E w) {o : Nat} {ob ob' : Ob} (ho : E.H o = some ob) (ht : E.t o = 0)
    (hz : ob'.sz = ob.sz) (hg : ob.gen ≤ ob'.gen) (hlen : ob.els.length ≤ ob'.els.length) (hr : ∀ r ∈ ob'.els, r.length = ob'.sz) (hf : ob'.frz ≤ ob'.els.length) (hfit : ob'.els.length * ob.sz ≤ 0) (hbox : ob'.box = true → ob'.els.length = 1) (hbnd : ob'.els.length ≤ 140737488355328) :
    ∃ E', Ext E E' ∧ W w0 own E' w ∧ E'.H = (fun i => if i = o then some ob' else E.H i) ∧ E'.β = E.β ∧ E'.t = E.t ∧ E'.m = E.m := by
  let E' : Env := { E with H := fun i => if i = o then some ob' else E.H i }
  have hext : Ext E E' := by
    refine ⟨fun _ _ _ hv => hv, fun i ob1 hi => ?_, rfl⟩
    by_cases hio : i = o
    · subst hio
      rw [ho] at hi; cases hi
      exact ⟨ob', by simp [E'], hz, hg, fun _ => ⟨rfl, rfl, hlen⟩⟩
    · exact ⟨ob1, by simp only [E', if_neg hio]; exact hi, rfl, Nat.le_refl _, fun _ => ⟨rfl, rfl, Nat.le_refl _⟩⟩
  refine ⟨E', hext, ⟨h.os, h.tape, h.output, h.size, h.block, h.mem, fun i ob1 hi => ?_, fun i i' ob1 ob2 hi hi' hne ht1 ht2 => ?_, h.keep⟩, rfl, rfl, rfl, rfl⟩
  · by_cases hio : i = o
    · subst hio
      have : ob1 = ob' := by simp [E'] at hi; exact hi.symm
      subst this
      exact ⟨hr, hf, by rw [hz]; show _ ≤ E.t i; omega, hbox, hbnd, fun h0 => by have : 0 < E.t i := h0; omega⟩
    · have hi' : E.H i = some ob1 := by simpa [E', hio] using hi
      have hk := h.obs i ob1 hi'
      refine ⟨hk.rows, hk.frz, hk.fit, hk.box, hk.bnd, fun hti => ?_⟩
      obtain ⟨c1, e1, k⟩ := hk.live hti
      exact ⟨c1, e1, ⟨k.blk, k.size, k.new, fun j v x hv hx => (k.rel j v x hv hx).mono hext, k.one, k.old, k.free, k.clo⟩⟩
  · have h1 : i ≠ o := by rintro rfl; have : 0 < E.t i := ht1; omega
    have h2 : i' ≠ o := by rintro rfl; have : 0 < E.t i' := ht2; omega
    exact h.inj i i' ob1 ob2 (by simpa [E', h1] using hi) (by simpa [E', h2] using hi') hne ht1 ht2

/-- An object is frozen. -/
theorem W.freeze {w0 : World} {own : Nat → Prop} {E : Env} {w : World} (h : W w0 own E w) {o : Nat} {ob : Ob} (ho : E.H o = some ob) :
    ∃ E', Ext E E' ∧ W w0 own E' w ∧ E'.H = (fun i => if i = o then some { ob with frz := ob.els.length } else E.H i) ∧ E'.β = E.β ∧ E'.t = E.t ∧
      (∀ k v, ob.els.flatten[k]? ≠ none → w.cell? ⟨E.β o, k, none⟩ = some v → E'.m (E.β o) k = some v) ∧ (∀ b j, b ≠ E.β o → E'.m b j = E.m b j) := by
  have hk := h.obs o ob ho
  have hfl := flat_len hk.rows
  rcases Nat.eq_zero_or_pos (E.t o) with ht | ht
  · have hfit := hk.fit
    rw [ht] at hfit
    obtain ⟨E', a1, a2, a3, a4, a5, a6⟩ := h.put0 (ob' := { ob with frz := ob.els.length }) ho ht rfl (Nat.le_refl _) (Nat.le_refl _) hk.rows (Nat.le_refl _) hfit hk.box hk.bnd
    refine ⟨E', a1, a2, a3, a4, a5, fun k v hne _ => ?_, fun b j _ => by rw [a6]⟩
    exfalso
    apply hne
    rw [List.getElem?_eq_none]
    omega
  · obtain ⟨c, e, hl⟩ := hk.live ht
    obtain ⟨E', a1, a2, a3, a4, a5, a6, a7⟩ := h.put (w' := w) (ob' := { ob with frz := ob.els.length }) ho hl rfl rfl rfl rfl (fun _ _ => rfl) hl.blk rfl rfl (Nat.le_refl _) (Nat.le_refl _) hk.frz
      (fun _ _ => rfl) hk.rows (Nat.le_refl _) (by rw [hl.size]; exact hk.fit) hk.box hk.bnd hl.one hl.rel hl.clo
    refine ⟨E', a1, a2, a3, a4, a5, fun k v hne hv => ?_, a7⟩
    rw [a6 k ?_]
    · rw [cell_of hl.blk] at hv; exact hv
    · show k < ob.els.length * ob.sz
      rw [← hfl]
      rcases Nat.lt_or_ge k ob.els.flatten.length with h1 | h1
      · exact h1
      · exact absurd (List.getElem?_eq_none h1) hne
end Go.Proofs.Ytadmdmhocglkfaa.Abs
