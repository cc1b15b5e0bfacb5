/- Closing a value: what it holds of objects is written no more, and it stands for the same value without them. -/
import Derived.Test.YtadmdmhocglkfaaAbsP
set_option linter.unusedSimpArgs false
set_option linter.unusedVariables false
namespace Go.Proofs.Ytadmdmhocglkfaa.Abs
open Go Go.RowKit

/-- What a step leaves, seen by the objects of U. -/
structure Step (U : Nat → Prop) (w0 : World) (own : Nat → Prop) (E E' : Env) (w' : World) (hp' : List Ob) : Prop where
  ext : Ext E E'
  wo : W w0 own E' w'
  on : ∀ o, U o → E'.H o = hp'[o]?
  off : ∀ o, ¬ U o → E'.H o = E.H o

theorem RelV.closed_rep {E : Env} {v : Value} {s : SV} (h : RelV E v s) (hc : s.closed = true) : Rep E.m v s := by
  cases h with
  | junk => simp [SV.closed] at hc
  | undef => simp [SV.closed] at hc
  | rep _ _ hr => exact hr
  | ref => simp [SV.closed] at hc
  | osl => simp [SV.closed] at hc
  | agg => simp [SV.closed] at hc

theorem RelV.tup_rep {E : Env} {v : Value} {l : List SV} (h : RelV E v (.tup l)) : Rep E.m v (.tup l) := by
  cases h with
  | rep _ _ hr => exact hr

theorem one_list {c : Array Value} {vs : List Value} (h : ∀ (k : Nat) (v : Value), c[k]? = some v → v.oneCell' = true) (hs : ∀ v ∈ vs, v ∈ c.toList) : ∀ v ∈ vs, v.oneCell' = true := fun v hv => by
  obtain ⟨k, hk⟩ := List.getElem?_of_mem (hs v hv)
  exact h k v (by simpa using hk)

/-- A frozen slice of an object reads as its elements. -/
theorem rep_osl {w0 : World} {own : Nat → Prop} {E E' : Env} {w : World} (h : W w0 own E w) {o off len cap : Nat} {ob : Ob} {A : Option Addr} (ho : E.H o = some ob) (hb : ob.box = false ∨ ob.cl = true)
    (hlc : len ≤ cap) (hfit : off + len ≤ ob.els.length) (hA : (A = some ⟨E.β o, off * ob.sz, none⟩ ∧ (off + cap) * ob.sz ≤ E.t o) ∨ cap = 0) (hm : E.m.le E'.m)
    (hf : ∀ k v, ob.els.flatten[k]? ≠ none → w.cell? ⟨E.β o, k, none⟩ = some v → E'.m (E.β o) k = some v) : Rep E'.m (.slice A len cap) (.dsl ob.sz ((ob.els.drop off).take len)) := by
  have hk := h.obs o ob ho
  have hrows : ∀ r ∈ (ob.els.drop off).take len, r.length = ob.sz := fun r hr => hk.rows r (List.mem_of_mem_drop (List.mem_of_mem_take hr))
  have hlen : ((ob.els.drop off).take len).length = len := by simp; omega
  rcases Nat.eq_zero_or_pos len with h0 | h0
  · subst h0
    simpa using Rep.dsl0 ob.sz A cap
  · rcases hA with ⟨rfl, hfit2⟩ | hc
    rotate_left
    · omega
    have hfl : ((ob.els.drop off).take len).flatten = (ob.els.flatten.drop (off * ob.sz)).take (len * ob.sz) := by
      rw [flat_take (sz := ob.sz) (fun r hr => hk.rows r (List.mem_of_mem_drop hr)), flat_drop hk.rows]
    have hflen := flat_len hrows
    rw [hlen] at hflen
    have hels := flat_len hk.rows
    have hmul : (off + len) * ob.sz ≤ ob.els.length * ob.sz := Nat.mul_le_mul_right _ hfit
    rw [Nat.add_mul] at hmul
    have key : ∃ vs : List Value, (∀ v ∈ vs, v.oneCell' = true) ∧ vs.length = len * ob.sz ∧ (∀ j v, vs[j]? = some v → E'.m (E.β o) (off * ob.sz + j) = some v) ∧
        (∀ (j : Nat) (v : Value) (x : SV), vs[j]? = some v → ((ob.els.drop off).take len).flatten[j]? = some x → Rep E'.m v x) := by
      rcases Nat.eq_zero_or_pos (E.t o) with ht | ht
      · refine ⟨[], by simp, ?_, by simp, by simp⟩
        have : len * ob.sz ≤ (off + cap) * ob.sz := Nat.mul_le_mul_right _ (by omega)
        simp; omega
      · obtain ⟨c, e, hl⟩ := hk.live ht
        have hcs := hl.size
        have hfit1 := hk.fit
        refine ⟨(c.toList.drop (off * ob.sz)).take (len * ob.sz), one_list hl.one (fun v hv => List.mem_of_mem_drop (List.mem_of_mem_take hv)), by simp; omega, fun j v hv => ?_, fun j v x hv hx => ?_⟩
        · rw [List.getElem?_take] at hv
          split at hv
          · rename_i hj
            rw [List.getElem?_drop] at hv
            refine hf _ _ ?_ ?_
            · rw [List.getElem?_eq_getElem (by omega)]; simp
            · rw [cell_of hl.blk]; simpa using hv
          · cases hv
        · rw [hfl] at hx
          rw [List.getElem?_take] at hv hx
          split at hv
          · rename_i hj
            rw [if_pos hj, List.getElem?_drop] at hx
            rw [List.getElem?_drop] at hv
            exact (hl.clo hb _ v x (by simpa using hv) hx).mono hm
          · cases hv
    obtain ⟨vs, h0', h1, h2, h3⟩ := key
    have := Rep.dsl (m := E'.m) ob.sz ((ob.els.drop off).take len) cap (E.β o) (off * ob.sz) vs h0' (by omega) (by have := hk.bnd; omega) hrows (by omega) h2 h3
    rw [hlen] at this
    exact this

theorem Step.refl {U : Nat → Prop} {w0 : World} {own : Nat → Prop} {E : Env} {w : World} {hp : List Ob} (h : W w0 own E w) (hu : ∀ o, U o → E.H o = hp[o]?) : Step U w0 own E E w hp :=
  ⟨Ext.refl E, h, hu, fun _ _ => rfl⟩

theorem Step.trans {U : Nat → Prop} {w0 : World} {own : Nat → Prop} {E E1 E2 : Env} {w1 w2 : World} {hp1 hp2 : List Ob} (h : Step U w0 own E E1 w1 hp1) (k : Step U w0 own E1 E2 w2 hp2) : Step U w0 own E E2 w2 hp2 :=
  ⟨h.ext.trans k.ext, k.wo, k.on, fun o ho => (k.off o ho).trans (h.off o ho)⟩

theorem set_get (hp : List Ob) (o i : Nat) (ob ob0 : Ob) (h : hp[o]? = some ob0) : (hp.set o ob)[i]? = if i = o then some ob else hp[i]? := by
  rw [List.getElem?_set]
  have hlt : o < hp.length := by
    rcases Nat.lt_or_ge o hp.length with h1 | h1
    · exact h1
    · rw [List.getElem?_eq_none h1] at h; cases h
  by_cases hi : i = o
  · subst hi; simp [hlt]
  · rw [if_neg (fun h => hi h.symm), if_neg hi]

theorem closeC_sound {U : Nat → Prop} {w0 : World} {own : Nat → Prop} {E : Env} {w : World} {hp hp' : List Ob} {v : Value} {s s' : SV} (hW : W w0 own E w) (hu : ∀ o, U o → E.H o = hp[o]?)
    (hc : closeC hp s = some (s', hp')) (hr : RelV E v s) (hi : ∀ o ∈ idsC s, U o) : hp'.length = hp.length ∧ ∃ E', Step U w0 own E E' w hp' ∧ Rep E'.m v s' ∧ E'.β = E.β ∧ E'.t = E.t := by
  have plain : closeC hp s = some (s, hp) → s.closed = true ∨ (∃ l, s = .tup l) → hp'.length = hp.length ∧ ∃ E', Step U w0 own E E' w hp' ∧ Rep E'.m v s' ∧ E'.β = E.β ∧ E'.t = E.t := by
    intro h1 h2
    rw [h1] at hc
    cases hc
    refine ⟨rfl, E, Step.refl hW hu, ?_, rfl, rfl⟩
    rcases h2 with h2 | ⟨l, rfl⟩
    · exact hr.closed_rep h2
    · exact hr.tup_rep
  cases s with
  | osl o g off len =>
    have hU := hi o (by simp [idsC])
    cases hr with
    | rep _ _ hr => cases hr
    | osl _ _ _ _ A n cap ob ho hg hnl hcur0 =>
      have hcur := fun (h : ob.gen = g) => And.intro hnl.1 (And.intro hnl.2.1 (hcur0 h))
      simp only [closeC] at hc
      rw [← hu o hU, ho] at hc
      simp only at hc
      split at hc
      rotate_left
      · cases hc
      rename_i hbg
      obtain ⟨hb, hgg⟩ := hbg
      cases hc
      obtain ⟨rfl, hlc, hfit, hA⟩ := hcur hgg
      obtain ⟨E', a1, a2, a3, a4, a5, a6, a7⟩ := hW.freeze ho
      have hho : hp[o]? = some ob := by rw [← hu o hU]; exact ho
      refine ⟨by simp [fz], E', ⟨a1, a2, fun i hiU => ?_, fun i hiU => ?_⟩, rep_osl hW ho (.inl hb) hlc hfit hA a1.m a6, a4, a5⟩
      · rw [a3, fz, set_get hp o i _ ob hho]
        by_cases hio : i = o
        · simp [hio]
        · simp only [if_neg hio]; exact hu i hiU
      · rw [a3]
        have : i ≠ o := by rintro rfl; exact hiU hU
        simp only [if_neg this]
  | junk => simp [closeC] at hc
  | undef => simp [closeC] at hc
  | ref o g e c => simp [closeC] at hc
  | tup l => simp [closeC] at hc
  | agg b l =>
    cases b with
    | false => simp [closeC] at hc
    | true => exact plain rfl (.inl rfl)
  | bool b => exact plain rfl (.inl rfl)
  | int k n => exact plain rfl (.inl rfl)
  | float k b => exact plain rfl (.inl rfl)
  | str s => exact plain rfl (.inl rfl)
  | nilp => exact plain rfl (.inl rfl)
  | nils => exact plain rfl (.inl rfl)
  | fn f => exact plain rfl (.inl rfl)
  | dref z l c => exact plain rfl (.inl rfl)
  | dsl z l => exact plain rfl (.inl rfl)

theorem closeCs_sound {U : Nat → Prop} {w0 : World} {own : Nat → Prop} {w : World} : ∀ {l l' : List SV} {E : Env} {hp hp' : List Ob} {vs : List Value}, W w0 own E w → (∀ o, U o → E.H o = hp[o]?) →
    closeCs hp l = some (l', hp') → vs.length = l.length → (∀ (j : Nat) (v : Value) (x : SV), vs[j]? = some v → l[j]? = some x → RelV E v x) → (∀ o ∈ l.flatMap idsC, U o) →
    hp'.length = hp.length ∧ l'.length = l.length ∧ ∃ E', Step U w0 own E E' w hp' ∧ (∀ (j : Nat) (v : Value) (x : SV), vs[j]? = some v → l'[j]? = some x → Rep E'.m v x) ∧ E'.β = E.β ∧ E'.t = E.t := by
  intro l
  induction l with
  | nil =>
    intro l' E hp hp' vs hW hu hc hl hr hi
    simp only [closeCs, Option.some.injEq, Prod.mk.injEq] at hc
    obtain ⟨rfl, rfl⟩ := hc
    exact ⟨rfl, rfl, E, Step.refl hW hu, by simp, rfl, rfl⟩
  | cons s l ih =>
    intro l' E hp hp' vs hW hu hc hl hr hi
    cases vs with
    | nil => simp at hl
    | cons v vs =>
      simp only [closeCs] at hc
      split at hc
      rotate_left
      · cases hc
      rename_i c' h1 hc1
      split at hc
      rotate_left
      · cases hc
      rename_i r' h2 hc2
      cases hc
      obtain ⟨e1, E1, st1, rep1, b1, t1⟩ := closeC_sound hW hu hc1 (hr 0 v s rfl rfl) (fun o ho => hi o (by simp [ho]))
      obtain ⟨e2, e3, E2, st2, rep2, b2, t2⟩ := ih st1.wo st1.on hc2 (by simpa using hl) (fun j v' x hv hx => (hr (j + 1) v' x (by simpa using hv) (by simpa using hx)).mono st1.ext) (fun o ho => hi o (by
        simp only [List.flatMap_cons, List.mem_append]; exact .inr ho))
      refine ⟨e2.trans e1, by simp [e3], E2, st1.trans st2, fun j v' x hv hx => ?_, b2.trans b1, t2.trans t1⟩
      cases j with
      | zero =>
        simp only [List.getElem?_cons_zero, Option.some.injEq] at hv hx
        subst hv; subst hx
        exact rep1.mono st2.ext.m
      | succ j => exact rep2 j v' x (by simpa using hv) (by simpa using hx)

theorem closeC_box {hp hp' : List Ob} {s s' : SV} {o : Nat} {ob : Ob} (hc : closeC hp s = some (s', hp')) (ho : hp[o]? = some ob) (hb : ob.box = true) : hp'[o]? = some ob := by
  cases s with
  | osl o1 g off len =>
    simp only [closeC] at hc
    split at hc
    rotate_left
    · cases hc
    rename_i ob1 h1
    split at hc
    rotate_left
    · cases hc
    rename_i h2
    cases hc
    rw [fz, set_get hp o1 o _ ob1 h1]
    have : o ≠ o1 := by
      rintro rfl
      rw [h1] at ho
      cases ho
      rw [hb] at h2
      cases h2.1
    rw [if_neg this]; exact ho
  | agg b l => cases b <;> simp [closeC] at hc; rw [← hc.2]; exact ho
  | junk => simp [closeC] at hc
  | undef => simp [closeC] at hc
  | ref _ _ _ _ => simp [closeC] at hc
  | tup _ => simp [closeC] at hc
  | _ => simp only [closeC, Option.some.injEq, Prod.mk.injEq] at hc; rw [← hc.2]; exact ho

theorem closeCs_box {l l' : List SV} : ∀ {hp hp' : List Ob} {o : Nat} {ob : Ob}, closeCs hp l = some (l', hp') → hp[o]? = some ob → ob.box = true → hp'[o]? = some ob := by
  induction l generalizing l' with
  | nil => intro hp hp' o ob hc ho hb; simp only [closeCs, Option.some.injEq, Prod.mk.injEq] at hc; rw [← hc.2]; exact ho
  | cons s l ih =>
    intro hp hp' o ob hc ho hb
    simp only [closeCs] at hc
    split at hc
    rotate_left
    · cases hc
    rename_i c' h1 hc1
    split at hc
    rotate_left
    · cases hc
    rename_i r' h2 hc2
    cases hc
    exact ih hc2 (closeC_box hc1 ho hb) hb

theorem getD0 {l : List (List SV)} {r : List SV} (h : l = [r]) : l.getD 0 [] = r := by subst h; rfl

theorem closeV_sound {U : Nat → Prop} {w0 : World} {own : Nat → Prop} {E : Env} {w : World} {hp hp' : List Ob} {v : Value} {s s' : SV} (hW : W w0 own E w) (hu : ∀ o, U o → E.H o = hp[o]?)
    (hc : closeV hp s = some (s', hp')) (hr : RelV E v s) (hi : ∀ o ∈ idsV hp s, U o) : hp'.length = hp.length ∧ ∃ E', Step U w0 own E E' w hp' ∧ Rep E'.m v s' ∧ E'.β = E.β ∧ E'.t = E.t := by
  have plain : closeV hp s = closeC hp s → idsV hp s = idsC s → hp'.length = hp.length ∧ ∃ E', Step U w0 own E E' w hp' ∧ Rep E'.m v s' ∧ E'.β = E.β ∧ E'.t = E.t := by
    intro h1 h2
    rw [h1] at hc
    exact closeC_sound hW hu hc hr (by rw [← h2]; exact hi)
  cases s with
  | osl o g off len => exact plain rfl rfl
  | junk => exact plain rfl rfl
  | undef => exact plain rfl rfl
  | ref o g e c =>
    have hU := hi o (by simp [idsV])
    cases hr with
    | rep _ _ hr => cases hr
    | ref _ _ _ _ pb pj ob ho hg hcur =>
      have hho : hp[o]? = some ob := by rw [← hu o hU]; exact ho
      simp only [closeV, hho] at hc
      split at hc
      rotate_left
      · cases hc
      rename_i hbg
      obtain ⟨hb, hgg, he⟩ := hbg
      subst he
      obtain ⟨rfl, rfl⟩ := hcur hgg
      have hk := hW.obs o ob ho
      have h1 := hk.box hb
      obtain ⟨r, hels⟩ : ∃ r, ob.els = [r] := by
        match hq : ob.els, h1 with
        | [r], _ => exact ⟨r, rfl⟩
      have hrl : r.length = ob.sz := hk.rows r (by simp [hels])
      have hflat : ob.els.flatten = r := by simp [hels]
      by_cases hcl : ob.cl = true
      · rw [if_pos hcl] at hc
        cases hc
        obtain ⟨E', a1, a2, a3, a4, a5, a6, a7⟩ := hW.freeze ho
        refine ⟨by simp [fz], E', ⟨a1, a2, fun i hiU => ?_, fun i hiU => ?_⟩, ?_, a4, a5⟩
        · rw [a3, fz, set_get hp o i _ ob hho]
          by_cases hio : i = o
          · simp [hio]
          · simp only [if_neg hio]; exact hu i hiU
        · rw [a3]
          have : i ≠ o := by rintro rfl; exact hiU hU
          simp only [if_neg this]
        · rw [getD0 hels]
          simp only [Nat.zero_mul, Nat.zero_add]
          rcases Nat.eq_zero_or_pos (E.t o) with ht | ht
          · have hf := hk.fit
            have hr0 : r = [] := List.eq_nil_of_length_eq_zero (by rw [hels] at hf; simp at hf; omega)
            have := Rep.dref (m := E'.m) ob.sz r c (E.β o) 0 [] (by simp) (by simp [hr0] at hrl ⊢; omega) hrl (by simp) (by simp)
            simpa using this
          · obtain ⟨cc, ee, hl⟩ := hk.live ht
            have hcs := hl.size
            have hf := hk.fit
            have hsz : ob.sz ≤ cc.size := by rw [hels] at hf; simp at hf; omega
            have := Rep.dref (m := E'.m) ob.sz r c (E.β o) 0 (cc.toList.take ob.sz) (one_list hl.one (fun v hv => List.mem_of_mem_take hv)) (by simp; omega) hrl (fun j x hx => ?_) (fun j x y hx hy => ?_)
            · simpa using this
            · rw [List.getElem?_take] at hx
              split at hx
              · rename_i hj
                rw [Nat.zero_add]
                refine a6 j x ?_ ?_
                · rw [hflat, List.getElem?_eq_getElem (by omega)]; simp
                · rw [cell_of hl.blk]; simpa using hx
              · cases hx
            · rw [List.getElem?_take] at hx
              split at hx
              · exact (hl.clo (.inr hcl) j x y (by simpa using hx) (by rw [hflat]; exact hy)).mono a1.m
              · cases hx
      · rw [if_neg hcl] at hc
        split at hc
        rotate_left
        · cases hc
        rename_i l' h2 hc2
        cases hc
        rw [getD0 hels] at hc2
        have hids : ∀ i ∈ r.flatMap idsC, U i := fun i hi' => hi i (by simp only [idsV, hho, if_neg hcl, getD0 hels, List.mem_cons]; exact .inr hi')
        rcases Nat.eq_zero_or_pos (E.t o) with ht | ht
        · have hf := hk.fit
          have hr0 : r = [] := List.eq_nil_of_length_eq_zero (by rw [hels] at hf; simp at hf; omega)
          subst hr0
          simp only [closeCs, Option.some.injEq, Prod.mk.injEq] at hc2
          obtain ⟨rfl, rfl⟩ := hc2
          have hz : ob.sz = 0 := by simpa using hrl.symm
          obtain ⟨E', a1, a2, a3, a4, a5, a6⟩ := hW.put0 (ob' := { ob with els := [[]], frz := 1, cl := true }) ho ht rfl (Nat.le_refl _) (by simp [hels]) (by simp [hz]) (by simp) (by simp [hz]) (by simp) (by simp)
          refine ⟨by simp, E', ⟨a1, a2, fun i hiU => ?_, fun i hiU => ?_⟩, ?_, a4, a5⟩
          · rw [a3, set_get hp o i _ ob hho]
            by_cases hio : i = o
            · simp [hio]
            · simp only [if_neg hio]; exact hu i hiU
          · rw [a3]
            have : i ≠ o := by rintro rfl; exact hiU hU
            simp only [if_neg this]
          · simp only [Nat.zero_mul, Nat.zero_add]
            have := Rep.dref (m := E'.m) ob.sz [] c (E.β o) 0 [] (by simp) (by simp [hz]) (by simp [hz]) (by simp) (by simp)
            simpa using this
        · obtain ⟨cc, ee, hl⟩ := hk.live ht
          have hcs := hl.size
          have hf := hk.fit
          have hsz : ob.sz ≤ cc.size := by rw [hels] at hf; simp at hf; omega
          obtain ⟨q1, q2, E1, st1, rep1, b1, t1⟩ := closeCs_sound (vs := cc.toList.take ob.sz) hW hu hc2 (by simp; omega) (fun j x y hx hy => by
            rw [List.getElem?_take] at hx
            split at hx
            · exact hl.rel j x y (by simpa using hx) (by rw [hflat]; exact hy)
            · cases hx) hids
          have hE1 : E1.H o = some ob := by rw [st1.on o hU]; exact closeCs_box hc2 hho hb
          have hl1 : Live w0.heap.size own E1 w o ob cc ee := by
            obtain ⟨c1, e1, hl1⟩ := (st1.wo.obs o ob hE1).live (by rw [t1]; exact ht)
            have hb := hl1.blk
            rw [b1, hl.blk] at hb
            injection hb with hb
            injection hb with hb1 hb2
            subst hb1; subst hb2
            exact hl1
          have hl'len : l'.length = ob.sz := by rw [q2]; exact hrl
          have hrep : ∀ (k : Nat) (v : Value) (x : SV), cc[k]? = some v → [l'].flatten[k]? = some x → Rep E1.m v x := fun k v x hv hx => by
            have hx' : l'[k]? = some x := by simpa using hx
            have hk' : k < l'.length := by
              rcases Nat.lt_or_ge k l'.length with h | h
              · exact h
              · rw [List.getElem?_eq_none h] at hx'; cases hx'
            refine rep1 k v x ?_ hx'
            rw [List.getElem?_take, if_pos (by omega)]
            simpa using hv
          obtain ⟨E', a1, a2, a3, a4, a5, a6, a7⟩ := st1.wo.put (w' := w) (ob' := { ob with els := [l'], frz := 1, cl := true }) hE1 hl1 rfl rfl rfl rfl (fun _ _ => rfl) hl1.blk rfl rfl (Nat.le_refl _) (by simp [hels])
            (by have := hk.frz; rw [hels] at this; simpa using this) (fun _ _ => rfl) (by simp [hl'len]) (by simp) (by simpa using hsz) (by simp) (by simp) hl1.one (fun k v x hv hx => .rep v x (hrep k v x hv hx)) (fun _ => hrep)
          have ho2 : h2[o]? = some ob := by rw [← st1.on o hU]; exact hE1
          refine ⟨by simp [q1], E', ⟨st1.ext.trans a1, a2, fun i hiU => ?_, fun i hiU => ?_⟩, ?_, a4.trans b1, a5.trans t1⟩
          · rw [a3, set_get h2 o i _ ob ho2]
            by_cases hio : i = o
            · simp [hio]
            · simp only [if_neg hio]; exact st1.on i hiU
          · rw [a3]
            have : i ≠ o := by rintro rfl; exact hiU hU
            simp only [if_neg this]; exact st1.off i hiU
          · simp only [Nat.zero_mul, Nat.zero_add]
            have := Rep.dref (m := E'.m) ob.sz l' c (E.β o) 0 (cc.toList.take ob.sz) (one_list hl1.one (fun v hv => List.mem_of_mem_take hv)) (by simp; omega) hl'len (fun j x hx => ?_) (fun j x y hx hy => ?_)
            · simpa using this
            · rw [List.getElem?_take] at hx
              split at hx
              · rename_i hj
                rw [Nat.zero_add, ← b1, a6 j (by simpa using hj)]
                simpa using hx
              · cases hx
            · exact (rep1 j x y hx hy).mono a1.m
  | tup l => exact plain rfl rfl
  | agg b l =>
    cases b with
    | true => exact plain rfl rfl
    | false =>
      simp only [closeV] at hc
      split at hc
      rotate_left
      · cases hc
      rename_i l' h hcs
      cases hc
      cases hr with
      | rep _ _ hr => cases hr
      | agg vs _ ho hl hrel =>
        obtain ⟨a1, a2, E', st, rep, b, t⟩ := closeCs_sound hW hu hcs hl hrel hi
        exact ⟨a1, E', st, Rep.agg vs l' ho (by omega) rep, b, t⟩
  | bool b => exact plain rfl rfl
  | int k n => exact plain rfl rfl
  | float k b => exact plain rfl rfl
  | str s => exact plain rfl rfl
  | nilp => exact plain rfl rfl
  | nils => exact plain rfl rfl
  | fn f => exact plain rfl rfl
  | dref z l c => exact plain rfl rfl
  | dsl z l => exact plain rfl rfl
end Go.Proofs.Ytadmdmhocglkfaa.Abs
