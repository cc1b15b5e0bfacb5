/- Stores. -/
import Derived.Test.YtadmdmhocglkfaaAbsQ
set_option linter.unusedSimpArgs false
set_option linter.unusedVariables false
namespace Go.Proofs.Ytadmdmhocglkfaa.Abs
open Go Go.RowKit

section
variable {P : Program} {U : Nat → Prop} {w0 : World} {own : Nat → Prop} {E : Env} {w : World} {s : St} {a : Act}

theorem mid_get {α : Type} (l new : List α) (p : Nat) (hp : p + new.length ≤ l.length) (k : Nat) : (l.take p ++ new ++ l.drop (p + new.length))[k]? = if p ≤ k ∧ k < p + new.length then new[k - p]? else l[k]? := by
  by_cases h1 : k < p
  · rw [if_neg (by omega), List.append_assoc, List.getElem?_append_left (by simp; omega), List.getElem?_take, if_pos h1]
  · rw [List.append_assoc, List.getElem?_append_right (by simp; omega)]
    have hm : (l.take p).length = p := by simp; omega
    rw [hm]
    by_cases h2 : k < p + new.length
    · rw [if_pos (by omega), List.getElem?_append_left (by omega)]
    · rw [if_neg (by omega), List.getElem?_append_right (by omega), List.getElem?_drop]
      congr 1
      omega

theorem splice_eq {sz n c : Nat} {cells new : List SV} (h1 : cells.length = sz) (h2 : c + n ≤ sz) (h3 : new.length = n) (h4 : 0 < n) : splice sz n c cells new = cells.take c ++ new ++ cells.drop (c + new.length) := by
  unfold splice
  split
  · rename_i h
    have : c = 0 := by omega
    subst this
    simp only [List.take_zero, List.nil_append, Nat.zero_add]
    rw [List.drop_eq_nil_of_le (by omega), List.append_nil]
  · split
    · rename_i h5 h6
      subst h6
      match new, h3 with
      | [x], _ =>
        simp only [List.getD_cons_zero, List.length_singleton]
        rw [List.set_eq_take_append_cons_drop, if_pos (by omega)]
        simp
    · rw [h3]

theorem splice_len {sz n c : Nat} {cells new : List SV} (h1 : cells.length = sz) (h2 : c + n ≤ sz) (h3 : new.length = n) (h4 : 0 < n) : (splice sz n c cells new).length = sz := by
  rw [splice_eq h1 h2 h3 h4]
  simp only [List.length_append, List.length_take, List.length_drop]
  omega

theorem set_flat {sz e : Nat} {els : List (List SV)} {row : List SV} (hr : ∀ r ∈ els, r.length = sz) (he : e < els.length) : (els.set e row).flatten = els.flatten.take (e * sz) ++ row ++ els.flatten.drop (e * sz + sz) := by
  rw [List.set_eq_take_append_cons_drop, if_pos he, List.flatten_append, List.flatten_cons, flat_take hr, flat_drop hr, Nat.succ_mul, List.append_assoc]

/-- One element's cells replaced, seen in the row. -/
theorem els_get {sz e c n : Nat} {els : List (List SV)} {new : List SV} (hr : ∀ r ∈ els, r.length = sz) (he : e < els.length) (h2 : c + n ≤ sz) (h3 : new.length = n) (h4 : 0 < n) (k : Nat) :
    (els.set e (splice sz n c (els.getD e []) new)).flatten[k]? = if e * sz + c ≤ k ∧ k < e * sz + c + n then new[k - (e * sz + c)]? else els.flatten[k]? := by
  have hel : els[e]? = some (els.getD e []) := by simp [List.getD, List.getElem?_eq_getElem he]
  have hrl := hr _ (List.mem_of_getElem? hel)
  have hfl := flat_len hr
  have hmul : (e + 1) * sz ≤ els.length * sz := Nat.mul_le_mul_right _ he
  rw [Nat.succ_mul] at hmul
  have hrow : (splice sz n c (els.getD e []) new).length = sz := splice_len hrl h2 h3 h4
  rw [set_flat hr he]
  have hd : e * sz + sz = e * sz + (splice sz n c (els.getD e []) new).length := by omega
  rw [hd, mid_get _ _ _ (by omega)]
  by_cases h5 : e * sz ≤ k ∧ k < e * sz + sz
  · rw [if_pos (by omega), splice_eq hrl h2 h3 h4, mid_get _ _ _ (by omega)]
    by_cases h6 : e * sz + c ≤ k ∧ k < e * sz + c + n
    · rw [if_pos h6, if_pos (by omega), show k - (e * sz) - c = k - (e * sz + c) by omega]
    · rw [if_neg h6, if_neg (by omega)]
      have := flat_get hr e (k - e * sz) (by omega)
      rw [hel, show e * sz + (k - e * sz) = k by omega] at this
      exact this.symm
  · rw [if_neg (by omega), if_neg (by omega)]

/-- A store into an object, in the world. -/
theorem store_ob (h : W w0 own E w) {o e c : Nat} {ob ob' : Ob} {vs : List Value} {new : List SV} (ho : E.H o = some ob) (he : e < ob.els.length) (hcn : c + vs.length ≤ ob.sz) (hpos : 0 < vs.length) (hlen : new.length = vs.length) (hfz : ob.frz ≤ e)
    (hone : ∀ v ∈ vs, v.oneCell' = true) (hob' : ob'.els = ob.els.set e (splice ob.sz vs.length c (ob.els.getD e []) new)) (hz : ob'.sz = ob.sz) (hg : ob'.gen = ob.gen) (hf : ob'.frz = ob.frz) (hb : ob'.box = ob.box)
    (hrel : ∀ (j : Nat) (v : Value) (x : SV), vs[j]? = some v → new[j]? = some x → RelV E v x)
    (hclo : (ob'.box = false ∨ ob'.cl = true) → (∀ (j : Nat) (v : Value) (x : SV), vs[j]? = some v → new[j]? = some x → Rep E.m v x) ∧ ((ob.box = false ∨ ob.cl = true) ∨ (vs.length = ob.sz ∧ ob.els.length = 1))) :
    ∃ w' E', (storeCells ⟨E.β o, e * ob.sz + c, none⟩ vs).run P w = .ok () w' ∧ Ext E E' ∧ W w0 own E' w' ∧ E'.H = (fun i => if i = o then some ob' else E.H i) ∧ w'.heap.size = w.heap.size := by
  have hk := h.obs o ob ho
  have hmul : (e + 1) * ob.sz ≤ ob.els.length * ob.sz := Nat.mul_le_mul_right _ he
  rw [Nat.succ_mul] at hmul
  have hf1 := hk.fit
  have ht : 0 < E.t o := by omega
  obtain ⟨cc, ee, hl⟩ := hk.live ht
  have hcs := hl.size
  have hrun := run_storeCells_at P (E.β o) (e * ob.sz + c) ee vs 0 cc w hl.blk (by omega) hone
  simp only [Nat.add_zero] at hrun
  have hcget : ∀ k, (cc.toList.take (e * ob.sz + c) ++ vs ++ cc.toList.drop (e * ob.sz + c + vs.length)).toArray[k]? = if e * ob.sz + c ≤ k ∧ k < e * ob.sz + c + vs.length then vs[k - (e * ob.sz + c)]? else cc[k]? := by
    intro k
    have := mid_get cc.toList vs (e * ob.sz + c) (by simp; omega) k
    simpa using this
  have heget : ∀ k, ob'.els.flatten[k]? = if e * ob.sz + c ≤ k ∧ k < e * ob.sz + c + vs.length then new[k - (e * ob.sz + c)]? else ob.els.flatten[k]? := by
    intro k
    rw [hob']
    exact els_get hk.rows he hcn hlen hpos k
  have hel : ob.els[e]? = some (ob.els.getD e []) := by simp [List.getD, List.getElem?_eq_getElem he]
  have hrl := hk.rows _ (List.mem_of_getElem? hel)
  have hmulf : ob.frz * ob.sz ≤ e * ob.sz := Nat.mul_le_mul_right _ hfz
  obtain ⟨E', a1, a2, a3, a4, a5, a6, a7⟩ := h.put (w' := w.setRow (E.β o) (cc.toList.take (e * ob.sz + c) ++ vs ++ cc.toList.drop (e * ob.sz + c + vs.length)).toArray) (ob' := ob') ho hl rfl rfl rfl (by simp)
    (fun k hk => setRow_other w (E.β o) k _ hk) (setRow_heap w (E.β o) cc _ ee _ hl.blk) (by simp; omega) hz (by omega) (by rw [hob']; simp) (by omega)
    (fun j hj => by rw [hcget j, if_neg (by omega)])
    (fun r hr => by
      rw [hob'] at hr
      rw [hz]
      rcases List.mem_or_eq_of_mem_set hr with hr | hr
      · exact hk.rows r hr
      · rw [hr]; exact splice_len hrl hcn hlen hpos)
    (by rw [hf, hob']; simpa using hk.frz) (by rw [hob']; simp; omega) (fun hbx => by rw [hob']; simpa using hk.box (hb ▸ hbx)) (by rw [hob']; simpa using hk.bnd)
    (fun k v hv => by
      rw [hcget k] at hv
      split at hv
      · exact hone v (List.mem_of_getElem? hv)
      · exact hl.one k v hv)
    (fun k v x hv hx => by
      rw [hcget k] at hv
      rw [heget k] at hx
      split at hv
      · rename_i hin
        rw [if_pos hin] at hx
        exact hrel _ v x hv hx
      · rename_i hin
        rw [if_neg hin] at hx
        exact hl.rel k v x hv hx)
    (fun hbc k v x hv hx => by
      obtain ⟨b1, b2⟩ := hclo hbc
      rw [hcget k] at hv
      rw [heget k] at hx
      split at hv
      · rename_i hin
        rw [if_pos hin] at hx
        exact b1 _ v x hv hx
      · rename_i hin
        rw [if_neg hin] at hx
        rcases b2 with b2 | ⟨b2, b3⟩
        · exact hl.clo b2 k v x hv hx
        · have hfl := flat_len hk.rows
          have hkl : k < ob.els.flatten.length := by
            rcases Nat.lt_or_ge k ob.els.flatten.length with h' | h'
            · exact h'
            · rw [List.getElem?_eq_none h'] at hx; cases hx
          rw [hfl, b3] at hkl
          have he0 : e = 0 := by omega
          have hc0 : c = 0 := by omega
          subst he0; subst hc0
          exfalso
          apply hin
          omega)
  exact ⟨_, E', hrun, a1, a2, a3, by simp⟩

theorem run_storeAt {t : TypeId} {b o : Nat} {v : Value} {vs : List Value} {i : TypeInfo} {w' : World} (hi : P.info? t = some i) (hv : v.cells = vs.toArray) (hn : vs.length = P.cellsOf t) (hr : (storeCells ⟨b, o, none⟩ vs).run P w = .ok () w') :
    (Instr.storeAt t (.pointer (some ⟨b, o, none⟩)) v).run P w = .ok () w' := by
  have hsz := run_sizeOf (P := P) w hi
  simp [Instr.storeAt, Instr.sureAddr, storeVar, hsz, hv, hn, hr]

theorem store_sound {t : TypeId} {ag : Bool} {av xv : Value} {ax x : SV} {eff : Eff} (hW : W w0 own E w) (hu : ∀ o, U o → E.H o = s.hp[o]?) (hag : isAggT P t = some ag) (hpos : 0 < P.cellsOf t)
    (he : absStore s.hp (P.cellsOf t) ax x = some eff) (hob : eff.ob) (hax : RelV E av ax) (hx : RelV E xv x) (hi : ∀ o ∈ idsC ax, U o) (hi2 : ∀ o ∈ idsV s.hp x, U o) :
    ∃ w' E', (Instr.storeAt t av xv).run P w = .ok () w' ∧ Step U w0 own E E' w' eff.hp ∧ w.heap.size ≤ w'.heap.size ∧ eff.val = .undef ∧ eff.as := by
  obtain ⟨inf, hinf⟩ := info_agg hag
  cases ax with
  | ref o g e c =>
    have hU := hi o (by simp [idsC])
    cases hax with
    | rep _ _ hr => cases hr
    | ref _ _ _ _ pb pj ob ho hg hcur =>
      have hho : s.hp[o]? = some ob := by rw [← hu o hU]; exact ho
      simp only [absStore, hho] at he
      split at he
      rotate_left
      · cases he
      rename_i hgg
      obtain ⟨rfl, rfl⟩ := hcur hgg
      split at he
      · rename_i hbox
        cases he
        obtain ⟨rfl, hfz, hcn, hok, hlen⟩ := hob
        obtain ⟨vs, b1, b2, b3, b4, b5⟩ := cells_rel hx hok
        have hone1 := (hW.obs o ob ho).box hbox
        obtain ⟨r, hels⟩ : ∃ r, ob.els = [r] := by
          match hq : ob.els, hone1 with
          | [r], _ => exact ⟨r, rfl⟩
        have hvl : vs.length = P.cellsOf t := by omega
        obtain ⟨w', E', c1, c2, c3, c4, c5⟩ := store_ob (P := P) (e := 0) (c := c) (vs := vs) (new := cellsOf x) (ob' := { ob with els := [splice ob.sz (P.cellsOf t) c (ob.els.getD 0 []) (cellsOf x)], cl := x.closed && (ob.cl || P.cellsOf t == ob.sz) }) hW ho
          (show 0 < ob.els.length by omega) (by omega) (by omega) (by omega) (by omega) b3 (by simp [hels, hvl]) rfl rfl rfl rfl b4 (fun hbc => by
            have hcl : x.closed = true ∧ (ob.cl = true ∨ P.cellsOf t = ob.sz) := by
              rcases hbc with hbc | hbc
              · rw [hbox] at hbc; cases hbc
              · simpa using hbc
            refine ⟨b5 hcl.1, ?_⟩
            rcases hcl.2 with h | h
            · exact .inl (.inr h)
            · exact .inr ⟨by omega, hone1⟩)
        refine ⟨w', E', run_storeAt hinf b1 hvl c1, ⟨c2, c3, fun i hiU => ?_, fun i hiU => ?_⟩, by omega, rfl, trivial⟩
        · rw [c4, set_get s.hp o i _ ob hho]
          by_cases hio : i = o
          · simp [hio]
          · simp only [if_neg hio]; exact hu i hiU
        · rw [c4]
          have : i ≠ o := by rintro rfl; exact hiU hU
          simp only [if_neg this]
      · rename_i hbox
        split at he
        rotate_left
        · cases he
        rename_i x' h hcl
        split at he
        rotate_left
        · cases he
        rename_i ob1 hob1
        split at he
        rotate_left
        · cases he
        rename_i hg1
        cases he
        obtain ⟨hlt, hfz, hcn, hlen, hok⟩ := hob
        obtain ⟨q1, E1, st1, rep1, bb, tt⟩ := closeV_sound hW hu hcl hx hi2
        have hE1 : E1.H o = some ob1 := by rw [st1.on o hU]; exact hob1
        obtain ⟨obz, z1, z2, z3, z4⟩ := st1.ext.H o ob ho
        rw [hE1] at z1; cases z1
        obtain ⟨vs, b1, b2, b3, b4, b5⟩ := cells_rel (.rep _ _ rep1 : RelV E1 xv x') hok
        have hcl' : x'.closed = true := by
          cases rep1 with
          | tup => simp [SV.ok] at hok
          | _ => rfl
        have hvl : vs.length = P.cellsOf t := by omega
        obtain ⟨w', E', c1, c2, c3, c4, c5⟩ := store_ob (P := P) (e := e) (c := c) (vs := vs) (new := cellsOf x') (ob' := { ob1 with els := ob1.els.set e (splice ob1.sz (P.cellsOf t) c (ob1.els.getD e []) (cellsOf x')) }) st1.wo hE1
          hlt (by omega) (by omega) (by omega) hfz b3 (by rw [hvl]) rfl rfl rfl rfl b4 (fun _ => ⟨b5 hcl', .inl (.inl hg1.2)⟩)
        rw [bb, z2] at c1
        have hho1 : h[o]? = some ob1 := hob1
        refine ⟨w', E', run_storeAt hinf b1 hvl c1, ⟨st1.ext.trans c2, c3, fun i hiU => ?_, fun i hiU => ?_⟩, by omega, rfl, trivial⟩
        · rw [c4, set_get h o i _ ob1 hho1]
          by_cases hio : i = o
          · simp [hio]
          · simp only [if_neg hio]; exact st1.on i hiU
        · rw [c4]
          have : i ≠ o := by rintro rfl; exact hiU hU
          simp only [if_neg this]; exact st1.off i hiU
  | _ => simp [absStore] at he
end
end Go.Proofs.Ytadmdmhocglkfaa.Abs
