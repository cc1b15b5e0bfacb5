/- Loads, stores, and the operations that touch no memory: what the model does is what the abstract operation says. -/
import Derived.Test.YtadmdmhocglkfaaAbsO
set_option linter.unusedSimpArgs false
set_option linter.unusedVariables false
namespace Go.Proofs.Ytadmdmhocglkfaa.Abs
open Go Go.RowKit

section
variable {P : Program} {U : Nat → Prop} {w0 : World} {own : Nat → Prop} {E : Env} {w : World} {s : St} {a : Act}

/-- What an operation comes to. -/
def OpRes (P : Program) (sem : Sem Next) (U : Nat → Prop) (w0 : World) (own : Nat → Prop) (E : Env) (w : World) (eff : Eff) : Prop :=
  ∃ v w' E', (sem.run P w = .ok (.value v) w' ∨ (sem.run P w = .ok .skip w' ∧ v = undef)) ∧ RelV E' v eff.val ∧ Step U w0 own E E' w' eff.hp ∧ w.heap.size ≤ w'.heap.size ∧ eff.as

theorem OpRes.pure_ {sem : Sem Next} {v : Value} {eff : Eff} (hW : W w0 own E w) (hu : ∀ o, U o → E.H o = s.hp[o]?) (hr : sem.run P w = .ok (.value v) w) (hv : RelV E v eff.val) (hh : eff.hp = s.hp) (has : eff.as) : OpRes P sem U w0 own E w eff :=
  ⟨v, w, E, .inl hr, hv, by rw [hh]; exact Step.refl hW hu, Nat.le_refl _, has⟩

theorem info_of {t : TypeId} {d : TypeDesc} (h : P.underlying t = some d) : ∃ i, P.info? t = some i := by
  unfold Program.underlying at h
  cases hi : P.info? t with
  | none => simp [hi] at h
  | some i => exact ⟨i, rfl⟩

theorem cellsOf_info {t : TypeId} {i : TypeInfo} (h : P.info? t = some i) : P.cellsOf t = i.size := by simp [Program.cellsOf, h]

theorem run_isAgg_of {t : TypeId} {b : Bool} (h : isAggT P t = some b) (w : World) : (isAgg t).run P w = .ok b w := by
  unfold isAggT at h
  unfold isAgg
  split at h
  · rename_i fs hu; cases h; simp [run_underlying hu]
  · rename_i n e hu; cases h; simp [run_underlying hu]
  · rename_i d h1 h2 hu
    cases h
    simp only [Sem.run_bind, run_underlying hu, Result.andThen_ok]
    cases d <;> first | rfl | (exact absurd rfl (h1 _)) | (exact absurd rfl (h2 _ _))
  · cases h

theorem info_agg {t : TypeId} {b : Bool} (h : isAggT P t = some b) : ∃ i, P.info? t = some i := by
  unfold isAggT at h
  split at h
  · rename_i fs hu; exact info_of hu
  · rename_i n e hu; exact info_of hu
  · rename_i d _ _ hu; exact info_of hu
  · cases h

theorem add_off (b o n : Nat) : (⟨b, o, none⟩ : Addr).add n = ⟨b, o + n, none⟩ := by
  unfold Addr.add; split <;> simp_all

theorem run_loadAt {t : TypeId} {ag : Bool} {b o : Nat} {vs : List Value} (h : isAggT P t = some ag) (hn : vs.length = P.cellsOf t) (h1 : ag = true ∨ P.cellsOf t = 1) (hc : ∀ j v, vs[j]? = some v → w.cell? ⟨b, o + j, none⟩ = some v) :
    (Instr.loadAt t (.pointer (some ⟨b, o, none⟩))).run P w = .ok (if ag then .agg vs.toArray else vs.getD 0 undef) w := by
  obtain ⟨i, hi⟩ := info_agg h
  have hsz := run_sizeOf (P := P) w hi
  cases ag with
  | true =>
    have hl := run_loadCells_list (P := P) w ⟨b, o, none⟩ vs (fun j v hv => by rw [add_off]; exact hc j v hv)
    rw [hn] at hl
    simp [Instr.loadAt, Instr.sureAddr, loadVar, run_isAgg_of h, hsz, hl]
  | false =>
    have h1' : P.cellsOf t = 1 := by simpa using h1
    rw [h1'] at hn
    match vs, hn with
    | [v], _ =>
      have := hc 0 v rfl
      simp [Instr.loadAt, Instr.sureAddr, loadVar, run_isAgg_of h, Nat.add_zero] at this ⊢
      simp [this]

theorem getElem?_drop_some {α : Type} {l : List α} {c j : Nat} {x : α} (h : (l.drop c)[j]? = some x) : l[c + j]? = some x := by rwa [List.getElem?_drop] at h

/-- The cells of an element of an object, in the world. -/
theorem read_ob (h : W w0 own E w) {o e c n : Nat} {ob : Ob} (ho : E.H o = some ob) (he : e < ob.els.length) (hcn : c + n ≤ ob.sz) :
    ∃ vs : List Value, vs.length = n ∧ (∀ j v, vs[j]? = some v → w.cell? ⟨E.β o, e * ob.sz + c + j, none⟩ = some v) ∧ (∀ v ∈ vs, v.oneCell' = true) ∧
      (∀ (j : Nat) (v : Value) (x : SV), vs[j]? = some v → ((ob.els.getD e []).drop c)[j]? = some x → RelV E v x) ∧
      ((!ob.box || ob.cl) = true → ∀ (j : Nat) (v : Value) (x : SV), vs[j]? = some v → ((ob.els.getD e []).drop c)[j]? = some x → Rep E.m v x) := by
  have hk := h.obs o ob ho
  rcases Nat.eq_zero_or_pos n with hn | hn
  · subst hn
    exact ⟨[], rfl, by simp, by simp, by simp, by simp⟩
  · have hpos : 0 < E.t o := by
      have hf := hk.fit
      have : (e + 1) * ob.sz ≤ ob.els.length * ob.sz := Nat.mul_le_mul_right _ he
      rw [Nat.succ_mul] at this
      omega
    obtain ⟨cc, ee, hl⟩ := hk.live hpos
    have hcs := hl.size
    have hf := hk.fit
    have h1 : (e + 1) * ob.sz ≤ ob.els.length * ob.sz := Nat.mul_le_mul_right _ he
    rw [Nat.succ_mul] at h1
    have hget : ∀ j x, ((ob.els.getD e []).drop c)[j]? = some x → c + j < ob.sz ∧ ob.els.flatten[e * ob.sz + (c + j)]? = some x := by
      intro j x hx
      have hx' := getElem?_drop_some hx
      have hel : ob.els[e]? = some (ob.els.getD e []) := by simp [List.getD, List.getElem?_eq_getElem he]
      have hrl := hk.rows _ (List.mem_of_getElem? hel)
      have hj : c + j < ob.sz := by
        rw [← hrl]
        rcases Nat.lt_or_ge (c + j) (ob.els.getD e []).length with h | h
        · exact h
        · rw [List.getElem?_eq_none h] at hx'; cases hx'
      refine ⟨hj, ?_⟩
      rw [flat_get hk.rows e (c + j) hj, hel]
      exact hx'
    refine ⟨(cc.toList.drop (e * ob.sz + c)).take n, by simp; omega, fun j v hv => ?_, one_list hl.one (fun v hv => List.mem_of_mem_drop (List.mem_of_mem_take hv)), fun j v x hv hx => ?_, fun hb j v x hv hx => ?_⟩
    · rw [List.getElem?_take] at hv
      split at hv
      · have := getElem?_drop_some hv
        rw [cell_of hl.blk]; simpa using this
      · cases hv
    · rw [List.getElem?_take] at hv
      split at hv
      · have := getElem?_drop_some hv
        obtain ⟨_, hx'⟩ := hget j x hx
        refine hl.rel (e * ob.sz + (c + j)) v x ?_ hx'
        rw [← Nat.add_assoc]; simpa using this
      · cases hv
    · rw [List.getElem?_take] at hv
      split at hv
      · have := getElem?_drop_some hv
        obtain ⟨_, hx'⟩ := hget j x hx
        refine hl.clo ?_ (e * ob.sz + (c + j)) v x ?_ hx'
        · simpa using hb
        · rw [← Nat.add_assoc]; simpa using this
      · cases hv

/-- What 'cut' stands for. -/
theorem cut_rel {cl ag : Bool} {sz n c : Nat} {cells : List SV} {vs : List Value} (hl : cells.length = sz) (hcn : c + n ≤ sz) (hn : vs.length = n) (h1 : ag = true ∨ n = 1) (hone : ∀ v ∈ vs, v.oneCell' = true)
    (hr : ∀ (j : Nat) (v : Value) (x : SV), vs[j]? = some v → (cells.drop c)[j]? = some x → RelV E v x) (hc : cl = true → ∀ (j : Nat) (v : Value) (x : SV), vs[j]? = some v → (cells.drop c)[j]? = some x → Rep E.m v x) :
    RelV E (if ag then .agg vs.toArray else vs.getD 0 undef) (cut cl sz ag n c cells) := by
  unfold cut
  cases ag with
  | false =>
    have hn1 : n = 1 := by simpa using h1
    simp only [Bool.false_eq_true, if_false]
    have hx : (cells.drop c)[0]? = some (cells.getD c .undef) := by
      rw [List.getElem?_drop, Nat.add_zero, List.getD, List.getElem?_eq_getElem (by omega)]
      rfl
    match vs, hn with
    | [v], _ => exact hr 0 v _ rfl hx
    | [], h => simp at h; omega
    | _ :: _ :: _, h => simp at h; omega
  | true =>
    simp only [if_true]
    have fin : ∀ l : List SV, l.length = n → (∀ (j : Nat) (x : SV), l[j]? = some x → (cells.drop c)[j]? = some x) → RelV E (.agg vs.toArray) (.agg cl l) := by
      intro l hl' hx
      cases cl with
      | true => exact .rep _ _ (.agg vs l hone (by omega) (fun j v x hv hx' => hc rfl j v x hv (hx j x hx')))
      | false => exact .agg vs l hone (by omega) (fun j v x hv hx' => hr j v x hv (hx j x hx'))
    split
    · rename_i he
      have hc0 : c = 0 := by omega
      subst hc0
      exact fin cells (by omega) (fun j x hx => by simpa using hx)
    · refine fin _ (by simp; omega) (fun j x hx => ?_)
      rw [List.getElem?_take] at hx
      split at hx
      · exact hx
      · cases hx

theorem load_sound {t : TypeId} {ag : Bool} {v : Value} {x : SV} {eff : Eff} (hW : W w0 own E w) (hu : ∀ o, U o → E.H o = s.hp[o]?) (hag : isAggT P t = some ag) (h1 : ag = true ∨ P.cellsOf t = 1)
    (he : absLoad s.hp ag (P.cellsOf t) x = some eff) (hob : eff.ob) (hx : RelV E v x) (hi : ∀ o ∈ idsC x, U o) : ∃ u, (Instr.loadAt t v).run P w = .ok u w ∧ RelV E u eff.val ∧ eff.hp = s.hp ∧ eff.as := by
  cases x with
  | ref o g e c =>
    have hU := hi o (by simp [idsC])
    cases hx with
    | rep _ _ hr => cases hr
    | ref _ _ _ _ pb pj ob ho hg hcur =>
      simp only [absLoad] at he
      rw [← hu o hU, ho] at he
      simp only at he
      split at he
      rotate_left
      · cases he
      rename_i hgg
      cases he
      obtain ⟨rfl, rfl⟩ := hcur hgg
      obtain ⟨hlt, hcn⟩ := hob
      obtain ⟨vs, a1, a2, a3, a4, a5⟩ := read_ob hW ho hlt hcn
      have hrl := (hW.obs o ob ho).rows _ (List.mem_of_getElem? (show ob.els[e]? = some (ob.els.getD e []) by simp [List.getD, List.getElem?_eq_getElem hlt]))
      exact ⟨_, run_loadAt hag a1 h1 a2, cut_rel hrl hcn a1 h1 a3 a4 a5, rfl, trivial⟩
  | dref sz l c =>
    have hr := hx.closed_rep rfl
    simp only [absLoad] at he
    cases he
    cases hr with
    | dref _ _ _ b off vs h0 h2 h3 h4 h5 =>
      have hcn : c + P.cellsOf t ≤ sz := hob
      have hsub : ∀ (j : Nat) (v : Value), ((vs.drop c).take (P.cellsOf t))[j]? = some v → vs[c + j]? = some v := by
        intro j v hv
        rw [List.getElem?_take] at hv
        split at hv
        · exact getElem?_drop_some hv
        · cases hv
      refine ⟨_, run_loadAt (vs := (vs.drop c).take (P.cellsOf t)) hag (by simp; omega) h1 (fun j v hv => ?_), cut_rel h3 hcn (by simp; omega) h1 (fun v hv => h0 v (List.mem_of_mem_drop (List.mem_of_mem_take hv)))
        (fun j v x hv hx => .rep v x (h5 _ v x (hsub j v hv) (getElem?_drop_some hx))) (fun _ j v x hv hx => h5 _ v x (hsub j v hv) (getElem?_drop_some hx)), rfl, trivial⟩
      have := hW.mem _ _ _ (h4 _ v (hsub j v hv))
      rw [show off + c + j = off + (c + j) by omega]
      exact this
  | _ => simp [absLoad] at he
end
end Go.Proofs.Ytadmdmhocglkfaa.Abs
