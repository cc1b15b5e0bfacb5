/- What an abstract operation does not touch stays; a row of steps seen through the set of those that are done. -/
import Derived.Test.YtadmdmhocglkfaaAbsI
set_option linter.unusedSimpArgs false
set_option linter.unusedVariables false
namespace Go.Proofs.Ytadmdmhocglkfaa.Abs
open Go Go.RowKit

theorem set_other {hp : List Ob} {o i : Nat} {ob : Ob} (h : i ≠ o) : (hp.set o ob)[i]? = hp[i]? := by
  rw [List.getElem?_set_ne (Ne.symm h)]
theorem app_other {hp : List Ob} {i : Nat} {ob : Ob} (h : i ≠ hp.length) : (hp ++ [ob])[i]? = hp[i]? := by
  rcases Nat.lt_or_ge i hp.length with h1 | h1
  · rw [List.getElem?_append_left h1]
  · rw [List.getElem?_append_right h1, List.getElem?_eq_none (show hp.length ≤ i by omega), List.getElem?_eq_none]
    simp; omega

theorem closeC_frame {hp h : List Ob} {x x' : SV} (hc : closeC hp x = some (x', h)) : h.length = hp.length ∧ ∀ i, i ∉ idsC x → h[i]? = hp[i]? := by
  cases x with
  | osl o g off len =>
    simp only [closeC] at hc
    split at hc
    · split at hc
      · cases hc
        exact ⟨by simp [fz], fun i hi => by simp only [idsC, List.mem_singleton] at hi; exact set_other hi⟩
      · cases hc
    · cases hc
  | agg b l => cases b <;> simp [closeC] at hc; obtain ⟨_, rfl⟩ := hc; exact ⟨rfl, fun _ _ => rfl⟩
  | _ => first | (simp [closeC] at hc; done) | (simp [closeC] at hc; obtain ⟨_, rfl⟩ := hc; exact ⟨rfl, fun _ _ => rfl⟩)

theorem closeCs_frame {l : List SV} : ∀ {hp h : List Ob} {l' : List SV}, closeCs hp l = some (l', h) → h.length = hp.length ∧ ∀ i, i ∉ l.flatMap idsC → h[i]? = hp[i]? := by
  induction l with
  | nil => intro hp h l' hc; simp only [closeCs, Option.some.injEq, Prod.mk.injEq] at hc; obtain ⟨_, rfl⟩ := hc; exact ⟨rfl, fun _ _ => rfl⟩
  | cons c r ih =>
    intro hp h l' hc
    simp only [closeCs] at hc
    split at hc
    · rename_i c' h1 h2
      split at hc
      · rename_i r' h3 h4
        cases hc
        obtain ⟨a1, a2⟩ := closeC_frame h2
        obtain ⟨b1, b2⟩ := ih h4
        refine ⟨b1.trans a1, fun i hi => ?_⟩
        simp only [List.flatMap_cons, List.mem_append, not_or] at hi
        rw [b2 i hi.2, a2 i hi.1]
      · cases hc
    · cases hc

theorem closeV_frame {hp h : List Ob} {x x' : SV} (hc : closeV hp x = some (x', h)) : h.length = hp.length ∧ ∀ i, i ∉ idsV hp x → h[i]? = hp[i]? := by
  have gen : closeC hp x = some (x', h) → idsV hp x = idsC x → h.length = hp.length ∧ ∀ i, i ∉ idsV hp x → h[i]? = hp[i]? := fun h1 h2 => by rw [h2]; exact closeC_frame h1
  cases x with
  | agg b l =>
    cases b with
    | true => exact gen hc rfl
    | false =>
      simp only [closeV] at hc
      split at hc
      · rename_i l' h1 h2; cases hc; exact closeCs_frame h2
      · cases hc
  | ref o g e c =>
    simp only [closeV] at hc
    split at hc
    rotate_left
    · cases hc
    rename_i ob ho
    split at hc
    rotate_left
    · cases hc
    split at hc
    · cases hc
      refine ⟨by simp [fz], fun i hi => ?_⟩
      simp only [idsV, List.mem_cons, not_or] at hi
      exact set_other hi.1
    · rename_i hcl
      split at hc
      rotate_left
      · cases hc
      rename_i l' h1 h2
      cases hc
      obtain ⟨a1, a2⟩ := closeCs_frame h2
      refine ⟨by simp [a1], fun i hi => ?_⟩
      simp only [idsV, ho, hcl, List.mem_cons, not_or] at hi
      rw [set_other hi.1]
      exact a2 i (by simpa using hi.2)
  | _ => exact gen hc rfl

theorem closeVs_frame {l : List SV} : ∀ {hp h : List Ob} {l' : List SV}, closeVs hp l = some (l', h) → h.length = hp.length ∧ ∀ i, i ∉ idsVs hp l → h[i]? = hp[i]? := by
  induction l with
  | nil => intro hp h l' hc; simp only [closeVs, Option.some.injEq, Prod.mk.injEq] at hc; obtain ⟨_, rfl⟩ := hc; exact ⟨rfl, fun _ _ => rfl⟩
  | cons c r ih =>
    intro hp h l' hc
    simp only [closeVs] at hc
    split at hc
    · rename_i c' h1 h2
      split at hc
      · rename_i r' h3 h4
        cases hc
        obtain ⟨a1, a2⟩ := closeV_frame h2
        obtain ⟨b1, b2⟩ := ih h4
        refine ⟨b1.trans a1, fun i hi => ?_⟩
        simp only [idsVs, h2, List.mem_append, not_or] at hi
        rw [b2 i hi.2, a2 i hi.1]
      · cases hc
    · cases hc

section
variable {s : St}

theorem touchD_none {op : AOp} (h : touches op = false) : touchD s op = [] := by
  cases op <;> first | (simp [touches] at h; done) | rfl

theorem val_hp {o : Option SV} {e : Eff} (h : s.val o = some e) : e.hp = s.hp := by
  cases o <;> simp [St.val] at h
  subst h; rfl

theorem absLoad_hp {ag : Bool} {n : Nat} {x : SV} {e : Eff} {hp : List Ob} (h : absLoad hp ag n x = some e) : e.hp = hp := by
  unfold absLoad at h
  repeat' (split at h)
  all_goals first | (cases h; rfl) | (cases h; done)

theorem absSlc_hp {z : Nat} {x : SV} {lo hi : Option AX} {e : Eff} (h : absSlc s z x lo hi = some e) : e.hp = s.hp := by
  unfold absSlc at h
  repeat' (split at h)
  all_goals first | (cases h; rfl) | (cases h; done)

theorem absLen_hp {st : Bool} {x : SV} {e : Eff} {hp : List Ob} (h : absLen hp st x = some e) : e.hp = hp := by
  unfold absLen at h
  repeat' (split at h)
  all_goals first | (cases h; rfl) | (cases h; done)

theorem absOp_frame {op : AOp} {e : Eff} (h : absOp s op = some e) : ∀ i, i ∉ chgD s op → e.hp[i]? = s.hp[i]? := by
  intro i hi
  cases op with
  | new cells =>
    simp only [absOp, Option.some.injEq] at h; subst h
    simp [chgD, reader, touchD, usesO, creates] at hi
    exact app_other hi
  | box x =>
    simp only [absOp, Option.some.injEq] at h; subst h
    simp [chgD, reader, touchD, usesO, creates] at hi
    exact app_other hi
  | mk sz bytes zero l c =>
    simp only [absOp] at h
    split at h
    · cases h
      simp [chgD, reader, touchD, usesO, creates] at hi
      exact app_other hi
    · cases h
  | bslice sz ps =>
    simp only [absOp] at h
    split at h
    · rename_i rows hh hr
      cases h
      obtain ⟨l', h1, _, _⟩ := closeRows_eq hr
      obtain ⟨a1, a2⟩ := closeVs_frame h1
      simp [chgD, reader, touchD, usesO, creates] at hi
      rw [app_other (by rw [a1]; exact hi.2)]
      exact a2 i hi.1
    · cases h
  | load ag n x => simp only [absOp] at h; rw [absLoad_hp h]
  | slc z x lo hi => simp only [absOp] at h; rw [absSlc_hp h]
  | len st x => simp only [absOp] at h; rw [absLen_hp h]
  | store n x y =>
    simp only [absOp, absStore] at h
    split at h
    rotate_left
    · cases h
    rename_i o g e0 c ha
    split at h
    rotate_left
    · cases h
    split at h
    rotate_left
    · cases h
    simp only [chgD, reader, touchD, usesO, creates, Bool.false_eq_true, if_false, List.append_nil, List.mem_append, not_or, ha, idsC, List.mem_singleton] at hi
    split at h
    · cases h
      exact set_other hi.1
    · split at h
      rotate_left
      · cases h
      rename_i x' hh hcv
      split at h
      rotate_left
      · cases h
      split at h
      rotate_left
      · cases h
      cases h
      obtain ⟨a1, a2⟩ := closeV_frame hcv
      show (hh.set o _)[i]? = _
      rw [set_other hi.1]
      exact a2 i hi.2
  | app sz bytes x y =>
    simp only [absOp, absApp] at h
    split at h
    rotate_left
    · cases h
    split at h
    · rename_i ha
      cases h
      simp only [chgD, reader, touchD, usesO, creates, Bool.false_eq_true, if_false, if_true, ha, List.mem_append, not_or, List.mem_singleton] at hi
      exact app_other hi.2
    · rename_i o g off len ha
      split at h
      rotate_left
      · cases h
      split at h
      rotate_left
      · cases h
      cases h
      simp only [chgD, reader, touchD, usesO, creates, Bool.false_eq_true, if_false, ha, List.mem_append, not_or, idsC, List.mem_singleton] at hi
      exact set_other hi.1.1
    · cases h
  | iad sz x y =>
    simp only [absOp] at h
    split at h
    · cases h; rfl
    · cases h
  | build zero parts => simp only [absOp, Option.some.injEq] at h; subst h; rfl
  | call f args => simp [absOp] at h
  | callv fs x args => simp [absOp] at h
  | fld ag off n x =>
    simp only [absOp] at h
    split at h
    · cases h; rfl
    · cases h
  | _ =>
    simp only [absOp] at h
    first
      | (rw [val_hp h]; done)
      | (repeat' (split at h)
         all_goals first | (rw [val_hp h]; done) | (cases h; done))

theorem does_frame {C : Nat → List SV → SV → Prop} {o : AOper} {v : SV} {hp : List Ob} {q : Prop} (h : Does C o s v hp q) : ∀ i, i ∉ chgD s o.op → hp[i]? = s.hp[i]? := by
  intro i hi
  rcases h with ⟨f, args, vs, hop, hcl, _⟩ | ⟨e, he, _, _, rfl, _⟩
  · rcases hop with hop | ⟨fs, x, hop, _, _⟩ <;>
    · rw [hop] at hi
      simp only [chgD, reader, touchD, usesO, creates, Bool.false_eq_true, if_false, List.append_nil] at hi
      exact (closeVs_frame hcl).2 i hi
  · exact absOp_frame he i hi
end

/-! ### A row of steps, of which only some are done -/
section
variable {X : Type} (f : Nat → Nat → X) (wr : Nat → Nat → Bool)

/-- A place's value when of the first k steps those of L are done. -/
def atL (L : Nat → Bool) : Nat → Nat → X
  | 0, p => f 0 p
  | k + 1, p => if L k && wr k p then f (k + 1) p else atL L k p

variable {f wr}

theorem atL_all {L : Nat → Bool} (hf : ∀ k p, wr k p = false → f (k + 1) p = f k p) {p : Nat} : ∀ {k : Nat}, (∀ j, j < k → wr j p = true → L j = true) → atL f wr L k p = f k p := by
  intro k
  induction k with
  | zero => intro _; rfl
  | succ k ih =>
    intro h
    simp only [atL]
    cases hw : wr k p with
    | true => simp [h k (Nat.lt_succ_self k) hw]
    | false => simp only [Bool.and_false, Bool.false_eq_true, if_false]; rw [hf k p hw]; exact ih (fun j hj => h j (Nat.lt_succ_of_lt hj))

theorem atL_read {L : Nat → Bool} (hf : ∀ k p, wr k p = false → f (k + 1) p = f k p) {p i : Nat} (h1 : ∀ j, j < i → wr j p = true → L j = true) : ∀ {n : Nat}, i ≤ n → (∀ k, i ≤ k → k < n → wr k p = true → L k = false) → atL f wr L n p = f i p := by
  intro n
  induction n with
  | zero => intro hi _; have : i = 0 := by omega
            subst this; rfl
  | succ n ih =>
    intro hi h2
    by_cases hn : i = n + 1
    · subst hn; exact atL_all hf h1
    · simp only [atL]
      have := ih (by omega) (fun k hk hkn => h2 k hk (by omega))
      cases hw : wr n p with
      | true => simp [h2 n (by omega) (by omega) hw, this]
      | false => simp [this]

theorem atL_write {L : Nat → Bool} {p i : Nat} (hL : L i = true) (hw : wr i p = true) : ∀ {n : Nat}, i < n → (∀ k, i < k → k < n → wr k p = true → L k = false) → atL f wr L n p = f (i + 1) p := by
  intro n
  induction n with
  | zero => intro hi; omega
  | succ n ih =>
    intro hi h2
    simp only [atL]
    by_cases hn : i = n
    · subst hn; simp [hL, hw]
    · have := ih (by omega) (fun k hk hkn => h2 k hk (by omega))
      cases hw' : wr n p with
      | true => simp [h2 n (by omega) (by omega) hw', this]
      | false => simp [this]

theorem atL_keep {L L' : Nat → Bool} {p i : Nat} (hL : ∀ k, k ≠ i → L' k = L k) (hw : wr i p = false) : ∀ {n : Nat}, atL f wr L' n p = atL f wr L n p := by
  intro n
  induction n with
  | zero => rfl
  | succ n ih =>
    simp only [atL]
    by_cases hn : n = i
    · subst hn; simp [hw, ih]
    · rw [hL n hn, ih]

theorem atL_none {L : Nat → Bool} (hL : ∀ k, L k = false) {p : Nat} : ∀ {n : Nat}, atL f wr L n p = f 0 p := by
  intro n
  induction n with
  | zero => rfl
  | succ n ih => simp [atL, hL n, ih]
end

/-! ### Which operations stand ahead of which -/
def Down (ops : Array Oper) (L : Nat → Bool) : Prop := ∀ j o, ops[j]? = some o → L j = true → ∀ e ∈ o.after, Region.binds .any e = true → L e.on = true

theorem msk_spec {acc : List Nat} {i : Nat} : ∀ {es : List Edge}, (msk acc es).testBit i = true → ∃ e ∈ es, Region.binds .any e = true ∧ (i = e.on ∨ (acc.getD e.on 0).testBit i = true) := by
  intro es
  induction es with
  | nil => intro h; simp [msk] at h
  | cons e r ih =>
    intro h
    simp only [msk] at h
    split at h
    · rename_i hb
      simp only [Nat.testBit_or, Bool.or_eq_true, Nat.testBit_two_pow, decide_eq_true_eq] at h
      rcases h with (h | h) | h
      · obtain ⟨e', h1, h2⟩ := ih h; exact ⟨e', List.mem_cons_of_mem _ h1, h2⟩
      · exact ⟨e, List.mem_cons_self, hb, .inl h.symm⟩
      · exact ⟨e, List.mem_cons_self, hb, .inr h⟩
    · obtain ⟨e', h1, h2⟩ := ih h; exact ⟨e', List.mem_cons_of_mem _ h1, h2⟩

theorem msks_spec {ops : Array Oper} {L : Nat → Bool} (hL : Down ops L) : ∀ (l : List Oper) (acc : List Nat), (∀ (j : Nat) o, l[j]? = some o → ops[acc.length + j]? = some o) →
    (∀ k i, (acc.getD k 0).testBit i = true → L k = true → L i = true) → ∀ k i, ((msks l acc).getD k 0).testBit i = true → L k = true → L i = true := by
  intro l
  induction l with
  | nil => intro acc _ h; exact h
  | cons o l ih =>
    intro acc hget h
    refine ih (acc ++ [msk acc o.after.toList]) (fun j o' hj => ?_) (fun k i hb hk => ?_)
    · have := hget (j + 1) o' (by simpa using hj)
      rwa [List.length_append, List.length_singleton, show acc.length + 1 + j = acc.length + (j + 1) by omega]
    · by_cases hka : k < acc.length
      · rw [List.getD_eq_getElem?_getD, List.getElem?_append_left hka, ← List.getD_eq_getElem?_getD] at hb
        exact h k i hb hk
      · by_cases hke : k = acc.length
        · subst hke
          rw [List.getD_eq_getElem?_getD, List.getElem?_append_right (Nat.le_refl _)] at hb
          simp only [Nat.sub_self, List.getElem?_cons_zero, Option.getD_some] at hb
          obtain ⟨e, he, hbn, hi⟩ := msk_spec hb
          have h0 : ops[acc.length]? = some o := by simpa using hget 0 o rfl
          have hLe := hL _ o h0 hk e (Array.mem_def.2 he) hbn
          rcases hi with rfl | hi
          · exact hLe
          · exact h _ i hi hLe
        · rw [List.getD_eq_getElem?_getD, List.getElem?_append_right (by omega), List.getElem?_eq_none (by simp; omega)] at hb
          simp at hb
end Go.Proofs.Ytadmdmhocglkfaa.Abs
