/- Code, and whole functions: 'contract_of_vc'. -/
import Derived.Test.YtadmdmhocglkfaaAbsK
set_option linter.unusedSimpArgs false
set_option linter.unusedVariables false
namespace Go.Proofs.Ytadmdmhocglkfaa.Abs
open Go Go.RowKit

section
variable {P : Program} {w0 : World} {own : Nat → Prop} {M0 : Mem}

def AE.ex : AE → Exit
  | .normal => .normal
  | .exit id => .exit id
  | .ret => .ret

theorem below_rel {E E' : Env} {n : Nat} (hm : E'.m = E.m) (hβ : E'.β = E.β) (ht : E'.t = E.t) (hH : ∀ o, o < n → E'.H o = E.H o) {v : Value} {x : SV} (h : RelV E v x) (hb : below n x = true) : RelV E' v x := by
  cases h with
  | junk => exact .junk _
  | undef => exact .undef
  | rep _ _ hr => exact .rep _ _ (by rw [hm]; exact hr)
  | ref o g e c b j ob h1 h2 h3 =>
    simp only [below, decide_eq_true_eq] at hb
    exact .ref o g e c b j ob (by rw [hH o hb]; exact h1) h2 (by rw [hβ]; exact h3)
  | osl o g off len A k cap ob h1 h2 h3 h4 =>
    simp only [below, decide_eq_true_eq] at hb
    exact .osl o g off len A k cap ob (by rw [hH o hb]; exact h1) h2 h3 (by rw [hβ, ht]; exact h4)
  | agg vs l h0 h1 h2 =>
    simp only [below, List.all_eq_true] at hb
    refine .agg vs l h0 h1 (fun j v x hv hx => ?_)
    have hbx := hb x (List.mem_of_getElem? hx)
    have hone := h0 v (List.mem_of_getElem? hv)
    cases h2 j v x hv hx with
    | junk => exact .junk _
    | undef => exact .undef
    | rep _ _ hr => exact .rep _ _ (by rw [hm]; exact hr)
    | ref o g e c b j ob k1 k2 k3 =>
      simp only [decide_eq_true_eq] at hbx
      exact .ref o g e c b j ob (by rw [hH o hbx]; exact k1) k2 (by rw [hβ]; exact k3)
    | osl o g off len A k cap ob k1 k2 k3 k4 =>
      simp only [decide_eq_true_eq] at hbx
      exact .osl o g off len A k cap ob (by rw [hH o hbx]; exact k1) k2 k3 (by rw [hβ, ht]; exact k4)
    | agg => simp at hbx

theorem wk_sound {s s' : St} (h : Wk s s') : ∀ {E : Env} {a : Act} {w : World}, SR w0 own M0 E s a w → ∃ E', SR w0 own M0 E' s' a w := by
  induction h with
  | refl s => intro E a w hS; exact ⟨E, hS⟩
  | trans _ _ ih1 ih2 => intro E a w hS; obtain ⟨E1, h1⟩ := ih1 hS; exact ih2 h1
  | slots s l hl hv =>
    intro E a w hS
    refine ⟨E, hS.wo, hS.hp, by simpa [hl] using hS.len, fun i => ?_, hS.dfr, hS.z, hS.le⟩
    show RelV E (a.tmps.getD i undef) (l.getD i .undef)
    have := hS.sl i
    rcases Nat.lt_or_ge i l.length with hi | hi
    · have h1 : l[i]? = some l[i] := List.getElem?_eq_getElem hi
      rw [List.getD_eq_getElem?_getD, h1]
      rcases hv i _ h1 with h2 | h2
      · rw [Option.getD_some, h2]; exact .junk _
      · rw [List.getD_eq_getElem?_getD, h2] at this; exact this
    · rw [List.getD_eq_getElem?_getD, List.getElem?_eq_none (by omega)] at this ⊢; exact this
  | trunc s n h1 h2 =>
    intro E a w hS
    let E' : Env := { E with H := fun o => if o < n then E.H o else none }
    have hH : ∀ o, o < n → E'.H o = E.H o := fun o ho => by simp [E', ho]
    have hsome : ∀ o ob, E'.H o = some ob → o < n ∧ E.H o = some ob := fun o ob ho => by
      by_cases hon : o < n
      · exact ⟨hon, by rw [← hH o hon]; exact ho⟩
      · simp [E', hon] at ho
    refine ⟨E', ⟨⟨hS.wo.os, hS.wo.tape, hS.wo.output, hS.wo.size, hS.wo.block, hS.wo.mem, fun o ob ho => ?_, fun o o' ob ob' k1 k2 => hS.wo.inj o o' ob ob' (hsome _ _ k1).2 (hsome _ _ k2).2, hS.wo.keep⟩, fun o => ?_, hS.len, fun i => ?_, hS.dfr, hS.z, hS.le⟩⟩
    · obtain ⟨hon, hE⟩ := hsome o ob ho
      have hk := hS.wo.obs o ob hE
      refine ⟨hk.rows, hk.frz, hk.fit, hk.box, hk.bnd, fun ht => ?_⟩
      obtain ⟨c, e, k⟩ := hk.live ht
      refine ⟨c, e, ⟨k.blk, k.size, k.new, fun j v x hv hx => ?_, k.one, k.old, k.free, k.clo⟩⟩
      by_cases hcl : ob.box = false ∨ ob.cl = true
      · exact .rep _ _ (k.clo hcl j v x hv hx)
      · have hb : ob.box = true := by cases h : ob.box <;> simp [h] at hcl ⊢
        have hc : ob.cl = false := by cases h : ob.cl <;> simp [h] at hcl ⊢
        have hmem : ob ∈ s.hp.take n := by
          refine List.mem_of_getElem? (i := o) ?_
          rw [List.getElem?_take, if_pos hon, ← hS.hp o]; exact hE
        obtain ⟨r, hr, hxr⟩ := List.mem_flatten.1 (List.mem_of_getElem? hx)
        exact below_rel (E := E) (E' := E') (n := n) rfl rfl rfl hH (k.rel j v x hv hx) (h2 ob hmem hb hc r hr x hxr)
    · show (if o < n then E.H o else none) = (s.hp.take n)[o]?
      rw [List.getElem?_take, hS.hp o]
    · have := hS.sl i
      rcases Nat.lt_or_ge i s.sl.length with hi | hi
      · refine below_rel (E := E) (E' := E') (n := n) rfl rfl rfl hH this (h1 _ ?_)
        rw [List.getD_eq_getElem?_getD, List.getElem?_eq_getElem hi]
        exact List.getElem_mem hi
      · have h3 : s.sl.getD i .undef = .undef := by rw [List.getD_eq_getElem?_getD, List.getElem?_eq_none (by omega)]; rfl
        show RelV E' _ (s.sl.getD i .undef)
        rw [h3] at this ⊢
        rw [undef_of this]; exact .undef
  | ghost s i sz hi =>
    intro E a w hS
    have hnone : E.H s.hp.length = none := by rw [hS.hp, List.getElem?_eq_none (Nat.le_refl _)]
    let ob : Ob := { box := false, sz := sz, els := [], frz := 0, gen := 0, cl := true }
    let E' : Env := { E with H := fun o => if o = s.hp.length then some ob else E.H o, t := fun o => if o = s.hp.length then 0 else E.t o }
    have hne : ∀ o ob1, E.H o = some ob1 → o ≠ s.hp.length := fun o ob1 ho => by rintro rfl; rw [hnone] at ho; cases ho
    have hext : Ext E E' := ⟨fun _ _ _ h => h, fun o ob1 ho => ⟨ob1, by simp [E', hne o ob1 ho, ho], rfl, Nat.le_refl _, fun _ => ⟨rfl, by simp [E', hne o ob1 ho], Nat.le_refl _⟩⟩, rfl⟩
    refine ⟨E', ⟨⟨hS.wo.os, hS.wo.tape, hS.wo.output, hS.wo.size, hS.wo.block, hS.wo.mem, fun o ob1 ho => ?_, fun o o' ob1 ob2 k1 k2 hoo t1 t2 => ?_, hS.wo.keep⟩, fun o => ?_, ?_, fun j => ?_, hS.dfr, hS.z, hS.le⟩⟩
    · by_cases hon : o = s.hp.length
      · subst hon
        have : ob1 = ob := by simp [E'] at ho; exact ho.symm
        subst this
        exact ⟨by simp [ob], by simp [ob], by simp [ob], by simp [ob], by simp [ob], fun h => by simp [E'] at h⟩
      · have hE : E.H o = some ob1 := by simpa [E', hon] using ho
        have hk := hS.wo.obs o ob1 hE
        refine ⟨hk.rows, hk.frz, by simpa [E', hon] using hk.fit, hk.box, hk.bnd, fun ht => ?_⟩
        obtain ⟨c, e, k⟩ := hk.live (by simpa [E', hon] using ht)
        exact ⟨c, e, ⟨k.blk, by simpa [E', hon] using k.size, k.new, fun j v x hv hx => (k.rel j v x hv hx).mono hext, k.one, k.old, k.free, k.clo⟩⟩
    · have n1 : o ≠ s.hp.length := by rintro rfl; simp [E'] at t1
      have n2 : o' ≠ s.hp.length := by rintro rfl; simp [E'] at t2
      exact hS.wo.inj o o' ob1 ob2 (by simpa [E', n1] using k1) (by simpa [E', n2] using k2) hoo (by simpa [E', n1] using t1) (by simpa [E', n2] using t2)
    · show (if o = s.hp.length then some ob else E.H o) = (s.hp ++ [ob])[o]?
      by_cases hon : o = s.hp.length
      · subst hon; simp
      · rw [if_neg hon, hS.hp o, app_other hon]
    · simpa using hS.len
    · show RelV E' _ ((s.sl.set i (.osl s.hp.length 0 0 0)).getD j .undef)
      by_cases hij : i = j
      · subst hij
        have hlt : i < s.sl.length := by
          rcases Nat.lt_or_ge i s.sl.length with h | h
          · exact h
          · rw [List.getElem?_eq_none h] at hi; cases hi
        have hv := hS.sl i
        rw [List.getD_eq_getElem?_getD, hi] at hv
        have := nils_of hv
        rw [this, List.getD_eq_getElem?_getD, List.getElem?_set_self hlt]
        exact .osl _ _ _ _ _ _ _ ob (by simp [E']) (Nat.le_refl _) ⟨rfl, Nat.le_refl _, fun h => by omega⟩ (fun _ => ⟨by simp [ob], .inr rfl⟩)
      · have := (hS.sl j).mono hext
        rw [List.getD_eq_getElem?_getD, List.getElem?_set_ne hij, ← List.getD_eq_getElem?_getD]; exact this

theorem vc_sound (hm : P.follows .mixedOrders = true) : ∀ (c : Code) (ac : AC), trC P c = some ac → ∀ {QA : AE → St → Prop} {Q : Exit → Act → World → Prop}, (∀ e E s a w, SR w0 own M0 E s a w → QA e s → Q e.ex a w) →
    ∀ (E : Env) (s : St) (a : Act) (w : World), SR w0 own M0 E s a w → vc (Contract P) ac QA s → c.wp P Q a w := by
  intro c
  induction c with
  | skip => intro ac tr QA Q hQ E s a w hS h; simp only [trC, Option.some.injEq] at tr; subst tr; exact wp_skip (hQ .normal E s a w hS h)
  | ret => intro ac tr QA Q hQ E s a w hS h; simp only [trC, Option.some.injEq] at tr; subst tr; exact wp_ret (hQ .ret E s a w hS h)
  | exit id => intro ac tr QA Q hQ E s a w hS h; simp only [trC, Option.some.injEq] at tr; subst tr; exact wp_exit (hQ (.exit id) E s a w hS h)
  | region id ops draw =>
    intro ac tr QA Q hQ E s a w hS h
    simp only [trC, Option.bind_eq_bind, Option.bind_eq_some_iff] at tr
    obtain ⟨l, hl, tr⟩ := tr
    cases draw with
    | true =>
      simp only [if_true] at tr
      split at tr
      rotate_left
      · cases tr
      rename_i hok
      cases tr
      simp only [vc, if_true] at h
      exact draw_sound hm hl rfl hok (fun E s a w hS hk => hQ .normal E s a w hS hk) hS h
    | false =>
      simp only [Bool.false_eq_true, if_false] at tr
      cases tr
      simp only [vc, Bool.false_eq_true, if_false] at h
      refine wp_region ?_
      rw [List.range_eq_range', ← Array.length_toList]
      exact ops_sound (fun E s a w hS hk => hQ .normal E s a w hS hk) ops.toList l 0 E s a w hl (fun j o hj => by simpa using hj) hS h
  | seq x y ihx ihy =>
    intro ac tr QA Q hQ E s a w hS h
    simp only [trC, Option.bind_eq_bind, Option.bind_eq_some_iff, Option.pure_def, Option.some.injEq] at tr
    obtain ⟨ax, hax, ay, hay, rfl⟩ := tr
    simp only [vc] at h
    refine wp_seq (ihx ax hax (fun e E s a w hS he => ?_) E s a w hS h)
    cases e with
    | normal => exact ihy ay hay hQ E s a w hS he
    | exit id => exact hQ (.exit id) E s a w hS he
    | ret => exact hQ .ret E s a w hS he
  | cond c x y ihx ihy =>
    intro ac tr QA Q hQ E s a w hS h
    simp only [trC, Option.bind_eq_bind, Option.bind_eq_some_iff, Option.pure_def, Option.some.injEq] at tr
    obtain ⟨cx, hcx, ax, hax, ay, hay, rfl⟩ := tr
    simp only [vc] at h
    split at h
    rotate_left
    · exact h.elim
    rename_i t ht
    have hv := hS.x hcx
    rw [ht] at hv
    exact wp_cond_split (bool_of hv) (fun h1 => ihx ax hax hQ E s a w hS (h.1 h1)) (fun h1 => ihy ay hay hQ E s a w hS (h.2 h1))
  | block id x ih =>
    intro ac tr QA Q hQ E s a w hS h
    simp only [trC, Option.bind_eq_bind, Option.bind_eq_some_iff, Option.pure_def, Option.some.injEq] at tr
    obtain ⟨ax, hax, rfl⟩ := tr
    simp only [vc] at h
    refine wp_block (ih ax hax (fun e E s a w hS he => ?_) E s a w hS h)
    cases e with
    | normal => exact hQ .normal E s a w hS he
    | exit j =>
      simp only [AE.ex, Exit.inBlock]
      simp only at he
      split at he
      · rename_i hj; rw [if_pos hj]; exact hQ .normal E s a w hS he
      · rename_i hj; rw [if_neg hj]; exact hQ (.exit j) E s a w hS he
    | ret => exact hQ .ret E s a w hS he
  | loop x ih =>
    intro ac tr QA Q hQ E s a w hS h
    simp only [trC, Option.bind_eq_bind, Option.bind_eq_some_iff, Option.pure_def, Option.some.injEq] at tr
    obtain ⟨ax, hax, rfl⟩ := tr
    simp only [vc] at h
    obtain ⟨n, h⟩ := h
    have key : ∀ n (E : Env) (s : St) (a : Act) (w : World), SR w0 own M0 E s a w → vcIter (fun Q' s' => vc (Contract P) ax Q' s') QA n s → ∀ (b : Frame) (k : List Item) (cs : List Frame),
        ∃ e a' w', Q e a' w' ∧ Arrives P (lone (b.at a (.code x :: .inLoop x :: k)) cs w) b k cs e a' w' := by
      intro n
      induction n with
      | zero => intro E s a w _ h; simp only [vcIter] at h
      | succ n ihn =>
        intro E s a w hS h b k cs
        simp only [vcIter] at h
        obtain ⟨s0, hwk, hb⟩ := h
        obtain ⟨E0, hS0⟩ := wk_sound hwk hS
        have hbody := ih ax hax (Q := Exit.then (fun a w => ∃ E s, SR w0 own M0 E s a w ∧ vcIter (fun Q' s' => vc (Contract P) ax Q' s') QA n s) Q) (fun e E s a w hS he => by
          cases e with
          | normal => exact ⟨E, s, hS, he⟩
          | exit id => exact hQ (.exit id) E s a w hS he
          | ret => exact hQ .ret E s a w hS he) E0 s0 a w hS0 hb
        obtain ⟨e, a₁, w₁, hq, harr⟩ := hbody b (.inLoop x :: k) cs
        cases e with
        | normal =>
          obtain ⟨E1, s1, hS1, h1⟩ := hq
          obtain ⟨e₂, a₂, w₂, hq₂, harr₂⟩ := ihn E1 s1 a₁ w₁ hS1 h1 b k cs
          exact ⟨e₂, a₂, w₂, hq₂, .of_steps (Steps.trans harr (.one step_inLoop)) harr₂⟩
        | exit id => exact ⟨_, a₁, w₁, hq, .pass (x := .inLoop x) rfl (fun _ _ => .inl (by simp)) harr⟩
        | goto l => exact ⟨_, a₁, w₁, hq, .pass (x := .inLoop x) rfl (fun _ _ => .inl (by simp)) harr⟩
        | ret => exact ⟨_, a₁, w₁, hq, .pass (x := .inLoop x) rfl (fun _ _ => .inl (by simp)) harr⟩
        | panic ch => exact ⟨_, a₁, w₁, hq, .pass (x := .inLoop x) rfl (fun _ _ => .inl (by simp)) harr⟩
        | outgrown => exact ⟨_, a₁, w₁, hq, .pass (x := .inLoop x) rfl (fun _ _ => .inl (by simp)) harr⟩
    intro b k cs
    obtain ⟨e, a', w', hq, harr⟩ := key n E s a w hS h b k cs
    exact ⟨e, a', w', hq, .of_steps (.one step_loop) harr⟩
  | _ => intro ac tr; simp [trC] at tr

/-- What the frame's results are. -/
def resOf (P : Program) (tmps : Array Value) : ResultVar → Sem Value
  | .tmp t => pure (tmps.getD t undef)
  | .cell a t => do loadVar t (← asAddr (tmps.getD a undef))

theorem ptr_of_load {hp : List Ob} {ag : Bool} {n : Nat} {x : SV} {v : Value} {e : Eff} {E : Env} (he : absLoad hp ag n x = some e) (h : RelV E v x) : ∃ A, v = .pointer (some A) := by
  cases x with
  | ref o g e' c =>
    cases h with
    | rep _ _ hr => cases hr
    | ref => exact ⟨_, rfl⟩
  | dref z l c =>
    cases h.closed_rep rfl with
    | dref => exact ⟨_, rfl⟩
  | _ => simp [absLoad] at he

theorem SR.closed {E E1 : Env} {s : St} {a : Act} {w : World} {h : List Ob} (hS : SR w0 own M0 E s a w) (st : Step (fun _ => True) w0 own E E1 w h) : SR w0 own M0 E1 { s with hp := h } a w :=
  ⟨st.wo, fun o => st.on o trivial, hS.len, fun i => (hS.sl i).mono st.ext, hS.dfr, st.ext.z.trans hS.z, fun b j v hv => st.ext.m b j v (hS.le b j v hv)⟩

theorem run_mapM_nil {f : ResultVar → Sem Value} {w : World} : (List.mapM f []).run P w = .ok [] w := by simp
theorem run_mapM_cons {f : ResultVar → Sem Value} {r : ResultVar} {rs : List ResultVar} {u : Value} {us : List Value} {w : World} (h1 : (f r).run P w = .ok u w) (h2 : (rs.mapM f).run P w = .ok us w) : (List.mapM f (r :: rs)).run P w = .ok (u :: us) w := by
  rw [List.mapM_cons]
  simp [h1, h2]

theorem retv_sound {a : Act} {w : World} : ∀ (rs : List ResultVar) (as : List AR) (p : Prop) (svs : List SV) (hp' : List Ob) (E : Env) (s : St), trR P rs = some as → retvs s as = some (p, svs, hp') → p → SR w0 own M0 E s a w →
    ∃ (vs : List Value) (E' : Env), (rs.mapM (resOf P a.tmps)).run P w = .ok vs w ∧ vs.length = svs.length ∧ (∀ (j : Nat) v x, vs[j]? = some v → svs[j]? = some x → Rep E'.m v x) ∧ SR w0 own M0 E' { s with hp := hp' } a w ∧ E.m.le E'.m := by
  intro rs
  induction rs with
  | nil =>
    intro as p svs hp' E s htr hr hp hS
    simp only [trR, Option.some.injEq] at htr
    subst htr
    simp only [retvs, Option.some.injEq, Prod.mk.injEq] at hr
    obtain ⟨_, rfl, rfl⟩ := hr
    exact ⟨[], E, run_mapM_nil, rfl, by simp, hS, fun _ _ _ h => h⟩
  | cons r rs ih =>
    intro as p svs hp' E s htr hr hp hS
    have hhead : ∃ ar ars, as = ar :: ars ∧ trR P rs = some ars ∧ (∀ p1 v h, retv1 s ar = some (p1, v, h) → p1 → ∃ (u : Value) (E1 : Env), (resOf P a.tmps r).run P w = .ok u w ∧ Rep E1.m u v ∧ SR w0 own M0 E1 { s with hp := h } a w ∧ E.m.le E1.m) := by
      cases r with
      | tmp t =>
        simp only [trR, Option.bind_eq_bind, Option.bind_eq_some_iff, Option.pure_def, Option.some.injEq] at htr
        obtain ⟨ars, hars, rfl⟩ := htr
        refine ⟨_, ars, rfl, hars, fun p1 v h h1 _ => ?_⟩
        simp only [retv1] at h1
        split at h1
        rotate_left
        · cases h1
        rename_i v' h' hc
        cases h1
        obtain ⟨_, E1, st, hrep, _⟩ := closeV_sound (U := fun _ => True) hS.wo (fun o _ => hS.hp o) hc (hS.sl t) (fun _ _ => trivial)
        exact ⟨_, E1, rfl, hrep, hS.closed st, st.ext.m⟩
      | cell t ty =>
        simp only [trR, Option.bind_eq_bind, Option.bind_eq_some_iff] at htr
        obtain ⟨ag, hag, htr⟩ := htr
        split at htr
        rotate_left
        · cases htr
        rename_i h1
        simp only [Option.bind_eq_some_iff, Option.pure_def, Option.some.injEq] at htr
        obtain ⟨ars, hars, rfl⟩ := htr
        refine ⟨_, ars, rfl, hars, fun p1 v h hr1 hp1 => ?_⟩
        simp only [retv1] at hr1
        split at hr1
        rotate_left
        · cases hr1
        rename_i e he
        split at hr1
        rotate_left
        · cases hr1
        rename_i v' h' hc
        cases hr1
        obtain ⟨u, g1, g2, g3, g4⟩ := load_sound (s := s) (P := P) (U := fun _ => True) hS.wo (fun o _ => hS.hp o) hag h1 he hp1 (hS.sl t) (fun _ _ => trivial)
        rw [g3] at hc
        obtain ⟨_, E1, st, hrep, _⟩ := closeV_sound (U := fun _ => True) hS.wo (fun o _ => hS.hp o) hc g2 (fun _ _ => trivial)
        obtain ⟨A, hA⟩ := ptr_of_load he (hS.sl t)
        refine ⟨u, E1, ?_, hrep, hS.closed st, st.ext.m⟩
        rw [hA] at g1
        simp only [resOf, hA, asAddr]
        simpa [Instr.loadAt, Instr.sureAddr] using g1
    obtain ⟨ar, ars, rfl, hars, hh⟩ := hhead
    simp only [retvs] at hr
    split at hr
    rotate_left
    · cases hr
    rename_i p1 v1 h1 hr1
    split at hr
    rotate_left
    · cases hr
    rename_i q vs1 h2 hr2
    cases hr
    obtain ⟨u, E1, k1, k2, k3, k4⟩ := hh p1 v1 h1 hr1 hp.1
    obtain ⟨us, E2, m1, m2, m3, m4, m5⟩ := ih ars q vs1 hp' E1 _ hars hr2 hp.2 k3
    refine ⟨u :: us, E2, run_mapM_cons k1 m1, by simp [m2], fun j v x hv hx => ?_, m4, fun b j v hv => m5 b j v (k4 b j v hv)⟩
    cases j with
    | zero => simp at hv hx; subst hv; subst hx; exact k2.mono m5
    | succ j => exact m3 j v x (by simpa using hv) (by simpa using hx)

theorem results_run {fn : Func} {tmps : Array Value} {vs : List Value} {w : World} (h : (fn.results.toList.mapM (resOf P tmps)).run P w = .ok vs w) : (results fn tmps).run P w = .ok (if h : vs.toArray.size = 1 then vs.toArray[0] else .tuple vs.toArray) w := by
  have h1 : results fn tmps = (do
      let vs ← fn.results.mapM (resOf P tmps)
      pure (if h : vs.size = 1 then vs[0] else .tuple vs)) := by
    unfold results resOf
    rfl
  have h2 : (fn.results.mapM (resOf P tmps)).run P w = .ok vs.toArray w := by
    rw [Array.mapM_eq_mapM_toList]
    simp [h]
  rw [h1, Sem.run_bind, h2]
  rfl

/-- WHAT THE VERIFICATION CONDITION IS WORTH. -/
theorem contract_of_vc {f : Nat} {fn : Func} {af : AF} {args : List SV} {r : SV} (hm : P.follows .mixedOrders = true) (hf : P.funcs[f]? = some fn) (htr : trF P fn = some af) (h : vcF (Contract P) af args r) : Contract P f args r := by
  intro m w vs hmem hlen hrep
  unfold trF at htr
  split at htr
  rotate_left
  · cases htr
  rename_i c hb
  simp only [Option.bind_eq_bind, Option.bind_eq_some_iff, Option.pure_def, Option.some.injEq] at htr
  obtain ⟨ars, hars, ac, hac, rfl⟩ := htr
  let E0 : Env := { m := m, m0 := m, H := fun _ => none, β := fun _ => 0, t := fun _ => 0 }
  have hW : W w (fun _ => False) E0 w := ⟨rfl, rfl, rfl, Nat.le_refl _, fun _ _ _ => rfl, hmem, fun o ob ho => (by cases ho), fun o o' ob ob' ho => (by cases ho), fun _ _ _ _ => rfl⟩
  have hS : SR w (fun _ => False) m E0 { sl := args ++ List.replicate (fn.ntmps - args.length) .undef, hp := [] } { tmps := vs.toArray ++ Array.replicate (fn.ntmps - vs.toArray.size) undef, defers := [] } w := by
    refine ⟨hW, fun o => rfl, by simp [hlen], fun i => ?_, rfl, rfl, fun _ _ _ h => h⟩
    rcases Nat.lt_or_ge i vs.length with hi | hi
    · have h1 : (vs.toArray ++ Array.replicate (fn.ntmps - vs.toArray.size) undef).getD i undef = vs[i] := by
        rw [Array.getD_eq_getD_getElem?, Array.getElem?_append_left (by simpa using hi)]; simp [hi]
      have h2 : (args ++ List.replicate (fn.ntmps - args.length) SV.undef).getD i .undef = args[i]'(by omega) := by
        rw [List.getD_eq_getElem?_getD, List.getElem?_append_left (by omega), List.getElem?_eq_getElem (by omega)]; rfl
      show RelV E0 ((vs.toArray ++ Array.replicate (fn.ntmps - vs.toArray.size) undef).getD i undef) ((args ++ List.replicate (fn.ntmps - args.length) SV.undef).getD i .undef)
      rw [h1, h2]
      exact .rep _ _ (hrep i _ _ (List.getElem?_eq_getElem hi) (List.getElem?_eq_getElem (by omega)))
    · have h1 : (vs.toArray ++ Array.replicate (fn.ntmps - vs.toArray.size) undef).getD i undef = undef := by
        rw [Array.getD_eq_getD_getElem?, Array.getElem?_append_right (by simpa using hi)]
        simp only [Array.getElem?_replicate]
        split <;> rfl
      have h2 : (args ++ List.replicate (fn.ntmps - args.length) SV.undef).getD i .undef = .undef := by
        rw [List.getD_eq_getElem?_getD, List.getElem?_append_right (by omega), List.getElem?_replicate]
        split <;> rfl
      show RelV E0 ((vs.toArray ++ Array.replicate (fn.ntmps - vs.toArray.size) undef).getD i undef) ((args ++ List.replicate (fn.ntmps - args.length) SV.undef).getD i .undef)
      rw [h1, h2]
      exact .undef
  refine calls_of_wp hf hb ?_
  have fin : ∀ (E : Env) (s : St) (a : Act) (w' : World), SR w (fun _ => False) m E s a w' → retIs ars r s → a.defers = [] ∧ ∃ v, (results fn a.tmps).run P w' = .ok v w' ∧ ∃ v' m', Ending.returned v = .returned v' ∧ Rep m' v' r ∧ m.le m' ∧ (∀ b j, b < w.heap.size → m' b j = m b j) ∧ (∀ b j v, m' b j = some v → w'.cell? ⟨b, j, none⟩ = some v) ∧
      w'.os = w.os ∧ w'.tape = w.tape ∧ w'.output = w.output ∧ w.heap.size ≤ w'.heap.size ∧ ∀ k, k < w.heap.size → w'.heap[k]? = w.heap[k]? := by
    intro E s a w' hS hr
    refine ⟨hS.dfr, ?_⟩
    unfold retIs at hr
    split at hr
    rotate_left
    · exact hr.elim
    rename_i p svs hp' hrv
    obtain ⟨hp, rfl⟩ := hr
    obtain ⟨us, E', k1, k2, k3, k4, k5⟩ := retv_sound fn.results.toList ars p svs hp' E s hars hrv hp hS
    refine ⟨_, results_run k1, _, E'.m, rfl, ?_, k4.le, fun b j hb => ?_, k4.wo.mem, k4.wo.os, k4.wo.tape, k4.wo.output, k4.wo.size, fun k hk => k4.wo.block k hk (fun h => h)⟩
    · match svs, us, k2 with
      | [sv], [u], _ => exact k3 0 u sv rfl rfl
      | [], [], _ => exact .tup [] [] rfl (by simp)
      | x :: y :: l, u :: t :: l', hl =>
        have : ¬ (u :: t :: l').toArray.size = 1 := by simp
        rw [dif_neg this]
        exact .tup _ _ hl k3
    · rw [k4.wo.keep b j hb (fun h => h), k4.z]
  refine vc_sound hm c ac hac (fun e E s a w' hS he => ?_) E0 _ _ w hS h
  cases e with
  | normal => exact fin E s a w' hS he
  | exit id => exact he.elim
  | ret => exact fin E s a w' hS he
end
end Go.Proofs.Ytadmdmhocglkfaa.Abs
