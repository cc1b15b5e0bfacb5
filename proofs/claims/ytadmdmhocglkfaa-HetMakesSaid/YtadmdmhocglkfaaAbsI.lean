/- One operation, calls too; regions in the order of the text. -/
import Derived.Test.YtadmdmhocglkfaaAbsH
set_option linter.unusedSimpArgs false
set_option linter.unusedVariables false
namespace Go.Proofs.Ytadmdmhocglkfaa.Abs
open Go Go.RowKit

/-- A function, called with what args stand for, hands back what r stands for, and leaves what was there as it was. -/
def Contract (P : Program) (f : Nat) (args : List SV) (r : SV) : Prop :=
  ∀ (m : Mem) (w : World) (vs : List Value), (∀ b j v, m b j = some v → w.cell? ⟨b, j, none⟩ = some v) → vs.length = args.length → (∀ (j : Nat) v x, vs[j]? = some v → args[j]? = some x → Rep m v x) →
    Calls P f vs.toArray w fun e w' => ∃ v m', e = .returned v ∧ Rep m' v r ∧ m.le m' ∧ (∀ b j, b < w.heap.size → m' b j = m b j) ∧ (∀ b j v, m' b j = some v → w'.cell? ⟨b, j, none⟩ = some v) ∧
      w'.os = w.os ∧ w'.tape = w.tape ∧ w'.output = w.output ∧ w.heap.size ≤ w'.heap.size ∧ ∀ k, k < w.heap.size → w'.heap[k]? = w.heap[k]?

section
variable {P : Program} {U : Nat → Prop} {w0 : World} {own : Nat → Prop} {E : Env} {w : World} {s : St} {a : Act} {M0 : Mem}

/-- What a call leaves. -/
theorem W.called {w' : World} {m' : Mem} (h : W w0 own E w) (h1 : E.m.le m') (h2 : ∀ b j, b < w.heap.size → m' b j = E.m b j) (h3 : ∀ b j v, m' b j = some v → w'.cell? ⟨b, j, none⟩ = some v)
    (h4 : w'.os = w.os) (h5 : w'.tape = w.tape) (h6 : w'.output = w.output) (h7 : w.heap.size ≤ w'.heap.size) (h8 : ∀ k, k < w.heap.size → w'.heap[k]? = w.heap[k]?) : Ext E { E with m := m' } ∧ W w0 own { E with m := m' } w' := by
  have hext : Ext E { E with m := m' } := ⟨h1, fun o ob ho => ⟨ob, ho, rfl, Nat.le_refl _, fun _ => ⟨rfl, rfl, Nat.le_refl _⟩⟩, rfl⟩
  refine ⟨hext, ⟨h4.trans h.os, h5.trans h.tape, h6.trans h.output, Nat.le_trans h.size h7, fun k hk ho => ?_, h3, fun o ob ho => ?_, h.inj, fun b j hb ho => ?_⟩⟩
  · rw [h8 k (Nat.lt_of_lt_of_le hk h.size)]
    exact h.block k hk ho
  · have hk := h.obs o ob ho
    refine ⟨hk.rows, hk.frz, hk.fit, hk.box, hk.bnd, fun ht => ?_⟩
    obtain ⟨c, e, k⟩ := hk.live ht
    have hlt := h.lt ho ht
    refine ⟨c, e, ⟨?_, k.size, k.new, fun j v x hv hx => (k.rel j v x hv hx).mono hext, k.one, fun j hj => ?_, fun j hj => ?_, fun hb j v x hv hx => (k.clo hb j v x hv hx).mono h1⟩⟩
    · show w'.heap[E.β o]? = _
      rw [h8 _ hlt]; exact k.blk
    · show m' (E.β o) j = _
      rw [h2 _ _ hlt]; exact k.old j hj
    · show m' (E.β o) j = _
      rw [h2 _ _ hlt]; exact k.free j hj
  · show m' b j = E.m0 b j
    rw [h2 b j (Nat.lt_of_lt_of_le hb h.size)]
    exact h.keep b j hb ho

/-- What an abstract operation does: its value v, the objects h behind it, and what may be taken for granted then. -/
def Does (C : Nat → List SV → SV → Prop) (o : AOper) (s : St) (v : SV) (h : List Ob) (q : Prop) : Prop :=
  (∃ f args vs, (o.op = .call f args ∨ ∃ fs x, o.op = .callv fs x args ∧ s.get x = .fn f ∧ fs.contains f = true) ∧ closeVs s.hp (args.map s.get) = some (vs, h) ∧ C f vs v ∧ q) ∨
  (∃ e, absOp s o.op = some e ∧ e.ob ∧ e.val = v ∧ e.hp = h ∧ (e.as → q))

theorem trXs_get {l : List Operand} : ∀ {xs : List AX}, trXs l = some xs → xs.length = l.length ∧ ∀ (j : Nat) x, l[j]? = some x → ∃ ax, xs[j]? = some ax ∧ trX x = some ax := by
  induction l with
  | nil => intro xs h; simp only [trXs, Option.some.injEq] at h; subst h; simp
  | cons y l ih =>
    intro xs h
    simp only [trXs, Option.bind_eq_bind, Option.bind_eq_some_iff, Option.pure_def, Option.some.injEq] at h
    obtain ⟨ay, hay, r, hr, rfl⟩ := h
    obtain ⟨h1, h2⟩ := ih hr
    refine ⟨by simp [h1], fun j x hx => ?_⟩
    cases j with
    | zero => simp at hx; subst hx; exact ⟨ay, by simp, hay⟩
    | succ j => obtain ⟨ax, g1, g2⟩ := h2 j x (by simpa using hx); exact ⟨ax, by simpa using g1, g2⟩

theorem does_wp {o : Oper} {ao : AOper} {v : SV} {h : List Ob} {q : Prop} (tr : trOp P o.op = some ao.op) (hD : Does (Contract P) ao s v h q) (hW : W w0 own E w) (hu : ∀ i, U i → E.H i = s.hp[i]?)
    (hn : creates s ao.op = true → U s.hp.length) (hids : ∀ i ∈ usesO s ao.op, U i) (hx : ∀ x ∈ o.op.operands, ∀ ax, trX x = some ax → RelV E (a.eval x) (s.get ax)) (K : Act → World → Prop) (Q : Exit → Act → World → Prop)
    (hK : ∀ u w' E', RelV E' u v → Step U w0 own E E' w' h → q → K (a.put o.dst u) w') : o.wp P a w K Q := by
  rcases hD with ⟨f, args, vs, hop, hcl, hC, hq⟩ | ⟨e, he, hob, rfl, rfl, hq⟩
  · obtain ⟨dst, op, ty, pos, after, guard⟩ := o
    obtain ⟨d, aop, g, id, fp, chk⟩ := ao
    simp only at hop tr hx hn hids hK
    have hcall : ∃ c fn, op = .call c ∧ P.funcs[f]? = some fn ∧ fn.body.isSome ∧ fn.name ≠ "runtime.NumGoroutine" ∧ trXs c.args.toList = some args ∧ (∀ y ∈ c.args.toList, y ∈ (Op.call c).operands) ∧
        (c.callee = .value (.func f) ∨ ∃ t, c.callee = .value (.tmp t) ∧ RelV E (a.eval (.tmp t)) (.fn f)) := by
      rcases hop with hop | ⟨fs, x, hop, hfx, hin⟩
      · subst hop
        cases op with
        | call c =>
          simp only [trOp] at tr
          split at tr
          · split at tr
            · cases tr
            · split at tr <;> simp at tr
          · simp only [Option.bind_eq_bind, Option.bind_eq_some_iff] at tr
            obtain ⟨_, _, _, _, tr⟩ := tr
            split at tr
            · simp [Option.bind_eq_some_iff] at tr
            · cases tr
          · simp [Option.bind_eq_some_iff] at tr
          · simp [Option.bind_eq_some_iff] at tr
          · rename_i f' xs hcal
            split at tr
            · rename_i fn hfn
              split at tr
              · rename_i hc
                simp only [Option.map_eq_some_iff, AOp.call.injEq] at tr
                obtain ⟨xs', h1, h2, h3⟩ := tr
                subst h2; subst h3
                exact ⟨c, fn, rfl, hfn, hc.1, hc.2, h1, fun y hy => by simp [Op.operands, Call.operands, hcal, Array.mem_def, hy], .inl hcal⟩
              · cases tr
            · cases tr
          · simp only [Option.map_eq_some_iff] at tr
            obtain ⟨_, _, h2⟩ := tr
            cases h2
          · cases tr
        | slice t x lo hi mx =>
          cases mx with
          | some m => simp [trOp] at tr
          | none =>
            simp only [trOp] at tr
            split at tr
            · split at tr
              · simp [Option.bind_eq_some_iff] at tr
              · cases tr
            · simp [Option.bind_eq_some_iff] at tr
            · cases tr
        | _ => simp only [trOp] at tr; repeat' (first | (split at tr) | (simp [Option.bind_eq_some_iff] at tr; done) | (cases tr; done) | (simp [Option.bind_eq_some_iff] at tr))
      · subst hop
        cases op with
        | call c =>
          simp only [trOp] at tr
          split at tr
          · split at tr
            · cases tr
            · split at tr <;> simp at tr
          · simp only [Option.bind_eq_bind, Option.bind_eq_some_iff] at tr
            obtain ⟨_, _, _, _, tr⟩ := tr
            split at tr
            · simp [Option.bind_eq_some_iff] at tr
            · cases tr
          · simp [Option.bind_eq_some_iff] at tr
          · simp [Option.bind_eq_some_iff] at tr
          · split at tr
            · split at tr
              · simp only [Option.map_eq_some_iff] at tr
                obtain ⟨_, _, h2⟩ := tr
                cases h2
              · cases tr
            · cases tr
          · rename_i xs t hcal
            simp only [Option.map_eq_some_iff, AOp.callv.injEq] at tr
            obtain ⟨xs', h1, h2, h3, h4⟩ := tr
            subst h2; subst h3; subst h4
            have hm : f ∈ canCall P c.argTypes := List.contains_iff_mem.1 hin
            unfold canCall at hm
            rw [List.mem_filter] at hm
            have hm2 := hm.2
            split at hm2
            · rename_i fn hfn
              simp only [Bool.and_eq_true, bne_iff_ne, ne_eq] at hm2
              refine ⟨c, fn, rfl, hfn, hm2.2.1, hm2.2.2, h1, fun y hy => by simp [Op.operands, Call.operands, hcal, Array.mem_def, hy], .inr ⟨t, hcal, ?_⟩⟩
              rw [← hfx]
              exact hx (.tmp t) (by simp [Op.operands, Call.operands, hcal]) (.t t) rfl
            · cases hm2
          · cases tr
        | slice t x lo hi mx =>
          cases mx with
          | some m => simp [trOp] at tr
          | none =>
            simp only [trOp] at tr
            split at tr
            · split at tr
              · simp [Option.bind_eq_some_iff] at tr
              · cases tr
            · simp [Option.bind_eq_some_iff] at tr
            · cases tr
        | _ => simp only [trOp] at tr; repeat' (first | (split at tr) | (simp [Option.bind_eq_some_iff] at tr; done) | (cases tr; done) | (simp [Option.bind_eq_some_iff] at tr))
    obtain ⟨c, fn, rfl, hfn, hbody, hname, hargs, hops, hcal⟩ := hcall
    have hids : ∀ i ∈ idsVs s.hp (args.map s.get), U i := by
      rcases hop with hop | ⟨fs, x, hop, _, _⟩ <;> · subst hop; exact hids
    obtain ⟨hl, hget⟩ := trXs_get hargs
    have hrun : (execOp a.eval { dst := dst, op := .call c, type := ty, pos := pos, after := after, guard := guard }).run P w = .ok (.enter f (c.args.map a.eval)) w := by
      obtain ⟨b, hb⟩ := Option.isSome_iff_exists.1 hbody
      rcases hcal with hcal | ⟨t, hcal, hrel⟩
      · simp [execOp, resolve, hcal, Act.eval, Deferred.ofValue, invoke, callFunc, hfn, hname, hb]
      · have hv := fn_of hrel
        simp [execOp, resolve, hcal, hv, Deferred.ofValue, invoke, callFunc, hfn, hname, hb]
    have hvs : (c.args.map a.eval) = (c.args.toList.map a.eval).toArray := by rw [← Array.toList_map]
    have hrel : ∀ (j : Nat) (v : Value) (x : SV), (c.args.toList.map a.eval)[j]? = some v → (args.map s.get)[j]? = some x → RelV E v x := by
      intro j v x hv hx'
      simp only [List.getElem?_map, Option.map_eq_some_iff] at hv hx'
      obtain ⟨y, hy, rfl⟩ := hv
      obtain ⟨ax, hax, rfl⟩ := hx'
      obtain ⟨ax', g1, g2⟩ := hget j y hy
      rw [hax] at g1
      cases g1
      exact hx y (hops y (List.mem_of_getElem? hy)) ax g2
    obtain ⟨_, hlen, E1, st1, rep1⟩ := closeVs_sound hW hu hcl (by rw [List.length_map, List.length_map, hl]) hrel hids
    unfold Oper.wp
    rw [hrun]
    simp only [Oper.upon]
    rw [hvs]
    refine Calls.mono (hC E1.m w _ st1.wo.mem (by rw [hlen, List.length_map, List.length_map, hl]) rep1) (fun e w' he => ?_)
    obtain ⟨u, m', rfl, k1, k2, k3, k4, k5, k6, k7, k8, k9⟩ := he
    obtain ⟨g1, g2⟩ := st1.wo.called k2 k3 k4 k5 k6 k7 k8 k9
    exact hK u w' _ (.rep _ _ k1) ⟨st1.ext.trans g1, g2, st1.on, st1.off⟩ hq
  · obtain ⟨u, w', E', h1, h2, h3, h4, h5⟩ := op_sound (P := P) (o := o) tr he hob hW hu hn hids hx
    unfold Oper.wp
    rcases h1 with h1 | ⟨h1, rfl⟩
    · rw [h1]; exact hK u w' E' h2 h3 (hq h5)
    · rw [h1]; exact hK undef w' E' h2 h3 (hq h5)

/-- The state stands for the frame's values and the world. -/
structure SR (w0 : World) (own : Nat → Prop) (M0 : Mem) (E : Env) (s : St) (a : Act) (w : World) : Prop where
  wo : W w0 own E w
  hp : ∀ o, E.H o = s.hp[o]?
  len : s.sl.length = a.tmps.size
  sl : ∀ i, RelV E (a.tmps.getD i undef) (s.sl.getD i .undef)
  dfr : a.defers = []
  z : E.m0 = M0
  le : M0.le E.m

theorem put_rel {u : Value} {v : SV} {d : Option Nat} {hp : List Ob} (hl : s.sl.length = a.tmps.size) (h : ∀ i, RelV E (a.tmps.getD i undef) (s.sl.getD i .undef)) (hv : RelV E u v) :
    ∀ i, RelV E ((a.put d u).tmps.getD i undef) (({ s with hp := hp }.put d v).sl.getD i .undef) := by
  intro i
  cases d with
  | none => exact h i
  | some d =>
    by_cases hd : d = i
    · subst hd
      rcases Nat.lt_or_ge d a.tmps.size with hlt | hge
      · simp [Act.put, St.put, Array.getElem?_setIfInBounds, List.getElem?_set, hlt, hl, hv]
      · have := h d
        simpa [Act.put, St.put, Array.getElem?_setIfInBounds, List.getElem?_set, show ¬ d < a.tmps.size by omega, hl] using this
    · have := h i
      simpa [Act.put, St.put, Array.getElem?_setIfInBounds, List.getElem?_set, hd] using this

theorem put_len {u : Value} {v : SV} {d : Option Nat} {hp : List Ob} (hl : s.sl.length = a.tmps.size) : ({ s with hp := hp }.put d v).sl.length = (a.put d u).tmps.size := by
  cases d <;> simp [Act.put, St.put, hl]
theorem put_dfr {u : Value} {d : Option Nat} : (a.put d u).defers = a.defers := by cases d <;> rfl
theorem put_hp {v : SV} {d : Option Nat} : (s.put d v).hp = s.hp := by cases d <;> rfl

theorem SR.step {u : Value} {v : SV} {d : Option Nat} {h : List Ob} {w' : World} {E' : Env} (hS : SR w0 own M0 E s a w) (hv : RelV E' u v) (st : Step (fun _ => True) w0 own E E' w' h) :
    SR w0 own M0 E' ({ s with hp := h }.put d v) (a.put d u) w' :=
  ⟨st.wo, fun o => by rw [put_hp]; exact st.on o trivial, put_len hS.len, put_rel hS.len (fun i => (hS.sl i).mono st.ext) hv, by rw [put_dfr]; exact hS.dfr, st.ext.z.trans hS.z, fun b j v hv => st.ext.m b j v (hS.le b j v hv)⟩

theorem SR.x (hS : SR w0 own M0 E s a w) {x : Operand} {ax : AX} (h : trX x = some ax) : RelV E (a.eval x) (s.get ax) := by
  cases x with
  | tmp t => simp only [trX, Option.some.injEq] at h; subst h; exact hS.sl t
  | const v =>
    simp only [trX, Option.map_eq_some_iff] at h
    obtain ⟨sv, hsv, rfl⟩ := h
    exact .rep _ _ (rep_const hsv).1
  | func f => simp only [trX, Option.some.injEq] at h; subst h; exact .rep _ _ (.fn f)
  | _ => simp [trX] at h

theorem undef_of {v : Value} (h : RelV E v .undef) : v = undef := by
  cases h with
  | undef => rfl
  | rep _ _ hr => cases hr

theorem guard_of {o : Oper} {ao : AOper} {ops : Array Oper} (tr : trOper P ops o = some ao) : trOp P o.op = some ao.op ∧ o.dst = ao.d ∧
    ((o.guard = none ∧ ao.g = none) ∨ ∃ j want t, o.guard = some (j, want) ∧ (ops[j]?).bind (·.dst) = some t ∧ ao.g = some (t, want)) := by
  unfold trOper at tr
  split at tr
  · rename_i op hop
    split at tr
    · rename_i hg; cases tr; exact ⟨hop, rfl, .inl ⟨hg, rfl⟩⟩
    · rename_i j want hg
      split at tr
      · rename_i t ht; cases tr; exact ⟨hop, rfl, .inr ⟨j, want, t, hg, ht, rfl⟩⟩
      · cases tr
  · cases tr

theorem wanted_none {o : Oper} {f : Nat → Option Bool} (h : o.guard = none) : Region.wanted o f = true := by simp [Region.wanted, h]

theorem wanted_bool {o : Oper} {ops : Array Oper} {j t : Nat} {want b : Bool} (h : o.guard = some (j, want)) (ht : (ops[j]?).bind (·.dst) = some t) (hv : RelV E (a.tmps.getD t undef) (.bool b)) : Region.wanted o (yielded ops a.tmps) = (b == want) := by
  have := bool_of hv
  have h2 : a.tmps[t]? = some (.bool b) := by
    rw [Array.getD_eq_getD_getElem?] at this
    cases h3 : a.tmps[t]? with
    | none => rw [h3] at this; cases this
    | some u => rw [h3] at this; simpa using this
  simp only [Region.wanted, h, yielded, ht, Option.bind_some, h2]
  cases b <;> cases want <;> rfl

theorem wanted_undef {o : Oper} {ops : Array Oper} {j t : Nat} {want : Bool} (h : o.guard = some (j, want)) (ht : (ops[j]?).bind (·.dst) = some t) (hv : RelV E (a.tmps.getD t undef) .undef) : Region.wanted o (yielded ops a.tmps) = false := by
  have := undef_of hv
  rw [Array.getD_eq_getD_getElem?] at this
  simp only [Region.wanted, h, yielded, ht, Option.bind_some]
  cases h3 : a.tmps[t]? with
  | none => rfl
  | some u =>
    rw [h3] at this
    have : u = undef := by simpa using this
    subst this
    rfl

theorem does_of_vc1 {C : Nat → List SV → SV → Prop} {o : AOper} {K : St → Prop} (h : vc1 C o s K) : ∃ v hp q, Does C o s v hp q ∧ (q → K ({ s with hp := hp }.put o.d v)) := by
  unfold vc1 at h
  split at h
  · rename_i f args hop
    split at h
    · rename_i vs hh hcl
      obtain ⟨r, hC, hK⟩ := h
      exact ⟨r, hh, True, .inl ⟨f, args, vs, .inl hop, hcl, hC, trivial⟩, fun _ => hK⟩
    · exact h.elim
  · rename_i fs x args hop
    split at h
    · rename_i f hf
      split at h
      · rename_i hin
        split at h
        · rename_i vs hh hcl
          obtain ⟨r, hC, hK⟩ := h
          exact ⟨r, hh, True, .inl ⟨f, args, vs, .inr ⟨fs, x, hop, hf, hin⟩, hcl, hC, trivial⟩, fun _ => hK⟩
        · exact h.elim
      · exact h.elim
    · exact h.elim
  · rename_i c a b hop
    split at h
    · rename_i t ht
      have he : absOp s o.op = some { ob := True, val := if t then s.get a else s.get b, hp := s.hp } := by rw [hop]; simp only [absOp, ht, St.val]
      refine ⟨if t then s.get a else s.get b, s.hp, True, .inr ⟨_, he, trivial, rfl, rfl, fun _ => trivial⟩, fun _ => ?_⟩
      cases t with
      | true => exact h.1 rfl
      | false => exact h.2 rfl
    · exact h.elim
  · split at h
    · rename_i e he
      exact ⟨e.val, e.hp, e.as, .inr ⟨e, he, h.1, rfl, rfl, id⟩, h.2⟩
    · exact h.elim

/-- A region in the order of the text. -/
theorem ops_sound {ops : Array Oper} {Q : Exit → Act → World → Prop} {K : St → Prop} (hK : ∀ E s a w, SR w0 own M0 E s a w → K s → Q .normal a w) : ∀ (l : List Oper) (rest : List AOper) (k : Nat) (E : Env) (s : St) (a : Act) (w : World),
    trOps P ops l = some rest → (∀ (j : Nat) o, l[j]? = some o → ops[k + j]? = some o) → SR w0 own M0 E s a w → vcOps (Contract P) rest s K → wpOps P ops Q (List.range' k l.length) a w := by
  intro l
  induction l with
  | nil =>
    intro rest k E s a w htr _ hS hvc
    simp only [trOps, Option.some.injEq] at htr
    subst htr
    simp only [vcOps] at hvc
    simpa [wpOps] using hK E s a w hS hvc
  | cons o l ih =>
    intro rest k E s a w htr hget hS hvc
    simp only [trOps, Option.bind_eq_bind, Option.bind_eq_some_iff, Option.pure_def, Option.some.injEq] at htr
    obtain ⟨ao, hao, rest', hrest, rfl⟩ := htr
    obtain ⟨tr, hd, hg⟩ := guard_of hao
    have hk : ops[k]? = some o := by simpa using hget 0 o rfl
    have hget' : ∀ (j : Nat) o', l[j]? = some o' → ops[k + 1 + j]? = some o' := fun j o' hj => by
      have := hget (j + 1) o' (by simpa using hj)
      rwa [show k + 1 + j = k + (j + 1) by omega]
    have go : vc1 (Contract P) ao s (fun s' => vcOps (Contract P) rest' s' K) → o.wp P a w (wpOps P ops Q (List.range' (k + 1) l.length)) Q := by
      intro h1
      obtain ⟨v, hp, q, hD, hn⟩ := does_of_vc1 h1
      refine does_wp (U := fun _ => True) tr hD hS.wo (fun i _ => hS.hp i) (fun _ => trivial) (fun _ _ => trivial) (fun x _ ax hax => hS.x hax) _ _ (fun u w' E' hv st hq => ?_)
      rw [hd]
      exact ih rest' (k + 1) E' _ _ w' hrest hget' (hS.step hv st) (hn hq)
    have skip : vcOps (Contract P) rest' (s.put ao.d .undef) K → wpOps P ops Q (List.range' (k + 1) l.length) (a.put o.dst undef) w := by
      intro h1
      refine ih rest' (k + 1) E _ _ w hrest hget' ?_ h1
      rw [hd]
      have := hS.step (d := ao.d) (.undef : RelV E undef .undef) (Step.refl hS.wo (fun o _ => hS.hp o))
      exact this
    rw [List.length_cons, List.range'_succ, wpOps]
    simp only [hk]
    rcases hg with ⟨hg1, hg2⟩ | ⟨j, want, t, hg1, hg2, hg3⟩
    · rw [if_pos (wanted_none hg1)]
      simp only [vcOps, hg2] at hvc
      exact .inl (go hvc)
    · simp only [vcOps, hg3] at hvc
      have hst := hS.sl t
      split at hvc
      · rename_i b hb
        rw [hb] at hst
        have hw := wanted_bool hg1 hg2 hst
        by_cases hbw : b = want
        · rw [if_pos (by rw [hw]; simp [hbw])]
          exact .inl (go (hvc.1 (by simp [hbw])))
        · rw [if_neg (by rw [hw]; simp [hbw])]
          exact skip (hvc.2 (by simp [hbw]))
      · rename_i hb
        rw [hb] at hst
        rw [if_neg (by rw [wanted_undef hg1 hg2 hst]; simp)]
        exact skip hvc
      · exact hvc.elim
end
end Go.Proofs.Ytadmdmhocglkfaa.Abs
