/- The abstract evaluator, second half: calls, regions, soundness, arguments. -/
import Derived.Test.YtdpigpopcbjkmaaDoorAbx
import Derived.Carry
import Derived.SizedLaws
import Derived.ChangeCalls

/-! The global store: what it is in the world; calls that turn it; pure operations leave it alone. -/
set_option linter.unusedSimpArgs false
set_option linter.unusedVariables false
namespace Go.Proofs.YtdpigpopcbjkmaaDoor.Abs
open Go Go.RowKit

/-- A row of the global store in the world: cells, or a map (of which nothing is known). -/
inductive GRow (m : Mem) (w : World) (b : Nat) : List SV → Prop
  | cells (row : List SV) (c : Array Value) (e : TypeId) : w.heap[b]? = some (.cells c e (0, 0)) → c.size = row.length → (∀ (k : Nat) (v : Value) (x : SV), c[k]? = some v → row[k]? = some x → Rep m v x ∧ v.oneCell' = true) → GRow m w b row
  | map (es : Array MapEntry) (k : Nat) : w.heap[b]? = some (.map es k) → GRow m w b [.undef]

structure GSat (m : Mem) (w : World) (G : List (List SV)) : Prop where
  dom : ∀ i, i < G.length ↔ ∃ b, m.d i = some b
  inj : ∀ i j b, m.d i = some b → m.d j = some b → i = j
  row : ∀ i r b, G[i]? = some r → m.d i = some b → GRow m w b r
  free : ∀ i b j, m.d i = some b → m b j = none

theorem GRow.mono {m m' : Mem} {w w' : World} {b : Nat} {row : List SV} (h : GRow m w b row) (hm : m.le m') (hw : w'.heap[b]? = w.heap[b]?) : GRow m' w' b row := by
  cases h with
  | cells _ c e h1 h2 h3 => exact .cells _ c e (hw.trans h1) h2 (fun k v x hv hx => ⟨(h3 k v x hv hx).1.mono hm, (h3 k v x hv hx).2⟩)
  | map es k h => exact .map es k (hw.trans h)
theorem GRow.lt {m : Mem} {w : World} {b : Nat} {row : List SV} (h : GRow m w b row) : b < w.heap.size := by
  have key : ∀ o, w.heap[b]? = some o → b < w.heap.size := fun o ho => (Array.getElem?_eq_some_iff.1 ho).1
  cases h with
  | cells _ c e h1 => exact key _ h1
  | map es k h => exact key _ h
theorem GSat.lt {m : Mem} {w : World} {G : List (List SV)} (h : GSat m w G) {i b : Nat} (hd : m.d i = some b) : b < w.heap.size := by
  have hi := (h.dom i).2 ⟨b, hd⟩
  exact (h.row i _ b (List.getElem?_eq_getElem hi) hd).lt

def HEnd (m : Mem) (e : Ending) : HOut → Prop
  | .ret r => ∃ v, e = .returned v ∧ Rep m v r
  | .pan x => ∃ v, e = .panicked [{ v := v, recovered := false }] ∧ Rep m v x

/-- A function, called with what args stand for and the global store G, ends so, and leaves the global store G'; what was there else is as it was. -/
def HContract (P : Program) (f : Nat) (G : List (List SV)) (args : List SV) (out : HOut) (G' : List (List SV)) : Prop :=
  ∀ (m : Mem) (w : World) (vs : List Value), MemOk m w → GSat m w G → vs.length = args.length → (∀ (j : Nat) v x, vs[j]? = some v → args[j]? = some x → Rep m v x) →
    Calls P f vs.toArray w fun e w' => ∃ m', HEnd m' e out ∧ m.le m' ∧ (∀ b j, b < w.heap.size → m' b j = m b j) ∧ MemOk m' w' ∧ GSat m' w' G' ∧
      (∀ i b, m'.d i = some b → m.d i = some b ∨ w.heap.size ≤ b) ∧ w'.os = w.os ∧ w'.tape = w.tape ∧ w'.output = w.output ∧ w.heap.size ≤ w'.heap.size ∧ ∀ k, k < w.heap.size → (∀ i, m.d i ≠ some k) → w'.heap[k]? = w.heap[k]?

/-- The like, where it ends by one of several ways. -/
def HContractQ (P : Program) (f : Nat) (G : List (List SV)) (args : List SV) (Q : HOut → List (List SV) → Prop) : Prop :=
  ∀ (m : Mem) (w : World) (vs : List Value), MemOk m w → GSat m w G → vs.length = args.length → (∀ (j : Nat) v x, vs[j]? = some v → args[j]? = some x → Rep m v x) →
    Calls P f vs.toArray w fun e w' => ∃ out G', Q out G' ∧ ∃ m', HEnd m' e out ∧ m.le m' ∧ (∀ b j, b < w.heap.size → m' b j = m b j) ∧ MemOk m' w' ∧ GSat m' w' G' ∧
      (∀ i b, m'.d i = some b → m.d i = some b ∨ w.heap.size ≤ b) ∧ w'.os = w.os ∧ w'.tape = w.tape ∧ w'.output = w.output ∧ w.heap.size ≤ w'.heap.size ∧ ∀ k, k < w.heap.size → (∀ i, m.d i ≠ some k) → w'.heap[k]? = w.heap[k]?
/-- The one outcome. -/
def oneOut (out : HOut) (G : List (List SV)) : HOut → List (List SV) → Prop := fun o g => o = out ∧ g = G
theorem HContract.q {P : Program} {f : Nat} {G G' : List (List SV)} {args : List SV} {out : HOut} (h : HContract P f G args out G') : HContractQ P f G args (oneOut out G') :=
  fun m w vs h1 h2 h3 h4 => Calls.mono (h m w vs h1 h2 h3 h4) (fun _ _ he => ⟨out, G', ⟨rfl, rfl⟩, he⟩)
theorem HContractQ.mono {P : Program} {f : Nat} {G : List (List SV)} {args : List SV} {Q Q' : HOut → List (List SV) → Prop} (h : HContractQ P f G args Q) (hQ : ∀ out G', Q out G' → Q' out G') : HContractQ P f G args Q' :=
  fun m w vs h1 h2 h3 h4 => Calls.mono (h m w vs h1 h2 h3 h4) (fun _ _ ⟨out, G', k, he⟩ => ⟨out, G', hQ _ _ k, he⟩)
theorem HContractQ.one {P : Program} {f : Nat} {G G' : List (List SV)} {args : List SV} {out : HOut} {Q : HOut → List (List SV) → Prop} (h : HContractQ P f G args Q) (hQ : ∀ o g, Q o g → o = out ∧ g = G') : HContract P f G args out G' :=
  fun m w vs h1 h2 h3 h4 => Calls.mono (h m w vs h1 h2 h3 h4) (fun _ _ ⟨o, g, k, he⟩ => by obtain ⟨rfl, rfl⟩ := hQ _ _ k; exact he)

/-- The store as the first of the objects. -/
def Env.view (E : Env) : Option (List (List SV)) → Nat → Option Ob
  | none, o => E.H o
  | some G, o => if o = 0 then some (gOb G) else E.H o

structure GI (n0 : Nat) (own : Nat → Prop) (E : Env) (w : World) (G : List (List SV)) : Prop where
  z : E.H 0 = none
  sat : GSat E.m w G
  new : ∀ i b, E.m.d i = some b → n0 ≤ b ∨ own b
  obs : ∀ i b o ob, E.m.d i = some b → E.H o = some ob → 0 < E.t o → E.β o ≠ b

def GX (n0 : Nat) (own : Nat → Prop) (E : Env) (w : World) : Option (List (List SV)) → Prop
  | none => True
  | some G => GI n0 own E w G

structure StepV (U : Nat → Prop) (w0 : World) (own : Nat → Prop) (E : Env) (g : Option (List (List SV))) (E' : Env) (g' : Option (List (List SV))) (w' : World) (hp' : List Ob) : Prop where
  ext : Ext0 E E'
  wo : W w0 own E' w'
  gx : GX w0.heap.size own E' w' g'
  on : ∀ o, U o → E'.view g' o = hp'[o]?
  off : ∀ o, ¬ U o → E'.view g' o = E.view g o
  sm : g'.isSome = g.isSome
  d : g = none → E'.m.d = E.m.d

theorem RelV.re {E : Env} {M : Mem} {v : Value} {x : SV} (h : RelV E v x) : RelV { E with m0 := M } v x := by
  induction h with
  | junk v => exact .junk v
  | undef => exact .undef
  | rep v s hr => exact .rep v s hr
  | ref o g e c b j ob h1 h2 h3 => exact .ref o g e c b j ob h1 h2 h3
  | osl o g off len A n cap ob h1 h2 hnl h3 => exact .osl o g off len A n cap ob h1 h2 hnl h3
  | agg vs l h0 h1 _ ih => exact .agg vs l h0 h1 ih
theorem RelV.er {E : Env} {M : Mem} {v : Value} {x : SV} (h : RelV { E with m0 := M } v x) : RelV E v x := by
  have := h.re (M := E.m0)
  exact this

/-- What is one's own now. -/
def owns (E : Env) (b : Nat) : Prop := ∃ o ob, E.H o = some ob ∧ 0 < E.t o ∧ E.β o = b

/-- The world as it is, as a new beginning. -/
theorem W.rebase {w0 : World} {own : Nat → Prop} {E : Env} {w : World} (h : W w0 own E w) : W w (owns E) { E with m0 := E.m } w := by
  refine ⟨rfl, rfl, rfl, Nat.le_refl _, fun _ _ _ => rfl, h.mem, fun o ob ho => ?_, h.inj, fun _ _ _ _ => rfl, h.pl⟩
  have hk := h.obs o ob ho
  refine ⟨hk.rows, hk.frz, hk.fit, hk.box, hk.bnd, fun ht => ?_⟩
  obtain ⟨c, e, k⟩ := hk.live ht
  exact ⟨c, e, ⟨k.blk, k.size, .inr ⟨o, ob, ho, ht, rfl⟩, fun j v x hv hx => (k.rel j v x hv hx).re, k.one, k.old, k.free, k.clo, k.pl⟩⟩
theorem W.owned {w0 : World} {own : Nat → Prop} {E : Env} {w : World} (h : W w0 own E w) {b : Nat} (hb : owns E b) : w0.heap.size ≤ b ∨ own b := by
  obtain ⟨o, ob, ho, ht, rfl⟩ := hb
  obtain ⟨c, e, k⟩ := (h.obs o ob ho).live ht
  exact k.new
/-- And back. -/
theorem W.back {w0 : World} {own own' : Nat → Prop} {E E1 : Env} {w w' : World} (h : W w0 own E w) (h' : W w own' E1 w') (hz : E1.m0 = E.m) (ho : ∀ b, own' b → w0.heap.size ≤ b ∨ own b) : W w0 own { E1 with m0 := E.m0 } w' := by
  refine ⟨h'.os.trans h.os, h'.tape.trans h.tape, h'.output.trans h.output, Nat.le_trans h.size h'.size, fun k hk hn => ?_, h'.mem, fun o ob hob => ?_, h'.inj, fun b j hb hn => ?_, h'.pl⟩
  · rw [h'.block k (Nat.lt_of_lt_of_le hk h.size) (fun hq => (ho k hq).elim (fun h1 => by omega) hn)]
    exact h.block k hk hn
  · have hk := h'.obs o ob hob
    refine ⟨hk.rows, hk.frz, hk.fit, hk.box, hk.bnd, fun ht => ?_⟩
    obtain ⟨c, e, k⟩ := hk.live ht
    refine ⟨c, e, ⟨k.blk, k.size, ?_, fun j v x hv hx => (k.rel j v x hv hx).re, k.one, k.old, k.free, k.clo, k.pl⟩⟩
    rcases k.new with hq | hq
    · exact .inl (Nat.le_trans h.size hq)
    · exact ho _ hq
  · show E1.m b j = E.m0 b j
    rw [h'.keep b j (Nat.lt_of_lt_of_le hb h.size) (fun hq => (ho b hq).elim (fun h1 => by omega) hn), hz]
    exact h.keep b j hb hn

section
variable {P : Program} {U : Nat → Prop} {w0 : World} {own : Nat → Prop} {E : Env} {w : World} {s : St} {a : Act} {g : Option (List (List SV))} {G : List (List SV)}

/-- What a pure step, taken from the world as it is, leaves of the global store. -/
theorem GI.after {E1 : Env} {w' : World} (hW : W w0 own E w) (h : GI w0.heap.size own E w G) (h' : W w (owns E) E1 w') (hx : Ext { E with m0 := E.m } E1) (h0 : E1.H 0 = none) : GI w0.heap.size own { E1 with m0 := E.m0 } w' G := by
  have hd : E1.m.d = E.m.d := hx.d
  have hz : E1.m0 = E.m := hx.z
  have hm : E.m.le E1.m := hx.m
  have hno : ∀ i b, E.m.d i = some b → ¬ owns E b := fun i b hb => by
    rintro ⟨o, ob, ho, ht, rfl⟩
    exact h.obs i _ o ob hb ho ht rfl
  refine ⟨h0, ⟨fun i => ?_, fun i j b hi hj => ?_, fun i r b hr hi => ?_, fun i b j hi => ?_⟩, fun i b hi => ?_, fun i b o ob hi ho ht => ?_⟩
  · show i < G.length ↔ ∃ b, E1.m.d i = some b
    rw [hd]; exact h.sat.dom i
  · exact h.sat.inj i j b (by rw [← hd]; exact hi) (by rw [← hd]; exact hj)
  · have hi' : E.m.d i = some b := by rw [← hd]; exact hi
    refine (h.sat.row i r b hr hi').mono hm ?_
    exact h'.block b (h.sat.lt hi') (hno i b hi')
  · have hi' : E.m.d i = some b := by rw [← hd]; exact hi
    show E1.m b j = none
    rw [h'.keep b j (h.sat.lt hi') (hno i b hi'), hz]
    exact h.sat.free i b j hi'
  · exact h.new i b (by rw [← hd]; exact hi)
  · have hi' : E.m.d i = some b := by rw [← hd]; exact hi
    obtain ⟨c, e, k⟩ := (h'.obs o ob ho).live ht
    have hlt := h.sat.lt hi'
    rcases k.new with hq | hq
    · show E1.β o ≠ b
      omega
    · rintro rfl
      exact hno i _ hi' hq

/-! No value tells of the pseudo object. -/
theorem idsC_ne {u : Value} {x : SV} (hz : E.H 0 = none) (h : RelV E u x) : ∀ i ∈ idsC x, i ≠ 0 := by
  intro i hi
  cases x with
  | osl o g off len =>
    simp only [idsC, List.mem_singleton] at hi
    subst hi
    rintro rfl
    cases h with
    | rep _ _ hr => cases hr
    | osl _ _ _ _ A n cap ob ho => rw [hz] at ho; cases ho
  | ref o g e c =>
    simp only [idsC, List.mem_singleton] at hi
    subst hi
    rintro rfl
    cases h with
    | rep _ _ hr => cases hr
    | ref _ _ _ _ b j ob ho => rw [hz] at ho; cases ho
  | _ => simp [idsC] at hi
theorem cells_ne (hW : W w0 own E w) (hz : E.H 0 = none) {o : Nat} {ob : Ob} (ho : E.H o = some ob) : ∀ i ∈ (ob.els.getD 0 []).flatMap idsC, i ≠ 0 := by
  intro i hi
  obtain ⟨x, hx, hix⟩ := List.mem_flatMap.1 hi
  have hk := hW.obs o ob ho
  have hne : ob.els ≠ [] := by
    rintro he
    rw [he] at hx
    simp at hx
  obtain ⟨r, l, hels⟩ := List.exists_cons_of_ne_nil hne
  have hr0 : ob.els.getD 0 [] = r := by rw [hels]; rfl
  rw [hr0] at hx
  have hrl := hk.rows r (by rw [hels]; exact List.mem_cons_self)
  obtain ⟨k, hk2⟩ := List.getElem?_of_mem hx
  have hkl : k < r.length := (List.getElem?_eq_some_iff.1 hk2).1
  have hlen : 1 ≤ ob.els.length := by rw [hels]; simp
  have hmul : 1 * ob.sz ≤ ob.els.length * ob.sz := Nat.mul_le_mul_right _ hlen
  have hfit := hk.fit
  have ht : 0 < E.t o := by omega
  obtain ⟨c, e, lv⟩ := hk.live ht
  have hc : k < c.size := by have := lv.size; omega
  have hfl : ob.els.flatten[k]? = some x := by
    rw [hels, List.flatten_cons, List.getElem?_append_left hkl]; exact hk2
  exact idsC_ne hz (lv.rel k c[k] x (Array.getElem?_eq_getElem hc) hfl) i hix
theorem idsV_ne {hp : List Ob} {u : Value} {x : SV} (hW : W w0 own E w) (hz : E.H 0 = none) (hu : ∀ i ∈ idsV hp x, i ≠ 0 → E.H i = hp[i]?) (h : RelV E u x) : ∀ i ∈ idsV hp x, i ≠ 0 := by
  cases x with
  | ref o g e c =>
    have ho : o ≠ 0 := idsC_ne hz h o (by simp [idsC])
    have hv := hu o (by simp [idsV]) ho
    intro i hi
    simp only [idsV, List.mem_cons] at hi
    rcases hi with rfl | hi
    · exact ho
    · cases hq : hp[o]? with
      | none => rw [hq] at hi; simp at hi
      | some ob =>
        rw [hq] at hi hv
        simp only at hi
        split at hi
        · cases hi
        · exact cells_ne hW hz hv i hi
  | agg b l =>
    intro i hi
    cases b with
    | true => simp [idsV, idsC] at hi
    | false =>
      simp only [idsV] at hi
      obtain ⟨x, hx, hix⟩ := List.mem_flatMap.1 hi
      cases h with
      | rep _ _ hr => cases hr
      | agg vs _ h0 h1 h2 =>
        obtain ⟨k, hk⟩ := List.getElem?_of_mem hx
        have hkl : k < l.length := (List.getElem?_eq_some_iff.1 hk).1
        exact idsC_ne hz (h2 k _ x (List.getElem?_eq_getElem (by omega)) hk) i hix
  | osl o g off len => exact fun i hi => idsC_ne hz h i hi
  | _ => intro i hi; simp [idsV, idsC] at hi
theorem trXs_get {l : List Operand} : ∀ {xs : List AX}, trXs l = some xs → xs.length = l.length ∧ ∀ (j : Nat) x, l[j]? = some x → ∃ ax, xs[j]? = some ax ∧ trX x = some ax := by
  induction l with
  | nil => intro xs h; simp only [trXs, Option.some.injEq] at h; subst h; simp
  | cons y l ih =>
    intro xs h
    simp only [trXs, Option.bind_eq_bind, Option.bind_eq_some_iff, Option.pure_def, Option.some.injEq] at h
    obtain ⟨ay, hay, r, hr, rfl⟩ := h
    obtain ⟨h1, h2⟩ := ih hr
    refine ⟨by simp [h1], fun j x hx => ?_⟩
    cases j with
    | zero => simp at hx; subst hx; exact ⟨ay, by simp, hay⟩
    | succ j => obtain ⟨ax, g1, g2⟩ := h2 j x (by simpa using hx); exact ⟨ax, by simpa using g1, g2⟩

theorem idsVs_ne : ∀ {l l' : List SV} {E : Env} {hp hp' : List Ob} {vs : List Value}, W w0 own E w → E.H 0 = none → (∀ i, U i → i ≠ 0 → E.H i = hp[i]?) → closeVs hp l = some (l', hp') → vs.length = l.length →
    (∀ (j : Nat) (v : Value) (x : SV), vs[j]? = some v → l[j]? = some x → RelV E v x) → (∀ o ∈ idsVs hp l, U o) → ∀ i ∈ idsVs hp l, i ≠ 0 := by
  intro l
  induction l with
  | nil => intro l' E hp hp' vs _ _ _ _ _ _ _ i hi; simp [idsVs] at hi
  | cons s l ih =>
    intro l' E hp hp' vs hW hz hu hc hl hr hi
    cases vs with
    | nil => simp at hl
    | cons v vs =>
      simp only [closeVs] at hc
      split at hc
      rotate_left
      · cases hc
      rename_i c' h1 hc1
      split at hc
      rotate_left
      · cases hc
      rename_i r' h2 hc2
      simp only [idsVs, hc1] at hi ⊢
      have hr0 := hr 0 v s rfl rfl
      have n1 := idsV_ne hW hz (fun i h h0 => hu i (hi i (List.mem_append_left _ h)) h0) hr0
      obtain ⟨e1, E1, st1, rep1, b1, t1⟩ := closeV_sound (U := fun i => U i ∧ i ≠ 0) hW (fun i h => hu i h.1 h.2) hc1 hr0 (fun o ho => ⟨hi o (List.mem_append_left _ ho), n1 o ho⟩)
      have hz1 : E1.H 0 = none := by rw [st1.off 0 (fun h => h.2 rfl)]; exact hz
      have n2 := ih st1.wo hz1 (fun i h h0 => st1.on i ⟨h, h0⟩) hc2 (by simpa using hl) (fun j v' x hv hx => (hr (j + 1) v' x (by simpa using hv) (by simpa using hx)).mono st1.ext) (fun o ho => hi o (List.mem_append_right _ ho))
      intro i hmi
      rcases List.mem_append.1 hmi with h | h
      · exact n1 i h
      · exact n2 i h
theorem usesS_ne {hp : List Ob} {u : Value} {ad x : SV} (hW : W w0 own E w) (hz : E.H 0 = none) (hu : ∀ i, U i → i ≠ 0 → E.H i = hp[i]?) (h : RelV E u x) (hi : ∀ i ∈ usesS hp ad x, U i) : ∀ i ∈ usesS hp ad x, i ≠ 0 := by
  have key : (∀ i ∈ idsV hp x, U i) → ∀ i ∈ idsV hp x, i ≠ 0 := fun hi => idsV_ne hW hz (fun i h h0 => hu i (hi i h) h0) h
  unfold usesS at hi ⊢
  split
  · split
    · rename_i hob
      split
      · intro i h; cases h
      · rename_i hb
        refine key (fun i h => hi i ?_)
        simp only [hob, if_neg hb]; exact h
    · rename_i hob
      refine key (fun i h => hi i ?_)
      simp only [hob]; exact h
  · rename_i hno
    refine key (fun i h => hi i ?_)
    split
    · rename_i o g e c; exact absurd rfl (hno o g e c)
    · exact h
/-- What an operation that leaves the global store alone looks at is no pseudo object. -/
theorem usesO_ne {op : Op} {aop : AOp} (tr : trOp P op = some aop) (hgu : gUse s aop = false) (hcl : ∀ sz ps, aop = .bslice sz ps → ∃ l h, closeVs s.hp (ps.map s.get) = some (l, h)) (hcl2 : ∀ f args, (aop = .call f args ∨ ∃ fs x, aop = .callv fs x args) → ∃ l h, closeVs s.hp (args.map s.get) = some (l, h))
    (hW : W w0 own E w) (hz : E.H 0 = none) (hu : ∀ i, U i → i ≠ 0 → E.H i = s.hp[i]?) (hids : ∀ i ∈ usesO s aop, U i)
    (hx : ∀ x ∈ op.operands, ∀ ax, trX x = some ax → RelV E (a.eval x) (s.get ax)) : ∀ i ∈ usesO s aop, i ≠ 0 := by
  have row : ∀ (xs : List Operand) (axs : List AX), (∀ x ∈ xs, x ∈ op.operands) → axs.length = xs.length → (∀ (j : Nat) x, xs[j]? = some x → ∃ ax, axs[j]? = some ax ∧ trX x = some ax) → (∃ l h, closeVs s.hp (axs.map s.get) = some (l, h)) → (∀ i ∈ idsVs s.hp (axs.map s.get), U i) →
      ∀ i ∈ idsVs s.hp (axs.map s.get), i ≠ 0 := by
    intro xs axs hin hlen hget hcl hU
    obtain ⟨l, h, hcl⟩ := hcl
    refine idsVs_ne (vs := xs.map a.eval) hW hz hu hcl (by simp [hlen]) (fun j v x hv hx' => ?_) hU
    simp only [List.getElem?_map, Option.map_eq_some_iff] at hv hx'
    obtain ⟨y, hy, rfl⟩ := hv
    obtain ⟨ax, hax, rfl⟩ := hx'
    obtain ⟨ax', g1, g2⟩ := hget j y hy
    rw [hax] at g1
    cases g1
    exact hx y (hin y (List.mem_of_getElem? hy)) ax g2
  cases op with
  | load t x =>
    simp only [trOp, Option.bind_eq_bind, Option.bind_eq_some_iff] at tr
    obtain ⟨ag, hag, ax, hax, tr⟩ := tr
    split at tr
    rotate_left
    · cases tr
    cases tr
    show ∀ i ∈ adC (s.get ax), i ≠ 0
    rw [adC_not hgu]
    exact idsC_ne hz (hx x (by simp [Op.operands]) ax hax)
  | store t x y =>
    simp only [trOp, Option.bind_eq_bind, Option.bind_eq_some_iff] at tr
    obtain ⟨ag, hag, ax, hax, ay, hay, tr⟩ := tr
    split at tr
    rotate_left
    · cases tr
    cases tr
    intro i hi
    simp only [usesO] at hi hids
    rcases List.mem_append.1 hi with h | h
    · rw [adC_not hgu] at h
      exact idsC_ne hz (hx x (by simp [Op.operands]) ax hax) i h
    · exact usesS_ne hW hz hu (hx y (by simp [Op.operands]) ay hay) (fun i h => hids i (List.mem_append_right _ h)) i h
  | buildSlice t len parts =>
    simp only [trOp, Option.bind_eq_bind, Option.bind_eq_some_iff] at tr
    obtain ⟨e, he0, xs, hxs, tr⟩ := tr
    split at tr
    rotate_left
    · cases tr
    cases tr
    obtain ⟨h1, h2⟩ := row_get hxs
    refine row (parts.toList.map (·.2)) xs (fun x hx => ?_) (by simp [h1]) (fun j x hx => ?_) (hcl _ _ rfl) hids
    · obtain ⟨q, hq, rfl⟩ := List.mem_map.1 hx
      simp only [Op.operands, List.mem_toArray, List.mem_map]
      exact ⟨q, hq, rfl⟩
    · simp only [List.getElem?_map, Option.map_eq_some_iff] at hx
      obtain ⟨q, hq, rfl⟩ := hx
      exact (h2 j q hq).2
  | slice t x lo hi mx =>
    cases mx with
    | some m => simp [trOp] at tr
    | none =>
      simp only [trOp] at tr
      have hk : ∃ ax, trX x = some ax ∧ usesO s aop = idsC (s.get ax) := by
        split at tr
        · split at tr
          · simp only [Option.bind_eq_bind, Option.bind_eq_some_iff, Option.pure_def, Option.some.injEq] at tr
            obtain ⟨ax, hax, lo', _, hi', _, rfl⟩ := tr
            exact ⟨ax, hax, rfl⟩
          · cases tr
        · simp only [Option.bind_eq_bind, Option.bind_eq_some_iff, Option.pure_def, Option.some.injEq] at tr
          obtain ⟨ax, hax, lo', _, hi', _, rfl⟩ := tr
          exact ⟨ax, hax, rfl⟩
        · cases tr
      obtain ⟨ax, hax, he⟩ := hk
      rw [he]
      exact idsC_ne hz (hx x (by simp [Op.operands]) ax hax)
  | indexAddr t x i =>
    simp only [trOp, Option.bind_eq_bind, Option.bind_eq_some_iff] at tr
    obtain ⟨e, he, tr⟩ := tr
    split at tr
    rotate_left
    · cases tr
    simp only [Option.bind_eq_some_iff, Option.pure_def, Option.some.injEq] at tr
    obtain ⟨ax, hax, ai, hai, rfl⟩ := tr
    exact idsC_ne hz (hx x (by simp [Op.operands]) ax hax)
  | call c =>
    obtain ⟨callee, args, argTypes⟩ := c
    simp only [trOp] at tr
    split at tr
    · split at tr
      · cases tr
      · split at tr
        · simp only [Option.map_eq_some_iff] at tr
          obtain ⟨ax, _, rfl⟩ := tr
          intro i hi; cases hi
        · simp only [Option.map_eq_some_iff] at tr
          obtain ⟨ax, _, rfl⟩ := tr
          intro i hi; cases hi
        · cases tr
    · rename_i sx x hargs
      have hargs' : args = #[sx, x] := by simpa using congrArg List.toArray hargs
      subst hargs'
      simp only [Option.bind_eq_bind, Option.bind_eq_some_iff] at tr
      obtain ⟨e, he0, z, hz0, tr⟩ := tr
      split at tr
      rotate_left
      · cases tr
      simp only [Option.bind_eq_some_iff, Option.pure_def, Option.some.injEq] at tr
      obtain ⟨as, has, ax, hax, rfl⟩ := tr
      intro i hi
      rcases List.mem_append.1 hi with h | h
      · exact idsC_ne hz (hx sx (by simp [Op.operands, Call.operands]) as has) i h
      · exact idsC_ne hz (hx x (by simp [Op.operands, Call.operands]) ax hax) i h
    · simp only [Option.bind_eq_bind, Option.bind_eq_some_iff, Option.pure_def, Option.some.injEq] at tr
      obtain ⟨ax, _, ay, _, rfl⟩ := tr
      intro i hi; cases hi
    · simp only [Option.bind_eq_bind, Option.bind_eq_some_iff, Option.pure_def, Option.some.injEq] at tr
      obtain ⟨ax, _, ay, _, rfl⟩ := tr
      intro i hi; cases hi
    · rename_i f xs
      split at tr
      rotate_left
      · cases tr
      split at tr
      rotate_left
      · cases tr
      simp only [Option.map_eq_some_iff] at tr
      obtain ⟨axs, haxs, htr⟩ := tr
      split at htr
      · subst htr; simp [gUse] at hgu
      subst htr
      obtain ⟨h1, h2⟩ := trXs_get haxs
      exact row args.toList axs (fun x hx => by simp [Op.operands, Call.operands, Array.mem_def, hx]) h1 h2 (hcl2 _ _ (.inl rfl)) hids
    · rename_i t xs
      simp only [Option.map_eq_some_iff] at tr
      obtain ⟨axs, haxs, rfl⟩ := tr
      obtain ⟨h1, h2⟩ := trXs_get haxs
      exact row args.toList axs (fun x hx => by simp [Op.operands, Call.operands, Array.mem_def, hx]) h1 h2 (hcl2 0 _ (.inr ⟨_, _, rfl⟩)) hids
    · cases tr
  | alloc t =>
    simp only [trOp, Option.map_eq_some_iff] at tr
    obtain ⟨z, _, htr⟩ := tr
    split at htr
    · subst htr; simp [gUse] at hgu
    · subst htr; intro i hi; cases hi
  | box t x =>
    simp only [trOp, Option.map_eq_some_iff] at tr
    obtain ⟨z, _, htr⟩ := tr
    split at htr
    · subst htr; simp [gUse] at hgu
    · subst htr; intro i hi; cases hi
  | move x =>
    simp only [trOp, Option.map_eq_some_iff] at tr
    obtain ⟨_, _, rfl⟩ := tr
    intro i hi; cases hi
  | assign x =>
    simp only [trOp, Option.map_eq_some_iff] at tr
    obtain ⟨_, _, rfl⟩ := tr
    intro i hi; cases hi
  | nilCheck x =>
    simp only [trOp, Option.map_eq_some_iff] at tr
    obtain ⟨_, _, rfl⟩ := tr
    intro i hi; cases hi
  | unOp op t x =>
    simp only [trOp, Option.map_eq_some_iff] at tr
    obtain ⟨_, _, rfl⟩ := tr
    intro i hi; cases hi
  | extract x i =>
    simp only [trOp, Option.map_eq_some_iff] at tr
    obtain ⟨_, _, rfl⟩ := tr
    intro i hi; cases hi
  | pick c x y =>
    simp only [trOp, Option.bind_eq_bind, Option.bind_eq_some_iff, Option.pure_def, Option.some.injEq] at tr
    obtain ⟨_, _, _, _, _, _, rfl⟩ := tr
    intro i hi; cases hi
  | build t parts =>
    simp only [trOp] at tr
    split at tr
    rotate_left
    · cases tr
    simp only [Option.bind_eq_bind, Option.bind_eq_some_iff] at tr
    obtain ⟨_, _, _, _, tr⟩ := tr
    split at tr
    rotate_left
    · cases tr
    cases tr
    intro i hi; cases hi
  | binOp op t x y yt =>
    simp only [trOp] at tr
    split at tr
    iterate 3
      · simp only [Option.bind_eq_bind, Option.bind_eq_some_iff, Option.pure_def, Option.some.injEq] at tr
        obtain ⟨_, _, _, _, rfl⟩ := tr
        intro i hi; cases hi
    · split at tr
      rotate_left
      · cases tr
      split at tr
      rotate_left
      · cases tr
      simp only [Option.bind_eq_bind, Option.bind_eq_some_iff, Option.pure_def, Option.some.injEq] at tr
      obtain ⟨_, _, _, _, rfl⟩ := tr
      intro i hi; cases hi
    · cases tr
  | convert a b x =>
    simp only [trOp] at tr
    split at tr
    · simp only [Option.map_eq_some_iff] at tr
      obtain ⟨_, _, rfl⟩ := tr
      intro i hi; cases hi
    · cases tr
  | makeSlice t l c =>
    simp only [trOp, Option.bind_eq_bind, Option.bind_eq_some_iff] at tr
    obtain ⟨_, _, _, _, tr⟩ := tr
    split at tr
    rotate_left
    · cases tr
    simp only [Option.bind_eq_some_iff, Option.pure_def, Option.some.injEq] at tr
    obtain ⟨_, _, _, _, rfl⟩ := tr
    intro i hi; cases hi
  | fieldAddr t x i =>
    simp only [trOp, Option.bind_eq_bind, Option.bind_eq_some_iff] at tr
    obtain ⟨_, _, tr⟩ := tr
    split at tr
    · cases tr
    simp only [Option.bind_eq_some_iff, Option.pure_def, Option.some.injEq] at tr
    obtain ⟨_, _, rfl⟩ := tr
    intro i hi; cases hi
  | field t x i =>
    simp only [trOp, Option.bind_eq_bind, Option.bind_eq_some_iff] at tr
    obtain ⟨_, _, _, _, tr⟩ := tr
    split at tr
    rotate_left
    · cases tr
    simp only [Option.bind_eq_some_iff, Option.pure_def, Option.some.injEq] at tr
    obtain ⟨_, _, rfl⟩ := tr
    intro i hi; cases hi
  | makeInterface t x =>
    simp only [trOp] at tr
    split at tr
    rotate_left
    · cases tr
    split at tr
    rotate_left
    · cases tr
    simp only [Option.map_eq_some_iff] at tr
    obtain ⟨_, _, rfl⟩ := tr
    intro i hi; cases hi
  | makeMap t r =>
    cases r with
    | none => simp only [trOp, Option.some.injEq] at tr; subst tr; simp [gUse] at hgu
    | some r => simp [trOp] at tr
  | panic x =>
    simp only [trOp, Option.map_eq_some_iff] at tr
    obtain ⟨_, _, rfl⟩ := tr
    simp [gUse] at hgu
  | _ => simp [trOp] at tr
/-- Is it a call? -/
def isCallA : AOp → Bool
  | .call .. => true
  | .callv .. => true
  | .hcall .. => true
  | _ => false
theorem tr_notcall {op : Op} {aop : AOp} (hno : ∀ c, op ≠ .call c) (tr : trOp P op = some aop) : isCallA aop = false := by
  cases op with
  | move x =>
    simp only [trOp, Option.map_eq_some_iff] at tr
    obtain ⟨_, _, rfl⟩ := tr
    rfl
  | assign x =>
    simp only [trOp, Option.map_eq_some_iff] at tr
    obtain ⟨_, _, rfl⟩ := tr
    rfl
  | nilCheck x =>
    simp only [trOp, Option.map_eq_some_iff] at tr
    obtain ⟨_, _, rfl⟩ := tr
    rfl
  | unOp op t x =>
    simp only [trOp, Option.map_eq_some_iff] at tr
    obtain ⟨_, _, rfl⟩ := tr
    rfl
  | extract x i =>
    simp only [trOp, Option.map_eq_some_iff] at tr
    obtain ⟨_, _, rfl⟩ := tr
    rfl
  | pick c x y =>
    simp only [trOp, Option.bind_eq_bind, Option.bind_eq_some_iff, Option.pure_def, Option.some.injEq] at tr
    obtain ⟨_, _, _, _, _, _, rfl⟩ := tr
    rfl
  | build t parts =>
    simp only [trOp] at tr
    split at tr
    rotate_left
    · cases tr
    simp only [Option.bind_eq_bind, Option.bind_eq_some_iff] at tr
    obtain ⟨_, _, _, _, tr⟩ := tr
    split at tr
    rotate_left
    · cases tr
    cases tr
    rfl
  | binOp op t x y yt =>
    simp only [trOp] at tr
    split at tr
    iterate 3
      · simp only [Option.bind_eq_bind, Option.bind_eq_some_iff, Option.pure_def, Option.some.injEq] at tr
        obtain ⟨_, _, _, _, rfl⟩ := tr
        rfl
    · split at tr
      rotate_left
      · cases tr
      split at tr
      rotate_left
      · cases tr
      simp only [Option.bind_eq_bind, Option.bind_eq_some_iff, Option.pure_def, Option.some.injEq] at tr
      obtain ⟨_, _, _, _, rfl⟩ := tr
      rfl
    · cases tr
  | convert a b x =>
    simp only [trOp] at tr
    split at tr
    · simp only [Option.map_eq_some_iff] at tr
      obtain ⟨_, _, rfl⟩ := tr
      rfl
    · cases tr
  | makeSlice t l c =>
    simp only [trOp, Option.bind_eq_bind, Option.bind_eq_some_iff] at tr
    obtain ⟨_, _, _, _, tr⟩ := tr
    split at tr
    rotate_left
    · cases tr
    simp only [Option.bind_eq_some_iff, Option.pure_def, Option.some.injEq] at tr
    obtain ⟨_, _, _, _, rfl⟩ := tr
    rfl
  | fieldAddr t x i =>
    simp only [trOp, Option.bind_eq_bind, Option.bind_eq_some_iff] at tr
    obtain ⟨_, _, tr⟩ := tr
    split at tr
    · cases tr
    simp only [Option.bind_eq_some_iff, Option.pure_def, Option.some.injEq] at tr
    obtain ⟨_, _, rfl⟩ := tr
    rfl
  | field t x i =>
    simp only [trOp, Option.bind_eq_bind, Option.bind_eq_some_iff] at tr
    obtain ⟨_, _, _, _, tr⟩ := tr
    split at tr
    rotate_left
    · cases tr
    simp only [Option.bind_eq_some_iff, Option.pure_def, Option.some.injEq] at tr
    obtain ⟨_, _, rfl⟩ := tr
    rfl
  | makeInterface t x =>
    simp only [trOp] at tr
    split at tr
    rotate_left
    · cases tr
    split at tr
    rotate_left
    · cases tr
    simp only [Option.map_eq_some_iff] at tr
    obtain ⟨_, _, rfl⟩ := tr
    rfl
  | load t x =>
    simp only [trOp, Option.bind_eq_bind, Option.bind_eq_some_iff] at tr
    obtain ⟨ag, hag, ax, hax, tr⟩ := tr
    split at tr
    rotate_left
    · cases tr
    cases tr
    rfl
  | store t x y =>
    simp only [trOp, Option.bind_eq_bind, Option.bind_eq_some_iff] at tr
    obtain ⟨ag, hag, ax, hax, ay, hay, tr⟩ := tr
    split at tr
    rotate_left
    · cases tr
    cases tr
    rfl
  | buildSlice t len parts =>
    simp only [trOp, Option.bind_eq_bind, Option.bind_eq_some_iff] at tr
    obtain ⟨e, he0, xs, hxs, tr⟩ := tr
    split at tr
    rotate_left
    · cases tr
    cases tr
    rfl
  | slice t x lo hi mx =>
    cases mx with
    | some m => simp [trOp] at tr
    | none =>
      simp only [trOp] at tr
      split at tr
      · split at tr
        · simp only [Option.bind_eq_bind, Option.bind_eq_some_iff, Option.pure_def, Option.some.injEq] at tr
          obtain ⟨ax, hax, lo', _, hi', _, rfl⟩ := tr
          rfl
        · cases tr
      · simp only [Option.bind_eq_bind, Option.bind_eq_some_iff, Option.pure_def, Option.some.injEq] at tr
        obtain ⟨ax, hax, lo', _, hi', _, rfl⟩ := tr
        rfl
      · cases tr
  | indexAddr t x i =>
    simp only [trOp, Option.bind_eq_bind, Option.bind_eq_some_iff] at tr
    obtain ⟨e, he, tr⟩ := tr
    split at tr
    rotate_left
    · cases tr
    simp only [Option.bind_eq_some_iff, Option.pure_def, Option.some.injEq] at tr
    obtain ⟨ax, hax, ai, hai, rfl⟩ := tr
    rfl
  | alloc t =>
    simp only [trOp, Option.map_eq_some_iff] at tr
    obtain ⟨z, _, htr⟩ := tr
    split at htr <;> · subst htr; rfl
  | box t x =>
    simp only [trOp, Option.map_eq_some_iff] at tr
    obtain ⟨z, _, htr⟩ := tr
    split at htr <;> · subst htr; rfl
  | makeMap t r =>
    cases r with
    | none => simp only [trOp, Option.some.injEq] at tr; subst tr; rfl
    | some r => simp [trOp] at tr
  | panic x =>
    simp only [trOp, Option.map_eq_some_iff] at tr
    obtain ⟨_, _, rfl⟩ := tr
    rfl
  | call c => exact absurd rfl (hno c)
  | _ => simp [trOp] at tr
theorem tr_call {op : Op} {aop : AOp} (tr : trOp P op = some aop) (h : isCallA aop = true) : ∃ c, op = .call c ∧
    ((∃ f args fn, (aop = .call f args ∨ aop = .hcall f args) ∧ P.funcs[f]? = some fn ∧ fn.body.isSome = true ∧ fn.name ≠ "runtime.NumGoroutine" ∧ trXs c.args.toList = some args ∧ c.callee = .value (.func f)) ∨
     (∃ t args, aop = .callv (canCall P c.argTypes) (.t t) args ∧ trXs c.args.toList = some args ∧ c.callee = .value (.tmp t))) := by
  by_cases hno : ∀ c, op ≠ .call c
  · rw [tr_notcall hno tr] at h; cases h
  obtain ⟨c, rfl⟩ : ∃ c, op = .call c := by
    cases op with
    | call c => exact ⟨c, rfl⟩
    | _ => exact absurd (fun c h => by cases h) hno
  refine ⟨c, rfl, ?_⟩
  obtain ⟨callee, args, argTypes⟩ := c
  simp only [trOp] at tr
  split at tr
  · split at tr
    · cases tr
    · split at tr
      · simp only [Option.map_eq_some_iff] at tr
        obtain ⟨ax, _, rfl⟩ := tr
        cases h
      · simp only [Option.map_eq_some_iff] at tr
        obtain ⟨ax, _, rfl⟩ := tr
        cases h
      · cases tr
  · simp only [Option.bind_eq_bind, Option.bind_eq_some_iff] at tr
    obtain ⟨e, he0, z, hz0, tr⟩ := tr
    split at tr
    rotate_left
    · cases tr
    simp only [Option.bind_eq_some_iff, Option.pure_def, Option.some.injEq] at tr
    obtain ⟨as, has, ax, hax, rfl⟩ := tr
    cases h
  · simp only [Option.bind_eq_bind, Option.bind_eq_some_iff, Option.pure_def, Option.some.injEq] at tr
    obtain ⟨ax, _, ay, _, rfl⟩ := tr
    cases h
  · simp only [Option.bind_eq_bind, Option.bind_eq_some_iff, Option.pure_def, Option.some.injEq] at tr
    obtain ⟨ax, _, ay, _, rfl⟩ := tr
    cases h
  · split at tr
    rotate_left
    · cases tr
    rename_i fn hfn
    split at tr
    rotate_left
    · cases tr
    rename_i hc
    simp only [Option.map_eq_some_iff] at tr
    obtain ⟨axs, haxs, htr⟩ := tr
    left
    split at htr
    · exact ⟨_, axs, fn, .inr htr.symm, hfn, hc.1, hc.2, haxs, rfl⟩
    · exact ⟨_, axs, fn, .inl htr.symm, hfn, hc.1, hc.2, haxs, rfl⟩
  · simp only [Option.map_eq_some_iff] at tr
    obtain ⟨axs, haxs, rfl⟩ := tr
    exact .inr ⟨_, axs, rfl, haxs, rfl⟩
  · cases tr
end
end Go.Proofs.YtdpigpopcbjkmaaDoor.Abs

/-! What an abstract operation does not touch stays; the operations that look at the global store, or turn it. -/
namespace Go.Proofs.YtdpigpopcbjkmaaDoor.Abs
open Go Go.RowKit

theorem set_other {hp : List Ob} {o i : Nat} {ob : Ob} (h : i ≠ o) : (hp.set o ob)[i]? = hp[i]? := by
  rw [List.getElem?_set_ne (Ne.symm h)]
theorem app_other {hp : List Ob} {i : Nat} {ob : Ob} (h : i ≠ hp.length) : (hp ++ [ob])[i]? = hp[i]? := by
  rcases Nat.lt_or_ge i hp.length with h1 | h1
  · rw [List.getElem?_append_left h1]
  · rw [List.getElem?_append_right h1, List.getElem?_eq_none (show hp.length ≤ i by omega), List.getElem?_eq_none]
    simp; omega

theorem gOf_get {hp : List Ob} {G : List (List SV)} (h : gOf hp = some G) : hp[0]? = some (gOb G) := by
  unfold gOf at h
  split at h
  · cases h; rfl
  · cases h
theorem gOf_of {hp : List Ob} {G : List (List SV)} (h : hp[0]? = some (gOb G)) : gOf hp = some G := by
  cases hp with
  | nil => cases h
  | cons x r => simp only [List.getElem?_cons_zero, Option.some.injEq] at h; subst h; rfl
theorem gOb_inj {G G' : List (List SV)} (h : gOb G = gOb G') : G = G' := by
  simp only [gOb, Ob.mk.injEq, List.cons.injEq, and_true, true_and] at h
  exact h

theorem closeC_frame {hp h : List Ob} {x x' : SV} (hc : closeC hp x = some (x', h)) : h.length = hp.length ∧ ∀ i, i ∉ idsC x → h[i]? = hp[i]? := by
  cases x with
  | osl o g off len =>
    simp only [closeC] at hc
    split at hc
    · split at hc
      · cases hc
        exact ⟨by simp [fz], fun i hi => by simp only [idsC, List.mem_singleton] at hi; exact set_other hi⟩
      · cases hc
    · cases hc
  | agg b l => cases b <;> simp [closeC] at hc; obtain ⟨_, rfl⟩ := hc; exact ⟨rfl, fun _ _ => rfl⟩
  | _ => first | (simp [closeC] at hc; done) | (simp [closeC] at hc; obtain ⟨_, rfl⟩ := hc; exact ⟨rfl, fun _ _ => rfl⟩)

theorem closeCs_frame {l : List SV} : ∀ {hp h : List Ob} {l' : List SV}, closeCs hp l = some (l', h) → h.length = hp.length ∧ ∀ i, i ∉ l.flatMap idsC → h[i]? = hp[i]? := by
  induction l with
  | nil => intro hp h l' hc; simp only [closeCs, Option.some.injEq, Prod.mk.injEq] at hc; obtain ⟨_, rfl⟩ := hc; exact ⟨rfl, fun _ _ => rfl⟩
  | cons c r ih =>
    intro hp h l' hc
    simp only [closeCs] at hc
    split at hc
    · rename_i c' h1 h2
      split at hc
      · rename_i r' h3 h4
        cases hc
        obtain ⟨a1, a2⟩ := closeC_frame h2
        obtain ⟨b1, b2⟩ := ih h4
        refine ⟨b1.trans a1, fun i hi => ?_⟩
        simp only [List.flatMap_cons, List.mem_append, not_or] at hi
        rw [b2 i hi.2, a2 i hi.1]
      · cases hc
    · cases hc

theorem closeV_frame {hp h : List Ob} {x x' : SV} (hc : closeV hp x = some (x', h)) : h.length = hp.length ∧ ∀ i, i ∉ idsV hp x → h[i]? = hp[i]? := by
  have gen : closeC hp x = some (x', h) → idsV hp x = idsC x → h.length = hp.length ∧ ∀ i, i ∉ idsV hp x → h[i]? = hp[i]? := fun h1 h2 => by rw [h2]; exact closeC_frame h1
  cases x with
  | agg b l =>
    cases b with
    | true => exact gen hc rfl
    | false =>
      simp only [closeV] at hc
      split at hc
      · rename_i l' h1 h2; cases hc; exact closeCs_frame h2
      · cases hc
  | ref o g e c =>
    simp only [closeV] at hc
    split at hc
    rotate_left
    · cases hc
    rename_i ob ho
    split at hc
    rotate_left
    · cases hc
    split at hc
    · cases hc
      refine ⟨by simp [fz], fun i hi => ?_⟩
      simp only [idsV, List.mem_cons, not_or] at hi
      exact set_other hi.1
    · rename_i hcl
      split at hc
      rotate_left
      · cases hc
      rename_i l' h1 h2
      cases hc
      obtain ⟨a1, a2⟩ := closeCs_frame h2
      refine ⟨by simp [a1], fun i hi => ?_⟩
      simp only [idsV, ho, hcl, List.mem_cons, not_or] at hi
      rw [set_other hi.1]
      exact a2 i (by simpa using hi.2)
  | _ => exact gen hc rfl

theorem closeVs_frame {l : List SV} : ∀ {hp h : List Ob} {l' : List SV}, closeVs hp l = some (l', h) → h.length = hp.length ∧ ∀ i, i ∉ idsVs hp l → h[i]? = hp[i]? := by
  induction l with
  | nil => intro hp h l' hc; simp only [closeVs, Option.some.injEq, Prod.mk.injEq] at hc; obtain ⟨_, rfl⟩ := hc; exact ⟨rfl, fun _ _ => rfl⟩
  | cons c r ih =>
    intro hp h l' hc
    simp only [closeVs] at hc
    split at hc
    · rename_i c' h1 h2
      split at hc
      · rename_i r' h3 h4
        cases hc
        obtain ⟨a1, a2⟩ := closeV_frame h2
        obtain ⟨b1, b2⟩ := ih h4
        refine ⟨b1.trans a1, fun i hi => ?_⟩
        simp only [idsVs, h2, List.mem_append, not_or] at hi
        rw [b2 i hi.2, a2 i hi.1]
      · cases hc
    · cases hc

section
variable {s : St}

theorem touchD_none {op : AOp} (h : touches op = false) : touchD s op = [] := by
  cases op <;> first | (simp [touches] at h; done) | rfl

theorem val_hp {o : Option SV} {e : Eff} (h : s.val o = some e) : e.hp = s.hp := by
  cases o <;> simp [St.val] at h
  subst h; rfl

theorem absLoad_hp {ag : Bool} {n : Nat} {x : SV} {e : Eff} {hp : List Ob} (h : absLoad hp ag n x = some e) : e.hp = hp := by
  unfold absLoad at h
  repeat' (split at h)
  all_goals first | (cases h; rfl) | (cases h; done)

theorem absSlc_hp {z : Nat} {x : SV} {lo hi : Option AX} {e : Eff} (h : absSlc s z x lo hi = some e) : e.hp = s.hp := by
  unfold absSlc at h
  repeat' (split at h)
  all_goals first | (cases h; rfl) | (cases h; done)

theorem absLen_hp {st : Bool} {x : SV} {e : Eff} {hp : List Ob} (h : absLen hp st x = some e) : e.hp = hp := by
  unfold absLen at h
  repeat' (split at h)
  all_goals first | (cases h; rfl) | (cases h; done)

theorem absOp_frame {op : AOp} {e : Eff} (h : absOp s op = some e) : ∀ i, i ∉ chgD s op → e.hp[i]? = s.hp[i]? := by
  intro i hi
  cases op with
  | new cells =>
    simp only [absOp, Option.some.injEq] at h; subst h
    simp [chgD, reader, touchD, usesO, creates] at hi
    exact app_other hi
  | box x =>
    simp only [absOp, Option.some.injEq] at h; subst h
    simp [chgD, reader, touchD, usesO, creates] at hi
    exact app_other hi
  | mk sz bytes zero l c =>
    simp only [absOp] at h
    split at h
    · cases h
      simp [chgD, reader, touchD, usesO, creates] at hi
      exact app_other hi
    · cases h
  | bslice sz ps =>
    simp only [absOp] at h
    split at h
    · rename_i rows hh hr
      cases h
      obtain ⟨l', h1, _, _⟩ := closeRows_eq hr
      obtain ⟨a1, a2⟩ := closeVs_frame h1
      simp [chgD, reader, touchD, usesO, creates] at hi
      rw [app_other (by rw [a1]; exact hi.2)]
      exact a2 i hi.1
    · cases h
  | load ag n x => simp only [absOp] at h; rw [absLoad_hp h]
  | slc z x lo hi => simp only [absOp] at h; rw [absSlc_hp h]
  | len st x => simp only [absOp] at h; rw [absLen_hp h]
  | store n x y =>
    simp only [absOp, absStore] at h
    split at h
    · rename_i o g e0 c ha
      split at h
      rotate_left
      · cases h
      rename_i ob hob
      split at h
      rotate_left
      · cases h
      simp only [chgD, reader, touchD, usesO, creates, Bool.false_eq_true, if_false, List.append_nil, List.mem_append, not_or, ha, adC, isGp, idsC, List.mem_singleton] at hi
      split at h
      · cases h
        exact set_other hi.1
      · rename_i hbox
        split at h
        rotate_left
        · cases h
        rename_i x' hh hcv
        split at h
        rotate_left
        · cases h
        split at h
        rotate_left
        · cases h
        cases h
        obtain ⟨a1, a2⟩ := closeV_frame hcv
        show (hh.set o _)[i]? = _
        rw [set_other hi.1]
        exact a2 i (fun hm => hi.2 (by simp only [usesS, hob, if_neg hbox]; exact hm))
    · rename_i j c ha
      split at h
      rotate_left
      · cases h
      rename_i x' hh hcv
      split at h
      rotate_left
      · cases h
      split at h
      rotate_left
      · cases h
      cases h
      obtain ⟨a1, a2⟩ := closeV_frame hcv
      simp only [chgD, reader, touchD, usesO, creates, Bool.false_eq_true, if_false, List.append_nil, List.mem_append, not_or, ha, adC, isGp, if_true, List.mem_singleton] at hi
      show (hh.set 0 _)[i]? = _
      rw [set_other hi.1]
      exact a2 i (fun hm => hi.2 (by simp only [usesS]; exact hm))
    · cases h
  | app sz bytes x y =>
    simp only [absOp, absApp] at h
    split at h
    rotate_left
    · cases h
    split at h
    · rename_i ha
      cases h
      simp only [chgD, reader, touchD, usesO, creates, Bool.false_eq_true, if_false, if_true, ha, List.mem_append, not_or, List.mem_singleton] at hi
      exact app_other hi.2
    · rename_i o g off len ha
      split at h
      rotate_left
      · cases h
      split at h
      rotate_left
      · cases h
      cases h
      simp only [chgD, reader, touchD, usesO, creates, Bool.false_eq_true, if_false, ha, List.mem_append, not_or, idsC, List.mem_singleton] at hi
      exact set_other hi.1.1
    · cases h
  | iad sz x y =>
    simp only [absOp] at h
    split at h
    · cases h; rfl
    · cases h
  | build zero parts => simp only [absOp, Option.some.injEq] at h; subst h; rfl
  | call f args => simp [absOp] at h
  | callv fs x args => simp [absOp] at h
  | hcall f args => simp [absOp] at h
  | pan x => simp [absOp] at h
  | newg cells =>
    simp only [absOp] at h
    split at h
    · cases h
      simp only [chgD, reader, touchD, usesO, creates, Bool.false_eq_true, if_false, List.append_nil, List.mem_singleton] at hi
      exact set_other hi
    · cases h
  | boxg x =>
    simp only [absOp] at h
    split at h
    rotate_left
    · cases h
    rename_i v hh hcv
    split at h
    rotate_left
    · cases h
    cases h
    simp only [chgD, reader, touchD, usesO, creates, Bool.false_eq_true, if_false, List.append_nil, List.mem_cons, not_or] at hi
    show (hh.set 0 _)[i]? = _
    rw [set_other hi.1]
    exact (closeV_frame hcv).2 i hi.2
  | mkmap =>
    simp only [absOp] at h
    split at h
    · cases h
      simp only [chgD, reader, touchD, usesO, creates, Bool.false_eq_true, if_false, List.append_nil, List.mem_singleton] at hi
      exact set_other hi
    · cases h
  | fld ag off n x =>
    simp only [absOp] at h
    split at h
    · cases h; rfl
    · cases h
  | _ =>
    simp only [absOp] at h
    first
      | (rw [val_hp h]; done)
      | (repeat' (split at h)
         all_goals first | (rw [val_hp h]; done) | (cases h; done))
end

section
variable {P : Program} {U : Nat → Prop} {w0 : World} {own : Nat → Prop} {E : Env} {w : World} {s : St} {a : Act} {g : Option (List (List SV))} {G : List (List SV)}

/-- The objects of U that are no pseudo object. -/
def Up (g : Option (List (List SV))) (U : Nat → Prop) (i : Nat) : Prop := U i ∧ (g.isSome = true → i ≠ 0)

/-- A pure step, taken from the world as it is. -/
theorem StepV.of_pure {E1 : Env} {w' : World} {hp h : List Ob} (hW : W w0 own E w) (hg : GX w0.heap.size own E w g) (hu : ∀ i, U i → E.view g i = hp[i]?)
    (st : Step (Up g U) w (owns E) { E with m0 := E.m } E1 w' h) (h0 : g.isSome = true → U 0 → h[0]? = hp[0]?) : StepV U w0 own E g { E1 with m0 := E.m0 } g w' h := by
  have hz : g.isSome = true → E1.H 0 = none := fun hs => by
    obtain ⟨G, rfl⟩ := Option.isSome_iff_exists.1 hs
    rw [st.off 0 (fun h => h.2 hs rfl)]; exact hg.z
  refine ⟨⟨st.ext.m, st.ext.H, rfl⟩, hW.back st.wo st.ext.z (fun b hb => hW.owned hb), ?_, fun o ho => ?_, fun o ho => ?_, rfl, fun _ => st.ext.d⟩
  · cases g with
    | none => trivial
    | some G => exact GI.after hW hg st.wo st.ext (hz rfl)
  · cases g with
    | none => exact st.on o ⟨ho, fun h => by cases h⟩
    | some G =>
      show (if o = 0 then some (gOb G) else E1.H o) = h[o]?
      by_cases h00 : o = 0
      · subst h00; rw [if_pos rfl, h0 rfl ho, ← hu 0 ho]; simp [Env.view]
      · rw [if_neg h00]; exact st.on o ⟨ho, fun _ => h00⟩
  · cases g with
    | none => exact st.off o (fun h => ho h.1)
    | some G =>
      show (if o = 0 then some (gOb G) else E1.H o) = (if o = 0 then some (gOb G) else E.H o)
      by_cases h00 : o = 0
      · rw [if_pos h00, if_pos h00]
      · rw [if_neg h00, if_neg h00]; exact st.off o (fun h => ho h.1)

theorem view_up (hu : ∀ i, U i → E.view g i = s.hp[i]?) : ∀ i, Up g U i → E.H i = s.hp[i]? := by
  intro i hi
  have := hu i hi.1
  cases g with
  | none => exact this
  | some G =>
    simp only [Env.view, if_neg (hi.2 rfl)] at this
    exact this

theorem view_some (hu : ∀ i, U i → E.view g i = s.hp[i]?) (hU : U 0) (hW : W w0 own E w) (h : gOf s.hp = some G) : g = some G := by
  have h1 := hu 0 hU
  rw [gOf_get h] at h1
  cases g with
  | none =>
    have hk := hW.obs 0 _ h1
    have := hk.rows [.junk] (by simp [gOb])
    simp [gOb] at this
  | some G' =>
    simp only [Env.view, if_true, Option.some.injEq] at h1
    rw [gOb_inj h1]

/-- Closing a value, whether there is a global store or not. -/
theorem closeV_soundV {xv : Value} {x x' : SV} {h : List Ob} (hW : W w0 own E w) (hg : GX w0.heap.size own E w g) (hu : ∀ i, U i → E.view g i = s.hp[i]?) (hc : closeV s.hp x = some (x', h)) (hr : RelV E xv x) (hi : ∀ i ∈ idsV s.hp x, U i) :
    ∃ E1, Rep E1.m xv x' ∧ StepV U w0 own E g E1 g w h := by
  have hnz : g.isSome = true → ∀ i ∈ idsV s.hp x, i ≠ 0 := fun hs => by
    obtain ⟨G, rfl⟩ := Option.isSome_iff_exists.1 hs
    exact idsV_ne hW hg.z (fun i h h0 => view_up hu i ⟨hi i h, fun _ => h0⟩) hr
  obtain ⟨_, E1, st, rep, _, _⟩ := closeV_sound (U := Up g U) (w0 := w) (own := owns E) (E := { E with m0 := E.m }) hW.rebase (view_up hu) hc hr.re (fun i h => ⟨hi i h, fun hs => hnz hs i h⟩)
  exact ⟨{ E1 with m0 := E.m0 }, rep, StepV.of_pure hW hg hu st (fun hs _ => (closeV_frame hc).2 0 (fun h => hnz hs 0 h rfl))⟩

/-- EVERY OPERATION THAT IS NO CALL AND LEAVES THE GLOBAL STORE ALONE, whether there is one or not. -/
theorem op_soundV {o : Oper} {aop : AOp} {eff : Eff} (tr : trOp P o.op = some aop) (hgu : gUse s aop = false) (he : absOp s aop = some eff) (hob : eff.ob) (hW : W w0 own E w) (hg : GX w0.heap.size own E w g) (hu : ∀ i, U i → E.view g i = s.hp[i]?)
    (hne : g.isSome = true → 0 < s.hp.length) (hn : creates s aop = true → U s.hp.length) (hids : ∀ i ∈ usesO s aop, U i)
    (hx : ∀ x ∈ o.op.operands, ∀ ax, trX x = some ax → RelV E (a.eval x) (s.get ax)) :
    ∃ v w' E', ((execOp a.eval o).run P w = .ok (.value v) w' ∨ ((execOp a.eval o).run P w = .ok .skip w' ∧ v = undef)) ∧ RelV E' v eff.val ∧ StepV U w0 own E g E' g w' eff.hp ∧ eff.as := by
  have hnz : g.isSome = true → ∀ i ∈ usesO s aop, i ≠ 0 := fun hs => by
    obtain ⟨G, rfl⟩ := Option.isSome_iff_exists.1 hs
    refine usesO_ne tr hgu (fun sz ps h => ?_) (fun f args h => ?_) hW hg.z (fun i hi h0 => view_up hu i ⟨hi, fun _ => h0⟩) hids hx
    · subst h
      simp only [absOp] at he
      split at he
      · rename_i rows hh hr
        obtain ⟨l', h1, _, _⟩ := closeRows_eq hr
        exact ⟨l', hh, h1⟩
      · cases he
    · rcases h with h | ⟨fs, x, h⟩ <;> · subst h; simp [absOp] at he
  obtain ⟨v, w', E1, h1, h2, h3, h4, h5⟩ := op_sound (P := P) (U := Up g U) (w0 := w) (own := owns E) (E := { E with m0 := E.m }) (w := w) (a := a) tr hgu he hob hW.rebase (view_up hu)
    (fun hc => ⟨hn hc, fun hs => by have := hne hs; omega⟩) (fun i hi => ⟨hids i hi, fun hs => hnz hs i hi⟩) (fun x hx' ax hax => (hx x hx' ax hax).re)
  refine ⟨v, w', { E1 with m0 := E.m0 }, h1, h2.re, StepV.of_pure hW hg hu h3 (fun hs _ => absOp_frame he 0 (fun hc => ?_)), h5⟩
  unfold chgD at hc
  split at hc
  · cases hc
  · simp only [touchD, List.mem_append] at hc
    rcases hc with hc | hc
    · exact hnz hs 0 hc rfl
    · split at hc
      · simp only [List.mem_singleton] at hc
        have := hne hs
        omega
      · cases hc

/-! ### The global store's own operations -/
/-- A block of the store has turned. -/
theorem W.gput {w' : World} {i b : Nat} {row : List SV} (hW : W w0 own E w) (hg : GI w0.heap.size own E w G) (hd : E.m.d i = some b) (h1 : w'.os = w.os) (h2 : w'.tape = w.tape) (h3 : w'.output = w.output) (h4 : w'.heap.size = w.heap.size)
    (h5 : ∀ k, k ≠ b → w'.heap[k]? = w.heap[k]?) (hrow : GRow E.m w' b row) (hpl : ∃ c e, w'.heap[b]? = some (.cells c e (0, 0))) : W w0 own E w' ∧ GI w0.heap.size own E w' (G.set i row) := by
  have hi : i < G.length := (hg.sat.dom i).2 ⟨b, hd⟩
  refine ⟨⟨h1.trans hW.os, h2.trans hW.tape, h3.trans hW.output, by rw [h4]; exact hW.size, fun k hk hn => ?_, fun b' j v hv => ?_, fun o ob ho => ?_, hW.inj, hW.keep, fun b' hb' => by
    by_cases hbb : b' = b
    · subst hbb; exact hpl
    · obtain ⟨c1, e1, q1⟩ := hW.pl b' hb'; exact ⟨c1, e1, by rw [h5 b' hbb]; exact q1⟩⟩, ⟨hg.z, ⟨fun j => ?_, hg.sat.inj, fun j r b' hr hb' => ?_, hg.sat.free⟩, hg.new, hg.obs⟩⟩
  · by_cases hkb : k = b
    · subst hkb
      rcases hg.new i k hd with h | h
      · omega
      · exact absurd h hn
    · rw [h5 k hkb]; exact hW.block k hk hn
  · have hne : b' ≠ b := by rintro rfl; rw [hg.sat.free i b' j hd] at hv; cases hv
    have := hW.mem b' j v hv
    simp only [World.cell?] at this ⊢
    rw [h5 b' hne]; exact this
  · have hk := hW.obs o ob ho
    refine ⟨hk.rows, hk.frz, hk.fit, hk.box, hk.bnd, fun ht => ?_⟩
    obtain ⟨c, e, k⟩ := hk.live ht
    exact ⟨c, e, ⟨by rw [h5 _ (hg.obs i b o ob hd ho ht)]; exact k.blk, k.size, k.new, k.rel, k.one, k.old, k.free, k.clo, k.pl⟩⟩
  · rw [List.length_set]; exact hg.sat.dom j
  · by_cases hji : j = i
    · subst hji
      rw [hd] at hb'; cases hb'
      rw [List.getElem?_set_self hi] at hr
      cases hr
      exact hrow
    · rw [List.getElem?_set_ne (Ne.symm hji)] at hr
      exact (hg.sat.row j r b' hr hb').mono (.refl _) (h5 b' (fun h => hji (hg.sat.inj j i b (by rw [← h]; exact hb') hd)))

/-- A new block of the store. -/
theorem W.galloc {ob : Obj} {row : List SV} (hW : W w0 own E w) (hg : GI w0.heap.size own E w G) (hrow : ∀ m', E.m.le m' → GRow m' (w.alloc ob) w.heap.size row) :
    ∃ E', Ext0 E E' ∧ W w0 own E' (w.alloc ob) ∧ GI w0.heap.size own E' (w.alloc ob) (G ++ [row]) ∧ E'.H = E.H ∧ E'.m.d G.length = some w.heap.size ∧ (∀ c e, ob = .cells c e (0, 0) → E'.m.p w.heap.size) := by
  have hdn : E.m.d G.length = none := by
    cases h : E.m.d G.length with
    | none => rfl
    | some b => have := (hg.sat.dom G.length).2 ⟨b, h⟩; omega
  let m' : Mem := ⟨E.m.c, fun j => if j = G.length then some w.heap.size else E.m.d j, fun b => E.m.p b ∨ (b = w.heap.size ∧ ∃ c e, ob = .cells c e (0, 0)), fun i j b hi hj => by
    by_cases h1 : i = G.length <;> by_cases h2 : j = G.length
    · omega
    · simp only [if_pos h1, if_neg h2, Option.some.injEq] at hi hj
      have := hg.sat.lt hj; omega
    · simp only [if_neg h1, if_pos h2, Option.some.injEq] at hi hj
      have := hg.sat.lt hi; omega
    · simp only [if_neg h1, if_neg h2] at hi hj
      exact hg.sat.inj i j b hi hj⟩
  have hle : E.m.le m' := ⟨fun _ _ _ h => h, fun i b h => by
    have : i ≠ G.length := by rintro rfl; rw [hdn] at h; cases h
    simp only [m', if_neg this]; exact h, fun b h => .inl h⟩
  let E' : Env := { E with m := m' }
  have hext : Ext0 E E' := ⟨hle, fun o ob ho => ⟨ob, ho, rfl, Nat.le_refl _, fun _ => ⟨rfl, rfl, Nat.le_refl _⟩⟩, rfl⟩
  have hdd : ∀ j b, m'.d j = some b → (j = G.length ∧ b = w.heap.size) ∨ (j ≠ G.length ∧ E.m.d j = some b) := fun j b h => by
    by_cases hj : j = G.length
    · simp only [m', if_pos hj, Option.some.injEq] at h; exact .inl ⟨hj, h.symm⟩
    · simp only [m', if_neg hj] at h; exact .inr ⟨hj, h⟩
  refine ⟨E', hext, ⟨hW.os, hW.tape, hW.output, by simp; exact Nat.le_succ_of_le hW.size, fun k hk hn => ?_, fun b j v hv => ?_, fun o ob1 ho => ?_, hW.inj, hW.keep, fun b hb => by
    rcases hb with hb | ⟨rfl, c1, e1, rfl⟩
    · obtain ⟨c1, e1, q1⟩ := hW.pl b hb
      exact ⟨c1, e1, by rw [Below.heap_alloc _ _ _ (Array.getElem?_eq_some_iff.1 q1).1]; exact q1⟩
    · exact ⟨c1, e1, heap_alloc_new w _⟩⟩, ⟨hg.z, ⟨fun j => ?_, fun i j b hi hj => ?_, fun j r b hr hb => ?_, fun i b j hi => ?_⟩, fun i b hi => ?_, fun i b o ob1 hi ho ht => ?_⟩, rfl, by simp [E', m'], fun c1 e1 h1 => .inr ⟨rfl, c1, e1, h1⟩⟩
  · rw [Below.heap_alloc _ _ _ (Nat.lt_of_lt_of_le hk hW.size)]; exact hW.block k hk hn
  · have := hW.mem b j v hv
    rw [World.cell?_alloc_lt w _ _ (mem_lt this)]; exact this
  · have hk := hW.obs o ob1 ho
    refine ⟨hk.rows, hk.frz, hk.fit, hk.box, hk.bnd, fun ht => ?_⟩
    obtain ⟨c, e, k⟩ := hk.live ht
    exact ⟨c, e, ⟨by rw [Below.heap_alloc _ _ _ (hW.lt ho ht)]; exact k.blk, k.size, k.new, fun j v x hv hx => (k.rel j v x hv hx).mono0 hext, k.one, k.old, k.free, fun hb j v x hv hx => (k.clo hb j v x hv hx).mono hle, hle.p _ k.pl⟩⟩
  · rw [List.length_append, List.length_singleton]
    constructor
    · intro hj
      by_cases hjl : j = G.length
      · exact ⟨w.heap.size, by simp [E', m', hjl]⟩
      · obtain ⟨b, hb⟩ := (hg.sat.dom j).1 (by omega)
        exact ⟨b, hle.d _ _ hb⟩
    · rintro ⟨b, hb⟩
      rcases hdd j b hb with ⟨h, _⟩ | ⟨_, h⟩
      · omega
      · have := (hg.sat.dom j).2 ⟨b, h⟩; omega
  · rcases hdd i b hi with ⟨h1, h2⟩ | ⟨h1, h2⟩ <;> rcases hdd j b hj with ⟨k1, k2⟩ | ⟨k1, k2⟩
    · omega
    · have := hg.sat.lt k2; omega
    · have := hg.sat.lt h2; omega
    · exact hg.sat.inj i j b h2 k2
  · rcases hdd j b hb with ⟨h1, h2⟩ | ⟨h1, h2⟩
    · subst h1; subst h2
      rw [List.getElem?_append_right (Nat.le_refl _)] at hr
      simp only [Nat.sub_self, List.getElem?_cons_zero, Option.some.injEq] at hr
      subst hr
      exact hrow m' hle
    · have hj : j < G.length := (hg.sat.dom j).2 ⟨b, h2⟩
      rw [List.getElem?_append_left hj] at hr
      exact (hg.sat.row j r b hr h2).mono hle (by rw [Below.heap_alloc _ _ _ (hg.sat.lt h2)])
  · rcases hdd i b hi with ⟨h1, h2⟩ | ⟨h1, h2⟩
    · subst h2
      show E.m w.heap.size j = none
      cases hm : E.m w.heap.size j with
      | none => rfl
      | some v => have := mem_lt (hW.mem _ _ _ hm); omega
    · exact hg.sat.free i b j h2
  · rcases hdd i b hi with ⟨h1, h2⟩ | ⟨h1, h2⟩
    · subst h2; exact .inl hW.size
    · exact hg.new i b h2
  · rcases hdd i b hi with ⟨h1, h2⟩ | ⟨h1, h2⟩
    · subst h2
      have := hW.lt ho ht
      show E.β o ≠ w.heap.size
      omega
    · exact hg.obs i b o ob1 h2 ho ht

theorem gp_of {v : Value} {i c : Nat} (h : RelV E v (.gp i c)) : ∃ b, v = .pointer (some ⟨b, c, none⟩) ∧ E.m.d i = some b := by
  cases h.closed_rep rfl with
  | gp _ _ b hb => exact ⟨b, rfl, hb⟩

theorem gload_sound {t : TypeId} {ag : Bool} {v : Value} {i c : Nat} {row : List SV} (hg : GI w0.heap.size own E w G) (hag : isAggT P t = some ag) (h1 : ag = true ∨ P.cellsOf t = 1) (hi : G[i]? = some row) (hmp : isMp row = false) (hcn : c + P.cellsOf t ≤ row.length)
    (hx : RelV E v (.gp i c)) : ∃ u, (Instr.loadAt t v).run P w = .ok u w ∧ RelV E u (cut true row.length ag (P.cellsOf t) c row) := by
  obtain ⟨b, rfl, hb⟩ := gp_of hx
  cases hg.sat.row i row b hi hb with
  | map => cases hmp
  | cells _ cc e hblk hsz hrel =>
    have hsub : ∀ (j : Nat) (v : Value), ((cc.toList.drop c).take (P.cellsOf t))[j]? = some v → cc[c + j]? = some v := by
      intro j v hv
      rw [List.getElem?_take] at hv
      split at hv
      · simpa using getElem?_drop_some hv
      · cases hv
    have hlen : ((cc.toList.drop c).take (P.cellsOf t)).length = P.cellsOf t := by simp; omega
    refine ⟨_, run_loadAt (vs := (cc.toList.drop c).take (P.cellsOf t)) hag hlen h1 (fun j v hv => ?_), cut_rel rfl hcn hlen h1 (fun v hv => ?_) (fun j v x hv hx => .rep v x (hrel _ v x (hsub j v hv) (getElem?_drop_some hx)).1)
      (fun _ j v x hv hx => (hrel _ v x (hsub j v hv) (getElem?_drop_some hx)).1)⟩
    · rw [cell_of hblk]; exact hsub j v hv
    · obtain ⟨k, hk⟩ := List.getElem?_of_mem hv
      have hck := hsub k v hk
      have hlt : c + k < row.length := by
        rw [← hsz]
        exact (Array.getElem?_eq_some_iff.1 hck).1
      exact (hrel _ v row[c + k] hck (List.getElem?_eq_getElem hlt)).2

theorem gstore_sound {t : TypeId} {i c b : Nat} {row : List SV} {xv : Value} {x : SV} (hW : W w0 own E w) (hg : GI w0.heap.size own E w G) (hinf : ∃ inf, P.info? t = some inf) (hpos : 0 < P.cellsOf t) (hi : G[i]? = some row) (hmp : isMp row = false) (hcn : c + P.cellsOf t ≤ row.length)
    (hb : E.m.d i = some b) (hx : Rep E.m xv x) (hlen : (cellsOf x).length = P.cellsOf t) (hok : x.ok = true) (hcl : x.closed = true) :
    ∃ w', (Instr.storeAt t (.pointer (some ⟨b, c, none⟩)) xv).run P w = .ok () w' ∧ W w0 own E w' ∧ GI w0.heap.size own E w' (G.set i (splice row.length (P.cellsOf t) c row (cellsOf x))) := by
  obtain ⟨inf, hinf⟩ := hinf
  obtain ⟨vs, b1, b2, b3, b4, b5⟩ := cells_rel (.rep _ _ hx : RelV E xv x) hok
  have hvl : vs.length = P.cellsOf t := by omega
  cases hg.sat.row i row b hi hb with
  | map => cases hmp
  | cells _ cc e hblk hsz hrel =>
    have hrun := run_storeCells_at P b c e vs 0 cc w hblk (by omega) b3
    simp only [Nat.add_zero] at hrun
    have hcget : ∀ k, (cc.toList.take c ++ vs ++ cc.toList.drop (c + vs.length)).toArray[k]? = if c ≤ k ∧ k < c + vs.length then vs[k - c]? else cc[k]? := by
      intro k
      have := mid_get cc.toList vs c (by simp; omega) k
      simpa using this
    have hsp : splice row.length (P.cellsOf t) c row (cellsOf x) = row.take c ++ cellsOf x ++ row.drop (c + (cellsOf x).length) := splice_eq rfl hcn hlen hpos
    have hrget : ∀ k, (row.take c ++ cellsOf x ++ row.drop (c + (cellsOf x).length))[k]? = if c ≤ k ∧ k < c + (cellsOf x).length then (cellsOf x)[k - c]? else row[k]? := fun k => mid_get row (cellsOf x) c (by omega) k
    obtain ⟨g1, g2⟩ := W.gput (w' := w.setRow b (cc.toList.take c ++ vs ++ cc.toList.drop (c + vs.length)).toArray) (row := splice row.length (P.cellsOf t) c row (cellsOf x)) hW hg hb rfl rfl rfl (by simp)
      (fun k hk => setRow_other w b k _ hk) (.cells _ _ e (setRow_heap w b cc _ e _ hblk) (by rw [hsp]; simp; omega) (fun k v y hv hy => by
        rw [hcget k] at hv
        rw [hsp, hrget k] at hy
        split at hv
        · rename_i hin
          rw [if_pos (by omega)] at hy
          exact ⟨b5 hcl _ v y hv hy, b3 v (List.mem_of_getElem? hv)⟩
        · rename_i hin
          rw [if_neg (by omega)] at hy
          exact hrel k v y hv hy)) ⟨_, e, setRow_heap w b cc _ e _ hblk⟩
    exact ⟨_, run_storeAt hinf b1 hvl hrun, g1, g2⟩
end
end Go.Proofs.YtdpigpopcbjkmaaDoor.Abs

/-! One operation, calls too; regions in the order of the text. -/
namespace Go.Proofs.YtdpigpopcbjkmaaDoor.Abs
open Go Go.RowKit

/-- A function, called with what args stand for, hands back what r stands for, and leaves what was there as it was. -/
def Contract (P : Program) (f : Nat) (args : List SV) (r : SV) : Prop :=
  ∀ (m : Mem) (w : World) (vs : List Value), MemOk m w → vs.length = args.length → (∀ (j : Nat) v x, vs[j]? = some v → args[j]? = some x → Rep m v x) →
    Calls P f vs.toArray w fun e w' => ∃ v m', e = .returned v ∧ Rep m' v r ∧ (m.le m' ∧ m'.d = m.d) ∧ (∀ b j, b < w.heap.size → m' b j = m b j) ∧ MemOk m' w' ∧
      w'.os = w.os ∧ w'.tape = w.tape ∧ w'.output = w.output ∧ w.heap.size ≤ w'.heap.size ∧ ∀ k, k < w.heap.size → w'.heap[k]? = w.heap[k]?

/-- One value stands for both. -/
def Both (s s' : SV) : Prop := ∃ m v, Rep m v s ∧ Rep m v s'

/-- What calls come to, by their contracts. -/
def CTof (P : Program) (X : SV → List (List SV) → Prop) : CT := { p := Contract P, h := HContract P, q := HContractQ P, x := X, b := Both }

section
variable {P : Program} {U : Nat → Prop} {w0 : World} {own : Nat → Prop} {E : Env} {w : World} {s : St} {a : Act} {M0 : Mem} {B : Prop} {Df : List Deferred} {g : Option (List (List SV))} {G : List (List SV)} {X : SV → List (List SV) → Prop}

/-- What a call leaves. -/
theorem W.called {w' : World} {m' : Mem} (h : W w0 own E w) (h1 : E.m.le m' ∧ m'.d = E.m.d) (h2 : ∀ b j, b < w.heap.size → m' b j = E.m b j) (h3 : MemOk m' w')
    (h4 : w'.os = w.os) (h5 : w'.tape = w.tape) (h6 : w'.output = w.output) (h7 : w.heap.size ≤ w'.heap.size) (h8 : ∀ k, k < w.heap.size → w'.heap[k]? = w.heap[k]?) : Ext E { E with m := m' } ∧ W w0 own { E with m := m' } w' := by
  have hext : Ext E { E with m := m' } := ⟨⟨h1.1, fun o ob ho => ⟨ob, ho, rfl, Nat.le_refl _, fun _ => ⟨rfl, rfl, Nat.le_refl _⟩⟩, rfl⟩, h1.2⟩
  refine ⟨hext, ⟨h4.trans h.os, h5.trans h.tape, h6.trans h.output, Nat.le_trans h.size h7, fun k hk ho => ?_, h3.1, fun o ob ho => ?_, h.inj, fun b j hb ho => ?_, h3.2⟩⟩
  · rw [h8 k (Nat.lt_of_lt_of_le hk h.size)]
    exact h.block k hk ho
  · have hk := h.obs o ob ho
    refine ⟨hk.rows, hk.frz, hk.fit, hk.box, hk.bnd, fun ht => ?_⟩
    obtain ⟨c, e, k⟩ := hk.live ht
    have hlt := h.lt ho ht
    refine ⟨c, e, ⟨?_, k.size, k.new, fun j v x hv hx => (k.rel j v x hv hx).mono hext, k.one, fun j hj => ?_, fun j hj => ?_, fun hb j v x hv hx => (k.clo hb j v x hv hx).mono h1.1, h1.1.p _ k.pl⟩⟩
    · show w'.heap[E.β o]? = _
      rw [h8 _ hlt]; exact k.blk
    · show m' (E.β o) j = _
      rw [h2 _ _ hlt]; exact k.old j hj
    · show m' (E.β o) j = _
      rw [h2 _ _ hlt]; exact k.free j hj
  · show m' b j = E.m0 b j
    rw [h2 b j (Nat.lt_of_lt_of_le hb h.size)]
    exact h.keep b j hb ho

/-- What a call that turns the global store leaves. -/
theorem W.hcalled {w' : World} {m' : Mem} {G' : List (List SV)} (h : W w0 own E w) (hg : GI w0.heap.size own E w G) (h1 : E.m.le m') (h2 : ∀ b j, b < w.heap.size → m' b j = E.m b j) (h3 : MemOk m' w') (hs : GSat m' w' G')
    (hd : ∀ i b, m'.d i = some b → E.m.d i = some b ∨ w.heap.size ≤ b) (h4 : w'.os = w.os) (h5 : w'.tape = w.tape) (h6 : w'.output = w.output) (h7 : w.heap.size ≤ w'.heap.size) (h8 : ∀ k, k < w.heap.size → (∀ i, E.m.d i ≠ some k) → w'.heap[k]? = w.heap[k]?) :
    Ext0 E { E with m := m' } ∧ W w0 own { E with m := m' } w' ∧ GI w0.heap.size own { E with m := m' } w' G' := by
  have hext : Ext0 E { E with m := m' } := ⟨h1, fun o ob ho => ⟨ob, ho, rfl, Nat.le_refl _, fun _ => ⟨rfl, rfl, Nat.le_refl _⟩⟩, rfl⟩
  refine ⟨hext, ⟨h4.trans h.os, h5.trans h.tape, h6.trans h.output, Nat.le_trans h.size h7, fun k hk ho => ?_, h3.1, fun o ob ho => ?_, h.inj, fun b j hb ho => ?_, h3.2⟩, ⟨hg.z, hs, fun i b hi => ?_, fun i b o ob hi ho ht => ?_⟩⟩
  · rw [h8 k (Nat.lt_of_lt_of_le hk h.size) (fun i hi => (hg.new i k hi).elim (fun h1 => by omega) ho)]
    exact h.block k hk ho
  · have hk := h.obs o ob ho
    refine ⟨hk.rows, hk.frz, hk.fit, hk.box, hk.bnd, fun ht => ?_⟩
    obtain ⟨c, e, k⟩ := hk.live ht
    have hlt := h.lt ho ht
    refine ⟨c, e, ⟨?_, k.size, k.new, fun j v x hv hx => (k.rel j v x hv hx).mono0 hext, k.one, fun j hj => ?_, fun j hj => ?_, fun hb j v x hv hx => (k.clo hb j v x hv hx).mono h1, h1.p _ k.pl⟩⟩
    · show w'.heap[E.β o]? = _
      rw [h8 _ hlt (fun i hi => hg.obs i _ o ob hi ho ht rfl)]; exact k.blk
    · show m' (E.β o) j = _
      rw [h2 _ _ hlt]; exact k.old j hj
    · show m' (E.β o) j = _
      rw [h2 _ _ hlt]; exact k.free j hj
  · show m' b j = E.m0 b j
    rw [h2 b j (Nat.lt_of_lt_of_le hb h.size)]
    exact h.keep b j hb ho
  · rcases hd i b hi with h9 | h9
    · exact hg.new i b h9
    · exact .inl (Nat.le_trans h.size h9)
  · rcases hd i b hi with h9 | h9
    · exact hg.obs i b o ob h9 ho ht
    · have := h.lt ho ht
      show E.β o ≠ b
      omega

/-- The operations that look at the global store or turn it, but for calls. -/
theorem gop_sound {o : Oper} {aop : AOp} {eff : Eff} (tr : trOp P o.op = some aop) (hgu : gUse s aop = true) (he : absOp s aop = some eff) (hob : eff.ob) (hW : W w0 own E w) (hg : GX w0.heap.size own E w g) (hu : ∀ i, U i → E.view g i = s.hp[i]?)
    (hids : ∀ i ∈ usesO s aop, U i) (hx : ∀ x ∈ o.op.operands, ∀ ax, trX x = some ax → RelV E (a.eval x) (s.get ax)) :
    ∃ v w' E' g', ((execOp a.eval o).run P w = .ok (.value v) w' ∨ ((execOp a.eval o).run P w = .ok .skip w' ∧ v = undef)) ∧ RelV E' v eff.val ∧ StepV U w0 own E g E' g' w' eff.hp ∧ eff.as := by
  obtain ⟨dst, op, ty, pos, after, guard⟩ := o
  simp only at tr hx
  -- a new row
  have fresh : ∀ {E1 : Env} {h : List Ob} {G1 : List (List SV)} {row : List SV} {c : Array Value} {t : TypeId} {ob : Obj}, StepV U w0 own E g E1 g w h → U 0 → gOf h = some G1 → (∀ m', E1.m.le m' → GRow m' (w.alloc ob) w.heap.size row) →
      ∃ E' g', E'.m.d G1.length = some w.heap.size ∧ StepV U w0 own E g E' g' (w.alloc ob) (h.set 0 (gOb (G1 ++ [row]))) ∧ (∀ c e, ob = .cells c e (0, 0) → E'.m.p w.heap.size) := by
    intro E1 h G1 row c t ob st hU h1 hrow
    have hg1 := view_some (s := { s with hp := h }) st.on hU st.wo h1
    subst hg1
    obtain ⟨E', e1, e2, e3, e4, e5, e6⟩ := W.galloc st.wo st.gx hrow
    have hpos : 0 < h.length := by
      rcases Nat.eq_zero_or_pos h.length with h0 | h0
      · have := gOf_get h1; rw [List.getElem?_eq_none (by omega)] at this; cases this
      · exact h0
    refine ⟨E', some (G1 ++ [row]), e5, ⟨st.ext.trans e1, e2, e3, fun o ho => ?_, fun o ho => ?_, rfl, fun hn => by cases hn⟩, e6⟩
    · by_cases h0 : o = 0
      · subst h0
        rw [List.getElem?_set_self hpos]
        simp [Env.view]
      · rw [set_other h0]
        have := st.on o ho
        simp only [Env.view, if_neg h0] at this ⊢
        rw [e4]; exact this
    · have h0 : o ≠ 0 := by rintro rfl; exact ho hU
      have := st.off o ho
      simp only [Env.view, if_neg h0] at this ⊢
      rw [e4]; exact this
  -- a value that is closed ahead
  have closed : ∀ {xv : Value} {x x' : SV} {h : List Ob}, closeV s.hp x = some (x', h) → RelV E xv x → (∀ i ∈ idsV s.hp x, U i) → ∃ E1, Rep E1.m xv x' ∧ StepV U w0 own E g E1 g w h := by
    intro xv x x' h hc hr hi
    have hnz : g.isSome = true → ∀ i ∈ idsV s.hp x, i ≠ 0 := fun hs => by
      obtain ⟨G, rfl⟩ := Option.isSome_iff_exists.1 hs
      exact idsV_ne hW hg.z (fun i h h0 => view_up hu i ⟨hi i h, fun _ => h0⟩) hr
    obtain ⟨_, E1, st, rep, _, _⟩ := closeV_sound (U := Up g U) (w0 := w) (own := owns E) (E := { E with m0 := E.m }) hW.rebase (view_up hu) hc hr.re (fun i h => ⟨hi i h, fun hs => hnz hs i h⟩)
    exact ⟨{ E1 with m0 := E.m0 }, rep, StepV.of_pure hW hg hu st (fun hs _ => (closeV_frame hc).2 0 (fun h => hnz hs 0 h rfl))⟩
  cases op with
  | load t x =>
    simp only [trOp, Option.bind_eq_bind, Option.bind_eq_some_iff] at tr
    obtain ⟨ag, hag, ax, hax, tr⟩ := tr
    split at tr
    rotate_left
    · cases tr
    rename_i h1
    cases tr
    simp only [gUse] at hgu
    have hxr := hx x (by simp [Op.operands]) ax hax
    simp only [absOp] at he
    generalize hsx : s.get ax = sx at hgu he hxr
    cases sx with
    | gp i c =>
      simp only [absLoad] at he
      split at he
      rotate_left
      · cases he
      rename_i G hG
      split at he
      rotate_left
      · cases he
      rename_i row hrow
      cases he
      have hU : U 0 := hids 0 (by simp [usesO, hsx, adC, isGp])
      have := view_some hu hU hW hG
      subst this
      obtain ⟨u, k1, k2⟩ := gload_sound hg hag h1 hrow hob.1 hob.2 hxr
      exact ⟨u, w, E, some G, .inl (by simp [execOp, k1]), k2, ⟨Ext0.refl E, hW, hg, hu, fun _ _ => rfl, rfl, fun _ => rfl⟩, trivial⟩
    | _ => cases hgu
  | store t x y =>
    simp only [trOp, Option.bind_eq_bind, Option.bind_eq_some_iff] at tr
    obtain ⟨ag, hag, ax, hax, ay, hay, tr⟩ := tr
    split at tr
    rotate_left
    · cases tr
    rename_i h1
    cases tr
    simp only [gUse] at hgu
    have hxr := hx x (by simp [Op.operands]) ax hax
    have hyr := hx y (by simp [Op.operands]) ay hay
    simp only [absOp] at he
    generalize hsx : s.get ax = sx at hgu he hxr
    cases sx with
    | gp i c =>
      simp only [absStore] at he
      split at he
      rotate_left
      · cases he
      rename_i x' h hc
      split at he
      rotate_left
      · cases he
      rename_i G hG
      split at he
      rotate_left
      · cases he
      rename_i row hrow
      cases he
      obtain ⟨hmp, hcn, hlen, hok⟩ := hob
      have hU : U 0 := hids 0 (by simp [usesO, hsx, adC, isGp])
      obtain ⟨E1, rep, st⟩ := closed hc hyr (fun j hj => hids j (by simp only [usesO, hsx, usesS, List.mem_append]; exact .inr hj))
      have hg1 := view_some (s := { s with hp := h }) st.on hU st.wo hG
      subst hg1
      obtain ⟨b, hv, hb⟩ := gp_of hxr
      obtain ⟨w', k1, k2, k3⟩ := gstore_sound st.wo st.gx (info_agg hag) h1.2 hrow hmp hcn (st.ext.m.d _ _ hb) rep hlen hok (closeV_ok hc).2
      have hpos : 0 < h.length := by
        rcases Nat.eq_zero_or_pos h.length with h0 | h0
        · have := gOf_get hG; rw [List.getElem?_eq_none (by omega)] at this; cases this
        · exact h0
      refine ⟨undef, w', E1, some (G.set i (splice row.length (P.cellsOf t) c row (cellsOf x'))), .inr ⟨by simp [execOp, hv, k1], rfl⟩, .undef, ⟨st.ext, k2, k3, fun o ho => ?_, fun o ho => ?_, rfl, fun hn => by cases hn⟩, trivial⟩
      · by_cases h0 : o = 0
        · subst h0
          rw [List.getElem?_set_self hpos]
          simp [Env.view]
        · rw [set_other h0]
          have := st.on o ho
          simp only [Env.view, if_neg h0] at this ⊢
          exact this
      · have h0 : o ≠ 0 := by rintro rfl; exact ho hU
        have := st.off o ho
        simp only [Env.view, if_neg h0] at this ⊢
        exact this
    | _ => cases hgu
  | alloc t =>
    simp only [trOp, Option.map_eq_some_iff] at tr
    obtain ⟨z, hz, htr⟩ := tr
    split at htr
    rotate_left
    · subst htr; cases hgu
    subst htr
    simp only [absOp] at he
    split at he
    rotate_left
    · cases he
    rename_i G hG
    cases he
    have hU : U 0 := hids 0 (by simp [usesO])
    obtain ⟨i, zv, hi, hzv, hofz, hrep⟩ := zero_rel (m := E.m) hz
    have hok := (rep_const (m := E.m) hofz).2.2
    have hcl := (rep_const (m := E.m) hofz).2.1
    obtain ⟨vs, b1, b2, b3, b4, b5⟩ := cells_rel (.rep _ _ hrep : RelV E zv z) hok
    have st : StepV U w0 own E g E g w s.hp := ⟨Ext0.refl E, hW, hg, hu, fun _ _ => rfl, rfl, fun _ => rfl⟩
    obtain ⟨E', g', e1, e2, e3⟩ := fresh (c := #[]) (t := t) (ob := .cells zv.cells t) (row := cellsOf z) st hU hG (fun m' hm => .cells _ zv.cells t (heap_alloc_new w _) (by rw [b1, ← b2]; simp) (fun k v x hv hx => by
      rw [b1] at hv
      have hv' : vs[k]? = some v := by simpa using hv
      exact ⟨(b5 hcl k v x hv' hx).mono hm, b3 v (List.mem_of_getElem? hv')⟩))
    refine ⟨.pointer (some ⟨w.heap.size, 0, none⟩), _, E', g', .inl ?_, .rep _ _ (.gp _ _ _ e1 (e3 _ _ rfl)), e2, trivial⟩
    simp [execOp, Instr.alloc, zeroValue, typeInfo, hi, hzv, newVar, newRow]
  | box t x =>
    simp only [trOp, Option.map_eq_some_iff] at tr
    obtain ⟨ax, hax, htr⟩ := tr
    split at htr
    rotate_left
    · subst htr; cases hgu
    subst htr
    simp only [absOp] at he
    split at he
    rotate_left
    · cases he
    rename_i x' h hc
    split at he
    rotate_left
    · cases he
    rename_i G hG
    cases he
    have hU : U 0 := hids 0 (by simp [usesO])
    obtain ⟨E1, rep, st⟩ := closed hc (hx x (by simp [Op.operands]) ax hax) (fun j hj => hids j (by simp only [usesO, List.mem_cons]; exact .inr hj))
    obtain ⟨vs, b1, b2, b3, b4, b5⟩ := cells_rel (.rep _ _ rep : RelV E1 (a.eval x) x') (closeV_ok hc).1
    obtain ⟨E', g', e1, e2, e3⟩ := fresh (c := #[]) (t := t) (ob := .cells (a.eval x).cells t) (row := cellsOf x') st hU hG (fun m' hm => .cells _ (a.eval x).cells t (heap_alloc_new w _) (by rw [b1, ← b2]; simp) (fun k v y hv hy => by
      rw [b1] at hv
      have hv' : vs[k]? = some v := by simpa using hv
      exact ⟨(b5 (closeV_ok hc).2 k v y hv' hy).mono hm, b3 v (List.mem_of_getElem? hv')⟩))
    refine ⟨.pointer (some ⟨w.heap.size, 0, none⟩), _, E', g', .inl ?_, .rep _ _ (.gp _ _ _ e1 (e3 _ _ rfl)), e2, trivial⟩
    simp [execOp, Instr.box, newVar, newRow]
  | makeMap t r =>
    cases r with
    | some r => simp [trOp] at tr
    | none =>
      simp only [trOp, Option.some.injEq] at tr
      subst tr
      simp only [absOp] at he
      split at he
      rotate_left
      · cases he
      rename_i G hG
      cases he
      have hU : U 0 := hids 0 (by simp [usesO])
      have st : StepV U w0 own E g E g w s.hp := ⟨Ext0.refl E, hW, hg, hu, fun _ _ => rfl, rfl, fun _ => rfl⟩
      obtain ⟨E', g', e1, e2, _⟩ := fresh (c := #[]) (t := t) (ob := .map #[] 0) (row := [.undef]) st hU hG (fun m' hm => .map #[] 0 (heap_alloc_new w _))
      refine ⟨.map (some w.heap.size), _, E', g', .inl ?_, .rep _ _ (.mp _ _ e1), e2, trivial⟩
      have : (Instr.makeMap t none).run P w = .ok (.map (some w.heap.size)) (w.alloc (.map #[] 0)) := rfl
      simp [execOp, this]
  | call c =>
    obtain ⟨callee, args, argTypes⟩ := c
    simp only [trOp] at tr
    split at tr
    · split at tr
      · cases tr
      · split at tr
        · simp only [Option.map_eq_some_iff] at tr
          obtain ⟨ax, _, rfl⟩ := tr
          cases hgu
        · simp only [Option.map_eq_some_iff] at tr
          obtain ⟨ax, _, rfl⟩ := tr
          cases hgu
        · cases tr
    · simp only [Option.bind_eq_bind, Option.bind_eq_some_iff] at tr
      obtain ⟨e, he0, z, hz0, tr⟩ := tr
      split at tr
      rotate_left
      · cases tr
      simp only [Option.bind_eq_some_iff, Option.pure_def, Option.some.injEq] at tr
      obtain ⟨as, has, ax, hax, rfl⟩ := tr
      cases hgu
    · simp only [Option.bind_eq_bind, Option.bind_eq_some_iff, Option.pure_def, Option.some.injEq] at tr
      obtain ⟨ax, _, ay, _, rfl⟩ := tr
      cases hgu
    · simp only [Option.bind_eq_bind, Option.bind_eq_some_iff, Option.pure_def, Option.some.injEq] at tr
      obtain ⟨ax, _, ay, _, rfl⟩ := tr
      cases hgu
    · split at tr
      rotate_left
      · cases tr
      split at tr
      rotate_left
      · cases tr
      simp only [Option.map_eq_some_iff] at tr
      obtain ⟨axs, haxs, htr⟩ := tr
      split at htr
      · subst htr; simp [absOp] at he
      · subst htr; cases hgu
    · simp only [Option.map_eq_some_iff] at tr
      obtain ⟨axs, haxs, rfl⟩ := tr
      cases hgu
    · cases tr
  | panic x =>
    simp only [trOp, Option.map_eq_some_iff] at tr
    obtain ⟨ax, hax, rfl⟩ := tr
    simp [absOp] at he
  | move x =>
    simp only [trOp, Option.map_eq_some_iff] at tr
    obtain ⟨_, _, rfl⟩ := tr
    cases hgu
  | assign x =>
    simp only [trOp, Option.map_eq_some_iff] at tr
    obtain ⟨_, _, rfl⟩ := tr
    cases hgu
  | nilCheck x =>
    simp only [trOp, Option.map_eq_some_iff] at tr
    obtain ⟨_, _, rfl⟩ := tr
    cases hgu
  | unOp op t x =>
    simp only [trOp, Option.map_eq_some_iff] at tr
    obtain ⟨_, _, rfl⟩ := tr
    cases hgu
  | extract x i =>
    simp only [trOp, Option.map_eq_some_iff] at tr
    obtain ⟨_, _, rfl⟩ := tr
    cases hgu
  | pick c x y =>
    simp only [trOp, Option.bind_eq_bind, Option.bind_eq_some_iff, Option.pure_def, Option.some.injEq] at tr
    obtain ⟨_, _, _, _, _, _, rfl⟩ := tr
    cases hgu
  | build t parts =>
    simp only [trOp] at tr
    split at tr
    rotate_left
    · cases tr
    simp only [Option.bind_eq_bind, Option.bind_eq_some_iff] at tr
    obtain ⟨_, _, _, _, tr⟩ := tr
    split at tr
    rotate_left
    · cases tr
    cases tr
    cases hgu
  | binOp op t x y yt =>
    simp only [trOp] at tr
    split at tr
    iterate 3
      · simp only [Option.bind_eq_bind, Option.bind_eq_some_iff, Option.pure_def, Option.some.injEq] at tr
        obtain ⟨_, _, _, _, rfl⟩ := tr
        cases hgu
    · split at tr
      rotate_left
      · cases tr
      split at tr
      rotate_left
      · cases tr
      simp only [Option.bind_eq_bind, Option.bind_eq_some_iff, Option.pure_def, Option.some.injEq] at tr
      obtain ⟨_, _, _, _, rfl⟩ := tr
      cases hgu
    · cases tr
  | convert a b x =>
    simp only [trOp] at tr
    split at tr
    · simp only [Option.map_eq_some_iff] at tr
      obtain ⟨_, _, rfl⟩ := tr
      cases hgu
    · cases tr
  | makeSlice t l c =>
    simp only [trOp, Option.bind_eq_bind, Option.bind_eq_some_iff] at tr
    obtain ⟨_, _, _, _, tr⟩ := tr
    split at tr
    rotate_left
    · cases tr
    simp only [Option.bind_eq_some_iff, Option.pure_def, Option.some.injEq] at tr
    obtain ⟨_, _, _, _, rfl⟩ := tr
    cases hgu
  | fieldAddr t x i =>
    simp only [trOp, Option.bind_eq_bind, Option.bind_eq_some_iff] at tr
    obtain ⟨_, _, tr⟩ := tr
    split at tr
    · cases tr
    simp only [Option.bind_eq_some_iff, Option.pure_def, Option.some.injEq] at tr
    obtain ⟨_, _, rfl⟩ := tr
    cases hgu
  | field t x i =>
    simp only [trOp, Option.bind_eq_bind, Option.bind_eq_some_iff] at tr
    obtain ⟨_, _, _, _, tr⟩ := tr
    split at tr
    rotate_left
    · cases tr
    simp only [Option.bind_eq_some_iff, Option.pure_def, Option.some.injEq] at tr
    obtain ⟨_, _, rfl⟩ := tr
    cases hgu
  | makeInterface t x =>
    simp only [trOp] at tr
    split at tr
    rotate_left
    · cases tr
    split at tr
    rotate_left
    · cases tr
    simp only [Option.map_eq_some_iff] at tr
    obtain ⟨_, _, rfl⟩ := tr
    cases hgu
  | buildSlice t len parts =>
    simp only [trOp, Option.bind_eq_bind, Option.bind_eq_some_iff] at tr
    obtain ⟨e, he0, xs, hxs, tr⟩ := tr
    split at tr
    rotate_left
    · cases tr
    cases tr
    cases hgu
  | slice t x lo hi mx =>
    cases mx with
    | some m => simp [trOp] at tr
    | none =>
      simp only [trOp] at tr
      split at tr
      · split at tr
        · simp only [Option.bind_eq_bind, Option.bind_eq_some_iff, Option.pure_def, Option.some.injEq] at tr
          obtain ⟨ax, hax, lo', _, hi', _, rfl⟩ := tr
          cases hgu
        · cases tr
      · simp only [Option.bind_eq_bind, Option.bind_eq_some_iff, Option.pure_def, Option.some.injEq] at tr
        obtain ⟨ax, hax, lo', _, hi', _, rfl⟩ := tr
        cases hgu
      · cases tr
  | indexAddr t x i =>
    simp only [trOp, Option.bind_eq_bind, Option.bind_eq_some_iff] at tr
    obtain ⟨e, he, tr⟩ := tr
    split at tr
    rotate_left
    · cases tr
    simp only [Option.bind_eq_some_iff, Option.pure_def, Option.some.injEq] at tr
    obtain ⟨ax, hax, ai, hai, rfl⟩ := tr
    cases hgu
  | _ => simp [trOp] at tr


/-- What an abstract operation does: its value v, the objects h behind it, and what may be taken for granted then. -/
def Does (C : CT) (o : AOper) (s : St) (v : SV) (h : List Ob) (q : Prop) : Prop :=
  (∃ f args vs, (o.op = .call f args ∨ ∃ fs x, o.op = .callv fs x args ∧ s.get x = .fn f ∧ fs.contains f = true) ∧ closeVs s.hp (args.map s.get) = some (vs, h) ∧ C.p f vs v ∧ q) ∨
  (∃ e, absOp s o.op = some e ∧ e.ob ∧ e.val = v ∧ e.hp = h ∧ (e.as → q)) ∨
  (∃ f args vs h0 G G', o.op = .hcall f args ∧ closeVs s.hp (args.map s.get) = some (vs, h0) ∧ gOf h0 = some G ∧ C.h f G vs (.ret v) G' ∧ h = h0.set 0 (gOb G') ∧ q)

/-- It ends the function by a panic. -/
def Dies (C : CT) (o : AOper) (s : St) : Prop :=
  (∃ f args vs h0 G G' x, o.op = .hcall f args ∧ closeVs s.hp (args.map s.get) = some (vs, h0) ∧ gOf h0 = some G ∧ C.h f G vs (.pan x) G' ∧ C.x x G') ∨
  (∃ x t G, o.op = .pan x ∧ s.get x = .ife t ∧ gOf s.hp = some G ∧ C.x (.ife t) G)

/-- What a panic must show to be welcome. -/
def PX (w0 : World) (own : Nat → Prop) (M0 : Mem) (Df : List Deferred) (X : SV → List (List SV) → Prop) (Q : Exit → Act → World → Prop) : Prop :=
  ∀ (E : Env) (u : Value) (x : SV) (G' : List (List SV)) (a : Act) (w : World), X x G' → Rep E.m u x → W w0 own E w → GI w0.heap.size own E w G' → M0.le E.m → E.m0 = M0 → a.defers = Df → Q (.panic [{ v := u, recovered := false }]) a w

/-- Only a panic is told as one. -/
def isPan : AOp → Bool
  | .pan _ => true
  | _ => false
theorem tr_notpan {op : Op} {aop : AOp} (hno : ∀ x, op ≠ .panic x) (tr : trOp P op = some aop) : isPan aop = false := by
  cases op with
  | move x =>
    simp only [trOp, Option.map_eq_some_iff] at tr
    obtain ⟨_, _, rfl⟩ := tr
    rfl
  | assign x =>
    simp only [trOp, Option.map_eq_some_iff] at tr
    obtain ⟨_, _, rfl⟩ := tr
    rfl
  | nilCheck x =>
    simp only [trOp, Option.map_eq_some_iff] at tr
    obtain ⟨_, _, rfl⟩ := tr
    rfl
  | unOp op t x =>
    simp only [trOp, Option.map_eq_some_iff] at tr
    obtain ⟨_, _, rfl⟩ := tr
    rfl
  | extract x i =>
    simp only [trOp, Option.map_eq_some_iff] at tr
    obtain ⟨_, _, rfl⟩ := tr
    rfl
  | pick c x y =>
    simp only [trOp, Option.bind_eq_bind, Option.bind_eq_some_iff, Option.pure_def, Option.some.injEq] at tr
    obtain ⟨_, _, _, _, _, _, rfl⟩ := tr
    rfl
  | build t parts =>
    simp only [trOp] at tr
    split at tr
    rotate_left
    · cases tr
    simp only [Option.bind_eq_bind, Option.bind_eq_some_iff] at tr
    obtain ⟨_, _, _, _, tr⟩ := tr
    split at tr
    rotate_left
    · cases tr
    cases tr
    rfl
  | binOp op t x y yt =>
    simp only [trOp] at tr
    split at tr
    iterate 3
      · simp only [Option.bind_eq_bind, Option.bind_eq_some_iff, Option.pure_def, Option.some.injEq] at tr
        obtain ⟨_, _, _, _, rfl⟩ := tr
        rfl
    · split at tr
      rotate_left
      · cases tr
      split at tr
      rotate_left
      · cases tr
      simp only [Option.bind_eq_bind, Option.bind_eq_some_iff, Option.pure_def, Option.some.injEq] at tr
      obtain ⟨_, _, _, _, rfl⟩ := tr
      rfl
    · cases tr
  | convert a b x =>
    simp only [trOp] at tr
    split at tr
    · simp only [Option.map_eq_some_iff] at tr
      obtain ⟨_, _, rfl⟩ := tr
      rfl
    · cases tr
  | makeSlice t l c =>
    simp only [trOp, Option.bind_eq_bind, Option.bind_eq_some_iff] at tr
    obtain ⟨_, _, _, _, tr⟩ := tr
    split at tr
    rotate_left
    · cases tr
    simp only [Option.bind_eq_some_iff, Option.pure_def, Option.some.injEq] at tr
    obtain ⟨_, _, _, _, rfl⟩ := tr
    rfl
  | fieldAddr t x i =>
    simp only [trOp, Option.bind_eq_bind, Option.bind_eq_some_iff] at tr
    obtain ⟨_, _, tr⟩ := tr
    split at tr
    · cases tr
    simp only [Option.bind_eq_some_iff, Option.pure_def, Option.some.injEq] at tr
    obtain ⟨_, _, rfl⟩ := tr
    rfl
  | field t x i =>
    simp only [trOp, Option.bind_eq_bind, Option.bind_eq_some_iff] at tr
    obtain ⟨_, _, _, _, tr⟩ := tr
    split at tr
    rotate_left
    · cases tr
    simp only [Option.bind_eq_some_iff, Option.pure_def, Option.some.injEq] at tr
    obtain ⟨_, _, rfl⟩ := tr
    rfl
  | makeInterface t x =>
    simp only [trOp] at tr
    split at tr
    rotate_left
    · cases tr
    split at tr
    rotate_left
    · cases tr
    simp only [Option.map_eq_some_iff] at tr
    obtain ⟨_, _, rfl⟩ := tr
    rfl
  | load t x =>
    simp only [trOp, Option.bind_eq_bind, Option.bind_eq_some_iff] at tr
    obtain ⟨ag, hag, ax, hax, tr⟩ := tr
    split at tr
    rotate_left
    · cases tr
    cases tr
    rfl
  | store t x y =>
    simp only [trOp, Option.bind_eq_bind, Option.bind_eq_some_iff] at tr
    obtain ⟨ag, hag, ax, hax, ay, hay, tr⟩ := tr
    split at tr
    rotate_left
    · cases tr
    cases tr
    rfl
  | buildSlice t len parts =>
    simp only [trOp, Option.bind_eq_bind, Option.bind_eq_some_iff] at tr
    obtain ⟨e, he0, xs, hxs, tr⟩ := tr
    split at tr
    rotate_left
    · cases tr
    cases tr
    rfl
  | slice t x lo hi mx =>
    cases mx with
    | some m => simp [trOp] at tr
    | none =>
      simp only [trOp] at tr
      split at tr
      · split at tr
        · simp only [Option.bind_eq_bind, Option.bind_eq_some_iff, Option.pure_def, Option.some.injEq] at tr
          obtain ⟨ax, hax, lo', _, hi', _, rfl⟩ := tr
          rfl
        · cases tr
      · simp only [Option.bind_eq_bind, Option.bind_eq_some_iff, Option.pure_def, Option.some.injEq] at tr
        obtain ⟨ax, hax, lo', _, hi', _, rfl⟩ := tr
        rfl
      · cases tr
  | indexAddr t x i =>
    simp only [trOp, Option.bind_eq_bind, Option.bind_eq_some_iff] at tr
    obtain ⟨e, he, tr⟩ := tr
    split at tr
    rotate_left
    · cases tr
    simp only [Option.bind_eq_some_iff, Option.pure_def, Option.some.injEq] at tr
    obtain ⟨ax, hax, ai, hai, rfl⟩ := tr
    rfl
  | alloc t =>
    simp only [trOp, Option.map_eq_some_iff] at tr
    obtain ⟨z, _, htr⟩ := tr
    split at htr <;> · subst htr; rfl
  | box t x =>
    simp only [trOp, Option.map_eq_some_iff] at tr
    obtain ⟨z, _, htr⟩ := tr
    split at htr <;> · subst htr; rfl
  | makeMap t r =>
    cases r with
    | none => simp only [trOp, Option.some.injEq] at tr; subst tr; rfl
    | some r => simp [trOp] at tr
  | call c =>
    obtain ⟨callee, args, argTypes⟩ := c
    simp only [trOp] at tr
    split at tr
    · split at tr
      · cases tr
      · split at tr
        · simp only [Option.map_eq_some_iff] at tr
          obtain ⟨ax, _, rfl⟩ := tr
          rfl
        · simp only [Option.map_eq_some_iff] at tr
          obtain ⟨ax, _, rfl⟩ := tr
          rfl
        · cases tr
    · simp only [Option.bind_eq_bind, Option.bind_eq_some_iff] at tr
      obtain ⟨e, he0, z, hz0, tr⟩ := tr
      split at tr
      rotate_left
      · cases tr
      simp only [Option.bind_eq_some_iff, Option.pure_def, Option.some.injEq] at tr
      obtain ⟨as, has, ax, hax, rfl⟩ := tr
      rfl
    · simp only [Option.bind_eq_bind, Option.bind_eq_some_iff, Option.pure_def, Option.some.injEq] at tr
      obtain ⟨ax, _, ay, _, rfl⟩ := tr
      rfl
    · simp only [Option.bind_eq_bind, Option.bind_eq_some_iff, Option.pure_def, Option.some.injEq] at tr
      obtain ⟨ax, _, ay, _, rfl⟩ := tr
      rfl
    · split at tr
      rotate_left
      · cases tr
      split at tr
      rotate_left
      · cases tr
      simp only [Option.map_eq_some_iff] at tr
      obtain ⟨axs, haxs, htr⟩ := tr
      split at htr <;> · subst htr; rfl
    · simp only [Option.map_eq_some_iff] at tr
      obtain ⟨axs, haxs, rfl⟩ := tr
      rfl
    · cases tr
  | panic x => exact absurd rfl (hno x)
  | _ => simp [trOp] at tr


/-- Is it an operation on two values? -/
def isBin : AOp → Bool
  | .bin .. => true
  | _ => false
theorem tr_notbin {op : Op} {aop : AOp} (hno : ∀ bop t x y yt, op ≠ .binOp bop t x y yt) (tr : trOp P op = some aop) : isBin aop = false := by
  cases op with
  | move x =>
    simp only [trOp, Option.map_eq_some_iff] at tr
    obtain ⟨_, _, rfl⟩ := tr
    rfl
  | assign x =>
    simp only [trOp, Option.map_eq_some_iff] at tr
    obtain ⟨_, _, rfl⟩ := tr
    rfl
  | nilCheck x =>
    simp only [trOp, Option.map_eq_some_iff] at tr
    obtain ⟨_, _, rfl⟩ := tr
    rfl
  | unOp op t x =>
    simp only [trOp, Option.map_eq_some_iff] at tr
    obtain ⟨_, _, rfl⟩ := tr
    rfl
  | extract x i =>
    simp only [trOp, Option.map_eq_some_iff] at tr
    obtain ⟨_, _, rfl⟩ := tr
    rfl
  | pick c x y =>
    simp only [trOp, Option.bind_eq_bind, Option.bind_eq_some_iff, Option.pure_def, Option.some.injEq] at tr
    obtain ⟨_, _, _, _, _, _, rfl⟩ := tr
    rfl
  | build t parts =>
    simp only [trOp] at tr
    split at tr
    rotate_left
    · cases tr
    simp only [Option.bind_eq_bind, Option.bind_eq_some_iff] at tr
    obtain ⟨_, _, _, _, tr⟩ := tr
    split at tr
    rotate_left
    · cases tr
    cases tr
    rfl
  | binOp op t x y yt => exact absurd rfl (hno _ _ _ _ _)
  | convert a b x =>
    simp only [trOp] at tr
    split at tr
    · simp only [Option.map_eq_some_iff] at tr
      obtain ⟨_, _, rfl⟩ := tr
      rfl
    · cases tr
  | makeSlice t l c =>
    simp only [trOp, Option.bind_eq_bind, Option.bind_eq_some_iff] at tr
    obtain ⟨_, _, _, _, tr⟩ := tr
    split at tr
    rotate_left
    · cases tr
    simp only [Option.bind_eq_some_iff, Option.pure_def, Option.some.injEq] at tr
    obtain ⟨_, _, _, _, rfl⟩ := tr
    rfl
  | fieldAddr t x i =>
    simp only [trOp, Option.bind_eq_bind, Option.bind_eq_some_iff] at tr
    obtain ⟨_, _, tr⟩ := tr
    split at tr
    · cases tr
    simp only [Option.bind_eq_some_iff, Option.pure_def, Option.some.injEq] at tr
    obtain ⟨_, _, rfl⟩ := tr
    rfl
  | field t x i =>
    simp only [trOp, Option.bind_eq_bind, Option.bind_eq_some_iff] at tr
    obtain ⟨_, _, _, _, tr⟩ := tr
    split at tr
    rotate_left
    · cases tr
    simp only [Option.bind_eq_some_iff, Option.pure_def, Option.some.injEq] at tr
    obtain ⟨_, _, rfl⟩ := tr
    rfl
  | makeInterface t x =>
    simp only [trOp] at tr
    split at tr
    rotate_left
    · cases tr
    split at tr
    rotate_left
    · cases tr
    simp only [Option.map_eq_some_iff] at tr
    obtain ⟨_, _, rfl⟩ := tr
    rfl
  | load t x =>
    simp only [trOp, Option.bind_eq_bind, Option.bind_eq_some_iff] at tr
    obtain ⟨ag, hag, ax, hax, tr⟩ := tr
    split at tr
    rotate_left
    · cases tr
    cases tr
    rfl
  | store t x y =>
    simp only [trOp, Option.bind_eq_bind, Option.bind_eq_some_iff] at tr
    obtain ⟨ag, hag, ax, hax, ay, hay, tr⟩ := tr
    split at tr
    rotate_left
    · cases tr
    cases tr
    rfl
  | buildSlice t len parts =>
    simp only [trOp, Option.bind_eq_bind, Option.bind_eq_some_iff] at tr
    obtain ⟨e, he0, xs, hxs, tr⟩ := tr
    split at tr
    rotate_left
    · cases tr
    cases tr
    rfl
  | slice t x lo hi mx =>
    cases mx with
    | some m => simp [trOp] at tr
    | none =>
      simp only [trOp] at tr
      split at tr
      · split at tr
        · simp only [Option.bind_eq_bind, Option.bind_eq_some_iff, Option.pure_def, Option.some.injEq] at tr
          obtain ⟨ax, hax, lo', _, hi', _, rfl⟩ := tr
          rfl
        · cases tr
      · simp only [Option.bind_eq_bind, Option.bind_eq_some_iff, Option.pure_def, Option.some.injEq] at tr
        obtain ⟨ax, hax, lo', _, hi', _, rfl⟩ := tr
        rfl
      · cases tr
  | indexAddr t x i =>
    simp only [trOp, Option.bind_eq_bind, Option.bind_eq_some_iff] at tr
    obtain ⟨e, he, tr⟩ := tr
    split at tr
    rotate_left
    · cases tr
    simp only [Option.bind_eq_some_iff, Option.pure_def, Option.some.injEq] at tr
    obtain ⟨ax, hax, ai, hai, rfl⟩ := tr
    rfl
  | alloc t =>
    simp only [trOp, Option.map_eq_some_iff] at tr
    obtain ⟨z, _, htr⟩ := tr
    split at htr <;> · subst htr; rfl
  | box t x =>
    simp only [trOp, Option.map_eq_some_iff] at tr
    obtain ⟨z, _, htr⟩ := tr
    split at htr <;> · subst htr; rfl
  | makeMap t r =>
    cases r with
    | none => simp only [trOp, Option.some.injEq] at tr; subst tr; rfl
    | some r => simp [trOp] at tr
  | call c =>
    obtain ⟨callee, args, argTypes⟩ := c
    simp only [trOp] at tr
    split at tr
    · split at tr
      · cases tr
      · split at tr
        · simp only [Option.map_eq_some_iff] at tr
          obtain ⟨ax, _, rfl⟩ := tr
          rfl
        · simp only [Option.map_eq_some_iff] at tr
          obtain ⟨ax, _, rfl⟩ := tr
          rfl
        · cases tr
    · simp only [Option.bind_eq_bind, Option.bind_eq_some_iff] at tr
      obtain ⟨e, he0, z, hz0, tr⟩ := tr
      split at tr
      rotate_left
      · cases tr
      simp only [Option.bind_eq_some_iff, Option.pure_def, Option.some.injEq] at tr
      obtain ⟨as, has, ax, hax, rfl⟩ := tr
      rfl
    · simp only [Option.bind_eq_bind, Option.bind_eq_some_iff, Option.pure_def, Option.some.injEq] at tr
      obtain ⟨ax, _, ay, _, rfl⟩ := tr
      rfl
    · simp only [Option.bind_eq_bind, Option.bind_eq_some_iff, Option.pure_def, Option.some.injEq] at tr
      obtain ⟨ax, _, ay, _, rfl⟩ := tr
      rfl
    · split at tr
      rotate_left
      · cases tr
      split at tr
      rotate_left
      · cases tr
      simp only [Option.map_eq_some_iff] at tr
      obtain ⟨axs, haxs, htr⟩ := tr
      split at htr <;> · subst htr; rfl
    · simp only [Option.map_eq_some_iff] at tr
      obtain ⟨axs, haxs, rfl⟩ := tr
      rfl
    · cases tr
  | panic x =>
    simp only [trOp, Option.map_eq_some_iff] at tr
    obtain ⟨_, _, rfl⟩ := tr
    rfl
  | _ => simp [trOp] at tr


/-- Two pointers into rows that may be one are compared: either way. -/
theorem cmp_wp {o : Oper} {kd : Nat} {bop : BinOp} {ax ay : AX} {va vb : SV} (tr : trOp P o.op = some (.bin kd bop ax ay)) (hc : cmpD kd bop (s.get ax) (s.get ay) = some (va, vb)) (hW : W w0 own E w)
    (hx : ∀ x ∈ o.op.operands, ∀ ax, trX x = some ax → RelV E (a.eval x) (s.get ax)) (K : Act → World → Prop) (Q : Exit → Act → World → Prop) (hK : ∀ u v, (v = va ∧ Both (s.get ax) (s.get ay)) ∨ v = vb → RelV E u v → K (a.put o.dst u) w) : o.wp P a w K Q := by
  obtain ⟨dst, op, ty, pos, after, guard⟩ := o
  simp only at tr hx
  have hb : ∃ bop t x y yt, op = .binOp bop t x y yt := by
    by_cases h : ∃ bop t x y yt, op = .binOp bop t x y yt
    · exact h
    · have := tr_notbin (fun b t x y yt he => h ⟨b, t, x, y, yt, he⟩) tr
      cases this
  obtain ⟨bop', t, x, y, yt, rfl⟩ := hb
  have hkd : ∃ l l2 z z2 c c2, s.get ax = .dref z l c ∧ s.get ay = .dref z2 l2 c2 ∧ kd = 2 ∧ psz l = true ∧ psz l2 = true ∧ ((bop = .eql ∧ va = .bool true ∧ vb = .bool false) ∨ (bop = .neq ∧ va = .bool false ∧ vb = .bool true)) := by
    unfold cmpD at hc
    split at hc
    rotate_left
    · cases hc
    rename_i h1 h2
    split at hc
    rotate_left
    · cases hc
    rename_i hk
    refine ⟨_, _, _, _, _, _, h1, h2, hk.1, hk.2.1, hk.2.2, ?_⟩
    split at hc
    · cases hc; exact .inl ⟨rfl, rfl, rfl⟩
    · cases hc; exact .inr ⟨rfl, rfl, rfl⟩
    · cases hc
  obtain ⟨l, l2, z, z2, c, c2, g1, g2, rfl, p1, p2, hv⟩ := hkd
  have hty : bop' = bop ∧ trX x = some ax ∧ trX y = some ay ∧ ∃ e, P.underlying t = some (.pointer e) ∧ ∃ i, P.info? e = some i ∧ i.size ≠ 0 := by
    simp only [trOp] at tr
    split at tr
    iterate 3
      · simp only [Option.bind_eq_bind, Option.bind_eq_some_iff, Option.pure_def, Option.some.injEq] at tr
        obtain ⟨_, _, _, _, h⟩ := tr
        cases h
    · rename_i e hk
      split at tr
      rotate_left
      · cases tr
      rename_i inf hinf
      split at tr
      rotate_left
      · cases tr
      rename_i hsz
      simp only [Option.bind_eq_bind, Option.bind_eq_some_iff, Option.pure_def, Option.some.injEq] at tr
      obtain ⟨_, h1, _, h2, h⟩ := tr
      cases h
      exact ⟨rfl, h1, h2, e, hk, inf, hinf, hsz⟩
    · cases tr
  obtain ⟨rfl, hax, hay, e, hte, inf, hinf, hsz⟩ := hty
  have hu := hx x (by simp [Op.operands]) ax hax
  have hw := hx y (by simp [Op.operands]) ay hay
  rw [g1] at hu
  rw [g2] at hw
  generalize hue : a.eval x = u at hu
  generalize hwe : a.eval y = v at hw
  have hbo : u = v → Both (.dref z l c) (.dref z2 l2 c2) := fun e => ⟨E.m, u, hu.closed_rep rfl, by rw [e]; exact hw.closed_rep rfl⟩
  cases hu.closed_rep rfl with
  | dref _ _ _ b off vs _ _ _ _ q1 _ =>
    cases hw.closed_rep rfl with
    | dref _ _ _ b2 off2 vs2 _ _ _ _ q2 _ =>
      have hE := equalIn_ptrs (P := P) (w := w) (d := 9999) (a := ⟨b, off + c, none⟩) (b := ⟨b2, off2 + c2, none⟩) hte hinf hsz (fun _ => ⟨hW.pl b (q1 p1), hW.pl b2 (q2 p2)⟩)
      have key : ∀ r, eqB bop' (decide ((⟨b, off + c, none⟩ : Addr) = ⟨b2, off2 + c2, none⟩)) = some r → ((r = va ∧ Both (.dref z l c) (.dref z2 l2 c2)) ∨ r = vb) → Oper.wp P { dst := dst, op := .binOp bop' t x y yt, type := ty, pos := pos, after := after, guard := guard } a w K Q := by
        intro r hr hrv
        obtain ⟨z, r1, r2⟩ := eq_sound (P := P) (E := E) (w := w) hr hE (by simp) (by simp) (by simp) (by simp) (fun x y => eqGuard_at_pointer _ _ _ _ _ _) x y
        have hrun : (execOp a.eval { dst := dst, op := .binOp bop' t x y yt, type := ty, pos := pos, after := after, guard := guard }).run P w = .ok (.value z) w := by
          show (do pure (Next.value (← (do eqGuard bop' t x y (a.eval x) (a.eval y); binOp bop' t (a.eval x) (a.eval y) : Sem Value))) : Sem Next).run P w = _
          rw [Sem.run_bind, hue, hwe, r1]
          rfl
        unfold Oper.wp
        rw [hrun]
        exact hK z r (by rw [g1, g2]; exact hrv) r2
      rcases hv with ⟨rfl, rfl, rfl⟩ | ⟨rfl, rfl, rfl⟩
      · refine key _ rfl ?_
        by_cases hE : (⟨b, off + c, none⟩ : Addr) = ⟨b2, off2 + c2, none⟩
        · exact .inl ⟨by first | (rw [decide_eq_true hE]; done) | (rw [decide_eq_true hE]; rfl), hbo (by rw [hE])⟩
        · exact .inr (by first | (rw [decide_eq_false hE]; done) | (rw [decide_eq_false hE]; rfl))
      · refine key _ rfl ?_
        by_cases hE : (⟨b, off + c, none⟩ : Addr) = ⟨b2, off2 + c2, none⟩
        · exact .inl ⟨by first | (rw [decide_eq_true hE]; done) | (rw [decide_eq_true hE]; rfl), hbo (by rw [hE])⟩
        · exact .inr (by first | (rw [decide_eq_false hE]; done) | (rw [decide_eq_false hE]; rfl))

/-- A row of arguments, closed ahead of a call. -/
theorem args_closed {c : Call} {args : List AX} {vs : List SV} {h : List Ob} (hW : W w0 own E w) (hg : GX w0.heap.size own E w g) (hu : ∀ i, U i → E.view g i = s.hp[i]?) (hops : ∀ y ∈ c.args.toList, y ∈ (Op.call c).operands)
    (hx : ∀ x ∈ (Op.call c).operands, ∀ ax, trX x = some ax → RelV E (a.eval x) (s.get ax)) (hargs : trXs c.args.toList = some args) (hcl : closeVs s.hp (args.map s.get) = some (vs, h)) (hids : ∀ i ∈ idsVs s.hp (args.map s.get), U i) :
    ∃ E1, (c.args.toList.map a.eval).length = vs.length ∧ (∀ (j : Nat) v x, (c.args.toList.map a.eval)[j]? = some v → vs[j]? = some x → Rep E1.m v x) ∧ Step (Up g U) w (owns E) { E with m0 := E.m } E1 w h ∧ (g.isSome = true → h[0]? = s.hp[0]?) := by
  obtain ⟨hl, hget⟩ := trXs_get hargs
  have hrel : ∀ (j : Nat) (v : Value) (x : SV), (c.args.toList.map a.eval)[j]? = some v → (args.map s.get)[j]? = some x → RelV E v x := by
    intro j v x hv hx'
    simp only [List.getElem?_map, Option.map_eq_some_iff] at hv hx'
    obtain ⟨y, hy, rfl⟩ := hv
    obtain ⟨ax, hax, rfl⟩ := hx'
    obtain ⟨ax', g1, g2⟩ := hget j y hy
    rw [hax] at g1
    cases g1
    exact hx y (hops y (List.mem_of_getElem? hy)) ax g2
  have hlen : (c.args.toList.map a.eval).length = (args.map s.get).length := by rw [List.length_map, List.length_map, hl]
  have hnz : g.isSome = true → ∀ i ∈ idsVs s.hp (args.map s.get), i ≠ 0 := fun hs => by
    obtain ⟨G, rfl⟩ := Option.isSome_iff_exists.1 hs
    exact idsVs_ne hW hg.z (fun i h h0 => view_up hu i ⟨h, fun _ => h0⟩) hcl hlen hrel hids
  obtain ⟨_, hlen2, E1, st1, rep1⟩ := closeVs_sound (U := Up g U) (w0 := w) (own := owns E) (E := { E with m0 := E.m }) hW.rebase (view_up hu) hcl hlen (fun j v x hv hx => (hrel j v x hv hx).re) (fun i h => ⟨hids i h, fun hs => hnz hs i h⟩)
  exact ⟨E1, by rw [hlen2, hlen], rep1, st1, fun hs => (closeVs_frame hcl).2 0 (fun h => hnz hs 0 h rfl)⟩

/-- The call itself. -/
theorem call_run {c : Call} {f : Nat} {fn : Func} {dst : Option Tmp} {ty : TypeId} {pos : String} {after : Array Edge} {guard : Option (Nat × Bool)} (hfn : P.funcs[f]? = some fn) (hbody : fn.body.isSome = true) (hname : fn.name ≠ "runtime.NumGoroutine")
    (hcal : c.callee = .value (.func f) ∨ ∃ t, c.callee = .value (.tmp t) ∧ RelV E (a.eval (.tmp t)) (.fn f)) :
    (execOp a.eval { dst := dst, op := .call c, type := ty, pos := pos, after := after, guard := guard }).run P w = .ok (.enter f (c.args.toList.map a.eval).toArray) w := by
  have hvs : (c.args.map a.eval) = (c.args.toList.map a.eval).toArray := by rw [← Array.toList_map]
  rw [← hvs]
  obtain ⟨b, hb⟩ := Option.isSome_iff_exists.1 hbody
  rcases hcal with hcal | ⟨t, hcal, hrel⟩
  · simp [execOp, resolve, hcal, Act.eval, Deferred.ofValue, invoke, callFunc, hfn, hname, hb]
  · have hv := fn_of hrel
    simp [execOp, resolve, hcal, hv, Deferred.ofValue, invoke, callFunc, hfn, hname, hb]

/-- A call that turns the global store, by one of several ways. -/
theorem hcallQ_run {c : Call} {f : Nat} {args : List AX} {vs : List SV} {h0 : List Ob} {T : HOut → List (List SV) → Prop} {dst : Option Tmp} {ty : TypeId} {pos : String} {after : Array Edge} {guard : Option (Nat × Bool)} (tr : trOp P (.call c) = some (.hcall f args))
    (hcl : closeVs s.hp (args.map s.get) = some (vs, h0)) (hG : gOf h0 = some G) (hC : HContractQ P f G vs T) (hW : W w0 own E w) (hg : GX w0.heap.size own E w g) (hu : ∀ i, U i → E.view g i = s.hp[i]?) (hids : ∀ i ∈ 0 :: idsVs s.hp (args.map s.get), U i)
    (hx : ∀ x ∈ (Op.call c).operands, ∀ ax, trX x = some ax → RelV E (a.eval x) (s.get ax)) :
    ∃ as, (execOp a.eval { dst := dst, op := .call c, type := ty, pos := pos, after := after, guard := guard }).run P w = .ok (.enter f as) w ∧
      Calls P f as w fun e w' => ∃ out G' E', T out G' ∧ HEnd E'.m e out ∧ StepV U w0 own E g E' (some G') w' (h0.set 0 (gOb G')) := by
  obtain ⟨c', hcc, hc⟩ := tr_call tr rfl
  cases hcc
  rcases hc with ⟨f', args', fn, hca, hfn, hbody, hname, hargs, hcal⟩ | ⟨t, args', hca, _⟩
  rotate_left
  · cases hca
  rcases hca with hca | hca
  · cases hca
  cases hca
  have hops : ∀ y ∈ c.args.toList, y ∈ (Op.call c).operands := fun y hy => by
    obtain ⟨callee, as, ts⟩ := c
    simp only at hy hcal
    subst hcal
    simp [Op.operands, Call.operands, Array.mem_def, hy]
  obtain ⟨E1, hlen, rep1, st1, h00⟩ := args_closed hW hg hu hops hx hargs hcl (fun i hi => hids i (List.mem_cons_of_mem _ hi))
  have st := StepV.of_pure hW hg hu st1 (fun hs _ => h00 hs)
  have hU : U 0 := hids 0 List.mem_cons_self
  have hg1 := view_some (s := { s with hp := h0 }) st.on hU st.wo hG
  subst hg1
  have hpos : 0 < h0.length := by
    rcases Nat.eq_zero_or_pos h0.length with h | h
    · have := gOf_get hG; rw [List.getElem?_eq_none (by omega)] at this; cases this
    · exact h
  refine ⟨_, call_run (E := E) hfn hbody hname (.inl hcal), Calls.mono (hC E1.m w _ ⟨st.wo.mem, st.wo.pl⟩ st.gx.sat hlen rep1) (fun e w' he => ?_)⟩
  obtain ⟨out, G', hT, m', k1, k2, k3, k4, k5, k6, k7, k8, k9, k10, k11⟩ := he
  obtain ⟨g1, g2, g3⟩ := W.hcalled st.wo st.gx k2 k3 k4 k5 k6 k7 k8 k9 k10 k11
  refine ⟨out, G', { E1 with m := m', m0 := E.m0 }, hT, k1, ⟨st.ext.trans g1, g2, g3, fun o ho => ?_, fun o ho => ?_, rfl, fun hn => by cases hn⟩⟩
  · by_cases h0' : o = 0
    · subst h0'
      rw [List.getElem?_set_self hpos]
      simp [Env.view]
    · rw [set_other h0']
      have := st.on o ho
      simp only [Env.view, if_neg h0'] at this ⊢
      exact this
  · have h0' : o ≠ 0 := by rintro rfl; exact ho hU
    have := st.off o ho
    simp only [Env.view, if_neg h0'] at this ⊢
    exact this

/-- A call that turns the global store. -/
theorem hcall_run {c : Call} {f : Nat} {args : List AX} {vs : List SV} {h0 : List Ob} {G' : List (List SV)} {out : HOut} {dst : Option Tmp} {ty : TypeId} {pos : String} {after : Array Edge} {guard : Option (Nat × Bool)} (tr : trOp P (.call c) = some (.hcall f args))
    (hcl : closeVs s.hp (args.map s.get) = some (vs, h0)) (hG : gOf h0 = some G) (hC : HContract P f G vs out G') (hW : W w0 own E w) (hg : GX w0.heap.size own E w g) (hu : ∀ i, U i → E.view g i = s.hp[i]?) (hids : ∀ i ∈ 0 :: idsVs s.hp (args.map s.get), U i)
    (hx : ∀ x ∈ (Op.call c).operands, ∀ ax, trX x = some ax → RelV E (a.eval x) (s.get ax)) :
    ∃ as, (execOp a.eval { dst := dst, op := .call c, type := ty, pos := pos, after := after, guard := guard }).run P w = .ok (.enter f as) w ∧
      Calls P f as w fun e w' => ∃ E', HEnd E'.m e out ∧ StepV U w0 own E g E' (some G') w' (h0.set 0 (gOb G')) := by
  obtain ⟨as, h1, h2⟩ := hcallQ_run (dst := dst) (ty := ty) (pos := pos) (after := after) (guard := guard) tr hcl hG hC.q hW hg hu hids hx
  refine ⟨as, h1, Calls.mono h2 (fun e w' he => ?_)⟩
  obtain ⟨o, G1, E', ⟨rfl, rfl⟩, k1, k2⟩ := he
  exact ⟨E', k1, k2⟩

theorem does_wp {o : Oper} {ao : AOper} {v : SV} {h : List Ob} {q : Prop} (tr : trOp P o.op = some ao.op) (hD : Does (CTof P X) ao s v h q) (hW : W w0 own E w) (hg : GX w0.heap.size own E w g) (hu : ∀ i, U i → E.view g i = s.hp[i]?)
    (hne : g.isSome = true → 0 < s.hp.length) (hn : creates s ao.op = true → U s.hp.length) (hids : ∀ i ∈ usesO s ao.op, U i) (hx : ∀ x ∈ o.op.operands, ∀ ax, trX x = some ax → RelV E (a.eval x) (s.get ax)) (K : Act → World → Prop) (Q : Exit → Act → World → Prop)
    (hK : ∀ u w' E' g', RelV E' u v → StepV U w0 own E g E' g' w' h → q → K (a.put o.dst u) w') : o.wp P a w K Q := by
  rcases hD with ⟨f, args, vs, hop, hcl, hC, hq⟩ | ⟨e, he, hob, rfl, rfl, hq⟩ | ⟨f, args, vs, h0, G, G', hop, hcl, hG, hC, rfl, hq⟩
  · obtain ⟨dst, op, ty, pos, after, guard⟩ := o
    obtain ⟨d, aop, gu, id, fp, chk⟩ := ao
    simp only at hop tr hx hn hids hK
    obtain ⟨c, rfl, hc⟩ := tr_call tr (by rcases hop with h | ⟨fs, x, h, _⟩ <;> · rw [h]; rfl)
    have hops : ∀ y ∈ c.args.toList, y ∈ (Op.call c).operands := fun y hy => by
      obtain ⟨callee, as, ts⟩ := c
      simp only at hy
      have hca : (∃ f, callee = .value (.func f)) ∨ ∃ t, callee = .value (.tmp t) := by
        rcases hc with ⟨f, _, _, _, _, _, _, _, h⟩ | ⟨t, _, _, _, h⟩
        · exact .inl ⟨f, h⟩
        · exact .inr ⟨t, h⟩
      rcases hca with ⟨f, rfl⟩ | ⟨t, rfl⟩ <;> simp [Op.operands, Call.operands, Array.mem_def, hy]
    have hfun : ∃ fn, P.funcs[f]? = some fn ∧ fn.body.isSome = true ∧ fn.name ≠ "runtime.NumGoroutine" ∧ trXs c.args.toList = some args ∧ (c.callee = .value (.func f) ∨ ∃ t, c.callee = .value (.tmp t) ∧ RelV E (a.eval (.tmp t)) (.fn f)) := by
      rcases hop with hop | ⟨fs, x, hop, hfx, hin⟩
      · rcases hc with ⟨f', args', fn, hca, h1, h2, h3, h4, h5⟩ | ⟨t, args', hca, _⟩
        · rw [hop] at hca
          rcases hca with hca | hca
          · cases hca; exact ⟨fn, h1, h2, h3, h4, .inl h5⟩
          · cases hca
        · rw [hop] at hca; cases hca
      · rcases hc with ⟨f', args', fn, hca, _⟩ | ⟨t, args', hca, h4, h5⟩
        · rw [hop] at hca
          rcases hca with hca | hca <;> cases hca
        · rw [hop] at hca
          cases hca
          have hm : f ∈ canCall P c.argTypes := List.contains_iff_mem.1 hin
          unfold canCall at hm
          rw [List.mem_filter] at hm
          have hm2 := hm.2
          split at hm2
          · rename_i fn hfn
            simp only [Bool.and_eq_true, bne_iff_ne, ne_eq] at hm2
            refine ⟨fn, hfn, hm2.2.1, hm2.2.2, h4, .inr ⟨t, h5, ?_⟩⟩
            rw [← hfx]
            exact hx (.tmp t) (by obtain ⟨callee, as, ts⟩ := c; simp only at h5; subst h5; simp [Op.operands, Call.operands]) (.t t) rfl
          · cases hm2
    obtain ⟨fn, hfn, hbody, hname, hargs, hcal⟩ := hfun
    have hids : ∀ i ∈ idsVs s.hp (args.map s.get), U i := by
      rcases hop with hop | ⟨fs, x, hop, _, _⟩ <;> · subst hop; exact hids
    obtain ⟨E1, hlen, rep1, st1, h0⟩ := args_closed hW hg hu hops hx hargs hcl hids
    unfold Oper.wp
    rw [call_run hfn hbody hname hcal]
    simp only [Oper.upon]
    refine Calls.mono (hC E1.m w _ ⟨st1.wo.mem, st1.wo.pl⟩ hlen rep1) (fun e w' he => ?_)
    obtain ⟨u, m', rfl, k1, k2, k3, k4, k5, k6, k7, k8, k9⟩ := he
    obtain ⟨g1, g2⟩ := st1.wo.called k2 k3 k4 k5 k6 k7 k8 k9
    exact hK u w' { E1 with m := m', m0 := E.m0 } g (.rep _ _ k1) (StepV.of_pure (E1 := { E1 with m := m' }) hW hg hu ⟨st1.ext.trans g1, g2, st1.on, st1.off⟩ (fun hs _ => h0 hs)) hq
  · cases hgu : gUse s ao.op with
    | false =>
      obtain ⟨u, w', E', h1, h2, h3, h4⟩ := op_soundV (P := P) (o := o) tr hgu he hob hW hg hu hne hn hids hx
      unfold Oper.wp
      rcases h1 with h1 | ⟨h1, rfl⟩
      · rw [h1]; exact hK u w' E' g h2 h3 (hq h4)
      · rw [h1]; exact hK undef w' E' g h2 h3 (hq h4)
    | true =>
      obtain ⟨u, w', E', g', h1, h2, h3, h4⟩ := gop_sound (P := P) (o := o) tr hgu he hob hW hg hu hids hx
      unfold Oper.wp
      rcases h1 with h1 | ⟨h1, rfl⟩
      · rw [h1]; exact hK u w' E' g' h2 h3 (hq h4)
      · rw [h1]; exact hK undef w' E' g' h2 h3 (hq h4)
  · obtain ⟨dst, op, ty, pos, after, guard⟩ := o
    obtain ⟨d, aop, gu, id, fp, chk⟩ := ao
    simp only at hop tr hx hn hids hK
    subst hop
    obtain ⟨c, rfl, _⟩ := tr_call tr rfl
    obtain ⟨as, hr, hcalls⟩ := hcall_run (dst := dst) (ty := ty) (pos := pos) (after := after) (guard := guard) tr hcl hG hC hW hg hu hids hx
    unfold Oper.wp
    rw [hr]
    simp only [Oper.upon]
    refine Calls.mono hcalls (fun e w' he => ?_)
    obtain ⟨E', ⟨u, rfl, hrep⟩, st⟩ := he
    exact hK u w' E' (some G') (.rep _ _ hrep) st hq

theorem dies_wp {o : Oper} {ao : AOper} (tr : trOp P o.op = some ao.op) (hD : Dies (CTof P X) ao s) (hW : W w0 own E w) (hg : GX w0.heap.size own E w g) (hu : ∀ i, U i → E.view g i = s.hp[i]?)
    (hids : ∀ i ∈ usesO s ao.op, U i) (hx : ∀ x ∈ o.op.operands, ∀ ax, trX x = some ax → RelV E (a.eval x) (s.get ax)) (hM : M0.le E.m) (hz : E.m0 = M0) (hdf : a.defers = Df) (K : Act → World → Prop) (Q : Exit → Act → World → Prop) (hQ : PX w0 own M0 Df X Q) : o.wp P a w K Q := by
  obtain ⟨dst, op, ty, pos, after, guard⟩ := o
  obtain ⟨d, aop, gu, id, fp, chk⟩ := ao
  simp only at tr hx hids
  rcases hD with ⟨f, args, vs, h0, G, G', x, hop, hcl, hG, hC, hX⟩ | ⟨x, t, G, hop, hxt, hG, hX⟩
  · simp only at hop
    subst hop
    obtain ⟨c, rfl, _⟩ := tr_call tr rfl
    obtain ⟨as, hr, hcalls⟩ := hcall_run (dst := dst) (ty := ty) (pos := pos) (after := after) (guard := guard) tr hcl hG hC hW hg hu hids hx
    unfold Oper.wp
    rw [hr]
    simp only [Oper.upon]
    refine Calls.mono hcalls (fun e w' he => ?_)
    obtain ⟨E', ⟨u, rfl, hrep⟩, st⟩ := he
    exact hQ E' u x G' a w' hX hrep st.wo st.gx (hM.trans st.ext.m) (st.ext.z.trans hz) hdf
  · simp only at hop
    subst hop
    have hop : ∃ y, op = .panic y ∧ trX y = some x := by
      cases op with
      | panic y =>
        simp only [trOp, Option.map_eq_some_iff] at tr
        obtain ⟨ax, hax, h⟩ := tr
        cases h
        exact ⟨y, rfl, hax⟩
      | _ => have := tr_notpan (by intro y h; cases h) tr; cases this
    obtain ⟨y, rfl, hy⟩ := hop
    have hv := hx y (by simp [Op.operands]) x hy
    rw [hxt] at hv
    have hU : U 0 := hids 0 (by simp [usesO])
    have := view_some hu hU hW hG
    subst this
    have hr := hv.closed_rep rfl
    have hval : a.eval y = .iface t (.agg #[]) := by
      generalize a.eval y = u at hr
      cases hr
      rfl
    unfold Oper.wp
    have : (execOp a.eval { dst := dst, op := .panic y, type := ty, pos := pos, after := after, guard := guard }).run P w = .halt (.panic (a.eval y)) w := by
      simp [execOp, hval, Instr.panic, goPanic]
    rw [this]
    simp only [Oper.upon]
    exact hQ E _ _ G a w hX hr hW hg hM hz hdf

/-- The state stands for the frame's values and the world. -/
structure SR (w0 : World) (own : Nat → Prop) (M0 : Mem) (B : Prop) (Df : List Deferred) (E : Env) (g : Option (List (List SV))) (s : St) (a : Act) (w : World) : Prop where
  wo : W w0 own E w
  gx : GX w0.heap.size own E w g
  hp : ∀ o, E.view g o = s.hp[o]?
  len : s.sl.length = a.tmps.size
  sl : ∀ i, RelV E (a.tmps.getD i undef) (s.sl.getD i .undef)
  dfr : a.defers = Df
  z : E.m0 = M0
  le : M0.le E.m
  d : g = none → E.m.d = M0.d
  hb : g.isSome = true → B

theorem SR.ne (hS : SR w0 own M0 B Df E g s a w) (h : g.isSome = true) : 0 < s.hp.length := by
  obtain ⟨G, rfl⟩ := Option.isSome_iff_exists.1 h
  have := hS.hp 0
  simp only [Env.view, if_true] at this
  rcases Nat.eq_zero_or_pos s.hp.length with h0 | h0
  · rw [List.getElem?_eq_none (by omega)] at this; cases this
  · exact h0

theorem put_rel {u : Value} {v : SV} {d : Option Nat} {hp : List Ob} (hl : s.sl.length = a.tmps.size) (h : ∀ i, RelV E (a.tmps.getD i undef) (s.sl.getD i .undef)) (hv : RelV E u v) :
    ∀ i, RelV E ((a.put d u).tmps.getD i undef) (({ s with hp := hp }.put d v).sl.getD i .undef) := by
  intro i
  cases d with
  | none => exact h i
  | some d =>
    by_cases hd : d = i
    · subst hd
      rcases Nat.lt_or_ge d a.tmps.size with hlt | hge
      · simp [Act.put, St.put, Array.getElem?_setIfInBounds, List.getElem?_set, hlt, hl, hv]
      · have := h d
        simpa [Act.put, St.put, Array.getElem?_setIfInBounds, List.getElem?_set, show ¬ d < a.tmps.size by omega, hl] using this
    · have := h i
      simpa [Act.put, St.put, Array.getElem?_setIfInBounds, List.getElem?_set, hd] using this

theorem put_len {u : Value} {v : SV} {d : Option Nat} {hp : List Ob} (hl : s.sl.length = a.tmps.size) : ({ s with hp := hp }.put d v).sl.length = (a.put d u).tmps.size := by
  cases d <;> simp [Act.put, St.put, hl]
theorem put_dfr {u : Value} {d : Option Nat} : (a.put d u).defers = a.defers := by cases d <;> rfl
theorem put_hp {v : SV} {d : Option Nat} : (s.put d v).hp = s.hp := by cases d <;> rfl

theorem SR.step {u : Value} {v : SV} {d : Option Nat} {h : List Ob} {w' : World} {E' : Env} {g' : Option (List (List SV))} (hS : SR w0 own M0 B Df E g s a w) (hv : RelV E' u v) (st : StepV (fun _ => True) w0 own E g E' g' w' h) :
    SR w0 own M0 B Df E' g' ({ s with hp := h }.put d v) (a.put d u) w' := by
  refine ⟨st.wo, st.gx, fun o => by rw [put_hp]; exact st.on o trivial, put_len hS.len, put_rel hS.len (fun i => (hS.sl i).mono0 st.ext) hv, by rw [put_dfr]; exact hS.dfr, st.ext.z.trans hS.z, hS.le.trans st.ext.m, fun hn => ?_, fun h => hS.hb (by rw [← st.sm]; exact h)⟩
  subst hn
  have hsm := st.sm
  cases g with
  | none => exact (st.d rfl).trans (hS.d rfl)
  | some G => cases hsm

theorem SR.x (hS : SR w0 own M0 B Df E g s a w) {x : Operand} {ax : AX} (h : trX x = some ax) : RelV E (a.eval x) (s.get ax) := by
  cases x with
  | tmp t => simp only [trX, Option.some.injEq] at h; subst h; exact hS.sl t
  | const v =>
    simp only [trX, Option.map_eq_some_iff] at h
    obtain ⟨sv, hsv, rfl⟩ := h
    exact .rep _ _ (rep_const hsv).1
  | func f => simp only [trX, Option.some.injEq] at h; subst h; exact .rep _ _ (.fn f)
  | _ => simp [trX] at h

theorem undef_of {v : Value} (h : RelV E v .undef) : v = undef := by
  cases h with
  | undef => rfl
  | rep _ _ hr => cases hr

theorem guard_of {o : Oper} {ao : AOper} {ops : Array Oper} (tr : trOper P ops o = some ao) : trOp P o.op = some ao.op ∧ o.dst = ao.d ∧
    ((o.guard = none ∧ ao.g = none) ∨ ∃ j want t, o.guard = some (j, want) ∧ (ops[j]?).bind (·.dst) = some t ∧ ao.g = some (t, want)) := by
  unfold trOper at tr
  split at tr
  · rename_i op hop
    split at tr
    · rename_i hg; cases tr; exact ⟨hop, rfl, .inl ⟨hg, rfl⟩⟩
    · rename_i j want hg
      split at tr
      · rename_i t ht; cases tr; exact ⟨hop, rfl, .inr ⟨j, want, t, hg, ht, rfl⟩⟩
      · cases tr
  · cases tr

theorem wanted_none {o : Oper} {f : Nat → Option Bool} (h : o.guard = none) : Region.wanted o f = true := by simp [Region.wanted, h]

theorem wanted_bool {o : Oper} {ops : Array Oper} {j t : Nat} {want b : Bool} (h : o.guard = some (j, want)) (ht : (ops[j]?).bind (·.dst) = some t) (hv : RelV E (a.tmps.getD t undef) (.bool b)) : Region.wanted o (yielded ops a.tmps) = (b == want) := by
  have := bool_of hv
  have h2 : a.tmps[t]? = some (.bool b) := by
    rw [Array.getD_eq_getD_getElem?] at this
    cases h3 : a.tmps[t]? with
    | none => rw [h3] at this; cases this
    | some u => rw [h3] at this; simpa using this
  simp only [Region.wanted, h, yielded, ht, Option.bind_some, h2]
  cases b <;> cases want <;> rfl

theorem wanted_undef {o : Oper} {ops : Array Oper} {j t : Nat} {want : Bool} (h : o.guard = some (j, want)) (ht : (ops[j]?).bind (·.dst) = some t) (hv : RelV E (a.tmps.getD t undef) .undef) : Region.wanted o (yielded ops a.tmps) = false := by
  have := undef_of hv
  rw [Array.getD_eq_getD_getElem?] at this
  simp only [Region.wanted, h, yielded, ht, Option.bind_some]
  cases h3 : a.tmps[t]? with
  | none => rfl
  | some u =>
    rw [h3] at this
    have : u = undef := by simpa using this
    subst this
    rfl

/-- A call of several outcomes: what stands behind each of them, and that its panics are welcome. -/
theorem hq_wp {o : Oper} {ao : AOper} {f : Nat} {args : List AX} {vs : List SV} {h0 : List Ob} {T : HOut → List (List SV) → Prop} (tr : trOp P o.op = some ao.op) (hop : ao.op = .hcall f args) (hcl : closeVs s.hp (args.map s.get) = some (vs, h0)) (hG : gOf h0 = some G) (hC : HContractQ P f G vs T)
    (hW : W w0 own E w) (hg : GX w0.heap.size own E w g) (hu : ∀ i, U i → E.view g i = s.hp[i]?)
    (hids : ∀ i ∈ usesO s ao.op, U i) (hx : ∀ x ∈ o.op.operands, ∀ ax, trX x = some ax → RelV E (a.eval x) (s.get ax)) (hM : M0.le E.m) (hz : E.m0 = M0) (hdf : a.defers = Df) (K : Act → World → Prop) (Q : Exit → Act → World → Prop) (hQ : PX w0 own M0 Df X Q)
    (hK : ∀ r G', T (.ret r) G' → ∀ u w' E', RelV E' u r → StepV U w0 own E g E' (some G') w' (h0.set 0 (gOb G')) → K (a.put o.dst u) w') (hX : ∀ x G', T (.pan x) G' → X x G') : o.wp P a w K Q := by
  obtain ⟨dst, op, ty, pos, after, guard⟩ := o
  obtain ⟨d, aop, gu, id, fp, chk⟩ := ao
  simp only at hop tr hx hids hK
  subst hop
  obtain ⟨c, rfl, _⟩ := tr_call tr rfl
  obtain ⟨as, hr, hcalls⟩ := hcallQ_run (dst := dst) (ty := ty) (pos := pos) (after := after) (guard := guard) tr hcl hG hC hW hg hu hids hx
  unfold Oper.wp
  rw [hr]
  simp only [Oper.upon]
  refine Calls.mono hcalls (fun e w' he => ?_)
  obtain ⟨out, G', E', hT, hE, st⟩ := he
  cases out with
  | ret r =>
    obtain ⟨u, rfl, hrep⟩ := hE
    exact hK r G' hT u w' E' (.rep _ _ hrep) st
  | pan x =>
    obtain ⟨u, rfl, hrep⟩ := hE
    exact hQ E' u x G' a w' (hX x G' hT) hrep st.wo st.gx (hM.trans st.ext.m) (st.ext.z.trans hz) hdf

theorem does_of_vc1 {C : CT} {o : AOper} {K : St → Prop} (h : vc1 C o s K) : (∃ v hp q, Does C o s v hp q ∧ (q → K ({ s with hp := hp }.put o.d v))) ∨ Dies C o s ∨ (∃ kd op x y va vb, o.op = .bin kd op x y ∧ cmpD kd op (s.get x) (s.get y) = some (va, vb) ∧ (C.b (s.get x) (s.get y) → K (s.put o.d va)) ∧ K (s.put o.d vb)) ∨
    (∃ f args vs h0 G T, o.op = .hcall f args ∧ closeVs s.hp (args.map s.get) = some (vs, h0) ∧ gOf h0 = some G ∧ C.q f G vs T ∧ ∀ out G', T out G' → (match out with | .ret r => K ({ s with hp := h0.set 0 (gOb G') }.put o.d r) | .pan x => C.x x G')) := by
  unfold vc1 at h
  split at h
  · rename_i f args hop
    split at h
    · rename_i vs hh hcl
      obtain ⟨r, hC, hK⟩ := h
      exact .inl ⟨r, hh, True, .inl ⟨f, args, vs, .inl hop, hcl, hC, trivial⟩, fun _ => hK⟩
    · exact h.elim
  · rename_i fs x args hop
    split at h
    · rename_i f hf
      split at h
      · rename_i hin
        split at h
        · rename_i vs hh hcl
          obtain ⟨r, hC, hK⟩ := h
          exact .inl ⟨r, hh, True, .inl ⟨f, args, vs, .inr ⟨fs, x, hop, hf, hin⟩, hcl, hC, trivial⟩, fun _ => hK⟩
        · exact h.elim
      · exact h.elim
    · exact h.elim
  · rename_i c a b hop
    split at h
    · rename_i t ht
      have he : absOp s o.op = some { ob := True, val := if t then s.get a else s.get b, hp := s.hp } := by rw [hop]; simp only [absOp, ht, St.val]
      refine .inl ⟨if t then s.get a else s.get b, s.hp, True, .inr (.inl ⟨_, he, trivial, rfl, rfl, fun _ => trivial⟩), fun _ => ?_⟩
      cases t with
      | true => exact h.1 rfl
      | false => exact h.2 rfl
    · exact h.elim
  · rename_i f args hop
    split at h
    · rename_i vs hh hcl
      split at h
      · rename_i G hG
        obtain ⟨T, hC, hK⟩ := h
        exact .inr (.inr (.inr ⟨f, args, vs, hh, G, T, hop, hcl, hG, hC, hK⟩))
      · exact h.elim
    · exact h.elim
  · rename_i x hop
    split at h
    · rename_i t ht
      split at h
      · rename_i G hG
        exact .inr (.inl (.inr ⟨x, t, G, hop, ht, hG, h⟩))
      · exact h.elim
    · exact h.elim
  · rename_i kd op x y hop
    split at h
    · rename_i va vb hcm
      exact .inr (.inr (.inl ⟨kd, op, x, y, va, vb, hop, hcm, h.1, h.2⟩))
    · split at h
      · rename_i e he
        exact .inl ⟨e.val, e.hp, e.as, .inr (.inl ⟨e, by rw [hop]; exact he, h.1, rfl, rfl, id⟩), h.2⟩
      · exact h.elim
  · split at h
    · rename_i e he
      exact .inl ⟨e.val, e.hp, e.as, .inr (.inl ⟨e, he, h.1, rfl, rfl, id⟩), h.2⟩
    · exact h.elim

theorem StepV.refl {hp : List Ob} (hW : W w0 own E w) (hg : GX w0.heap.size own E w g) (hu : ∀ i, U i → E.view g i = hp[i]?) : StepV U w0 own E g E g w hp := ⟨Ext0.refl E, hW, hg, hu, fun _ _ => rfl, rfl, fun _ => rfl⟩

/-- A region in the order of the text. -/
theorem ops_sound {ops : Array Oper} {Q : Exit → Act → World → Prop} {K : St → Prop} (hX : PX w0 own M0 Df X Q) (hK : ∀ E g s a w, SR w0 own M0 B Df E g s a w → K s → Q .normal a w) : ∀ (l : List Oper) (rest : List AOper) (k : Nat) (E : Env) (g : Option (List (List SV))) (s : St) (a : Act) (w : World),
    trOps P ops l = some rest → (∀ (j : Nat) o, l[j]? = some o → ops[k + j]? = some o) → SR w0 own M0 B Df E g s a w → vcOps (CTof P X) rest s K → wpOps P ops Q (List.range' k l.length) a w := by
  intro l
  induction l with
  | nil =>
    intro rest k E g s a w htr _ hS hvc
    simp only [trOps, Option.some.injEq] at htr
    subst htr
    simp only [vcOps] at hvc
    simpa [wpOps] using hK E g s a w hS hvc
  | cons o l ih =>
    intro rest k E g s a w htr hget hS hvc
    simp only [trOps, Option.bind_eq_bind, Option.bind_eq_some_iff, Option.pure_def, Option.some.injEq] at htr
    obtain ⟨ao, hao, rest', hrest, rfl⟩ := htr
    obtain ⟨tr, hd, hg⟩ := guard_of hao
    have hk : ops[k]? = some o := by simpa using hget 0 o rfl
    have hget' : ∀ (j : Nat) o', l[j]? = some o' → ops[k + 1 + j]? = some o' := fun j o' hj => by
      have := hget (j + 1) o' (by simpa using hj)
      rwa [show k + 1 + j = k + (j + 1) by omega]
    have go : vc1 (CTof P X) ao s (fun s' => vcOps (CTof P X) rest' s' K) → o.wp P a w (wpOps P ops Q (List.range' (k + 1) l.length)) Q := by
      intro h1
      rcases does_of_vc1 h1 with ⟨v, hp, q, hD, hn⟩ | hD | ⟨kd, bop, x, y, va, vb, hop, hcm, k1, k2⟩ | ⟨f, args, vs, h0, G, T, hop, hcl, hG, hC, hT⟩
      · refine does_wp (U := fun _ => True) tr hD hS.wo hS.gx (fun i _ => hS.hp i) hS.ne (fun _ => trivial) (fun _ _ => trivial) (fun x _ ax hax => hS.x hax) _ _ (fun u w' E' g' hv st hq => ?_)
        rw [hd]
        exact ih rest' (k + 1) E' g' _ _ w' hrest hget' (hS.step hv st) (hn hq)
      · exact dies_wp (U := fun _ => True) tr hD hS.wo hS.gx (fun i _ => hS.hp i) (fun _ _ => trivial) (fun x _ ax hax => hS.x hax) hS.le hS.z hS.dfr _ _ hX
      · refine cmp_wp (by rw [← hop]; exact tr) hcm hS.wo (fun x _ ax hax => hS.x hax) _ _ (fun u v hv hr => ?_)
        rw [hd]
        have hst := hS.step (d := ao.d) hr (StepV.refl hS.wo hS.gx (fun o _ => hS.hp o))
        rcases hv with ⟨rfl, hb⟩ | rfl
        · exact ih rest' (k + 1) E g _ _ w hrest hget' hst (k1 hb)
        · exact ih rest' (k + 1) E g _ _ w hrest hget' hst k2
      · refine hq_wp (U := fun _ => True) tr hop hcl hG hC hS.wo hS.gx (fun i _ => hS.hp i) (fun _ _ => trivial) (fun x _ ax hax => hS.x hax) hS.le hS.z hS.dfr _ _ hX (fun r G' hr u w' E' hv st => ?_) (fun x G' hx => hT _ _ hx)
        rw [hd]
        exact ih rest' (k + 1) E' (some G') _ _ w' hrest hget' (hS.step hv st) (hT _ _ hr)
    have skip : vcOps (CTof P X) rest' (s.put ao.d .undef) K → wpOps P ops Q (List.range' (k + 1) l.length) (a.put o.dst undef) w := by
      intro h1
      refine ih rest' (k + 1) E g _ _ w hrest hget' ?_ h1
      rw [hd]
      have := hS.step (d := ao.d) (.undef : RelV E undef .undef) (StepV.refl hS.wo hS.gx (fun o _ => hS.hp o))
      exact this
    rw [List.length_cons, List.range'_succ, wpOps]
    simp only [hk]
    rcases hg with ⟨hg1, hg2⟩ | ⟨j, want, t, hg1, hg2, hg3⟩
    · rw [if_pos (wanted_none hg1)]
      simp only [vcOps, hg2] at hvc
      exact .inl (go hvc)
    · simp only [vcOps, hg3] at hvc
      have hst := hS.sl t
      split at hvc
      · rename_i b hb
        rw [hb] at hst
        have hw := wanted_bool hg1 hg2 hst
        by_cases hbw : b = want
        · rw [if_pos (by rw [hw]; simp [hbw])]
          exact .inl (go (hvc.1 (by simp [hbw])))
        · rw [if_neg (by rw [hw]; simp [hbw])]
          exact skip (hvc.2 (by simp [hbw]))
      · rename_i hb
        rw [hb] at hst
        rw [if_neg (by rw [wanted_undef hg1 hg2 hst]; simp)]
        exact skip hvc
      · exact hvc.elim
end
end Go.Proofs.YtdpigpopcbjkmaaDoor.Abs

/-! What an abstract operation does not touch stays; a row of steps seen through the set of those that are done. -/
namespace Go.Proofs.YtdpigpopcbjkmaaDoor.Abs
open Go Go.RowKit

section
variable {s : St}

theorem does_frame {C : CT} {o : AOper} {v : SV} {hp : List Ob} {q : Prop} (h : Does C o s v hp q) : ∀ i, i ∉ chgD s o.op → hp[i]? = s.hp[i]? := by
  intro i hi
  rcases h with ⟨f, args, vs, hop, hcl, _⟩ | ⟨e, he, _, _, rfl, _⟩ | ⟨f, args, vs, h0, G, G', hop, hcl, _, _, rfl, _⟩
  · rcases hop with hop | ⟨fs, x, hop, _, _⟩ <;>
    · rw [hop] at hi
      simp only [chgD, reader, touchD, usesO, creates, Bool.false_eq_true, if_false, List.append_nil] at hi
      exact (closeVs_frame hcl).2 i hi
  · exact absOp_frame he i hi
  · rw [hop] at hi
    simp only [chgD, reader, touchD, usesO, creates, Bool.false_eq_true, if_false, List.append_nil, List.mem_cons, not_or] at hi
    rw [set_other hi.1]
    exact (closeVs_frame hcl).2 i hi.2
end

/-! ### A row of steps, of which only some are done -/
section
variable {X : Type} (f : Nat → Nat → X) (wr : Nat → Nat → Bool)

/-- A place's value when of the first k steps those of L are done. -/
def atL (L : Nat → Bool) : Nat → Nat → X
  | 0, p => f 0 p
  | k + 1, p => if L k && wr k p then f (k + 1) p else atL L k p

variable {f wr}

theorem atL_all {L : Nat → Bool} (hf : ∀ k p, wr k p = false → f (k + 1) p = f k p) {p : Nat} : ∀ {k : Nat}, (∀ j, j < k → wr j p = true → L j = true) → atL f wr L k p = f k p := by
  intro k
  induction k with
  | zero => intro _; rfl
  | succ k ih =>
    intro h
    simp only [atL]
    cases hw : wr k p with
    | true => simp [h k (Nat.lt_succ_self k) hw]
    | false => simp only [Bool.and_false, Bool.false_eq_true, if_false]; rw [hf k p hw]; exact ih (fun j hj => h j (Nat.lt_succ_of_lt hj))

theorem atL_read {L : Nat → Bool} (hf : ∀ k p, wr k p = false → f (k + 1) p = f k p) {p i : Nat} (h1 : ∀ j, j < i → wr j p = true → L j = true) : ∀ {n : Nat}, i ≤ n → (∀ k, i ≤ k → k < n → wr k p = true → L k = false) → atL f wr L n p = f i p := by
  intro n
  induction n with
  | zero => intro hi _; have : i = 0 := by omega
            subst this; rfl
  | succ n ih =>
    intro hi h2
    by_cases hn : i = n + 1
    · subst hn; exact atL_all hf h1
    · simp only [atL]
      have := ih (by omega) (fun k hk hkn => h2 k hk (by omega))
      cases hw : wr n p with
      | true => simp [h2 n (by omega) (by omega) hw, this]
      | false => simp [this]

theorem atL_last {L : Nat → Bool} (hf : ∀ k p, wr k p = false → f (k + 1) p = f k p) {p i : Nat} (h1 : ∀ j, j < i → wr j p = true → L j = true) : ∀ {n : Nat}, i ≤ n → atL f wr L n p = f i p ∨ ∃ k, i ≤ k ∧ k < n ∧ L k = true ∧ wr k p = true ∧ atL f wr L n p = f (k + 1) p := by
  intro n
  induction n with
  | zero => intro hi; have : i = 0 := by omega
            subst this; exact .inl rfl
  | succ n ih =>
    intro hi
    by_cases hn : i = n + 1
    · subst hn; exact .inl (atL_all hf h1)
    · by_cases hw : (L n && wr n p) = true
      · refine .inr ⟨n, by omega, Nat.lt_succ_self n, by simp at hw; exact hw.1, by simp at hw; exact hw.2, ?_⟩
        simp only [atL, hw, if_true]
      · have e : atL f wr L (n + 1) p = atL f wr L n p := by simp only [atL, hw, if_false]; rfl
        rcases ih (by omega) with h | ⟨k, k1, k2, k3, k4, k5⟩
        · exact .inl (e.trans h)
        · exact .inr ⟨k, k1, by omega, k3, k4, e.trans k5⟩

theorem atL_write {L : Nat → Bool} {p i : Nat} (hL : L i = true) (hw : wr i p = true) : ∀ {n : Nat}, i < n → (∀ k, i < k → k < n → wr k p = true → L k = false) → atL f wr L n p = f (i + 1) p := by
  intro n
  induction n with
  | zero => intro hi; omega
  | succ n ih =>
    intro hi h2
    simp only [atL]
    by_cases hn : i = n
    · subst hn; simp [hL, hw]
    · have := ih (by omega) (fun k hk hkn => h2 k hk (by omega))
      cases hw' : wr n p with
      | true => simp [h2 n (by omega) (by omega) hw', this]
      | false => simp [this]

theorem atL_keep {L L' : Nat → Bool} {p i : Nat} (hL : ∀ k, k ≠ i → L' k = L k) (hw : wr i p = false) : ∀ {n : Nat}, atL f wr L' n p = atL f wr L n p := by
  intro n
  induction n with
  | zero => rfl
  | succ n ih =>
    simp only [atL]
    by_cases hn : n = i
    · subst hn; simp [hw, ih]
    · rw [hL n hn, ih]

theorem atL_none {L : Nat → Bool} (hL : ∀ k, L k = false) {p : Nat} : ∀ {n : Nat}, atL f wr L n p = f 0 p := by
  intro n
  induction n with
  | zero => rfl
  | succ n ih => simp [atL, hL n, ih]
end

/-! ### Which operations stand ahead of which -/
def Down (ops : Array Oper) (L : Nat → Bool) : Prop := ∀ j o, ops[j]? = some o → L j = true → ∀ e ∈ o.after, Region.binds .any e = true → L e.on = true

theorem msk_spec {acc : List Nat} {i : Nat} : ∀ {es : List Edge}, (msk acc es).testBit i = true → ∃ e ∈ es, Region.binds .any e = true ∧ (i = e.on ∨ (acc.getD e.on 0).testBit i = true) := by
  intro es
  induction es with
  | nil => intro h; simp [msk] at h
  | cons e r ih =>
    intro h
    simp only [msk] at h
    split at h
    · rename_i hb
      simp only [Nat.testBit_or, Bool.or_eq_true, Nat.testBit_two_pow, decide_eq_true_eq] at h
      rcases h with (h | h) | h
      · obtain ⟨e', h1, h2⟩ := ih h; exact ⟨e', List.mem_cons_of_mem _ h1, h2⟩
      · exact ⟨e, List.mem_cons_self, hb, .inl h.symm⟩
      · exact ⟨e, List.mem_cons_self, hb, .inr h⟩
    · obtain ⟨e', h1, h2⟩ := ih h; exact ⟨e', List.mem_cons_of_mem _ h1, h2⟩

theorem msks_spec {ops : Array Oper} {L : Nat → Bool} (hL : Down ops L) : ∀ (l : List Oper) (acc : List Nat), (∀ (j : Nat) o, l[j]? = some o → ops[acc.length + j]? = some o) →
    (∀ k i, (acc.getD k 0).testBit i = true → L k = true → L i = true) → ∀ k i, ((msks l acc).getD k 0).testBit i = true → L k = true → L i = true := by
  intro l
  induction l with
  | nil => intro acc _ h; exact h
  | cons o l ih =>
    intro acc hget h
    refine ih (acc ++ [msk acc o.after.toList]) (fun j o' hj => ?_) (fun k i hb hk => ?_)
    · have := hget (j + 1) o' (by simpa using hj)
      rwa [List.length_append, List.length_singleton, show acc.length + 1 + j = acc.length + (j + 1) by omega]
    · by_cases hka : k < acc.length
      · rw [List.getD_eq_getElem?_getD, List.getElem?_append_left hka, ← List.getD_eq_getElem?_getD] at hb
        exact h k i hb hk
      · by_cases hke : k = acc.length
        · subst hke
          rw [List.getD_eq_getElem?_getD, List.getElem?_append_right (Nat.le_refl _)] at hb
          simp only [Nat.sub_self, List.getElem?_cons_zero, Option.getD_some] at hb
          obtain ⟨e, he, hbn, hi⟩ := msk_spec hb
          have h0 : ops[acc.length]? = some o := by simpa using hget 0 o rfl
          have hLe := hL _ o h0 hk e (Array.mem_def.2 he) hbn
          rcases hi with rfl | hi
          · exact hLe
          · exact h _ i hi hLe
        · rw [List.getD_eq_getElem?_getD, List.getElem?_append_right (by omega), List.getElem?_eq_none (by simp; omega)] at hb
          simp at hb
end Go.Proofs.YtdpigpopcbjkmaaDoor.Abs

/-! A region whose order is drawn. -/
namespace Go.Proofs.YtdpigpopcbjkmaaDoor.Abs
open Go Go.RowKit

theorem absOp_len {s : St} {op : AOp} {e : Eff} (h : absOp s op = some e) : s.hp.length ≤ e.hp.length := by
  cases op with
  | new cells => simp only [absOp, Option.some.injEq] at h; subst h; simp
  | box x => simp only [absOp, Option.some.injEq] at h; subst h; simp
  | mk sz bytes zero l c =>
    simp only [absOp] at h
    split at h
    · cases h; simp
    · cases h
  | bslice sz ps =>
    simp only [absOp] at h
    split at h
    · rename_i rows hh hr
      cases h
      obtain ⟨l', h1, _, _⟩ := closeRows_eq hr
      have := (closeVs_frame h1).1
      simp; omega
    · cases h
  | load ag n x => simp only [absOp] at h; rw [absLoad_hp h]; exact Nat.le_refl _
  | slc z x lo hi => simp only [absOp] at h; rw [absSlc_hp h]; exact Nat.le_refl _
  | len st x => simp only [absOp] at h; rw [absLen_hp h]; exact Nat.le_refl _
  | store n x y =>
    simp only [absOp, absStore] at h
    split at h
    · split at h
      rotate_left
      · cases h
      split at h
      rotate_left
      · cases h
      split at h
      · cases h; simp
      · split at h
        rotate_left
        · cases h
        rename_i x' hh hcv
        split at h
        rotate_left
        · cases h
        split at h
        rotate_left
        · cases h
        cases h
        have := (closeV_frame hcv).1
        simp; omega
    · split at h
      rotate_left
      · cases h
      rename_i x' hh hcv
      split at h
      rotate_left
      · cases h
      split at h
      rotate_left
      · cases h
      cases h
      have := (closeV_frame hcv).1
      simp; omega
    · cases h
  | app sz bytes x y =>
    simp only [absOp, absApp] at h
    split at h
    rotate_left
    · cases h
    split at h
    · cases h; simp
    · split at h
      rotate_left
      · cases h
      split at h
      rotate_left
      · cases h
      cases h; simp
    · cases h
  | iad sz x y =>
    simp only [absOp] at h
    split at h
    · cases h; exact Nat.le_refl _
    · cases h
  | build zero parts => simp only [absOp, Option.some.injEq] at h; subst h; exact Nat.le_refl _
  | call f args => simp [absOp] at h
  | callv fs x args => simp [absOp] at h
  | hcall f args => simp [absOp] at h
  | pan x => simp [absOp] at h
  | newg cells =>
    simp only [absOp] at h
    split at h
    · cases h; simp
    · cases h
  | boxg x =>
    simp only [absOp] at h
    split at h
    rotate_left
    · cases h
    rename_i v hh hcv
    split at h
    rotate_left
    · cases h
    cases h
    have := (closeV_frame hcv).1
    simp; omega
  | mkmap =>
    simp only [absOp] at h
    split at h
    · cases h; simp
    · cases h
  | fld ag off n x =>
    simp only [absOp] at h
    split at h
    · cases h; exact Nat.le_refl _
    · cases h
  | _ =>
    simp only [absOp] at h
    first
      | (rw [val_hp h]; exact Nat.le_refl _)
      | (repeat' (split at h)
         all_goals first | (rw [val_hp h]; exact Nat.le_refl _) | (cases h; done))

theorem GX.drew {n0 : Nat} {own : Nat → Prop} {E : Env} {w : World} {g : Option (List (List SV))} (h : GX n0 own E w g) : GX n0 own E { w with drawn := w.drawn + 1 } g := by
  cases g with
  | none => trivial
  | some G => exact ⟨h.z, ⟨h.sat.dom, h.sat.inj, fun i r b hr hb => (h.sat.row i r b hr hb).mono (.refl _) rfl, h.sat.free⟩, h.new, h.obs⟩

/-- Is an operation wanted? -/
def WantA (o : AOper) (s : St) (b : Bool) : Prop :=
  match o.g with
  | none => b = true
  | some (t, want) => (∃ c, s.sl.getD t .undef = .bool c ∧ b = (c == want)) ∨ (s.sl.getD t .undef = .undef ∧ b = false)

/-- The steps of a drawn region, in the order of the text: all of them, or the first n, behind which it ends by a panic. -/
structure Trace (C : CT) (l : List AOper) (s : St) (fps : List (Nat × AOp × St)) (p : Prop) (K : St → Prop) (n : Nat) (σ : Nat → St) (v : Nat → SV) (q : Nat → Prop) (on : Nat → Bool) : Prop where
  zero : σ 0 = s
  le : n ≤ l.length
  want : ∀ i ao, i < n → l[i]? = some ao → WantA ao (σ i) (on i)
  next : ∀ i ao, i < n → l[i]? = some ao → σ (i + 1) = ({ σ i with hp := (σ (i + 1)).hp } : St).put ao.d (v i)
  does : ∀ i ao, i < n → l[i]? = some ao → on i = true → Does C ao (σ i) (v i) (σ (i + 1)).hp (q i) ∧ ∀ f ∈ fps, f.1 ∈ ao.chk → calm f.2.2 f.2.1 (σ i) ao.op (σ (i + 1)).hp
  skip : ∀ i ao, i < n → l[i]? = some ao → on i = false → v i = .undef ∧ (σ (i + 1)).hp = (σ i).hp ∧ q i
  apart : ∀ i j a b, i < j → j < n → l[i]? = some a → l[j]? = some b → on i = true → on j = true → a.fp = true → a.id ∈ b.chk → calm (σ i) a.op (σ j) b.op (σ (j + 1)).hp
  fin : n = l.length → p → (∀ i, i < l.length → q i) → K (σ l.length)
  die : ∀ ao, l[n]? = some ao → WantA ao (σ n) true ∧ on n = true ∧ Dies C ao (σ n) ∧ ao.chk.contains ao.id = true ∧ (∀ f ∈ fps, f.1 ∈ ao.chk → ∀ x ∈ chgD f.2.2 f.2.1, x ∉ touchD (σ n) ao.op) ∧ (∀ i a, i < n → l[i]? = some a → on i = true → a.fp = true → a.id ∈ ao.chk → ∀ x ∈ chgD (σ i) a.op, x ∉ touchD (σ n) ao.op)

theorem clear_of {o : AOper} {s : St} {fps : List (Nat × AOp × St)} (h : clear o s fps) : ∀ f ∈ fps, f.1 ∈ o.chk → ∀ x ∈ chgD f.2.2 f.2.1, x ∉ touchD s o.op := by
  unfold clear at h
  split at h
  · rename_i hc; intro f _ hf; rw [hc] at hf; cases hf
  · exact h
theorem clear2_of {o : AOper} {s s' : St} {fps : List (Nat × AOp × St)} (h : clear2 o s fps s') : ∀ f ∈ fps, f.1 ∈ o.chk → ∀ x ∈ touchD f.2.2 f.2.1, x ∈ chgD s o.op → isHC o.op = true ∧ stable f.2.2 f.2.1 s'.hp := by
  unfold clear2 at h
  split at h
  · rename_i hc; intro f _ hf; rw [hc] at hf; cases hf
  · exact h

theorem does_of_stepD {C : CT} {o : AOper} {s : St} {K : St → Prop → Prop} (h : stepD C o s K) : (∃ v hp q, Does C o s v hp q ∧ K ({ s with hp := hp }.put o.d v) q) ∨ (Dies C o s ∧ o.chk.contains o.id = true) := by
  unfold stepD at h
  split at h
  · rename_i f args hop
    split at h
    · rename_i vs hh hcl
      obtain ⟨r, hC, hK⟩ := h
      exact .inl ⟨r, hh, True, .inl ⟨f, args, vs, .inl hop, hcl, hC, trivial⟩, hK⟩
    · exact h.elim
  · rename_i fs x args hop
    split at h
    · rename_i f hf
      split at h
      · rename_i hin
        split at h
        · rename_i vs hh hcl
          obtain ⟨r, hC, hK⟩ := h
          exact .inl ⟨r, hh, True, .inl ⟨f, args, vs, .inr ⟨fs, x, hop, hf, hin⟩, hcl, hC, trivial⟩, hK⟩
        · exact h.elim
      · exact h.elim
    · exact h.elim
  · rename_i c a b hop
    split at h
    · rename_i t ht
      have he : absOp s o.op = some { ob := True, val := if t then s.get a else s.get b, hp := s.hp } := by rw [hop]; simp only [absOp, ht, St.val]
      refine .inl ⟨if t then s.get a else s.get b, s.hp, True, .inr (.inl ⟨_, he, trivial, rfl, rfl, fun _ => trivial⟩), ?_⟩
      cases t with
      | true => exact h.1 rfl
      | false => exact h.2 rfl
    · exact h.elim
  · rename_i f args hop
    split at h
    · rename_i vs hh hcl
      split at h
      · rename_i G hG
        obtain ⟨out, G', hC, hK⟩ := h
        cases out with
        | ret r => exact .inl ⟨r, _, True, .inr (.inr ⟨f, args, vs, hh, G, G', hop, hcl, hG, hC, rfl, trivial⟩), hK⟩
        | pan x => exact .inr ⟨.inl ⟨f, args, vs, hh, G, G', x, hop, hcl, hG, hC, hK.2⟩, hK.1⟩
      · exact h.elim
    · exact h.elim
  · exact h.elim
  · split at h
    · rename_i e he
      exact .inl ⟨e.val, e.hp, e.as, .inr (.inl ⟨e, he, h.1, rfl, rfl, id⟩), h.2⟩
    · exact h.elim

theorem put_put_hp (s : St) (hp : List Ob) (d : Option Nat) (v : SV) : ({ s with hp := hp }.put d v).hp = hp := put_hp

/-- A trace, one step longer. -/
theorem Trace.cons {C : CT} {o : AOper} {l : List AOper} {s s1 : St} {fps fps' : List (Nat × AOp × St)} {p p' : Prop} {K : St → Prop} {n : Nat} {σ : Nat → St} {v : Nat → SV} {q : Nat → Prop} {on : Nat → Bool}
    {v0 : SV} {q0 : Prop} {b0 : Bool} (h : Trace C l s1 fps' p' K n σ v q on) (hw : WantA o s b0) (hs1 : s1 = ({ s with hp := s1.hp } : St).put o.d v0) (hd : b0 = true → Does C o s v0 s1.hp q0 ∧ ∀ f ∈ fps, f.1 ∈ o.chk → calm f.2.2 f.2.1 s o.op s1.hp)
    (hk : b0 = false → v0 = .undef ∧ s1.hp = s.hp ∧ q0) (hp : p → q0 → p') (hf : ∀ f ∈ fps, f ∈ fps') (hf2 : b0 = true → o.fp = true → (o.id, o.op, s) ∈ fps') :
    Trace C (o :: l) s fps p K (n + 1) (fun i => match i with | 0 => s | i + 1 => σ i) (fun i => match i with | 0 => v0 | i + 1 => v i) (fun i => match i with | 0 => q0 | i + 1 => q i) (fun i => match i with | 0 => b0 | i + 1 => on i) := by
  have h0 := h.zero
  refine ⟨rfl, by have := h.le; simpa using this, fun i ao hi ha => ?_, fun i ao hi ha => ?_, fun i ao hi ha hon => ?_, fun i ao hi ha hon => ?_, fun i j a b hij hj ha hb hi hjo hfp hid => ?_, fun hn hp0 hq => ?_, fun ao ha => ?_⟩
  · cases i with
    | zero => simp at ha; subst ha; exact hw
    | succ i => exact h.want i ao (by omega) (by simpa using ha)
  · cases i with
    | zero => simp at ha; subst ha; simp only [h0]; exact hs1
    | succ i => exact h.next i ao (by omega) (by simpa using ha)
  · cases i with
    | zero => simp at ha; subst ha; simp only [h0]; exact hd hon
    | succ i =>
      obtain ⟨g1, g2⟩ := h.does i ao (by omega) (by simpa using ha) hon
      exact ⟨g1, fun f hfm hc => g2 f (hf f hfm) hc⟩
  · cases i with
    | zero => simp at ha; subst ha; simp only [h0]; exact hk hon
    | succ i => exact h.skip i ao (by omega) (by simpa using ha) hon
  · cases j with
    | zero => omega
    | succ j =>
      cases i with
      | zero =>
        simp at ha; subst ha
        exact (h.does j b (by omega) (by simpa using hb) hjo).2 _ (hf2 hi hfp) hid
      | succ i => exact h.apart i j a b (by omega) (by omega) (by simpa using ha) (by simpa using hb) hi hjo hfp hid
  · exact h.fin (by simpa using hn) (hp hp0 (hq 0 (by simp))) (fun i hi => hq (i + 1) (by simp; omega))
  · obtain ⟨d1, d2, d3, d4, d5, d6⟩ := h.die ao (by simpa using ha)
    refine ⟨d1, d2, d3, d4, fun f hfm hc => d5 f (hf f hfm) hc, fun i a hi ha' hon hfp hid => ?_⟩
    cases i with
    | zero => simp at ha'; subst ha'; exact d5 _ (hf2 hon hfp) hid
    | succ i => exact d6 i a (by omega) (by simpa using ha') hon hfp hid

theorem trace_of {C : CT} {K : St → Prop} : ∀ (l : List AOper) (s : St) (fps : List (Nat × AOp × St)) (p : Prop), vcDr C l s fps p K → ∃ n σ v q on, Trace C l s fps p K n σ v q on := by
  intro l
  induction l with
  | nil =>
    intro s fps p h
    simp only [vcDr] at h
    exact ⟨0, fun _ => s, fun _ => .undef, fun _ => True, fun _ => false, rfl, Nat.le_refl _, by simp, by simp, by simp, by simp, by simp, fun _ hp _ => h hp, by simp⟩
  | cons o l ih =>
    intro s fps p h
    have go : ∀ b0, WantA o s b0 → b0 = true → clear o s fps ∧ stepD C o s (fun s' q => clear2 o s fps s' ∧ vcDr C l s' (if o.fp then (o.id, o.op, s) :: fps else fps) (p ∧ q) K) → ∃ n σ v q on, Trace C (o :: l) s fps p K n σ v q on := by
      intro b0 hw hb h
      obtain ⟨h1, h2⟩ := h
      rcases does_of_stepD h2 with ⟨v0, hp, q0, hD, hK⟩ | ⟨hD, hc⟩
      · obtain ⟨n, σ, v, q, on, hT⟩ := ih _ _ _ hK.2
        exact ⟨_, _, _, _, _, hT.cons hw (by rw [put_put_hp]) (fun _ => ⟨by rw [put_put_hp]; exact hD, fun f hf hc => ⟨clear_of h1 f hf hc, clear2_of hK.1 f hf hc⟩⟩) (fun h => by rw [hb] at h; cases h) (fun hp hq => ⟨hp, hq⟩)
          (fun f hf => by split
                          · exact List.mem_cons_of_mem _ hf
                          · exact hf) (fun _ hfp => by rw [if_pos hfp]; exact List.mem_cons_self)⟩
      · subst hb
        refine ⟨0, fun _ => s, fun _ => .undef, fun _ => True, fun _ => true, rfl, Nat.zero_le _, fun i _ hi => by omega, fun i _ hi => by omega, fun i _ hi => by omega, fun i _ hi => by omega, fun i j _ _ _ hj => by omega, fun hn => by simp at hn, fun ao ha => ?_⟩
        simp at ha; subst ha
        exact ⟨hw, rfl, hD, hc, clear_of h1, fun i _ hi => by omega⟩
    have sk : ∀ b0, WantA o s b0 → b0 = false → vcDr C l (s.put o.d .undef) fps p K → ∃ n σ v q on, Trace C (o :: l) s fps p K n σ v q on := by
      intro b0 hw hb h
      obtain ⟨n, σ, v, q, on, hT⟩ := ih _ _ _ h
      refine ⟨_, _, _, _, _, hT.cons (v0 := .undef) (q0 := True) hw ?_ (fun h => by rw [hb] at h; cases h) (fun _ => ⟨rfl, put_hp, trivial⟩) (fun hp _ => hp) (fun f hf => hf) (fun h => by rw [hb] at h; cases h)⟩
      rw [put_hp]
    simp only [vcDr] at h
    split at h
    · rename_i hg
      exact go true (by simp [WantA, hg]) rfl h
    · rename_i t want hg
      split at h
      · rename_i b hb
        by_cases hbw : b = want
        · exact go (b == want) (by simp only [WantA, hg]; exact .inl ⟨b, hb, rfl⟩) (by simp [hbw]) (h.1 (by simp [hbw]))
        · exact sk (b == want) (by simp only [WantA, hg]; exact .inl ⟨b, hb, rfl⟩) (by simp [hbw]) (h.2 (by simp [hbw]))
      · rename_i hb
        exact sk false (by unfold WantA; rw [hg]; exact .inr ⟨hb, rfl⟩) rfl h
      · exact h.elim

theorem trOps_get {P : Program} {ops : Array Oper} : ∀ {l : List Oper} {r : List AOper}, trOps P ops l = some r → r.length = l.length ∧ ∀ (j : Nat) ao, r[j]? = some ao → ∃ o, l[j]? = some o ∧ trOper P ops o = some ao := by
  intro l
  induction l with
  | nil => intro r h; simp only [trOps, Option.some.injEq] at h; subst h; simp
  | cons y l ih =>
    intro r h
    simp only [trOps, Option.bind_eq_bind, Option.bind_eq_some_iff, Option.pure_def, Option.some.injEq] at h
    obtain ⟨ay, hay, r', hr, rfl⟩ := h
    obtain ⟨h1, h2⟩ := ih hr
    refine ⟨by simp [h1], fun j ao ha => ?_⟩
    cases j with
    | zero => simp at ha; subst ha; exact ⟨y, by simp, hay⟩
    | succ j => obtain ⟨o, g1, g2⟩ := h2 j ao (by simpa using ha); exact ⟨o, by simpa using g1, g2⟩

theorem annot_get {m : List Nat} {l : List AOper} {j : Nat} {ao : AOper} (h : (annot m l)[j]? = some ao) : ∃ a0, l[j]? = some a0 ∧ ao.op = a0.op ∧ ao.d = a0.d ∧ ao.g = a0.g ∧ ao.id = j := by
  simp only [annot, List.getElem?_map, Option.map_eq_some_iff] at h
  obtain ⟨⟨a0, k⟩, h1, rfl⟩ := h
  rw [List.getElem?_zipIdx, Option.map_eq_some_iff] at h1
  obtain ⟨a1, h2, h3⟩ := h1
  cases h3
  exact ⟨a0, h2, rfl, rfl, rfl, by simp⟩

theorem looks_operand {ops : Array Oper} {o : Oper} {t : Tmp} (h : Operand.tmp t ∈ o.op.operands) : t ∈ o.looksAt ops :=
  List.mem_append_left _ (List.mem_filterMap.2 ⟨.tmp t, by simpa using h, rfl⟩)
theorem looks_guard {ops : Array Oper} {o : Oper} {j t : Nat} {want : Bool} (h : o.guard = some (j, want)) (ht : (ops[j]?).bind (·.dst) = some t) : t ∈ o.looksAt ops := by
  simp [Oper.looksAt, h, ht]

section
variable {P : Program} {w0 : World} {own : Nat → Prop} {M0 : Mem} {B : Prop} {Df : List Deferred} {ops : Array Oper} {Q : Exit → Act → World → Prop} {K : St → Prop} {l : List AOper} {s : St} {n : Nat} {σ : Nat → St} {v : Nat → SV} {q : Nat → Prop} {on : Nat → Bool} {X : SV → List (List SV) → Prop} {g : Option (List (List SV))}

def fO (σ : Nat → St) (k p : Nat) : Option Ob := (σ k).hp[p]?
def wO (l : List AOper) (σ : Nat → St) (on : Nat → Bool) (k p : Nat) : Bool := on k && (match l[k]? with | some ao => (chgD (σ k) ao.op).contains p | none => false)
def fS (σ : Nat → St) (k t : Nat) : SV := (σ k).sl.getD t .undef
def wS (l : List AOper) (k t : Nat) : Bool := match l[k]? with | some ao => ao.d == some t | none => false

/-- The frame and the world when the operations of L are done. -/
structure Inv (w0 : World) (own : Nat → Prop) (M0 : Mem) (B : Prop) (Df : List Deferred) (ops : Array Oper) (l : List AOper) (s : St) (n : Nat) (σ : Nat → St) (on : Nat → Bool) (q : Nat → Prop) (L : Nat → Bool) (E : Env) (g : Option (List (List SV))) (a : Act) (w : World) : Prop where
  down : Down ops L
  lt : ∀ k, L k = true → k < n
  wo : W w0 own E w
  gx : GX w0.heap.size own E w g
  hp : ∀ o, E.view g o = atL (fO σ) (wO l σ on) L l.length o
  len : s.sl.length = a.tmps.size
  sl : ∀ t, RelV E (a.tmps.getD t undef) (atL (fS σ) (wS l) L l.length t)
  dfr : a.defers = Df
  z : E.m0 = M0
  le : M0.le E.m
  d : g = none → E.m.d = M0.d
  ne : g.isSome = true → ∀ k, 0 < (σ k).hp.length
  q : ∀ i, L i = true → q i
  hb : g.isSome = true → B

theorem fS_keep (hT : Trace (CTof P X) l s [] True K n σ v q on) (hn : ∀ k, n ≤ k → σ (k + 1) = σ k) : ∀ k t, wS l k t = false → fS σ (k + 1) t = fS σ k t := by
  intro k t h
  unfold fS
  rcases Nat.lt_or_ge k n with hk | hk
  · have hkl : k < l.length := by have := hT.le; omega
    have ha : l[k]? = some l[k] := List.getElem?_eq_getElem hkl
    rw [hT.next k _ hk ha]
    simp only [wS, ha, beq_eq_false_iff_ne, ne_eq] at h
    cases hd : l[k].d with
    | none => rfl
    | some d =>
      rw [hd] at h
      have : d ≠ t := fun e => h (by rw [e])
      simp [St.put, List.getElem?_set, this]
  · rw [hn k hk]

theorem fO_keep (hT : Trace (CTof P X) l s [] True K n σ v q on) (hn : ∀ k, n ≤ k → σ (k + 1) = σ k) : ∀ k p, wO l σ on k p = false → fO σ (k + 1) p = fO σ k p := by
  intro k p h
  unfold fO
  rcases Nat.lt_or_ge k n with hk | hk
  · have hkl : k < l.length := by have := hT.le; omega
    have ha : l[k]? = some l[k] := List.getElem?_eq_getElem hkl
    simp only [wO, ha] at h
    cases ho : on k with
    | true =>
      rw [ho] at h
      simp at h
      exact does_frame (hT.does k _ hk ha ho).1 p h
    | false => rw [(hT.skip k _ hk ha ho).2.1]
  · rw [hn k hk]

theorem okDraw_pair {i j : Nat} {x y : Oper} {a b : AOper} (h : okDraw ops l = true) (hij : i < j) (hx : ops[i]? = some x) (hy : ops[j]? = some y) (ha : l[i]? = some a) (hb : l[j]? = some b) :
    ((msks ops.toList []).getD j 0).testBit i = true ∨ (Oper.apart ops x y = true ∧ (fineS a.op b.op = true ∨ (a.fp = true ∧ a.id = i ∧ i ∈ b.chk))) := by
  simp only [okDraw, Bool.and_eq_true, List.all_eq_true, List.mem_range] at h
  have hj : j < l.length := by
    rcases Nat.lt_or_ge j l.length with h | h
    · exact h
    · rw [List.getElem?_eq_none h] at hb; cases hb
  have := h.2 j hj i hij
  simp only [hx, hy, ha, hb, Bool.or_eq_true, Bool.and_eq_true, beq_iff_eq, List.contains_eq_mem, decide_eq_true_eq] at this
  rcases this with h | ⟨⟨_, h1⟩, h2 | ⟨⟨h2, h3⟩, h4⟩⟩
  · exact .inl h
  · exact .inr ⟨h1, .inl h2⟩
  · exact .inr ⟨h1, .inr ⟨h2, h3, h4⟩⟩

/-- What may panic stands ahead of all that is behind it. -/
theorem okDraw_chk {i j : Nat} {x y : Oper} {a b : AOper} (h : okDraw ops l = true) (hij : i < j) (hx : ops[i]? = some x) (hy : ops[j]? = some y) (ha : l[i]? = some a) (hb : l[j]? = some b) (hc : a.chk.contains i = true) : ((msks ops.toList []).getD j 0).testBit i = true := by
  simp only [okDraw, Bool.and_eq_true, List.all_eq_true, List.mem_range] at h
  have hj : j < l.length := by
    rcases Nat.lt_or_ge j l.length with h | h
    · exact h
    · rw [List.getElem?_eq_none h] at hb; cases hb
  have := h.2 j hj i hij
  simp only [hx, hy, ha, hb, Bool.or_eq_true, Bool.and_eq_true] at this
  rcases this with h | ⟨⟨h1, _⟩, _⟩
  · exact h
  · rw [hc] at h1; cases h1

theorem okDraw_len (h : okDraw ops l = true) : l.length = ops.size := by
  simp only [okDraw, Bool.and_eq_true, beq_iff_eq] at h
  exact h.1.1

theorem okDraw_edge {i : Nat} {o : Oper} {e : Edge} (h : okDraw ops l = true) (ho : ops[i]? = some o) (he : e ∈ o.after) (hb : Region.binds .any e = true) : e.on < i := by
  simp only [okDraw, Bool.and_eq_true, List.all_eq_true] at h
  have := h.1.2 (o, i) (by
    rw [List.mem_iff_getElem?]
    exact ⟨i, by rw [List.getElem?_zipIdx]; simp [ho]⟩) e (by simpa using he)
  simpa [hb] using this

/-- What stands ahead of one that is ready is done; what stands behind one that is not done is not. -/
theorem ahead_done {L : Nat → Bool} {i j : Nat} {o : Oper} (hd : Down ops L) (ho : ops[i]? = some o) (hi : ∀ e ∈ o.after, Region.binds .any e = true → L e.on = true) (hij : j ≠ i) (hb : ((msks ops.toList []).getD i 0).testBit j = true) : L j = true := by
  let L' : Nat → Bool := fun k => L k || k == i
  have hd' : Down ops L' := by
    intro k o' ho' hk e he hbn
    by_cases hki : k = i
    · subst hki
      rw [ho] at ho'; cases ho'
      simp [L', hi e he hbn]
    · have : L k = true := by simpa [L', hki] using hk
      simp [L', hd k o' ho' this e he hbn]
  have := msks_spec hd' ops.toList [] (fun j o hj => by simpa using hj) (fun k i h => by simp at h) i j hb (by simp [L'])
  simpa [L', hij] using this

theorem behind_not {L : Nat → Bool} {i k : Nat} (hd : Down ops L) (hi : L i = false) (hb : ((msks ops.toList []).getD k 0).testBit i = true) : L k = false := by
  cases hk : L k with
  | false => rfl
  | true =>
    have := msks_spec hd ops.toList [] (fun j o hj => by simpa using hj) (fun k i h => by simp at h) k i hb hk
    rw [hi] at this; cases this

/-- What an operation finds, and what its step leaves, where its elders are done and its followers are not. -/
structure Place (l : List AOper) (n : Nat) (σ : Nat → St) (on : Nat → Bool) (L : Nat → Bool) (i : Nat) (o : Oper) (ao : AOper) (ops : Array Oper) : Prop where
  slotR : ∀ t, t ∈ o.looksAt ops → atL (fS σ) (wS l) L l.length t = (σ i).sl.getD t .undef
  slotW : ∀ t, ao.d = some t → ∀ k, i < k → k < l.length → wS l k t = true → L k = false
  obR : (on i = true → ∀ p, p ∈ touchD (σ i) ao.op → atL (fO σ) (wO l σ on) L l.length p = (σ i).hp[p]?) ∨
    (∃ k, atL (fO σ) (wO l σ on) L l.length 0 = (σ (k + 1)).hp[0]? ∧ stable (σ i) ao.op (σ (k + 1)).hp ∧ i < n)
  obE : on i = true → ∀ p, p ∈ chgD (σ i) ao.op → atL (fO σ) (wO l σ on) L l.length p = (σ i).hp[p]?
  obW : on i = true → ∀ p, p ∈ chgD (σ i) ao.op → ∀ k, i < k → k < l.length → wO l σ on k p = true → L k = false

theorem chg_touch {s : St} {op : AOp} {p : Nat} (h : p ∈ chgD s op) : p ∈ touchD s op := by
  unfold chgD at h
  split at h
  · cases h
  · exact h

theorem stable_op {s : St} {op : AOp} {hp' : List Ob} (h : stable s op hp') : ∃ ag m x gi c G G' r r', op = .load ag m x ∧ s.get x = .gp gi c ∧ gOf s.hp = some G ∧ gOf hp' = some G' ∧ G[gi]? = some r ∧ G'[gi]? = some r' ∧ (isMp r' = false ∧ c + m ≤ r'.length) ∧ cut true r'.length ag m c r' = cut true r.length ag m c r := by
  unfold stable at h
  split at h
  rotate_left
  · exact h.elim
  rename_i ag m x
  split at h
  rotate_left
  · exact h.elim
  rename_i gi c hx
  split at h
  rotate_left
  · exact h.elim
  rename_i G hG
  split at h
  rotate_left
  · exact h.elim
  rename_i G' hG'
  split at h
  rotate_left
  · exact h.elim
  rename_i r hr
  split at h
  rotate_left
  · exact h.elim
  rename_i r' hr'
  exact ⟨ag, m, x, gi, c, G, G', r, r', rfl, hx, hG, hG', hr, hr', h.1, h.2⟩

theorem stable_touch {s : St} {op : AOp} {hp' : List Ob} (h : stable s op hp') : (∀ p, p ∈ touchD s op → p = 0) ∧ chgD s op = [] := by
  obtain ⟨ag, m, x, gi, c, G, G', r, r', rfl, hx, _⟩ := stable_op h
  refine ⟨fun p hp => ?_, rfl⟩
  simp only [touchD, usesO, creates, hx, adC, isGp, if_true, Bool.false_eq_true, if_false, List.append_nil, List.mem_cons, List.not_mem_nil, or_false] at hp
  exact hp

theorem stable_does {C : CT} {ao : AOper} {s : St} {v : SV} {h : List Ob} {q : Prop} {hp' : List Ob} (hD : Does C ao s v h q) (hs : stable s ao.op hp') : Does C ao ({ s with hp := hp' } : St) v hp' q ∧ q ∧ (∀ i ∈ usesO ({ s with hp := hp' } : St) ao.op, i = 0) ∧ creates ({ s with hp := hp' } : St) ao.op = false := by
  obtain ⟨ag, m, x, gi, c, G, G', r, r', hop, hx, hG, hG', hr, hr', ho, hc⟩ := stable_op hs
  have hx' : ({ s with hp := hp' } : St).get x = .gp gi c := by cases x <;> exact hx
  rcases hD with ⟨f, args, vs, h1, _⟩ | ⟨e, he, hob, rfl, rfl, hq⟩ | ⟨f, args, vs, h0, G, G', h1, _⟩
  · rw [hop] at h1; rcases h1 with h1 | ⟨_, _, h1, _⟩ <;> cases h1
  · rw [hop] at he
    simp only [absOp, hx, absLoad, hG, hr, Option.some.injEq] at he
    subst he
    have hq' := hq trivial
    refine ⟨.inr (.inl ⟨{ ob := isMp r' = false ∧ c + m ≤ r'.length, val := cut true r'.length ag m c r', hp := hp' }, ?_, ho, hc, rfl, fun _ => hq'⟩), hq', fun i hi => ?_, by rw [hop]; rfl⟩
    · rw [hop]; simp only [absOp, hx', absLoad, hG', hr']
    · rw [hop] at hi
      simp only [usesO, hx', adC, isGp, if_true, List.mem_cons, List.not_mem_nil, or_false] at hi
      exact hi
  · rw [hop] at h1; cases h1

theorem place_of {L : Nat → Bool} {i : Nat} {o : Oper} {ao : AOper} (hok : okDraw ops l = true) (hT : Trace (CTof P X) l s [] True K n σ v q on) (hn : ∀ k, n ≤ k → σ (k + 1) = σ k) (hdst : ∀ (k : Nat) a o, l[k]? = some a → ops[k]? = some o → o.dst = a.d)
    (hin : i ≤ n) (hLn : ∀ k, L k = true → k < n) (hd : Down ops L) (hL : L i = false) (ho : ops[i]? = some o) (ha : l[i]? = some ao) (hr : ∀ e ∈ o.after, Region.binds .any e = true → L e.on = true) : Place l n σ on L i o ao ops := by
  have hlen := okDraw_len hok
  have hi : i < l.length := by
    rcases Nat.lt_or_ge i l.length with h | h
    · exact h
    · rw [List.getElem?_eq_none h] at ha; cases ha
  have getk : ∀ k, k < l.length → ∃ a x, l[k]? = some a ∧ ops[k]? = some x := fun k hk => ⟨l[k], ops[k]'(by omega), List.getElem?_eq_getElem hk, Array.getElem?_eq_getElem (by omega)⟩
  have hnot : ∀ k, n ≤ k → L k = false := fun k hk => by
    cases h : L k with
    | false => rfl
    | true => have := hLn k h; omega
  have hap : ∀ (j : Nat) a, j < i → l[j]? = some a → on j = true → on i = true → a.fp = true → a.id ∈ ao.chk → ∀ x ∈ chgD (σ j) a.op, x ∉ touchD (σ i) ao.op := fun j a hj h1 h2 h3 h4 h5 => by
    rcases Nat.lt_or_ge i n with hlt | hge
    · exact (hT.apart j i a ao hj hlt h1 ha h2 h3 h4 h5).1
    · have : i = n := by omega
      subst this
      exact (hT.die ao ha).2.2.2.2.2 j a hj h1 h2 h4 h5
  -- an elder that writes a place it sees is done, a follower is not
  have slots1 : ∀ t, t ∈ o.looksAt ops → ∀ j, j < i → wS l j t = true → L j = true := by
    intro t ht j hj hw
    obtain ⟨a, x, h1, h2⟩ := getk j (by omega)
    simp only [wS, h1, beq_iff_eq] at hw
    rcases okDraw_pair hok hj h2 ho h1 ha with hb | ⟨hap, _⟩
    · exact ahead_done hd ho hr (by omega) hb
    · exact absurd ht ((Oper.apart_spec hap).1 t (by rw [hdst j a x h1 h2]; exact hw))
  have slots2 : ∀ t, t ∈ o.looksAt ops → ∀ k, i ≤ k → k < l.length → wS l k t = true → L k = false := by
    intro t ht k hk hkl hw
    by_cases hki : k = i
    · subst hki; exact hL
    obtain ⟨a, x, h1, h2⟩ := getk k hkl
    simp only [wS, h1, beq_iff_eq] at hw
    rcases okDraw_pair hok (show i < k by omega) ho h2 ha h1 with hb | ⟨hap, _⟩
    · exact behind_not hd hL hb
    · exact absurd ht ((Oper.apart_spec hap).2.2 t (by rw [hdst k a x h1 h2]; exact hw))
  have far1 : on i = true → ∀ p, p ∈ touchD (σ i) ao.op → ∀ j, j < i → wO l σ on j p = true → L j = true := by
    intro hon p hp j hj hw
    obtain ⟨a, x, h1, h2⟩ := getk j (by omega)
    simp only [wO, h1, Bool.and_eq_true, List.contains_eq_mem, decide_eq_true_eq] at hw
    rcases okDraw_pair hok hj h2 ho h1 ha with hb | ⟨_, hf | ⟨f1, f2, f3⟩⟩
    · exact ahead_done hd ho hr (by omega) hb
    · exfalso
      simp only [fineS, Bool.or_eq_true, Bool.not_eq_true', Bool.and_eq_true] at hf
      rcases hf with (h | h) | h
      · have := chg_touch hw.2; rw [touchD_none h] at this; cases this
      · rw [touchD_none h] at hp; cases hp
      · have := hw.2; simp [chgD, h.1] at this
    · exact absurd hp (hap j a hj h1 hw.1 hon f1 (by rw [f2]; exact f3) p hw.2)
  have far2 : on i = true → ∀ p, p ∈ touchD (σ i) ao.op → ∀ k, i < k → k < l.length → wO l σ on k p = true → L k = false ∨ (stable (σ i) ao.op (σ (k + 1)).hp ∧ k < n) := by
    intro hon p hp k hk hkl hw
    rcases Nat.lt_or_ge k n with hkn | hkn
    rotate_left
    · exact .inl (hnot k hkn)
    obtain ⟨a, x, h1, h2⟩ := getk k hkl
    simp only [wO, h1, Bool.and_eq_true, List.contains_eq_mem, decide_eq_true_eq] at hw
    rcases okDraw_pair hok hk ho h2 ha h1 with hb | ⟨_, hf | ⟨f1, f2, f3⟩⟩
    · exact .inl (behind_not hd hL hb)
    · exfalso
      simp only [fineS, Bool.or_eq_true, Bool.not_eq_true', Bool.and_eq_true] at hf
      rcases hf with (h | h) | h
      · rw [touchD_none h] at hp; cases hp
      · have := chg_touch hw.2; rw [touchD_none h] at this; cases this
      · have := hw.2; simp [chgD, h.2] at this
    · exact .inr ⟨((hT.apart i k ao a hk hkn ha h1 hon hw.1 f1 (by rw [f2]; exact f3)).2 p hp hw.2).2, hkn⟩
  have far2c : on i = true → ∀ p, p ∈ chgD (σ i) ao.op → ∀ k, i < k → k < l.length → wO l σ on k p = true → L k = false := by
    intro hon p hp k hk hkl hw
    rcases far2 hon p (chg_touch hp) k hk hkl hw with h | ⟨h, _⟩
    · exact h
    · rw [(stable_touch h).2] at hp; cases hp
  refine ⟨fun t ht => ?_, fun t ht k hk hkl hw => ?_, ?_, fun hon p hp => ?_, fun hon p hp => far2c hon p hp⟩
  · exact atL_read (fS_keep hT hn) (slots1 t ht) (Nat.le_of_lt hi) (slots2 t ht)
  · obtain ⟨a, x, h1, h2⟩ := getk k hkl
    simp only [wS, h1, beq_iff_eq] at hw
    rcases okDraw_pair hok hk ho h2 ha h1 with hb | ⟨hap, _⟩
    · exact behind_not hd hL hb
    · exact absurd (by rw [hdst k a x h1 h2]; exact hw) ((Oper.apart_spec hap).2.1 t (by rw [hdst i ao o ha ho]; exact ht))
  · by_cases hs : ∃ k, atL (fO σ) (wO l σ on) L l.length 0 = (σ (k + 1)).hp[0]? ∧ stable (σ i) ao.op (σ (k + 1)).hp ∧ i < n
    · exact .inr hs
    · refine .inl fun hon p hp => ?_
      rcases atL_last (fO_keep hT hn) (far1 hon p hp) (Nat.le_of_lt hi) with h | ⟨k, k1, k2, k3, k4, k5⟩
      · exact h
      · have hki : k ≠ i := by rintro rfl; rw [hL] at k3; cases k3
        rcases far2 hon p hp k (by omega) k2 k4 with h | ⟨h1, h2⟩
        · rw [h] at k3; cases k3
        · have := (stable_touch h1).1 p hp
          subst this
          exact absurd ⟨k, k5, h1, by omega⟩ hs
  · exact atL_read (fO_keep hT hn) (far1 hon p (chg_touch hp)) (Nat.le_of_lt hi) (fun k hk hkl hw => by
      by_cases hki : k = i
      · subst hki; exact hL
      · exact far2c hon p hp k (by omega) hkl hw)

theorem sl_len (hT : Trace (CTof P X) l s [] True K n σ v q on) (hn : ∀ k, n ≤ k → σ (k + 1) = σ k) : ∀ k, (σ k).sl.length = s.sl.length := by
  intro k
  induction k with
  | zero => rw [hT.zero]
  | succ k ih =>
    rcases Nat.lt_or_ge k n with hk | hk
    · rw [hT.next k _ hk (List.getElem?_eq_getElem (by have := hT.le; omega))]
      cases (l[k]'(by have := hT.le; omega)).d <;> simp [St.put, ih]
    · rw [hn k hk, ih]

theorem set_L (listed : Array Bool) (i : Nat) (hi : i < listed.size) (k : Nat) : (listed.setIfInBounds i true).getD k false = (listed.getD k false || k == i) := by
  by_cases h : k = i
  · subst h; simp [hi]
  · rw [getD_set_ne false (Ne.symm h)]; simp [h]

/-- One more operation is done. -/
theorem Inv.step {L L' : Nat → Bool} {E E' : Env} {g' : Option (List (List SV))} {a : Act} {w w' : World} {i : Nat} {o : Oper} {ao : AOper} {u : Value} {U : Nat → Prop} (hT : Trace (CTof P X) l s [] True K n σ v q on) (hn : ∀ k, n ≤ k → σ (k + 1) = σ k) (hI : Inv w0 own M0 B Df ops l s n σ on q L E g a w) (hp : Place l n σ on L i o ao ops) (hin : i < n)
    (ha : l[i]? = some ao) (ho : ops[i]? = some o) (hr : ∀ e ∈ o.after, Region.binds .any e = true → L e.on = true) (hL : L i = false) (hL' : ∀ k, L' k = (L k || k == i)) (hv : RelV E' u (v i))
    (hU1 : ∀ p, U p → on i = true ∧ p ∈ touchD (σ i) ao.op ∧ atL (fO σ) (wO l σ on) L l.length p = (σ i).hp[p]?) (hU2 : on i = true → ∀ p, p ∈ chgD (σ i) ao.op → U p)
    (st : StepV U w0 own E g E' g' w' (σ (i + 1)).hp) (hq : q i) : Inv w0 own M0 B Df ops l s n σ on q L' E' g' (a.put ao.d u) w' := by
  have hi : i < l.length := by
    rcases Nat.lt_or_ge i l.length with h | h
    · exact h
    · rw [List.getElem?_eq_none h] at ha; cases ha
  have hLi : L' i = true := by simp [hL']
  have hLk : ∀ k, k ≠ i → L' k = L k := fun k hk => by simp [hL', hk]
  have late : ∀ {wr : Nat → Bool}, (∀ k, i < k → k < l.length → wr k = true → L k = false) → ∀ k, i < k → k < l.length → wr k = true → L' k = false := fun h k h1 h2 h3 => by
    rw [hLk k (by omega)]; exact h k h1 h2 h3
  refine ⟨fun j o' ho' hj e he hb => ?_, fun k hk => ?_, st.wo, st.gx, fun p => ?_, ?_, fun t => ?_, ?_, st.ext.z.trans hI.z, hI.le.trans st.ext.m, fun hn0 => ?_, fun hs => hI.ne (by rw [← st.sm]; exact hs), fun j hj => ?_, fun hs => hI.hb (by rw [← st.sm]; exact hs)⟩
  · by_cases hji : j = i
    · subst hji; rw [ho] at ho'; cases ho'; rw [hL', hr e he hb]; rfl
    · rw [hL', hI.down j o' ho' (by rw [← hLk j hji]; exact hj) e he hb]; rfl
  · by_cases hki : k = i
    · omega
    · exact hI.lt k (by rw [← hLk k hki]; exact hk)
  · by_cases hw : wO l σ on i p = true
    · have hw2 := hw
      simp only [wO, ha, Bool.and_eq_true, List.contains_eq_mem, decide_eq_true_eq] at hw2
      rw [atL_write hLi hw hi (late (hp.obW hw2.1 p hw2.2))]
      exact st.on p (hU2 hw2.1 p hw2.2)
    · have hwf : wO l σ on i p = false := by simpa using hw
      rw [atL_keep hLk hwf]
      by_cases hU : U p
      · rw [st.on p hU, (hU1 p hU).2.2]
        exact fO_keep hT hn i p hwf
      · rw [st.off p hU]; exact hI.hp p
  · cases ao.d <;> simp [Act.put, hI.len]
  · by_cases hw : wS l i t = true
    · have hw2 := hw
      simp only [wS, ha, beq_iff_eq] at hw2
      rw [atL_write hLi hw hi (late (hp.slotW t hw2))]
      have hnx : (fS σ (i + 1) t) = (({ σ i with hp := (σ (i + 1)).hp } : St).put ao.d (v i)).sl.getD t .undef := by
        unfold fS; rw [← hT.next i ao hin ha]
      rw [hnx, hw2]
      have hl1 := sl_len hT hn i
      have hl2 := hI.len
      rcases Nat.lt_or_ge t a.tmps.size with hlt | hge
      · simpa [Act.put, St.put, Array.getElem?_setIfInBounds, List.getElem?_set, hlt, show t < (σ i).sl.length by omega] using hv
      · have h1 : (a.put (some t) u).tmps.getD t undef = undef := by simp [Act.put, Array.getElem?_setIfInBounds, show ¬ t < a.tmps.size by omega]
        have h2 : (({ σ i with hp := (σ (i + 1)).hp } : St).put (some t) (v i)).sl.getD t .undef = .undef := by
          rw [List.getD_eq_getElem?_getD, List.getElem?_eq_none]
          · rfl
          · simp [St.put]; omega
        rw [h1, h2]
        exact .undef
    · have hwf : wS l i t = false := by simpa using hw
      rw [atL_keep hLk hwf]
      have hne : ao.d ≠ some t := by simpa [wS, ha] using hwf
      have h1 := (hI.sl t).mono0 st.ext
      cases hdd : ao.d with
      | none => exact h1
      | some d =>
        have : d ≠ t := fun e => hne (by rw [hdd, e])
        simpa [Act.put, Array.getElem?_setIfInBounds, this] using h1
  · rw [put_dfr]; exact hI.dfr
  · subst hn0
    have hsm := st.sm
    cases g with
    | none => exact (st.d rfl).trans (hI.d rfl)
    | some G => cases hsm
  · by_cases hji : j = i
    · subst hji; exact hq
    · exact hI.q j (by rw [← hLk j hji]; exact hj)

theorem countP_less {p p' : Nat → Bool} {i : Nat} (h : ∀ k, p' k = true → p k = true) : ∀ {l : List Nat}, i ∈ l → p i = true → p' i = false → l.countP p' < l.countP p := by
  intro l
  induction l with
  | nil => intro hi; cases hi
  | cons x l ih =>
    intro hi h1 h2
    rw [List.countP_cons, List.countP_cons]
    have hle : l.countP p' ≤ l.countP p := List.countP_mono_left (fun k _ hk => h k hk)
    rcases List.mem_cons.1 hi with rfl | hi
    · simp [h1, h2]; omega
    · have := ih hi h1 h2
      cases hx : p' x with
      | true => simp [h x hx]; omega
      | false => simp; omega

/-- The drawn region, from a set of operations that are done. -/
theorem any_sound (hX : PX w0 own M0 Df X Q) (hok : okDraw ops l = true) (hT : Trace (CTof P X) l s [] True K n σ v q on) (hn : ∀ k, n ≤ k → σ (k + 1) = σ k) (hops : ∀ (k : Nat) a, l[k]? = some a → ∃ o a0, ops[k]? = some o ∧ trOper P ops o = some a0 ∧ a.op = a0.op ∧ a.d = a0.d ∧ a.g = a0.g ∧ a.id = k)
    (hK : ∀ E g s a w, SR w0 own M0 B Df E g s a w → K s → Q .normal a w) : ∀ (fuel : Nat) (listed : Array Bool) (E : Env) (g : Option (List (List SV))) (a : Act) (w : World), listed.size = ops.size → (List.range ops.size).countP (fun k => !listed.getD k false) ≤ fuel →
      Inv w0 own M0 B Df ops l s n σ on q (fun k => listed.getD k false) E g a w → wpAny P .any ops Q fuel listed a w := by
  have hlen := okDraw_len hok
  have hdst : ∀ (k : Nat) a o, l[k]? = some a → ops[k]? = some o → o.dst = a.d := by
    intro k a o h1 h2
    obtain ⟨o', a0, g1, g2, g3, g4, g5, g6⟩ := hops k a h1
    rw [h2] at g1; cases g1
    rw [g4]; exact (guard_of g2).2.1
  -- all are done where none is ready
  have alldone : ∀ (listed : Array Bool), listed.size = ops.size → Region.ready .any ops listed = [] → ∀ k, k < ops.size → listed.getD k false = true := by
    intro listed hsz hr k
    induction k using Nat.strongRecOn with
    | _ k ih =>
      intro hk
      cases hl : listed.getD k false with
      | true => rfl
      | false =>
        exfalso
        have ho : ops[k]? = some ops[k] := Array.getElem?_eq_getElem hk
        have : k ∈ Region.ready .any ops listed := mem_ready.2 ⟨by simpa [hsz, hk] using hl, _, ho, fun e he hb => by
          have := okDraw_edge hok ho he hb
          exact ih e.on this (by omega)⟩
        rw [hr] at this; cases this
  have final : ∀ (listed : Array Bool) (E : Env) (g : Option (List (List SV))) (a : Act) (w : World), listed.size = ops.size → Region.ready .any ops listed = [] → Inv w0 own M0 B Df ops l s n σ on q (fun k => listed.getD k false) E g a w → Q .normal a w := by
    intro listed E g a w hsz hr hI
    have hall := alldone listed hsz hr
    have hnl : n = l.length := by
      rcases Nat.lt_or_ge n l.length with h | h
      · have := hI.lt n (hall n (by omega)); omega
      · have := hT.le; omega
    refine hK E g (σ l.length) a w ⟨hI.wo, hI.gx, fun p => ?_, ?_, fun t => ?_, hI.dfr, hI.z, hI.le, hI.d, hI.hb⟩ (hT.fin hnl trivial (fun i hi => hI.q i (hall i (by omega))))
    · rw [hI.hp p, atL_all (fO_keep hT hn) (fun j hj _ => hall j (by omega))]; rfl
    · rw [sl_len hT hn]; exact hI.len
    · have := hI.sl t
      rw [atL_all (fS_keep hT hn) (fun j hj _ => hall j (by omega))] at this
      exact this
  intro fuel
  induction fuel with
  | zero =>
    intro listed E g a w hsz hc hI
    have hr : Region.ready .any ops listed = [] := by
      rw [List.eq_nil_iff_forall_not_mem]
      intro k hk
      obtain ⟨h1, o, ho, _⟩ := mem_ready.1 hk
      have hk2 : k < ops.size := (Array.getElem?_eq_some_iff.1 ho).1
      have : 0 < (List.range ops.size).countP (fun k => !listed.getD k false) := List.countP_pos_iff.2 ⟨k, List.mem_range.2 hk2, by
        have h3 : k < listed.size := by omega
        simp [h3] at h1 ⊢; exact h1⟩
      omega
    exact ⟨hr, final listed E g a w hsz hr hI⟩
  | succ fuel ih =>
    intro listed E g a w hsz hc hI
    refine ⟨fun hr => final listed E g a w hsz hr hI, fun i hi => ?_⟩
    obtain ⟨h1, o, ho, hpre⟩ := mem_ready.1 hi
    have hi2 : i < ops.size := (Array.getElem?_eq_some_iff.1 ho).1
    have hiL : listed.getD i false = false := by
      have h3 : i < listed.size := by omega
      simp [h3] at h1 ⊢; exact h1
    have ha : l[i]? = some l[i] := List.getElem?_eq_getElem (by omega)
    obtain ⟨o', a0, g1, g2, g3, g4, g5, g6⟩ := hops i _ ha
    rw [ho] at g1; cases g1
    obtain ⟨tr, hd, hg⟩ := guard_of g2
    rw [← g3] at tr
    rw [← g4] at hd
    have hin : i ≤ n := by
      rcases Nat.lt_or_ge n i with hni | hni
      · exfalso
        have hnl : n < l.length := by omega
        have han : l[n]? = some l[n] := List.getElem?_eq_getElem hnl
        obtain ⟨on', b0, k1, k2, k3, k4, k5, k6⟩ := hops n _ han
        have hc := (hT.die _ han).2.2.2.1
        rw [k6] at hc
        have hb := okDraw_chk hok hni k1 ho han ha hc
        have := hI.lt n (ahead_done hI.down ho hpre (by omega) hb)
        omega
      · exact hni
    have hP := place_of hok hT hn hdst hin hI.lt hI.down hiL ho ha hpre
    have hset : ∀ k, (listed.setIfInBounds i true).getD k false = (listed.getD k false || k == i) := set_L listed i (by omega)
    have hcnt : (List.range ops.size).countP (fun k => !(listed.setIfInBounds i true).getD k false) ≤ fuel := by
      have : (List.range ops.size).countP (fun k => !(listed.setIfInBounds i true).getD k false) < (List.range ops.size).countP (fun k => !listed.getD k false) := by
        refine countP_less (fun k hk => ?_) (List.mem_range.2 hi2) (by rw [hiL]; rfl) (by rw [hset]; simp)
        rw [hset] at hk
        simp only [Bool.not_or, Bool.and_eq_true] at hk
        exact hk.1
      omega
    have cont : i < n → ∀ (U : Nat → Prop), (∀ p, U p → on i = true ∧ p ∈ touchD (σ i) (l[i]'(by omega)).op ∧ atL (fO σ) (wO l σ on) (fun k => listed.getD k false) l.length p = (σ i).hp[p]?) → (on i = true → ∀ p, p ∈ chgD (σ i) (l[i]'(by omega)).op → U p) → ∀ (E' : Env) (g' : Option (List (List SV))) (u : Value) (w' : World), RelV E' u (v i) → StepV U w0 own E g E' g' w' (σ (i + 1)).hp → q i → wpAny P .any ops Q fuel (listed.setIfInBounds i true) (a.put o.dst u) w' := by
      intro hlt U hU1 hU2 E' g' u w' hv st hq
      rw [hd]
      exact ih _ E' g' _ w' (by simp [hsz]) hcnt (hI.step hT hn hP hlt ha ho hpre hiL hset hv hU1 hU2 st hq)
    unfold wpOp
    simp only [ho]
    have hslot : ∀ t, t ∈ o.looksAt ops → RelV E (a.tmps.getD t undef) ((σ i).sl.getD t .undef) := fun t ht => by
      have := hI.sl t
      rwa [hP.slotR t ht] at this
    have hwA : WantA (l[i]'(by omega)) (σ i) (on i) := by
      rcases Nat.lt_or_ge i n with hlt | hge
      · exact hT.want i _ hlt ha
      · have : i = n := by omega
        subst this
        obtain ⟨d1, d2, _⟩ := hT.die _ ha
        rw [d2]; exact d1
    have hwant : Region.wanted o (yielded ops a.tmps) = on i := by
      have hW := hwA
      rcases hg with ⟨hg1, hg2⟩ | ⟨j, want, t, hg1, hg2, hg3⟩
      · rw [wanted_none hg1]
        simp only [WantA, g5, hg2] at hW
        exact hW.symm
      · have hst := hslot t (looks_guard hg1 hg2)
        simp only [WantA, g5, hg3] at hW
        rcases hW with ⟨c, h1, h2⟩ | ⟨h1, h2⟩
        · rw [h1] at hst
          rw [wanted_bool hg1 hg2 hst, h2]
        · rw [h1] at hst
          rw [wanted_undef hg1 hg2 hst, h2]
    rw [hwant]
    have hxs : ∀ x ∈ o.op.operands, ∀ ax, trX x = some ax → RelV E (a.eval x) ((σ i).get ax) := fun x hx ax hax => by
      cases x with
      | tmp t => simp only [trX, Option.some.injEq] at hax; subst hax; exact hslot t (looks_operand hx)
      | const c =>
        simp only [trX, Option.map_eq_some_iff] at hax
        obtain ⟨sv, hsv, rfl⟩ := hax
        exact .rep _ _ (rep_const hsv).1
      | func f => simp only [trX, Option.some.injEq] at hax; subst hax; exact .rep _ _ (.fn f)
      | _ => simp [trX] at hax
    rcases Nat.lt_or_ge i n with hlt | hge
    rotate_left
    · have : i = n := by omega
      subst this
      obtain ⟨d1, d2, d3, d4, d5, d6⟩ := hT.die _ ha
      rw [d2]
      simp only [if_true]
      have hR : on i = true → ∀ p, p ∈ touchD (σ i) (l[i]'(by omega)).op → atL (fO σ) (wO l σ on) (fun k => listed.getD k false) l.length p = (σ i).hp[p]? := by
        rcases hP.obR with hR | ⟨k, _, _, h⟩
        · exact hR
        · omega
      exact .inl (dies_wp (U := fun p => on i = true ∧ p ∈ touchD (σ i) (l[i]'(by omega)).op) tr d3 hI.wo hI.gx (fun p hp => by rw [hI.hp p, hR hp.1 p hp.2]) (fun p hp => ⟨d2, by simp [touchD, hp]⟩) hxs hI.le hI.z hI.dfr _ _ hX)
    cases hon : on i with
    | false =>
      simp only [Bool.false_eq_true, if_false]
      obtain ⟨e1, e2, e3⟩ := hT.skip i _ hlt ha hon
      exact cont hlt (fun _ => False) (fun _ h => h.elim) (fun h => by rw [hon] at h; cases h) E g undef w (by rw [e1]; exact .undef) ⟨Ext0.refl E, hI.wo, hI.gx, fun p hp => hp.elim, fun _ _ => rfl, rfl, fun _ => rfl⟩ e3
    | true =>
      simp only [if_true]
      obtain ⟨hD, _⟩ := hT.does i _ hlt ha hon
      rcases hP.obR with hR | ⟨k, hk0, hks, _⟩
      · exact .inl (does_wp (U := fun p => on i = true ∧ p ∈ touchD (σ i) (l[i]'(by omega)).op) tr hD hI.wo hI.gx (fun p hp => by rw [hI.hp p, hR hp.1 p hp.2]) (fun hs => hI.ne hs i) (fun hc => ⟨hon, by simp [touchD, hc]⟩) (fun p hp => ⟨hon, by simp [touchD, hp]⟩) hxs _ _
          (fun u w' E' g' hv st hq => cont hlt _ (fun p hp => ⟨hp.1, hp.2, hR hp.1 p hp.2⟩) (fun h p hp => ⟨h, chg_touch hp⟩) E' g' u w' hv st hq))
      · obtain ⟨s1, s2, s3, s4⟩ := stable_does hD hks
        have hxs' : ∀ x ∈ o.op.operands, ∀ ax, trX x = some ax → RelV E (a.eval x) (({ σ i with hp := (σ (k + 1)).hp } : St).get ax) := fun x hx ax hax => by
          have := hxs x hx ax hax
          cases ax <;> exact this
        exact .inl (does_wp (U := fun p => p = 0) tr s1 hI.wo hI.gx (fun p hp => by subst hp; rw [hI.hp 0, hk0]) (fun hs => hI.ne hs (k + 1)) (fun hc => by rw [s4] at hc; cases hc) s3 hxs' _ _
          (fun u w' E' g' hv st hq => cont hlt (fun _ => False) (fun _ h => h.elim) (fun _ p hp => by rw [(stable_touch hks).2] at hp; cases hp) E' g' u w' hv
            ⟨st.ext, st.wo, st.gx, fun _ h => h.elim, fun p _ => by
              by_cases hp0 : p = 0
              · subst hp0; rw [st.on 0 rfl, hI.hp 0, hk0]
              · exact st.off p hp0, st.sm, st.d⟩ s2))

/-- No step forgets an object. -/
theorem does_len {C : CT} {o : AOper} {s : St} {v : SV} {hp : List Ob} {q : Prop} (h : Does C o s v hp q) : s.hp.length ≤ hp.length := by
  rcases h with ⟨f, args, vs, hop, hcl, _⟩ | ⟨e, he, _, _, rfl, _⟩ | ⟨f, args, vs, h0, G, G', hop, hcl, _, _, rfl, _⟩
  · rw [(closeVs_frame hcl).1]; exact Nat.le_refl _
  · exact absOp_len he
  · rw [List.length_set, (closeVs_frame hcl).1]; exact Nat.le_refl _

/-- A DRAWN REGION. -/
theorem draw_sound {E : Env} {a : Act} {w : World} {l0 : List AOper} {id : Nat} (hX : PX w0 own M0 Df X Q) (hm : P.follows .mixedOrders = true) (htr : trOps P ops ops.toList = some l0) (hl : l = annot (msks ops.toList []) l0) (hok : okDraw ops l = true)
    (hK : ∀ E g s a w, SR w0 own M0 B Df E g s a w → K s → Q .normal a w) (hS : SR w0 own M0 B Df E g s a w) (h : vcDr (CTof P X) l s [] True K) : (Code.region id ops true).wp P Q a w := by
  obtain ⟨n, σ0, v, q, on, hT0⟩ := trace_of l s [] True h
  -- the trace, standing still past its end
  let σ : Nat → St := fun k => σ0 (min k n)
  have hσ : ∀ k, k ≤ n → σ k = σ0 k := fun k hk => by simp only [σ]; rw [Nat.min_eq_left hk]
  have hT : Trace (CTof P X) l s [] True K n σ v q on := by
    refine ⟨by rw [hσ 0 (Nat.zero_le _)]; exact hT0.zero, hT0.le, fun i ao hi ha => ?_, fun i ao hi ha => ?_, fun i ao hi ha ho => ?_, fun i ao hi ha ho => ?_, fun i j a b hij hj ha hb => ?_, fun hn _ hq => by rw [hσ _ (by omega)]; exact hT0.fin hn trivial hq, fun ao ha => ?_⟩
    · rw [hσ i (by omega)]; exact hT0.want i ao hi ha
    · rw [hσ i (by omega), hσ (i + 1) hi]; exact hT0.next i ao hi ha
    · rw [hσ i (by omega), hσ (i + 1) hi]; exact hT0.does i ao hi ha ho
    · rw [hσ i (by omega), hσ (i + 1) hi]; exact hT0.skip i ao hi ha ho
    · rw [hσ i (by omega), hσ j (by omega), hσ (j + 1) (by omega)]; exact hT0.apart i j a b hij hj ha hb
    · rw [hσ n (Nat.le_refl _)]
      obtain ⟨d1, d2, d3, d4, d5, d6⟩ := hT0.die ao ha
      exact ⟨d1, d2, d3, d4, d5, fun i a hi => by rw [hσ i (by omega)]; exact d6 i a hi⟩
  have hn : ∀ k, n ≤ k → σ (k + 1) = σ k := fun k hk => by simp only [σ]; rw [Nat.min_eq_right hk, Nat.min_eq_right (by omega)]
  have hops : ∀ (k : Nat) a, l[k]? = some a → ∃ o a0, ops[k]? = some o ∧ trOper P ops o = some a0 ∧ a.op = a0.op ∧ a.d = a0.d ∧ a.g = a0.g ∧ a.id = k := by
    intro k a ha
    rw [hl] at ha
    obtain ⟨a0, h1, h2, h3, h4, h5⟩ := annot_get ha
    obtain ⟨o, g1, g2⟩ := (trOps_get htr).2 k a0 h1
    exact ⟨o, a0, by simpa using g1, g2, h2, h3, h4, h5⟩
  have hlen : ∀ k, s.hp.length ≤ (σ k).hp.length := by
    intro k
    induction k with
    | zero => rw [hT.zero]; exact Nat.le_refl _
    | succ k ih =>
      rcases Nat.lt_or_ge k n with hk | hk
      · have ha : l[k]? = some (l[k]'(by have := hT.le; omega)) := List.getElem?_eq_getElem (by have := hT.le; omega)
        cases ho : on k with
        | true => exact Nat.le_trans ih (does_len (hT.does k _ hk ha ho).1)
        | false => rw [(hT.skip k _ hk ha ho).2.1]; exact ih
      · rw [hn k hk]; exact ih
  refine wp_region_any hm (any_sound hX hok hT hn hops hK ops.size (Array.replicate ops.size false) E g a _ (by simp) (Nat.le_trans (List.countP_le_length) (by simp)) ?_)
  have hnone : ∀ k, (Array.replicate ops.size false).getD k false = false := fun k => by
    rcases Nat.lt_or_ge k ops.size with h | h <;> simp [h]
  refine ⟨fun j o _ hj => ?_, fun k hk => ?_, hS.wo.drew, hS.gx.drew, fun p => ?_, hS.len, fun t => ?_, hS.dfr, hS.z, hS.le, hS.d, fun hs k => Nat.lt_of_lt_of_le (hS.ne hs) (hlen k), fun i hi => ?_, hS.hb⟩
  · rw [hnone j] at hj; cases hj
  · rw [hnone k] at hk; cases hk
  · rw [atL_none hnone, hS.hp p]; simp only [fO, hT.zero]
  · rw [atL_none hnone]; simp only [fS, hT.zero]; exact hS.sl t
  · rw [hnone i] at hi; cases hi
end
end Go.Proofs.YtdpigpopcbjkmaaDoor.Abs

/-! Code, and whole functions: 'contract_of_vc'. -/
namespace Go.Proofs.YtdpigpopcbjkmaaDoor.Abs
open Go Go.RowKit

section
variable {P : Program} {w0 : World} {own : Nat → Prop} {M0 : Mem} {B : Prop} {Df : List Deferred} {g : Option (List (List SV))} {X : SV → List (List SV) → Prop}

def AE.ex : AE → Exit
  | .normal => .normal
  | .exit id => .exit id
  | .ret => .ret

theorem below_rel {E E' : Env} {n : Nat} (hm : E'.m = E.m) (hβ : E'.β = E.β) (ht : E'.t = E.t) (hH : ∀ o, o < n → E'.H o = E.H o) {v : Value} {x : SV} (h : RelV E v x) (hb : below n x = true) : RelV E' v x := by
  cases h with
  | junk => exact .junk _
  | undef => exact .undef
  | rep _ _ hr => exact .rep _ _ (by rw [hm]; exact hr)
  | ref o g e c b j ob h1 h2 h3 =>
    simp only [below, decide_eq_true_eq] at hb
    exact .ref o g e c b j ob (by rw [hH o hb]; exact h1) h2 (by rw [hβ]; exact h3)
  | osl o g off len A k cap ob h1 h2 h3 h4 =>
    simp only [below, decide_eq_true_eq] at hb
    exact .osl o g off len A k cap ob (by rw [hH o hb]; exact h1) h2 h3 (by rw [hβ, ht]; exact h4)
  | agg vs l h0 h1 h2 =>
    simp only [below, List.all_eq_true] at hb
    refine .agg vs l h0 h1 (fun j v x hv hx => ?_)
    have hbx := hb x (List.mem_of_getElem? hx)
    have hone := h0 v (List.mem_of_getElem? hv)
    cases h2 j v x hv hx with
    | junk => exact .junk _
    | undef => exact .undef
    | rep _ _ hr => exact .rep _ _ (by rw [hm]; exact hr)
    | ref o g e c b j ob k1 k2 k3 =>
      simp only [decide_eq_true_eq] at hbx
      exact .ref o g e c b j ob (by rw [hH o hbx]; exact k1) k2 (by rw [hβ]; exact k3)
    | osl o g off len A k cap ob k1 k2 k3 k4 =>
      simp only [decide_eq_true_eq] at hbx
      exact .osl o g off len A k cap ob (by rw [hH o hbx]; exact k1) k2 k3 (by rw [hβ, ht]; exact k4)
    | agg => simp at hbx

theorem SR.closed {E E1 : Env} {s : St} {a : Act} {w : World} {h : List Ob} (hS : SR w0 own M0 B Df E g s a w) (st : StepV (fun _ => True) w0 own E g E1 g w h) : SR w0 own M0 B Df E1 g { s with hp := h } a w :=
  ⟨st.wo, st.gx, fun o => st.on o trivial, hS.len, fun i => (hS.sl i).mono0 st.ext, hS.dfr, st.ext.z.trans hS.z, hS.le.trans st.ext.m, fun hn => (st.d hn).trans (hS.d hn), hS.hb⟩
theorem SR.vw {E : Env} {s : St} {a : Act} {w : World} (hS : SR w0 own M0 B Df E g s a w) {o : Nat} {ob : Ob} (h : E.H o = some ob) : s.hp[o]? = some ob := by
  have := hS.hp o
  cases g with
  | none => rw [← this]; exact h
  | some G =>
    have h0 : o ≠ 0 := by rintro rfl; have hz := hS.gx.z; rw [hz] at h; cases h
    simp only [Env.view, if_neg h0] at this
    rw [← this]; exact h
/-- Objects forgotten or added: the global store is as it was. -/
theorem GX.objs {n0 : Nat} {E E' : Env} {w : World} (h : GX n0 own E w g) (hm : E'.m = E.m) (h0 : g.isSome = true → E'.H 0 = none) (hH : ∀ o ob, E'.H o = some ob → 0 < E'.t o → E.H o = some ob ∧ 0 < E.t o ∧ E'.β o = E.β o) : GX n0 own E' w g := by
  cases g with
  | none => trivial
  | some G =>
    refine ⟨h0 rfl, by rw [hm]; exact h.sat, by rw [hm]; exact h.new, fun i b o ob hi ho ht => ?_⟩
    rw [hm] at hi
    obtain ⟨k1, k2, k3⟩ := hH o ob ho ht
    rw [k3]
    exact h.obs i b o ob hi k1 k2
theorem set_rel {s : St} {a : Act} {E : Env} {i : Nat} {x v : SV} (hi : s.sl[i]? = some x) (h : ∀ j, RelV E (a.tmps.getD j undef) (s.sl.getD j .undef)) (hv : RelV E (a.tmps.getD i undef) v) : ∀ j, RelV E (a.tmps.getD j undef) ((s.sl.set i v).getD j .undef) := by
  intro j
  by_cases hij : i = j
  · subst hij
    have hlt : i < s.sl.length := by
      rcases Nat.lt_or_ge i s.sl.length with h | h
      · exact h
      · rw [List.getElem?_eq_none h] at hi; cases hi
    rw [List.getD_eq_getElem?_getD, List.getElem?_set_self hlt]
    exact hv
  · have := h j
    rw [List.getD_eq_getElem?_getD, List.getElem?_set_ne hij, ← List.getD_eq_getElem?_getD]; exact this

theorem wk_sound {s s' : St} (h : Wk s s') : ∀ {E : Env} {a : Act} {w : World}, SR w0 own M0 B Df E g s a w → ∃ E', SR w0 own M0 B Df E' g s' a w := by
  induction h with
  | refl s => intro E a w hS; exact ⟨E, hS⟩
  | trans _ _ ih1 ih2 => intro E a w hS; obtain ⟨E1, h1⟩ := ih1 hS; exact ih2 h1
  | slots s l hl hv =>
    intro E a w hS
    refine ⟨E, hS.wo, hS.gx, hS.hp, by simpa [hl] using hS.len, fun i => ?_, hS.dfr, hS.z, hS.le, hS.d, hS.hb⟩
    show RelV E (a.tmps.getD i undef) (l.getD i .undef)
    have := hS.sl i
    rcases Nat.lt_or_ge i l.length with hi | hi
    · have h1 : l[i]? = some l[i] := List.getElem?_eq_getElem hi
      rw [List.getD_eq_getElem?_getD, h1]
      rcases hv i _ h1 with h2 | h2
      · rw [Option.getD_some, h2]; exact .junk _
      · rw [List.getD_eq_getElem?_getD, h2] at this; exact this
    · rw [List.getD_eq_getElem?_getD, List.getElem?_eq_none (by omega)] at this ⊢; exact this
  | trunc s n h0 h1 h2 =>
    intro E a w hS
    have hpos : g.isSome = true → 0 < n := fun hs => h0 (by
      obtain ⟨G, rfl⟩ := Option.isSome_iff_exists.1 hs
      have := hS.hp 0
      simp only [Env.view, if_true] at this
      rw [gOf_of this.symm]; rfl)
    let E' : Env := { E with H := fun o => if o < n then E.H o else none }
    have hH : ∀ o, o < n → E'.H o = E.H o := fun o ho => by simp [E', ho]
    have hsome : ∀ o ob, E'.H o = some ob → o < n ∧ E.H o = some ob := fun o ob ho => by
      by_cases hon : o < n
      · exact ⟨hon, by rw [← hH o hon]; exact ho⟩
      · simp [E', hon] at ho
    refine ⟨E', ⟨⟨hS.wo.os, hS.wo.tape, hS.wo.output, hS.wo.size, hS.wo.block, hS.wo.mem, fun o ob ho => ?_, fun o o' ob ob' k1 k2 => hS.wo.inj o o' ob ob' (hsome _ _ k1).2 (hsome _ _ k2).2, hS.wo.keep, hS.wo.pl⟩, ?_, fun o => ?_, hS.len, fun i => ?_, hS.dfr, hS.z, hS.le, hS.d, hS.hb⟩⟩
    · obtain ⟨hon, hE⟩ := hsome o ob ho
      have hk := hS.wo.obs o ob hE
      refine ⟨hk.rows, hk.frz, hk.fit, hk.box, hk.bnd, fun ht => ?_⟩
      obtain ⟨c, e, k⟩ := hk.live ht
      refine ⟨c, e, ⟨k.blk, k.size, k.new, fun j v x hv hx => ?_, k.one, k.old, k.free, k.clo, k.pl⟩⟩
      by_cases hcl : ob.box = false ∨ ob.cl = true
      · exact .rep _ _ (k.clo hcl j v x hv hx)
      · have hb : ob.box = true := by cases h : ob.box <;> simp [h] at hcl ⊢
        have hc : ob.cl = false := by cases h : ob.cl <;> simp [h] at hcl ⊢
        have hmem : ob ∈ s.hp.take n := by
          refine List.mem_of_getElem? (i := o) ?_
          rw [List.getElem?_take, if_pos hon]; exact hS.vw hE
        obtain ⟨r, hr, hxr⟩ := List.mem_flatten.1 (List.mem_of_getElem? hx)
        exact below_rel (E := E) (E' := E') (n := n) rfl rfl rfl hH (k.rel j v x hv hx) (h2 ob hmem hb hc r hr x hxr)
    · refine hS.gx.objs rfl (fun hs => ?_) (fun o ob ho ht => ⟨(hsome o ob ho).2, ht, rfl⟩)
      rw [hH 0 (hpos hs)]
      obtain ⟨G, rfl⟩ := Option.isSome_iff_exists.1 hs
      exact hS.gx.z
    · rw [List.getElem?_take, ← hS.hp o]
      cases g with
      | none => rfl
      | some G =>
        show (if o = 0 then some (gOb G) else if o < n then E.H o else none) = if o < n then (if o = 0 then some (gOb G) else E.H o) else none
        have := hpos rfl
        by_cases h00 : o = 0
        · subst h00; simp [this]
        · simp [h00]
    · have := hS.sl i
      rcases Nat.lt_or_ge i s.sl.length with hi | hi
      · refine below_rel (E := E) (E' := E') (n := n) rfl rfl rfl hH this (h1 _ ?_)
        rw [List.getD_eq_getElem?_getD, List.getElem?_eq_getElem hi]
        exact List.getElem_mem hi
      · have h3 : s.sl.getD i .undef = .undef := by rw [List.getD_eq_getElem?_getD, List.getElem?_eq_none (by omega)]; rfl
        show RelV E' _ (s.sl.getD i .undef)
        rw [h3] at this ⊢
        rw [undef_of this]; exact .undef
  | ghost s i sz hi =>
    intro E a w hS
    have hlz : g.isSome = true → s.hp.length ≠ 0 := fun hs => by have := hS.ne hs; omega
    have hnone : E.H s.hp.length = none := by
      cases h : E.H s.hp.length with
      | none => rfl
      | some ob => have := hS.vw h; rw [List.getElem?_eq_none (Nat.le_refl _)] at this; cases this
    let ob : Ob := { box := false, sz := sz, els := [], frz := 0, gen := 0, cl := true }
    let E' : Env := { E with H := fun o => if o = s.hp.length then some ob else E.H o, t := fun o => if o = s.hp.length then 0 else E.t o }
    have hne : ∀ o ob1, E.H o = some ob1 → o ≠ s.hp.length := fun o ob1 ho => by rintro rfl; rw [hnone] at ho; cases ho
    have hext : Ext E E' := ⟨⟨.refl _, fun o ob1 ho => ⟨ob1, by simp [E', hne o ob1 ho, ho], rfl, Nat.le_refl _, fun _ => ⟨rfl, by simp [E', hne o ob1 ho], Nat.le_refl _⟩⟩, rfl⟩, rfl⟩
    refine ⟨E', ⟨⟨hS.wo.os, hS.wo.tape, hS.wo.output, hS.wo.size, hS.wo.block, hS.wo.mem, fun o ob1 ho => ?_, fun o o' ob1 ob2 k1 k2 hoo t1 t2 => ?_, hS.wo.keep, hS.wo.pl⟩, ?_, fun o => ?_, ?_, fun j => ?_, hS.dfr, hS.z, hS.le, hS.d, hS.hb⟩⟩
    · by_cases hon : o = s.hp.length
      · subst hon
        have : ob1 = ob := by simp [E'] at ho; exact ho.symm
        subst this
        exact ⟨by simp [ob], by simp [ob], by simp [ob], by simp [ob], by simp [ob], fun h => by simp [E'] at h⟩
      · have hE : E.H o = some ob1 := by simpa [E', hon] using ho
        have hk := hS.wo.obs o ob1 hE
        refine ⟨hk.rows, hk.frz, by simpa [E', hon] using hk.fit, hk.box, hk.bnd, fun ht => ?_⟩
        obtain ⟨c, e, k⟩ := hk.live (by simpa [E', hon] using ht)
        exact ⟨c, e, ⟨k.blk, by simpa [E', hon] using k.size, k.new, fun j v x hv hx => (k.rel j v x hv hx).mono hext, k.one, k.old, k.free, k.clo, by simpa [E', hon] using k.pl⟩⟩
    · have n1 : o ≠ s.hp.length := by rintro rfl; simp [E'] at t1
      have n2 : o' ≠ s.hp.length := by rintro rfl; simp [E'] at t2
      exact hS.wo.inj o o' ob1 ob2 (by simpa [E', n1] using k1) (by simpa [E', n2] using k2) hoo (by simpa [E', n1] using t1) (by simpa [E', n2] using t2)
    · refine hS.gx.objs rfl (fun hs => ?_) (fun o ob1 ho ht => ?_)
      · have := hlz hs
        obtain ⟨G, rfl⟩ := Option.isSome_iff_exists.1 hs
        have hz := hS.gx.z
        simp only [E', if_neg (Ne.symm this)]; exact hz
      · have hon : o ≠ s.hp.length := by rintro rfl; simp [E'] at ht
        exact ⟨by simpa [E', hon] using ho, by simpa [E', hon] using ht, rfl⟩
    · have hv := hS.hp o
      by_cases hon : o = s.hp.length
      · subst hon
        cases g with
        | none =>
          show (if s.hp.length = s.hp.length then some ob else E.H s.hp.length) = (s.hp ++ [ob])[s.hp.length]?
          rw [if_pos rfl, List.getElem?_append_right (Nat.le_refl _), Nat.sub_self, List.getElem?_cons_zero]
        | some G =>
          show (if s.hp.length = 0 then some (gOb G) else if s.hp.length = s.hp.length then some ob else E.H s.hp.length) = (s.hp ++ [ob])[s.hp.length]?
          rw [if_neg (hlz rfl), if_pos rfl, List.getElem?_append_right (Nat.le_refl _), Nat.sub_self, List.getElem?_cons_zero]
      · rw [app_other hon, ← hv]
        cases g with
        | none => simp [Env.view, E', hon]
        | some G => simp [Env.view, E', hon]
    · simpa using hS.len
    · show RelV E' _ ((s.sl.set i (.osl s.hp.length 0 0 0)).getD j .undef)
      by_cases hij : i = j
      · subst hij
        have hlt : i < s.sl.length := by
          rcases Nat.lt_or_ge i s.sl.length with h | h
          · exact h
          · rw [List.getElem?_eq_none h] at hi; cases hi
        have hv := hS.sl i
        rw [List.getD_eq_getElem?_getD, hi] at hv
        have := nils_of hv
        rw [this, List.getD_eq_getElem?_getD, List.getElem?_set_self hlt]
        exact .osl _ _ _ _ _ _ _ ob (by simp [E']) (Nat.le_refl _) ⟨rfl, Nat.le_refl _, fun h => by omega⟩ (fun _ => ⟨by simp [ob], .inr rfl⟩)
      · have := (hS.sl j).mono hext
        rw [List.getD_eq_getElem?_getD, List.getElem?_set_ne hij, ← List.getD_eq_getElem?_getD]; exact this
  | clos s i x v h hi hc =>
    intro E a w hS
    have hx := hS.sl i
    rw [List.getD_eq_getElem?_getD (l := s.sl), hi, Option.getD_some] at hx
    obtain ⟨E1, hrep, st⟩ := closeV_soundV (U := fun _ => True) hS.wo hS.gx (fun o _ => hS.hp o) hc hx (fun _ _ => trivial)
    have h1 := hS.closed st
    exact ⟨E1, h1.wo, h1.gx, h1.hp, by simpa using h1.len, set_rel (s := { s with hp := h }) hi h1.sl (.rep _ _ hrep), h1.dfr, h1.z, h1.le, h1.d, h1.hb⟩
  | nil s i sz hi =>
    intro E a w hS
    have hx := hS.sl i
    rw [List.getD_eq_getElem?_getD (l := s.sl), hi, Option.getD_some] at hx
    refine ⟨E, hS.wo, hS.gx, hS.hp, by simpa using hS.len, set_rel hi hS.sl ?_, hS.dfr, hS.z, hS.le, hS.d, hS.hb⟩
    revert hx
    generalize a.tmps.getD i undef = u
    intro hx
    cases hx with
    | rep _ _ hr => exact .rep _ _ (by cases hr; exact .dsl0 _ _ _)

theorem vc_sound (hm : P.follows .mixedOrders = true) : ∀ (c : Code) (ac : AC), trC P c = some ac → ∀ {QA : AE → St → Prop} {Q : Exit → Act → World → Prop}, PX w0 own M0 Df X Q → (∀ e E g s a w, SR w0 own M0 B Df E g s a w → QA e s → Q e.ex a w) →
    ∀ (E : Env) (g : Option (List (List SV))) (s : St) (a : Act) (w : World), SR w0 own M0 B Df E g s a w → vc (CTof P X) ac QA s → c.wp P Q a w := by
  intro c
  induction c with
  | skip => intro ac tr QA Q hX hQ E g s a w hS h; simp only [trC, Option.some.injEq] at tr; subst tr; exact wp_skip (hQ .normal E g s a w hS h)
  | ret => intro ac tr QA Q hX hQ E g s a w hS h; simp only [trC, Option.some.injEq] at tr; subst tr; exact wp_ret (hQ .ret E g s a w hS h)
  | exit id => intro ac tr QA Q hX hQ E g s a w hS h; simp only [trC, Option.some.injEq] at tr; subst tr; exact wp_exit (hQ (.exit id) E g s a w hS h)
  | region id ops draw =>
    intro ac tr QA Q hX hQ E g s a w hS h
    simp only [trC, Option.bind_eq_bind, Option.bind_eq_some_iff] at tr
    obtain ⟨l, hl, tr⟩ := tr
    cases draw with
    | true =>
      simp only [if_true] at tr
      split at tr
      rotate_left
      · cases tr
      rename_i hok
      cases tr
      simp only [vc, if_true] at h
      exact draw_sound hX hm hl rfl hok (fun E g s a w hS hk => hQ .normal E g s a w hS hk) hS h
    | false =>
      simp only [Bool.false_eq_true, if_false] at tr
      cases tr
      simp only [vc, Bool.false_eq_true, if_false] at h
      refine wp_region ?_
      rw [List.range_eq_range', ← Array.length_toList]
      exact ops_sound hX (fun E g s a w hS hk => hQ .normal E g s a w hS hk) ops.toList l 0 E g s a w hl (fun j o hj => by simpa using hj) hS h
  | seq x y ihx ihy =>
    intro ac tr QA Q hX hQ E g s a w hS h
    simp only [trC, Option.bind_eq_bind, Option.bind_eq_some_iff, Option.pure_def, Option.some.injEq] at tr
    obtain ⟨ax, hax, ay, hay, rfl⟩ := tr
    simp only [vc] at h
    refine wp_seq (ihx ax hax (Q := Exit.then (y.wp P Q) Q) (fun E u x G' a w => hX E u x G' a w) (fun e E g s a w hS he => ?_) E g s a w hS h)
    cases e with
    | normal => exact ihy ay hay hX hQ E g s a w hS he
    | exit id => exact hQ (.exit id) E g s a w hS he
    | ret => exact hQ .ret E g s a w hS he
  | cond c x y ihx ihy =>
    intro ac tr QA Q hX hQ E g s a w hS h
    simp only [trC, Option.bind_eq_bind, Option.bind_eq_some_iff, Option.pure_def, Option.some.injEq] at tr
    obtain ⟨cx, hcx, ax, hax, ay, hay, rfl⟩ := tr
    simp only [vc] at h
    split at h
    rotate_left
    · exact h.elim
    rename_i t ht
    have hv := hS.x hcx
    rw [ht] at hv
    exact wp_cond_split (bool_of hv) (fun h1 => ihx ax hax hX hQ E g s a w hS (h.1 h1)) (fun h1 => ihy ay hay hX hQ E g s a w hS (h.2 h1))
  | block id x ih =>
    intro ac tr QA Q hX hQ E g s a w hS h
    simp only [trC, Option.bind_eq_bind, Option.bind_eq_some_iff, Option.pure_def, Option.some.injEq] at tr
    obtain ⟨ax, hax, rfl⟩ := tr
    simp only [vc] at h
    refine wp_block (ih ax hax (Q := Exit.inBlock id Q) (fun E u x G' a w => hX E u x G' a w) (fun e E g s a w hS he => ?_) E g s a w hS h)
    cases e with
    | normal => exact hQ .normal E g s a w hS he
    | exit j =>
      simp only [AE.ex, Exit.inBlock]
      simp only at he
      split at he
      · rename_i hj; rw [if_pos hj]; exact hQ .normal E g s a w hS he
      · rename_i hj; rw [if_neg hj]; exact hQ (.exit j) E g s a w hS he
    | ret => exact hQ .ret E g s a w hS he
  | loop x ih =>
    intro ac tr QA Q hX hQ E g s a w hS h
    simp only [trC, Option.bind_eq_bind, Option.bind_eq_some_iff, Option.pure_def, Option.some.injEq] at tr
    obtain ⟨ax, hax, rfl⟩ := tr
    simp only [vc] at h
    obtain ⟨n, h⟩ := h
    have key : ∀ n (E : Env) (g : Option (List (List SV))) (s : St) (a : Act) (w : World), SR w0 own M0 B Df E g s a w → vcIter (fun Q' s' => vc (CTof P X) ax Q' s') QA n s → ∀ (b : Frame) (k : List Item) (cs : List Frame),
        ∃ e a' w', Q e a' w' ∧ Arrives P (lone (b.at a (.code x :: .inLoop x :: k)) cs w) b k cs e a' w' := by
      intro n
      induction n with
      | zero => intro E g s a w _ h; simp only [vcIter] at h
      | succ n ihn =>
        intro E g s a w hS h b k cs
        simp only [vcIter] at h
        obtain ⟨s0, hwk, hb⟩ := h
        obtain ⟨E0, hS0⟩ := wk_sound hwk hS
        have hbody := ih ax hax (Q := Exit.then (fun a w => ∃ E g s, SR w0 own M0 B Df E g s a w ∧ vcIter (fun Q' s' => vc (CTof P X) ax Q' s') QA n s) Q) (fun E u x G' a w => hX E u x G' a w) (fun e E g s a w hS he => by
          cases e with
          | normal => exact ⟨E, g, s, hS, he⟩
          | exit id => exact hQ (.exit id) E g s a w hS he
          | ret => exact hQ .ret E g s a w hS he) E0 g s0 a w hS0 hb
        obtain ⟨e, a₁, w₁, hq, harr⟩ := hbody b (.inLoop x :: k) cs
        cases e with
        | normal =>
          obtain ⟨E1, g1, s1, hS1, h1⟩ := hq
          obtain ⟨e₂, a₂, w₂, hq₂, harr₂⟩ := ihn E1 g1 s1 a₁ w₁ hS1 h1 b k cs
          exact ⟨e₂, a₂, w₂, hq₂, .of_steps (Steps.trans harr (.one step_inLoop)) harr₂⟩
        | exit id => exact ⟨_, a₁, w₁, hq, .pass (x := .inLoop x) rfl (fun _ _ => .inl (by simp)) harr⟩
        | goto l => exact ⟨_, a₁, w₁, hq, .pass (x := .inLoop x) rfl (fun _ _ => .inl (by simp)) harr⟩
        | ret => exact ⟨_, a₁, w₁, hq, .pass (x := .inLoop x) rfl (fun _ _ => .inl (by simp)) harr⟩
        | panic ch => exact ⟨_, a₁, w₁, hq, .pass (x := .inLoop x) rfl (fun _ _ => .inl (by simp)) harr⟩
        | outgrown => exact ⟨_, a₁, w₁, hq, .pass (x := .inLoop x) rfl (fun _ _ => .inl (by simp)) harr⟩
    intro b k cs
    obtain ⟨e, a', w', hq, harr⟩ := key n E g s a w hS h b k cs
    exact ⟨e, a', w', hq, .of_steps (.one step_loop) harr⟩
  | _ => intro ac tr; simp [trC] at tr

/-- What the frame's results are. -/
def resOf (P : Program) (tmps : Array Value) : ResultVar → Sem Value
  | .tmp t => pure (tmps.getD t undef)
  | .cell a t => do loadVar t (← asAddr (tmps.getD a undef))

theorem ptr_of_load {hp : List Ob} {ag : Bool} {n : Nat} {x : SV} {v : Value} {e : Eff} {E : Env} (he : absLoad hp ag n x = some e) (h : RelV E v x) : ∃ A, v = .pointer (some A) := by
  cases x with
  | ref o g e' c =>
    cases h with
    | rep _ _ hr => cases hr
    | ref => exact ⟨_, rfl⟩
  | dref z l c =>
    cases h.closed_rep rfl with
    | dref => exact ⟨_, rfl⟩
  | gp i c =>
    cases h.closed_rep rfl with
    | gp => exact ⟨_, rfl⟩
  | _ => simp [absLoad] at he

theorem run_mapM_nil {f : ResultVar → Sem Value} {w : World} : (List.mapM f []).run P w = .ok [] w := by simp
theorem run_mapM_cons {f : ResultVar → Sem Value} {r : ResultVar} {rs : List ResultVar} {u : Value} {us : List Value} {w : World} (h1 : (f r).run P w = .ok u w) (h2 : (rs.mapM f).run P w = .ok us w) : (List.mapM f (r :: rs)).run P w = .ok (u :: us) w := by
  rw [List.mapM_cons]
  simp [h1, h2]

theorem retv_sound {a : Act} {w : World} : ∀ (rs : List ResultVar) (as : List AR) (p : Prop) (svs : List SV) (hp' : List Ob) (E : Env) (s : St), trR P rs = some as → retvs s as = some (p, svs, hp') → p → SR w0 own M0 B Df E g s a w →
    ∃ (vs : List Value) (E' : Env), (rs.mapM (resOf P a.tmps)).run P w = .ok vs w ∧ vs.length = svs.length ∧ (∀ (j : Nat) v x, vs[j]? = some v → svs[j]? = some x → Rep E'.m v x) ∧ SR w0 own M0 B Df E' g { s with hp := hp' } a w ∧ E.m.le E'.m := by
  intro rs
  induction rs with
  | nil =>
    intro as p svs hp' E s htr hr hp hS
    simp only [trR, Option.some.injEq] at htr
    subst htr
    simp only [retvs, Option.some.injEq, Prod.mk.injEq] at hr
    obtain ⟨_, rfl, rfl⟩ := hr
    exact ⟨[], E, run_mapM_nil, rfl, by simp, hS, .refl _⟩
  | cons r rs ih =>
    intro as p svs hp' E s htr hr hp hS
    have hhead : ∃ ar ars, as = ar :: ars ∧ trR P rs = some ars ∧ (∀ p1 v h, retv1 s ar = some (p1, v, h) → p1 → ∃ (u : Value) (E1 : Env), (resOf P a.tmps r).run P w = .ok u w ∧ Rep E1.m u v ∧ SR w0 own M0 B Df E1 g { s with hp := h } a w ∧ E.m.le E1.m) := by
      cases r with
      | tmp t =>
        simp only [trR, Option.bind_eq_bind, Option.bind_eq_some_iff, Option.pure_def, Option.some.injEq] at htr
        obtain ⟨ars, hars, rfl⟩ := htr
        refine ⟨_, ars, rfl, hars, fun p1 v h h1 _ => ?_⟩
        simp only [retv1] at h1
        split at h1
        rotate_left
        · cases h1
        rename_i v' h' hc
        cases h1
        obtain ⟨E1, hrep, st⟩ := closeV_soundV (U := fun _ => True) hS.wo hS.gx (fun o _ => hS.hp o) hc (hS.sl t) (fun _ _ => trivial)
        exact ⟨_, E1, rfl, hrep, hS.closed st, st.ext.m⟩
      | cell t ty =>
        simp only [trR, Option.bind_eq_bind, Option.bind_eq_some_iff] at htr
        obtain ⟨ag, hag, htr⟩ := htr
        split at htr
        rotate_left
        · cases htr
        rename_i h1
        simp only [Option.bind_eq_some_iff, Option.pure_def, Option.some.injEq] at htr
        obtain ⟨ars, hars, rfl⟩ := htr
        refine ⟨_, ars, rfl, hars, fun p1 v h hr1 hp1 => ?_⟩
        simp only [retv1] at hr1
        split at hr1
        rotate_left
        · cases hr1
        rename_i e he
        split at hr1
        rotate_left
        · cases hr1
        rename_i v' h' hc
        cases hr1
        obtain ⟨u, g1, g2, g3⟩ : ∃ u, (Instr.loadAt ty (a.tmps.getD t undef)).run P w = .ok u w ∧ RelV E u e.val ∧ e.hp = s.hp := by
          have hsl := hS.sl t
          generalize hsx : s.sl.getD t .undef = sx at he hsl
          cases hgp : isGp sx with
          | false =>
            have hnz : g.isSome = true → ∀ i ∈ idsC sx, i ≠ 0 := fun hs => by
              obtain ⟨G, rfl⟩ := Option.isSome_iff_exists.1 hs
              exact idsC_ne hS.gx.z hsl
            obtain ⟨u, k1, k2, k3, _⟩ := load_sound (s := s) (P := P) (U := Up g (fun _ => True)) hS.wo (view_up (fun o _ => hS.hp o)) hag h1 he hp1 hsl hgp (fun i hi => ⟨trivial, fun hs => hnz hs i hi⟩)
            exact ⟨u, k1, k2, k3⟩
          | true =>
            cases sx with
            | gp i c =>
              simp only [absLoad] at he
              split at he
              rotate_left
              · cases he
              rename_i G hG
              split at he
              rotate_left
              · cases he
              rename_i row hrow
              cases he
              have := view_some (U := fun _ => True) (fun o _ => hS.hp o) trivial hS.wo hG
              subst this
              obtain ⟨u, k1, k2⟩ := gload_sound hS.gx hag h1 hrow hp1.1 hp1.2 hsl
              exact ⟨u, k1, k2, rfl⟩
            | _ => cases hgp
        rw [g3] at hc
        obtain ⟨E1, hrep, st⟩ := closeV_soundV (U := fun _ => True) hS.wo hS.gx (fun o _ => hS.hp o) hc g2 (fun _ _ => trivial)
        obtain ⟨A, hA⟩ := ptr_of_load he (hS.sl t)
        refine ⟨u, E1, ?_, hrep, hS.closed st, st.ext.m⟩
        rw [hA] at g1
        simp only [resOf, hA, asAddr]
        simpa [Instr.loadAt, Instr.sureAddr] using g1
    obtain ⟨ar, ars, rfl, hars, hh⟩ := hhead
    simp only [retvs] at hr
    split at hr
    rotate_left
    · cases hr
    rename_i p1 v1 h1 hr1
    split at hr
    rotate_left
    · cases hr
    rename_i q vs1 h2 hr2
    cases hr
    obtain ⟨u, E1, k1, k2, k3, k4⟩ := hh p1 v1 h1 hr1 hp.1
    obtain ⟨us, E2, m1, m2, m3, m4, m5⟩ := ih ars q vs1 hp' E1 _ hars hr2 hp.2 k3
    refine ⟨u :: us, E2, run_mapM_cons k1 m1, by simp [m2], fun j v x hv hx => ?_, m4, k4.trans m5⟩
    cases j with
    | zero => simp at hv hx; subst hv; subst hx; exact k2.mono m5
    | succ j => exact m3 j v x (by simpa using hv) (by simpa using hx)

theorem results_run {fn : Func} {tmps : Array Value} {vs : List Value} {w : World} (h : (fn.results.toList.mapM (resOf P tmps)).run P w = .ok vs w) : (results fn tmps).run P w = .ok (if h : vs.toArray.size = 1 then vs.toArray[0] else .tuple vs.toArray) w := by
  have h1 : results fn tmps = (do
      let vs ← fn.results.mapM (resOf P tmps)
      pure (if h : vs.size = 1 then vs[0] else .tuple vs)) := by
    unfold results resOf
    rfl
  have h2 : (fn.results.mapM (resOf P tmps)).run P w = .ok vs.toArray w := by
    rw [Array.mapM_eq_mapM_toList]
    simp [h]
  rw [h1, Sem.run_bind, h2]
  rfl

/-- The frame's values at the beginning. -/
theorem init_rel {E : Env} {vs : List Value} {args : List SV} {k : Nat} (hlen : vs.length = args.length) (hrep : ∀ (j : Nat) v x, vs[j]? = some v → args[j]? = some x → Rep E.m v x) (i : Nat) :
    RelV E ((vs.toArray ++ Array.replicate (k - vs.toArray.size) undef).getD i undef) ((args ++ List.replicate (k - args.length) SV.undef).getD i .undef) := by
  rcases Nat.lt_or_ge i vs.length with hi | hi
  · have h1 : (vs.toArray ++ Array.replicate (k - vs.toArray.size) undef).getD i undef = vs[i] := by
      rw [Array.getD_eq_getD_getElem?, Array.getElem?_append_left (by simpa using hi)]; simp [hi]
    have h2 : (args ++ List.replicate (k - args.length) SV.undef).getD i .undef = args[i]'(by omega) := by
      rw [List.getD_eq_getElem?_getD, List.getElem?_append_left (by omega), List.getElem?_eq_getElem (by omega)]; rfl
    rw [h1, h2]
    exact .rep _ _ (hrep i _ _ (List.getElem?_eq_getElem hi) (List.getElem?_eq_getElem (by omega)))
  · have h1 : (vs.toArray ++ Array.replicate (k - vs.toArray.size) undef).getD i undef = undef := by
      rw [Array.getD_eq_getD_getElem?, Array.getElem?_append_right (by simpa using hi)]
      simp only [Array.getElem?_replicate]
      split <;> rfl
    have h2 : (args ++ List.replicate (k - args.length) SV.undef).getD i .undef = .undef := by
      rw [List.getD_eq_getElem?_getD, List.getElem?_append_right (by omega), List.getElem?_replicate]
      split <;> rfl
    rw [h1, h2]
    exact .undef

theorem one_rep {m : Mem} {svs : List SV} {us : List Value} {r : SV} (hr : r = (match svs with | [v] => v | vs => .tup vs)) (hl : us.length = svs.length) (h : ∀ (j : Nat) v x, us[j]? = some v → svs[j]? = some x → Rep m v x) :
    Rep m (if h : us.toArray.size = 1 then us.toArray[0] else .tuple us.toArray) r := by
  subst hr
  cases svs with
  | nil =>
    cases us with
    | nil => exact .tup [] [] rfl (by simp)
    | cons u us => simp at hl
  | cons x svs =>
    cases us with
    | nil => simp at hl
    | cons u us =>
      cases svs with
      | nil =>
        cases us with
        | nil => exact h 0 u x rfl rfl
        | cons t us => simp at hl
      | cons y svs =>
        cases us with
        | nil => simp at hl
        | cons t us =>
          have : ¬ (u :: t :: us).toArray.size = 1 := by simp
          rw [dif_neg this]
          exact .tup _ _ hl h

/-- WHAT THE VERIFICATION CONDITION IS WORTH. -/
theorem contract_of_vc {f : Nat} {fn : Func} {af : AF} {args : List SV} {r : SV} (hm : P.follows .mixedOrders = true) (hf : P.funcs[f]? = some fn) (htr : trF P fn = some af) (h : vcF (CTof P fun _ _ => False) af args r) : Contract P f args r := by
  intro m w vs hmem hlen hrep
  unfold trF at htr
  split at htr
  rotate_left
  · cases htr
  rename_i c hb
  simp only [Option.bind_eq_bind, Option.bind_eq_some_iff, Option.pure_def, Option.some.injEq] at htr
  obtain ⟨ars, hars, ac, hac, rfl⟩ := htr
  let E0 : Env := { m := m, m0 := m, H := fun _ => none, β := fun _ => 0, t := fun _ => 0 }
  have hW : W w (fun _ => False) E0 w := ⟨rfl, rfl, rfl, Nat.le_refl _, fun _ _ _ => rfl, hmem.1, fun o ob ho => (by cases ho), fun o o' ob ob' ho => (by cases ho), fun _ _ _ _ => rfl, hmem.2⟩
  have hS : SR w (fun _ => False) m False [] E0 none { sl := args ++ List.replicate (fn.ntmps - args.length) .undef, hp := [] } { tmps := vs.toArray ++ Array.replicate (fn.ntmps - vs.toArray.size) undef, defers := [] } w :=
    ⟨hW, trivial, fun o => rfl, by simp [hlen], init_rel hlen hrep, rfl, rfl, .refl _, fun _ => rfl, fun h => by cases h⟩
  refine calls_of_wp hf hb ?_
  have fin : ∀ (E : Env) (s : St) (a : Act) (w' : World), SR w (fun _ => False) m False [] E none s a w' → retIs ars r s → a.defers = [] ∧ ∃ v, (results fn a.tmps).run P w' = .ok v w' ∧ ∃ v' m', Ending.returned v = .returned v' ∧ Rep m' v' r ∧ (m.le m' ∧ m'.d = m.d) ∧ (∀ b j, b < w.heap.size → m' b j = m b j) ∧ MemOk m' w' ∧
      w'.os = w.os ∧ w'.tape = w.tape ∧ w'.output = w.output ∧ w.heap.size ≤ w'.heap.size ∧ ∀ k, k < w.heap.size → w'.heap[k]? = w.heap[k]? := by
    intro E s a w' hS hr
    refine ⟨hS.dfr, ?_⟩
    unfold retIs at hr
    split at hr
    rotate_left
    · exact hr.elim
    rename_i p svs hp' hrv
    obtain ⟨hp, hrr⟩ := hr
    obtain ⟨us, E', k1, k2, k3, k4, k5⟩ := retv_sound fn.results.toList ars p svs hp' E s hars hrv hp hS
    refine ⟨_, results_run k1, _, E'.m, rfl, one_rep hrr k2 k3, ⟨k4.le, k4.d rfl⟩, fun b j hb => ?_, ⟨k4.wo.mem, k4.wo.pl⟩, k4.wo.os, k4.wo.tape, k4.wo.output, k4.wo.size, fun k hk => k4.wo.block k hk (fun h => h)⟩
    rw [k4.wo.keep b j hb (fun h => h), k4.z]
  refine vc_sound (X := fun _ _ => False) hm c ac hac (fun _ _ _ _ _ _ h => h.elim) (fun e E g s a w' hS he => ?_) E0 none _ _ w hS h
  have hno : g = none := by
    cases g with
    | none => rfl
    | some G => exact (hS.hb rfl).elim
  subst hno
  cases e with
  | normal => exact fin E s a w' hS he
  | exit id => exact he.elim
  | ret => exact fin E s a w' hS he

/-- The function hands back r, and the global store is G'. -/
def retIsG (rs : List AR) (r : SV) (G' : List (List SV)) (s : St) : Prop :=
  match retvs s rs with
  | some (p, vs, h) => p ∧ r = (match vs with | [v] => v | vs => .tup vs) ∧ gOf h = some G'
  | none => False

/-- The verification condition of a function that turns the global store. -/
def vcFH (C : CT) (f : AF) (G : List (List SV)) (args : List SV) (out : HOut) (G' : List (List SV)) : Prop :=
  vc C f.body (fun e s => match e with | .exit _ => False | _ => match out with | .ret r => retIsG f.res r G' s | .pan _ => False) { sl := args ++ List.replicate (f.ntmps - args.length) .undef, hp := [gOb G] }

/-- AND OF A FUNCTION THAT TURNS THE GLOBAL STORE. -/
theorem hcontract_of_vc {f : Nat} {fn : Func} {af : AF} {G G' : List (List SV)} {args : List SV} {out : HOut} (hm : P.follows .mixedOrders = true) (hf : P.funcs[f]? = some fn) (htr : trF P fn = some af)
    (h : vcFH (CTof P fun x G1 => out = .pan x ∧ G1 = G') af G args out G') : HContract P f G args out G' := by
  intro m w vs hmem hsat hlen hrep
  unfold trF at htr
  split at htr
  rotate_left
  · cases htr
  rename_i c hb
  simp only [Option.bind_eq_bind, Option.bind_eq_some_iff, Option.pure_def, Option.some.injEq] at htr
  obtain ⟨ars, hars, ac, hac, rfl⟩ := htr
  let own : Nat → Prop := fun b => ∃ i, m.d i = some b
  let E0 : Env := { m := m, m0 := m, H := fun _ => none, β := fun _ => 0, t := fun _ => 0 }
  have hW : W w own E0 w := ⟨rfl, rfl, rfl, Nat.le_refl _, fun _ _ _ => rfl, hmem.1, fun o ob ho => (by cases ho), fun o o' ob ob' ho => (by cases ho), fun _ _ _ _ => rfl, hmem.2⟩
  have hS : SR w own m True [] E0 (some G) { sl := args ++ List.replicate (fn.ntmps - args.length) .undef, hp := [gOb G] } { tmps := vs.toArray ++ Array.replicate (fn.ntmps - vs.toArray.size) undef, defers := [] } w := by
    refine ⟨hW, ⟨rfl, hsat, fun i b hi => .inr ⟨i, hi⟩, fun i b o ob _ ho => by cases ho⟩, fun o => ?_, by simp [hlen], init_rel hlen hrep, rfl, rfl, .refl _, (fun h => by cases h), fun _ => trivial⟩
    cases o with
    | zero => rfl
    | succ o => rfl
  refine calls_of_wp hf hb ?_
  -- what is there at an end
  have tail : ∀ (E : Env) (w' : World), W w own E w' → GI w.heap.size own E w' G' → m.le E.m → E.m0 = m → m.le E.m ∧ (∀ b j, b < w.heap.size → E.m b j = m b j) ∧ MemOk E.m w' ∧ GSat E.m w' G' ∧
      (∀ i b, E.m.d i = some b → m.d i = some b ∨ w.heap.size ≤ b) ∧ w'.os = w.os ∧ w'.tape = w.tape ∧ w'.output = w.output ∧ w.heap.size ≤ w'.heap.size ∧ ∀ k, k < w.heap.size → (∀ i, m.d i ≠ some k) → w'.heap[k]? = w.heap[k]? := by
    intro E w' hW hg hle hz
    refine ⟨hle, fun b j hb => ?_, ⟨hW.mem, hW.pl⟩, hg.sat, fun i b hi => ?_, hW.os, hW.tape, hW.output, hW.size, fun k hk hn => hW.block k hk (fun ⟨i, hi⟩ => hn i hi)⟩
    · by_cases ho : own b
      · obtain ⟨i, hi⟩ := ho
        rw [hsat.free i b j hi, hg.sat.free i b j (hle.d _ _ hi)]
      · rw [hW.keep b j hb ho, hz]
    · rcases hg.new i b hi with h | ⟨i', hi'⟩
      · exact .inr h
      · have := hg.sat.inj i i' b hi (hle.d _ _ hi')
        subst this
        exact .inl hi'
  have fin : ∀ (E : Env) (g : Option (List (List SV))) (s : St) (a : Act) (w' : World) (r : SV), SR w own m True [] E g s a w' → out = .ret r → retIsG ars r G' s → a.defers = [] ∧ ∃ v, (results fn a.tmps).run P w' = .ok v w' ∧ ∃ m', HEnd m' (.returned v) out ∧ m.le m' ∧ (∀ b j, b < w.heap.size → m' b j = m b j) ∧ MemOk m' w' ∧ GSat m' w' G' ∧
      (∀ i b, m'.d i = some b → m.d i = some b ∨ w.heap.size ≤ b) ∧ w'.os = w.os ∧ w'.tape = w.tape ∧ w'.output = w.output ∧ w.heap.size ≤ w'.heap.size ∧ ∀ k, k < w.heap.size → (∀ i, m.d i ≠ some k) → w'.heap[k]? = w.heap[k]? := by
    intro E g s a w' r hS ho hr
    subst ho
    refine ⟨hS.dfr, ?_⟩
    unfold retIsG at hr
    split at hr
    rotate_left
    · exact hr.elim
    rename_i p svs hp' hrv
    obtain ⟨hp, hrr, hG⟩ := hr
    obtain ⟨us, E', k1, k2, k3, k4, k5⟩ := retv_sound fn.results.toList ars p svs hp' E s hars hrv hp hS
    have := view_some (U := fun _ => True) (s := { s with hp := hp' }) (fun o _ => k4.hp o) trivial k4.wo hG
    subst this
    exact ⟨_, results_run k1, E'.m, ⟨_, rfl, one_rep hrr k2 k3⟩, tail E' w' k4.wo k4.gx k4.le k4.z⟩
  refine vc_sound (X := fun x G1 => out = .pan x ∧ G1 = G') hm c ac hac (fun E u x G1 a w' hx hrep hW hg hle hz hdf => ?_) (fun e E g s a w' hS he => ?_) E0 (some G) _ _ w hS h
  · obtain ⟨rfl, rfl⟩ := hx
    exact ⟨hdf, E.m, ⟨u, rfl, hrep⟩, tail E w' hW hg hle hz⟩
  · cases out with
    | pan x => cases e <;> exact he.elim
    | ret r =>
      cases e with
      | normal => exact fin E g s a w' r hS rfl he
      | exit id => exact he.elim
      | ret => exact fin E g s a w' r hS rfl he
/-- The function hands back what T welcomes. -/
def retIsQ (rs : List AR) (T : HOut → List (List SV) → Prop) (s : St) : Prop :=
  match retvs s rs with
  | some (p, vs, h) => p ∧ (match gOf h with
    | some G' => T (.ret (match vs with | [v] => v | vs => .tup vs)) G'
    | none => False)
  | none => False

def vcFQ (C : CT) (f : AF) (G : List (List SV)) (args : List SV) (T : HOut → List (List SV) → Prop) : Prop :=
  vc C f.body (fun e s => match e with | .exit _ => False | _ => retIsQ f.res T s) { sl := args ++ List.replicate (f.ntmps - args.length) .undef, hp := [gOb G] }

/-- AND OF ONE THAT ENDS BY ONE OF SEVERAL WAYS. -/
theorem hcontractQ_of_vc {f : Nat} {fn : Func} {af : AF} {G : List (List SV)} {args : List SV} {T : HOut → List (List SV) → Prop} (hm : P.follows .mixedOrders = true) (hf : P.funcs[f]? = some fn) (htr : trF P fn = some af)
    (h : vcFQ (CTof P fun x G1 => T (.pan x) G1) af G args T) : HContractQ P f G args T := by
  intro m w vs hmem hsat hlen hrep
  unfold trF at htr
  split at htr
  rotate_left
  · cases htr
  rename_i c hb
  simp only [Option.bind_eq_bind, Option.bind_eq_some_iff, Option.pure_def, Option.some.injEq] at htr
  obtain ⟨ars, hars, ac, hac, rfl⟩ := htr
  let own : Nat → Prop := fun b => ∃ i, m.d i = some b
  let E0 : Env := { m := m, m0 := m, H := fun _ => none, β := fun _ => 0, t := fun _ => 0 }
  have hW : W w own E0 w := ⟨rfl, rfl, rfl, Nat.le_refl _, fun _ _ _ => rfl, hmem.1, fun o ob ho => (by cases ho), fun o o' ob ob' ho => (by cases ho), fun _ _ _ _ => rfl, hmem.2⟩
  have hS : SR w own m True [] E0 (some G) { sl := args ++ List.replicate (fn.ntmps - args.length) .undef, hp := [gOb G] } { tmps := vs.toArray ++ Array.replicate (fn.ntmps - vs.toArray.size) undef, defers := [] } w := by
    refine ⟨hW, ⟨rfl, hsat, fun i b hi => .inr ⟨i, hi⟩, fun i b o ob _ ho => by cases ho⟩, fun o => ?_, by simp [hlen], init_rel hlen hrep, rfl, rfl, .refl _, (fun h => by cases h), fun _ => trivial⟩
    cases o with
    | zero => rfl
    | succ o => rfl
  refine calls_of_wp hf hb ?_
  -- what is there at an end
  have tail : ∀ (E : Env) (w' : World) (G' : List (List SV)), W w own E w' → GI w.heap.size own E w' G' → m.le E.m → E.m0 = m → m.le E.m ∧ (∀ b j, b < w.heap.size → E.m b j = m b j) ∧ MemOk E.m w' ∧ GSat E.m w' G' ∧
      (∀ i b, E.m.d i = some b → m.d i = some b ∨ w.heap.size ≤ b) ∧ w'.os = w.os ∧ w'.tape = w.tape ∧ w'.output = w.output ∧ w.heap.size ≤ w'.heap.size ∧ ∀ k, k < w.heap.size → (∀ i, m.d i ≠ some k) → w'.heap[k]? = w.heap[k]? := by
    intro E w' G' hW hg hle hz
    refine ⟨hle, fun b j hb => ?_, ⟨hW.mem, hW.pl⟩, hg.sat, fun i b hi => ?_, hW.os, hW.tape, hW.output, hW.size, fun k hk hn => hW.block k hk (fun ⟨i, hi⟩ => hn i hi)⟩
    · by_cases ho : own b
      · obtain ⟨i, hi⟩ := ho
        rw [hsat.free i b j hi, hg.sat.free i b j (hle.d _ _ hi)]
      · rw [hW.keep b j hb ho, hz]
    · rcases hg.new i b hi with h | ⟨i', hi'⟩
      · exact .inr h
      · have := hg.sat.inj i i' b hi (hle.d _ _ hi')
        subst this
        exact .inl hi'
  have fin : ∀ (E : Env) (g : Option (List (List SV))) (s : St) (a : Act) (w' : World), SR w own m True [] E g s a w' → retIsQ ars T s → a.defers = [] ∧ ∃ v, (results fn a.tmps).run P w' = .ok v w' ∧ ∃ out G', T out G' ∧ ∃ m', HEnd m' (.returned v) out ∧ m.le m' ∧ (∀ b j, b < w.heap.size → m' b j = m b j) ∧ MemOk m' w' ∧ GSat m' w' G' ∧
      (∀ i b, m'.d i = some b → m.d i = some b ∨ w.heap.size ≤ b) ∧ w'.os = w.os ∧ w'.tape = w.tape ∧ w'.output = w.output ∧ w.heap.size ≤ w'.heap.size ∧ ∀ k, k < w.heap.size → (∀ i, m.d i ≠ some k) → w'.heap[k]? = w.heap[k]? := by
    intro E g s a w' hS hr
    refine ⟨hS.dfr, ?_⟩
    unfold retIsQ at hr
    split at hr
    rotate_left
    · exact hr.elim
    rename_i p svs hp' hrv
    obtain ⟨hp, hr⟩ := hr
    split at hr
    rotate_left
    · exact hr.elim
    rename_i G' hG
    obtain ⟨us, E', k1, k2, k3, k4, k5⟩ := retv_sound fn.results.toList ars p svs hp' E s hars hrv hp hS
    have := view_some (U := fun _ => True) (s := { s with hp := hp' }) (fun o _ => k4.hp o) trivial k4.wo hG
    subst this
    exact ⟨_, results_run k1, _, G', hr, E'.m, ⟨_, rfl, one_rep rfl k2 k3⟩, tail E' w' G' k4.wo k4.gx k4.le k4.z⟩
  refine vc_sound (X := fun x G1 => T (.pan x) G1) hm c ac hac (fun E u x G1 a w' hx hrep hW hg hle hz hdf => ?_) (fun e E g s a w' hS he => ?_) E0 (some G) _ _ w hS h
  · exact ⟨hdf, _, G1, hx, E.m, ⟨u, rfl, hrep⟩, tail E w' G1 hW hg hle hz⟩
  · cases e with
    | normal => exact fin E g s a w' hS he
    | exit id => exact he.elim
    | ret => exact fin E g s a w' hS he
end
end Go.Proofs.YtdpigpopcbjkmaaDoor.Abs

/-! From the row's reading of an argument ('DataW.trod') to the closed abstract value that stands for it. -/
namespace Go.Proofs.YtdpigpopcbjkmaaDoor.Abs
open Go Go.RowKit

/-- All that lies in the world. -/
def memOf (w : World) : Mem := ⟨fun b j => w.cell? ⟨b, j, none⟩, fun _ => none, fun _ => False, fun _ _ _ h => by cases h⟩

/-- Cells of a type. -/
inductive TySV (P : Program) : TypeId → List SV → Prop
  | bool (t : TypeId) (b : Bool) : P.underlying t = some .bool → TySV P t [.bool b]
  | int (t : TypeId) (k : IntKind) (n : Int) : P.underlying t = some (.int k) → (Lit.int k n).wf = true → TySV P t [.int k n]
  | float (t : TypeId) (k : FloatKind) (b : Nat) : P.underlying t = some (.float k) → (Lit.float k b).wf = true → TySV P t [.float k b]
  | str (t : TypeId) (s : ByteArray) : P.underlying t = some .string → s.size ≤ reachBytes → TySV P t [.str s]
  | slice (t e : TypeId) (l : List (List SV)) : P.underlying t = some (.slice e) → l.length * P.bytesOf e ≤ reachBytes → (∀ r ∈ l, TySV P e r) → TySV P t [.dsl (P.cellsOf e) l]
  | struct (t : TypeId) (fs : Array Field) (parts : List (List SV)) : P.underlying t = some (.struct fs) → parts.length = fs.toList.length → (∀ (i : Nat) (f : Field) (p : List SV), fs.toList[i]? = some f → parts[i]? = some p → TySV P f.type p) → TySV P t parts.flatten

def tiled (P : Program) : List Field → Nat → Nat → Bool
  | [], o, n => o == n
  | f :: fs, o, n => f.offset == o && tiled P fs (o + P.cellsOf f.type) n

/-- A row of types, closed under what they are made of: no pointer, no map, no interface. -/
def flatS (P : Program) (S : List TypeId) : Bool :=
  S.all fun t => match P.underlying t with
    | some .bool => true
    | some (.int _) => true
    | some (.float _) => true
    | some .string => true
    | some (.slice e) => S.contains e && decide (0 < P.cellsOf e) && decide (0 < P.bytesOf e)
    | some (.struct fs) => (fs.toList.all fun f => S.contains f.type) && tiled P fs.toList 0 (P.cellsOf t)
    | _ => false

theorem choose_list {X : Type} {p : Nat → X → Prop} : ∀ {n : Nat}, (∀ i, i < n → ∃ x, p i x) → ∃ l : List X, l.length = n ∧ ∀ (i : Nat) x, l[i]? = some x → p i x := by
  intro n
  induction n with
  | zero => intro _; exact ⟨[], rfl, by simp⟩
  | succ n ih =>
    intro h
    obtain ⟨l, h1, h2⟩ := ih (fun i hi => h i (Nat.lt_succ_of_lt hi))
    obtain ⟨x, hx⟩ := h n (Nat.lt_succ_self n)
    refine ⟨l ++ [x], by simp [h1], fun i y hy => ?_⟩
    rcases Nat.lt_or_ge i l.length with hi | hi
    · rw [List.getElem?_append_left hi] at hy; exact h2 i y hy
    · rw [List.getElem?_append_right hi] at hy
      have : i = n := by
        rcases Nat.lt_or_ge (i - l.length) 1 with h | h
        · omega
        · rw [List.getElem?_eq_none (by simpa using h)] at hy; cases hy
      subst this
      have : i - l.length = 0 := by omega
      rw [this] at hy
      simp at hy; subst hy; exact hx

theorem mapM_get {α β : Type} {f : α → Option β} : ∀ {l : List α} {l' : List β}, l.mapM f = some l' → l'.length = l.length ∧ ∀ (i : Nat) (a : α), l[i]? = some a → ∃ b, l'[i]? = some b ∧ f a = some b := by
  intro l
  induction l with
  | nil => intro l' h; simp at h; subst h; simp
  | cons a l ih =>
    intro l' h
    rw [List.mapM_cons] at h
    simp only [Option.bind_eq_bind, Option.bind_eq_some_iff, Option.pure_def, Option.some.injEq] at h
    obtain ⟨b, hb, r, hr, rfl⟩ := h
    obtain ⟨h1, h2⟩ := ih hr
    refine ⟨by simp [h1], fun i x hx => ?_⟩
    cases i with
    | zero => simp at hx; subst hx; exact ⟨b, by simp, hb⟩
    | succ i => obtain ⟨y, g1, g2⟩ := h2 i x (by simpa using hx); exact ⟨y, by simpa using g1, g2⟩

theorem cells_get {w : World} {base : Nat} {a : Addr} {n : Nat} {cs : List Value} (h : w.cells? base a n = some cs) : cs.length = n ∧ ∀ i, i < n → ∃ v, cs[i]? = some v ∧ w.cell? (a.add i) = some v := by
  unfold World.cells? at h
  split at h
  · obtain ⟨h1, h2⟩ := mapM_get h
    refine ⟨by simpa using h1, fun i hi => ?_⟩
    exact h2 i i (by simp [hi])
  · cases h

theorem tiled_flat {P : Program} {cs : List Value} : ∀ {fs : List Field} {o : Nat} {parts : List (List SV)}, tiled P fs o cs.length = true → parts.length = fs.length →
    (∀ (i : Nat) (f : Field) (p : List SV), fs[i]? = some f → parts[i]? = some p → p.length = P.cellsOf f.type) → parts.flatten.length = cs.length - o ∧ o ≤ cs.length ∧
    ∀ (R : Value → SV → Prop), (∀ (i : Nat) (f : Field) (p : List SV), fs[i]? = some f → parts[i]? = some p → ∀ (j : Nat) v x, ((cs.drop f.offset).take (P.cellsOf f.type))[j]? = some v → p[j]? = some x → R v x) →
      ∀ (j : Nat) v x, (cs.drop o)[j]? = some v → parts.flatten[j]? = some x → R v x := by
  intro fs
  induction fs with
  | nil =>
    intro o parts ht hl _
    simp only [tiled, beq_iff_eq] at ht
    have : parts = [] := List.length_eq_zero_iff.1 (by simpa using hl)
    subst this
    exact ⟨by simp [ht], by omega, fun R _ j v x _ hx => by simp at hx⟩
  | cons f fs ih =>
    intro o parts ht hl hlen
    simp only [tiled, Bool.and_eq_true, beq_iff_eq] at ht
    obtain ⟨ho, ht⟩ := ht
    cases parts with
    | nil => simp at hl
    | cons p parts =>
      obtain ⟨h1, h2, h3⟩ := ih ht (by simpa using hl) (fun i g q hg hq => hlen (i + 1) g q (by simpa using hg) (by simpa using hq))
      have hp := hlen 0 f p rfl rfl
      refine ⟨by simp only [List.flatten_cons, List.length_append]; omega, by omega, fun R hR j v x hv hx => ?_⟩
      rw [List.flatten_cons] at hx
      rcases Nat.lt_or_ge j p.length with hj | hj
      · rw [List.getElem?_append_left hj] at hx
        refine hR 0 f p rfl rfl j v x ?_ hx
        rw [List.getElem?_take, if_pos (by omega), ho]
        exact hv
      · rw [List.getElem?_append_right hj] at hx
        refine h3 R (fun i g q hg hq => hR (i + 1) g q (by simpa using hg) (by simpa using hq)) (j - p.length) v x ?_ hx
        rw [List.getElem?_drop] at hv ⊢
        rw [show o + P.cellsOf f.type + (j - p.length) = o + j by omega]
        exact hv

section
variable {H : Type} {enc : TypeId × Value → H} {P : Program} {w : World} {base : Nat} {sp : Nat → Bool} {held : Bool}

theorem weightsAll_mem {e : TypeId} {n : Nat} {d : DataW H} : ∀ {ds : List (DataW H)}, d ∈ ds → n ∈ d.weights P e → n ∈ DataW.weightsAll P e ds := by
  intro ds
  induction ds with
  | nil => intro h; cases h
  | cons x ds ih =>
    intro h hn
    simp only [DataW.weightsAll, List.mem_append]
    rcases List.mem_cons.1 h with rfl | h
    · exact .inl hn
    · exact .inr (ih h hn)

theorem trod_rep {S : List TypeId} (hS : flatS P S = true) : ∀ (fuel : Nat) (t : TypeId) (cs : List Value) (x : DataW H × List MemPlace), t ∈ S → (∀ n ∈ x.1.weights P t, n ≤ reachBytes) → DataW.trod enc P w base sp held fuel t cs = some x →
    ∃ svs, TySV P t svs ∧ svs.length = cs.length ∧ (∀ v ∈ cs, v.oneCell' = true) ∧ ∀ (j : Nat) v y, cs[j]? = some v → svs[j]? = some y → Rep (memOf w) v y := by
  intro fuel
  induction fuel with
  | zero => intro t cs x _ _ h; simp [DataW.trod] at h
  | succ fuel ih =>
    intro t cs x ht hwt h
    have hT := hS
    simp only [flatS, List.all_eq_true] at hT
    have hT := hT t ht
    have one : ∀ (v : Value) (y : SV), cs = [v] → v.oneCell' = true → TySV P t [y] → Rep (memOf w) v y → ∃ svs, TySV P t svs ∧ svs.length = cs.length ∧ (∀ v ∈ cs, v.oneCell' = true) ∧ ∀ (j : Nat) v y, cs[j]? = some v → svs[j]? = some y → Rep (memOf w) v y := by
      intro v y hc ho hty hr
      subst hc
      refine ⟨[y], hty, rfl, fun u hu => by simp at hu; subst hu; exact ho, fun j u z hu hz => ?_⟩
      cases j with
      | zero => simp at hu hz; subst hu; subst hz; exact hr
      | succ j => simp at hu
    have single : (∀ d, P.underlying t = some d → (d = .bool ∨ (∃ k, d = .int k) ∨ (∃ k, d = .float k) ∨ d = .string)) → ∃ v, cs = [v] := by
      intro hd
      cases cs with
      | nil =>
        cases hu : P.underlying t with
        | none => simp [DataW.trod, hu] at h
        | some d => rcases hd d hu with rfl | ⟨k, rfl⟩ | ⟨k, rfl⟩ | rfl <;> simp [DataW.trod, hu] at h
      | cons v r =>
        cases r with
        | nil => exact ⟨v, rfl⟩
        | cons u r =>
          exfalso
          cases hu : P.underlying t with
          | none => simp [DataW.trod, hu] at h
          | some d => rcases hd d hu with rfl | ⟨k, rfl⟩ | ⟨k, rfl⟩ | rfl <;> cases v <;> simp [DataW.trod, hu] at h
    split at hT
    · rename_i hu
      obtain ⟨v, rfl⟩ := single (fun d hd => by rw [hu] at hd; cases hd; exact .inl rfl)
      cases v <;> simp [DataW.trod, hu] at h
      rename_i b
      exact one _ _ rfl rfl (.bool t b hu) (.bool b)
    · rename_i k hu
      obtain ⟨v, rfl⟩ := single (fun d hd => by rw [hu] at hd; cases hd; exact .inr (.inl ⟨k, rfl⟩))
      cases v <;> simp [DataW.trod, hu] at h
      rename_i k' n
      obtain ⟨⟨rfl, hw⟩, _⟩ := h
      exact one _ _ rfl rfl (.int t k' n hu hw) (.int k' n)
    · rename_i k hu
      obtain ⟨v, rfl⟩ := single (fun d hd => by rw [hu] at hd; cases hd; exact .inr (.inr (.inl ⟨k, rfl⟩)))
      cases v <;> simp [DataW.trod, hu] at h
      rename_i k' n
      obtain ⟨⟨rfl, hw⟩, _⟩ := h
      exact one _ _ rfl rfl (.float t k' n hu hw) (.float k' n)
    · rename_i hu
      obtain ⟨v, rfl⟩ := single (fun d hd => by rw [hu] at hd; cases hd; exact .inr (.inr (.inr rfl)))
      cases v <;> simp [DataW.trod, hu] at h
      rename_i b
      refine one _ _ rfl rfl (.str t b hu ?_) (.str b)
      have := hwt b.data.toList.length (by rw [← h.2]; simp [DataW.weights])
      simpa using this
    · rename_i e hu
      simp only [Bool.and_eq_true, List.contains_eq_mem, decide_eq_true_eq] at hT
      obtain ⟨⟨heS, hpos⟩, hbpos⟩ := hT
      have hsl : ∃ A len cap, cs = [.slice A len cap] := by
        cases cs with
        | nil => simp [DataW.trod, hu] at h
        | cons v r =>
          cases r with
          | nil =>
            cases v with
            | slice A len cap => exact ⟨A, len, cap, rfl⟩
            | _ => simp [DataW.trod, hu] at h
          | cons u r => cases v <;> simp [DataW.trod, hu] at h
      obtain ⟨A, len, cap, rfl⟩ := hsl
      cases A with
      | none =>
        have hz : len = 0 ∧ cap = 0 := by
          cases len <;> cases cap <;> simp [DataW.trod, hu] at h ⊢
        obtain ⟨rfl, rfl⟩ := hz
        exact one _ _ rfl rfl (.slice t e [] hu (by simp) (by simp)) (.dsl0 _ _ _)
      | some a =>
        simp only [DataW.trod, hu] at h
        split at h
        rotate_left
        · cases h
        rename_i hcond
        obtain ⟨hba, hlc, hcm⟩ := hcond
        simp only [Option.bind_eq_some_iff] at h
        obtain ⟨elems, hel, h⟩ := h
        simp only [Option.map_eq_some_iff] at h
        obtain ⟨rest, hrest, rfl⟩ := h
        simp only [DataW.weights, hu] at hwt
        obtain ⟨hl1, hl2⟩ := mapM_get hel
        have hsz : len * P.bytesOf e ≤ reachBytes := by
          have := hwt _ List.mem_cons_self
          simp only [List.length_map, hl1, List.length_range] at this
          exact Nat.le_trans (Nat.mul_le_mul_right _ (Nat.le_add_right _ _)) this
        have hlen47 : len ≤ 140737488355328 := by
          have h1 : len * 1 ≤ len * P.bytesOf e := Nat.mul_le_mul_left _ hbpos
          have h2 : reachBytes ≤ 140737488355328 := by decide
          omega
        have hrow : ∀ i, i < len → ∃ q : List Value × List SV, w.cells? base (a.add (i * P.cellsOf e)) (P.cellsOf e) = some q.1 ∧ TySV P e q.2 ∧ q.2.length = q.1.length ∧ (∀ v ∈ q.1, v.oneCell' = true) ∧ ∀ (j : Nat) v y, q.1[j]? = some v → q.2[j]? = some y → Rep (memOf w) v y := by
          intro i hi
          obtain ⟨b, hbm, hb⟩ := hl2 i i (by simp [hi])
          simp only [Option.bind_eq_some_iff] at hb
          obtain ⟨cs1, hc1, hc2⟩ := hb
          obtain ⟨svs, g1, g2, g3, g4⟩ := ih e cs1 b heS (fun n hn => hwt n (List.mem_cons_of_mem _ (List.mem_append_left _ (weightsAll_mem (List.mem_map.2 ⟨b, List.mem_of_getElem? hbm, rfl⟩) hn)))) hc2
          exact ⟨(cs1, svs), hc1, g1, g2, g3, g4⟩
        obtain ⟨qs, hq1, hq2⟩ := choose_list hrow
        have hty : ∀ r ∈ qs.map (·.2), TySV P e r := by
          intro r hr
          obtain ⟨q, hq, rfl⟩ := List.mem_map.1 hr
          obtain ⟨i, hi⟩ := List.getElem?_of_mem hq
          exact (hq2 i q hi).2.1
        have hlen : ∀ q ∈ qs, q.1.length = P.cellsOf e := by
          intro q hq
          obtain ⟨i, hi⟩ := List.getElem?_of_mem hq
          exact (cells_get (hq2 i q hi).1).1
        have hrows : ∀ r ∈ qs.map (·.2), r.length = P.cellsOf e := by
          intro r hr
          obtain ⟨q, hq, rfl⟩ := List.mem_map.1 hr
          obtain ⟨i, hi⟩ := List.getElem?_of_mem hq
          rw [(hq2 i q hi).2.2.1, hlen q hq]
        have hvrows : ∀ r ∈ qs.map (·.1), r.length = P.cellsOf e := by
          intro r hr
          obtain ⟨q, hq, rfl⟩ := List.mem_map.1 hr
          exact hlen q hq
        refine one _ _ rfl rfl (.slice t e (qs.map (·.2)) hu (by simpa [hq1] using hsz) hty) ?_
        rcases Nat.eq_zero_or_pos len with h0 | h0
        · have : qs = [] := List.length_eq_zero_iff.1 (by omega)
          subst this; subst h0
          exact .dsl0 _ _ _
        · have hspot : a = ⟨a.block, a.off, none⟩ := by
            obtain ⟨q, hq⟩ : ∃ q, qs[0]? = some q := ⟨qs[0]'(by omega), List.getElem?_eq_getElem (by omega)⟩
            obtain ⟨v, _, hv⟩ := (cells_get (hq2 0 q hq).1).2 0 hpos
            have hv' : w.cell? a = some v := by simpa [Addr.add] using hv
            unfold World.cell? at hv'
            obtain ⟨b, o, spt⟩ := a
            cases spt with
            | none => rfl
            | some x =>
              simp only at hv'
              split at hv' <;> simp at hv'
          have hfl := flat_len hrows
          have hvfl := flat_len hvrows
          have hidx : ∀ j v, (qs.map (·.1)).flatten[j]? = some v → ∃ q, qs[j / P.cellsOf e]? = some q ∧ j % P.cellsOf e < P.cellsOf e ∧ q.1[j % P.cellsOf e]? = some v := by
            intro j v hv
            have hm := Nat.mod_lt j hpos
            have hdj : j / P.cellsOf e * P.cellsOf e + j % P.cellsOf e = j := Nat.div_add_mod' j _
            rw [← hdj, flat_get hvrows _ _ hm] at hv
            simp only [List.getElem?_map, Option.bind_eq_some_iff, Option.map_eq_some_iff] at hv
            obtain ⟨r, ⟨q, hq, rfl⟩, hv⟩ := hv
            exact ⟨q, hq, hm, hv⟩
          rw [hspot]
          have hR := Rep.dsl (m := memOf w) (P.cellsOf e) (qs.map (·.2)) cap a.block a.off (qs.map (·.1)).flatten (fun v hv => by
              obtain ⟨r, hr, hvr⟩ := List.mem_flatten.1 hv
              obtain ⟨q, hq, rfl⟩ := List.mem_map.1 hr
              obtain ⟨i, hi⟩ := List.getElem?_of_mem hq
              exact (hq2 i q hi).2.2.2.1 v hvr) (by simp [hq1, hlc]) (by simp [hq1]; exact hlen47) hrows (by rw [hvfl, hfl]; simp) (fun j v hv => by
              obtain ⟨q, hq, hm, hv'⟩ := hidx j v hv
              obtain ⟨u, hu1, hu2⟩ := (cells_get (hq2 _ q hq).1).2 _ hm
              rw [hv'] at hu1; cases hu1
              have hdj : j / P.cellsOf e * P.cellsOf e + j % P.cellsOf e = j := Nat.div_add_mod' j _
              rw [hspot, add_off, add_off] at hu2
              show w.cell? ⟨a.block, a.off + j, none⟩ = some v
              rw [← hdj, ← Nat.add_assoc]
              exact hu2) (fun j v y hv hy => by
              obtain ⟨q, hq, hm, hv'⟩ := hidx j v hv
              have hdj : j / P.cellsOf e * P.cellsOf e + j % P.cellsOf e = j := Nat.div_add_mod' j _
              rw [← hdj, flat_get hrows _ _ hm] at hy
              simp only [List.getElem?_map, hq, Option.map_some, Option.bind_some] at hy
              exact (hq2 _ q hq).2.2.2.2 _ v y hv' hy)
          simpa [hq1] using hR
    · rename_i fs hu
      simp only [Bool.and_eq_true, List.all_eq_true, List.contains_eq_mem, decide_eq_true_eq] at hT
      obtain ⟨hin, htl⟩ := hT
      have h2 : cs.length = P.cellsOf t ∧ ∃ xs, (fs.toList.mapM fun f => DataW.trod enc P w base sp held fuel f.type ((cs.drop f.offset).take (P.cellsOf f.type))) = some xs ∧ x.1 = .agg (xs.map (·.1)) := by
        have h' : (if cs.length = P.cellsOf t then (fs.toList.mapM fun f => DataW.trod enc P w base sp held fuel f.type ((cs.drop f.offset).take (P.cellsOf f.type))).map fun xs => (DataW.agg (xs.map (·.1)), xs.flatMap (·.2)) else none) = some x := by
          rw [← h]
          simp only [DataW.trod, hu]
        split at h'
        · rename_i hl
          simp only [Option.map_eq_some_iff] at h'
          obtain ⟨xs, hxs, rfl⟩ := h'
          exact ⟨hl, xs, hxs, rfl⟩
        · cases h'
      obtain ⟨hcl, xs, hxs, hx1⟩ := h2
      rw [hx1] at hwt
      simp only [DataW.weights, hu] at hwt
      obtain ⟨hl1, hl2⟩ := mapM_get hxs
      have hparts : ∀ i, i < fs.toList.length → ∃ p : List SV, ∀ f, fs.toList[i]? = some f → TySV P f.type p ∧ p.length = ((cs.drop f.offset).take (P.cellsOf f.type)).length ∧ (∀ v ∈ (cs.drop f.offset).take (P.cellsOf f.type), v.oneCell' = true) ∧
          ∀ (j : Nat) v y, ((cs.drop f.offset).take (P.cellsOf f.type))[j]? = some v → p[j]? = some y → Rep (memOf w) v y := by
        intro i hi
        have hf : fs.toList[i]? = some fs.toList[i] := List.getElem?_eq_getElem hi
        obtain ⟨b, hbm, hb⟩ := hl2 i _ hf
        obtain ⟨svs, g1, g2, g3, g4⟩ := ih _ _ b (hin _ (List.getElem_mem hi)) (fun n hn => hwt n (DataW.weights_mem_each (j := i) (t := fs.toList[i].type) (d := b.1) (by simp only [List.getElem?_map, hf, Option.map_some]) (by rw [List.getElem?_map, hbm]; rfl) n hn)) hb
        refine ⟨svs, fun f hf' => ?_⟩
        rw [hf] at hf'; cases hf'
        exact ⟨g1, g2, g3, g4⟩
      obtain ⟨parts, hp1, hp2⟩ := choose_list hparts
      have fitl : ∀ {fs : List Field} {o n : Nat}, tiled P fs o n = true → ∀ (i : Nat) f, fs[i]? = some f → f.offset + P.cellsOf f.type ≤ n := by
        intro fs
        induction fs with
        | nil => intro o n _ i f hf; simp at hf
        | cons g fs ih2 =>
          intro o n ht i f hf
          simp only [tiled, Bool.and_eq_true, beq_iff_eq] at ht
          have lo : ∀ {fs : List Field} {o n : Nat}, tiled P fs o n = true → o ≤ n := by
            intro fs
            induction fs with
            | nil => intro o n h; simp only [tiled, beq_iff_eq] at h; omega
            | cons g fs ih3 => intro o n h; simp only [tiled, Bool.and_eq_true] at h; have := ih3 h.2; omega
          cases i with
          | zero => simp at hf; subst hf; have := lo ht.2; omega
          | succ i => exact ih2 ht.2 i f (by simpa using hf)
      have hplen : ∀ (i : Nat) (f : Field) (p : List SV), fs.toList[i]? = some f → parts[i]? = some p → p.length = P.cellsOf f.type := by
        intro i f p hf hp
        rw [(hp2 i p hp f hf).2.1]
        have := fitl htl i f hf
        simp; omega
      obtain ⟨f1, f2, f3⟩ := tiled_flat (P := P) (cs := cs) (fs := fs.toList) (o := 0) (parts := parts) (by rw [hcl]; exact htl) (by rw [hp1]) hplen
      refine ⟨parts.flatten, .struct t fs parts hu (by rw [hp1]) (fun i f p hf hp => (hp2 i p hp f hf).1), by rw [f1]; rfl, ?_, fun j v y hv hy => ?_⟩
      · intro v hv
        obtain ⟨j, hj⟩ := List.getElem?_of_mem hv
        have hjl : j < cs.length := by
          rcases Nat.lt_or_ge j cs.length with h | h
          · exact h
          · rw [List.getElem?_eq_none h] at hj; cases hj
        exact f3 (fun v _ => v.oneCell' = true) (fun i f p hf hp k v x hv _ => (hp2 i p hp f hf).2.2.1 v (List.mem_of_getElem? hv)) j v _ hj (List.getElem?_eq_getElem (show j < parts.flatten.length by omega))
      · exact f3 (Rep (memOf w)) (fun i f p hf hp => (hp2 i p hp f hf).2.2.2) j v y hv hy
    · cases hT
end
end Go.Proofs.YtdpigpopcbjkmaaDoor.Abs

/-! A law's row, out of the contract of its function: whatever the arguments, it hands back true. -/
namespace Go.Proofs.YtdpigpopcbjkmaaDoor.Abs
open Go Go.RowKit

/-- An argument of a type. -/
inductive TyArg (P : Program) (t : TypeId) : SV → Prop
  | agg (svs : List SV) : isAggT P t = some true → TySV P t svs → TyArg P t (.agg true svs)
  | one (x : SV) : isAggT P t = some false → TySV P t [x] → TyArg P t x

/-- Arguments of types. -/
def TyArgs (P : Program) : List TypeId → List SV → Prop
  | [], [] => True
  | t :: ts, x :: xs => TyArg P t x ∧ TyArgs P ts xs
  | _, _ => False

section
variable {H : Type} {enc : TypeId × Value → H} {P : Program} {w : World} {base : Nat} {sp : Nat → Bool} {held : Bool}

theorem arg_rep {S : List TypeId} (hS : flatS P S = true) {b0 : Nat} {t : TypeId} {v : Value} {d : DataW H} {ps : List MemPlace} (ht : t ∈ S) (hval : Value.okWide P w .any b0 t v) (hwt : ∀ n ∈ d.weights P t, n ≤ reachBytes)
    (h : DataW.Trod enc P w base sp held t v d ps) : ∃ x, TyArg P t x ∧ Rep (memOf w) v x := by
  obtain ⟨fuel, h⟩ := h
  obtain ⟨svs, g1, g2, g3, g4⟩ := trod_rep hS fuel t v.cells.toList (d, ps) ht hwt h
  have hT := hS
  simp only [flatS, List.all_eq_true] at hT
  have hT := hT t ht
  have one : isAggT P t = some false → v.oneCell' = true → ∃ x, TyArg P t x ∧ Rep (memOf w) v x := by
    intro ha ho
    have hc : v.cells = #[v] := by cases v <;> first | rfl | (simp [Value.oneCell'] at ho)
    rw [hc] at g2 g4
    match svs, g2 with
    | [x], _ => exact ⟨x, .one x ha g1, g4 0 v x rfl rfl⟩
  split at hT
  · rename_i hu
    exact one (by simp [isAggT, hu]) (by
      simp only [Value.okWide, hu, Cell.okWide] at hval
      cases v <;> simp_all [Cell.ok, Value.oneCell'])
  · rename_i k hu
    exact one (by simp [isAggT, hu]) (by
      simp only [Value.okWide, hu, Cell.okWide] at hval
      cases v <;> simp_all [Cell.ok, Value.oneCell'])
  · rename_i k hu
    exact one (by simp [isAggT, hu]) (by
      simp only [Value.okWide, hu, Cell.okWide] at hval
      cases v <;> simp_all [Cell.ok, Value.oneCell'])
  · rename_i hu
    exact one (by simp [isAggT, hu]) (by
      simp only [Value.okWide, hu, Cell.okWide] at hval
      cases v <;> simp_all [Cell.ok, Value.oneCell'])
  · rename_i e hu
    exact one (by simp [isAggT, hu]) (by
      simp only [Value.okWide, hu, Cell.okWide] at hval
      cases v <;> simp_all [Cell.ok, Value.oneCell'])
  · rename_i fs hu
    simp only [Value.okWide, hu] at hval
    obtain ⟨cs, rfl, _, _⟩ := hval
    refine ⟨.agg true svs, .agg svs (by simp [isAggT, hu]) g1, ?_⟩
    have := Rep.agg (m := memOf w) cs.toList svs g3 (by rw [g2]; rfl) g4
    simpa using this
  · cases hT

theorem args_rep {S : List TypeId} (hS : flatS P S = true) {b0 : Nat} : ∀ {ts : List TypeId} {vs : List Value} {ds : List (DataW H)} {ps : List MemPlace}, (∀ t ∈ ts, t ∈ S) → (∀ (j : Nat) t v, ts[j]? = some t → vs[j]? = some v → Value.okWide P w .any b0 t v) →
    (∀ n ∈ DataW.weightsEach P ts ds, n ≤ reachBytes) → DataW.TrodAll enc P w base sp held ts vs ds ps → ∃ xs, TyArgs P ts xs ∧ xs.length = vs.length ∧ ∀ (j : Nat) v x, vs[j]? = some v → xs[j]? = some x → Rep (memOf w) v x := by
  intro ts
  induction ts with
  | nil =>
    intro vs ds ps _ _ _ h
    cases vs with
    | nil => exact ⟨[], trivial, rfl, by simp⟩
    | cons v vs => cases ds <;> exact h.elim
  | cons t ts ih =>
    intro vs ds ps hS' hval hwt h
    cases vs with
    | nil => cases ds <;> exact h.elim
    | cons v vs =>
      cases ds with
      | nil => exact h.elim
      | cons d ds =>
        obtain ⟨p, q, h1, h2, rfl⟩ := h
        simp only [DataW.weightsEach, List.mem_append] at hwt
        obtain ⟨x, a1, a2⟩ := arg_rep hS (hS' t List.mem_cons_self) (hval 0 t v rfl rfl) (fun n hn => hwt n (.inl hn)) h1
        obtain ⟨xs, b1, b2, b3⟩ := ih (fun u hu => hS' u (List.mem_cons_of_mem _ hu)) (fun j u z hu hz => hval (j + 1) u z (by simpa using hu) (by simpa using hz)) (fun n hn => hwt n (.inr hn)) h2
        refine ⟨x :: xs, ⟨a1, b1⟩, by simp [b2], fun j u z hu hz => ?_⟩
        cases j with
        | zero => simp at hu hz; subst hu; subst hz; exact a2
        | succ j => exact b3 j u z (by simpa using hu) (by simpa using hz)

theorem trodAll_below (hl : laidOutB P = true) {W W' : World} (hb : Below W.heap.size W W') : ∀ {ts : List TypeId} {vs : List Value} {ds : List (DataW H)} {ps : List MemPlace}, (∀ t ∈ ts, P.readableRec t = true ∧ t < P.types.size) →
    (∀ x ∈ ps, x.block < W.heap.size) → DataW.TrodAll enc P W 0 (fun _ => true) true ts vs ds ps → DataW.TrodAll enc P W' 0 (fun b => decide (b < W.heap.size)) true ts vs ds ps := by
  intro ts
  induction ts with
  | nil =>
    intro vs ds ps _ _ h
    cases vs with
    | nil => cases ds with
      | nil => exact h
      | cons d ds => exact h.elim
    | cons v vs => cases ds <;> exact h.elim
  | cons t ts ih =>
    intro vs ds ps hr hlt h
    cases vs with
    | nil => cases ds <;> exact h.elim
    | cons v vs =>
      cases ds with
      | nil => exact h.elim
      | cons d ds =>
        obtain ⟨p, q, h1, h2, rfl⟩ := h
        exact ⟨p, q, Below.trod hl (hr t List.mem_cons_self).1 (hr t List.mem_cons_self).2 h1 hb (fun x hx => hlt x (List.mem_append_left _ hx)), ih (fun u hu => hr u (List.mem_cons_of_mem _ hu)) (fun x hx => hlt x (List.mem_append_right _ hx)) h2, rfl⟩
end

theorem weightsEach_more {H : Type} {P : Program} {n : Nat} {us : List TypeId} {es : List (DataW H)} : ∀ {ts : List TypeId} {ds : List (DataW H)}, n ∈ DataW.weightsEach P ts ds → n ∈ DataW.weightsEach P (ts ++ us) (ds ++ es) := by
  intro ts
  induction ts with
  | nil => intro ds h; simp [DataW.weightsEach] at h
  | cons t ts ih =>
    intro ds h
    cases ds with
    | nil => simp [DataW.weightsEach] at h
    | cons d ds =>
      simp only [List.cons_append, DataW.weightsEach, List.mem_append] at h ⊢
      rcases h with h | h
      · exact .inl h
      · exact .inr (ih h)

/-- THE ROW'S LIFTED WORD, OUT OF THE CONTRACT. -/
theorem law_lifted {H : Type} {enc : TypeId × Value → H} {C : Checked} {os : Os} {f : FuncId} {fn : Func} {s : ChangeSpec} {S : List TypeId} {tb : TypeId} {apart fresh handsOn : Bool} (own : ownKnob C.prog.godebug = none) (started : os.Started) (noInit : C.prog.inits.idxOf? f = none)
    (hfn : C.prog.funcs[f]? = some fn) (hvars : s.vars = [])
    (witness : ∃ (w : World) (tape : Tape) (i : Input), w.os = os ∧ (w.forCall tape i).Shaped C.prog ∧ i.vars = [] ∧ Input.okWide C.prog (w.forCall tape i) .any w.heap.size f i ∧
      s.pre6 enc C.prog fn [] apart (w.forCall tape i).memory i.args ∧ ({} : Assume).holds C.prog (lone (Frame.enter C.prog f i.args .normal) [] (w.forCall tape i)))
    (hs : ∀ ds : List (DataW H), ds.length = fn.params.size → s.fn H ds = { results := [.lit (.bool true)], args := ds }) (hres : fn.resultTypes = #[tb]) (htb : C.prog.underlying tb = some .bool)
    (hS : flatS C.prog S = true) (hpar : ∀ t ∈ fn.params.toList, t ∈ S) (hlaid : laidOutB C.prog = true) (hread : ∀ t ∈ fn.params.toList, C.prog.readableRec t = true ∧ t < C.prog.types.size)
    (law : ∀ args : List SV, TyArgs C.prog fn.params.toList args → Contract C.prog f args (.bool true)) :
    ReturnsInHanded {} C os f .any (s.pre6 enc C.prog fn [] apart) (s.post enc C.prog fn apart fresh handsOn false) := by
  refine returnsInHanded_of_change_sized (C := C) own started noInit hfn witness ?_
  intro W base args ds gs before hval hW _ hsz _
  have hW' := hW
  have hlt : ∀ x ∈ before, x.block < W.heap.size := fun x hx => hW'.lt x hx
  obtain ⟨p, q, hA, hV, rfl, hfz, hnd⟩ := hW
  rw [hvars] at hV
  have hgs : gs = [] ∧ q = [] := by
    cases gs with
    | nil => exact ⟨rfl, hV⟩
    | cons g gs => exact hV.elim
  obtain ⟨rfl, rfl⟩ := hgs
  have hwt : ∀ n ∈ DataW.weightsEach C.prog fn.params.toList ds, n ≤ reachBytes := by
    intro n hn
    have := List.all_eq_true.1 hsz n (weightsEach_more hn)
    simpa using this
  have hdl : ds.length = fn.params.size := by
    have := (trodAll_length hA).2
    simpa using this
  obtain ⟨xs, a1, a2, a3⟩ := args_rep hS hpar (fun j t v ht hv => hval j t v (by simpa using ht) (by simpa using hv)) hwt hA
  have hc := law xs a1 (memOf W) W args.toList ⟨fun b j v h => h, fun b h => h.elim⟩ a2.symm a3
  refine Calls.mono hc (fun e W' he => ?_)
  obtain ⟨v, m', rfl, k1, k2, k3, k4, k5, k6, k7, k8, k9⟩ := he
  cases k1
  have hb : Below W.heap.size W W' := ⟨k5, k6, k7, k8, k9⟩
  refine ⟨_, rfl, ds, [], p ++ [], [], p, [], hW', ?_, ?_, ?_, hb.frame _, fun h => by cases h⟩
  · rw [List.append_nil, hs ds hdl, hres]
    exact ⟨[], [], ⟨1, by simp [DataW.trod, htb, Value.cells]⟩, rfl, rfl⟩
  · rw [List.append_nil, hs ds hdl]
    exact trodAll_below hlaid hb hread (fun x hx => hlt x (by simpa using hx)) hA
  · rw [List.append_nil, hs ds hdl, hvars]
    rfl
end Go.Proofs.YtdpigpopcbjkmaaDoor.Abs
