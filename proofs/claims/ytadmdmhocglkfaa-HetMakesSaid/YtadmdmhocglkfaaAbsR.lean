/- How abstract values and objects stand to the model's: 'Rep', 'RelV', 'W'; what keeps them. -/
import Derived.Test.YtadmdmhocglkfaaAbsT
import Derived.Below
set_option linter.unusedSimpArgs false
set_option linter.unusedVariables false
namespace Go.Proofs.Ytadmdmhocglkfaa.Abs
open Go Go.RowKit

/-- Memory that is written no more. -/
abbrev Mem := Nat → Nat → Option Value

def Mem.le (m m' : Mem) : Prop := ∀ b j v, m b j = some v → m' b j = some v

/-- A closed value stands for a value, its memory in m. -/
inductive Rep (m : Mem) : Value → SV → Prop
  | bool (b : Bool) : Rep m (.bool b) (.bool b)
  | int (k : IntKind) (n : Int) : Rep m (.int k n) (.int k n)
  | float (k : FloatKind) (b : Nat) : Rep m (.float k b) (.float k b)
  | str (s : ByteArray) : Rep m (.string s) (.str s)
  | nilp : Rep m (.pointer none) .nilp
  | nils : Rep m (.slice none 0 0) .nils
  | fn (f : Nat) : Rep m (.func (.func f) #[] #[]) (.fn f)
  | dref (sz : Nat) (l : List SV) (c b off : Nat) (vs : List Value) : (∀ v ∈ vs, v.oneCell' = true) → vs.length = sz → l.length = sz → (∀ j v, vs[j]? = some v → m b (off + j) = some v) →
      (∀ (j : Nat) (v : Value) (x : SV), vs[j]? = some v → l[j]? = some x → Rep m v x) → Rep m (.pointer (some ⟨b, off + c, none⟩)) (.dref sz l c)
  | dsl0 (sz : Nat) (A : Option Addr) (cap : Nat) : Rep m (.slice A 0 cap) (.dsl sz [])
  | dsl (sz : Nat) (l : List (List SV)) (cap b off : Nat) (vs : List Value) : (∀ v ∈ vs, v.oneCell' = true) → l.length ≤ cap → l.length ≤ 140737488355328 → (∀ r ∈ l, r.length = sz) → vs.length = l.flatten.length →
      (∀ j v, vs[j]? = some v → m b (off + j) = some v) → (∀ (j : Nat) (v : Value) (x : SV), vs[j]? = some v → l.flatten[j]? = some x → Rep m v x) →
      Rep m (.slice (some ⟨b, off, none⟩) l.length cap) (.dsl sz l)
  | agg (vs : List Value) (l : List SV) : (∀ v ∈ vs, v.oneCell' = true) → vs.length = l.length → (∀ (j : Nat) (v : Value) (x : SV), vs[j]? = some v → l[j]? = some x → Rep m v x) → Rep m (.agg vs.toArray) (.agg true l)
  | tup (vs : List Value) (l : List SV) : vs.length = l.length → (∀ (j : Nat) (v : Value) (x : SV), vs[j]? = some v → l[j]? = some x → Rep m v x) → Rep m (.tuple vs.toArray) (.tup l)

theorem Rep.mono {m m' : Mem} (h : m.le m') {v : Value} {s : SV} (r : Rep m v s) : Rep m' v s := by
  induction r with
  | bool b => exact .bool b
  | int k n => exact .int k n
  | float k b => exact .float k b
  | str s => exact .str s
  | nilp => exact .nilp
  | nils => exact .nils
  | fn f => exact .fn f
  | dref sz l c b off vs h0 h1 h2 h3 _ ih => exact .dref sz l c b off vs h0 h1 h2 (fun j v hv => h _ _ _ (h3 j v hv)) ih
  | dsl0 sz A cap => exact .dsl0 sz A cap
  | dsl sz l cap b off vs h0 h1 h2 h3 h4 h5 _ ih => exact .dsl sz l cap b off vs h0 h1 h2 h3 h4 (fun j v hv => h _ _ _ (h5 j v hv)) ih
  | agg vs l h0 h1 _ ih => exact .agg vs l h0 h1 ih
  | tup vs l h1 _ ih => exact .tup vs l h1 ih

structure Env where
  m : Mem
  m0 : Mem
  H : Nat → Option Ob
  β : Nat → Nat
  t : Nat → Nat

/-- A value stands for a value, objects known by E. -/
inductive RelV (E : Env) : Value → SV → Prop
  | junk (v : Value) : RelV E v .junk
  | undef : RelV E undef .undef
  | rep (v : Value) (s : SV) : Rep E.m v s → RelV E v s
  | ref (o g e c : Nat) (b j : Nat) (ob : Ob) : E.H o = some ob → g ≤ ob.gen → (ob.gen = g → b = E.β o ∧ j = e * ob.sz + c) → RelV E (.pointer (some ⟨b, j, none⟩)) (.ref o g e c)
  | osl (o g off len : Nat) (A : Option Addr) (n cap : Nat) (ob : Ob) : E.H o = some ob → g ≤ ob.gen → n = len ∧ len ≤ cap ∧ (0 < len → ∃ b j, A = some ⟨b, j, none⟩) →
      (ob.gen = g → off + len ≤ ob.els.length ∧ ((A = some ⟨E.β o, off * ob.sz, none⟩ ∧ (off + cap) * ob.sz ≤ E.t o) ∨ cap = 0)) → RelV E (.slice A n cap) (.osl o g off len)
  | agg (vs : List Value) (l : List SV) : (∀ v ∈ vs, v.oneCell' = true) → vs.length = l.length → (∀ (j : Nat) (v : Value) (x : SV), vs[j]? = some v → l[j]? = some x → RelV E v x) → RelV E (.agg vs.toArray) (.agg false l)

/-- More is known, nothing is forgotten. -/
structure Ext (E E' : Env) : Prop where
  m : E.m.le E'.m
  H : ∀ o ob, E.H o = some ob → ∃ ob', E'.H o = some ob' ∧ ob'.sz = ob.sz ∧ ob.gen ≤ ob'.gen ∧ (ob'.gen = ob.gen → E'.β o = E.β o ∧ E'.t o = E.t o ∧ ob.els.length ≤ ob'.els.length)
  z : E'.m0 = E.m0

theorem Ext.refl (E : Env) : Ext E E := ⟨fun _ _ _ h => h, fun _ ob h => ⟨ob, h, rfl, Nat.le_refl _, fun _ => ⟨rfl, rfl, Nat.le_refl _⟩⟩, rfl⟩
theorem Ext.trans {a b c : Env} (h : Ext a b) (k : Ext b c) : Ext a c := by
  refine ⟨fun x y v hv => k.m _ _ _ (h.m _ _ _ hv), fun o ob ho => ?_, k.z.trans h.z⟩
  obtain ⟨ob1, h1, h2, h3, h4⟩ := h.H o ob ho
  obtain ⟨ob2, k1, k2, k3, k4⟩ := k.H o ob1 h1
  refine ⟨ob2, k1, k2.trans h2, by omega, fun hg => ?_⟩
  obtain ⟨a1, a2, a3⟩ := h4 (by omega)
  obtain ⟨b1, b2, b3⟩ := k4 (by omega)
  exact ⟨b1.trans a1, b2.trans a2, by omega⟩

theorem RelV.mono {E E' : Env} (h : Ext E E') {v : Value} {s : SV} (r : RelV E v s) : RelV E' v s := by
  induction r with
  | junk v => exact .junk v
  | undef => exact .undef
  | rep v s hr => exact .rep v s (hr.mono h.m)
  | ref o g e c b j ob h1 h2 h3 =>
    obtain ⟨ob', k1, k2, k3, k4⟩ := h.H o ob h1
    refine .ref o g e c b j ob' k1 (by omega) (fun hg => ?_)
    obtain ⟨a1, a2, a3⟩ := k4 (by omega)
    rw [k2, a1]
    exact h3 (by omega)
  | osl o g off len A n cap ob h1 h2 hnl h3 =>
    obtain ⟨ob', k1, k2, k3, k4⟩ := h.H o ob h1
    refine .osl o g off len A n cap ob' k1 (by omega) hnl (fun hg => ?_)
    obtain ⟨a1, a2, a3⟩ := k4 (by omega)
    obtain ⟨b3, b4⟩ := h3 (by omega)
    rw [k2, a1, a2]
    exact ⟨by omega, b4⟩
  | agg vs l h0 h1 _ ih => exact .agg vs l h0 h1 ih

/-- What an object is in the world. -/
structure Live (n0 : Nat) (own : Nat → Prop) (E : Env) (w : World) (o : Nat) (ob : Ob) (c : Array Value) (e : TypeId) : Prop where
  blk : w.heap[E.β o]? = some (.cells c e (0, 0))
  size : c.size = E.t o
  new : n0 ≤ E.β o ∨ own (E.β o)
  rel : ∀ (k : Nat) (v : Value) (x : SV), c[k]? = some v → ob.els.flatten[k]? = some x → RelV E v x
  one : ∀ (k : Nat) (v : Value), c[k]? = some v → v.oneCell' = true
  old : ∀ k, k < ob.frz * ob.sz → E.m (E.β o) k = c[k]?
  free : ∀ k, ob.frz * ob.sz ≤ k → E.m (E.β o) k = none
  clo : (ob.box = false ∨ ob.cl = true) → ∀ (k : Nat) (v : Value) (x : SV), c[k]? = some v → ob.els.flatten[k]? = some x → Rep E.m v x

structure ObOk (n0 : Nat) (own : Nat → Prop) (E : Env) (w : World) (o : Nat) (ob : Ob) : Prop where
  rows : ∀ r ∈ ob.els, r.length = ob.sz
  frz : ob.frz ≤ ob.els.length
  fit : ob.els.length * ob.sz ≤ E.t o
  box : ob.box = true → ob.els.length = 1
  bnd : ob.els.length ≤ 140737488355328
  live : 0 < E.t o → ∃ c e, Live n0 own E w o ob c e

/-- The world as E knows it; of what was there when the call began (w0) nothing has turned but what is its own. -/
structure W (w0 : World) (own : Nat → Prop) (E : Env) (w : World) : Prop where
  os : w.os = w0.os
  tape : w.tape = w0.tape
  output : w.output = w0.output
  size : w0.heap.size ≤ w.heap.size
  block : ∀ k, k < w0.heap.size → ¬ own k → w.heap[k]? = w0.heap[k]?
  mem : ∀ b j v, E.m b j = some v → w.cell? ⟨b, j, none⟩ = some v
  obs : ∀ o ob, E.H o = some ob → ObOk w0.heap.size own E w o ob
  inj : ∀ o o' ob ob', E.H o = some ob → E.H o' = some ob' → o ≠ o' → 0 < E.t o → 0 < E.t o' → E.β o ≠ E.β o'
  keep : ∀ b j, b < w0.heap.size → ¬ own b → E.m b j = E.m0 b j

theorem flat_len {α : Type} {sz : Nat} {l : List (List α)} (h : ∀ r ∈ l, r.length = sz) : l.flatten.length = l.length * sz := by
  induction l with
  | nil => simp
  | cons r l ih =>
    rw [List.flatten_cons, List.length_append, h r (by simp), ih (fun r hr => h r (by simp [hr])), List.length_cons, Nat.succ_mul, Nat.add_comm]

theorem flat_get {α : Type} {sz : Nat} {l : List (List α)} (h : ∀ r ∈ l, r.length = sz) (i j : Nat) (hj : j < sz) : l.flatten[i * sz + j]? = (l[i]?).bind (fun r => r[j]?) := by
  induction l generalizing i with
  | nil => simp
  | cons r l ih =>
    have hr := h r (by simp)
    rw [List.flatten_cons]
    cases i with
    | zero => simp [List.getElem?_append, hr, hj]
    | succ i =>
      rw [List.getElem?_append_right (by rw [hr, Nat.succ_mul]; omega), hr, show (i + 1) * sz + j - sz = i * sz + j by rw [Nat.succ_mul]; omega]
      rw [ih (fun r hr => h r (by simp [hr]))]
      simp

theorem flat_drop {α : Type} {sz : Nat} {l : List (List α)} (h : ∀ r ∈ l, r.length = sz) (n : Nat) : (l.drop n).flatten = l.flatten.drop (n * sz) := by
  induction n generalizing l with
  | zero => simp
  | succ n ih =>
    cases l with
    | nil => simp
    | cons r l =>
      have hr := h r (by simp)
      rw [List.drop_succ_cons, ih (fun r hr => h r (by simp [hr])), List.flatten_cons, List.drop_append, hr, Nat.succ_mul, show n * sz + sz - sz = n * sz by omega, List.drop_eq_nil_of_le (as := r) (i := n * sz + sz) (by omega), List.nil_append]

theorem flat_take {α : Type} {sz : Nat} {l : List (List α)} (h : ∀ r ∈ l, r.length = sz) (n : Nat) : (l.take n).flatten = l.flatten.take (n * sz) := by
  induction n generalizing l with
  | zero => simp
  | succ n ih =>
    cases l with
    | nil => simp
    | cons r l =>
      have hr := h r (by simp)
      rw [List.take_succ_cons, List.flatten_cons, ih (fun r hr => h r (by simp [hr])), List.flatten_cons, List.take_append, hr, Nat.succ_mul, show n * sz + sz - sz = n * sz by omega, List.take_of_length_le (l := r) (i := n * sz + sz) (by omega)]

/-- A draw turns nothing. -/
theorem W.drew {w0 : World} {own : Nat → Prop} {E : Env} {w : World} (h : W w0 own E w) : W w0 own E { w with drawn := w.drawn + 1 } :=
  ⟨h.os, h.tape, h.output, h.size, h.block, h.mem, fun o ob ho => ⟨(h.obs o ob ho).rows, (h.obs o ob ho).frz, (h.obs o ob ho).fit, (h.obs o ob ho).box, (h.obs o ob ho).bnd, fun ht =>
    let ⟨c, e, k⟩ := (h.obs o ob ho).live ht
    ⟨c, e, ⟨k.blk, k.size, k.new, k.rel, k.one, k.old, k.free, k.clo⟩⟩⟩, h.inj, h.keep⟩

theorem W.lt {w0 : World} {own : Nat → Prop} {E : Env} {w : World} (h : W w0 own E w) {o : Nat} {ob : Ob} (ho : E.H o = some ob) (ht : 0 < E.t o) : E.β o < w.heap.size := by
  obtain ⟨c, e, k⟩ := (h.obs o ob ho).live ht
  rcases Nat.lt_or_ge (E.β o) w.heap.size with h1 | h1
  · exact h1
  · have := k.blk
    rw [Array.getElem?_eq_none h1] at this
    cases this

theorem mem_lt {w : World} {b j : Nat} {v : Value} (h : w.cell? ⟨b, j, none⟩ = some v) : b < w.heap.size := by
  have := World.block_lt_of_cell? w ⟨b, j, none⟩ h
  exact this

/-- A new row of cells as a new object. -/
theorem W.new {w0 : World} {own : Nat → Prop} {E : Env} {w : World} (h : W w0 own E w) (n : Nat) (hn : E.H n = none) (c : Array Value) (e : TypeId) (ob : Ob)
    (hr : ∀ r ∈ ob.els, r.length = ob.sz) (hf : ob.frz = 0) (hfit : ob.els.length * ob.sz ≤ c.size) (hbox : ob.box = true → ob.els.length = 1) (hbnd : ob.els.length ≤ 140737488355328) (hone : ∀ (k : Nat) (v : Value), c[k]? = some v → v.oneCell' = true)
    (hrel : ∀ (k : Nat) (v : Value) (x : SV), c[k]? = some v → ob.els.flatten[k]? = some x → RelV E v x)
    (hclo : (ob.box = false ∨ ob.cl = true) → ∀ (k : Nat) (v : Value) (x : SV), c[k]? = some v → ob.els.flatten[k]? = some x → Rep E.m v x) :
    ∃ E', Ext E E' ∧ W w0 own E' (w.alloc (.cells c e)) ∧ E'.m = E.m ∧ E'.H = (fun o => if o = n then some ob else E.H o) ∧ E'.β n = w.heap.size ∧ E'.t n = c.size := by
  let E' : Env := { m := E.m, m0 := E.m0, H := fun o => if o = n then some ob else E.H o, β := fun o => if o = n then w.heap.size else E.β o, t := fun o => if o = n then c.size else E.t o }
  have hext : Ext E E' := by
    refine ⟨fun _ _ _ hv => hv, fun o ob1 ho => ⟨ob1, ?_, rfl, Nat.le_refl _, fun _ => ?_⟩, rfl⟩
    · have : o ≠ n := by rintro rfl; rw [hn] at ho; cases ho
      simp only [E', if_neg this]; exact ho
    · have : o ≠ n := by rintro rfl; rw [hn] at ho; cases ho
      simp only [E', if_neg this]; simp
  have hmem : ∀ b j v, E.m b j = some v → (w.alloc (.cells c e)).cell? ⟨b, j, none⟩ = some v := fun b j v hv => by
    have := h.mem b j v hv
    rw [World.cell?_alloc_lt w _ _ (mem_lt this)]
    exact this
  refine ⟨E', hext, ⟨h.os, h.tape, h.output, by simp; exact Nat.le_succ_of_le h.size, fun k hk ho => ?_, hmem, fun o ob1 ho => ?_, fun o o' ob1 ob2 h1 h2 hne ht ht' => ?_, h.keep⟩, rfl, rfl, by simp [E'], by simp [E']⟩
  · rw [Below.heap_alloc _ _ _ (Nat.lt_of_lt_of_le hk h.size)]
    exact h.block k hk ho
  · by_cases hon : o = n
    · subst hon
      have : ob1 = ob := by simp [E'] at ho; exact ho.symm
      subst this
      refine ⟨hr, by omega, by simpa [E'] using hfit, hbox, hbnd, fun ht => ⟨c, e, ⟨?_, by simp [E'], ?_, fun k v x hv hx => (hrel k v x hv hx).mono hext, hone, ?_, ?_, fun hb => hclo hb⟩⟩⟩
      · simp only [E', if_true]; exact heap_alloc_new w _
      · left; simp [E']; exact h.size
      · intro k hk; rw [hf] at hk; omega
      · intro k _
        cases hm : E'.m (E'.β o) k with
        | none => rfl
        | some v =>
          have h1 : E.m w.heap.size k = some v := by simpa [E'] using hm
          have := mem_lt (h.mem _ _ _ h1)
          omega
    · have ho' : E.H o = some ob1 := by simpa [E', hon] using ho
      have hk := h.obs o ob1 ho'
      refine ⟨hk.rows, hk.frz, by simpa [E', hon] using hk.fit, hk.box, hk.bnd, fun ht => ?_⟩
      have ht' : 0 < E.t o := by simpa [E', hon] using ht
      obtain ⟨c1, e1, k⟩ := hk.live ht'
      have hlt := h.lt ho' ht'
      refine ⟨c1, e1, ⟨?_, by simpa [E', hon] using k.size, by simpa [E', hon] using k.new, fun j v x hv hx => (k.rel j v x hv hx).mono hext, k.one, by simpa [E', hon] using k.old, by simpa [E', hon] using k.free, by simpa [E', hon] using k.clo⟩⟩
      simp only [E', if_neg hon]
      rw [Below.heap_alloc _ _ _ hlt]
      exact k.blk
  · by_cases ho : o = n <;> by_cases ho' : o' = n
    · omega
    · subst ho
      have h2' : E.H o' = some ob2 := by simpa [E', ho'] using h2
      have := h.lt h2' (by simpa [E', ho'] using ht')
      simp [E', ho']; omega
    · subst ho'
      have h1' : E.H o = some ob1 := by simpa [E', ho] using h1
      have := h.lt h1' (by simpa [E', ho] using ht)
      simp [E', ho]; omega
    · simp only [E', if_neg ho, if_neg ho'] at *
      exact h.inj o o' ob1 ob2 h1 h2 hne ht ht'
end Go.Proofs.Ytadmdmhocglkfaa.Abs
