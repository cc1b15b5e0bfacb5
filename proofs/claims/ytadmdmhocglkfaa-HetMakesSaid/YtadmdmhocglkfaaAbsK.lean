/- A region whose order is drawn. -/
import Derived.Test.YtadmdmhocglkfaaAbsJ
set_option linter.unusedSimpArgs false
set_option linter.unusedVariables false
namespace Go.Proofs.Ytadmdmhocglkfaa.Abs
open Go Go.RowKit

/-- Is an operation wanted? -/
def WantA (o : AOper) (s : St) (b : Bool) : Prop :=
  match o.g with
  | none => b = true
  | some (t, want) => (∃ c, s.sl.getD t .undef = .bool c ∧ b = (c == want)) ∨ (s.sl.getD t .undef = .undef ∧ b = false)

/-- All steps of a drawn region, in the order of the text. -/
structure Trace (C : Nat → List SV → SV → Prop) (l : List AOper) (s : St) (fps : List (Nat × AOp × St)) (p : Prop) (K : St → Prop) (σ : Nat → St) (v : Nat → SV) (q : Nat → Prop) (on : Nat → Bool) : Prop where
  zero : σ 0 = s
  want : ∀ i ao, l[i]? = some ao → WantA ao (σ i) (on i)
  next : ∀ i ao, l[i]? = some ao → σ (i + 1) = ({ σ i with hp := (σ (i + 1)).hp } : St).put ao.d (v i)
  does : ∀ i ao, l[i]? = some ao → on i = true → Does C ao (σ i) (v i) (σ (i + 1)).hp (q i) ∧ ∀ f ∈ fps, f.1 ∈ ao.chk → apartD f.2.2 f.2.1 (σ i) ao.op
  skip : ∀ i ao, l[i]? = some ao → on i = false → v i = .undef ∧ (σ (i + 1)).hp = (σ i).hp ∧ q i
  apart : ∀ i j a b, i < j → l[i]? = some a → l[j]? = some b → on i = true → on j = true → a.fp = true → a.id ∈ b.chk → apartD (σ i) a.op (σ j) b.op
  fin : p → (∀ i, i < l.length → q i) → K (σ l.length)

theorem clear_of {o : AOper} {s : St} {fps : List (Nat × AOp × St)} (h : clear o s fps) : ∀ f ∈ fps, f.1 ∈ o.chk → apartD f.2.2 f.2.1 s o.op := by
  unfold clear at h
  split at h
  · rename_i hc; intro f _ hf; rw [hc] at hf; cases hf
  · exact h

theorem does_of_stepD {C : Nat → List SV → SV → Prop} {o : AOper} {s : St} {K : St → Prop → Prop} (h : stepD C o s K) : ∃ v hp q, Does C o s v hp q ∧ K ({ s with hp := hp }.put o.d v) q := by
  unfold stepD at h
  split at h
  · rename_i f args hop
    split at h
    · rename_i vs hh hcl
      obtain ⟨r, hC, hK⟩ := h
      exact ⟨r, hh, True, .inl ⟨f, args, vs, .inl hop, hcl, hC, trivial⟩, hK⟩
    · exact h.elim
  · rename_i fs x args hop
    split at h
    · rename_i f hf
      split at h
      · rename_i hin
        split at h
        · rename_i vs hh hcl
          obtain ⟨r, hC, hK⟩ := h
          exact ⟨r, hh, True, .inl ⟨f, args, vs, .inr ⟨fs, x, hop, hf, hin⟩, hcl, hC, trivial⟩, hK⟩
        · exact h.elim
      · exact h.elim
    · exact h.elim
  · rename_i c a b hop
    split at h
    · rename_i t ht
      have he : absOp s o.op = some { ob := True, val := if t then s.get a else s.get b, hp := s.hp } := by rw [hop]; simp only [absOp, ht, St.val]
      refine ⟨if t then s.get a else s.get b, s.hp, True, .inr ⟨_, he, trivial, rfl, rfl, fun _ => trivial⟩, ?_⟩
      cases t with
      | true => exact h.1 rfl
      | false => exact h.2 rfl
    · exact h.elim
  · split at h
    · rename_i e he
      exact ⟨e.val, e.hp, e.as, .inr ⟨e, he, h.1, rfl, rfl, id⟩, h.2⟩
    · exact h.elim

theorem put_put_hp (s : St) (hp : List Ob) (d : Option Nat) (v : SV) : ({ s with hp := hp }.put d v).hp = hp := put_hp

/-- A trace, one step longer. -/
theorem Trace.cons {C : Nat → List SV → SV → Prop} {o : AOper} {l : List AOper} {s s1 : St} {fps fps' : List (Nat × AOp × St)} {p p' : Prop} {K : St → Prop} {σ : Nat → St} {v : Nat → SV} {q : Nat → Prop} {on : Nat → Bool}
    {v0 : SV} {q0 : Prop} {b0 : Bool} (h : Trace C l s1 fps' p' K σ v q on) (hw : WantA o s b0) (hs1 : s1 = ({ s with hp := s1.hp } : St).put o.d v0) (hd : b0 = true → Does C o s v0 s1.hp q0 ∧ ∀ f ∈ fps, f.1 ∈ o.chk → apartD f.2.2 f.2.1 s o.op)
    (hk : b0 = false → v0 = .undef ∧ s1.hp = s.hp ∧ q0) (hp : p → q0 → p') (hf : ∀ f ∈ fps, f ∈ fps') (hf2 : b0 = true → o.fp = true → (o.id, o.op, s) ∈ fps') :
    Trace C (o :: l) s fps p K (fun i => match i with | 0 => s | i + 1 => σ i) (fun i => match i with | 0 => v0 | i + 1 => v i) (fun i => match i with | 0 => q0 | i + 1 => q i) (fun i => match i with | 0 => b0 | i + 1 => on i) := by
  have h0 := h.zero
  refine ⟨rfl, fun i ao ha => ?_, fun i ao ha => ?_, fun i ao ha hon => ?_, fun i ao ha hon => ?_, fun i j a b hij ha hb hi hj hfp hid => ?_, fun hp0 hq => ?_⟩
  · cases i with
    | zero => simp at ha; subst ha; exact hw
    | succ i => exact h.want i ao (by simpa using ha)
  · cases i with
    | zero => simp at ha; subst ha; simp only [h0]; exact hs1
    | succ i => exact h.next i ao (by simpa using ha)
  · cases i with
    | zero => simp at ha; subst ha; simp only [h0]; exact hd hon
    | succ i =>
      obtain ⟨g1, g2⟩ := h.does i ao (by simpa using ha) hon
      exact ⟨g1, fun f hfm hc => g2 f (hf f hfm) hc⟩
  · cases i with
    | zero => simp at ha; subst ha; simp only [h0]; exact hk hon
    | succ i => exact h.skip i ao (by simpa using ha) hon
  · cases j with
    | zero => omega
    | succ j =>
      cases i with
      | zero =>
        simp at ha; subst ha
        exact (h.does j b (by simpa using hb) hj).2 _ (hf2 hi hfp) hid
      | succ i => exact h.apart i j a b (by omega) (by simpa using ha) (by simpa using hb) hi hj hfp hid
  · exact h.fin (hp hp0 (hq 0 (by simp))) (fun i hi => hq (i + 1) (by simp; omega))

theorem trace_of {C : Nat → List SV → SV → Prop} {K : St → Prop} : ∀ (l : List AOper) (s : St) (fps : List (Nat × AOp × St)) (p : Prop), vcDr C l s fps p K → ∃ σ v q on, Trace C l s fps p K σ v q on := by
  intro l
  induction l with
  | nil =>
    intro s fps p h
    simp only [vcDr] at h
    exact ⟨fun _ => s, fun _ => .undef, fun _ => True, fun _ => false, rfl, by simp, by simp, by simp, by simp, by simp, fun hp _ => h hp⟩
  | cons o l ih =>
    intro s fps p h
    have go : ∀ b0, WantA o s b0 → b0 = true → clear o s fps ∧ stepD C o s (fun s' q => vcDr C l s' (if o.fp then (o.id, o.op, s) :: fps else fps) (p ∧ q) K) → ∃ σ v q on, Trace C (o :: l) s fps p K σ v q on := by
      intro b0 hw hb h
      obtain ⟨h1, h2⟩ := h
      obtain ⟨v0, hp, q0, hD, hK⟩ := does_of_stepD h2
      obtain ⟨σ, v, q, on, hT⟩ := ih _ _ _ hK
      exact ⟨_, _, _, _, hT.cons hw (by rw [put_put_hp]) (fun _ => ⟨by rw [put_put_hp]; exact hD, clear_of h1⟩) (fun h => by rw [hb] at h; cases h) (fun hp hq => ⟨hp, hq⟩)
        (fun f hf => by split
                        · exact List.mem_cons_of_mem _ hf
                        · exact hf) (fun _ hfp => by rw [if_pos hfp]; exact List.mem_cons_self)⟩
    have sk : ∀ b0, WantA o s b0 → b0 = false → vcDr C l (s.put o.d .undef) fps p K → ∃ σ v q on, Trace C (o :: l) s fps p K σ v q on := by
      intro b0 hw hb h
      obtain ⟨σ, v, q, on, hT⟩ := ih _ _ _ h
      refine ⟨_, _, _, _, hT.cons (v0 := .undef) (q0 := True) hw ?_ (fun h => by rw [hb] at h; cases h) (fun _ => ⟨rfl, put_hp, trivial⟩) (fun hp _ => hp) (fun f hf => hf) (fun h => by rw [hb] at h; cases h)⟩
      rw [put_hp]
    simp only [vcDr] at h
    split at h
    · rename_i hg
      exact go true (by simp [WantA, hg]) rfl h
    · rename_i t want hg
      split at h
      · rename_i b hb
        by_cases hbw : b = want
        · exact go (b == want) (by simp only [WantA, hg]; exact .inl ⟨b, hb, rfl⟩) (by simp [hbw]) (h.1 (by simp [hbw]))
        · exact sk (b == want) (by simp only [WantA, hg]; exact .inl ⟨b, hb, rfl⟩) (by simp [hbw]) (h.2 (by simp [hbw]))
      · rename_i hb
        exact sk false (by unfold WantA; rw [hg]; exact .inr ⟨hb, rfl⟩) rfl h
      · exact h.elim

theorem trOps_get {P : Program} {ops : Array Oper} : ∀ {l : List Oper} {r : List AOper}, trOps P ops l = some r → r.length = l.length ∧ ∀ (j : Nat) ao, r[j]? = some ao → ∃ o, l[j]? = some o ∧ trOper P ops o = some ao := by
  intro l
  induction l with
  | nil => intro r h; simp only [trOps, Option.some.injEq] at h; subst h; simp
  | cons y l ih =>
    intro r h
    simp only [trOps, Option.bind_eq_bind, Option.bind_eq_some_iff, Option.pure_def, Option.some.injEq] at h
    obtain ⟨ay, hay, r', hr, rfl⟩ := h
    obtain ⟨h1, h2⟩ := ih hr
    refine ⟨by simp [h1], fun j ao ha => ?_⟩
    cases j with
    | zero => simp at ha; subst ha; exact ⟨y, by simp, hay⟩
    | succ j => obtain ⟨o, g1, g2⟩ := h2 j ao (by simpa using ha); exact ⟨o, by simpa using g1, g2⟩

theorem annot_get {m : List Nat} {l : List AOper} {j : Nat} {ao : AOper} (h : (annot m l)[j]? = some ao) : ∃ a0, l[j]? = some a0 ∧ ao.op = a0.op ∧ ao.d = a0.d ∧ ao.g = a0.g := by
  simp only [annot, List.getElem?_map, Option.map_eq_some_iff] at h
  obtain ⟨⟨a0, k⟩, h1, rfl⟩ := h
  rw [List.getElem?_zipIdx, Option.map_eq_some_iff] at h1
  obtain ⟨a1, h2, h3⟩ := h1
  cases h3
  exact ⟨a0, h2, rfl, rfl, rfl⟩

theorem looks_operand {ops : Array Oper} {o : Oper} {t : Tmp} (h : Operand.tmp t ∈ o.op.operands) : t ∈ o.looksAt ops :=
  List.mem_append_left _ (List.mem_filterMap.2 ⟨.tmp t, by simpa using h, rfl⟩)
theorem looks_guard {ops : Array Oper} {o : Oper} {j t : Nat} {want : Bool} (h : o.guard = some (j, want)) (ht : (ops[j]?).bind (·.dst) = some t) : t ∈ o.looksAt ops := by
  simp [Oper.looksAt, h, ht]

section
variable {P : Program} {w0 : World} {own : Nat → Prop} {M0 : Mem} {ops : Array Oper} {Q : Exit → Act → World → Prop} {K : St → Prop} {l : List AOper} {s : St} {σ : Nat → St} {v : Nat → SV} {q : Nat → Prop} {on : Nat → Bool}

def fO (σ : Nat → St) (k p : Nat) : Option Ob := (σ k).hp[p]?
def wO (l : List AOper) (σ : Nat → St) (on : Nat → Bool) (k p : Nat) : Bool := on k && (match l[k]? with | some ao => (chgD (σ k) ao.op).contains p | none => false)
def fS (σ : Nat → St) (k t : Nat) : SV := (σ k).sl.getD t .undef
def wS (l : List AOper) (k t : Nat) : Bool := match l[k]? with | some ao => ao.d == some t | none => false

/-- The frame and the world when the operations of L are done. -/
structure Inv (w0 : World) (own : Nat → Prop) (M0 : Mem) (ops : Array Oper) (l : List AOper) (s : St) (σ : Nat → St) (on : Nat → Bool) (q : Nat → Prop) (L : Nat → Bool) (E : Env) (a : Act) (w : World) : Prop where
  down : Down ops L
  wo : W w0 own E w
  hp : ∀ o, E.H o = atL (fO σ) (wO l σ on) L l.length o
  len : s.sl.length = a.tmps.size
  sl : ∀ t, RelV E (a.tmps.getD t undef) (atL (fS σ) (wS l) L l.length t)
  dfr : a.defers = []
  z : E.m0 = M0
  le : M0.le E.m
  q : ∀ i, L i = true → q i

theorem fS_keep (hT : Trace (Contract P) l s [] True K σ v q on) (hn : ∀ k, l.length ≤ k → σ (k + 1) = σ k) : ∀ k t, wS l k t = false → fS σ (k + 1) t = fS σ k t := by
  intro k t h
  unfold fS
  rcases Nat.lt_or_ge k l.length with hk | hk
  · have ha : l[k]? = some l[k] := List.getElem?_eq_getElem hk
    rw [hT.next k _ ha]
    simp only [wS, ha, beq_eq_false_iff_ne, ne_eq] at h
    cases hd : l[k].d with
    | none => rfl
    | some d =>
      rw [hd] at h
      have : d ≠ t := fun e => h (by rw [e])
      simp [St.put, List.getElem?_set, this]
  · rw [hn k hk]

theorem fO_keep (hT : Trace (Contract P) l s [] True K σ v q on) (hn : ∀ k, l.length ≤ k → σ (k + 1) = σ k) : ∀ k p, wO l σ on k p = false → fO σ (k + 1) p = fO σ k p := by
  intro k p h
  unfold fO
  rcases Nat.lt_or_ge k l.length with hk | hk
  · have ha : l[k]? = some l[k] := List.getElem?_eq_getElem hk
    simp only [wO, ha] at h
    cases ho : on k with
    | true =>
      rw [ho] at h
      simp at h
      exact does_frame (hT.does k _ ha ho).1 p h
    | false => rw [(hT.skip k _ ha ho).2.1]
  · rw [hn k hk]

theorem okDraw_pair {i j : Nat} {x y : Oper} {a b : AOper} (h : okDraw ops l = true) (hij : i < j) (hx : ops[i]? = some x) (hy : ops[j]? = some y) (ha : l[i]? = some a) (hb : l[j]? = some b) :
    ((msks ops.toList []).getD j 0).testBit i = true ∨ (Oper.apart ops x y = true ∧ (fineS a.op b.op = true ∨ (a.fp = true ∧ a.id = i ∧ i ∈ b.chk))) := by
  simp only [okDraw, Bool.and_eq_true, List.all_eq_true, List.mem_range] at h
  have hj : j < l.length := by
    rcases Nat.lt_or_ge j l.length with h | h
    · exact h
    · rw [List.getElem?_eq_none h] at hb; cases hb
  have := h.2 j hj i hij
  simp only [hx, hy, ha, hb, Bool.or_eq_true, Bool.and_eq_true, beq_iff_eq, List.contains_eq_mem, decide_eq_true_eq] at this
  rcases this with h | ⟨h1, h2 | ⟨⟨h2, h3⟩, h4⟩⟩
  · exact .inl h
  · exact .inr ⟨h1, .inl h2⟩
  · exact .inr ⟨h1, .inr ⟨h2, h3, h4⟩⟩

theorem okDraw_len (h : okDraw ops l = true) : l.length = ops.size := by
  simp only [okDraw, Bool.and_eq_true, beq_iff_eq] at h
  exact h.1.1

theorem okDraw_edge {i : Nat} {o : Oper} {e : Edge} (h : okDraw ops l = true) (ho : ops[i]? = some o) (he : e ∈ o.after) (hb : Region.binds .any e = true) : e.on < i := by
  simp only [okDraw, Bool.and_eq_true, List.all_eq_true] at h
  have := h.1.2 (o, i) (by
    rw [List.mem_iff_getElem?]
    exact ⟨i, by rw [List.getElem?_zipIdx]; simp [ho]⟩) e (by simpa using he)
  simpa [hb] using this

/-- What stands ahead of one that is ready is done; what stands behind one that is not done is not. -/
theorem ahead_done {L : Nat → Bool} {i j : Nat} {o : Oper} (hd : Down ops L) (ho : ops[i]? = some o) (hi : ∀ e ∈ o.after, Region.binds .any e = true → L e.on = true) (hij : j ≠ i) (hb : ((msks ops.toList []).getD i 0).testBit j = true) : L j = true := by
  let L' : Nat → Bool := fun k => L k || k == i
  have hd' : Down ops L' := by
    intro k o' ho' hk e he hbn
    by_cases hki : k = i
    · subst hki
      rw [ho] at ho'; cases ho'
      simp [L', hi e he hbn]
    · have : L k = true := by simpa [L', hki] using hk
      simp [L', hd k o' ho' this e he hbn]
  have := msks_spec hd' ops.toList [] (fun j o hj => by simpa using hj) (fun k i h => by simp at h) i j hb (by simp [L'])
  simpa [L', hij] using this

theorem behind_not {L : Nat → Bool} {i k : Nat} (hd : Down ops L) (hi : L i = false) (hb : ((msks ops.toList []).getD k 0).testBit i = true) : L k = false := by
  cases hk : L k with
  | false => rfl
  | true =>
    have := msks_spec hd ops.toList [] (fun j o hj => by simpa using hj) (fun k i h => by simp at h) k i hb hk
    rw [hi] at this; cases this

/-- What an operation finds, and what its step leaves, where its elders are done and its followers are not. -/
structure Place (l : List AOper) (σ : Nat → St) (on : Nat → Bool) (L : Nat → Bool) (i : Nat) (o : Oper) (ao : AOper) (ops : Array Oper) : Prop where
  slotR : ∀ t, t ∈ o.looksAt ops → atL (fS σ) (wS l) L l.length t = (σ i).sl.getD t .undef
  slotW : ∀ t, ao.d = some t → ∀ k, i < k → k < l.length → wS l k t = true → L k = false
  obR : on i = true → ∀ p, p ∈ touchD (σ i) ao.op → atL (fO σ) (wO l σ on) L l.length p = (σ i).hp[p]?
  obW : on i = true → ∀ p, p ∈ chgD (σ i) ao.op → ∀ k, i < k → k < l.length → wO l σ on k p = true → L k = false

theorem chg_touch {s : St} {op : AOp} {p : Nat} (h : p ∈ chgD s op) : p ∈ touchD s op := by
  unfold chgD at h
  split at h
  · cases h
  · exact h

theorem place_of {L : Nat → Bool} {i : Nat} {o : Oper} {ao : AOper} (hok : okDraw ops l = true) (hT : Trace (Contract P) l s [] True K σ v q on) (hn : ∀ k, l.length ≤ k → σ (k + 1) = σ k) (hdst : ∀ (k : Nat) a o, l[k]? = some a → ops[k]? = some o → o.dst = a.d)
    (hd : Down ops L) (hL : L i = false) (ho : ops[i]? = some o) (ha : l[i]? = some ao) (hr : ∀ e ∈ o.after, Region.binds .any e = true → L e.on = true) : Place l σ on L i o ao ops := by
  have hlen := okDraw_len hok
  have hi : i < l.length := by
    rcases Nat.lt_or_ge i l.length with h | h
    · exact h
    · rw [List.getElem?_eq_none h] at ha; cases ha
  have getk : ∀ k, k < l.length → ∃ a x, l[k]? = some a ∧ ops[k]? = some x := fun k hk => ⟨l[k], ops[k]'(by omega), List.getElem?_eq_getElem hk, Array.getElem?_eq_getElem (by omega)⟩
  -- an elder that writes a place it sees is done, a follower is not
  have slots1 : ∀ t, t ∈ o.looksAt ops → ∀ j, j < i → wS l j t = true → L j = true := by
    intro t ht j hj hw
    obtain ⟨a, x, h1, h2⟩ := getk j (by omega)
    simp only [wS, h1, beq_iff_eq] at hw
    rcases okDraw_pair hok hj h2 ho h1 ha with hb | ⟨hap, _⟩
    · exact ahead_done hd ho hr (by omega) hb
    · exact absurd ht ((Oper.apart_spec hap).1 t (by rw [hdst j a x h1 h2]; exact hw))
  have slots2 : ∀ t, t ∈ o.looksAt ops → ∀ k, i ≤ k → k < l.length → wS l k t = true → L k = false := by
    intro t ht k hk hkl hw
    by_cases hki : k = i
    · subst hki; exact hL
    obtain ⟨a, x, h1, h2⟩ := getk k hkl
    simp only [wS, h1, beq_iff_eq] at hw
    rcases okDraw_pair hok (show i < k by omega) ho h2 ha h1 with hb | ⟨hap, _⟩
    · exact behind_not hd hL hb
    · exact absurd ht ((Oper.apart_spec hap).2.2 t (by rw [hdst k a x h1 h2]; exact hw))
  have far1 : on i = true → ∀ p, p ∈ touchD (σ i) ao.op → ∀ j, j < i → wO l σ on j p = true → L j = true := by
    intro hon p hp j hj hw
    obtain ⟨a, x, h1, h2⟩ := getk j (by omega)
    simp only [wO, h1, Bool.and_eq_true, List.contains_eq_mem, decide_eq_true_eq] at hw
    rcases okDraw_pair hok hj h2 ho h1 ha with hb | ⟨_, hf | ⟨f1, f2, f3⟩⟩
    · exact ahead_done hd ho hr (by omega) hb
    · exfalso
      simp only [fineS, Bool.or_eq_true, Bool.not_eq_true', Bool.and_eq_true] at hf
      rcases hf with (h | h) | h
      · have := chg_touch hw.2; rw [touchD_none h] at this; cases this
      · rw [touchD_none h] at hp; cases hp
      · have := hw.2; simp [chgD, h.1] at this
    · exact absurd hp ((hT.apart j i a ao hj h1 ha hw.1 hon f1 (by rw [f2]; exact f3)).1 p hw.2)
  have far2 : on i = true → ∀ p, p ∈ touchD (σ i) ao.op → ∀ k, i < k → k < l.length → wO l σ on k p = true → L k = false := by
    intro hon p hp k hk hkl hw
    obtain ⟨a, x, h1, h2⟩ := getk k hkl
    simp only [wO, h1, Bool.and_eq_true, List.contains_eq_mem, decide_eq_true_eq] at hw
    rcases okDraw_pair hok hk ho h2 ha h1 with hb | ⟨_, hf | ⟨f1, f2, f3⟩⟩
    · exact behind_not hd hL hb
    · exfalso
      simp only [fineS, Bool.or_eq_true, Bool.not_eq_true', Bool.and_eq_true] at hf
      rcases hf with (h | h) | h
      · rw [touchD_none h] at hp; cases hp
      · have := chg_touch hw.2; rw [touchD_none h] at this; cases this
      · have := hw.2; simp [chgD, h.2] at this
    · exact absurd hw.2 ((hT.apart i k ao a hk ha h1 hon hw.1 f1 (by rw [f2]; exact f3)).2 p hp)
  refine ⟨fun t ht => ?_, fun t ht k hk hkl hw => ?_, fun hon p hp => ?_, fun hon p hp => far2 hon p (chg_touch hp)⟩
  · exact atL_read (fS_keep hT hn) (slots1 t ht) (Nat.le_of_lt hi) (slots2 t ht)
  · obtain ⟨a, x, h1, h2⟩ := getk k hkl
    simp only [wS, h1, beq_iff_eq] at hw
    rcases okDraw_pair hok hk ho h2 ha h1 with hb | ⟨hap, _⟩
    · exact behind_not hd hL hb
    · exact absurd (by rw [hdst k a x h1 h2]; exact hw) ((Oper.apart_spec hap).2.1 t (by rw [hdst i ao o ha ho]; exact ht))
  · exact atL_read (fO_keep hT hn) (far1 hon p hp) (Nat.le_of_lt hi) (fun k hk hkl hw => by
      by_cases hki : k = i
      · subst hki; exact hL
      · exact far2 hon p hp k (by omega) hkl hw)

theorem sl_len (hT : Trace (Contract P) l s [] True K σ v q on) (hn : ∀ k, l.length ≤ k → σ (k + 1) = σ k) : ∀ k, (σ k).sl.length = s.sl.length := by
  intro k
  induction k with
  | zero => rw [hT.zero]
  | succ k ih =>
    rcases Nat.lt_or_ge k l.length with hk | hk
    · rw [hT.next k _ (List.getElem?_eq_getElem hk)]
      cases (l[k]).d <;> simp [St.put, ih]
    · rw [hn k hk, ih]

theorem set_L (listed : Array Bool) (i : Nat) (hi : i < listed.size) (k : Nat) : (listed.setIfInBounds i true).getD k false = (listed.getD k false || k == i) := by
  by_cases h : k = i
  · subst h; simp [hi]
  · rw [getD_set_ne false (Ne.symm h)]; simp [h]

/-- One more operation is done. -/
theorem Inv.step {L L' : Nat → Bool} {E E' : Env} {a : Act} {w w' : World} {i : Nat} {o : Oper} {ao : AOper} {u : Value} (hT : Trace (Contract P) l s [] True K σ v q on) (hn : ∀ k, l.length ≤ k → σ (k + 1) = σ k) (hI : Inv w0 own M0 ops l s σ on q L E a w) (hp : Place l σ on L i o ao ops)
    (ha : l[i]? = some ao) (ho : ops[i]? = some o) (hr : ∀ e ∈ o.after, Region.binds .any e = true → L e.on = true) (hL : L i = false) (hL' : ∀ k, L' k = (L k || k == i)) (hv : RelV E' u (v i))
    (st : Step (fun p => on i = true ∧ p ∈ touchD (σ i) ao.op) w0 own E E' w' (σ (i + 1)).hp) (hq : q i) : Inv w0 own M0 ops l s σ on q L' E' (a.put ao.d u) w' := by
  have hi : i < l.length := by
    rcases Nat.lt_or_ge i l.length with h | h
    · exact h
    · rw [List.getElem?_eq_none h] at ha; cases ha
  have hLi : L' i = true := by simp [hL']
  have hLk : ∀ k, k ≠ i → L' k = L k := fun k hk => by simp [hL', hk]
  have late : ∀ {wr : Nat → Bool}, (∀ k, i < k → k < l.length → wr k = true → L k = false) → ∀ k, i < k → k < l.length → wr k = true → L' k = false := fun h k h1 h2 h3 => by
    rw [hLk k (by omega)]; exact h k h1 h2 h3
  refine ⟨fun j o' ho' hj e he hb => ?_, st.wo, fun p => ?_, ?_, fun t => ?_, ?_, st.ext.z.trans hI.z, fun b j v hv => st.ext.m b j v (hI.le b j v hv), fun j hj => ?_⟩
  · by_cases hji : j = i
    · subst hji; rw [ho] at ho'; cases ho'; rw [hL', hr e he hb]; rfl
    · rw [hL', hI.down j o' ho' (by rw [← hLk j hji]; exact hj) e he hb]; rfl
  · by_cases hw : wO l σ on i p = true
    · have hw2 := hw
      simp only [wO, ha, Bool.and_eq_true, List.contains_eq_mem, decide_eq_true_eq] at hw2
      rw [atL_write hLi hw hi (late (hp.obW hw2.1 p hw2.2))]
      exact st.on p ⟨hw2.1, chg_touch hw2.2⟩
    · have hwf : wO l σ on i p = false := by simpa using hw
      rw [atL_keep hLk hwf]
      by_cases hU : on i = true ∧ p ∈ touchD (σ i) ao.op
      · rw [st.on p hU, hp.obR hU.1 p hU.2]
        exact fO_keep hT hn i p hwf
      · rw [st.off p hU]; exact hI.hp p
  · cases ao.d <;> simp [Act.put, hI.len]
  · by_cases hw : wS l i t = true
    · have hw2 := hw
      simp only [wS, ha, beq_iff_eq] at hw2
      rw [atL_write hLi hw hi (late (hp.slotW t hw2))]
      have hnx : (fS σ (i + 1) t) = (({ σ i with hp := (σ (i + 1)).hp } : St).put ao.d (v i)).sl.getD t .undef := by
        unfold fS; rw [← hT.next i ao ha]
      rw [hnx, hw2]
      have hl1 := sl_len hT hn i
      have hl2 := hI.len
      rcases Nat.lt_or_ge t a.tmps.size with hlt | hge
      · simpa [Act.put, St.put, Array.getElem?_setIfInBounds, List.getElem?_set, hlt, show t < (σ i).sl.length by omega] using hv
      · have h1 : (a.put (some t) u).tmps.getD t undef = undef := by simp [Act.put, Array.getElem?_setIfInBounds, show ¬ t < a.tmps.size by omega]
        have h2 : (({ σ i with hp := (σ (i + 1)).hp } : St).put (some t) (v i)).sl.getD t .undef = .undef := by
          rw [List.getD_eq_getElem?_getD, List.getElem?_eq_none]
          · rfl
          · simp [St.put]; omega
        rw [h1, h2]
        exact .undef
    · have hwf : wS l i t = false := by simpa using hw
      rw [atL_keep hLk hwf]
      have hne : ao.d ≠ some t := by simpa [wS, ha] using hwf
      have h1 := (hI.sl t).mono st.ext
      cases hdd : ao.d with
      | none => exact h1
      | some d =>
        have : d ≠ t := fun e => hne (by rw [hdd, e])
        simpa [Act.put, Array.getElem?_setIfInBounds, this] using h1
  · rw [put_dfr]; exact hI.dfr
  · by_cases hji : j = i
    · subst hji; exact hq
    · exact hI.q j (by rw [← hLk j hji]; exact hj)

theorem countP_less {p p' : Nat → Bool} {i : Nat} (h : ∀ k, p' k = true → p k = true) : ∀ {l : List Nat}, i ∈ l → p i = true → p' i = false → l.countP p' < l.countP p := by
  intro l
  induction l with
  | nil => intro hi; cases hi
  | cons x l ih =>
    intro hi h1 h2
    rw [List.countP_cons, List.countP_cons]
    have hle : l.countP p' ≤ l.countP p := List.countP_mono_left (fun k _ hk => h k hk)
    rcases List.mem_cons.1 hi with rfl | hi
    · simp [h1, h2]; omega
    · have := ih hi h1 h2
      cases hx : p' x with
      | true => simp [h x hx]; omega
      | false => simp; omega

/-- The drawn region, from a set of operations that are done. -/
theorem any_sound (hok : okDraw ops l = true) (hT : Trace (Contract P) l s [] True K σ v q on) (hn : ∀ k, l.length ≤ k → σ (k + 1) = σ k) (hops : ∀ (k : Nat) a, l[k]? = some a → ∃ o a0, ops[k]? = some o ∧ trOper P ops o = some a0 ∧ a.op = a0.op ∧ a.d = a0.d ∧ a.g = a0.g)
    (hK : ∀ E s a w, SR w0 own M0 E s a w → K s → Q .normal a w) : ∀ (fuel : Nat) (listed : Array Bool) (E : Env) (a : Act) (w : World), listed.size = ops.size → (List.range ops.size).countP (fun k => !listed.getD k false) ≤ fuel →
      Inv w0 own M0 ops l s σ on q (fun k => listed.getD k false) E a w → wpAny P .any ops Q fuel listed a w := by
  have hlen := okDraw_len hok
  have hdst : ∀ (k : Nat) a o, l[k]? = some a → ops[k]? = some o → o.dst = a.d := by
    intro k a o h1 h2
    obtain ⟨o', a0, g1, g2, g3, g4, g5⟩ := hops k a h1
    rw [h2] at g1; cases g1
    rw [g4]; exact (guard_of g2).2.1
  -- all are done where none is ready
  have alldone : ∀ (listed : Array Bool), listed.size = ops.size → Region.ready .any ops listed = [] → ∀ k, k < ops.size → listed.getD k false = true := by
    intro listed hsz hr k
    induction k using Nat.strongRecOn with
    | _ k ih =>
      intro hk
      cases hl : listed.getD k false with
      | true => rfl
      | false =>
        exfalso
        have ho : ops[k]? = some ops[k] := Array.getElem?_eq_getElem hk
        have : k ∈ Region.ready .any ops listed := mem_ready.2 ⟨by simpa [hsz, hk] using hl, _, ho, fun e he hb => by
          have := okDraw_edge hok ho he hb
          exact ih e.on this (by omega)⟩
        rw [hr] at this; cases this
  have final : ∀ (listed : Array Bool) (E : Env) (a : Act) (w : World), listed.size = ops.size → Region.ready .any ops listed = [] → Inv w0 own M0 ops l s σ on q (fun k => listed.getD k false) E a w → Q .normal a w := by
    intro listed E a w hsz hr hI
    have hall := alldone listed hsz hr
    refine hK E (σ l.length) a w ⟨hI.wo, fun p => ?_, ?_, fun t => ?_, hI.dfr, hI.z, hI.le⟩ (hT.fin trivial (fun i hi => hI.q i (hall i (by omega))))
    · rw [hI.hp p, atL_all (fO_keep hT hn) (fun j hj _ => hall j (by omega))]; rfl
    · rw [sl_len hT hn]; exact hI.len
    · have := hI.sl t
      rw [atL_all (fS_keep hT hn) (fun j hj _ => hall j (by omega))] at this
      exact this
  intro fuel
  induction fuel with
  | zero =>
    intro listed E a w hsz hc hI
    have hr : Region.ready .any ops listed = [] := by
      rw [List.eq_nil_iff_forall_not_mem]
      intro k hk
      obtain ⟨h1, o, ho, _⟩ := mem_ready.1 hk
      have hk2 : k < ops.size := (Array.getElem?_eq_some_iff.1 ho).1
      have : 0 < (List.range ops.size).countP (fun k => !listed.getD k false) := List.countP_pos_iff.2 ⟨k, List.mem_range.2 hk2, by
        have h3 : k < listed.size := by omega
        simp [h3] at h1 ⊢; exact h1⟩
      omega
    exact ⟨hr, final listed E a w hsz hr hI⟩
  | succ fuel ih =>
    intro listed E a w hsz hc hI
    refine ⟨fun hr => final listed E a w hsz hr hI, fun i hi => ?_⟩
    obtain ⟨h1, o, ho, hpre⟩ := mem_ready.1 hi
    have hi2 : i < ops.size := (Array.getElem?_eq_some_iff.1 ho).1
    have hiL : listed.getD i false = false := by
      have h3 : i < listed.size := by omega
      simp [h3] at h1 ⊢; exact h1
    have ha : l[i]? = some l[i] := List.getElem?_eq_getElem (by omega)
    obtain ⟨o', a0, g1, g2, g3, g4, g5⟩ := hops i _ ha
    rw [ho] at g1; cases g1
    obtain ⟨tr, hd, hg⟩ := guard_of g2
    rw [← g3] at tr
    rw [← g4] at hd
    have hP := place_of hok hT hn hdst hI.down hiL ho ha hpre
    have hset : ∀ k, (listed.setIfInBounds i true).getD k false = (listed.getD k false || k == i) := set_L listed i (by omega)
    have hcnt : (List.range ops.size).countP (fun k => !(listed.setIfInBounds i true).getD k false) ≤ fuel := by
      have : (List.range ops.size).countP (fun k => !(listed.setIfInBounds i true).getD k false) < (List.range ops.size).countP (fun k => !listed.getD k false) := by
        refine countP_less (fun k hk => ?_) (List.mem_range.2 hi2) (by rw [hiL]; rfl) (by rw [hset]; simp)
        rw [hset] at hk
        simp only [Bool.not_or, Bool.and_eq_true] at hk
        exact hk.1
      omega
    have cont : ∀ (E' : Env) (u : Value) (w' : World), RelV E' u (v i) → Step (fun p => on i = true ∧ p ∈ touchD (σ i) (l[i]'(by omega)).op) w0 own E E' w' (σ (i + 1)).hp → q i → wpAny P .any ops Q fuel (listed.setIfInBounds i true) (a.put o.dst u) w' := by
      intro E' u w' hv st hq
      rw [hd]
      exact ih _ E' _ w' (by simp [hsz]) hcnt (hI.step hT hn hP ha ho hpre hiL hset hv st hq)
    unfold wpOp
    simp only [ho]
    have hslot : ∀ t, t ∈ o.looksAt ops → RelV E (a.tmps.getD t undef) ((σ i).sl.getD t .undef) := fun t ht => by
      have := hI.sl t
      rwa [hP.slotR t ht] at this
    have hwant : Region.wanted o (yielded ops a.tmps) = on i := by
      have hW := hT.want i _ ha
      rcases hg with ⟨hg1, hg2⟩ | ⟨j, want, t, hg1, hg2, hg3⟩
      · rw [wanted_none hg1]
        simp only [WantA, g5, hg2] at hW
        exact hW.symm
      · have hst := hslot t (looks_guard hg1 hg2)
        simp only [WantA, g5, hg3] at hW
        rcases hW with ⟨c, h1, h2⟩ | ⟨h1, h2⟩
        · rw [h1] at hst
          rw [wanted_bool hg1 hg2 hst, h2]
        · rw [h1] at hst
          rw [wanted_undef hg1 hg2 hst, h2]
    rw [hwant]
    cases hon : on i with
    | false =>
      simp only [Bool.false_eq_true, if_false]
      obtain ⟨e1, e2, e3⟩ := hT.skip i _ ha hon
      refine cont E undef w (by rw [e1]; exact .undef) ⟨Ext.refl E, hI.wo, fun p hp => ?_, fun _ _ => rfl⟩ e3
      rw [hon] at hp; cases hp.1
    | true =>
      simp only [if_true]
      obtain ⟨hD, _⟩ := hT.does i _ ha hon
      refine .inl (does_wp (U := fun p => on i = true ∧ p ∈ touchD (σ i) (l[i]'(by omega)).op) tr hD hI.wo (fun p hp => by rw [hI.hp p, hP.obR hp.1 p hp.2]) (fun hc => ⟨hon, by simp [touchD, hc]⟩) (fun p hp => ⟨hon, by simp [touchD, hp]⟩) (fun x hx ax hax => ?_) _ _
        (fun u w' E' hv st hq => cont E' u w' hv st hq))
      cases x with
      | tmp t => simp only [trX, Option.some.injEq] at hax; subst hax; exact hslot t (looks_operand hx)
      | const c =>
        simp only [trX, Option.map_eq_some_iff] at hax
        obtain ⟨sv, hsv, rfl⟩ := hax
        exact .rep _ _ (rep_const hsv).1
      | func f => simp only [trX, Option.some.injEq] at hax; subst hax; exact .rep _ _ (.fn f)
      | _ => simp [trX] at hax

/-- A DRAWN REGION. -/
theorem draw_sound {E : Env} {a : Act} {w : World} {l0 : List AOper} {id : Nat} (hm : P.follows .mixedOrders = true) (htr : trOps P ops ops.toList = some l0) (hl : l = annot (msks ops.toList []) l0) (hok : okDraw ops l = true)
    (hK : ∀ E s a w, SR w0 own M0 E s a w → K s → Q .normal a w) (hS : SR w0 own M0 E s a w) (h : vcDr (Contract P) l s [] True K) : (Code.region id ops true).wp P Q a w := by
  obtain ⟨σ0, v, q, on, hT0⟩ := trace_of l s [] True h
  -- the trace, standing still past its end
  let σ : Nat → St := fun k => σ0 (min k l.length)
  have hσ : ∀ k, k ≤ l.length → σ k = σ0 k := fun k hk => by simp only [σ]; rw [Nat.min_eq_left hk]
  have lt_of : ∀ {i : Nat} {ao : AOper}, l[i]? = some ao → i < l.length := fun {i ao} h => by
    rcases Nat.lt_or_ge i l.length with h1 | h1
    · exact h1
    · rw [List.getElem?_eq_none h1] at h; cases h
  have hT : Trace (Contract P) l s [] True K σ v q on := by
    refine ⟨by rw [hσ 0 (Nat.zero_le _)]; exact hT0.zero, fun i ao ha => ?_, fun i ao ha => ?_, fun i ao ha ho => ?_, fun i ao ha ho => ?_, fun i j a b hij ha hb => ?_, fun _ hq => by rw [hσ _ (Nat.le_refl _)]; exact hT0.fin trivial hq⟩
    · rw [hσ i (by have := lt_of ha; omega)]; exact hT0.want i ao ha
    · rw [hσ i (by have := lt_of ha; omega), hσ (i + 1) (lt_of ha)]; exact hT0.next i ao ha
    · rw [hσ i (by have := lt_of ha; omega), hσ (i + 1) (lt_of ha)]; exact hT0.does i ao ha ho
    · rw [hσ i (by have := lt_of ha; omega), hσ (i + 1) (lt_of ha)]; exact hT0.skip i ao ha ho
    · rw [hσ i (by have := lt_of ha; omega), hσ j (by have := lt_of hb; omega)]; exact hT0.apart i j a b hij ha hb
  have hn : ∀ k, l.length ≤ k → σ (k + 1) = σ k := fun k hk => by simp only [σ]; rw [Nat.min_eq_right hk, Nat.min_eq_right (by omega)]
  have hops : ∀ (k : Nat) a, l[k]? = some a → ∃ o a0, ops[k]? = some o ∧ trOper P ops o = some a0 ∧ a.op = a0.op ∧ a.d = a0.d ∧ a.g = a0.g := by
    intro k a ha
    rw [hl] at ha
    obtain ⟨a0, h1, h2, h3, h4⟩ := annot_get ha
    obtain ⟨o, g1, g2⟩ := (trOps_get htr).2 k a0 h1
    exact ⟨o, a0, by simpa using g1, g2, h2, h3, h4⟩
  refine wp_region_any hm (any_sound hok hT hn hops hK ops.size (Array.replicate ops.size false) E a _ (by simp) (Nat.le_trans (List.countP_le_length) (by simp)) ?_)
  have hnone : ∀ k, (Array.replicate ops.size false).getD k false = false := fun k => by
    rcases Nat.lt_or_ge k ops.size with h | h <;> simp [h]
  refine ⟨fun j o _ hj => ?_, hS.wo.drew, fun p => ?_, hS.len, fun t => ?_, hS.dfr, hS.z, hS.le, fun i hi => ?_⟩
  · rw [hnone j] at hj; cases hj
  · rw [atL_none hnone, hS.hp p]; simp only [fO, hT.zero]
  · rw [atL_none hnone]; simp only [fS, hT.zero]; exact hS.sl t
  · rw [hnone i] at hi; cases hi
end
end Go.Proofs.Ytadmdmhocglkfaa.Abs
