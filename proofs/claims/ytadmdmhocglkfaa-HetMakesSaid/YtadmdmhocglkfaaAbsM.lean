/- From the row's reading of an argument ('DataW.trod') to the closed abstract value that stands for it. -/
import Derived.Test.YtadmdmhocglkfaaAbsL
import Derived.Carry
import Derived.SizedLaws
set_option linter.unusedSimpArgs false
set_option linter.unusedVariables false
namespace Go.Proofs.Ytadmdmhocglkfaa.Abs
open Go Go.RowKit

/-- All that lies in the world. -/
def memOf (w : World) : Mem := fun b j => w.cell? ⟨b, j, none⟩

/-- Cells of a type. -/
inductive TySV (P : Program) : TypeId → List SV → Prop
  | bool (t : TypeId) (b : Bool) : P.underlying t = some .bool → TySV P t [.bool b]
  | int (t : TypeId) (k : IntKind) (n : Int) : P.underlying t = some (.int k) → (Lit.int k n).wf = true → TySV P t [.int k n]
  | float (t : TypeId) (k : FloatKind) (b : Nat) : P.underlying t = some (.float k) → (Lit.float k b).wf = true → TySV P t [.float k b]
  | str (t : TypeId) (s : ByteArray) : P.underlying t = some .string → s.size ≤ reachBytes → TySV P t [.str s]
  | slice (t e : TypeId) (l : List (List SV)) : P.underlying t = some (.slice e) → l.length * P.bytesOf e ≤ reachBytes → (∀ r ∈ l, TySV P e r) → TySV P t [.dsl (P.cellsOf e) l]
  | struct (t : TypeId) (fs : Array Field) (parts : List (List SV)) : P.underlying t = some (.struct fs) → parts.length = fs.toList.length → (∀ (i : Nat) (f : Field) (p : List SV), fs.toList[i]? = some f → parts[i]? = some p → TySV P f.type p) → TySV P t parts.flatten

def tiled (P : Program) : List Field → Nat → Nat → Bool
  | [], o, n => o == n
  | f :: fs, o, n => f.offset == o && tiled P fs (o + P.cellsOf f.type) n

/-- A row of types, closed under what they are made of: no pointer, no map, no interface. -/
def flatS (P : Program) (S : List TypeId) : Bool :=
  S.all fun t => match P.underlying t with
    | some .bool => true
    | some (.int _) => true
    | some (.float _) => true
    | some .string => true
    | some (.slice e) => S.contains e && decide (0 < P.cellsOf e) && decide (0 < P.bytesOf e)
    | some (.struct fs) => (fs.toList.all fun f => S.contains f.type) && tiled P fs.toList 0 (P.cellsOf t)
    | _ => false

theorem choose_list {X : Type} {p : Nat → X → Prop} : ∀ {n : Nat}, (∀ i, i < n → ∃ x, p i x) → ∃ l : List X, l.length = n ∧ ∀ (i : Nat) x, l[i]? = some x → p i x := by
  intro n
  induction n with
  | zero => intro _; exact ⟨[], rfl, by simp⟩
  | succ n ih =>
    intro h
    obtain ⟨l, h1, h2⟩ := ih (fun i hi => h i (Nat.lt_succ_of_lt hi))
    obtain ⟨x, hx⟩ := h n (Nat.lt_succ_self n)
    refine ⟨l ++ [x], by simp [h1], fun i y hy => ?_⟩
    rcases Nat.lt_or_ge i l.length with hi | hi
    · rw [List.getElem?_append_left hi] at hy; exact h2 i y hy
    · rw [List.getElem?_append_right hi] at hy
      have : i = n := by
        rcases Nat.lt_or_ge (i - l.length) 1 with h | h
        · omega
        · rw [List.getElem?_eq_none (by simpa using h)] at hy; cases hy
      subst this
      have : i - l.length = 0 := by omega
      rw [this] at hy
      simp at hy; subst hy; exact hx

theorem mapM_get {α β : Type} {f : α → Option β} : ∀ {l : List α} {l' : List β}, l.mapM f = some l' → l'.length = l.length ∧ ∀ (i : Nat) (a : α), l[i]? = some a → ∃ b, l'[i]? = some b ∧ f a = some b := by
  intro l
  induction l with
  | nil => intro l' h; simp at h; subst h; simp
  | cons a l ih =>
    intro l' h
    rw [List.mapM_cons] at h
    simp only [Option.bind_eq_bind, Option.bind_eq_some_iff, Option.pure_def, Option.some.injEq] at h
    obtain ⟨b, hb, r, hr, rfl⟩ := h
    obtain ⟨h1, h2⟩ := ih hr
    refine ⟨by simp [h1], fun i x hx => ?_⟩
    cases i with
    | zero => simp at hx; subst hx; exact ⟨b, by simp, hb⟩
    | succ i => obtain ⟨y, g1, g2⟩ := h2 i x (by simpa using hx); exact ⟨y, by simpa using g1, g2⟩

theorem cells_get {w : World} {base : Nat} {a : Addr} {n : Nat} {cs : List Value} (h : w.cells? base a n = some cs) : cs.length = n ∧ ∀ i, i < n → ∃ v, cs[i]? = some v ∧ w.cell? (a.add i) = some v := by
  unfold World.cells? at h
  split at h
  · obtain ⟨h1, h2⟩ := mapM_get h
    refine ⟨by simpa using h1, fun i hi => ?_⟩
    exact h2 i i (by simp [hi])
  · cases h

theorem tiled_flat {P : Program} {cs : List Value} : ∀ {fs : List Field} {o : Nat} {parts : List (List SV)}, tiled P fs o cs.length = true → parts.length = fs.length →
    (∀ (i : Nat) (f : Field) (p : List SV), fs[i]? = some f → parts[i]? = some p → p.length = P.cellsOf f.type) → parts.flatten.length = cs.length - o ∧ o ≤ cs.length ∧
    ∀ (R : Value → SV → Prop), (∀ (i : Nat) (f : Field) (p : List SV), fs[i]? = some f → parts[i]? = some p → ∀ (j : Nat) v x, ((cs.drop f.offset).take (P.cellsOf f.type))[j]? = some v → p[j]? = some x → R v x) →
      ∀ (j : Nat) v x, (cs.drop o)[j]? = some v → parts.flatten[j]? = some x → R v x := by
  intro fs
  induction fs with
  | nil =>
    intro o parts ht hl _
    simp only [tiled, beq_iff_eq] at ht
    have : parts = [] := List.length_eq_zero_iff.1 (by simpa using hl)
    subst this
    exact ⟨by simp [ht], by omega, fun R _ j v x _ hx => by simp at hx⟩
  | cons f fs ih =>
    intro o parts ht hl hlen
    simp only [tiled, Bool.and_eq_true, beq_iff_eq] at ht
    obtain ⟨ho, ht⟩ := ht
    cases parts with
    | nil => simp at hl
    | cons p parts =>
      obtain ⟨h1, h2, h3⟩ := ih ht (by simpa using hl) (fun i g q hg hq => hlen (i + 1) g q (by simpa using hg) (by simpa using hq))
      have hp := hlen 0 f p rfl rfl
      refine ⟨by simp only [List.flatten_cons, List.length_append]; omega, by omega, fun R hR j v x hv hx => ?_⟩
      rw [List.flatten_cons] at hx
      rcases Nat.lt_or_ge j p.length with hj | hj
      · rw [List.getElem?_append_left hj] at hx
        refine hR 0 f p rfl rfl j v x ?_ hx
        rw [List.getElem?_take, if_pos (by omega), ho]
        exact hv
      · rw [List.getElem?_append_right hj] at hx
        refine h3 R (fun i g q hg hq => hR (i + 1) g q (by simpa using hg) (by simpa using hq)) (j - p.length) v x ?_ hx
        rw [List.getElem?_drop] at hv ⊢
        rw [show o + P.cellsOf f.type + (j - p.length) = o + j by omega]
        exact hv

section
variable {H : Type} {enc : TypeId × Value → H} {P : Program} {w : World} {base : Nat} {sp : Nat → Bool} {held : Bool}

theorem weightsAll_mem {e : TypeId} {n : Nat} {d : DataW H} : ∀ {ds : List (DataW H)}, d ∈ ds → n ∈ d.weights P e → n ∈ DataW.weightsAll P e ds := by
  intro ds
  induction ds with
  | nil => intro h; cases h
  | cons x ds ih =>
    intro h hn
    simp only [DataW.weightsAll, List.mem_append]
    rcases List.mem_cons.1 h with rfl | h
    · exact .inl hn
    · exact .inr (ih h hn)

theorem trod_rep {S : List TypeId} (hS : flatS P S = true) : ∀ (fuel : Nat) (t : TypeId) (cs : List Value) (x : DataW H × List MemPlace), t ∈ S → (∀ n ∈ x.1.weights P t, n ≤ reachBytes) → DataW.trod enc P w base sp held fuel t cs = some x →
    ∃ svs, TySV P t svs ∧ svs.length = cs.length ∧ (∀ v ∈ cs, v.oneCell' = true) ∧ ∀ (j : Nat) v y, cs[j]? = some v → svs[j]? = some y → Rep (memOf w) v y := by
  intro fuel
  induction fuel with
  | zero => intro t cs x _ _ h; simp [DataW.trod] at h
  | succ fuel ih =>
    intro t cs x ht hwt h
    have hT := hS
    simp only [flatS, List.all_eq_true] at hT
    have hT := hT t ht
    have one : ∀ (v : Value) (y : SV), cs = [v] → v.oneCell' = true → TySV P t [y] → Rep (memOf w) v y → ∃ svs, TySV P t svs ∧ svs.length = cs.length ∧ (∀ v ∈ cs, v.oneCell' = true) ∧ ∀ (j : Nat) v y, cs[j]? = some v → svs[j]? = some y → Rep (memOf w) v y := by
      intro v y hc ho hty hr
      subst hc
      refine ⟨[y], hty, rfl, fun u hu => by simp at hu; subst hu; exact ho, fun j u z hu hz => ?_⟩
      cases j with
      | zero => simp at hu hz; subst hu; subst hz; exact hr
      | succ j => simp at hu
    have single : (∀ d, P.underlying t = some d → (d = .bool ∨ (∃ k, d = .int k) ∨ (∃ k, d = .float k) ∨ d = .string)) → ∃ v, cs = [v] := by
      intro hd
      cases cs with
      | nil =>
        cases hu : P.underlying t with
        | none => simp [DataW.trod, hu] at h
        | some d => rcases hd d hu with rfl | ⟨k, rfl⟩ | ⟨k, rfl⟩ | rfl <;> simp [DataW.trod, hu] at h
      | cons v r =>
        cases r with
        | nil => exact ⟨v, rfl⟩
        | cons u r =>
          exfalso
          cases hu : P.underlying t with
          | none => simp [DataW.trod, hu] at h
          | some d => rcases hd d hu with rfl | ⟨k, rfl⟩ | ⟨k, rfl⟩ | rfl <;> cases v <;> simp [DataW.trod, hu] at h
    split at hT
    · rename_i hu
      obtain ⟨v, rfl⟩ := single (fun d hd => by rw [hu] at hd; cases hd; exact .inl rfl)
      cases v <;> simp [DataW.trod, hu] at h
      rename_i b
      exact one _ _ rfl rfl (.bool t b hu) (.bool b)
    · rename_i k hu
      obtain ⟨v, rfl⟩ := single (fun d hd => by rw [hu] at hd; cases hd; exact .inr (.inl ⟨k, rfl⟩))
      cases v <;> simp [DataW.trod, hu] at h
      rename_i k' n
      obtain ⟨⟨rfl, hw⟩, _⟩ := h
      exact one _ _ rfl rfl (.int t k' n hu hw) (.int k' n)
    · rename_i k hu
      obtain ⟨v, rfl⟩ := single (fun d hd => by rw [hu] at hd; cases hd; exact .inr (.inr (.inl ⟨k, rfl⟩)))
      cases v <;> simp [DataW.trod, hu] at h
      rename_i k' n
      obtain ⟨⟨rfl, hw⟩, _⟩ := h
      exact one _ _ rfl rfl (.float t k' n hu hw) (.float k' n)
    · rename_i hu
      obtain ⟨v, rfl⟩ := single (fun d hd => by rw [hu] at hd; cases hd; exact .inr (.inr (.inr rfl)))
      cases v <;> simp [DataW.trod, hu] at h
      rename_i b
      refine one _ _ rfl rfl (.str t b hu ?_) (.str b)
      have := hwt b.data.toList.length (by rw [← h.2]; simp [DataW.weights])
      simpa using this
    · rename_i e hu
      simp only [Bool.and_eq_true, List.contains_eq_mem, decide_eq_true_eq] at hT
      obtain ⟨⟨heS, hpos⟩, hbpos⟩ := hT
      have hsl : ∃ A len cap, cs = [.slice A len cap] := by
        cases cs with
        | nil => simp [DataW.trod, hu] at h
        | cons v r =>
          cases r with
          | nil =>
            cases v with
            | slice A len cap => exact ⟨A, len, cap, rfl⟩
            | _ => simp [DataW.trod, hu] at h
          | cons u r => cases v <;> simp [DataW.trod, hu] at h
      obtain ⟨A, len, cap, rfl⟩ := hsl
      cases A with
      | none =>
        have hz : len = 0 ∧ cap = 0 := by
          cases len <;> cases cap <;> simp [DataW.trod, hu] at h ⊢
        obtain ⟨rfl, rfl⟩ := hz
        exact one _ _ rfl rfl (.slice t e [] hu (by simp) (by simp)) (.dsl0 _ _ _)
      | some a =>
        simp only [DataW.trod, hu] at h
        split at h
        rotate_left
        · cases h
        rename_i hcond
        obtain ⟨hba, hlc, hcm⟩ := hcond
        simp only [Option.bind_eq_some_iff] at h
        obtain ⟨elems, hel, h⟩ := h
        simp only [Option.map_eq_some_iff] at h
        obtain ⟨rest, hrest, rfl⟩ := h
        simp only [DataW.weights, hu] at hwt
        obtain ⟨hl1, hl2⟩ := mapM_get hel
        have hsz : len * P.bytesOf e ≤ reachBytes := by
          have := hwt _ List.mem_cons_self
          simp only [List.length_map, hl1, List.length_range] at this
          exact Nat.le_trans (Nat.mul_le_mul_right _ (Nat.le_add_right _ _)) this
        have hlen47 : len ≤ 140737488355328 := by
          have h1 : len * 1 ≤ len * P.bytesOf e := Nat.mul_le_mul_left _ hbpos
          have h2 : reachBytes ≤ 140737488355328 := by decide
          omega
        have hrow : ∀ i, i < len → ∃ q : List Value × List SV, w.cells? base (a.add (i * P.cellsOf e)) (P.cellsOf e) = some q.1 ∧ TySV P e q.2 ∧ q.2.length = q.1.length ∧ (∀ v ∈ q.1, v.oneCell' = true) ∧ ∀ (j : Nat) v y, q.1[j]? = some v → q.2[j]? = some y → Rep (memOf w) v y := by
          intro i hi
          obtain ⟨b, hbm, hb⟩ := hl2 i i (by simp [hi])
          simp only [Option.bind_eq_some_iff] at hb
          obtain ⟨cs1, hc1, hc2⟩ := hb
          obtain ⟨svs, g1, g2, g3, g4⟩ := ih e cs1 b heS (fun n hn => hwt n (List.mem_cons_of_mem _ (List.mem_append_left _ (weightsAll_mem (List.mem_map.2 ⟨b, List.mem_of_getElem? hbm, rfl⟩) hn)))) hc2
          exact ⟨(cs1, svs), hc1, g1, g2, g3, g4⟩
        obtain ⟨qs, hq1, hq2⟩ := choose_list hrow
        have hty : ∀ r ∈ qs.map (·.2), TySV P e r := by
          intro r hr
          obtain ⟨q, hq, rfl⟩ := List.mem_map.1 hr
          obtain ⟨i, hi⟩ := List.getElem?_of_mem hq
          exact (hq2 i q hi).2.1
        have hlen : ∀ q ∈ qs, q.1.length = P.cellsOf e := by
          intro q hq
          obtain ⟨i, hi⟩ := List.getElem?_of_mem hq
          exact (cells_get (hq2 i q hi).1).1
        have hrows : ∀ r ∈ qs.map (·.2), r.length = P.cellsOf e := by
          intro r hr
          obtain ⟨q, hq, rfl⟩ := List.mem_map.1 hr
          obtain ⟨i, hi⟩ := List.getElem?_of_mem hq
          rw [(hq2 i q hi).2.2.1, hlen q hq]
        have hvrows : ∀ r ∈ qs.map (·.1), r.length = P.cellsOf e := by
          intro r hr
          obtain ⟨q, hq, rfl⟩ := List.mem_map.1 hr
          exact hlen q hq
        refine one _ _ rfl rfl (.slice t e (qs.map (·.2)) hu (by simpa [hq1] using hsz) hty) ?_
        rcases Nat.eq_zero_or_pos len with h0 | h0
        · have : qs = [] := List.length_eq_zero_iff.1 (by omega)
          subst this; subst h0
          exact .dsl0 _ _ _
        · have hspot : a = ⟨a.block, a.off, none⟩ := by
            obtain ⟨q, hq⟩ : ∃ q, qs[0]? = some q := ⟨qs[0]'(by omega), List.getElem?_eq_getElem (by omega)⟩
            obtain ⟨v, _, hv⟩ := (cells_get (hq2 0 q hq).1).2 0 hpos
            have hv' : w.cell? a = some v := by simpa [Addr.add] using hv
            unfold World.cell? at hv'
            obtain ⟨b, o, spt⟩ := a
            cases spt with
            | none => rfl
            | some x =>
              simp only at hv'
              split at hv' <;> simp at hv'
          have hfl := flat_len hrows
          have hvfl := flat_len hvrows
          have hidx : ∀ j v, (qs.map (·.1)).flatten[j]? = some v → ∃ q, qs[j / P.cellsOf e]? = some q ∧ j % P.cellsOf e < P.cellsOf e ∧ q.1[j % P.cellsOf e]? = some v := by
            intro j v hv
            have hm := Nat.mod_lt j hpos
            have hdj : j / P.cellsOf e * P.cellsOf e + j % P.cellsOf e = j := Nat.div_add_mod' j _
            rw [← hdj, flat_get hvrows _ _ hm] at hv
            simp only [List.getElem?_map, Option.bind_eq_some_iff, Option.map_eq_some_iff] at hv
            obtain ⟨r, ⟨q, hq, rfl⟩, hv⟩ := hv
            exact ⟨q, hq, hm, hv⟩
          rw [hspot]
          have hR := Rep.dsl (m := memOf w) (P.cellsOf e) (qs.map (·.2)) cap a.block a.off (qs.map (·.1)).flatten (fun v hv => by
              obtain ⟨r, hr, hvr⟩ := List.mem_flatten.1 hv
              obtain ⟨q, hq, rfl⟩ := List.mem_map.1 hr
              obtain ⟨i, hi⟩ := List.getElem?_of_mem hq
              exact (hq2 i q hi).2.2.2.1 v hvr) (by simp [hq1, hlc]) (by simp [hq1]; exact hlen47) hrows (by rw [hvfl, hfl]; simp) (fun j v hv => by
              obtain ⟨q, hq, hm, hv'⟩ := hidx j v hv
              obtain ⟨u, hu1, hu2⟩ := (cells_get (hq2 _ q hq).1).2 _ hm
              rw [hv'] at hu1; cases hu1
              have hdj : j / P.cellsOf e * P.cellsOf e + j % P.cellsOf e = j := Nat.div_add_mod' j _
              rw [hspot, add_off, add_off] at hu2
              show w.cell? ⟨a.block, a.off + j, none⟩ = some v
              rw [← hdj, ← Nat.add_assoc]
              exact hu2) (fun j v y hv hy => by
              obtain ⟨q, hq, hm, hv'⟩ := hidx j v hv
              have hdj : j / P.cellsOf e * P.cellsOf e + j % P.cellsOf e = j := Nat.div_add_mod' j _
              rw [← hdj, flat_get hrows _ _ hm] at hy
              simp only [List.getElem?_map, hq, Option.map_some, Option.bind_some] at hy
              exact (hq2 _ q hq).2.2.2.2 _ v y hv' hy)
          simpa [hq1] using hR
    · rename_i fs hu
      simp only [Bool.and_eq_true, List.all_eq_true, List.contains_eq_mem, decide_eq_true_eq] at hT
      obtain ⟨hin, htl⟩ := hT
      have h2 : cs.length = P.cellsOf t ∧ ∃ xs, (fs.toList.mapM fun f => DataW.trod enc P w base sp held fuel f.type ((cs.drop f.offset).take (P.cellsOf f.type))) = some xs ∧ x.1 = .agg (xs.map (·.1)) := by
        have h' : (if cs.length = P.cellsOf t then (fs.toList.mapM fun f => DataW.trod enc P w base sp held fuel f.type ((cs.drop f.offset).take (P.cellsOf f.type))).map fun xs => (DataW.agg (xs.map (·.1)), xs.flatMap (·.2)) else none) = some x := by
          rw [← h]
          simp only [DataW.trod, hu]
        split at h'
        · rename_i hl
          simp only [Option.map_eq_some_iff] at h'
          obtain ⟨xs, hxs, rfl⟩ := h'
          exact ⟨hl, xs, hxs, rfl⟩
        · cases h'
      obtain ⟨hcl, xs, hxs, hx1⟩ := h2
      rw [hx1] at hwt
      simp only [DataW.weights, hu] at hwt
      obtain ⟨hl1, hl2⟩ := mapM_get hxs
      have hparts : ∀ i, i < fs.toList.length → ∃ p : List SV, ∀ f, fs.toList[i]? = some f → TySV P f.type p ∧ p.length = ((cs.drop f.offset).take (P.cellsOf f.type)).length ∧ (∀ v ∈ (cs.drop f.offset).take (P.cellsOf f.type), v.oneCell' = true) ∧
          ∀ (j : Nat) v y, ((cs.drop f.offset).take (P.cellsOf f.type))[j]? = some v → p[j]? = some y → Rep (memOf w) v y := by
        intro i hi
        have hf : fs.toList[i]? = some fs.toList[i] := List.getElem?_eq_getElem hi
        obtain ⟨b, hbm, hb⟩ := hl2 i _ hf
        obtain ⟨svs, g1, g2, g3, g4⟩ := ih _ _ b (hin _ (List.getElem_mem hi)) (fun n hn => hwt n (DataW.weights_mem_each (j := i) (t := fs.toList[i].type) (d := b.1) (by simp only [List.getElem?_map, hf, Option.map_some]) (by rw [List.getElem?_map, hbm]; rfl) n hn)) hb
        refine ⟨svs, fun f hf' => ?_⟩
        rw [hf] at hf'; cases hf'
        exact ⟨g1, g2, g3, g4⟩
      obtain ⟨parts, hp1, hp2⟩ := choose_list hparts
      have fitl : ∀ {fs : List Field} {o n : Nat}, tiled P fs o n = true → ∀ (i : Nat) f, fs[i]? = some f → f.offset + P.cellsOf f.type ≤ n := by
        intro fs
        induction fs with
        | nil => intro o n _ i f hf; simp at hf
        | cons g fs ih2 =>
          intro o n ht i f hf
          simp only [tiled, Bool.and_eq_true, beq_iff_eq] at ht
          have lo : ∀ {fs : List Field} {o n : Nat}, tiled P fs o n = true → o ≤ n := by
            intro fs
            induction fs with
            | nil => intro o n h; simp only [tiled, beq_iff_eq] at h; omega
            | cons g fs ih3 => intro o n h; simp only [tiled, Bool.and_eq_true] at h; have := ih3 h.2; omega
          cases i with
          | zero => simp at hf; subst hf; have := lo ht.2; omega
          | succ i => exact ih2 ht.2 i f (by simpa using hf)
      have hplen : ∀ (i : Nat) (f : Field) (p : List SV), fs.toList[i]? = some f → parts[i]? = some p → p.length = P.cellsOf f.type := by
        intro i f p hf hp
        rw [(hp2 i p hp f hf).2.1]
        have := fitl htl i f hf
        simp; omega
      obtain ⟨f1, f2, f3⟩ := tiled_flat (P := P) (cs := cs) (fs := fs.toList) (o := 0) (parts := parts) (by rw [hcl]; exact htl) (by rw [hp1]) hplen
      refine ⟨parts.flatten, .struct t fs parts hu (by rw [hp1]) (fun i f p hf hp => (hp2 i p hp f hf).1), by rw [f1]; rfl, ?_, fun j v y hv hy => ?_⟩
      · intro v hv
        obtain ⟨j, hj⟩ := List.getElem?_of_mem hv
        have hjl : j < cs.length := by
          rcases Nat.lt_or_ge j cs.length with h | h
          · exact h
          · rw [List.getElem?_eq_none h] at hj; cases hj
        exact f3 (fun v _ => v.oneCell' = true) (fun i f p hf hp k v x hv _ => (hp2 i p hp f hf).2.2.1 v (List.mem_of_getElem? hv)) j v _ hj (List.getElem?_eq_getElem (show j < parts.flatten.length by omega))
      · exact f3 (Rep (memOf w)) (fun i f p hf hp => (hp2 i p hp f hf).2.2.2) j v y hv hy
    · cases hT
end
end Go.Proofs.Ytadmdmhocglkfaa.Abs
