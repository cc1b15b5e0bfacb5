/- A law's row, out of the contract of its function: whatever the arguments, it hands back true. -/
import Derived.Test.YtadmdmhocglkfaaAbsM
import Derived.ChangeCalls
set_option linter.unusedSimpArgs false
set_option linter.unusedVariables false
namespace Go.Proofs.Ytadmdmhocglkfaa.Abs
open Go Go.RowKit

/-- An argument of a type. -/
inductive TyArg (P : Program) (t : TypeId) : SV → Prop
  | agg (svs : List SV) : isAggT P t = some true → TySV P t svs → TyArg P t (.agg true svs)
  | one (x : SV) : isAggT P t = some false → TySV P t [x] → TyArg P t x

/-- Arguments of types. -/
def TyArgs (P : Program) : List TypeId → List SV → Prop
  | [], [] => True
  | t :: ts, x :: xs => TyArg P t x ∧ TyArgs P ts xs
  | _, _ => False

section
variable {H : Type} {enc : TypeId × Value → H} {P : Program} {w : World} {base : Nat} {sp : Nat → Bool} {held : Bool}

theorem arg_rep {S : List TypeId} (hS : flatS P S = true) {b0 : Nat} {t : TypeId} {v : Value} {d : DataW H} {ps : List MemPlace} (ht : t ∈ S) (hval : Value.okWide P w .any b0 t v) (hwt : ∀ n ∈ d.weights P t, n ≤ reachBytes)
    (h : DataW.Trod enc P w base sp held t v d ps) : ∃ x, TyArg P t x ∧ Rep (memOf w) v x := by
  obtain ⟨fuel, h⟩ := h
  obtain ⟨svs, g1, g2, g3, g4⟩ := trod_rep hS fuel t v.cells.toList (d, ps) ht hwt h
  have hT := hS
  simp only [flatS, List.all_eq_true] at hT
  have hT := hT t ht
  have one : isAggT P t = some false → v.oneCell' = true → ∃ x, TyArg P t x ∧ Rep (memOf w) v x := by
    intro ha ho
    have hc : v.cells = #[v] := by cases v <;> first | rfl | (simp [Value.oneCell'] at ho)
    rw [hc] at g2 g4
    match svs, g2 with
    | [x], _ => exact ⟨x, .one x ha g1, g4 0 v x rfl rfl⟩
  split at hT
  · rename_i hu
    exact one (by simp [isAggT, hu]) (by
      simp only [Value.okWide, hu, Cell.okWide] at hval
      cases v <;> simp_all [Cell.ok, Value.oneCell'])
  · rename_i k hu
    exact one (by simp [isAggT, hu]) (by
      simp only [Value.okWide, hu, Cell.okWide] at hval
      cases v <;> simp_all [Cell.ok, Value.oneCell'])
  · rename_i k hu
    exact one (by simp [isAggT, hu]) (by
      simp only [Value.okWide, hu, Cell.okWide] at hval
      cases v <;> simp_all [Cell.ok, Value.oneCell'])
  · rename_i hu
    exact one (by simp [isAggT, hu]) (by
      simp only [Value.okWide, hu, Cell.okWide] at hval
      cases v <;> simp_all [Cell.ok, Value.oneCell'])
  · rename_i e hu
    exact one (by simp [isAggT, hu]) (by
      simp only [Value.okWide, hu, Cell.okWide] at hval
      cases v <;> simp_all [Cell.ok, Value.oneCell'])
  · rename_i fs hu
    simp only [Value.okWide, hu] at hval
    obtain ⟨cs, rfl, _, _⟩ := hval
    refine ⟨.agg true svs, .agg svs (by simp [isAggT, hu]) g1, ?_⟩
    have := Rep.agg (m := memOf w) cs.toList svs g3 (by rw [g2]; rfl) g4
    simpa using this
  · cases hT

theorem args_rep {S : List TypeId} (hS : flatS P S = true) {b0 : Nat} : ∀ {ts : List TypeId} {vs : List Value} {ds : List (DataW H)} {ps : List MemPlace}, (∀ t ∈ ts, t ∈ S) → (∀ (j : Nat) t v, ts[j]? = some t → vs[j]? = some v → Value.okWide P w .any b0 t v) →
    (∀ n ∈ DataW.weightsEach P ts ds, n ≤ reachBytes) → DataW.TrodAll enc P w base sp held ts vs ds ps → ∃ xs, TyArgs P ts xs ∧ xs.length = vs.length ∧ ∀ (j : Nat) v x, vs[j]? = some v → xs[j]? = some x → Rep (memOf w) v x := by
  intro ts
  induction ts with
  | nil =>
    intro vs ds ps _ _ _ h
    cases vs with
    | nil => exact ⟨[], trivial, rfl, by simp⟩
    | cons v vs => cases ds <;> exact h.elim
  | cons t ts ih =>
    intro vs ds ps hS' hval hwt h
    cases vs with
    | nil => cases ds <;> exact h.elim
    | cons v vs =>
      cases ds with
      | nil => exact h.elim
      | cons d ds =>
        obtain ⟨p, q, h1, h2, rfl⟩ := h
        simp only [DataW.weightsEach, List.mem_append] at hwt
        obtain ⟨x, a1, a2⟩ := arg_rep hS (hS' t List.mem_cons_self) (hval 0 t v rfl rfl) (fun n hn => hwt n (.inl hn)) h1
        obtain ⟨xs, b1, b2, b3⟩ := ih (fun u hu => hS' u (List.mem_cons_of_mem _ hu)) (fun j u z hu hz => hval (j + 1) u z (by simpa using hu) (by simpa using hz)) (fun n hn => hwt n (.inr hn)) h2
        refine ⟨x :: xs, ⟨a1, b1⟩, by simp [b2], fun j u z hu hz => ?_⟩
        cases j with
        | zero => simp at hu hz; subst hu; subst hz; exact a2
        | succ j => exact b3 j u z (by simpa using hu) (by simpa using hz)

theorem trodAll_below (hl : laidOutB P = true) {W W' : World} (hb : Below W.heap.size W W') : ∀ {ts : List TypeId} {vs : List Value} {ds : List (DataW H)} {ps : List MemPlace}, (∀ t ∈ ts, P.readableRec t = true ∧ t < P.types.size) →
    (∀ x ∈ ps, x.block < W.heap.size) → DataW.TrodAll enc P W 0 (fun _ => true) true ts vs ds ps → DataW.TrodAll enc P W' 0 (fun b => decide (b < W.heap.size)) true ts vs ds ps := by
  intro ts
  induction ts with
  | nil =>
    intro vs ds ps _ _ h
    cases vs with
    | nil => cases ds with
      | nil => exact h
      | cons d ds => exact h.elim
    | cons v vs => cases ds <;> exact h.elim
  | cons t ts ih =>
    intro vs ds ps hr hlt h
    cases vs with
    | nil => cases ds <;> exact h.elim
    | cons v vs =>
      cases ds with
      | nil => exact h.elim
      | cons d ds =>
        obtain ⟨p, q, h1, h2, rfl⟩ := h
        exact ⟨p, q, Below.trod hl (hr t List.mem_cons_self).1 (hr t List.mem_cons_self).2 h1 hb (fun x hx => hlt x (List.mem_append_left _ hx)), ih (fun u hu => hr u (List.mem_cons_of_mem _ hu)) (fun x hx => hlt x (List.mem_append_right _ hx)) h2, rfl⟩
end

theorem weightsEach_more {H : Type} {P : Program} {n : Nat} {us : List TypeId} {es : List (DataW H)} : ∀ {ts : List TypeId} {ds : List (DataW H)}, n ∈ DataW.weightsEach P ts ds → n ∈ DataW.weightsEach P (ts ++ us) (ds ++ es) := by
  intro ts
  induction ts with
  | nil => intro ds h; simp [DataW.weightsEach] at h
  | cons t ts ih =>
    intro ds h
    cases ds with
    | nil => simp [DataW.weightsEach] at h
    | cons d ds =>
      simp only [List.cons_append, DataW.weightsEach, List.mem_append] at h ⊢
      rcases h with h | h
      · exact .inl h
      · exact .inr (ih h)

/-- THE ROW'S LIFTED WORD, OUT OF THE CONTRACT. -/
theorem law_lifted {H : Type} {enc : TypeId × Value → H} {C : Checked} {os : Os} {f : FuncId} {fn : Func} {s : ChangeSpec} {S : List TypeId} {tb : TypeId} {apart fresh handsOn : Bool} (own : ownKnob C.prog.godebug = none) (started : os.Started) (noInit : C.prog.inits.idxOf? f = none)
    (hfn : C.prog.funcs[f]? = some fn) (hvars : s.vars = [])
    (witness : ∃ (w : World) (tape : Tape) (i : Input), w.os = os ∧ (w.forCall tape i).Shaped C.prog ∧ i.vars = [] ∧ Input.okWide C.prog (w.forCall tape i) .any w.heap.size f i ∧
      s.pre6 enc C.prog fn [] apart (w.forCall tape i).memory i.args ∧ ({} : Assume).holds C.prog (lone (Frame.enter C.prog f i.args .normal) [] (w.forCall tape i)))
    (hs : ∀ ds : List (DataW H), ds.length = fn.params.size → s.fn H ds = { results := [.lit (.bool true)], args := ds }) (hres : fn.resultTypes = #[tb]) (htb : C.prog.underlying tb = some .bool)
    (hS : flatS C.prog S = true) (hpar : ∀ t ∈ fn.params.toList, t ∈ S) (hlaid : laidOutB C.prog = true) (hread : ∀ t ∈ fn.params.toList, C.prog.readableRec t = true ∧ t < C.prog.types.size)
    (law : ∀ args : List SV, TyArgs C.prog fn.params.toList args → Contract C.prog f args (.bool true)) :
    ReturnsInHanded {} C os f .any (s.pre6 enc C.prog fn [] apart) (s.post enc C.prog fn apart fresh handsOn false) := by
  refine returnsInHanded_of_change_sized (C := C) own started noInit hfn witness ?_
  intro W base args ds gs before hval hW _ hsz _
  have hW' := hW
  have hlt : ∀ x ∈ before, x.block < W.heap.size := fun x hx => hW'.lt x hx
  obtain ⟨p, q, hA, hV, rfl, hfz, hnd⟩ := hW
  rw [hvars] at hV
  have hgs : gs = [] ∧ q = [] := by
    cases gs with
    | nil => exact ⟨rfl, hV⟩
    | cons g gs => exact hV.elim
  obtain ⟨rfl, rfl⟩ := hgs
  have hwt : ∀ n ∈ DataW.weightsEach C.prog fn.params.toList ds, n ≤ reachBytes := by
    intro n hn
    have := List.all_eq_true.1 hsz n (weightsEach_more hn)
    simpa using this
  have hdl : ds.length = fn.params.size := by
    have := (trodAll_length hA).2
    simpa using this
  obtain ⟨xs, a1, a2, a3⟩ := args_rep hS hpar (fun j t v ht hv => hval j t v (by simpa using ht) (by simpa using hv)) hwt hA
  have hc := law xs a1 (memOf W) W args.toList (fun b j v h => h) a2.symm a3
  refine Calls.mono hc (fun e W' he => ?_)
  obtain ⟨v, m', rfl, k1, k2, k3, k4, k5, k6, k7, k8, k9⟩ := he
  cases k1
  have hb : Below W.heap.size W W' := ⟨k5, k6, k7, k8, k9⟩
  refine ⟨_, rfl, ds, [], p ++ [], [], p, [], hW', ?_, ?_, ?_, hb.frame _, fun h => by cases h⟩
  · rw [List.append_nil, hs ds hdl, hres]
    exact ⟨[], [], ⟨1, by simp [DataW.trod, htb, Value.cells]⟩, rfl, rfl⟩
  · rw [List.append_nil, hs ds hdl]
    exact trodAll_below hlaid hb hread (fun x hx => hlt x (by simpa using hx)) hA
  · rw [List.append_nil, hs ds hdl, hvars]
    rfl
end Go.Proofs.Ytadmdmhocglkfaa.Abs
