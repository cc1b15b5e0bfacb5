/- A function that defers a closure, turns the global store, and returns. -/
import Derived.Test.YtdpigpopcbjkmaaDoorDo
set_option linter.unusedSimpArgs false
set_option linter.unusedVariables false
namespace Go.Proofs.YtdpigpopcbjkmaaDoor.Abs
open Go Go.RowKit

section
variable {P : Program}

theorem hcontract_of_door {f : Nat} {fn : Func} {c : Code} {ac : AC} {ars : List AR} {t gf k : Nat} {G G' : List (List SV)} {args : List SV} {r : SV} (hm : P.follows .mixedOrders = true) (hf : P.funcs[f]? = some fn) (hb : fn.body = some c) (hD : TrD P t gf k c ac) (hars : trR P fn.results.toList = some ars)
    (hinv : ∀ (cap : Array Value) (w : World), (invoke (.fn (.func gf) cap) #[]).run P w = .ok (.enter gf cap) w) (hidle : ∀ (cap : Array Value) (w : World), cap.size = k → CallsD P gf cap .returning w fun e u' w' => u' = .returning ∧ e = .returned (.tuple #[]) ∧ w' = w)
    (h : vc (CTof P fun _ _ => False) ac (rtG ars (.ret r) G') { sl := args ++ List.replicate (fn.ntmps - args.length) .undef, hp := [gOb G] }) : HContract P f G args (.ret r) G' := by
  intro m w vs hmem hsat hlen hrep
  let own : Nat → Prop := fun b => ∃ i, m.d i = some b
  let E0 : Env := { m := m, m0 := m, H := fun _ => none, β := fun _ => 0, t := fun _ => 0 }
  have hW : W w own E0 w := ⟨rfl, rfl, rfl, Nat.le_refl _, fun _ _ _ => rfl, hmem.1, fun o ob ho => (by cases ho), fun o o' ob ob' ho => (by cases ho), fun _ _ _ _ => rfl, hmem.2⟩
  have hS : SR w own m True [] E0 (some G) { sl := args ++ List.replicate (fn.ntmps - args.length) .undef, hp := [gOb G] } { tmps := vs.toArray ++ Array.replicate (fn.ntmps - vs.toArray.size) undef, defers := [] } w := by
    refine ⟨hW, ⟨rfl, hsat, fun i b hi => .inr ⟨i, hi⟩, fun i b o ob _ ho => by cases ho⟩, fun o => ?_, by simp [hlen], init_rel hlen hrep, rfl, rfl, .refl _, (fun h => by cases h), fun _ => trivial⟩
    cases o with
    | zero => rfl
    | succ o => rfl
  refine calls_of_wp_defers hf hb ?_
  -- what is there at an end
  have tail : ∀ (E : Env) (w' : World), W w own E w' → GI w.heap.size own E w' G' → m.le E.m → E.m0 = m → m.le E.m ∧ (∀ b j, b < w.heap.size → E.m b j = m b j) ∧ MemOk E.m w' ∧ GSat E.m w' G' ∧
      (∀ i b, E.m.d i = some b → m.d i = some b ∨ w.heap.size ≤ b) ∧ w'.os = w.os ∧ w'.tape = w.tape ∧ w'.output = w.output ∧ w.heap.size ≤ w'.heap.size ∧ ∀ k, k < w.heap.size → (∀ i, m.d i ≠ some k) → w'.heap[k]? = w.heap[k]? := by
    intro E w' hW hg hle hz
    refine ⟨hle, fun b j hb => ?_, ⟨hW.mem, hW.pl⟩, hg.sat, fun i b hi => ?_, hW.os, hW.tape, hW.output, hW.size, fun k hk hn => hW.block k hk (fun ⟨i, hi⟩ => hn i hi)⟩
    · by_cases ho : own b
      · obtain ⟨i, hi⟩ := ho
        rw [hsat.free i b j hi, hg.sat.free i b j (hle.d _ _ hi)]
      · rw [hW.keep b j hb ho, hz]
    · rcases hg.new i b hi with h | ⟨i', hi'⟩
      · exact .inr h
      · have := hg.sat.inj i i' b hi (hle.d _ _ hi')
        subst this
        exact .inl hi'
  have fin : ∀ (Df : List Deferred) (E : Env) (g : Option (List (List SV))) (s : St) (a : Act) (w' : World), SR w own m True Df E g s a w' → retIsG ars r G' s → ∃ v, (results fn a.tmps).run P w' = .ok v w' ∧ ∃ m', HEnd m' (.returned v) (.ret r) ∧ m.le m' ∧ (∀ b j, b < w.heap.size → m' b j = m b j) ∧ MemOk m' w' ∧ GSat m' w' G' ∧
      (∀ i b, m'.d i = some b → m.d i = some b ∨ w.heap.size ≤ b) ∧ w'.os = w.os ∧ w'.tape = w.tape ∧ w'.output = w.output ∧ w.heap.size ≤ w'.heap.size ∧ ∀ k, k < w.heap.size → (∀ i, m.d i ≠ some k) → w'.heap[k]? = w.heap[k]? := by
    intro Df E g s a w' hS hr
    unfold retIsG at hr
    split at hr
    rotate_left
    · exact hr.elim
    rename_i p svs hp' hrv
    obtain ⟨hp, hrr, hG⟩ := hr
    obtain ⟨us, E', k1, k2, k3, k4, k5⟩ := retv_sound fn.results.toList ars p svs hp' E s hars hrv hp hS
    have := view_some (U := fun _ => True) (s := { s with hp := hp' }) (fun o _ => k4.hp o) trivial k4.wo hG
    subst this
    exact ⟨_, results_run k1, E'.m, ⟨_, rfl, one_rep hrr k2 k3⟩, tail E' w' k4.wo k4.gx k4.le k4.z⟩
  refine door_sound (X := fun _ _ => False) hm hD (fun _ _ _ _ _ _ h => h.elim) (fun _ _ _ _ _ _ _ _ h => h.elim) (fun e E g s a w' hS he => ?_) (fun cap hcap e E g s a w' hS he => ?_) E0 (some G) _ _ w hS h
  · have hd := hS.dfr
    cases e with
    | normal => simp only [AE.ex, bodyPostD, hd, Leaves]; exact fin _ E g s a w' hS he
    | exit id => exact he.elim
    | ret => simp only [AE.ex, bodyPostD, hd, Leaves]; exact fin _ E g s a w' hS he
  · have hd := hS.dfr
    have key : retIsG ars r G' s → Leaves P fn a.tmps (fun e w' => ∃ m', HEnd m' e (.ret r) ∧ m.le m' ∧ (∀ b j, b < w.heap.size → m' b j = m b j) ∧ MemOk m' w' ∧ GSat m' w' G' ∧
      (∀ i b, m'.d i = some b → m.d i = some b ∨ w.heap.size ≤ b) ∧ w'.os = w.os ∧ w'.tape = w.tape ∧ w'.output = w.output ∧ w.heap.size ≤ w'.heap.size ∧ ∀ k, k < w.heap.size → (∀ i, m.d i ≠ some k) → w'.heap[k]? = w.heap[k]?) [dfrd gf cap] .returning w' := by
      intro he
      refine leaves_cons (f := gf) (args := cap) (by simp) (hinv cap w') ?_
      refine (hidle cap w' hcap).mono ?_
      rintro e u' w'' ⟨rfl, rfl, rfl⟩
      exact fin _ E g s a w'' hS he
    cases e with
    | normal => simp only [AE.ex, bodyPostD, hd]; exact key he
    | exit id => exact he.elim
    | ret => simp only [AE.ex, bodyPostD, hd]; exact key he

/-- What is to be shown of it. -/
def vcDG (C : CT) (f : AF) (G : List (List SV)) (args : List SV) (r : SV) (G' : List (List SV)) : Prop := vc C f.body (rtG f.res (.ret r) G') ⟨args ++ List.replicate (f.ntmps - args.length) .undef, [gOb G]⟩
theorem ev_DG {C : CT} {b : AC} {n : Nat} {res : List AR} {G G' : List (List SV)} {args : List SV} {r : SV} : vcDG C { ntmps := n, res := res, body := b } G args r G' = vc C b (rtG res (.ret r) G') ⟨args ++ List.replicate (n - args.length) .undef, [gOb G]⟩ := Eq.trans rfl rfl
attribute [go_sem] ev_DG

theorem hcontract_of_doorF {f : Nat} {fn : Func} {af : AF} {t gf k : Nat} {G G' : List (List SV)} {args : List SV} {r : SV} (hm : P.follows .mixedOrders = true) (hf : P.funcs[f]? = some fn) (htr : trDF P fn = some (af, t, gf, k))
    (hinv : ∀ (cap : Array Value) (w : World), (invoke (.fn (.func gf) cap) #[]).run P w = .ok (.enter gf cap) w) (hidle : ∀ (cap : Array Value) (w : World), cap.size = k → CallsD P gf cap .returning w fun e u' w' => u' = .returning ∧ e = .returned (.tuple #[]) ∧ w' = w)
    (h : vcDG (CTof P fun _ _ => False) af G args r G') : HContract P f G args (.ret r) G' := by
  unfold trDF at htr
  split at htr
  rotate_left
  · cases htr
  rename_i c hb
  split at htr
  rotate_left
  · cases htr
  rename_i ars hars
  simp only [Option.map_eq_some_iff] at htr
  obtain ⟨⟨ac, q⟩, hq, hr'⟩ := htr
  cases hr'
  exact hcontract_of_door hm hf hb (trD_sound hq) hars hinv hidle h
end
end Go.Proofs.YtdpigpopcbjkmaaDoor.Abs
