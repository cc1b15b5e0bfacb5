/- Cuts of slices and strings; every operation that is no call. -/
import Derived.Test.YtadmdmhocglkfaaAbsF
set_option linter.unusedSimpArgs false
set_option linter.unusedVariables false
namespace Go.Proofs.Ytadmdmhocglkfaa.Abs
open Go Go.RowKit

section
variable {P : Program} {U : Nat → Prop} {w0 : World} {own : Nat → Prop} {E : Env} {w : World} {s : St} {a : Act}

theorem x_rel (hx : ∀ ax x, trX x = some ax → RelV E (a.eval x) (s.get ax)) {x : Operand} {ax : AX} (h : trX x = some ax) : RelV E (a.eval x) (s.get ax) := hx ax x h

theorem int_of {v : Value} {k : IntKind} {n : Int} (h : RelV E v (.int k n)) : v = .int k n := by
  cases h.closed_rep rfl with
  | int => rfl
theorem bool_of {v : Value} {b : Bool} (h : RelV E v (.bool b)) : v = .bool b := by
  cases h.closed_rep rfl with
  | bool => rfl
theorem float_of {v : Value} {k : FloatKind} {n : Nat} (h : RelV E v (.float k n)) : v = .float k n := by
  cases h.closed_rep rfl with
  | float => rfl
theorem fn_of {v : Value} {f : Nat} (h : RelV E v (.fn f)) : v = .func (.func f) #[] #[] := by
  cases h.closed_rep rfl with
  | fn => rfl
theorem str_of {v : Value} {b : ByteArray} (h : RelV E v (.str b)) : v = .string b := by
  cases h.closed_rep rfl with
  | str => rfl
theorem nilp_of {v : Value} (h : RelV E v .nilp) : v = .pointer none := by
  cases h.closed_rep rfl with
  | nilp => rfl
theorem nils_of {v : Value} (h : RelV E v .nils) : v = .slice none 0 0 := by
  cases h.closed_rep rfl with
  | nils => rfl

/-- The bounds of a cut. -/
theorem bound_run {ox : Option Operand} {oax : Option AX} {d y : Nat} {p : Prop} {n : Nat} {code : BoundsCode} (ht : trOX ox = some oax) (hb : bound s oax d = some (p, n)) (hp : p) (hx : ∀ x, ox = some x → ∀ ax, trX x = some ax → RelV E (a.eval x) (s.get ax)) (hd : d ≤ y) :
    n ≤ d ∧ ((ox = none ∧ n = d) ∨ ∃ v, ox.map a.eval = some v ∧ (Instr.sliceBound v y code).run P w = .ok n w) := by
  cases ox with
  | none =>
    simp only [trOX, Option.some.injEq] at ht
    subst ht
    simp only [bound, Option.some.injEq, Prod.mk.injEq] at hb
    exact ⟨by omega, .inl ⟨rfl, hb.2.symm⟩⟩
  | some x =>
    simp only [trOX, Option.map_eq_some_iff] at ht
    obtain ⟨ax, hax, rfl⟩ := ht
    simp only [bound] at hb
    split at hb
    · rename_i k i hg
      simp only [Option.some.injEq, Prod.mk.injEq] at hb
      obtain ⟨rfl, rfl⟩ := hb
      have hv := hx x rfl ax hax
      rw [hg] at hv
      have := int_of hv
      refine ⟨by omega, .inr ⟨_, rfl, ?_⟩⟩
      rw [this]
      simp [Instr.sliceBound, asIntOf, hp.1, show i ≤ (y : Int) by omega]
    · cases hb

theorem add_off' (A : Option Addr) (b o n : Nat) (h : A = some ⟨b, o, none⟩) : A.map (·.add n) = some ⟨b, o + n, none⟩ := by rw [h]; simp [add_off]

theorem run_slice {t e : TypeId} {lo hi : Option Value} {A : Option Addr} {len cap h l : Nat} (ht : P.underlying t = some (.slice e)) (hi0 : (P.info? e).isSome) (hh : (hi = none ∧ h = len) ∨ ∃ v, hi = some v ∧ (Instr.sliceBound v cap .sliceAcap).run P w = .ok h w)
    (hl : (lo = none ∧ l = 0) ∨ ∃ v, lo = some v ∧ (Instr.sliceBound v h .sliceB).run P w = .ok l w) :
    (Instr.sliceAt t (.slice A len cap) lo hi none).run P w = .ok (.slice (if cap = l then A else A.map (·.add (l * P.cellsOf e))) (h - l) (cap - l)) w := by
  obtain ⟨i, hi1⟩ := Option.isSome_iff_exists.1 hi0
  have hsz := run_sizeOf (P := P) w hi1
  rcases hh with ⟨rfl, rfl⟩ | ⟨v, rfl, hv⟩ <;> rcases hl with ⟨rfl, rfl⟩ | ⟨u, rfl, hu⟩ <;>
    simp [Instr.sliceAt, run_underlying ht, Instr.slice, Instr.sliceBounds, hsz, *]

theorem run_slice_str {t : TypeId} {lo hi : Option Value} {b : ByteArray} {h l : Nat} (ht : P.underlying t = some .string) (hh : (hi = none ∧ h = b.size) ∨ ∃ v, hi = some v ∧ (Instr.sliceBound v b.size .sliceAlen).run P w = .ok h w)
    (hl : (lo = none ∧ l = 0) ∨ ∃ v, lo = some v ∧ (Instr.sliceBound v h .sliceB).run P w = .ok l w) :
    (Instr.sliceAt t (.string b) lo hi none).run P w = .ok (.string (b.extract l h)) w := by
  rcases hh with ⟨rfl, rfl⟩ | ⟨v, rfl, hv⟩ <;> rcases hl with ⟨rfl, rfl⟩ | ⟨u, rfl, hu⟩ <;>
    simp [Instr.sliceAt, run_underlying ht, Instr.slice, Instr.sliceBounds, *]

theorem bounds_of {lo hi : Option Operand} {alo ahi : Option AX} {d y : Nat} {p q : Prop} {h n : Nat} {c1 c2 : BoundsCode} (hlo : trOX lo = some alo) (hhi : trOX hi = some ahi) (hb : bound s ahi d = some (p, h)) (hb2 : loB s alo h = some (q, n)) (hp : p) (hq : q)
    (hxl : ∀ y, lo = some y → ∀ ax, trX y = some ax → RelV E (a.eval y) (s.get ax)) (hxh : ∀ y, hi = some y → ∀ ax, trX y = some ax → RelV E (a.eval y) (s.get ax)) (hd : d ≤ y) :
    h ≤ d ∧ n ≤ h ∧ ((hi.map a.eval = none ∧ h = d) ∨ ∃ v, hi.map a.eval = some v ∧ (Instr.sliceBound v y c1).run P w = .ok h w) ∧ ((lo.map a.eval = none ∧ n = 0) ∨ ∃ v, lo.map a.eval = some v ∧ (Instr.sliceBound v h c2).run P w = .ok n w) := by
  obtain ⟨h1, h2⟩ := bound_run (P := P) (w := w) (code := c1) hhi hb hp hxh hd
  refine ⟨h1, ?_⟩
  have h2' : (hi.map a.eval = none ∧ h = d) ∨ ∃ v, hi.map a.eval = some v ∧ (Instr.sliceBound v y c1).run P w = .ok h w := by
    rcases h2 with ⟨rfl, e⟩ | h2
    · exact .inl ⟨rfl, e⟩
    · exact .inr h2
  cases lo with
  | none =>
    simp only [trOX, Option.some.injEq] at hlo
    subst hlo
    simp only [loB, Option.some.injEq, Prod.mk.injEq] at hb2
    obtain ⟨_, rfl⟩ := hb2
    exact ⟨Nat.zero_le _, h2', .inl ⟨rfl, rfl⟩⟩
  | some x =>
    have hl2 : ∃ ax, alo = some ax := by
      simp only [trOX, Option.map_eq_some_iff] at hlo
      obtain ⟨ax, _, rfl⟩ := hlo
      exact ⟨ax, rfl⟩
    obtain ⟨ax, rfl⟩ := hl2
    obtain ⟨g1, g2⟩ := bound_run (P := P) (w := w) (code := c2) (y := h) hlo hb2 hq hxl (Nat.le_refl _)
    rcases g2 with ⟨g2, _⟩ | g2
    · cases g2
    · exact ⟨g1, h2', .inr g2⟩

theorem rep_cut {m : Mem} {sz : Nat} {l : List (List SV)} {A : Option Addr} {cap h n : Nat} (hr : Rep m (.slice A l.length cap) (.dsl sz l)) (hh : h ≤ l.length) (hn : n ≤ h) :
    Rep m (.slice (if cap = n then A else A.map (·.add (n * sz))) (h - n) (cap - n)) (.dsl sz ((l.drop n).take (h - n))) := by
  have hlen : ((l.drop n).take (h - n)).length = h - n := by simp; omega
  rcases Nat.eq_zero_or_pos (h - n) with h0 | h0
  · rw [h0, List.take_zero]
    exact .dsl0 _ _ _
  · generalize hv : Value.slice A l.length cap = v at hr
    cases hr with
    | dsl0 => simp at hh; omega
    | dsl _ _ cap' b off vs g0 g1 g2 g3 g4 g5 g6 =>
      injection hv with e1 e2 e3
      subst e1; subst e3
      have hfl := flat_len g3
      have hrows : ∀ r ∈ (l.drop n).take (h - n), r.length = sz := fun r hr => g3 r (List.mem_of_mem_drop (List.mem_of_mem_take hr))
      have hfl2 : ((l.drop n).take (h - n)).flatten = (l.flatten.drop (n * sz)).take ((h - n) * sz) := by
        rw [flat_take (sz := sz) (fun r hr => g3 r (List.mem_of_mem_drop hr)), flat_drop g3]
      have hmul : (n + (h - n)) * sz ≤ l.length * sz := Nat.mul_le_mul_right _ (by omega)
      rw [Nat.add_mul] at hmul
      rw [if_neg (by omega)]
      simp only [Option.map_some, add_off]
      have hsub : ∀ (j : Nat) (v : Value), ((vs.drop (n * sz)).take ((h - n) * sz))[j]? = some v → vs[n * sz + j]? = some v := by
        intro j v hv
        rw [List.getElem?_take] at hv
        split at hv
        · exact getElem?_drop_some hv
        · cases hv
      have := Rep.dsl (m := m) sz ((l.drop n).take (h - n)) (cap - n) b (off + n * sz) ((vs.drop (n * sz)).take ((h - n) * sz)) (fun v hv => g0 v (List.mem_of_mem_drop (List.mem_of_mem_take hv))) (by omega) (by omega) hrows
        (by rw [flat_len hrows, hlen]; simp only [List.length_take, List.length_drop]; omega) (fun j v hv => by have := g5 _ v (hsub j v hv); rw [Nat.add_assoc]; exact this) (fun j v x hv hx => by
          rw [hfl2, List.getElem?_take] at hx
          split at hx
          · exact g6 _ v x (hsub j v hv) (getElem?_drop_some hx)
          · cases hx)
      rw [hlen] at this
      exact this
theorem slc_sound {t : TypeId} {z : Nat} {xv : Value} {x : SV} {lo hi : Option Operand} {alo ahi : Option AX} {eff : Eff} (hu : ∀ o, U o → E.H o = s.hp[o]?) (hx : RelV E xv x) (hlo : trOX lo = some alo) (hhi : trOX hi = some ahi) (hs : absSlc s z x alo ahi = some eff) (hob : eff.ob)
    (hxl : ∀ y, lo = some y → ∀ ax, trX y = some ax → RelV E (a.eval y) (s.get ax)) (hxh : ∀ y, hi = some y → ∀ ax, trX y = some ax → RelV E (a.eval y) (s.get ax)) (hi1 : ∀ o ∈ idsC x, U o)
    (ht : (∃ e, P.underlying t = some (.slice e) ∧ (P.info? e).isSome ∧ z = P.cellsOf e ∧ 0 < z) ∨ (P.underlying t = some .string ∧ z = 0)) :
    ∃ v, (Instr.sliceAt t xv (lo.map a.eval) (hi.map a.eval) none).run P w = .ok v w ∧ RelV E v eff.val ∧ eff.hp = s.hp ∧ eff.as := by
  cases x with
  | dsl sz l =>
    rcases ht with ⟨e, ht, hinf, rfl, hzp⟩ | ⟨_, rfl⟩
    rotate_left
    · simp [absSlc] at hs
    simp only [absSlc] at hs
    split at hs
    · cases hs
    rename_i hne
    have hse : sz = P.cellsOf e := by omega
    subst hse
    split at hs
    rotate_left
    · cases hs
    rename_i p h hb
    split at hs
    rotate_left
    · cases hs
    rename_i q n hb2
    cases hs
    obtain ⟨hp, hq⟩ := hob
    have hr := hx.closed_rep rfl
    have hshape : ∃ A cap, xv = .slice A l.length cap ∧ l.length ≤ cap := by
      cases hr with
      | dsl0 _ A cap => exact ⟨A, cap, rfl, by simp⟩
      | dsl _ _ cap b off vs g0 g1 => exact ⟨_, cap, rfl, g1⟩
    obtain ⟨A, cap, rfl, hlc⟩ := hshape
    obtain ⟨h1, h2, h3, h4⟩ := bounds_of (P := P) (w := w) (c1 := .sliceAcap) (c2 := .sliceB) hlo hhi hb hb2 hp hq hxl hxh hlc
    exact ⟨_, run_slice ht hinf h3 h4, .rep _ _ (rep_cut hr h1 h2), rfl, trivial⟩
  | osl o g off len =>
    have hU := hi1 o (by simp [idsC])
    rcases ht with ⟨e, ht, hinf, rfl, hzp⟩ | ⟨_, rfl⟩
    rotate_left
    · simp only [absSlc] at hs
      split at hs
      · simp at hs
      · cases hs
    cases hx with
    | rep _ _ hr => cases hr
    | osl _ _ _ _ A m cap ob ho hg hnl hcur =>
    simp only [absSlc] at hs
    rw [← hu o hU, ho] at hs
    simp only at hs
    split at hs
    · cases hs
    rename_i hne
    have hse : ob.sz = P.cellsOf e := by omega
    split at hs
    rotate_left
    · cases hs
    rename_i p h hb
    split at hs
    rotate_left
    · cases hs
    rename_i q n hb2
    cases hs
    obtain ⟨hp, hq⟩ := hob
    obtain ⟨rfl, hlc, hAs⟩ := hnl
    obtain ⟨h1, h2, h3, h4⟩ := bounds_of (P := P) (w := w) (c1 := .sliceAcap) (c2 := .sliceB) hlo hhi hb hb2 hp hq hxl hxh hlc
    refine ⟨_, run_slice ht hinf h3 h4, ?_, rfl, trivial⟩
    refine .osl _ _ _ _ _ _ _ ob ho hg ⟨rfl, by omega, fun hp => ?_⟩ (fun hgg => ?_)
    · obtain ⟨b, j, rfl⟩ := hAs (by omega)
      rw [if_neg (by omega)]
      exact ⟨b, j + n * P.cellsOf e, by simp only [Option.map_some, add_off]⟩
    obtain ⟨hfit, hA⟩ := hcur hgg
    refine ⟨by omega, ?_⟩
    by_cases hcn : cap = n
    · exact .inr (by omega)
    · rcases hA with ⟨rfl, hfit2⟩ | h0
      · rw [if_neg hcn]
        refine .inl ⟨?_, ?_⟩
        · simp only [Option.map_some, add_off]
          rw [Nat.add_mul, hse]
        · rw [show off + n + (cap - n) = off + cap by omega]; exact hfit2
      · omega
  | str b =>
    have hz : z = 0 := by
      rcases Nat.eq_zero_or_pos z with h | h
      · exact h
      · simp [absSlc, show z ≠ 0 by omega] at hs
    rcases ht with ⟨e, ht, hinf, rfl, hzp⟩ | ⟨ht, _⟩
    · omega
    have := str_of hx
    subst this
    simp only [absSlc, hz, ne_eq, not_true_eq_false, if_false] at hs
    split at hs
    rotate_left
    · cases hs
    rename_i p h hb
    split at hs
    rotate_left
    · cases hs
    rename_i q n hb2
    cases hs
    obtain ⟨hp, hq⟩ := hob
    obtain ⟨h1, h2, h3, h4⟩ := bounds_of (P := P) (w := w) (c1 := .sliceAlen) (c2 := .sliceB) hlo hhi hb hb2 hp hq hxl hxh (Nat.le_refl _)
    exact ⟨_, run_slice_str ht h3 h4, .rep _ _ (.str _), rfl, trivial⟩
  | _ => simp [absSlc] at hs
end
end Go.Proofs.Ytadmdmhocglkfaa.Abs
