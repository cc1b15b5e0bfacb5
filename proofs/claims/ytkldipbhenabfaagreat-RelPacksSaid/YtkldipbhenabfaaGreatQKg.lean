/- The packed contexts, in plain Lean: each environment on the way is sound. -/
import Derived.Test.YtkldipbhenabfaaGreatQKf
import Derived.Test.YtkldipbhenabfaaGreatQKe
set_option linter.unusedSimpArgs false
set_option linter.unusedVariables false
namespace Go.Proofs.YtkldipbhenabfaaGreat.Abs
open Go Go.RowKit Go.Proofs.YtkldipbhenabfaaGreat

/-- A plain term, not too high, its free variables below V. -/
def POk (V : Int) (t : Tm) : Prop := TOk t ∧ plainT t = true ∧ hgtT t ≤ 300 ∧ freeR t ≤ V
def VOk (V : Int) (t : Tm) : Prop := ∃ v : Int, t = vr v ∧ 0 ≤ v ∧ v + 1 ≤ V
structure GOk (V : Int) (g : HT) : Prop where
  i : 0 ≤ g.i ∧ g.i ≤ 996
  a : POk V g.a
  b : POk V g.b
  x : VOk V g.x
  y : VOk V g.y
  h : VOk V g.h
theorem lift_pok {V k : Int} (hk : 0 ≤ k) (hk2 : k ≤ 10) (hV0 : 0 ≤ V) (hV : V ≤ 100000) {t : Tm} (h : POk V t) : POk (V + k) (liftF k t) := by
  obtain ⟨h1, h2, h3, h4⟩ := h
  obtain ⟨u, hu⟩ := lift_some k hk t 2 0 V h2 h4 (by omega)
  have e : liftF k t = u := by unfold liftF; rw [hu]; rfl
  rw [e]
  exact ⟨lift_ok k hk t h1 2 0 u h2 hu, lift_right k hk t 2 0 u h2 hu, by have := lift_hgt k t 0 u hu; omega, by have := lift_free k hk t 2 0 u h2 hu; omega⟩
theorem liftF_vr {v k : Int} (hv : 0 ≤ v) (hk : 0 ≤ k) (h : v + k ≤ 2147483647) : liftF k (vr v) = vr (v + k) := by
  unfold liftF vr
  rw [liftT_mk]
  unfold liftI
  rw [if_pos ⟨rfl, hv⟩, if_neg (by omega)]
  rfl
theorem vok_plain {V : Int} (hV : V ≤ 100000) {t : Tm} (h : VOk V t) : POk V t := by
  obtain ⟨v, rfl, h1, h2⟩ := h
  exact ⟨tok_vr (by unfold fit; omega), vr_plain h1 (by omega), by rw [hgt_vr]; omega, by rw [freeR_vr]; omega⟩
theorem lift_vok {V k : Int} (hk : 0 ≤ k) (hk2 : k ≤ 10) (hV : V ≤ 100000) {t : Tm} (h : VOk V t) : VOk (V + k) (liftF k t) := by
  obtain ⟨v, rfl, h1, h2⟩ := h
  rw [liftF_vr h1 hk (by omega)]
  exact ⟨v + k, rfl, by omega, by omega⟩
theorem gok_right {V : Int} (hV : V ≤ 200000) (hV' : V ≤ 100000) {g : HT} (h : GOk V g) : hrightB g = true := by
  have h1 := h.a.2.1
  have h2 := h.b.2.1
  have h3 := (vok_plain hV' h.x).2.1
  have h4 := (vok_plain hV' h.y).2.1
  have h5 := (vok_plain hV' h.h).2.1
  have h6 : lev2 g.i = true := by
    unfold lev2
    have := h.i
    simp; omega
  unfold hrightB
  simp [h1, h2, h3, h4, h5, h6]
theorem gok_ok {V : Int} (hV' : V ≤ 100000) {g : HT} (h : GOk V g) : g.ok ∧ g.low := by
  have h3 := vok_plain hV' h.x
  have h4 := vok_plain hV' h.y
  have h5 := vok_plain hV' h.h
  refine ⟨⟨by have := h.i; unfold fit; omega, h.a.1, h.b.1, h3.1, h4.1, h5.1⟩, ⟨?_, ?_, ?_, ?_, ?_⟩⟩
  · have := h.a.2.2.1; omega
  · have := h.b.2.2.1; omega
  · have := h3.2.2.1; omega
  · have := h4.2.2.1; omega
  · have := h5.2.2.1; omega
theorem lift_gok {V : Int} (hV0 : 0 ≤ V) (hV : V ≤ 90000) {g : HT} (h : GOk V g) : GOk (V + 3) (liftHF 3 g) := by
  have hG : GOk (V + 3) (liftG 3 g) := ⟨h.i, lift_pok (by decide) (by decide) hV0 (by omega) h.a, lift_pok (by decide) (by decide) hV0 (by omega) h.b, lift_vok (by decide) (by decide) (by omega) h.x, lift_vok (by decide) (by decide) (by omega) h.y, lift_vok (by decide) (by decide) (by omega) h.h⟩
  have e : liftHF 3 g = liftG 3 g := by
    unfold liftHF
    rw [if_pos (by rw [gok_right (by omega) (by omega) h, gok_right (by omega) (by omega) hG]; rfl)]
  rw [e]
  exact hG
def EnvOk (V : Int) (E : List HT) (x : Nat) : Prop := E.length = x ∧ ∀ g ∈ E, GOk V g
theorem env_three {V : Int} (hV0 : 0 ≤ V) (hV : V ≤ 90000) {E : List HT} {x : Nat} (hE : EnvOk V E x) {i : Int} (hi : 0 ≤ i ∧ i ≤ 996) {a b : Tm} (ha : POk V a) (hb : POk V b) : EnvOk (V + 3) (threeF E i a b) (x + 1) := by
  refine ⟨by unfold threeF; simp [hE.1], fun g hg => ?_⟩
  unfold threeF at hg
  rcases List.mem_append.1 hg with hg | hg
  · obtain ⟨u, hu, rfl⟩ := List.mem_map.1 hg
    exact lift_gok hV0 hV (hE.2 u hu)
  · rcases List.mem_singleton.1 hg with rfl
    exact ⟨hi, lift_pok (by decide) (by decide) hV0 (by omega) ha, lift_pok (by decide) (by decide) hV0 (by omega) hb, ⟨2, rfl, by omega, by omega⟩, ⟨1, rfl, by omega, by omega⟩, ⟨0, rfl, by omega, by omega⟩⟩
theorem env_vars {V : Int} {E : List HT} {x : Nat} (hE : EnvOk V E x) (r : Bool) : VarL V (sideL E r) := by
  intro u hu
  unfold sideL at hu
  obtain ⟨g, hg, rfl⟩ := List.mem_map.1 hu
  have := hE.2 g (List.mem_reverse.1 hg)
  cases r
  · exact this.x
  · exact this.y
theorem side_pok {V : Int} (hV0 : 0 ≤ V) (hV : V ≤ 90000) {E : List HT} {x : Nat} (hE : EnvOk V E x) (r : Bool) {t : Tm} (ht : TOk t) (hm : markT t = true) (hh : hgtT t ≤ 300) (hf : freeR t ≤ x) : POk V (sideT (sideL E r) (stripT t)) := by
  obtain ⟨s1, s2, s3⟩ := strip_of t ht hm
  have s4 := free_strip t hm
  obtain ⟨v, hv1, hv2, hv3, hv4, hv5⟩ := all_of_vars (env_vars hE r) hV0 (by omega) (stripT t) s2 2 0 s1 (by omega) (by omega) (by rw [sideL_len, hE.1]; omega)
  unfold sideT
  rw [hv1, Option.getD_some]
  exact ⟨hv2, hv3, by omega, by omega⟩

/-- A type of c, a type of d, in an environment. -/
def aP (E : List HT) (c : En) : Tm := sideT (sideL E false) (stripT c.a)
def bP (E : List HT) (d : En) : Tm := sideT (sideL E true) (stripT d.a)
def envP (C D : List En) : Nat → List HT
  | 0 => []
  | x + 1 => threeF (envP C D x) (C[x]?.getD default).i (aP (envP C D x) (C[x]?.getD default)) (bP (envP C D x) (D[x]?.getD default))
def outP (C D : List En) : Nat → List Tm
  | 0 => []
  | x + 1 => outP C D x ++ [aP (envP C D x) (C[x]?.getD default), liftF 1 (bP (envP C D x) (D[x]?.getD default)), toldF (C[x]?.getD default).i (aP (envP C D x) (C[x]?.getD default)) (bP (envP C D x) (D[x]?.getD default))]
theorem outP_len (C D : List En) : ∀ x, (outP C D x).length = 3 * x := by
  intro x
  induction x with
  | zero => rfl
  | succ x ih => rw [outP, List.length_append, ih]; simp; omega
/-- Contexts that are looked at. -/
def CtxLo (C : List En) : Prop := CtxOk C ∧ C.length ≤ 40 ∧ ∀ e ∈ C, hgtT e.a ≤ 201
theorem good_ent {C : List En} (hL : CtxLo C) (hg : goodC C = true) {x : Nat} (hx : x < C.length) : TOk (C[x]?.getD default).a ∧ fit (C[x]?.getD default).i ∧ markT (C[x]?.getD default).a = true ∧ freeR (C[x]?.getD default).a ≤ (x : Int) ∧ hgtT (C[x]?.getD default).a ≤ 201 ∧ 0 ≤ (C[x]?.getD default).i ∧ (C[x]?.getD default).i ≤ 996 := by
  obtain ⟨hR, hlow⟩ := good_ctx hg
  have hm := get_lt (d := default) hx
  obtain ⟨⟨oa, oi⟩, _⟩ := hL.1.2 _ hm
  have he := ctx_at hR hx
  obtain ⟨e1, e2⟩ := ent_mark he
  unfold entB at he
  rw [Bool.and_eq_true] at he
  have hl := levq_le he.1
  have hlo := List.all_eq_true.1 hlow _ hm
  unfold lowE at hlo
  rw [Bool.and_eq_true, decide_eq_true_eq] at hlo
  exact ⟨oa, oi, e1, e2, hL.2.2 _ hm, hl.1, hlo.1⟩
theorem env_ok {C D : List En} (hC : CtxLo C) (hD : CtxLo D) (gC : goodC C = true) (gD : goodC D = true) (hl : C.length = D.length) : ∀ x, x ≤ C.length → EnvOk (3 * x) (envP C D x) x := by
  intro x
  induction x with
  | zero => intro _; exact ⟨rfl, fun g hg => by cases hg⟩
  | succ x ih =>
    intro hx
    have hE := ih (by omega)
    obtain ⟨c1, c2, c3, c4, c5, c6, c7⟩ := good_ent hC gC (show x < C.length by omega)
    obtain ⟨d1, d2, d3, d4, d5, d6, d7⟩ := good_ent hD gD (show x < D.length by omega)
    have h40 := hC.2.1
    rw [envP]
    have := env_three (V := 3 * x) (by omega) (by omega) hE ⟨c6, c7⟩ (side_pok (by omega) (by omega) hE false c1 c3 (by omega) c4) (side_pok (by omega) (by omega) hE true d1 d3 (by omega) d4)
    rw [show (3 : Int) * ((x + 1 : Nat) : Int) = 3 * x + 3 by omega]
    exact this
noncomputable def packOK (C D : List En) : Bool := goodC C && (goodC D && eqC (C.map eraE) (D.map eraE))
theorem era_len {C D : List En} (h : eqC (C.map eraE) (D.map eraE) = true) : C.length = D.length := by
  by_cases e : C.map eraE = D.map eraE
  · have := congrArg List.length e
    simpa using this
  · rw [eqC_ne e] at h
    cases h
theorem tok_told {V : Int} (hV : V ≤ 100000) {i : Int} (hi : fit i) {a b : Tm} (ha : POk V a) (hb : POk V b) (hV0 : 0 ≤ V) : TOk (toldF i a b) := by
  unfold toldF
  exact tok_us (by unfold fit; omega) hi (by unfold fit; omega) (by simp) (by simp [(lift_pok (k := 2) (by decide) (by decide) hV0 hV ha).1, (lift_pok (k := 2) (by decide) (by decide) hV0 hV hb).1, tok_vr (i := 0) (by unfold fit; omega), tok_vr (i := 1) (by unfold fit; omega)])
theorem ok_era {C : List En} (h : ∀ e ∈ C, e.ok) : ∀ e ∈ C.map eraE, e.ok := by
  intro e he
  obtain ⟨c, hc, rfl⟩ := List.mem_map.1 he
  exact ⟨tok_eraF (h c hc).a, (h c hc).i⟩
/-- What Pack comes to. -/
noncomputable def packR (C D : List En) : SV := if packOK C D then .tup [.dsl 5 ((outP C D C.length).map tv), .dsl 26 ((envP C D C.length).map HT.v), .bool true] else .tup [.dsl 5 [], .dsl 26 [], .bool false]
theorem le_pack0 : Le (.tup [.nils, .nils, .bool false]) (.tup [.dsl 5 [], .dsl 26 [], .bool false]) :=
  .tup _ _ (.cons _ _ _ _ (.cell _ _ (.nils 5)) (.cons _ _ _ _ (.cell _ _ (.nils 26)) (.cons _ _ _ _ (.cell _ _ (.refl _)) .nil)))
end Go.Proofs.YtkldipbhenabfaaGreat.Abs

