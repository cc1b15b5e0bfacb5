/- The packed contexts, in plain Lean: each environment on the way is sound. -/
import Derived.Test.YtkldipbhenabfaaGreatRKf
import Derived.Test.YtkldipbhenabfaaGreatRKe
set_option linter.unusedSimpArgs false
set_option linter.unusedVariables false
namespace Go.Proofs.YtkldipbhenabfaaGreat.Abs
open Go Go.RowKit Go.Proofs.YtkldipbhenabfaaGreat

def POk (V : Int) (t : Tm) : Prop := TOk t ∧ plainT t = true ∧ hgtT t ≤ 300 ∧ freeR t ≤ V
def VOk (V : Int) (t : Tm) : Prop := ∃ v : Int, t = vr v ∧ 0 ≤ v ∧ v + 1 ≤ V
structure GOk (V : Int) (g : HT) : Prop where
  i : 0 ≤ g.i ∧ g.i ≤ 996
  a : POk V g.a
  b : POk V g.b
  x : VOk V g.x
  y : VOk V g.y
  h : VOk V g.h
theorem lift_pok {V k : Int} (hk : 0 ≤ k) (hk2 : k ≤ 10) (hV0 : 0 ≤ V) (hV : V ≤ 100000) {t : Tm} (h : POk V t) : POk (V + k) (liftF k t) := by
  obtain ⟨h1, h2, h3, h4⟩ := h
  obtain ⟨u, hu⟩ := lift_some k hk t 2 0 V h2 h4 (by omega)
  have e : liftF k t = u := by unfold liftF; rw [hu]; rfl
  rw [e]
  exact ⟨lift_ok k hk t h1 2 0 u h2 hu, lift_right k hk t 2 0 u h2 hu, by have := lift_hgt k t 0 u hu; omega, by have := lift_free k hk t 2 0 u h2 hu; omega⟩
theorem liftF_vr {v k : Int} (hv : 0 ≤ v) (hk : 0 ≤ k) (h : v + k ≤ 2147483647) : liftF k (vr v) = vr (v + k) := by
  unfold liftF vr
  rw [liftT_mk]
  unfold liftI
  rw [if_pos ⟨rfl, hv⟩, if_neg (by omega)]
  rfl
theorem vok_plain {V : Int} (hV : V ≤ 100000) {t : Tm} (h : VOk V t) : POk V t := by
  obtain ⟨v, rfl, h1, h2⟩ := h
  exact ⟨tok_vr (by unfold fit; omega), vr_plain h1 (by omega), by rw [hgt_vr]; omega, by rw [freeR_vr]; omega⟩
theorem lift_vok {V k : Int} (hk : 0 ≤ k) (hk2 : k ≤ 10) (hV : V ≤ 100000) {t : Tm} (h : VOk V t) : VOk (V + k) (liftF k t) := by
  obtain ⟨v, rfl, h1, h2⟩ := h
  rw [liftF_vr h1 hk (by omega)]
  exact ⟨v + k, rfl, by omega, by omega⟩
def EnvOk (V : Int) (E : List HT) (x : Nat) : Prop := E.length = x ∧ ∀ g ∈ E, GOk V g
def aP (E : List HT) (c : En) : Tm := sideT (sideL E false) (stripT c.a)
def bP (E : List HT) (d : En) : Tm := sideT (sideL E true) (stripT d.a)
def envP (C D : List En) : Nat → List HT
  | 0 => []
  | x + 1 => threeF (envP C D x) (C[x]?.getD default).i (aP (envP C D x) (C[x]?.getD default)) (bP (envP C D x) (D[x]?.getD default))
def outP (C D : List En) : Nat → List Tm
  | 0 => []
  | x + 1 => outP C D x ++ [aP (envP C D x) (C[x]?.getD default), liftF 1 (bP (envP C D x) (D[x]?.getD default)), toldF (C[x]?.getD default).i (aP (envP C D x) (C[x]?.getD default)) (bP (envP C D x) (D[x]?.getD default))]
def CtxLo (C : List En) : Prop := CtxOk C ∧ C.length ≤ 40 ∧ ∀ e ∈ C, hgtT e.a ≤ 201
theorem good_ent {C : List En} (hL : CtxLo C) (hg : goodC C = true) {x : Nat} (hx : x < C.length) : TOk (C[x]?.getD default).a ∧ fit (C[x]?.getD default).i ∧ markT (C[x]?.getD default).a = true ∧ freeR (C[x]?.getD default).a ≤ (x : Int) ∧ hgtT (C[x]?.getD default).a ≤ 201 ∧ 0 ≤ (C[x]?.getD default).i ∧ (C[x]?.getD default).i ≤ 996 := by
  obtain ⟨hR, hlow⟩ := good_ctx hg
  have hm := get_lt (d := default) hx
  obtain ⟨⟨oa, oi⟩, _⟩ := hL.1.2 _ hm
  have he := ctx_at hR hx
  obtain ⟨e1, e2⟩ := ent_mark he
  unfold entB at he
  rw [Bool.and_eq_true] at he
  have hl := levq_le he.1
  have hlo := List.all_eq_true.1 hlow _ hm
  unfold lowE at hlo
  rw [Bool.and_eq_true, decide_eq_true_eq] at hlo
  exact ⟨oa, oi, e1, e2, hL.2.2 _ hm, hl.1, hlo.1⟩
noncomputable def packOK (C D : List En) : Bool := goodC C && (goodC D && eqC (C.map eraE) (D.map eraE))
theorem tok_told {V : Int} (hV : V ≤ 100000) {i : Int} (hi : fit i) {a b : Tm} (ha : POk V a) (hb : POk V b) (hV0 : 0 ≤ V) : TOk (toldF i a b) := by
  unfold toldF
  exact tok_us (by unfold fit; omega) hi (by unfold fit; omega) (by simp) (by simp [(lift_pok (k := 2) (by decide) (by decide) hV0 hV ha).1, (lift_pok (k := 2) (by decide) (by decide) hV0 hV hb).1, tok_vr (i := 0) (by unfold fit; omega), tok_vr (i := 1) (by unfold fit; omega)])
noncomputable def packR (C D : List En) : SV := if packOK C D then .tup [.dsl 5 ((outP C D C.length).map tv), .dsl 26 ((envP C D C.length).map HT.v), .bool true] else .tup [.dsl 5 [], .dsl 26 [], .bool false]
end Go.Proofs.YtkldipbhenabfaaGreat.Abs

