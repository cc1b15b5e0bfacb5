/- rel's alike comes to something, for all related terms of an environment. Printed by genLe.py. -/
import Derived.Test.YtkldipbhenabfaaGreatRLc
import Derived.Test.YtkldipbhenabfaaGreatRLd
set_option linter.unusedSimpArgs false
set_option linter.unusedVariables false
namespace Go.Proofs.YtkldipbhenabfaaGreat.Abs
open Go Go.RowKit Go.Proofs.YtkldipbhenabfaaGreat

structure KOk (n : Int) (N : Nat) (a b : Tm) : Prop where
  oa : TOk a
  ob : TOk b
  ma : markT a = true
  mb : markT b = true
  e : eraseT a = eraseT b
  fa : freeR a ≤ n
  fb : freeR b ≤ n
  la : lowT 996 a = true
  lb : lowT 996 b = true
  s : sizT a + sizT b ≤ N
theorem low_kid {k i j n : Int} {l : List Tm} (h : lowT 996 (.mk k i j n l) = true) {t : Tm} (ht : t ∈ l) : lowT 996 t = true := by
  rw [lowT_mk, Bool.and_eq_true, List.all_eq_true] at h
  exact h.2 t ht
theorem low_num {k i j n : Int} {l : List Tm} (h : lowT 996 (.mk k i j n l) = true) (hk : k ≠ 2) : i ≤ 996 ∧ j ≤ 996 := by
  rw [lowT_mk, Bool.and_eq_true] at h
  have h1 := h.1
  unfold lowN at h1
  rw [show (k != 2) = true by simp [hk], Bool.true_and] at h1
  simp only [Bool.not_eq_true', Bool.or_eq_false_iff, decide_eq_false_iff_not] at h1
  omega
theorem kok_kid {n : Int} {N : Nat} {k i j m : Int} {l l' : List Tm} (h : KOk n (N + 1) (.mk k i j m l) (.mk k i j m l')) (hk2 : k ≠ 2) (hk : k ≠ 12) (x : Nat) (hx : x < l.length) : KOk (n + bindsN k (x : Nat)) N (l[x]?.getD default) (l'[x]?.getD default) := by
  have he := h.e
  rw [eraseT_no hk, eraseT_no hk] at he
  have hm : l.map eraseT = l'.map eraseT := by injection he
  have hlen : l.length = l'.length := by have := congrArg List.length hm; simpa using this
  have hx' : x < l'.length := by omega
  have m1 := get_lt (d := default) hx
  have m2 := get_lt (d := default) hx'
  obtain ⟨_, _, _, _, _, o1⟩ := tok_of h.oa
  obtain ⟨_, _, _, _, _, o2⟩ := tok_of h.ob
  have f1 := free_kid (i := i) (j := j) (n := m) hk2 hx
  have f2 := free_kid (i := i) (j := j) (n := m) hk2 hx'
  have f3 := h.fa
  have f4 := h.fb
  have s1 := siz_mem m1
  have s2 := siz_mem m2
  have s3 := h.s
  rw [sizT_mk, sizT_mk] at s3
  refine ⟨o1 _ m1, o2 _ m2, mark_kid h.ma hk m1, mark_kid h.mb hk m2, ?_, by omega, by omega, low_kid h.la m1, low_kid h.lb m2, by omega⟩
  have := congrArg (fun z => z[x]?) hm
  simp only [List.getElem?_map, List.getElem?_eq_getElem hx, List.getElem?_eq_getElem hx', Option.map_some, Option.some.injEq] at this
  rw [List.getElem?_eq_getElem hx, List.getElem?_eq_getElem hx']
  exact this
def AlikeEx (N : Nat) : Prop := ∀ (a b : Tm) (E : List HT) (n : Nat) (V : Int), KOk n N a b → EA V n E → n + N ≤ 800 → 0 ≤ V → V + 3 * N ≤ 80000 →
  ∃ h : HT, HOk (300 + N) h ∧ Con 81 [.dsl 26 (E.map HT.v), .agg true (tv a), .agg true (tv b)] (.agg true h.v)
section
variable {E : List HT} {n : Nat} {V : Int}
abbrev sd (E : List HT) (r : Bool) (t : Tm) : Tm := sideT (sideL E r) (stripT t)
theorem hgt_sz {t : Tm} {M : Nat} (h : sizT t ≤ M) : hgtT t ≤ M := Nat.le_trans (hgt_le_siz t) h
theorem sd_left (hE : EA V n E) (hV0 : 0 ≤ V) (hV : V ≤ 80000) (hn : n ≤ 800) {t : Tm} (ht : TOk t) (hm : markT t = true) (hs : sizT t ≤ 300) (hf : freeR t ≤ n) :
    POk V (sd E false t) ∧ Con 31 [.dsl 26 (E.map HT.v), .agg true (tv t)] (.agg true (tv (sd E false t))) := by
  have hh := hgt_sz hs
  exact ⟨sd_ok hV0 (by omega) (ea_vars hE false) ht hm hh (by rw [sideL_len, hE.1]; exact hf), con_left E V hV0 (by omega) (ea_vars hE false) (by rw [hE.1]; omega) t ht hm (by omega) (by rw [hE.1]; exact hf)⟩
theorem sd_right (hE : EA V n E) (hV0 : 0 ≤ V) (hV : V ≤ 80000) (hn : n ≤ 800) {t : Tm} (ht : TOk t) (hm : markT t = true) (hs : sizT t ≤ 300) (hf : freeR t ≤ n) :
    POk V (sd E true t) ∧ Con 32 [.dsl 26 (E.map HT.v), .agg true (tv t)] (.agg true (tv (sd E true t))) := by
  have hh := hgt_sz hs
  exact ⟨sd_ok hV0 (by omega) (ea_vars hE true) ht hm hh (by rw [sideL_len, hE.1]; exact hf), con_rgt E V hV0 (by omega) (ea_vars hE true) (by rw [hE.1]; omega) t ht hm (by omega) (by rw [hE.1]; exact hf)⟩
theorem below_len (E : List HT) : (belowR E).length = E.length + 1 := by simp [belowR]
theorem below_lenS (E : List HT) (r : Bool) : (sideL (belowE E) r).length = (belowR E).length := by rw [sideL_len, below_len]; simp [belowE]
theorem bl_left (hE : EA V n E) (hV0 : 0 ≤ V) (hV : V ≤ 80000) (hn : n ≤ 800) {t : Tm} (ht : TOk t) (hm : markT t = true) (hs : sizT t ≤ 300) (hf : freeR t ≤ n + 1) :
    POk (V + 1) (sd (belowE E) false t) ∧ Con 31 [.dsl 26 (belowR E), .agg true (tv t)] (.agg true (tv (sd (belowE E) false t))) := by
  have hh := hgt_sz hs
  have hl := hE.1
  exact ⟨sd_ok (by omega) (by omega) (below_vars hV0 (by omega) hE false) ht hm hh (by rw [below_lenS, below_len]; omega), con_leftR (belowR E) _ (V + 1) (by omega) (by omega) (below_vars hV0 (by omega) hE false) (below_lenS E false) (by rw [below_len]; omega) (fun x hx => below_side E false x (by rw [below_len] at hx; exact hx)) t ht hm (by omega) (by rw [below_len]; omega)⟩
theorem bl_right (hE : EA V n E) (hV0 : 0 ≤ V) (hV : V ≤ 80000) (hn : n ≤ 800) {t : Tm} (ht : TOk t) (hm : markT t = true) (hs : sizT t ≤ 300) (hf : freeR t ≤ n + 1) :
    POk (V + 1) (sd (belowE E) true t) ∧ Con 32 [.dsl 26 (belowR E), .agg true (tv t)] (.agg true (tv (sd (belowE E) true t))) := by
  have hh := hgt_sz hs
  have hl := hE.1
  exact ⟨sd_ok (by omega) (by omega) (below_vars hV0 (by omega) hE true) ht hm hh (by rw [below_lenS, below_len]; omega), con_rgtR (belowR E) _ (V + 1) (by omega) (by omega) (below_vars hV0 (by omega) hE true) (below_lenS E true) (by rw [below_len]; omega) (fun x hx => below_side E true x (by rw [below_len] at hx; exact hx)) t ht hm (by omega) (by rw [below_len]; omega)⟩
end
theorem tok_toldF {V : Int} (hV0 : 0 ≤ V) (hV : V ≤ 90000) {i : Int} (hi : fit i) {a b : Tm} (ha : POk V a) (hb : POk V b) : TOk (toldF i a b) := tok_told (by omega) hi ha hb hV0
theorem tok_lamsF {V : Int} (hV0 : 0 ≤ V) (hV : V ≤ 90000) {i : Int} (hi : fit i) {a c t : Tm} (ha : POk V a) (hc : POk V c) (ht : TOk t) : TOk (lamsF i a c t) := by
  unfold lamsF
  exact tok_k (by unfold fit; omega) (by simp) (by simp [ha.1, tok_k (k := 14) (by unfold fit; omega) (by simp) (show ∀ x ∈ [liftF 1 c, Tm.mk 14 0 0 0 [toldF i a c, t]], TOk x by simp [(lift_pok (k := 1) (by decide) (by decide) hV0 (by omega) hc).1, tok_k (k := 14) (by unfold fit; omega) (by simp) (show ∀ x ∈ [toldF i a c, t], TOk x by simp [tok_toldF hV0 hV hi ha hc, ht])])])
theorem con_lamsP {V : Int} (i : Int) {a c t : Tm} (ha : POk V a) (hc : POk V c) (ht : TOk t) : Con 134 [.int .i64 i, .agg true (tv a), .agg true (tv c), .agg true (tv t)] (.agg true (tv (lamsF i a c t))) :=
  con_lams i a c t ha.1 hc.1 ht ha.2.1 hc.2.1 (by have := ha.2.2.1; omega) (by have := hc.2.2.1; omega)
theorem con_threeP {E : List HT} {n : Nat} {V : Int} (hE : EA V n E) (hV : V ≤ 80000) (hn : n ≤ 800) (i : Int) {a b : Tm} (ha : POk V a) (hb : POk V b) : Con 36 [.dsl 26 (E.map HT.v), .int .i64 i, .agg true (tv a), .agg true (tv b)] (.dsl 26 ((threeF E i a b).map HT.v)) :=
  con_three E (fun g hg => gb_ok (V := V) (by omega) (hE.2 g hg)) (by rw [hE.1]; omega) i a b ha.1 hb.1 ha.2.1 hb.2.1 (by have := ha.2.2.1; omega) (by have := hb.2.2.1; omega)
theorem con_beneathP {E : List HT} {n : Nat} {V : Int} (hE : EA V n E) (hV : V ≤ 80000) (hn : n ≤ 800) : Con 133 [.dsl 26 (E.map HT.v)] (.dsl 26 (belowR E)) :=
  con_beneath E (fun g hg => gb_ok (V := V) (by omega) (hE.2 g hg)) (by rw [hE.1]; omega)
theorem rows_a (k i j : Int) (l : List Tm) : tv (.mk k i j 0 l) = [.int .i64 k, .int .i64 i, .int .i64 j, .int .i64 0, .dsl 5 (l.map tv)] := tv_mk ..
theorem shp_b {k i j : Int} {l : List Tm} {b : Tm} (hk : k ≠ 12) (hkb : b.k ≠ 12) (he : eraseT (.mk k i j 0 l) = eraseT b) : ∃ l', b = .mk k i j 0 l' ∧ l'.length = l.length := by
  cases b with
  | mk k' i' j' n' l' =>
  change k' ≠ 12 at hkb
  rw [eraseT_no hk, eraseT_no hkb] at he
  injection he with e1 e2 e3 e4 e5
  subst e1 e2 e3 e4
  refine ⟨l', rfl, ?_⟩
  have := congrArg List.length e5
  simpa using this.symm

set_option maxHeartbeats 2000000 in
theorem ex_3 {N : Nat} (ih : AlikeEx N) {E : List HT} {n : Nat} {V : Int} {i j : Int} {a0 a1 b0 b1 : Tm} (hi : 0 ≤ i ∧ i ≤ 996) (hj : 0 ≤ j ∧ j ≤ 996)
    (K : KOk n (N + 1) (.mk 3 i j 0 [a0, a1]) (.mk 3 i j 0 [b0, b1])) (hE : EA V n E) (hn : n + (N + 1) ≤ 800) (hV0 : 0 ≤ V) (hV : V + 3 * ((N + 1 : Nat) : Int) ≤ 80000) (hN : N ≤ 200) :
    ∃ h : HT, HOk (300 + (N + 1)) h ∧ Con 81 [.dsl 26 (E.map HT.v), .agg true (tv (.mk 3 i j 0 [a0, a1])), .agg true (tv (.mk 3 i j 0 [b0, b1]))] (.agg true h.v) := by
  have k0 : KOk ((n : Int) + 0) N a0 b0 := kok_kid K (by decide) (by decide) 0 (by simp)
  have k1 : KOk ((n : Int) + 1) N a1 b1 := kok_kid K (by decide) (by decide) 1 (by simp)
  rw [Int.add_zero] at k0
  have fi : fit i := by unfold fit; omega
  have fj : fit j := by unfold fit; omega
  obtain ⟨p1, c1⟩ := sd_left hE hV0 (by omega) (by omega) k0.oa k0.ma (by have := k0.s; omega) k0.fa
  obtain ⟨p2, c2⟩ := sd_right hE hV0 (by omega) (by omega) k0.ob k0.mb (by have := k0.s; omega) k0.fb
  obtain ⟨h0, q0, c3⟩ := ih a0 b0 E n V k0 hE (by omega) hV0 (by omega)
  have c4 := con_hEq h0 q0.ok
  have c5 := con_beneathP hE (by omega) (by omega)
  have c6 := con_threeP hE (by omega) (by omega) i p1 p2
  have hE3 := ea_three hV0 (by omega) hE (show 0 ≤ i ∧ i ≤ 998 by omega) (pok_pbk p1) (pok_pbk p2)
  obtain ⟨p3, c7⟩ := bl_left hE hV0 (by omega) (by omega) k1.oa k1.ma (by have := k1.s; omega) k1.fa
  obtain ⟨p4, c8⟩ := bl_right hE hV0 (by omega) (by omega) k1.ob k1.mb (by have := k1.s; omega) k1.fb
  obtain ⟨h1, q1, c9⟩ := ih a1 b1 _ (n + 1) (V + 3) k1 hE3 (by omega) (by omega) (by omega)
  have d1 := con_hEq h1 q1.ok
  have d2 := con_lamsP i p1 p2 (tok_eqF q1.ok)
  have hf : FT.ok ⟨i, j, sd E false a0, sd E true b0, sd (belowE E) false a1, sd (belowE E) true b1, eqF h0, lamsF i (sd E false a0) (sd E true b0) (eqF h1)⟩ := ⟨fi, fj, p1.1, p2.1, p3.1, p4.1, tok_eqF q0.ok, tok_lamsF hV0 (by omega) fi p1 p2 (tok_eqF q1.ok)⟩
  have d3 := con_cPi _ hf
  obtain ⟨pl, cl⟩ := sd_left hE hV0 (by omega) (by omega) K.oa K.ma (by have := K.s; omega) K.fa
  obtain ⟨pr, cr⟩ := sd_right hE hV0 (by omega) (by omega) K.ob K.mb (by have := K.s; omega) K.fb
  have mm : 0 ≤ mxI i j ∧ mxI i j ≤ 1000 := mx_le (by omega) (by omega)
  have d4 := con_relTypes (E.map HT.v) (mxI i j) _ _ _ _ _ mm pl.1 pr.1 (tok_piF hf) (tv_len _) (tv_len _) cl cr
  have hR := hok_of (i := mxI i j + 1) (a := so (mxI i j)) (M := 300) (by omega) (tok_so (by unfold fit; omega)) pl.1 pr.1 (tok_piF hf) pl.2.2.1 pr.2.2.1
  refine ⟨_, hR.mono (by omega), ?_⟩
  rw [rows_a, rows_a] at d4 ⊢
  exact alike_fam _ _ _ 3 i j 0 3 i j 0 _ (by decide) (by decide) (family_3 _ _ _ i j _ _ _ _ _ _ _ _ _ _ _ _ h0 h1 _ c1 c2 c3 c4 c5 c6 c7 c8 c9 d1 d2 d3 d4)

set_option maxHeartbeats 2000000 in
theorem ex_6 {N : Nat} (ih : AlikeEx N) {E : List HT} {n : Nat} {V : Int} {i j : Int} {a0 a1 b0 b1 : Tm} (hi : 0 ≤ i ∧ i ≤ 996) (hj : 0 ≤ j ∧ j ≤ 996)
    (K : KOk n (N + 1) (.mk 6 i j 0 [a0, a1]) (.mk 6 i j 0 [b0, b1])) (hE : EA V n E) (hn : n + (N + 1) ≤ 800) (hV0 : 0 ≤ V) (hV : V + 3 * ((N + 1 : Nat) : Int) ≤ 80000) (hN : N ≤ 200) :
    ∃ h : HT, HOk (300 + (N + 1)) h ∧ Con 81 [.dsl 26 (E.map HT.v), .agg true (tv (.mk 6 i j 0 [a0, a1])), .agg true (tv (.mk 6 i j 0 [b0, b1]))] (.agg true h.v) := by
  have k0 : KOk ((n : Int) + 0) N a0 b0 := kok_kid K (by decide) (by decide) 0 (by simp)
  have k1 : KOk ((n : Int) + 1) N a1 b1 := kok_kid K (by decide) (by decide) 1 (by simp)
  rw [Int.add_zero] at k0
  have fi : fit i := by unfold fit; omega
  have fj : fit j := by unfold fit; omega
  obtain ⟨p1, c1⟩ := sd_left hE hV0 (by omega) (by omega) k0.oa k0.ma (by have := k0.s; omega) k0.fa
  obtain ⟨p2, c2⟩ := sd_right hE hV0 (by omega) (by omega) k0.ob k0.mb (by have := k0.s; omega) k0.fb
  obtain ⟨h0, q0, c3⟩ := ih a0 b0 E n V k0 hE (by omega) hV0 (by omega)
  have c4 := con_hEq h0 q0.ok
  have c5 := con_beneathP hE (by omega) (by omega)
  have c6 := con_threeP hE (by omega) (by omega) i p1 p2
  have hE3 := ea_three hV0 (by omega) hE (show 0 ≤ i ∧ i ≤ 998 by omega) (pok_pbk p1) (pok_pbk p2)
  obtain ⟨p3, c7⟩ := bl_left hE hV0 (by omega) (by omega) k1.oa k1.ma (by have := k1.s; omega) k1.fa
  obtain ⟨p4, c8⟩ := bl_right hE hV0 (by omega) (by omega) k1.ob k1.mb (by have := k1.s; omega) k1.fb
  obtain ⟨h1, q1, c9⟩ := ih a1 b1 _ (n + 1) (V + 3) k1 hE3 (by omega) (by omega) (by omega)
  have d1 := con_hEq h1 q1.ok
  have d2 := con_lamsP i p1 p2 (tok_eqF q1.ok)
  have hf : FT.ok ⟨i, j, sd E false a0, sd E true b0, sd (belowE E) false a1, sd (belowE E) true b1, eqF h0, lamsF i (sd E false a0) (sd E true b0) (eqF h1)⟩ := ⟨fi, fj, p1.1, p2.1, p3.1, p4.1, tok_eqF q0.ok, tok_lamsF hV0 (by omega) fi p1 p2 (tok_eqF q1.ok)⟩
  have d3 := con_cSig _ hf
  obtain ⟨pl, cl⟩ := sd_left hE hV0 (by omega) (by omega) K.oa K.ma (by have := K.s; omega) K.fa
  obtain ⟨pr, cr⟩ := sd_right hE hV0 (by omega) (by omega) K.ob K.mb (by have := K.s; omega) K.fb
  have mm : 0 ≤ mxI i j ∧ mxI i j ≤ 1000 := mx_le (by omega) (by omega)
  have d4 := con_relTypes (E.map HT.v) (mxI i j) _ _ _ _ _ mm pl.1 pr.1 (tok_sigF hf) (tv_len _) (tv_len _) cl cr
  have hR := hok_of (i := mxI i j + 1) (a := so (mxI i j)) (M := 300) (by omega) (tok_so (by unfold fit; omega)) pl.1 pr.1 (tok_sigF hf) pl.2.2.1 pr.2.2.1
  refine ⟨_, hR.mono (by omega), ?_⟩
  rw [rows_a, rows_a] at d4 ⊢
  exact alike_fam _ _ _ 6 i j 0 6 i j 0 _ (by decide) (by decide) (family_6 _ _ _ i j _ _ _ _ _ _ _ _ _ _ _ _ h0 h1 _ c1 c2 c3 c4 c5 c6 c7 c8 c9 d1 d2 d3 d4)

set_option maxHeartbeats 2000000 in
theorem ex_4 {N : Nat} (ih : AlikeEx N) {E : List HT} {n : Nat} {V : Int} {i j : Int} {a0 a1 a2 b0 b1 b2 : Tm} (hi : 0 ≤ i ∧ i ≤ 996) (hj : 0 ≤ j ∧ j ≤ 996)
    (K : KOk n (N + 1) (.mk 4 i j 0 [a0, a1, a2]) (.mk 4 i j 0 [b0, b1, b2])) (hE : EA V n E) (hn : n + (N + 1) ≤ 800) (hV0 : 0 ≤ V) (hV : V + 3 * ((N + 1 : Nat) : Int) ≤ 80000) (hN : N ≤ 200) :
    ∃ h : HT, HOk (300 + (N + 1)) h ∧ Con 81 [.dsl 26 (E.map HT.v), .agg true (tv (.mk 4 i j 0 [a0, a1, a2])), .agg true (tv (.mk 4 i j 0 [b0, b1, b2]))] (.agg true h.v) := by
  have k0 : KOk ((n : Int) + 0) N a0 b0 := kok_kid K (by decide) (by decide) 0 (by simp)
  have k1 : KOk ((n : Int) + 1) N a1 b1 := kok_kid K (by decide) (by decide) 1 (by simp)
  have k2 : KOk ((n : Int) + 1) N a2 b2 := kok_kid K (by decide) (by decide) 2 (by simp)
  rw [Int.add_zero] at k0
  have fi : fit i := by unfold fit; omega
  have fj : fit j := by unfold fit; omega
  obtain ⟨p1, c1⟩ := sd_left hE hV0 (by omega) (by omega) k0.oa k0.ma (by have := k0.s; omega) k0.fa
  obtain ⟨p2, c2⟩ := sd_right hE hV0 (by omega) (by omega) k0.ob k0.mb (by have := k0.s; omega) k0.fb
  obtain ⟨h0, q0, c3⟩ := ih a0 b0 E n V k0 hE (by omega) hV0 (by omega)
  have c4 := con_hEq h0 q0.ok
  have c5 := con_beneathP hE (by omega) (by omega)
  have c6 := con_threeP hE (by omega) (by omega) i p1 p2
  have hE3 := ea_three hV0 (by omega) hE (show 0 ≤ i ∧ i ≤ 998 by omega) (pok_pbk p1) (pok_pbk p2)
  obtain ⟨p3, c7⟩ := bl_left hE hV0 (by omega) (by omega) k1.oa k1.ma (by have := k1.s; omega) k1.fa
  obtain ⟨p4, c8⟩ := bl_right hE hV0 (by omega) (by omega) k1.ob k1.mb (by have := k1.s; omega) k1.fb
  obtain ⟨h1, q1, c9⟩ := ih a1 b1 _ (n + 1) (V + 3) k1 hE3 (by omega) (by omega) (by omega)
  have d1 := con_hEq h1 q1.ok
  have d2 := con_lamsP i p1 p2 (tok_eqF q1.ok)
  have hf : FT.ok ⟨i, j, sd E false a0, sd E true b0, sd (belowE E) false a1, sd (belowE E) true b1, eqF h0, lamsF i (sd E false a0) (sd E true b0) (eqF h1)⟩ := ⟨fi, fj, p1.1, p2.1, p3.1, p4.1, tok_eqF q0.ok, tok_lamsF hV0 (by omega) fi p1 p2 (tok_eqF q1.ok)⟩
  obtain ⟨h2, q2, d3⟩ := ih a2 b2 _ (n + 1) (V + 3) k2 hE3 (by omega) (by omega) (by omega)
  have d4 := con_lamsP i p1 p2 q2.ok.h
  obtain ⟨p5, d5⟩ := bl_left hE hV0 (by omega) (by omega) k2.oa k2.ma (by have := k2.s; omega) k2.fa
  obtain ⟨p6, d6⟩ := bl_right hE hV0 (by omega) (by omega) k2.ob k2.mb (by have := k2.s; omega) k2.fb
  have ok := tok_lamsF hV0 (by omega) fi p1 p2 q2.ok.h
  have d7 := con_cLam _ _ _ _ hf p5.1 p6.1 ok
  have hR := hok_lam (M := 300) hf (show 0 ≤ i ∧ i ≤ 1000 by omega) (show 0 ≤ j ∧ j ≤ 1000 by omega) p5.1 p6.1 ok p1.2.2.1 p2.2.2.1 p5.2.2.1 p6.2.2.1
  refine ⟨_, hR.mono (by omega), ?_⟩
  rw [rows_a, rows_a]
  exact alike_fam _ _ _ 4 i j 0 4 i j 0 _ (by decide) (by decide) (family_4 _ _ _ i j _ _ _ _ _ _ _ _ _ _ _ _ _ _ _ _ h0 h1 h2 _ c1 c2 c3 c4 c5 c6 c7 c8 c9 d1 d2 d3 d4 d5 d6 d7)

set_option maxHeartbeats 2000000 in
theorem ex_8 {N : Nat} (ih : AlikeEx N) {E : List HT} {n : Nat} {V : Int} {i j : Int} {a0 a1 a2 b0 b1 b2 : Tm} (hi : 0 ≤ i ∧ i ≤ 996) (hj : 0 ≤ j ∧ j ≤ 996)
    (K : KOk n (N + 1) (.mk 8 i j 0 [a0, a1, a2]) (.mk 8 i j 0 [b0, b1, b2])) (hE : EA V n E) (hn : n + (N + 1) ≤ 800) (hV0 : 0 ≤ V) (hV : V + 3 * ((N + 1 : Nat) : Int) ≤ 80000) (hN : N ≤ 200) :
    ∃ h : HT, HOk (300 + (N + 1)) h ∧ Con 81 [.dsl 26 (E.map HT.v), .agg true (tv (.mk 8 i j 0 [a0, a1, a2])), .agg true (tv (.mk 8 i j 0 [b0, b1, b2]))] (.agg true h.v) := by
  have k0 : KOk ((n : Int) + 0) N a0 b0 := kok_kid K (by decide) (by decide) 0 (by simp)
  have k1 : KOk ((n : Int) + 1) N a1 b1 := kok_kid K (by decide) (by decide) 1 (by simp)
  have k2 : KOk ((n : Int) + 0) N a2 b2 := kok_kid K (by decide) (by decide) 2 (by simp)
  rw [Int.add_zero] at k0
  rw [Int.add_zero] at k2
  have fi : fit i := by unfold fit; omega
  have fj : fit j := by unfold fit; omega
  obtain ⟨p1, c1⟩ := sd_left hE hV0 (by omega) (by omega) k0.oa k0.ma (by have := k0.s; omega) k0.fa
  obtain ⟨p2, c2⟩ := sd_right hE hV0 (by omega) (by omega) k0.ob k0.mb (by have := k0.s; omega) k0.fb
  obtain ⟨h0, q0, c3⟩ := ih a0 b0 E n V k0 hE (by omega) hV0 (by omega)
  have c4 := con_hEq h0 q0.ok
  have c5 := con_beneathP hE (by omega) (by omega)
  have c6 := con_threeP hE (by omega) (by omega) i p1 p2
  have hE3 := ea_three hV0 (by omega) hE (show 0 ≤ i ∧ i ≤ 998 by omega) (pok_pbk p1) (pok_pbk p2)
  obtain ⟨p3, c7⟩ := bl_left hE hV0 (by omega) (by omega) k1.oa k1.ma (by have := k1.s; omega) k1.fa
  obtain ⟨p4, c8⟩ := bl_right hE hV0 (by omega) (by omega) k1.ob k1.mb (by have := k1.s; omega) k1.fb
  obtain ⟨h1, q1, c9⟩ := ih a1 b1 _ (n + 1) (V + 3) k1 hE3 (by omega) (by omega) (by omega)
  have d1 := con_hEq h1 q1.ok
  have d2 := con_lamsP i p1 p2 (tok_eqF q1.ok)
  have hf : FT.ok ⟨i, j, sd E false a0, sd E true b0, sd (belowE E) false a1, sd (belowE E) true b1, eqF h0, lamsF i (sd E false a0) (sd E true b0) (eqF h1)⟩ := ⟨fi, fj, p1.1, p2.1, p3.1, p4.1, tok_eqF q0.ok, tok_lamsF hV0 (by omega) fi p1 p2 (tok_eqF q1.ok)⟩
  obtain ⟨h2, q2, d3⟩ := ih a2 b2 E n V k2 hE (by omega) hV0 (by omega)
  have d4 := con_cFst _ h2 hf q2.ok
  have hR := hok_fst hf (show 0 ≤ i ∧ i ≤ 1000 by omega) q2
  refine ⟨_, hR.mono (by omega), ?_⟩
  rw [rows_a, rows_a]
  exact alike_fam _ _ _ 8 i j 0 8 i j 0 _ (by decide) (by decide) (family_8 _ _ _ i j _ _ _ _ _ _ _ _ _ _ _ _ _ h0 h1 h2 _ c1 c2 c3 c4 c5 c6 c7 c8 c9 d1 d2 d3 d4)

set_option maxHeartbeats 2000000 in
theorem ex_9 {N : Nat} (ih : AlikeEx N) {E : List HT} {n : Nat} {V : Int} {i j : Int} {a0 a1 a2 b0 b1 b2 : Tm} (hi : 0 ≤ i ∧ i ≤ 996) (hj : 0 ≤ j ∧ j ≤ 996)
    (K : KOk n (N + 1) (.mk 9 i j 0 [a0, a1, a2]) (.mk 9 i j 0 [b0, b1, b2])) (hE : EA V n E) (hn : n + (N + 1) ≤ 800) (hV0 : 0 ≤ V) (hV : V + 3 * ((N + 1 : Nat) : Int) ≤ 80000) (hN : N ≤ 200) :
    ∃ h : HT, HOk (300 + (N + 1)) h ∧ Con 81 [.dsl 26 (E.map HT.v), .agg true (tv (.mk 9 i j 0 [a0, a1, a2])), .agg true (tv (.mk 9 i j 0 [b0, b1, b2]))] (.agg true h.v) := by
  have k0 : KOk ((n : Int) + 0) N a0 b0 := kok_kid K (by decide) (by decide) 0 (by simp)
  have k1 : KOk ((n : Int) + 1) N a1 b1 := kok_kid K (by decide) (by decide) 1 (by simp)
  have k2 : KOk ((n : Int) + 0) N a2 b2 := kok_kid K (by decide) (by decide) 2 (by simp)
  rw [Int.add_zero] at k0
  rw [Int.add_zero] at k2
  have fi : fit i := by unfold fit; omega
  have fj : fit j := by unfold fit; omega
  obtain ⟨p1, c1⟩ := sd_left hE hV0 (by omega) (by omega) k0.oa k0.ma (by have := k0.s; omega) k0.fa
  obtain ⟨p2, c2⟩ := sd_right hE hV0 (by omega) (by omega) k0.ob k0.mb (by have := k0.s; omega) k0.fb
  obtain ⟨h0, q0, c3⟩ := ih a0 b0 E n V k0 hE (by omega) hV0 (by omega)
  have c4 := con_hEq h0 q0.ok
  have c5 := con_beneathP hE (by omega) (by omega)
  have c6 := con_threeP hE (by omega) (by omega) i p1 p2
  have hE3 := ea_three hV0 (by omega) hE (show 0 ≤ i ∧ i ≤ 998 by omega) (pok_pbk p1) (pok_pbk p2)
  obtain ⟨p3, c7⟩ := bl_left hE hV0 (by omega) (by omega) k1.oa k1.ma (by have := k1.s; omega) k1.fa
  obtain ⟨p4, c8⟩ := bl_right hE hV0 (by omega) (by omega) k1.ob k1.mb (by have := k1.s; omega) k1.fb
  obtain ⟨h1, q1, c9⟩ := ih a1 b1 _ (n + 1) (V + 3) k1 hE3 (by omega) (by omega) (by omega)
  have d1 := con_hEq h1 q1.ok
  have d2 := con_lamsP i p1 p2 (tok_eqF q1.ok)
  have hf : FT.ok ⟨i, j, sd E false a0, sd E true b0, sd (belowE E) false a1, sd (belowE E) true b1, eqF h0, lamsF i (sd E false a0) (sd E true b0) (eqF h1)⟩ := ⟨fi, fj, p1.1, p2.1, p3.1, p4.1, tok_eqF q0.ok, tok_lamsF hV0 (by omega) fi p1 p2 (tok_eqF q1.ok)⟩
  obtain ⟨h2, q2, d3⟩ := ih a2 b2 E n V k2 hE (by omega) hV0 (by omega)
  have d4 := con_cSnd _ h2 hf q2.ok ⟨by have := p3.2.2.1; show hgtT (sd (belowE E) false a1) ≤ 1000; omega, by have := p4.2.2.1; show hgtT (sd (belowE E) true b1) ≤ 1000; omega⟩ ⟨by have := q2.x; omega, by have := q2.y; omega⟩
  have hR := hok_snd hf (show 0 ≤ j ∧ j ≤ 1000 by omega) q2
  refine ⟨_, hR.mono (by omega), ?_⟩
  rw [rows_a, rows_a]
  exact alike_fam _ _ _ 9 i j 0 9 i j 0 _ (by decide) (by decide) (family_9 _ _ _ i j _ _ _ _ _ _ _ _ _ _ _ _ _ h0 h1 h2 _ c1 c2 c3 c4 c5 c6 c7 c8 c9 d1 d2 d3 d4)

set_option maxHeartbeats 2000000 in
theorem ex_5 {N : Nat} (ih : AlikeEx N) {E : List HT} {n : Nat} {V : Int} {i j : Int} {a0 a1 a2 a3 b0 b1 b2 b3 : Tm} (hi : 0 ≤ i ∧ i ≤ 996) (hj : 0 ≤ j ∧ j ≤ 996)
    (K : KOk n (N + 1) (.mk 5 i j 0 [a0, a1, a2, a3]) (.mk 5 i j 0 [b0, b1, b2, b3])) (hE : EA V n E) (hn : n + (N + 1) ≤ 800) (hV0 : 0 ≤ V) (hV : V + 3 * ((N + 1 : Nat) : Int) ≤ 80000) (hN : N ≤ 200) :
    ∃ h : HT, HOk (300 + (N + 1)) h ∧ Con 81 [.dsl 26 (E.map HT.v), .agg true (tv (.mk 5 i j 0 [a0, a1, a2, a3])), .agg true (tv (.mk 5 i j 0 [b0, b1, b2, b3]))] (.agg true h.v) := by
  have k0 : KOk ((n : Int) + 0) N a0 b0 := kok_kid K (by decide) (by decide) 0 (by simp)
  have k1 : KOk ((n : Int) + 1) N a1 b1 := kok_kid K (by decide) (by decide) 1 (by simp)
  have k2 : KOk ((n : Int) + 0) N a2 b2 := kok_kid K (by decide) (by decide) 2 (by simp)
  have k3 : KOk ((n : Int) + 0) N a3 b3 := kok_kid K (by decide) (by decide) 3 (by simp)
  rw [Int.add_zero] at k0
  rw [Int.add_zero] at k2
  rw [Int.add_zero] at k3
  have fi : fit i := by unfold fit; omega
  have fj : fit j := by unfold fit; omega
  obtain ⟨p1, c1⟩ := sd_left hE hV0 (by omega) (by omega) k0.oa k0.ma (by have := k0.s; omega) k0.fa
  obtain ⟨p2, c2⟩ := sd_right hE hV0 (by omega) (by omega) k0.ob k0.mb (by have := k0.s; omega) k0.fb
  obtain ⟨h0, q0, c3⟩ := ih a0 b0 E n V k0 hE (by omega) hV0 (by omega)
  have c4 := con_hEq h0 q0.ok
  have c5 := con_beneathP hE (by omega) (by omega)
  have c6 := con_threeP hE (by omega) (by omega) i p1 p2
  have hE3 := ea_three hV0 (by omega) hE (show 0 ≤ i ∧ i ≤ 998 by omega) (pok_pbk p1) (pok_pbk p2)
  obtain ⟨p3, c7⟩ := bl_left hE hV0 (by omega) (by omega) k1.oa k1.ma (by have := k1.s; omega) k1.fa
  obtain ⟨p4, c8⟩ := bl_right hE hV0 (by omega) (by omega) k1.ob k1.mb (by have := k1.s; omega) k1.fb
  obtain ⟨h1, q1, c9⟩ := ih a1 b1 _ (n + 1) (V + 3) k1 hE3 (by omega) (by omega) (by omega)
  have d1 := con_hEq h1 q1.ok
  have d2 := con_lamsP i p1 p2 (tok_eqF q1.ok)
  have hf : FT.ok ⟨i, j, sd E false a0, sd E true b0, sd (belowE E) false a1, sd (belowE E) true b1, eqF h0, lamsF i (sd E false a0) (sd E true b0) (eqF h1)⟩ := ⟨fi, fj, p1.1, p2.1, p3.1, p4.1, tok_eqF q0.ok, tok_lamsF hV0 (by omega) fi p1 p2 (tok_eqF q1.ok)⟩
  obtain ⟨h2, q2, d3⟩ := ih a2 b2 E n V k2 hE (by omega) hV0 (by omega)
  obtain ⟨h3, q3, d4⟩ := ih a3 b3 E n V k3 hE (by omega) hV0 (by omega)
  have d5 := con_cApp _ h2 h3 hf q2.ok q3.ok ⟨by have := p3.2.2.1; show hgtT (sd (belowE E) false a1) ≤ 1000; omega, by have := p4.2.2.1; show hgtT (sd (belowE E) true b1) ≤ 1000; omega⟩ ⟨by have := q3.x; omega, by have := q3.y; omega⟩
  have hR := hok_app hf (show 0 ≤ j ∧ j ≤ 1000 by omega) q2 q3
  refine ⟨_, hR.mono (by omega), ?_⟩
  rw [rows_a, rows_a]
  exact alike_fam _ _ _ 5 i j 0 5 i j 0 _ (by decide) (by decide) (family_5 _ _ _ i j _ _ _ _ _ _ _ _ _ _ _ _ _ _ _ h0 h1 h2 h3 _ c1 c2 c3 c4 c5 c6 c7 c8 c9 d1 d2 d3 d4 d5)

set_option maxHeartbeats 2000000 in
theorem ex_7 {N : Nat} (ih : AlikeEx N) {E : List HT} {n : Nat} {V : Int} {i j : Int} {a0 a1 a2 a3 b0 b1 b2 b3 : Tm} (hi : 0 ≤ i ∧ i ≤ 996) (hj : 0 ≤ j ∧ j ≤ 996)
    (K : KOk n (N + 1) (.mk 7 i j 0 [a0, a1, a2, a3]) (.mk 7 i j 0 [b0, b1, b2, b3])) (hE : EA V n E) (hn : n + (N + 1) ≤ 800) (hV0 : 0 ≤ V) (hV : V + 3 * ((N + 1 : Nat) : Int) ≤ 80000) (hN : N ≤ 200) :
    ∃ h : HT, HOk (300 + (N + 1)) h ∧ Con 81 [.dsl 26 (E.map HT.v), .agg true (tv (.mk 7 i j 0 [a0, a1, a2, a3])), .agg true (tv (.mk 7 i j 0 [b0, b1, b2, b3]))] (.agg true h.v) := by
  have k0 : KOk ((n : Int) + 0) N a0 b0 := kok_kid K (by decide) (by decide) 0 (by simp)
  have k1 : KOk ((n : Int) + 1) N a1 b1 := kok_kid K (by decide) (by decide) 1 (by simp)
  have k2 : KOk ((n : Int) + 0) N a2 b2 := kok_kid K (by decide) (by decide) 2 (by simp)
  have k3 : KOk ((n : Int) + 0) N a3 b3 := kok_kid K (by decide) (by decide) 3 (by simp)
  rw [Int.add_zero] at k0
  rw [Int.add_zero] at k2
  rw [Int.add_zero] at k3
  have fi : fit i := by unfold fit; omega
  have fj : fit j := by unfold fit; omega
  obtain ⟨p1, c1⟩ := sd_left hE hV0 (by omega) (by omega) k0.oa k0.ma (by have := k0.s; omega) k0.fa
  obtain ⟨p2, c2⟩ := sd_right hE hV0 (by omega) (by omega) k0.ob k0.mb (by have := k0.s; omega) k0.fb
  obtain ⟨h0, q0, c3⟩ := ih a0 b0 E n V k0 hE (by omega) hV0 (by omega)
  have c4 := con_hEq h0 q0.ok
  have c5 := con_beneathP hE (by omega) (by omega)
  have c6 := con_threeP hE (by omega) (by omega) i p1 p2
  have hE3 := ea_three hV0 (by omega) hE (show 0 ≤ i ∧ i ≤ 998 by omega) (pok_pbk p1) (pok_pbk p2)
  obtain ⟨p3, c7⟩ := bl_left hE hV0 (by omega) (by omega) k1.oa k1.ma (by have := k1.s; omega) k1.fa
  obtain ⟨p4, c8⟩ := bl_right hE hV0 (by omega) (by omega) k1.ob k1.mb (by have := k1.s; omega) k1.fb
  obtain ⟨h1, q1, c9⟩ := ih a1 b1 _ (n + 1) (V + 3) k1 hE3 (by omega) (by omega) (by omega)
  have d1 := con_hEq h1 q1.ok
  have d2 := con_lamsP i p1 p2 (tok_eqF q1.ok)
  have hf : FT.ok ⟨i, j, sd E false a0, sd E true b0, sd (belowE E) false a1, sd (belowE E) true b1, eqF h0, lamsF i (sd E false a0) (sd E true b0) (eqF h1)⟩ := ⟨fi, fj, p1.1, p2.1, p3.1, p4.1, tok_eqF q0.ok, tok_lamsF hV0 (by omega) fi p1 p2 (tok_eqF q1.ok)⟩
  obtain ⟨h2, q2, d3⟩ := ih a2 b2 E n V k2 hE (by omega) hV0 (by omega)
  obtain ⟨h3, q3, d4⟩ := ih a3 b3 E n V k3 hE (by omega) hV0 (by omega)
  have d5 := con_cPair _ h2 h3 hf q2.ok q3.ok
  have hR := hok_pair hf (show 0 ≤ i ∧ i ≤ 1000 by omega) (show 0 ≤ j ∧ j ≤ 1000 by omega) q2 q3 (by have := p1.2.2.1; show hgtT (sd E false a0) ≤ _; omega) (by have := p3.2.2.1; show hgtT (sd (belowE E) false a1) ≤ _; omega) (by have := p2.2.2.1; show hgtT (sd E true b0) ≤ _; omega) (by have := p4.2.2.1; show hgtT (sd (belowE E) true b1) ≤ _; omega)
  refine ⟨_, hR.mono (by omega), ?_⟩
  rw [rows_a, rows_a]
  exact alike_fam _ _ _ 7 i j 0 7 i j 0 _ (by decide) (by decide) (family_7 _ _ _ i j _ _ _ _ _ _ _ _ _ _ _ _ _ _ _ h0 h1 h2 h3 _ c1 c2 c3 c4 c5 c6 c7 c8 c9 d1 d2 d3 d4 d5)

set_option maxHeartbeats 2000000 in
theorem ex_10 {N : Nat} (ih : AlikeEx N) {E : List HT} {n : Nat} {V : Int} {i : Int} {a0 a1 a2 b0 b1 b2 : Tm} (hi : 0 ≤ i ∧ i ≤ 996)
    (K : KOk n (N + 1) (.mk 10 i 0 0 [a0, a1, a2]) (.mk 10 i 0 0 [b0, b1, b2])) (hE : EA V n E) (hn : n + (N + 1) ≤ 800) (hV0 : 0 ≤ V) (hV : V + 3 * ((N + 1 : Nat) : Int) ≤ 80000) (hN : N ≤ 200) :
    ∃ h : HT, HOk (300 + (N + 1)) h ∧ Con 81 [.dsl 26 (E.map HT.v), .agg true (tv (.mk 10 i 0 0 [a0, a1, a2])), .agg true (tv (.mk 10 i 0 0 [b0, b1, b2]))] (.agg true h.v) := by
  have k0 : KOk ((n : Int) + 0) N a0 b0 := kok_kid K (by decide) (by decide) 0 (by simp)
  have k1 : KOk ((n : Int) + 0) N a1 b1 := kok_kid K (by decide) (by decide) 1 (by simp)
  have k2 : KOk ((n : Int) + 0) N a2 b2 := kok_kid K (by decide) (by decide) 2 (by simp)
  rw [Int.add_zero] at k0
  rw [Int.add_zero] at k1
  rw [Int.add_zero] at k2
  have fi : fit i := by unfold fit; omega
  obtain ⟨p1, c1⟩ := sd_left hE hV0 (by omega) (by omega) k0.oa k0.ma (by have := k0.s; omega) k0.fa
  obtain ⟨p2, c2⟩ := sd_right hE hV0 (by omega) (by omega) k0.ob k0.mb (by have := k0.s; omega) k0.fb
  obtain ⟨h0, q0, e0⟩ := ih a0 b0 E n V k0 hE (by omega) hV0 (by omega)
  obtain ⟨h1, q1, e1⟩ := ih a1 b1 E n V k1 hE (by omega) hV0 (by omega)
  obtain ⟨h2, q2, e2⟩ := ih a2 b2 E n V k2 hE (by omega) hV0 (by omega)
  have c4 := con_hEq h0 q0.ok
  have oP := tok_ceqF (i := i) fi p1.1 p2.1 (tok_eqF q0.ok) q1.ok q2.ok
  have c7 := con_cEq i _ _ _ h1 h2 p1.1 p2.1 (tok_eqF q0.ok) q1.ok q2.ok
  obtain ⟨pl, cl⟩ := sd_left hE hV0 (by omega) (by omega) K.oa K.ma (by have := K.s; omega) K.fa
  obtain ⟨pr, cr⟩ := sd_right hE hV0 (by omega) (by omega) K.ob K.mb (by have := K.s; omega) K.fb
  have d4 := con_relTypes (E.map HT.v) i _ _ _ _ _ (by omega) pl.1 pr.1 oP (tv_len _) (tv_len _) cl cr
  have hR := hok_of (i := i + 1) (a := so i) (M := 300) (by omega) (tok_so (by unfold fit; omega)) pl.1 pr.1 oP pl.2.2.1 pr.2.2.1
  refine ⟨_, hR.mono (by omega), ?_⟩
  rw [rows_a, rows_a] at d4 ⊢
  exact alike_eq _ _ _ 10 i 0 0 10 i 0 0 _ (by decide) (by decide) (equal_10 _ i _ _ _ _ _ _ _ _ _ _ h0 h1 h2 _ c1 c2 e0 c4 e1 e2 c7 d4)

set_option maxHeartbeats 2000000 in
theorem ex_11 {N : Nat} (ih : AlikeEx N) {E : List HT} {n : Nat} {V : Int} {i : Int} {a0 a1 b0 b1 : Tm} (hi : 0 ≤ i ∧ i ≤ 996)
    (K : KOk n (N + 1) (.mk 11 i 0 0 [a0, a1]) (.mk 11 i 0 0 [b0, b1])) (hE : EA V n E) (hn : n + (N + 1) ≤ 800) (hV0 : 0 ≤ V) (hV : V + 3 * ((N + 1 : Nat) : Int) ≤ 80000) (hN : N ≤ 200) :
    ∃ h : HT, HOk (300 + (N + 1)) h ∧ Con 81 [.dsl 26 (E.map HT.v), .agg true (tv (.mk 11 i 0 0 [a0, a1])), .agg true (tv (.mk 11 i 0 0 [b0, b1]))] (.agg true h.v) := by
  have k0 : KOk ((n : Int) + 0) N a0 b0 := kok_kid K (by decide) (by decide) 0 (by simp)
  have k1 : KOk ((n : Int) + 0) N a1 b1 := kok_kid K (by decide) (by decide) 1 (by simp)
  rw [Int.add_zero] at k0
  rw [Int.add_zero] at k1
  have fi : fit i := by unfold fit; omega
  obtain ⟨p1, c1⟩ := sd_left hE hV0 (by omega) (by omega) k0.oa k0.ma (by have := k0.s; omega) k0.fa
  obtain ⟨p2, c2⟩ := sd_right hE hV0 (by omega) (by omega) k0.ob k0.mb (by have := k0.s; omega) k0.fb
  obtain ⟨h0, q0, e0⟩ := ih a0 b0 E n V k0 hE (by omega) hV0 (by omega)
  obtain ⟨h1, q1, e1⟩ := ih a1 b1 E n V k1 hE (by omega) hV0 (by omega)
  have c4 := con_hEq h0 q0.ok
  have c6 := con_cRefl i _ _ _ h1 p1.1 p2.1 (tok_eqF q0.ok) q1.ok
  have hR := hok_refl (i := i) (show 0 ≤ i ∧ i ≤ 1000 by omega) p1.1 p2.1 (tok_eqF q0.ok) q1 (by have := p1.2.2.1; omega) (by have := p2.2.2.1; omega)
  refine ⟨_, hR.mono (by omega), ?_⟩
  rw [rows_a, rows_a]
  exact alike_eq _ _ _ 11 i 0 0 11 i 0 0 _ (by decide) (by decide) (equal_11 _ i _ _ _ _ _ _ _ h0 h1 _ c1 c2 e0 c4 e1 c6)

theorem tr_kids {i : Int} {p0 p1 pp x : Tm} {n : Int} (hf : freeR (.mk 12 i 0 0 [p0, p1, pp, x]) ≤ n) : freeR p0 ≤ n ∧ freeR p1 ≤ n ∧ freeR pp ≤ n ∧ freeR x ≤ n := by
  have e : ∀ p : Int, bindsN 12 p = 0 := fun p => by unfold bindsN; simp
  rw [freeR4 (by decide), e, e, e, e] at hf
  omega
set_option maxHeartbeats 2000000 in
theorem alike_ex : ∀ N : Nat, N ≤ 200 → AlikeEx N := by
  intro N
  induction N with
  | zero =>
    intro _ a b E n V K
    have := K.s
    have h1 := hgt_le_siz a
    have h2 := hgt_pos a
    omega
  | succ N ihN =>
    intro hN a b E n V K hE hn hV0 hV
    have le1 : 300 + 1 ≤ 300 + (N + 1) := by omega
    have le2 : 300 + N ≤ 300 + (N + 1) := by omega
    have ih := ihN (by omega)
    have sA := shp_of K.ma
    by_cases ta : a.k = 12
    · cases sA with
      | tr i p0 p1 pp x hi m0 m1 mp mx =>
        obtain ⟨f0, f1, fp, fx⟩ := tr_kids K.fa
        obtain ⟨_, _, _, _, _, ol⟩ := tok_of K.oa
        have hs := K.s
        rw [sizT_mk] at hs
        have s0 : sizT p0 ≤ sizL [p0, p1, pp, x] := siz_mem (by simp)
        have s1 : sizT p1 ≤ sizL [p0, p1, pp, x] := siz_mem (by simp)
        have sp : sizT pp ≤ sizL [p0, p1, pp, x] := siz_mem (by simp)
        have sx : sizT x ≤ sizL [p0, p1, pp, x] := siz_mem (by simp)
        have o0 := ol p0 (by simp)
        have o1 := ol p1 (by simp)
        have op := ol pp (by simp)
        have ox := ol x (by simp)
        have he := K.e
        rw [eraseT_tr] at he
        have lx := low_kid K.la (t := x) (by simp)
        obtain ⟨q0, c1⟩ := sd_left hE hV0 (by omega) (by omega) o0 m0 (by omega) f0
        obtain ⟨q1, c2⟩ := sd_left hE hV0 (by omega) (by omega) o1 m1 (by omega) f1
        obtain ⟨q3, c4⟩ := sd_left hE hV0 (by omega) (by omega) ox mx (by omega) fx
        have hp := hgt_sz (show sizT pp ≤ 300 by omega)
        have q2 := sd_plain hV0 (by omega) (ea_vars hE false) op mp hp (by rw [sideL_len, hE.1]; exact fp)
        have c3 := con_side E false V hV0 (by omega) (ea_vars hE false) (by rw [hE.1]; omega) pp op mp (by omega) (by rw [hE.1]; exact fp)
        have c5 := con_hMoved i _ _ _ _ q0.1 q1.1 q2.1 q3.1
        have hm := hok_moved (i := i) (M := 300) q0.1 q1.1 q2.1 q3.1 q0.2.2.1 q1.2.2.1 q2.2.2.1 q3.2.2.1
        have c6 := con_hTurn _ hm.ok
        have ht := hok_turn (by omega) hm
        obtain ⟨h, hh, c7⟩ := ih x b E n V ⟨ox, K.ob, mx, K.mb, he, fx, K.fb, lx, K.lb, by omega⟩ hE (by omega) hV0 (by omega)
        have c8 := con_tieThen _ h ht.ok hh.ok ht.i
        have ht2 : HOk (300 + (N + 1)) _ := HOk.mono ht le1
        have hh2 : HOk (300 + (N + 1)) h := HOk.mono hh le2
        refine ⟨_, hok_then ht2 hh2, ?_⟩
        rw [rows_a]
        exact alike_A _ i _ _ _ _ _ _ _ _ _ _ _ h _ (tv_len _) c1 c2 c3 c4 c5 c6 c7 c8
      | sort => exact absurd (show (1 : Int) = 12 from ta) (by decide)
      | var => exact absurd (show (2 : Int) = 12 from ta) (by decide)
      | lam => exact absurd (show (4 : Int) = 12 from ta) (by decide)
      | two k i j a b hk => exact absurd (show k = 12 from ta) (by omega)
      | three k i j a b c hk => exact absurd (show k = 12 from ta) (by omega)
      | four k i j a b c d hk => exact absurd (show k = 12 from ta) (by omega)
    · by_cases tb : b.k = 12
      · have sB := shp_of K.mb
        cases sB with
        | tr i p0 p1 pp x hi m0 m1 mp mx =>
          obtain ⟨f0, f1, fp, fx⟩ := tr_kids K.fb
          obtain ⟨_, _, _, _, _, ol⟩ := tok_of K.ob
          have hs := K.s
          rw [sizT_mk] at hs
          have s0 : sizT p0 ≤ sizL [p0, p1, pp, x] := siz_mem (by simp)
          have s1 : sizT p1 ≤ sizL [p0, p1, pp, x] := siz_mem (by simp)
          have sp : sizT pp ≤ sizL [p0, p1, pp, x] := siz_mem (by simp)
          have sx : sizT x ≤ sizL [p0, p1, pp, x] := siz_mem (by simp)
          have o0 := ol p0 (by simp)
          have o1 := ol p1 (by simp)
          have op := ol pp (by simp)
          have ox := ol x (by simp)
          have he := K.e
          rw [eraseT_tr] at he
          have lx := low_kid K.lb (t := x) (by simp)
          obtain ⟨q0, c1⟩ := sd_right hE hV0 (by omega) (by omega) o0 m0 (by omega) f0
          obtain ⟨q1, c2⟩ := sd_right hE hV0 (by omega) (by omega) o1 m1 (by omega) f1
          obtain ⟨q3, c4⟩ := sd_right hE hV0 (by omega) (by omega) ox mx (by omega) fx
          have hp := hgt_sz (show sizT pp ≤ 300 by omega)
          have q2 := sd_plain hV0 (by omega) (ea_vars hE true) op mp hp (by rw [sideL_len, hE.1]; exact fp)
          have c3 := con_side E true V hV0 (by omega) (ea_vars hE true) (by rw [hE.1]; omega) pp op mp (by omega) (by rw [hE.1]; exact fp)
          have c5 := con_hMoved i _ _ _ _ q0.1 q1.1 q2.1 q3.1
          have hm := hok_moved (i := i) (M := 300) q0.1 q1.1 q2.1 q3.1 q0.2.2.1 q1.2.2.1 q2.2.2.1 q3.2.2.1
          obtain ⟨h, hh, c7⟩ := ih a x E n V ⟨K.oa, ox, K.ma, mx, he, K.fa, fx, K.la, lx, by omega⟩ hE (by omega) hV0 (by omega)
          have c8 := con_tieThen h _ hh.ok hm.ok hh.i
          have ht2 : HOk (300 + (N + 1)) _ := HOk.mono hm le1
          have hh2 : HOk (300 + (N + 1)) h := HOk.mono hh le2
          refine ⟨_, hok_then hh2 ht2, ?_⟩
          rw [rows_a]
          exact alike_B _ i a.k _ _ _ _ _ _ _ _ _ _ h _ (tv_len _) tv_0 (beq_no ta) c1 c2 c3 c4 c5 c7 c8
        | sort => exact absurd (show (1 : Int) = 12 from tb) (by decide)
        | var => exact absurd (show (2 : Int) = 12 from tb) (by decide)
        | lam => exact absurd (show (4 : Int) = 12 from tb) (by decide)
        | two k i j a b hk => exact absurd (show k = 12 from tb) (by omega)
        | three k i j a b c hk => exact absurd (show k = 12 from tb) (by omega)
        | four k i j a b c d hk => exact absurd (show k = 12 from tb) (by omega)
      · have hlen : (E.map HT.v).length = n := by rw [List.length_map]; exact hE.1
        cases sA with
        | tr => exact absurd rfl ta
        | sort i hi =>
          obtain ⟨l', rfl, hl'⟩ := shp_b (by decide) tb K.e
          have : l' = [] := List.length_eq_zero_iff.1 (by simpa using hl')
          subst this
          have hlo := low_num K.la (by decide)
          refine ⟨selfF (i + 2) (so (i + 1)) (so i), hok_self (by omega) (tok_so (by unfold fit; omega)) (tok_so (by unfold fit; omega)) (by rw [hgt_so]; omega), ?_⟩
          rw [rows_a]
          exact alike_sort _ i ⟨hi.1, hlo.1⟩
        | var i hi =>
          obtain ⟨l', rfl, hl'⟩ := shp_b (by decide) tb K.e
          have : l' = [] := List.length_eq_zero_iff.1 (by simpa using hl')
          subst this
          have hf := K.fa
          rw [freeR, if_pos rfl] at hf
          have hx : ((n : Int) - 1 - i).toNat < E.length := by rw [hE.1]; omega
          have hg := hE.2 _ (get_lt (d := zH) hx)
          have hgo := (gb_ok (V := V) (by omega) hg).1
          have hr := ht_row E _ hx
          refine ⟨E[((n : Int) - 1 - i).toNat]?.getD zH, ⟨hgo, by have := hg.i; omega, ?_, ?_⟩, ?_⟩
          · obtain ⟨v, hv, _⟩ := hg.x
            rw [hv, hgt_vr]; omega
          · obtain ⟨v, hv, _⟩ := hg.y
            rw [hv, hgt_vr]; omega
          · rw [rows_a]
            refine alike_var _ i _ hi.1 (by rw [hlen]; omega) (by rw [hlen]; omega) ?_
            rw [hlen]
            exact hr
        | lam i j a0 a1 a2 hi hj m0 m1 m2 =>
          obtain ⟨l', rfl, hl'⟩ := shp_b (by decide) tb K.e
          have hlo := low_num K.la (by decide)
          match l', hl' with
          | [b0, b1, b2], _ => exact ex_4 ih ⟨hi.1, hlo.1⟩ ⟨hj.1, hlo.2⟩ K hE hn hV0 hV (by omega)
        | two k i j a0 a1 hk hi hj hz m0 m1 =>
          obtain ⟨l', rfl, hl'⟩ := shp_b (by omega) tb K.e
          have hlo := low_num K.la (by omega)
          match l', hl' with
          | [b0, b1], _ =>
            rcases hk with rfl | rfl | rfl
            · exact ex_3 ih ⟨hi.1, hlo.1⟩ ⟨hj.1, hlo.2⟩ K hE hn hV0 hV (by omega)
            · exact ex_6 ih ⟨hi.1, hlo.1⟩ ⟨hj.1, hlo.2⟩ K hE hn hV0 hV (by omega)
            · have := hz rfl
              subst this
              exact ex_11 ih ⟨hi.1, hlo.1⟩ K hE hn hV0 hV (by omega)
        | three k i j a0 a1 a2 hk hi hj hz m0 m1 m2 =>
          obtain ⟨l', rfl, hl'⟩ := shp_b (by omega) tb K.e
          have hlo := low_num K.la (by omega)
          match l', hl' with
          | [b0, b1, b2], _ =>
            rcases hk with rfl | rfl | rfl
            · exact ex_8 ih ⟨hi.1, hlo.1⟩ ⟨hj.1, hlo.2⟩ K hE hn hV0 hV (by omega)
            · exact ex_9 ih ⟨hi.1, hlo.1⟩ ⟨hj.1, hlo.2⟩ K hE hn hV0 hV (by omega)
            · have := hz rfl
              subst this
              exact ex_10 ih ⟨hi.1, hlo.1⟩ K hE hn hV0 hV (by omega)
        | four k i j a0 a1 a2 a3 hk hi hj m0 m1 m2 m3 =>
          obtain ⟨l', rfl, hl'⟩ := shp_b (by omega) tb K.e
          have hlo := low_num K.la (by omega)
          match l', hl' with
          | [b0, b1, b2, b3], _ =>
            rcases hk with rfl | rfl
            · exact ex_5 ih ⟨hi.1, hlo.1⟩ ⟨hj.1, hlo.2⟩ K hE hn hV0 hV (by omega)
            · exact ex_7 ih ⟨hi.1, hlo.1⟩ ⟨hj.1, hlo.2⟩ K hE hn hV0 hV (by omega)
end Go.Proofs.YtkldipbhenabfaaGreat.Abs

