/- Reckon: rows that are compared; kids, heads, values, same: where no symbol stands ahead. -/
import Derived.Test.YtdpigpopcbjkmaaDoorRg
import Derived.Test.YtdpigpopcbjkmaaDoorAfT
import Derived.Test.YtdpigpopcbjkmaaDoorBi
import Derived.Test.YtdpigpopcbjkmaaDoorBs
set_option linter.unusedSimpArgs false
set_option linter.unusedVariables false
namespace Go.Proofs.YtdpigpopcbjkmaaDoor.Abs
open Go Go.RowKit Go.Proofs.YtdpigpopcbjkmaaDoor

theorem psz_vl {v : Vl} : psz (vlC v) = true := by
  obtain ⟨k, i, j, n, level, kids⟩ := v
  cases kids <;> rfl
theorem eb_gpgp (kd : Nat) (op : BinOp) (i c j d : Nat) : evBin kd op (.gp i c) (.gp j d) = if kd = 2 then eqB op (i == j && c == d) else none := Eq.trans rfl rfl
attribute [go_sem] psz_vl eb_gpgp

theorem both_int {k k' : IntKind} {a b : Int} (h : Both (.int k a) (.int k' b)) : a = b := by
  obtain ⟨m, v, h1, h2⟩ := h
  cases h1
  cases h2
  rfl
theorem both_cell {z z2 c : Nat} {l l2 : List SV} (h : Both (.dref z l c) (.dref z2 l2 c)) {j : Nat} {x y : SV} (hx : l[j]? = some x) (hy : l2[j]? = some y) : Both x y := by
  obtain ⟨m, v, h1, h2⟩ := h
  generalize hd : SV.dref z2 l2 c = s2 at h2
  cases h1 with
  | dref _ _ _ b off vs a1 a2 a3 a4 a5 a6 =>
    generalize hv : Value.pointer (some ⟨b, off + c, none⟩) = v2 at h2
    cases h2 <;> first | (cases hd; done) | skip
    rename_i z3 l3 c3 b3 off3 vs3 e1 e2 e3 e4 e5 e6
    cases hd
    simp only [Value.pointer.injEq, Option.some.injEq, Addr.mk.injEq, and_true] at hv
    obtain ⟨rfl, ho⟩ := hv
    have ho' : off3 = off := by omega
    subst ho'
    have hj : j < vs.length := by
      have := List.getElem?_eq_some_iff.1 hx
      obtain ⟨h, _⟩ := this; omega
    have hj3 : j < vs3.length := by
      have := List.getElem?_eq_some_iff.1 hy
      obtain ⟨h, _⟩ := this; omega
    have g1 := a4 j _ (List.getElem?_eq_getElem hj)
    have g2 := e4 j _ (List.getElem?_eq_getElem hj3)
    rw [g1] at g2
    exact ⟨m, _, a6 j _ _ (List.getElem?_eq_getElem hj) hx, e6 j _ _ (by rw [List.getElem?_eq_getElem hj3, ← Option.some.inj g2]) hy⟩

theorem both_gp {i j c d : Nat} (h : Both (.gp i c) (.gp j d)) : i = j := by
  obtain ⟨m, v, h1, h2⟩ := h
  cases h1 with
  | gp _ _ b a1 a2 =>
    cases h2 with
    | gp _ _ _ b1 b2 => exact m.inj _ _ _ a1 b1
theorem both_row {z z2 : Nat} {l l2 : List (List SV)} (h : Both (.dsl z l) (.dsl z2 l2)) {j : Nat} {x y : SV} (hx : l.flatten[j]? = some x) (hy : l2.flatten[j]? = some y) : Both x y := by
  obtain ⟨m, v, h1, h2⟩ := h
  generalize hd : SV.dsl z2 l2 = s2 at h2
  cases h1 with
  | dsl0 => simp at hx
  | dsl _ _ cap b off vs a0 a1 a2 a3 a4 a5 a6 =>
    generalize hv : Value.slice (some ⟨b, off, none⟩) l.length cap = v2 at h2
    cases h2 <;> first | (cases hd; done) | skip
    · cases hd
      simp at hy
    · rename_i z3 l3 cap3 b3 off3 vs3 e0 e1 e2 e3 e4 e5 e6
      cases hd
      simp only [Value.slice.injEq, Option.some.injEq, Addr.mk.injEq, and_true] at hv
      obtain ⟨⟨rfl, rfl⟩, hl, rfl⟩ := hv
      have hj : j < vs.length := by
        obtain ⟨h, _⟩ := List.getElem?_eq_some_iff.1 hx; omega
      have hj3 : j < vs3.length := by
        obtain ⟨h, _⟩ := List.getElem?_eq_some_iff.1 hy; omega
      have g1 := a5 j _ (List.getElem?_eq_getElem hj)
      have g2 := e5 j _ (List.getElem?_eq_getElem hj3)
      rw [g1] at g2
      exact ⟨m, _, a6 j _ _ (List.getElem?_eq_getElem hj) hx, e6 j _ _ (by rw [List.getElem?_eq_getElem hj3, ← Option.some.inj g2]) hy⟩

set_option maxRecDepth 10000 in
/-- Values whose heads are two different nodes: their kinds decide at once. -/
theorem hcon_kids_no {G : List (List SV)} {m : Nat} {x y : Vl} (h : x.k ≠ y.k) (deep : Int) (eta : Bool) :
    HCon 82 G [.gp m 0, vlV x, vlV y, .int .i64 deep, .bool eta] (.ret (.bool false)) G := by
  refine hcontract_of_vc mixed Tryd.func82 tr82 ?_
  have hb : (x.k != y.k) = true := by simpa using h
  simp only [go_sem, reduceIte, reduceCtorEq, Nat.reduceAdd, Nat.reduceSub, Nat.reduceMul, Nat.reduceLT, Nat.reduceLeDiff, Nat.reduceEqDiff, Nat.reduceBEq, Nat.reduceGT, Int.reduceEq, Int.reduceNe, Int.reduceLT, Int.reduceLE, Int.reduceToNat, Int.reduceNeg, Int.reduceBEq, Int.reduceAdd, Int.reduceSub, Int.reduceGT, Int.reduceGE, Int.reduceBNe, vlV, hb]

set_option maxRecDepth 10000 in
/-- Two variables. -/
theorem hcon_kids_var {G : List (List SV)} {m : Nat} {a b : Int} (deep : Int) (eta : Bool) :
    HCon 82 G [.gp m 0, vlV ⟨2, 0, 0, 0, a, []⟩, vlV ⟨2, 0, 0, 0, b, []⟩, .int .i64 deep, .bool eta] (.ret (.bool (a == b))) G := by
  obtain ⟨out, ho⟩ : ∃ out, out = HOut.ret (.bool (a == b)) := ⟨_, rfl⟩
  rw [← ho]
  refine hcontract_of_vc mixed Tryd.func82 tr82 ?_
  by_cases h : a = b
  · subst h
    have hb : (a != a) = false := by simp
    simp only [go_sem, reduceIte, reduceCtorEq, Nat.reduceAdd, Nat.reduceSub, Nat.reduceMul, Nat.reduceLT, Nat.reduceLeDiff, Nat.reduceEqDiff, Nat.reduceBEq, Nat.reduceGT, Int.reduceEq, Int.reduceNe, Int.reduceLT, Int.reduceLE, Int.reduceToNat, Int.reduceNeg, Int.reduceBEq, Int.reduceAdd, Int.reduceSub, Int.reduceGT, Int.reduceGE, Int.reduceBNe, vlV, hb, thsV_nil]
    refine vc_unroll 1 (vcI_step ?_)
    subst ho
    simp only [go_sem, reduceIte, reduceCtorEq, Nat.reduceAdd, Nat.reduceSub, Nat.reduceMul, Nat.reduceLT, Nat.reduceLeDiff, Nat.reduceEqDiff, Nat.reduceBEq, Nat.reduceGT, Int.reduceEq, Int.reduceNe, Int.reduceLT, Int.reduceLE, Int.reduceToNat, Int.reduceNeg, Int.reduceBEq, Int.reduceAdd, Int.reduceSub, Int.reduceGT, Int.reduceGE, Int.reduceBNe, beq_self_eq_true]
  · have hb : (a != b) = true := by simpa using h
    have hb2 : (a == b) = false := by simpa using h
    subst ho
    simp only [go_sem, reduceIte, reduceCtorEq, Nat.reduceAdd, Nat.reduceSub, Nat.reduceMul, Nat.reduceLT, Nat.reduceLeDiff, Nat.reduceEqDiff, Nat.reduceBEq, Nat.reduceGT, Int.reduceEq, Int.reduceNe, Int.reduceLT, Int.reduceLE, Int.reduceToNat, Int.reduceNeg, Int.reduceBEq, Int.reduceAdd, Int.reduceSub, Int.reduceGT, Int.reduceGE, Int.reduceBNe, vlV, hb, hb2, thsV_nil]

set_option maxRecDepth 10000 in
/-- Two calls, both kids alike. -/
theorem hcon_kids_app {G G1 G2 : List (List SV)} {m : Nat} {a0 a1 b0 b1 : Nat} (deep : Int) (hd : fit deep) (eta : Bool)
    (h0 : HCon 62 G [.gp m 0, .gp a0 0, .gp b0 0, .int .i64 deep, .bool eta] (.ret (.bool true)) G1)
    (h1 : HCon 62 G1 [.gp m 0, .gp a1 0, .gp b1 0, .int .i64 deep, .bool eta] (.ret (.bool true)) G2) :
    HCon 82 G [.gp m 0, vlV ⟨15, 0, 0, 0, 0, [a0, a1]⟩, vlV ⟨15, 0, 0, 0, 0, [b0, b1]⟩, .int .i64 deep, .bool eta] (.ret (.bool true)) G2 := by
  obtain ⟨out, ho⟩ : ∃ out, out = HOut.ret (.bool true) := ⟨_, rfl⟩
  rw [← ho]
  refine hcontract_of_vc mixed Tryd.func82 tr82 ?_
  have w0 : IntKind.i64.wrap (deep + 0) = deep := by rw [Int.add_zero]; exact w64 hd
  have hb0 : Con 36 [.int .i64 15, .int .i64 0] (.int .i64 0) := con_binds 15 0
  have hb1 : Con 36 [.int .i64 15, .int .i64 1] (.int .i64 0) := con_binds 15 1
  simp only [go_sem, reduceIte, reduceCtorEq, Nat.reduceAdd, Nat.reduceSub, Nat.reduceMul, Nat.reduceLT, Nat.reduceLeDiff, Nat.reduceEqDiff, Nat.reduceBEq, Nat.reduceGT, Int.reduceEq, Int.reduceNe, Int.reduceLT, Int.reduceLE, Int.reduceToNat, Int.reduceNeg, Int.reduceBEq, Int.reduceAdd, Int.reduceSub, Int.reduceGT, Int.reduceGE, Int.reduceBNe, vlV, thsV_cons, List.map_cons, List.map_nil]
  refine vc_unroll 3 (vcI_step ?_)
  simp only [go_sem, reduceIte, reduceCtorEq, Nat.reduceAdd, Nat.reduceSub, Nat.reduceMul, Nat.reduceLT, Nat.reduceLeDiff, Nat.reduceEqDiff, Nat.reduceBEq, Nat.reduceGT, Int.reduceEq, Int.reduceNe, Int.reduceLT, Int.reduceLE, Int.reduceToNat, Int.reduceNeg, Int.reduceBEq, Int.reduceAdd, Int.reduceSub, Int.reduceGT, Int.reduceGE, Int.reduceBNe, vlV, thsV_cons, List.map_cons, List.map_nil]
  refine callK_of hb0 ?_
  simp only [go_sem, reduceIte, reduceCtorEq, Nat.reduceAdd, Nat.reduceSub, Nat.reduceMul, Nat.reduceLT, Nat.reduceLeDiff, Nat.reduceEqDiff, Nat.reduceBEq, Nat.reduceGT, Int.reduceEq, Int.reduceNe, Int.reduceLT, Int.reduceLE, Int.reduceToNat, Int.reduceNeg, Int.reduceBEq, Int.reduceAdd, Int.reduceSub, Int.reduceGT, Int.reduceGE, Int.reduceBNe, w0]
  refine callH_of h0 ?_
  simp only [go_sem, reduceIte, reduceCtorEq, Nat.reduceAdd, Nat.reduceSub, Nat.reduceMul, Nat.reduceLT, Nat.reduceLeDiff, Nat.reduceEqDiff, Nat.reduceBEq, Nat.reduceGT, Int.reduceEq, Int.reduceNe, Int.reduceLT, Int.reduceLE, Int.reduceToNat, Int.reduceNeg, Int.reduceBEq, Int.reduceAdd, Int.reduceSub, Int.reduceGT, Int.reduceGE, Int.reduceBNe]
  refine vcI_step ?_
  simp only [go_sem, reduceIte, reduceCtorEq, Nat.reduceAdd, Nat.reduceSub, Nat.reduceMul, Nat.reduceLT, Nat.reduceLeDiff, Nat.reduceEqDiff, Nat.reduceBEq, Nat.reduceGT, Int.reduceEq, Int.reduceNe, Int.reduceLT, Int.reduceLE, Int.reduceToNat, Int.reduceNeg, Int.reduceBEq, Int.reduceAdd, Int.reduceSub, Int.reduceGT, Int.reduceGE, Int.reduceBNe, vlV, thsV_cons, List.map_cons, List.map_nil]
  refine callK_of hb1 ?_
  simp only [go_sem, reduceIte, reduceCtorEq, Nat.reduceAdd, Nat.reduceSub, Nat.reduceMul, Nat.reduceLT, Nat.reduceLeDiff, Nat.reduceEqDiff, Nat.reduceBEq, Nat.reduceGT, Int.reduceEq, Int.reduceNe, Int.reduceLT, Int.reduceLE, Int.reduceToNat, Int.reduceNeg, Int.reduceBEq, Int.reduceAdd, Int.reduceSub, Int.reduceGT, Int.reduceGE, Int.reduceBNe, w0]
  refine callH_of h1 ?_
  simp only [go_sem, reduceIte, reduceCtorEq, Nat.reduceAdd, Nat.reduceSub, Nat.reduceMul, Nat.reduceLT, Nat.reduceLeDiff, Nat.reduceEqDiff, Nat.reduceBEq, Nat.reduceGT, Int.reduceEq, Int.reduceNe, Int.reduceLT, Int.reduceLE, Int.reduceToNat, Int.reduceNeg, Int.reduceBEq, Int.reduceAdd, Int.reduceSub, Int.reduceGT, Int.reduceGE, Int.reduceBNe]
  refine vcI_step ?_
  subst ho
  simp only [go_sem, reduceIte, reduceCtorEq, Nat.reduceAdd, Nat.reduceSub, Nat.reduceMul, Nat.reduceLT, Nat.reduceLeDiff, Nat.reduceEqDiff, Nat.reduceBEq, Nat.reduceGT, Int.reduceEq, Int.reduceNe, Int.reduceLT, Int.reduceLE, Int.reduceToNat, Int.reduceNeg, Int.reduceBEq, Int.reduceAdd, Int.reduceSub, Int.reduceGT, Int.reduceGE, Int.reduceBNe]
end Go.Proofs.YtdpigpopcbjkmaaDoor.Abs
