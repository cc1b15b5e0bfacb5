/- cong's Pi, Sig, Lam, Eq, Refl, Fst, Pair, by the program and by the page. Printed by genGb.py. -/
import Derived.Test.YtkldipbhenabfaaGreatRGa
set_option linter.unusedSimpArgs false
set_option linter.unusedVariables false
namespace Go.Proofs.YtkldipbhenabfaaGreat.Abs
open Go Go.RowKit Go.Proofs.YtkldipbhenabfaaGreat

theorem con_cfresh (i : Int) (a b x y h : Tm) (ha : TOk a) (hb : TOk b) (hx : TOk x) (hy : TOk y) (hh : TOk h) : Con 151 [.int .i64 i, .agg true (tv a), .agg true (tv b), .agg true (tv x), .agg true (tv y), .agg true (tv h)] (.agg true (hv i a b x y h)) := by
  refine contract_of_vc mixed Tryz.func151 tr151 ?_
  repeat' first
    | simp (config := { maxSteps := 2000000 }) only [go_sem, reduceIte, reduceCtorEq, Nat.reduceAdd, Nat.reduceSub, Nat.reduceMul, Nat.reduceLT, Nat.reduceLeDiff, Nat.reduceEqDiff, Nat.reduceBEq, Nat.reduceGT, Int.reduceEq, Int.reduceNe, Int.reduceLT, Int.reduceLE, Int.reduceToNat, Int.reduceNeg, Int.reduceBEq, Int.reduceAdd, Int.reduceSub, Int.reduceGT, Int.reduceGE, Int.reduceBNe, BEq.rfl]
    | refine callK_of (con_copy a ha) ?_
    | refine callK_of (con_copy b hb) ?_
    | refine callK_of (con_copy x hx) ?_
    | refine callK_of (con_copy y hy) ?_
    | refine callK_of (con_copy h hh) ?_
    | rfl

theorem tok_two {k : Int} {a b : Tm} (h : fit k) (ha : TOk a) (hb : TOk b) : TOk (.mk k 0 0 0 [a, b]) := tok_k h (by simp) (by simp [ha, hb])
theorem tok_lam {a b : Tm} (ha : TOk a) (hb : TOk b) : TOk (tlam a b) := tok_two (by unfold fit; omega) ha hb
theorem tok_pi {a b : Tm} (ha : TOk a) (hb : TOk b) : TOk (tpi a b) := tok_two (by unfold fit; omega) ha hb
theorem tok_sig {a b : Tm} (ha : TOk a) (hb : TOk b) : TOk (tsig a b) := tok_two (by unfold fit; omega) ha hb
theorem tok_part {k : Int} {a : Tm} (h : fit k) (ha : TOk a) : TOk (tpart k a) := tok_k h (by simp) (by simp [ha])
theorem tok_six {n : Int} {f : FT} {more : List Tm} (hn : fit n) (hf : f.ok) (hm : more.length ≤ 1000) (ho : ∀ t ∈ more, TOk t) : TOk (six n f more) := by
  refine tok_us hn hf.i hf.j ?_ ?_
  · simp [sixL]; omega
  · intro t ht
    simp only [sixL, List.mem_cons] at ht
    rcases ht with rfl | rfl | rfl | rfl | rfl | rfl | ht
    · exact hf.a
    · exact hf.c
    · exact hf.e
    · exact tok_lam hf.a hf.b
    · exact tok_lam hf.c hf.d
    · exact hf.f
    · exact ho t ht

def mxI (i j : Int) : Int := if j > i then j else i
theorem fit_mx {i j : Int} (hi : fit i) (hj : fit j) : fit (mxI i j) := by unfold mxI; split <;> assumption

def piF (f : FT) : Tm := if famRight f then six 13 f [] else zT
def sigF (f : FT) : Tm := if famRight f then six 14 f [] else zT
def lamF (f : FT) (t s k : Tm) : HT := if famRight f && plains [t, s, k] then ⟨mxI f.i f.j, tpi f.a f.b, tpi f.c f.d, tlam f.a t, tlam f.c s, six 15 f [tlam f.a t, tlam f.c s, k]⟩ else zH
def fstF (f : FT) (s : HT) : HT := if famRight f && tolds s then ⟨f.i, f.a, f.c, tpart 18 s.x, tpart 18 s.y, six 18 f [s.x, s.y, s.h]⟩ else zH
def tpair (a b x y : Tm) : Tm := .mk 17 0 0 0 [a, b, x, y]
def pairF (f : FT) (r s : HT) : HT := if famRight f && (tolds s && tolds r) then ⟨mxI f.i f.j, tsig f.a f.b, tsig f.c f.d, tpair f.a f.b r.x s.x, tpair f.c f.d r.y s.y, six 17 f [r.x, r.y, r.h, s.x, s.y, s.h]⟩ else zH
def teq (a x : Tm) : Tm := .mk 20 0 0 0 [a, x, x]
def trefl (a x : Tm) : Tm := .mk 21 0 0 0 [a, x]
def ceqF (i : Int) (a c e : Tm) (r s : HT) : Tm := if lev3 i && (plains [a, c, e] && (tolds r && tolds s)) then us 20 i 0 [a, c, e, r.x, r.y, r.h, s.x, s.y, s.h] else zT
def creflF (i : Int) (a c e : Tm) (r : HT) : HT := if lev3 i && (plains [a, c, e] && tolds r) then ⟨i, teq a r.x, teq c r.y, trefl a r.x, trefl c r.y, us 21 i 0 [a, c, e, r.x, r.y, r.h]⟩ else zH

set_option maxRecDepth 20000 in
set_option maxHeartbeats 2000000 in
theorem con_cPi (f : FT) (hf : f.ok) : Con 135 [.agg true f.v] (.agg true (tv (piF f))) := by
  have k0 := con_fright f hf
  unfold piF
  cases b0 : famRight f
  · refine (contract_of_vc (r := .agg true [.int .i64 0, .int .i64 0, .int .i64 0, .int .i64 0, .nils]) mixed Tryz.func135 tr135 ?_).weaken le_zT
    simp only [HT.v, FT.v] at *
    repeat' first
      | simp (config := { maxSteps := 2000000 }) only [go_sem, reduceIte, reduceCtorEq, Nat.reduceAdd, Nat.reduceSub, Nat.reduceMul, Nat.reduceLT, Nat.reduceLeDiff, Nat.reduceEqDiff, Nat.reduceBEq, Nat.reduceGT, Int.reduceEq, Int.reduceNe, Int.reduceLT, Int.reduceLE, Int.reduceToNat, Int.reduceNeg, Int.reduceBEq, Int.reduceAdd, Int.reduceSub, Int.reduceGT, Int.reduceGE, Int.reduceBNe, b0]
      | refine callK_of (k0) ?_
      | rfl
  · skip
    have c1 := con_fuse0 f 13
    have c2 := con_copy _ (tok_six (n := 13) (more := []) (by unfold fit; omega) hf (by simp) (by simp))
    refine contract_of_vc mixed Tryz.func135 tr135 ?_
    simp only [Bool.and_true, Bool.true_and, Bool.and_self, if_true, HT.v, FT.v] at *
    repeat' first
      | simp (config := { maxSteps := 2000000 }) only [go_sem, reduceIte, reduceCtorEq, Nat.reduceAdd, Nat.reduceSub, Nat.reduceMul, Nat.reduceLT, Nat.reduceLeDiff, Nat.reduceEqDiff, Nat.reduceBEq, Nat.reduceGT, Int.reduceEq, Int.reduceNe, Int.reduceLT, Int.reduceLE, Int.reduceToNat, Int.reduceNeg, Int.reduceBEq, Int.reduceAdd, Int.reduceSub, Int.reduceGT, Int.reduceGE, Int.reduceBNe, b0, mxI]
      | refine callK_of (k0) ?_
      | refine callK_of (c1) ?_
      | refine callK_of (c2) ?_
      | rfl

set_option maxRecDepth 20000 in
set_option maxHeartbeats 2000000 in
theorem con_cSig (f : FT) (hf : f.ok) : Con 136 [.agg true f.v] (.agg true (tv (sigF f))) := by
  have k0 := con_fright f hf
  unfold sigF
  cases b0 : famRight f
  · refine (contract_of_vc (r := .agg true [.int .i64 0, .int .i64 0, .int .i64 0, .int .i64 0, .nils]) mixed Tryz.func136 tr136 ?_).weaken le_zT
    simp only [HT.v, FT.v] at *
    repeat' first
      | simp (config := { maxSteps := 2000000 }) only [go_sem, reduceIte, reduceCtorEq, Nat.reduceAdd, Nat.reduceSub, Nat.reduceMul, Nat.reduceLT, Nat.reduceLeDiff, Nat.reduceEqDiff, Nat.reduceBEq, Nat.reduceGT, Int.reduceEq, Int.reduceNe, Int.reduceLT, Int.reduceLE, Int.reduceToNat, Int.reduceNeg, Int.reduceBEq, Int.reduceAdd, Int.reduceSub, Int.reduceGT, Int.reduceGE, Int.reduceBNe, b0]
      | refine callK_of (k0) ?_
      | rfl
  · skip
    have c1 := con_fuse0 f 14
    have c2 := con_copy _ (tok_six (n := 14) (more := []) (by unfold fit; omega) hf (by simp) (by simp))
    refine contract_of_vc mixed Tryz.func136 tr136 ?_
    simp only [Bool.and_true, Bool.true_and, Bool.and_self, if_true, HT.v, FT.v] at *
    repeat' first
      | simp (config := { maxSteps := 2000000 }) only [go_sem, reduceIte, reduceCtorEq, Nat.reduceAdd, Nat.reduceSub, Nat.reduceMul, Nat.reduceLT, Nat.reduceLeDiff, Nat.reduceEqDiff, Nat.reduceBEq, Nat.reduceGT, Int.reduceEq, Int.reduceNe, Int.reduceLT, Int.reduceLE, Int.reduceToNat, Int.reduceNeg, Int.reduceBEq, Int.reduceAdd, Int.reduceSub, Int.reduceGT, Int.reduceGE, Int.reduceBNe, b0, mxI]
      | refine callK_of (k0) ?_
      | refine callK_of (c1) ?_
      | refine callK_of (c2) ?_
      | rfl

set_option maxRecDepth 20000 in
set_option maxHeartbeats 2000000 in
theorem con_cLam (f : FT) (t s k : Tm) (hf : f.ok) (ht : TOk t) (hs : TOk s) (hk : TOk k) : Con 137 [.agg true f.v, .agg true (tv t), .agg true (tv s), .agg true (tv k)] (.agg true (lamF f t s k).v) := by
  have k0 := con_fright f hf
  have k1 := con_cplain [t, s, k] (by simp [ht, hs, hk]) (by simp)
  unfold lamF
  cases b0 : famRight f
  · refine (contract_of_vc (r := .agg true [.int .i64 0, .int .i64 0, .int .i64 0, .int .i64 0, .int .i64 0, .nils, .int .i64 0, .int .i64 0, .int .i64 0, .int .i64 0, .nils, .int .i64 0, .int .i64 0, .int .i64 0, .int .i64 0, .nils, .int .i64 0, .int .i64 0, .int .i64 0, .int .i64 0, .nils, .int .i64 0, .int .i64 0, .int .i64 0, .int .i64 0, .nils]) mixed Tryz.func137 tr137 ?_).weaken le_zH
    simp only [HT.v, FT.v] at *
    repeat' first
      | simp (config := { maxSteps := 2000000 }) only [go_sem, reduceIte, reduceCtorEq, Nat.reduceAdd, Nat.reduceSub, Nat.reduceMul, Nat.reduceLT, Nat.reduceLeDiff, Nat.reduceEqDiff, Nat.reduceBEq, Nat.reduceGT, Int.reduceEq, Int.reduceNe, Int.reduceLT, Int.reduceLE, Int.reduceToNat, Int.reduceNeg, Int.reduceBEq, Int.reduceAdd, Int.reduceSub, Int.reduceGT, Int.reduceGE, Int.reduceBNe, b0]
      | refine callK_of (k0) ?_
      | rfl
  · skip
    cases b1 : plains [t, s, k]
    · refine (contract_of_vc (r := .agg true [.int .i64 0, .int .i64 0, .int .i64 0, .int .i64 0, .int .i64 0, .nils, .int .i64 0, .int .i64 0, .int .i64 0, .int .i64 0, .nils, .int .i64 0, .int .i64 0, .int .i64 0, .int .i64 0, .nils, .int .i64 0, .int .i64 0, .int .i64 0, .int .i64 0, .nils, .int .i64 0, .int .i64 0, .int .i64 0, .int .i64 0, .nils]) mixed Tryz.func137 tr137 ?_).weaken le_zH
      simp only [HT.v, FT.v] at *
      repeat' first
        | simp (config := { maxSteps := 2000000 }) only [go_sem, reduceIte, reduceCtorEq, Nat.reduceAdd, Nat.reduceSub, Nat.reduceMul, Nat.reduceLT, Nat.reduceLeDiff, Nat.reduceEqDiff, Nat.reduceBEq, Nat.reduceGT, Int.reduceEq, Int.reduceNe, Int.reduceLT, Int.reduceLE, Int.reduceToNat, Int.reduceNeg, Int.reduceBEq, Int.reduceAdd, Int.reduceSub, Int.reduceGT, Int.reduceGE, Int.reduceBNe, b0, b1]
        | refine callK_of (k0) ?_
        | refine callK_of (k1) ?_
        | rfl
    · skip
      have c1 := con_fuse f 15 [tlam f.a t, tlam f.c s, k] (by simp)
      have c2 := con_cfresh (mxI f.i f.j) (tpi f.a f.b) (tpi f.c f.d) (tlam f.a t) (tlam f.c s) (six 15 f [tlam f.a t, tlam f.c s, k]) (tok_pi hf.a hf.b) (tok_pi hf.c hf.d) (tok_lam hf.a ht) (tok_lam hf.c hs) (tok_six (by unfold fit; omega) hf (by simp) (by simp [tok_lam hf.a ht, tok_lam hf.c hs, hk]))
      simp only [mxI] at c2
      refine contract_of_vc mixed Tryz.func137 tr137 ?_
      simp only [Bool.and_true, Bool.true_and, Bool.and_self, if_true, HT.v, FT.v] at *
      repeat' first
        | simp (config := { maxSteps := 2000000 }) only [go_sem, reduceIte, reduceCtorEq, Nat.reduceAdd, Nat.reduceSub, Nat.reduceMul, Nat.reduceLT, Nat.reduceLeDiff, Nat.reduceEqDiff, Nat.reduceBEq, Nat.reduceGT, Int.reduceEq, Int.reduceNe, Int.reduceLT, Int.reduceLE, Int.reduceToNat, Int.reduceNeg, Int.reduceBEq, Int.reduceAdd, Int.reduceSub, Int.reduceGT, Int.reduceGE, Int.reduceBNe, b0, b1, mxI]
        | refine callK_of (k0) ?_
        | refine callK_of (k1) ?_
        | refine callK_of (con_lam f.a t) ?_
        | refine callK_of (con_lam f.c s) ?_
        | refine callK_of (con_pi f.a f.b) ?_
        | refine callK_of (con_pi f.c f.d) ?_
        | refine callK_of (c1) ?_
        | refine callK_of (c2) ?_
        | rfl

set_option maxRecDepth 20000 in
set_option maxHeartbeats 2000000 in
theorem con_cFst (f : FT) (s : HT) (hf : f.ok) (hs : s.ok) : Con 138 [.agg true f.v, .agg true s.v] (.agg true (fstF f s).v) := by
  have k0 := con_fright f hf
  have k1 := con_told s hs
  unfold fstF
  cases b0 : famRight f
  · refine (contract_of_vc (r := .agg true [.int .i64 0, .int .i64 0, .int .i64 0, .int .i64 0, .int .i64 0, .nils, .int .i64 0, .int .i64 0, .int .i64 0, .int .i64 0, .nils, .int .i64 0, .int .i64 0, .int .i64 0, .int .i64 0, .nils, .int .i64 0, .int .i64 0, .int .i64 0, .int .i64 0, .nils, .int .i64 0, .int .i64 0, .int .i64 0, .int .i64 0, .nils]) mixed Tryz.func138 tr138 ?_).weaken le_zH
    simp only [HT.v, FT.v] at *
    repeat' first
      | simp (config := { maxSteps := 2000000 }) only [go_sem, reduceIte, reduceCtorEq, Nat.reduceAdd, Nat.reduceSub, Nat.reduceMul, Nat.reduceLT, Nat.reduceLeDiff, Nat.reduceEqDiff, Nat.reduceBEq, Nat.reduceGT, Int.reduceEq, Int.reduceNe, Int.reduceLT, Int.reduceLE, Int.reduceToNat, Int.reduceNeg, Int.reduceBEq, Int.reduceAdd, Int.reduceSub, Int.reduceGT, Int.reduceGE, Int.reduceBNe, b0]
      | refine callK_of (k0) ?_
      | rfl
  · skip
    cases b1 : tolds s
    · refine (contract_of_vc (r := .agg true [.int .i64 0, .int .i64 0, .int .i64 0, .int .i64 0, .int .i64 0, .nils, .int .i64 0, .int .i64 0, .int .i64 0, .int .i64 0, .nils, .int .i64 0, .int .i64 0, .int .i64 0, .int .i64 0, .nils, .int .i64 0, .int .i64 0, .int .i64 0, .int .i64 0, .nils, .int .i64 0, .int .i64 0, .int .i64 0, .int .i64 0, .nils]) mixed Tryz.func138 tr138 ?_).weaken le_zH
      simp only [HT.v, FT.v] at *
      repeat' first
        | simp (config := { maxSteps := 2000000 }) only [go_sem, reduceIte, reduceCtorEq, Nat.reduceAdd, Nat.reduceSub, Nat.reduceMul, Nat.reduceLT, Nat.reduceLeDiff, Nat.reduceEqDiff, Nat.reduceBEq, Nat.reduceGT, Int.reduceEq, Int.reduceNe, Int.reduceLT, Int.reduceLE, Int.reduceToNat, Int.reduceNeg, Int.reduceBEq, Int.reduceAdd, Int.reduceSub, Int.reduceGT, Int.reduceGE, Int.reduceBNe, b0, b1]
        | refine callK_of (k0) ?_
        | refine callK_of (k1) ?_
        | rfl
    · skip
      have c1 := con_fuse f 18 [s.x, s.y, s.h] (by simp)
      have c2 := con_cfresh f.i f.a f.c (tpart 18 s.x) (tpart 18 s.y) (six 18 f [s.x, s.y, s.h]) hf.a hf.c (tok_part (by unfold fit; omega) hs.x) (tok_part (by unfold fit; omega) hs.y) (tok_six (by unfold fit; omega) hf (by simp) (by simp [hs.x, hs.y, hs.h]))
      refine contract_of_vc mixed Tryz.func138 tr138 ?_
      simp only [Bool.and_true, Bool.true_and, Bool.and_self, if_true, HT.v, FT.v] at *
      repeat' first
        | simp (config := { maxSteps := 2000000 }) only [go_sem, reduceIte, reduceCtorEq, Nat.reduceAdd, Nat.reduceSub, Nat.reduceMul, Nat.reduceLT, Nat.reduceLeDiff, Nat.reduceEqDiff, Nat.reduceBEq, Nat.reduceGT, Int.reduceEq, Int.reduceNe, Int.reduceLT, Int.reduceLE, Int.reduceToNat, Int.reduceNeg, Int.reduceBEq, Int.reduceAdd, Int.reduceSub, Int.reduceGT, Int.reduceGE, Int.reduceBNe, b0, b1, mxI]
        | refine callK_of (k0) ?_
        | refine callK_of (k1) ?_
        | refine callK_of (con_part 18 s.x) ?_
        | refine callK_of (con_part 18 s.y) ?_
        | refine callK_of (c1) ?_
        | refine callK_of (c2) ?_
        | rfl

set_option maxRecDepth 20000 in
set_option maxHeartbeats 2000000 in
theorem con_cPair (f : FT) (r s : HT) (hf : f.ok) (hr : r.ok) (hs : s.ok) : Con 141 [.agg true f.v, .agg true r.v, .agg true s.v] (.agg true (pairF f r s).v) := by
  have k0 := con_fright f hf
  have k1 := con_told s hs
  have k2 := con_told r hr
  unfold pairF
  cases b0 : famRight f
  · refine (contract_of_vc (r := .agg true [.int .i64 0, .int .i64 0, .int .i64 0, .int .i64 0, .int .i64 0, .nils, .int .i64 0, .int .i64 0, .int .i64 0, .int .i64 0, .nils, .int .i64 0, .int .i64 0, .int .i64 0, .int .i64 0, .nils, .int .i64 0, .int .i64 0, .int .i64 0, .int .i64 0, .nils, .int .i64 0, .int .i64 0, .int .i64 0, .int .i64 0, .nils]) mixed Tryz.func141 tr141 ?_).weaken le_zH
    simp only [HT.v, FT.v] at *
    repeat' first
      | simp (config := { maxSteps := 2000000 }) only [go_sem, reduceIte, reduceCtorEq, Nat.reduceAdd, Nat.reduceSub, Nat.reduceMul, Nat.reduceLT, Nat.reduceLeDiff, Nat.reduceEqDiff, Nat.reduceBEq, Nat.reduceGT, Int.reduceEq, Int.reduceNe, Int.reduceLT, Int.reduceLE, Int.reduceToNat, Int.reduceNeg, Int.reduceBEq, Int.reduceAdd, Int.reduceSub, Int.reduceGT, Int.reduceGE, Int.reduceBNe, b0]
      | refine callK_of (k0) ?_
      | rfl
  · skip
    cases b1 : tolds s
    · refine (contract_of_vc (r := .agg true [.int .i64 0, .int .i64 0, .int .i64 0, .int .i64 0, .int .i64 0, .nils, .int .i64 0, .int .i64 0, .int .i64 0, .int .i64 0, .nils, .int .i64 0, .int .i64 0, .int .i64 0, .int .i64 0, .nils, .int .i64 0, .int .i64 0, .int .i64 0, .int .i64 0, .nils, .int .i64 0, .int .i64 0, .int .i64 0, .int .i64 0, .nils]) mixed Tryz.func141 tr141 ?_).weaken le_zH
      simp only [HT.v, FT.v] at *
      repeat' first
        | simp (config := { maxSteps := 2000000 }) only [go_sem, reduceIte, reduceCtorEq, Nat.reduceAdd, Nat.reduceSub, Nat.reduceMul, Nat.reduceLT, Nat.reduceLeDiff, Nat.reduceEqDiff, Nat.reduceBEq, Nat.reduceGT, Int.reduceEq, Int.reduceNe, Int.reduceLT, Int.reduceLE, Int.reduceToNat, Int.reduceNeg, Int.reduceBEq, Int.reduceAdd, Int.reduceSub, Int.reduceGT, Int.reduceGE, Int.reduceBNe, b0, b1]
        | refine callK_of (k0) ?_
        | refine callK_of (k1) ?_
        | rfl
    · skip
      cases b2 : tolds r
      · refine (contract_of_vc (r := .agg true [.int .i64 0, .int .i64 0, .int .i64 0, .int .i64 0, .int .i64 0, .nils, .int .i64 0, .int .i64 0, .int .i64 0, .int .i64 0, .nils, .int .i64 0, .int .i64 0, .int .i64 0, .int .i64 0, .nils, .int .i64 0, .int .i64 0, .int .i64 0, .int .i64 0, .nils, .int .i64 0, .int .i64 0, .int .i64 0, .int .i64 0, .nils]) mixed Tryz.func141 tr141 ?_).weaken le_zH
        simp only [HT.v, FT.v] at *
        repeat' first
          | simp (config := { maxSteps := 2000000 }) only [go_sem, reduceIte, reduceCtorEq, Nat.reduceAdd, Nat.reduceSub, Nat.reduceMul, Nat.reduceLT, Nat.reduceLeDiff, Nat.reduceEqDiff, Nat.reduceBEq, Nat.reduceGT, Int.reduceEq, Int.reduceNe, Int.reduceLT, Int.reduceLE, Int.reduceToNat, Int.reduceNeg, Int.reduceBEq, Int.reduceAdd, Int.reduceSub, Int.reduceGT, Int.reduceGE, Int.reduceBNe, b0, b1, b2]
          | refine callK_of (k0) ?_
          | refine callK_of (k1) ?_
          | refine callK_of (k2) ?_
          | rfl
      · skip
        have c1 := con_fuse f 17 [r.x, r.y, r.h, s.x, s.y, s.h] (by simp)
        have c2 := con_cfresh (mxI f.i f.j) (tsig f.a f.b) (tsig f.c f.d) (tpair f.a f.b r.x s.x) (tpair f.c f.d r.y s.y) (six 17 f [r.x, r.y, r.h, s.x, s.y, s.h]) (tok_sig hf.a hf.b) (tok_sig hf.c hf.d) (tok_k (by unfold fit; omega) (by simp) (by simp [hf.a, hf.b, hr.x, hs.x])) (tok_k (by unfold fit; omega) (by simp) (by simp [hf.c, hf.d, hr.y, hs.y])) (tok_six (by unfold fit; omega) hf (by simp) (by simp [hr.x, hr.y, hr.h, hs.x, hs.y, hs.h]))
        simp only [mxI, tpair] at *
        refine contract_of_vc mixed Tryz.func141 tr141 ?_
        simp only [Bool.and_true, Bool.true_and, Bool.and_self, if_true, HT.v, FT.v] at *
        repeat' first
          | simp (config := { maxSteps := 2000000 }) only [go_sem, reduceIte, reduceCtorEq, Nat.reduceAdd, Nat.reduceSub, Nat.reduceMul, Nat.reduceLT, Nat.reduceLeDiff, Nat.reduceEqDiff, Nat.reduceBEq, Nat.reduceGT, Int.reduceEq, Int.reduceNe, Int.reduceLT, Int.reduceLE, Int.reduceToNat, Int.reduceNeg, Int.reduceBEq, Int.reduceAdd, Int.reduceSub, Int.reduceGT, Int.reduceGE, Int.reduceBNe, b0, b1, b2, mxI]
          | refine callK_of (k0) ?_
          | refine callK_of (k1) ?_
          | refine callK_of (k2) ?_
          | refine callK_of (con_ofT 17 0 0 0 [f.a, f.b, r.x, s.x] (by simp) (by simp)) ?_
          | refine callK_of (con_ofT 17 0 0 0 [f.c, f.d, r.y, s.y] (by simp) (by simp)) ?_
          | refine callK_of (con_sig f.a f.b) ?_
          | refine callK_of (con_sig f.c f.d) ?_
          | refine callK_of (c1) ?_
          | refine callK_of (c2) ?_
          | rfl

set_option maxRecDepth 20000 in
set_option maxHeartbeats 2000000 in
theorem con_cEq (i : Int) (a c e : Tm) (r s : HT) (ha : TOk a) (hc : TOk c) (he : TOk e) (hr : r.ok) (hs : s.ok) : Con 132 [.int .i64 i, .agg true (tv a), .agg true (tv c), .agg true (tv e), .agg true r.v, .agg true s.v] (.agg true (tv (ceqF i a c e r s))) := by
  have k0 := con_clevel i
  have k1 := con_cplain [a, c, e] (by simp [ha, hc, he]) (by simp)
  have k2 := con_told r hr
  have k3 := con_told s hs
  unfold ceqF
  cases b0 : lev3 i
  · refine (contract_of_vc (r := .agg true [.int .i64 0, .int .i64 0, .int .i64 0, .int .i64 0, .nils]) mixed Tryz.func132 tr132 ?_).weaken le_zT
    simp only [HT.v, FT.v] at *
    repeat' first
      | simp (config := { maxSteps := 2000000 }) only [go_sem, reduceIte, reduceCtorEq, Nat.reduceAdd, Nat.reduceSub, Nat.reduceMul, Nat.reduceLT, Nat.reduceLeDiff, Nat.reduceEqDiff, Nat.reduceBEq, Nat.reduceGT, Int.reduceEq, Int.reduceNe, Int.reduceLT, Int.reduceLE, Int.reduceToNat, Int.reduceNeg, Int.reduceBEq, Int.reduceAdd, Int.reduceSub, Int.reduceGT, Int.reduceGE, Int.reduceBNe, b0]
      | refine callK_of (k0) ?_
      | rfl
  · skip
    cases b1 : plains [a, c, e]
    · refine (contract_of_vc (r := .agg true [.int .i64 0, .int .i64 0, .int .i64 0, .int .i64 0, .nils]) mixed Tryz.func132 tr132 ?_).weaken le_zT
      simp only [HT.v, FT.v] at *
      repeat' first
        | simp (config := { maxSteps := 2000000 }) only [go_sem, reduceIte, reduceCtorEq, Nat.reduceAdd, Nat.reduceSub, Nat.reduceMul, Nat.reduceLT, Nat.reduceLeDiff, Nat.reduceEqDiff, Nat.reduceBEq, Nat.reduceGT, Int.reduceEq, Int.reduceNe, Int.reduceLT, Int.reduceLE, Int.reduceToNat, Int.reduceNeg, Int.reduceBEq, Int.reduceAdd, Int.reduceSub, Int.reduceGT, Int.reduceGE, Int.reduceBNe, b0, b1]
        | refine callK_of (k0) ?_
        | refine callK_of (k1) ?_
        | rfl
    · skip
      cases b2 : tolds r
      · refine (contract_of_vc (r := .agg true [.int .i64 0, .int .i64 0, .int .i64 0, .int .i64 0, .nils]) mixed Tryz.func132 tr132 ?_).weaken le_zT
        simp only [HT.v, FT.v] at *
        repeat' first
          | simp (config := { maxSteps := 2000000 }) only [go_sem, reduceIte, reduceCtorEq, Nat.reduceAdd, Nat.reduceSub, Nat.reduceMul, Nat.reduceLT, Nat.reduceLeDiff, Nat.reduceEqDiff, Nat.reduceBEq, Nat.reduceGT, Int.reduceEq, Int.reduceNe, Int.reduceLT, Int.reduceLE, Int.reduceToNat, Int.reduceNeg, Int.reduceBEq, Int.reduceAdd, Int.reduceSub, Int.reduceGT, Int.reduceGE, Int.reduceBNe, b0, b1, b2]
          | refine callK_of (k0) ?_
          | refine callK_of (k1) ?_
          | refine callK_of (k2) ?_
          | rfl
      · skip
        cases b3 : tolds s
        · refine (contract_of_vc (r := .agg true [.int .i64 0, .int .i64 0, .int .i64 0, .int .i64 0, .nils]) mixed Tryz.func132 tr132 ?_).weaken le_zT
          simp only [HT.v, FT.v] at *
          repeat' first
            | simp (config := { maxSteps := 2000000 }) only [go_sem, reduceIte, reduceCtorEq, Nat.reduceAdd, Nat.reduceSub, Nat.reduceMul, Nat.reduceLT, Nat.reduceLeDiff, Nat.reduceEqDiff, Nat.reduceBEq, Nat.reduceGT, Int.reduceEq, Int.reduceNe, Int.reduceLT, Int.reduceLE, Int.reduceToNat, Int.reduceNeg, Int.reduceBEq, Int.reduceAdd, Int.reduceSub, Int.reduceGT, Int.reduceGE, Int.reduceBNe, b0, b1, b2, b3]
            | refine callK_of (k0) ?_
            | refine callK_of (k1) ?_
            | refine callK_of (k2) ?_
            | refine callK_of (k3) ?_
            | rfl
        · skip
          have c1 := con_ofT 23 i 0 20 [a, c, e, r.x, r.y, r.h, s.x, s.y, s.h] (by simp) (by simp)
          have c2 := con_copy _ (tok_us (n := 20) (i := i) (j := 0) (l := [a, c, e, r.x, r.y, r.h, s.x, s.y, s.h]) (by unfold fit; omega) (fit_lev3 b0) (by unfold fit; omega) (by simp) (by simp [ha, hc, he, hr.x, hr.y, hr.h, hs.x, hs.y, hs.h]))
          simp only [us] at *
          refine contract_of_vc mixed Tryz.func132 tr132 ?_
          simp only [Bool.and_true, Bool.true_and, Bool.and_self, if_true, HT.v, FT.v] at *
          repeat' first
            | simp (config := { maxSteps := 2000000 }) only [go_sem, reduceIte, reduceCtorEq, Nat.reduceAdd, Nat.reduceSub, Nat.reduceMul, Nat.reduceLT, Nat.reduceLeDiff, Nat.reduceEqDiff, Nat.reduceBEq, Nat.reduceGT, Int.reduceEq, Int.reduceNe, Int.reduceLT, Int.reduceLE, Int.reduceToNat, Int.reduceNeg, Int.reduceBEq, Int.reduceAdd, Int.reduceSub, Int.reduceGT, Int.reduceGE, Int.reduceBNe, b0, b1, b2, b3, mxI]
            | refine callK_of (k0) ?_
            | refine callK_of (k1) ?_
            | refine callK_of (k2) ?_
            | refine callK_of (k3) ?_
            | refine callK_of (c1) ?_
            | refine callK_of (c2) ?_
            | rfl

theorem con_equal (a x : Tm) : Con 149 [.agg true (tv a), .agg true (tv x)] (.agg true (tv (teq a x))) := by
  refine contract_of_vc mixed Tryz.func149 tr149 ?_
  unfold teq
  repeat' first
    | simp (config := { maxSteps := 2000000 }) only [go_sem, reduceIte, reduceCtorEq, Nat.reduceAdd, Nat.reduceSub, Nat.reduceMul, Nat.reduceLT, Nat.reduceLeDiff, Nat.reduceEqDiff, Nat.reduceBEq, Nat.reduceGT, Int.reduceEq, Int.reduceNe, Int.reduceLT, Int.reduceLE, Int.reduceToNat, Int.reduceNeg, Int.reduceBEq, Int.reduceAdd, Int.reduceSub, Int.reduceGT, Int.reduceGE, Int.reduceBNe, BEq.rfl]
    | refine callK_of (con_ofT 20 0 0 0 [a, x, x] (by simp) (by simp)) ?_
    | rfl
theorem con_reflc (a x : Tm) : Con 150 [.agg true (tv a), .agg true (tv x)] (.agg true (tv (trefl a x))) := by
  refine contract_of_vc mixed Tryz.func150 tr150 ?_
  unfold trefl
  repeat' first
    | simp (config := { maxSteps := 2000000 }) only [go_sem, reduceIte, reduceCtorEq, Nat.reduceAdd, Nat.reduceSub, Nat.reduceMul, Nat.reduceLT, Nat.reduceLeDiff, Nat.reduceEqDiff, Nat.reduceBEq, Nat.reduceGT, Int.reduceEq, Int.reduceNe, Int.reduceLT, Int.reduceLE, Int.reduceToNat, Int.reduceNeg, Int.reduceBEq, Int.reduceAdd, Int.reduceSub, Int.reduceGT, Int.reduceGE, Int.reduceBNe, BEq.rfl]
    | refine callK_of (con_ofT 21 0 0 0 [a, x] (by simp) (by simp)) ?_
    | rfl

set_option maxRecDepth 20000 in
set_option maxHeartbeats 2000000 in
theorem con_cRefl (i : Int) (a c e : Tm) (r : HT) (ha : TOk a) (hc : TOk c) (he : TOk e) (hr : r.ok) : Con 130 [.int .i64 i, .agg true (tv a), .agg true (tv c), .agg true (tv e), .agg true r.v] (.agg true (creflF i a c e r).v) := by
  have k0 := con_clevel i
  have k1 := con_cplain [a, c, e] (by simp [ha, hc, he]) (by simp)
  have k2 := con_told r hr
  unfold creflF
  cases b0 : lev3 i
  · refine (contract_of_vc (r := .agg true [.int .i64 0, .int .i64 0, .int .i64 0, .int .i64 0, .int .i64 0, .nils, .int .i64 0, .int .i64 0, .int .i64 0, .int .i64 0, .nils, .int .i64 0, .int .i64 0, .int .i64 0, .int .i64 0, .nils, .int .i64 0, .int .i64 0, .int .i64 0, .int .i64 0, .nils, .int .i64 0, .int .i64 0, .int .i64 0, .int .i64 0, .nils]) mixed Tryz.func130 tr130 ?_).weaken le_zH
    simp only [HT.v, FT.v] at *
    repeat' first
      | simp (config := { maxSteps := 2000000 }) only [go_sem, reduceIte, reduceCtorEq, Nat.reduceAdd, Nat.reduceSub, Nat.reduceMul, Nat.reduceLT, Nat.reduceLeDiff, Nat.reduceEqDiff, Nat.reduceBEq, Nat.reduceGT, Int.reduceEq, Int.reduceNe, Int.reduceLT, Int.reduceLE, Int.reduceToNat, Int.reduceNeg, Int.reduceBEq, Int.reduceAdd, Int.reduceSub, Int.reduceGT, Int.reduceGE, Int.reduceBNe, b0]
      | refine callK_of (k0) ?_
      | rfl
  · skip
    cases b1 : plains [a, c, e]
    · refine (contract_of_vc (r := .agg true [.int .i64 0, .int .i64 0, .int .i64 0, .int .i64 0, .int .i64 0, .nils, .int .i64 0, .int .i64 0, .int .i64 0, .int .i64 0, .nils, .int .i64 0, .int .i64 0, .int .i64 0, .int .i64 0, .nils, .int .i64 0, .int .i64 0, .int .i64 0, .int .i64 0, .nils, .int .i64 0, .int .i64 0, .int .i64 0, .int .i64 0, .nils]) mixed Tryz.func130 tr130 ?_).weaken le_zH
      simp only [HT.v, FT.v] at *
      repeat' first
        | simp (config := { maxSteps := 2000000 }) only [go_sem, reduceIte, reduceCtorEq, Nat.reduceAdd, Nat.reduceSub, Nat.reduceMul, Nat.reduceLT, Nat.reduceLeDiff, Nat.reduceEqDiff, Nat.reduceBEq, Nat.reduceGT, Int.reduceEq, Int.reduceNe, Int.reduceLT, Int.reduceLE, Int.reduceToNat, Int.reduceNeg, Int.reduceBEq, Int.reduceAdd, Int.reduceSub, Int.reduceGT, Int.reduceGE, Int.reduceBNe, b0, b1]
        | refine callK_of (k0) ?_
        | refine callK_of (k1) ?_
        | rfl
    · skip
      cases b2 : tolds r
      · refine (contract_of_vc (r := .agg true [.int .i64 0, .int .i64 0, .int .i64 0, .int .i64 0, .int .i64 0, .nils, .int .i64 0, .int .i64 0, .int .i64 0, .int .i64 0, .nils, .int .i64 0, .int .i64 0, .int .i64 0, .int .i64 0, .nils, .int .i64 0, .int .i64 0, .int .i64 0, .int .i64 0, .nils, .int .i64 0, .int .i64 0, .int .i64 0, .int .i64 0, .nils]) mixed Tryz.func130 tr130 ?_).weaken le_zH
        simp only [HT.v, FT.v] at *
        repeat' first
          | simp (config := { maxSteps := 2000000 }) only [go_sem, reduceIte, reduceCtorEq, Nat.reduceAdd, Nat.reduceSub, Nat.reduceMul, Nat.reduceLT, Nat.reduceLeDiff, Nat.reduceEqDiff, Nat.reduceBEq, Nat.reduceGT, Int.reduceEq, Int.reduceNe, Int.reduceLT, Int.reduceLE, Int.reduceToNat, Int.reduceNeg, Int.reduceBEq, Int.reduceAdd, Int.reduceSub, Int.reduceGT, Int.reduceGE, Int.reduceBNe, b0, b1, b2]
          | refine callK_of (k0) ?_
          | refine callK_of (k1) ?_
          | refine callK_of (k2) ?_
          | rfl
      · skip
        have c1 := con_ofT 23 i 0 21 [a, c, e, r.x, r.y, r.h] (by simp) (by simp)
        have c2 := con_cfresh i (teq a r.x) (teq c r.y) (trefl a r.x) (trefl c r.y) (us 21 i 0 [a, c, e, r.x, r.y, r.h]) (tok_k (by unfold fit; omega) (by simp) (by simp [ha, hr.x])) (tok_k (by unfold fit; omega) (by simp) (by simp [hc, hr.y])) (tok_k (by unfold fit; omega) (by simp) (by simp [ha, hr.x])) (tok_k (by unfold fit; omega) (by simp) (by simp [hc, hr.y])) (tok_us (by unfold fit; omega) (fit_lev3 b0) (by unfold fit; omega) (by simp) (by simp [ha, hc, he, hr.x, hr.y, hr.h]))
        simp only [us] at *
        refine contract_of_vc mixed Tryz.func130 tr130 ?_
        simp only [Bool.and_true, Bool.true_and, Bool.and_self, if_true, HT.v, FT.v] at *
        repeat' first
          | simp (config := { maxSteps := 2000000 }) only [go_sem, reduceIte, reduceCtorEq, Nat.reduceAdd, Nat.reduceSub, Nat.reduceMul, Nat.reduceLT, Nat.reduceLeDiff, Nat.reduceEqDiff, Nat.reduceBEq, Nat.reduceGT, Int.reduceEq, Int.reduceNe, Int.reduceLT, Int.reduceLE, Int.reduceToNat, Int.reduceNeg, Int.reduceBEq, Int.reduceAdd, Int.reduceSub, Int.reduceGT, Int.reduceGE, Int.reduceBNe, b0, b1, b2, mxI]
          | refine callK_of (k0) ?_
          | refine callK_of (k1) ?_
          | refine callK_of (k2) ?_
          | refine callK_of (con_equal a r.x) ?_
          | refine callK_of (con_equal c r.y) ?_
          | refine callK_of (con_reflc a r.x) ?_
          | refine callK_of (con_reflc c r.y) ?_
          | refine callK_of (c1) ?_
          | refine callK_of (c2) ?_
          | rfl

end Go.Proofs.YtkldipbhenabfaaGreat.Abs

set_option linter.unusedSimpArgs false
set_option linter.unusedVariables false
namespace Go.Proofs.YtkldipbhenabfaaGreat.Abs
open Go Go.RowKit Go.Proofs.YtkldipbhenabfaaGreat

theorem Contract.args {P : Program} {f : Nat} {xs ys : List SV} {r : SV} (h : Contract P f ys r) (hl : Levs xs ys) : Contract P f xs r := by
  intro m w vs h1 h2 h3
  obtain ⟨e, g⟩ := hl.get
  refine h m w vs h1 (by omega) (fun j v x hv hx => ?_)
  obtain ⟨a, ha, hle⟩ := g j x hx
  exact hle.rep (h3 j v a hv ha)

def zF : FT := ⟨0, 0, zT, zT, zT, zT, zT, zT⟩
def wF : FT := ⟨0, 0, so 0, so 0, so 0, so 0, vr 0, vr 1⟩
end Go.Proofs.YtkldipbhenabfaaGreat.Abs

set_option linter.unusedSimpArgs false
set_option linter.unusedVariables false
namespace Go.Proofs.YtkldipbhenabfaaGreat.Abs
open Go Go.RowKit Go.Proofs.YtkldipbhenabfaaGreat

theorem fit_c (n : Int) (h1 : -1000 ≤ n) (h2 : n ≤ 1000) : fit n := by unfold fit; omega
theorem tok_piF {f : FT} (hf : f.ok) : TOk (piF f) := by
  unfold piF
  split
  · exact tok_six (fit_c _ (by decide) (by decide)) hf (by simp) (by simp)
  · exact tok_zT
theorem tok_sigF {f : FT} (hf : f.ok) : TOk (sigF f) := by
  unfold sigF
  split
  · exact tok_six (fit_c _ (by decide) (by decide)) hf (by simp) (by simp)
  · exact tok_zT
theorem tok_ceqF {i : Int} {a c e : Tm} {r s : HT} (hi : fit i) (ha : TOk a) (hc : TOk c) (he : TOk e) (hr : r.ok) (hs : s.ok) : TOk (ceqF i a c e r s) := by
  unfold ceqF
  split
  · exact tok_us (fit_c _ (by decide) (by decide)) hi (fit_c _ (by decide) (by decide)) (by simp) (by simp [ha, hc, he, hr.x, hr.y, hr.h, hs.x, hs.y, hs.h])
  · exact tok_zT
end Go.Proofs.YtkldipbhenabfaaGreat.Abs

