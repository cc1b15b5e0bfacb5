/- Fams, and the small functions of cong and of the page on them. -/
import Derived.Test.YtkldipbhenabfaaGreatRFo
import Derived.Test.YtkldipbhenabfaaGreatRAfG
set_option linter.unusedSimpArgs false
set_option linter.unusedVariables false
namespace Go.Proofs.YtkldipbhenabfaaGreat.Abs
open Go Go.RowKit Go.Proofs.YtkldipbhenabfaaGreat

structure FT where
  i : Int
  j : Int
  a : Tm
  c : Tm
  b : Tm
  d : Tm
  e : Tm
  f : Tm
def fv (i j : Int) (a c b d e f : Tm) : List SV := .int .i64 i :: .int .i64 j :: (tv a ++ (tv c ++ (tv b ++ (tv d ++ (tv e ++ tv f)))))
def FT.v (f : FT) : List SV := fv f.i f.j f.a f.c f.b f.d f.e f.f
structure FT.ok (f : FT) : Prop where
  i : fit f.i
  j : fit f.j
  a : TOk f.a
  c : TOk f.c
  b : TOk f.b
  d : TOk f.d
  e : TOk f.e
  f : TOk f.f
section
variable {i j : Int} {a c b d e f : Tm}
theorem fv_0 : (fv i j a c b d e f)[0]? = some (.int .i64 i) := rfl
theorem fv_1 : (fv i j a c b d e f)[1]? = some (.int .i64 j) := rfl
theorem fv_len : (fv i j a c b d e f).length = 32 := by simp [fv, tv_len]
theorem fv_a : ((fv i j a c b d e f).drop 2).take 5 = tv a := by simp [fv, tv_cells]
theorem fv_c : ((fv i j a c b d e f).drop 7).take 5 = tv c := by simp [fv, tv_cells]
theorem fv_b : ((fv i j a c b d e f).drop 12).take 5 = tv b := by simp [fv, tv_cells]
theorem fv_d : ((fv i j a c b d e f).drop 17).take 5 = tv d := by simp [fv, tv_cells]
theorem fv_e : ((fv i j a c b d e f).drop 22).take 5 = tv e := by simp [fv, tv_cells]
theorem fv_f : ((fv i j a c b d e f).drop 27).take 5 = tv f := by simp [fv, tv_cells]
theorem fv_fill : fill [.int .i64 0, .int .i64 0, .int .i64 0, .int .i64 0, .int .i64 0, .int .i64 0, .nils, .int .i64 0, .int .i64 0, .int .i64 0, .int .i64 0, .nils, .int .i64 0, .int .i64 0, .int .i64 0, .int .i64 0, .nils, .int .i64 0, .int .i64 0, .int .i64 0, .int .i64 0, .nils, .int .i64 0, .int .i64 0, .int .i64 0, .int .i64 0, .nils, .int .i64 0, .int .i64 0, .int .i64 0, .int .i64 0, .nils]
    [(0, 1, .int .i64 i), (1, 1, .int .i64 j), (2, 5, .agg true (tv a)), (7, 5, .agg true (tv c)), (12, 5, .agg true (tv b)), (17, 5, .agg true (tv d)), (22, 5, .agg true (tv e)), (27, 5, .agg true (tv f))] = fv i j a c b d e f := by
  simp [fill, splice, cellsOf, fv, tv_cells]
end
theorem cut_part32 {cl : Bool} {c : Nat} {cells : List SV} : cut cl 32 true 5 c cells = .agg cl ((cells.drop c).take 5) := by simp [cut]
attribute [go_sem] fv_0 fv_1 fv_len fv_a fv_c fv_b fv_d fv_e fv_f fv_fill cut_part32
def lev3 (i : Int) : Bool := decide (0 ≤ i) && decide (i ≤ 997)
theorem lev3_le {i : Int} (h : lev3 i = true) : 0 ≤ i ∧ i ≤ 997 := by
  unfold lev3 at h
  simpa using h
theorem fit_lev3 {i : Int} (h : lev3 i = true) : fit i := by
  have := lev3_le h
  unfold fit; omega

theorem con_clevel (i : Int) : Con 146 [.int .i64 i] (.bool (lev3 i)) := by
  refine contract_of_vc mixed Tryz.func146 tr146 ?_
  unfold lev3
  by_cases h1 : 0 ≤ i <;> simp only [go_sem, reduceIte, reduceCtorEq, Nat.reduceAdd, Nat.reduceSub, Nat.reduceMul, Nat.reduceLT, Nat.reduceLeDiff, Nat.reduceEqDiff, Nat.reduceBEq, Nat.reduceGT, Int.reduceEq, Int.reduceNe, Int.reduceLT, Int.reduceLE, Int.reduceToNat, Int.reduceNeg, Int.reduceBEq, Int.reduceAdd, Int.reduceSub, Int.reduceGT, Int.reduceGE, Int.reduceBNe, h1]
theorem con_cplain_rows (rows : List (List SV)) (W : List SV → Bool) (h2 : rows.length * 56 ≤ 140737488355328) (h5 : ∀ r ∈ rows, r.length = 5)
    (H : ∀ r ∈ rows, Con 117 [.agg true r] (.bool (W r))) : Con 147 [.dsl 5 rows] (.bool (rows.all W)) := by
  refine contract_of_vc mixed Tryz.func147 tr147 ?_
  simp only [go_sem, reduceIte, reduceCtorEq, Nat.reduceAdd, Nat.reduceSub, Nat.reduceMul, Nat.reduceLT, Nat.reduceLeDiff, Nat.reduceEqDiff, Nat.reduceBEq, Nat.reduceGT, Int.reduceEq, Int.reduceNe, Int.reduceLT, Int.reduceLE, Int.reduceToNat, Int.reduceNeg, Int.reduceBEq, Int.reduceAdd, Int.reduceSub, Int.reduceGT, Int.reduceGE, Int.reduceBNe]
  intro _
  refine vc_forp (fun x => ⟨(.junk :: .junk :: .junk :: .junk :: .junk :: .dsl 5 rows :: .int .i64 rows.length :: .int .i64 x :: .junk :: .junk :: .junk :: .junk :: .junk :: .junk :: .junk :: []), []⟩) rows.length (fun x => W (rows[x]?.getD []) = true) (fun x hx hp => ?_) ?_
  · simp only [go_sem, reduceIte, reduceCtorEq, Nat.reduceAdd, Nat.reduceSub, Nat.reduceMul, Nat.reduceLT, Nat.reduceLeDiff, Nat.reduceEqDiff, Nat.reduceBEq, Nat.reduceGT, Int.reduceEq, Int.reduceNe, Int.reduceLT, Int.reduceLE, Int.reduceToNat, Int.reduceNeg, Int.reduceBEq, Int.reduceAdd, Int.reduceSub, Int.reduceGT, Int.reduceGE, Int.reduceBNe]
    refine ⟨fun h => ?_, fun h => ?_⟩
    · have hlt := of_decide_eq_true h
      have hlt' : x < rows.length := by omega
      have e0 : (0 : Int) ≤ (x : Int) := by omega
      have hm := get_lt (d := []) hlt'
      have h5' := h5 _ hm
      simp only [go_sem, reduceIte, reduceCtorEq, Nat.reduceAdd, Nat.reduceSub, Nat.reduceMul, Nat.reduceLT, Nat.reduceLeDiff, Nat.reduceEqDiff, Nat.reduceBEq, Nat.reduceGT, Int.reduceEq, Int.reduceNe, Int.reduceLT, Int.reduceLE, Int.reduceToNat, Int.reduceNeg, Int.reduceBEq, Int.reduceAdd, Int.reduceSub, Int.reduceGT, Int.reduceGE, Int.reduceBNe, hlt, e0, h5']
      refine callK_of (H _ hm) ?_
      cases hW : W (rows[x]?.getD []) <;> simp only [go_sem, reduceIte, reduceCtorEq, Nat.reduceAdd, Nat.reduceSub, Nat.reduceMul, Nat.reduceLT, Nat.reduceLeDiff, Nat.reduceEqDiff, Nat.reduceBEq, Nat.reduceGT, Int.reduceEq, Int.reduceNe, Int.reduceLT, Int.reduceLE, Int.reduceToNat, Int.reduceNeg, Int.reduceBEq, Int.reduceAdd, Int.reduceSub, Int.reduceGT, Int.reduceGE, Int.reduceBNe]
      · rw [all_no (d := []) (i := x) hlt' hW]
      · refine ⟨hlt', ?_⟩
        rw [w64 (n := (x : Int) + 1) (by unfold fit; omega)]
        exact wk_trunc 0 (by simp [slotsLe]) rfl (by simp [below]) (by simp)
    · have hge := of_decide_eq_false h
      have hxe : x = rows.length := by omega
      simp only [go_sem, reduceIte, reduceCtorEq, Nat.reduceAdd, Nat.reduceSub, Nat.reduceMul, Nat.reduceLT, Nat.reduceLeDiff, Nat.reduceEqDiff, Nat.reduceBEq, Nat.reduceGT, Int.reduceEq, Int.reduceNe, Int.reduceLT, Int.reduceLE, Int.reduceToNat, Int.reduceNeg, Int.reduceBEq, Int.reduceAdd, Int.reduceSub, Int.reduceGT, Int.reduceGE, Int.reduceBNe, h]
      rw [all_of (d := []) (f := W) (fun j hj => hp j (by omega))]
  · exact wk_slots (by simp [slotsLe])
theorem con_cplain (l : List Tm) (hl : ∀ t ∈ l, TOk t) (hb : l.length * 56 ≤ 140737488355328) : Con 147 [.dsl 5 (l.map tv)] (.bool (plains l)) := by
  have h := con_cplain_rows (l.map tv) (onT plainT false) (by simpa using hb) (rows5 l) (fun r hr => by
    obtain ⟨t, ht, rfl⟩ := List.mem_map.1 hr
    rw [onT_tv]; exact con_plain t (hl t ht))
  rwa [onT_all] at h

def famRight (f : FT) : Bool := lev3 f.i && (lev3 f.j && plains [f.a, f.c, f.b, f.d, f.e, f.f])
theorem con_fright (f : FT) (hf : f.ok) : Con 153 [.agg true f.v] (.bool (famRight f)) := by
  refine contract_of_vc mixed Tryz.func153 tr153 ?_
  have hc := con_cplain [f.a, f.c, f.b, f.d, f.e, f.f] (by simp [hf.a, hf.c, hf.b, hf.d, hf.e, hf.f]) (by simp)
  unfold famRight FT.v
  cases h1 : lev3 f.i
  · repeat' first
      | simp (config := { maxSteps := 2000000 }) only [go_sem, reduceIte, reduceCtorEq, Nat.reduceAdd, Nat.reduceSub, Nat.reduceMul, Nat.reduceLT, Nat.reduceLeDiff, Nat.reduceEqDiff, Nat.reduceBEq, Nat.reduceGT, Int.reduceEq, Int.reduceNe, Int.reduceLT, Int.reduceLE, Int.reduceToNat, Int.reduceNeg, Int.reduceBEq, Int.reduceAdd, Int.reduceSub, Int.reduceGT, Int.reduceGE, Int.reduceBNe, h1]
      | refine callK_of (con_clevel f.i) ?_
      | rfl
  · cases h2 : lev3 f.j
    · repeat' first
        | simp (config := { maxSteps := 2000000 }) only [go_sem, reduceIte, reduceCtorEq, Nat.reduceAdd, Nat.reduceSub, Nat.reduceMul, Nat.reduceLT, Nat.reduceLeDiff, Nat.reduceEqDiff, Nat.reduceBEq, Nat.reduceGT, Int.reduceEq, Int.reduceNe, Int.reduceLT, Int.reduceLE, Int.reduceToNat, Int.reduceNeg, Int.reduceBEq, Int.reduceAdd, Int.reduceSub, Int.reduceGT, Int.reduceGE, Int.reduceBNe, h1, h2]
        | refine callK_of (con_clevel f.i) ?_
        | refine callK_of (con_clevel f.j) ?_
        | rfl
    · repeat' first
        | simp (config := { maxSteps := 2000000 }) only [go_sem, reduceIte, reduceCtorEq, Nat.reduceAdd, Nat.reduceSub, Nat.reduceMul, Nat.reduceLT, Nat.reduceLeDiff, Nat.reduceEqDiff, Nat.reduceBEq, Nat.reduceGT, Int.reduceEq, Int.reduceNe, Int.reduceLT, Int.reduceLE, Int.reduceToNat, Int.reduceNeg, Int.reduceBEq, Int.reduceAdd, Int.reduceSub, Int.reduceGT, Int.reduceGE, Int.reduceBNe, h1, h2]
        | refine callK_of (con_clevel f.i) ?_
        | refine callK_of (con_clevel f.j) ?_
        | refine callK_of (hc) ?_
        | rfl
def tolds (g : HT) : Bool := plains [g.x, g.y, g.h]
theorem con_told (g : HT) (hg : g.ok) : Con 148 [.agg true g.v] (.bool (tolds g)) := by
  refine contract_of_vc mixed Tryz.func148 tr148 ?_
  have hc := con_cplain [g.x, g.y, g.h] (by simp [hg.x, hg.y, hg.h]) (by simp)
  unfold tolds HT.v
  repeat' first
    | simp (config := { maxSteps := 2000000 }) only [go_sem, reduceIte, reduceCtorEq, Nat.reduceAdd, Nat.reduceSub, Nat.reduceMul, Nat.reduceLT, Nat.reduceLeDiff, Nat.reduceEqDiff, Nat.reduceBEq, Nat.reduceGT, Int.reduceEq, Int.reduceNe, Int.reduceLT, Int.reduceLE, Int.reduceToNat, Int.reduceNeg, Int.reduceBEq, Int.reduceAdd, Int.reduceSub, Int.reduceGT, Int.reduceGE, Int.reduceBNe, BEq.rfl]
    | refine callK_of (hc) ?_
    | rfl
/-! Nodes -/
def tlam (a t : Tm) : Tm := .mk 14 0 0 0 [a, t]
def tpi (a t : Tm) : Tm := .mk 13 0 0 0 [a, t]
def tsig (a t : Tm) : Tm := .mk 16 0 0 0 [a, t]
def tpart (k : Int) (p : Tm) : Tm := .mk k 0 0 0 [p]
theorem con_lam (a t : Tm) : Con 155 [.agg true (tv a), .agg true (tv t)] (.agg true (tv (tlam a t))) := by
  refine contract_of_vc mixed Tryz.func155 tr155 ?_
  unfold tlam
  repeat' first
    | simp (config := { maxSteps := 2000000 }) only [go_sem, reduceIte, reduceCtorEq, Nat.reduceAdd, Nat.reduceSub, Nat.reduceMul, Nat.reduceLT, Nat.reduceLeDiff, Nat.reduceEqDiff, Nat.reduceBEq, Nat.reduceGT, Int.reduceEq, Int.reduceNe, Int.reduceLT, Int.reduceLE, Int.reduceToNat, Int.reduceNeg, Int.reduceBEq, Int.reduceAdd, Int.reduceSub, Int.reduceGT, Int.reduceGE, Int.reduceBNe, BEq.rfl]
    | refine callK_of (con_ofT 14 0 0 0 [a, t] (by simp) (by simp)) ?_
    | rfl
theorem con_pi (a t : Tm) : Con 156 [.agg true (tv a), .agg true (tv t)] (.agg true (tv (tpi a t))) := by
  refine contract_of_vc mixed Tryz.func156 tr156 ?_
  unfold tpi
  repeat' first
    | simp (config := { maxSteps := 2000000 }) only [go_sem, reduceIte, reduceCtorEq, Nat.reduceAdd, Nat.reduceSub, Nat.reduceMul, Nat.reduceLT, Nat.reduceLeDiff, Nat.reduceEqDiff, Nat.reduceBEq, Nat.reduceGT, Int.reduceEq, Int.reduceNe, Int.reduceLT, Int.reduceLE, Int.reduceToNat, Int.reduceNeg, Int.reduceBEq, Int.reduceAdd, Int.reduceSub, Int.reduceGT, Int.reduceGE, Int.reduceBNe, BEq.rfl]
    | refine callK_of (con_ofT 13 0 0 0 [a, t] (by simp) (by simp)) ?_
    | rfl
theorem con_sig (a t : Tm) : Con 159 [.agg true (tv a), .agg true (tv t)] (.agg true (tv (tsig a t))) := by
  refine contract_of_vc mixed Tryz.func159 tr159 ?_
  unfold tsig
  repeat' first
    | simp (config := { maxSteps := 2000000 }) only [go_sem, reduceIte, reduceCtorEq, Nat.reduceAdd, Nat.reduceSub, Nat.reduceMul, Nat.reduceLT, Nat.reduceLeDiff, Nat.reduceEqDiff, Nat.reduceBEq, Nat.reduceGT, Int.reduceEq, Int.reduceNe, Int.reduceLT, Int.reduceLE, Int.reduceToNat, Int.reduceNeg, Int.reduceBEq, Int.reduceAdd, Int.reduceSub, Int.reduceGT, Int.reduceGE, Int.reduceBNe, BEq.rfl]
    | refine callK_of (con_ofT 16 0 0 0 [a, t] (by simp) (by simp)) ?_
    | rfl
theorem con_part (k : Int) (p : Tm) : Con 157 [.int .i64 k, .agg true (tv p)] (.agg true (tv (tpart k p))) := by
  refine contract_of_vc mixed Tryz.func157 tr157 ?_
  unfold tpart
  repeat' first
    | simp (config := { maxSteps := 2000000 }) only [go_sem, reduceIte, reduceCtorEq, Nat.reduceAdd, Nat.reduceSub, Nat.reduceMul, Nat.reduceLT, Nat.reduceLeDiff, Nat.reduceEqDiff, Nat.reduceBEq, Nat.reduceGT, Int.reduceEq, Int.reduceNe, Int.reduceLT, Int.reduceLE, Int.reduceToNat, Int.reduceNeg, Int.reduceBEq, Int.reduceAdd, Int.reduceSub, Int.reduceGT, Int.reduceGE, Int.reduceBNe, BEq.rfl]
    | refine callK_of (con_ofT k 0 0 0 [p] (by simp) (by simp)) ?_
    | rfl

def sixL (f : FT) (more : List Tm) : List Tm := f.a :: f.c :: f.e :: tlam f.a f.b :: tlam f.c f.d :: f.f :: more
def six (n : Int) (f : FT) (more : List Tm) : Tm := us n f.i f.j (sixL f more)
theorem take6 {α : Type} {a b c d e f : α} {r : List α} : (a :: b :: c :: d :: e :: f :: r).take (6 + r.length) = a :: b :: c :: d :: e :: f :: r := by
  rw [List.take_of_length_le (by simp; omega)]

set_option maxHeartbeats 1000000 in
theorem con_fuse0 (f : FT) (n : Int) : Con 154 [.agg true f.v, .int .i64 n, .nils] (.agg true (tv (six n f []))) := by
  refine contract_of_vc mixed Tryz.func154 tr154 ?_
  unfold FT.v six sixL us
  repeat' first
    | simp (config := { maxSteps := 2000000 }) only [go_sem, reduceIte, reduceCtorEq, Nat.reduceAdd, Nat.reduceSub, Nat.reduceMul, Nat.reduceLT, Nat.reduceLeDiff, Nat.reduceEqDiff, Nat.reduceBEq, Nat.reduceGT, Int.reduceEq, Int.reduceNe, Int.reduceLT, Int.reduceLE, Int.reduceToNat, Int.reduceNeg, Int.reduceBEq, Int.reduceAdd, Int.reduceSub, Int.reduceGT, Int.reduceGE, Int.reduceBNe, take6]
    | refine callK_of (con_lam f.a f.b) ?_
    | refine callK_of (con_lam f.c f.d) ?_
    | refine callK_of (con_ofT 23 f.i f.j n [f.a, f.c, f.e, tlam f.a f.b, tlam f.c f.d, f.f] (by simp) (by simp)) ?_
    | rfl
set_option maxHeartbeats 1000000 in
theorem con_fuse (f : FT) (n : Int) (more : List Tm) (hm : more.length ≤ 1000) : Con 154 [.agg true f.v, .int .i64 n, .dsl 5 (more.map tv)] (.agg true (tv (six n f more))) := by
  refine contract_of_vc mixed Tryz.func154 tr154 ?_
  have hc := con_ofT 23 f.i f.j n (sixL f more) (by simp [sixL]) (by simp [sixL]; omega)
  unfold FT.v six us
  unfold sixL at *
  simp only [List.map_cons] at hc
  have e1 : (more.map tv).length ≤ 1000 := by simpa using hm
  generalize more.map tv = rows at *
  have e2 : (6 + rows.length) * 56 ≤ 140737488355328 := by omega
  have e3 : 6 + rows.length ≤ 140737488355328 := by omega
  repeat' first
    | simp (config := { maxSteps := 2000000 }) only [go_sem, reduceIte, reduceCtorEq, Nat.reduceAdd, Nat.reduceSub, Nat.reduceMul, Nat.reduceLT, Nat.reduceLeDiff, Nat.reduceEqDiff, Nat.reduceBEq, Nat.reduceGT, Int.reduceEq, Int.reduceNe, Int.reduceLT, Int.reduceLE, Int.reduceToNat, Int.reduceNeg, Int.reduceBEq, Int.reduceAdd, Int.reduceSub, Int.reduceGT, Int.reduceGE, Int.reduceBNe, take6, e2, e3]
    | refine callK_of (con_lam f.a f.b) ?_
    | refine callK_of (con_lam f.c f.d) ?_
    | refine callK_of (hc) ?_
    | rfl
end Go.Proofs.YtkldipbhenabfaaGreat.Abs

