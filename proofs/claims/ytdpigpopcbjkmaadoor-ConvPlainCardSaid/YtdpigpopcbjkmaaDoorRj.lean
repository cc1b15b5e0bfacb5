/- The terms by which the statements on conv wake, held together. -/
import Derived.Test.YtdpigpopcbjkmaaDoorRi
import Derived.Test.YtdpigpopcbjkmaaDoorFk
set_option linter.unusedSimpArgs false
set_option linter.unusedVariables false
namespace Go.Proofs.YtdpigpopcbjkmaaDoor.Abs
open Go Go.RowKit Go.Proofs.YtdpigpopcbjkmaaDoor

def vT (i : Int) : Tm := .mk 2 i 0 0 []
def apT : Tm := .mk 15 0 0 0 [vT 1, vT 0]
def fT : Tm := .mk 14 0 0 0 [.mk 1 0 0 0 [], apT]
def vV (a : Int) : Vl := ⟨2, 0, 0, 0, a, []⟩
theorem fit0 : fit 0 := by unfold fit; omega
theorem fit1 : fit 1 := by unfold fit; omega
theorem fit2 : fit 2 := by unfold fit; omega
theorem tok_vT {i : Int} (h : fit i) : TOk (vT i) := .mk _ _ _ _ _ fit2 h fit0 fit0 (by simp) (fun t ht => by cases ht)
theorem tok_apT : TOk apT := .mk _ _ _ _ _ (by unfold fit; omega) fit0 fit0 fit0 (by simp) (fun t ht => by
  simp only [List.mem_cons, List.not_mem_nil, or_false] at ht
  rcases ht with rfl | rfl
  · exact tok_vT fit1
  · exact tok_vT fit0)
theorem tok_fT : TOk fT := .mk _ _ _ _ _ (by unfold fit; omega) fit0 fit0 fit0 (by simp) (fun t ht => by
  simp only [List.mem_cons, List.not_mem_nil, or_false] at ht
  rcases ht with rfl | rfl
  · exact .mk _ _ _ _ _ fit1 fit0 fit0 fit0 (by simp) (fun t ht => by cases ht)
  · exact tok_apT)

theorem evl_v {G : List (List SV)} {m : Nat} (i : Nat) (hf : fit i) (e : List Nat) (hi : e[i]? = none) (he : fit e.length) {a : Int} (ha : (e.length : Int) - i - 1 = a) : EvL G m (vT i) e (.ret (vlV (vV a))) G := by
  have := evl_free (G := G) (m := m) (j := 0) (n := 0) (l := []) hf hi he
  rw [ha] at this
  exact this

theorem neut_v {G : List (List SV)} (a : Int) : Neut G (vV a) := .base (show (2 : Int) ≠ 23 by decide) (show (2 : Int) ≠ 15 ∧ (2 : Int) ≠ 18 ∧ (2 : Int) ≠ 19 ∧ (2 : Int) ≠ 22 by decide)
theorem both_v {a b : Int} (h : Both (vlV (vV a)) (vlV (vV b))) : a = b := both_int (both_cell h (j := 4) rfl rfl)
theorem values_v {G : List (List SV)} {m : Nat} (a b : Int) (deep : Int) : HCon 71 G [.gp m 0, vlV (vV a), vlV (vV b), .int .i64 deep, .bool true] (.ret (.bool (a == b))) G :=
  values_heads (neut_v a) (neut_v b) (heads_kids (show (2 : Int) ≠ 14 by decide) (show (2 : Int) ≠ 17 by decide) (show (2 : Int) ≠ 14 by decide) (show (2 : Int) ≠ 17 by decide) (hcon_kids_var deep true)) (fun h => ⟨by simpa using both_v h, rfl⟩)

/-- Two different variables. -/
theorem cv2_same : ∃ G', HCon 62 [[.undef], mRow 0 0 0 0 0, thR ⟨vT 0, [], false, none, none⟩, thR ⟨vT 1, [], false, none, none⟩] [.gp 1 0, .gp 2 0, .gp 3 0, .int .i64 0, .bool true] (.ret (.bool false)) G' := by
  have ne : vT 0 ≠ vT 1 := by unfold vT; intro h; cases h
  exact ⟨_, same_nil (m := 1) (j := 0) (steps := 0) (most := 0) (seen := 0) (guess := 0) (tx := vT 0) (ty := vT 1) (wx := none) (ux := none) (wy := none) (uy := none) rfl fit0 (by omega) (by omega) (by omega) (by omega) rfl rfl (tok_vT fit0) (tok_vT fit1) ne
    (weak_new (th := ⟨vT 0, [], false, none, none⟩) (th1 := ⟨vT 0, [], false, none, none⟩) rfl rfl rfl (hcon_eval (evl_v 0 fit0 [] rfl fit0 (a := -1) (by simp))) rfl)
    (weak_new (th := ⟨vT 1, [], false, none, none⟩) (th1 := ⟨vT 1, [], false, none, none⟩) rfl rfl rfl (hcon_eval (evl_v 1 fit1 [] rfl fit0 (a := -2) (by simp))) rfl)
    (values_v (-1) (-2) 0)⟩

/-- A value's thunk is that value. -/
theorem weak_done {G : List (List SV)} {m id : Nat} {v : Vl} (h : G[id]? = some (doneR (some v) none)) : HCon 40 G [.gp m 0, .gp id 0] (.ret (vlV v)) G := weak_known (th := ⟨.mk 0 0 0 0 [], [], true, some v, none⟩) h rfl

def vF : Vl := nodeV 14 0 0 0 [.mk 1 0 0 0 [], apT] 4
def vA (a b : Nat) : Vl := ⟨15, 0, 0, 0, 0, [a, b]⟩
theorem both_FA {b : Int} (h : Both (vlV vF) (vlV (vV b))) : False := by
  have := both_int (both_cell h (j := 0) rfl rfl)
  exact absurd this (by show (14 : Int) ≠ 2; decide)

set_option maxRecDepth 10000 in
/-- A function that calls a variable, and that variable. -/
theorem cv1_same : ∃ G', HCon 62 [[.undef], mRow 0 0 0 0 0, thR ⟨fT, [], false, none, none⟩, thR ⟨vT 0, [], false, none, none⟩] [.gp 1 0, .gp 2 0, .gp 3 0, .int .i64 0, .bool true] (.ret (.bool true)) G' := by
  have ne : fT ≠ vT 0 := by unfold fT vT; intro h; cases h
  have hF : ∀ G : List (List SV), EvL G 1 fT [] (.ret (vlV (nodeV 14 0 0 0 [.mk 1 0 0 0 [], apT] G.length))) (G ++ nodeRows (-1) none [] 0 [.mk 1 0 0 0 [], apT]) := fun G => evl_node (by simp) (by omega) (by omega)
  let G5 : List (List SV) := [[.undef], mRow 0 0 1 0 0, thR ⟨fT, [], false, some vF, none⟩, thR ⟨vT 0, [], false, some (vV (-1)), none⟩, thR ⟨.mk 1 0 0 0 [], [], false, none, none⟩, thR ⟨apT, [], false, none, none⟩]
  let G6 : List (List SV) := G5 ++ [doneR (some ⟨2, 0, 0, 0, 0, []⟩) none, thR ⟨apT, [6], false, none, none⟩] ++ [doneR (some (vV (-1))) none] ++ [doneR (some ⟨2, 0, 0, 0, 0, []⟩) none] ++ [doneR (some ⟨15, 0, 0, 0, 0, [8, 9]⟩) none]
  have n0 : (vV (-1)).k ≠ 14 := show (2 : Int) ≠ 14 by decide
  -- the call's value
  have hA : ∀ G : List (List SV), EvL G 1 apT [6] (.ret (vlV (nodeV 15 0 0 0 [vT 1, vT 0] G.length))) (G ++ nodeRows 0 (some (vV (-1))) [6] 0 [vT 1, vT 0]) := fun G =>
    evl_app_stuck (y := vV (-1)) (hcon_eval (evl_v 1 fit1 [6] rfl fit1 (a := -1) (by simp))) n0
  have nA : ∀ (G : List (List SV)) (a b : Nat), G[a]? = some (doneR (some (vV (-1))) none) → Neut G (vA a b) := fun G a b h => .step0 (y := vV (-1)) (th := ⟨.mk 0 0 0 0 [], [], true, some (vV (-1)), none⟩) (.inl rfl) (show ([a, b] : List Nat)[0]? = some a from rfl) h rfl (neut_v _)
  have k14 : (15 : Int) ≠ 14 := by decide
  have k17 : (15 : Int) ≠ 17 := by decide
  have hb : Both (vlV (vA 11 12)) (vlV (vA 8 9)) → False := fun h => by
    have h1 : Both (.dsl 1 [[.gp 11 0], [.gp 12 0]]) (.dsl 1 [[.gp 8 0], [.gp 9 0]]) := both_cell h (j := 5) rfl rfl
    have := both_gp (both_row h1 (j := 0) rfl rfl)
    omega
  have h6 : ∃ G', HCon 62 G6 [.gp 1 0, .gp 7 0, .gp 10 0, .int .i64 1, .bool true] (.ret (.bool true)) G' := by
    let G7 : List (List SV) := (G6.set 1 (mRow 0 0 2 0 0) ++ nodeRows 0 (some (vV (-1))) [6] 0 [vT 1, vT 0]).set 7 (thR ⟨apT, [6], false, some (vA 11 12), none⟩)
    let G8 : List (List SV) := G7.set 1 (mRow 0 0 3 0 0)
    let G9 : List (List SV) := (G8.set 1 (mRow 0 0 4 0 0)).set 12 (thR ⟨vT 0, [6], false, some (vV 0), none⟩)
    have s1 : HCon 62 G7 [.gp 1 0, .gp 11 0, .gp 8 0, .int .i64 1, .bool true] (.ret (.bool true)) G8 :=
      same_bare (m := 1) (j := 0) (steps := 0) (most := 0) (seen := 2) (guess := 0) (x := ⟨.mk 0 0 0 0 [], [], true, some (vV (-1)), none⟩) (y := ⟨.mk 0 0 0 0 [], [], true, some (vV (-1)), none⟩) (G1 := G8) (G2 := G8) rfl fit0 (by omega) (by omega) (by omega) (by omega) rfl rfl (.inr rfl)
        (weak_done (v := vV (-1)) rfl) (weak_done (v := vV (-1)) rfl) (values_v (-1) (-1) 1)
    have s2 : HCon 62 G8 [.gp 1 0, .gp 12 0, .gp 9 0, .int .i64 1, .bool true] (.ret (.bool true)) G9 :=
      same_bare (m := 1) (j := 0) (steps := 0) (most := 0) (seen := 3) (guess := 0) (x := ⟨vT 0, [6], false, none, none⟩) (y := ⟨.mk 0 0 0 0 [], [], true, some (vV 0), none⟩) (G1 := G9) (G2 := G9) rfl fit0 (by omega) (by omega) (by omega) (by omega) rfl rfl (.inr rfl)
        (weak_new (th := ⟨vT 0, [6], false, none, none⟩) (th1 := ⟨vT 0, [6], false, none, none⟩) rfl rfl rfl (hcon_eval (evl_var (i := 0) (id := 6) (l := []) fit0 rfl (weak_done (v := vV 0) rfl) ⟨_, rfl⟩)) rfl) (weak_done (v := vV 0) rfl) (values_v 0 0 1)
    exact ⟨G9, same_bare (m := 1) (j := 0) (steps := 0) (most := 0) (seen := 1) (guess := 0) (x := ⟨apT, [6], false, none, none⟩) (y := ⟨.mk 0 0 0 0 [], [], true, some (vA 8 9), none⟩) (G1 := G7) (G2 := G7) (vx := vA 11 12) (vy := vA 8 9) rfl fit0 (by omega) (by omega) (by omega) (by omega) rfl rfl (.inr rfl)
      (weak_new (th := ⟨apT, [6], false, none, none⟩) (th1 := ⟨apT, [6], false, none, none⟩) rfl rfl rfl (hcon_eval (hA _)) rfl) (weak_done (v := vA 8 9) rfl) (values_heads (nA _ _ _ rfl) (nA _ _ _ rfl) (heads_kids k14 k17 k14 k17 (hcon_kids_app 1 fit1 true s1 s2)) (fun h => (hb h).elim))⟩
  obtain ⟨G', h6⟩ := h6
  exact ⟨G', same_nil (m := 1) (j := 0) (steps := 0) (most := 0) (seen := 0) (guess := 0) (tx := fT) (ty := vT 0) (wx := none) (ux := none) (wy := none) (uy := none) (G2 := G5) rfl fit0 (by omega) (by omega) (by omega) (by omega) rfl rfl tok_fT (tok_vT fit0) ne
    (weak_new (th := ⟨fT, [], false, none, none⟩) (th1 := ⟨fT, [], false, none, none⟩) rfl rfl rfl (hcon_eval (hF _)) rfl)
    (weak_new (th := ⟨vT 0, [], false, none, none⟩) (th1 := ⟨vT 0, [], false, none, none⟩) rfl rfl rfl (hcon_eval (evl_v 0 fit0 [] rfl fit0 (a := -1) (by simp))) rfl)
    (values_heads (.base (show (14 : Int) ≠ 23 by decide) (show (14 : Int) ≠ 15 ∧ (14 : Int) ≠ 18 ∧ (14 : Int) ≠ 19 ∧ (14 : Int) ≠ 22 by decide)) (neut_v _) (heads_lam (x := vF) (id := 5) (th := ⟨apT, [], false, none, none⟩) rfl n0 rfl rfl rfl fit0 fit1 fit1 h6) (fun h => (both_FA h).elim))⟩
end Go.Proofs.YtdpigpopcbjkmaaDoor.Abs
