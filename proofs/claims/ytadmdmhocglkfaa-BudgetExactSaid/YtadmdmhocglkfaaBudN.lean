/- The order of floats in the walks' words; the laws BudgetNone, BudgetWithin, BudgetParts. -/
import Derived.Test.YtadmdmhocglkfaaBudZ
import Derived.Test.YtadmdmhocglkfaaAbsN
import Derived.Lib.Hide
set_option linter.unusedSimpArgs false
set_option linter.unusedVariables false
namespace Go.Proofs.Ytadmdmhocglkfaa.Bud
open Go Go.RowKit Abs

theorem fle_is (x y : Nat) : fle x y = (!Flt.nanB x && (!Flt.nanB y && decide (Flt.skey x ≤ Flt.skey y))) := by
  unfold fle
  rw [show ord x y = Flt.ord x y from rfl]
  cases hx : Flt.nanB x
  · cases hy : Flt.nanB y
    · rw [Flt.ord_skey x y hx hy]
      rcases Int.lt_trichotomy (Flt.skey x) (Flt.skey y) with h | h | h
      · rw [Flt.cmp_lt h, decide_eq_true (by omega : Flt.skey x ≤ Flt.skey y)]; rfl
      · rw [Flt.cmp_eq h, decide_eq_true (by omega : Flt.skey x ≤ Flt.skey y)]; rfl
      · rw [Flt.cmp_gt h, decide_eq_false (by omega : ¬ Flt.skey x ≤ Flt.skey y)]; rfl
    · rw [Flt.ord_nan_right x y hy]; rfl
  · rw [Flt.ord_nan_left x y hx]; rfl
theorem fge_is (x y : Nat) : fge x y = (!Flt.nanB x && (!Flt.nanB y && decide (Flt.skey y ≤ Flt.skey x))) := by
  unfold fge
  rw [show ord x y = Flt.ord x y from rfl]
  cases hx : Flt.nanB x
  · cases hy : Flt.nanB y
    · rw [Flt.ord_skey x y hx hy]
      rcases Int.lt_trichotomy (Flt.skey x) (Flt.skey y) with h | h | h
      · rw [Flt.cmp_lt h, decide_eq_false (by omega : ¬ Flt.skey y ≤ Flt.skey x)]; rfl
      · rw [Flt.cmp_eq h, decide_eq_true (by omega : Flt.skey y ≤ Flt.skey x)]; rfl
      · rw [Flt.cmp_gt h, decide_eq_true (by omega : Flt.skey y ≤ Flt.skey x)]; rfl
    · rw [Flt.ord_nan_right x y hy]; rfl
  · rw [Flt.ord_nan_left x y hx]; rfl
theorem within_is (n : Int) (m : Nat) : within n m = (!Flt.nanB m && decide (Flt.skey (floatOfInt .f64 n) ≤ Flt.skey m)) := by
  unfold within
  rw [fle_is, Flt.ofInt_nan]; rfl
theorem within_less {n k : Int} {m : Nat} (h : within n m = true) (hk : k ≤ n) : within k m = true := by
  rw [within_is] at h ⊢
  simp only [Bool.and_eq_true, decide_eq_true_eq] at h ⊢
  exact ⟨h.1, Int.le_trans (Flt.ofInt_mono hk) h.2⟩
theorem within_more {n : Int} {m k : Nat} (h : within n m = true) (hk : fge k m = true) : within n k = true := by
  rw [within_is] at h ⊢
  rw [fge_is] at hk
  simp only [Bool.and_eq_true, decide_eq_true_eq] at h hk ⊢
  exact ⟨hk.1, Int.le_trans h.2 hk.2.2⟩
theorem within_nan {n : Int} {m : Nat} (h : nan m = true) : within n m = false := by
  rw [nan_is] at h
  rw [within_is, h]; rfl

theorem R_pos {n : Nat} (h : 1 ≤ n) : 1 ≤ Flt.R n := by
  have h1 : 1 ≤ Flt.R 1 := by decide +kernel
  exact Nat.le_trans h1 (Flt.R_mono h)
theorem within_zero {n : Int} (h : 0 ≤ n) : within n 0 = (n == 0) := by
  rw [within_is, Flt.ofInt_key, if_neg (by omega)]
  have e1 : Flt.nanB 0 = false := by decide
  have e2 : Flt.skey 0 = 0 := by decide
  rw [e1, e2]
  by_cases hn : n = 0
  · subst hn; decide +kernel
  · have := R_pos (n := n.natAbs) (by omega)
    rw [decide_eq_false (by omega)]
    simp [hn]

theorem wrap_in {n : Int} (h : -9223372036854775808 ≤ n) (h2 : n ≤ 9223372036854775807) : wrap64 n = n := by unfold wrap64; omega

/-- Of a number that is none too great. -/
theorem takeOk_in {m : Nat} {u n : Int} (hu : 0 ≤ u) (hn : 0 ≤ n) (h : u + n ≤ 9223372036854775807) : takeOk m u n = within (u + n) m := by
  unfold takeOk
  rw [wrap_in (n := 9223372036854775807 - u) (by omega) (by omega), wrap_in (n := u + n) (by omega) h, decide_eq_false (by omega : ¬ n < 0), decide_eq_false (by omega : ¬ 9223372036854775807 - u < n)]
  rfl
theorem takeU_in {m : Nat} {u n : Int} (hu : 0 ≤ u) (hn : 0 ≤ n) (h : u + n ≤ 9223372036854775807) : takeU m u n = if within (u + n) m then u + n else u := by
  unfold takeU
  rw [takeOk_in hu hn h, wrap_in (n := u + n) (by omega) h]

theorem con_of_below {P : Program} {f : Nat} {args : List SV} (h : ∀ (m : Mem) (w : World) (vs : List Value), (∀ b j v, m b j = some v → w.cell? ⟨b, j, none⟩ = some v) → vs.length = args.length → (∀ (j : Nat) v x, vs[j]? = some v → args[j]? = some x → Rep m v x) →
    Calls P f vs.toArray w fun e w' => e = .returned (.bool true) ∧ Below w.heap.size w w') : Contract P f args (.bool true) := by
  intro m w vs hm hl hr
  refine (h m w vs hm hl hr).mono ?_
  rintro e w' ⟨rfl, hb⟩
  refine ⟨_, m, rfl, .bool true, fun _ _ _ h => h, fun _ _ _ => rfl, fun b j v hv => ?_, hb.os, hb.tape, hb.output, hb.size, hb.block⟩
  have h1 := hm b j v hv
  rw [hb.cell (mem_lt h1)]
  exact h1

theorem rep_int {m : Mem} {v : Value} {k : IntKind} {n : Int} (h : Rep m v (.int k n)) : v = .int k n := by cases h; rfl
theorem rep_float {m : Mem} {v : Value} {k : FloatKind} {n : Nat} (h : Rep m v (.float k n)) : v = .float k n := by cases h; rfl

theorem Has.below {w w' : World} {B c m : Nat} {u : Int} (h : Has w c m u) (o : Below B w w') (hc : c < B) : Has w' c m u := by
  refine ⟨?_, ?_, ?_⟩
  · rw [o.cell hc]; exact h.c0
  · rw [o.cell hc]; exact h.c1
  · rw [o.frozen hc]; exact h.fz

/-! ### The laws -/
set_option maxHeartbeats 1000000 in
theorem none_any (n : Int) (hn : -9223372036854775808 ≤ n) (hx : n ≤ 9223372036854775807) (w : World) : Calls Try.prog 6 #[.int .i64 n] w fun e w' => e = .returned (.bool true) ∧ Below w.heap.size w w' := by
  have ez := e_zero
  have eok : takeOk 0 0 n = (n == 0) := by
    by_cases h : 0 ≤ n
    · rw [takeOk_in (by omega) h (by omega), Int.zero_add, within_zero h]
    · unfold takeOk
      rw [decide_eq_true (by omega : n < 0), show (n == 0) = false by simp; omega]
      rfl
  have eu : takeU 0 0 n = 0 := by
    unfold takeU
    rw [eok]
    by_cases h : n = 0
    · subst h; simp [wrap64]
    · rw [show (n == 0) = false by simp [h]]; rfl
  have el : leftB 0 0 = 0 := by kernel_rfl
  have ebb : ((n == 0) == (n == 0)) = true := by simp
  have H1 := Lib.hid eok
  have H2 := Lib.hid eu
  clear eok eu
  go_enter Try.func6, Try.ntmps6
  go_wp2_with fail
  refine (take_nil n _).mono ?_
  rintro e w1 ⟨rfl, k1, rfl⟩
  go_wp2_with fail
  refine (used_nil _).mono ?_
  rintro e w1 ⟨rfl, k2, rfl⟩
  go_wp2_with fail
  refine (left_nil _).mono ?_
  rintro e w1 ⟨rfl, k3, rfl⟩
  go_wp2_with fail
  refine (left_nil _).mono ?_
  rintro e w1 ⟨rfl, k4, rfl⟩
  go_wp2_with fail
  refine (signbit_any _).mono ?_
  rintro e w1 ⟨rfl, rfl⟩
  go_wp2_with fail
  refine (take_has (m := 0) (u := 0) ⟨by go_simp, by go_simp, by go_simp⟩ n).mono ?_
  rw [H1.out, H2.out]
  rintro e w5 ⟨rfl, h5, o5⟩
  go_wp2_with fail
  refine (used_has h5).mono ?_
  rintro e w6 ⟨rfl, h6, o6⟩
  go_wp2_with fail
  refine (left_has h6).mono ?_
  rw [el]
  rintro e w7 ⟨rfl, h7, o7⟩
  go_wp2_with fail
  refine (wakes_any _).mono ?_
  rintro e w8 ⟨rfl, b8⟩
  go_wp2_with fail
  go_ret
  have q : w.heap.size ≤ w.heap.size := Nat.le_refl _
  have b1 : Below w.heap.size w (w.alloc (.cells #[.float .f64 0, .int .i64 0] 39)) := (Below.refl _ _).alloc (Nat.le_refl _) _
  have b5 := o5.below q
  have b6 := o6.below q
  have b7 := o7.below q
  have b5' : Below w.heap.size (w.alloc (.cells #[.float .f64 0, .int .i64 0] 39)) w5 := ⟨b5.os, b5.tape, b5.output, b5.size, b5.block⟩
  exact ⟨rfl, (((b1.trans b5').trans b6).trans b7).trans (b8.mono (by have := b6.size; have := b7.size; have := b5'.size; have := b1.size; omega))⟩

set_option maxHeartbeats 1000000 in
theorem budwithin_any (n m : Int) (most more : Nat) (w : World) : Calls Try.prog 4 #[.int .i64 n, .int .i64 m, .float .f64 most, .float .f64 more] w fun e w' => e = .returned (.bool true) ∧ Below w.heap.size w w' := by
  have d1 := within_any n most
  have d2 := rwithin_any n most
  cases hx : within n most
  · rw [hx] at d1 d2
    cases hn : (FloatKind.f64.format.order most most != some Ordering.eq) <;>
    · go_enter Try.func4, Try.ntmps4
      go_wp2_with fail
      refine (d1 _).mono ?_
      rintro e w1 ⟨rfl, rfl⟩
      go_wp2_with fail
      refine (d2 _).mono ?_
      rintro e w1 ⟨rfl, rfl⟩
      go_wp2_with fail
      refine (wakes_any _).mono ?_
      rintro e w8 ⟨rfl, b8⟩
      go_wp2_with fail
      go_ret
      exact ⟨rfl, b8⟩
  · rw [hx] at d1 d2
    have hn : (FloatKind.f64.format.order most most != some Ordering.eq) = false := by
      cases h : (FloatKind.f64.format.order most most != some Ordering.eq)
      · rfl
      · rw [within_nan (show nan most = true from h)] at hx; cases hx
    have d3 := within_any n more
    have d4 := within_any m most
    cases hg : fge more most
    · have hg' : (FloatKind.f64.format.order more most == some Ordering.gt || FloatKind.f64.format.order more most == some Ordering.eq) = false := hg
      by_cases hm : m ≤ n
      · rw [within_less hx hm] at d4
        go_enter Try.func4, Try.ntmps4
        go_wp2_with fail
        refine (d1 _).mono ?_
        rintro e w1 ⟨rfl, rfl⟩
        go_wp2_with fail
        refine (d2 _).mono ?_
        rintro e w1 ⟨rfl, rfl⟩
        go_wp2_with fail
        refine (d4 _).mono ?_
        rintro e w1 ⟨rfl, rfl⟩
        go_wp2_with fail
        refine (wakes_any _).mono ?_
        rintro e w8 ⟨rfl, b8⟩
        go_wp2_with fail
        go_ret
        exact ⟨rfl, b8⟩
      · have hm' : decide (m ≤ n) = false := by simpa using hm
        go_enter Try.func4, Try.ntmps4
        go_wp2_with fail
        refine (d1 _).mono ?_
        rintro e w1 ⟨rfl, rfl⟩
        go_wp2_with fail
        refine (d2 _).mono ?_
        rintro e w1 ⟨rfl, rfl⟩
        go_wp2_with fail
        refine (wakes_any _).mono ?_
        rintro e w8 ⟨rfl, b8⟩
        go_wp2_with fail
        go_ret
        exact ⟨rfl, b8⟩
    · have hg' : (FloatKind.f64.format.order more most == some Ordering.gt || FloatKind.f64.format.order more most == some Ordering.eq) = true := hg
      rw [within_more hx hg] at d3
      by_cases hm : m ≤ n
      · rw [within_less hx hm] at d4
        go_enter Try.func4, Try.ntmps4
        go_wp2_with fail
        refine (d1 _).mono ?_
        rintro e w1 ⟨rfl, rfl⟩
        go_wp2_with fail
        refine (d2 _).mono ?_
        rintro e w1 ⟨rfl, rfl⟩
        go_wp2_with fail
        refine (d3 _).mono ?_
        rintro e w1 ⟨rfl, rfl⟩
        go_wp2_with fail
        refine (d4 _).mono ?_
        rintro e w1 ⟨rfl, rfl⟩
        go_wp2_with fail
        refine (wakes_any _).mono ?_
        rintro e w8 ⟨rfl, b8⟩
        go_wp2_with fail
        go_ret
        exact ⟨rfl, b8⟩
      · have hm' : decide (m ≤ n) = false := by simpa using hm
        go_enter Try.func4, Try.ntmps4
        go_wp2_with fail
        refine (d1 _).mono ?_
        rintro e w1 ⟨rfl, rfl⟩
        go_wp2_with fail
        refine (d2 _).mono ?_
        rintro e w1 ⟨rfl, rfl⟩
        go_wp2_with fail
        refine (d3 _).mono ?_
        rintro e w1 ⟨rfl, rfl⟩
        go_wp2_with fail
        refine (wakes_any _).mono ?_
        rintro e w8 ⟨rfl, b8⟩
        go_wp2_with fail
        go_ret
        exact ⟨rfl, b8⟩

set_option maxHeartbeats 1000000 in
theorem parts_out (most : Nat) (a b : Int) (h : a < 0 ∨ b < 0 ∨ 2305843009213693952 < a ∨ 2305843009213693952 < b) (w : World) : Calls Try.prog 5 #[.float .f64 most, .int .i64 a, .int .i64 b] w fun e w' => e = .returned (.bool true) ∧ Below w.heap.size w w' := by
  cases h1 : decide (a < 0) <;> cases h2 : decide (b < 0) <;> cases h3 : decide (2305843009213693952 < a) <;> cases h4 : decide (2305843009213693952 < b) <;>
    simp only [decide_eq_true_eq, decide_eq_false_iff_not] at h1 h2 h3 h4 <;>
    first
      | omega
      | (go_enter Try.func5, Try.ntmps5
         go_wp2_with fail
         go_ret
         exact ⟨rfl, Below.refl _ _⟩)

set_option maxHeartbeats 1000000 in
theorem parts_in (most : Nat) (a b : Int) (ha : 0 ≤ a) (hb : 0 ≤ b) (ha2 : a ≤ 2305843009213693952) (hb2 : b ≤ 2305843009213693952) (w : World) : Calls Try.prog 5 #[.float .f64 most, .int .i64 a, .int .i64 b] w fun e w' => e = .returned (.bool true) ∧ Below w.heap.size w w' := by
  have g1 : decide (a < 0) = false := by simp; omega
  have g2 : decide (b < 0) = false := by simp; omega
  have g3 : decide (2305843009213693952 < a) = false := by simp; omega
  have g4 : decide (2305843009213693952 < b) = false := by simp; omega
  have ew : wrap64 (a + b) = a + b := wrap_in (by omega) (by omega)
  have p1 : takeOk most 0 a = within a most := by rw [takeOk_in (by omega) ha (by omega), Int.zero_add]
  have p2 : takeU most 0 a = if within a most then a else 0 := by rw [takeU_in (by omega) ha (by omega), Int.zero_add]
  have p3 : takeOk most 0 (a + b) = within (a + b) most := by rw [takeOk_in (by omega) (by omega) (by omega), Int.zero_add]
  have p4 : takeOk most a b = within (a + b) most := takeOk_in ha hb (by omega)
  have p5 : takeU most a b = if within (a + b) most then a + b else a := takeU_in ha hb (by omega)
  have p6 : takeOk most 0 b = within b most := by rw [takeOk_in (by omega) hb (by omega), Int.zero_add]
  have p7 : takeU most 0 b = if within b most then b else 0 := by rw [takeU_in (by omega) hb (by omega), Int.zero_add]
  have mono : within (a + b) most = true → within a most = true := fun h => within_less h (by omega)
  have n1 : within a most = false → within (a + b) most = false := fun h => by
    cases h2 : within (a + b) most
    · rfl
    · rw [mono h2] at h; cases h
  have hq : (a + b == wrap64 (a + b)) = true := by rw [ew]; simp
  have hq2 : (b == wrap64 (0 + b)) = true := by rw [wrap_in (by omega) (by omega), Int.zero_add]; simp
  have EW := Lib.hid ew
  cases ha' : within a most
  · have hw := n1 ha'
    rw [hw] at p3
    cases hb' : within b most
    · have q4 := p6
      have q5 := p7
      rw [hb'] at q4 q5
      simp only [Bool.false_eq_true, if_false, if_true] at q5
      have hz : ((0 : Int) == 0) = true := by simp
      rw [ha'] at p1 p2
      simp only [Bool.false_eq_true, if_false, if_true] at p2
      have P1 := Lib.hid p1
      have P2 := Lib.hid p2
      have P3 := Lib.hid p3
      have P4 := Lib.hid q4
      have P5 := Lib.hid q5
      clear p1 p2 p3 p4 p5 p6 p7 q4 q5 mono n1 ew ha' hb'
      go_enter Try.func5, Try.ntmps5
      go_wp2_with fail
      refine (new_has _ _).mono ?_
      rintro e w1 ⟨rfl, h1, b1, s1⟩
      go_wp2_with fail
      refine (new_has _ _).mono ?_
      rintro e w2 ⟨rfl, k1, b2, s2⟩
      have h2 : Has w2 w.heap.size most 0 := h1.below b2 (by omega)
      have t1 := take_has h2 a
      rw [P1.out, P2.out] at t1
      go_wp2_with fail
      refine t1.mono ?_
      rintro e w3 ⟨rfl, h3, o3⟩
      have t2 := take_has h3 b
      rw [P4.out, P5.out] at t2
      go_wp2_with fail
      refine t2.mono ?_
      rintro e w4 ⟨rfl, h4, o4⟩
      have k2 : Has w4 (w.heap.size + 1) most 0 := s1 ▸ ((k1.oth o3 (by omega)).oth o4 (by omega))
      have t3 := take_has k2 (a + b)
      rw [P3.out] at t3
      go_wp2_with fail
      refine t3.mono ?_
      rintro e w5 ⟨rfl, k3, o5⟩
      have h5 := h4.oth o5 (by omega)
      go_wp2_with fail
      refine (used_has h5).mono ?_
      rintro e w6 ⟨rfl, h6, o6⟩
      go_wp2_with fail
      refine (wakes_any _).mono ?_
      rintro e w7 ⟨rfl, b7⟩
      go_wp2_with fail
      go_ret
      have q : w.heap.size ≤ w.heap.size := Nat.le_refl _
      have c2 := b2.mono (B' := w.heap.size) (by omega)
      have c3 := o3.below q
      have c4 := o4.below q
      have c5 := o5.below (B := w.heap.size) (by omega)
      have c6 := o6.below q
      exact ⟨rfl, (((((b1.trans c2).trans c3).trans c4).trans c5).trans c6).trans (b7.mono (by have := b1.size; have := c2.size; have := c3.size; have := c4.size; have := c5.size; have := c6.size; omega))⟩
    · have q4 := p6
      have q5 := p7
      rw [hb'] at q4 q5
      simp only [Bool.false_eq_true, if_false, if_true] at q5
      rw [ha'] at p1 p2
      simp only [Bool.false_eq_true, if_false, if_true] at p2
      have P1 := Lib.hid p1
      have P2 := Lib.hid p2
      have P3 := Lib.hid p3
      have P4 := Lib.hid q4
      have P5 := Lib.hid q5
      clear p1 p2 p3 p4 p5 p6 p7 q4 q5 mono n1 ew ha' hb'
      go_enter Try.func5, Try.ntmps5
      go_wp2_with fail
      refine (new_has _ _).mono ?_
      rintro e w1 ⟨rfl, h1, b1, s1⟩
      go_wp2_with fail
      refine (new_has _ _).mono ?_
      rintro e w2 ⟨rfl, k1, b2, s2⟩
      have h2 : Has w2 w.heap.size most 0 := h1.below b2 (by omega)
      have t1 := take_has h2 a
      rw [P1.out, P2.out] at t1
      go_wp2_with fail
      refine t1.mono ?_
      rintro e w3 ⟨rfl, h3, o3⟩
      have t2 := take_has h3 b
      rw [P4.out, P5.out] at t2
      go_wp2_with fail
      refine t2.mono ?_
      rintro e w4 ⟨rfl, h4, o4⟩
      have k2 : Has w4 (w.heap.size + 1) most 0 := s1 ▸ ((k1.oth o3 (by omega)).oth o4 (by omega))
      have t3 := take_has k2 (a + b)
      rw [P3.out] at t3
      go_wp2_with fail
      refine t3.mono ?_
      rintro e w5 ⟨rfl, k3, o5⟩
      have h5 := h4.oth o5 (by omega)
      go_wp2_with fail
      refine (used_has h5).mono ?_
      rintro e w6 ⟨rfl, h6, o6⟩
      go_wp2_with fail
      refine (wakes_any _).mono ?_
      rintro e w7 ⟨rfl, b7⟩
      go_wp2_with fail
      go_ret
      have q : w.heap.size ≤ w.heap.size := Nat.le_refl _
      have c2 := b2.mono (B' := w.heap.size) (by omega)
      have c3 := o3.below q
      have c4 := o4.below q
      have c5 := o5.below (B := w.heap.size) (by omega)
      have c6 := o6.below q
      exact ⟨rfl, (((((b1.trans c2).trans c3).trans c4).trans c5).trans c6).trans (b7.mono (by have := b1.size; have := c2.size; have := c3.size; have := c4.size; have := c5.size; have := c6.size; omega))⟩
  · cases hb' : within (a + b) most
    · have q4 := p4
      have q5 := p5
      rw [hb'] at q4 q5 p3
      simp only [Bool.false_eq_true, if_false, if_true] at q5
      have hz : (a == a) = true := by simp
      rw [ha'] at p1 p2
      simp only [Bool.false_eq_true, if_false, if_true] at p2
      have P1 := Lib.hid p1
      have P2 := Lib.hid p2
      have P3 := Lib.hid p3
      have P4 := Lib.hid q4
      have P5 := Lib.hid q5
      clear p1 p2 p3 p4 p5 p6 p7 q4 q5 mono n1 ew ha' hb'
      go_enter Try.func5, Try.ntmps5
      go_wp2_with fail
      refine (new_has _ _).mono ?_
      rintro e w1 ⟨rfl, h1, b1, s1⟩
      go_wp2_with fail
      refine (new_has _ _).mono ?_
      rintro e w2 ⟨rfl, k1, b2, s2⟩
      have h2 : Has w2 w.heap.size most 0 := h1.below b2 (by omega)
      have t1 := take_has h2 a
      rw [P1.out, P2.out] at t1
      go_wp2_with fail
      refine t1.mono ?_
      rintro e w3 ⟨rfl, h3, o3⟩
      have t2 := take_has h3 b
      rw [P4.out, P5.out] at t2
      go_wp2_with fail
      refine t2.mono ?_
      rintro e w4 ⟨rfl, h4, o4⟩
      have k2 : Has w4 (w.heap.size + 1) most 0 := s1 ▸ ((k1.oth o3 (by omega)).oth o4 (by omega))
      have t3 := take_has k2 (a + b)
      rw [P3.out] at t3
      go_wp2_with fail
      refine t3.mono ?_
      rintro e w5 ⟨rfl, k3, o5⟩
      have h5 := h4.oth o5 (by omega)
      go_wp2_with fail
      refine (used_has h5).mono ?_
      rintro e w6 ⟨rfl, h6, o6⟩
      go_wp2_with fail
      refine (wakes_any _).mono ?_
      rintro e w7 ⟨rfl, b7⟩
      go_wp2_with fail
      go_ret
      have q : w.heap.size ≤ w.heap.size := Nat.le_refl _
      have c2 := b2.mono (B' := w.heap.size) (by omega)
      have c3 := o3.below q
      have c4 := o4.below q
      have c5 := o5.below (B := w.heap.size) (by omega)
      have c6 := o6.below q
      exact ⟨rfl, (((((b1.trans c2).trans c3).trans c4).trans c5).trans c6).trans (b7.mono (by have := b1.size; have := c2.size; have := c3.size; have := c4.size; have := c5.size; have := c6.size; omega))⟩
    · have q4 := p4
      have q5 := p5
      rw [hb'] at q4 q5 p3
      simp only [Bool.false_eq_true, if_false, if_true] at q5
      rw [ha'] at p1 p2
      simp only [Bool.false_eq_true, if_false, if_true] at p2
      have P1 := Lib.hid p1
      have P2 := Lib.hid p2
      have P3 := Lib.hid p3
      have P4 := Lib.hid q4
      have P5 := Lib.hid q5
      clear p1 p2 p3 p4 p5 p6 p7 q4 q5 mono n1 ew ha' hb'
      go_enter Try.func5, Try.ntmps5
      go_wp2_with fail
      refine (new_has _ _).mono ?_
      rintro e w1 ⟨rfl, h1, b1, s1⟩
      go_wp2_with fail
      refine (new_has _ _).mono ?_
      rintro e w2 ⟨rfl, k1, b2, s2⟩
      have h2 : Has w2 w.heap.size most 0 := h1.below b2 (by omega)
      have t1 := take_has h2 a
      rw [P1.out, P2.out] at t1
      go_wp2_with fail
      refine t1.mono ?_
      rintro e w3 ⟨rfl, h3, o3⟩
      have t2 := take_has h3 b
      rw [P4.out, P5.out] at t2
      go_wp2_with fail
      refine t2.mono ?_
      rintro e w4 ⟨rfl, h4, o4⟩
      have k2 : Has w4 (w.heap.size + 1) most 0 := s1 ▸ ((k1.oth o3 (by omega)).oth o4 (by omega))
      have t3 := take_has k2 (a + b)
      rw [P3.out] at t3
      go_wp2_with fail
      refine t3.mono ?_
      rintro e w5 ⟨rfl, k3, o5⟩
      have h5 := h4.oth o5 (by omega)
      go_wp2_with fail
      refine (used_has h5).mono ?_
      rintro e w6 ⟨rfl, h6, o6⟩
      go_wp2_with fail
      refine (wakes_any _).mono ?_
      rintro e w7 ⟨rfl, b7⟩
      go_wp2_with fail
      go_ret
      have q : w.heap.size ≤ w.heap.size := Nat.le_refl _
      have c2 := b2.mono (B' := w.heap.size) (by omega)
      have c3 := o3.below q
      have c4 := o4.below q
      have c5 := o5.below (B := w.heap.size) (by omega)
      have c6 := o6.below q
      exact ⟨rfl, (((((b1.trans c2).trans c3).trans c4).trans c5).trans c6).trans (b7.mono (by have := b1.size; have := c2.size; have := c3.size; have := c4.size; have := c5.size; have := c6.size; omega))⟩
end Go.Proofs.Ytadmdmhocglkfaa.Bud
