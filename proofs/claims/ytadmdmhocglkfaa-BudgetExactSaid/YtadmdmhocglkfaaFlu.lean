/- float64(n) keeps the order; what is made of numbers is no NaN; a difference. No program in sight. -/
import Derived.Test.YtadmdmhocglkfaaFlt
set_option linter.unusedSimpArgs false
set_option linter.unusedVariables false
namespace Go.Proofs.Ytadmdmhocglkfaa.Flt
open Go Go.RowKit

theorem cut_mono (s t : Bool) {n m d g : Nat} (hg : 1 <<< min d (n.log2 + 2) = g) (hh : 1 <<< min d (m.log2 + 2) = g) (h : n ≤ m) : Ieee.Toward.even.cut s n d ≤ Ieee.Toward.even.cut t m d := by
  unfold Ieee.Toward.cut
  simp only [hg, hh]
  have hpos : 0 < g := by rw [← hg, Nat.shiftLeft_eq]; exact Nat.mul_pos (by decide) (Nat.two_pow_pos _)
  have hq : n / g ≤ m / g := Nat.div_le_div_right h
  rcases Nat.lt_or_eq_of_le hq with hlt | heq
  · have h1 : (decide (g < 2 * (n % g)) || g == 2 * (n % g) && n / g % 2 == 1).toNat ≤ 1 := Bool.toNat_le _
    omega
  · have hr : n % g ≤ m % g := by
      have a := Nat.div_add_mod n g
      have b := Nat.div_add_mod m g
      rw [heq] at a
      omega
    rw [heq]
    refine Nat.add_le_add_left ?_ _
    generalize m / g = q
    generalize n % g = x at *
    generalize m % g = y at *
    by_cases h1 : g < 2 * x
    · have h2 : g < 2 * y := by omega
      simp [h1, h2]
    · by_cases h3 : g = 2 * x
      · by_cases h4 : g < 2 * y
        · simp only [h4, decide_true, Bool.true_or]
          exact Bool.toNat_le _
        · have h5 : y = x := by omega
          subst h5
          exact Nat.le_refl _
      · have e : (g == 2 * x) = false := by simpa using h3
        simp [h1, e]

/-- The rung of a whole number, before it is bounded. -/
def rg (m : Nat) : Nat := ((m.log2 : Int) - 52 + 1074).toNat * 4503599627370496 + Ieee.Toward.even.cut false (m <<< (0 - ((m.log2 : Int) - 52)).toNat) ((m.log2 : Int) - 52 - 0).toNat
def R (m : Nat) : Nat := if m = 0 then 0 else min (rg m) 9218868437227405312

theorem cut_sign (s t : Bool) (n d : Nat) : Ieee.Toward.even.cut s n d = Ieee.Toward.even.cut t n d := rfl

theorem nearest_int (neg : Bool) (m : Nat) : Ieee.double.nearest neg m 0 = Ieee.double.word neg (R m) := by
  unfold Ieee.Format.nearest R
  by_cases h : m = 0
  · rw [if_pos h, if_pos h]
  · rw [if_neg h, if_neg h]
    have e2 : Ieee.double.binade = 4503599627370496 := by decide
    have e3 : Ieee.double.infRung = 9218868437227405312 := by decide
    have e4 : Ieee.double.leastPlace = -1074 := by decide
    have e5 : (Ieee.double.fractionBits : Int) = 52 := by decide
    simp only [e2, e3, e4, e5]
    have el : max ((0 : Int) + (m.log2 : Int) - 52) (-1074) = (m.log2 : Int) - 52 := by omega
    rw [el]
    unfold rg
    rw [show (m.log2 : Int) - 52 - -1074 = (m.log2 : Int) - 52 + 1074 by omega, cut_sign neg false]

theorem cut_zero (n : Nat) : Ieee.Toward.even.cut false n 0 = n := by
  unfold Ieee.Toward.cut
  simp [Nat.mod_one]

theorem log2_le {n m : Nat} (h : n ≤ m) : n.log2 ≤ m.log2 := by
  rcases Nat.eq_zero_or_pos n with h0 | h0
  · subst h0; simp
  · rw [Nat.le_log2 (by omega)]
    exact Nat.le_trans (Nat.log2_self_le (by omega)) h

theorem kept_lo {m : Nat} (h0 : m ≠ 0) : 4503599627370496 ≤ Ieee.Toward.even.cut false (m <<< (0 - ((m.log2 : Int) - 52)).toNat) ((m.log2 : Int) - 52 - 0).toNat := by
  have h1 : 2 ^ m.log2 ≤ m := Nat.log2_self_le h0
  rcases Nat.lt_or_ge m.log2 53 with h | h
  · have e1 : ((m.log2 : Int) - 52 - 0).toNat = 0 := by omega
    have e2 : (0 - ((m.log2 : Int) - 52)).toNat = 52 - m.log2 := by omega
    rw [e1, e2, cut_zero, Nat.shiftLeft_eq]
    have : 2 ^ m.log2 * 2 ^ (52 - m.log2) ≤ m * 2 ^ (52 - m.log2) := Nat.mul_le_mul_right _ h1
    rw [← Nat.pow_add, show m.log2 + (52 - m.log2) = 52 by omega] at this
    exact this
  · have e2 : (0 - ((m.log2 : Int) - 52)).toNat = 0 := by omega
    have e1 : ((m.log2 : Int) - 52 - 0).toNat = m.log2 - 52 := by omega
    rw [e1, e2, Nat.shiftLeft_zero]
    unfold Ieee.Toward.cut
    have e3 : min (m.log2 - 52) (m.log2 + 2) = m.log2 - 52 := by omega
    simp only [e3, Nat.shiftLeft_eq, Nat.one_mul]
    have : 2 ^ 52 ≤ m / 2 ^ (m.log2 - 52) := by
      rw [Nat.le_div_iff_mul_le (Nat.two_pow_pos _), ← Nat.pow_add, show 52 + (m.log2 - 52) = m.log2 by omega]
      exact h1
    have h52 : (2 : Nat) ^ 52 = 4503599627370496 := by decide
    omega

theorem kept_hi {m : Nat} (h0 : m ≠ 0) : Ieee.Toward.even.cut false (m <<< (0 - ((m.log2 : Int) - 52)).toNat) ((m.log2 : Int) - 52 - 0).toNat ≤ 9007199254740992 := by
  have h1 : m < 2 ^ (m.log2 + 1) := Nat.lt_log2_self
  have h53 : (2 : Nat) ^ 53 = 9007199254740992 := by decide
  rcases Nat.lt_or_ge m.log2 53 with h | h
  · have e1 : ((m.log2 : Int) - 52 - 0).toNat = 0 := by omega
    have e2 : (0 - ((m.log2 : Int) - 52)).toNat = 52 - m.log2 := by omega
    rw [e1, e2, cut_zero, Nat.shiftLeft_eq]
    have : m * 2 ^ (52 - m.log2) ≤ 2 ^ (m.log2 + 1) * 2 ^ (52 - m.log2) := Nat.mul_le_mul_right _ (Nat.le_of_lt h1)
    rw [← Nat.pow_add, show m.log2 + 1 + (52 - m.log2) = 53 by omega, h53] at this
    exact this
  · have e2 : (0 - ((m.log2 : Int) - 52)).toNat = 0 := by omega
    have e1 : ((m.log2 : Int) - 52 - 0).toNat = m.log2 - 52 := by omega
    rw [e1, e2, Nat.shiftLeft_zero]
    unfold Ieee.Toward.cut
    have e3 : min (m.log2 - 52) (m.log2 + 2) = m.log2 - 52 := by omega
    simp only [e3, Nat.shiftLeft_eq, Nat.one_mul]
    have : m / 2 ^ (m.log2 - 52) < 2 ^ 53 := by
      rw [Nat.div_lt_iff_lt_mul (Nat.two_pow_pos _), ← Nat.pow_add, show 53 + (m.log2 - 52) = m.log2 + 1 by omega]
      exact h1
    have hb : (decide (2 ^ (m.log2 - 52) < 2 * (m % 2 ^ (m.log2 - 52))) || 2 ^ (m.log2 - 52) == 2 * (m % 2 ^ (m.log2 - 52)) && m / 2 ^ (m.log2 - 52) % 2 == 1).toNat ≤ 1 := Bool.toNat_le _
    omega

theorem rg_mono {n m : Nat} (h0 : n ≠ 0) (h : n ≤ m) : rg n ≤ rg m := by
  have hl := log2_le h
  have hm : m ≠ 0 := by omega
  have a := kept_hi h0
  have b := kept_lo hm
  rcases Nat.lt_or_eq_of_le hl with hlt | heq
  · unfold rg
    have : ((n.log2 : Int) - 52 + 1074).toNat + 1 ≤ ((m.log2 : Int) - 52 + 1074).toNat := by omega
    have := Nat.mul_le_mul_right 4503599627370496 this
    omega
  · unfold rg
    rw [heq]
    refine Nat.add_le_add_left ?_ _
    rcases Nat.lt_or_ge m.log2 53 with h53 | h53
    · have e1 : ((m.log2 : Int) - 52 - 0).toNat = 0 := by omega
      rw [e1, cut_zero, cut_zero, Nat.shiftLeft_eq, Nat.shiftLeft_eq]
      exact Nat.mul_le_mul_right _ h
    · have e2 : (0 - ((m.log2 : Int) - 52)).toNat = 0 := by omega
      rw [e2, Nat.shiftLeft_zero, Nat.shiftLeft_zero]
      refine cut_mono false false (g := 2 ^ (m.log2 - 52)) ?_ ?_ h
      · rw [heq, show min ((m.log2 : Int) - 52 - 0).toNat (m.log2 + 2) = m.log2 - 52 by omega, Nat.shiftLeft_eq, Nat.one_mul]
      · rw [show min ((m.log2 : Int) - 52 - 0).toNat (m.log2 + 2) = m.log2 - 52 by omega, Nat.shiftLeft_eq, Nat.one_mul]

theorem R_mono {n m : Nat} (h : n ≤ m) : R n ≤ R m := by
  unfold R
  by_cases h0 : n = 0
  · rw [if_pos h0]; exact Nat.zero_le _
  · rw [if_neg h0, if_neg (by omega)]
    have := rg_mono h0 h
    omega
theorem R_le (m : Nat) : R m ≤ 9218868437227405312 := by
  unfold R; split <;> omega

theorem word_rung (neg : Bool) {r : Nat} (h : r ≤ 9218868437227405312) : rung (Ieee.double.word neg r) = r ∧ isNeg (Ieee.double.word neg r) = neg := by
  have e1 : Ieee.double.signWeight = 9223372036854775808 := by decide
  unfold Ieee.Format.word rung isNeg
  rw [e1]
  cases neg
  · simp only [Bool.false_eq_true, if_false]
    refine ⟨by omega, ?_⟩
    have : r / 9223372036854775808 = 0 := by omega
    rw [this]; rfl
  · simp only [if_true]
    refine ⟨by omega, ?_⟩
    have : (9223372036854775808 + r) / 9223372036854775808 = 1 := by omega
    rw [this]; rfl

theorem word_nan (neg : Bool) {r : Nat} (h : r ≤ 9218868437227405312) : nanB (Ieee.double.word neg r) = false := by
  unfold nanB
  rw [(word_rung neg h).1]
  simpa using h

theorem ofInt_word (n : Int) : floatOfInt .f64 n = Ieee.double.word (n < 0) (R n.natAbs) := nearest_int _ _
theorem ofInt_nan (n : Int) : nanB (floatOfInt .f64 n) = false := by rw [ofInt_word]; exact word_nan _ (R_le _)
theorem ofInt_key (n : Int) : skey (floatOfInt .f64 n) = if n < 0 then -(R n.natAbs : Int) else (R n.natAbs : Int) := by
  rw [ofInt_word]
  unfold skey
  rw [(word_rung _ (R_le _)).1, (word_rung _ (R_le _)).2]
  by_cases h : n < 0 <;> simp [h]

/-- float64 KEEPS THE ORDER. -/
theorem ofInt_mono {n m : Int} (h : n ≤ m) : skey (floatOfInt .f64 n) ≤ skey (floatOfInt .f64 m) := by
  rw [ofInt_key, ofInt_key]
  by_cases h1 : n < 0 <;> by_cases h2 : m < 0
  · rw [if_pos h1, if_pos h2]
    have := R_mono (n := m.natAbs) (m := n.natAbs) (by omega)
    omega
  · rw [if_pos h1, if_neg h2]; omega
  · omega
  · rw [if_neg h1, if_neg h2]
    have := R_mono (n := n.natAbs) (m := m.natAbs) (by omega)
    omega

theorem nearest_nan (neg : Bool) (m : Nat) (p : Int) : nanB (Ieee.double.nearest neg m p) = false := by
  unfold Ieee.Format.nearest
  have e3 : Ieee.double.infRung = 9218868437227405312 := by decide
  split
  · exact word_nan _ (by omega)
  · simp only [e3]
    exact word_nan _ (Nat.min_le_right _ _)

theorem encode_nan (d : Ieee.Datum) (h : d.isNaN = false) : nanB (FloatKind.f64.encode d) = false := by
  cases d with
  | number s m p => exact nearest_nan s m p
  | infinity s =>
    show nanB (Ieee.double.word s Ieee.double.infRung) = false
    have e3 : Ieee.double.infRung = 9218868437227405312 := by decide
    rw [e3]
    exact word_nan _ (Nat.le_refl _)
  | nan s t => cases h

/-- A difference of two that are no NaN, unless they are one infinity. -/
theorem sub_some (x y : Nat) (hx : nanB x = false) (hy : nanB y = false) (h : ord y x ≠ some .eq) : ∃ r, floatBits .sub .f64 x y = some r := by
  have hx' : rung x ≤ 9218868437227405312 := by simpa [nanB] using hx
  have hy' : rung y ≤ 9218868437227405312 := by simpa [nanB] using hy
  show ∃ r, Ieee.Format.sub FloatKind.f64.format x y = some r
  unfold Ieee.Format.sub
  rcases Nat.lt_or_ge (rung x) 9218868437227405312 with h1 | h1 <;> rcases Nat.lt_or_ge (rung y) 9218868437227405312 with h2 | h2
  · rw [read_number x h1, read_number y h2]; exact ⟨_, rfl⟩
  · rw [read_number x h1, read_inf y (by omega)]; exact ⟨_, rfl⟩
  · rw [read_inf x (by omega), read_number y h2]; exact ⟨_, rfl⟩
  · have e1 : rung x = 9218868437227405312 := by omega
    have e2 : rung y = 9218868437227405312 := by omega
    rw [read_inf x e1, read_inf y e2]
    by_cases hs : isNeg x = isNeg y
    · exfalso
      apply h
      rw [ord_skey y x hy hx]
      unfold skey
      rw [e1, e2, hs]
      congr 1
      exact cmp_eq rfl
    · have : isNeg x = !isNeg y := by cases hxn : isNeg x <;> cases hyn : isNeg y <;> simp_all
      rw [this]
      simp only [Ieee.Datum.opposite, Ieee.Datum.sum, if_true, Option.map_some]
      exact ⟨_, rfl⟩
end Go.Proofs.Ytadmdmhocglkfaa.Flt
