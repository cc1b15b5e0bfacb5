/- Float64 by its bits: the order of two words is the order of two whole numbers ('skey'); float64(n) keeps the order. No program in sight. -/
import Derived.Laws.FloatArith
set_option linter.unusedSimpArgs false
set_option linter.unusedVariables false
namespace Go.Proofs.Ytadmdmhocglkfaa.Flt

/-- A word's rung, and the number by which words are ordered. -/
def rung (x : Nat) : Nat := x % 9223372036854775808
def isNeg (x : Nat) : Bool := x / 9223372036854775808 % 2 == 1
def skey (x : Nat) : Int := if isNeg x then -(rung x : Int) else (rung x : Int)
def nanB (x : Nat) : Bool := decide (9218868437227405312 < rung x)
def ord (x y : Nat) : Option Ordering := FloatKind.f64.format.order x y

/-- What a rung stands for, in units of the least place. -/
def V (r : Nat) : Nat := if r < 4503599627370496 then r else (4503599627370496 + r % 4503599627370496) * 2 ^ (r / 4503599627370496 - 1)

theorem V_step (r : Nat) : V r < V (r + 1) := by
  unfold V
  by_cases h : r + 1 < 4503599627370496
  · rw [if_pos (by omega), if_pos h]; omega
  · by_cases h2 : r < 4503599627370496
    · rw [if_pos h2, if_neg h]
      have : r = 4503599627370495 := by omega
      subst this; decide
    · rw [if_neg h2, if_neg h]
      by_cases h3 : r % 4503599627370496 = 4503599627370495
      · have e1 : (r + 1) % 4503599627370496 = 0 := by omega
        have e2 : (r + 1) / 4503599627370496 - 1 = (r / 4503599627370496 - 1) + 1 := by omega
        rw [e1, e2, h3, Nat.pow_succ]
        have : 0 < 2 ^ (r / 4503599627370496 - 1) := Nat.two_pow_pos _
        omega
      · have e1 : (r + 1) % 4503599627370496 = r % 4503599627370496 + 1 := by omega
        have e2 : (r + 1) / 4503599627370496 = r / 4503599627370496 := by omega
        rw [e1, e2]
        exact Nat.mul_lt_mul_of_pos_right (by omega) (Nat.two_pow_pos _)

theorem V_lt {r s : Nat} (h : r < s) : V r < V s := by
  induction s with
  | zero => omega
  | succ s ih =>
    rcases Nat.lt_or_ge r s with h1 | h1
    · exact Nat.lt_trans (ih h1) (V_step s)
    · have : r = s := by omega
      subst this; exact V_step r

theorem compare_V (a b : Int) (r s : Nat) (x y : Int)
    (hx : (a = V r ∧ x = r) ∨ (a = -(V r : Int) ∧ x = -(r : Int))) (hy : (b = V s ∧ y = s) ∨ (b = -(V s : Int) ∧ y = -(s : Int))) : compare a b = compare x y := by
  have V0 : V 0 = 0 := by decide
  have pos : ∀ t : Nat, 0 < t → 0 < V t := fun t ht => by have := V_lt ht; omega
  have hr := pos r
  have hs := pos s
  have hrs : r < s → V r < V s := V_lt
  have hsr : s < r → V s < V r := V_lt
  have e0 : r = 0 → V r = 0 := by rintro rfl; exact V0
  have f0 : s = 0 → V s = 0 := by rintro rfl; exact V0
  have ee : r = s → V r = V s := by rintro rfl; rfl
  generalize V r = p at *
  generalize V s = q at *
  have key : (a < b ↔ x < y) ∧ (a = b ↔ x = y) := by
    rcases hx with ⟨h1, h2⟩ | ⟨h1, h2⟩ <;> rcases hy with ⟨h3, h4⟩ | ⟨h3, h4⟩ <;> constructor <;> omega
  simp only [compare, compareOfLessAndEq, key.1, key.2]


/-- The place of a rung's last digit above the least one, and its digits. -/
def E (r : Nat) : Nat := if r < 4503599627370496 then 0 else r / 4503599627370496 - 1
def M (r : Nat) : Nat := if r < 4503599627370496 then r else 4503599627370496 + r % 4503599627370496
theorem V_eq (r : Nat) : V r = M r * 2 ^ E r := by
  unfold V M E; split <;> simp

theorem read_number (x : Nat) (h : rung x < 9218868437227405312) : FloatKind.f64.format.read x = .number (isNeg x) (M (rung x)) (-1074 + (E (rung x) : Int)) := by
  show Ieee.Format.read Ieee.double x = _
  unfold Ieee.Format.read
  have e1 : Ieee.double.signWeight = 9223372036854775808 := by decide
  have e2 : Ieee.double.binade = 4503599627370496 := by decide
  have e3 : Ieee.double.infRung = 9218868437227405312 := by decide
  have e4 : Ieee.double.leastPlace = -1074 := by decide
  simp only [e1, e2, e3, e4]
  unfold rung at h
  unfold M E rung isNeg
  by_cases h1 : x % 9223372036854775808 < 4503599627370496
  · simp [h1]
  · simp [h1, h]

theorem read_inf (x : Nat) (h : rung x = 9218868437227405312) : FloatKind.f64.format.read x = .infinity (isNeg x) := by
  show Ieee.Format.read Ieee.double x = _
  unfold Ieee.Format.read
  have e1 : Ieee.double.signWeight = 9223372036854775808 := by decide
  have e2 : Ieee.double.binade = 4503599627370496 := by decide
  have e3 : Ieee.double.infRung = 9218868437227405312 := by decide
  simp only [e1, e2, e3]
  unfold rung at h
  rw [h]
  simp [isNeg]

theorem read_nan (x : Nat) (h : 9218868437227405312 < rung x) : FloatKind.f64.format.read x = .nan (isNeg x) (rung x - 9218868437227405312) := by
  show Ieee.Format.read Ieee.double x = _
  unfold Ieee.Format.read
  have e1 : Ieee.double.signWeight = 9223372036854775808 := by decide
  have e2 : Ieee.double.binade = 4503599627370496 := by decide
  have e3 : Ieee.double.infRung = 9218868437227405312 := by decide
  simp only [e1, e2, e3]
  unfold rung at h ⊢
  rw [if_neg (by omega), if_neg (by omega), if_neg (by omega)]
  rfl

theorem cmp_lt {a b : Int} (h : a < b) : compare a b = .lt := by simp [compare, compareOfLessAndEq, h]
theorem cmp_gt {a b : Int} (h : b < a) : compare a b = .gt := by
  have h1 : ¬ a < b := by omega
  have h2 : ¬ a = b := by omega
  simp [compare, compareOfLessAndEq, h1, h2]
theorem cmp_eq {a b : Int} (h : a = b) : compare a b = .eq := by simp [compare, compareOfLessAndEq, h]

theorem compare_mul (a b : Int) (k : Nat) (hk : 0 < k) : compare (a * k) (b * k) = compare a b := by
  have hk' : (0 : Int) < k := by omega
  have h1 : a * k < b * k ↔ a < b := ⟨fun h => Int.lt_of_mul_lt_mul_right h (by omega), fun h => Int.mul_lt_mul_of_pos_right h hk'⟩
  have h2 : a * k = b * k ↔ a = b := ⟨fun h => Int.eq_of_mul_eq_mul_right (by omega) h, fun h => by rw [h]⟩
  simp only [compare, compareOfLessAndEq, h1, h2]

theorem signed_mul (s : Bool) (m u k : Nat) : Ieee.signed s m u * ((2 ^ k : Nat) : Int) = Ieee.signed s m (u + k) := by
  unfold Ieee.signed
  have : ((m <<< u : Nat) : Int) * ((2 ^ k : Nat) : Int) = ((m <<< (u + k) : Nat) : Int) := by
    rw [Nat.shiftLeft_eq, Nat.shiftLeft_eq, Nat.pow_add, ← Nat.mul_assoc]
    exact (Int.natCast_mul _ _).symm
  cases s <;> simp only [Bool.false_eq_true, if_false, if_true]
  · exact this
  · rw [Int.neg_mul, this]

theorem signed_V (x : Nat) : Ieee.signed (isNeg x) (M (rung x)) (E (rung x)) = if isNeg x then -(V (rung x) : Int) else (V (rung x) : Int) := by
  unfold Ieee.signed
  rw [Nat.shiftLeft_eq, ← V_eq]

/-- THE ORDER OF TWO WORDS THAT ARE NO NaN IS THAT OF TWO WHOLE NUMBERS. -/
theorem ord_skey (x y : Nat) (hx : nanB x = false) (hy : nanB y = false) : ord x y = some (compare (skey x) (skey y)) := by
  have hx' : rung x ≤ 9218868437227405312 := by simpa [nanB] using hx
  have hy' : rung y ≤ 9218868437227405312 := by simpa [nanB] using hy
  unfold ord Ieee.Format.order
  rcases Nat.lt_or_ge (rung x) 9218868437227405312 with h1 | h1 <;> rcases Nat.lt_or_ge (rung y) 9218868437227405312 with h2 | h2
  · rw [read_number x h1, read_number y h2]
    simp only [Ieee.Datum.order]
    congr 1
    have hb : ∀ e f : Nat, (-1074 + (e : Int) - min (-1074 + (e : Int)) (-1074 + (f : Int))).toNat + min e f = e := by intro e f; omega
    have hb' : ∀ e f : Nat, (-1074 + (f : Int) - min (-1074 + (e : Int)) (-1074 + (f : Int))).toNat + min e f = f := by intro e f; omega
    rw [← compare_mul _ _ (2 ^ min (E (rung x)) (E (rung y))) (Nat.two_pow_pos _), signed_mul, signed_mul, hb, hb', signed_V, signed_V]
    refine compare_V _ _ (rung x) (rung y) _ _ ?_ ?_
    · unfold skey; cases isNeg x <;> simp
    · unfold skey; cases isNeg y <;> simp
  · have h2' : rung y = 9218868437227405312 := by omega
    rw [read_number x h1, read_inf y h2']
    simp only [Ieee.Datum.order]
    congr 1
    unfold skey
    rw [h2']
    cases isNeg y <;> cases isNeg x <;> first | exact (cmp_lt (by simp; omega)).symm | exact (cmp_gt (by simp; omega)).symm
  · have h1' : rung x = 9218868437227405312 := by omega
    rw [read_number y h2, read_inf x h1']
    simp only [Ieee.Datum.order]
    congr 1
    unfold skey
    rw [h1']
    cases isNeg x <;> cases isNeg y <;> first | exact (cmp_lt (by simp; omega)).symm | exact (cmp_gt (by simp; omega)).symm
  · have h1' : rung x = 9218868437227405312 := by omega
    have h2' : rung y = 9218868437227405312 := by omega
    rw [read_inf x h1', read_inf y h2']
    simp only [Ieee.Datum.order]
    congr 1
    unfold skey
    rw [h1', h2']
    cases isNeg x <;> cases isNeg y <;> decide

theorem ord_nan_left (x y : Nat) (hx : nanB x = true) : ord x y = none := by
  have hx' : 9218868437227405312 < rung x := by simpa [nanB] using hx
  unfold ord Ieee.Format.order
  rw [read_nan x hx']
  rfl
theorem ord_nan_right (x y : Nat) (hy : nanB y = true) : ord x y = none := by
  have hy' : 9218868437227405312 < rung y := by simpa [nanB] using hy
  unfold ord Ieee.Format.order
  rw [read_nan y hy']
  cases FloatKind.f64.format.read x <;> rfl

end Go.Proofs.Ytadmdmhocglkfaa.Flt
