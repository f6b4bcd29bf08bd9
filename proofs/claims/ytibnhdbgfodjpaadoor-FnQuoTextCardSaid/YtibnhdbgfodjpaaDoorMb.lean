/- Ranges, greatest common divisors, quotients in lowest terms, bearings, as plain functions. No program in sight. -/
namespace Go.Proofs.YtibnhdbgfodjpaaDoor.Hand
/-- From -m to m. -/
def inB (a m : Int) : Bool := decide (-m ≤ a) && decide (a ≤ m)
/-- The greatest common divisor, as an integer. -/
def gcdZ (a b : Int) : Int := (Int.gcd a b : Int)
theorem gcdZ_nonneg (a b : Int) : 0 ≤ gcdZ a b := by unfold gcdZ; omega
theorem gcdZ_zero (a : Int) (h : 0 ≤ a) : gcdZ a 0 = a := by unfold gcdZ; simp; omega
theorem gcdZ_step (a b : Int) : gcdZ b (a % b) = gcdZ a b := by
  unfold gcdZ
  have h : a = a % b + b * (a / b) := by rw [Int.emod_add_mul_ediv]
  rw [Int.gcd_comm a b]
  conv => rhs; rw [h]
  rw [Int.gcd_add_mul_left_right]
theorem gcdZ_abs (a b : Int) : gcdZ (a.natAbs : Int) (b.natAbs : Int) = gcdZ a b := by unfold gcdZ; simp [Int.gcd]
theorem inB_iff (a m : Int) : inB a m = true ↔ -m ≤ a ∧ a ≤ m := by simp [inB]
theorem inB_not (a m : Int) : inB a m = false ↔ a < -m ∨ m < a := by
  rw [← Bool.not_eq_true, inB_iff]; omega
/-- More rounds than any loop over two 64-bit numbers needs. -/
def KK : Nat := 10000000000000000000
/-- A quotient is valid. -/
def quoOk (t l : Int) : Bool := decide (1 ≤ l) && (decide (l ≤ 1000000000) && (inB t 1000000000 && (gcdZ t l == 1)))
/-- a divided by b, in lowest terms (b is positive). -/
def quoRed (a b : Int) : Int × Int × Bool :=
  if quoOk (a.tdiv (gcdZ a b)) (b.tdiv (gcdZ a b)) = true then (a.tdiv (gcdZ a b), b.tdiv (gcdZ a b), true) else (0, 0, false)
/-- QuoOf. -/
def quoOf (a b : Int) : Int × Int × Bool :=
  if (b == 0 || (!inB a 4000000000000000000 || !inB b 4000000000000000000)) = true then (0, 0, false)
  else if b < 0 then quoRed (-a) (-b) else quoRed a b
def quoTimes (a b c d : Int) : Int × Int × Bool := if (quoOk a b && quoOk c d) = true then quoOf (a * c) (b * d) else (0, 0, false)
def quoAdd (a b c d : Int) : Int × Int × Bool := if (quoOk a b && quoOk c d) = true then quoOf (a * d + c * b) (b * d) else (0, 0, false)
def quoTake (a b c d : Int) : Int × Int × Bool := if (quoOk a b && quoOk c d) = true then quoOf (a * d - c * b) (b * d) else (0, 0, false)
def sgn (x : Int) : Int := if x < 0 then -1 else if 0 < x then 1 else 0
def quoOrder (a b c d : Int) : Int × Bool := if (quoOk a b && quoOk c d) = true then (sgn (a * d - c * b), true) else (0, false)
/-- A bearing. -/
def bear (x y : Int) : Bool := (inB x 20000 && inB y 20000) && (gcdZ x y == 1)
def bearOf (x y : Int) : Int × Int × Bool :=
  if ((inB x 20000 && inB y 20000) && !(x == 0 && y == 0)) = true then (x.tdiv (gcdZ x y), y.tdiv (gcdZ x y), true) else (0, 0, false)
def quarter (x y : Int) : Int := if 0 ≤ x ∧ 0 < y then 0 else if 0 < x then 1 else if y < 0 then 2 else 3
def turn1 (p : Int × Int) : Int × Int := (p.2, -p.1)
def turnN : Nat → Int × Int → Int × Int
  | 0, p => p
  | n + 1, p => turnN n (turn1 p)
def turns (k : Int) : Nat := (k % 4).toNat
theorem quoOk_iff (t l : Int) : quoOk t l = true ↔ (1 ≤ l ∧ l ≤ 1000000000 ∧ -1000000000 ≤ t ∧ t ≤ 1000000000 ∧ gcdZ t l = 1) := by
  simp [quoOk, inB_iff, and_assoc]
theorem quoOk_false (t l : Int) : quoOk t l = false ↔ ¬ (1 ≤ l ∧ l ≤ 1000000000 ∧ -1000000000 ≤ t ∧ t ≤ 1000000000 ∧ gcdZ t l = 1) := by
  rw [← quoOk_iff]; simp
theorem gcdZ_pos (a b : Int) (h : ¬ (a = 0 ∧ b = 0)) : 1 ≤ gcdZ a b := by
  have h1 := gcdZ_nonneg a b
  rcases Int.lt_or_eq_of_le h1 with h2 | h2
  · omega
  · exfalso; apply h
    unfold gcdZ at h2
    have h3 : Int.gcd a b = 0 := by omega
    exact Int.gcd_eq_zero_iff.mp h3
theorem tdiv_bd (x g : Int) : -(x.natAbs : Int) ≤ x.tdiv g ∧ x.tdiv g ≤ (x.natAbs : Int) := by
  have h := Int.natAbs_tdiv x g
  have h5 : (x.natAbs / g.natAbs) ≤ x.natAbs := Nat.div_le_self _ _
  have h6 : (x.tdiv g).natAbs ≤ x.natAbs := by rw [h]; exact h5
  omega
theorem tmod_pos (a b : Int) (ha : 0 ≤ a) : Int.tmod a b = a % b := Int.tmod_eq_emod_of_nonneg ha
end Go.Proofs.YtibnhdbgfodjpaaDoor.Hand
