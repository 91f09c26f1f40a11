/-
  Contracts of functions of the program: what each returns. Their conditions stand in them.
-/
import Derived.Test.YtobnbkoeocdhbaaGreatDoorHProductsb
namespace Go.Eng.YtobnbkoeocdhbaaGreatDoor
open Go.Proofs
set_option maxRecDepth 100000
set_option maxHeartbeats 0
set_option linter.unusedVariables false
set_option linter.unusedSimpArgs false
/-- the digit of a form at the place t of a line -/
def lD (a u v : Int) (t : Nat) : Int := (a + u * ((t : Int) / 3) + v * ((t : Int) % 3)) % 3
def nD (a u v t : Nat) : Nat := (a + u * (t / 3) + v * (t % 3)) % 3
theorem lD_nD (a u v : Int) (t : Nat) : lD a u v t = (nD (a % 3).toNat (u % 3).toNat (v % 3).toNat t : Nat) := by
  unfold lD nD
  have h1 : ((a % 3).toNat : Int) = a % 3 := Int.toNat_of_nonneg (by omega)
  have h2 : ((u % 3).toNat : Int) = u % 3 := Int.toNat_of_nonneg (by omega)
  have h3 : ((v % 3).toNat : Int) = v % 3 := Int.toNat_of_nonneg (by omega)
  push_cast
  rw [h1, h2, h3]
  have e1 : u % 3 = u - 3 * (u / 3) := by omega
  have e2 : v % 3 = v - 3 * (v / 3) := by omega
  rw [e1, e2, Int.sub_mul, Int.sub_mul, Int.mul_assoc, Int.mul_assoc]
  omega
def oneB (a u v : Nat) : Bool := (decide (u = 0) && decide (v = 0)) || (decide (sumF (fun t => (nD a u v t : Int)) 9 = 9) && decide (sumF (fun t => (nD a u v t : Int) * (nD a u v t : Int)) 9 = 15))
def pairB (a u v b w z : Nat) : Bool := decide ((u * z + 2 * (v * w)) % 3 = 0) || decide (sumF (fun t => (nD a u v t : Int) * (nD b w z t : Int)) 9 = 9)
theorem one_tab : ∀ a < 3, ∀ u < 3, ∀ v < 3, oneB a u v = true := by decide +kernel
theorem pair_tab : ∀ a < 3, ∀ u < 3, ∀ v < 3, ∀ b < 3, ∀ w < 3, ∀ z < 3, pairB a u v b w z = true := by decide +kernel
theorem one_dec (a : Nat) (ha : a < 3) (u : Nat) (hu : u < 3) (v : Nat) (hv : v < 3) (h : u ≠ 0 ∨ v ≠ 0) : sumF (fun t => (nD a u v t : Int)) 9 = 9 ∧ sumF (fun t => (nD a u v t : Int) * (nD a u v t : Int)) 9 = 15 := by
  have := one_tab a ha u hu v hv
  unfold oneB at this
  simp only [Bool.or_eq_true, Bool.and_eq_true, decide_eq_true_eq] at this
  rcases this with h1 | h1
  · omega
  · exact h1
theorem pair_dec (a : Nat) (ha : a < 3) (u : Nat) (hu : u < 3) (v : Nat) (hv : v < 3) (b : Nat) (hb : b < 3) (w : Nat) (hw : w < 3) (z : Nat) (hz : z < 3) (h : (u * z + 2 * (v * w)) % 3 ≠ 0) : sumF (fun t => (nD a u v t : Int) * (nD b w z t : Int)) 9 = 9 := by
  have := pair_tab a ha u hu v hv b hb w hw z hz
  unfold pairB at this
  simp only [Bool.or_eq_true, decide_eq_true_eq] at this
  rcases this with h1 | h1
  · exact absurd h1 h
  · exact h1
theorem m3_lt (x : Int) : (x % 3).toNat < 3 := by omega
theorem det_nat {u v w z : Int} (h : (u * z - v * w) % 3 ≠ 0) : ((u % 3).toNat * (z % 3).toNat + 2 * ((v % 3).toNat * (w % 3).toNat)) % 3 ≠ 0 := by
  intro h0
  apply h
  rw [Int.sub_emod, Int.mul_emod u z, Int.mul_emod v w]
  have h1 : ((u % 3).toNat : Int) = u % 3 := Int.toNat_of_nonneg (by omega)
  have h2 : ((v % 3).toNat : Int) = v % 3 := Int.toNat_of_nonneg (by omega)
  have h3 : ((w % 3).toNat : Int) = w % 3 := Int.toNat_of_nonneg (by omega)
  have h4 : ((z % 3).toNat : Int) = z % 3 := Int.toNat_of_nonneg (by omega)
  have h5 : (((u % 3).toNat * (z % 3).toNat + 2 * ((v % 3).toNat * (w % 3).toNat) : Nat) : Int) % 3 = 0 := by omega
  push_cast at h5
  rw [h1, h2, h3, h4] at h5
  omega
theorem one_sum (a u v : Int) (h : u % 3 ≠ 0 ∨ v % 3 ≠ 0) : sumF (lD a u v) 9 = 9 ∧ sumF (fun t => lD a u v t * lD a u v t) 9 = 15 := by
  have := one_dec _ (m3_lt a) _ (m3_lt u) _ (m3_lt v) (by omega)
  rw [show lD a u v = fun t => ((nD (a % 3).toNat (u % 3).toNat (v % 3).toNat t : Nat) : Int) from funext (lD_nD a u v)]
  exact this
theorem pair_sum (a u v b w z : Int) (h : (u * z - v * w) % 3 ≠ 0) : sumF (fun t => lD a u v t * lD b w z t) 9 = 9 := by
  have := pair_dec _ (m3_lt a) _ (m3_lt u) _ (m3_lt v) _ (m3_lt b) _ (m3_lt w) _ (m3_lt z) (det_nat h)
  rw [show lD a u v = fun t => ((nD (a % 3).toNat (u % 3).toNat (v % 3).toNat t : Nat) : Int) from funext (lD_nD a u v), show lD b w z = fun t => ((nD (b % 3).toNat (w % 3).toNat (z % 3).toNat t : Nat) : Int) from funext (lD_nD b w z)]
  exact this
theorem nz_of {u v w z : Int} (h : (u * z - v * w) % 3 ≠ 0) : (u % 3 ≠ 0 ∨ v % 3 ≠ 0) ∧ (w % 3 ≠ 0 ∨ z % 3 ≠ 0) := by
  rw [Int.sub_emod, Int.mul_emod u z, Int.mul_emod v w] at h
  refine ⟨Classical.byContradiction fun hc => h ?_, Classical.byContradiction fun hc => h ?_⟩
  · rw [show u % 3 = 0 by omega, show v % 3 = 0 by omega, Int.zero_mul, Int.zero_mul]; rfl
  · rw [show w % 3 = 0 by omega, show z % 3 = 0 by omega, Int.mul_zero, Int.mul_zero]; rfl
def val4 (p q r s : Int) : Int := 3 * (3 * (3 * (3 * 0 + p) + q) + r) + s + 1
theorem line_sums (f : Nat → Int) (a0 u0 v0 a1 u1 v1 a2 u2 v2 a3 u3 v3 : Int)
    (hf : ∀ t, t < 9 → f t = val4 (lD a0 u0 v0 t) (lD a1 u1 v1 t) (lD a2 u2 v2 t) (lD a3 u3 v3 t))
    (h10 : (u1 * v0 - v1 * u0) % 3 ≠ 0) (h20 : (u2 * v0 - v2 * u0) % 3 ≠ 0) (h21 : (u2 * v1 - v2 * u1) % 3 ≠ 0) (h30 : (u3 * v0 - v3 * u0) % 3 ≠ 0) (h31 : (u3 * v1 - v3 * u1) % 3 ≠ 0) (h32 : (u3 * v2 - v3 * u2) % 3 ≠ 0) :
    sumF f 9 = 369 ∧ sumF (fun t => f t * f t) 9 = 20049 := by
  obtain ⟨n1, n0⟩ := nz_of h10
  obtain ⟨n3, n2⟩ := nz_of h32
  have s0 := one_sum a0 u0 v0 n0
  have s1 := one_sum a1 u1 v1 n1
  have s2 := one_sum a2 u2 v2 n2
  have s3 := one_sum a3 u3 v3 n3
  have p10 := pair_sum a1 u1 v1 a0 u0 v0 h10
  have p20 := pair_sum a2 u2 v2 a0 u0 v0 h20
  have p21 := pair_sum a2 u2 v2 a1 u1 v1 h21
  have p30 := pair_sum a3 u3 v3 a0 u0 v0 h30
  have p31 := pair_sum a3 u3 v3 a1 u1 v1 h31
  have p32 := pair_sum a3 u3 v3 a2 u2 v2 h32
  clear h10 h20 h21 h30 h31 h32 n0 n1 n2 n3
  generalize lD a0 u0 v0 = d0 at *
  generalize lD a1 u1 v1 = d1 at *
  generalize lD a2 u2 v2 = d2 at *
  generalize lD a3 u3 v3 = d3 at *
  constructor
  · rw [sumF_congr (g := fun t => 27 * d0 t + 9 * d1 t + 3 * d2 t + d3 t + 1) fun t ht => by rw [hf t ht]; unfold val4; omega]
    rw [sumF_add, sumF_add, sumF_add, sumF_add, sumF_mul, sumF_mul, sumF_mul, sumF_const]
    omega
  · rw [sumF_congr (g := fun t => 1 + 54 * d0 t + 18 * d1 t + 6 * d2 t + 2 * d3 t + 729 * (d0 t * d0 t) + 81 * (d1 t * d1 t) + 9 * (d2 t * d2 t) + d3 t * d3 t + 486 * (d1 t * d0 t) + 162 * (d2 t * d0 t) + 54 * (d3 t * d0 t) + 54 * (d2 t * d1 t) + 18 * (d3 t * d1 t) + 6 * (d3 t * d2 t)) fun t ht => by rw [hf t ht]; unfold val4; grind]
    simp only [sumF_add, sumF_mul, sumF_const]
    omega
end Go.Eng.YtobnbkoeocdhbaaGreatDoor
namespace Go.Eng.YtobnbkoeocdhbaaGreatDoor
open Go.Proofs
set_option maxRecDepth 100000
set_option maxHeartbeats 0
set_option linter.unusedVariables false
set_option linter.unusedSimpArgs false
/-! when, first -/
/-! numbers in their range -/
def isNum (n : Int) : Bool := decide (-999999999 ≤ n) && decide (n ≤ 999999999)
/-! residues -/
/-! the numbers modulo 3 -/
end Go.Eng.YtobnbkoeocdhbaaGreatDoor
namespace Go.Eng.YtobnbkoeocdhbaaGreatDoor
open Go.Proofs
set_option maxRecDepth 100000
set_option maxHeartbeats 0
set_option linter.unusedVariables false
set_option linter.unusedSimpArgs false
/-- a matrix in its bounds, all of whose rows have some length -/
structure MatOK (m : List (List Int)) (w : Nat) : Prop where
  len : 1 ≤ m.length ∧ m.length ≤ 256
  wid : 1 ≤ w ∧ w ≤ 256
  rows : ∀ i, i < m.length → (m.getD i []).length = w
  nums : ∀ i, i < m.length → (m.getD i []).any (fun n => !isNum n) = false
abbrev Mat := Nat → Nat → Int
end Go.Eng.YtobnbkoeocdhbaaGreatDoor
namespace Go.Eng.YtobnbkoeocdhbaaGreatDoor
open Go.Proofs
set_option maxRecDepth 100000
set_option maxHeartbeats 0
set_option linter.unusedVariables false
set_option linter.unusedSimpArgs false
end Go.Eng.YtobnbkoeocdhbaaGreatDoor
namespace Go.Eng.YtobnbkoeocdhbaaGreatDoor
open Go.Proofs
set_option maxRecDepth 100000
set_option maxHeartbeats 0
set_option linter.unusedVariables false
set_option linter.unusedSimpArgs false
/-- the first row from n on that is not 0 in a column, or the number of rows -/
def findAt (M : Mat) (c n m : Nat) : Nat := match (List.range m).find? (fun r => decide (n ≤ r) && decide (M r c ≠ 0)) with
  | some r => r
  | none => m
def swapM (M : Mat) (n a : Nat) : Mat := fun r => if r = n then M a else if r = a then M n else M r
def scaleM (M : Mat) (n : Nat) (s : Int) : Mat := fun r => if r = n then (fun j => M n j * s % 3) else M r
def clearM (M : Mat) (n c : Nat) : Mat := fun r => if r = n then M n else (fun j => (M r j - M r c * M n j % 3) % 3)
structure ES where
  M : Mat
  piv : List Int
  heads : List Int
  odd : Bool
def stepE (m : Nat) (s : ES) (c : Nat) : ES :=
  if findAt s.M c s.piv.length m = m then s else
    { M := clearM (scaleM (swapM s.M s.piv.length (findAt s.M c s.piv.length m)) s.piv.length (swapM s.M s.piv.length (findAt s.M c s.piv.length m) s.piv.length c)) s.piv.length c
      piv := s.piv ++ [(c : Int)]
      heads := s.heads ++ [swapM s.M s.piv.length (findAt s.M c s.piv.length m) s.piv.length c]
      odd := s.odd != (decide ((s.piv.length : Int) ≠ (findAt s.M c s.piv.length m : Nat))) }
def elimE (m : Nat) (M : Mat) : Nat → ES
  | 0 => ⟨M, [], [], false⟩
  | c + 1 => stepE m (elimE m M c) c
end Go.Eng.YtobnbkoeocdhbaaGreatDoor
namespace Go.Eng.YtobnbkoeocdhbaaGreatDoor
open Go.Proofs
set_option maxRecDepth 100000
set_option maxHeartbeats 0
set_option linter.unusedVariables false
set_option linter.unusedSimpArgs false
theorem mod_mul (a x : Int) : a % 3 * x = a * x - 3 * (a / 3 * x) := by
  have h : a % 3 = a - 3 * (a / 3) := by omega
  rw [h, Int.sub_mul, Int.mul_assoc]
end Go.Eng.YtobnbkoeocdhbaaGreatDoor
namespace Go.Eng.YtobnbkoeocdhbaaGreatDoor
open Go.Proofs
set_option maxRecDepth 100000
set_option maxHeartbeats 0
set_option linter.unusedVariables false
set_option linter.unusedSimpArgs false
end Go.Eng.YtobnbkoeocdhbaaGreatDoor
namespace Go.Eng.YtobnbkoeocdhbaaGreatDoor
open Go.Proofs
set_option maxRecDepth 100000
set_option maxHeartbeats 0
set_option linter.unusedVariables false
set_option linter.unusedSimpArgs false
end Go.Eng.YtobnbkoeocdhbaaGreatDoor
namespace Go.Eng.YtobnbkoeocdhbaaGreatDoor
open Go.Proofs
set_option maxRecDepth 100000
set_option maxHeartbeats 0
set_option linter.unusedVariables false
set_option linter.unusedSimpArgs false
end Go.Eng.YtobnbkoeocdhbaaGreatDoor
namespace Go.Eng.YtobnbkoeocdhbaaGreatDoor
open Go.Proofs
set_option maxRecDepth 100000
set_option maxHeartbeats 0
set_option linter.unusedVariables false
set_option linter.unusedSimpArgs false
end Go.Eng.YtobnbkoeocdhbaaGreatDoor
namespace Go.Eng.YtobnbkoeocdhbaaGreatDoor
open Go.Proofs
set_option maxRecDepth 100000
set_option maxHeartbeats 0
set_option linter.unusedVariables false
set_option linter.unusedSimpArgs false
end Go.Eng.YtobnbkoeocdhbaaGreatDoor
namespace Go.Eng.YtobnbkoeocdhbaaGreatDoor
open Go.Proofs
set_option maxRecDepth 100000
set_option maxHeartbeats 0
set_option linter.unusedVariables false
set_option linter.unusedSimpArgs false
structure RX where
  i : Nat
  D : Mat
structure RI (m w : Nat) (M : Mat) (n c : Nat) (L : List Nat) (x : RX) : Prop where
  hi : x.i ≤ m
  hD : ∀ r, r < m → ∀ j, j < w → x.D (L.getD r 0) j = if r < x.i then clearM M n c r j else M r j
structure CX where
  c : Nat
  l : List Nat
  D : Mat
structure CI (m w : Nat) (M0 : Mat) (l0 : List Nat) (x : CX) : Prop where
  hc : x.c ≤ w
  hl : x.l.length = m
  hn : x.l.Nodup
  hi : ∀ b, b ∈ l0 → b ∈ x.l
  ho : ∀ r, r < m → x.l.getD r 0 ∈ l0
  hD : ∀ r, r < m → ∀ j, j < w → x.D (x.l.getD r 0) j = (elimE m M0 x.c).M r j
end Go.Eng.YtobnbkoeocdhbaaGreatDoor
namespace Go.Eng.YtobnbkoeocdhbaaGreatDoor
open Go.Proofs
set_option maxRecDepth 100000
set_option maxHeartbeats 0
set_option linter.unusedVariables false
set_option linter.unusedSimpArgs false
end Go.Eng.YtobnbkoeocdhbaaGreatDoor
namespace Go.Eng.YtobnbkoeocdhbaaGreatDoor
open Go.Proofs
set_option maxRecDepth 100000
set_option maxHeartbeats 0
set_option linter.unusedVariables false
set_option linter.unusedSimpArgs false
def ba01 (x0 x1 x2 x3 x4 x5 x6 x7 x8 x9 x10 x11 x12 x13 x14 x15 : Int) : Bool := decide ((x4 * x1 - x5 * x0) % 3 = 0)
def ba02 (x0 x1 x2 x3 x4 x5 x6 x7 x8 x9 x10 x11 x12 x13 x14 x15 : Int) : Bool := decide ((x8 * x1 - x9 * x0) % 3 = 0) || decide ((x8 * x5 - x9 * x4) % 3 = 0)
def ba03 (x0 x1 x2 x3 x4 x5 x6 x7 x8 x9 x10 x11 x12 x13 x14 x15 : Int) : Bool := decide ((x12 * x1 - x13 * x0) % 3 = 0) || decide ((x12 * x5 - x13 * x4) % 3 = 0) || decide ((x12 * x9 - x13 * x8) % 3 = 0)
def ba11 (x0 x1 x2 x3 x4 x5 x6 x7 x8 x9 x10 x11 x12 x13 x14 x15 : Int) : Bool := decide ((x6 * x3 - x7 * x2) % 3 = 0)
def ba12 (x0 x1 x2 x3 x4 x5 x6 x7 x8 x9 x10 x11 x12 x13 x14 x15 : Int) : Bool := decide ((x10 * x3 - x11 * x2) % 3 = 0) || decide ((x10 * x7 - x11 * x6) % 3 = 0)
def ba13 (x0 x1 x2 x3 x4 x5 x6 x7 x8 x9 x10 x11 x12 x13 x14 x15 : Int) : Bool := decide ((x14 * x3 - x15 * x2) % 3 = 0) || decide ((x14 * x7 - x15 * x6) % 3 = 0) || decide ((x14 * x11 - x15 * x10) % 3 = 0)
def ba21 (x0 x1 x2 x3 x4 x5 x6 x7 x8 x9 x10 x11 x12 x13 x14 x15 : Int) : Bool := decide (((x4 + x6) * (x1 + x3) - (x5 + x7) * (x0 + x2)) % 3 = 0)
def ba22 (x0 x1 x2 x3 x4 x5 x6 x7 x8 x9 x10 x11 x12 x13 x14 x15 : Int) : Bool := decide (((x8 + x10) * (x1 + x3) - (x9 + x11) * (x0 + x2)) % 3 = 0) || decide (((x8 + x10) * (x5 + x7) - (x9 + x11) * (x4 + x6)) % 3 = 0)
def ba23 (x0 x1 x2 x3 x4 x5 x6 x7 x8 x9 x10 x11 x12 x13 x14 x15 : Int) : Bool := decide (((x12 + x14) * (x1 + x3) - (x13 + x15) * (x0 + x2)) % 3 = 0) || decide (((x12 + x14) * (x5 + x7) - (x13 + x15) * (x4 + x6)) % 3 = 0) || decide (((x12 + x14) * (x9 + x11) - (x13 + x15) * (x8 + x10)) % 3 = 0)
def ba31 (x0 x1 x2 x3 x4 x5 x6 x7 x8 x9 x10 x11 x12 x13 x14 x15 : Int) : Bool := decide (((x4 - x6) * (x1 - x3) - (x5 - x7) * (x0 - x2)) % 3 = 0)
def ba32 (x0 x1 x2 x3 x4 x5 x6 x7 x8 x9 x10 x11 x12 x13 x14 x15 : Int) : Bool := decide (((x8 - x10) * (x1 - x3) - (x9 - x11) * (x0 - x2)) % 3 = 0) || decide (((x8 - x10) * (x5 - x7) - (x9 - x11) * (x4 - x6)) % 3 = 0)
def ba33 (x0 x1 x2 x3 x4 x5 x6 x7 x8 x9 x10 x11 x12 x13 x14 x15 : Int) : Bool := decide (((x12 - x14) * (x1 - x3) - (x13 - x15) * (x0 - x2)) % 3 = 0) || decide (((x12 - x14) * (x5 - x7) - (x13 - x15) * (x4 - x6)) % 3 = 0) || decide (((x12 - x14) * (x9 - x11) - (x13 - x15) * (x8 - x10)) % 3 = 0)
def ba0 (x0 x1 x2 x3 x4 x5 x6 x7 x8 x9 x10 x11 x12 x13 x14 x15 : Int) : Bool := ba01 x0 x1 x2 x3 x4 x5 x6 x7 x8 x9 x10 x11 x12 x13 x14 x15 || ba02 x0 x1 x2 x3 x4 x5 x6 x7 x8 x9 x10 x11 x12 x13 x14 x15 || ba03 x0 x1 x2 x3 x4 x5 x6 x7 x8 x9 x10 x11 x12 x13 x14 x15
def ba1 (x0 x1 x2 x3 x4 x5 x6 x7 x8 x9 x10 x11 x12 x13 x14 x15 : Int) : Bool := ba11 x0 x1 x2 x3 x4 x5 x6 x7 x8 x9 x10 x11 x12 x13 x14 x15 || ba12 x0 x1 x2 x3 x4 x5 x6 x7 x8 x9 x10 x11 x12 x13 x14 x15 || ba13 x0 x1 x2 x3 x4 x5 x6 x7 x8 x9 x10 x11 x12 x13 x14 x15
def ba2 (x0 x1 x2 x3 x4 x5 x6 x7 x8 x9 x10 x11 x12 x13 x14 x15 : Int) : Bool := ba21 x0 x1 x2 x3 x4 x5 x6 x7 x8 x9 x10 x11 x12 x13 x14 x15 || ba22 x0 x1 x2 x3 x4 x5 x6 x7 x8 x9 x10 x11 x12 x13 x14 x15 || ba23 x0 x1 x2 x3 x4 x5 x6 x7 x8 x9 x10 x11 x12 x13 x14 x15
def ba3 (x0 x1 x2 x3 x4 x5 x6 x7 x8 x9 x10 x11 x12 x13 x14 x15 : Int) : Bool := ba31 x0 x1 x2 x3 x4 x5 x6 x7 x8 x9 x10 x11 x12 x13 x14 x15 || ba32 x0 x1 x2 x3 x4 x5 x6 x7 x8 x9 x10 x11 x12 x13 x14 x15 || ba33 x0 x1 x2 x3 x4 x5 x6 x7 x8 x9 x10 x11 x12 x13 x14 x15
def admC (x0 x1 x2 x3 x4 x5 x6 x7 x8 x9 x10 x11 x12 x13 x14 x15 : Int) : Bool := !(ba0 x0 x1 x2 x3 x4 x5 x6 x7 x8 x9 x10 x11 x12 x13 x14 x15 || ba1 x0 x1 x2 x3 x4 x5 x6 x7 x8 x9 x10 x11 x12 x13 x14 x15 || ba2 x0 x1 x2 x3 x4 x5 x6 x7 x8 x9 x10 x11 x12 x13 x14 x15 || ba3 x0 x1 x2 x3 x4 x5 x6 x7 x8 x9 x10 x11 x12 x13 x14 x15)
end Go.Eng.YtobnbkoeocdhbaaGreatDoor
namespace Go.Eng.YtobnbkoeocdhbaaGreatDoor
open Go.Proofs
end Go.Eng.YtobnbkoeocdhbaaGreatDoor
namespace Go.Eng.YtobnbkoeocdhbaaGreatDoor
open Go.Proofs
set_option maxRecDepth 100000
set_option maxHeartbeats 0
set_option linter.unusedVariables false
set_option linter.unusedSimpArgs false
end Go.Eng.YtobnbkoeocdhbaaGreatDoor
namespace Go.Eng.YtobnbkoeocdhbaaGreatDoor
open Go.Proofs
set_option maxRecDepth 100000
set_option maxHeartbeats 0
set_option linter.unusedVariables false
set_option linter.unusedSimpArgs false
/-- the squares of numbers -/
def qsL (l : List Int) : List Int := l.map fun x => x * x
theorem qsL_get (l : List Int) (i : Nat) (h : i < l.length) : (qsL l).getD i 0 = l.getD i 0 * l.getD i 0 := by
  rw [List.getD_eq_getElem?_getD, List.getD_eq_getElem?_getD, qsL, List.getElem?_map, List.getElem?_eq_getElem h]; rfl
end Go.Eng.YtobnbkoeocdhbaaGreatDoor
namespace Go.Eng.YtobnbkoeocdhbaaGreatDoor
open Go.Proofs
set_option maxRecDepth 100000
set_option maxHeartbeats 0
set_option linter.unusedVariables false
set_option linter.unusedSimpArgs false
theorem dig_col (a b c d : Int) (i : Nat) (j : Int) : dig a b c d i j = lD (c * (j / 3) + d * (j % 3)) a b i := by
  unfold dig lD; congr 1; omega
theorem dig_d1 (a b c d : Int) (i : Nat) : dig a b c d i i = lD 0 (a + c) (b + d) i := by
  unfold dig lD; congr 1; rw [Int.add_mul, Int.add_mul]; omega
theorem dig_d2 (a b c d : Int) (i : Nat) (hi : i < 9) : dig a b c d i (9 - 1 - i : Nat) = lD (2 * c + 2 * d) (a - c) (b - d) i := by
  unfold dig lD; congr 1
  have h1 : ((9 - 1 - i : Nat) : Int) / 3 = 2 - (i : Int) / 3 := by omega
  have h2 : ((9 - 1 - i : Nat) : Int) % 3 = 2 - (i : Int) % 3 := by omega
  rw [h1, h2, Int.sub_mul, Int.sub_mul, Int.mul_sub, Int.mul_sub]; omega
theorem four_lines (x0 x1 x2 x3 x4 x5 x6 x7 x8 x9 x10 x11 x12 x13 x14 x15 : Int) (h : admC x0 x1 x2 x3 x4 x5 x6 x7 x8 x9 x10 x11 x12 x13 x14 x15 = true) (φ : (Nat → Int) → Int) (S : Int)
    (hφ : ∀ f a0 u0 v0 a1 u1 v1 a2 u2 v2 a3 u3 v3, (∀ t, t < 9 → f t = val4 (lD a0 u0 v0 t) (lD a1 u1 v1 t) (lD a2 u2 v2 t) (lD a3 u3 v3 t)) →
      (u1 * v0 - v1 * u0) % 3 ≠ 0 → (u2 * v0 - v2 * u0) % 3 ≠ 0 → (u2 * v1 - v2 * u1) % 3 ≠ 0 → (u3 * v0 - v3 * u0) % 3 ≠ 0 → (u3 * v1 - v3 * u1) % 3 ≠ 0 → (u3 * v2 - v3 * u2) % 3 ≠ 0 → φ f = S) :
    (∀ i, φ (fun j => terF x0 x1 x2 x3 x4 x5 x6 x7 x8 x9 x10 x11 x12 x13 x14 x15 i j) = S) ∧ (∀ j, φ (fun i => terF x0 x1 x2 x3 x4 x5 x6 x7 x8 x9 x10 x11 x12 x13 x14 x15 i j) = S) ∧
    φ (fun i => terF x0 x1 x2 x3 x4 x5 x6 x7 x8 x9 x10 x11 x12 x13 x14 x15 i i) = S ∧ φ (fun i => terF x0 x1 x2 x3 x4 x5 x6 x7 x8 x9 x10 x11 x12 x13 x14 x15 i (9 - 1 - i)) = S := by
  unfold admC ba0 ba1 ba2 ba3 ba01 ba02 ba03 ba11 ba12 ba13 ba21 ba22 ba23 ba31 ba32 ba33 at h
  simp only [Bool.not_eq_true', Bool.or_eq_false_iff, decide_eq_false_iff_not, and_assoc] at h
  obtain ⟨h0, h1, h2, h3, h4, h5, h6, h7, h8, h9, h10, h11, h12, h13, h14, h15, h16, h17, h18, h19, h20, h21, h22, h23⟩ := h
  refine ⟨fun i => ?_, fun j => ?_, ?_, ?_⟩
  · refine hφ _ (x0 * ((i : Int) / 3) + x1 * ((i : Int) % 3)) x2 x3 (x4 * ((i : Int) / 3) + x5 * ((i : Int) % 3)) x6 x7 (x8 * ((i : Int) / 3) + x9 * ((i : Int) % 3)) x10 x11 (x12 * ((i : Int) / 3) + x13 * ((i : Int) % 3)) x14 x15 (fun t ht => rfl) ?_ ?_ ?_ ?_ ?_ ?_ <;> assumption
  · refine hφ _ (x2 * ((j : Int) / 3) + x3 * ((j : Int) % 3)) x0 x1 (x6 * ((j : Int) / 3) + x7 * ((j : Int) % 3)) x4 x5 (x10 * ((j : Int) / 3) + x11 * ((j : Int) % 3)) x8 x9 (x14 * ((j : Int) / 3) + x15 * ((j : Int) % 3)) x12 x13 (fun t ht => ?_) ?_ ?_ ?_ ?_ ?_ ?_
    rotate_left
    all_goals first | assumption | skip
    unfold terF
    rw [dig_col, dig_col, dig_col, dig_col]; rfl
  · refine hφ _ 0 (x0 + x2) (x1 + x3) 0 (x4 + x6) (x5 + x7) 0 (x8 + x10) (x9 + x11) 0 (x12 + x14) (x13 + x15) (fun t ht => ?_) ?_ ?_ ?_ ?_ ?_ ?_
    rotate_left
    all_goals first | assumption | skip
    unfold terF
    rw [dig_d1, dig_d1, dig_d1, dig_d1]; rfl
  · refine hφ _ (2 * x2 + 2 * x3) (x0 - x2) (x1 - x3) (2 * x6 + 2 * x7) (x4 - x6) (x5 - x7) (2 * x10 + 2 * x11) (x8 - x10) (x9 - x11) (2 * x14 + 2 * x15) (x12 - x14) (x13 - x15) (fun t ht => ?_) ?_ ?_ ?_ ?_ ?_ ?_
    rotate_left
    all_goals first | assumption | skip
    unfold terF
    rw [dig_d2 _ _ _ _ t ht, dig_d2 _ _ _ _ t ht, dig_d2 _ _ _ _ t ht, dig_d2 _ _ _ _ t ht]; rfl
/-- the square is magic -/
theorem forms_magic (x0 x1 x2 x3 x4 x5 x6 x7 x8 x9 x10 x11 x12 x13 x14 x15 : Int) (h : admC x0 x1 x2 x3 x4 x5 x6 x7 x8 x9 x10 x11 x12 x13 x14 x15 = true) : badLine 9 2 (madeL 9 (terF x0 x1 x2 x3 x4 x5 x6 x7 x8 x9 x10 x11 x12 x13 x14 x15)) = none := by
  obtain ⟨hr, hc, h1, h2⟩ := four_lines x0 x1 x2 x3 x4 x5 x6 x7 x8 x9 x10 x11 x12 x13 x14 x15 h (fun f => sumF f 9) 369 fun f a0 u0 v0 a1 u1 v1 a2 u2 v2 a3 u3 v3 hf q1 q2 q3 q4 q5 q6 => (line_sums f _ _ _ _ _ _ _ _ _ _ _ _ hf q1 q2 q3 q4 q5 q6).1
  have e : constOf (9 : Nat) = 369 := rfl
  rw [good_iff (.inl (by omega)), e]
  refine GoodK.congr (f := terF x0 x1 x2 x3 x4 x5 x6 x7 x8 x9 x10 x11 x12 x13 x14 x15) ⟨fun _ i _ => hr i, fun _ j _ => hc j, fun _ => h1, fun _ => h2, fun h => absurd h (by omega), fun h => absurd h (by omega)⟩ fun i j hi hj => ?_
  rw [sqAt, madeL_get hi hj]
/-- one sum of squares -/
theorem forms_squares (x0 x1 x2 x3 x4 x5 x6 x7 x8 x9 x10 x11 x12 x13 x14 x15 : Int) (h : admC x0 x1 x2 x3 x4 x5 x6 x7 x8 x9 x10 x11 x12 x13 x14 x15 = true) (i : Nat) (hi : i < 20) : sumAt (qsL (madeL 9 (terF x0 x1 x2 x3 x4 x5 x6 x7 x8 x9 x10 x11 x12 x13 x14 x15))) (lineAt 9 i) 9 = 20049 := by
  obtain ⟨hr, hc, h1, h2⟩ := four_lines x0 x1 x2 x3 x4 x5 x6 x7 x8 x9 x10 x11 x12 x13 x14 x15 h (fun f => sumF (fun t => f t * f t) 9) 20049 fun f a0 u0 v0 a1 u1 v1 a2 u2 v2 a3 u3 v3 hf q1 q2 q3 q4 q5 q6 => (line_sums f _ _ _ _ _ _ _ _ _ _ _ _ hf q1 q2 q3 q4 q5 q6).2
  have hlen : (madeL 9 (terF x0 x1 x2 x3 x4 x5 x6 x7 x8 x9 x10 x11 x12 x13 x14 x15)).length = 81 := by simp [madeL]
  generalize hT : terF x0 x1 x2 x3 x4 x5 x6 x7 x8 x9 x10 x11 x12 x13 x14 x15 = T at *
  have hg : ∀ a b, a < 9 → b < 9 → (qsL (madeL 9 T)).getD (9 * a + b) 0 = T a b * T a b := fun a b ha hb => by
    rw [qsL_get _ _ (by omega), madeL_get ha hb]
  show lineSum 9 (qsL (madeL 9 T)) i = 20049
  by_cases g1 : i < 9
  · rw [ls_row 9 _ i g1, ← hr i]
    exact sumF_congr fun j hj => hg i j g1 hj
  by_cases g2 : i < 18
  · have := ls_col 9 (qsL (madeL 9 T)) (i - 9) (by omega)
    rw [show 9 + (i - 9) = i by omega] at this
    rw [this, ← hc (i - 9)]
    exact sumF_congr fun j hj => hg j (i - 9) hj (by omega)
  by_cases g3 : i = 18
  · have := ls_up 9 (qsL (madeL 9 T)) 0 (by omega)
    rw [show upI 9 0 = i by unfold upI; rw [if_pos rfl]; omega] at this
    rw [this, ← h1]
    exact sumF_congr fun j hj => by
      rw [show (j + 0) % 9 = j by omega]; exact hg j j hj hj
  · have := ls_dn 9 (qsL (madeL 9 T)) 8 (by omega)
    rw [show dnI 9 8 = i by unfold dnI; rw [if_pos (by omega)]; omega] at this
    rw [this, ← h2]
    exact sumF_congr fun j hj => by
      rw [show (8 + 9 - j) % 9 = 9 - 1 - j by omega]; exact hg j (9 - 1 - j) hj (by omega)
end Go.Eng.YtobnbkoeocdhbaaGreatDoor
namespace Go.Eng.YtobnbkoeocdhbaaGreatDoor
open Go.Proofs
set_option maxRecDepth 100000
set_option maxHeartbeats 0
set_option linter.unusedVariables false
set_option linter.unusedSimpArgs false
/-! which kinds a square has -/
theorem hasL_kdT (n : Int) (f : List Int) (k : ByteArray) : hasL (kdT n f 8) k = (kdB n f).any fun x => x.2 && decide (x.1 = k) := by
  unfold hasL kdT
  rw [List.take_of_length_le (show (kdB n f).length ≤ 8 from Nat.le_refl _), List.any_map, List.any_filter]
  rfl
theorem has_nor (n : Int) (f : List Int) : hasL (kdT n f 8) sNor = nrmB f := by rw [hasL_kdT]; simp [kdB]
theorem has_sem (n : Int) (f : List Int) : hasL (kdT n f 8) kSem1 = isB n kSem1 f := by rw [hasL_kdT]; simp [kdB]
theorem has_mag (n : Int) (f : List Int) : hasL (kdT n f 8) kMag1 = isB n kMag1 f := by rw [hasL_kdT]; simp [kdB]
theorem has_pan (n : Int) (f : List Int) : hasL (kdT n f 8) kPan1 = isB n kPan1 f := by rw [hasL_kdT]; simp [kdB]
theorem has_ass (n : Int) (f : List Int) : hasL (kdT n f 8) sAss = assB n f := by rw [hasL_kdT]; simp [kdB]
theorem has_mos (n : Int) (f : List Int) : hasL (kdT n f 8) sMos = mpB n f := by rw [hasL_kdT]; simp [kdB]
theorem has_bor (n : Int) (f : List Int) : hasL (kdT n f 8) sBor = brB n.toNat f := by rw [hasL_kdT]; simp [kdB]
theorem qs_psum (f : List Int) (l : List Int) (h : ∀ x ∈ l, 0 ≤ x ∧ x < f.length) : psum f 2 l = sumAt (qsL f) l l.length := by
  unfold psum psumT sumAt
  rw [List.take_length]
  suffices H : ∀ (l : List Int) (a : Int), (∀ x ∈ l, 0 ≤ x ∧ x < f.length) → l.foldl (fun s c => s + powI (f.getD c.toNat 0) 2) a = l.foldl (fun s c => s + (qsL f).getD c.toNat 0) a from H l 0 h
  intro l
  induction l with
  | nil => intro a _; rfl
  | cons x r ih =>
    intro a h
    have hx := h x (by simp)
    show List.foldl _ (a + powI (f.getD x.toNat 0) 2) r = List.foldl _ (a + (qsL f).getD x.toNat 0) r
    rw [qsL_get f x.toNat (by omega), ih _ (fun y hy => h y (by simp [hy]))]
    congr 1
    unfold powI
    rw [if_pos rfl, Int.one_mul]
theorem pwrB_of {n : Nat} (hn : 1 ≤ n ∧ n ≤ 12) {f : List Int} (hl : f.length = n * n) {c : Int} (h : ∀ i, i < 2 * n + 2 → sumAt (qsL f) (lineAt n i) n = c) : pwrB n 2 f = true := by
  have hk := lnsK_len hn kMag1
  have key : ∀ l ∈ lnsK n kMag1, psum f 2 l = c := fun l hm => by
    have hL := lnsK_line hn hm
    obtain ⟨i, hi, e⟩ := (lnsK_mem hn kMag1 l).1 hm
    have := h i hi
    rw [← e] at this
    rw [qs_psum f l (fun x hx => by have := hL.mem x hx; rw [hl]; simpa using this), hL.len, this]
  unfold pwrB
  rw [Int.toNat_natCast]
  refine List.all_eq_true.2 fun l hm => decide_eq_true ?_
  rw [key l hm, key _ (getD_mem' (by omega))]
theorem mulM_two {n : Int} {f : List Int} (h : pwrB n 2 f = true) : 2 ≤ mulM n f := by
  unfold mulM
  rw [if_pos h]
  split
  · split <;> omega
  · omega
/-! the examples -/
def ex3 : List Int := siaL 3
def ex4 : List Int := panM 4
theorem ex3_B : goodB 3 2 ex3 = true ∧ isB 3 kSem1 ex3 = true ∧ isB 3 kMag1 ex3 = true ∧ assB 3 ex3 = true ∧ isB 3 kPan1 ex3 = false := by decide +kernel
theorem ex4_B : isB 4 kPan1 ex4 = true ∧ mpB 4 ex4 = true := by decide +kernel
theorem bim_eq : madeL 9 bimF = madeL 9 (terF 0 1 1 0 2 0 0 1 1 2 1 1 2 2 1 2) := rfl
theorem bim_adm : admC 0 1 1 0 2 0 0 1 1 2 1 1 2 2 1 2 = true := by decide
theorem ter_len (x0 x1 x2 x3 x4 x5 x6 x7 x8 x9 x10 x11 x12 x13 x14 x15 : Int) : (madeL 9 (terF x0 x1 x2 x3 x4 x5 x6 x7 x8 x9 x10 x11 x12 x13 x14 x15)).length = 81 := by simp [madeL]
theorem ter_pwr (x0 x1 x2 x3 x4 x5 x6 x7 x8 x9 x10 x11 x12 x13 x14 x15 : Int) (h : admC x0 x1 x2 x3 x4 x5 x6 x7 x8 x9 x10 x11 x12 x13 x14 x15 = true) : pwrB 9 2 (madeL 9 (terF x0 x1 x2 x3 x4 x5 x6 x7 x8 x9 x10 x11 x12 x13 x14 x15)) = true :=
  pwrB_of (n := 9) (by omega) (ter_len x0 x1 x2 x3 x4 x5 x6 x7 x8 x9 x10 x11 x12 x13 x14 x15) (c := 20049) fun i hi => forms_squares x0 x1 x2 x3 x4 x5 x6 x7 x8 x9 x10 x11 x12 x13 x14 x15 h i hi
theorem ter_isB (x0 x1 x2 x3 x4 x5 x6 x7 x8 x9 x10 x11 x12 x13 x14 x15 : Int) (h : admC x0 x1 x2 x3 x4 x5 x6 x7 x8 x9 x10 x11 x12 x13 x14 x15 = true) : isB 9 kMag1 (madeL 9 (terF x0 x1 x2 x3 x4 x5 x6 x7 x8 x9 x10 x11 x12 x13 x14 x15)) = true :=
  isB_of (n := 9) (by omega) (g := 2) (by decide) (forms_magic x0 x1 x2 x3 x4 x5 x6 x7 x8 x9 x10 x11 x12 x13 x14 x15 h)
theorem ex3_ok : FigOK 3 ex3 := ⟨by omega, by decide +kernel, by decide +kernel⟩
theorem ex4_ok : FigOK 4 ex4 := ⟨by omega, by decide +kernel, by decide +kernel⟩
theorem bim_bd : ∀ x ∈ madeL 9 bimF, -100 ≤ x ∧ x ≤ 100 := by decide +kernel
theorem bim_ok : FigOK 9 (madeL 9 bimF) := ⟨by omega, by rw [bim_eq, ter_len]; rfl, fun x hx => by have := bim_bd x hx; omega⟩
theorem sia3_spec : PSpec Tryz.prog 27 [.int .i64 3] (.tup [gridV 3 3 ex3, .int .i64 0]) := siamese_spec 3
theorem pan4_spec : PSpec Tryz.prog 28 [.int .i64 4] (.tup [gridV 4 4 ex4, .int .i64 0]) := pandiagonal_spec 4
theorem mmB_spec : PSpec Tryz.prog 24 [gridV 9 9 (madeL 9 bimF)] (.tup [.int .i64 (mulM 9 (madeL 9 bimF)), .int .i64 0]) := by
  have := mm_spec 9 (madeL 9 bimF) bim_ok bim_bd
  rw [if_pos (by rw [bim_eq]; exact ter_isB _ _ _ _ _ _ _ _ _ _ _ _ _ _ _ _ bim_adm)] at this
  exact this
theorem has3a : PSpec Tryz.prog 9 [gridV 3 3 ex3, .isl (.strs [sNor, kSem1, kMag1, sAss]) .none] (.bool true) := by
  have := has_spec 3 ex3 [sNor, kSem1, kMag1, sAss] ex3_ok (by decide)
  obtain ⟨h1, h2, h3, h4, h5⟩ := ex3_B
  rw [show hasB 3 ex3 [sNor, kSem1, kMag1, sAss] = true from by
    unfold hasB
    simp only [List.all_cons, List.all_nil, has_nor, has_sem, has_mag, has_ass, h2, h3, h4, nrmB_norm (goodB_ok h1).norm, Bool.and_self]] at this
  exact pspec_sup this sup_b
theorem has3b : PSpec Tryz.prog 9 [gridV 3 3 ex3, .isl (.strs [kPan1]) .none] (.bool false) := by
  have := has_spec 3 ex3 [kPan1] ex3_ok (by decide)
  obtain ⟨h1, h2, h3, h4, h5⟩ := ex3_B
  rw [show hasB 3 ex3 [kPan1] = false from by
    unfold hasB
    simp only [List.all_cons, List.all_nil, has_pan, h5, Bool.and_self, Bool.false_and]] at this
  exact pspec_sup this sup_b
theorem has4 : PSpec Tryz.prog 9 [gridV 4 4 ex4, .isl (.strs [kPan1, sMos]) .none] (.bool true) := by
  have := has_spec 4 ex4 [kPan1, sMos] ex4_ok (by decide)
  obtain ⟨h1, h2⟩ := ex4_B
  rw [show hasB 4 ex4 [kPan1, sMos] = true from by
    unfold hasB
    simp only [List.all_cons, List.all_nil, has_pan, has_mos, h1, h2, Bool.and_self]] at this
  exact pspec_sup this sup_b
def exHasP : PSp := fun xs K => match xs with
  | [g, .isl (.strs ks) .none] => (VC (g = gridV 3 3 ex3 ∧ ks = [sNor, kSem1, kMag1, sAss]) ∧ K (.bool true)) ∨ (VC (g = gridV 3 3 ex3 ∧ ks = [kPan1]) ∧ K (.bool false)) ∨ (VC (g = gridV 4 4 ex4 ∧ ks = [kPan1, sMos]) ∧ K (.bool true))
  | _ => False
theorem exHas_ok : POK Tryz.prog 9 exHasP := by
  intro xs K h
  unfold exHasP at h
  split at h
  · rcases h with ⟨⟨rfl, rfl⟩, h⟩ | ⟨⟨rfl, rfl⟩, h⟩ | ⟨⟨rfl, rfl⟩, h⟩
    · exact ⟨_, h, has3a⟩
    · exact ⟨_, h, has3b⟩
    · exact ⟨_, h, has4⟩
  · exact h.elim
noncomputable def cpEx : CPT := cpAdd 27 (pureCC (atC True [.int .i64 3] (.tup [gridV 3 3 ex3, .int .i64 0]))) (cpAdd 28 (pureCC (atC True [.int .i64 4] (.tup [gridV 4 4 ex4, .int .i64 0]))) (cpAdd 29 (pureCC bimagicP) (cpAdd 24 (pureCC (atC True [gridV 9 9 (madeL 9 bimF)] (.tup [.int .i64 (mulM 9 (madeL 9 bimF)), .int .i64 0]))) (cpAdd 9 (pureCC exHasP) noC))))
theorem cpEx_ok : CPOK Tryz.prog cpEx := cpAdd_ok (pureCC_ok (atC_ok fun _ => sia3_spec)) (cpAdd_ok (pureCC_ok (atC_ok fun _ => pan4_spec)) (cpAdd_ok (pureCC_ok bimagic_ok) (cpAdd_ok (pureCC_ok (atC_ok fun _ => mmB_spec)) (cpAdd_ok (pureCC_ok exHas_ok) noC_ok))))
theorem loom_spec : PSpec Tryz.prog 7 [] (.bool true) := by
  have hm : 2 ≤ mulM 9 (madeL 9 bimF) := mulM_two (by rw [bim_eq]; exact ter_pwr _ _ _ _ _ _ _ _ _ _ _ _ _ _ _ _ bim_adm)
  refine pspec_of (md := 1) (rf := []) mixed tabOK cpEx_ok Tryz.func7 (by rfl) (by rfl) (by rfl) ?_
  repeat' ((conv => whnf); first | refine And.intro ?_ ?_ | with_reducible exact VC.mk rfl | exact Ok.mk | exact True.intro | refine Nx.mk ?_ | refine Fin.mk ?_ | intro _)
  all_goals ((try refine VC.mk ?_); (try simp only [CL.ncell, CL.cnt, vq] at *); (try omega))
  · conv => whnf
    refine .inl ⟨⟨rfl, rfl⟩, ?_⟩
    repeat' ((conv => whnf); first | refine And.intro ?_ ?_ | with_reducible exact VC.mk rfl | exact Ok.mk | exact True.intro | refine Nx.mk ?_ | refine Fin.mk ?_ | (intro hq; (try (exact absurd hq (by decide)))))
    all_goals ((try refine VC.mk ?_); (try simp only [CL.ncell, CL.cnt, vq] at *); (try omega))
    conv => whnf
    refine .inr (.inl ⟨⟨rfl, rfl⟩, ?_⟩)
    repeat' ((conv => whnf); first | refine And.intro ?_ ?_ | with_reducible exact VC.mk rfl | exact Ok.mk | exact True.intro | refine Nx.mk ?_ | refine Fin.mk ?_ | (intro hq; (try (exact absurd hq (by decide)))))
    all_goals ((try refine VC.mk ?_); (try simp only [CL.ncell, CL.cnt, vq] at *); (try omega))
    conv => whnf
    refine .inr (.inr ⟨⟨rfl, rfl⟩, ?_⟩)
    repeat' ((conv => whnf); first | refine And.intro ?_ ?_ | with_reducible exact VC.mk rfl | exact Ok.mk | exact True.intro | refine Nx.mk ?_ | refine Fin.mk ?_ | (intro hq; (try (exact absurd hq (by decide)))))
    all_goals ((try refine VC.mk ?_); (try simp only [CL.ncell, CL.cnt, vq] at *); (try omega))
    rw [decide_eq_true hm]
    exact sup_b
def loomP : PSp := fun xs K => match xs with
  | [] => VC (True) ∧ K (.bool true)
  | _ => False
theorem loom_ok : POK Tryz.prog 7 loomP := by
  intro xs K h
  unfold loomP at h
  split at h
  · exact ⟨_, h.2, loom_spec⟩
  · exact h.elim
end Go.Eng.YtobnbkoeocdhbaaGreatDoor
namespace Go.Eng.YtobnbkoeocdhbaaGreatDoor
open Go.Proofs
set_option maxRecDepth 100000
set_option maxHeartbeats 0
set_option linter.unusedVariables false
set_option linter.unusedSimpArgs false
theorem has_one (n : Int) (f : List Int) (k : ByteArray) : hasB n f [k] = hasL (kdT n f 8) k := by
  unfold hasB; simp only [List.all_cons, List.all_nil, Bool.and_true]
theorem nrmB_figs {n : Nat} {f : List Int} (hn : 1 ≤ n ∧ n ≤ 12) (hl : f.length = n * n) (hf : isNorm f = true) : FigOK n f := by
  refine ⟨by omega, by rw [hl]; push_cast; rfl, fun x hx => ?_⟩
  obtain ⟨i, hi, rfl⟩ := List.getElem_of_mem hx
  have h2 := ((isNorm_iff _).1 hf).1 i hi
  have h3 : n * n ≤ 12 * 12 := Nat.mul_le_mul (by omega) (by omega)
  rw [getD_at hi, hl] at h2
  omega
/-- what the law's loop wants -/
theorem prod_has {m n : Nat} (hm : 1 ≤ m) (hn : 1 ≤ n) (hmn : m * n ≤ 12) {a b : List Int} (la : a.length = m * m) (lb : b.length = n * n) (na : isNorm a = true) (nb : isNorm b = true) :
    ∀ k ∈ [sNor, kSem1, kMag1, kPan1, sAss], hasB m a [k] = true → hasB n b [k] = true → hasB (m * n : Nat) (prodL m n a b) [k] = true := by
  intro k hk
  rw [has_one, has_one, has_one]
  simp only [List.mem_cons, List.not_mem_nil, or_false] at hk
  rcases hk with rfl | rfl | rfl | rfl | rfl
  · rw [has_nor, has_nor, has_nor]; exact fun _ _ => nrmB_norm (prod_norm hm hn la lb na nb)
  · rw [has_sem, has_sem, has_sem]; exact prod_isB hm hn hmn kind_sem la lb na nb
  · rw [has_mag, has_mag, has_mag]; exact prod_isB hm hn hmn kind_mag la lb na nb
  · rw [has_pan, has_pan, has_pan]; exact prod_isB hm hn hmn kind_pan la lb na nb
  · rw [has_ass, has_ass, has_ass]; exact prod_ass hm hn hmn la lb na nb
theorem products_bad (ra ca : Int) (a : List Int) (rb cb : Int) (b : List Int) (h : normErr ra ca a ≠ 0 ∨ normErr rb cb b ≠ 0 ∨ 12 < ra * rb) : PSpec Tryz.prog 3 [gridV ra ca a, gridV rb cb b] (.bp true) := by
  have b1 : normErr ra ca a = 0 → 1 ≤ ra ∧ ra ≤ 16 := fun e => by have := normG e; have := this.er; have := (normG e).en; omega
  have b2 : normErr rb cb b = 0 → 1 ≤ rb ∧ rb ≤ 16 := fun e => by have := normG e; have := this.er; have := (normG e).en; omega
  have b3 : normErr ra ca a = 0 → normErr rb cb b = 0 → 0 ≤ ra * rb ∧ ra * rb ≤ 256 := fun e1 e2 => mul_bd (A := 16) (B := 16) ⟨by have := b1 e1; omega, (b1 e1).2⟩ ⟨by have := b2 e2; omega, (b2 e2).2⟩
  have hC := cpAdd_ok (pureCC_ok CheckNormal_ok) (cpAdd_ok (pureCC_ok loom_ok) noC_ok)
  refine pspec_of (md := 1) (rf := []) mixed tabOK hC Tryz.func3 (by rfl) (by rfl) (by rfl) ?_
  repeat' ((conv => whnf); first | refine And.intro ?_ ?_ | with_reducible exact VC.mk rfl | exact Ok.mk | exact True.intro | refine Nx.mk ?_ | refine Fin.mk ?_ | (intro hq; (try simp only [decide_eq_true_eq, decide_eq_false_iff_not, Bool.not_eq_true, Bool.not_eq_false, Bool.not_eq_true', Bool.not_eq_false', Bool.not_true, Bool.not_false, ite_true, ite_false] at hq); (try (exfalso; first | exact absurd hq (by decide) | omega))))
  all_goals first | exact ⟨trivial⟩ | exact sup_true | (have b1 := b1 (Classical.not_not.1 ‹_›); have b2 := b2 (Classical.not_not.1 ‹_›); have b3 := b3 (Classical.not_not.1 ‹_›) (Classical.not_not.1 ‹_›); first | omega | (exfalso; omega)) | skip
theorem products_good (m n : Nat) (a b : List Int) (ha : normErr m m a = 0) (hb : normErr n n b = 0) (h12 : m * n ≤ 12) : PSpec Tryz.prog 3 [gridV m m a, gridV n n b] (.bp true) := by
  obtain ⟨_, _, a3, a4, a5⟩ := normG ha
  obtain ⟨_, _, b3, b4, b5⟩ := normG hb
  simp only [Int.toNat_natCast] at a3 a4 b3 b4
  have na := (normErr_zero ha).2
  have nb := (normErr_zero hb).2
  have e : (m : Int) * n = ((m * n : Nat) : Int) := by push_cast; rfl
  have m12 : m ≤ m * n := Nat.le_mul_of_pos_right m (by omega)
  have n12 : n ≤ m * n := Nat.le_mul_of_pos_left n (by omega)
  have hP := product_good m n a b ha hb (by omega)
  have hH := prod_has (by omega) (by omega) h12 a4 b4 na nb
  have Fa := nrmB_figs (n := m) (by omega) a4 na
  have Fb := nrmB_figs (n := n) (by omega) b4 nb
  have Fp := nrmB_figs (n := m * n) (by omega) (prodL_len m n a b) (prod_norm (by omega) (by omega) a4 b4 na nb)
  have hB : 3 ≤ m → m ≤ 4 → hasB m a [kMag1] = true → borderV m m a = okGrid ((m : Int) + 2) ((m : Int) + 2) (bordL (m + 2) a) ∧ FigOK ((m : Int) + 2) (bordL (m + 2) a) ∧ hasB ((m : Int) + 2) (bordL (m + 2) a) [sNor, kMag1, sBor] = true := by
    intro h3 h4 hm
    rw [has_one, has_mag] at hm
    obtain ⟨q1, q2, q3, q4⟩ := bord_br ⟨h3, h4⟩ a4 na hm
    refine ⟨?_, q1, ?_⟩
    · have hbad := (isB_good (by omega) (kind_mag.cnt m) (kind_mag.two m) a4 na).1 hm
      have hlo : linesOk m 2 a = true := by
        unfold linesOk
        unfold badLine at hbad
        rw [List.find?_eq_none] at hbad
        exact List.all_eq_true.2 fun i hi => by simpa using hbad i hi
      unfold borderV
      rw [if_neg (by rw [ha]; decide), Int.toNat_natCast, if_neg (by rw [hlo]; decide), if_neg (by omega)]
    · unfold hasB
      simp only [List.all_cons, List.all_nil, has_nor, has_mag, has_bor, Bool.and_true, q2, q3, Bool.true_and]
      have : ((m : Int) + 2).toNat = m + 2 := by omega
      rw [this]; exact q4
  have hBs := border_spec m m a
  generalize prodL m n a b = p at *
  generalize bordL (m + 2) a = g at *
  have hC := cpAdd_ok (pureCC_ok CheckNormal_ok) (cpAdd_ok (pureCC_ok loom_ok) (cpAdd_ok (pureCC_ok (atC_ok (C := True) fun _ => hP)) (cpAdd_ok (pureCC_ok has_ok) (cpAdd_ok (pureCC_ok (atC_ok (C := True) fun _ => hBs)) noC_ok))))
  clear hP hBs
  refine pspec_of (md := 1) (rf := []) mixed tabOK hC Tryz.func3 (by rfl) (by rfl) (by rfl) ?_
  repeat' ((conv => whnf); first | refine And.intro ?_ ?_ | with_reducible exact VC.mk rfl | exact Ok.mk | exact True.intro | refine Nx.mk ?_ | refine Fin.mk ?_ | (intro hq; (try simp only [decide_eq_true_eq, decide_eq_false_iff_not, Bool.not_eq_true, Bool.not_eq_false, Bool.not_eq_true', Bool.not_eq_false', Bool.not_true, Bool.not_false, ite_true, ite_false] at hq); (try (exfalso; first | exact absurd hq (by decide) | omega))))
  all_goals first | exact ⟨trivial⟩ | exact sup_true | (rw [e]; omega) | (exfalso; omega) | skip
  conv => whnf
  clear ha hb a3 a5 b3 b5 na nb
  obtain ⟨L, hL⟩ : ∃ L, ([⟨#[110, 111, 114, 109, 97, 108]⟩, ⟨#[115, 101, 109, 105, 109, 97, 103, 105, 99]⟩, ⟨#[109, 97, 103, 105, 99]⟩, ⟨#[112, 97, 110, 100, 105, 97, 103, 111, 110, 97, 108]⟩, ⟨#[97, 115, 115, 111, 99, 105, 97, 116, 105, 118, 101]⟩] : List ByteArray) = L := ⟨_, rfl⟩
  simp only [hL]
  have hK : ∀ i, i < 5 → hasB m a [L.getD i .empty] = true → hasB n b [L.getD i .empty] = true → hasB (m * n : Nat) p [L.getD i .empty] = true := by
    intro i hi
    refine hH _ ?_
    rw [← hL, List.getD_eq_getElem?_getD, List.getElem?_eq_getElem (by simpa using hi)]
    exact List.getElem_mem (l := [sNor, kSem1, kMag1, kPan1, sAss]) (by simpa using hi)
  have hn5 : L.length = 5 := by rw [← hL]; rfl
  clear hL hH
  refine loop_of (X := Nat) (fun i => i ≤ 5) (fun i => [(37, .int .i64 i), (8, .any), (27, .any), (30, .any)]) (fun i => []) (fun i => 5 - i) 0 ⟨anyB_ok, mixed, tabOK, hC, noY_ok⟩ (by rfl) (by omega) ?_ ?_
  · repeat' ((conv => whnf); first | refine And.intro ?_ ?_ | with_reducible exact VC.mk rfl | exact Ok.mk | exact True.intro | refine Nx.mk ?_ | refine Fin.mk ?_ | intro _)
    all_goals ((try refine VC.mk ?_); (try simp only [CL.ncell, CL.cnt, vq] at *); (try omega))
  intro i hi
  by_cases hlt : i < 5
  · have hk := hK i hlt
    repeat' ((conv => whnf); first | refine And.intro ?_ ?_ | with_reducible exact VC.mk rfl | exact Ok.mk | exact True.intro | refine Nx.mk ?_ | refine Fin.mk ?_ | (intro hq; (try simp only [decide_eq_true_eq, decide_eq_false_iff_not, Bool.not_eq_true, Bool.not_eq_false, Bool.not_eq_true', Bool.not_eq_false', Bool.not_true, Bool.not_false, ite_true, ite_false] at hq); (try (exfalso; first | exact absurd hq (by decide) | omega))))
    all_goals first | exact ⟨trivial⟩ | exact ⟨⟨⟨Fa, rfl⟩, (show 1 ≤ 100 by decide)⟩⟩ | exact ⟨⟨⟨Fb, rfl⟩, (show 1 ≤ 100 by decide)⟩⟩ | exact ⟨⟨⟨Fp, rfl⟩, (show 1 ≤ 100 by decide)⟩⟩ | omega | (simp only [CL.ncell]; omega) | skip
    all_goals first
      | (exfalso; rename_i h1 h2; exact absurd (show true = false from (hk h1 h2).symm.trans hq) (by decide))
      | (refine ⟨i + 1, [], ⟨by omega, by omega⟩, ?_⟩; repeat' ((conv => whnf); first | refine And.intro ?_ ?_ | with_reducible exact VC.mk rfl | exact Ok.mk | exact True.intro | refine Nx.mk ?_ | refine Fin.mk ?_ | intro _); all_goals ((try refine VC.mk ?_); (try simp only [CL.ncell, CL.cnt, vq] at *); (try omega)))
  · repeat' ((conv => whnf); first | refine And.intro ?_ ?_ | with_reducible exact VC.mk rfl | exact Ok.mk | exact True.intro | refine Nx.mk ?_ | refine Fin.mk ?_ | (intro hq; (try simp only [decide_eq_true_eq, decide_eq_false_iff_not, Bool.not_eq_true, Bool.not_eq_false, Bool.not_eq_true', Bool.not_eq_false', Bool.not_true, Bool.not_false, ite_true, ite_false] at hq); (try (exfalso; first | exact absurd hq (by decide) | omega))))
    all_goals first | exact ⟨trivial⟩ | omega | exact ⟨⟨⟨Fa, rfl⟩, (show 1 ≤ 100 by decide)⟩⟩ | exact sup_true | skip
    obtain ⟨q1, Fg, q2⟩ := hB (by omega) (by omega) hq
    rw [q1]
    repeat' ((conv => whnf); first | refine And.intro ?_ ?_ | with_reducible exact VC.mk rfl | exact Ok.mk | exact True.intro | refine Nx.mk ?_ | refine Fin.mk ?_ | (intro hq; (try simp only [decide_eq_true_eq, decide_eq_false_iff_not, Bool.not_eq_true, Bool.not_eq_false, Bool.not_eq_true', Bool.not_eq_false', Bool.not_true, Bool.not_false, ite_true, ite_false] at hq); (try (exfalso; first | exact absurd hq (by decide) | omega))))
    all_goals first | exact ⟨trivial⟩ | omega | exact ⟨⟨⟨Fg, rfl⟩, (show 3 ≤ 100 by decide)⟩⟩ | exact sup_true | (exfalso; exact absurd (show true = false from q2.symm.trans hq) (by decide)) | skip
theorem products_law (ra ca : Int) (a : List Int) (rb cb : Int) (b : List Int) : PSpec Tryz.prog 3 [gridV ra ca a, gridV rb cb b] (.bp true) := by
  by_cases h : normErr ra ca a ≠ 0 ∨ normErr rb cb b ≠ 0 ∨ 12 < ra * rb
  · exact products_bad ra ca a rb cb b h
  · have h1 : normErr ra ca a = 0 := Classical.byContradiction fun e => h (.inl e)
    have h2 : normErr rb cb b = 0 := Classical.byContradiction fun e => h (.inr (.inl e))
    have h3 : ¬ 12 < ra * rb := fun e => h (.inr (.inr e))
    obtain ⟨g1, g2, g3, _, _⟩ := normG h1
    obtain ⟨k1, k2, k3, _, _⟩ := normG h2
    rw [g1, g2] at h1 ⊢
    rw [k1, k2] at h2 ⊢
    refine products_good _ _ a b h1 h2 ?_
    rw [g1, k1] at h3
    have : ((ra.toNat * rb.toNat : Nat) : Int) = (ra.toNat : Int) * rb.toNat := by push_cast; rfl
    omega
end Go.Eng.YtobnbkoeocdhbaaGreatDoor
