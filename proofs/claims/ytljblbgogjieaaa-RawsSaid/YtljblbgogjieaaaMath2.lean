/- Words: how many bits, products of two words, a double word by a word. No Go and no program here. -/
import Derived.Test.YtljblbgogjieaaaMath1
namespace Go.Proofs.Ytljblbgogjieaaa

theorem and32 (x : Nat) : x &&& 4294967295 = x % 4294967296 := Nat.and_two_pow_sub_one_eq_mod x 32
theorem mul64_hi (x y : Nat) (hx : x < 18446744073709551616) (hy : y < 18446744073709551616) :
    (((x / 2 ^ 32) * (y / 2 ^ 32) % 18446744073709551616 + (((x / 2 ^ 32) * (y &&& 4294967295) % 18446744073709551616 + ((x &&& 4294967295) * (y &&& 4294967295) % 18446744073709551616) / 2 ^ 32) % 18446744073709551616) / 2 ^ 32) % 18446744073709551616 +
      (((((x / 2 ^ 32) * (y &&& 4294967295) % 18446744073709551616 + ((x &&& 4294967295) * (y &&& 4294967295) % 18446744073709551616) / 2 ^ 32) % 18446744073709551616 &&& 4294967295) + (x &&& 4294967295) * (y / 2 ^ 32) % 18446744073709551616) % 18446744073709551616) / 2 ^ 32) % 18446744073709551616
    = x * y / 18446744073709551616 := by
  simp only [and32, show (2 : Nat) ^ 32 = 4294967296 from rfl]
  have hx2 : x = x / 4294967296 * 4294967296 + x % 4294967296 := by omega
  have hy2 : y = y / 4294967296 * 4294967296 + y % 4294967296 := by omega
  have a1 : x / 4294967296 < 4294967296 := by omega
  have b1 : y / 4294967296 < 4294967296 := by omega
  have a0 : x % 4294967296 < 4294967296 := by omega
  have b0 : y % 4294967296 < 4294967296 := by omega
  have hxy : x * y = (x / 4294967296) * (y / 4294967296) * 18446744073709551616 + ((x / 4294967296) * (y % 4294967296) + (x % 4294967296) * (y / 4294967296)) * 4294967296 + (x % 4294967296) * (y % 4294967296) := by
    conv => lhs; rw [hx2, hy2]
    grind
  rw [hxy]
  generalize x / 4294967296 = p at *
  generalize x % 4294967296 = q at *
  generalize y / 4294967296 = r at *
  generalize y % 4294967296 = s at *
  have h1 : p * r ≤ 4294967295 * 4294967295 := Nat.mul_le_mul (by omega) (by omega)
  have h2 : p * s ≤ 4294967295 * 4294967295 := Nat.mul_le_mul (by omega) (by omega)
  have h3 : q * r ≤ 4294967295 * 4294967295 := Nat.mul_le_mul (by omega) (by omega)
  have h4 : q * s ≤ 4294967295 * 4294967295 := Nat.mul_le_mul (by omega) (by omega)
  generalize p * r = A at *
  generalize p * s = B at *
  generalize q * r = D at *
  generalize q * s = E at *
  clear hxy hx2 hy2
  omega

theorem blen_shr {x k : Nat} (h : 2 ^ k ≤ x) : blen (x / 2 ^ k) + k = blen x := by
  have h0 : x ≠ 0 := by have := Nat.pow_pos (n := k) (a := 2) (by decide); omega
  have h1 : x / 2 ^ k ≠ 0 := by
    have := Nat.div_pos h (Nat.pow_pos (by decide)); omega
  have h2 := lt_blen (x / 2 ^ k)
  have h3 := blen_pos h1
  have h4 := blen_ne h1
  symm
  apply blen_eq
  · rw [Nat.pow_add]
    rw [Nat.div_lt_iff_lt_mul (Nat.pow_pos (by decide))] at h2; exact h2
  · right
    rw [show blen (x / 2 ^ k) + k - 1 = blen (x / 2 ^ k) - 1 + k by omega, Nat.pow_add]
    exact Nat.le_trans (Nat.mul_le_mul_right _ h3) (Nat.div_mul_le_self _ _)

/-! ### A double word by a word, in halves -/
theorem half_init (hi l y : Nat) (hy : 9223372036854775808 ≤ y) (hy2 : y < 18446744073709551616) (hh : hi < y) (hl : l < 4294967296) :
    hi / (y / 2 ^ 32) * (y / 2 ^ 32) + hi % (y / 2 ^ 32) = hi ∧ (hi * 4294967296 + l) / y ≤ hi / (y / 2 ^ 32) ∧ hi % (y / 2 ^ 32) < 4294967296 := by
  have e : (2 : Nat) ^ 32 = 4294967296 := rfl
  rw [e]
  refine ⟨?_, ?_, ?_⟩
  · rw [Nat.mul_comm]; exact Nat.div_add_mod _ _
  · have hp : 0 < y / 4294967296 := by omega
    rw [Nat.le_div_iff_mul_le hp]
    have h1 : (hi * 4294967296 + l) / y * y ≤ hi * 4294967296 + l := Nat.div_mul_le_self _ _
    generalize (hi * 4294967296 + l) / y = q at *
    have h2 : q * (y / 4294967296 * 4294967296) ≤ q * y := Nat.mul_le_mul_left _ (by omega)
    rw [← Nat.mul_assoc] at h2
    generalize q * (y / 4294967296) = z at *
    omega
  · have := Nat.mod_lt hi (show 0 < y / 4294967296 by omega)
    omega
theorem half_quit {hi l y q r : Nat} (hy : 0 < y) (h1 : q * (y / 2 ^ 32) + r = hi) (h2 : (hi * 4294967296 + l) / y ≤ q) (h3 : q * (y % 4294967296) ≤ 4294967296 * r + l) : q = (hi * 4294967296 + l) / y := by
  apply Nat.le_antisymm _ h2
  rw [Nat.le_div_iff_mul_le hy]
  have e : y = y / 2 ^ 32 * 4294967296 + y % 4294967296 := by omega
  have : q * y = q * (y / 2 ^ 32) * 4294967296 + q * (y % 4294967296) := by
    conv => lhs; rw [e]
    rw [Nat.mul_add, Nat.mul_assoc]
  rw [this]
  generalize q * (y / 2 ^ 32) = z at *
  omega
theorem half_more {hi l y q r : Nat} (hy : 0 < y) (hhy : hi < y) (hl : l < 4294967296) (h1 : q * (y / 2 ^ 32) + r = hi) (h2 : (hi * 4294967296 + l) / y ≤ q) (h3 : 4294967296 ≤ q ∨ (q < 4294967296 ∧ 4294967296 * r + l < q * (y % 4294967296))) :
    0 < q ∧ (q - 1) * (y / 2 ^ 32) + (r + y / 2 ^ 32) = hi ∧ (hi * 4294967296 + l) / y ≤ q - 1 := by
  have hlt : (hi * 4294967296 + l) / y < q := by
    rcases h3 with h3 | ⟨_, h3⟩
    · have : (hi * 4294967296 + l) / y < 4294967296 := by
        rw [Nat.div_lt_iff_lt_mul hy, Nat.mul_comm]; omega
      omega
    · rw [Nat.div_lt_iff_lt_mul hy]
      have e : y = y / 2 ^ 32 * 4294967296 + y % 4294967296 := by omega
      have : q * y = q * (y / 2 ^ 32) * 4294967296 + q * (y % 4294967296) := by
        conv => lhs; rw [e]
        rw [Nat.mul_add, Nat.mul_assoc]
      rw [this]
      generalize q * (y / 2 ^ 32) = z at *
      omega
  generalize (hi * 4294967296 + l) / y = t at *
  refine ⟨by omega, ?_, by omega⟩
  obtain ⟨p, rfl⟩ : ∃ p, q = p + 1 := ⟨q - 1, by omega⟩
  rw [Nat.add_mul] at h1
  simp only [Nat.add_sub_cancel]
  omega
theorem half_break {hi l y q r : Nat} (hy : 9223372036854775808 ≤ y) (hhy : hi < y) (h1 : q * (y / 2 ^ 32) + r = hi) (h2 : (hi * 4294967296 + l) / y ≤ q) (h3 : 4294967296 ≤ r) : q = (hi * 4294967296 + l) / y := by
  apply half_quit (by omega) h1 h2
  have hq : q < 4294967296 := by
    rcases Nat.lt_or_ge q 4294967296 with h | h
    · exact h
    · have := Nat.mul_le_mul_right (y / 2 ^ 32) h
      have e : y = y / 2 ^ 32 * 4294967296 + y % 4294967296 := by omega
      generalize q * (y / 2 ^ 32) = z at *
      omega
  have : q * (y % 4294967296) ≤ 4294967296 * 4294967296 := Nat.mul_le_mul (by omega) (by omega)
  have : 4294967296 * 4294967296 ≤ 4294967296 * r := Nat.mul_le_mul_left _ h3
  omega
theorem sub_wrap {a b : Nat} (h : b ≤ a) (h2 : a - b < 18446744073709551616) : (a % 18446744073709551616 + (18446744073709551616 - b % 18446744073709551616)) % 18446744073709551616 = a - b := by omega
theorem wrap_rest {hi l Z r : Nat} (h1 : Z + r = hi * 4294967296 + l) (h2 : r < 18446744073709551616) :
    ((hi * 4294967296 % 18446744073709551616 + l) % 18446744073709551616 + (18446744073709551616 - Z % 18446744073709551616)) % 18446744073709551616 = r := by omega
theorem half_rest {hi l y : Nat} (hy : 0 < y) (hy2 : y < 18446744073709551616) :
    ((hi * 4294967296 % 18446744073709551616 + l) % 18446744073709551616 + (18446744073709551616 - ((hi * 4294967296 + l) / y) * y % 18446744073709551616)) % 18446744073709551616 = (hi * 4294967296 + l) % y := by
  apply wrap_rest
  · rw [Nat.mul_comm _ y]; exact Nat.div_add_mod _ y
  · exact Nat.lt_trans (Nat.mod_lt _ hy) hy2
theorem halves' {u l y : Nat} (hy : 0 < y) : (u / y) * 4294967296 + (u % y * 4294967296 + l) / y = (u * 4294967296 + l) / y ∧ (u % y * 4294967296 + l) % y = (u * 4294967296 + l) % y := by
  have h1 := Nat.div_add_mod u y
  have e2 : u * 4294967296 + l = (u % y * 4294967296 + l) + y * (u / y * 4294967296) := by
    conv => lhs; rw [← h1]
    rw [Nat.add_mul, Nat.mul_assoc]; omega
  rw [e2, Nat.add_mul_div_left _ _ hy, Nat.add_mul_mod_self_left]
  exact ⟨Nat.add_comm _ _, rfl⟩
theorem halves {hi lo y : Nat} (hy : 0 < y) : ((hi * 4294967296 + lo / 2 ^ 32) / y) * 4294967296 + ((hi * 4294967296 + lo / 2 ^ 32) % y * 4294967296 + lo % 4294967296) / y = (hi * 18446744073709551616 + lo) / y ∧
    ((hi * 4294967296 + lo / 2 ^ 32) % y * 4294967296 + lo % 4294967296) % y = (hi * 18446744073709551616 + lo) % y := by
  have e : hi * 18446744073709551616 + lo = (hi * 4294967296 + lo / 2 ^ 32) * 4294967296 + lo % 4294967296 := by omega
  rw [e]
  exact halves' hy
theorem minus_div {h d : Nat} (hh : h < 18446744073709551616) : (h + (18446744073709551616 - h / d * d % 18446744073709551616)) % 18446744073709551616 = h % d := by
  have h1 := Nat.div_add_mod h d
  rw [Nat.mul_comm] at h1
  generalize h / d * d = z at *
  generalize h % d = r at *
  omega
theorem wrap_sum {a b : Nat} (h : a + b < 18446744073709551616) : (a % 18446744073709551616 + b) % 18446744073709551616 = a + b := by omega
end Go.Proofs.Ytljblbgogjieaaa
