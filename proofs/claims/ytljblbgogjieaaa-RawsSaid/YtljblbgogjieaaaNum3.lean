/- Digits of 32 bits: of words, of differences, of bytes; comparing; lengths. No Go and no program here. -/
import Derived.Test.YtljblbgogjieaaaNum1
set_option linter.unusedVariables false
namespace Go.Proofs.Ytljblbgogjieaaa
open Go Go.RowKit

theorem word_digits (A i : Nat) : limb A i = D.limb A (2 * i) + 4294967296 * D.limb A (2 * i + 1) := by
  unfold limb D.limb
  have h1 : A / 2 ^ (32 * (2 * i + 1)) = A / 2 ^ (64 * i) / 4294967296 := by
    rw [Nat.div_div_eq_div_mul, show (4294967296 : Nat) = 2 ^ 32 from rfl, ← Nat.pow_add]; congr 2; omega
  rw [h1, show 32 * (2 * i) = 64 * i by omega]
  generalize A / 2 ^ (64 * i) = q
  omega
theorem digit_low (A i : Nat) : limb A i % 4294967296 = D.limb A (2 * i) := by
  have := word_digits A i
  have := D.limb_lt A (2 * i)
  omega
theorem digit_high (A i : Nat) : limb A i / 4294967296 = D.limb A (2 * i + 1) := by
  have := word_digits A i
  have := D.limb_lt A (2 * i)
  omega
theorem or_digits {a b : Nat} (ha : a < 4294967296) (hb : b < 4294967296) : (a ||| b * 4294967296 % 18446744073709551616) = a + 4294967296 * b := by
  have h := or_high (a := a) (z := b) (s := 32) ha (by decide)
  rw [show (2 : Nat) ^ 32 = 4294967296 from rfl] at h
  rw [h, Nat.mod_eq_of_lt (by omega)]; omega
theorem word_or (A i : Nat) : (D.limb A (2 * i) ||| D.limb A (2 * i + 1) * 4294967296 % 18446744073709551616) = limb A i := by
  rw [or_digits (D.limb_lt _ _) (D.limb_lt _ _), word_digits]
theorem w9_digits {i : Nat} (h : i = 18) : 2 ^ (32 * i) = W9 := by
  obtain ⟨j, hj⟩ : ∃ j : Nat, j = 9 := ⟨9, rfl⟩
  rw [← w9 hj, show 32 * i = 64 * j by omega]
theorem lt_w9_dig {A : Nat} (h : A < W9) : ∀ n, n = 18 → A < 2 ^ (32 * n) := fun n hn => by rw [w9_digits hn]; exact h
theorem nw_w9_dig {A : Nat} (h : A < W9) : D.nw A ≤ 18 := D.nw_le (lt_w9_dig h 18 rfl)
namespace D
theorem limb_zero (i : Nat) : limb 0 i = 0 := by simp [limb]
theorem limb_beyond {A i : Nat} (h : nw A ≤ i) : limb A i = 0 := limb_high (lt_nw A) h
theorem nw_ne {A : Nat} (h : nw A ≠ 0) : 2 ^ (32 * (nw A - 1)) ≤ A := by
  have hA : A ≠ 0 := fun e => h (by rw [e]; rfl)
  have h1 := blen_pos hA
  have h2 := blen_ne hA
  exact Nat.le_trans (Nat.pow_le_pow_right (by decide) (by unfold nw; omega)) h1
theorem bits_words {A : Nat} (h : nw A ≠ 0) : 32 * (nw A - 1) + blen (limb A (nw A - 1)) = blen A := by
  have h1 := nw_ne h
  rw [limb_top (A := A) (n := nw A - 1) (by rw [show nw A - 1 + 1 = nw A by omega]; exact lt_nw A)]
  have := blen_shr h1
  omega
theorem top_ne {A : Nat} (h : nw A ≠ 0) : limb A (nw A - 1) ≠ 0 := by
  intro e
  have h1 := nw_ne h
  have h2 := lt_of_limb_zero (A := A) (n := nw A - 1) (by rw [show nw A - 1 + 1 = nw A by omega]; exact lt_nw A) e
  omega
theorem nw_mono {A B : Nat} (h : A ≤ B) : nw A ≤ nw B := nw_le (Nat.lt_of_le_of_lt h (lt_nw B))
theorem lt_of_nw {A B : Nat} (h : nw A < nw B) : A < B := Nat.lt_of_not_le fun h' => by have := nw_mono h'; omega
theorem carry_borrow {A B : Nat} (h : B ≤ A) (i : Nat) : carry B (A - B) i = borrow A B i := by
  have hp := pow64_pos i
  have h0 : (B % 2 ^ (32 * i) + (A - B) % 2 ^ (32 * i)) % 2 ^ (32 * i) = A % 2 ^ (32 * i) := by rw [← Nat.add_mod]; congr 1; omega
  unfold carry borrow
  have h1 := Nat.mod_lt B hp
  have h2 := Nat.mod_lt (A - B) hp
  generalize B % 2 ^ (32 * i) = b at *
  generalize (A - B) % 2 ^ (32 * i) = d at *
  generalize A % 2 ^ (32 * i) = a at *
  generalize 2 ^ (32 * i) = M at *
  by_cases hc : b + d < M
  · rw [Nat.mod_eq_of_lt hc] at h0
    rw [Nat.div_eq_of_lt hc, if_neg (by omega)]
  · have e : b + d = (b + d - M) + M := by omega
    rw [e, Nat.add_mod_right, Nat.mod_eq_of_lt (by omega)] at h0
    rw [e, Nat.add_div_right _ hp, Nat.div_eq_of_lt (by omega), if_pos (by omega)]
/-- One digit of a difference. -/
theorem sub_limb {A B : Nat} (h : B ≤ A) (i : Nat) : (limb A i + 4294967296 - limb B i - borrow A B i) % 4294967296 = limb (A - B) i ∧ 1 - (limb A i + 4294967296 - limb B i - borrow A B i) / 4294967296 = borrow A B (i + 1) := by
  have h1 := add_limb B (A - B) i
  rw [carry_borrow h, carry_borrow h, show B + (A - B) = A by omega] at h1
  have h2 := limb_lt A i
  have h3 := limb_lt B i
  have h4 := limb_lt (A - B) i
  have h5 := borrow_le A B i
  have h6 := borrow_le A B (i + 1)
  omega
theorem sub_rest {A B : Nat} (i : Nat) : borrow A B i ≤ limb A i + 4294967296 - limb B i := by
  have := borrow_le A B i
  have := limb_lt B i
  omega
theorem add_lt {A B k : Nat} (hA : A < 2 ^ (32 * k)) (hB : B < 2 ^ (32 * k)) : A + B < 2 ^ (32 * (k + 1)) := by
  rw [pow64_succ]; omega
theorem carry_top {A B k : Nat} (hA : A < 2 ^ (32 * k)) (hB : B < 2 ^ (32 * k)) : carry A B k = limb (A + B) k := by
  unfold carry limb
  rw [Nat.mod_eq_of_lt hA, Nat.mod_eq_of_lt hB, Nat.mod_eq_of_lt]
  rw [Nat.div_lt_iff_lt_mul (pow64_pos k)]
  have := pow64_pos k
  omega
/-- Digit by digit the same, and so few digits: the same number. -/
theorem ext {n A B : Nat} (hA : A < 2 ^ (32 * n)) (hB : B < 2 ^ (32 * n)) (h : ∀ i, i < n → limb A i = limb B i) : A = B := by
  have key : ∀ k, k ≤ n → A / 2 ^ (32 * (n - k)) = B / 2 ^ (32 * (n - k)) := by
    intro k
    induction k with
    | zero => intro _; rw [Nat.sub_zero, Nat.div_eq_of_lt hA, Nat.div_eq_of_lt hB]
    | succ k ih =>
      intro hk
      refine (div_eq_iff_limb A B (n - (k + 1))).2 ⟨?_, h _ (by omega)⟩
      rw [show n - (k + 1) + 1 = n - k by omega]
      exact ih (by omega)
  have := key n (Nat.le_refl _)
  simpa using this
theorem byte_of (A i : Nat) : limb A (i / 4) / 2 ^ (8 * (i % 4)) % 256 = A / 256 ^ i % 256 := by
  have h1 : A / 256 ^ i = A / 2 ^ (32 * (i / 4)) / 2 ^ (8 * (i % 4)) := by
    rw [pow256, Nat.div_div_eq_div_mul, ← Nat.pow_add]; congr 2; omega
  rw [h1]
  unfold limb
  generalize A / 2 ^ (32 * (i / 4)) = q
  have hr : i % 4 < 4 := Nat.mod_lt _ (by decide)
  generalize i % 4 = r at *
  have : ∀ r, r < 4 → q % 4294967296 / 2 ^ (8 * r) % 256 = q / 2 ^ (8 * r) % 256 := by
    intro r hr
    have hc : r = 0 ∨ r = 1 ∨ r = 2 ∨ r = 3 := by omega
    rcases hc with h | h | h | h <;> subst h <;> simp only [Nat.reduceMul, Nat.reducePow] <;> omega
  exact this r hr
/-- A piece of s bits laid above what there is. -/
theorem limb_piece {V y s i k w : Nat} (hs : s * w = 32) (hk : k < w) (hi : V < 2 ^ (s * (w * i + k))) (hy : y < 2 ^ s) : (limb V i ||| y * 2 ^ (s * k) % 4294967296) < 4294967296 ∧
    ∀ j, limb (y * 2 ^ (s * (w * i + k)) + V) j = if j = i then (limb V i ||| y * 2 ^ (s * k) % 4294967296) else limb V j := by
  have h1 : 2 ^ (s * (w * i + k)) = 2 ^ (s * k) * 2 ^ (32 * i) := by
    rw [← Nat.pow_add, Nat.mul_add, ← Nat.mul_assoc, hs]; congr 1; omega
  have hl : limb V i < 2 ^ (s * k) := by
    have : V / 2 ^ (32 * i) < 2 ^ (s * k) := by
      rw [Nat.div_lt_iff_lt_mul (pow64_pos _), ← h1]; exact hi
    exact Nat.lt_of_le_of_lt (Nat.mod_le _ _) this
  have hle : s * k + s ≤ 32 := by
    have : s * (k + 1) ≤ s * w := Nat.mul_le_mul_left _ hk
    rw [Nat.mul_succ] at this
    omega
  have hlt : y * 2 ^ (s * k) + 2 ^ (s * k) ≤ 4294967296 := by
    have h2 : (y + 1) * 2 ^ (s * k) ≤ 2 ^ s * 2 ^ (s * k) := Nat.mul_le_mul_right _ hy
    have h3 : 2 ^ s * 2 ^ (s * k) ≤ 2 ^ 32 := by rw [← Nat.pow_add]; exact Nat.pow_le_pow_right (by decide) (by omega)
    rw [Nat.add_mul] at h2
    have h4 : (2 : Nat) ^ 32 = 4294967296 := rfl
    omega
  have hpos : 0 < 2 ^ (s * k) := Nat.pow_pos (by decide)
  have ho : (limb V i ||| y * 2 ^ (s * k) % 4294967296) = limb V i + y * 2 ^ (s * k) := by
    rw [or_high hl (by omega), Nat.mod_eq_of_lt (by omega)]
  rw [ho]
  refine ⟨by omega, fun j => ?_⟩
  have := limb_addl V (y * 2 ^ (s * k)) i j (by omega)
  rw [← this, h1, Nat.mul_assoc, Nat.add_comm]
/-- A piece of s bits laid below what there is. -/
theorem limb_below {V y s i k w : Nat} (hs : s * w = 32) (hk : k < w) (hi : V % 2 ^ (s * (w * i + k + 1)) = 0) (hy : y < 2 ^ s) : (limb V i ||| y * 2 ^ (s * k) % 4294967296) < 4294967296 ∧
    ∀ j, limb (V + y * 2 ^ (s * (w * i + k))) j = if j = i then (limb V i ||| y * 2 ^ (s * k) % 4294967296) else limb V j := by
  have h1 : 2 ^ (s * (w * i + k)) = 2 ^ (s * k) * 2 ^ (32 * i) := by
    rw [← Nat.pow_add, Nat.mul_add, ← Nat.mul_assoc, hs]; congr 1; omega
  have hle : s * k + s ≤ 32 := by
    have : s * (k + 1) ≤ s * w := Nat.mul_le_mul_left _ hk
    rw [Nat.mul_succ] at this
    omega
  have hpos : 0 < 2 ^ (s * k) := Nat.pow_pos (by decide)
  have hylt : y * 2 ^ (s * k) < 2 ^ (s * k + s) := by
    rw [Nat.add_comm, Nat.pow_add]; exact Nat.mul_lt_mul_of_pos_right hy hpos
  have hle2 : 2 ^ (s * k + s) ≤ 4294967296 := by
    have : 2 ^ (s * k + s) ≤ 2 ^ 32 := Nat.pow_le_pow_right (by decide) hle
    exact this
  have h2 : 2 ^ (s * (w * i + k + 1)) = 2 ^ (s * k + s) * 2 ^ (32 * i) := by
    rw [← Nat.pow_add, Nat.mul_add, Nat.mul_add, ← Nat.mul_assoc, hs]; congr 1; omega
  obtain ⟨m, hm⟩ := Nat.dvd_of_mod_eq_zero hi
  have hl : limb V i = m * 2 ^ (s * k + s) % 4294967296 := by
    unfold limb
    rw [hm, h2, show 2 ^ (s * k + s) * 2 ^ (32 * i) * m = m * 2 ^ (s * k + s) * 2 ^ (32 * i) by rw [Nat.mul_comm _ m, Nat.mul_assoc], Nat.mul_div_cancel _ (pow64_pos _)]
  have ho : (limb V i ||| y * 2 ^ (s * k) % 4294967296) = limb V i + y * 2 ^ (s * k) := by
    rw [Nat.mod_eq_of_lt (show y * 2 ^ (s * k) < 4294967296 by omega), hl, Nat.or_comm, or_high hylt hle, Nat.add_comm]
  have hlt : limb V i + y * 2 ^ (s * k) < 4294967296 := by
    rw [← ho]
    exact Nat.or_lt_two_pow (n := 32) (limb_lt V i) (Nat.mod_lt _ (by decide))
  rw [ho]
  refine ⟨hlt, fun j => ?_⟩
  have := limb_addl V (y * 2 ^ (s * k)) i j hlt
  rw [← this, h1, Nat.mul_assoc]
end D
/-- A piece of s bits laid above what there is. -/
theorem limb_piece64 {V y s i k w : Nat} (hs : s * w = 64) (hk : k < w) (hi : V < 2 ^ (s * (w * i + k))) (hy : y < 2 ^ s) : (limb V i ||| y * 2 ^ (s * k) % 18446744073709551616) < 18446744073709551616 ∧
    ∀ j, limb (y * 2 ^ (s * (w * i + k)) + V) j = if j = i then (limb V i ||| y * 2 ^ (s * k) % 18446744073709551616) else limb V j := by
  have h1 : 2 ^ (s * (w * i + k)) = 2 ^ (s * k) * 2 ^ (64 * i) := by
    rw [← Nat.pow_add, Nat.mul_add, ← Nat.mul_assoc, hs]; congr 1; omega
  have hl : limb V i < 2 ^ (s * k) := by
    have : V / 2 ^ (64 * i) < 2 ^ (s * k) := by
      rw [Nat.div_lt_iff_lt_mul (pow64_pos _), ← h1]; exact hi
    exact Nat.lt_of_le_of_lt (Nat.mod_le _ _) this
  have hle : s * k + s ≤ 64 := by
    have : s * (k + 1) ≤ s * w := Nat.mul_le_mul_left _ hk
    rw [Nat.mul_succ] at this
    omega
  have hlt : y * 2 ^ (s * k) + 2 ^ (s * k) ≤ 18446744073709551616 := by
    have h2 : (y + 1) * 2 ^ (s * k) ≤ 2 ^ s * 2 ^ (s * k) := Nat.mul_le_mul_right _ hy
    have h3 : 2 ^ s * 2 ^ (s * k) ≤ 2 ^ 64 := by rw [← Nat.pow_add]; exact Nat.pow_le_pow_right (by decide) (by omega)
    rw [Nat.add_mul] at h2
    have h4 : (2 : Nat) ^ 64 = 18446744073709551616 := rfl
    omega
  have hpos : 0 < 2 ^ (s * k) := Nat.pow_pos (by decide)
  have ho : (limb V i ||| y * 2 ^ (s * k) % 18446744073709551616) = limb V i + y * 2 ^ (s * k) := by
    rw [or_high hl (by omega), Nat.mod_eq_of_lt (by omega)]
  rw [ho]
  refine ⟨by omega, fun j => ?_⟩
  have := limb_addl V (y * 2 ^ (s * k)) i j (by omega)
  rw [← this, h1, Nat.mul_assoc, Nat.add_comm]
end Go.Proofs.Ytljblbgogjieaaa
