/- Words and numbers: how the words of sums and differences come about. No Go and no program here. -/
import Derived.Test.YtljblbgogjieaaaLw
namespace Go.Proofs.Ytljblbgogjieaaa

/-- One more than the greatest number of nine words. -/
def W9 : Nat := Nat.pow 18446744073709551616 9
theorem w9 {i : Nat} (h : i = 9) : 2 ^ (64 * i) = W9 := by
  rw [Nat.pow_mul, h]
  rfl
theorem w9_pos : 0 < W9 := Nat.pow_pos (by decide)
theorem w9_split (i : Nat) (h : i ≤ 9) : ∃ k, W9 = 2 ^ (64 * i) * k := by
  obtain ⟨j, hj⟩ : ∃ j, 9 = i + j := ⟨9 - i, by omega⟩
  refine ⟨2 ^ (64 * j), ?_⟩
  rw [← Nat.pow_add, ← Nat.mul_add]
  exact (w9 hj.symm).symm
/-- The carry into word i of a sum. -/
def carry (A B i : Nat) : Nat := (A % 2 ^ (64 * i) + B % 2 ^ (64 * i)) / 2 ^ (64 * i)
theorem pow64_succ (i : Nat) : 2 ^ (64 * (i + 1)) = 18446744073709551616 * 2 ^ (64 * i) := by
  rw [show 64 * (i + 1) = 64 + 64 * i by omega, Nat.pow_add]
theorem pow64_pos (i : Nat) : 0 < 2 ^ (64 * i) := Nat.pow_pos (by decide)
theorem carry_le (A B i : Nat) : carry A B i ≤ 1 := by
  unfold carry
  have h := pow64_pos i
  have h1 := Nat.mod_lt A h
  have h2 := Nat.mod_lt B h
  have : (A % 2 ^ (64 * i) + B % 2 ^ (64 * i)) / 2 ^ (64 * i) < 2 := by
    rw [Nat.div_lt_iff_lt_mul h]; omega
  omega
theorem mod_succ_limb (A i : Nat) : A % 2 ^ (64 * (i + 1)) = A % 2 ^ (64 * i) + 2 ^ (64 * i) * limb A i := by
  unfold limb
  rw [pow64_succ, Nat.mul_comm, Nat.mod_mul]
/-- One word of a sum. -/
theorem add_limb (A B i : Nat) : limb A i + limb B i + carry A B i = limb (A + B) i + 18446744073709551616 * carry A B (i + 1) := by
  have hp := pow64_pos i
  have ha := mod_succ_limb A i
  have hb := mod_succ_limb B i
  have hla := limb_lt A i
  have hlb := limb_lt B i
  -- work with M = 2^(64 i)
  have hc : A % 2 ^ (64 * i) + B % 2 ^ (64 * i) = (A % 2 ^ (64 * i) + B % 2 ^ (64 * i)) % 2 ^ (64 * i) + 2 ^ (64 * i) * carry A B i := by
    unfold carry; exact (Nat.mod_add_div _ _).symm
  have hc1 : carry A B (i + 1) = (limb A i + limb B i + carry A B i) / 18446744073709551616 := by
    unfold carry
    rw [ha, hb, pow64_succ]
    have e : A % 2 ^ (64 * i) + 2 ^ (64 * i) * limb A i + (B % 2 ^ (64 * i) + 2 ^ (64 * i) * limb B i) =
        (A % 2 ^ (64 * i) + B % 2 ^ (64 * i)) % 2 ^ (64 * i) + 2 ^ (64 * i) * (limb A i + limb B i + carry A B i) := by
      rw [Nat.mul_add, Nat.mul_add]; omega
    rw [e, Nat.mul_comm 18446744073709551616, ← Nat.div_div_eq_div_mul, Nat.add_mul_div_left _ _ hp, Nat.div_eq_of_lt (Nat.mod_lt _ hp), Nat.zero_add]
    rfl
  have hl : limb (A + B) i = (limb A i + limb B i + carry A B i) % 18446744073709551616 := by
    have hA : A / 2 ^ (64 * i) * 2 ^ (64 * i) + A % 2 ^ (64 * i) = A := by rw [Nat.mul_comm]; exact Nat.div_add_mod _ _
    have hB : B / 2 ^ (64 * i) * 2 ^ (64 * i) + B % 2 ^ (64 * i) = B := by rw [Nat.mul_comm]; exact Nat.div_add_mod _ _
    have hs : (A + B) / 2 ^ (64 * i) = A / 2 ^ (64 * i) + B / 2 ^ (64 * i) + carry A B i := by
      have e : A + B = (A % 2 ^ (64 * i) + B % 2 ^ (64 * i)) % 2 ^ (64 * i) + 2 ^ (64 * i) * (A / 2 ^ (64 * i) + B / 2 ^ (64 * i) + carry A B i) := by
        rw [Nat.mul_add, Nat.mul_add, Nat.mul_comm _ (A / _), Nat.mul_comm _ (B / _)]; omega
      rw [e, Nat.add_mul_div_left _ _ hp, Nat.div_eq_of_lt (Nat.mod_lt _ hp), Nat.zero_add]
    unfold limb
    rw [hs]
    omega
  rw [hl, hc1]
  exact (Nat.mod_add_div _ _).symm
theorem carry_zero (A B : Nat) : carry A B 0 = 0 := by simp [carry, Nat.mod_one]
theorem carry_nine (A B i : Nat) (hi : i = 9) (ha : A < W9) (hb : B < W9) : carry A B i = if W9 ≤ A + B then 1 else 0 := by
  unfold carry
  rw [w9 hi, Nat.mod_eq_of_lt ha, Nat.mod_eq_of_lt hb]
  have := w9_pos
  split
  · rw [show A + B = (A + B - W9) + W9 by omega, Nat.add_div_right _ this, Nat.div_eq_of_lt (by omega)]
  · exact Nat.div_eq_of_lt (by omega)
theorem limb_mod (A i : Nat) (h : i < 9) : limb (A % W9) i = limb A i := by
  unfold limb
  obtain ⟨k, hk⟩ := w9_split (i + 1) (by omega)
  rw [hk, pow64_succ, Nat.mul_comm 18446744073709551616, Nat.mul_assoc, Nat.mod_mul_right_div_self, Nat.mod_mul_right_mod]
theorem natL_mod (A : Nat) : natL (A % W9) = natL A := vec_congr fun i hi => limb_mod A i hi
theorem natV_mod (A : Nat) : natV (A % W9) = natV A := by unfold natV; rw [natL_mod]

/-- The borrow into word i of a difference. -/
def borrow (A B i : Nat) : Nat := if A % 2 ^ (64 * i) < B % 2 ^ (64 * i) then 1 else 0
theorem borrow_le (A B i : Nat) : borrow A B i ≤ 1 := by unfold borrow; split <;> omega
theorem borrow_zero (A B : Nat) : borrow A B 0 = 0 := by simp [borrow, Nat.mod_one]
theorem borrow_succ (A B i : Nat) : borrow A B (i + 1) = if limb A i < limb B i + borrow A B i then 1 else 0 := by
  have hp := pow64_pos i
  have ha := mod_succ_limb A i
  have hb := mod_succ_limb B i
  have h1 := Nat.mod_lt A hp
  have h2 := Nat.mod_lt B hp
  unfold borrow
  rw [ha, hb]
  generalize A % 2 ^ (64 * i) = a at *
  generalize B % 2 ^ (64 * i) = b at *
  generalize 2 ^ (64 * i) = M at *
  generalize limb A i = x at *
  generalize limb B i = y at *
  have key : ∀ x y : Nat, x < y → a + M * x < b + M * y := by
    intro x y h
    have : M * (x + 1) ≤ M * y := Nat.mul_le_mul_left _ h
    rw [Nat.mul_add] at this; omega
  have key2 : ∀ x y a b : Nat, a < M → b < M → x < y → a + M * x < b + M * y := by
    intro x y a b ha hb h
    have : M * (x + 1) ≤ M * y := Nat.mul_le_mul_left _ h
    rw [Nat.mul_add] at this; omega
  rcases Nat.lt_trichotomy x y with h | h | h
  · have := key2 x y a b h1 h2 h
    by_cases hab : a < b <;> simp [hab, this] <;> omega
  · subst h
    by_cases hab : a < b <;> simp [hab]
  · have := key2 y x b a h2 h1 h
    have h3 : ¬ (a + M * x < b + M * y) := by omega
    by_cases hab : a < b <;> simp [hab, h3] <;> omega
/-- The difference of two numbers of nine words. -/
def dif (A B : Nat) : Nat := (A + W9 - B) % W9
theorem dif_lt (A B : Nat) : dif A B < W9 := Nat.mod_lt _ w9_pos
theorem dif_spec (A B : Nat) (hA : A < W9) (hB : B < W9) : B + dif A B = A + W9 * (if A < B then 1 else 0) := by
  unfold dif
  generalize W9 = M at *
  split
  · rw [Nat.mod_eq_of_lt (by omega)]; omega
  · rw [show A + M - B = (A - B) + M by omega, Nat.add_mod_right, Nat.mod_eq_of_lt (by omega)]; omega
theorem dif_mod (A B i : Nat) (hA : A < W9) (hB : B < W9) (hi : i ≤ 9) : (B + dif A B) % 2 ^ (64 * i) = A % 2 ^ (64 * i) := by
  rw [dif_spec A B hA hB]
  obtain ⟨k, hk⟩ := w9_split i hi
  rw [hk, Nat.mul_assoc, Nat.add_mul_mod_self_left]
theorem carry_borrow (A B i : Nat) (hA : A < W9) (hB : B < W9) (hi : i ≤ 9) : carry B (dif A B) i = borrow A B i := by
  have h := dif_mod A B i hA hB hi
  have hp := pow64_pos i
  rw [Nat.add_mod] at h
  unfold carry borrow
  have h1 := Nat.mod_lt B hp
  have h2 := Nat.mod_lt (dif A B) hp
  generalize B % 2 ^ (64 * i) = b at *
  generalize dif A B % 2 ^ (64 * i) = d at *
  generalize A % 2 ^ (64 * i) = a at *
  generalize 2 ^ (64 * i) = M at *
  by_cases hc : b + d < M
  · rw [Nat.mod_eq_of_lt hc] at h
    rw [Nat.div_eq_of_lt hc, if_neg (by omega)]
  · have e : b + d = (b + d - M) + M := by omega
    rw [e, Nat.add_mod_right, Nat.mod_eq_of_lt (by omega)] at h
    rw [e, Nat.add_div_right _ hp, Nat.div_eq_of_lt (by omega), if_pos (by omega)]
theorem limb_dif (A B i : Nat) (hA : A < W9) (hB : B < W9) (hi : i < 9) : limb (B + dif A B) i = limb A i := by
  rw [← limb_mod (B + dif A B) i hi, ← limb_mod A i hi]
  obtain ⟨j, hj⟩ : ∃ j : Nat, j = 9 := ⟨9, rfl⟩
  have := dif_mod A B j hA hB (by omega)
  rw [w9 hj] at this
  rw [this]
/-- One word of a difference. -/
theorem sub_limb (A B i : Nat) (hA : A < W9) (hB : B < W9) (hi : i < 9) : (limb A i + 18446744073709551616 - limb B i - borrow A B i) % 18446744073709551616 = limb (dif A B) i := by
  have h := add_limb B (dif A B) i
  rw [carry_borrow A B i hA hB (by omega), limb_dif A B i hA hB hi] at h
  have h1 := limb_lt A i
  have h2 := limb_lt B i
  have h3 := limb_lt (dif A B) i
  have h4 := borrow_le A B i
  have h5 := carry_le B (dif A B) (i + 1)
  omega
theorem borrow_nine (A B i : Nat) (hi : i = 9) (ha : A < W9) (hb : B < W9) : borrow A B i = if A < B then 1 else 0 := by
  unfold borrow
  rw [w9 hi, Nat.mod_eq_of_lt ha, Nat.mod_eq_of_lt hb]

/-! ### How many words, how many bits -/
def blen (A : Nat) : Nat := if A = 0 then 0 else Nat.log2 A + 1
theorem lt_blen (A : Nat) : A < 2 ^ blen A := by
  unfold blen
  split
  · subst_vars; decide
  · exact Nat.lt_log2_self
theorem blen_le {A n : Nat} (h : A < 2 ^ n) : blen A ≤ n := by
  unfold blen
  split
  · omega
  · have := (Nat.log2_lt (by assumption)).2 h
    omega
theorem le_blen {A n : Nat} (h : 2 ^ n ≤ A) : n + 1 ≤ blen A := by
  rcases Nat.lt_or_ge n (blen A) with h' | h'
  · omega
  · have h1 := lt_blen A
    have h2 : 2 ^ blen A ≤ 2 ^ n := Nat.pow_le_pow_right (by decide) h'
    omega
theorem blen_eq {A n : Nat} (h1 : A < 2 ^ n) (h2 : n = 0 ∨ 2 ^ (n - 1) ≤ A) : blen A = n := by
  have := blen_le h1
  rcases h2 with h2 | h2
  · omega
  · have := le_blen h2; omega
theorem blen_zero : blen 0 = 0 := rfl
theorem blen_pos {A : Nat} (h : A ≠ 0) : 2 ^ (blen A - 1) ≤ A := by
  unfold blen
  rw [if_neg h]
  exact Nat.log2_self_le h
theorem blen_ne {A : Nat} (h : A ≠ 0) : blen A ≠ 0 := by unfold blen; rw [if_neg h]; omega
/-- How many words a number has. -/
def nw (A : Nat) : Nat := (blen A + 63) / 64
theorem lt_nw (A : Nat) : A < 2 ^ (64 * nw A) := Nat.lt_of_lt_of_le (lt_blen A) (Nat.pow_le_pow_right (by decide) (by unfold nw; omega))
theorem nw_le {A n : Nat} (h : A < 2 ^ (64 * n)) : nw A ≤ n := by have := blen_le h; unfold nw; omega
theorem nw_eq {A n : Nat} (h1 : A < 2 ^ (64 * n)) (h2 : n = 0 ∨ 2 ^ (64 * (n - 1)) ≤ A) : nw A = n := by
  have := nw_le h1
  rcases h2 with h2 | h2
  · omega
  · have := le_blen h2; unfold nw at *; omega
theorem limb_top {A n : Nat} (h : A < 2 ^ (64 * (n + 1))) : limb A n = A / 2 ^ (64 * n) := by
  unfold limb
  apply Nat.mod_eq_of_lt
  rw [Nat.div_lt_iff_lt_mul (pow64_pos n)]
  rw [pow64_succ] at h; exact h
theorem lt_of_limb_zero {A n : Nat} (h : A < 2 ^ (64 * (n + 1))) (hl : limb A n = 0) : A < 2 ^ (64 * n) := by
  rw [limb_top h] at hl
  rcases Nat.lt_or_ge A (2 ^ (64 * n)) with h' | h'
  · exact h'
  · have := Nat.div_pos h' (pow64_pos n); omega
theorem le_of_limb {A n : Nat} (h : A < 2 ^ (64 * (n + 1))) (hl : limb A n ≠ 0) : 2 ^ (64 * n) ≤ A := by
  rw [limb_top h] at hl
  rcases Nat.lt_or_ge A (2 ^ (64 * n)) with h' | h'
  · exact absurd (Nat.div_eq_of_lt h') hl
  · exact h'
theorem limb_high {A n i : Nat} (h : A < 2 ^ (64 * n)) (hi : n ≤ i) : limb A i = 0 := by
  unfold limb
  rw [Nat.div_eq_of_lt (Nat.lt_of_lt_of_le h (Nat.pow_le_pow_right (by decide) (by omega)))]
theorem lt_w9_pow {A : Nat} (h : A < W9) : ∀ n, n = 9 → A < 2 ^ (64 * n) := fun n hn => by rw [w9 hn]; exact h
theorem pow_w9 {A n : Nat} (h : A < 2 ^ (64 * n)) (hn : n ≤ 9) : A < W9 := by
  obtain ⟨k, hk⟩ := w9_split n hn
  have hp := w9_pos
  rcases Nat.eq_zero_or_pos k with h0 | h0
  · subst h0; omega
  · rw [hk]; exact Nat.lt_of_lt_of_le h (Nat.le_mul_of_pos_right _ h0)
theorem nw_w9 {A : Nat} (h : A < W9) : nw A ≤ 9 := nw_le (lt_w9_pow h 9 rfl)
/-- Nine words tell the number. -/
theorem limb_ext {A B : Nat} (hA : A < W9) (hB : B < W9) (h : ∀ i, i < 9 → limb A i = limb B i) : A = B := by
  have key : ∀ n, n ≤ 9 → A % 2 ^ (64 * n) = B % 2 ^ (64 * n) := by
    intro n
    induction n with
    | zero => intro _; simp [Nat.mod_one]
    | succ n ih => intro hn; rw [mod_succ_limb, mod_succ_limb, ih (by omega), h n (by omega)]
  have := key 9 (by omega)
  rw [Nat.mod_eq_of_lt (lt_w9_pow hA 9 rfl), Nat.mod_eq_of_lt (lt_w9_pow hB 9 rfl)] at this
  exact this
theorem natV_inj {A B : Nat} (hA : A < W9) (hB : B < W9) (h : natV A = natV B) : A = B := by
  apply limb_ext hA hB
  intro i hi
  have h1 : natL A = natL B := by
    unfold natV at h
    injection h with h
    simpa using h
  have h2 := natL_get A hi
  rw [h1, natL_get B hi] at h2
  simp at h2
  omega
/-- -1, 0, 1. -/
def cmpI (A B : Nat) : Int := if A < B then -1 else if B < A then 1 else 0
theorem div_pow_succ (A i : Nat) : A / 2 ^ (64 * i) = limb A i + 18446744073709551616 * (A / 2 ^ (64 * (i + 1))) := by
  unfold limb
  rw [pow64_succ, Nat.mul_comm 18446744073709551616 (2 ^ (64 * i)), ← Nat.div_div_eq_div_mul]
  exact (Nat.mod_add_div _ _).symm
theorem div_eq_iff_limb (A B i : Nat) : A / 2 ^ (64 * i) = B / 2 ^ (64 * i) ↔ A / 2 ^ (64 * (i + 1)) = B / 2 ^ (64 * (i + 1)) ∧ limb A i = limb B i := by
  have h1 := div_pow_succ A i
  have h2 := div_pow_succ B i
  have h3 := limb_lt A i
  have h4 := limb_lt B i
  omega
theorem lt_of_limb {A B i : Nat} (h : A / 2 ^ (64 * (i + 1)) = B / 2 ^ (64 * (i + 1))) (hl : limb A i < limb B i) : A < B := by
  have h1 := div_pow_succ A i
  have h2 := div_pow_succ B i
  have h3 : A / 2 ^ (64 * i) < B / 2 ^ (64 * i) := by omega
  rcases Nat.lt_or_ge A B with h' | h'
  · exact h'
  · have := Nat.div_le_div_right (c := 2 ^ (64 * i)) h'; omega
end Go.Proofs.Ytljblbgogjieaaa
