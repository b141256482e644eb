/- Long division word by word: the guess of a word, taking away, giving back. No Go and no program here. -/
import Derived.Test.YtljblbgogjieaaaMath3
set_option linter.unusedVariables false
namespace Go.Proofs.Ytljblbgogjieaaa

/-- How far a divisor is shifted; the shifted divisor. -/
def dsh (m : Nat) : Nat := 64 * nw m - blen m
def dnm (m : Nat) : Nat := m * 2 ^ dsh m
theorem nw_pos {m : Nat} (h : m ≠ 0) : 0 < nw m := by have := blen_ne h; unfold nw; omega
theorem dsh_add (m : Nat) : blen m + dsh m = 64 * nw m := by unfold dsh nw; omega
theorem dsh_lt {m : Nat} (h : m ≠ 0) : dsh m < 64 := by have := blen_ne h; unfold dsh nw; omega
theorem dnm_lt (m : Nat) : dnm m < 2 ^ (64 * nw m) := by
  unfold dnm
  rw [← dsh_add, Nat.pow_add]
  exact Nat.mul_lt_mul_of_pos_right (lt_blen m) (Nat.pow_pos (by decide))
theorem dnm_ge {m : Nat} (h : m ≠ 0) : 2 ^ (64 * nw m) ≤ 2 * dnm m := by
  unfold dnm
  rw [← dsh_add, Nat.pow_add, ← Nat.mul_assoc]
  apply Nat.mul_le_mul_right
  have h1 := blen_pos h
  have h2 := blen_ne h
  obtain ⟨k, hk⟩ : ∃ k, blen m = k + 1 := ⟨blen m - 1, by omega⟩
  rw [hk, Nat.add_sub_cancel] at h1
  rw [hk, Nat.pow_succ]
  omega
theorem dnm_pos {m : Nat} (h : m ≠ 0) : 0 < dnm m := Nat.mul_pos (Nat.pos_of_ne_zero h) (Nat.pow_pos (by decide))
theorem dnm_top {m : Nat} (h : m ≠ 0) : limb (dnm m) (nw m - 1) = dnm m / 2 ^ (64 * (nw m - 1)) ∧ 9223372036854775808 ≤ limb (dnm m) (nw m - 1) := by
  have hn := nw_pos h
  have h1 : limb (dnm m) (nw m - 1) = dnm m / 2 ^ (64 * (nw m - 1)) := limb_top (by rw [show nw m - 1 + 1 = nw m by omega]; exact dnm_lt m)
  refine ⟨h1, ?_⟩
  rw [h1, Nat.le_div_iff_mul_le (pow64_pos _)]
  have h2 := dnm_ge h
  rw [show nw m = nw m - 1 + 1 by omega, pow64_succ] at h2
  omega
theorem limb_up (m i : Nat) : limb (m * 18446744073709551616) (i + 1) = limb m i ∧ limb (m * 18446744073709551616) 0 = 0 := by
  constructor
  · unfold limb
    rw [pow64_succ, ← Nat.div_div_eq_div_mul, Nat.mul_div_cancel _ (by decide)]
  · unfold limb
    rw [Nat.mul_zero, Nat.pow_zero, Nat.div_one, Nat.mul_mod_left]
/-- One word of a shifted number. -/
theorem limb_shl (m s i : Nat) (hs : s < 64) (h0 : 0 < s) : limb (m * 2 ^ s) i = limb m i * 2 ^ s % 18446744073709551616 + (if i = 0 then 0 else limb m (i - 1) / 2 ^ (64 - s)) := by
  have h := limb_shr (m * 18446744073709551616) 0 (64 - s) i (by omega)
  have e : m * 18446744073709551616 / 2 ^ (64 * 0 + (64 - s)) = m * 2 ^ s := by
    have : (18446744073709551616 : Nat) = 2 ^ s * 2 ^ (64 - s) := by rw [← Nat.pow_add, show s + (64 - s) = 64 by omega]
    rw [Nat.mul_zero, Nat.zero_add, this, ← Nat.mul_assoc, Nat.mul_div_cancel _ (Nat.pow_pos (by decide))]
  rw [e, show 64 - (64 - s) = s by omega, Nat.add_zero, (limb_up m i).1] at h
  rw [h, Nat.add_comm]
  congr 1
  by_cases hi : i = 0
  · subst hi; rw [if_pos rfl, (limb_up m 0).2, Nat.zero_div]
  · rw [if_neg hi]
    obtain ⟨j, rfl⟩ : ∃ j, i = j + 1 := ⟨i - 1, by omega⟩
    rw [(limb_up m j).1]; rfl
theorem or_low {a z s : Nat} (ha : a < 18446744073709551616) (h0 : 0 < s) (hs : s < 64) : (z * 2 ^ s % 18446744073709551616 ||| a / 2 ^ (64 - s)) = z * 2 ^ s % 18446744073709551616 + a / 2 ^ (64 - s) := by
  rw [Nat.or_comm, or_high _ (by omega), Nat.add_comm]
  rw [Nat.div_lt_iff_lt_mul (Nat.pow_pos (by decide)), ← Nat.pow_add, show s + (64 - s) = 64 by omega]
  exact ha
/-! ### The guess -/
theorem div_cut {R D k : Nat} (hk : 0 < k) (hd : 0 < D / k) : R / D ≤ R / k / (D / k) := by
  rw [Nat.le_div_iff_mul_le hd, Nat.le_div_iff_mul_le hk, Nat.mul_assoc]
  exact Nat.le_trans (Nat.mul_le_mul_left _ (Nat.div_mul_le_self D k)) (Nat.div_mul_le_self R D)
theorem guess_more {R D k q top r R2 d2 u2 M : Nat} (hk : 0 < k) (hD0 : 0 < D) (hD : D / k = top * M + d2) (hR : R / k = R2 * M + u2) (h1 : q * top + r = R2) (h2 : r * M + u2 < q * d2) : R / D < q := by
  rw [Nat.div_lt_iff_lt_mul hD0]
  have h3 : R < (R / k + 1) * k := by
    have := Nat.mod_add_div R k
    have := Nat.mod_lt R hk
    rw [Nat.add_mul, Nat.mul_comm (R / k)]; omega
  have h4 : R / k + 1 ≤ q * (D / k) := by
    rw [hD, hR, ← h1, Nat.mul_add, Nat.add_mul, Nat.mul_assoc]
    generalize q * (top * M) = z1 at *
    generalize r * M = z2 at *
    generalize q * d2 = z3 at *
    omega
  calc R < (R / k + 1) * k := h3
    _ ≤ q * (D / k) * k := Nat.mul_le_mul_right _ h4
    _ = q * (D / k * k) := Nat.mul_assoc _ _ _
    _ ≤ q * D := Nat.mul_le_mul_left _ (Nat.div_mul_le_self D k)
/-- The words of a window. -/
theorem limb_div (U a i : Nat) : limb (U / 2 ^ (64 * a)) i = limb U (a + i) := by
  unfold limb
  rw [Nat.div_div_eq_div_mul, ← Nat.pow_add, ← Nat.mul_add]
theorem two_words {R j : Nat} (h : R < 2 ^ (64 * (j + 2))) : R / 2 ^ (64 * j) = limb R (j + 1) * 18446744073709551616 + limb R j := by
  rw [limb_top h, div_pow_succ R j]; omega
theorem next_word (R j : Nat) : R / 2 ^ (64 * j) = R / 2 ^ (64 * (j + 1)) * 18446744073709551616 + limb R j := by
  rw [div_pow_succ R j]; omega
theorem win_lt {U D a n : Nat} (hD : D < 2 ^ (64 * n)) (h : U < D * 2 ^ (64 * (a + 1))) : U < 2 ^ (64 * (a + n + 1)) := by
  refine Nat.lt_trans h ?_
  rw [show a + n + 1 = n + (a + 1) by omega, pow64_add n (a + 1)]
  exact Nat.mul_lt_mul_of_pos_right hD (pow64_pos (a + 1))
theorem win_div {U a c : Nat} (h : U < 2 ^ (64 * (a + c))) : U / 2 ^ (64 * a) < 2 ^ (64 * c) := by
  have e : 2 ^ (64 * (a + c)) = 2 ^ (64 * c) * 2 ^ (64 * a) := (pow64_add a c).trans (Nat.mul_comm _ _)
  exact (Nat.div_lt_iff_lt_mul (pow64_pos a)).2 (e ▸ h)
/-! ### Taking away -/
theorem take_alg {U U0 l lo b b' c c' q r d K K' A Kk low M : Nat} (h1 : U + l * K = U0 + lo * K) (hb : lo + low + b = l + b' * M) (hc : low + c' * M = q * d + c) {V : Nat}
    (h : U0 + q * r * A = V + (b + c) * K) (hK : K = A * Kk) (hK' : K' = M * K) : U + q * (r + Kk * d) * A = V + (b' + c') * K' := by
  have e : q * (r + Kk * d) * A = q * r * A + q * d * K := by rw [hK]; grind
  rw [e]
  have h2 : lo * K + low * K + b * K = l * K + b' * K' := by rw [hK', ← Nat.add_mul, ← Nat.add_mul, hb]; grind
  have h3 : low * K + c' * K' = q * d * K + c * K := by rw [hK', ← Nat.add_mul, ← hc]; grind
  rw [Nat.add_mul] at h ⊢
  clear hK hK' e hb hc
  generalize q * r * A = z1 at *
  generalize q * d * K = z2 at *
  generalize c * K = z3 at *
  generalize l * K = z4 at *
  generalize lo * K = z5 at *
  generalize b' * K' = z6 at *
  generalize c' * K' = z7 at *
  generalize low * K = z8 at *
  generalize b * K = z9 at *
  omega
/-- A word less two things. -/
theorem sub_word {l low b : Nat} (hl : l < 18446744073709551616) (hlow : low < 18446744073709551616) (hb : b ≤ 1) :
    (l + 18446744073709551616 - low - b) % 18446744073709551616 + low + b = l + (if l < low + b then 1 else 0) * 18446744073709551616 := by
  split <;> omega
theorem mul_word {q d c : Nat} (hq : q < 18446744073709551616) (hd : d < 18446744073709551616) (hc : c < 18446744073709551616) : q * d + c < 18446744073709551616 * 18446744073709551616 := by
  have := Nat.mul_le_mul (show q ≤ 18446744073709551615 by omega) (show d ≤ 18446744073709551615 by omega)
  omega
theorem mul_parts {p c : Nat} (hc : c < 18446744073709551616) (h : p + c < 18446744073709551616 * 18446744073709551616) :
    (p % 18446744073709551616 + c + 0) % 18446744073709551616 = (p + c) % 18446744073709551616 ∧
    (p / 18446744073709551616 + (p % 18446744073709551616 + c + 0) / 18446744073709551616) % 18446744073709551616 = (p + c) / 18446744073709551616 := by
  constructor <;> omega
theorem take_step {U V q D a i b c b' lo t : Nat} (h : U + q * (D % 2 ^ (64 * i)) * 2 ^ (64 * a) = V + (b + c) * 2 ^ (64 * (a + i))) (ht : t = q * limb D i + c) (hlo : lo + t % 18446744073709551616 + b = limb U (a + i) + b' * 18446744073709551616) :
    setl U (a + i) lo + q * (D % 2 ^ (64 * (i + 1))) * 2 ^ (64 * a) = V + (b' + t / 18446744073709551616) * 2 ^ (64 * (a + (i + 1))) := by
  rw [mod_succ_limb]
  refine take_alg (setl_eq U (a + i) lo) hlo (M := 18446744073709551616) (c := c) ?_ h (pow64_add a i) (by rw [← Nat.add_assoc, pow64_succ])
  have := Nat.mod_add_div t 18446744073709551616
  rw [Nat.mul_comm (t / _), this, ht]
theorem take_last {U V q D a n b c b' lo : Nat} (hD : D < 2 ^ (64 * n)) (h : U + q * (D % 2 ^ (64 * n)) * 2 ^ (64 * a) = V + (b + c) * 2 ^ (64 * (a + n))) (hlo : lo + c + b = limb U (a + n) + b' * 18446744073709551616) :
    setl U (a + n) lo + q * D * 2 ^ (64 * a) = V + b' * 2 ^ (64 * (a + n + 1)) := by
  rw [Nat.mod_eq_of_lt hD] at h
  have h1 := setl_eq U (a + n) lo
  rw [pow64_succ, ← Nat.mul_assoc]
  have h2 : lo * 2 ^ (64 * (a + n)) + c * 2 ^ (64 * (a + n)) + b * 2 ^ (64 * (a + n)) = limb U (a + n) * 2 ^ (64 * (a + n)) + b' * 18446744073709551616 * 2 ^ (64 * (a + n)) := by
    rw [← Nat.add_mul, ← Nat.add_mul, hlo, Nat.add_mul]
  rw [Nat.add_mul] at h
  generalize 2 ^ (64 * (a + n)) = K at *
  clear hlo
  generalize b' * 18446744073709551616 * K = z1 at *
  generalize limb U (a + n) * K = z2 at *
  generalize lo * K = z3 at *
  generalize c * K = z4 at *
  generalize b * K = z5 at *
  generalize q * D * 2 ^ (64 * a) = z6 at *
  omega
/-! ### Giving back -/
theorem back_step {U V D a i c c' lo : Nat} (h : U + c * 2 ^ (64 * (a + i)) = V + (D % 2 ^ (64 * i)) * 2 ^ (64 * a)) (hlo : lo + c' * 18446744073709551616 = limb U (a + i) + limb D i + c) :
    setl U (a + i) lo + c' * 2 ^ (64 * (a + (i + 1))) = V + (D % 2 ^ (64 * (i + 1))) * 2 ^ (64 * a) := by
  have h1 := setl_eq U (a + i) lo
  rw [mod_succ_limb, ← Nat.add_assoc, pow64_succ, ← Nat.mul_assoc]
  have h2 : lo * 2 ^ (64 * (a + i)) + c' * 18446744073709551616 * 2 ^ (64 * (a + i)) = limb U (a + i) * 2 ^ (64 * (a + i)) + limb D i * 2 ^ (64 * (a + i)) + c * 2 ^ (64 * (a + i)) := by
    rw [← Nat.add_mul, ← Nat.add_mul, ← Nat.add_mul, hlo]
  have h3 : (D % 2 ^ (64 * i) + 2 ^ (64 * i) * limb D i) * 2 ^ (64 * a) = D % 2 ^ (64 * i) * 2 ^ (64 * a) + limb D i * 2 ^ (64 * (a + i)) := by
    rw [pow64_add]; grind
  rw [h3]
  generalize 2 ^ (64 * (a + i)) = K at *
  clear hlo h3
  generalize c' * 18446744073709551616 * K = z1 at *
  generalize limb U (a + i) * K = z2 at *
  generalize lo * K = z3 at *
  generalize c * K = z4 at *
  generalize limb D i * K = z5 at *
  generalize D % 2 ^ (64 * i) * 2 ^ (64 * a) = z6 at *
  omega
theorem add_word {l d c : Nat} : (l + d + c) % 18446744073709551616 + (l + d + c) / 18446744073709551616 * 18446744073709551616 = l + d + c := by
  have := Nat.mod_add_div (l + d + c) 18446744073709551616
  rw [Nat.mul_comm (_ / _), this]
theorem add_carry {l d c : Nat} (hl : l < 18446744073709551616) (hd : d < 18446744073709551616) (hc : c ≤ 1) : (l + d + c) / 18446744073709551616 ≤ 1 := by omega
/-! ### A word of the quotient -/
theorem quo_word {U U0 D T x a : Nat} (hT : U < T) (h : U + x * D * 2 ^ (64 * a) = U0 + T) (hq : U0 / 2 ^ (64 * a) / D ≤ x) (hD : 0 < D) : U0 / 2 ^ (64 * a) / D ≤ x - 1 ∧ 0 < x := by
  have h1 : U0 < x * D * 2 ^ (64 * a) := by omega
  have h2 : U0 / 2 ^ (64 * a) / D < x := by
    rw [Nat.div_lt_iff_lt_mul hD, Nat.div_lt_iff_lt_mul (pow64_pos _)]; exact h1
  generalize U0 / 2 ^ (64 * a) / D = z at *
  omega
theorem quo_back {U U' U0 D T x a : Nat} {c : Nat} (hx : 0 < x) (h : U + x * D * 2 ^ (64 * a) = U0 + T) (hb : U' + c * T = U + D * 2 ^ (64 * a)) (hc : c ≤ 1) : U' + (x - 1) * D * 2 ^ (64 * a) = U0 + (1 - c) * T := by
  obtain ⟨y, rfl⟩ : ∃ y, x = y + 1 := ⟨x - 1, by omega⟩
  rw [Nat.add_sub_cancel]
  rw [Nat.add_mul, Nat.add_mul, Nat.one_mul] at h
  generalize y * D * 2 ^ (64 * a) = z at *
  generalize D * 2 ^ (64 * a) = z2 at *
  rcases Nat.le_one_iff_eq_zero_or_eq_one.1 hc with rfl | rfl <;> simp at * <;> omega
theorem quo_done {U U0 D x a : Nat} (hD : 0 < D) (h : U + x * D * 2 ^ (64 * a) = U0) (hq : U0 / 2 ^ (64 * a) / D ≤ x) : U < D * 2 ^ (64 * a) := by
  have h1 : U0 < (x + 1) * D * 2 ^ (64 * a) := by
    have : U0 / 2 ^ (64 * a) / D < x + 1 := by omega
    rw [Nat.div_lt_iff_lt_mul hD, Nat.div_lt_iff_lt_mul (pow64_pos _)] at this
    exact this
  rw [Nat.add_mul, Nat.add_mul, Nat.one_mul] at h1
  omega
theorem quo_lt {U0 D a : Nat} (hD : 0 < D) (h : U0 < D * 2 ^ (64 * (a + 1))) : U0 / 2 ^ (64 * a) / D < 18446744073709551616 := by
  rw [Nat.div_lt_iff_lt_mul hD, Nat.div_lt_iff_lt_mul (pow64_pos _)]
  rw [pow64_succ] at h
  calc U0 < D * (18446744073709551616 * 2 ^ (64 * a)) := h
    _ = 18446744073709551616 * D * 2 ^ (64 * a) := by rw [← Nat.mul_assoc, Nat.mul_comm D]
/-- At the end: what is left, shifted back. -/
theorem div_end {W m Q U : Nat} (hm : m ≠ 0) (h : U + Q * dnm m = W * 2 ^ dsh m) (hU : U < dnm m) : Q = W / m ∧ U / 2 ^ dsh m = W % m := by
  have hp : 0 < 2 ^ dsh m := Nat.pow_pos (by decide)
  have hm0 : 0 < m := Nat.pos_of_ne_zero hm
  unfold dnm at *
  have h1 : U = (W - Q * m) * 2 ^ dsh m := by
    rw [Nat.sub_mul, Nat.mul_assoc]; omega
  have hle : Q * m ≤ W := by
    have : Q * m * 2 ^ dsh m ≤ W * 2 ^ dsh m := by rw [Nat.mul_assoc]; omega
    exact Nat.le_of_mul_le_mul_right this hp
  have h2 : W - Q * m < m := by
    rw [h1] at hU
    exact Nat.lt_of_mul_lt_mul_right hU
  have h3 : W = m * Q + (W - Q * m) := by rw [Nat.mul_comm m]; omega
  generalize W - Q * m = r at *
  subst h3
  constructor
  · rw [Nat.mul_add_div hm0, Nat.div_eq_of_lt h2, Nat.add_zero]
  · rw [h1, Nat.mul_div_cancel _ hp, Nat.mul_add_mod, Nat.mod_eq_of_lt h2]
/-- At the begin. -/
theorem div_begin {W m l : Nat} (hm : m ≠ 0) (hl : nw m ≤ l) (hW : W < 2 ^ (64 * l)) : W * 2 ^ dsh m < dnm m * 2 ^ (64 * (l - nw m + 1)) := by
  have h1 := dnm_ge hm
  have h2 := dsh_lt hm
  have h3 : 2 ^ (64 * (l - nw m + 1)) * 2 ^ (64 * nw m) = 18446744073709551616 * 2 ^ (64 * l) := by
    rw [← pow64_add, ← pow64_succ]; congr 2; omega
  have h4 : W * 2 ^ dsh m < 2 ^ (64 * l) * 2 ^ dsh m := Nat.mul_lt_mul_of_pos_right hW (Nat.pow_pos (by decide))
  have h5 : 2 ^ (64 * l) * 2 ^ dsh m ≤ 2 ^ (64 * l) * 2 ^ 63 := Nat.mul_le_mul_left _ (Nat.pow_le_pow_right (by decide) (by omega))
  have h6 : 2 ^ (64 * (l - nw m + 1)) * 2 ^ (64 * nw m) ≤ 2 ^ (64 * (l - nw m + 1)) * (2 * dnm m) := Nat.mul_le_mul_left _ h1
  rw [h3, Nat.mul_comm _ (2 * dnm m), Nat.mul_assoc] at h6
  generalize dnm m * 2 ^ (64 * (l - nw m + 1)) = z at *
  generalize 2 ^ (64 * l) * 2 ^ dsh m = z2 at *
  generalize 2 ^ (64 * l) = z3 at *
  omega
theorem div_short {W m l : Nat} (hm : m ≠ 0) (hl : l < nw m) (hW : W < 2 ^ (64 * l)) : W * 2 ^ dsh m < dnm m := by
  unfold dnm
  apply Nat.mul_lt_mul_of_pos_right _ (Nat.pow_pos (by decide))
  have h1 := nw_pos hm
  refine Nat.lt_of_lt_of_le hW (Nat.le_trans (Nat.pow_le_pow_right (by decide) ?_) (blen_pos hm))
  have := blen_ne hm
  unfold nw at *; omega
/-! ### The dividend shifted, word by word -/
theorem fill_word {W s i : Nat} (hs : s < 64) : limb (W % 2 ^ (64 * i) * 2 ^ s) i < 2 ^ s ∧ limb (W % 2 ^ (64 * i) * 2 ^ s) (i + 1) = 0 := by
  have h : W % 2 ^ (64 * i) * 2 ^ s < 2 ^ s * 2 ^ (64 * i) := by
    rw [Nat.mul_comm (2 ^ s)]; exact Nat.mul_lt_mul_of_pos_right (Nat.mod_lt _ (pow64_pos _)) (Nat.pow_pos (by decide))
  have h2 : W % 2 ^ (64 * i) * 2 ^ s / 2 ^ (64 * i) < 2 ^ s := by rw [Nat.div_lt_iff_lt_mul (pow64_pos _)]; exact h
  constructor
  · exact Nat.lt_of_le_of_lt (Nat.mod_le _ _) h2
  · apply limb_high _ (Nat.le_refl _)
    rw [pow64_succ]
    refine Nat.lt_of_lt_of_le h (Nat.mul_le_mul_right _ ?_)
    have : 2 ^ s ≤ 2 ^ 64 := Nat.pow_le_pow_right (by decide) (by omega)
    omega
theorem fill_step {W s i : Nat} (hs : s < 64) (j : Nat) : limb (W % 2 ^ (64 * (i + 1)) * 2 ^ s) j =
    if j = i + 1 then limb W i / 2 ^ (64 - s) else if j = i then (limb (W % 2 ^ (64 * i) * 2 ^ s) i ||| limb W i * 2 ^ s % 18446744073709551616) else limb (W % 2 ^ (64 * i) * 2 ^ s) j := by
  obtain ⟨h1, h2⟩ := fill_word (W := W) (i := i) hs
  have hl := limb_lt W i
  have e1 : (18446744073709551616 : Nat) = 2 ^ s * 2 ^ (64 - s) := by rw [← Nat.pow_add, show s + (64 - s) = 64 by omega]
  have e2 : limb W i * 2 ^ s = limb W i * 2 ^ s % 18446744073709551616 + 18446744073709551616 * (limb W i / 2 ^ (64 - s)) := by
    have := Nat.mod_add_div (limb W i * 2 ^ s) 18446744073709551616
    have e3 : limb W i * 2 ^ s / 18446744073709551616 = limb W i / 2 ^ (64 - s) := by
      rw [e1, ← Nat.div_div_eq_div_mul, Nat.mul_div_cancel _ (Nat.pow_pos (by decide))]
    rw [← e3]; omega
  have hN : W % 2 ^ (64 * (i + 1)) * 2 ^ s = (W % 2 ^ (64 * i) * 2 ^ s + (limb W i * 2 ^ s % 18446744073709551616) * 2 ^ (64 * i)) + (limb W i / 2 ^ (64 - s)) * 2 ^ (64 * (i + 1)) := by
    rw [mod_succ_limb, Nat.add_mul, Nat.mul_assoc, pow64_succ]
    have key : ∀ lo hi K z y : Nat, z = lo + 18446744073709551616 * hi → y + K * z = y + lo * K + hi * (18446744073709551616 * K) := by
      intro lo hi K z y h
      subst h
      grind
    exact key _ _ _ _ _ e2
  have hor := or_high (a := limb (W % 2 ^ (64 * i) * 2 ^ s) i) (z := limb W i) h1 (by omega)
  rw [hor]
  have hlt : limb (W % 2 ^ (64 * i) * 2 ^ s) i + limb W i * 2 ^ s % 18446744073709551616 < 18446744073709551616 := by
    obtain ⟨y, hy, hy2⟩ : ∃ y, limb W i * 2 ^ s % 18446744073709551616 = y * 2 ^ s ∧ y + 1 ≤ 2 ^ (64 - s) := by
      refine ⟨limb W i % 2 ^ (64 - s), ?_, Nat.mod_lt _ (Nat.pow_pos (by decide))⟩
      rw [e1, Nat.mul_comm (2 ^ s), Nat.mul_mod_mul_right]
    have h5 := Nat.mul_le_mul_right (2 ^ s) hy2
    rw [Nat.mul_comm (2 ^ (64 - s)), ← e1, Nat.add_mul] at h5
    rw [hy]; omega
  have h3 : ∀ j, limb (W % 2 ^ (64 * i) * 2 ^ s + (limb W i * 2 ^ s % 18446744073709551616) * 2 ^ (64 * i)) j = if j = i then limb (W % 2 ^ (64 * i) * 2 ^ s) i + limb W i * 2 ^ s % 18446744073709551616 else limb (W % 2 ^ (64 * i) * 2 ^ s) j :=
    fun j => limb_addl _ _ _ _ hlt
  have h4 : limb W i / 2 ^ (64 - s) < 18446744073709551616 := Nat.lt_of_le_of_lt (Nat.div_le_self _ _) hl
  rw [hN, limb_addl _ _ _ _ (by rw [h3, if_neg (by omega), h2]; omega), h3, h3]
  by_cases hj : j = i + 1
  · rw [if_pos hj, if_pos hj, if_neg (by omega), h2, Nat.zero_add]
  · rw [if_neg hj, if_neg hj]
end Go.Proofs.Ytljblbgogjieaaa
