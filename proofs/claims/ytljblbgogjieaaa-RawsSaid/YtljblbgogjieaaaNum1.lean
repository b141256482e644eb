/- Numbers as rows of 32-bit digits: carries, borrows, products, long division digit by digit. -/
import Derived.Test.YtljblbgogjieaaaMath5
set_option linter.unusedVariables false
namespace Go.Proofs.Ytljblbgogjieaaa.D
open Go Go.RowKit
def limb (A i : Nat) : Nat := A / 2 ^ (32 * i) % 4294967296
theorem limb_lt (A i : Nat) : limb A i < 4294967296 := Nat.mod_lt _ (by decide)
/-- The carry into word i of a sum. -/
def carry (A B i : Nat) : Nat := (A % 2 ^ (32 * i) + B % 2 ^ (32 * i)) / 2 ^ (32 * i)
theorem pow64_succ (i : Nat) : 2 ^ (32 * (i + 1)) = 4294967296 * 2 ^ (32 * i) := by
  rw [show 32 * (i + 1) = 32 + 32 * i by omega, Nat.pow_add]
theorem pow64_pos (i : Nat) : 0 < 2 ^ (32 * i) := Nat.pow_pos (by decide)
theorem carry_le (A B i : Nat) : carry A B i ≤ 1 := by
  unfold carry
  have h := pow64_pos i
  have h1 := Nat.mod_lt A h
  have h2 := Nat.mod_lt B h
  have : (A % 2 ^ (32 * i) + B % 2 ^ (32 * i)) / 2 ^ (32 * i) < 2 := by
    rw [Nat.div_lt_iff_lt_mul h]; omega
  omega
theorem mod_succ_limb (A i : Nat) : A % 2 ^ (32 * (i + 1)) = A % 2 ^ (32 * i) + 2 ^ (32 * i) * limb A i := by
  unfold limb
  rw [pow64_succ, Nat.mul_comm, Nat.mod_mul]
/-- One word of a sum. -/
theorem add_limb (A B i : Nat) : limb A i + limb B i + carry A B i = limb (A + B) i + 4294967296 * carry A B (i + 1) := by
  have hp := pow64_pos i
  have ha := mod_succ_limb A i
  have hb := mod_succ_limb B i
  have hla := limb_lt A i
  have hlb := limb_lt B i
  -- work with M = 2^(32 i)
  have hc : A % 2 ^ (32 * i) + B % 2 ^ (32 * i) = (A % 2 ^ (32 * i) + B % 2 ^ (32 * i)) % 2 ^ (32 * i) + 2 ^ (32 * i) * carry A B i := by
    unfold carry; exact (Nat.mod_add_div _ _).symm
  have hc1 : carry A B (i + 1) = (limb A i + limb B i + carry A B i) / 4294967296 := by
    unfold carry
    rw [ha, hb, pow64_succ]
    have e : A % 2 ^ (32 * i) + 2 ^ (32 * i) * limb A i + (B % 2 ^ (32 * i) + 2 ^ (32 * i) * limb B i) =
        (A % 2 ^ (32 * i) + B % 2 ^ (32 * i)) % 2 ^ (32 * i) + 2 ^ (32 * i) * (limb A i + limb B i + carry A B i) := by
      rw [Nat.mul_add, Nat.mul_add]; omega
    rw [e, Nat.mul_comm 4294967296, ← Nat.div_div_eq_div_mul, Nat.add_mul_div_left _ _ hp, Nat.div_eq_of_lt (Nat.mod_lt _ hp), Nat.zero_add]
    rfl
  have hl : limb (A + B) i = (limb A i + limb B i + carry A B i) % 4294967296 := by
    have hA : A / 2 ^ (32 * i) * 2 ^ (32 * i) + A % 2 ^ (32 * i) = A := by rw [Nat.mul_comm]; exact Nat.div_add_mod _ _
    have hB : B / 2 ^ (32 * i) * 2 ^ (32 * i) + B % 2 ^ (32 * i) = B := by rw [Nat.mul_comm]; exact Nat.div_add_mod _ _
    have hs : (A + B) / 2 ^ (32 * i) = A / 2 ^ (32 * i) + B / 2 ^ (32 * i) + carry A B i := by
      have e : A + B = (A % 2 ^ (32 * i) + B % 2 ^ (32 * i)) % 2 ^ (32 * i) + 2 ^ (32 * i) * (A / 2 ^ (32 * i) + B / 2 ^ (32 * i) + carry A B i) := by
        rw [Nat.mul_add, Nat.mul_add, Nat.mul_comm _ (A / _), Nat.mul_comm _ (B / _)]; omega
      rw [e, Nat.add_mul_div_left _ _ hp, Nat.div_eq_of_lt (Nat.mod_lt _ hp), Nat.zero_add]
    unfold limb
    rw [hs]
    omega
  rw [hl, hc1]
  exact (Nat.mod_add_div _ _).symm
theorem carry_zero (A B : Nat) : carry A B 0 = 0 := by simp [carry, Nat.mod_one]
/-- The borrow into word i of a difference. -/
def borrow (A B i : Nat) : Nat := if A % 2 ^ (32 * i) < B % 2 ^ (32 * i) then 1 else 0
theorem borrow_le (A B i : Nat) : borrow A B i ≤ 1 := by unfold borrow; split <;> omega
theorem borrow_zero (A B : Nat) : borrow A B 0 = 0 := by simp [borrow, Nat.mod_one]
theorem borrow_succ (A B i : Nat) : borrow A B (i + 1) = if limb A i < limb B i + borrow A B i then 1 else 0 := by
  have hp := pow64_pos i
  have ha := mod_succ_limb A i
  have hb := mod_succ_limb B i
  have h1 := Nat.mod_lt A hp
  have h2 := Nat.mod_lt B hp
  unfold borrow
  rw [ha, hb]
  generalize A % 2 ^ (32 * i) = a at *
  generalize B % 2 ^ (32 * i) = b at *
  generalize 2 ^ (32 * i) = M at *
  generalize limb A i = x at *
  generalize limb B i = y at *
  have key : ∀ x y : Nat, x < y → a + M * x < b + M * y := by
    intro x y h
    have : M * (x + 1) ≤ M * y := Nat.mul_le_mul_left _ h
    rw [Nat.mul_add] at this; omega
  have key2 : ∀ x y a b : Nat, a < M → b < M → x < y → a + M * x < b + M * y := by
    intro x y a b ha hb h
    have : M * (x + 1) ≤ M * y := Nat.mul_le_mul_left _ h
    rw [Nat.mul_add] at this; omega
  rcases Nat.lt_trichotomy x y with h | h | h
  · have := key2 x y a b h1 h2 h
    by_cases hab : a < b <;> simp [hab, this] <;> omega
  · subst h
    by_cases hab : a < b <;> simp [hab]
  · have := key2 y x b a h2 h1 h
    have h3 : ¬ (a + M * x < b + M * y) := by omega
    by_cases hab : a < b <;> simp [hab, h3] <;> omega
/-- How many words a number has. -/
def nw (A : Nat) : Nat := (blen A + 31) / 32
theorem lt_nw (A : Nat) : A < 2 ^ (32 * nw A) := Nat.lt_of_lt_of_le (lt_blen A) (Nat.pow_le_pow_right (by decide) (by unfold nw; omega))
theorem nw_le {A n : Nat} (h : A < 2 ^ (32 * n)) : nw A ≤ n := by have := blen_le h; unfold nw; omega
theorem nw_eq {A n : Nat} (h1 : A < 2 ^ (32 * n)) (h2 : n = 0 ∨ 2 ^ (32 * (n - 1)) ≤ A) : nw A = n := by
  have := nw_le h1
  rcases h2 with h2 | h2
  · omega
  · have := le_blen h2; unfold nw at *; omega
theorem limb_top {A n : Nat} (h : A < 2 ^ (32 * (n + 1))) : limb A n = A / 2 ^ (32 * n) := by
  unfold limb
  apply Nat.mod_eq_of_lt
  rw [Nat.div_lt_iff_lt_mul (pow64_pos n)]
  rw [pow64_succ] at h; exact h
theorem lt_of_limb_zero {A n : Nat} (h : A < 2 ^ (32 * (n + 1))) (hl : limb A n = 0) : A < 2 ^ (32 * n) := by
  rw [limb_top h] at hl
  rcases Nat.lt_or_ge A (2 ^ (32 * n)) with h' | h'
  · exact h'
  · have := Nat.div_pos h' (pow64_pos n); omega
theorem le_of_limb {A n : Nat} (h : A < 2 ^ (32 * (n + 1))) (hl : limb A n ≠ 0) : 2 ^ (32 * n) ≤ A := by
  rw [limb_top h] at hl
  rcases Nat.lt_or_ge A (2 ^ (32 * n)) with h' | h'
  · exact absurd (Nat.div_eq_of_lt h') hl
  · exact h'
theorem limb_high {A n i : Nat} (h : A < 2 ^ (32 * n)) (hi : n ≤ i) : limb A i = 0 := by
  unfold limb
  rw [Nat.div_eq_of_lt (Nat.lt_of_lt_of_le h (Nat.pow_le_pow_right (by decide) (by omega)))]
theorem div_pow_succ (A i : Nat) : A / 2 ^ (32 * i) = limb A i + 4294967296 * (A / 2 ^ (32 * (i + 1))) := by
  unfold limb
  rw [pow64_succ, Nat.mul_comm 4294967296 (2 ^ (32 * i)), ← Nat.div_div_eq_div_mul]
  exact (Nat.mod_add_div _ _).symm
theorem div_eq_iff_limb (A B i : Nat) : A / 2 ^ (32 * i) = B / 2 ^ (32 * i) ↔ A / 2 ^ (32 * (i + 1)) = B / 2 ^ (32 * (i + 1)) ∧ limb A i = limb B i := by
  have h1 := div_pow_succ A i
  have h2 := div_pow_succ B i
  have h3 := limb_lt A i
  have h4 := limb_lt B i
  omega
theorem lt_of_limb {A B i : Nat} (h : A / 2 ^ (32 * (i + 1)) = B / 2 ^ (32 * (i + 1))) (hl : limb A i < limb B i) : A < B := by
  have h1 := div_pow_succ A i
  have h2 := div_pow_succ B i
  have h3 : A / 2 ^ (32 * i) < B / 2 ^ (32 * i) := by omega
  rcases Nat.lt_or_ge A B with h' | h'
  · exact h'
  · have := Nat.div_le_div_right (c := 2 ^ (32 * i)) h'; omega
theorem pow64_add (p j : Nat) : 2 ^ (32 * (p + j)) = 2 ^ (32 * p) * 2 ^ (32 * j) := by rw [Nat.mul_add, Nat.pow_add]
/-- What is added to one word, if it does not run over, changes that word alone. -/
theorem limb_addl (V y p j : Nat) (h : limb V p + y < 4294967296) : limb (V + y * 2 ^ (32 * p)) j = if j = p then limb V p + y else limb V j := by
  have hp := pow64_pos p
  have hV : V + y * 2 ^ (32 * p) = V % 2 ^ (32 * p) + 2 ^ (32 * p) * (V / 2 ^ (32 * p) + y) := by
    have := Nat.mod_add_div V (2 ^ (32 * p))
    rw [Nat.mul_add, Nat.mul_comm y]; omega
  rcases Nat.lt_trichotomy j p with h1 | h1 | h1
  · rw [if_neg (by omega)]
    obtain ⟨q, rfl⟩ : ∃ q, p = j + (q + 1) := ⟨p - j - 1, by omega⟩
    unfold limb
    rw [pow64_add, pow64_succ, Nat.mul_left_comm, Nat.add_mul_div_left _ _ (pow64_pos j), Nat.mul_left_comm, Nat.add_mul_mod_self_left]
  · subst h1
    rw [if_pos rfl]
    unfold limb at *
    rw [hV, Nat.add_mul_div_left _ _ hp, Nat.div_eq_of_lt (Nat.mod_lt _ hp), Nat.zero_add]
    omega
  · rw [if_neg (by omega)]
    obtain ⟨q, rfl⟩ : ∃ q, j = p + 1 + q := ⟨j - p - 1, by omega⟩
    have key : ∀ X, X / 2 ^ (32 * (p + 1 + q)) = X / 2 ^ (32 * p) / 4294967296 / 2 ^ (32 * q) := by
      intro X
      rw [pow64_add, pow64_succ, Nat.div_div_eq_div_mul, Nat.div_div_eq_div_mul, Nat.mul_comm 4294967296, Nat.mul_assoc]
    unfold limb
    rw [key, key, hV, Nat.add_mul_div_left _ _ hp, Nat.div_eq_of_lt (Nat.mod_lt _ hp), Nat.zero_add]
    unfold limb at h
    congr 2
    omega
/-- Word p set to y. -/
def setl (X p y : Nat) : Nat := X - limb X p * 2 ^ (32 * p) + y * 2 ^ (32 * p)
theorem limb_mul_le (X p : Nat) : limb X p * 2 ^ (32 * p) ≤ X := by
  have h1 : limb X p ≤ X / 2 ^ (32 * p) := Nat.mod_le _ _
  exact Nat.le_trans (Nat.mul_le_mul_right _ h1) (Nat.div_mul_le_self _ _)
theorem setl_eq (X p y : Nat) : setl X p y + limb X p * 2 ^ (32 * p) = X + y * 2 ^ (32 * p) := by
  have := limb_mul_le X p
  unfold setl; omega
theorem limb_clear (X p j : Nat) : limb (X - limb X p * 2 ^ (32 * p)) j = if j = p then 0 else limb X j := by
  have hle := limb_mul_le X p
  generalize hY : X - limb X p * 2 ^ (32 * p) = Y
  have hX : X = Y + limb X p * 2 ^ (32 * p) := by omega
  have h0 : limb Y p = 0 := by
    have hp := pow64_pos p
    rw [← hY]
    unfold limb
    have : X - X / 2 ^ (32 * p) % 4294967296 * 2 ^ (32 * p) = X % 2 ^ (32 * p) + 2 ^ (32 * p) * (4294967296 * (X / 2 ^ (32 * p) / 4294967296)) := by
      have h1 := Nat.mod_add_div X (2 ^ (32 * p))
      have h2 := Nat.mod_add_div (X / 2 ^ (32 * p)) 4294967296
      have h3 : 2 ^ (32 * p) * (X / 2 ^ (32 * p)) = X / 2 ^ (32 * p) % 4294967296 * 2 ^ (32 * p) + 2 ^ (32 * p) * (4294967296 * (X / 2 ^ (32 * p) / 4294967296)) := by
        conv => lhs; rw [← h2]
        rw [Nat.mul_add, Nat.mul_comm (2 ^ (32 * p)) (X / 2 ^ (32 * p) % 4294967296)]
      omega
    rw [this, Nat.add_mul_div_left _ _ hp, Nat.div_eq_of_lt (Nat.mod_lt _ hp), Nat.zero_add, Nat.mul_mod_right]
  have hb := limb_lt X p
  have := limb_addl Y (limb X p) p j (by omega)
  rw [← hX] at this
  by_cases h : j = p
  · subst h; rw [if_pos rfl]; exact h0
  · rw [if_neg h] at this ⊢; exact this.symm
theorem limb_setl (X p y j : Nat) (hy : y < 4294967296) : limb (setl X p y) j = if j = p then y else limb X j := by
  unfold setl
  have h0 := limb_clear X p p
  rw [if_pos rfl] at h0
  rw [limb_addl _ _ _ _ (by rw [h0]; omega), h0, limb_clear]
  by_cases h : j = p
  · subst h; simp
  · simp [h]
theorem setl_lt {X p y q : Nat} (hX : X < 2 ^ (32 * q)) (hp : p < q) (hy : y < 4294967296) : setl X p y < 2 ^ (32 * q) := by
  have hpp := pow64_pos p
  obtain ⟨k, rfl⟩ : ∃ k, q = p + 1 + k := ⟨q - p - 1, by omega⟩
  rw [pow64_add, pow64_succ] at hX ⊢
  unfold setl
  generalize hR : X / 2 ^ (32 * p) / 4294967296 = R
  have h1 := Nat.mod_add_div X (2 ^ (32 * p))
  have h2 := Nat.mod_add_div (X / 2 ^ (32 * p)) 4294967296
  have h3 : 2 ^ (32 * p) * (X / 2 ^ (32 * p)) = limb X p * 2 ^ (32 * p) + 2 ^ (32 * p) * (4294967296 * R) := by
    conv => lhs; rw [← h2]
    rw [Nat.mul_add, Nat.mul_comm (2 ^ (32 * p)) (X / 2 ^ (32 * p) % 4294967296), hR]; rfl
  have h4 : X - limb X p * 2 ^ (32 * p) = X % 2 ^ (32 * p) + 2 ^ (32 * p) * (4294967296 * R) := by omega
  have hRk : R < 2 ^ (32 * k) := by
    rw [← hR, Nat.div_div_eq_div_mul, Nat.div_lt_iff_lt_mul (Nat.mul_pos hpp (by decide))]
    calc X < 4294967296 * 2 ^ (32 * p) * 2 ^ (32 * k) := hX
      _ = 2 ^ (32 * k) * (2 ^ (32 * p) * 4294967296) := by rw [Nat.mul_comm, Nat.mul_comm 4294967296]
  rw [h4]
  have hm := Nat.mod_lt X hpp
  have h5 : 2 ^ (32 * p) * (4294967296 * (R + 1)) ≤ 2 ^ (32 * p) * (4294967296 * 2 ^ (32 * k)) := Nat.mul_le_mul_left _ (Nat.mul_le_mul_left _ hRk)
  have h6 : 4294967296 * 2 ^ (32 * p) * 2 ^ (32 * k) = 2 ^ (32 * p) * (4294967296 * 2 ^ (32 * k)) := by rw [Nat.mul_comm 4294967296, Nat.mul_assoc]
  have h7 : y * 2 ^ (32 * p) ≤ 4294967295 * 2 ^ (32 * p) := Nat.mul_le_mul_right _ (by omega)
  have h8 : 2 ^ (32 * p) * (4294967296 * (R + 1)) = 2 ^ (32 * p) * (4294967296 * R) + 4294967296 * 2 ^ (32 * p) := by
    rw [Nat.mul_add, Nat.mul_add, Nat.mul_one, Nat.mul_comm (2 ^ (32 * p)) 4294967296]
  omega
/-- The words of a number with one word set. -/
theorem vec_setl {n X p y : Nat} (hy : y < 4294967296) : vec .u32 n (fun j => if j = p then y else limb X j) = vec .u32 n (limb (setl X p y)) :=
  vec_congr fun i _ => (limb_setl X p y i hy).symm

theorem vec_zeros (n : Nat) : vec .u32 n (fun _ => 0) = vec .u32 n (limb 0) := vec_congr fun i _ => by simp [limb]
/-! ### One row of a product -/
theorem row_alg {X X' l c P r b a t hi lo K K' I Kk : Nat} (h1 : X' + l * K = X + lo * K) (h2 : lo * K + hi * K' = t * K) (h : X + c * K = P + a * r * I) (ht : t = a * b + l + c) (hK : K = I * Kk) :
    X' + hi * K' = P + a * (r + Kk * b) * I := by
  have e : a * (r + Kk * b) * I = a * r * I + a * b * K := by rw [hK]; grind
  rw [e]
  have h3 : t * K = a * b * K + l * K + c * K := by rw [ht, Nat.add_mul, Nat.add_mul]
  clear ht e hK
  generalize a * r * I = z1 at *
  generalize a * b * K = z2 at *
  generalize c * K = z3 at *
  generalize l * K = z4 at *
  generalize lo * K = z5 at *
  generalize hi * K' = z6 at *
  omega
theorem row_step {X c P B i k a b t : Nat} (h : X + c * 2 ^ (32 * (i + k)) = P + a * (B % 2 ^ (32 * k)) * 2 ^ (32 * i)) (hb : b = limb B k) (ht : t = a * b + limb X (i + k) + c) :
    setl X (i + k) (t % 4294967296) + t / 4294967296 * 2 ^ (32 * (i + (k + 1))) = P + a * (B % 2 ^ (32 * (k + 1))) * 2 ^ (32 * i) := by
  rw [mod_succ_limb, ← hb]
  refine row_alg (setl_eq X (i + k) (t % 4294967296)) ?_ h ht (pow64_add i k)
  rw [← Nat.add_assoc, pow64_succ, ← Nat.mul_assoc, ← Nat.add_mul]
  have := Nat.mod_add_div t 4294967296
  rw [Nat.mul_comm (t / _), this]
theorem row_word {a b x c : Nat} (ha : a < 4294967296) (hb : b < 4294967296) (hx : x < 4294967296) (hc : c < 4294967296) :
    a * b + x + c < 4294967296 * 4294967296 := by
  have := Nat.mul_le_mul (show a ≤ 4294967295 by omega) (show b ≤ 4294967295 by omega)
  omega
/-- What the code makes of a product's halves, a word and a carry. -/
theorem row_parts {p x c : Nat} (hx : x < 4294967296) (hc : c < 4294967296) (h : p + x + c < 4294967296 * 4294967296) :
    ((p % 4294967296 + x + 0) % 4294967296 + c + 0) % 4294967296 = (p + x + c) % 4294967296 ∧
    ((p / 4294967296 + (p % 4294967296 + x + 0) / 4294967296) % 4294967296 + ((p % 4294967296 + x + 0) % 4294967296 + c + 0) / 4294967296) % 4294967296 = (p + x + c) / 4294967296 := by
  constructor <;> omega
/-! ### Shifts -/
theorem limb_shr (A w r i : Nat) (hr : r < 32) : limb (A / 2 ^ (32 * w + r)) i = (limb A (i + w) / 2 ^ r + limb A (i + w + 1) * 2 ^ (32 - r) % 4294967296) := by
  have e : limb (A / 2 ^ (32 * w + r)) i = A / 2 ^ (32 * (i + w)) / 2 ^ r % 4294967296 := by
    unfold limb
    rw [Nat.div_div_eq_div_mul, Nat.div_div_eq_div_mul, ← Nat.pow_add, ← Nat.pow_add]
    congr 3; omega
  rw [e]
  have e2 : limb A (i + w + 1) = A / 2 ^ (32 * (i + w)) / 4294967296 % 4294967296 := by
    unfold limb
    rw [pow64_succ, Nat.div_div_eq_div_mul, Nat.mul_comm 4294967296]
  rw [e2]
  unfold limb
  generalize A / 2 ^ (32 * (i + w)) = q
  have h64 : (4294967296 : Nat) = 2 ^ r * 2 ^ (32 - r) := by rw [← Nat.pow_add, show r + (32 - r) = 32 by omega]
  have hR := Nat.pow_pos (n := r) (show 0 < 2 by decide)
  have hS := Nat.pow_pos (n := 32 - r) (show 0 < 2 by decide)
  -- q = q0 + M q1
  have h1 : q / 2 ^ r = q % 4294967296 / 2 ^ r + q / 4294967296 * 2 ^ (32 - r) := by
    conv => lhs; rw [← Nat.mod_add_div q 4294967296]
    rw [show 4294967296 * (q / 4294967296) = 2 ^ r * (q / 4294967296 * 2 ^ (32 - r)) by
      conv => lhs; rw [h64]
      rw [Nat.mul_assoc, Nat.mul_comm (2 ^ (32 - r)), ← h64]]
    rw [Nat.add_mul_div_left _ _ hR]
  rw [h1]
  have h2 : q % 4294967296 / 2 ^ r < 2 ^ (32 - r) := by
    rw [Nat.div_lt_iff_lt_mul hR, Nat.mul_comm, ← h64]; exact Nat.mod_lt _ (by decide)
  have h3 : ∀ z, z * 2 ^ (32 - r) % 4294967296 = z % 2 ^ r * 2 ^ (32 - r) := by
    intro z; rw [h64, Nat.mul_mod_mul_right]
  have h4 : ∀ z a, a < 2 ^ (32 - r) → (a + z * 2 ^ (32 - r)) % 4294967296 = a + z % 2 ^ r * 2 ^ (32 - r) := by
    intro z a ha
    rw [h64]
    have : (a + z * 2 ^ (32 - r)) = a + (z % 2 ^ r) * 2 ^ (32 - r) + (2 ^ r * 2 ^ (32 - r)) * (z / 2 ^ r) := by
      conv => lhs; rw [← Nat.mod_add_div z (2 ^ r)]
      rw [Nat.add_mul, Nat.mul_right_comm (2 ^ r)]; omega
    rw [this, Nat.add_mul_mod_self_left]
    apply Nat.mod_eq_of_lt
    have h5 : z % 2 ^ r < 2 ^ r := Nat.mod_lt _ hR
    have h6 := Nat.mul_le_mul_right (2 ^ (32 - r)) (show z % 2 ^ r + 1 ≤ 2 ^ r from h5)
    rw [Nat.add_mul] at h6
    omega
  rw [h4 _ _ h2, h3]
  congr 2
  rw [Nat.mod_mod_of_dvd]
  exact ⟨2 ^ (32 - r), h64⟩
theorem or_high {a z s : Nat} (ha : a < 2 ^ s) (hs : s ≤ 32) : a ||| z * 2 ^ s % 4294967296 = a + z * 2 ^ s % 4294967296 := by
  obtain ⟨y, hy⟩ : ∃ y, z * 2 ^ s % 4294967296 = y * 2 ^ s := by
    refine ⟨z % 2 ^ (32 - s), ?_⟩
    have : (4294967296 : Nat) = 2 ^ (32 - s) * 2 ^ s := by rw [← Nat.pow_add, show 32 - s + s = 32 by omega]
    rw [this, Nat.mul_mod_mul_right]
  rw [hy]
  have := Nat.shiftLeft_add_eq_or_of_lt ha y
  rw [Nat.shiftLeft_eq] at this
  rw [Nat.or_comm, ← this, Nat.add_comm]
theorem shr_or {A w r i : Nat} (hr : r < 32) : (limb A (i + w) / 2 ^ r ||| limb A (i + w + 1) * 2 ^ (32 - r) % 4294967296) = limb (A / 2 ^ (32 * w + r)) i := by
  rw [limb_shr A w r i hr, or_high _ (by omega)]
  rw [Nat.div_lt_iff_lt_mul (Nat.pow_pos (by decide)), ← Nat.pow_add, show 32 - r + r = 32 by omega]
  exact limb_lt _ _
theorem limb_small {x j : Nat} (hx : x < 4294967296) : limb x j = if j = 0 then x else 0 := by
  by_cases h : j = 0
  · subst h; rw [if_pos rfl]; unfold limb; rw [Nat.mul_zero, Nat.pow_zero, Nat.div_one, Nat.mod_eq_of_lt hx]
  · rw [if_neg h]
    apply limb_high (n := 1) _ (by omega)
    omega
/-- How far a divisor is shifted; the shifted divisor. -/
def dsh (m : Nat) : Nat := 32 * nw m - blen m
def dnm (m : Nat) : Nat := m * 2 ^ dsh m
theorem nw_pos {m : Nat} (h : m ≠ 0) : 0 < nw m := by have := blen_ne h; unfold nw; omega
theorem dsh_add (m : Nat) : blen m + dsh m = 32 * nw m := by unfold dsh nw; omega
theorem dsh_lt {m : Nat} (h : m ≠ 0) : dsh m < 32 := by have := blen_ne h; unfold dsh nw; omega
theorem dnm_lt (m : Nat) : dnm m < 2 ^ (32 * nw m) := by
  unfold dnm
  rw [← dsh_add, Nat.pow_add]
  exact Nat.mul_lt_mul_of_pos_right (lt_blen m) (Nat.pow_pos (by decide))
theorem dnm_ge {m : Nat} (h : m ≠ 0) : 2 ^ (32 * nw m) ≤ 2 * dnm m := by
  unfold dnm
  rw [← dsh_add, Nat.pow_add, ← Nat.mul_assoc]
  apply Nat.mul_le_mul_right
  have h1 := blen_pos h
  have h2 := blen_ne h
  obtain ⟨k, hk⟩ : ∃ k, blen m = k + 1 := ⟨blen m - 1, by omega⟩
  rw [hk, Nat.add_sub_cancel] at h1
  rw [hk, Nat.pow_succ]
  omega
theorem dnm_pos {m : Nat} (h : m ≠ 0) : 0 < dnm m := Nat.mul_pos (Nat.pos_of_ne_zero h) (Nat.pow_pos (by decide))
theorem dnm_top {m : Nat} (h : m ≠ 0) : limb (dnm m) (nw m - 1) = dnm m / 2 ^ (32 * (nw m - 1)) ∧ 2147483648 ≤ limb (dnm m) (nw m - 1) := by
  have hn := nw_pos h
  have h1 : limb (dnm m) (nw m - 1) = dnm m / 2 ^ (32 * (nw m - 1)) := limb_top (by rw [show nw m - 1 + 1 = nw m by omega]; exact dnm_lt m)
  refine ⟨h1, ?_⟩
  rw [h1, Nat.le_div_iff_mul_le (pow64_pos _)]
  have h2 := dnm_ge h
  rw [show nw m = nw m - 1 + 1 by omega, pow64_succ] at h2
  omega
theorem limb_up (m i : Nat) : limb (m * 4294967296) (i + 1) = limb m i ∧ limb (m * 4294967296) 0 = 0 := by
  constructor
  · unfold limb
    rw [pow64_succ, ← Nat.div_div_eq_div_mul, Nat.mul_div_cancel _ (by decide)]
  · unfold limb
    rw [Nat.mul_zero, Nat.pow_zero, Nat.div_one, Nat.mul_mod_left]
/-- One word of a shifted number. -/
theorem limb_shl (m s i : Nat) (hs : s < 32) (h0 : 0 < s) : limb (m * 2 ^ s) i = limb m i * 2 ^ s % 4294967296 + (if i = 0 then 0 else limb m (i - 1) / 2 ^ (32 - s)) := by
  have h := limb_shr (m * 4294967296) 0 (32 - s) i (by omega)
  have e : m * 4294967296 / 2 ^ (32 * 0 + (32 - s)) = m * 2 ^ s := by
    have : (4294967296 : Nat) = 2 ^ s * 2 ^ (32 - s) := by rw [← Nat.pow_add, show s + (32 - s) = 32 by omega]
    rw [Nat.mul_zero, Nat.zero_add, this, ← Nat.mul_assoc, Nat.mul_div_cancel _ (Nat.pow_pos (by decide))]
  rw [e, show 32 - (32 - s) = s by omega, Nat.add_zero, (limb_up m i).1] at h
  rw [h, Nat.add_comm]
  congr 1
  by_cases hi : i = 0
  · subst hi; rw [if_pos rfl, (limb_up m 0).2, Nat.zero_div]
  · rw [if_neg hi]
    obtain ⟨j, rfl⟩ : ∃ j, i = j + 1 := ⟨i - 1, by omega⟩
    rw [(limb_up m j).1]; rfl
theorem or_low {a z s : Nat} (ha : a < 4294967296) (h0 : 0 < s) (hs : s < 32) : (z * 2 ^ s % 4294967296 ||| a / 2 ^ (32 - s)) = z * 2 ^ s % 4294967296 + a / 2 ^ (32 - s) := by
  rw [Nat.or_comm, or_high _ (by omega), Nat.add_comm]
  rw [Nat.div_lt_iff_lt_mul (Nat.pow_pos (by decide)), ← Nat.pow_add, show s + (32 - s) = 32 by omega]
  exact ha
/-! ### The guess -/
theorem div_cut {R D k : Nat} (hk : 0 < k) (hd : 0 < D / k) : R / D ≤ R / k / (D / k) := by
  rw [Nat.le_div_iff_mul_le hd, Nat.le_div_iff_mul_le hk, Nat.mul_assoc]
  exact Nat.le_trans (Nat.mul_le_mul_left _ (Nat.div_mul_le_self D k)) (Nat.div_mul_le_self R D)
theorem guess_more {R D k q top r R2 d2 u2 M : Nat} (hk : 0 < k) (hD0 : 0 < D) (hD : D / k = top * M + d2) (hR : R / k = R2 * M + u2) (h1 : q * top + r = R2) (h2 : r * M + u2 < q * d2) : R / D < q := by
  rw [Nat.div_lt_iff_lt_mul hD0]
  have h3 : R < (R / k + 1) * k := by
    have := Nat.mod_add_div R k
    have := Nat.mod_lt R hk
    rw [Nat.add_mul, Nat.mul_comm (R / k)]; omega
  have h4 : R / k + 1 ≤ q * (D / k) := by
    rw [hD, hR, ← h1, Nat.mul_add, Nat.add_mul, Nat.mul_assoc]
    generalize q * (top * M) = z1 at *
    generalize r * M = z2 at *
    generalize q * d2 = z3 at *
    omega
  calc R < (R / k + 1) * k := h3
    _ ≤ q * (D / k) * k := Nat.mul_le_mul_right _ h4
    _ = q * (D / k * k) := Nat.mul_assoc _ _ _
    _ ≤ q * D := Nat.mul_le_mul_left _ (Nat.div_mul_le_self D k)
/-- The words of a window. -/
theorem limb_div (U a i : Nat) : limb (U / 2 ^ (32 * a)) i = limb U (a + i) := by
  unfold limb
  rw [Nat.div_div_eq_div_mul, ← Nat.pow_add, ← Nat.mul_add]
theorem two_words {R j : Nat} (h : R < 2 ^ (32 * (j + 2))) : R / 2 ^ (32 * j) = limb R (j + 1) * 4294967296 + limb R j := by
  rw [limb_top h, div_pow_succ R j]; omega
theorem next_word (R j : Nat) : R / 2 ^ (32 * j) = R / 2 ^ (32 * (j + 1)) * 4294967296 + limb R j := by
  rw [div_pow_succ R j]; omega
theorem win_lt {U D a n : Nat} (hD : D < 2 ^ (32 * n)) (h : U < D * 2 ^ (32 * (a + 1))) : U < 2 ^ (32 * (a + n + 1)) := by
  refine Nat.lt_trans h ?_
  rw [show a + n + 1 = n + (a + 1) by omega, pow64_add n (a + 1)]
  exact Nat.mul_lt_mul_of_pos_right hD (pow64_pos (a + 1))
theorem win_div {U a c : Nat} (h : U < 2 ^ (32 * (a + c))) : U / 2 ^ (32 * a) < 2 ^ (32 * c) := by
  have e : 2 ^ (32 * (a + c)) = 2 ^ (32 * c) * 2 ^ (32 * a) := (pow64_add a c).trans (Nat.mul_comm _ _)
  exact (Nat.div_lt_iff_lt_mul (pow64_pos a)).2 (e ▸ h)
/-! ### Taking away -/
theorem take_alg {U U0 l lo b b' c c' q r d K K' A Kk low M : Nat} (h1 : U + l * K = U0 + lo * K) (hb : lo + low + b = l + b' * M) (hc : low + c' * M = q * d + c) {V : Nat}
    (h : U0 + q * r * A = V + (b + c) * K) (hK : K = A * Kk) (hK' : K' = M * K) : U + q * (r + Kk * d) * A = V + (b' + c') * K' := by
  have e : q * (r + Kk * d) * A = q * r * A + q * d * K := by rw [hK]; grind
  rw [e]
  have h2 : lo * K + low * K + b * K = l * K + b' * K' := by rw [hK', ← Nat.add_mul, ← Nat.add_mul, hb]; grind
  have h3 : low * K + c' * K' = q * d * K + c * K := by rw [hK', ← Nat.add_mul, ← hc]; grind
  rw [Nat.add_mul] at h ⊢
  clear hK hK' e hb hc
  generalize q * r * A = z1 at *
  generalize q * d * K = z2 at *
  generalize c * K = z3 at *
  generalize l * K = z4 at *
  generalize lo * K = z5 at *
  generalize b' * K' = z6 at *
  generalize c' * K' = z7 at *
  generalize low * K = z8 at *
  generalize b * K = z9 at *
  omega
/-- A word less two things. -/
theorem sub_word {l low b : Nat} (hl : l < 4294967296) (hlow : low < 4294967296) (hb : b ≤ 1) :
    (l + 4294967296 - low - b) % 4294967296 + low + b = l + (if l < low + b then 1 else 0) * 4294967296 := by
  split <;> omega
theorem mul_word {q d c : Nat} (hq : q < 4294967296) (hd : d < 4294967296) (hc : c < 4294967296) : q * d + c < 4294967296 * 4294967296 := by
  have := Nat.mul_le_mul (show q ≤ 4294967295 by omega) (show d ≤ 4294967295 by omega)
  omega
theorem mul_parts {p c : Nat} (hc : c < 4294967296) (h : p + c < 4294967296 * 4294967296) :
    (p % 4294967296 + c + 0) % 4294967296 = (p + c) % 4294967296 ∧
    (p / 4294967296 + (p % 4294967296 + c + 0) / 4294967296) % 4294967296 = (p + c) / 4294967296 := by
  constructor <;> omega
theorem take_step {U V q D a i b c b' lo t : Nat} (h : U + q * (D % 2 ^ (32 * i)) * 2 ^ (32 * a) = V + (b + c) * 2 ^ (32 * (a + i))) (ht : t = q * limb D i + c) (hlo : lo + t % 4294967296 + b = limb U (a + i) + b' * 4294967296) :
    setl U (a + i) lo + q * (D % 2 ^ (32 * (i + 1))) * 2 ^ (32 * a) = V + (b' + t / 4294967296) * 2 ^ (32 * (a + (i + 1))) := by
  rw [mod_succ_limb]
  refine take_alg (setl_eq U (a + i) lo) hlo (M := 4294967296) (c := c) ?_ h (pow64_add a i) (by rw [← Nat.add_assoc, pow64_succ])
  have := Nat.mod_add_div t 4294967296
  rw [Nat.mul_comm (t / _), this, ht]
theorem take_last {U V q D a n b c b' lo : Nat} (hD : D < 2 ^ (32 * n)) (h : U + q * (D % 2 ^ (32 * n)) * 2 ^ (32 * a) = V + (b + c) * 2 ^ (32 * (a + n))) (hlo : lo + c + b = limb U (a + n) + b' * 4294967296) :
    setl U (a + n) lo + q * D * 2 ^ (32 * a) = V + b' * 2 ^ (32 * (a + n + 1)) := by
  rw [Nat.mod_eq_of_lt hD] at h
  have h1 := setl_eq U (a + n) lo
  rw [pow64_succ, ← Nat.mul_assoc]
  have h2 : lo * 2 ^ (32 * (a + n)) + c * 2 ^ (32 * (a + n)) + b * 2 ^ (32 * (a + n)) = limb U (a + n) * 2 ^ (32 * (a + n)) + b' * 4294967296 * 2 ^ (32 * (a + n)) := by
    rw [← Nat.add_mul, ← Nat.add_mul, hlo, Nat.add_mul]
  rw [Nat.add_mul] at h
  generalize 2 ^ (32 * (a + n)) = K at *
  clear hlo
  generalize b' * 4294967296 * K = z1 at *
  generalize limb U (a + n) * K = z2 at *
  generalize lo * K = z3 at *
  generalize c * K = z4 at *
  generalize b * K = z5 at *
  generalize q * D * 2 ^ (32 * a) = z6 at *
  omega
/-! ### Giving back -/
theorem back_step {U V D a i c c' lo : Nat} (h : U + c * 2 ^ (32 * (a + i)) = V + (D % 2 ^ (32 * i)) * 2 ^ (32 * a)) (hlo : lo + c' * 4294967296 = limb U (a + i) + limb D i + c) :
    setl U (a + i) lo + c' * 2 ^ (32 * (a + (i + 1))) = V + (D % 2 ^ (32 * (i + 1))) * 2 ^ (32 * a) := by
  have h1 := setl_eq U (a + i) lo
  rw [mod_succ_limb, ← Nat.add_assoc, pow64_succ, ← Nat.mul_assoc]
  have h2 : lo * 2 ^ (32 * (a + i)) + c' * 4294967296 * 2 ^ (32 * (a + i)) = limb U (a + i) * 2 ^ (32 * (a + i)) + limb D i * 2 ^ (32 * (a + i)) + c * 2 ^ (32 * (a + i)) := by
    rw [← Nat.add_mul, ← Nat.add_mul, ← Nat.add_mul, hlo]
  have h3 : (D % 2 ^ (32 * i) + 2 ^ (32 * i) * limb D i) * 2 ^ (32 * a) = D % 2 ^ (32 * i) * 2 ^ (32 * a) + limb D i * 2 ^ (32 * (a + i)) := by
    rw [pow64_add]; grind
  rw [h3]
  generalize 2 ^ (32 * (a + i)) = K at *
  clear hlo h3
  generalize c' * 4294967296 * K = z1 at *
  generalize limb U (a + i) * K = z2 at *
  generalize lo * K = z3 at *
  generalize c * K = z4 at *
  generalize limb D i * K = z5 at *
  generalize D % 2 ^ (32 * i) * 2 ^ (32 * a) = z6 at *
  omega
theorem add_word {l d c : Nat} : (l + d + c) % 4294967296 + (l + d + c) / 4294967296 * 4294967296 = l + d + c := by
  have := Nat.mod_add_div (l + d + c) 4294967296
  rw [Nat.mul_comm (_ / _), this]
theorem add_carry {l d c : Nat} (hl : l < 4294967296) (hd : d < 4294967296) (hc : c ≤ 1) : (l + d + c) / 4294967296 ≤ 1 := by omega
/-! ### A word of the quotient -/
theorem quo_word {U U0 D T x a : Nat} (hT : U < T) (h : U + x * D * 2 ^ (32 * a) = U0 + T) (hq : U0 / 2 ^ (32 * a) / D ≤ x) (hD : 0 < D) : U0 / 2 ^ (32 * a) / D ≤ x - 1 ∧ 0 < x := by
  have h1 : U0 < x * D * 2 ^ (32 * a) := by omega
  have h2 : U0 / 2 ^ (32 * a) / D < x := by
    rw [Nat.div_lt_iff_lt_mul hD, Nat.div_lt_iff_lt_mul (pow64_pos _)]; exact h1
  generalize U0 / 2 ^ (32 * a) / D = z at *
  omega
theorem quo_back {U U' U0 D T x a : Nat} {c : Nat} (hx : 0 < x) (h : U + x * D * 2 ^ (32 * a) = U0 + T) (hb : U' + c * T = U + D * 2 ^ (32 * a)) (hc : c ≤ 1) : U' + (x - 1) * D * 2 ^ (32 * a) = U0 + (1 - c) * T := by
  obtain ⟨y, rfl⟩ : ∃ y, x = y + 1 := ⟨x - 1, by omega⟩
  rw [Nat.add_sub_cancel]
  rw [Nat.add_mul, Nat.add_mul, Nat.one_mul] at h
  generalize y * D * 2 ^ (32 * a) = z at *
  generalize D * 2 ^ (32 * a) = z2 at *
  rcases Nat.le_one_iff_eq_zero_or_eq_one.1 hc with rfl | rfl <;> simp at * <;> omega
theorem quo_done {U U0 D x a : Nat} (hD : 0 < D) (h : U + x * D * 2 ^ (32 * a) = U0) (hq : U0 / 2 ^ (32 * a) / D ≤ x) : U < D * 2 ^ (32 * a) := by
  have h1 : U0 < (x + 1) * D * 2 ^ (32 * a) := by
    have : U0 / 2 ^ (32 * a) / D < x + 1 := by omega
    rw [Nat.div_lt_iff_lt_mul hD, Nat.div_lt_iff_lt_mul (pow64_pos _)] at this
    exact this
  rw [Nat.add_mul, Nat.add_mul, Nat.one_mul] at h1
  omega
theorem quo_lt {U0 D a : Nat} (hD : 0 < D) (h : U0 < D * 2 ^ (32 * (a + 1))) : U0 / 2 ^ (32 * a) / D < 4294967296 := by
  rw [Nat.div_lt_iff_lt_mul hD, Nat.div_lt_iff_lt_mul (pow64_pos _)]
  rw [pow64_succ] at h
  calc U0 < D * (4294967296 * 2 ^ (32 * a)) := h
    _ = 4294967296 * D * 2 ^ (32 * a) := by rw [← Nat.mul_assoc, Nat.mul_comm D]
/-- At the end: what is left, shifted back. -/
theorem div_end {W m Q U : Nat} (hm : m ≠ 0) (h : U + Q * dnm m = W * 2 ^ dsh m) (hU : U < dnm m) : Q = W / m ∧ U / 2 ^ dsh m = W % m := by
  have hp : 0 < 2 ^ dsh m := Nat.pow_pos (by decide)
  have hm0 : 0 < m := Nat.pos_of_ne_zero hm
  unfold dnm at *
  have h1 : U = (W - Q * m) * 2 ^ dsh m := by
    rw [Nat.sub_mul, Nat.mul_assoc]; omega
  have hle : Q * m ≤ W := by
    have : Q * m * 2 ^ dsh m ≤ W * 2 ^ dsh m := by rw [Nat.mul_assoc]; omega
    exact Nat.le_of_mul_le_mul_right this hp
  have h2 : W - Q * m < m := by
    rw [h1] at hU
    exact Nat.lt_of_mul_lt_mul_right hU
  have h3 : W = m * Q + (W - Q * m) := by rw [Nat.mul_comm m]; omega
  generalize W - Q * m = r at *
  subst h3
  constructor
  · rw [Nat.mul_add_div hm0, Nat.div_eq_of_lt h2, Nat.add_zero]
  · rw [h1, Nat.mul_div_cancel _ hp, Nat.mul_add_mod, Nat.mod_eq_of_lt h2]
/-- At the begin. -/
theorem div_begin {W m l : Nat} (hm : m ≠ 0) (hl : nw m ≤ l) (hW : W < 2 ^ (32 * l)) : W * 2 ^ dsh m < dnm m * 2 ^ (32 * (l - nw m + 1)) := by
  have h1 := dnm_ge hm
  have h2 := dsh_lt hm
  have h3 : 2 ^ (32 * (l - nw m + 1)) * 2 ^ (32 * nw m) = 4294967296 * 2 ^ (32 * l) := by
    rw [← pow64_add, ← pow64_succ]; congr 2; omega
  have h4 : W * 2 ^ dsh m < 2 ^ (32 * l) * 2 ^ dsh m := Nat.mul_lt_mul_of_pos_right hW (Nat.pow_pos (by decide))
  have h5 : 2 ^ (32 * l) * 2 ^ dsh m ≤ 2 ^ (32 * l) * 2 ^ 31 := Nat.mul_le_mul_left _ (Nat.pow_le_pow_right (by decide) (by omega))
  have h6 : 2 ^ (32 * (l - nw m + 1)) * 2 ^ (32 * nw m) ≤ 2 ^ (32 * (l - nw m + 1)) * (2 * dnm m) := Nat.mul_le_mul_left _ h1
  rw [h3, Nat.mul_comm _ (2 * dnm m), Nat.mul_assoc] at h6
  generalize dnm m * 2 ^ (32 * (l - nw m + 1)) = z at *
  generalize 2 ^ (32 * l) * 2 ^ dsh m = z2 at *
  generalize 2 ^ (32 * l) = z3 at *
  omega
theorem div_short {W m l : Nat} (hm : m ≠ 0) (hl : l < nw m) (hW : W < 2 ^ (32 * l)) : W * 2 ^ dsh m < dnm m := by
  unfold dnm
  apply Nat.mul_lt_mul_of_pos_right _ (Nat.pow_pos (by decide))
  have h1 := nw_pos hm
  refine Nat.lt_of_lt_of_le hW (Nat.le_trans (Nat.pow_le_pow_right (by decide) ?_) (blen_pos hm))
  have := blen_ne hm
  unfold nw at *; omega
/-! ### The dividend shifted, word by word -/
theorem fill_word {W s i : Nat} (hs : s < 32) : limb (W % 2 ^ (32 * i) * 2 ^ s) i < 2 ^ s ∧ limb (W % 2 ^ (32 * i) * 2 ^ s) (i + 1) = 0 := by
  have h : W % 2 ^ (32 * i) * 2 ^ s < 2 ^ s * 2 ^ (32 * i) := by
    rw [Nat.mul_comm (2 ^ s)]; exact Nat.mul_lt_mul_of_pos_right (Nat.mod_lt _ (pow64_pos _)) (Nat.pow_pos (by decide))
  have h2 : W % 2 ^ (32 * i) * 2 ^ s / 2 ^ (32 * i) < 2 ^ s := by rw [Nat.div_lt_iff_lt_mul (pow64_pos _)]; exact h
  constructor
  · exact Nat.lt_of_le_of_lt (Nat.mod_le _ _) h2
  · apply limb_high _ (Nat.le_refl _)
    rw [pow64_succ]
    refine Nat.lt_of_lt_of_le h (Nat.mul_le_mul_right _ ?_)
    have : 2 ^ s ≤ 2 ^ 32 := Nat.pow_le_pow_right (by decide) (by omega)
    omega
theorem fill_step {W s i : Nat} (hs : s < 32) (j : Nat) : limb (W % 2 ^ (32 * (i + 1)) * 2 ^ s) j =
    if j = i + 1 then limb W i / 2 ^ (32 - s) else if j = i then (limb (W % 2 ^ (32 * i) * 2 ^ s) i ||| limb W i * 2 ^ s % 4294967296) else limb (W % 2 ^ (32 * i) * 2 ^ s) j := by
  obtain ⟨h1, h2⟩ := fill_word (W := W) (i := i) hs
  have hl := limb_lt W i
  have e1 : (4294967296 : Nat) = 2 ^ s * 2 ^ (32 - s) := by rw [← Nat.pow_add, show s + (32 - s) = 32 by omega]
  have e2 : limb W i * 2 ^ s = limb W i * 2 ^ s % 4294967296 + 4294967296 * (limb W i / 2 ^ (32 - s)) := by
    have := Nat.mod_add_div (limb W i * 2 ^ s) 4294967296
    have e3 : limb W i * 2 ^ s / 4294967296 = limb W i / 2 ^ (32 - s) := by
      rw [e1, ← Nat.div_div_eq_div_mul, Nat.mul_div_cancel _ (Nat.pow_pos (by decide))]
    rw [← e3]; omega
  have hN : W % 2 ^ (32 * (i + 1)) * 2 ^ s = (W % 2 ^ (32 * i) * 2 ^ s + (limb W i * 2 ^ s % 4294967296) * 2 ^ (32 * i)) + (limb W i / 2 ^ (32 - s)) * 2 ^ (32 * (i + 1)) := by
    rw [mod_succ_limb, Nat.add_mul, Nat.mul_assoc, pow64_succ]
    have key : ∀ lo hi K z y : Nat, z = lo + 4294967296 * hi → y + K * z = y + lo * K + hi * (4294967296 * K) := by
      intro lo hi K z y h
      subst h
      grind
    exact key _ _ _ _ _ e2
  have hor := or_high (a := limb (W % 2 ^ (32 * i) * 2 ^ s) i) (z := limb W i) h1 (by omega)
  rw [hor]
  have hlt : limb (W % 2 ^ (32 * i) * 2 ^ s) i + limb W i * 2 ^ s % 4294967296 < 4294967296 := by
    obtain ⟨y, hy, hy2⟩ : ∃ y, limb W i * 2 ^ s % 4294967296 = y * 2 ^ s ∧ y + 1 ≤ 2 ^ (32 - s) := by
      refine ⟨limb W i % 2 ^ (32 - s), ?_, Nat.mod_lt _ (Nat.pow_pos (by decide))⟩
      rw [e1, Nat.mul_comm (2 ^ s), Nat.mul_mod_mul_right]
    have h5 := Nat.mul_le_mul_right (2 ^ s) hy2
    rw [Nat.mul_comm (2 ^ (32 - s)), ← e1, Nat.add_mul] at h5
    rw [hy]; omega
  have h3 : ∀ j, limb (W % 2 ^ (32 * i) * 2 ^ s + (limb W i * 2 ^ s % 4294967296) * 2 ^ (32 * i)) j = if j = i then limb (W % 2 ^ (32 * i) * 2 ^ s) i + limb W i * 2 ^ s % 4294967296 else limb (W % 2 ^ (32 * i) * 2 ^ s) j :=
    fun j => limb_addl _ _ _ _ hlt
  have h4 : limb W i / 2 ^ (32 - s) < 4294967296 := Nat.lt_of_le_of_lt (Nat.div_le_self _ _) hl
  rw [hN, limb_addl _ _ _ _ (by rw [h3, if_neg (by omega), h2]; omega), h3, h3]
  by_cases hj : j = i + 1
  · rw [if_pos hj, if_pos hj, if_neg (by omega), h2, Nat.zero_add]
  · rw [if_neg hj, if_neg hj]
end Go.Proofs.Ytljblbgogjieaaa.D
