/- Words: one word of a number changed; products word by word; shifts; bytes. No Go and no program here. -/
import Derived.Test.YtljblbgogjieaaaMath2
import Derived.Test.YtljblbgogjieaaaLx
set_option linter.unusedVariables false
namespace Go.Proofs.Ytljblbgogjieaaa

theorem pow64_add (p j : Nat) : 2 ^ (64 * (p + j)) = 2 ^ (64 * p) * 2 ^ (64 * j) := by rw [Nat.mul_add, Nat.pow_add]
/-- What is added to one word, if it does not run over, changes that word alone. -/
theorem limb_addl (V y p j : Nat) (h : limb V p + y < 18446744073709551616) : limb (V + y * 2 ^ (64 * p)) j = if j = p then limb V p + y else limb V j := by
  have hp := pow64_pos p
  have hV : V + y * 2 ^ (64 * p) = V % 2 ^ (64 * p) + 2 ^ (64 * p) * (V / 2 ^ (64 * p) + y) := by
    have := Nat.mod_add_div V (2 ^ (64 * p))
    rw [Nat.mul_add, Nat.mul_comm y]; omega
  rcases Nat.lt_trichotomy j p with h1 | h1 | h1
  · rw [if_neg (by omega)]
    obtain ⟨q, rfl⟩ : ∃ q, p = j + (q + 1) := ⟨p - j - 1, by omega⟩
    unfold limb
    rw [pow64_add, pow64_succ, Nat.mul_left_comm, Nat.add_mul_div_left _ _ (pow64_pos j), Nat.mul_left_comm, Nat.add_mul_mod_self_left]
  · subst h1
    rw [if_pos rfl]
    unfold limb at *
    rw [hV, Nat.add_mul_div_left _ _ hp, Nat.div_eq_of_lt (Nat.mod_lt _ hp), Nat.zero_add]
    omega
  · rw [if_neg (by omega)]
    obtain ⟨q, rfl⟩ : ∃ q, j = p + 1 + q := ⟨j - p - 1, by omega⟩
    have key : ∀ X, X / 2 ^ (64 * (p + 1 + q)) = X / 2 ^ (64 * p) / 18446744073709551616 / 2 ^ (64 * q) := by
      intro X
      rw [pow64_add, pow64_succ, Nat.div_div_eq_div_mul, Nat.div_div_eq_div_mul, Nat.mul_comm 18446744073709551616, Nat.mul_assoc]
    unfold limb
    rw [key, key, hV, Nat.add_mul_div_left _ _ hp, Nat.div_eq_of_lt (Nat.mod_lt _ hp), Nat.zero_add]
    unfold limb at h
    congr 2
    omega
/-- Word p set to y. -/
def setl (X p y : Nat) : Nat := X - limb X p * 2 ^ (64 * p) + y * 2 ^ (64 * p)
theorem limb_mul_le (X p : Nat) : limb X p * 2 ^ (64 * p) ≤ X := by
  have h1 : limb X p ≤ X / 2 ^ (64 * p) := Nat.mod_le _ _
  exact Nat.le_trans (Nat.mul_le_mul_right _ h1) (Nat.div_mul_le_self _ _)
theorem setl_eq (X p y : Nat) : setl X p y + limb X p * 2 ^ (64 * p) = X + y * 2 ^ (64 * p) := by
  have := limb_mul_le X p
  unfold setl; omega
theorem limb_clear (X p j : Nat) : limb (X - limb X p * 2 ^ (64 * p)) j = if j = p then 0 else limb X j := by
  have hle := limb_mul_le X p
  generalize hY : X - limb X p * 2 ^ (64 * p) = Y
  have hX : X = Y + limb X p * 2 ^ (64 * p) := by omega
  have h0 : limb Y p = 0 := by
    have hp := pow64_pos p
    rw [← hY]
    unfold limb
    have : X - X / 2 ^ (64 * p) % 18446744073709551616 * 2 ^ (64 * p) = X % 2 ^ (64 * p) + 2 ^ (64 * p) * (18446744073709551616 * (X / 2 ^ (64 * p) / 18446744073709551616)) := by
      have h1 := Nat.mod_add_div X (2 ^ (64 * p))
      have h2 := Nat.mod_add_div (X / 2 ^ (64 * p)) 18446744073709551616
      have h3 : 2 ^ (64 * p) * (X / 2 ^ (64 * p)) = X / 2 ^ (64 * p) % 18446744073709551616 * 2 ^ (64 * p) + 2 ^ (64 * p) * (18446744073709551616 * (X / 2 ^ (64 * p) / 18446744073709551616)) := by
        conv => lhs; rw [← h2]
        rw [Nat.mul_add, Nat.mul_comm (2 ^ (64 * p)) (X / 2 ^ (64 * p) % 18446744073709551616)]
      omega
    rw [this, Nat.add_mul_div_left _ _ hp, Nat.div_eq_of_lt (Nat.mod_lt _ hp), Nat.zero_add, Nat.mul_mod_right]
  have hb := limb_lt X p
  have := limb_addl Y (limb X p) p j (by omega)
  rw [← hX] at this
  by_cases h : j = p
  · subst h; rw [if_pos rfl]; exact h0
  · rw [if_neg h] at this ⊢; exact this.symm
theorem limb_setl (X p y j : Nat) (hy : y < 18446744073709551616) : limb (setl X p y) j = if j = p then y else limb X j := by
  unfold setl
  have h0 := limb_clear X p p
  rw [if_pos rfl] at h0
  rw [limb_addl _ _ _ _ (by rw [h0]; omega), h0, limb_clear]
  by_cases h : j = p
  · subst h; simp
  · simp [h]
theorem setl_lt {X p y q : Nat} (hX : X < 2 ^ (64 * q)) (hp : p < q) (hy : y < 18446744073709551616) : setl X p y < 2 ^ (64 * q) := by
  have hpp := pow64_pos p
  obtain ⟨k, rfl⟩ : ∃ k, q = p + 1 + k := ⟨q - p - 1, by omega⟩
  rw [pow64_add, pow64_succ] at hX ⊢
  unfold setl
  generalize hR : X / 2 ^ (64 * p) / 18446744073709551616 = R
  have h1 := Nat.mod_add_div X (2 ^ (64 * p))
  have h2 := Nat.mod_add_div (X / 2 ^ (64 * p)) 18446744073709551616
  have h3 : 2 ^ (64 * p) * (X / 2 ^ (64 * p)) = limb X p * 2 ^ (64 * p) + 2 ^ (64 * p) * (18446744073709551616 * R) := by
    conv => lhs; rw [← h2]
    rw [Nat.mul_add, Nat.mul_comm (2 ^ (64 * p)) (X / 2 ^ (64 * p) % 18446744073709551616), hR]; rfl
  have h4 : X - limb X p * 2 ^ (64 * p) = X % 2 ^ (64 * p) + 2 ^ (64 * p) * (18446744073709551616 * R) := by omega
  have hRk : R < 2 ^ (64 * k) := by
    rw [← hR, Nat.div_div_eq_div_mul, Nat.div_lt_iff_lt_mul (Nat.mul_pos hpp (by decide))]
    calc X < 18446744073709551616 * 2 ^ (64 * p) * 2 ^ (64 * k) := hX
      _ = 2 ^ (64 * k) * (2 ^ (64 * p) * 18446744073709551616) := by rw [Nat.mul_comm, Nat.mul_comm 18446744073709551616]
  rw [h4]
  have hm := Nat.mod_lt X hpp
  have h5 : 2 ^ (64 * p) * (18446744073709551616 * (R + 1)) ≤ 2 ^ (64 * p) * (18446744073709551616 * 2 ^ (64 * k)) := Nat.mul_le_mul_left _ (Nat.mul_le_mul_left _ hRk)
  have h6 : 18446744073709551616 * 2 ^ (64 * p) * 2 ^ (64 * k) = 2 ^ (64 * p) * (18446744073709551616 * 2 ^ (64 * k)) := by rw [Nat.mul_comm 18446744073709551616, Nat.mul_assoc]
  have h7 : y * 2 ^ (64 * p) ≤ 18446744073709551615 * 2 ^ (64 * p) := Nat.mul_le_mul_right _ (by omega)
  have h8 : 2 ^ (64 * p) * (18446744073709551616 * (R + 1)) = 2 ^ (64 * p) * (18446744073709551616 * R) + 18446744073709551616 * 2 ^ (64 * p) := by
    rw [Nat.mul_add, Nat.mul_add, Nat.mul_one, Nat.mul_comm (2 ^ (64 * p)) 18446744073709551616]
  omega
/-- The words of a number with one word set. -/
theorem vec_setl {n X p y : Nat} (hy : y < 18446744073709551616) : vec .u64 n (fun j => if j = p then y else limb X j) = vec .u64 n (limb (setl X p y)) :=
  vec_congr fun i _ => (limb_setl X p y i hy).symm

def W18 : Nat := W9 * W9
theorem w18 {i : Nat} (h : i = 18) : 2 ^ (64 * i) = W18 := by
  obtain ⟨j, hj⟩ : ∃ j : Nat, j = 9 := ⟨9, rfl⟩
  rw [show i = j + j by omega, pow64_add, w9 hj]; rfl
theorem vec_zeros (n : Nat) : vec .u64 n (fun _ => 0) = vec .u64 n (limb 0) := vec_congr fun i _ => by simp [limb]
theorem mul_w18 {A B : Nat} (hA : A < W9) (hB : B < W9) : A * B < W18 := by
  have := Nat.mul_lt_mul_of_lt_of_lt hA hB; exact this

/-! ### One row of a product -/
theorem row_alg {X X' l c P r b a t hi lo K K' I Kk : Nat} (h1 : X' + l * K = X + lo * K) (h2 : lo * K + hi * K' = t * K) (h : X + c * K = P + a * r * I) (ht : t = a * b + l + c) (hK : K = I * Kk) :
    X' + hi * K' = P + a * (r + Kk * b) * I := by
  have e : a * (r + Kk * b) * I = a * r * I + a * b * K := by rw [hK]; grind
  rw [e]
  have h3 : t * K = a * b * K + l * K + c * K := by rw [ht, Nat.add_mul, Nat.add_mul]
  clear ht e hK
  generalize a * r * I = z1 at *
  generalize a * b * K = z2 at *
  generalize c * K = z3 at *
  generalize l * K = z4 at *
  generalize lo * K = z5 at *
  generalize hi * K' = z6 at *
  omega
theorem row_step {X c P B i k a b t : Nat} (h : X + c * 2 ^ (64 * (i + k)) = P + a * (B % 2 ^ (64 * k)) * 2 ^ (64 * i)) (hb : b = limb B k) (ht : t = a * b + limb X (i + k) + c) :
    setl X (i + k) (t % 18446744073709551616) + t / 18446744073709551616 * 2 ^ (64 * (i + (k + 1))) = P + a * (B % 2 ^ (64 * (k + 1))) * 2 ^ (64 * i) := by
  rw [mod_succ_limb, ← hb]
  refine row_alg (setl_eq X (i + k) (t % 18446744073709551616)) ?_ h ht (pow64_add i k)
  rw [← Nat.add_assoc, pow64_succ, ← Nat.mul_assoc, ← Nat.add_mul]
  have := Nat.mod_add_div t 18446744073709551616
  rw [Nat.mul_comm (t / _), this]
theorem row_word {a b x c : Nat} (ha : a < 18446744073709551616) (hb : b < 18446744073709551616) (hx : x < 18446744073709551616) (hc : c < 18446744073709551616) :
    a * b + x + c < 18446744073709551616 * 18446744073709551616 := by
  have := Nat.mul_le_mul (show a ≤ 18446744073709551615 by omega) (show b ≤ 18446744073709551615 by omega)
  omega
/-- What the code makes of a product's halves, a word and a carry. -/
theorem row_parts {p x c : Nat} (hx : x < 18446744073709551616) (hc : c < 18446744073709551616) (h : p + x + c < 18446744073709551616 * 18446744073709551616) :
    ((p % 18446744073709551616 + x + 0) % 18446744073709551616 + c + 0) % 18446744073709551616 = (p + x + c) % 18446744073709551616 ∧
    ((p / 18446744073709551616 + (p % 18446744073709551616 + x + 0) / 18446744073709551616) % 18446744073709551616 + ((p % 18446744073709551616 + x + 0) % 18446744073709551616 + c + 0) / 18446744073709551616) % 18446744073709551616 = (p + x + c) / 18446744073709551616 := by
  constructor <;> omega
/-! ### Shifts -/
theorem limb_shr (A w r i : Nat) (hr : r < 64) : limb (A / 2 ^ (64 * w + r)) i = (limb A (i + w) / 2 ^ r + limb A (i + w + 1) * 2 ^ (64 - r) % 18446744073709551616) := by
  have e : limb (A / 2 ^ (64 * w + r)) i = A / 2 ^ (64 * (i + w)) / 2 ^ r % 18446744073709551616 := by
    unfold limb
    rw [Nat.div_div_eq_div_mul, Nat.div_div_eq_div_mul, ← Nat.pow_add, ← Nat.pow_add]
    congr 3; omega
  rw [e]
  have e2 : limb A (i + w + 1) = A / 2 ^ (64 * (i + w)) / 18446744073709551616 % 18446744073709551616 := by
    unfold limb
    rw [pow64_succ, Nat.div_div_eq_div_mul, Nat.mul_comm 18446744073709551616]
  rw [e2]
  unfold limb
  generalize A / 2 ^ (64 * (i + w)) = q
  have h64 : (18446744073709551616 : Nat) = 2 ^ r * 2 ^ (64 - r) := by rw [← Nat.pow_add, show r + (64 - r) = 64 by omega]
  have hR := Nat.pow_pos (n := r) (show 0 < 2 by decide)
  have hS := Nat.pow_pos (n := 64 - r) (show 0 < 2 by decide)
  -- q = q0 + M q1
  have h1 : q / 2 ^ r = q % 18446744073709551616 / 2 ^ r + q / 18446744073709551616 * 2 ^ (64 - r) := by
    conv => lhs; rw [← Nat.mod_add_div q 18446744073709551616]
    rw [show 18446744073709551616 * (q / 18446744073709551616) = 2 ^ r * (q / 18446744073709551616 * 2 ^ (64 - r)) by
      conv => lhs; rw [h64]
      rw [Nat.mul_assoc, Nat.mul_comm (2 ^ (64 - r)), ← h64]]
    rw [Nat.add_mul_div_left _ _ hR]
  rw [h1]
  have h2 : q % 18446744073709551616 / 2 ^ r < 2 ^ (64 - r) := by
    rw [Nat.div_lt_iff_lt_mul hR, Nat.mul_comm, ← h64]; exact Nat.mod_lt _ (by decide)
  have h3 : ∀ z, z * 2 ^ (64 - r) % 18446744073709551616 = z % 2 ^ r * 2 ^ (64 - r) := by
    intro z; rw [h64, Nat.mul_mod_mul_right]
  have h4 : ∀ z a, a < 2 ^ (64 - r) → (a + z * 2 ^ (64 - r)) % 18446744073709551616 = a + z % 2 ^ r * 2 ^ (64 - r) := by
    intro z a ha
    rw [h64]
    have : (a + z * 2 ^ (64 - r)) = a + (z % 2 ^ r) * 2 ^ (64 - r) + (2 ^ r * 2 ^ (64 - r)) * (z / 2 ^ r) := by
      conv => lhs; rw [← Nat.mod_add_div z (2 ^ r)]
      rw [Nat.add_mul, Nat.mul_right_comm (2 ^ r)]; omega
    rw [this, Nat.add_mul_mod_self_left]
    apply Nat.mod_eq_of_lt
    have h5 : z % 2 ^ r < 2 ^ r := Nat.mod_lt _ hR
    have h6 := Nat.mul_le_mul_right (2 ^ (64 - r)) (show z % 2 ^ r + 1 ≤ 2 ^ r from h5)
    rw [Nat.add_mul] at h6
    omega
  rw [h4 _ _ h2, h3]
  congr 2
  rw [Nat.mod_mod_of_dvd]
  exact ⟨2 ^ (64 - r), h64⟩
theorem or_high {a z s : Nat} (ha : a < 2 ^ s) (hs : s ≤ 64) : a ||| z * 2 ^ s % 18446744073709551616 = a + z * 2 ^ s % 18446744073709551616 := by
  obtain ⟨y, hy⟩ : ∃ y, z * 2 ^ s % 18446744073709551616 = y * 2 ^ s := by
    refine ⟨z % 2 ^ (64 - s), ?_⟩
    have : (18446744073709551616 : Nat) = 2 ^ (64 - s) * 2 ^ s := by rw [← Nat.pow_add, show 64 - s + s = 64 by omega]
    rw [this, Nat.mul_mod_mul_right]
  rw [hy]
  have := Nat.shiftLeft_add_eq_or_of_lt ha y
  rw [Nat.shiftLeft_eq] at this
  rw [Nat.or_comm, ← this, Nat.add_comm]
theorem shr_or {A w r i : Nat} (hr : r < 64) : (limb A (i + w) / 2 ^ r ||| limb A (i + w + 1) * 2 ^ (64 - r) % 18446744073709551616) = limb (A / 2 ^ (64 * w + r)) i := by
  rw [limb_shr A w r i hr, or_high _ (by omega)]
  rw [Nat.div_lt_iff_lt_mul (Nat.pow_pos (by decide)), ← Nat.pow_add, show 64 - r + r = 64 by omega]
  exact limb_lt _ _
theorem shr_w9 {A k : Nat} (h : A < W9) : A / 2 ^ k < W9 := Nat.lt_of_le_of_lt (Nat.div_le_self _ _) h
/-! ### Bytes -/
/-- The number that bytes are, the highest first. -/
def beVal : List UInt8 → Nat
  | [] => 0
  | b :: l => b.toNat * 256 ^ l.length + beVal l
theorem beVal_lt : ∀ l : List UInt8, beVal l < 256 ^ l.length
  | [] => by simp [beVal]
  | b :: l => by
    have := beVal_lt l
    have hb : b.toNat < 256 := b.toNat_lt
    have h := Nat.mul_le_mul_right (256 ^ l.length) (show b.toNat + 1 ≤ 256 by omega)
    rw [Nat.add_mul] at h
    simp only [beVal, List.length_cons, Nat.pow_succ, Nat.mul_comm _ 256]
    omega
theorem beVal_append : ∀ l m : List UInt8, beVal (l ++ m) = beVal l * 256 ^ m.length + beVal m
  | [], m => by simp [beVal]
  | b :: l, m => by
    simp only [List.cons_append, beVal, beVal_append l m, List.length_append, Nat.pow_add, Nat.add_mul, Nat.mul_assoc]
    omega
/-- The bytes of a number, n of them, the highest first. -/
def beBytes (n A : Nat) : List UInt8 := (List.range n).map fun i => UInt8.ofNat (A / 256 ^ (n - 1 - i) % 256)
theorem beBytes_length (n A : Nat) : (beBytes n A).length = n := by simp [beBytes]
theorem beBytes_succ (n A : Nat) : beBytes (n + 1) A = UInt8.ofNat (A / 256 ^ n % 256) :: beBytes n A := by
  unfold beBytes
  rw [List.range_succ_eq_map, List.map_cons, List.map_map]
  congr 1
  apply List.map_congr_left
  intro i hi
  simp only [Function.comp, Nat.succ_eq_add_one]
  congr 3
  congr 1
  have := List.mem_range.1 hi
  omega
theorem beVal_bytes (n A : Nat) : beVal (beBytes n A) = A % 256 ^ n := by
  induction n with
  | zero => simp [beBytes, beVal, Nat.mod_one]
  | succ n ih =>
    rw [beBytes_succ]
    simp only [beVal, beBytes_length, ih]
    rw [UInt8.toNat_ofNat_of_lt' (by have : A / 256 ^ n % 256 < 256 := Nat.mod_lt _ (by decide); exact this), Nat.pow_succ, Nat.mod_mul, Nat.mul_comm (256 ^ n)]
    omega
theorem pow256 (i : Nat) : 256 ^ i = 2 ^ (8 * i) := by rw [Nat.pow_mul]
theorem byte_of (A i : Nat) : limb A (i / 8) / 2 ^ (8 * (i % 8)) % 256 = A / 256 ^ i % 256 := by
  have h1 : A / 256 ^ i = A / 2 ^ (64 * (i / 8)) / 2 ^ (8 * (i % 8)) := by
    rw [pow256, Nat.div_div_eq_div_mul, ← Nat.pow_add]; congr 2; omega
  rw [h1]
  unfold limb
  generalize A / 2 ^ (64 * (i / 8)) = q
  have hr : i % 8 < 8 := Nat.mod_lt _ (by decide)
  generalize i % 8 = r at *
  have : ∀ r, r < 8 → q % 18446744073709551616 / 2 ^ (8 * r) % 256 = q / 2 ^ (8 * r) % 256 := by
    intro r hr
    have hc : r = 0 ∨ r = 1 ∨ r = 2 ∨ r = 3 ∨ r = 4 ∨ r = 5 ∨ r = 6 ∨ r = 7 := by omega
    rcases hc with h | h | h | h | h | h | h | h <;> subst h <;> simp only [Nat.reduceMul, Nat.reducePow] <;> omega
  exact this r hr
theorem limb_byte {V y i : Nat} (hV : V < 256 ^ i) (hy : y < 256) : (limb V (i / 8) ||| y * 2 ^ (8 * (i % 8)) % 18446744073709551616) < 18446744073709551616 ∧
    ∀ j, limb (y * 256 ^ i + V) j = if j = i / 8 then (limb V (i / 8) ||| y * 2 ^ (8 * (i % 8)) % 18446744073709551616) else limb V j := by
  have hr : i % 8 < 8 := Nat.mod_lt _ (by decide)
  have h1 : 256 ^ i = 2 ^ (8 * (i % 8)) * 2 ^ (64 * (i / 8)) := by rw [pow256, ← Nat.pow_add]; congr 1; omega
  have hl : limb V (i / 8) < 2 ^ (8 * (i % 8)) := by
    have : V / 2 ^ (64 * (i / 8)) < 2 ^ (8 * (i % 8)) := by
      rw [Nat.div_lt_iff_lt_mul (pow64_pos _), ← h1]; exact hV
    exact Nat.lt_of_le_of_lt (Nat.mod_le _ _) this
  have hlt : y * 2 ^ (8 * (i % 8)) + 2 ^ (8 * (i % 8)) ≤ 18446744073709551616 := by
    have h2 : (y + 1) * 2 ^ (8 * (i % 8)) ≤ 256 * 2 ^ (8 * (i % 8)) := Nat.mul_le_mul_right _ (by omega)
    have h3 : 2 ^ (8 * (i % 8)) ≤ 2 ^ 56 := Nat.pow_le_pow_right (by decide) (by omega)
    rw [Nat.add_mul] at h2
    omega
  have ho : (limb V (i / 8) ||| y * 2 ^ (8 * (i % 8)) % 18446744073709551616) = limb V (i / 8) + y * 2 ^ (8 * (i % 8)) := by
    rw [or_high hl (by omega), Nat.mod_eq_of_lt (by have := Nat.pow_pos (n := 8 * (i % 8)) (show 0 < 2 by decide); omega)]
  rw [ho]
  refine ⟨by omega, fun j => ?_⟩
  have := limb_addl V (y * 2 ^ (8 * (i % 8))) (i / 8) j (by omega)
  rw [← this, h1, Nat.mul_assoc, Nat.add_comm]
theorem limb_small {x j : Nat} (hx : x < 18446744073709551616) : limb x j = if j = 0 then x else 0 := by
  by_cases h : j = 0
  · subst h; rw [if_pos rfl]; unfold limb; rw [Nat.mul_zero, Nat.pow_zero, Nat.div_one, Nat.mod_eq_of_lt hx]
  · rw [if_neg h]
    apply limb_high (n := 1) _ (by omega)
    omega
theorem fill_small {x : Nat} (hx : x < 18446744073709551616) : fillL ((List.range 9).map fun i => (i * 1, 1)) (vec .u64 9 (fun _ => 0)) [(0, .int .u64 (x : Int))] = some (natL x) := by
  have h1 : fillL ((List.range 9).map fun i => (i * 1, 1)) (vec .u64 9 (fun _ => 0)) [(0, .int .u64 (x : Int))] = some ((vec .u64 9 (fun _ => 0)).set 0 (.int .u64 (x : Int))) := by
    refine (fillL_step (A := []) (B := [.int .u64 ((0 : Nat) : Int)]) (D := vec .u64 8 (fun _ => 0)) (cs := [.int .u64 (x : Int)]) (o := 0) (s := 1) rfl rfl rfl rfl rfl rfl rfl).trans rfl
  rw [h1, vec_set]
  congr 1
  exact vec_congr fun i _ => (limb_small hx).symm
end Go.Proofs.Ytljblbgogjieaaa
