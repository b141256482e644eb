/- A root of a square in a prime field, by Tonelli and Shanks. No Go and no program here. -/
import Derived.Test.YtljblbgogjieaaaFld2
set_option linter.unusedVariables false
set_option linter.unusedSectionVars false
namespace Go.Proofs.Ytljblbgogjieaaa.Grp
section
variable {p : Nat} [NeZero p]
theorem neg_one_sq : (-1 : Fin p) * -1 = 1 := by grind -lia
theorem sq_one (hd : Dom p) {x : Fin p} (h : x * x = 1) (h1 : x ≠ 1) : x = -1 := by
  have e : (x - 1) * (x + 1) = 0 := lin1 (c1 := 1) (by clear h; grind -lia) (sub_of_eq h)
  rcases hd _ _ e with e | e
  · exact absurd (eq_of_sub e) h1
  · exact eq_of_sub (lin1 (c1 := 1) (by clear h e; grind -lia) e)
/-- What holds at each round's head of the search for a root. -/
structure TS (a x c t : Fin p) (m : Nat) : Prop where
  pos : 0 < m
  root : x * x = a * t
  cc : fpow c (2 ^ (m - 1)) = -1
  tt : fpow t (2 ^ (m - 1)) = 1
theorem TS.init {a z : Fin p} {q s : Nat} (hs : 0 < s) (hq : q % 2 = 1) (hz : fpow z (q * 2 ^ (s - 1)) = -1) (ha : fpow a (q * 2 ^ (s - 1)) = 1) : TS a (fpow a ((q + 1) / 2)) (fpow z q) (fpow a q) s := by
  refine ⟨hs, ?_, ?_, ?_⟩
  · have e : (q + 1) / 2 + (q + 1) / 2 = 1 + q := by omega
    rw [← fpow_add, e, fpow_add, fpow_one]
  · rw [← fpow_mul]; exact hz
  · rw [← fpow_mul]; exact ha
/-- The rounds of squaring end below m. -/
theorem TS.less (hd : Dom p) {a x c t : Fin p} {m k : Nat} (h : TS a x c t m) (hk : ∀ j, j < k → fpow t (2 ^ j) ≠ 1) : k ≤ m - 1 := by
  refine Nat.le_of_not_lt fun hlt => ?_
  exact hk (m - 1) (by omega) h.tt
theorem TS.next (hd : Dom p) {a x c t : Fin p} {m k : Nat} (h : TS a x c t m) (h1 : t ≠ 1) (hk : ∀ j, j < k → fpow t (2 ^ j) ≠ 1) (he : fpow t (2 ^ k) = 1) :
    0 < k ∧ k < m ∧ TS a (x * fpow c (2 ^ (m - k - 1))) (fpow c (2 ^ (m - k - 1)) * fpow c (2 ^ (m - k - 1))) (t * (fpow c (2 ^ (m - k - 1)) * fpow c (2 ^ (m - k - 1)))) k := by
  have hk0 : 0 < k := Nat.pos_of_ne_zero fun e => h1 (by rw [e, Nat.pow_zero, fpow_one] at he; exact he)
  have hpos := h.pos
  have hle := h.less hd hk
  have hb : fpow (fpow c (2 ^ (m - k - 1)) * fpow c (2 ^ (m - k - 1))) (2 ^ (k - 1)) = -1 := by
    rw [← fpow_add, ← Nat.mul_two, ← Nat.pow_succ, ← fpow_mul, ← Nat.pow_add, show (m - k - 1).succ + (k - 1) = m - 1 by omega]
    exact h.cc
  refine ⟨hk0, by omega, hk0, ?_, hb, ?_⟩
  · have := h.root
    refine eq_of_sub (lin1 (c1 := fpow c (2 ^ (m - k - 1)) * fpow c (2 ^ (m - k - 1))) ?_ (sub_of_eq this))
    clear this he hb; grind -lia
  · rw [mul_fpow, hb]
    have e1 : fpow t (2 ^ (k - 1)) = -1 := by
      refine sq_one hd ?_ (hk (k - 1) (by omega))
      rw [← fpow_add, ← Nat.mul_two, ← Nat.pow_succ, show (k - 1).succ = k by omega]
      exact he
    rw [e1]; exact neg_one_sq
theorem TS.done {a x c t : Fin p} {m : Nat} (h : TS a x c t m) (h1 : t = 1) : x * x = a := by
  rw [h.root, h1]; grind -lia
/-- The half power of a number that is not 0. -/
theorem half_power (h : Fld p) (hp : 2 ≤ p) (hodd : p % 2 = 1) {x : Fin p} (hx : x ≠ 0) : fpow x ((p - 1) / 2) = 1 ∨ fpow x ((p - 1) / 2) = -1 := by
  by_cases h1 : fpow x ((p - 1) / 2) = 1
  · exact .inl h1
  · refine .inr (sq_one h.dom ?_ h1)
    rw [← fpow_add, show (p - 1) / 2 + (p - 1) / 2 = p - 1 by omega]
    exact fermat h hp hx
/-- One root is even, the other odd. -/
theorem even_root (h : Fld p) (hodd : p % 2 = 1) {x y : Fin p} (e : x * x = y * y) (hx : x.val % 2 = 0) (hy : y.val % 2 = 0) : x = y := by
  have e1 : (x - y) * (x + y) = 0 := lin1 (c1 := 1) (by clear e; grind -lia) (sub_of_eq e)
  rcases h.dom _ _ e1 with e2 | e2
  · exact eq_of_sub e2
  · have h3 : (x.val + y.val) % p = 0 := by rw [← Fin.val_add, e2, Fin.val_zero]
    have h4 := x.isLt
    have h5 := y.isLt
    have h6 : x.val + y.val = 0 ∨ x.val + y.val = p := by
      rcases Nat.lt_or_ge (x.val + y.val) p with h6 | h6
      · rw [Nat.mod_eq_of_lt h6] at h3; exact .inl h3
      · have : (x.val + y.val - p) % p = 0 := by rw [← Nat.mod_eq_sub_mod h6]; exact h3
        rw [Nat.mod_eq_of_lt (by omega)] at this
        omega
    rcases h6 with h6 | h6
    · exact Fin.ext (by omega)
    · omega
end
end Go.Proofs.Ytljblbgogjieaaa.Grp
