/- Rests and the number whose product leaves 1. No Go and no program here. -/
import Derived.Test.YtljblbgogjieaaaMath4
set_option linter.unusedVariables false
namespace Go.Proofs.Ytljblbgogjieaaa

theorem mod_cancel {x y c m : Nat} (h : (x + c) % m = (y + c) % m) : x % m = y % m := by
  have h1 : ((x + c : Nat) : Int) % (m : Int) = ((y + c : Nat) : Int) % (m : Int) := by
    rw [← Int.natCast_emod, ← Int.natCast_emod, h]
  have h2 := Int.emod_eq_emod_iff_emod_sub_eq_zero.1 h1
  have h3 : ((x + c : Nat) : Int) - ((y + c : Nat) : Int) = (x : Int) - (y : Int) := by omega
  rw [h3] at h2
  have h4 := Int.emod_eq_emod_iff_emod_sub_eq_zero.2 h2
  rw [← Int.natCast_emod, ← Int.natCast_emod] at h4
  exact Int.ofNat.inj h4
/-- s less a rest, as a rest. -/
def lessM (s l m : Nat) : Nat := if s < l then s + m - l else s - l
theorem lessM_lt {s l m : Nat} (hs : s < m) (hl : l < m) : lessM s l m < m := by unfold lessM; split <;> omega
theorem lessM_add {s l m : Nat} (hs : s < m) (hl : l < m) : (lessM s l m + l) % m = s % m := by
  unfold lessM
  split
  · rw [show s + m - l + l = s + m by omega, Nat.add_mod_right]
  · rw [show s - l + l = s by omega]
theorem inv_step {a m old now s t q : Nat} (hq : q = old / now) (hs : s < m) (hm : 0 < m) (h1 : a * s % m = old % m) (h2 : a * t % m = now % m) : a * lessM s (q * t % m) m % m = old % now % m := by
  apply mod_cancel (c := q * now)
  have e1 : old % now + q * now = old := by rw [hq, Nat.mul_comm]; exact Nat.mod_add_div _ _
  rw [e1, ← h1]
  have h3 := lessM_add hs (Nat.mod_lt (q * t) hm)
  have h4 : (a * lessM s (q * t % m) m + q * now) % m = (a * lessM s (q * t % m) m + a * (q * t % m)) % m := by
    rw [Nat.add_mod, Nat.add_mod (a * lessM s (q * t % m) m) (a * (q * t % m))]
    congr 2
    rw [Nat.mul_mod q now, ← h2, ← Nat.mul_mod, Nat.mul_mod a (q * t % m), Nat.mod_mod, ← Nat.mul_mod]
    congr 1
    rw [Nat.mul_left_comm]
  rw [h4, ← Nat.mul_add, Nat.mul_mod, h3, ← Nat.mul_mod]
/-- The number whose product with a leaves 1, or 0. -/
noncomputable def invM (a m : Nat) : Nat := open Classical in if h : ∃ s, s < m ∧ a * s % m = 1 then h.choose else 0
theorem inv_unique {a m s t : Nat} (hs : s < m) (ht : t < m) (h1 : a * s % m = 1) (h2 : a * t % m = 1) : s = t := by
  have h3 : s * (a * t) % m = s % m := by
    rw [Nat.mul_mod, h2, Nat.mul_one, Nat.mod_mod]
  have h4 : t * (a * s) % m = t % m := by
    rw [Nat.mul_mod, h1, Nat.mul_one, Nat.mod_mod]
  have h5 : s * (a * t) = t * (a * s) := by
    rw [Nat.mul_left_comm, Nat.mul_left_comm t, Nat.mul_comm s t]
  rw [h5, h4, Nat.mod_eq_of_lt hs, Nat.mod_eq_of_lt ht] at h3
  exact h3.symm
theorem invM_eq {a m s : Nat} (hs : s < m) (h : a * s % m = 1) : invM a m = s := by
  unfold invM
  have hex : ∃ s, s < m ∧ a * s % m = 1 := ⟨s, hs, h⟩
  rw [dif_pos hex]
  exact inv_unique hex.choose_spec.1 hs hex.choose_spec.2 h
theorem invM_lt {a m : Nat} (hm : 0 < m) : invM a m < m := by
  unfold invM
  split
  · next h => exact h.choose_spec.1
  · exact hm
theorem gcd_of_inv {a m s : Nat} (h : a * s % m = 1) : Nat.gcd a m = 1 := by
  have h1 : Nat.gcd a m ∣ a * s := Nat.dvd_trans (Nat.gcd_dvd_left a m) (Nat.dvd_mul_right a s)
  have h2 : Nat.gcd a m ∣ a * s % m := (Nat.dvd_mod_iff (Nat.gcd_dvd_right a m)).2 h1
  rw [h] at h2
  exact Nat.dvd_one.1 h2
theorem invM_none {a m : Nat} (h : ¬ (Nat.gcd a m = 1 ∧ m ≠ 1)) : invM a m = 0 := by
  unfold invM
  rw [dif_neg]
  rintro ⟨s, hs, h1⟩
  refine h ⟨gcd_of_inv h1, ?_⟩
  rintro rfl
  rw [Nat.mod_one] at h1
  cases h1
theorem less_word {s l m : Nat} (hs : s < m) (hl : l < m) (hm : m < W9) : (if s < l then (dif s l + m) % W9 else dif s l) = lessM s l m := by
  unfold lessM dif
  generalize W9 = M at *
  split
  · rw [Nat.mod_eq_of_lt (show s + M - l < M by omega), show s + M - l + m = (s + m - l) + M by omega, Nat.add_mod_right, Nat.mod_eq_of_lt (by omega)]
  · rw [show s + M - l = (s - l) + M by omega, Nat.add_mod_right, Nat.mod_eq_of_lt (by omega)]
end Go.Proofs.Ytljblbgogjieaaa
