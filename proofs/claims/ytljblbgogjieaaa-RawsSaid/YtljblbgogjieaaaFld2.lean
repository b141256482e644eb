/- A cubic without a root in a prime field. No Go and no program here. -/
import Derived.Test.YtljblbgogjieaaaFld1
set_option linter.unusedVariables false
set_option linter.unusedSectionVars false
namespace Go.Proofs.Ytljblbgogjieaaa.Grp
/-- Powers of X modulo X X X + a X + b and p, from the highest bit down. -/
noncomputable def lad3 (p a b k : Nat) (fin : Nat → Nat → Nat → Bool) : Nat → Nat → Nat → Nat → Bool :=
  Nat.rec (motive := fun _ => Nat → Nat → Nat → Bool) fin (fun i ih A B C =>
    force (A * A % p) fun AA => force (A * B % p) fun AB =>
    force ((B * B + 2 * A * C + a * (p - AA)) % p) fun A1 => force ((2 * B * C + b * (p - AA) + 2 * a * (p - AB)) % p) fun B1 => force ((C * C + 2 * b * (p - AB)) % p) fun C1 =>
    Bool.rec (ih A1 B1 C1) (force ((C1 + a * (p - A1)) % p) fun B2 => force (b * (p - A1) % p) fun C2 => ih B1 B2 C2) (Nat.testBit k i))
theorem lad3_unf (p a b k : Nat) (fin : Nat → Nat → Nat → Bool) (i A B C : Nat) : lad3 p a b k fin (i + 1) A B C =
    force (A * A % p) fun AA => force (A * B % p) fun AB =>
    force ((B * B + 2 * A * C + a * (p - AA)) % p) fun A1 => force ((2 * B * C + b * (p - AA) + 2 * a * (p - AB)) % p) fun B1 => force ((C * C + 2 * b * (p - AB)) % p) fun C1 =>
    Bool.rec (lad3 p a b k fin i A1 B1 C1) (force ((C1 + a * (p - A1)) % p) fun B2 => force (b * (p - A1) % p) fun C2 => lad3 p a b k fin i B1 B2 C2) (Nat.testBit k i) := rfl
theorem lad3_succ (p a b k : Nat) (fin : Nat → Nat → Nat → Bool) (i A B C AA AB A1 B1 C1 : Nat) (hAA : AA = A * A % p) (hAB : AB = A * B % p) (hA1 : A1 = (B * B + 2 * A * C + a * (p - AA)) % p) (hB1 : B1 = (2 * B * C + b * (p - AA) + 2 * a * (p - AB)) % p) (hC1 : C1 = (C * C + 2 * b * (p - AB)) % p) :
    lad3 p a b k fin (i + 1) A B C = if k.testBit i then lad3 p a b k fin i B1 ((C1 + a * (p - A1)) % p) (b * (p - A1) % p) else lad3 p a b k fin i A1 B1 C1 := by
  subst hC1 hB1 hA1 hAB hAA
  rw [lad3_unf]
  simp only [force_eq]
  cases k.testBit i <;> rfl
theorem shift_bit (k i : Nat) : k >>> i = k >>> (i + 1) + k >>> (i + 1) + (if k.testBit i then 1 else 0) := by
  have e1 : k >>> (i + 1) = k >>> i / 2 := by rw [Nat.shiftRight_add]; rfl
  have e2 : k.testBit i = decide (k >>> i % 2 = 1) := by rw [Nat.testBit_eq_decide_div_mod_eq, Nat.shiftRight_eq_div_pow]
  rw [e1, e2]
  generalize k >>> i = z
  have := Nat.mod_two_eq_zero_or_one z
  have := Nat.div_add_mod z 2
  by_cases hz : z % 2 = 1
  · rw [if_pos (by rw [hz]; rfl)]; omega
  · rw [if_neg (by simp [hz])]; omega
section
variable {p : Nat} [NeZero p]
theorem lad3_spec {a b k : Nat} {fin : Nat → Nat → Nat → Bool} (hp : 0 < p) {r : Fin p} (hr : r * r * r + c p a * r + c p b = 0) : ∀ (i A B C : Nat), lad3 p a b k fin i A B C = true → c p A * (r * r) + c p B * r + c p C = fpow r (k >>> i) →
    ∃ A' B' C', fin A' B' C' = true ∧ c p A' * (r * r) + c p B' * r + c p C' = fpow r k
  | 0, A, B, C, h, e => ⟨A, B, C, h, by simpa using e⟩
  | i + 1, A, B, C, h, e => by
    have hlt : ∀ z, z % p ≤ p := fun z => Nat.le_of_lt (Nat.mod_lt _ hp)
    have hd : p ∣ p := Nat.dvd_refl p
    obtain ⟨AA, hAA⟩ : ∃ z, z = A * A % p := ⟨_, rfl⟩
    obtain ⟨AB, hAB⟩ : ∃ z, z = A * B % p := ⟨_, rfl⟩
    obtain ⟨A1, hA1⟩ : ∃ z, z = (B * B + 2 * A * C + a * (p - AA)) % p := ⟨_, rfl⟩
    obtain ⟨B1, hB1⟩ : ∃ z, z = (2 * B * C + b * (p - AA) + 2 * a * (p - AB)) % p := ⟨_, rfl⟩
    obtain ⟨C1, hC1⟩ : ∃ z, z = (C * C + 2 * b * (p - AB)) % p := ⟨_, rfl⟩
    rw [lad3_succ p a b k fin i A B C AA AB A1 B1 C1 hAA hAB hA1 hB1 hC1] at h
    have eAA : c p AA = c p A * c p A := by rw [hAA, c_mod hd, c_mul]
    have eAB : c p AB = c p A * c p B := by rw [hAB, c_mod hd, c_mul]
    have eA1 : c p A1 = c p B * c p B + 2 * c p A * c p C - c p a * (c p A * c p A) := by
      rw [hA1, c_mod hd]; simp only [c_add, c_mul, c_two, c_sub hd (show AA ≤ p by rw [hAA]; exact hlt _), eAA]
      clear eAA eAB hr e; grind -lia
    have eB1 : c p B1 = 2 * c p B * c p C - c p b * (c p A * c p A) - 2 * c p a * (c p A * c p B) := by
      rw [hB1, c_mod hd]; simp only [c_add, c_mul, c_two, c_sub hd (show AA ≤ p by rw [hAA]; exact hlt _), c_sub hd (show AB ≤ p by rw [hAB]; exact hlt _), eAA, eAB]
      clear eAA eAB hr e eA1; grind -lia
    have eC1 : c p C1 = c p C * c p C - 2 * c p b * (c p A * c p B) := by
      rw [hC1, c_mod hd]; simp only [c_add, c_mul, c_two, c_sub hd (show AB ≤ p by rw [hAB]; exact hlt _), eAB]
      clear eAA eAB hr e eA1 eB1; grind -lia
    have key : c p A1 * (r * r) + c p B1 * r + c p C1 = fpow r (k >>> (i + 1) + k >>> (i + 1)) := by
      rw [fpow_add, ← e, eA1, eB1, eC1]
      clear eAA eAB e eA1 eB1 eC1 h
      refine eq_of_sub (lin1 (c1 := -(c p A * c p A * r + 2 * c p A * c p B)) ?_ hr)
      clear hr; grind -lia
    have hsh := shift_bit k i
    by_cases hb : k.testBit i = true
    · rw [if_pos hb] at h hsh
      refine lad3_spec hp hr i _ _ _ h ?_
      rw [hsh, fpow_add, ← key, fpow_one, c_mod hd, c_mod hd, c_add, c_mul, c_mul, c_sub hd (show A1 ≤ p by rw [hA1]; exact hlt _)]
      generalize c p A1 = A1' at *
      generalize c p B1 = B1' at *
      generalize c p C1 = C1' at *
      clear eAA eAB e eA1 eB1 eC1 h key
      refine eq_of_sub (lin1 (c1 := -A1') ?_ hr)
      clear hr; grind -lia
    · rw [if_neg hb] at h hsh
      rw [Nat.add_zero] at hsh
      exact lad3_spec hp hr i _ _ _ h (by rw [hsh]; exact key)
noncomputable def rootOK (p a b l u1 u0 v2 v1 v0 : Nat) : Bool := Nat.beq (p >>> l) 1 &&
  lad3 p a b p (fun A B C => Nat.beq ((u1 + v2 * A) % p) 0 && Nat.beq ((u0 + v2 * (B + (p - 1)) + v1 * A) % p) 0 && Nat.beq ((u1 * a + v2 * C + v1 * (B + (p - 1)) + v0 * A) % p) 0 &&
    Nat.beq ((u1 * b + u0 * a + v1 * C + v0 * (B + (p - 1))) % p) 0 && Nat.beq ((u0 * b + v0 * C) % p) 1) l 0 1 0
theorem noroot {a b l u1 u0 v2 v1 v0 : Nat} (h : Fld p) (hp : 2 ≤ p) (hok : rootOK p a b l u1 u0 v2 v1 v0 = true) (x : Fin p) : ¬ On (c p a) (c p b) (.aff x 0) := by
  intro hx
  simp only [On] at hx
  have hr : x * x * x + c p a * x + c p b = 0 := lin1 (c1 := -1) (by clear hx; grind -lia) hx
  simp only [rootOK, Bool.and_eq_true] at hok
  obtain ⟨h1, h2⟩ := hok
  obtain ⟨A, B, C, hf, e⟩ := lad3_spec (by omega) hr _ _ _ _ h2 (by
    rw [beq_eq h1, fpow_one, c_one]
    have : c p 0 = 0 := c_zero_iff.2 (Nat.dvd_zero p)
    rw [this]; clear hx hr; grind -lia)
  rw [fermat' h hp] at e
  simp only [Bool.and_eq_true] at hf
  obtain ⟨⟨⟨⟨f1, f2⟩, f3⟩, f4⟩, f5⟩ := hf
  have hd : p ∣ p := Nat.dvd_refl p
  have z : c p 0 = 0 := c_zero_iff.2 (Nat.dvd_zero p)
  have g1 := congrArg (c p) (beq_eq f1)
  have g2 := congrArg (c p) (beq_eq f2)
  have g3 := congrArg (c p) (beq_eq f3)
  have g4 := congrArg (c p) (beq_eq f4)
  have g5 := congrArg (c p) (beq_eq f5)
  rw [c_mod hd] at g1 g2 g3 g4 g5
  simp only [c_add, c_mul, c_sub hd (show 1 ≤ p by omega), c_one, z] at g1 g2 g3 g4 g5
  generalize c p A = A' at *
  generalize c p B = B' at *
  generalize c p C = C' at *
  generalize c p u1 = U1 at *
  generalize c p u0 = U0 at *
  generalize c p v2 = V2 at *
  generalize c p v1 = V1 at *
  generalize c p v0 = V0 at *
  generalize c p a = a' at *
  generalize c p b = b' at *
  clear h1 h2 f1 f2 f3 f4 f5 hx
  apply one_ne hp
  have s1 := lin4 (c1 := x * x * x * x) (c2 := x * x * x) (c3 := x * x) (c4 := x) rfl g1 g2 g3 g4
  have s2 := lin2 (c1 := U1 * x + U0) (c2 := V2 * (x * x) + V1 * x + V0) rfl hr (sub_of_eq e)
  have s3 := sub_of_eq g5
  refine lin3 (c1 := 1) (c2 := -1) (c3 := -1) ?_ s2 s1 s3
  clear s1 s2 s3 g1 g2 g3 g4 g5 e hr z
  grind -lia
end
end Go.Proofs.Ytljblbgogjieaaa.Grp
