/- Points of a curve over a prime field: their sums and multiples as functions, and how many there can be. No Go and no program here. -/
import Derived.Test.YtljblbgogjieaaaGrp2
set_option linter.unusedVariables false
set_option linter.unusedSectionVars false
namespace Go.Proofs.Ytljblbgogjieaaa.Grp
section
/-- A prime. -/
def Pr (p : Nat) : Prop := 2 ≤ p ∧ ∀ d, d ∣ p → d = 1 ∨ d = p
theorem bez (a m : Nat) : ∃ s t : Int, (a : Int) * s + (m : Int) * t = ((Nat.gcd a m : Nat) : Int) := by
  induction a, m using Nat.gcd.induction with
  | H0 n => exact ⟨0, 1, by simp⟩
  | H1 m n hm ih =>
    obtain ⟨s, t, h⟩ := ih
    refine ⟨t - ((n / m : Nat) : Int) * s, s, ?_⟩
    rw [Nat.gcd_rec m n, ← h]
    have e : ((n : Nat) : Int) = (m : Int) * ((n / m : Nat) : Int) + ((n % m : Nat) : Int) := by
      rw [← Int.natCast_mul, ← Int.natCast_add, Nat.div_add_mod]
    generalize ((n / m : Nat) : Int) = q at *
    generalize ((n % m : Nat) : Int) = r at *
    rw [e]
    grind
theorem inv_mod {a m : Nat} (h : Nat.gcd a m = 1) (hm : 1 < m) : ∃ s, s < m ∧ a * s % m = 1 := by
  obtain ⟨s, t, e⟩ := bez a m
  rw [h] at e
  have hm' : (m : Int) ≠ 0 := by omega
  refine ⟨(s % (m : Int)).toNat, ?_, ?_⟩
  · have := Int.emod_lt_of_pos s (show (0 : Int) < m by omega)
    have := Int.emod_nonneg s hm'
    omega
  · have h0 := Int.emod_nonneg s hm'
    have h1 : ((a * (s % (m : Int)).toNat % m : Nat) : Int) = 1 := by
      rw [Int.natCast_emod, Int.natCast_mul, Int.toNat_of_nonneg h0, Int.mul_emod, Int.emod_emod, ← Int.mul_emod]
      have e2 : (a : Int) * s = 1 + (m : Int) * (-t) := by
        rw [Int.mul_neg]; simp at e; omega
      rw [e2, Int.add_mul_emod_self_left]
      exact Int.emod_eq_of_lt (by decide) (by omega)
    omega
theorem Pr.cop {p x : Nat} (h : Pr p) (hx : ¬ p ∣ x) : Nat.gcd x p = 1 := by
  rcases h.2 _ (Nat.gcd_dvd_right x p) with e | e
  · exact e
  · exact absurd (e ▸ Nat.gcd_dvd_left x p) hx
theorem Pr.mul {p x y : Nat} (h : Pr p) (hd : p ∣ x * y) : p ∣ x ∨ p ∣ y := by
  by_cases hx : p ∣ x
  · exact .inl hx
  · refine .inr (Nat.Coprime.dvd_of_dvd_mul_left ?_ hd)
    rw [Nat.coprime_comm]
    exact h.cop hx
variable {p : Nat} [NeZero p]
/-- A field in which 2 is not 0. -/
structure Fld (p : Nat) [NeZero p] : Prop where
  dom : Dom p
  inv : ∀ x : Fin p, x ≠ 0 → ∃ y, x * y = 1
  two : ∀ y : Fin p, y + y = 0 → y = 0
theorem Pr.fld (h : Pr p) (h2 : p ≠ 2) : Fld p := by
  have hp := h.1
  have zero_of : ∀ x : Fin p, p ∣ x.val → x = 0 := fun x hx => by
    apply Fin.ext
    rw [Fin.val_zero]
    exact Nat.eq_zero_of_dvd_of_lt hx x.isLt
  refine ⟨fun x y e => ?_, fun x hx => ?_, fun y e => ?_⟩
  · have e1 : x.val * y.val % p = 0 := by rw [← Fin.val_mul, e, Fin.val_zero]
    exact (h.mul (Nat.dvd_of_mod_eq_zero e1)).imp (zero_of x) (zero_of y)
  · obtain ⟨s, hs, e⟩ := inv_mod (a := x.val) (h.cop (fun hd => hx (zero_of x hd))) (show 1 < p by omega)
    refine ⟨⟨s, hs⟩, Fin.ext ?_⟩
    rw [Fin.val_mul]
    show x.val * s % p = _
    rw [e]
    have : (1 : Fin p).val = 1 % p := rfl
    rw [this, Nat.mod_eq_of_lt (by omega)]
  · have e1 : (y.val + y.val) % p = 0 := by rw [← Fin.val_add, e, Fin.val_zero]
    have e2 : p ∣ 2 * y.val := by rw [Nat.two_mul]; exact Nat.dvd_of_mod_eq_zero e1
    rcases h.mul e2 with e3 | e3
    · have := Nat.le_of_dvd (by decide) e3
      exact absurd (show p = 2 by omega) h2
    · exact zero_of y e3
/-- A curve over a field, without a point where it crosses itself. -/
structure Crv (a b : Fin p) : Prop where
  fld : Fld p
  sing : ∀ x : Fin p, On a b (.aff x 0) → x * x + x * x + x * x + a = 0 → False
theorem Crv.fine {a b : Fin p} (h : Crv a b) : Fine a b := ⟨h.fld.dom, h.fld.two, h.sing⟩
theorem Fld.quot (h : Fld p) {x : Fin p} (hx : x ≠ 0) (y : Fin p) : ∃ l, l * x = y := by
  obtain ⟨i, hi⟩ := h.inv x hx
  refine ⟨y * i, ?_⟩
  have e : y * i * x = y * (x * i) := by clear hi; grind -lia
  rw [e, hi]; clear hi e; grind -lia
/-- Each two points have a sum. -/
theorem Fld.sum (h : Fld p) {a b : Fin p} {A B : Pt p} (hA : On a b A) (hB : On a b B) : ∃ R, Add a A B R := by
  cases A with
  | inf => exact ⟨_, .left _⟩
  | aff x1 y1 => cases B with
    | inf => exact ⟨_, .right _⟩
    | aff x2 y2 =>
      by_cases ho : Opp x1 y1 x2 y2
      · exact ⟨_, .opp ho⟩
      · have key : ∃ l, Slope a x1 y1 x2 y2 l := by
          simp only [On] at hA hB
          by_cases hx : x1 - x2 = 0
          · have hs : y1 + y2 ≠ 0 := fun e => ho ⟨hx, e⟩
            obtain ⟨l, hl⟩ := h.quot hs (x1 * x1 + x1 * x2 + x2 * x2 + a)
            refine ⟨l, ?_, sub_of_eq hl⟩
            obtain rfl := eq_of_sub hx
            have e : (y1 - y2) * (y1 + y2) = 0 := lin2 (c1 := 1) (c2 := -1) (by clear hl hs hx ho hA hB; grind -lia) hA hB
            have e2 : y1 - y2 = 0 := (h.dom _ _ e).elim id (fun e => absurd e hs)
            exact lin1 (c1 := -1) (by clear hl hs hx ho hA hB e e2; grind -lia) e2
          · obtain ⟨l, hl⟩ := h.quot hx (y1 - y2)
            refine ⟨l, sub_of_eq hl, ?_⟩
            have e : (l * (y1 + y2) - (x1 * x1 + x1 * x2 + x2 * x2 + a)) * (x1 - x2) = 0 := lin3 (c1 := y1 + y2) (c2 := 1) (c3 := -1) (by clear hl hx ho hA hB; grind -lia) (sub_of_eq hl) hA hB
            exact (h.dom _ _ e).elim id (fun e => absurd e hx)
        obtain ⟨l, hl⟩ := key
        exact ⟨_, .line l (l * l - x1 - x2) (l * (x1 - (l * l - x1 - x2)) - y1) ho hl (by clear hl ho hA hB; grind -lia) (by clear hl ho hA hB; grind -lia)⟩
instance : Nonempty (Pt p) := ⟨.inf⟩
/-- The sum, as a function. -/
noncomputable def padd (a : Fin p) (A B : Pt p) : Pt p := Classical.epsilon (fun R => Add a A B R)
theorem padd_spec (h : Fld p) {a b : Fin p} {A B : Pt p} (hA : On a b A) (hB : On a b B) : Add a A B (padd a A B) := Classical.epsilon_spec (h.sum hA hB)
theorem padd_eq (h : Fld p) {a b : Fin p} {A B R : Pt p} (hA : On a b A) (hB : On a b B) (hR : Add a A B R) : padd a A B = R := (padd_spec h hA hB).unique h.dom hR
theorem padd_on (h : Fld p) {a b : Fin p} {A B : Pt p} (hA : On a b A) (hB : On a b B) : On a b (padd a A B) := (padd_spec h hA hB).on hA hB
theorem padd_comm (h : Fld p) {a b : Fin p} {A B : Pt p} (hA : On a b A) (hB : On a b B) : padd a A B = padd a B A := padd_eq h hA hB (padd_spec h hB hA).symm
theorem padd_assoc {a b : Fin p} (h : Crv a b) {A B C : Pt p} (hA : On a b A) (hB : On a b B) (hC : On a b C) : padd a (padd a A B) C = padd a A (padd a B C) :=
  Add.assoc h.fine hA hB hC (padd_spec h.fld hA hB) (padd_spec h.fld (padd_on h.fld hA hB) hC) (padd_spec h.fld hB hC) (padd_spec h.fld hA (padd_on h.fld hB hC))
theorem padd_inf (h : Fld p) {a b : Fin p} {A : Pt p} (hA : On a b A) : padd a A .inf = A := padd_eq h hA (b := b) trivial (.right _)
theorem inf_padd (h : Fld p) {a b : Fin p} {A : Pt p} (hA : On a b A) : padd a .inf A = A := padd_eq h (b := b) trivial hA (.left _)
theorem padd_neg (h : Fld p) {a b : Fin p} {A : Pt p} (hA : On a b A) : padd a A A.neg = .inf := padd_eq h hA (neg_on hA) (add_neg a A)
theorem padd_cancel {a b : Fin p} (h : Crv a b) {A B C : Pt p} (hA : On a b A) (hB : On a b B) (hC : On a b C) (e : padd a A C = padd a B C) : A = B := by
  have e1 := congrArg (fun X => padd a X C.neg) e
  simp only [padd_assoc h hA hC (neg_on hC), padd_assoc h hB hC (neg_on hC), padd_neg h.fld hC, padd_inf h.fld hA, padd_inf h.fld hB] at e1
  exact e1
/-- So often a point. -/
noncomputable def pmul (a : Fin p) (P : Pt p) : Nat → Pt p
  | 0 => .inf
  | k + 1 => padd a (pmul a P k) P
theorem pmul_on (h : Fld p) {a b : Fin p} {P : Pt p} (hP : On a b P) : ∀ k, On a b (pmul a P k)
  | 0 => trivial
  | k + 1 => padd_on h (pmul_on h hP k) hP
theorem pmul_one (h : Fld p) {a b : Fin p} {P : Pt p} (hP : On a b P) : pmul a P 1 = P := inf_padd h hP
theorem pmul_add {a b : Fin p} (h : Crv a b) {P : Pt p} (hP : On a b P) (i : Nat) : ∀ j, pmul a P (i + j) = padd a (pmul a P i) (pmul a P j)
  | 0 => (padd_inf h.fld (pmul_on h.fld hP i)).symm
  | j + 1 => by
    show padd a (pmul a P (i + j)) P = _
    rw [pmul_add h hP i j, padd_assoc h (pmul_on h.fld hP i) (pmul_on h.fld hP j) hP]
    rfl
theorem pmul_mul {a b : Fin p} (h : Crv a b) {P : Pt p} (hP : On a b P) (i : Nat) : ∀ j, pmul a P (i * j) = pmul a (pmul a P i) j
  | 0 => rfl
  | j + 1 => by
    rw [Nat.mul_succ, pmul_add h hP, pmul_mul h hP i j]
    rfl
theorem pmul_inf {a b : Fin p} (h : Fld p) : ∀ j, pmul a (.inf : Pt p) j = .inf
  | 0 => rfl
  | j + 1 => by
    show padd a (pmul a .inf j) .inf = _
    rw [pmul_inf (b := b) h j, padd_inf h (show On a b (.inf : Pt p) from trivial)]
theorem pmul_dist {a b : Fin p} (h : Crv a b) {P Q : Pt p} (hP : On a b P) (hQ : On a b Q) : ∀ j, pmul a (padd a P Q) j = padd a (pmul a P j) (pmul a Q j)
  | 0 => (padd_inf h.fld (show On a b (.inf : Pt p) from trivial)).symm
  | j + 1 => by
    have o1 := pmul_on h.fld hP j
    have o2 := pmul_on h.fld hQ j
    show padd a (pmul a (padd a P Q) j) (padd a P Q) = padd a (padd a (pmul a P j) P) (padd a (pmul a Q j) Q)
    rw [pmul_dist h hP hQ j, padd_assoc h o1 o2 (padd_on h.fld hP hQ), padd_assoc h o1 hP (padd_on h.fld o2 hQ)]
    congr 1
    rw [← padd_assoc h o2 hP hQ, ← padd_assoc h hP o2 hQ, padd_comm h.fld o2 hP]
theorem padd_neg_neg (h : Fld p) {a b : Fin p} {A B : Pt p} (hA : On a b A) (hB : On a b B) : padd a A.neg B.neg = (padd a A B).neg := padd_eq h (neg_on hA) (neg_on hB) (padd_spec h hA hB).neg
theorem pmul_neg {a b : Fin p} (h : Fld p) {P : Pt p} (hP : On a b P) : ∀ j, pmul a P.neg j = (pmul a P j).neg
  | 0 => rfl
  | j + 1 => by
    show padd a (pmul a P.neg j) P.neg = (padd a (pmul a P j) P).neg
    rw [pmul_neg h hP j, padd_neg_neg h (pmul_on h hP j) hP]
/-- A point whose order is a prime: its multiples. -/
theorem pmul_order {a b : Fin p} (h : Crv a b) {P : Pt p} (hP : On a b P) {q : Nat} (hq : Pr q) (h0 : P ≠ .inf) (hqP : pmul a P q = .inf) {k : Nat} (hk : pmul a P k = .inf) : q ∣ k := by
  refine Classical.byContradiction fun hn => h0 ?_
  have hq2 := hq.1
  obtain ⟨s, _, hs⟩ := inv_mod (hq.cop hn) (show 1 < q by omega)
  have e1 : k * s = q * (k * s / q) + 1 := by
    have := Nat.div_add_mod (k * s) q
    omega
  have e2 : pmul a P (k * s) = .inf := by rw [pmul_mul h hP, hk, pmul_inf (b := b) h.fld]
  rw [e1, pmul_add h hP, pmul_mul h hP, hqP, pmul_inf (b := b) h.fld, pmul_one h.fld hP, inf_padd h.fld hP] at e2
  exact e2
theorem pmul_mod {a b : Fin p} (h : Crv a b) {P : Pt p} (hP : On a b P) {q : Nat} (hqP : pmul a P q = .inf) (k : Nat) : pmul a P k = pmul a P (k % q) := by
  have e := Nat.div_add_mod k q
  have e2 : pmul a P k = pmul a P (q * (k / q) + k % q) := by rw [e]
  rw [e2, pmul_add h hP, pmul_mul h hP, hqP, pmul_inf (b := b) h.fld, inf_padd h.fld (pmul_on h.fld hP _)]
theorem pmul_inj {a b : Fin p} (h : Crv a b) {P : Pt p} (hP : On a b P) {q : Nat} (hq : Pr q) (h0 : P ≠ .inf) (hqP : pmul a P q = .inf) {i j : Nat} (hj : j < q) (hi : i ≤ j) (e : pmul a P i = pmul a P j) : i = j := by
  have e1 : pmul a P j = padd a (pmul a P (j - i)) (pmul a P i) := by rw [← pmul_add h hP, Nat.sub_add_cancel hi]
  have e2 : padd a .inf (pmul a P i) = padd a (pmul a P (j - i)) (pmul a P i) := by rw [inf_padd h.fld (pmul_on h.fld hP i), ← e1, e]
  have e3 := padd_cancel h (show On a b (.inf : Pt p) from trivial) (pmul_on h.fld hP _) (pmul_on h.fld hP i) e2
  have e4 := pmul_order h hP hq h0 hqP e3.symm
  have := Nat.eq_zero_of_dvd_of_lt e4 (by omega)
  omega
/-- So many holes for so many doves. -/
theorem doves : ∀ (M N : Nat) (f : Nat → Nat), (∀ i, i < N → f i < M) → (∀ i j, i < j → j < N → f i ≠ f j) → N ≤ M
  | 0, N, f, h, _ => Nat.le_of_not_lt fun hN => Nat.not_lt_zero _ (h 0 hN)
  | M + 1, N, f, h, hi => by
    by_cases hex : ∃ i0, i0 < N ∧ f i0 = M
    · obtain ⟨i0, h0, e0⟩ := hex
      have := doves M (N - 1) (fun i => if i < i0 then f i else f (i + 1)) (fun i hiN => by
        split
        · have := h i (by omega)
          have := hi i i0 (by omega) h0
          omega
        · have := h (i + 1) (by omega)
          have := hi i0 (i + 1) (by omega) (by omega)
          omega) (fun i j hij hj => by
        split
        · split
          · exact hi i j hij (by omega)
          · exact hi i (j + 1) (by omega) (by omega)
        · split
          · omega
          · exact hi (i + 1) (j + 1) (by omega) (by omega))
      omega
    · have := doves M N f (fun i hiN => by
        have := h i hiN
        have : f i ≠ M := fun e => hex ⟨i, hiN, e⟩
        omega) hi
      omega
/-- A number for each point. -/
def pcode : Pt p → Nat
  | .inf => 2 * p
  | .aff x y => 2 * x.val + (if 2 * y.val < p then 0 else 1)

theorem pcode_lt (P : Pt p) : pcode P < 2 * p + 1 := by
  cases P with
  | inf => simp [pcode]
  | aff x y => have := x.isLt; simp only [pcode]; split <;> omega
theorem pcode_inj (h : Fld p) {a b : Fin p} {P Q : Pt p} (hP : On a b P) (hQ : On a b Q) (e : pcode P = pcode Q) : P = Q := by
  cases P with
  | inf => cases Q with
    | inf => rfl
    | aff x y => have := x.isLt; simp only [pcode] at e; split at e <;> omega
  | aff x y => cases Q with
    | inf => have := x.isLt; simp only [pcode] at e; split at e <;> omega
    | aff x' y' =>
      simp only [pcode] at e
      have hx : x = x' := Fin.ext (by split at e <;> split at e <;> omega)
      subst hx
      simp only [On] at hP hQ
      have hm : (y - y') * (y + y') = 0 := lin2 (c1 := 1) (c2 := -1) (by clear hP hQ e; grind -lia) hP hQ
      rcases h.dom _ _ hm with h1 | h1
      · rw [eq_of_sub h1]
      · have h2 : (y.val + y'.val) % p = 0 := by rw [← Fin.val_add, h1, Fin.val_zero]
        have h3 := y.isLt
        have h4 := y'.isLt
        have h5 : y.val + y'.val = 0 ∨ y.val + y'.val = p := by
          rcases Nat.lt_or_ge (y.val + y'.val) p with h6 | h6
          · rw [Nat.mod_eq_of_lt h6] at h2; exact .inl h2
          · have : (y.val + y'.val - p) % p = 0 := by rw [← Nat.mod_eq_sub_mod h6]; exact h2
            rw [Nat.mod_eq_of_lt (by omega)] at this
            omega
        have h7 : y = y' := Fin.ext (by split at e <;> split at e <;> omega)
        rw [h7]
/-- A prime order is no more than twice the numbers there are, and one. -/
theorem order_le {a b : Fin p} (h : Crv a b) {P : Pt p} (hP : On a b P) {q : Nat} (hq : Pr q) (h0 : P ≠ .inf) (hqP : pmul a P q = .inf) : q ≤ 2 * p + 1 :=
  doves (2 * p + 1) q (fun i => pcode (pmul a P i)) (fun i _ => pcode_lt _) (fun i j hij hj e =>
    absurd (pmul_inj h hP hq h0 hqP hj (Nat.le_of_lt hij) (pcode_inj h.fld (pmul_on h.fld hP i) (pmul_on h.fld hP j) e)) (by omega))
end
end Go.Proofs.Ytljblbgogjieaaa.Grp
