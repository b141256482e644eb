/- A number is a prime if a curve modulo it has a point of a great prime order. No Go and no program here. -/
import Derived.Test.YtljblbgogjieaaaGrp3
set_option linter.unusedVariables false
set_option linter.unusedSectionVars false
namespace Go.Proofs.Ytljblbgogjieaaa.Grp
section
variable {p : Nat} [NeZero p]
def c (p : Nat) [NeZero p] (k : Nat) : Fin p := Fin.ofNat p k
theorem c_val (k : Nat) : (c p k).val = k % p := rfl
theorem c_add (i j : Nat) : c p (i + j) = c p i + c p j := Fin.ext (by rw [Fin.val_add, c_val, c_val, c_val, ← Nat.add_mod])
theorem c_mul (i j : Nat) : c p (i * j) = c p i * c p j := Fin.ext (by rw [Fin.val_mul, c_val, c_val, c_val, ← Nat.mul_mod])
theorem c_mod {n : Nat} (hn : p ∣ n) (i : Nat) : c p (i % n) = c p i := Fin.ext (by rw [c_val, c_val, Nat.mod_mod_of_dvd _ hn])
theorem c_zero_iff {k : Nat} : c p k = 0 ↔ p ∣ k := by
  constructor
  · intro h
    have := congrArg Fin.val h
    rw [c_val, Fin.val_zero] at this
    exact Nat.dvd_of_mod_eq_zero this
  · intro h
    apply Fin.ext
    rw [c_val, Fin.val_zero]
    exact Nat.mod_eq_zero_of_dvd h
theorem c_sub {n j : Nat} (hn : p ∣ n) (hj : j ≤ n) : c p (n - j) = -c p j := by
  have h1 : c p (n - j) + c p j = 0 := by rw [← c_add, Nat.sub_add_cancel hj]; exact c_zero_iff.2 hn
  have h2 : c p (n - j) - -c p j = 0 := by rw [← h1]; grind -lia
  exact eq_of_sub h2
theorem c_num (k : Nat) [OfNat (Fin p) k] (h : (OfNat.ofNat k : Fin p) = c p k) : c p k = OfNat.ofNat k := h.symm
theorem c_one : c p 1 = 1 := rfl
theorem c_two : c p 2 = 2 := rfl
theorem c_three : c p 3 = 3 := rfl
theorem c_four : c p 4 = 4 := rfl
theorem c_six : c p 6 = 6 := rfl
/-- A triple whose third number is not 0 stands for a point. -/
def RZ (X Y Z : Fin p) (A : Pt p) : Prop := Z ≠ 0 → ∃ x y, A = .aff x y ∧ X = x * Z ∧ Y = y * Z
theorem RZ.dbl {a b X Y Z W S : Fin p} {A : Pt p} (h : Fld p) (hA : On a b A) (hr : RZ X Y Z A) (hW : W = 3 * X * X + a * (Z * Z)) (hS : S = 2 * Y * Z) :
    RZ (S * (W * W - 4 * (X * Y * S))) (W * (6 * (X * Y * S) - W * W) - 2 * (Y * S) * (Y * S)) (S * S * S) (padd a A A) := by
  intro hz
  have hS0 : S ≠ 0 := fun e => hz (by rw [e]; clear hr hW hS e hz; grind -lia)
  have hZ0 : Z ≠ 0 := fun e => hS0 (by rw [hS, e]; clear hr hW hS e hz hS0; grind -lia)
  obtain ⟨x, y, rfl, hX, hY⟩ := hr hZ0
  have hy0 : y ≠ 0 := fun e => hS0 (by rw [hS, hY, e]; clear hr hW hS e hz hS0 hX hY; grind -lia)
  have hsp := padd_spec h hA hA
  generalize padd a (.aff x y) (.aff x y) = R at hsp
  cases hsp with
  | opp ho => exact absurd (h.two _ ho.2) hy0
  | line l x4 y4 hn hs hx hy =>
    have ha : a = l * (y + y) - (x * x + x * x + x * x) := eq_of_sub (lin1 (c1 := -1) (by clear hr hW hS hz hS0 hX hY hx hy hs hA; grind -lia) hs.tang)
    obtain rfl := eq_of_sub hx
    obtain rfl := eq_of_sub hy
    refine ⟨_, _, rfl, ?_, ?_⟩
    · rw [hW, hS, hX, hY, ha]; clear hr hW hS hz hS0 hX hY hx hy hs hA ha; grind -lia
    · rw [hW, hS, hX, hY, ha]; clear hr hW hS hz hS0 hX hY hx hy hs hA ha; grind -lia
theorem RZ.add {a b X Y Z x2 y2 u v : Fin p} {A : Pt p} (h : Fld p) (hA : On a b A) (hQ : On a b (.aff x2 y2)) (hr : RZ X Y Z A) (hu : u = y2 * Z - Y) (hv : v = x2 * Z - X) :
    RZ (v * (u * u * Z - v * v * v - 2 * (v * v * X))) (u * (v * v * X - (u * u * Z - v * v * v - 2 * (v * v * X))) - v * v * v * Y) (v * v * v * Z) (padd a A (.aff x2 y2)) := by
  intro hz
  have hv0 : v ≠ 0 := fun e => hz (by rw [e]; clear hr hu hv e hz; grind -lia)
  have hZ0 : Z ≠ 0 := fun e => hz (by rw [e]; clear hr hu hv e hz hv0; grind -lia)
  obtain ⟨x, y, rfl, hX, hY⟩ := hr hZ0
  have hx0 : x - x2 ≠ 0 := fun e => hv0 (by
    obtain rfl := eq_of_sub e
    rw [hv, hX]; clear hr hu hv e hz hv0 hX hY; grind -lia)
  have hsp := padd_spec h hA hQ
  generalize padd a (.aff x y) (.aff x2 y2) = R at hsp
  cases hsp with
  | opp ho => exact absurd ho.1 hx0
  | line l x4 y4 hn hs hx hy =>
    have e : y = y2 + l * (x - x2) := eq_of_sub (lin1 (c1 := -1) (by clear hr hu hv hz hv0 hX hY hx hy hs hA hQ; grind -lia) hs.chord)
    obtain rfl := eq_of_sub hx
    obtain rfl := eq_of_sub hy
    refine ⟨_, _, rfl, ?_, ?_⟩
    · rw [hu, hv, hX, hY, e]; clear hr hu hv hz hv0 hX hY hx hy hs hA hQ e; grind -lia
    · rw [hu, hv, hX, hY, e]; clear hr hu hv hz hv0 hX hY hx hy hs hA hQ e; grind -lia
end
/-- A number is worked out before it is handed on. -/
@[reducible] noncomputable def force (m : Nat) (f : Nat → Bool) : Bool := Nat.rec (motive := fun _ => Bool) (f 0) (fun m _ => f (Nat.succ m)) m
theorem force_eq (m : Nat) (f : Nat → Bool) : force m f = f m := by cases m <;> rfl
/-- So often a point modulo n, from the highest bit down: a triple. -/
noncomputable def lad (n a x y k : Nat) (fin : Nat → Nat → Nat → Bool) : Nat → Nat → Nat → Nat → Bool :=
  Nat.rec (motive := fun _ => Nat → Nat → Nat → Bool) fin (fun i ih X Y Z =>
    force ((3 * X * X + a * (Z * Z)) % n) fun W => force (2 * Y * Z % n) fun S => force (X * Y % n * S % n) fun B => force (Y * S % n) fun E =>
    force (S * (W * W + 4 * (n - B)) % n) fun X1 => force ((W * (6 * B + (n - W) * W) + 2 * (n - E) * E) % n) fun Y1 => force (S * S % n * S % n) fun Z1 =>
    Bool.rec (ih X1 Y1 Z1) (
      force ((y * Z1 + (n - Y1)) % n) fun u => force ((x * Z1 + (n - X1)) % n) fun v => force (v * v % n) fun vv => force (vv * v % n) fun v3 =>
      force (vv * X1 % n) fun R => force ((u * u % n * Z1 + (n - v3) + 2 * (n - R)) % n) fun A =>
      force (v * A % n) fun X2 => force ((u * (R + (n - A)) + (n - v3) * Y1) % n) fun Y2 => force (v3 * Z1 % n) fun Z2 => ih X2 Y2 Z2)
      (Nat.testBit k i))

theorem lad_unf (n a x y k : Nat) (fin : Nat → Nat → Nat → Bool) (i X Y Z : Nat) : lad n a x y k fin (i + 1) X Y Z =
    force ((3 * X * X + a * (Z * Z)) % n) fun W => force (2 * Y * Z % n) fun S => force (X * Y % n * S % n) fun B => force (Y * S % n) fun E =>
    force (S * (W * W + 4 * (n - B)) % n) fun X1 => force ((W * (6 * B + (n - W) * W) + 2 * (n - E) * E) % n) fun Y1 => force (S * S % n * S % n) fun Z1 =>
    Bool.rec (lad n a x y k fin i X1 Y1 Z1) (
      force ((y * Z1 + (n - Y1)) % n) fun u => force ((x * Z1 + (n - X1)) % n) fun v => force (v * v % n) fun vv => force (vv * v % n) fun v3 =>
      force (vv * X1 % n) fun R => force ((u * u % n * Z1 + (n - v3) + 2 * (n - R)) % n) fun A =>
      force (v * A % n) fun X2 => force ((u * (R + (n - A)) + (n - v3) * Y1) % n) fun Y2 => force (v3 * Z1 % n) fun Z2 => lad n a x y k fin i X2 Y2 Z2)
      (Nat.testBit k i) := rfl
theorem lad_succ (n a x y k : Nat) (fin : Nat → Nat → Nat → Bool) (i X Y Z W S B E X1 Y1 Z1 u v vv v3 R A : Nat) (hW : W = (3 * X * X + a * (Z * Z)) % n) (hS : S = 2 * Y * Z % n) (hB : B = X * Y % n * S % n) (hE : E = Y * S % n)
    (hX1 : X1 = S * (W * W + 4 * (n - B)) % n) (hY1 : Y1 = (W * (6 * B + (n - W) * W) + 2 * (n - E) * E) % n) (hZ1 : Z1 = S * S % n * S % n)
    (hu : u = (y * Z1 + (n - Y1)) % n) (hv : v = (x * Z1 + (n - X1)) % n) (hvv : vv = v * v % n) (hv3 : v3 = vv * v % n) (hR : R = vv * X1 % n) (hA : A = (u * u % n * Z1 + (n - v3) + 2 * (n - R)) % n) :
    lad n a x y k fin (i + 1) X Y Z = if k.testBit i then lad n a x y k fin i (v * A % n) ((u * (R + (n - A)) + (n - v3) * Y1) % n) (v3 * Z1 % n) else lad n a x y k fin i X1 Y1 Z1 := by
  subst hA hR hv3 hvv hv hu hZ1 hY1 hX1 hE hB hS hW
  rw [lad_unf]
  simp only [force_eq]
  cases k.testBit i <;> rfl
section
variable {p : Nat} [NeZero p]
theorem lad_spec {n a b x y k : Nat} {fin : Nat → Nat → Nat → Bool} (hn : 0 < n) : ∀ (i X Y Z : Nat), lad n a x y k fin i X Y Z = true → ∃ X' Y' Z', fin X' Y' Z' = true ∧
    ∀ (p : Nat) [NeZero p], p ∣ n → Crv (c p a) (c p b) → On (c p a) (c p b) (.aff (c p x) (c p y)) → RZ (c p X) (c p Y) (c p Z) (pmul (c p a) (.aff (c p x) (c p y)) (k >>> i)) → RZ (c p X') (c p Y') (c p Z') (pmul (c p a) (.aff (c p x) (c p y)) k)
  | 0, X, Y, Z, h => ⟨X, Y, Z, h, fun p _ _ _ _ hr => by simpa using hr⟩
  | i + 1, X, Y, Z, h => by
    have hlt : ∀ z, z % n ≤ n := fun z => Nat.le_of_lt (Nat.mod_lt _ hn)
    obtain ⟨W, hW⟩ : ∃ W, W = (3 * X * X + a * (Z * Z)) % n := ⟨_, rfl⟩
    obtain ⟨S, hS⟩ : ∃ S, S = 2 * Y * Z % n := ⟨_, rfl⟩
    obtain ⟨B, hB⟩ : ∃ B, B = X * Y % n * S % n := ⟨_, rfl⟩
    obtain ⟨E, hE⟩ : ∃ E, E = Y * S % n := ⟨_, rfl⟩
    obtain ⟨X1, hX1⟩ : ∃ X1, X1 = S * (W * W + 4 * (n - B)) % n := ⟨_, rfl⟩
    obtain ⟨Y1, hY1⟩ : ∃ Y1, Y1 = (W * (6 * B + (n - W) * W) + 2 * (n - E) * E) % n := ⟨_, rfl⟩
    obtain ⟨Z1, hZ1⟩ : ∃ Z1, Z1 = S * S % n * S % n := ⟨_, rfl⟩
    obtain ⟨u, hu⟩ : ∃ u, u = (y * Z1 + (n - Y1)) % n := ⟨_, rfl⟩
    obtain ⟨v, hv⟩ : ∃ v, v = (x * Z1 + (n - X1)) % n := ⟨_, rfl⟩
    obtain ⟨vv, hvv⟩ : ∃ vv, vv = v * v % n := ⟨_, rfl⟩
    obtain ⟨v3, hv3⟩ : ∃ v3, v3 = vv * v % n := ⟨_, rfl⟩
    obtain ⟨R, hR⟩ : ∃ R, R = vv * X1 % n := ⟨_, rfl⟩
    obtain ⟨A, hA⟩ : ∃ A, A = (u * u % n * Z1 + (n - v3) + 2 * (n - R)) % n := ⟨_, rfl⟩
    rw [lad_succ n a x y k fin i X Y Z W S B E X1 Y1 Z1 u v vv v3 R A hW hS hB hE hX1 hY1 hZ1 hu hv hvv hv3 hR hA] at h
    have key1 : ∀ (p : Nat) [NeZero p], p ∣ n → Crv (c p a) (c p b) → On (c p a) (c p b) (.aff (c p x) (c p y)) → RZ (c p X) (c p Y) (c p Z) (pmul (c p a) (.aff (c p x) (c p y)) (k >>> (i + 1))) →
        RZ (c p X1) (c p Y1) (c p Z1) (pmul (c p a) (.aff (c p x) (c p y)) (k >>> (i + 1) + k >>> (i + 1))) := by
      intro p _ hp hc hP hr
      rw [pmul_add hc hP]
      have h1 := RZ.dbl (W := c p W) (S := c p S) hc.fld (pmul_on hc.fld hP _) hr (by rw [hW, c_mod hp]; simp only [c_add, c_mul, c_three]) (by rw [hS, c_mod hp]; simp only [c_mul, c_two])
      have eB : c p B = c p X * c p Y * c p S := by rw [hB, c_mod hp, c_mul, c_mod hp, c_mul]
      have eE : c p E = c p Y * c p S := by rw [hE, c_mod hp, c_mul]
      have e1 : c p X1 = c p S * (c p W * c p W - 4 * (c p X * c p Y * c p S)) := by
        rw [hX1, c_mod hp]; simp only [c_add, c_mul, c_four, c_sub hp (show B ≤ n by rw [hB]; exact hlt _), eB]
        clear h1 eB eE hr hP; grind -lia
      have e2 : c p Y1 = c p W * (6 * (c p X * c p Y * c p S) - c p W * c p W) - 2 * (c p Y * c p S) * (c p Y * c p S) := by
        rw [hY1, c_mod hp]; simp only [c_add, c_mul, c_six, c_two, c_sub hp (show W ≤ n by rw [hW]; exact hlt _), c_sub hp (show E ≤ n by rw [hE]; exact hlt _), eB, eE]
        clear h1 eB eE hr hP e1; grind -lia
      have e3 : c p Z1 = c p S * c p S * c p S := by rw [hZ1, c_mod hp, c_mul, c_mod hp, c_mul]
      rw [e1, e2, e3]
      exact h1
    have hsh : k >>> i = k >>> (i + 1) + k >>> (i + 1) + (if k.testBit i then 1 else 0) := by
      have e1 : k >>> (i + 1) = k >>> i / 2 := by rw [Nat.shiftRight_add]; rfl
      have e2 : k.testBit i = decide (k >>> i % 2 = 1) := by rw [Nat.testBit_eq_decide_div_mod_eq, Nat.shiftRight_eq_div_pow]
      rw [e1, e2]
      generalize k >>> i = z
      have := Nat.mod_two_eq_zero_or_one z
      have := Nat.div_add_mod z 2
      by_cases hz : z % 2 = 1
      · rw [if_pos (by rw [hz]; rfl)]; omega
      · rw [if_neg (by simp [hz])]; omega
    by_cases hb : k.testBit i = true
    · rw [if_pos hb] at h hsh
      obtain ⟨X', Y', Z', hf, hk⟩ := lad_spec hn i _ _ _ h
      refine ⟨X', Y', Z', hf, fun p _ hp hc hP hr => hk p hp hc hP ?_⟩
      have h1 := key1 p hp hc hP hr
      rw [hsh, pmul_add hc hP, pmul_one hc.fld hP]
      have h2 := RZ.add (u := c p u) (v := c p v) hc.fld (pmul_on hc.fld hP _) hP h1 (by rw [hu, c_mod hp]; simp only [c_add, c_mul, c_sub hp (show Y1 ≤ n by rw [hY1]; exact hlt _)]; clear h1 hr hP; grind -lia)
        (by rw [hv, c_mod hp]; simp only [c_add, c_mul, c_sub hp (show X1 ≤ n by rw [hX1]; exact hlt _)]; clear h1 hr hP; grind -lia)
      have evv : c p vv = c p v * c p v := by rw [hvv, c_mod hp, c_mul]
      have ev3 : c p v3 = c p v * c p v * c p v := by rw [hv3, c_mod hp, c_mul, evv]
      have eR : c p R = c p v * c p v * c p X1 := by rw [hR, c_mod hp, c_mul, evv]
      have eA : c p A = c p u * c p u * c p Z1 - c p v * c p v * c p v - 2 * (c p v * c p v * c p X1) := by
        rw [hA, c_mod hp]; simp only [c_add, c_mul, c_mod hp, c_two, c_sub hp (show v3 ≤ n by rw [hv3]; exact hlt _), c_sub hp (show R ≤ n by rw [hR]; exact hlt _), ev3, eR]
        clear h1 h2 hr hP evv ev3 eR; grind -lia
      have e1 : c p (v * A % n) = c p v * (c p u * c p u * c p Z1 - c p v * c p v * c p v - 2 * (c p v * c p v * c p X1)) := by rw [c_mod hp, c_mul, eA]
      have e2 : c p ((u * (R + (n - A)) + (n - v3) * Y1) % n) = c p u * (c p v * c p v * c p X1 - (c p u * c p u * c p Z1 - c p v * c p v * c p v - 2 * (c p v * c p v * c p X1))) - c p v * c p v * c p v * c p Y1 := by
        rw [c_mod hp]; simp only [c_add, c_mul, c_sub hp (show A ≤ n by rw [hA]; exact hlt _), c_sub hp (show v3 ≤ n by rw [hv3]; exact hlt _), ev3, eR, eA]
        clear h1 h2 hr hP evv ev3 eR eA e1; grind -lia
      have e3 : c p (v3 * Z1 % n) = c p v * c p v * c p v * c p Z1 := by rw [c_mod hp, c_mul, ev3]
      rw [e1, e2, e3]
      exact h2
    · rw [if_neg hb] at h hsh
      obtain ⟨X', Y', Z', hf, hk⟩ := lad_spec hn i _ _ _ h
      refine ⟨X', Y', Z', hf, fun p _ hp hc hP hr => hk p hp hc hP ?_⟩
      rw [hsh, Nat.add_zero]
      exact key1 p hp hc hP hr
/-- The check: the point is on the curve modulo n, the curve is one, and q times the point comes to infinity, modulo each prime that divides n. -/
noncomputable def gkOK (n a b x y q l : Nat) : Bool :=
  Nat.ble 2 n && Nat.beq (Nat.gcd 6 n) 1 && Nat.beq (Nat.gcd (4 * (a * (a * a)) + 27 * (b * b)) n) 1 && Nat.beq (y * y % n) ((x * x * x + a * x + b) % n) && Nat.ble (4 * n + 1) ((q - 1) * (q - 1)) && Nat.beq ((q - 1) >>> l) 1 &&
    lad n a x y (q - 1) (fun X Y Z => Nat.beq (Nat.gcd Z n) 1 && Nat.beq (X % n) (x * Z % n) && Nat.beq ((Y + y * Z) % n) 0) l x y 1
theorem prime_of {n : Nat} (hn : 1 < n) (h : ∀ p, Pr p → p ∣ n → n < p * p) : Pr n := by
  refine ⟨hn, fun d hd => ?_⟩
  refine Classical.byContradiction fun hne => ?_
  have hd0 : d ≠ 0 := fun e => by rw [e] at hd; have := Nat.eq_zero_of_zero_dvd hd; omega
  have hd2 : 2 ≤ d := by omega
  have least : ∃ e, (2 ≤ e ∧ e ∣ n) ∧ ∀ f, 2 ≤ f → f ∣ n → e ≤ f := by
    have main : ∀ m e, e ≤ m → 2 ≤ e → e ∣ n → ∃ e, (2 ≤ e ∧ e ∣ n) ∧ ∀ f, 2 ≤ f → f ∣ n → e ≤ f := by
      intro m
      induction m with
      | zero => intro e h1 h2; omega
      | succ m ih =>
        intro e h1 h2 h3
        by_cases hx : ∃ f, 2 ≤ f ∧ f ∣ n ∧ f < e
        · obtain ⟨f, f1, f2, f3⟩ := hx
          exact ih f (by omega) f1 f2
        · exact ⟨e, ⟨h2, h3⟩, fun f f1 f2 => Nat.le_of_not_lt fun f3 => hx ⟨f, f1, f2, f3⟩⟩
    exact main d d (Nat.le_refl _) hd2 hd
  obtain ⟨e, ⟨e1, e2⟩, e3⟩ := least
  have hp : Pr e := ⟨e1, fun f hf => by
    have hf0 : f ≠ 0 := fun z => by rw [z] at hf; have := Nat.eq_zero_of_zero_dvd hf; omega
    by_cases h1 : f = 1
    · exact .inl h1
    · have h2 := e3 f (by omega) (Nat.dvd_trans hf e2)
      have h3 := Nat.le_of_dvd (by omega) hf
      exact .inr (by omega)⟩
  have h1 := h e hp e2
  obtain ⟨g, rfl⟩ := hd
  have hg2 : 2 ≤ g := by
    have : g ≠ 0 := fun z => by rw [z] at hn; omega
    have : g ≠ 1 := fun z => by rw [z] at hne; omega
    omega
  have h2 := e3 d hd2 (Nat.dvd_mul_right d g)
  have h3 := e3 g hg2 (Nat.dvd_mul_left g d)
  have := Nat.mul_le_mul h2 h3
  omega
theorem crv_of {n a b p : Nat} [NeZero p] (hp : Pr p) (hd : p ∣ n) (h6 : Nat.gcd 6 n = 1) (hg : Nat.gcd (4 * (a * (a * a)) + 27 * (b * b)) n = 1) : Crv (c p a) (c p b) := by
  have no : ∀ z, Nat.gcd z n = 1 → ¬ p ∣ z := fun z hz hpz => by
    have := Nat.dvd_gcd hpz hd
    rw [hz] at this
    have := Nat.le_of_dvd (by decide) this
    have := hp.1
    omega
  have h2 : p ≠ 2 := fun e => no 6 h6 (by rw [e]; decide)
  refine ⟨hp.fld h2, fun x hx h3 => no _ hg (c_zero_iff.1 ?_)⟩
  simp only [On] at hx
  have e4 : c p (4 * (a * (a * a)) + 27 * (b * b)) = 4 * (c p a * (c p a * c p a)) + 27 * (c p b * c p b) := by simp only [c_add, c_mul]; rfl
  rw [e4]
  generalize c p a = A at *
  generalize c p b = B at *
  have hA : A = -(x * x + x * x + x * x) := eq_of_sub (lin1 (c1 := 1) (by clear hx h3 e4; grind -lia) h3)
  subst hA
  have hB : B = x * x * x + x * x * x := eq_of_sub (lin1 (c1 := -1) (by clear hx h3 e4; grind -lia) hx)
  subst hB
  clear hx h3 e4
  grind -lia
theorem beq_eq {i j : Nat} (h : Nat.beq i j = true) : i = j := Nat.eq_of_beq_eq_true h
theorem gk_mul {n a b x y q l : Nat} (h : gkOK n a b x y q l = true) (hn : 0 < n) : ∀ (p : Nat) [NeZero p], Pr p → p ∣ n → Crv (c p a) (c p b) ∧ On (c p a) (c p b) (.aff (c p x) (c p y)) ∧ pmul (c p a) (.aff (c p x) (c p y)) q = .inf := by
  intro p _ hp hd
  simp only [gkOK, Bool.and_eq_true] at h
  obtain ⟨⟨⟨⟨⟨⟨_, h1⟩, h2⟩, h3⟩, h4⟩, h5⟩, h6⟩ := h
  have hc := crv_of hp hd (beq_eq h1) (beq_eq h2)
  have hP : On (c p a) (c p b) (.aff (c p x) (c p y)) := by
    have := congrArg (c p) (beq_eq h3)
    rw [c_mod hd, c_mod hd] at this
    simp only [c_add, c_mul] at this
    exact sub_of_eq this
  refine ⟨hc, hP, ?_⟩
  obtain ⟨X, Y, Z, hf, hk⟩ := lad_spec (b := b) hn _ _ _ _ h6
  simp only [Bool.and_eq_true] at hf
  obtain ⟨⟨f1, f2⟩, f3⟩ := hf
  have hZ : c p Z ≠ 0 := fun e => by
    have h1 := Nat.dvd_gcd (c_zero_iff.1 e) hd
    rw [beq_eq f1] at h1
    have h2 := Nat.le_of_dvd (by decide) h1
    have h3 := hp.1
    omega
  have hr := hk p hd hc hP (by
    rw [beq_eq h5, pmul_one hc.fld hP]
    intro _
    refine ⟨_, _, rfl, ?_, ?_⟩ <;> rw [c_one] <;> grind -lia)
  obtain ⟨x', y', e1, e2, e3⟩ := hr hZ
  have g2 := congrArg (c p) (beq_eq f2)
  rw [c_mod hd, c_mod hd, c_mul, e2] at g2
  have g3 := congrArg (c p) (beq_eq f3)
  rw [c_mod hd, c_add, c_mul, e3] at g3
  have hx : x' = c p x := hc.fld.dom.cancel hZ (lin1 (c1 := 1) (by clear g2 g3 e1 e2 e3 hZ hk hP; grind -lia) (sub_of_eq g2))
  have hy : y' = -c p y := hc.fld.dom.cancel hZ (lin1 (c1 := 1) (by clear g2 g3 e1 e2 e3 hZ hk hP hx; grind -lia) (show y' * c p Z + c p y * c p Z = 0 from g3))
  have hq : q = q - 1 + 1 := by
    have : q ≠ 0 := fun e => by rw [e] at h5; simp at h5
    omega
  rw [hq]
  show padd (c p a) (pmul _ _ (q - 1)) _ = _
  rw [e1, hx, hy]
  exact (padd_comm hc.fld (neg_on hP) hP).trans (padd_neg hc.fld hP)
/-- If q is a prime, and more than twice the root of n and one, n is a prime. -/
theorem gk {n a b x y q l : Nat} (h : gkOK n a b x y q l = true) (hq : Pr q) : Pr n := by
  have h' := h
  simp only [gkOK, Bool.and_eq_true] at h'
  obtain ⟨⟨⟨⟨⟨⟨h0, h1⟩, h2⟩, h3⟩, h4⟩, h5⟩, h6⟩ := h'
  have h4 := Nat.le_of_ble_eq_true h4
  have hn2 := Nat.le_of_ble_eq_true h0
  · refine prime_of hn2 fun p hp hd => ?_
    have : NeZero p := ⟨by have := hp.1; omega⟩
    obtain ⟨hc, hP, hm⟩ := gk_mul h (by omega) p hp hd
    have := order_le hc hP hq (fun e => by cases e) hm
    refine Nat.lt_of_not_le fun hle => ?_
    have h7 : (q - 1) * (q - 1) ≤ (2 * p) * (2 * p) := Nat.mul_le_mul (by omega) (by omega)
    have h8 : (2 * p) * (2 * p) = 4 * (p * p) := by rw [Nat.mul_mul_mul_comm]
    omega
end
end Go.Proofs.Ytljblbgogjieaaa.Grp
