/- Sums of triples, all by one row of products: they stand for the sums of the points. No Go and no program here. -/
import Derived.Test.YtljblbgogjieaaaGrp1
set_option linter.unusedVariables false
namespace Go.Proofs.Ytljblbgogjieaaa.Grp
section
variable {p : Nat} [NeZero p]
/-- The one row of products for all sums of triples. -/
def sum3 (A T X1 Y1 Z1 X2 Y2 Z2 : Fin p) : Fin p × Fin p × Fin p :=
  let t0 := X1 * X2
  let t1 := Y1 * Y2
  let t2 := Z1 * Z2
  let t3 := (X1 + Y1) * (X2 + Y2) - (t0 + t1)
  let t4 := (X1 + Z1) * (X2 + Z2) - (t0 + t2)
  let t5 := (Y1 + Z1) * (Y2 + Z2) - (t1 + t2)
  let z := T * t2 + A * t4
  let x := t1 - z
  let z := t1 + z
  let y := x * z
  let t1 := t0 + t0 + t0
  let t2 := A * t2
  let t4 := T * t4
  let t1 := t1 + t2
  let t2 := A * (t0 - t2)
  let t4 := t4 + t2
  let y := y + t1 * t4
  let x := t3 * x - t5 * t4
  let z := t5 * z + t3 * t1
  (x, y, z)
/-- A triple stands for a point. -/
inductive Rep : Fin p → Fin p → Fin p → Pt p → Prop where
  | inf {Y : Fin p} : Y ≠ 0 → Rep 0 Y 0 .inf
  | aff {Z : Fin p} (x y : Fin p) : Z ≠ 0 → Rep (x * Z) (y * Z) Z (.aff x y)
theorem sum3_scale (A T x1 y1 Z1 x2 y2 Z2 : Fin p) : sum3 A T (x1 * Z1) (y1 * Z1) Z1 (x2 * Z2) (y2 * Z2) Z2 =
    ((sum3 A T x1 y1 1 x2 y2 1).1 * (Z1 * Z1 * (Z2 * Z2)), (sum3 A T x1 y1 1 x2 y2 1).2.1 * (Z1 * Z1 * (Z2 * Z2)), (sum3 A T x1 y1 1 x2 y2 1).2.2 * (Z1 * Z1 * (Z2 * Z2))) := by
  simp only [sum3]
  refine Prod.ext ?_ (Prod.ext ?_ ?_)
  · dsimp only; grind -lia
  · dsimp only; grind -lia
  · dsimp only; grind -lia
theorem sum3_line {x1 x2 y2 l A B : Fin p} (hA : A = l * (y2 + l * (x1 - x2) + y2) - (x1 * x1 + x1 * x2 + x2 * x2)) (hB : B = (y2 + l * (x1 - x2)) * (y2 + l * (x1 - x2)) - x1 * x1 * x1 - A * x1) :
    (sum3 A (B + B + B) x1 (y2 + l * (x1 - x2)) 1 x2 y2 1).1 = (l * l - x1 - x2) * (sum3 A (B + B + B) x1 (y2 + l * (x1 - x2)) 1 x2 y2 1).2.2 ∧
    (sum3 A (B + B + B) x1 (y2 + l * (x1 - x2)) 1 x2 y2 1).2.1 = (l * (x1 - (l * l - x1 - x2)) - (y2 + l * (x1 - x2))) * (sum3 A (B + B + B) x1 (y2 + l * (x1 - x2)) 1 x2 y2 1).2.2 ∧
    (sum3 A (B + B + B) x1 (y2 + l * (x1 - x2)) 1 x2 y2 1).2.2 = -((y2 + l * (x1 - x2) + y2) * (x1 * (x1 - x2) * (x1 - x2) - ((y2 + l * (x1 - x2) + y2) * (y2 + l * (x1 - x2) + y2) - (x1 + x2) * ((x1 - x2) * (x1 - x2)))) - (y2 + l * (x1 - x2)) * ((x1 - x2) * (x1 - x2) * (x1 - x2))) := by
  subst hB hA
  simp only [sum3]
  refine ⟨?_, ?_, ?_⟩ <;> grind -lia
theorem sum3_opp {x y A B : Fin p} (hB : B = y * y - x * x * x - A * x) : sum3 A (B + B + B) x y 1 x (-y) 1 =
    (0, -(8 * (y * y * (y * y)) - 12 * x * (y * y) * (3 * (x * x) + A) + (3 * (x * x) + A) * (3 * (x * x) + A) * (3 * (x * x) + A)), 0) := by
  subst hB
  simp only [sum3]
  refine Prod.ext ?_ (Prod.ext ?_ ?_)
  · dsimp only; grind -lia
  · dsimp only; grind -lia
  · dsimp only; grind -lia
theorem sum3_left (A T Y1 x2 y2 Z2 : Fin p) : sum3 A T 0 Y1 0 (x2 * Z2) (y2 * Z2) Z2 = (x2 * (Y1 * Y1 * (y2 * Z2) * Z2), y2 * (Y1 * Y1 * (y2 * Z2) * Z2), Y1 * Y1 * (y2 * Z2) * Z2) := by
  simp only [sum3]
  refine Prod.ext ?_ (Prod.ext ?_ ?_)
  · dsimp only; grind -lia
  · dsimp only; grind -lia
  · dsimp only; grind -lia
theorem sum3_right (A T Y1 x2 y2 Z2 : Fin p) : sum3 A T (x2 * Z2) (y2 * Z2) Z2 0 Y1 0 = (x2 * (Y1 * Y1 * (y2 * Z2) * Z2), y2 * (Y1 * Y1 * (y2 * Z2) * Z2), Y1 * Y1 * (y2 * Z2) * Z2) := by
  simp only [sum3]
  refine Prod.ext ?_ (Prod.ext ?_ ?_)
  · dsimp only; grind -lia
  · dsimp only; grind -lia
  · dsimp only; grind -lia
theorem sum3_none (A T Y1 Y2 : Fin p) : sum3 A T 0 Y1 0 0 Y2 0 = (0, Y1 * Y2 * (Y1 * Y2), 0) := by
  simp only [sum3]
  refine Prod.ext ?_ (Prod.ext ?_ ?_)
  · dsimp only; grind -lia
  · dsimp only; grind -lia
  · dsimp only; grind -lia
theorem Dom.mul (hd : Dom p) {x y : Fin p} (hx : x ≠ 0) (hy : y ≠ 0) : x * y ≠ 0 := fun h => (hd _ _ h).elim hx hy
theorem neg_ne {x : Fin p} (h : x ≠ 0) : -x ≠ 0 := fun e => h (by have : x = -(-x) := by grind -lia
                                                                  rw [this, e]; grind -lia)
/-- What the sums need of a curve: a field, in which 2 is not 0; no point with y = 0. -/
structure Good (a b : Fin p) : Prop where
  dom : Dom p
  inv : ∀ x : Fin p, x ≠ 0 → ∃ y, x * y = 1
  two : ∀ y : Fin p, y + y = 0 → y = 0
  root : ∀ x : Fin p, ¬ On a b (.aff x 0)
theorem Good.fine {a b : Fin p} (h : Good a b) : Fine a b := ⟨h.dom, h.two, fun x hx _ => h.root x hx⟩
theorem Good.y_ne {a b x y : Fin p} (h : Good a b) (hP : On a b (.aff x y)) : y ≠ 0 := fun e => h.root x (e ▸ hP)
theorem Good.quot {a b : Fin p} (h : Good a b) {x : Fin p} (hx : x ≠ 0) (y : Fin p) : ∃ l, l * x = y := by
  obtain ⟨i, hi⟩ := h.inv x hx
  refine ⟨y * i, ?_⟩
  have e : y * i * x = y * (x * i) := by clear hi; grind -lia
  rw [e, hi]; clear hi e; grind -lia
/-- Each two points have a sum. -/
theorem Good.sum {a b : Fin p} (h : Good a b) {A B : Pt p} (hA : On a b A) (hB : On a b B) : ∃ R, Add a A B R := by
  cases A with
  | inf => exact ⟨_, .left _⟩
  | aff x1 y1 => cases B with
    | inf => exact ⟨_, .right _⟩
    | aff x2 y2 =>
      by_cases ho : Opp x1 y1 x2 y2
      · exact ⟨_, .opp ho⟩
      · have key : ∃ l, Slope a x1 y1 x2 y2 l := by
          simp only [On] at hA hB
          by_cases hx : x1 - x2 = 0
          · have hs : y1 + y2 ≠ 0 := fun e => ho ⟨hx, e⟩
            obtain ⟨l, hl⟩ := h.quot hs (x1 * x1 + x1 * x2 + x2 * x2 + a)
            refine ⟨l, ?_, sub_of_eq hl⟩
            obtain rfl := eq_of_sub hx
            have e : (y1 - y2) * (y1 + y2) = 0 := lin2 (c1 := 1) (c2 := -1) (by clear hl hs hx ho hA hB; grind -lia) hA hB
            have e2 : y1 - y2 = 0 := (h.dom _ _ e).elim id (fun e => absurd e hs)
            exact lin1 (c1 := -1) (by clear hl hs hx ho hA hB e e2; grind -lia) e2
          · obtain ⟨l, hl⟩ := h.quot hx (y1 - y2)
            refine ⟨l, sub_of_eq hl, ?_⟩
            have e : (l * (y1 + y2) - (x1 * x1 + x1 * x2 + x2 * x2 + a)) * (x1 - x2) = 0 := lin3 (c1 := y1 + y2) (c2 := 1) (c3 := -1) (by clear hl hx ho hA hB; grind -lia) (sub_of_eq hl) hA hB
            exact (h.dom _ _ e).elim id (fun e => absurd e hx)
        obtain ⟨l, hl⟩ := key
        exact ⟨_, .line l (l * l - x1 - x2) (l * (x1 - (l * l - x1 - x2)) - y1) ho hl (by clear hl ho hA hB; grind -lia) (by clear hl ho hA hB; grind -lia)⟩
theorem rep_scale {X Y Z k : Fin p} {P : Pt p} (hd : Dom p) (h : Rep X Y Z P) (hk : k ≠ 0) : Rep (X * k) (Y * k) (Z * k) P := by
  cases h with
  | inf h =>
    have e : (0 : Fin p) * k = 0 := by clear h hk; grind -lia
    rw [e]
    exact .inf (hd.mul h hk)
  | aff x y h =>
    have e1 : x * Z * k = x * (Z * k) := by clear h hk; grind -lia
    have e2 : y * Z * k = y * (Z * k) := by clear h hk; grind -lia
    rw [e1, e2]
    exact .aff x y (hd.mul h hk)
theorem Rep.sum {a b X1 Y1 Z1 X2 Y2 Z2 : Fin p} (h : Good a b) {P Q R : Pt p} (hP : Rep X1 Y1 Z1 P) (hQ : Rep X2 Y2 Z2 Q) (oP : On a b P) (oQ : On a b Q) (hR : Add a P Q R) :
    Rep (sum3 a (b + b + b) X1 Y1 Z1 X2 Y2 Z2).1 (sum3 a (b + b + b) X1 Y1 Z1 X2 Y2 Z2).2.1 (sum3 a (b + b + b) X1 Y1 Z1 X2 Y2 Z2).2.2 R := by
  have hd := h.dom
  cases hP with
  | inf h1 => cases hQ with
    | inf h2 =>
      have e : R = .inf := by cases hR <;> rfl
      subst e
      rw [sum3_none]
      exact .inf (hd.mul (hd.mul h1 h2) (hd.mul h1 h2))
    | aff x2 y2 h2 =>
      have e : R = .aff x2 y2 := by cases hR; rfl
      subst e
      rw [sum3_left]
      exact .aff x2 y2 (hd.mul (hd.mul (hd.mul h1 h1) (hd.mul (h.y_ne oQ) h2)) h2)
  | aff x1 y1 h1 => cases hQ with
    | inf h2 =>
      have e : R = .aff x1 y1 := by cases hR; rfl
      subst e
      rw [sum3_right]
      exact .aff x1 y1 (hd.mul (hd.mul (hd.mul h2 h2) (hd.mul (h.y_ne oP) h1)) h1)
    | aff x2 y2 h2 =>
      rw [sum3_scale]
      refine rep_scale hd ?_ (hd.mul (hd.mul h1 h1) (hd.mul h2 h2))
      have hb := oP
      simp only [On] at hb
      cases hR with
      | opp ho =>
        have e := ho.eq
        injection e with e1 e2
        subst e1 e2
        have hB : b = y1 * y1 - x2 * x2 * x2 - a * x2 := eq_of_sub (lin1 (c1 := -1) (by clear hb ho oP oQ h1 h2; grind -lia) hb)
        rw [sum3_opp hB]
        refine .inf (neg_ne ?_)
        intro hV
        have hy := h.y_ne oP
        have hyy : y1 + y1 ≠ 0 := fun e => hy (h.two _ e)
        obtain ⟨l, hl⟩ := h.quot hyy (3 * (x2 * x2) + a)
        have hs : Slope a x2 y1 x2 y1 l := ⟨by clear hl hV hB hb; grind -lia, lin1 (c1 := 1) (by clear hl hV hB hb; grind -lia) (sub_of_eq hl)⟩
        have hA : Add a (.aff x2 y1) (.aff x2 y1) (.aff (l * l - x2 - x2) (l * (x2 - (l * l - x2 - x2)) - y1)) := .line l _ _ (fun e => hyy e.2) hs (by clear hl hV hB hb; grind -lia) (by clear hl hV hB hb; grind -lia)
        have hO := hA.on oP oP
        have hy4 := h.y_ne hO
        apply hd.mul hy4 (hd.mul hyy (hd.mul hyy hyy))
        have hl' := hl.symm
        rw [hl'] at hV
        refine lin1 (c1 := -1) ?_ hV
        clear hV hl' hl hB hb hs hA hO hy4 hyy hy oP oQ ho
        grind -lia
      | line l x y hn hs hx hy =>
        obtain rfl := eq_of_sub hx
        obtain rfl := eq_of_sub hy
        have hs1 := hs.chord
        have hs2 := hs.tang
        obtain rfl : y1 = y2 + l * (x1 - x2) := eq_of_sub (lin1 (c1 := -1) (by clear hs1 hs2 hb hx hy oP oQ; grind -lia) hs1)
        have hA : a = l * (y2 + l * (x1 - x2) + y2) - (x1 * x1 + x1 * x2 + x2 * x2) := eq_of_sub (lin1 (c1 := -1) (by clear hs1 hs2 hb hx hy oP oQ; grind -lia) hs2)
        have hB : b = (y2 + l * (x1 - x2)) * (y2 + l * (x1 - x2)) - x1 * x1 * x1 - a * x1 := eq_of_sub (lin1 (c1 := -1) (by clear hs1 hs2 hb hx hy oP oQ hA; grind -lia) hb)
        obtain ⟨e1, e2, e3⟩ := sum3_line hA hB
        rw [e1, e2]
        refine .aff _ _ ?_
        rw [e3]
        refine neg_ne ?_
        clear e1 e2 e3
        by_cases hxx : x1 - x2 = 0
        · have hss : y2 + l * (x1 - x2) + y2 ≠ 0 := fun e => hn ⟨hxx, e⟩
          intro hV
          obtain rfl := eq_of_sub hxx
          apply hd.mul hss (hd.mul hss hss)
          refine lin1 (c1 := -1) ?_ hV
          clear hV hss hA hB hb hs hs1 hs2 hx hy oP oQ hxx hn
          grind -lia
        · obtain ⟨n, hn'⟩ := h.quot hxx (y2 + l * (x1 - x2) + y2)
          have oQ' : On a b (.aff x2 (-y2)) := neg_on oQ
          have hs' : Slope a x1 (y2 + l * (x1 - x2)) x2 (-y2) n := by
            have c1 : n * (x1 - x2) - (y2 + l * (x1 - x2) - -y2) = 0 := lin1 (c1 := 1) (by clear hn' hA hB hb hs hs1 hs2 hx hy oP oQ oQ' hxx hn; grind -lia) (sub_of_eq hn')
            refine ⟨c1, ?_⟩
            have e : (n * (y2 + l * (x1 - x2) + -y2) - (x1 * x1 + x1 * x2 + x2 * x2 + a)) * (x1 - x2) = 0 := lin2 (c1 := l * (x1 - x2)) (c2 := x1 - x2) (by clear hn' hA hB hb hs hs1 hs2 hx hy oP oQ oQ' hxx hn; grind -lia) (sub_of_eq hn') hs2
            exact (hd _ _ e).elim id (fun e => absurd e hxx)
          have hA' : Add a (.aff x1 (y2 + l * (x1 - x2))) (.aff x2 (-y2)) (.aff (n * n - x1 - x2) (n * (x1 - (n * n - x1 - x2)) - (y2 + l * (x1 - x2)))) := .line n _ _ (fun e => hxx e.1) hs' (by clear hn' hA hB hb hs hs1 hs2 hx hy oP oQ oQ' hxx hn hs'; grind -lia) (by clear hn' hA hB hb hs hs1 hs2 hx hy oP oQ oQ' hxx hn hs'; grind -lia)
          have hO := hA'.on oP oQ'
          have hy4 := h.y_ne hO
          intro hV
          apply hd.mul hy4 (hd.mul hxx (hd.mul hxx hxx))
          rw [← hn'] at hV
          refine lin1 (c1 := 1) ?_ hV
          clear hV hA hB hb hs hs1 hs2 hx hy oP oQ oQ' hxx hn hs' hA' hO hy4 hn'
          grind -lia
end
end Go.Proofs.Ytljblbgogjieaaa.Grp
