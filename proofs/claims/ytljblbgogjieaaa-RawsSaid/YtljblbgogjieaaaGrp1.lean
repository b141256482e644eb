/- The group law of a curve y y = x x x + a x + b over the numbers modulo a prime: sums are unique, on the curve, and in any brackets. No Go and no program here. -/
set_option linter.unusedVariables false
namespace Go.Proofs.Ytljblbgogjieaaa.Grp
section
variable {p : Nat} [NeZero p]
abbrev F (p : Nat) := Fin p
theorem eq_of_sub {x y : Fin p} (h : x - y = 0) : x = y := by grind -lia
theorem sub_of_eq {x y : Fin p} (h : x = y) : x - y = 0 := by grind -lia
theorem lin1 {x c1 e1 : Fin p} (h : x = c1 * e1) (h1 : e1 = 0) : x = 0 := by rw [h, h1]; grind -lia
theorem lin2 {x c1 e1 c2 e2 : Fin p} (h : x = c1 * e1 + c2 * e2) (h1 : e1 = 0) (h2 : e2 = 0) : x = 0 := by rw [h, h1, h2]; grind -lia
theorem lin3 {x c1 e1 c2 e2 c3 e3 : Fin p} (h : x = c1 * e1 + c2 * e2 + c3 * e3) (h1 : e1 = 0) (h2 : e2 = 0) (h3 : e3 = 0) : x = 0 := by rw [h, h1, h2, h3]; grind -lia
theorem lin4 {x c1 e1 c2 e2 c3 e3 c4 e4 : Fin p} (h : x = c1 * e1 + c2 * e2 + c3 * e3 + c4 * e4) (h1 : e1 = 0) (h2 : e2 = 0) (h3 : e3 = 0) (h4 : e4 = 0) : x = 0 := by rw [h, h1, h2, h3, h4]; grind -lia
/-- No two numbers but 0 come to 0. -/
def Dom (p : Nat) [NeZero p] : Prop := ∀ x y : Fin p, x * y = 0 → x = 0 ∨ y = 0
theorem Dom.cancel (hd : Dom p) {x y c : Fin p} (hc : c ≠ 0) (h : (x - y) * c = 0) : x = y := by
  rcases hd _ _ h with h | h
  · exact eq_of_sub h
  · exact absurd h hc
/-- 'l' is the slope of the line through two points, or of the tangent. -/
structure Slope (a x1 y1 x2 y2 l : Fin p) : Prop where
  chord : l * (x1 - x2) - (y1 - y2) = 0
  tang : l * (y1 + y2) - (x1 * x1 + x1 * x2 + x2 * x2 + a) = 0
theorem Slope.symm {a x1 y1 x2 y2 l : Fin p} (h : Slope a x1 y1 x2 y2 l) : Slope a x2 y2 x1 y1 l :=
  ⟨lin1 (c1 := -1) (by grind -lia) h.chord, lin1 (c1 := 1) (by grind -lia) h.tang⟩
def Opp (x1 y1 x2 y2 : Fin p) : Prop := x1 - x2 = 0 ∧ y1 + y2 = 0
theorem Slope.unique (hd : Dom p) {a x1 y1 x2 y2 l m : Fin p} (hn : ¬ Opp x1 y1 x2 y2) (hl : Slope a x1 y1 x2 y2 l) (hm : Slope a x1 y1 x2 y2 m) : l = m := by
  by_cases h : x1 - x2 = 0
  · have h2 : y1 + y2 ≠ 0 := fun e => hn ⟨h, e⟩
    exact hd.cancel h2 (lin2 (c1 := 1) (c2 := -1) (by grind -lia) hl.tang hm.tang)
  · exact hd.cancel h (lin2 (c1 := 1) (c2 := -1) (by grind -lia) hl.chord hm.chord)
/-- The slope of a sum's line with a third point, out of both slopes. -/
theorem slope_next (hd : Dom p) {a x1 y1 x2 y2 x3 y3 l m s x4 y4 : Fin p} (hA : Slope a x1 y1 x2 y2 l) (hC : Slope a x3 y3 x2 y2 m) (h4 : x4 - (l * l - x1 - x2) = 0) (h5 : y4 - (l * (x1 - x4) - y1) = 0)
    (hs : Slope a x3 y3 x4 y4 s) (hlm : l - m ≠ 0) (hn : ¬ Opp x3 y3 x4 y4) : (s + l) * (l - m) = x1 - x3 := by
  obtain ⟨hA1, hA2⟩ := hA
  obtain ⟨hC1, hC2⟩ := hC
  obtain ⟨hs1, hs2⟩ := hs
  obtain rfl : y1 = y2 + l * (x1 - x2) := eq_of_sub (lin1 (c1 := -1) (by grind -lia) hA1)
  obtain rfl : y3 = y2 + m * (x3 - x2) := eq_of_sub (lin1 (c1 := -1) (by grind -lia) hC1)
  obtain rfl : x4 = l * l - x1 - x2 := eq_of_sub h4
  obtain rfl : y4 = _ := eq_of_sub h5
  have hK1 : (s * (l - m) - (l * m - l * l + x1 - x3)) * (x3 - (l * l - x1 - x2)) = 0 :=
    lin3 (c1 := l - m) (c2 := 1) (c3 := -1) (by clear hA1 hA2 hC1 hC2 hs1 hs2 h4 h5 hlm hn; grind -lia) hs1 hA2 hC2
  have hK2 : (s * (l - m) - (l * m - l * l + x1 - x3)) * (y2 + m * (x3 - x2) + (l * (x1 - (l * l - x1 - x2)) - (y2 + l * (x1 - x2)))) = 0 :=
    lin3 (c1 := l - m) (c2 := m) (c3 := -l) (by clear hA1 hA2 hC1 hC2 hs1 hs2 h4 h5 hlm hn hK1; grind -lia) hs2 hA2 hC2
  have hK : s * (l - m) = l * m - l * l + x1 - x3 := by
    by_cases h : x3 - (l * l - x1 - x2) = 0
    · exact hd.cancel (fun e => hn ⟨h, e⟩) hK2
    · exact hd.cancel h hK1
  clear hA1 hA2 hC1 hC2 hs1 hs2 h4 h5 hlm hn hK1 hK2
  have : (s + l) * (l - m) = s * (l - m) + l * (l - m) := by clear hK; grind -lia
  rw [this, hK]; clear hK this; grind -lia
/-- The sum of two points as a relation. -/
inductive Pt (p : Nat) where
  | inf
  | aff (x y : Fin p)
def Pt.neg : Pt p → Pt p
  | .inf => .inf
  | .aff x y => .aff x (-y)
inductive Add (a : Fin p) : Pt p → Pt p → Pt p → Prop where
  | left (q : Pt p) : Add a .inf q q
  | right (q : Pt p) : Add a q .inf q
  | opp {x1 y1 x2 y2 : Fin p} : Opp x1 y1 x2 y2 → Add a (.aff x1 y1) (.aff x2 y2) .inf
  | line {x1 y1 x2 y2 : Fin p} (l x y : Fin p) : ¬ Opp x1 y1 x2 y2 → Slope a x1 y1 x2 y2 l → x - (l * l - x1 - x2) = 0 → y - (l * (x1 - x) - y1) = 0 → Add a (.aff x1 y1) (.aff x2 y2) (.aff x y)
theorem Opp.symm {x1 y1 x2 y2 : Fin p} (h : Opp x1 y1 x2 y2) : Opp x2 y2 x1 y1 := ⟨lin1 (c1 := -1) (by grind -lia) h.1, lin1 (c1 := 1) (by grind -lia) h.2⟩
theorem Add.symm {a : Fin p} {A B R : Pt p} (h : Add a A B R) : Add a B A R := by
  cases h with
  | left q => exact .right _
  | right q => exact .left _
  | opp h => exact .opp h.symm
  | line l x y hn hs hx hy =>
    refine .line l x y (fun h => hn h.symm) hs.symm ?_ ?_
    · exact lin1 (c1 := 1) (by clear hs hx hy hn; grind -lia) hx
    · exact lin2 (c1 := 1) (c2 := 1) (by clear hs hx hy hn; grind -lia) hy hs.chord
theorem Add.unique (hd : Dom p) {a : Fin p} {A B R S : Pt p} (h : Add a A B R) (k : Add a A B S) : R = S := by
  cases h with
  | left q => cases k <;> rfl
  | right q => cases k <;> rfl
  | opp h => cases k with
    | opp _ => rfl
    | line _ _ _ hn _ _ _ => exact absurd h hn
  | line l x y hn hs hx hy => cases k with
    | opp h => exact absurd h hn
    | line m x' y' hn' hs' hx' hy' =>
      obtain rfl := hs.unique hd hn hs'
      obtain rfl := eq_of_sub hx
      obtain rfl := eq_of_sub hy
      obtain rfl := eq_of_sub hx'
      obtain rfl := eq_of_sub hy'
      rfl
/-- On the curve. -/
def On (a b : Fin p) : Pt p → Prop
  | .inf => True
  | .aff x y => y * y - (x * x * x + a * x + b) = 0
theorem Add.on {a b : Fin p} {A B R : Pt p} (h : Add a A B R) (hA : On a b A) (hB : On a b B) : On a b R := by
  cases h with
  | left q => exact hB
  | right q => exact hA
  | opp h => trivial
  | @line x1 y1 x2 y2 l x y hn hs hx hy =>
    obtain ⟨h1, h2⟩ := hs
    simp only [On] at hA hB ⊢
    obtain rfl := eq_of_sub hy
    have hx' : l * l - x1 - x2 - x = 0 := lin1 (c1 := -1) (by clear h1 h2 hA hB hn hx; grind -lia) hx
    exact lin4 (c1 := 1) (c2 := x - x1) (c3 := -((x - x1) * l)) (c4 := (x - x1) * (x - x2)) (by clear h1 h2 hA hB hn hx hx'; grind -lia) hA h2 h1 hx'
/-- The curve has no point where it crosses itself, and twice a number that is not 0 is not 0. -/
structure Fine (a b : Fin p) : Prop where
  dom : Dom p
  two : ∀ y : Fin p, y + y = 0 → y = 0
  sing : ∀ x : Fin p, On a b (.aff x 0) → x * x + x * x + x * x + a = 0 → False
theorem Opp.eq {x1 y1 x2 y2 : Fin p} (h : Opp x1 y1 x2 y2) : (.aff x2 y2 : Pt p) = .aff x1 (-y1) := by
  have e1 : x2 = x1 := eq_of_sub (lin1 (c1 := -1) (by grind -lia) h.1)
  have e2 : y2 = -y1 := eq_of_sub (lin1 (c1 := 1) (by grind -lia) h.2)
  rw [e1, e2]
theorem opp_neg (x y : Fin p) : Opp x (-y) x y := ⟨by grind -lia, by grind -lia⟩
theorem opp_neg' (x y : Fin p) : Opp x y x (-y) := ⟨by grind -lia, by grind -lia⟩
theorem Pt.neg_neg (A : Pt p) : A.neg.neg = A := by
  cases A with
  | inf => rfl
  | aff x y => simp only [Pt.neg]; congr 1; grind -lia
theorem Add.cancel {a b : Fin p} (hf : Fine a b) {B C E : Pt p} (hB : On a b B) (h : Add a B C E) : Add a B.neg E C := by
  cases h with
  | left q => exact .left _
  | right q =>
    cases B with
    | inf => exact .right _
    | aff x y => exact .opp (opp_neg x y)
  | opp h => rw [h.eq]; exact .right _
  | @line x2 y2 x3 y3 m x y hn hs hx hy =>
    obtain ⟨h1, h2⟩ := hs
    have ht : -m * (-y2 + y) - (x2 * x2 + x2 * x + x * x + a) = 0 := by
      clear hB hn
      obtain rfl : y3 = y2 - m * (x2 - x3) := eq_of_sub (lin1 (c1 := 1) (by clear h1 h2 hx hy; grind -lia) h1)
      obtain rfl := eq_of_sub hx
      obtain rfl := eq_of_sub hy
      exact lin1 (c1 := 1) (by clear h1 h2 hx hy; grind -lia) h2
    refine .line (-m) x3 y3 ?_ ⟨?_, ht⟩ ?_ ?_
    · rintro ⟨o1, o2⟩
      obtain rfl := eq_of_sub o1
      have e1 : y2 + y2 = 0 := lin2 (c1 := -1) (c2 := 1) (by clear h1 h2 hx hy hB hn ht o1 o2; grind -lia) o2 hy
      have e2 := hf.two _ e1
      subst e2
      have e3 : y = 0 := by
        have : y - 0 = 0 := lin1 (c1 := 1) (by clear h1 h2 hx hy hB hn ht o1 o2 e1; grind -lia) o2
        exact eq_of_sub this
      subst e3
      exact hf.sing _ hB (lin1 (c1 := -1) (by clear h1 h2 hx hy hB hn ht o1 o2 e1; grind -lia) ht)
    · exact lin1 (c1 := 1) (by clear h1 h2 hx hB hn ht hy; grind -lia) hy
    · exact lin1 (c1 := 1) (by clear h1 h2 hx hB hn ht hy; grind -lia) hx
    · exact lin1 (c1 := 1) (by clear h1 h2 hx hB hn ht hy; grind -lia) h1
theorem Add.neg {a : Fin p} {A B R : Pt p} (h : Add a A B R) : Add a A.neg B.neg R.neg := by
  cases h with
  | left q => exact .left _
  | right q => exact .right _
  | opp h => exact .opp ⟨h.1, lin1 (c1 := -1) (by grind -lia) h.2⟩
  | @line x1 y1 x2 y2 l x y hn hs hx hy =>
    refine .line (-l) x (-y) (fun h => hn ⟨h.1, lin1 (c1 := -1) (by grind -lia) h.2⟩) ⟨lin1 (c1 := -1) (by clear hn hx hy; grind -lia) hs.1, lin1 (c1 := 1) (by clear hn hx hy; grind -lia) hs.2⟩ ?_ ?_
    · exact lin1 (c1 := 1) (by clear hn hx hy hs; grind -lia) hx
    · exact lin1 (c1 := -1) (by clear hn hx hy hs; grind -lia) hy
theorem neg_on {a b : Fin p} {A : Pt p} (h : On a b A) : On a b A.neg := by
  cases A with
  | inf => trivial
  | aff x y =>
    simp only [On, Pt.neg] at h ⊢
    exact lin1 (c1 := 1) (by clear h; grind -lia) h
theorem add_neg (a : Fin p) (A : Pt p) : Add a A A.neg .inf := by
  cases A with
  | inf => exact .left _
  | aff x y => exact .opp (opp_neg' x y)
theorem Add.assoc {a b : Fin p} (hf : Fine a b) {A B C D E R S : Pt p} (hA : On a b A) (hB : On a b B) (hC : On a b C) (h1 : Add a A B D) (h2 : Add a D C R) (h3 : Add a B C E) (h4 : Add a A E S) : R = S := by
  have hd := hf.dom
  have hnA : ∀ {A' B' D' : Pt p}, Add a A' B' D' → On a b A' → On a b B' → Add a B' D'.neg A'.neg := by
    intro A' B' D' h hA hB
    have := (Add.cancel hf hB h.symm).neg
    rwa [Pt.neg_neg] at this
  cases h1 with
  | left q =>
    have := h2.unique hd h3
    subst this
    cases h4 <;> rfl
  | right q =>
    cases h3 <;> exact h2.unique hd h4
  | @opp x1 y1 x2 y2 h =>
    have e : R = C := by cases h2 <;> rfl
    subst e
    have e2 := Add.cancel hf hB h3
    have e3 : (Pt.aff x2 y2).neg = .aff x1 y1 := by
      have := h.symm.eq
      simp only [Pt.neg]; exact this.symm
    rw [e3] at e2
    exact e2.unique hd h4
  | @line x1 y1 x2 y2 l x4 y4 hn hs hx hy =>
    have hAB : Add a (.aff x1 y1) (.aff x2 y2) (.aff x4 y4) := .line l x4 y4 hn hs hx hy
    cases h3 with
    | right q =>
      have e : R = .aff x4 y4 := by cases h2; rfl
      subst e
      exact hAB.unique hd h4
    | @opp _ _ x3 y3 h =>
      have e : S = .aff x1 y1 := by cases h4; rfl
      subst e
      have e2 := Add.cancel hf hB hAB.symm
      rw [show (Pt.aff x2 y2).neg = .aff x3 y3 from h.eq.symm] at e2
      exact h2.unique hd e2.symm
    | @line _ _ x3 y3 m x6 y6 hn' hs' hx' hy' =>
      have hBC : Add a (.aff x2 y2) (.aff x3 y3) (.aff x6 y6) := .line m x6 y6 hn' hs' hx' hy'
      cases h2 with
      | opp h =>
        have e := hnA hAB hA hB
        rw [show (Pt.aff x4 y4).neg = .aff x3 y3 from h.eq.symm] at e
        have e2 := e.unique hd hBC
        rw [← e2] at h4
        exact (add_neg a _).unique hd h4
      | @line _ _ _ _ s xr yr ns ss hxr hyr =>
        cases h4 with
        | opp h =>
          have e := Add.cancel hf hB hBC
          have e1 := e.neg
          rw [Pt.neg_neg, show (Pt.aff x6 y6).neg = Pt.aff x1 y1 from h.symm.eq.symm] at e1
          have e2 := hAB.unique hd e1.symm
          exact absurd (show Opp x4 y4 x3 y3 by injection e2 with e3 e4; rw [e3, e4]; exact opp_neg _ _) ns
        | @line _ _ _ _ t xs ys nt st hxs hys =>
          by_cases hlm : l - m = 0
          · obtain rfl := eq_of_sub hlm
            clear hlm
            have hz : (x1 - x3) * (x1 + x3 + x2 - l * l) = 0 := by
              obtain rfl : y1 = y2 + l * (x1 - x2) := eq_of_sub (lin1 (c1 := -1) (by clear hA hB hC hAB hBC hn hs hx hy hn' hs' hx' hy' ns ss hxr hyr nt st hxs hys; grind -lia) hs.1)
              obtain rfl : y3 = y2 - l * (x2 - x3) := eq_of_sub (lin1 (c1 := 1) (by clear hA hB hC hAB hBC hn hs hx hy hn' hs' hx' hy' ns ss hxr hyr nt st hxs hys; grind -lia) hs'.1)
              exact lin2 (c1 := -1) (c2 := 1) (by clear hA hB hC hAB hBC hn hs hx hy hn' hs' hx' hy' ns ss hxr hyr nt st hxs hys; grind -lia) hs.2 hs'.2
            rcases hd _ _ hz with h | h
            · have hac : (Pt.aff x3 y3) = .aff x1 y1 := by
                obtain rfl := eq_of_sub h
                have : y3 - y1 = 0 := lin2 (c1 := 1) (c2 := 1) (by clear hA hB hC hAB hBC hn hs hx hy hn' hs' hx' hy' ns ss hxr hyr nt st hxs hys hz h; grind -lia) hs.1 hs'.1
                rw [eq_of_sub this]
              have h2' : Add a (.aff x4 y4) (.aff x3 y3) (.aff xr yr) := .line s xr yr ns ss hxr hyr
              have h4' : Add a (.aff x1 y1) (.aff x6 y6) (.aff xs ys) := .line t xs ys nt st hxs hys
              rw [hac] at hBC h2'
              have e := hAB.symm.unique hd hBC
              rw [e] at h2'
              exact h2'.symm.unique hd h4'
            · have h' : x4 - x3 = 0 := lin2 (c1 := 1) (c2 := -1) (by clear hA hB hC hAB hBC hn hs hx hy hn' hs' hx' hy' ns ss hxr hyr nt st hxs hys hz h; grind -lia) hx h
              exact absurd (show Opp x4 y4 x3 y3 from ⟨h', lin4 (c1 := 1) (c2 := 1) (c3 := 1) (c4 := -l) (by clear hA hB hC hAB hBC hn hs hx hy hn' hs' hx' hy' ns ss hxr hyr nt st hxs hys hz h; clear h'; grind -lia) hy hs.1 hs'.1 h'⟩) ns
          · have e1 := slope_next hd hs hs'.symm hx hy ss.symm hlm (fun h => ns h.symm)
            have hs3 : Slope a x3 y3 x2 y2 m := hs'.symm
            have hx3 : x6 - (m * m - x3 - x2) = 0 := lin1 (c1 := 1) (by clear hA hB hC hAB hBC hn hs hx hy hn' hs' hx' hy' ns ss hxr hyr nt st hxs hys hlm; grind -lia) hx'
            have hy3 : y6 - (m * (x3 - x6) - y3) = 0 := lin2 (c1 := 1) (c2 := 1) (by clear hA hB hC hAB hBC hn hs hx hy hn' hs' hx' hy' ns ss hxr hyr nt st hxs hys hlm; clear hx3; grind -lia) hy' hs'.1
            have hml : m - l ≠ 0 := fun e => hlm (lin1 (c1 := -1) (by clear hA hB hC hAB hBC hn hs hx hy hn' hs' hx' hy' ns ss hxr hyr nt st hxs hys hlm; clear hx3 hy3 e; grind -lia) e)
            have e2 := slope_next hd hs3 hs hx3 hy3 st hml nt
            have e3 : s = t + m - l := by
              refine hd.cancel hlm (lin2 (c1 := 1) (c2 := 1) (by clear hA hB hC hAB hBC hn hs hx hy hn' hs' hx' hy' ns ss hxr hyr nt st hxs hys hlm; clear hx3 hy3 hml e1 e2; grind -lia) (sub_of_eq e1) (sub_of_eq e2))
            have e4 := sub_of_eq e2
            clear e1 e2 hx3 hy3 hml hs3
            subst e3
            have z0 := lin2 (c1 := 1) (c2 := 2) rfl hx' e4
            have hxx : xr = xs := eq_of_sub (lin4 (c1 := 1) (c2 := -1) (c3 := -1) (c4 := 1) (by clear hA hB hC hAB hBC hn hs hx hy hn' hs' hx' hy' ns ss hxr hyr nt st hxs hys hlm e4; clear z0; grind -lia) hxr hxs hx z0)
            clear z0
            subst hxx
            have z1 := lin4 (c1 := 1) (c2 := -1) (c3 := 1) (c4 := -1) rfl hyr hys ss.1 hs.1
            have z2 := lin4 (c1 := -1) (c2 := m - l) (c3 := -(m - l)) (c4 := -(t - m)) rfl hs'.1 hx' hxs e4
            have hyy : yr = ys := eq_of_sub (lin2 (c1 := 1) (c2 := 1) (by clear hA hB hC hAB hBC hn hs hx hy hn' hs' hx' hy' ns ss hxr hyr nt st hxs hys hlm e4; clear z1 z2; grind -lia) z1 z2)
            rw [hyy]
end
end Go.Proofs.Ytljblbgogjieaaa.Grp
