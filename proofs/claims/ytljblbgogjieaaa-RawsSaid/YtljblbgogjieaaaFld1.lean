/- Powers in a prime field; Fermat. No Go and no program here. -/
import Derived.Test.YtljblbgogjieaaaGrp4
set_option linter.unusedVariables false
set_option linter.unusedSectionVars false
namespace Go.Proofs.Ytljblbgogjieaaa.Grp
section
variable {p : Nat} [NeZero p]
def fpow (x : Fin p) : Nat → Fin p
  | 0 => 1
  | k + 1 => fpow x k * x
theorem fpow_one (x : Fin p) : fpow x 1 = x := by show (1 : Fin p) * x = x; grind -lia
theorem fpow_add (x : Fin p) (i : Nat) : ∀ j, fpow x (i + j) = fpow x i * fpow x j
  | 0 => by show fpow x i = fpow x i * 1; grind -lia
  | j + 1 => by
    show fpow x (i + j) * x = fpow x i * (fpow x j * x)
    rw [fpow_add x i j]; grind -lia
theorem fpow_mul (x : Fin p) (i : Nat) : ∀ j, fpow x (i * j) = fpow (fpow x i) j
  | 0 => rfl
  | j + 1 => by
    rw [Nat.mul_succ, fpow_add, fpow_mul x i j]; rfl
theorem one_fpow : ∀ j, fpow (1 : Fin p) j = 1
  | 0 => rfl
  | j + 1 => by show fpow 1 j * 1 = 1; rw [one_fpow j]; grind -lia
theorem mul_fpow (x y : Fin p) : ∀ j, fpow (x * y) j = fpow x j * fpow y j
  | 0 => by show (1 : Fin p) = 1 * 1; grind -lia
  | j + 1 => by
    show fpow (x * y) j * (x * y) = fpow x j * x * (fpow y j * y)
    rw [mul_fpow x y j]; grind -lia
theorem fpow_two (x : Fin p) : fpow x 2 = x * x := by show (1 : Fin p) * x * x = x * x; grind -lia
theorem c_pow (A : Nat) : ∀ E, c p (A ^ E) = fpow (c p A) E
  | 0 => rfl
  | E + 1 => by rw [Nat.pow_succ, c_mul, c_pow A E]; rfl
def prodL : List (Fin p) → Fin p
  | [] => 1
  | x :: l => x * prodL l
theorem prodL_perm {l m : List (Fin p)} (h : l.Perm m) : prodL l = prodL m := by
  induction h with
  | nil => rfl
  | cons x _ ih => simp only [prodL, ih]
  | swap x y l => simp only [prodL]; grind -lia
  | trans _ _ ih1 ih2 => exact ih1.trans ih2
theorem prodL_map (x : Fin p) : ∀ l : List (Fin p), prodL (l.map fun y => x * y) = fpow x l.length * prodL l
  | [] => by show (1 : Fin p) = 1 * 1; grind -lia
  | y :: l => by
    show x * y * prodL (l.map fun y => x * y) = fpow x l.length * x * (y * prodL l)
    rw [prodL_map x l]; grind -lia
theorem prodL_ne (hd : Dom p) (h1 : (1 : Fin p) ≠ 0) : ∀ l : List (Fin p), (∀ x, x ∈ l → x ≠ 0) → prodL l ≠ 0
  | [], _ => h1
  | x :: l, h => hd.mul (h x (.head _)) (prodL_ne hd h1 l fun y hy => h y (.tail _ hy))
end
theorem one_ne {p : Nat} [NeZero p] (hp : 2 ≤ p) : (1 : Fin p) ≠ 0 := fun e => by
  have := congrArg Fin.val e
  rw [Fin.val_zero] at this
  have h1 : (1 : Fin p).val = 1 % p := rfl
  rw [h1, Nat.mod_eq_of_lt (by omega)] at this
  cases this
/-- Fermat. -/
theorem fermat {p : Nat} [NeZero p] (h : Fld p) (hp : 2 ≤ p) {x : Fin p} (hx : x ≠ 0) : fpow x (p - 1) = 1 := by
  obtain ⟨k, rfl⟩ : ∃ k, p = k + 1 := ⟨p - 1, by omega⟩
  have hd := h.dom
  obtain ⟨xi, hxi⟩ := h.inv x hx
  have hU : ∀ y : Fin (k + 1), y ∈ (List.finRange k).map Fin.succ ↔ y ≠ 0 := fun y => by
    constructor
    · intro hy e
      obtain ⟨z, _, hz⟩ := List.mem_map.1 hy
      exact Fin.succ_ne_zero z (hz.trans e)
    · intro hy
      obtain ⟨z, hz⟩ : ∃ z : Fin k, z.succ = y := ⟨y.pred hy, Fin.succ_pred y hy⟩
      exact List.mem_map.2 ⟨z, List.mem_finRange z, hz⟩
  have hn : ((List.finRange k).map Fin.succ).Nodup := by
    have := List.nodup_finRange (k + 1)
    rw [List.finRange_succ] at this
    exact (List.nodup_cons.1 this).2
  have hcan : ∀ y z : Fin (k + 1), x * y = x * z → y = z := fun y z e => by
    have : (y - z) * x = 0 := lin1 (c1 := 1) (by clear hU hn hxi e; grind -lia) (sub_of_eq e)
    exact hd.cancel hx this
  have hn2 : (((List.finRange k).map Fin.succ).map fun y => x * y).Nodup := by
    rw [List.nodup_iff_pairwise_ne] at hn ⊢
    exact List.Pairwise.map _ (fun y z hne e => hne (hcan y z e)) hn
  have hperm : (((List.finRange k).map Fin.succ).map fun y => x * y).Perm ((List.finRange k).map Fin.succ) := by
    rw [List.perm_ext_iff_of_nodup hn2 hn]
    intro y
    rw [hU]
    constructor
    · intro hy e
      obtain ⟨z, hz, e2⟩ := List.mem_map.1 hy
      exact hd.mul hx ((hU z).1 hz) (e2.trans e)
    · intro hy
      refine List.mem_map.2 ⟨xi * y, (hU _).2 ?_, ?_⟩
      · refine hd.mul (fun e => ?_) hy
        rw [e] at hxi
        exact one_ne hp (by rw [← hxi]; clear hU hn hcan hn2 hxi; grind -lia)
      · have : x * (xi * y) = x * xi * y := by clear hU hn hcan hn2 hxi; grind -lia
        rw [this, hxi]; clear this hU hn hcan hn2 hxi; grind -lia
  have e := prodL_perm hperm
  rw [prodL_map, List.length_map, List.length_finRange] at e
  have hP := prodL_ne hd (one_ne hp) _ fun y hy => (hU y).1 hy
  generalize prodL ((List.finRange k).map Fin.succ) = P at e hP
  rw [Nat.add_sub_cancel]
  exact hd.cancel hP (lin1 (c1 := 1) (by clear hU hn hcan hn2 hperm hxi hP e; grind -lia) (sub_of_eq e))
theorem fermat' {p : Nat} [NeZero p] (h : Fld p) (hp : 2 ≤ p) (x : Fin p) : fpow x p = x := by
  by_cases hx : x = 0
  · obtain ⟨k, rfl⟩ : ∃ k, p = k + 1 := ⟨p - 1, by omega⟩
    rw [hx]
    show fpow 0 k * 0 = 0
    grind -lia
  · have e := fermat h hp hx
    obtain ⟨k, rfl⟩ : ∃ k, p = k + 1 := ⟨p - 1, by omega⟩
    show fpow x k * x = x
    rw [Nat.add_sub_cancel] at e
    rw [e]; clear e hx; grind -lia
end Go.Proofs.Ytljblbgogjieaaa.Grp
