/- The arguments of a law: what a value of plain data looks like. -/
import Derived.Test.YtljblbgogjieaaaNum2
import Derived.Carry
import Derived.WideShapes
import GoSem.Claim
set_option linter.unusedVariables false
namespace Go.Proofs.Ytljblbgogjieaaa
open Go Go.RowKit

/-- The words of some number. -/
theorem limbs_exist : ∀ (n : Nat) (f : Nat → Nat), (∀ i, i < n → f i < 18446744073709551616) → ∃ A, A < 2 ^ (64 * n) ∧ ∀ i, i < n → limb A i = f i
  | 0, f, _ => ⟨0, by simp, fun i h => absurd h (Nat.not_lt_zero i)⟩
  | n + 1, f, h => by
    obtain ⟨A, hA, hf⟩ := limbs_exist n f (fun i hi => h i (by omega))
    have hy := h n (by omega)
    refine ⟨A + f n * 2 ^ (64 * n), ?_, fun i hi => ?_⟩
    · have := Nat.mul_le_mul_right (2 ^ (64 * n)) (show f n + 1 ≤ 18446744073709551616 by omega)
      rw [pow64_succ, Nat.add_mul] at *
      omega
    · have h0 : limb A n = 0 := limb_high hA (Nat.le_refl _)
      have := limb_addl A (f n) n i (by omega)
      rw [this]
      by_cases e : i = n
      · rw [if_pos e, h0, e, Nat.zero_add]
      · rw [if_neg e]; exact hf i (by omega)
theorem limbs9 (f : Nat → Nat) (h : ∀ i, i < 9 → f i < 18446744073709551616) : ∃ A, A < W9 ∧ vec .u64 9 f = natL A := by
  obtain ⟨k, hk⟩ : ∃ k : Nat, k = 9 := ⟨9, rfl⟩
  obtain ⟨A, hA, hf⟩ := limbs_exist k f (fun i hi => h i (by omega))
  rw [w9 hk] at hA
  exact ⟨A, hA, vec_congr fun i hi => (hf i (by omega)).symm⟩
/-- One cell of a word. -/
def W64 (v : Value) : Prop := ∃ n : Nat, n < 18446744073709551616 ∧ v = .int .u64 (n : Int)
theorem words_vec : ∀ (cs : List Value), (∀ v, v ∈ cs → W64 v) → ∃ f, (∀ i, f i < 18446744073709551616) ∧ cs = vec .u64 cs.length f := by
  intro cs h
  refine ⟨fun i => match cs[i]? with | some (.int .u64 n) => n.toNat % 18446744073709551616 | _ => 0, fun i => ?_, ?_⟩
  · dsimp only
    split
    · exact Nat.mod_lt _ (by decide)
    · decide
  · apply List.ext_getElem?
    intro i
    by_cases hi : i < cs.length
    · obtain ⟨n, hn, e⟩ := h cs[i] (List.getElem_mem hi)
      rw [vec_get _ _ _ hi]
      have e2 : cs[i]? = some (.int .u64 (n : Int)) := by rw [List.getElem?_eq_getElem hi, e]
      simp only [e2, Int.toNat_natCast]
      rw [Nat.mod_eq_of_lt hn]
    · rw [List.getElem?_eq_none (by omega), List.getElem?_eq_none (by rw [vec_length]; omega)]
theorem words9 {cs : List Value} (hl : cs.length = 9) (h : ∀ v, v ∈ cs → W64 v) : ∃ A, A < W9 ∧ cs = natL A := by
  obtain ⟨f, hf, e⟩ := words_vec cs h
  rw [hl] at e
  obtain ⟨A, hA, e2⟩ := limbs9 f (fun i _ => hf i)
  exact ⟨A, hA, e.trans e2⟩
section
variable {P : Program} {W : World} {r : Reach} {base : Nat} {t : TypeId} {v : Value}
theorem cell_u64 (ht : P.underlying t = some (.int .u64)) (h : Cell.okWide P W r base t v) : W64 v := by
  unfold Cell.okWide at h
  rw [ht] at h
  cases v <;> simp [Cell.ok, ht] at h
  obtain ⟨rfl, h⟩ := h
  simp [IntKind.has, IntKind.min, IntKind.max, IntKind.bits, IntKind.signed] at h
  rename_i n
  refine ⟨n.toNat, by omega, ?_⟩
  congr 1
  omega
theorem cell_bool (ht : P.underlying t = some .bool) (h : Cell.okWide P W r base t v) : ∃ b, v = .bool b := by
  unfold Cell.okWide at h
  rw [ht] at h
  cases v <;> simp [Cell.ok, ht] at h
  exact ⟨_, rfl⟩
theorem val_u64 (ht : P.underlying t = some (.int .u64)) (h : Value.okWide P W r base t v) : ∃ n : Nat, n < 18446744073709551616 ∧ v = .int .u64 (n : Int) := by
  unfold Value.okWide at h
  simp only [ht] at h
  exact cell_u64 ht h
theorem val_i64 (ht : P.underlying t = some (.int .i64)) (h : Value.okWide P W r base t v) : ∃ n : Int, -9223372036854775808 ≤ n ∧ n < 9223372036854775808 ∧ v = .int .i64 n := by
  unfold Value.okWide at h
  simp only [ht] at h
  unfold Cell.okWide at h
  rw [ht] at h
  cases v <;> simp [Cell.ok, ht] at h
  obtain ⟨rfl, h⟩ := h
  simp [IntKind.has, IntKind.min, IntKind.max, IntKind.bits, IntKind.signed] at h
  exact ⟨_, by omega, by omega, rfl⟩
theorem val_bool (ht : P.underlying t = some .bool) (h : Value.okWide P W r base t v) : ∃ b, v = .bool b := by
  unfold Value.okWide at h
  simp only [ht] at h
  exact cell_bool ht h
theorem val_str (ht : P.underlying t = some .string) (h : Value.okWide P W r base t v) : ∃ s : ByteArray, s.size < 9223372036854775808 ∧ v = .string s := by
  unfold Value.okWide at h
  simp only [ht] at h
  unfold Cell.okWide at h
  rw [ht] at h
  cases v <;> simp [Cell.ok, ht] at h
  refine ⟨_, ?_, rfl⟩
  have h2 : (IntKind.i64.max : Int) = 9223372036854775807 := rfl
  omega
/-- A struct or an array: its cells, each of its own type. -/
theorem val_agg {D : TypeDesc} {ts : List TypeId} (ht : P.underlying t = some D) (hn : notAgg D = false) (hc : P.cellsOf t = ts.length) (hts : P.cellTypes P.depth t = some ts) (h : Value.okWide P W r base t v) :
    ∃ cs : List Value, v = .agg cs.toArray ∧ cs.length = ts.length ∧ ∀ (i : Nat) (c : Value), cs[i]? = some c → ∃ u, ts[i]? = some u ∧ Cell.okWide P W r base u c := by
  have h1 : ∃ cs, v = .agg cs ∧ cs.size = P.cellsOf t ∧ Row.okWide P W r base t cs := by
    unfold Value.okWide at h
    rw [ht] at h
    cases D <;> simp [notAgg] at hn <;> exact h
  obtain ⟨cs, rfl, hs, ts', hts', ⟨n, hn'⟩, hcell⟩ := h1
  rw [hts] at hts'
  cases hts'
  rw [hc] at hs
  refine ⟨cs.toList, by simp, by simpa using hs, fun i c hi => ?_⟩
  have hi' : cs[i]? = some c := by simpa using hi
  obtain ⟨u, hu, hok⟩ := hcell i c hi'
  have hlt : i < ts.length := by
    rw [← hs]
    exact (Array.getElem?_eq_some_iff.1 hi').1
  rw [Nat.mod_eq_of_lt hlt] at hu
  exact ⟨u, hu, hok⟩
end
theorem seg_words {P : Program} {W : World} {r : Reach} {base : Nat} {u : TypeId} {ts : List TypeId} {cs : List Value} (hu : P.underlying u = some (.int .u64)) (h : ∀ (i : Nat) (c : Value), cs[i]? = some c → ∃ u, ts[i]? = some u ∧ Cell.okWide P W r base u c) (hl : cs.length = ts.length) (o : Nat) (ho : (ts.drop o).take 9 = List.replicate 9 u) :
    ∃ A, A < W9 ∧ (cs.drop o).take 9 = natL A := by
  have hlen : o + 9 ≤ ts.length := by
    have := congrArg List.length ho
    simp at this
    omega
  refine words9 (by simp; omega) fun v hv => ?_
  obtain ⟨j, hj⟩ := List.getElem?_of_mem hv
  have hj9 : j < 9 := by
    have := (List.getElem?_eq_some_iff.1 hj).1
    simp at this
    omega
  rw [List.getElem?_take, if_pos hj9, List.getElem?_drop] at hj
  obtain ⟨u', hu', hok⟩ := h _ _ hj
  have : (List.replicate 9 u)[j]? = some u' := by
    rw [← ho, List.getElem?_take, if_pos hj9, List.getElem?_drop, hu']
  rw [List.getElem?_replicate, if_pos hj9] at this
  cases this
  exact cell_u64 hu hok
section
variable {P : Program} {W : World} {r : Reach} {base : Nat} {t u ub : TypeId} {v : Value} {D : TypeDesc}
theorem arg_nat (ht : P.underlying t = some D) (hn : notAgg D = false) (hc : P.cellsOf t = 9) (hts : P.cellTypes P.depth t = some (List.replicate 9 u)) (hu : P.underlying u = some (.int .u64)) (h : Value.okWide P W r base t v) : ∃ A, A < W9 ∧ v = natV A := by
  obtain ⟨cs, rfl, hl, hcell⟩ := val_agg ht hn (hc.trans (by simp)) hts h
  obtain ⟨A, hA, e⟩ := seg_words hu hcell hl 0 rfl
  refine ⟨A, hA, ?_⟩
  rw [List.drop_zero, List.take_of_length_le (by rw [hl]; exact Nat.le_refl _)] at e
  rw [e]; rfl
theorem arg_sig (ht : P.underlying t = some D) (hn : notAgg D = false) (hc : P.cellsOf t = 18) (hts : P.cellTypes P.depth t = some (List.replicate 18 u)) (hu : P.underlying u = some (.int .u64)) (h : Value.okWide P W r base t v) : ∃ A B, A < W9 ∧ B < W9 ∧ v = .agg (natL A ++ natL B).toArray := by
  obtain ⟨cs, rfl, hl, hcell⟩ := val_agg ht hn (hc.trans (by simp)) hts h
  obtain ⟨A, hA, e⟩ := seg_words hu hcell hl 0 rfl
  obtain ⟨B, hB, e2⟩ := seg_words hu hcell hl 9 rfl
  refine ⟨A, B, hA, hB, ?_⟩
  rw [← e, ← e2, List.take_of_length_le (l := cs.drop 9) (by simp [hl]), List.drop_zero, List.take_append_drop]
theorem arg_proj (ht : P.underlying t = some D) (hn : notAgg D = false) (hc : P.cellsOf t = 27) (hts : P.cellTypes P.depth t = some (List.replicate 27 u)) (hu : P.underlying u = some (.int .u64)) (h : Value.okWide P W r base t v) : ∃ A B E, A < W9 ∧ B < W9 ∧ E < W9 ∧ v = pjV A B E := by
  obtain ⟨cs, rfl, hl, hcell⟩ := val_agg ht hn (hc.trans (by simp)) hts h
  obtain ⟨A, hA, e⟩ := seg_words hu hcell hl 0 rfl
  obtain ⟨B, hB, e2⟩ := seg_words hu hcell hl 9 rfl
  obtain ⟨E, hE, e3⟩ := seg_words hu hcell hl 18 rfl
  refine ⟨A, B, E, hA, hB, hE, ?_⟩
  unfold pjV pjL
  rw [← e, ← e2, ← e3, List.take_of_length_le (l := cs.drop 18) (by simp [hl]), List.drop_zero]
  have h1 : List.drop 18 cs = List.drop 9 (List.drop 9 cs) := by rw [List.drop_drop]
  rw [h1, List.take_append_drop, List.take_append_drop]
theorem arg_pt (ht : P.underlying t = some D) (hn : notAgg D = false) (hc : P.cellsOf t = 19) (hts : P.cellTypes P.depth t = some (List.replicate 18 u ++ [ub])) (hu : P.underlying u = some (.int .u64)) (hub : P.underlying ub = some .bool) (h : Value.okWide P W r base t v) : ∃ A B b, A < W9 ∧ B < W9 ∧ v = ptV A B b := by
  obtain ⟨cs, rfl, hl, hcell⟩ := val_agg ht hn (hc.trans (by simp)) hts h
  obtain ⟨A, hA, e⟩ := seg_words hu hcell hl 0 rfl
  obtain ⟨B, hB, e2⟩ := seg_words hu hcell hl 9 rfl
  have hl' : cs.length = 19 := by rw [hl]; rfl
  obtain ⟨u', hu', hok⟩ := hcell 18 (cs[18]) (List.getElem?_eq_getElem (by omega))
  have : u' = ub := by
    have h2 : (List.replicate 18 u ++ [ub])[18]? = some ub := rfl
    rw [h2] at hu'
    exact (Option.some.inj hu').symm
  subst this
  obtain ⟨b, hb⟩ := cell_bool hub hok
  refine ⟨A, B, b, hA, hB, ?_⟩
  unfold ptV ptL
  have e3 : [Value.bool b] = cs.drop 18 := by
    rw [List.drop_eq_getElem_cons (by omega), hb, List.drop_of_length_le (by omega)]
  rw [← e, ← e2, e3, List.drop_zero]
  have h1 : List.drop 18 cs = List.drop 9 (List.drop 9 cs) := by rw [List.drop_drop]
  rw [h1, List.take_append_drop, List.take_append_drop]
end
end Go.Proofs.Ytljblbgogjieaaa
