/- Walks: what functions of the program come to, step by step. -/
import Derived.Test.YtljblbgogjieaaaW17
import Derived.Test.YtljblbgogjieaaaW10
set_option linter.unusedVariables false
set_option linter.unusedSimpArgs false
set_option maxRecDepth 20000
namespace Go.Proofs.Ytljblbgogjieaaa
open Go Go.RowKit

theorem c_r_prime_aux : True := trivial
/-- A field's cells. -/
def fldL (p bd : Nat) : List Value := natL p ++ [.pointer (some ⟨bd, 0, none⟩)]
theorem fldL_length (p bd : Nat) : (fldL p bd).length = 10 := by simp [fldL, natL_length]
theorem fldL_one (p bd : Nat) : AllOne (fldL p bd) := allOne_append (natL_one _) (allOne_cons rfl allOne_nil)
theorem cmp_lt {A B : Nat} : binRes .lss .i64 (cmpI A B) .i64 0 = some (.bool (decide (A < B))) := by
  unfold cmpI
  by_cases h : A < B
  · rw [if_pos h, decide_eq_true h]; rfl
  · rw [if_neg h, decide_eq_false h]; split <;> rfl
theorem c_nat_AddS (A B : Nat) (w : World) (h : A + B < W9) : Calls Try.prog 174 ([natV A, natV B] : List Value).toArray w (fun e w' => e = .returned (.tuple #[natV (A + B), .bool false]) ∧ Below w.heap.size w w') := by
  have h1 := c_nat_Add A B (by omega) (by omega) w
  rwa [Nat.mod_eq_of_lt h, decide_eq_false (by omega)] at h1
theorem c_nat_SubS (A B : Nat) (w : World) (hA : A < W9) (h : B ≤ A) : Calls Try.prog 149 ([natV A, natV B] : List Value).toArray w (fun e w' => e = .returned (.tuple #[natV (A - B), .bool false]) ∧ Below w.heap.size w w') := by
  have h1 := c_nat_Sub A B hA (by omega) w
  have e : dif A B = A - B := by
    unfold dif
    generalize W9 = M at *
    rw [show A + M - B = A - B + M by omega, Nat.add_mod_right, Nat.mod_eq_of_lt (by omega)]
  rwa [e, decide_eq_false (by omega)] at h1
theorem c_nat_SubU (A B : Nat) (w : World) (hB : B < W9) (h : A < B) : Calls Try.prog 149 ([natV A, natV B] : List Value).toArray w (fun e w' => e = .returned (.tuple #[natV (dif A B), .bool true]) ∧ Below w.heap.size w w') := by
  have h1 := c_nat_Sub A B (by omega) hB w
  rwa [decide_eq_true h] at h1
theorem dif_back {A B p : Nat} (hp : p < W9) (hB : B < p) (h : A < B) : (dif A B + p) % W9 = A + p - B := by
  unfold dif
  generalize W9 = M at *
  rw [Nat.mod_eq_of_lt (show A + M - B < M by omega), show A + M - B + p = A + p - B + M by omega, Nat.add_mod_right, Nat.mod_eq_of_lt (by omega)]
theorem w9_half {p : Nat} (h : p < P521) : p + p < W9 := by
  obtain ⟨j, hj⟩ : ∃ j : Nat, j = 65 := ⟨65, rfl⟩
  obtain ⟨k, hk⟩ : ∃ k : Nat, k = 9 := ⟨9, rfl⟩
  rw [← p521 hj] at h
  rw [← w9 hk]
  have h2 : 2 ^ (8 * j + 1 + 1) ≤ 2 ^ (64 * k) := Nat.pow_le_pow_right (by decide) (by omega)
  rw [Nat.pow_succ] at h2
  omega

theorem c_prime (id : Int) (w : World)  : Calls Try.prog 169 ([.int .i64 id] : List Value).toArray w (fun e w' => (∃ V, cvI id = some V ∧ ∃ s, e = .returned (.string s) ∧ (hexB s V.p && !s.data.toList.isEmpty) = true ∧ Below w.heap.size w w') ∨ (cvI id = none ∧ e = .returned (.string ⟨#[]⟩) ∧ Below w.heap.size w w')) := by
  refine calls_ro (N := 34) (rs := [.tmp 2]) [] Try.func169 rfl Try.ntmps169 Try.results169 (Nat.le_of_ble_eq_true rfl) trivial rfl ?_
  show LCode _ _ _ ⟨_, _⟩ _
  refine LCode.seq ?_
  refine LCode.region ?_
  refine LOps.detP (Det.assign rfl) (Nat.le_of_ble_eq_true rfl) ?_
  refine LOps.nil ?_
  refine LCode.seq ?_
  refine LCode.seq ?_
  refine LCode.region ?_
  refine LOps.detP (Det.move rfl) (Nat.le_of_ble_eq_true rfl) ?_
  refine LOps.nil ?_
  refine LCode.block ?_
  refine LCode.seq ?_
  refine LCode.region ?_
  refine LOps.detP (Det.bin (v := .bool (decide (id = 1))) rfl rfl br_eqI) (Nat.le_of_ble_eq_true rfl) ?_
  refine LOps.detP (Det.assign rfl) (Nat.le_of_ble_eq_true rfl) ?_
  refine LOps.nil ?_
  first | refine LCode.condD rfl (fun hk1 => ?_) (fun hk1 => ?_) | refine LCode.cond rfl (fun hk1 => ?_) (fun hk1 => ?_)
  ·
    refine LCode.seq ?_
    refine LCode.region ?_
    refine LOps.detP (Det.assign rfl) (Nat.le_of_ble_eq_true rfl) ?_
    refine LOps.nil ?_
    refine LCode.ret ?_
    refine ⟨[_], .cons rfl .nil, fun a w' hr => .inl ⟨cv1, by rw [hk1]; rfl, _, rfl, by kernel_rfl, hr.fr.below⟩⟩
  ·
    refine LCode.seq ?_
    refine LCode.region ?_
    refine LOps.detP (Det.bin (v := .bool (decide (id = 2))) rfl rfl br_eqI) (Nat.le_of_ble_eq_true rfl) ?_
    refine LOps.detP (Det.assign rfl) (Nat.le_of_ble_eq_true rfl) ?_
    refine LOps.nil ?_
    first | refine LCode.condD rfl (fun hk2 => ?_) (fun hk2 => ?_) | refine LCode.cond rfl (fun hk2 => ?_) (fun hk2 => ?_)
    ·
      refine LCode.seq ?_
      refine LCode.region ?_
      refine LOps.detP (Det.assign rfl) (Nat.le_of_ble_eq_true rfl) ?_
      refine LOps.nil ?_
      refine LCode.ret ?_
      refine ⟨[_], .cons rfl .nil, fun a w' hr => .inl ⟨cv2, by rw [hk2]; rfl, _, rfl, by kernel_rfl, hr.fr.below⟩⟩
    ·
      refine LCode.seq ?_
      refine LCode.region ?_
      refine LOps.detP (Det.bin (v := .bool (decide (id = 3))) rfl rfl br_eqI) (Nat.le_of_ble_eq_true rfl) ?_
      refine LOps.detP (Det.assign rfl) (Nat.le_of_ble_eq_true rfl) ?_
      refine LOps.nil ?_
      first | refine LCode.condD rfl (fun hk3 => ?_) (fun hk3 => ?_) | refine LCode.cond rfl (fun hk3 => ?_) (fun hk3 => ?_)
      ·
        refine LCode.seq ?_
        refine LCode.region ?_
        refine LOps.detP (Det.assign rfl) (Nat.le_of_ble_eq_true rfl) ?_
        refine LOps.nil ?_
        refine LCode.ret ?_
        refine ⟨[_], .cons rfl .nil, fun a w' hr => .inl ⟨cv3, by rw [hk3]; rfl, _, rfl, by kernel_rfl, hr.fr.below⟩⟩
      ·
        refine LCode.seq ?_
        refine LCode.region ?_
        refine LOps.detP (Det.bin (v := .bool (decide (id = 4))) rfl rfl br_eqI) (Nat.le_of_ble_eq_true rfl) ?_
        refine LOps.detP (Det.assign rfl) (Nat.le_of_ble_eq_true rfl) ?_
        refine LOps.nil ?_
        first | refine LCode.condD rfl (fun hk4 => ?_) (fun hk4 => ?_) | refine LCode.cond rfl (fun hk4 => ?_) (fun hk4 => ?_)
        ·
          refine LCode.seq ?_
          refine LCode.region ?_
          refine LOps.detP (Det.assign rfl) (Nat.le_of_ble_eq_true rfl) ?_
          refine LOps.nil ?_
          refine LCode.ret ?_
          refine ⟨[_], .cons rfl .nil, fun a w' hr => .inl ⟨cv4, by rw [hk4]; rfl, _, rfl, by kernel_rfl, hr.fr.below⟩⟩
        ·
          refine LCode.seq ?_
          refine LCode.region ?_
          refine LOps.detP (Det.bin (v := .bool (decide (id = 5))) rfl rfl br_eqI) (Nat.le_of_ble_eq_true rfl) ?_
          refine LOps.detP (Det.assign rfl) (Nat.le_of_ble_eq_true rfl) ?_
          refine LOps.nil ?_
          first | refine LCode.condD rfl (fun hk5 => ?_) (fun hk5 => ?_) | refine LCode.cond rfl (fun hk5 => ?_) (fun hk5 => ?_)
          ·
            refine LCode.seq ?_
            refine LCode.region ?_
            refine LOps.detP (Det.assign rfl) (Nat.le_of_ble_eq_true rfl) ?_
            refine LOps.nil ?_
            refine LCode.ret ?_
            refine ⟨[_], .cons rfl .nil, fun a w' hr => .inl ⟨cv5, by rw [hk5]; rfl, _, rfl, by kernel_rfl, hr.fr.below⟩⟩
          ·
            refine LCode.seq ?_
            refine LCode.region ?_
            refine LOps.detP (Det.bin (v := .bool (decide (id = 6))) rfl rfl br_eqI) (Nat.le_of_ble_eq_true rfl) ?_
            refine LOps.detP (Det.assign rfl) (Nat.le_of_ble_eq_true rfl) ?_
            refine LOps.nil ?_
            first | refine LCode.condD rfl (fun hk6 => ?_) (fun hk6 => ?_) | refine LCode.cond rfl (fun hk6 => ?_) (fun hk6 => ?_)
            ·
              refine LCode.seq ?_
              refine LCode.region ?_
              refine LOps.detP (Det.assign rfl) (Nat.le_of_ble_eq_true rfl) ?_
              refine LOps.nil ?_
              refine LCode.ret ?_
              refine ⟨[_], .cons rfl .nil, fun a w' hr => .inl ⟨cv6, by rw [hk6]; rfl, _, rfl, by kernel_rfl, hr.fr.below⟩⟩
            ·
              refine LCode.seq ?_
              refine LCode.region ?_
              refine LOps.detP (Det.bin (v := .bool (decide (id = 7))) rfl rfl br_eqI) (Nat.le_of_ble_eq_true rfl) ?_
              refine LOps.detP (Det.assign rfl) (Nat.le_of_ble_eq_true rfl) ?_
              refine LOps.nil ?_
              first | refine LCode.condD rfl (fun hk7 => ?_) (fun hk7 => ?_) | refine LCode.cond rfl (fun hk7 => ?_) (fun hk7 => ?_)
              ·
                refine LCode.seq ?_
                refine LCode.region ?_
                refine LOps.detP (Det.assign rfl) (Nat.le_of_ble_eq_true rfl) ?_
                refine LOps.nil ?_
                refine LCode.ret ?_
                refine ⟨[_], .cons rfl .nil, fun a w' hr => .inl ⟨cv7, by rw [hk7]; rfl, _, rfl, by kernel_rfl, hr.fr.below⟩⟩
              ·
                refine LCode.seq ?_
                refine LCode.region ?_
                refine LOps.detP (Det.bin (v := .bool (decide (id = 8))) rfl rfl br_eqI) (Nat.le_of_ble_eq_true rfl) ?_
                refine LOps.detP (Det.assign rfl) (Nat.le_of_ble_eq_true rfl) ?_
                refine LOps.nil ?_
                first | refine LCode.condD rfl (fun hk8 => ?_) (fun hk8 => ?_) | refine LCode.cond rfl (fun hk8 => ?_) (fun hk8 => ?_)
                ·
                  refine LCode.seq ?_
                  refine LCode.region ?_
                  refine LOps.detP (Det.assign rfl) (Nat.le_of_ble_eq_true rfl) ?_
                  refine LOps.nil ?_
                  refine LCode.ret ?_
                  refine ⟨[_], .cons rfl .nil, fun a w' hr => .inl ⟨cv8, by rw [hk8]; rfl, _, rfl, by kernel_rfl, hr.fr.below⟩⟩
                ·
                  refine LCode.seq ?_
                  refine LCode.region ?_
                  refine LOps.detP (Det.bin (v := .bool (decide (id = 9))) rfl rfl br_eqI) (Nat.le_of_ble_eq_true rfl) ?_
                  refine LOps.detP (Det.assign rfl) (Nat.le_of_ble_eq_true rfl) ?_
                  refine LOps.nil ?_
                  first | refine LCode.condD rfl (fun hk9 => ?_) (fun hk9 => ?_) | refine LCode.cond rfl (fun hk9 => ?_) (fun hk9 => ?_)
                  ·
                    refine LCode.seq ?_
                    refine LCode.region ?_
                    refine LOps.detP (Det.assign rfl) (Nat.le_of_ble_eq_true rfl) ?_
                    refine LOps.nil ?_
                    refine LCode.ret ?_
                    refine ⟨[_], .cons rfl .nil, fun a w' hr => .inl ⟨cv9, by rw [hk9]; rfl, _, rfl, by kernel_rfl, hr.fr.below⟩⟩
                  ·
                    refine LCode.seq ?_
                    refine LCode.region ?_
                    refine LOps.detP (Det.bin (v := .bool (decide (id = 10))) rfl rfl br_eqI) (Nat.le_of_ble_eq_true rfl) ?_
                    refine LOps.detP (Det.assign rfl) (Nat.le_of_ble_eq_true rfl) ?_
                    refine LOps.nil ?_
                    first | refine LCode.condD rfl (fun hk10 => ?_) (fun hk10 => ?_) | refine LCode.cond rfl (fun hk10 => ?_) (fun hk10 => ?_)
                    ·
                      refine LCode.seq ?_
                      refine LCode.region ?_
                      refine LOps.detP (Det.assign rfl) (Nat.le_of_ble_eq_true rfl) ?_
                      refine LOps.nil ?_
                      refine LCode.ret ?_
                      refine ⟨[_], .cons rfl .nil, fun a w' hr => .inl ⟨cv10, by rw [hk10]; rfl, _, rfl, by kernel_rfl, hr.fr.below⟩⟩
                    ·
                      refine LCode.seq ?_
                      refine LCode.region ?_
                      refine LOps.detP (Det.bin (v := .bool (decide (id = 11))) rfl rfl br_eqI) (Nat.le_of_ble_eq_true rfl) ?_
                      refine LOps.detP (Det.assign rfl) (Nat.le_of_ble_eq_true rfl) ?_
                      refine LOps.nil ?_
                      first | refine LCode.condD rfl (fun hk11 => ?_) (fun hk11 => ?_) | refine LCode.cond rfl (fun hk11 => ?_) (fun hk11 => ?_)
                      ·
                        refine LCode.seq ?_
                        refine LCode.region ?_
                        refine LOps.detP (Det.assign rfl) (Nat.le_of_ble_eq_true rfl) ?_
                        refine LOps.nil ?_
                        refine LCode.ret ?_
                        refine ⟨[_], .cons rfl .nil, fun a w' hr => .inl ⟨cv11, by rw [hk11]; rfl, _, rfl, by kernel_rfl, hr.fr.below⟩⟩
                      ·
                        refine LCode.seq ?_
                        refine LCode.region ?_
                        refine LOps.detP (Det.bin (v := .bool (decide (id = 12))) rfl rfl br_eqI) (Nat.le_of_ble_eq_true rfl) ?_
                        refine LOps.detP (Det.assign rfl) (Nat.le_of_ble_eq_true rfl) ?_
                        refine LOps.nil ?_
                        first | refine LCode.condD rfl (fun hk12 => ?_) (fun hk12 => ?_) | refine LCode.cond rfl (fun hk12 => ?_) (fun hk12 => ?_)
                        ·
                          refine LCode.seq ?_
                          refine LCode.region ?_
                          refine LOps.detP (Det.assign rfl) (Nat.le_of_ble_eq_true rfl) ?_
                          refine LOps.nil ?_
                          refine LCode.ret ?_
                          refine ⟨[_], .cons rfl .nil, fun a w' hr => .inl ⟨cv12, by rw [hk12]; rfl, _, rfl, by kernel_rfl, hr.fr.below⟩⟩
                        ·
                          refine LCode.seq ?_
                          refine LCode.region ?_
                          refine LOps.detP (Det.bin (v := .bool (decide (id = 13))) rfl rfl br_eqI) (Nat.le_of_ble_eq_true rfl) ?_
                          refine LOps.detP (Det.assign rfl) (Nat.le_of_ble_eq_true rfl) ?_
                          refine LOps.nil ?_
                          first | refine LCode.condD rfl (fun hk13 => ?_) (fun hk13 => ?_) | refine LCode.cond rfl (fun hk13 => ?_) (fun hk13 => ?_)
                          ·
                            refine LCode.seq ?_
                            refine LCode.region ?_
                            refine LOps.detP (Det.assign rfl) (Nat.le_of_ble_eq_true rfl) ?_
                            refine LOps.nil ?_
                            refine LCode.ret ?_
                            refine ⟨[_], .cons rfl .nil, fun a w' hr => .inl ⟨cv13, by rw [hk13]; rfl, _, rfl, by kernel_rfl, hr.fr.below⟩⟩
                          ·
                            refine LCode.seq ?_
                            refine LCode.region ?_
                            refine LOps.detP (Det.bin (v := .bool (decide (id = 14))) rfl rfl br_eqI) (Nat.le_of_ble_eq_true rfl) ?_
                            refine LOps.detP (Det.assign rfl) (Nat.le_of_ble_eq_true rfl) ?_
                            refine LOps.nil ?_
                            first | refine LCode.condD rfl (fun hk14 => ?_) (fun hk14 => ?_) | refine LCode.cond rfl (fun hk14 => ?_) (fun hk14 => ?_)
                            ·
                              refine LCode.seq ?_
                              refine LCode.region ?_
                              refine LOps.detP (Det.assign rfl) (Nat.le_of_ble_eq_true rfl) ?_
                              refine LOps.nil ?_
                              refine LCode.ret ?_
                              refine ⟨[_], .cons rfl .nil, fun a w' hr => .inl ⟨cv14, by rw [hk14]; rfl, _, rfl, by kernel_rfl, hr.fr.below⟩⟩
                            ·
                              refine LCode.seq ?_
                              refine LCode.region ?_
                              refine LOps.detP (Det.bin (v := .bool (decide (id = 15))) rfl rfl br_eqI) (Nat.le_of_ble_eq_true rfl) ?_
                              refine LOps.detP (Det.assign rfl) (Nat.le_of_ble_eq_true rfl) ?_
                              refine LOps.nil ?_
                              first | refine LCode.condD rfl (fun hk15 => ?_) (fun hk15 => ?_) | refine LCode.cond rfl (fun hk15 => ?_) (fun hk15 => ?_)
                              ·
                                refine LCode.seq ?_
                                refine LCode.region ?_
                                refine LOps.detP (Det.assign rfl) (Nat.le_of_ble_eq_true rfl) ?_
                                refine LOps.nil ?_
                                refine LCode.ret ?_
                                refine ⟨[_], .cons rfl .nil, fun a w' hr => .inl ⟨cv15, by rw [hk15]; rfl, _, rfl, by kernel_rfl, hr.fr.below⟩⟩
                              ·
                                refine LCode.skip ?_
                                refine LCode.seq ?_
                                refine LCode.region ?_
                                refine LOps.detP (Det.assign rfl) (Nat.le_of_ble_eq_true rfl) ?_
                                refine LOps.nil ?_
                                refine LCode.ret ?_
                                refine ⟨[_], .cons rfl .nil, fun a w' hr => .inr ⟨cvI_none hk1 hk2 hk3 hk4 hk5 hk6 hk7 hk8 hk9 hk10 hk11 hk12 hk13 hk14 hk15, rfl, hr.fr.below⟩⟩

theorem c_prime_none (id : Int) (w : World) (h : cvI id = none) : Calls Try.prog 169 ([.int .i64 id] : List Value).toArray w (fun e w' => e = .returned (.string ⟨#[]⟩) ∧ Below w.heap.size w w') :=
  (c_prime id w).mono fun e w' h' => by
    rcases h' with ⟨V, hV, _⟩ | ⟨_, h1, h2⟩
    · rw [h] at hV; cases hV
    · exact ⟨h1, h2⟩
theorem c_prime_some (id : Int) (V : Cv) (w : World) (h : cvI id = some V) : Calls Try.prog 169 ([.int .i64 id] : List Value).toArray w (fun e w' => ∃ v, (∃ s, v = .string s ∧ hexB s V.p = true ∧ s.data.toList ≠ []) ∧ e = .returned v ∧ Below w.heap.size w w') :=
  (c_prime id w).mono fun e w' h' => by
    rcases h' with ⟨V', hV, s, h1, h2, h3⟩ | ⟨h1, _⟩
    · rw [h] at hV; cases hV
      simp only [Bool.and_eq_true] at h2
      exact ⟨_, ⟨s, rfl, h2.1, fun e => by rw [e] at h2; cases h2.2⟩, h1, h3⟩
    · rw [h] at h1; cases h1

theorem hex_step {l : List UInt8} {x : Nat} (h : x < l.length) : hexVal (l.drop (l.length - (x + 1))) = hexD (l.getD (l.length - 1 - x) 0).toNat * 16 ^ x + hexVal (l.drop (l.length - x)) := by
  rw [drop_step h, hexVal, List.length_drop, show l.length - (l.length - x) = x by omega]
theorem hex_drop {l : List UInt8} (hok : hexOK l = true) (x : Nat) (h : x ≤ l.length) : hexVal (l.drop (l.length - x)) < 16 ^ x := by
  have := hexVal_lt (hexOK_drop hok (l.length - x))
  rwa [List.length_drop, show l.length - (l.length - x) = x by omega] at this
theorem hexVal_w9 {l : List UInt8} (hok : hexOK l = true) (h : l.length ≤ 144) : hexVal l < W9 := by
  obtain ⟨k, hk⟩ : ∃ k : Nat, k = 9 := ⟨9, rfl⟩
  rw [← w9 hk]
  have := hexVal_lt hok
  rw [pow16] at this
  exact Nat.lt_of_lt_of_le this (Nat.pow_le_pow_right (by decide) (by omega))

theorem c_f_Hex (s : ByteArray) (w : World) (hok : hexOK s.data.toList = true) (hs : s.size ≤ 144) : Calls Try.prog 148 ([.string s] : List Value).toArray w (fun e w' => e = .returned (natV (hexVal s.data.toList)) ∧ Below w.heap.size w w') := by
  refine calls_ro (N := 47) (rs := [.cell 2 25]) [] Try.func148 rfl Try.ntmps148 Try.results148 (Nat.le_of_ble_eq_true rfl) trivial rfl ?_
  show LCode _ _ _ ⟨_, _⟩ _
  refine LCode.seq ?_
  refine LCode.region ?_
  refine LOps.step rfl (LStep.w (LStep.makes (Makes.allocA zr_25) (Nat.le_of_ble_eq_true rfl) (fun b2 => ?_)))
  refine LOps.nil ?_
  refine LCode.seq ?_
  refine LCode.region ?_
  refine LOps.step rfl (LStep.w (LStep.makes (Makes.allocA zr_25) (Nat.le_of_ble_eq_true rfl) (fun b3 => ?_)))
  refine LOps.nil ?_
  refine LCode.seq ?_
  refine LCode.seq ?_
  refine LCode.region ?_
  refine LOps.detP (Det.move rfl) (Nat.le_of_ble_eq_true rfl) ?_
  refine LOps.detP (Det.lens Try.underlying9 rfl) (Nat.le_of_ble_eq_true rfl) ?_
  refine LOps.detP (Det.move (v := .int .i64 ((0 : Nat) : Int)) rfl) (Nat.le_of_ble_eq_true rfl) ?_
  refine LOps.nil ?_
  refine LCode.block ?_
  refine LCode.loop (α := Nat) (fun x => x ≤ s.size) (fun x => ⟨[(0, .string s), (2, .pointer (some ⟨b2, 0, none⟩)), (3, .pointer (some ⟨b3, 0, none⟩)), (8, .int .i64 ((s.size : Nat) : Int)), (9, .int .i64 ((x : Nat) : Int))], [.blk b3 ⟨true, natL (hexVal (s.data.toList.drop (s.size - (x)))), 25, (0, 0)⟩, .blk b2 ⟨true, vec .u64 9 (fun _ => 0), 25, (0, 0)⟩]⟩) (fun x => s.size - x) (0) (Nat.zero_le _) (Sub.re (Sub.cells (b := b3) (cs' := natL (hexVal (s.data.toList.drop (s.size - (0))))) (by repeat (first | exact SetAt.head _ | apply SetAt.tail)) (by rw [Nat.sub_zero, ← size_list, List.drop_length]; exact vec_zeros 9)) (Sub.mk ⟨rfl, rfl, rfl, rfl, rfl, trivial⟩ (by repeat (first | exact Sel.nil _ | refine Sel.cons (by repeat (first | exact Pick.head _ | apply Pick.tail)) ?_)))) ?_
  intro x hx
  refine LCode.seq ?_
  refine LCode.region ?_
  refine LOps.detP (Det.bin rfl rfl (br_lss)) (Nat.le_of_ble_eq_true rfl) ?_
  refine LOps.nil ?_
  refine LCode.seq ?_
  first | refine LCode.condD rfl (fun h10 => ?_) (fun h10 => ?_) | refine LCode.cond rfl (fun h10 => ?_) (fun h10 => ?_)
  ·
    have h10 : x < s.size := h10
    refine LCode.skip ?_
    refine LCode.seq ?_
    refine LCode.block ?_
    refine LCode.seq ?_
    have hdg := hexOK_get hok (x := s.size - 1 - x) (by show s.size - 1 - x < s.size; omega)
    refine LCode.region ?_
    refine LOps.detP (Det.move rfl) (Nat.le_of_ble_eq_true rfl) ?_
    refine LOps.detP (Det.assign rfl) (Nat.le_of_ble_eq_true rfl) ?_
    refine LOps.nil ?_
    refine LCode.seq ?_
    refine LCode.region ?_
    refine LOps.detP (Det.move rfl) (Nat.le_of_ble_eq_true rfl) ?_
    refine LOps.detP (Det.lens Try.underlying9 rfl) (Nat.le_of_ble_eq_true rfl) ?_
    refine LOps.detP (Det.bin rfl rfl (br_sub (b := 1) (by omega) (by omega))) (Nat.le_of_ble_eq_true rfl) ?_
    refine LOps.detP (Det.move rfl) (Nat.le_of_ble_eq_true rfl) ?_
    refine LOps.detP (Det.bin rfl rfl (br_sub (by omega) (by omega))) (Nat.le_of_ble_eq_true rfl) ?_
    refine LOps.detP (Det.assign rfl) (Nat.le_of_ble_eq_true rfl) ?_
    refine LOps.nil ?_
    refine LCode.seq ?_
    refine LCode.region ?_
    refine LOps.detP (Det.move rfl) (Nat.le_of_ble_eq_true rfl) ?_
    refine LOps.detP (Det.move rfl) (Nat.le_of_ble_eq_true rfl) ?_
    refine LOps.detP (Slots.cast (Det.indexStr Try.underlying9 rfl rfl (by omega) (by omega)) (vi (b := (s.data.toList.getD (s.size - 1 - x) 0).toNat) (by rw [Int.toNat_natCast]))) (Nat.le_of_ble_eq_true rfl) ?_
    refine LOps.detP (Det.bin (v := .int .u8 (((s.data.toList.getD (s.size - 1 - x) 0).toNat - 48 : Nat) : Int)) rfl rfl (br_sub8 (a := (s.data.toList.getD (s.size - 1 - x) 0).toNat) (b := 48) (by omega) (by omega))) (Nat.le_of_ble_eq_true rfl) ?_
    refine LOps.detP (Det.conv64 Try.underlying5 Try.underlying22 rfl (by first | omega | exact Nat.lt_trans (D.limb_lt _ _) (by decide))) (Nat.le_of_ble_eq_true rfl) ?_
    refine LOps.detP (Det.assign rfl) (Nat.le_of_ble_eq_true rfl) ?_
    refine LOps.nil ?_
    refine LCode.seq ?_
    refine LCode.seq ?_
    refine LCode.region ?_
    refine LOps.detP (Det.move rfl) (Nat.le_of_ble_eq_true rfl) ?_
    refine LOps.detP (Det.move rfl) (Nat.le_of_ble_eq_true rfl) ?_
    refine LOps.detP (Slots.cast (Det.indexStr Try.underlying9 rfl rfl (by omega) (by omega)) (vi (b := (s.data.toList.getD (s.size - 1 - x) 0).toNat) (by rw [Int.toNat_natCast]))) (Nat.le_of_ble_eq_true rfl) ?_
    refine LOps.detP (Det.bin rfl rfl (br_geq (b := 97))) (Nat.le_of_ble_eq_true rfl) ?_
    refine LOps.nil ?_
    first | refine LCode.condD rfl (fun h25 => ?_) (fun h25 => ?_) | refine LCode.cond rfl (fun h25 => ?_) (fun h25 => ?_)
    ·
      have h25 : 97 ≤ (s.data.toList.getD (s.size - 1 - x) 0).toNat := by have := h25; omega
      refine LCode.region ?_
      refine LOps.detP (Det.move rfl) (Nat.le_of_ble_eq_true rfl) ?_
      refine LOps.detP (Det.move rfl) (Nat.le_of_ble_eq_true rfl) ?_
      refine LOps.detP (Slots.cast (Det.indexStr Try.underlying9 rfl rfl (by omega) (by omega)) (vi (b := (s.data.toList.getD (s.size - 1 - x) 0).toNat) (by rw [Int.toNat_natCast]))) (Nat.le_of_ble_eq_true rfl) ?_
      refine LOps.detP (Det.bin (v := .int .u8 (((s.data.toList.getD (s.size - 1 - x) 0).toNat - 97 : Nat) : Int)) rfl rfl (br_sub8 (a := (s.data.toList.getD (s.size - 1 - x) 0).toNat) (b := 97) (by omega) (by omega))) (Nat.le_of_ble_eq_true rfl) ?_
      refine LOps.detP (Det.conv64 Try.underlying5 Try.underlying22 rfl (by first | omega | exact Nat.lt_trans (D.limb_lt _ _) (by decide))) (Nat.le_of_ble_eq_true rfl) ?_
      refine LOps.detP (Det.bin rfl rfl (br_add64 (b := 10))) (Nat.le_of_ble_eq_true rfl) ?_
      refine LOps.detP (Det.assign rfl) (Nat.le_of_ble_eq_true rfl) ?_
      refine LOps.nil ?_
      refine LCode.regionD [13] (by kernel_rfl) ?_
      refine LAny.takeP 0 rfl (by kernel_rfl) (Nat.le_of_ble_eq_true rfl) (Det.move rfl) ?_
      refine LAny.takeP 1 rfl (by kernel_rfl) (Nat.le_of_ble_eq_true rfl) (Det.bin rfl rfl (br_quo (b := 16) (by omega) (by omega))) ?_
      refine LAny.takeP 2 rfl (by kernel_rfl) (Nat.le_of_ble_eq_true rfl) (Det.fieldA (o' := 0) Try.underlying25 rfl rfl rfl sz_23 (by decide)) ?_
      refine LAny.takeP 3 rfl (by kernel_rfl) (Nat.le_of_ble_eq_true rfl) (Det.indexA0 Try.underlying23 sz_22 rfl rfl (by omega)) ?_
      refine LAny.take 4 rfl (by kernel_rfl) (Nat.le_of_ble_eq_true rfl) (Det.load rfl (by repeat (first | exact List.Mem.head _ | apply List.Mem.tail)) (LoadV.one Try.underlying22 rfl (by exact natL_get _ (show x / 16 < 9 by omega)))) ?_
      refine LAny.takeP 5 rfl (by kernel_rfl) (Nat.le_of_ble_eq_true rfl) (Det.move rfl) ?_
      refine LAny.takeP 6 rfl (by kernel_rfl) (Nat.le_of_ble_eq_true rfl) (Det.move rfl) ?_
      refine LAny.takeP 7 rfl (by kernel_rfl) (Nat.le_of_ble_eq_true rfl) (Det.bin rfl rfl (br_rem (b := 16) (by omega))) ?_
      refine LAny.takeP 8 rfl (by kernel_rfl) (Nat.le_of_ble_eq_true rfl) (Det.bin rfl rfl (br_mul (a := 4) (by omega))) ?_
      refine LAny.takeP 9 rfl (by kernel_rfl) (Nat.le_of_ble_eq_true rfl) (Det.bin rfl rfl (br_shl64)) ?_
      refine LAny.takeP 10 rfl (by kernel_rfl) (Nat.le_of_ble_eq_true rfl) (Det.bin rfl rfl (br_or64 (limb_lt _ _) (Nat.mod_lt _ (by decide)))) ?_
      refine LAny.takeP 11 rfl (by kernel_rfl) (Nat.le_of_ble_eq_true rfl) (Det.fieldA (o' := 0) Try.underlying25 rfl rfl rfl sz_23 (by decide)) ?_
      refine LAny.takeP 12 rfl (by kernel_rfl) (Nat.le_of_ble_eq_true rfl) (Det.indexA0 Try.underlying23 sz_22 rfl rfl (by omega)) ?_
      refine LAny.late 13 rfl rfl (by kernel_rfl) (by kernel_rfl) (LStepW.store1 rfl rfl rfl sz_22 (by repeat (first | exact SetAt.head _ | apply SetAt.tail)) (by first | (simp only [vec_length, natL_length, wideL_length, dv_length]; omega) | (simp; omega)) (by first | exact vec_set _ _ _ _ _ | exact dv_setm _ _ _ _ (by omega) | exact dv_sets _ _ _ _ | rfl) (by simp) ?_)
      refine LAny.done (by kernel_rfl) ?_
      refine LCode.region ?_
      refine LOps.detP (Det.bin rfl rfl (br_add (b := 1) (by omega))) (Nat.le_of_ble_eq_true rfl) ?_
      refine LOps.detP (Det.move rfl) (Nat.le_of_ble_eq_true rfl) ?_
      refine LOps.nil ?_
      have hb := limb_piece64 (V := hexVal (s.data.toList.drop (s.size - (x)))) (y := hexD (s.data.toList.getD (s.size - 1 - x) 0).toNat) (s := 4) (w := 16) (i := x / 16) (k := x % 16) rfl (Nat.mod_lt _ (by decide)) (by rw [show 16 * (x / 16) + x % 16 = x by omega, ← pow16]; exact hex_drop hok x hx) (hexD_lt hok (by show s.size - 1 - x < s.size; omega))
      refine ⟨x + 1, by omega, by omega, Sub.re (Sub.cells (b := b3) (cs' := natL (hexVal (s.data.toList.drop (s.size - (x + 1))))) (by repeat (first | exact SetAt.head _ | apply SetAt.tail)) ?_) (Sub.mk ⟨rfl, rfl, rfl, rfl, rfl, trivial⟩ (by repeat (first | exact Sel.nil _ | refine Sel.cons (by repeat (first | exact Pick.head _ | apply Pick.tail)) ?_)))⟩
      have hs := hex_step (l := s.data.toList) (x := x) h10
      rw [size_list] at hs
      rw [hs]
      have e : 16 ^ x = 2 ^ (4 * (16 * (x / 16) + x % 16)) := by rw [show 16 * (x / 16) + x % 16 = x by omega, pow16]
      rw [e]
      refine vec_congr fun j _ => ?_
      rw [hb.2 j]
      unfold hexD
      rw [if_pos h25, show ((s.data.toList.getD (s.size - 1 - x) 0).toNat - 97 + 10) % 18446744073709551616 = (s.data.toList.getD (s.size - 1 - x) 0).toNat - 87 by omega]
    ·
      have h25 : ¬ 97 ≤ (s.data.toList.getD (s.size - 1 - x) 0).toNat := by have := h25; omega
      refine LCode.skip ?_
      refine LCode.regionD [13] (by kernel_rfl) ?_
      refine LAny.takeP 0 rfl (by kernel_rfl) (Nat.le_of_ble_eq_true rfl) (Det.move rfl) ?_
      refine LAny.takeP 1 rfl (by kernel_rfl) (Nat.le_of_ble_eq_true rfl) (Det.bin rfl rfl (br_quo (b := 16) (by omega) (by omega))) ?_
      refine LAny.takeP 2 rfl (by kernel_rfl) (Nat.le_of_ble_eq_true rfl) (Det.fieldA (o' := 0) Try.underlying25 rfl rfl rfl sz_23 (by decide)) ?_
      refine LAny.takeP 3 rfl (by kernel_rfl) (Nat.le_of_ble_eq_true rfl) (Det.indexA0 Try.underlying23 sz_22 rfl rfl (by omega)) ?_
      refine LAny.take 4 rfl (by kernel_rfl) (Nat.le_of_ble_eq_true rfl) (Det.load rfl (by repeat (first | exact List.Mem.head _ | apply List.Mem.tail)) (LoadV.one Try.underlying22 rfl (by exact natL_get _ (show x / 16 < 9 by omega)))) ?_
      refine LAny.takeP 5 rfl (by kernel_rfl) (Nat.le_of_ble_eq_true rfl) (Det.move rfl) ?_
      refine LAny.takeP 6 rfl (by kernel_rfl) (Nat.le_of_ble_eq_true rfl) (Det.move rfl) ?_
      refine LAny.takeP 7 rfl (by kernel_rfl) (Nat.le_of_ble_eq_true rfl) (Det.bin rfl rfl (br_rem (b := 16) (by omega))) ?_
      refine LAny.takeP 8 rfl (by kernel_rfl) (Nat.le_of_ble_eq_true rfl) (Det.bin rfl rfl (br_mul (a := 4) (by omega))) ?_
      refine LAny.takeP 9 rfl (by kernel_rfl) (Nat.le_of_ble_eq_true rfl) (Det.bin rfl rfl (br_shl64)) ?_
      refine LAny.takeP 10 rfl (by kernel_rfl) (Nat.le_of_ble_eq_true rfl) (Det.bin rfl rfl (br_or64 (limb_lt _ _) (Nat.mod_lt _ (by decide)))) ?_
      refine LAny.takeP 11 rfl (by kernel_rfl) (Nat.le_of_ble_eq_true rfl) (Det.fieldA (o' := 0) Try.underlying25 rfl rfl rfl sz_23 (by decide)) ?_
      refine LAny.takeP 12 rfl (by kernel_rfl) (Nat.le_of_ble_eq_true rfl) (Det.indexA0 Try.underlying23 sz_22 rfl rfl (by omega)) ?_
      refine LAny.late 13 rfl rfl (by kernel_rfl) (by kernel_rfl) (LStepW.store1 rfl rfl rfl sz_22 (by repeat (first | exact SetAt.head _ | apply SetAt.tail)) (by first | (simp only [vec_length, natL_length, wideL_length, dv_length]; omega) | (simp; omega)) (by first | exact vec_set _ _ _ _ _ | exact dv_setm _ _ _ _ (by omega) | exact dv_sets _ _ _ _ | rfl) (by simp) ?_)
      refine LAny.done (by kernel_rfl) ?_
      refine LCode.region ?_
      refine LOps.detP (Det.bin rfl rfl (br_add (b := 1) (by omega))) (Nat.le_of_ble_eq_true rfl) ?_
      refine LOps.detP (Det.move rfl) (Nat.le_of_ble_eq_true rfl) ?_
      refine LOps.nil ?_
      have hb := limb_piece64 (V := hexVal (s.data.toList.drop (s.size - (x)))) (y := hexD (s.data.toList.getD (s.size - 1 - x) 0).toNat) (s := 4) (w := 16) (i := x / 16) (k := x % 16) rfl (Nat.mod_lt _ (by decide)) (by rw [show 16 * (x / 16) + x % 16 = x by omega, ← pow16]; exact hex_drop hok x hx) (hexD_lt hok (by show s.size - 1 - x < s.size; omega))
      refine ⟨x + 1, by omega, by omega, Sub.re (Sub.cells (b := b3) (cs' := natL (hexVal (s.data.toList.drop (s.size - (x + 1))))) (by repeat (first | exact SetAt.head _ | apply SetAt.tail)) ?_) (Sub.mk ⟨rfl, rfl, rfl, rfl, rfl, trivial⟩ (by repeat (first | exact Sel.nil _ | refine Sel.cons (by repeat (first | exact Pick.head _ | apply Pick.tail)) ?_)))⟩
      have hs := hex_step (l := s.data.toList) (x := x) h10
      rw [size_list] at hs
      rw [hs]
      have e : 16 ^ x = 2 ^ (4 * (16 * (x / 16) + x % 16)) := by rw [show 16 * (x / 16) + x % 16 = x by omega, pow16]
      rw [e]
      refine vec_congr fun j _ => ?_
      rw [hb.2 j]
      unfold hexD
      rw [if_neg h25]
  ·
    have h10 : ¬ x < s.size := h10
    refine LCode.exit ?_
    refine LCode.seq ?_
    refine LCode.region ?_
    refine LOps.det (Det.load rfl (by repeat (first | exact List.Mem.head _ | apply List.Mem.tail)) (by exact LoadV.whole Try.underlying25 rfl sz_25)) (Nat.le_of_ble_eq_true rfl) ?_
    refine LOps.step rfl (LStepW.storeA rfl rfl sz_25 (by repeat (first | exact natL_one _ | exact vec_one _ _ _ | exact wideL_one _ | exact ptL_one _ _ _ | exact pjL_one _ _ _ | exact allOne_nil | refine allOne_cons rfl ?_ | refine allOne_append ?_ ?_)) (by repeat (first | exact SetAt.head _ | apply SetAt.tail)) (by first | exact natL_length _ | exact vec_length _ _ _ | exact wideL_length _ | exact ptL_length _ _ _ | exact pjL_length _ _ _ | rfl | simp [vec_length, natL_length, wideL_length]) ?_)
    refine LOps.nil ?_
    refine LCode.ret ?_
    have hx9 : x = s.size := by omega
    subst hx9
    refine ⟨[_], .cons ⟨_, _, _, rfl, (by repeat (first | exact List.Mem.head _ | apply List.Mem.tail)), by exact LoadV.whole Try.underlying25 rfl sz_25⟩ .nil, fun a w' hr => ⟨?_, hr.fr.below⟩⟩
    rw [Nat.sub_self, List.drop_zero]
    rfl

theorem fhex (s : ByteArray) (n : Nat) (w : World) (h : hexB s n = true) : Calls Try.prog 148 ([.string s] : List Value).toArray w (fun e w' => e = .returned (natV n) ∧ Below w.heap.size w w') := by
  obtain ⟨h1, h2, h3⟩ := hexB_spec h
  have := c_f_Hex s w h1 h3
  rwa [h2] at this

theorem c_f_Of_none (id : Int) (w : World) (h : cvI id = none) : Calls Try.prog 146 ([.int .i64 id] : List Value).toArray w (fun e w' => e = .returned (.pointer none) ∧ Below w.heap.size w w') := by
  refine calls_ro (N := 16) (rs := [.tmp 2]) [] Try.func146 rfl Try.ntmps146 Try.results146 (Nat.le_of_ble_eq_true rfl) trivial rfl ?_
  show LCode _ _ _ ⟨_, _⟩ _
  refine LCode.seq ?_
  refine LCode.region ?_
  refine LOps.detP (Det.assign rfl) (Nat.le_of_ble_eq_true rfl) ?_
  refine LOps.nil ?_
  refine LCode.seq ?_
  refine LCode.region ?_
  refine LOps.detP (Det.move rfl) (Nat.le_of_ble_eq_true rfl) ?_
  refine LOps.step rfl (LStep.w (LStep.callF (first := []) rfl en_169 rfl (Nat.le_of_ble_eq_true rfl) (fun w hw => c_prime_none id w h) ?_))
  refine LOps.detP (Det.assign rfl) (Nat.le_of_ble_eq_true rfl) ?_
  refine LOps.nil ?_
  refine LCode.seq ?_
  refine LCode.seq ?_
  refine LCode.region ?_
  refine LOps.detP (Det.move rfl) (Nat.le_of_ble_eq_true rfl) ?_
  refine LOps.detP (Slots.cast (Det.eqs rfl rfl) (congrArg Value.bool (eq_str_t rfl))) (Nat.le_of_ble_eq_true rfl) ?_
  refine LOps.nil ?_
  refine LCode.cond_true rfl ?_
  refine LCode.seq ?_
  refine LCode.region ?_
  refine LOps.detP (Det.assign rfl) (Nat.le_of_ble_eq_true rfl) ?_
  refine LOps.nil ?_
  refine LCode.ret ?_
  refine ⟨[_], .cons rfl .nil, fun a w' hr => ⟨?_, hr.fr.below⟩⟩
  rfl

theorem fill_fld (p bd : Nat) : fillL [(0, 9), (9, 1)] (vec .u64 9 (fun _ => 0) ++ [Value.pointer none]) [(0, natV p), (1, .agg [.pointer (some ⟨bd, 0, none⟩)].toArray)] = some (fldL p bd) := by
  refine fillL_step (A := []) (B := vec .u64 9 (fun _ => 0)) (D := [.pointer none]) (cs := natL p) rfl rfl (natL_length _) rfl rfl (vec_length _ _ _) ?_
  refine (fillL_step (A := natL p) (B := [.pointer none]) (D := []) (cs := [.pointer (some ⟨bd, 0, none⟩)]) rfl rfl rfl (by simp) (natL_length _) rfl rfl).trans ?_
  simp [fldL]

theorem c_f_Of (id : Int) (V : Cv) (w : World) (h : cvI id = some V) : Calls Try.prog 146 ([.int .i64 id] : List Value).toArray w (fun e w' => ∃ f bd, e = .returned (.pointer (some ⟨f, 0, none⟩)) ∧ (Item.blk f ⟨false, fldL V.p bd, 194, (0, 0)⟩).holds w' ∧ (Item.blk bd ⟨false, dvL V.p, 241, (0, 0)⟩).holds w' ∧ w.heap.size ≤ f ∧ w.heap.size ≤ bd ∧ Below w.heap.size w w') := by
  obtain ⟨hok, hid⟩ := cvI_ok h
  refine calls_ro (N := 16) (rs := [.tmp 2]) [] Try.func146 rfl Try.ntmps146 Try.results146 (Nat.le_of_ble_eq_true rfl) trivial rfl ?_
  show LCode _ _ _ ⟨_, _⟩ _
  refine LCode.seq ?_
  refine LCode.region ?_
  refine LOps.detP (Det.assign rfl) (Nat.le_of_ble_eq_true rfl) ?_
  refine LOps.nil ?_
  refine LCode.seq ?_
  refine LCode.region ?_
  refine LOps.detP (Det.move rfl) (Nat.le_of_ble_eq_true rfl) ?_
  refine LOps.step rfl (LStep.w (LStep.callV (first := []) rfl en_169 rfl (Nat.le_of_ble_eq_true rfl) (fun w hw => c_prime_some id V w h) ?_))
  rintro _ ⟨s, rfl, hB, hne⟩
  refine LOps.detP (Det.assign rfl) (Nat.le_of_ble_eq_true rfl) ?_
  refine LOps.nil ?_
  refine LCode.seq ?_
  refine LCode.seq ?_
  refine LCode.region ?_
  refine LOps.detP (Det.move rfl) (Nat.le_of_ble_eq_true rfl) ?_
  refine LOps.detP (Slots.cast (Det.eqs rfl rfl) (congrArg Value.bool (eq_str_f hne))) (Nat.le_of_ble_eq_true rfl) ?_
  refine LOps.nil ?_
  refine LCode.cond_false rfl ?_
  refine LCode.skip ?_
  refine LCode.seq ?_
  refine LCode.region ?_
  refine LOps.detP (Det.move rfl) (Nat.le_of_ble_eq_true rfl) ?_
  refine LOps.step rfl (LStep.w (LStep.callF (first := []) rfl en_148 rfl (Nat.le_of_ble_eq_true rfl) (fun w hw => fhex s V.p w hB) ?_))
  refine LOps.step rfl (LStep.w (LStep.makes (Makes.allocA zr_25) (Nat.le_of_ble_eq_true rfl) (fun b4 => ?_)))
  refine LOps.step rfl (LStepW.storeA rfl rfl sz_25 (by repeat (first | exact natL_one _ | exact vec_one _ _ _ | exact wideL_one _ | exact ptL_one _ _ _ | exact pjL_one _ _ _ | exact allOne_nil | refine allOne_cons rfl ?_ | refine allOne_append ?_ ?_)) (by repeat (first | exact SetAt.head _ | apply SetAt.tail)) (by first | exact natL_length _ | exact vec_length _ _ _ | exact wideL_length _ | exact ptL_length _ _ _ | exact pjL_length _ _ _ | rfl | simp [vec_length, natL_length, wideL_length]) ?_)
  refine LOps.nil ?_
  refine LCode.seq ?_
  have hbb := hok.bounds
  have hpW : V.p < W9 := w9_521 hbb.2.1
  have hp0 : V.p ≠ 0 := by omega
  refine LCode.regionD [] (by kernel_rfl) ?_
  refine LAny.take 0 rfl (by kernel_rfl) (Nat.le_of_ble_eq_true rfl) (Det.load rfl (by repeat (first | exact List.Mem.head _ | apply List.Mem.tail)) (by exact LoadV.whole Try.underlying25 rfl sz_25)) ?_
  refine LAny.take 1 rfl (by kernel_rfl) (Nat.le_of_ble_eq_true rfl) (Det.load rfl (by repeat (first | exact List.Mem.head _ | apply List.Mem.tail)) (by exact LoadV.whole Try.underlying25 rfl sz_25)) ?_
  refine LAny.one 2 rfl rfl (by kernel_rfl) (LStep.callZ (Post := fun v its => ∃ b, v = .agg [.pointer (some ⟨b, 0, none⟩)].toArray ∧ its = [.blk b ⟨false, dvL V.p, 241, (0, 0)⟩] ∧ w.heap.size ≤ b) (first := []) rfl en_170 rfl (Nat.le_of_ble_eq_true rfl) (fun w1 hw hs => (c_By V.p hp0 hpW w1).mono fun e w' ⟨b, h1, h2, h3, h4⟩ => ⟨_, _, ⟨b, rfl, rfl, Nat.le_trans hs h2⟩, h1, Brings.blk1 h4 h2 h3⟩) ?_)
  rintro _ _ ⟨bd, rfl, rfl, hnbd⟩
  refine LAny.takeP 3 rfl (by kernel_rfl) (Nat.le_of_ble_eq_true rfl) (Slots.cast (Det.build pl_194 zr_194 rfl (fill_fld _ _)) rfl) ?_
  refine LAny.one 4 rfl rfl (by kernel_rfl) (LStep.makes (Makes.boxA rfl) (Nat.le_of_ble_eq_true rfl) (fun b15 => ?_))
  refine LAny.takeP 5 rfl (by kernel_rfl) (Nat.le_of_ble_eq_true rfl) (Det.assign rfl) ?_
  refine LAny.done (by kernel_rfl) ?_
  refine LCode.ret ?_
  refine ⟨[_], .cons rfl .nil, fun a w' hr => ⟨b15, bd, rfl, (show (Item.blk b15 ⟨true, _, _, _⟩).holds w' from hr.hp _ (by repeat (first | exact List.Mem.head _ | apply List.Mem.tail))), hr.hp _ (by repeat (first | exact List.Mem.head _ | apply List.Mem.tail)), hr.new (B := ⟨true, _, _, _⟩) (by repeat (first | exact List.Mem.head _ | apply List.Mem.tail)) rfl, hnbd, hr.fr.below⟩⟩

theorem c_f_Has (V : Cv) (f bd A : Nat) (w : World) (hf : (Item.blk f ⟨false, fldL V.p bd, 194, (0, 0)⟩).holds w) (hA : A < W9) (hpW : V.p < W9) : Calls Try.prog 155 ([.pointer (some ⟨f, 0, none⟩), natV A] : List Value).toArray w (fun e w' => e = .returned (.bool (decide (A < V.p))) ∧ Below w.heap.size w w') := by
  refine calls_ro (N := 12) (rs := [.tmp 4]) [.blk f ⟨false, fldL V.p bd, 194, (0, 0)⟩] Try.func155 rfl Try.ntmps155 Try.results155 (Nat.le_of_ble_eq_true rfl) ⟨hf, trivial⟩ rfl ?_
  show LCode _ _ _ ⟨_, _⟩ _
  refine LCode.seq ?_
  refine LCode.region ?_
  refine LOps.step rfl (LStep.w (LStep.makes (Makes.boxA rfl) (Nat.le_of_ble_eq_true rfl) (fun b3 => ?_)))
  refine LOps.detP (Det.assign rfl) (Nat.le_of_ble_eq_true rfl) ?_
  refine LOps.nil ?_
  refine LCode.seq ?_
  refine LCode.regionD [] (by kernel_rfl) ?_
  refine LAny.take 0 rfl (by kernel_rfl) (Nat.le_of_ble_eq_true rfl) (Det.load rfl (by repeat (first | exact List.Mem.head _ | apply List.Mem.tail)) (by exact LoadV.whole Try.underlying25 rfl sz_25)) ?_
  refine LAny.takeP 1 rfl (by kernel_rfl) (Nat.le_of_ble_eq_true rfl) (Det.move rfl) ?_
  refine LAny.takeP 2 rfl (by kernel_rfl) (Nat.le_of_ble_eq_true rfl) (Det.nilCheck rfl) ?_
  refine LAny.takeP 3 rfl (by kernel_rfl) (Nat.le_of_ble_eq_true rfl) (Det.fieldA (o' := 0) Try.underlying194 rfl rfl rfl sz_25 (by decide)) ?_
  refine LAny.take 4 rfl (by kernel_rfl) (Nat.le_of_ble_eq_true rfl) (Det.load rfl (by repeat (first | exact List.Mem.head _ | apply List.Mem.tail)) (by exact LoadV.first Try.underlying25 rfl sz_25 rfl (natL_length _))) ?_
  refine LAny.one 5 rfl rfl (by kernel_rfl) (LStep.callF (first := []) rfl en_113 rfl (Nat.le_of_ble_eq_true rfl) (fun w hw => c_nat_Cmp A V.p hA hpW w) ?_)
  refine LAny.takeP 6 rfl (by kernel_rfl) (Nat.le_of_ble_eq_true rfl) (Det.bin rfl rfl (cmp_lt)) ?_
  refine LAny.takeP 7 rfl (by kernel_rfl) (Nat.le_of_ble_eq_true rfl) (Det.assign rfl) ?_
  refine LAny.done (by kernel_rfl) ?_
  refine LCode.ret ?_
  refine ⟨[_], .cons rfl .nil, fun a w' hr => ⟨?_, hr.fr.below⟩⟩
  rfl

theorem c_f_Add (V : Cv) (f bd A B : Nat) (w : World) (hf : (Item.blk f ⟨false, fldL V.p bd, 194, (0, 0)⟩).holds w) (hp : V.p < P521) (hA : A < V.p) (hB : B < V.p) : Calls Try.prog 152 ([.pointer (some ⟨f, 0, none⟩), natV A, natV B] : List Value).toArray w (fun e w' => e = .returned (natV ((A + B) % V.p)) ∧ Below w.heap.size w w') := by
  have hpp := w9_half hp
  have hW : A + B < W9 := by omega
  refine calls_ro (N := 33) (rs := [.cell 6 25]) [.blk f ⟨false, fldL V.p bd, 194, (0, 0)⟩] Try.func152 rfl Try.ntmps152 Try.results152 (Nat.le_of_ble_eq_true rfl) ⟨hf, trivial⟩ rfl ?_
  show LCode _ _ _ ⟨_, _⟩ _
  refine LCode.seq ?_
  refine LCode.region ?_
  refine LOps.step rfl (LStep.w (LStep.makes (Makes.boxA rfl) (Nat.le_of_ble_eq_true rfl) (fun b4 => ?_)))
  refine LOps.step rfl (LStep.w (LStep.makes (Makes.boxA rfl) (Nat.le_of_ble_eq_true rfl) (fun b5 => ?_)))
  refine LOps.step rfl (LStep.w (LStep.makes (Makes.allocA zr_25) (Nat.le_of_ble_eq_true rfl) (fun b6 => ?_)))
  refine LOps.nil ?_
  refine LCode.seq ?_
  refine LCode.region ?_
  refine LOps.det (Det.load rfl (by repeat (first | exact List.Mem.head _ | apply List.Mem.tail)) (by exact LoadV.whole Try.underlying25 rfl sz_25)) (Nat.le_of_ble_eq_true rfl) ?_
  refine LOps.det (Det.load rfl (by repeat (first | exact List.Mem.head _ | apply List.Mem.tail)) (by exact LoadV.whole Try.underlying25 rfl sz_25)) (Nat.le_of_ble_eq_true rfl) ?_
  refine LOps.step rfl (LStep.w (LStep.callF (first := []) rfl en_174 rfl (Nat.le_of_ble_eq_true rfl) (fun w hw => c_nat_AddS A B w hW) ?_))
  refine LOps.detP (Det.move rfl) (Nat.le_of_ble_eq_true rfl) ?_
  refine LOps.detP (Det.extract rfl rfl) (Nat.le_of_ble_eq_true rfl) ?_
  refine LOps.detP (Det.extract rfl rfl) (Nat.le_of_ble_eq_true rfl) ?_
  refine LOps.step rfl (LStep.w (LStep.makes (Makes.allocA zr_25) (Nat.le_of_ble_eq_true rfl) (fun b7 => ?_)))
  refine LOps.step rfl (LStepW.storeA rfl rfl sz_25 (by repeat (first | exact natL_one _ | exact vec_one _ _ _ | exact wideL_one _ | exact ptL_one _ _ _ | exact pjL_one _ _ _ | exact allOne_nil | refine allOne_cons rfl ?_ | refine allOne_append ?_ ?_)) (by repeat (first | exact SetAt.head _ | apply SetAt.tail)) (by first | exact natL_length _ | exact vec_length _ _ _ | exact wideL_length _ | exact ptL_length _ _ _ | exact pjL_length _ _ _ | rfl | simp [vec_length, natL_length, wideL_length]) ?_)
  refine LOps.detP (Det.assign rfl) (Nat.le_of_ble_eq_true rfl) ?_
  refine LOps.nil ?_
  refine LCode.seq ?_
  refine LCode.seq ?_
  rcases Nat.lt_or_ge (A + B) V.p with hl | hg
  ·
    refine LCode.regionD [10] (by kernel_rfl) ?_
    refine LAny.take 0 rfl (by kernel_rfl) (Nat.le_of_ble_eq_true rfl) (Det.load rfl (by repeat (first | exact List.Mem.head _ | apply List.Mem.tail)) (by exact LoadV.whole Try.underlying25 rfl sz_25)) ?_
    refine LAny.takeP 1 rfl (by kernel_rfl) (Nat.le_of_ble_eq_true rfl) (Det.move rfl) ?_
    refine LAny.takeP 2 rfl (by kernel_rfl) (Nat.le_of_ble_eq_true rfl) (Det.nilCheck rfl) ?_
    refine LAny.takeP 3 rfl (by kernel_rfl) (Nat.le_of_ble_eq_true rfl) (Det.fieldA (o' := 0) Try.underlying194 rfl rfl rfl sz_25 (by decide)) ?_
    refine LAny.take 4 rfl (by kernel_rfl) (Nat.le_of_ble_eq_true rfl) (Det.load rfl (by repeat (first | exact List.Mem.head _ | apply List.Mem.tail)) (by exact LoadV.first Try.underlying25 rfl sz_25 rfl (natL_length _))) ?_
    refine LAny.toP ?_
    refine LAnyP.start 9 rfl (.inl zr_25) (Nat.le_of_ble_eq_true rfl) rfl rfl rfl ?_
    refine LAnyP.step 5 rfl rfl rfl (Nat.le_of_ble_eq_true rfl) (by kernel_rfl) rfl (LExt.callF (first := []) rfl en_149 rfl (fun w hw => c_nat_SubU (A + B) V.p w (by omega) hl)) ?_
    rintro _ _ ⟨rfl, rfl⟩
    refine LAnyP.takeP 6 rfl (by kernel_rfl) (Nat.le_of_ble_eq_true rfl) rfl (Det.move rfl) ?_
    refine LAnyP.takeP 7 rfl (by kernel_rfl) (Nat.le_of_ble_eq_true rfl) rfl (Det.extract rfl rfl) ?_
    refine LAnyP.takeP 8 rfl (by kernel_rfl) (Nat.le_of_ble_eq_true rfl) rfl (Det.extract rfl rfl) ?_
    refine LAnyP.mat (by kernel_rfl) (fun b9 => ?_)
    refine LAnyP.toAny ?_
    refine LAny.late 10 rfl rfl (by kernel_rfl) (by kernel_rfl) (LStepW.storeA rfl rfl sz_25 (by repeat (first | exact natL_one _ | exact vec_one _ _ _ | exact wideL_one _ | exact ptL_one _ _ _ | exact pjL_one _ _ _ | exact allOne_nil | refine allOne_cons rfl ?_ | refine allOne_append ?_ ?_)) (by repeat (first | exact SetAt.head _ | apply SetAt.tail)) (by first | exact natL_length _ | exact vec_length _ _ _ | exact wideL_length _ | exact ptL_length _ _ _ | exact pjL_length _ _ _ | rfl | simp [vec_length, natL_length, wideL_length]) ?_)
    refine LAny.takeP 11 rfl (by kernel_rfl) (Nat.le_of_ble_eq_true rfl) (Det.assign rfl) ?_
    refine LAny.done (by kernel_rfl) ?_
    refine LCode.seq ?_
    refine LCode.region ?_
    refine LOps.detP (Det.move rfl) (Nat.le_of_ble_eq_true rfl) ?_
    refine LOps.detP (Det.move rfl) (Nat.le_of_ble_eq_true rfl) ?_
    refine LOps.detGP rfl rfl (Det.move rfl) (Nat.le_of_ble_eq_true rfl) ?_
    refine LOps.detGP rfl rfl (Slots.cast (Det.not rfl) (show _ = Value.bool false from rfl)) (Nat.le_of_ble_eq_true rfl) ?_
    refine LOps.detP (Det.pick_false rfl rfl) (Nat.le_of_ble_eq_true rfl) ?_
    refine LOps.nil ?_
    refine LCode.cond_false rfl ?_
    refine LCode.skip ?_
    refine LCode.seq ?_
    refine LCode.region ?_
    refine LOps.det (Det.load rfl (by repeat (first | exact List.Mem.head _ | apply List.Mem.tail)) (by exact LoadV.whole Try.underlying25 rfl sz_25)) (Nat.le_of_ble_eq_true rfl) ?_
    refine LOps.step rfl (LStepW.storeA rfl rfl sz_25 (by repeat (first | exact natL_one _ | exact vec_one _ _ _ | exact wideL_one _ | exact ptL_one _ _ _ | exact pjL_one _ _ _ | exact allOne_nil | refine allOne_cons rfl ?_ | refine allOne_append ?_ ?_)) (by repeat (first | exact SetAt.head _ | apply SetAt.tail)) (by first | exact natL_length _ | exact vec_length _ _ _ | exact wideL_length _ | exact ptL_length _ _ _ | exact pjL_length _ _ _ | rfl | simp [vec_length, natL_length, wideL_length]) ?_)
    refine LOps.nil ?_
    refine LCode.ret ?_
    refine ⟨[_], .cons ⟨_, _, _, rfl, (by repeat (first | exact List.Mem.head _ | apply List.Mem.tail)), by exact LoadV.whole Try.underlying25 rfl sz_25⟩ .nil, fun a w' hr => ⟨?_, hr.fr.below⟩⟩
    rw [Nat.mod_eq_of_lt hl]
    rfl
  ·
    refine LCode.regionD [10] (by kernel_rfl) ?_
    refine LAny.take 0 rfl (by kernel_rfl) (Nat.le_of_ble_eq_true rfl) (Det.load rfl (by repeat (first | exact List.Mem.head _ | apply List.Mem.tail)) (by exact LoadV.whole Try.underlying25 rfl sz_25)) ?_
    refine LAny.takeP 1 rfl (by kernel_rfl) (Nat.le_of_ble_eq_true rfl) (Det.move rfl) ?_
    refine LAny.takeP 2 rfl (by kernel_rfl) (Nat.le_of_ble_eq_true rfl) (Det.nilCheck rfl) ?_
    refine LAny.takeP 3 rfl (by kernel_rfl) (Nat.le_of_ble_eq_true rfl) (Det.fieldA (o' := 0) Try.underlying194 rfl rfl rfl sz_25 (by decide)) ?_
    refine LAny.take 4 rfl (by kernel_rfl) (Nat.le_of_ble_eq_true rfl) (Det.load rfl (by repeat (first | exact List.Mem.head _ | apply List.Mem.tail)) (by exact LoadV.first Try.underlying25 rfl sz_25 rfl (natL_length _))) ?_
    refine LAny.toP ?_
    refine LAnyP.start 9 rfl (.inl zr_25) (Nat.le_of_ble_eq_true rfl) rfl rfl rfl ?_
    refine LAnyP.step 5 rfl rfl rfl (Nat.le_of_ble_eq_true rfl) (by kernel_rfl) rfl (LExt.callF (first := []) rfl en_149 rfl (fun w hw => c_nat_SubS (A + B) V.p w hW hg)) ?_
    rintro _ _ ⟨rfl, rfl⟩
    refine LAnyP.takeP 6 rfl (by kernel_rfl) (Nat.le_of_ble_eq_true rfl) rfl (Det.move rfl) ?_
    refine LAnyP.takeP 7 rfl (by kernel_rfl) (Nat.le_of_ble_eq_true rfl) rfl (Det.extract rfl rfl) ?_
    refine LAnyP.takeP 8 rfl (by kernel_rfl) (Nat.le_of_ble_eq_true rfl) rfl (Det.extract rfl rfl) ?_
    refine LAnyP.mat (by kernel_rfl) (fun b9 => ?_)
    refine LAnyP.toAny ?_
    refine LAny.late 10 rfl rfl (by kernel_rfl) (by kernel_rfl) (LStepW.storeA rfl rfl sz_25 (by repeat (first | exact natL_one _ | exact vec_one _ _ _ | exact wideL_one _ | exact ptL_one _ _ _ | exact pjL_one _ _ _ | exact allOne_nil | refine allOne_cons rfl ?_ | refine allOne_append ?_ ?_)) (by repeat (first | exact SetAt.head _ | apply SetAt.tail)) (by first | exact natL_length _ | exact vec_length _ _ _ | exact wideL_length _ | exact ptL_length _ _ _ | exact pjL_length _ _ _ | rfl | simp [vec_length, natL_length, wideL_length]) ?_)
    refine LAny.takeP 11 rfl (by kernel_rfl) (Nat.le_of_ble_eq_true rfl) (Det.assign rfl) ?_
    refine LAny.done (by kernel_rfl) ?_
    refine LCode.seq ?_
    refine LCode.region ?_
    refine LOps.detP (Det.move rfl) (Nat.le_of_ble_eq_true rfl) ?_
    refine LOps.detP (Det.move rfl) (Nat.le_of_ble_eq_true rfl) ?_
    refine LOps.detGP rfl rfl (Det.move rfl) (Nat.le_of_ble_eq_true rfl) ?_
    refine LOps.detGP rfl rfl (Slots.cast (Det.not rfl) (show _ = Value.bool true from rfl)) (Nat.le_of_ble_eq_true rfl) ?_
    refine LOps.detP (Det.pick_false rfl rfl) (Nat.le_of_ble_eq_true rfl) ?_
    refine LOps.nil ?_
    refine LCode.cond_true rfl ?_
    refine LCode.seq ?_
    refine LCode.region ?_
    refine LOps.det (Det.load rfl (by repeat (first | exact List.Mem.head _ | apply List.Mem.tail)) (by exact LoadV.whole Try.underlying25 rfl sz_25)) (Nat.le_of_ble_eq_true rfl) ?_
    refine LOps.step rfl (LStepW.storeA rfl rfl sz_25 (by repeat (first | exact natL_one _ | exact vec_one _ _ _ | exact wideL_one _ | exact ptL_one _ _ _ | exact pjL_one _ _ _ | exact allOne_nil | refine allOne_cons rfl ?_ | refine allOne_append ?_ ?_)) (by repeat (first | exact SetAt.head _ | apply SetAt.tail)) (by first | exact natL_length _ | exact vec_length _ _ _ | exact wideL_length _ | exact ptL_length _ _ _ | exact pjL_length _ _ _ | rfl | simp [vec_length, natL_length, wideL_length]) ?_)
    refine LOps.nil ?_
    refine LCode.ret ?_
    refine ⟨[_], .cons ⟨_, _, _, rfl, (by repeat (first | exact List.Mem.head _ | apply List.Mem.tail)), by exact LoadV.whole Try.underlying25 rfl sz_25⟩ .nil, fun a w' hr => ⟨?_, hr.fr.below⟩⟩
    rw [Nat.mod_eq_sub_mod hg, Nat.mod_eq_of_lt (by omega)]
    rfl

theorem c_f_Sub (V : Cv) (f bd A B : Nat) (w : World) (hf : (Item.blk f ⟨false, fldL V.p bd, 194, (0, 0)⟩).holds w) (hp : V.p < P521) (hA : A < V.p) (hB : B < V.p) : Calls Try.prog 161 ([.pointer (some ⟨f, 0, none⟩), natV A, natV B] : List Value).toArray w (fun e w' => e = .returned (natV ((A + V.p - B) % V.p)) ∧ Below w.heap.size w w') := by
  have hpp := w9_half hp
  refine calls_ro (N := 26) (rs := [.cell 6 25]) [.blk f ⟨false, fldL V.p bd, 194, (0, 0)⟩] Try.func161 rfl Try.ntmps161 Try.results161 (Nat.le_of_ble_eq_true rfl) ⟨hf, trivial⟩ rfl ?_
  show LCode _ _ _ ⟨_, _⟩ _
  refine LCode.seq ?_
  refine LCode.region ?_
  refine LOps.step rfl (LStep.w (LStep.makes (Makes.boxA rfl) (Nat.le_of_ble_eq_true rfl) (fun b4 => ?_)))
  refine LOps.step rfl (LStep.w (LStep.makes (Makes.boxA rfl) (Nat.le_of_ble_eq_true rfl) (fun b5 => ?_)))
  refine LOps.step rfl (LStep.w (LStep.makes (Makes.allocA zr_25) (Nat.le_of_ble_eq_true rfl) (fun b6 => ?_)))
  refine LOps.nil ?_
  refine LCode.seq ?_
  rcases Nat.lt_or_ge A B with hl | hg
  ·
    refine LCode.region ?_
    refine LOps.det (Det.load rfl (by repeat (first | exact List.Mem.head _ | apply List.Mem.tail)) (by exact LoadV.whole Try.underlying25 rfl sz_25)) (Nat.le_of_ble_eq_true rfl) ?_
    refine LOps.det (Det.load rfl (by repeat (first | exact List.Mem.head _ | apply List.Mem.tail)) (by exact LoadV.whole Try.underlying25 rfl sz_25)) (Nat.le_of_ble_eq_true rfl) ?_
    refine LOps.step rfl (LStep.w (LStep.callF (first := []) rfl en_149 rfl (Nat.le_of_ble_eq_true rfl) (fun w hw => c_nat_SubU A B w (by omega) hl) ?_))
    refine LOps.detP (Det.move rfl) (Nat.le_of_ble_eq_true rfl) ?_
    refine LOps.detP (Det.extract rfl rfl) (Nat.le_of_ble_eq_true rfl) ?_
    refine LOps.detP (Det.extract rfl rfl) (Nat.le_of_ble_eq_true rfl) ?_
    refine LOps.step rfl (LStep.w (LStep.makes (Makes.allocA zr_25) (Nat.le_of_ble_eq_true rfl) (fun b7 => ?_)))
    refine LOps.step rfl (LStepW.storeA rfl rfl sz_25 (by repeat (first | exact natL_one _ | exact vec_one _ _ _ | exact wideL_one _ | exact ptL_one _ _ _ | exact pjL_one _ _ _ | exact allOne_nil | refine allOne_cons rfl ?_ | refine allOne_append ?_ ?_)) (by repeat (first | exact SetAt.head _ | apply SetAt.tail)) (by first | exact natL_length _ | exact vec_length _ _ _ | exact wideL_length _ | exact ptL_length _ _ _ | exact pjL_length _ _ _ | rfl | simp [vec_length, natL_length, wideL_length]) ?_)
    refine LOps.detP (Det.assign rfl) (Nat.le_of_ble_eq_true rfl) ?_
    refine LOps.nil ?_
    refine LCode.seq ?_
    refine LCode.seq ?_
    refine LCode.region ?_
    refine LOps.detP (Det.move rfl) (Nat.le_of_ble_eq_true rfl) ?_
    refine LOps.nil ?_
    refine LCode.cond_true rfl ?_
    refine LCode.regionD [9] (by kernel_rfl) ?_
    refine LAny.take 0 rfl (by kernel_rfl) (Nat.le_of_ble_eq_true rfl) (Det.load rfl (by repeat (first | exact List.Mem.head _ | apply List.Mem.tail)) (by exact LoadV.whole Try.underlying25 rfl sz_25)) ?_
    refine LAny.takeP 1 rfl (by kernel_rfl) (Nat.le_of_ble_eq_true rfl) (Det.move rfl) ?_
    refine LAny.takeP 2 rfl (by kernel_rfl) (Nat.le_of_ble_eq_true rfl) (Det.nilCheck rfl) ?_
    refine LAny.takeP 3 rfl (by kernel_rfl) (Nat.le_of_ble_eq_true rfl) (Det.fieldA (o' := 0) Try.underlying194 rfl rfl rfl sz_25 (by decide)) ?_
    refine LAny.take 4 rfl (by kernel_rfl) (Nat.le_of_ble_eq_true rfl) (Det.load rfl (by repeat (first | exact List.Mem.head _ | apply List.Mem.tail)) (by exact LoadV.first Try.underlying25 rfl sz_25 rfl (natL_length _))) ?_
    refine LAny.one 5 rfl rfl (by kernel_rfl) (LStep.callF (first := []) rfl en_174 rfl (Nat.le_of_ble_eq_true rfl) (fun w hw => c_nat_Add (dif A B) V.p (dif_lt _ _) (by omega) w) ?_)
    refine LAny.takeP 6 rfl (by kernel_rfl) (Nat.le_of_ble_eq_true rfl) (Det.move rfl) ?_
    refine LAny.takeP 7 rfl (by kernel_rfl) (Nat.le_of_ble_eq_true rfl) (Det.extract rfl rfl) ?_
    refine LAny.takeP 8 rfl (by kernel_rfl) (Nat.le_of_ble_eq_true rfl) (Det.extract rfl rfl) ?_
    refine LAny.late 9 rfl rfl (by kernel_rfl) (by kernel_rfl) (LStepW.storeA rfl rfl sz_25 (by repeat (first | exact natL_one _ | exact vec_one _ _ _ | exact wideL_one _ | exact ptL_one _ _ _ | exact pjL_one _ _ _ | exact allOne_nil | refine allOne_cons rfl ?_ | refine allOne_append ?_ ?_)) (by repeat (first | exact SetAt.head _ | apply SetAt.tail)) (by first | exact natL_length _ | exact vec_length _ _ _ | exact wideL_length _ | exact ptL_length _ _ _ | exact pjL_length _ _ _ | rfl | simp [vec_length, natL_length, wideL_length]) ?_)
    refine LAny.done (by kernel_rfl) ?_
    refine LCode.seq ?_
    refine LCode.region ?_
    refine LOps.det (Det.load rfl (by repeat (first | exact List.Mem.head _ | apply List.Mem.tail)) (by exact LoadV.whole Try.underlying25 rfl sz_25)) (Nat.le_of_ble_eq_true rfl) ?_
    refine LOps.step rfl (LStepW.storeA rfl rfl sz_25 (by repeat (first | exact natL_one _ | exact vec_one _ _ _ | exact wideL_one _ | exact ptL_one _ _ _ | exact pjL_one _ _ _ | exact allOne_nil | refine allOne_cons rfl ?_ | refine allOne_append ?_ ?_)) (by repeat (first | exact SetAt.head _ | apply SetAt.tail)) (by first | exact natL_length _ | exact vec_length _ _ _ | exact wideL_length _ | exact ptL_length _ _ _ | exact pjL_length _ _ _ | rfl | simp [vec_length, natL_length, wideL_length]) ?_)
    refine LOps.nil ?_
    refine LCode.ret ?_
    refine ⟨[_], .cons ⟨_, _, _, rfl, (by repeat (first | exact List.Mem.head _ | apply List.Mem.tail)), by exact LoadV.whole Try.underlying25 rfl sz_25⟩ .nil, fun a w' hr => ⟨?_, hr.fr.below⟩⟩
    rw [dif_back (by omega) hB hl, Nat.mod_eq_of_lt (show A + V.p - B < V.p by omega)]
    rfl
  ·
    refine LCode.region ?_
    refine LOps.det (Det.load rfl (by repeat (first | exact List.Mem.head _ | apply List.Mem.tail)) (by exact LoadV.whole Try.underlying25 rfl sz_25)) (Nat.le_of_ble_eq_true rfl) ?_
    refine LOps.det (Det.load rfl (by repeat (first | exact List.Mem.head _ | apply List.Mem.tail)) (by exact LoadV.whole Try.underlying25 rfl sz_25)) (Nat.le_of_ble_eq_true rfl) ?_
    refine LOps.step rfl (LStep.w (LStep.callF (first := []) rfl en_149 rfl (Nat.le_of_ble_eq_true rfl) (fun w hw => c_nat_SubS A B w (by omega) hg) ?_))
    refine LOps.detP (Det.move rfl) (Nat.le_of_ble_eq_true rfl) ?_
    refine LOps.detP (Det.extract rfl rfl) (Nat.le_of_ble_eq_true rfl) ?_
    refine LOps.detP (Det.extract rfl rfl) (Nat.le_of_ble_eq_true rfl) ?_
    refine LOps.step rfl (LStep.w (LStep.makes (Makes.allocA zr_25) (Nat.le_of_ble_eq_true rfl) (fun b7 => ?_)))
    refine LOps.step rfl (LStepW.storeA rfl rfl sz_25 (by repeat (first | exact natL_one _ | exact vec_one _ _ _ | exact wideL_one _ | exact ptL_one _ _ _ | exact pjL_one _ _ _ | exact allOne_nil | refine allOne_cons rfl ?_ | refine allOne_append ?_ ?_)) (by repeat (first | exact SetAt.head _ | apply SetAt.tail)) (by first | exact natL_length _ | exact vec_length _ _ _ | exact wideL_length _ | exact ptL_length _ _ _ | exact pjL_length _ _ _ | rfl | simp [vec_length, natL_length, wideL_length]) ?_)
    refine LOps.detP (Det.assign rfl) (Nat.le_of_ble_eq_true rfl) ?_
    refine LOps.nil ?_
    refine LCode.seq ?_
    refine LCode.seq ?_
    refine LCode.region ?_
    refine LOps.detP (Det.move rfl) (Nat.le_of_ble_eq_true rfl) ?_
    refine LOps.nil ?_
    refine LCode.cond_false rfl ?_
    refine LCode.skip ?_
    refine LCode.seq ?_
    refine LCode.region ?_
    refine LOps.det (Det.load rfl (by repeat (first | exact List.Mem.head _ | apply List.Mem.tail)) (by exact LoadV.whole Try.underlying25 rfl sz_25)) (Nat.le_of_ble_eq_true rfl) ?_
    refine LOps.step rfl (LStepW.storeA rfl rfl sz_25 (by repeat (first | exact natL_one _ | exact vec_one _ _ _ | exact wideL_one _ | exact ptL_one _ _ _ | exact pjL_one _ _ _ | exact allOne_nil | refine allOne_cons rfl ?_ | refine allOne_append ?_ ?_)) (by repeat (first | exact SetAt.head _ | apply SetAt.tail)) (by first | exact natL_length _ | exact vec_length _ _ _ | exact wideL_length _ | exact ptL_length _ _ _ | exact pjL_length _ _ _ | rfl | simp [vec_length, natL_length, wideL_length]) ?_)
    refine LOps.nil ?_
    refine LCode.ret ?_
    refine ⟨[_], .cons ⟨_, _, _, rfl, (by repeat (first | exact List.Mem.head _ | apply List.Mem.tail)), by exact LoadV.whole Try.underlying25 rfl sz_25⟩ .nil, fun a w' hr => ⟨?_, hr.fr.below⟩⟩
    rw [show A + V.p - B = A - B + V.p by omega, Nat.add_mod_right, Nat.mod_eq_of_lt (by omega)]
    rfl

theorem c_f_Mul (V : Cv) (f bd A B : Nat) (w : World) (hf : (Item.blk f ⟨false, fldL V.p bd, 194, (0, 0)⟩).holds w) (hbd : (Item.blk bd ⟨false, dvL V.p, 241, (0, 0)⟩).holds w) (hp0 : V.p ≠ 0) (hpW : V.p < W9) (hA : A < W9) (hB : B < W9) : Calls Try.prog 156 ([.pointer (some ⟨f, 0, none⟩), natV A, natV B] : List Value).toArray w (fun e w' => e = .returned (natV (A * B % V.p)) ∧ Below w.heap.size w w') := by
  refine calls_ro (N := 14) (rs := [.cell 6 25]) [.blk f ⟨false, fldL V.p bd, 194, (0, 0)⟩, .blk bd ⟨false, dvL V.p, 241, (0, 0)⟩] Try.func156 rfl Try.ntmps156 Try.results156 (Nat.le_of_ble_eq_true rfl) ⟨hf, hbd, trivial⟩ rfl ?_
  show LCode _ _ _ ⟨_, _⟩ _
  refine LCode.seq ?_
  refine LCode.region ?_
  refine LOps.step rfl (LStep.w (LStep.makes (Makes.boxA rfl) (Nat.le_of_ble_eq_true rfl) (fun b4 => ?_)))
  refine LOps.step rfl (LStep.w (LStep.makes (Makes.boxA rfl) (Nat.le_of_ble_eq_true rfl) (fun b5 => ?_)))
  refine LOps.step rfl (LStep.w (LStep.makes (Makes.allocA zr_25) (Nat.le_of_ble_eq_true rfl) (fun b6 => ?_)))
  refine LOps.nil ?_
  refine LCode.seq ?_
  refine LCode.regionD [7] (by kernel_rfl) ?_
  refine LAny.takeP 0 rfl (by kernel_rfl) (Nat.le_of_ble_eq_true rfl) (Det.move rfl) ?_
  refine LAny.takeP 1 rfl (by kernel_rfl) (Nat.le_of_ble_eq_true rfl) (Det.nilCheck rfl) ?_
  refine LAny.takeP 2 rfl (by kernel_rfl) (Nat.le_of_ble_eq_true rfl) (Det.fieldA (o' := 9) Try.underlying194 rfl rfl rfl sz_192 (by decide)) ?_
  refine LAny.take 3 rfl (by kernel_rfl) (Nat.le_of_ble_eq_true rfl) (Det.load rfl (by repeat (first | exact List.Mem.head _ | apply List.Mem.tail)) (by exact LoadV.last Try.underlying192 rfl sz_192 rfl (natL_length _) rfl)) ?_
  refine LAny.take 4 rfl (by kernel_rfl) (Nat.le_of_ble_eq_true rfl) (Det.load rfl (by repeat (first | exact List.Mem.head _ | apply List.Mem.tail)) (by exact LoadV.whole Try.underlying25 rfl sz_25)) ?_
  refine LAny.take 5 rfl (by kernel_rfl) (Nat.le_of_ble_eq_true rfl) (Det.load rfl (by repeat (first | exact List.Mem.head _ | apply List.Mem.tail)) (by exact LoadV.whole Try.underlying25 rfl sz_25)) ?_
  refine LAny.one 6 rfl rfl (by kernel_rfl) (LStep.callF (first := []) rfl en_175 rfl (Nat.le_of_ble_eq_true rfl) (fun w hw => c_Mul V.p A B bd hp0 hpW w (hw _ (by repeat (first | exact List.Mem.head _ | apply List.Mem.tail))) hA hB) ?_)
  refine LAny.late 7 rfl rfl (by kernel_rfl) (by kernel_rfl) (LStepW.storeA rfl rfl sz_25 (by repeat (first | exact natL_one _ | exact vec_one _ _ _ | exact wideL_one _ | exact ptL_one _ _ _ | exact pjL_one _ _ _ | exact allOne_nil | refine allOne_cons rfl ?_ | refine allOne_append ?_ ?_)) (by repeat (first | exact SetAt.head _ | apply SetAt.tail)) (by first | exact natL_length _ | exact vec_length _ _ _ | exact wideL_length _ | exact ptL_length _ _ _ | exact pjL_length _ _ _ | rfl | simp [vec_length, natL_length, wideL_length]) ?_)
  refine LAny.done (by kernel_rfl) ?_
  refine LCode.ret ?_
  refine ⟨[_], .cons ⟨_, _, _, rfl, (by repeat (first | exact List.Mem.head _ | apply List.Mem.tail)), by exact LoadV.whole Try.underlying25 rfl sz_25⟩ .nil, fun a w' hr => ⟨?_, hr.fr.below⟩⟩
  rfl

theorem c_f_Inv (V : Cv) (f bd A : Nat) (w : World) (hf : (Item.blk f ⟨false, fldL V.p bd, 194, (0, 0)⟩).holds w) (hp0 : V.p ≠ 0) (hpW : V.p < W9) (hA : A < W9) : Calls Try.prog 160 ([.pointer (some ⟨f, 0, none⟩), natV A] : List Value).toArray w (fun e w' => e = .returned (natV (invM A V.p)) ∧ Below w.heap.size w w') := by
  refine calls_ro (N := 17) (rs := [.cell 4 25]) [.blk f ⟨false, fldL V.p bd, 194, (0, 0)⟩] Try.func160 rfl Try.ntmps160 Try.results160 (Nat.le_of_ble_eq_true rfl) ⟨hf, trivial⟩ rfl ?_
  show LCode _ _ _ ⟨_, _⟩ _
  refine LCode.seq ?_
  refine LCode.region ?_
  refine LOps.step rfl (LStep.w (LStep.makes (Makes.boxA rfl) (Nat.le_of_ble_eq_true rfl) (fun b3 => ?_)))
  refine LOps.step rfl (LStep.w (LStep.makes (Makes.allocA zr_25) (Nat.le_of_ble_eq_true rfl) (fun b4 => ?_)))
  refine LOps.nil ?_
  refine LCode.seq ?_
  refine LCode.regionD [10] (by kernel_rfl) ?_
  refine LAny.take 0 rfl (by kernel_rfl) (Nat.le_of_ble_eq_true rfl) (Det.load rfl (by repeat (first | exact List.Mem.head _ | apply List.Mem.tail)) (by exact LoadV.whole Try.underlying25 rfl sz_25)) ?_
  refine LAny.takeP 1 rfl (by kernel_rfl) (Nat.le_of_ble_eq_true rfl) (Det.move rfl) ?_
  refine LAny.takeP 2 rfl (by kernel_rfl) (Nat.le_of_ble_eq_true rfl) (Det.nilCheck rfl) ?_
  refine LAny.takeP 3 rfl (by kernel_rfl) (Nat.le_of_ble_eq_true rfl) (Det.fieldA (o' := 0) Try.underlying194 rfl rfl rfl sz_25 (by decide)) ?_
  refine LAny.take 4 rfl (by kernel_rfl) (Nat.le_of_ble_eq_true rfl) (Det.load rfl (by repeat (first | exact List.Mem.head _ | apply List.Mem.tail)) (by exact LoadV.first Try.underlying25 rfl sz_25 rfl (natL_length _))) ?_
  refine LAny.toP ?_
  refine LAnyP.start 9 rfl (.inl zr_25) (Nat.le_of_ble_eq_true rfl) rfl rfl rfl ?_
  refine LAnyP.step 5 rfl rfl rfl (Nat.le_of_ble_eq_true rfl) (by kernel_rfl) rfl (LExt.callF (first := []) rfl en_176 rfl (fun w hw => c_Inverse A V.p hp0 w hA hpW)) ?_
  rintro _ _ ⟨rfl, rfl⟩
  refine LAnyP.takeP 6 rfl (by kernel_rfl) (Nat.le_of_ble_eq_true rfl) rfl (Det.move rfl) ?_
  refine LAnyP.takeP 7 rfl (by kernel_rfl) (Nat.le_of_ble_eq_true rfl) rfl (Det.extract rfl rfl) ?_
  refine LAnyP.takeP 8 rfl (by kernel_rfl) (Nat.le_of_ble_eq_true rfl) rfl (Det.extract rfl rfl) ?_
  refine LAnyP.mat (by kernel_rfl) (fun b5 => ?_)
  refine LAnyP.toAny ?_
  refine LAny.late 10 rfl rfl (by kernel_rfl) (by kernel_rfl) (LStepW.storeA rfl rfl sz_25 (by repeat (first | exact natL_one _ | exact vec_one _ _ _ | exact wideL_one _ | exact ptL_one _ _ _ | exact pjL_one _ _ _ | exact allOne_nil | refine allOne_cons rfl ?_ | refine allOne_append ?_ ?_)) (by repeat (first | exact SetAt.head _ | apply SetAt.tail)) (by first | exact natL_length _ | exact vec_length _ _ _ | exact wideL_length _ | exact ptL_length _ _ _ | exact pjL_length _ _ _ | rfl | simp [vec_length, natL_length, wideL_length]) ?_)
  refine LAny.takeP 11 rfl (by kernel_rfl) (Nat.le_of_ble_eq_true rfl) (Det.assign rfl) ?_
  refine LAny.done (by kernel_rfl) ?_
  refine LCode.seq ?_
  refine LCode.region ?_
  refine LOps.det (Det.load rfl (by repeat (first | exact List.Mem.head _ | apply List.Mem.tail)) (by exact LoadV.whole Try.underlying25 rfl sz_25)) (Nat.le_of_ble_eq_true rfl) ?_
  refine LOps.step rfl (LStepW.storeA rfl rfl sz_25 (by repeat (first | exact natL_one _ | exact vec_one _ _ _ | exact wideL_one _ | exact ptL_one _ _ _ | exact pjL_one _ _ _ | exact allOne_nil | refine allOne_cons rfl ?_ | refine allOne_append ?_ ?_)) (by repeat (first | exact SetAt.head _ | apply SetAt.tail)) (by first | exact natL_length _ | exact vec_length _ _ _ | exact wideL_length _ | exact ptL_length _ _ _ | exact pjL_length _ _ _ | rfl | simp [vec_length, natL_length, wideL_length]) ?_)
  refine LOps.nil ?_
  refine LCode.ret ?_
  refine ⟨[_], .cons ⟨_, _, _, rfl, (by repeat (first | exact List.Mem.head _ | apply List.Mem.tail)), by exact LoadV.whole Try.underlying25 rfl sz_25⟩ .nil, fun a w' hr => ⟨?_, hr.fr.below⟩⟩
  rfl

end Go.Proofs.Ytljblbgogjieaaa
