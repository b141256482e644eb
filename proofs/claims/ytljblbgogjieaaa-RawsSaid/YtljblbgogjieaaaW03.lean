/- Walks: what functions of the program come to, step by step. -/
import Derived.Test.YtljblbgogjieaaaW02
import Derived.Test.YtljblbgogjieaaaMath3
set_option linter.unusedVariables false
set_option linter.unusedSimpArgs false
set_option maxRecDepth 20000
namespace Go.Proofs.Ytljblbgogjieaaa
open Go Go.RowKit

theorem nw_ne {A : Nat} (h : nw A ≠ 0) : 2 ^ (64 * (nw A - 1)) ≤ A := by
  have h0 : A ≠ 0 := by intro e; subst e; exact h rfl
  refine Nat.le_trans (Nat.pow_le_pow_right (by decide) ?_) (blen_pos h0)
  unfold nw at *; omega
theorem bits_words {A : Nat} (h : nw A ≠ 0) : (nw A - 1) * 64 + blen (limb A (nw A - 1)) = blen A := by
  have h1 := nw_ne h
  rw [limb_top (A := A) (n := nw A - 1) (by rw [show nw A - 1 + 1 = nw A by omega]; exact lt_nw A)]
  have := blen_shr h1
  omega
theorem mod_nw (A : Nat) : A % 2 ^ (64 * nw A) = A := Nat.mod_eq_of_lt (lt_nw A)
theorem mod_zero_word (A B : Nat) : A % 2 ^ (64 * 0) * B = 0 := by rw [Nat.mul_zero, Nat.pow_zero, Nat.mod_one, Nat.zero_mul]
theorem row_end {X c A B i : Nat} (h : X + c * 2 ^ (64 * (i + nw B)) = A % 2 ^ (64 * i) * B + limb A i * (B % 2 ^ (64 * nw B)) * 2 ^ (64 * i)) (hX : X < 2 ^ (64 * (i + nw B))) :
    setl X (i + nw B) c = A % 2 ^ (64 * (i + 1)) * B := by
  have h0 := limb_high hX (Nat.le_refl _)
  have h1 := setl_eq X (i + nw B) c
  rw [h0, Nat.zero_mul, Nat.add_zero] at h1
  rw [h1, h, mod_nw, mod_succ_limb, Nat.add_mul]
  congr 1
  rw [Nat.mul_assoc, Nat.mul_comm, Nat.mul_assoc, Nat.mul_assoc, Nat.mul_comm B]
  exact Nat.mul_assoc _ _ _
theorem row_zero (A B i : Nat) : A % 2 ^ (64 * i) * B + 0 * 2 ^ (64 * (i + 0)) = A % 2 ^ (64 * i) * B + limb A i * (B % 2 ^ (64 * 0)) * 2 ^ (64 * i) := by
  rw [Nat.mul_zero, Nat.pow_zero, Nat.mod_one, Nat.mul_zero, Nat.zero_mul, Nat.zero_mul]
theorem row_lt (A B i : Nat) : A % 2 ^ (64 * i) * B < 2 ^ (64 * (i + nw B)) := by
  rw [pow64_add]
  exact Nat.mul_lt_mul_of_lt_of_le (Nat.mod_lt _ (pow64_pos i)) (Nat.le_of_lt (lt_nw B)) (pow64_pos _)
theorem bit_of (A i : Nat) : (limb A (i / 64) / 2 ^ (i % 64) &&& 1) = A / 2 ^ i % 2 := by
  rw [Nat.and_one_is_mod]
  have h1 : A / 2 ^ i = A / 2 ^ (64 * (i / 64)) / 2 ^ (i % 64) := by
    rw [Nat.div_div_eq_div_mul, ← Nat.pow_add]; congr 2; omega
  rw [h1]
  unfold limb
  generalize A / 2 ^ (64 * (i / 64)) = q
  have hr : i % 64 < 64 := Nat.mod_lt _ (by decide)
  generalize i % 64 = r at *
  have e : (18446744073709551616 : Nat) = 2 ^ r * (2 * 2 ^ (63 - r)) := by
    rw [← Nat.pow_succ', ← Nat.pow_add, show r + (63 - r + 1) = 64 by omega]
  rw [e, Nat.mod_mul_right_div_self, Nat.mod_mul_right_mod]

theorem c_nat_Mul (A B : Nat) (hA : A < W9) (hB : B < W9) (w : World)  : Calls Try.prog 185 ([natV A, natV B] : List Value).toArray w (fun e w' => e = .returned (wideV (A * B)) ∧ Below w.heap.size w w') := by
  refine calls_ro (N := 74) (rs := [.cell 4 230]) [] Try.func185 rfl Try.ntmps185 Try.results185 (Nat.le_of_ble_eq_true rfl) trivial rfl ?_
  show LCode _ _ _ ⟨_, _⟩ _
  refine LCode.seq ?_
  refine LCode.region ?_
  refine LOps.step rfl (LStep.w (LStep.makes (Makes.boxA rfl) (Nat.le_of_ble_eq_true rfl) (fun b2 => ?_)))
  refine LOps.step rfl (LStep.w (LStep.makes (Makes.boxA rfl) (Nat.le_of_ble_eq_true rfl) (fun b3 => ?_)))
  refine LOps.step rfl (LStep.w (LStep.makes (Makes.allocA zr_230) (Nat.le_of_ble_eq_true rfl) (fun b4 => ?_)))
  refine LOps.nil ?_
  refine LCode.seq ?_
  refine LCode.region ?_
  refine LOps.step rfl (LStep.w (LStep.makes (Makes.allocA zr_230) (Nat.le_of_ble_eq_true rfl) (fun b5 => ?_)))
  refine LOps.nil ?_
  refine LCode.seq ?_
  refine LCode.region ?_
  refine LOps.step rfl (LStep.w (LStep.callF (first := []) rfl en_172 rfl (Nat.le_of_ble_eq_true rfl) (fun w hw => c_nat_used _ _ _ w (hw _ (by repeat (first | exact List.Mem.head _ | apply List.Mem.tail))) (by omega)) ?_))
  refine LOps.step rfl (LStep.w (LStep.callF (first := []) rfl en_172 rfl (Nat.le_of_ble_eq_true rfl) (fun w hw => c_nat_used _ _ _ w (hw _ (by repeat (first | exact List.Mem.head _ | apply List.Mem.tail))) (by omega)) ?_))
  refine LOps.detP (Det.assign rfl) (Nat.le_of_ble_eq_true rfl) ?_
  refine LOps.detP (Det.assign rfl) (Nat.le_of_ble_eq_true rfl) ?_
  refine LOps.nil ?_
  refine LCode.seq ?_
  refine LCode.seq ?_
  refine LCode.region ?_
  refine LOps.detP (Det.move rfl) (Nat.le_of_ble_eq_true rfl) ?_
  refine LOps.detP (Det.move (v := .int .i64 ((0 : Nat) : Int)) rfl) (Nat.le_of_ble_eq_true rfl) ?_
  refine LOps.nil ?_
  refine LCode.block ?_
  refine LCode.loop (α := Nat) (fun x => x ≤ nw A) (fun x => ⟨[(2, .pointer (some ⟨b2, 0, none⟩)), (3, .pointer (some ⟨b3, 0, none⟩)), (4, .pointer (some ⟨b4, 0, none⟩)), (5, .pointer (some ⟨b5, 0, none⟩)), (7, .int .i64 ((nw B : Nat) : Int)), (16, .int .i64 ((nw A : Nat) : Int)), (17, .int .i64 ((x : Nat) : Int))], [.blk b5 ⟨true, wideL (A % 2 ^ (64 * x) * B), 230, (0, 0)⟩, .blk b4 ⟨true, vec .u64 18 (fun _ => 0), 230, (0, 0)⟩, .blk b3 ⟨true, natL B, 25, (0, 0)⟩, .blk b2 ⟨true, natL A, 25, (0, 0)⟩]⟩) (fun x => nw A - x) (0) (Nat.zero_le _) (Sub.re (Sub.cells (b := b5) (cs' := wideL (A % 2 ^ (64 * 0) * B)) (by repeat (first | exact SetAt.head _ | apply SetAt.tail)) (by rw [mod_zero_word]; exact vec_zeros 18)) (Sub.mk ⟨rfl, rfl, rfl, rfl, rfl, rfl, rfl, trivial⟩ (by repeat (first | exact Sel.nil _ | refine Sel.cons (by repeat (first | exact Pick.head _ | apply Pick.tail)) ?_)))) ?_
  intro i hi
  refine LCode.seq ?_
  have hA9 := nw_w9 hA
  have hB9 := nw_w9 hB
  refine LCode.region ?_
  refine LOps.detP (Det.bin rfl rfl (br_lss)) (Nat.le_of_ble_eq_true rfl) ?_
  refine LOps.nil ?_
  refine LCode.seq ?_
  first | refine LCode.condD rfl (fun h18 => ?_) (fun h18 => ?_) | refine LCode.cond rfl (fun h18 => ?_) (fun h18 => ?_)
  ·
    refine LCode.skip ?_
    refine LCode.seq ?_
    refine LCode.block ?_
    refine LCode.seq ?_
    refine LCode.region ?_
    refine LOps.detP (Det.move rfl) (Nat.le_of_ble_eq_true rfl) ?_
    refine LOps.detP (Det.assign rfl) (Nat.le_of_ble_eq_true rfl) ?_
    refine LOps.nil ?_
    refine LCode.seq ?_
    refine LCode.region ?_
    refine LOps.detP (Det.assign (v := .int .u64 ((0 : Nat) : Int)) rfl) (Nat.le_of_ble_eq_true rfl) ?_
    refine LOps.nil ?_
    refine LCode.seq ?_
    refine LCode.seq ?_
    refine LCode.region ?_
    refine LOps.detP (Det.move rfl) (Nat.le_of_ble_eq_true rfl) ?_
    refine LOps.detP (Det.move (v := .int .i64 ((0 : Nat) : Int)) rfl) (Nat.le_of_ble_eq_true rfl) ?_
    refine LOps.nil ?_
    refine LCode.block ?_
    refine LCode.loop (α := Nat × Nat × Nat) (fun x => x.1 ≤ nw B ∧ x.2.2 < 18446744073709551616 ∧ x.2.1 < 2 ^ (64 * (i + nw B)) ∧ x.2.1 + x.2.2 * 2 ^ (64 * (i + x.1)) = A % 2 ^ (64 * i) * B + limb A i * (B % 2 ^ (64 * x.1)) * 2 ^ (64 * i)) (fun x => ⟨[(2, .pointer (some ⟨b2, 0, none⟩)), (3, .pointer (some ⟨b3, 0, none⟩)), (4, .pointer (some ⟨b4, 0, none⟩)), (5, .pointer (some ⟨b5, 0, none⟩)), (7, .int .i64 ((nw B : Nat) : Int)), (8, .int .i64 ((i : Nat) : Int)), (9, .int .u64 ((x.2.2 : Nat) : Int)), (16, .int .i64 ((nw A : Nat) : Int)), (17, .int .i64 ((i : Nat) : Int)), (20, .int .i64 ((nw B : Nat) : Int)), (21, .int .i64 ((x.1 : Nat) : Int))], [.blk b5 ⟨true, wideL x.2.1, 230, (0, 0)⟩, .blk b4 ⟨true, vec .u64 18 (fun _ => 0), 230, (0, 0)⟩, .blk b3 ⟨true, natL B, 25, (0, 0)⟩, .blk b2 ⟨true, natL A, 25, (0, 0)⟩]⟩) (fun x => nw B - x.1) ((0, A % 2 ^ (64 * i) * B, 0)) (⟨Nat.zero_le _, show (0 : Nat) < 18446744073709551616 by decide, row_lt A B i, row_zero A B i⟩) (Sub.mk ⟨rfl, rfl, rfl, rfl, rfl, rfl, rfl, rfl, rfl, rfl, rfl, trivial⟩ (by repeat (first | exact Sel.nil _ | refine Sel.cons (by repeat (first | exact Pick.head _ | apply Pick.tail)) ?_))) ?_
    intro x ⟨hx1, hx2, hx3, hx4⟩
    refine LCode.seq ?_
    refine LCode.region ?_
    refine LOps.detP (Det.bin rfl rfl (br_lss)) (Nat.le_of_ble_eq_true rfl) ?_
    refine LOps.nil ?_
    refine LCode.seq ?_
    first | refine LCode.condD rfl (fun h22 => ?_) (fun h22 => ?_) | refine LCode.cond rfl (fun h22 => ?_) (fun h22 => ?_)
    ·
      refine LCode.skip ?_
      refine LCode.seq ?_
      refine LCode.block ?_
      refine LCode.seq ?_
      refine LCode.region ?_
      refine LOps.detP (Det.move rfl) (Nat.le_of_ble_eq_true rfl) ?_
      refine LOps.detP (Det.assign rfl) (Nat.le_of_ble_eq_true rfl) ?_
      refine LOps.nil ?_
      refine LCode.seq ?_
      have hla := limb_lt A i
      have hlb := limb_lt B x.1
      have hlx := limb_lt x.2.1 (i + x.1)
      have h18 : i < nw A := h18
      have h22 : x.1 < nw B := h22
      refine LCode.regionD [] (by kernel_rfl) ?_
      refine LAny.takeP 0 rfl (by kernel_rfl) (Nat.le_of_ble_eq_true rfl) (Det.move rfl) ?_
      refine LAny.takeP 1 rfl (by kernel_rfl) (Nat.le_of_ble_eq_true rfl) (Det.fieldA (o' := 0) Try.underlying25 rfl rfl rfl sz_23 (by decide)) ?_
      refine LAny.takeP 2 rfl (by kernel_rfl) (Nat.le_of_ble_eq_true rfl) (Det.indexA0 Try.underlying23 sz_22 rfl rfl (by omega)) ?_
      refine LAny.take 3 rfl (by kernel_rfl) (Nat.le_of_ble_eq_true rfl) (Det.load rfl (by repeat (first | exact List.Mem.head _ | apply List.Mem.tail)) (LoadV.one Try.underlying22 rfl (by exact natL_get _ (show i < 9 by omega)))) ?_
      refine LAny.takeP 4 rfl (by kernel_rfl) (Nat.le_of_ble_eq_true rfl) (Det.move rfl) ?_
      refine LAny.takeP 5 rfl (by kernel_rfl) (Nat.le_of_ble_eq_true rfl) (Det.fieldA (o' := 0) Try.underlying25 rfl rfl rfl sz_23 (by decide)) ?_
      refine LAny.takeP 6 rfl (by kernel_rfl) (Nat.le_of_ble_eq_true rfl) (Det.indexA0 Try.underlying23 sz_22 rfl rfl (by omega)) ?_
      refine LAny.take 7 rfl (by kernel_rfl) (Nat.le_of_ble_eq_true rfl) (Det.load rfl (by repeat (first | exact List.Mem.head _ | apply List.Mem.tail)) (LoadV.one Try.underlying22 rfl (by exact natL_get _ (show x.1 < 9 by omega)))) ?_
      refine LAny.one 8 rfl rfl (by kernel_rfl) (LStep.callF (first := []) rfl en_193 rfl (Nat.le_of_ble_eq_true rfl) (fun w hw => c_Mul64 _ _ (by omega) (by omega) w) ?_)
      refine LAny.takeP 9 rfl (by kernel_rfl) (Nat.le_of_ble_eq_true rfl) (Det.move rfl) ?_
      refine LAny.takeP 10 rfl (by kernel_rfl) (Nat.le_of_ble_eq_true rfl) (Det.extract rfl rfl) ?_
      refine LAny.takeP 11 rfl (by kernel_rfl) (Nat.le_of_ble_eq_true rfl) (Det.extract rfl rfl) ?_
      refine LAny.takeP 12 rfl (by kernel_rfl) (Nat.le_of_ble_eq_true rfl) (Det.assign rfl) ?_
      refine LAny.takeP 13 rfl (by kernel_rfl) (Nat.le_of_ble_eq_true rfl) (Det.assign rfl) ?_
      refine LAny.done (by kernel_rfl) ?_
      refine LCode.seq ?_
      refine LCode.region ?_
      refine LOps.detP (Det.assign (v := .int .u64 ((0 : Nat) : Int)) rfl) (Nat.le_of_ble_eq_true rfl) ?_
      refine LOps.nil ?_
      refine LCode.seq ?_
      refine LCode.region ?_
      refine LOps.detP (Det.move rfl) (Nat.le_of_ble_eq_true rfl) ?_
      refine LOps.detP (Det.move rfl) (Nat.le_of_ble_eq_true rfl) ?_
      refine LOps.detP (Det.move rfl) (Nat.le_of_ble_eq_true rfl) ?_
      refine LOps.detP (Det.bin rfl rfl (br_add (by omega))) (Nat.le_of_ble_eq_true rfl) ?_
      refine LOps.detP (Det.fieldA (o' := 0) Try.underlying230 rfl rfl rfl sz_228 (by decide)) (Nat.le_of_ble_eq_true rfl) ?_
      refine LOps.detP (Det.indexA0 Try.underlying228 sz_22 rfl rfl (by omega)) (Nat.le_of_ble_eq_true rfl) ?_
      refine LOps.det (Det.load rfl (by repeat (first | exact List.Mem.head _ | apply List.Mem.tail)) (LoadV.one Try.underlying22 rfl (by exact wideL_get _ (show i + x.1 < 18 by omega)))) (Nat.le_of_ble_eq_true rfl) ?_
      refine LOps.detP (Det.add64 (c := 0) ex_184 rfl rfl rfl (by omega)) (Nat.le_of_ble_eq_true rfl) ?_
      refine LOps.detP (Det.move rfl) (Nat.le_of_ble_eq_true rfl) ?_
      refine LOps.detP (Det.extract rfl rfl) (Nat.le_of_ble_eq_true rfl) ?_
      refine LOps.detP (Det.extract rfl rfl) (Nat.le_of_ble_eq_true rfl) ?_
      refine LOps.detP (Det.assign rfl) (Nat.le_of_ble_eq_true rfl) ?_
      refine LOps.detP (Det.assign rfl) (Nat.le_of_ble_eq_true rfl) ?_
      refine LOps.nil ?_
      refine LCode.seq ?_
      refine LCode.region ?_
      refine LOps.detP (Det.move rfl) (Nat.le_of_ble_eq_true rfl) ?_
      refine LOps.detP (Det.move rfl) (Nat.le_of_ble_eq_true rfl) ?_
      refine LOps.detP (Det.bin rfl rfl (br_add64)) (Nat.le_of_ble_eq_true rfl) ?_
      refine LOps.detP (Det.assign rfl) (Nat.le_of_ble_eq_true rfl) ?_
      refine LOps.nil ?_
      refine LCode.seq ?_
      refine LCode.region ?_
      refine LOps.detP (Det.move rfl) (Nat.le_of_ble_eq_true rfl) ?_
      refine LOps.detP (Det.move rfl) (Nat.le_of_ble_eq_true rfl) ?_
      refine LOps.detP (Det.add64 (c := 0) ex_184 rfl rfl rfl (by omega)) (Nat.le_of_ble_eq_true rfl) ?_
      refine LOps.detP (Det.move rfl) (Nat.le_of_ble_eq_true rfl) ?_
      refine LOps.detP (Det.extract rfl rfl) (Nat.le_of_ble_eq_true rfl) ?_
      refine LOps.detP (Det.extract rfl rfl) (Nat.le_of_ble_eq_true rfl) ?_
      refine LOps.detP (Det.assign rfl) (Nat.le_of_ble_eq_true rfl) ?_
      refine LOps.detP (Det.assign rfl) (Nat.le_of_ble_eq_true rfl) ?_
      refine LOps.nil ?_
      refine LCode.region ?_
      refine LOps.detP (Det.move rfl) (Nat.le_of_ble_eq_true rfl) ?_
      refine LOps.detP (Det.move rfl) (Nat.le_of_ble_eq_true rfl) ?_
      refine LOps.detP (Det.bin rfl rfl (br_add (by omega))) (Nat.le_of_ble_eq_true rfl) ?_
      refine LOps.detP (Det.move rfl) (Nat.le_of_ble_eq_true rfl) ?_
      refine LOps.detP (Det.move rfl) (Nat.le_of_ble_eq_true rfl) ?_
      refine LOps.detP (Det.move rfl) (Nat.le_of_ble_eq_true rfl) ?_
      refine LOps.detP (Det.bin rfl rfl (br_add64)) (Nat.le_of_ble_eq_true rfl) ?_
      refine LOps.detP (Det.fieldA (o' := 0) Try.underlying230 rfl rfl rfl sz_228 (by decide)) (Nat.le_of_ble_eq_true rfl) ?_
      refine LOps.detP (Det.indexA0 Try.underlying228 sz_22 rfl rfl (by omega)) (Nat.le_of_ble_eq_true rfl) ?_
      refine LOps.step rfl (LStepW.store1 rfl rfl rfl sz_22 (by repeat (first | exact SetAt.head _ | apply SetAt.tail)) (by first | (simp only [vec_length, natL_length, wideL_length, dv_length]; omega) | (simp; omega)) (by first | exact vec_set _ _ _ _ _ | exact dv_setm _ _ _ _ (by omega) | exact dv_sets _ _ _ _ | rfl) (by simp) ?_)
      refine LOps.detP (Det.assign rfl) (Nat.le_of_ble_eq_true rfl) ?_
      refine LOps.nil ?_
      refine LCode.region ?_
      refine LOps.detP (Det.bin rfl rfl (br_add (b := 1) (by omega))) (Nat.le_of_ble_eq_true rfl) ?_
      refine LOps.detP (Det.move rfl) (Nat.le_of_ble_eq_true rfl) ?_
      refine LOps.nil ?_
      have hw := row_word (limb_lt A i) (limb_lt B x.1) (limb_lt x.2.1 (i + x.1)) hx2
      have hp := row_parts (limb_lt x.2.1 (i + x.1)) hx2 hw
      refine ⟨(x.1 + 1, setl x.2.1 (i + x.1) ((limb A i * limb B x.1 + limb x.2.1 (i + x.1) + x.2.2) % 18446744073709551616), (limb A i * limb B x.1 + limb x.2.1 (i + x.1) + x.2.2) / 18446744073709551616), ⟨by omega, by dsimp only; omega, setl_lt hx3 (by omega) (Nat.mod_lt _ (by decide)), row_step hx4 rfl rfl⟩, by dsimp only; omega,
        Sub.re (Sub.cells (b := b5) (cs' := wideL (setl x.2.1 (i + x.1) ((limb A i * limb B x.1 + limb x.2.1 (i + x.1) + x.2.2) % 18446744073709551616))) (by repeat (first | exact SetAt.head _ | apply SetAt.tail)) ?_) (Sub.mk ⟨rfl, rfl, rfl, rfl, rfl, rfl, congrArg some (vi hp.2), rfl, rfl, rfl, rfl, trivial⟩ (by repeat (first | exact Sel.nil _ | refine Sel.cons (by repeat (first | exact Pick.head _ | apply Pick.tail)) ?_)))⟩
      rw [hp.1]
      exact vec_setl (Nat.mod_lt _ (by decide))
    ·
      refine LCode.exit ?_
      have h18 : i < nw A := h18
      refine LCode.region ?_
      refine LOps.detP (Det.move rfl) (Nat.le_of_ble_eq_true rfl) ?_
      refine LOps.detP (Det.move rfl) (Nat.le_of_ble_eq_true rfl) ?_
      refine LOps.detP (Det.bin rfl rfl (br_add (by omega))) (Nat.le_of_ble_eq_true rfl) ?_
      refine LOps.detP (Det.move rfl) (Nat.le_of_ble_eq_true rfl) ?_
      refine LOps.detP (Det.fieldA (o' := 0) Try.underlying230 rfl rfl rfl sz_228 (by decide)) (Nat.le_of_ble_eq_true rfl) ?_
      refine LOps.detP (Det.indexA0 Try.underlying228 sz_22 rfl rfl (by omega)) (Nat.le_of_ble_eq_true rfl) ?_
      refine LOps.step rfl (LStepW.store1 rfl rfl rfl sz_22 (by repeat (first | exact SetAt.head _ | apply SetAt.tail)) (by first | (simp only [vec_length, natL_length, wideL_length, dv_length]; omega) | (simp; omega)) (by first | exact vec_set _ _ _ _ _ | exact dv_setm _ _ _ _ (by omega) | exact dv_sets _ _ _ _ | rfl) (by simp) ?_)
      refine LOps.nil ?_
      refine LCode.region ?_
      refine LOps.detP (Det.bin rfl rfl (br_add (b := 1) (by omega))) (Nat.le_of_ble_eq_true rfl) ?_
      refine LOps.detP (Det.move rfl) (Nat.le_of_ble_eq_true rfl) ?_
      refine LOps.nil ?_
      refine ⟨i + 1, by omega, by omega, Sub.re (Sub.cells (b := b5) (cs' := wideL (A % 2 ^ (64 * (i + 1)) * B)) (by repeat (first | exact SetAt.head _ | apply SetAt.tail)) ?_) (Sub.mk ⟨rfl, rfl, rfl, rfl, rfl, rfl, rfl, trivial⟩ (by repeat (first | exact Sel.nil _ | refine Sel.cons (by repeat (first | exact Pick.head _ | apply Pick.tail)) ?_)))⟩
      have hk : x.1 = nw B := by omega
      rw [hk] at hx4
      rw [← row_end hx4 hx3]
      exact vec_setl hx2
  ·
    refine LCode.exit ?_
    refine LCode.seq ?_
    refine LCode.region ?_
    refine LOps.det (Det.load rfl (by repeat (first | exact List.Mem.head _ | apply List.Mem.tail)) (by exact LoadV.whole Try.underlying230 rfl sz_230)) (Nat.le_of_ble_eq_true rfl) ?_
    refine LOps.step rfl (LStepW.storeA rfl rfl sz_230 (by repeat (first | exact natL_one _ | exact vec_one _ _ _ | exact wideL_one _ | exact ptL_one _ _ _ | exact pjL_one _ _ _ | exact allOne_nil | refine allOne_cons rfl ?_ | refine allOne_append ?_ ?_)) (by repeat (first | exact SetAt.head _ | apply SetAt.tail)) (by first | exact natL_length _ | exact vec_length _ _ _ | exact wideL_length _ | exact ptL_length _ _ _ | exact pjL_length _ _ _ | rfl | simp [vec_length, natL_length, wideL_length]) ?_)
    refine LOps.nil ?_
    refine LCode.ret ?_
    have hi9 : i = nw A := by omega
    subst hi9
    refine ⟨[_], .cons ⟨_, _, _, rfl, (by repeat (first | exact List.Mem.head _ | apply List.Mem.tail)), by exact LoadV.whole Try.underlying230 rfl sz_230⟩ .nil, fun a w' hr => ⟨?_, hr.fr.below⟩⟩
    rw [mod_nw]
    rfl

theorem c_nat_Bits (A : Nat) (hA : A < W9) (w : World)  : Calls Try.prog 151 ([natV A] : List Value).toArray w (fun e w' => e = .returned (.int .i64 ((blen A : Nat) : Int)) ∧ Below w.heap.size w w') := by
  refine calls_ro (N := 17) (rs := [.tmp 2]) [] Try.func151 rfl Try.ntmps151 Try.results151 (Nat.le_of_ble_eq_true rfl) trivial rfl ?_
  show LCode _ _ _ ⟨_, _⟩ _
  refine LCode.seq ?_
  refine LCode.region ?_
  refine LOps.step rfl (LStep.w (LStep.makes (Makes.boxA rfl) (Nat.le_of_ble_eq_true rfl) (fun b1 => ?_)))
  refine LOps.detP (Det.assign (v := .int .i64 ((0 : Nat) : Int)) rfl) (Nat.le_of_ble_eq_true rfl) ?_
  refine LOps.nil ?_
  refine LCode.seq ?_
  refine LCode.region ?_
  refine LOps.step rfl (LStep.w (LStep.callF (first := []) rfl en_172 rfl (Nat.le_of_ble_eq_true rfl) (fun w hw => c_nat_used _ _ _ w (hw _ (by repeat (first | exact List.Mem.head _ | apply List.Mem.tail))) (by omega)) ?_))
  refine LOps.detP (Det.assign rfl) (Nat.le_of_ble_eq_true rfl) ?_
  refine LOps.nil ?_
  refine LCode.seq ?_
  refine LCode.seq ?_
  refine LCode.region ?_
  refine LOps.detP (Det.move rfl) (Nat.le_of_ble_eq_true rfl) ?_
  refine LOps.detP (Det.bin rfl rfl (br_eql (b := 0))) (Nat.le_of_ble_eq_true rfl) ?_
  refine LOps.nil ?_
  first | refine LCode.condD rfl (fun h6 => ?_) (fun h6 => ?_) | refine LCode.cond rfl (fun h6 => ?_) (fun h6 => ?_)
  ·
    refine LCode.seq ?_
    refine LCode.region ?_
    refine LOps.detP (Det.assign (v := .int .i64 ((0 : Nat) : Int)) rfl) (Nat.le_of_ble_eq_true rfl) ?_
    refine LOps.nil ?_
    refine LCode.ret ?_
    have hz : blen A = 0 := by
      unfold nw at h6
      omega
    refine ⟨[_], .cons rfl .nil, fun a w' hr => ⟨?_, hr.fr.below⟩⟩
    rw [hz]
    rfl
  ·
    have hA9 := nw_w9 hA
    have hbl : blen (limb A (nw A - 1)) ≤ 64 := blen_le (limb_lt _ _)
    have hll := limb_lt A (nw A - 1)
    refine LCode.skip ?_
    refine LCode.seq ?_
    refine LCode.region ?_
    refine LOps.detP (Det.move rfl) (Nat.le_of_ble_eq_true rfl) ?_
    refine LOps.detP (Det.bin rfl rfl (br_sub (b := 1) (by omega) (by omega))) (Nat.le_of_ble_eq_true rfl) ?_
    refine LOps.detP (Det.bin rfl rfl (br_mul (b := 64) (by omega))) (Nat.le_of_ble_eq_true rfl) ?_
    refine LOps.detP (Det.move rfl) (Nat.le_of_ble_eq_true rfl) ?_
    refine LOps.detP (Det.bin rfl rfl (br_sub (b := 1) (by omega) (by omega))) (Nat.le_of_ble_eq_true rfl) ?_
    refine LOps.detP (Det.fieldA (o' := 0) Try.underlying25 rfl rfl rfl sz_23 (by decide)) (Nat.le_of_ble_eq_true rfl) ?_
    refine LOps.detP (Det.indexA0 Try.underlying23 sz_22 rfl rfl (by omega)) (Nat.le_of_ble_eq_true rfl) ?_
    refine LOps.det (Det.load rfl (by repeat (first | exact List.Mem.head _ | apply List.Mem.tail)) (LoadV.one Try.underlying22 rfl (by exact natL_get _ (show nw A - 1 < 9 by omega)))) (Nat.le_of_ble_eq_true rfl) ?_
    refine LOps.step rfl (LStep.w (LStep.callF (first := []) rfl en_173 rfl (Nat.le_of_ble_eq_true rfl) (fun w hw => c_Len64 _ (by omega) w) ?_))
    refine LOps.detP (Det.bin rfl rfl (br_add (by omega))) (Nat.le_of_ble_eq_true rfl) ?_
    refine LOps.detP (Det.assign rfl) (Nat.le_of_ble_eq_true rfl) ?_
    refine LOps.nil ?_
    refine LCode.ret ?_
    refine ⟨[_], .cons rfl .nil, fun a w' hr => ⟨?_, hr.fr.below⟩⟩
    rw [← bits_words h6]
    rfl

theorem c_nat_Bit (A i : Nat) (hA : A < W9) (hi : i < 576) (w : World)  : Calls Try.prog 139 ([natV A, .int .i64 ((i : Nat) : Int)] : List Value).toArray w (fun e w' => e = .returned (.int .i64 ((A / 2 ^ i % 2 : Nat) : Int)) ∧ Below w.heap.size w w') := by
  refine calls_ro (N := 21) (rs := [.tmp 4]) [] Try.func139 rfl Try.ntmps139 Try.results139 (Nat.le_of_ble_eq_true rfl) trivial rfl ?_
  show LCode _ _ _ ⟨_, _⟩ _
  refine LCode.seq ?_
  refine LCode.region ?_
  refine LOps.step rfl (LStep.w (LStep.makes (Makes.boxA rfl) (Nat.le_of_ble_eq_true rfl) (fun b2 => ?_)))
  refine LOps.detP (Det.assign (v := .int .i64 ((0 : Nat) : Int)) rfl) (Nat.le_of_ble_eq_true rfl) ?_
  refine LOps.nil ?_
  refine LCode.seq ?_
  refine LCode.seq ?_
  refine LCode.region ?_
  refine LOps.detP (Det.move rfl) (Nat.le_of_ble_eq_true rfl) ?_
  refine LOps.detP (Det.bin rfl rfl (br_f (br_lss (b := 0)) (Nat.not_lt_zero _))) (Nat.le_of_ble_eq_true rfl) ?_
  refine LOps.detP (Det.move rfl) (Nat.le_of_ble_eq_true rfl) ?_
  refine LOps.detGP rfl rfl (Det.move rfl) (Nat.le_of_ble_eq_true rfl) ?_
  refine LOps.detGP rfl rfl (Det.bin rfl rfl (br_f (br_geq (b := 576)) (by omega))) (Nat.le_of_ble_eq_true rfl) ?_
  refine LOps.detP (Det.pick_false rfl rfl) (Nat.le_of_ble_eq_true rfl) ?_
  refine LOps.nil ?_
  refine LCode.cond_false rfl ?_
  refine LCode.skip ?_
  refine LCode.seq ?_
  refine LCode.region ?_
  refine LOps.detP (Det.move rfl) (Nat.le_of_ble_eq_true rfl) ?_
  refine LOps.detP (Det.bin rfl rfl (br_quo (b := 64) (by omega) (by omega))) (Nat.le_of_ble_eq_true rfl) ?_
  refine LOps.detP (Det.fieldA (o' := 0) Try.underlying25 rfl rfl rfl sz_23 (by decide)) (Nat.le_of_ble_eq_true rfl) ?_
  refine LOps.detP (Det.indexA0 Try.underlying23 sz_22 rfl rfl (by omega)) (Nat.le_of_ble_eq_true rfl) ?_
  refine LOps.det (Det.load rfl (by repeat (first | exact List.Mem.head _ | apply List.Mem.tail)) (LoadV.one Try.underlying22 rfl (by exact natL_get _ (show i / 64 < 9 by omega)))) (Nat.le_of_ble_eq_true rfl) ?_
  refine LOps.detP (Det.move rfl) (Nat.le_of_ble_eq_true rfl) ?_
  refine LOps.detP (Det.bin rfl rfl (br_rem (b := 64) (by omega))) (Nat.le_of_ble_eq_true rfl) ?_
  refine LOps.detP (Det.bin rfl rfl (br_shr64 (limb_lt _ _))) (Nat.le_of_ble_eq_true rfl) ?_
  refine LOps.detP (Slots.cast (Det.bin rfl rfl (br_and64 (b := 1) (Nat.lt_of_le_of_lt (Nat.div_le_self _ _) (limb_lt _ _)) (by decide))) (vi (bit_of A i))) (Nat.le_of_ble_eq_true rfl) ?_
  refine LOps.detP (Det.convi Try.underlying22 Try.underlying3 rfl (Nat.lt_trans (Nat.mod_lt _ (by decide)) (by decide))) (Nat.le_of_ble_eq_true rfl) ?_
  refine LOps.detP (Det.assign rfl) (Nat.le_of_ble_eq_true rfl) ?_
  refine LOps.nil ?_
  refine LCode.ret ?_
  refine ⟨[_], .cons rfl .nil, fun a w' hr => ⟨?_, hr.fr.below⟩⟩
  rfl

theorem c_nat_Shr (A k : Nat) (hA : A < W9) (hk : k ≤ 576) (w : World)  : Calls Try.prog 190 ([natV A, .int .i64 ((k : Nat) : Int)] : List Value).toArray w (fun e w' => e = .returned (.tuple #[natV (A / 2 ^ k), .int .i64 ((0 : Nat) : Int)]) ∧ Below w.heap.size w w') := by
  refine calls_ro (N := 61) (rs := [.cell 4 25, .tmp 5]) [] Try.func190 rfl Try.ntmps190 Try.results190 (Nat.le_of_ble_eq_true rfl) trivial rfl ?_
  show LCode _ _ _ ⟨_, _⟩ _
  refine LCode.seq ?_
  refine LCode.region ?_
  refine LOps.step rfl (LStep.w (LStep.makes (Makes.boxA rfl) (Nat.le_of_ble_eq_true rfl) (fun b2 => ?_)))
  refine LOps.step rfl (LStep.w (LStep.makes (Makes.allocA zr_25) (Nat.le_of_ble_eq_true rfl) (fun b4 => ?_)))
  refine LOps.detP (Det.assign (v := .int .i64 ((0 : Nat) : Int)) rfl) (Nat.le_of_ble_eq_true rfl) ?_
  refine LOps.nil ?_
  refine LCode.seq ?_
  refine LCode.seq ?_
  refine LCode.region ?_
  refine LOps.detP (Det.move rfl) (Nat.le_of_ble_eq_true rfl) ?_
  refine LOps.detP (Det.bin rfl rfl (br_f (br_lss (b := 0)) (Nat.not_lt_zero _))) (Nat.le_of_ble_eq_true rfl) ?_
  refine LOps.detP (Det.move rfl) (Nat.le_of_ble_eq_true rfl) ?_
  refine LOps.detGP rfl rfl (Det.move rfl) (Nat.le_of_ble_eq_true rfl) ?_
  refine LOps.detGP rfl rfl (Det.bin rfl rfl (br_f (br_gtr (b := 576)) (by omega))) (Nat.le_of_ble_eq_true rfl) ?_
  refine LOps.detP (Det.pick_false rfl rfl) (Nat.le_of_ble_eq_true rfl) ?_
  refine LOps.nil ?_
  refine LCode.cond_false rfl ?_
  refine LCode.skip ?_
  refine LCode.seq ?_
  refine LCode.region ?_
  refine LOps.step rfl (LStep.w (LStep.makes (Makes.allocA zr_25) (Nat.le_of_ble_eq_true rfl) (fun b6 => ?_)))
  refine LOps.nil ?_
  refine LCode.seq ?_
  refine LCode.region ?_
  refine LOps.detP (Det.move rfl) (Nat.le_of_ble_eq_true rfl) ?_
  refine LOps.detP (Det.bin rfl rfl (br_quo (b := 64) (by omega) (by omega))) (Nat.le_of_ble_eq_true rfl) ?_
  refine LOps.detP (Det.move rfl) (Nat.le_of_ble_eq_true rfl) ?_
  refine LOps.detP (Det.bin rfl rfl (br_rem (b := 64) (by omega))) (Nat.le_of_ble_eq_true rfl) ?_
  refine LOps.detP (Det.assign rfl) (Nat.le_of_ble_eq_true rfl) ?_
  refine LOps.detP (Det.assign rfl) (Nat.le_of_ble_eq_true rfl) ?_
  refine LOps.nil ?_
  refine LCode.seq ?_
  refine LCode.seq ?_
  refine LCode.region ?_
  refine LOps.detP (Det.move rfl) (Nat.le_of_ble_eq_true rfl) ?_
  refine LOps.detP (Det.bin rfl rfl (br_sub (a := 9) (by omega) (by omega))) (Nat.le_of_ble_eq_true rfl) ?_
  refine LOps.detP (Det.move (v := .int .i64 ((0 : Nat) : Int)) rfl) (Nat.le_of_ble_eq_true rfl) ?_
  refine LOps.nil ?_
  refine LCode.block ?_
  refine LCode.loop (α := Nat) (fun x => x ≤ 9 - k / 64) (fun x => ⟨[(2, .pointer (some ⟨b2, 0, none⟩)), (4, .pointer (some ⟨b4, 0, none⟩)), (6, .pointer (some ⟨b6, 0, none⟩)), (7, .int .i64 ((k / 64 : Nat) : Int)), (8, .int .i64 ((k % 64 : Nat) : Int)), (22, .int .i64 ((9 - k / 64 : Nat) : Int)), (23, .int .i64 ((x : Nat) : Int))], [.blk b6 ⟨true, vec .u64 9 (fun j => if j < x then limb (A / 2 ^ k) j else 0), 25, (0, 0)⟩, .blk b4 ⟨true, vec .u64 9 (fun _ => 0), 25, (0, 0)⟩, .blk b2 ⟨true, natL A, 25, (0, 0)⟩]⟩) (fun x => 9 - k / 64 - x) (0) (Nat.zero_le _) (Sub.mk ⟨rfl, rfl, rfl, rfl, rfl, rfl, rfl, trivial⟩ (by repeat (first | exact Sel.nil _ | refine Sel.cons (by repeat (first | exact Pick.head _ | apply Pick.tail)) ?_))) ?_
  intro x hx
  refine LCode.seq ?_
  refine LCode.region ?_
  refine LOps.detP (Det.bin rfl rfl (br_lss)) (Nat.le_of_ble_eq_true rfl) ?_
  refine LOps.nil ?_
  refine LCode.seq ?_
  first | refine LCode.condD rfl (fun h24 => ?_) (fun h24 => ?_) | refine LCode.cond rfl (fun h24 => ?_) (fun h24 => ?_)
  ·
    have h24 : x < 9 - k / 64 := h24
    refine LCode.skip ?_
    refine LCode.seq ?_
    refine LCode.block ?_
    refine LCode.seq ?_
    refine LCode.region ?_
    refine LOps.detP (Det.move rfl) (Nat.le_of_ble_eq_true rfl) ?_
    refine LOps.detP (Det.assign rfl) (Nat.le_of_ble_eq_true rfl) ?_
    refine LOps.nil ?_
    refine LCode.seq ?_
    refine LCode.region ?_
    refine LOps.detP (Det.move rfl) (Nat.le_of_ble_eq_true rfl) ?_
    refine LOps.detP (Det.move rfl) (Nat.le_of_ble_eq_true rfl) ?_
    refine LOps.detP (Det.move rfl) (Nat.le_of_ble_eq_true rfl) ?_
    refine LOps.detP (Det.bin rfl rfl (br_add (by omega))) (Nat.le_of_ble_eq_true rfl) ?_
    refine LOps.detP (Det.fieldA (o' := 0) Try.underlying25 rfl rfl rfl sz_23 (by decide)) (Nat.le_of_ble_eq_true rfl) ?_
    refine LOps.detP (Det.indexA0 Try.underlying23 sz_22 rfl rfl (by omega)) (Nat.le_of_ble_eq_true rfl) ?_
    refine LOps.det (Det.load rfl (by repeat (first | exact List.Mem.head _ | apply List.Mem.tail)) (LoadV.one Try.underlying22 rfl (by exact natL_get _ (show x + k / 64 < 9 by omega)))) (Nat.le_of_ble_eq_true rfl) ?_
    refine LOps.detP (Det.move rfl) (Nat.le_of_ble_eq_true rfl) ?_
    refine LOps.detP (Det.bin rfl rfl (br_shr64 (limb_lt _ _))) (Nat.le_of_ble_eq_true rfl) ?_
    refine LOps.detP (Det.fieldA (o' := 0) Try.underlying25 rfl rfl rfl sz_23 (by decide)) (Nat.le_of_ble_eq_true rfl) ?_
    refine LOps.detP (Det.indexA0 Try.underlying23 sz_22 rfl rfl (by omega)) (Nat.le_of_ble_eq_true rfl) ?_
    refine LOps.step rfl (LStepW.store1 rfl rfl rfl sz_22 (by repeat (first | exact SetAt.head _ | apply SetAt.tail)) (by first | (simp only [vec_length, natL_length, wideL_length, dv_length]; omega) | (simp; omega)) (by first | exact vec_set _ _ _ _ _ | exact dv_setm _ _ _ _ (by omega) | exact dv_sets _ _ _ _ | rfl) (by simp) ?_)
    refine LOps.nil ?_
    refine LCode.seq ?_
    refine LCode.region ?_
    refine LOps.detP (Det.move rfl) (Nat.le_of_ble_eq_true rfl) ?_
    refine LOps.detP (Det.move rfl) (Nat.le_of_ble_eq_true rfl) ?_
    refine LOps.detP (Det.bin rfl rfl (br_add (by omega))) (Nat.le_of_ble_eq_true rfl) ?_
    refine LOps.detP (Det.bin rfl rfl (br_add (b := 1) (by omega))) (Nat.le_of_ble_eq_true rfl) ?_
    refine LOps.detP (Det.bin rfl rfl (br_lss (b := 9))) (Nat.le_of_ble_eq_true rfl) ?_
    refine LOps.nil ?_
    first | refine LCode.condD rfl (fun h41 => ?_) (fun h41 => ?_) | refine LCode.cond rfl (fun h41 => ?_) (fun h41 => ?_)
    ·
      have h41 : x + k / 64 + 1 < 9 := h41
      refine LCode.regionD [17] (by kernel_rfl) ?_
      refine LAny.takeP 0 rfl (by kernel_rfl) (Nat.le_of_ble_eq_true rfl) (Det.move rfl) ?_
      refine LAny.takeP 1 rfl (by kernel_rfl) (Nat.le_of_ble_eq_true rfl) (Det.fieldA (o' := 0) Try.underlying25 rfl rfl rfl sz_23 (by decide)) ?_
      refine LAny.takeP 2 rfl (by kernel_rfl) (Nat.le_of_ble_eq_true rfl) (Det.indexA0 Try.underlying23 sz_22 rfl rfl (by omega)) ?_
      refine LAny.take 3 rfl (by kernel_rfl) (Nat.le_of_ble_eq_true rfl) (Det.load (v := .int .u64 ((limb A (x + k / 64) / 2 ^ (k % 64) : Nat) : Int)) rfl (by repeat (first | exact List.Mem.head _ | apply List.Mem.tail)) (LoadV.one Try.underlying22 rfl (by exact (vec_get _ _ _ (by omega)).trans (by simp)))) ?_
      refine LAny.takeP 4 rfl (by kernel_rfl) (Nat.le_of_ble_eq_true rfl) (Det.move rfl) ?_
      refine LAny.takeP 5 rfl (by kernel_rfl) (Nat.le_of_ble_eq_true rfl) (Det.move rfl) ?_
      refine LAny.takeP 6 rfl (by kernel_rfl) (Nat.le_of_ble_eq_true rfl) (Det.bin rfl rfl (br_add (by omega))) ?_
      refine LAny.takeP 7 rfl (by kernel_rfl) (Nat.le_of_ble_eq_true rfl) (Det.bin rfl rfl (br_add (b := 1) (by omega))) ?_
      refine LAny.takeP 8 rfl (by kernel_rfl) (Nat.le_of_ble_eq_true rfl) (Det.fieldA (o' := 0) Try.underlying25 rfl rfl rfl sz_23 (by decide)) ?_
      refine LAny.takeP 9 rfl (by kernel_rfl) (Nat.le_of_ble_eq_true rfl) (Det.indexA0 Try.underlying23 sz_22 rfl rfl (by omega)) ?_
      refine LAny.take 10 rfl (by kernel_rfl) (Nat.le_of_ble_eq_true rfl) (Det.load rfl (by repeat (first | exact List.Mem.head _ | apply List.Mem.tail)) (LoadV.one Try.underlying22 rfl (by exact natL_get _ (show x + k / 64 + 1 < 9 by omega)))) ?_
      refine LAny.takeP 11 rfl (by kernel_rfl) (Nat.le_of_ble_eq_true rfl) (Det.move rfl) ?_
      refine LAny.takeP 12 rfl (by kernel_rfl) (Nat.le_of_ble_eq_true rfl) (Det.bin rfl rfl (br_sub (a := 64) (by omega) (by omega))) ?_
      refine LAny.takeP 13 rfl (by kernel_rfl) (Nat.le_of_ble_eq_true rfl) (Det.bin rfl rfl (br_shl64)) ?_
      refine LAny.takeP 14 rfl (by kernel_rfl) (Nat.le_of_ble_eq_true rfl) (Det.bin rfl rfl (br_or64 (Nat.lt_of_le_of_lt (Nat.div_le_self _ _) (limb_lt _ _)) (Nat.mod_lt _ (by decide)))) ?_
      refine LAny.takeP 15 rfl (by kernel_rfl) (Nat.le_of_ble_eq_true rfl) (Det.fieldA (o' := 0) Try.underlying25 rfl rfl rfl sz_23 (by decide)) ?_
      refine LAny.takeP 16 rfl (by kernel_rfl) (Nat.le_of_ble_eq_true rfl) (Det.indexA0 Try.underlying23 sz_22 rfl rfl (by omega)) ?_
      refine LAny.late 17 rfl rfl (by kernel_rfl) (by kernel_rfl) (LStepW.store1 rfl rfl rfl sz_22 (by repeat (first | exact SetAt.head _ | apply SetAt.tail)) (by first | (simp only [vec_length, natL_length, wideL_length, dv_length]; omega) | (simp; omega)) (by first | exact vec_set _ _ _ _ _ | exact dv_setm _ _ _ _ (by omega) | exact dv_sets _ _ _ _ | rfl) (by simp) ?_)
      refine LAny.done (by kernel_rfl) ?_
      refine LCode.region ?_
      refine LOps.detP (Det.bin rfl rfl (br_add (b := 1) (by omega))) (Nat.le_of_ble_eq_true rfl) ?_
      refine LOps.detP (Det.move rfl) (Nat.le_of_ble_eq_true rfl) ?_
      refine LOps.nil ?_
      refine ⟨x + 1, by omega, by omega, Sub.re (Sub.cells (b := b6) (cs' := vec .u64 9 (fun j => if j < x + 1 then limb (A / 2 ^ k) j else 0)) (by repeat (first | exact SetAt.head _ | apply SetAt.tail)) ?_) (Sub.mk ⟨rfl, rfl, rfl, rfl, rfl, rfl, rfl, trivial⟩ (by repeat (first | exact Sel.nil _ | refine Sel.cons (by repeat (first | exact Pick.head _ | apply Pick.tail)) ?_)))⟩
      apply vec_congr
      intro j hj
      have hs := shr_or (A := A) (w := k / 64) (r := k % 64) (i := j) (Nat.mod_lt _ (by decide))
      rw [Nat.div_add_mod] at hs
      by_cases e : j = x
      · subst e; rw [if_pos rfl, if_pos (by omega)]; exact hs
      · rw [if_neg e, if_neg e]
        by_cases e2 : j < x
        · rw [if_pos e2, if_pos (by omega)]
        · rw [if_neg e2, if_neg (by omega)]
    ·
      have h41 : ¬ x + k / 64 + 1 < 9 := h41
      refine LCode.skip ?_
      refine LCode.region ?_
      refine LOps.detP (Det.bin rfl rfl (br_add (b := 1) (by omega))) (Nat.le_of_ble_eq_true rfl) ?_
      refine LOps.detP (Det.move rfl) (Nat.le_of_ble_eq_true rfl) ?_
      refine LOps.nil ?_
      refine ⟨x + 1, by omega, by omega, Sub.re (Sub.cells (b := b6) (cs' := vec .u64 9 (fun j => if j < x + 1 then limb (A / 2 ^ k) j else 0)) (by repeat (first | exact SetAt.head _ | apply SetAt.tail)) ?_) (Sub.mk ⟨rfl, rfl, rfl, rfl, rfl, rfl, rfl, trivial⟩ (by repeat (first | exact Sel.nil _ | refine Sel.cons (by repeat (first | exact Pick.head _ | apply Pick.tail)) ?_)))⟩
      apply vec_congr
      intro j hj
      have hs := shr_or (A := A) (w := k / 64) (r := k % 64) (i := j) (Nat.mod_lt _ (by decide))
      rw [Nat.div_add_mod] at hs
      by_cases e : j = x
      · subst e
        rw [if_pos rfl, if_pos (by omega), ← hs, limb_high (lt_w9_pow hA 9 rfl) (show 9 ≤ j + k / 64 + 1 by omega), Nat.zero_mul, Nat.zero_mod, Nat.or_zero]
      · rw [if_neg e]
        by_cases e2 : j < x
        · rw [if_pos e2, if_pos (by omega)]
        · rw [if_neg e2, if_neg (by omega)]
  ·
    have h24 : ¬ x < 9 - k / 64 := h24
    refine LCode.exit ?_
    refine LCode.seq ?_
    refine LCode.region ?_
    refine LOps.det (Det.load rfl (by repeat (first | exact List.Mem.head _ | apply List.Mem.tail)) (by exact LoadV.whole Try.underlying25 rfl sz_25)) (Nat.le_of_ble_eq_true rfl) ?_
    refine LOps.step rfl (LStepW.storeA rfl rfl sz_25 (by repeat (first | exact natL_one _ | exact vec_one _ _ _ | exact wideL_one _ | exact ptL_one _ _ _ | exact pjL_one _ _ _ | exact allOne_nil | refine allOne_cons rfl ?_ | refine allOne_append ?_ ?_)) (by repeat (first | exact SetAt.head _ | apply SetAt.tail)) (by first | exact natL_length _ | exact vec_length _ _ _ | exact wideL_length _ | exact ptL_length _ _ _ | exact pjL_length _ _ _ | rfl | simp [vec_length, natL_length, wideL_length]) ?_)
    refine LOps.detP (Det.assign (v := .int .i64 ((0 : Nat) : Int)) rfl) (Nat.le_of_ble_eq_true rfl) ?_
    refine LOps.nil ?_
    refine LCode.ret ?_
    have hx9 : x = 9 - k / 64 := by omega
    subst hx9
    refine ⟨[_, _], .cons ⟨_, _, _, rfl, (by repeat (first | exact List.Mem.head _ | apply List.Mem.tail)), by exact LoadV.whole Try.underlying25 rfl sz_25⟩ (.cons rfl .nil), fun a w' hr => ⟨?_, hr.fr.below⟩⟩
    have h1 : (vec IntKind.u64 9 fun j => if j < 9 - k / 64 then limb (A / 2 ^ k) j else 0) = natL (A / 2 ^ k) := by
      apply vec_congr
      intro j hj
      by_cases e : j < 9 - k / 64
      · rw [if_pos e]
      · rw [if_neg e]
        have hs := limb_shr A (k / 64) (k % 64) j (Nat.mod_lt _ (by decide))
        rw [Nat.div_add_mod, limb_high (lt_w9_pow hA 9 rfl) (show 9 ≤ j + k / 64 by omega), limb_high (lt_w9_pow hA 9 rfl) (show 9 ≤ j + k / 64 + 1 by omega)] at hs
        rw [hs]; simp
    show Ending.returned (.tuple #[.agg (vec IntKind.u64 9 fun j => if j < 9 - k / 64 then limb (A / 2 ^ k) j else 0).toArray, _]) = _
    rw [h1]
    rfl

theorem c_nat_Small (x : Nat) (hx : x < 9223372036854775808) (w : World)  : Calls Try.prog 150 ([.int .i64 ((x : Nat) : Int)] : List Value).toArray w (fun e w' => e = .returned (natV x) ∧ Below w.heap.size w w') := by
  refine calls_ro (N := 8) (rs := [.cell 2 25]) [] Try.func150 rfl Try.ntmps150 Try.results150 (Nat.le_of_ble_eq_true rfl) trivial rfl ?_
  show LCode _ _ _ ⟨_, _⟩ _
  refine LCode.seq ?_
  refine LCode.region ?_
  refine LOps.step rfl (LStep.w (LStep.makes (Makes.allocA zr_25) (Nat.le_of_ble_eq_true rfl) (fun b2 => ?_)))
  refine LOps.nil ?_
  refine LCode.seq ?_
  refine LCode.region ?_
  refine LOps.detP (Det.move rfl) (Nat.le_of_ble_eq_true rfl) ?_
  refine LOps.detP (Det.max0 rfl rfl) (Nat.le_of_ble_eq_true rfl) ?_
  refine LOps.detP (Det.conv64 Try.underlying3 Try.underlying22 rfl (by first | omega | exact Nat.lt_trans (D.limb_lt _ _) (by decide))) (Nat.le_of_ble_eq_true rfl) ?_
  refine LOps.detP (Det.build pl_23 zr_23 rfl (by exact fill_small (by omega))) (Nat.le_of_ble_eq_true rfl) ?_
  refine LOps.detP (Det.build pl_25 zr_25 rfl (by exact fillL_whole (vec_length _ _ _) (natL_length _))) (Nat.le_of_ble_eq_true rfl) ?_
  refine LOps.step rfl (LStepW.storeA rfl rfl sz_25 (by repeat (first | exact natL_one _ | exact vec_one _ _ _ | exact wideL_one _ | exact ptL_one _ _ _ | exact pjL_one _ _ _ | exact allOne_nil | refine allOne_cons rfl ?_ | refine allOne_append ?_ ?_)) (by repeat (first | exact SetAt.head _ | apply SetAt.tail)) (by first | exact natL_length _ | exact vec_length _ _ _ | exact wideL_length _ | exact ptL_length _ _ _ | exact pjL_length _ _ _ | rfl | simp [vec_length, natL_length, wideL_length]) ?_)
  refine LOps.nil ?_
  refine LCode.ret ?_
  refine ⟨[_], .cons ⟨_, _, _, rfl, (by repeat (first | exact List.Mem.head _ | apply List.Mem.tail)), by exact LoadV.whole Try.underlying25 rfl sz_25⟩ .nil, fun a w' hr => ⟨?_, hr.fr.below⟩⟩
  rfl

end Go.Proofs.Ytljblbgogjieaaa
