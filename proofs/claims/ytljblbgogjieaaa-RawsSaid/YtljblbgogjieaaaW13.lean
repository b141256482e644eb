/- Walks: what functions of the program come to, step by step. -/
import Derived.Test.YtljblbgogjieaaaW12
set_option linter.unusedVariables false
set_option linter.unusedSimpArgs false
set_option maxRecDepth 20000
namespace Go.Proofs.Ytljblbgogjieaaa
open Go Go.RowKit

theorem c_n_Add (q r : NV) (A B : Nat) (w : World) (hq : (numT q A).holds w) (hr : (numT r B).holds w) (hA : D.nw A ≤ 1000000) (hB : D.nw B ≤ 1000000) : Calls Try.prog 73 ([numV q A, numV r B] : List Value).toArray w (fun e w' => NumR w ([]) (A + B) (fun v => v) e w') := by
  refine calls_ro (N := 47) (rs := [.tmp 4]) [numT q A, numT r B] Try.func73 rfl Try.ntmps73 Try.results73 (Nat.le_of_ble_eq_true rfl) ⟨hq, hr, trivial⟩ rfl ?_
  show LCode _ _ _ ⟨_, _⟩ _
  refine LCode.seq ?_
  refine LCode.region ?_
  refine LOps.detP (Det.assign rfl) (Nat.le_of_ble_eq_true rfl) ?_
  refine LOps.nil ?_
  refine LCode.seq ?_
  obtain ⟨K, hK⟩ : ∃ K, K = (if D.nw A < D.nw B then D.nw B else D.nw A) := ⟨_, rfl⟩
  have hAK : A < 2 ^ (32 * K) := Nat.lt_of_lt_of_le (D.lt_nw A) (Nat.pow_le_pow_right (by decide) (by split at hK <;> omega))
  have hBK : B < 2 ^ (32 * K) := Nat.lt_of_lt_of_le (D.lt_nw B) (Nat.pow_le_pow_right (by decide) (by split at hK <;> omega))
  have hKb : K ≤ 1000000 := by split at hK <;> omega
  clear hA hB
  refine LCode.region ?_
  refine LOps.detP (Det.move rfl) (Nat.le_of_ble_eq_true rfl) ?_
  refine LOps.detP (Det.len Try.underlying29 rfl) (Nat.le_of_ble_eq_true rfl) ?_
  refine LOps.detP (Det.move rfl) (Nat.le_of_ble_eq_true rfl) ?_
  refine LOps.detP (Det.len Try.underlying29 rfl) (Nat.le_of_ble_eq_true rfl) ?_
  refine LOps.detP (Slots.cast (Det.maxN rfl rfl) (vi (b := K) (by rw [hK]))) (Nat.le_of_ble_eq_true rfl) ?_
  refine LOps.detP (Det.assign rfl) (Nat.le_of_ble_eq_true rfl) ?_
  refine LOps.nil ?_
  refine LCode.seq ?_
  refine LCode.region ?_
  refine LOps.detP (Det.move rfl) (Nat.le_of_ble_eq_true rfl) ?_
  refine LOps.detP (Det.bin rfl rfl (br_add (b := 1) (by omega))) (Nat.le_of_ble_eq_true rfl) ?_
  refine LOps.step rfl (LStep.w (LStep.makes (Makes.mkV Try.underlying29 inf_56 rfl rfl (by omega) (by omega)) (Nat.le_of_ble_eq_true rfl) (fun b17 => ?_)))
  refine LOps.detP (Det.assign rfl) (Nat.le_of_ble_eq_true rfl) ?_
  refine LOps.nil ?_
  refine LCode.seq ?_
  refine LCode.region ?_
  refine LOps.detP (Det.assign (v := .int .u64 ((0 : Nat) : Int)) rfl) (Nat.le_of_ble_eq_true rfl) ?_
  refine LOps.nil ?_
  refine LCode.seq ?_
  refine LCode.seq ?_
  refine LCode.region ?_
  refine LOps.detP (Det.assign (v := .int .i64 ((0 : Nat) : Int)) rfl) (Nat.le_of_ble_eq_true rfl) ?_
  refine LOps.nil ?_
  refine LCode.block ?_
  refine LCode.loop (α := Nat) (fun x => x ≤ K) (fun x => ⟨[(0, numV q A), (1, numV r B), (5, .int .i64 ((K : Nat) : Int)), (6, .slice (some ⟨b17, 0, none⟩) (K + 1) (K + 1)), (7, .int .u64 ((D.carry A B x : Nat) : Int)), (8, .int .i64 ((x : Nat) : Int))], [.blk b17 ⟨true, vec .u32 (K + 1) (fun j => if j < x then D.limb (A + B) j else 0), 56, (0, 0)⟩, numT q A, numT r B]⟩) (fun x => K - x) (0) (Nat.zero_le _) (Sub.mk ⟨rfl, rfl, rfl, rfl, by rw [D.carry_zero]; rfl, rfl, trivial⟩ (by repeat (first | exact Sel.nil _ | refine Sel.cons (by repeat (first | exact Pick.head _ | apply Pick.tail)) ?_))) ?_
  intro x hx
  refine LCode.seq ?_
  refine LCode.seq ?_
  refine LCode.region ?_
  refine LOps.detP (Det.move rfl) (Nat.le_of_ble_eq_true rfl) ?_
  refine LOps.detP (Det.move rfl) (Nat.le_of_ble_eq_true rfl) ?_
  refine LOps.detP (Det.bin rfl rfl (br_lss)) (Nat.le_of_ble_eq_true rfl) ?_
  refine LOps.nil ?_
  first | refine LCode.condD rfl (fun h20 => ?_) (fun h20 => ?_) | refine LCode.cond rfl (fun h20 => ?_) (fun h20 => ?_)
  ·
    refine LCode.skip ?_
    refine LCode.seq ?_
    refine LCode.block ?_
    refine LCode.seq ?_
    have hs := D.add_limb A B x
    have hc := D.carry_le A B x
    have hc2 := D.carry_le A B (x + 1)
    have hla := D.limb_lt A x
    have hlb := D.limb_lt B x
    have hls := D.limb_lt (A + B) x
    refine LCode.region ?_
    refine LOps.detP (Det.move rfl) (Nat.le_of_ble_eq_true rfl) ?_
    refine LOps.detP (Det.move rfl) (Nat.le_of_ble_eq_true rfl) ?_
    refine LOps.step rfl (LStep.w (LStep.callF (first := []) rfl en_118 rfl (Nat.le_of_ble_eq_true rfl) (fun w hw => c_n_digit q A (D.nw A) x w (hw _ (by repeat (first | exact List.Mem.head _ | apply List.Mem.tail)))) ?_))
    refine LOps.detP (Det.move rfl) (Nat.le_of_ble_eq_true rfl) ?_
    refine LOps.detP (Det.move rfl) (Nat.le_of_ble_eq_true rfl) ?_
    refine LOps.step rfl (LStep.w (LStep.callF (first := []) rfl en_118 rfl (Nat.le_of_ble_eq_true rfl) (fun w hw => c_n_digit r B (D.nw B) x w (hw _ (by repeat (first | exact List.Mem.head _ | apply List.Mem.tail)))) ?_))
    refine LOps.detP (Det.bin rfl rfl (br_add64)) (Nat.le_of_ble_eq_true rfl) ?_
    refine LOps.detP (Det.move rfl) (Nat.le_of_ble_eq_true rfl) ?_
    refine LOps.detP (Det.bin rfl rfl (br_add64)) (Nat.le_of_ble_eq_true rfl) ?_
    refine LOps.detP (Det.assign rfl) (Nat.le_of_ble_eq_true rfl) ?_
    refine LOps.nil ?_
    refine LCode.seq ?_
    refine LCode.region ?_
    refine LOps.detP (Det.move rfl) (Nat.le_of_ble_eq_true rfl) ?_
    refine LOps.detP (Det.move rfl) (Nat.le_of_ble_eq_true rfl) ?_
    refine LOps.detP (Det.move rfl) (Nat.le_of_ble_eq_true rfl) ?_
    refine LOps.detP (Det.bin rfl rfl (br_and64 (b := 4294967295) (by omega) (by decide))) (Nat.le_of_ble_eq_true rfl) ?_
    refine LOps.detP (Det.conv32 Try.underlying22 Try.underlying56 rfl) (Nat.le_of_ble_eq_true rfl) ?_
    refine LOps.detP (Det.indexS0 Try.underlying29 sz_56 rfl rfl (by omega)) (Nat.le_of_ble_eq_true rfl) ?_
    refine LOps.step rfl (LStepW.store1 rfl rfl rfl sz_56 (by repeat (first | exact SetAt.head _ | apply SetAt.tail)) (by first | (simp only [vec_length, natL_length, wideL_length, dv_length]; omega) | (simp; omega)) (by first | exact vec_set _ _ _ _ _ | exact dv_setm _ _ _ _ (by omega) | exact dv_sets _ _ _ _ | rfl) (by simp) ?_)
    refine LOps.nil ?_
    refine LCode.region ?_
    refine LOps.detP (Det.move rfl) (Nat.le_of_ble_eq_true rfl) ?_
    refine LOps.detP (Det.bin rfl rfl (br_shr64 (b := 32) (by omega))) (Nat.le_of_ble_eq_true rfl) ?_
    refine LOps.detP (Det.assign rfl) (Nat.le_of_ble_eq_true rfl) ?_
    refine LOps.nil ?_
    refine LCode.region ?_
    refine LOps.detP (Det.move rfl) (Nat.le_of_ble_eq_true rfl) ?_
    refine LOps.detP (Det.bin rfl rfl (br_add (b := 1) (by omega))) (Nat.le_of_ble_eq_true rfl) ?_
    refine LOps.detP (Det.assign rfl) (Nat.le_of_ble_eq_true rfl) ?_
    refine LOps.nil ?_
    refine ⟨x + 1, by omega, by omega, Sub.re (Sub.cells (b := b17) (cs' := vec .u32 (K + 1) (fun j => if j < x + 1 then D.limb (A + B) j else 0)) (by repeat (first | exact SetAt.head _ | apply SetAt.tail)) (vec_congr fun j hj => ?_)) (Sub.mk ⟨rfl, rfl, rfl, rfl, congrArg (fun n : Nat => some (Value.int .u64 (n : Int))) ?_, rfl, trivial⟩ (by repeat (first | exact Sel.nil _ | refine Sel.cons (by repeat (first | exact Pick.head _ | apply Pick.tail)) ?_)))⟩
    · by_cases e : j = x
      · rw [if_pos e, if_pos (by omega), e, and32]
        omega
      · rw [if_neg e]
        by_cases e3 : j < x
        · rw [if_pos e3, if_pos (by omega)]
        · rw [if_neg e3, if_neg (by omega)]
    · omega
  ·
    refine LCode.exit ?_
    refine LCode.seq ?_
    obtain rfl : K = x := by omega
    have hc := D.carry_le A B K
    refine LCode.region ?_
    refine LOps.detP (Det.move rfl) (Nat.le_of_ble_eq_true rfl) ?_
    refine LOps.detP (Det.move rfl) (Nat.le_of_ble_eq_true rfl) ?_
    refine LOps.detP (Det.move rfl) (Nat.le_of_ble_eq_true rfl) ?_
    refine LOps.detP (Det.conv32 Try.underlying22 Try.underlying56 rfl) (Nat.le_of_ble_eq_true rfl) ?_
    refine LOps.detP (Det.indexS0 Try.underlying29 sz_56 rfl rfl (by omega)) (Nat.le_of_ble_eq_true rfl) ?_
    refine LOps.step rfl (LStepW.store1 rfl rfl rfl sz_56 (by repeat (first | exact SetAt.head _ | apply SetAt.tail)) (by first | (simp only [vec_length, natL_length, wideL_length, dv_length]; omega) | (simp; omega)) (by first | exact vec_set _ _ _ _ _ | exact dv_setm _ _ _ _ (by omega) | exact dv_sets _ _ _ _ | rfl) (by simp) ?_)
    refine LOps.sub (Sub.cells (b := b17) (cs' := vec .u32 (K + 1) (D.limb (A + B))) (by repeat (first | exact SetAt.head _ | apply SetAt.tail)) (vec_congr fun j hj => ?_)) ?_
    · by_cases e : j = K
      · rw [if_pos e, e, D.carry_top hAK hBK]; exact Nat.mod_eq_of_lt (D.limb_lt _ _)
      · rw [if_neg e, if_pos (by omega)]
    refine LOps.nil ?_
    refine LCode.seq ?_
    refine LCode.region ?_
    refine LOps.detP (Det.move rfl) (Nat.le_of_ble_eq_true rfl) ?_
    refine LOps.step rfl (LStep.w (LStep.callF (first := []) rfl en_120 rfl (Nat.le_of_ble_eq_true rfl) (fun w hw => c_trim (A + B) b17 (K + 1) (K + 1) (K + 1) _ true w (hw _ (by repeat (first | exact List.Mem.head _ | apply List.Mem.tail))) (Nat.le_refl _) (Nat.le_refl _) (by omega) (D.add_lt hAK hBK)) ?_))
    refine LOps.detP (Det.assign rfl) (Nat.le_of_ble_eq_true rfl) ?_
    refine LOps.nil ?_
    refine LCode.ret ?_
    refine ⟨[_], .cons rfl .nil, fun a w' hr => hr.num (by repeat (first | exact List.Mem.head _ | apply List.Mem.tail)) (D.add_lt hAK hBK)⟩

theorem blen_half {x : Nat} (h : x ≠ 0) : blen (x / 2) + 1 = blen x := by
  by_cases h1 : x = 1
  · subst h1; rfl
  · have := blen_shr (x := x) (k := 1) (show 2 ^ 1 ≤ x by omega)
    exact this

theorem c_n_Bits (q : NV) (A : Nat) (w : World) (hq : (numT q A).holds w) (hA : D.nw A ≤ 1000000) : Calls Try.prog 76 ([numV q A] : List Value).toArray w (fun e w' => e = .returned (.int .i64 ((blen A : Nat) : Int)) ∧ Below w.heap.size w w') := by
  refine calls_ro (N := 25) (rs := [.tmp 2]) [numT q A] Try.func76 rfl Try.ntmps76 Try.results76 (Nat.le_of_ble_eq_true rfl) ⟨hq, trivial⟩ rfl ?_
  show LCode _ _ _ ⟨_, _⟩ _
  refine LCode.seq ?_
  refine LCode.region ?_
  refine LOps.detP (Det.assign (v := .int .i64 ((0 : Nat) : Int)) rfl) (Nat.le_of_ble_eq_true rfl) ?_
  refine LOps.nil ?_
  refine LCode.seq ?_
  refine LCode.seq ?_
  refine LCode.region ?_
  refine LOps.detP (Det.move rfl) (Nat.le_of_ble_eq_true rfl) ?_
  refine LOps.detP (Det.len Try.underlying29 rfl) (Nat.le_of_ble_eq_true rfl) ?_
  refine LOps.detP (Det.bin rfl rfl (br_eql (b := 0))) (Nat.le_of_ble_eq_true rfl) ?_
  refine LOps.nil ?_
  first | refine LCode.condD rfl (fun h7 => ?_) (fun h7 => ?_) | refine LCode.cond rfl (fun h7 => ?_) (fun h7 => ?_)
  ·
    have h7 : D.nw A = 0 := by have := h7; simpa using this
    refine LCode.seq ?_
    refine LCode.region ?_
    refine LOps.detP (Det.assign (v := .int .i64 ((0 : Nat) : Int)) rfl) (Nat.le_of_ble_eq_true rfl) ?_
    refine LOps.nil ?_
    refine LCode.ret ?_
    have hz : A = 0 := nw_eq_zero.1 h7
    refine ⟨[_], .cons rfl .nil, fun a w' hr => ⟨?_, hr.fr.below⟩⟩
    rw [hz]; rfl
  ·
    have h7 : D.nw A ≠ 0 := by have := h7; simpa using this
    refine LCode.skip ?_
    refine LCode.seq ?_
    refine LCode.region ?_
    refine LOps.detP (Det.move rfl) (Nat.le_of_ble_eq_true rfl) ?_
    refine LOps.detP (Det.len Try.underlying29 rfl) (Nat.le_of_ble_eq_true rfl) ?_
    refine LOps.detP (Det.bin rfl rfl (br_sub (b := 1) (by omega) (by omega))) (Nat.le_of_ble_eq_true rfl) ?_
    refine LOps.detP (Det.bin rfl rfl (br_mul (a := 32) (by omega))) (Nat.le_of_ble_eq_true rfl) ?_
    refine LOps.detP (Det.assign rfl) (Nat.le_of_ble_eq_true rfl) ?_
    refine LOps.nil ?_
    refine LCode.seq ?_
    refine LCode.seq ?_
    refine LCode.region ?_
    refine LOps.detP (Det.move rfl) (Nat.le_of_ble_eq_true rfl) ?_
    refine LOps.detP (Det.move rfl) (Nat.le_of_ble_eq_true rfl) ?_
    refine LOps.detP (Det.len Try.underlying29 rfl) (Nat.le_of_ble_eq_true rfl) ?_
    refine LOps.detP (Det.bin rfl rfl (br_sub (b := 1) (by omega) (by omega))) (Nat.le_of_ble_eq_true rfl) ?_
    refine LOps.detP (Det.indexN Try.underlying29 sz_56 rfl rfl (by omega)) (Nat.le_of_ble_eq_true rfl) ?_
    refine LOps.det (Det.loadN Try.underlying56 rfl rfl (by repeat (first | exact List.Mem.head _ | apply List.Mem.tail)) (by omega)) (Nat.le_of_ble_eq_true rfl) ?_
    refine LOps.detP (Det.assign rfl) (Nat.le_of_ble_eq_true rfl) ?_
    refine LOps.nil ?_
    refine LCode.block ?_
    refine LCode.loop (α := Nat × Nat) (fun x => x.1 < 4294967296 ∧ x.2 + blen x.1 = blen A ∧ blen A ≤ 32000000) (fun x => ⟨[(3, .int .i64 ((x.2 : Nat) : Int)), (4, .int .u32 ((x.1 : Nat) : Int))], []⟩) (fun x => x.1) ((D.limb A (D.nw A - 1), 32 * (D.nw A - 1))) (⟨D.limb_lt _ _, D.bits_words h7, by have := D.bits_words h7; have := blen_le (n := 32) (D.limb_lt A (D.nw A - 1)); omega⟩) (Sub.mk ⟨rfl, rfl, trivial⟩ (by repeat (first | exact Sel.nil _ | refine Sel.cons (by repeat (first | exact Pick.head _ | apply Pick.tail)) ?_))) ?_
    rintro x ⟨hx1, hx2, hx3⟩
    refine LCode.seq ?_
    refine LCode.seq ?_
    refine LCode.region ?_
    refine LOps.detP (Det.move rfl) (Nat.le_of_ble_eq_true rfl) ?_
    refine LOps.detP (Det.bin rfl rfl (br_gtr (b := 0))) (Nat.le_of_ble_eq_true rfl) ?_
    refine LOps.nil ?_
    first | refine LCode.condD rfl (fun h19 => ?_) (fun h19 => ?_) | refine LCode.cond rfl (fun h19 => ?_) (fun h19 => ?_)
    ·
      have h19 : 0 < x.1 := by have := h19; simpa using this
      refine LCode.skip ?_
      refine LCode.seq ?_
      refine LCode.block ?_
      have hb1 := blen_ne (A := x.1) (by omega)
      refine LCode.region ?_
      refine LOps.detP (Det.move rfl) (Nat.le_of_ble_eq_true rfl) ?_
      refine LOps.detP (Det.bin rfl rfl (br_add (b := 1) (by omega))) (Nat.le_of_ble_eq_true rfl) ?_
      refine LOps.detP (Det.assign rfl) (Nat.le_of_ble_eq_true rfl) ?_
      refine LOps.nil ?_
      refine LCode.region ?_
      refine LOps.detP (Det.move rfl) (Nat.le_of_ble_eq_true rfl) ?_
      refine LOps.detP (Det.bin rfl rfl (br_shr32 (b := 1) (by omega))) (Nat.le_of_ble_eq_true rfl) ?_
      refine LOps.detP (Det.assign rfl) (Nat.le_of_ble_eq_true rfl) ?_
      refine LOps.nil ?_
      have hh := blen_half (x := x.1) (by omega)
      refine ⟨(x.1 / 2, x.2 + 1), ⟨by dsimp only; omega, by dsimp only; omega, hx3⟩, by dsimp only; omega, Sub.mk ⟨rfl, rfl, trivial⟩ (by repeat (first | exact Sel.nil _ | refine Sel.cons (by repeat (first | exact Pick.head _ | apply Pick.tail)) ?_))⟩
    ·
      have h19 : ¬ 0 < x.1 := by have := h19; simpa using this
      refine LCode.exit ?_
      refine LCode.seq ?_
      refine LCode.region ?_
      refine LOps.detP (Det.move rfl) (Nat.le_of_ble_eq_true rfl) ?_
      refine LOps.detP (Det.assign rfl) (Nat.le_of_ble_eq_true rfl) ?_
      refine LOps.nil ?_
      refine LCode.ret ?_
      have h0 : x.1 = 0 := by omega
      rw [h0, blen_zero, Nat.add_zero] at hx2
      refine ⟨[_], .cons rfl .nil, fun a w' hr => ⟨?_, hr.fr.below⟩⟩
      rw [← hx2]; rfl

theorem D.bit_of (A i : Nat) : D.limb A (i / 32) / 2 ^ (i % 32) % 2 = A / 2 ^ i % 2 := by
  have h1 : A / 2 ^ i = A / 2 ^ (32 * (i / 32)) / 2 ^ (i % 32) := by
    rw [Nat.div_div_eq_div_mul, ← Nat.pow_add]; congr 2; omega
  rw [h1]
  unfold D.limb
  generalize A / 2 ^ (32 * (i / 32)) = q
  have hr : i % 32 < 32 := Nat.mod_lt _ (by decide)
  generalize i % 32 = r at *
  have e : (4294967296 : Nat) = 2 ^ r * (2 ^ (31 - r) * 2) := by
    rw [← Nat.pow_succ, ← Nat.pow_add, show r + (31 - r).succ = 32 by omega]
  rw [e, Nat.mod_mul_right_div_self, Nat.mod_mul_left_mod]
theorem and1 (x : Nat) : x &&& 1 = x % 2 := Nat.and_two_pow_sub_one_eq_mod x 1
theorem and255 (x : Nat) : x &&& 255 = x % 256 := Nat.and_two_pow_sub_one_eq_mod x 8
theorem shift_dig {A k i : Nat} : D.limb (A / 2 ^ k) i = (D.limb A (i + k / 32) ||| D.limb A (i + k / 32 + 1) * 4294967296 % 18446744073709551616) / 2 ^ (k % 32) % 4294967296 := by
  have h := D.limb_shr A (k / 32) (k % 32) i (Nat.mod_lt _ (by decide))
  rw [show 32 * (k / 32) + k % 32 = k by omega] at h
  rw [h, or_digits (D.limb_lt _ _) (D.limb_lt _ _)]
  have h1 := D.limb_lt A (i + k / 32)
  have h2 := D.limb_lt A (i + k / 32 + 1)
  have hr : k % 32 < 32 := Nat.mod_lt _ (by decide)
  generalize D.limb A (i + k / 32) = a at *
  generalize D.limb A (i + k / 32 + 1) = b at *
  generalize k % 32 = r at *
  have e : (4294967296 : Nat) = 2 ^ (32 - r) * 2 ^ r := by rw [← Nat.pow_add, show 32 - r + r = 32 by omega]
  have hp : 0 < 2 ^ r := Nat.pow_pos (by decide)
  have e2 : (a + 4294967296 * b) / 2 ^ r = a / 2 ^ r + b * 2 ^ (32 - r) := by
    rw [show a + 4294967296 * b = a + b * 2 ^ (32 - r) * 2 ^ r by rw [e, Nat.mul_comm _ b, Nat.mul_assoc], Nat.add_mul_div_right _ _ hp]
  rw [e2]
  have h3 : a / 2 ^ r < 2 ^ (32 - r) := by rw [Nat.div_lt_iff_lt_mul hp, ← e]; exact h1
  have h4 : b * 2 ^ (32 - r) % 4294967296 = b % 2 ^ r * 2 ^ (32 - r) := by
    rw [e, Nat.mul_comm (2 ^ (32 - r)), Nat.mul_mod_mul_right]
  have h5 : b % 2 ^ r + 1 ≤ 2 ^ r := Nat.mod_lt _ hp
  have h6 := Nat.mul_le_mul_right (2 ^ (32 - r)) h5
  rw [Nat.add_mul, Nat.mul_comm (2 ^ r), ← e, Nat.one_mul] at h6
  have h7 : a / 2 ^ r + b * 2 ^ (32 - r) % 4294967296 < 4294967296 := by
    rw [h4]; exact Nat.lt_of_lt_of_le (Nat.add_lt_add_right h3 _) (by rw [Nat.add_comm]; exact h6)
  rw [Nat.add_mod (a / 2 ^ r), Nat.mod_eq_of_lt (show a / 2 ^ r < 4294967296 by have := Nat.div_le_self a (2 ^ r); omega), Nat.mod_eq_of_lt h7]

theorem c_n_Bit (q : NV) (A n i : Nat) (w : World) (hq : (numI q A n).holds w) (hi : i < 9223372036854775808) : Calls Try.prog 69 ([slV q n, .int .i64 ((i : Nat) : Int)] : List Value).toArray w (fun e w' => e = .returned (.int .i64 ((A / 2 ^ i % 2 : Nat) : Int)) ∧ Below w.heap.size w w') := by
  refine calls_ro (N := 14) (rs := [.tmp 4]) [numI q A n] Try.func69 rfl Try.ntmps69 Try.results69 (Nat.le_of_ble_eq_true rfl) ⟨hq, trivial⟩ rfl ?_
  show LCode _ _ _ ⟨_, _⟩ _
  refine LCode.seq ?_
  refine LCode.region ?_
  refine LOps.detP (Det.assign (v := .int .i64 ((0 : Nat) : Int)) rfl) (Nat.le_of_ble_eq_true rfl) ?_
  refine LOps.nil ?_
  refine LCode.seq ?_
  refine LCode.region ?_
  refine LOps.detP (Det.move rfl) (Nat.le_of_ble_eq_true rfl) ?_
  refine LOps.detP (Det.move rfl) (Nat.le_of_ble_eq_true rfl) ?_
  refine LOps.detP (Det.bin rfl rfl (br_quo (b := 32) (by omega) (by omega))) (Nat.le_of_ble_eq_true rfl) ?_
  refine LOps.step rfl (LStep.w (LStep.callF (first := []) rfl en_118 rfl (Nat.le_of_ble_eq_true rfl) (fun w hw => c_n_digit q A n (i / 32) w (hw _ (by repeat (first | exact List.Mem.head _ | apply List.Mem.tail)))) ?_))
  refine LOps.detP (Det.move rfl) (Nat.le_of_ble_eq_true rfl) ?_
  refine LOps.detP (Det.bin rfl rfl (br_rem (b := 32) (by omega))) (Nat.le_of_ble_eq_true rfl) ?_
  refine LOps.detP (Det.bin rfl rfl (br_shr64 (Nat.lt_trans (D.limb_lt _ _) (by decide)))) (Nat.le_of_ble_eq_true rfl) ?_
  refine LOps.detP (Det.bin rfl rfl (br_and64 (b := 1) (Nat.lt_of_le_of_lt (Nat.div_le_self _ _) (Nat.lt_trans (D.limb_lt _ _) (by decide))) (by decide))) (Nat.le_of_ble_eq_true rfl) ?_
  refine LOps.detP (Det.convi Try.underlying22 Try.underlying3 rfl (by rw [and1]; omega)) (Nat.le_of_ble_eq_true rfl) ?_
  refine LOps.detP (Det.assign rfl) (Nat.le_of_ble_eq_true rfl) ?_
  refine LOps.nil ?_
  refine LCode.ret ?_
  refine ⟨[_], .cons rfl .nil, fun a w' hr => ⟨?_, hr.fr.below⟩⟩
  rw [and1, D.bit_of]; rfl

theorem c_n_Shr (q : NV) (A n k : Nat) (w : World) (hq : (numI q A n).holds w) (hn : n ≤ 1000000) (hk : k < 4294967296) : Calls Try.prog 145 ([slV q n, .int .i64 ((k : Nat) : Int)] : List Value).toArray w (fun e w' => NumR w ([]) (A / 2 ^ k) (fun v => v) e w') := by
  have hA := numI_lt hq
  refine calls_ro (N := 51) (rs := [.tmp 4]) [numI q A n] Try.func145 rfl Try.ntmps145 Try.results145 (Nat.le_of_ble_eq_true rfl) ⟨hq, trivial⟩ rfl ?_
  show LCode _ _ _ ⟨_, _⟩ _
  refine LCode.seq ?_
  refine LCode.region ?_
  refine LOps.detP (Det.assign rfl) (Nat.le_of_ble_eq_true rfl) ?_
  refine LOps.nil ?_
  refine LCode.seq ?_
  refine LCode.seq ?_
  refine LCode.region ?_
  refine LOps.detP (Det.move rfl) (Nat.le_of_ble_eq_true rfl) ?_
  refine LOps.detP (Det.bin rfl rfl (br_quo (b := 32) (by omega) (by omega))) (Nat.le_of_ble_eq_true rfl) ?_
  refine LOps.detP (Det.move rfl) (Nat.le_of_ble_eq_true rfl) ?_
  refine LOps.detP (Det.len Try.underlying29 rfl) (Nat.le_of_ble_eq_true rfl) ?_
  refine LOps.detP (Det.bin rfl rfl (br_geq)) (Nat.le_of_ble_eq_true rfl) ?_
  refine LOps.nil ?_
  first | refine LCode.condD rfl (fun h12 => ?_) (fun h12 => ?_) | refine LCode.cond rfl (fun h12 => ?_) (fun h12 => ?_)
  ·
    have h12 : n ≤ k / 32 := by have := h12; omega
    refine LCode.seq ?_
    refine LCode.region ?_
    refine LOps.detP (Det.assign rfl) (Nat.le_of_ble_eq_true rfl) ?_
    refine LOps.nil ?_
    refine LCode.ret ?_
    have hz : A / 2 ^ k = 0 := Nat.div_eq_of_lt (Nat.lt_of_lt_of_le hA (Nat.pow_le_pow_right (by decide) (by omega)))
    rw [hz]
    refine ⟨[_], .cons rfl .nil, fun a w' hr => hr.numNil⟩
  ·
    have h12 : ¬ n ≤ k / 32 := by have := h12; omega
    refine LCode.skip ?_
    refine LCode.seq ?_
    have hAk : A / 2 ^ k < 2 ^ (32 * (n - k / 32)) := by
      rw [Nat.div_lt_iff_lt_mul (Nat.pow_pos (by decide)), ← Nat.pow_add]
      exact Nat.lt_of_lt_of_le hA (Nat.pow_le_pow_right (by decide) (by omega))
    refine LCode.region ?_
    refine LOps.detP (Det.move rfl) (Nat.le_of_ble_eq_true rfl) ?_
    refine LOps.detP (Det.len Try.underlying29 rfl) (Nat.le_of_ble_eq_true rfl) ?_
    refine LOps.detP (Det.move rfl) (Nat.le_of_ble_eq_true rfl) ?_
    refine LOps.detP (Det.bin rfl rfl (br_quo (b := 32) (by omega) (by omega))) (Nat.le_of_ble_eq_true rfl) ?_
    refine LOps.detP (Det.bin rfl rfl (br_sub (by omega) (by omega))) (Nat.le_of_ble_eq_true rfl) ?_
    refine LOps.step rfl (LStep.w (LStep.makes (Makes.mkV Try.underlying29 inf_56 rfl rfl (by omega) (by omega)) (Nat.le_of_ble_eq_true rfl) (fun b18 => ?_)))
    refine LOps.detP (Det.assign rfl) (Nat.le_of_ble_eq_true rfl) ?_
    refine LOps.nil ?_
    refine LCode.seq ?_
    refine LCode.seq ?_
    refine LCode.region ?_
    refine LOps.detP (Det.assign (v := .int .i64 ((0 : Nat) : Int)) rfl) (Nat.le_of_ble_eq_true rfl) ?_
    refine LOps.nil ?_
    refine LCode.block ?_
    refine LCode.loop (α := Nat) (fun x => x ≤ n - k / 32) (fun x => ⟨[(0, slV q n), (1, .int .i64 ((k : Nat) : Int)), (5, .slice (some ⟨b18, 0, none⟩) (n - k / 32) (n - k / 32)), (6, .int .i64 ((x : Nat) : Int))], [.blk b18 ⟨true, vec .u32 (n - k / 32) (fun j => if j < x then D.limb (A / 2 ^ k) j else 0), 56, (0, 0)⟩, numI q A n]⟩) (fun x => n - k / 32 - x) (0) (Nat.zero_le _) (Sub.mk ⟨rfl, rfl, rfl, rfl, trivial⟩ (by repeat (first | exact Sel.nil _ | refine Sel.cons (by repeat (first | exact Pick.head _ | apply Pick.tail)) ?_))) ?_
    intro x hx
    refine LCode.seq ?_
    refine LCode.seq ?_
    refine LCode.region ?_
    refine LOps.detP (Det.move rfl) (Nat.le_of_ble_eq_true rfl) ?_
    refine LOps.detP (Det.move rfl) (Nat.le_of_ble_eq_true rfl) ?_
    refine LOps.detP (Det.len Try.underlying29 rfl) (Nat.le_of_ble_eq_true rfl) ?_
    refine LOps.detP (Det.bin rfl rfl (br_lss)) (Nat.le_of_ble_eq_true rfl) ?_
    refine LOps.nil ?_
    first | refine LCode.condD rfl (fun h22 => ?_) (fun h22 => ?_) | refine LCode.cond rfl (fun h22 => ?_) (fun h22 => ?_)
    ·
      refine LCode.skip ?_
      refine LCode.seq ?_
      refine LCode.block ?_
      refine LCode.seq ?_
      refine LCode.region ?_
      refine LOps.detP (Det.move rfl) (Nat.le_of_ble_eq_true rfl) ?_
      refine LOps.detP (Det.move rfl) (Nat.le_of_ble_eq_true rfl) ?_
      refine LOps.detP (Det.move rfl) (Nat.le_of_ble_eq_true rfl) ?_
      refine LOps.detP (Det.bin rfl rfl (br_quo (b := 32) (by omega) (by omega))) (Nat.le_of_ble_eq_true rfl) ?_
      refine LOps.detP (Det.bin rfl rfl (br_add (by omega))) (Nat.le_of_ble_eq_true rfl) ?_
      refine LOps.step rfl (LStep.w (LStep.callF (first := []) rfl en_118 rfl (Nat.le_of_ble_eq_true rfl) (fun w hw => c_n_digit q A n (x + k / 32) w (hw _ (by repeat (first | exact List.Mem.head _ | apply List.Mem.tail)))) ?_))
      refine LOps.detP (Det.move rfl) (Nat.le_of_ble_eq_true rfl) ?_
      refine LOps.detP (Det.move rfl) (Nat.le_of_ble_eq_true rfl) ?_
      refine LOps.detP (Det.move rfl) (Nat.le_of_ble_eq_true rfl) ?_
      refine LOps.detP (Det.bin rfl rfl (br_quo (b := 32) (by omega) (by omega))) (Nat.le_of_ble_eq_true rfl) ?_
      refine LOps.detP (Det.bin rfl rfl (br_add (by omega))) (Nat.le_of_ble_eq_true rfl) ?_
      refine LOps.detP (Det.bin rfl rfl (br_add (b := 1) (by omega))) (Nat.le_of_ble_eq_true rfl) ?_
      refine LOps.step rfl (LStep.w (LStep.callF (first := []) rfl en_118 rfl (Nat.le_of_ble_eq_true rfl) (fun w hw => c_n_digit q A n (x + k / 32 + 1) w (hw _ (by repeat (first | exact List.Mem.head _ | apply List.Mem.tail)))) ?_))
      refine LOps.detP (Det.bin rfl rfl (br_shl64 (b := 32))) (Nat.le_of_ble_eq_true rfl) ?_
      refine LOps.detP (Det.bin rfl rfl (br_or64 (Nat.lt_trans (D.limb_lt _ _) (by decide)) (Nat.mod_lt _ (by decide)))) (Nat.le_of_ble_eq_true rfl) ?_
      refine LOps.detP (Det.assign rfl) (Nat.le_of_ble_eq_true rfl) ?_
      refine LOps.nil ?_
      refine LCode.region ?_
      refine LOps.detP (Det.move rfl) (Nat.le_of_ble_eq_true rfl) ?_
      refine LOps.detP (Det.move rfl) (Nat.le_of_ble_eq_true rfl) ?_
      refine LOps.detP (Det.move rfl) (Nat.le_of_ble_eq_true rfl) ?_
      refine LOps.detP (Det.move rfl) (Nat.le_of_ble_eq_true rfl) ?_
      refine LOps.detP (Det.bin rfl rfl (br_rem (b := 32) (by omega))) (Nat.le_of_ble_eq_true rfl) ?_
      refine LOps.detP (Det.bin rfl rfl (br_shr64 (Nat.or_lt_two_pow (n := 64) (Nat.lt_trans (D.limb_lt _ _) (by decide)) (Nat.mod_lt _ (by decide))))) (Nat.le_of_ble_eq_true rfl) ?_
      refine LOps.detP (Det.bin rfl rfl (br_and64 (b := 4294967295) (Nat.lt_of_le_of_lt (Nat.div_le_self _ _) (Nat.or_lt_two_pow (n := 64) (Nat.lt_trans (D.limb_lt _ _) (by decide)) (Nat.mod_lt _ (by decide)))) (by decide))) (Nat.le_of_ble_eq_true rfl) ?_
      refine LOps.detP (Det.conv32 Try.underlying22 Try.underlying56 rfl) (Nat.le_of_ble_eq_true rfl) ?_
      refine LOps.detP (Det.indexS0 Try.underlying29 sz_56 rfl rfl (by omega)) (Nat.le_of_ble_eq_true rfl) ?_
      refine LOps.step rfl (LStepW.store1 rfl rfl rfl sz_56 (by repeat (first | exact SetAt.head _ | apply SetAt.tail)) (by first | (simp only [vec_length, natL_length, wideL_length, dv_length]; omega) | (simp; omega)) (by first | exact vec_set _ _ _ _ _ | exact dv_setm _ _ _ _ (by omega) | exact dv_sets _ _ _ _ | rfl) (by simp) ?_)
      refine LOps.nil ?_
      refine LCode.region ?_
      refine LOps.detP (Det.move rfl) (Nat.le_of_ble_eq_true rfl) ?_
      refine LOps.detP (Det.bin rfl rfl (br_add (b := 1) (by omega))) (Nat.le_of_ble_eq_true rfl) ?_
      refine LOps.detP (Det.assign rfl) (Nat.le_of_ble_eq_true rfl) ?_
      refine LOps.nil ?_
      refine ⟨x + 1, by omega, by omega, Sub.re (Sub.cells (b := b18) (cs' := vec .u32 (n - k / 32) (fun j => if j < x + 1 then D.limb (A / 2 ^ k) j else 0)) (by repeat (first | exact SetAt.head _ | apply SetAt.tail)) (vec_congr fun j hj => ?_)) (Sub.mk ⟨rfl, rfl, rfl, rfl, trivial⟩ (by repeat (first | exact Sel.nil _ | refine Sel.cons (by repeat (first | exact Pick.head _ | apply Pick.tail)) ?_)))⟩
      by_cases e : j = x
      · rw [if_pos e, if_pos (by omega), e, and32, Nat.mod_mod]
        exact shift_dig.symm
      · rw [if_neg e]
        by_cases e3 : j < x
        · rw [if_pos e3, if_pos (by omega)]
        · rw [if_neg e3, if_neg (by omega)]
    ·
      refine LCode.exit ?_
      refine LCode.seq ?_
      obtain rfl : x = n - k / 32 := by omega
      refine LCode.sub (Sub.cells (b := b18) (cs' := vec .u32 (n - k / 32) (D.limb (A / 2 ^ k))) (by repeat (first | exact SetAt.head _ | apply SetAt.tail)) (vec_congr fun j hj => if_pos hj)) ?_
      refine LCode.region ?_
      refine LOps.detP (Det.move rfl) (Nat.le_of_ble_eq_true rfl) ?_
      refine LOps.step rfl (LStep.w (LStep.callF (first := []) rfl en_120 rfl (Nat.le_of_ble_eq_true rfl) (fun w hw => c_trim (A / 2 ^ k) b18 (n - k / 32) (n - k / 32) (n - k / 32) _ true w (hw _ (by repeat (first | exact List.Mem.head _ | apply List.Mem.tail))) (Nat.le_refl _) (Nat.le_refl _) (by omega) hAk) ?_))
      refine LOps.detP (Det.assign rfl) (Nat.le_of_ble_eq_true rfl) ?_
      refine LOps.nil ?_
      refine LCode.ret ?_
      refine ⟨[_], .cons rfl .nil, fun a w' hr => hr.num (by repeat (first | exact List.Mem.head _ | apply List.Mem.tail)) (hAk)⟩

end Go.Proofs.Ytljblbgogjieaaa
