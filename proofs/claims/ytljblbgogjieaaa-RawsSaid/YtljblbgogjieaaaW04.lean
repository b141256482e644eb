/- Walks: what functions of the program come to, step by step. -/
import Derived.Test.YtljblbgogjieaaaW03
set_option linter.unusedVariables false
set_option linter.unusedSimpArgs false
set_option maxRecDepth 20000
namespace Go.Proofs.Ytljblbgogjieaaa
open Go Go.RowKit

theorem drop_step {l : List UInt8} {x : Nat} (h : x < l.length) : l.drop (l.length - (x + 1)) = l.getD (l.length - 1 - x) 0 :: l.drop (l.length - x) := by
  rw [show l.length - x = l.length - (x + 1) + 1 by omega, List.drop_eq_getElem_cons (by omega)]
  congr 1
  rw [List.getD_eq_getElem?_getD, List.getElem?_eq_getElem (by omega)]
  simp only [Option.getD_some]
  congr 1
  omega
theorem beVal_step {l : List UInt8} {x : Nat} (h : x < l.length) : beVal (l.drop (l.length - (x + 1))) = (l.getD (l.length - 1 - x) 0).toNat * 256 ^ x + beVal (l.drop (l.length - x)) := by
  rw [drop_step h, beVal, List.length_drop, show l.length - (l.length - x) = x by omega]
theorem beVal_drop (l : List UInt8) (x : Nat) (h : x ≤ l.length) : beVal (l.drop (l.length - x)) < 256 ^ x := by
  have := beVal_lt (l.drop (l.length - x))
  rwa [List.length_drop, show l.length - (l.length - x) = x by omega] at this
theorem size_list (s : ByteArray) : s.data.toList.length = s.size := rfl
theorem pow256_w9 {n : Nat} (h : n ≤ 72) : 256 ^ n ≤ W9 := by
  obtain ⟨j, hj⟩ : ∃ j : Nat, j = 9 := ⟨9, rfl⟩
  rw [← w9 hj, pow256]
  exact Nat.pow_le_pow_right (by decide) (by omega)
theorem beVal_w9 {l : List UInt8} (h : l.length ≤ 72) : beVal l < W9 := Nat.lt_of_lt_of_le (beVal_lt l) (pow256_w9 h)

theorem c_nat_Of (s : ByteArray) (hs : s.size < 9223372036854775808) (w : World)  : Calls Try.prog 116 ([.string s] : List Value).toArray w (fun e w' => e = .returned (if 72 < s.size then .tuple #[natV 0, .int .i64 ((100 : Nat) : Int)] else .tuple #[natV (beVal s.data.toList), .int .i64 ((0 : Nat) : Int)]) ∧ Below w.heap.size w w') := by
  refine calls_ro (N := 39) (rs := [.cell 2 25, .tmp 3]) [] Try.func116 rfl Try.ntmps116 Try.results116 (Nat.le_of_ble_eq_true rfl) trivial rfl ?_
  show LCode _ _ _ ⟨_, _⟩ _
  refine LCode.seq ?_
  refine LCode.region ?_
  refine LOps.step rfl (LStep.w (LStep.makes (Makes.allocA zr_25) (Nat.le_of_ble_eq_true rfl) (fun b2 => ?_)))
  refine LOps.detP (Det.assign (v := .int .i64 ((0 : Nat) : Int)) rfl) (Nat.le_of_ble_eq_true rfl) ?_
  refine LOps.nil ?_
  refine LCode.seq ?_
  refine LCode.seq ?_
  have hsz : s.size < 9223372036854775808 := by omega
  refine LCode.region ?_
  refine LOps.detP (Det.move rfl) (Nat.le_of_ble_eq_true rfl) ?_
  refine LOps.detP (Det.lens Try.underlying9 rfl) (Nat.le_of_ble_eq_true rfl) ?_
  refine LOps.detP (Det.bin rfl rfl (br_gtr (b := 72))) (Nat.le_of_ble_eq_true rfl) ?_
  refine LOps.nil ?_
  first | refine LCode.condD rfl (fun h9 => ?_) (fun h9 => ?_) | refine LCode.cond rfl (fun h9 => ?_) (fun h9 => ?_)
  ·
    have h9 : 72 < s.size := h9
    refine LCode.seq ?_
    refine LCode.region ?_
    refine LOps.detP (Det.build pl_25 zr_25 rfl rfl) (Nat.le_of_ble_eq_true rfl) ?_
    refine LOps.step rfl (LStepW.storeA rfl rfl sz_25 (by repeat (first | exact natL_one _ | exact vec_one _ _ _ | exact wideL_one _ | exact ptL_one _ _ _ | exact pjL_one _ _ _ | exact allOne_nil | refine allOne_cons rfl ?_ | refine allOne_append ?_ ?_)) (by repeat (first | exact SetAt.head _ | apply SetAt.tail)) (by first | exact natL_length _ | exact vec_length _ _ _ | exact wideL_length _ | exact ptL_length _ _ _ | exact pjL_length _ _ _ | rfl | simp [vec_length, natL_length, wideL_length]) ?_)
    refine LOps.detP (Det.assign (v := .int .i64 ((100 : Nat) : Int)) rfl) (Nat.le_of_ble_eq_true rfl) ?_
    refine LOps.nil ?_
    refine LCode.ret ?_
    refine ⟨[_, _], .cons ⟨_, _, _, rfl, (by repeat (first | exact List.Mem.head _ | apply List.Mem.tail)), by exact LoadV.whole Try.underlying25 rfl sz_25⟩ (.cons rfl .nil), fun a w' hr => ⟨?_, hr.fr.below⟩⟩
    rw [if_pos h9]
    refine congrArg (fun l : List Value => Ending.returned (.tuple #[.agg l.toArray, _])) ?_
    exact vec_zeros 9
  ·
    have h9 : ¬ 72 < s.size := h9
    refine LCode.skip ?_
    refine LCode.seq ?_
    refine LCode.region ?_
    refine LOps.step rfl (LStep.w (LStep.makes (Makes.allocA zr_25) (Nat.le_of_ble_eq_true rfl) (fun b4 => ?_)))
    refine LOps.nil ?_
    refine LCode.seq ?_
    refine LCode.seq ?_
    refine LCode.region ?_
    refine LOps.detP (Det.move rfl) (Nat.le_of_ble_eq_true rfl) ?_
    refine LOps.detP (Det.lens Try.underlying9 rfl) (Nat.le_of_ble_eq_true rfl) ?_
    refine LOps.detP (Det.move (v := .int .i64 ((0 : Nat) : Int)) rfl) (Nat.le_of_ble_eq_true rfl) ?_
    refine LOps.nil ?_
    refine LCode.block ?_
    refine LCode.loop (α := Nat) (fun x => x ≤ s.size) (fun x => ⟨[(0, .string s), (2, .pointer (some ⟨b2, 0, none⟩)), (4, .pointer (some ⟨b4, 0, none⟩)), (12, .int .i64 ((s.size : Nat) : Int)), (13, .int .i64 ((x : Nat) : Int))], [.blk b4 ⟨true, natL (beVal (s.data.toList.drop (s.size - x))), 25, (0, 0)⟩, .blk b2 ⟨true, vec .u64 9 (fun _ => 0), 25, (0, 0)⟩]⟩) (fun x => s.size - x) (0) (Nat.zero_le _) (Sub.re (Sub.cells (b := b4) (cs' := natL (beVal (s.data.toList.drop (s.size - 0)))) (by repeat (first | exact SetAt.head _ | apply SetAt.tail)) (by rw [Nat.sub_zero, ← size_list, List.drop_length]; exact vec_zeros 9)) (Sub.mk ⟨rfl, rfl, rfl, rfl, rfl, trivial⟩ (by repeat (first | exact Sel.nil _ | refine Sel.cons (by repeat (first | exact Pick.head _ | apply Pick.tail)) ?_)))) ?_
    intro x hx
    refine LCode.seq ?_
    refine LCode.region ?_
    refine LOps.detP (Det.bin rfl rfl (br_lss)) (Nat.le_of_ble_eq_true rfl) ?_
    refine LOps.nil ?_
    refine LCode.seq ?_
    first | refine LCode.condD rfl (fun h14 => ?_) (fun h14 => ?_) | refine LCode.cond rfl (fun h14 => ?_) (fun h14 => ?_)
    ·
      have h14 : x < s.size := h14
      refine LCode.skip ?_
      refine LCode.seq ?_
      refine LCode.block ?_
      refine LCode.seq ?_
      refine LCode.region ?_
      refine LOps.detP (Det.move rfl) (Nat.le_of_ble_eq_true rfl) ?_
      refine LOps.detP (Det.assign rfl) (Nat.le_of_ble_eq_true rfl) ?_
      refine LOps.nil ?_
      refine LCode.seq ?_
      refine LCode.region ?_
      refine LOps.detP (Det.move rfl) (Nat.le_of_ble_eq_true rfl) ?_
      refine LOps.detP (Det.lens Try.underlying9 rfl) (Nat.le_of_ble_eq_true rfl) ?_
      refine LOps.detP (Det.bin rfl rfl (br_sub (b := 1) (by omega) (by omega))) (Nat.le_of_ble_eq_true rfl) ?_
      refine LOps.detP (Det.move rfl) (Nat.le_of_ble_eq_true rfl) ?_
      refine LOps.detP (Det.bin rfl rfl (br_sub (by omega) (by omega))) (Nat.le_of_ble_eq_true rfl) ?_
      refine LOps.detP (Det.assign rfl) (Nat.le_of_ble_eq_true rfl) ?_
      refine LOps.nil ?_
      refine LCode.regionD [16] (by kernel_rfl) ?_
      refine LAny.takeP 0 rfl (by kernel_rfl) (Nat.le_of_ble_eq_true rfl) (Det.move rfl) ?_
      refine LAny.takeP 1 rfl (by kernel_rfl) (Nat.le_of_ble_eq_true rfl) (Det.bin rfl rfl (br_quo (b := 8) (by omega) (by omega))) ?_
      refine LAny.takeP 2 rfl (by kernel_rfl) (Nat.le_of_ble_eq_true rfl) (Det.fieldA (o' := 0) Try.underlying25 rfl rfl rfl sz_23 (by decide)) ?_
      refine LAny.takeP 3 rfl (by kernel_rfl) (Nat.le_of_ble_eq_true rfl) (Det.indexA0 Try.underlying23 sz_22 rfl rfl (by omega)) ?_
      refine LAny.take 4 rfl (by kernel_rfl) (Nat.le_of_ble_eq_true rfl) (Det.load rfl (by repeat (first | exact List.Mem.head _ | apply List.Mem.tail)) (LoadV.one Try.underlying22 rfl (by exact natL_get _ (show x / 8 < 9 by omega)))) ?_
      refine LAny.takeP 5 rfl (by kernel_rfl) (Nat.le_of_ble_eq_true rfl) (Det.move rfl) ?_
      refine LAny.takeP 6 rfl (by kernel_rfl) (Nat.le_of_ble_eq_true rfl) (Det.move rfl) ?_
      refine LAny.takeP 7 rfl (by kernel_rfl) (Nat.le_of_ble_eq_true rfl) (Slots.cast (Det.indexStr Try.underlying9 rfl rfl (by omega) (by omega)) (vi (b := (s.data.toList.getD (s.size - 1 - x) 0).toNat) (by rw [Int.toNat_natCast]))) ?_
      refine LAny.takeP 8 rfl (by kernel_rfl) (Nat.le_of_ble_eq_true rfl) (Det.conv64 Try.underlying5 Try.underlying22 rfl (Nat.lt_trans (UInt8.toNat_lt _) (by decide))) ?_
      refine LAny.takeP 9 rfl (by kernel_rfl) (Nat.le_of_ble_eq_true rfl) (Det.move rfl) ?_
      refine LAny.takeP 10 rfl (by kernel_rfl) (Nat.le_of_ble_eq_true rfl) (Det.bin rfl rfl (br_rem (b := 8) (by omega))) ?_
      refine LAny.takeP 11 rfl (by kernel_rfl) (Nat.le_of_ble_eq_true rfl) (Det.bin rfl rfl (br_mul (a := 8) (by omega))) ?_
      refine LAny.takeP 12 rfl (by kernel_rfl) (Nat.le_of_ble_eq_true rfl) (Det.bin rfl rfl (br_shl64)) ?_
      refine LAny.takeP 13 rfl (by kernel_rfl) (Nat.le_of_ble_eq_true rfl) (Det.bin rfl rfl (br_or64 (limb_lt _ _) (Nat.mod_lt _ (by decide)))) ?_
      refine LAny.takeP 14 rfl (by kernel_rfl) (Nat.le_of_ble_eq_true rfl) (Det.fieldA (o' := 0) Try.underlying25 rfl rfl rfl sz_23 (by decide)) ?_
      refine LAny.takeP 15 rfl (by kernel_rfl) (Nat.le_of_ble_eq_true rfl) (Det.indexA0 Try.underlying23 sz_22 rfl rfl (by omega)) ?_
      refine LAny.late 16 rfl rfl (by kernel_rfl) (by kernel_rfl) (LStepW.store1 rfl rfl rfl sz_22 (by repeat (first | exact SetAt.head _ | apply SetAt.tail)) (by first | (simp only [vec_length, natL_length, wideL_length, dv_length]; omega) | (simp; omega)) (by first | exact vec_set _ _ _ _ _ | exact dv_setm _ _ _ _ (by omega) | exact dv_sets _ _ _ _ | rfl) (by simp) ?_)
      refine LAny.done (by kernel_rfl) ?_
      refine LCode.region ?_
      refine LOps.detP (Det.bin rfl rfl (br_add (b := 1) (by omega))) (Nat.le_of_ble_eq_true rfl) ?_
      refine LOps.detP (Det.move rfl) (Nat.le_of_ble_eq_true rfl) ?_
      refine LOps.nil ?_
      have hb := limb_byte (i := x) (beVal_drop s.data.toList x hx) (UInt8.toNat_lt (s.data.toList.getD (s.data.toList.length - 1 - x) 0))
      refine ⟨x + 1, by omega, by omega, Sub.re (Sub.cells (b := b4) (cs' := natL (beVal (s.data.toList.drop (s.size - (x + 1))))) (by repeat (first | exact SetAt.head _ | apply SetAt.tail)) ?_) (Sub.mk ⟨rfl, rfl, rfl, rfl, rfl, trivial⟩ (by repeat (first | exact Sel.nil _ | refine Sel.cons (by repeat (first | exact Pick.head _ | apply Pick.tail)) ?_)))⟩
      have hs := beVal_step (l := s.data.toList) (x := x) h14
      rw [size_list] at hs hb
      rw [hs]
      exact vec_congr fun j _ => (hb.2 j).symm
    ·
      have h14 : ¬ x < s.size := h14
      refine LCode.exit ?_
      refine LCode.seq ?_
      refine LCode.region ?_
      refine LOps.det (Det.load rfl (by repeat (first | exact List.Mem.head _ | apply List.Mem.tail)) (by exact LoadV.whole Try.underlying25 rfl sz_25)) (Nat.le_of_ble_eq_true rfl) ?_
      refine LOps.step rfl (LStepW.storeA rfl rfl sz_25 (by repeat (first | exact natL_one _ | exact vec_one _ _ _ | exact wideL_one _ | exact ptL_one _ _ _ | exact pjL_one _ _ _ | exact allOne_nil | refine allOne_cons rfl ?_ | refine allOne_append ?_ ?_)) (by repeat (first | exact SetAt.head _ | apply SetAt.tail)) (by first | exact natL_length _ | exact vec_length _ _ _ | exact wideL_length _ | exact ptL_length _ _ _ | exact pjL_length _ _ _ | rfl | simp [vec_length, natL_length, wideL_length]) ?_)
      refine LOps.detP (Det.assign (v := .int .i64 ((0 : Nat) : Int)) rfl) (Nat.le_of_ble_eq_true rfl) ?_
      refine LOps.nil ?_
      refine LCode.ret ?_
      have hx9 : x = s.size := by omega
      subst hx9
      refine ⟨[_, _], .cons ⟨_, _, _, rfl, (by repeat (first | exact List.Mem.head _ | apply List.Mem.tail)), by exact LoadV.whole Try.underlying25 rfl sz_25⟩ (.cons rfl .nil), fun a w' hr => ⟨?_, hr.fr.below⟩⟩
      rw [if_neg h9, Nat.sub_self, List.drop_zero]
      rfl

theorem c_nat_Bytes (A n : Nat) (hA : A < W9) (hn : n ≤ 72) (w : World)  : Calls Try.prog 114 ([natV A, .int .i64 ((n : Nat) : Int)] : List Value).toArray w (fun e w' => e = .returned (if 8 * n < blen A then .tuple #[.string ⟨#[]⟩, .int .i64 ((101 : Nat) : Int)] else .tuple #[.string (strOf (beBytes n A)), .int .i64 ((0 : Nat) : Int)]) ∧ Below w.heap.size w w') := by
  refine calls_ro (N := 47) (rs := [.tmp 4, .tmp 5]) [] Try.func114 rfl Try.ntmps114 Try.results114 (Nat.le_of_ble_eq_true rfl) trivial rfl ?_
  show LCode _ _ _ ⟨_, _⟩ _
  refine LCode.seq ?_
  refine LCode.region ?_
  refine LOps.step rfl (LStep.w (LStep.makes (Makes.boxA rfl) (Nat.le_of_ble_eq_true rfl) (fun b2 => ?_)))
  refine LOps.detP (Det.assign rfl) (Nat.le_of_ble_eq_true rfl) ?_
  refine LOps.detP (Det.assign (v := .int .i64 ((0 : Nat) : Int)) rfl) (Nat.le_of_ble_eq_true rfl) ?_
  refine LOps.nil ?_
  refine LCode.seq ?_
  refine LCode.seq ?_
  refine LCode.region ?_
  refine LOps.detP (Det.move rfl) (Nat.le_of_ble_eq_true rfl) ?_
  refine LOps.detP (Det.bin rfl rfl (br_f (br_lss (b := 0)) (Nat.not_lt_zero _))) (Nat.le_of_ble_eq_true rfl) ?_
  refine LOps.detP (Det.move rfl) (Nat.le_of_ble_eq_true rfl) ?_
  refine LOps.detGP rfl rfl (Det.move rfl) (Nat.le_of_ble_eq_true rfl) ?_
  refine LOps.detGP rfl rfl (Det.bin rfl rfl (br_f (br_gtr (b := 72)) (by omega))) (Nat.le_of_ble_eq_true rfl) ?_
  refine LOps.detP (Det.pick_false rfl rfl) (Nat.le_of_ble_eq_true rfl) ?_
  refine LOps.detP (Det.move rfl) (Nat.le_of_ble_eq_true rfl) ?_
  refine LOps.detG rfl rfl (Det.load rfl (by repeat (first | exact List.Mem.head _ | apply List.Mem.tail)) (by exact LoadV.whole Try.underlying25 rfl sz_25)) (Nat.le_of_ble_eq_true rfl) ?_
  refine LOps.stepG rfl rfl rfl (LStep.w (LStep.callF (first := []) rfl en_151 rfl (Nat.le_of_ble_eq_true rfl) (fun w hw => c_nat_Bits _ (by omega) w) ?_))
  refine LOps.detGP rfl rfl (Det.move rfl) (Nat.le_of_ble_eq_true rfl) ?_
  refine LOps.detGP rfl rfl (Det.bin rfl rfl (br_mul (a := 8) (by omega))) (Nat.le_of_ble_eq_true rfl) ?_
  refine LOps.detGP rfl rfl (Det.bin rfl rfl (br_gtr)) (Nat.le_of_ble_eq_true rfl) ?_
  refine LOps.detP (Det.pick_false rfl rfl) (Nat.le_of_ble_eq_true rfl) ?_
  refine LOps.nil ?_
  first | refine LCode.condD rfl (fun h20 => ?_) (fun h20 => ?_) | refine LCode.cond rfl (fun h20 => ?_) (fun h20 => ?_)
  ·
    have h20 : 8 * n < blen A := h20
    refine LCode.seq ?_
    refine LCode.region ?_
    refine LOps.detP (Det.assign rfl) (Nat.le_of_ble_eq_true rfl) ?_
    refine LOps.detP (Det.assign (v := .int .i64 ((101 : Nat) : Int)) rfl) (Nat.le_of_ble_eq_true rfl) ?_
    refine LOps.nil ?_
    refine LCode.ret ?_
    refine ⟨[_, _], .cons rfl (.cons rfl .nil), fun a w' hr => ⟨?_, hr.fr.below⟩⟩
    rw [if_pos h20]
    rfl
  ·
    have h20 : ¬ 8 * n < blen A := h20
    refine LCode.skip ?_
    refine LCode.seq ?_
    refine LCode.region ?_
    refine LOps.detP (Det.move rfl) (Nat.le_of_ble_eq_true rfl) ?_
    refine LOps.step rfl (LStep.w (LStep.makes (Makes.mkV Try.underlying52 inf_5 rfl rfl (by omega) (by omega)) (Nat.le_of_ble_eq_true rfl) (fun b22 => ?_)))
    refine LOps.detP (Det.assign rfl) (Nat.le_of_ble_eq_true rfl) ?_
    refine LOps.nil ?_
    refine LCode.seq ?_
    refine LCode.seq ?_
    refine LCode.region ?_
    refine LOps.detP (Det.move rfl) (Nat.le_of_ble_eq_true rfl) ?_
    refine LOps.detP (Det.len Try.underlying52 rfl) (Nat.le_of_ble_eq_true rfl) ?_
    refine LOps.detP (Det.move (v := .int .i64 ((0 : Nat) : Int)) rfl) (Nat.le_of_ble_eq_true rfl) ?_
    refine LOps.nil ?_
    refine LCode.block ?_
    refine LCode.loop (α := Nat) (fun x => x ≤ n) (fun x => ⟨[(1, .int .i64 ((n : Nat) : Int)), (2, .pointer (some ⟨b2, 0, none⟩)), (6, .slice (some ⟨b22, 0, none⟩) n n), (24, .int .i64 ((n : Nat) : Int)), (25, .int .i64 ((x : Nat) : Int))], [.blk b22 ⟨true, vec .u8 n (fun j => if n - x ≤ j then A / 256 ^ (n - 1 - j) % 256 else 0), 5, (0, 0)⟩, .blk b2 ⟨true, natL A, 25, (0, 0)⟩]⟩) (fun x => n - x) (0) (Nat.zero_le _) (Sub.re (Sub.cells (b := b22) (cs' := vec .u8 n (fun j => if n - 0 ≤ j then A / 256 ^ (n - 1 - j) % 256 else 0)) (by repeat (first | exact SetAt.head _ | apply SetAt.tail)) (vec_congr fun j hj => by rw [if_neg (by omega)])) (Sub.mk ⟨rfl, rfl, rfl, rfl, rfl, trivial⟩ (by repeat (first | exact Sel.nil _ | refine Sel.cons (by repeat (first | exact Pick.head _ | apply Pick.tail)) ?_)))) ?_
    intro x hx
    refine LCode.seq ?_
    refine LCode.region ?_
    refine LOps.detP (Det.bin rfl rfl (br_lss)) (Nat.le_of_ble_eq_true rfl) ?_
    refine LOps.nil ?_
    refine LCode.seq ?_
    first | refine LCode.condD rfl (fun h26 => ?_) (fun h26 => ?_) | refine LCode.cond rfl (fun h26 => ?_) (fun h26 => ?_)
    ·
      have h26 : x < n := h26
      refine LCode.skip ?_
      refine LCode.seq ?_
      refine LCode.block ?_
      refine LCode.seq ?_
      refine LCode.region ?_
      refine LOps.detP (Det.move rfl) (Nat.le_of_ble_eq_true rfl) ?_
      refine LOps.detP (Det.assign rfl) (Nat.le_of_ble_eq_true rfl) ?_
      refine LOps.nil ?_
      refine LCode.region ?_
      refine LOps.detP (Det.move rfl) (Nat.le_of_ble_eq_true rfl) ?_
      refine LOps.detP (Det.move rfl) (Nat.le_of_ble_eq_true rfl) ?_
      refine LOps.detP (Det.bin rfl rfl (br_sub (b := 1) (by omega) (by omega))) (Nat.le_of_ble_eq_true rfl) ?_
      refine LOps.detP (Det.move rfl) (Nat.le_of_ble_eq_true rfl) ?_
      refine LOps.detP (Det.bin rfl rfl (br_sub (by omega) (by omega))) (Nat.le_of_ble_eq_true rfl) ?_
      refine LOps.detP (Det.move rfl) (Nat.le_of_ble_eq_true rfl) ?_
      refine LOps.detP (Det.bin rfl rfl (br_quo (b := 8) (by omega) (by omega))) (Nat.le_of_ble_eq_true rfl) ?_
      refine LOps.detP (Det.fieldA (o' := 0) Try.underlying25 rfl rfl rfl sz_23 (by decide)) (Nat.le_of_ble_eq_true rfl) ?_
      refine LOps.detP (Det.indexA0 Try.underlying23 sz_22 rfl rfl (by omega)) (Nat.le_of_ble_eq_true rfl) ?_
      refine LOps.det (Det.load rfl (by repeat (first | exact List.Mem.head _ | apply List.Mem.tail)) (LoadV.one Try.underlying22 rfl (by exact natL_get _ (show x / 8 < 9 by omega)))) (Nat.le_of_ble_eq_true rfl) ?_
      refine LOps.detP (Det.move rfl) (Nat.le_of_ble_eq_true rfl) ?_
      refine LOps.detP (Det.bin rfl rfl (br_rem (b := 8) (by omega))) (Nat.le_of_ble_eq_true rfl) ?_
      refine LOps.detP (Det.bin rfl rfl (br_mul (a := 8) (by omega))) (Nat.le_of_ble_eq_true rfl) ?_
      refine LOps.detP (Det.bin rfl rfl (br_shr64 (limb_lt _ _))) (Nat.le_of_ble_eq_true rfl) ?_
      refine LOps.detP (Det.conv8 Try.underlying22 Try.underlying5 rfl) (Nat.le_of_ble_eq_true rfl) ?_
      refine LOps.detP (Det.indexS0 Try.underlying52 sz_5 rfl rfl (by omega)) (Nat.le_of_ble_eq_true rfl) ?_
      refine LOps.step rfl (LStepW.store1 rfl rfl rfl sz_5 (by repeat (first | exact SetAt.head _ | apply SetAt.tail)) (by first | (simp only [vec_length, natL_length, wideL_length, dv_length]; omega) | (simp; omega)) (by first | exact vec_set _ _ _ _ _ | exact dv_setm _ _ _ _ (by omega) | exact dv_sets _ _ _ _ | rfl) (by simp) ?_)
      refine LOps.nil ?_
      refine LCode.region ?_
      refine LOps.detP (Det.bin rfl rfl (br_add (b := 1) (by omega))) (Nat.le_of_ble_eq_true rfl) ?_
      refine LOps.detP (Det.move rfl) (Nat.le_of_ble_eq_true rfl) ?_
      refine LOps.nil ?_
      refine ⟨x + 1, by omega, by omega, Sub.re (Sub.cells (b := b22) (cs' := vec .u8 n (fun j => if n - (x + 1) ≤ j then A / 256 ^ (n - 1 - j) % 256 else 0)) (by repeat (first | exact SetAt.head _ | apply SetAt.tail)) (vec_congr fun j hj => ?_)) (Sub.mk ⟨rfl, rfl, rfl, rfl, rfl, trivial⟩ (by repeat (first | exact Sel.nil _ | refine Sel.cons (by repeat (first | exact Pick.head _ | apply Pick.tail)) ?_)))⟩
      by_cases e : j = n - 1 - x
      · rw [if_pos e, if_pos (by omega), byte_of, show n - 1 - j = x by omega]
      · rw [if_neg e]
        by_cases e2 : n - x ≤ j
        · rw [if_pos e2, if_pos (by omega)]
        · rw [if_neg e2, if_neg (by omega)]
    ·
      have h26 : ¬ x < n := h26
      refine LCode.exit ?_
      refine LCode.seq ?_
      refine LCode.region ?_
      refine LOps.detP (Det.move rfl) (Nat.le_of_ble_eq_true rfl) ?_
      refine LOps.det (Det.bytesStr Try.underlying52 Try.underlying5 Try.underlying9 rfl (by repeat (first | exact List.Mem.head _ | apply List.Mem.tail)) (by exact (List.take_of_length_le (by simp [vec_length])).trans (List.drop_zero))) (Nat.le_of_ble_eq_true rfl) ?_
      refine LOps.detP (Det.assign rfl) (Nat.le_of_ble_eq_true rfl) ?_
      refine LOps.detP (Det.assign (v := .int .i64 ((0 : Nat) : Int)) rfl) (Nat.le_of_ble_eq_true rfl) ?_
      refine LOps.nil ?_
      refine LCode.ret ?_
      have hx9 : x = n := by omega
      subst hx9
      refine ⟨[_, _], .cons rfl (.cons rfl .nil), fun a w' hr => ⟨?_, hr.fr.below⟩⟩
      rw [if_neg h20]
      have e : ((List.range x).map fun i => UInt8.ofNat ((fun j => if x - x ≤ j then A / 256 ^ (x - 1 - j) % 256 else 0) i)) = beBytes x A := by
        apply List.map_congr_left
        intro i hi
        dsimp only
        rw [if_pos (by omega)]
      rw [e]
      rfl

end Go.Proofs.Ytljblbgogjieaaa
