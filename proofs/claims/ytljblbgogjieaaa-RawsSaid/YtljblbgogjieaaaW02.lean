/- Walks: what functions of the program come to, step by step. -/
import Derived.Test.YtljblbgogjieaaaW01
import Derived.Test.YtljblbgogjieaaaMath2
set_option linter.unusedVariables false
set_option linter.unusedSimpArgs false
set_option maxRecDepth 20000
namespace Go.Proofs.Ytljblbgogjieaaa
open Go Go.RowKit

theorem c_Mul64 (x y : Nat) (hx : x < 18446744073709551616) (hy : y < 18446744073709551616) (w : World)  : Calls Try.prog 193 ([.int .u64 ((x : Nat) : Int), .int .u64 ((y : Nat) : Int)] : List Value).toArray w (fun e w' => e = .returned (.tuple #[.int .u64 ((x * y / 18446744073709551616 : Nat) : Int), .int .u64 ((x * y % 18446744073709551616 : Nat) : Int)]) ∧ Below w.heap.size w w') := by
  refine calls_ro (N := 51) (rs := [.tmp 4, .tmp 5]) [] Try.func193 rfl Try.ntmps193 Try.results193 (Nat.le_of_ble_eq_true rfl) trivial rfl ?_
  show LCode _ _ _ ⟨_, _⟩ _
  refine LCode.seq ?_
  refine LCode.region ?_
  refine LOps.detP (Det.assign (v := .int .u64 ((0 : Nat) : Int)) rfl) (Nat.le_of_ble_eq_true rfl) ?_
  refine LOps.detP (Det.assign (v := .int .u64 ((0 : Nat) : Int)) rfl) (Nat.le_of_ble_eq_true rfl) ?_
  refine LOps.nil ?_
  refine LCode.seq ?_
  refine LCode.region ?_
  refine LOps.detP (Det.move rfl) (Nat.le_of_ble_eq_true rfl) ?_
  refine LOps.detP (Det.bin rfl rfl (br_and64 (b := 4294967295) (by omega) (by omega))) (Nat.le_of_ble_eq_true rfl) ?_
  refine LOps.detP (Det.assign rfl) (Nat.le_of_ble_eq_true rfl) ?_
  refine LOps.nil ?_
  refine LCode.seq ?_
  refine LCode.region ?_
  refine LOps.detP (Det.move rfl) (Nat.le_of_ble_eq_true rfl) ?_
  refine LOps.detP (Det.bin rfl rfl (br_shr64 (b := 32) (by omega))) (Nat.le_of_ble_eq_true rfl) ?_
  refine LOps.detP (Det.assign rfl) (Nat.le_of_ble_eq_true rfl) ?_
  refine LOps.nil ?_
  refine LCode.seq ?_
  refine LCode.region ?_
  refine LOps.detP (Det.move rfl) (Nat.le_of_ble_eq_true rfl) ?_
  refine LOps.detP (Det.bin rfl rfl (br_and64 (b := 4294967295) (by omega) (by omega))) (Nat.le_of_ble_eq_true rfl) ?_
  refine LOps.detP (Det.assign rfl) (Nat.le_of_ble_eq_true rfl) ?_
  refine LOps.nil ?_
  refine LCode.seq ?_
  refine LCode.region ?_
  refine LOps.detP (Det.move rfl) (Nat.le_of_ble_eq_true rfl) ?_
  refine LOps.detP (Det.bin rfl rfl (br_shr64 (b := 32) (by omega))) (Nat.le_of_ble_eq_true rfl) ?_
  refine LOps.detP (Det.assign rfl) (Nat.le_of_ble_eq_true rfl) ?_
  refine LOps.nil ?_
  refine LCode.seq ?_
  refine LCode.region ?_
  refine LOps.detP (Det.move rfl) (Nat.le_of_ble_eq_true rfl) ?_
  refine LOps.detP (Det.move rfl) (Nat.le_of_ble_eq_true rfl) ?_
  refine LOps.detP (Det.bin rfl rfl (br_mul64)) (Nat.le_of_ble_eq_true rfl) ?_
  refine LOps.detP (Det.assign rfl) (Nat.le_of_ble_eq_true rfl) ?_
  refine LOps.nil ?_
  refine LCode.seq ?_
  refine LCode.region ?_
  refine LOps.detP (Det.move rfl) (Nat.le_of_ble_eq_true rfl) ?_
  refine LOps.detP (Det.move rfl) (Nat.le_of_ble_eq_true rfl) ?_
  refine LOps.detP (Det.bin rfl rfl (br_mul64)) (Nat.le_of_ble_eq_true rfl) ?_
  refine LOps.detP (Det.move rfl) (Nat.le_of_ble_eq_true rfl) ?_
  refine LOps.detP (Det.bin rfl rfl (br_shr64 (b := 32) (by omega))) (Nat.le_of_ble_eq_true rfl) ?_
  refine LOps.detP (Det.bin rfl rfl (br_add64)) (Nat.le_of_ble_eq_true rfl) ?_
  refine LOps.detP (Det.assign rfl) (Nat.le_of_ble_eq_true rfl) ?_
  refine LOps.nil ?_
  refine LCode.seq ?_
  refine LCode.region ?_
  refine LOps.detP (Det.move rfl) (Nat.le_of_ble_eq_true rfl) ?_
  refine LOps.detP (Det.bin rfl rfl (br_and64 (b := 4294967295) (by omega) (by omega))) (Nat.le_of_ble_eq_true rfl) ?_
  refine LOps.detP (Det.assign rfl) (Nat.le_of_ble_eq_true rfl) ?_
  refine LOps.nil ?_
  refine LCode.seq ?_
  refine LCode.region ?_
  refine LOps.detP (Det.move rfl) (Nat.le_of_ble_eq_true rfl) ?_
  refine LOps.detP (Det.bin rfl rfl (br_shr64 (b := 32) (by omega))) (Nat.le_of_ble_eq_true rfl) ?_
  refine LOps.detP (Det.assign rfl) (Nat.le_of_ble_eq_true rfl) ?_
  refine LOps.nil ?_
  refine LCode.seq ?_
  refine LCode.region ?_
  refine LOps.detP (Det.move rfl) (Nat.le_of_ble_eq_true rfl) ?_
  refine LOps.detP (Det.move rfl) (Nat.le_of_ble_eq_true rfl) ?_
  refine LOps.detP (Det.move rfl) (Nat.le_of_ble_eq_true rfl) ?_
  refine LOps.detP (Det.bin rfl rfl (br_mul64)) (Nat.le_of_ble_eq_true rfl) ?_
  refine LOps.detP (Det.bin rfl rfl (br_add64)) (Nat.le_of_ble_eq_true rfl) ?_
  refine LOps.detP (Det.assign rfl) (Nat.le_of_ble_eq_true rfl) ?_
  refine LOps.nil ?_
  refine LCode.seq ?_
  refine LCode.region ?_
  refine LOps.detP (Det.move rfl) (Nat.le_of_ble_eq_true rfl) ?_
  refine LOps.detP (Det.move rfl) (Nat.le_of_ble_eq_true rfl) ?_
  refine LOps.detP (Det.bin rfl rfl (br_mul64)) (Nat.le_of_ble_eq_true rfl) ?_
  refine LOps.detP (Det.move rfl) (Nat.le_of_ble_eq_true rfl) ?_
  refine LOps.detP (Det.bin rfl rfl (br_add64)) (Nat.le_of_ble_eq_true rfl) ?_
  refine LOps.detP (Det.move rfl) (Nat.le_of_ble_eq_true rfl) ?_
  refine LOps.detP (Det.bin rfl rfl (br_shr64 (b := 32) (by omega))) (Nat.le_of_ble_eq_true rfl) ?_
  refine LOps.detP (Det.bin rfl rfl (br_add64)) (Nat.le_of_ble_eq_true rfl) ?_
  refine LOps.detP (Det.assign rfl) (Nat.le_of_ble_eq_true rfl) ?_
  refine LOps.nil ?_
  refine LCode.seq ?_
  refine LCode.region ?_
  refine LOps.detP (Det.move rfl) (Nat.le_of_ble_eq_true rfl) ?_
  refine LOps.detP (Det.move rfl) (Nat.le_of_ble_eq_true rfl) ?_
  refine LOps.detP (Det.bin rfl rfl (br_mul64)) (Nat.le_of_ble_eq_true rfl) ?_
  refine LOps.detP (Det.assign rfl) (Nat.le_of_ble_eq_true rfl) ?_
  refine LOps.nil ?_
  refine LCode.ret ?_
  refine ⟨[_, _], .cons rfl (.cons rfl .nil), fun a w' hr => ⟨?_, hr.fr.below⟩⟩
  have h := mul64_hi x y hx hy
  rw [← h]
  rfl

def lenTab : List UInt8 := [0, 1, 2, 2, 3, 3, 3, 3, 4, 4, 4, 4, 4, 4, 4, 4, 5, 5, 5, 5, 5, 5, 5, 5, 5, 5, 5, 5, 5, 5, 5, 5, 6, 6, 6, 6, 6, 6, 6, 6, 6, 6, 6, 6, 6, 6, 6, 6, 6, 6, 6, 6, 6, 6, 6, 6, 6, 6, 6, 6, 6, 6, 6, 6, 7, 7, 7, 7, 7, 7, 7, 7, 7, 7, 7, 7, 7, 7, 7, 7, 7, 7, 7, 7, 7, 7, 7, 7, 7, 7, 7, 7, 7, 7, 7, 7, 7, 7, 7, 7, 7, 7, 7, 7, 7, 7, 7, 7, 7, 7, 7, 7, 7, 7, 7, 7, 7, 7, 7, 7, 7, 7, 7, 7, 7, 7, 7, 7, 8, 8, 8, 8, 8, 8, 8, 8, 8, 8, 8, 8, 8, 8, 8, 8, 8, 8, 8, 8, 8, 8, 8, 8, 8, 8, 8, 8, 8, 8, 8, 8, 8, 8, 8, 8, 8, 8, 8, 8, 8, 8, 8, 8, 8, 8, 8, 8, 8, 8, 8, 8, 8, 8, 8, 8, 8, 8, 8, 8, 8, 8, 8, 8, 8, 8, 8, 8, 8, 8, 8, 8, 8, 8, 8, 8, 8, 8, 8, 8, 8, 8, 8, 8, 8, 8, 8, 8, 8, 8, 8, 8, 8, 8, 8, 8, 8, 8, 8, 8, 8, 8, 8, 8, 8, 8, 8, 8, 8, 8, 8, 8, 8, 8, 8, 8, 8, 8, 8, 8, 8, 8, 8, 8, 8, 8, 8, 8]
theorem len_tab : ∀ i, i < 256 → (lenTab.getD i 0).toNat = blen i := by decide +kernel
theorem len_tab_int (i : Nat) (h : i < 256) : (Value.int .u8 ((lenTab.getD ((i : Int).toNat) 0).toNat : Int)) = .int .u8 ((blen i : Nat) : Int) := by rw [Int.toNat_natCast, len_tab i h]
theorem blen_m8 (z : Nat) : blen (z % 256) ≤ 8 := blen_le (Nat.mod_lt _ (by decide))
theorem c_Len64 (x : Nat) (hx : x < 18446744073709551616) (w : World)  : Calls Try.prog 173 ([.int .u64 ((x : Nat) : Int)] : List Value).toArray w (fun e w' => e = .returned (.int .i64 ((blen x : Nat) : Int)) ∧ Below w.heap.size w w') := by
  refine calls_ro (N := 25) (rs := [.tmp 2]) [] Try.func173 rfl Try.ntmps173 Try.results173 (Nat.le_of_ble_eq_true rfl) trivial rfl ?_
  show LCode _ _ _ ⟨_, _⟩ _
  refine LCode.seq ?_
  refine LCode.region ?_
  refine LOps.detP (Det.assign (v := .int .i64 ((0 : Nat) : Int)) rfl) (Nat.le_of_ble_eq_true rfl) ?_
  refine LOps.nil ?_
  refine LCode.seq ?_
  refine LCode.seq ?_
  refine LCode.region ?_
  refine LOps.detP (Det.move rfl) (Nat.le_of_ble_eq_true rfl) ?_
  refine LOps.detP (Det.bin rfl rfl (br_geq (b := 4294967296))) (Nat.le_of_ble_eq_true rfl) ?_
  refine LOps.nil ?_
  first | refine LCode.condD rfl (fun h4 => ?_) (fun h4 => ?_) | refine LCode.cond rfl (fun h4 => ?_) (fun h4 => ?_)
  ·
    refine LCode.seq ?_
    refine LCode.region ?_
    refine LOps.detP (Det.move rfl) (Nat.le_of_ble_eq_true rfl) ?_
    refine LOps.detP (Det.bin rfl rfl (br_shr64 (b := 32) (by omega))) (Nat.le_of_ble_eq_true rfl) ?_
    refine LOps.detP (Det.assign rfl) (Nat.le_of_ble_eq_true rfl) ?_
    refine LOps.nil ?_
    refine LCode.region ?_
    refine LOps.detP (Det.assign (v := .int .i64 ((32 : Nat) : Int)) rfl) (Nat.le_of_ble_eq_true rfl) ?_
    refine LOps.nil ?_
    refine LCode.seq ?_
    refine LCode.seq ?_
    refine LCode.region ?_
    refine LOps.detP (Det.move rfl) (Nat.le_of_ble_eq_true rfl) ?_
    refine LOps.detP (Det.bin rfl rfl (br_geq (b := 65536))) (Nat.le_of_ble_eq_true rfl) ?_
    refine LOps.nil ?_
    first | refine LCode.condD rfl (fun h8 => ?_) (fun h8 => ?_) | refine LCode.cond rfl (fun h8 => ?_) (fun h8 => ?_)
    ·
      refine LCode.seq ?_
      refine LCode.region ?_
      refine LOps.detP (Det.move rfl) (Nat.le_of_ble_eq_true rfl) ?_
      refine LOps.detP (Det.bin rfl rfl (br_shr64 (b := 16) (by omega))) (Nat.le_of_ble_eq_true rfl) ?_
      refine LOps.detP (Det.assign rfl) (Nat.le_of_ble_eq_true rfl) ?_
      refine LOps.nil ?_
      refine LCode.region ?_
      refine LOps.detP (Det.move rfl) (Nat.le_of_ble_eq_true rfl) ?_
      refine LOps.detP (Det.bin rfl rfl (br_add (b := 16) (by omega))) (Nat.le_of_ble_eq_true rfl) ?_
      refine LOps.detP (Det.assign rfl) (Nat.le_of_ble_eq_true rfl) ?_
      refine LOps.nil ?_
      refine LCode.seq ?_
      refine LCode.seq ?_
      refine LCode.region ?_
      refine LOps.detP (Det.move rfl) (Nat.le_of_ble_eq_true rfl) ?_
      refine LOps.detP (Det.bin rfl rfl (br_geq (b := 256))) (Nat.le_of_ble_eq_true rfl) ?_
      refine LOps.nil ?_
      first | refine LCode.condD rfl (fun h14 => ?_) (fun h14 => ?_) | refine LCode.cond rfl (fun h14 => ?_) (fun h14 => ?_)
      ·
        refine LCode.seq ?_
        refine LCode.region ?_
        refine LOps.detP (Det.move rfl) (Nat.le_of_ble_eq_true rfl) ?_
        refine LOps.detP (Det.bin rfl rfl (br_shr64 (b := 8) (by omega))) (Nat.le_of_ble_eq_true rfl) ?_
        refine LOps.detP (Det.assign rfl) (Nat.le_of_ble_eq_true rfl) ?_
        refine LOps.nil ?_
        refine LCode.region ?_
        refine LOps.detP (Det.move rfl) (Nat.le_of_ble_eq_true rfl) ?_
        refine LOps.detP (Det.bin rfl rfl (br_add (b := 8) (by omega))) (Nat.le_of_ble_eq_true rfl) ?_
        refine LOps.detP (Det.assign rfl) (Nat.le_of_ble_eq_true rfl) ?_
        refine LOps.nil ?_
        refine LCode.seq ?_
        refine LCode.region ?_
        refine LOps.detP (Det.move rfl) (Nat.le_of_ble_eq_true rfl) ?_
        refine LOps.detP (Det.move rfl) (Nat.le_of_ble_eq_true rfl) ?_
        refine LOps.detP (Det.conv8 Try.underlying22 Try.underlying5 rfl) (Nat.le_of_ble_eq_true rfl) ?_
        refine LOps.detP (Slots.cast (Det.indexStr Try.underlying9 rfl rfl (by omega) (by show ((_ % 256 : Nat) : Int) < 256; omega)) (len_tab_int _ (Nat.mod_lt _ (by decide)))) (Nat.le_of_ble_eq_true rfl) ?_
        refine LOps.detP (Det.convi Try.underlying5 Try.underlying3 rfl (Nat.lt_of_le_of_lt (blen_m8 _) (by decide))) (Nat.le_of_ble_eq_true rfl) ?_
        refine LOps.detP (Det.bin rfl rfl (br_add (Nat.lt_of_le_of_lt (Nat.add_le_add_left (blen_m8 _) _) (by omega)))) (Nat.le_of_ble_eq_true rfl) ?_
        refine LOps.detP (Det.assign rfl) (Nat.le_of_ble_eq_true rfl) ?_
        refine LOps.nil ?_
        refine LCode.ret ?_
        have hm : ∀ z : Nat, z < 256 → blen (z % 256) = blen z := fun z hz => by rw [Nat.mod_eq_of_lt hz]
        refine ⟨[_], .cons rfl .nil, fun a w' hr => ⟨?_, hr.fr.below⟩⟩
        refine congrArg (fun n : Nat => Ending.returned (.int .i64 (n : Int))) ?_
        have e32 := blen_shr (k := 32) (show 2 ^ 32 ≤ x by omega)
        have e16 := blen_shr (k := 16) (show 2 ^ 16 ≤ (x / 2 ^ 32) by omega)
        have e8 := blen_shr (k := 8) (show 2 ^ 8 ≤ ((x / 2 ^ 32) / 2 ^ 16) by omega)
        rw [hm (((x / 2 ^ 32) / 2 ^ 16) / 2 ^ 8) (by omega)]
        omega
      ·
        refine LCode.skip ?_
        refine LCode.seq ?_
        refine LCode.region ?_
        refine LOps.detP (Det.move rfl) (Nat.le_of_ble_eq_true rfl) ?_
        refine LOps.detP (Det.move rfl) (Nat.le_of_ble_eq_true rfl) ?_
        refine LOps.detP (Det.conv8 Try.underlying22 Try.underlying5 rfl) (Nat.le_of_ble_eq_true rfl) ?_
        refine LOps.detP (Slots.cast (Det.indexStr Try.underlying9 rfl rfl (by omega) (by show ((_ % 256 : Nat) : Int) < 256; omega)) (len_tab_int _ (Nat.mod_lt _ (by decide)))) (Nat.le_of_ble_eq_true rfl) ?_
        refine LOps.detP (Det.convi Try.underlying5 Try.underlying3 rfl (Nat.lt_of_le_of_lt (blen_m8 _) (by decide))) (Nat.le_of_ble_eq_true rfl) ?_
        refine LOps.detP (Det.bin rfl rfl (br_add (Nat.lt_of_le_of_lt (Nat.add_le_add_left (blen_m8 _) _) (by omega)))) (Nat.le_of_ble_eq_true rfl) ?_
        refine LOps.detP (Det.assign rfl) (Nat.le_of_ble_eq_true rfl) ?_
        refine LOps.nil ?_
        refine LCode.ret ?_
        have hm : ∀ z : Nat, z < 256 → blen (z % 256) = blen z := fun z hz => by rw [Nat.mod_eq_of_lt hz]
        refine ⟨[_], .cons rfl .nil, fun a w' hr => ⟨?_, hr.fr.below⟩⟩
        refine congrArg (fun n : Nat => Ending.returned (.int .i64 (n : Int))) ?_
        have e32 := blen_shr (k := 32) (show 2 ^ 32 ≤ x by omega)
        have e16 := blen_shr (k := 16) (show 2 ^ 16 ≤ (x / 2 ^ 32) by omega)
        rw [hm ((x / 2 ^ 32) / 2 ^ 16) (by omega)]
        omega
    ·
      refine LCode.skip ?_
      refine LCode.seq ?_
      refine LCode.seq ?_
      refine LCode.region ?_
      refine LOps.detP (Det.move rfl) (Nat.le_of_ble_eq_true rfl) ?_
      refine LOps.detP (Det.bin rfl rfl (br_geq (b := 256))) (Nat.le_of_ble_eq_true rfl) ?_
      refine LOps.nil ?_
      first | refine LCode.condD rfl (fun h14 => ?_) (fun h14 => ?_) | refine LCode.cond rfl (fun h14 => ?_) (fun h14 => ?_)
      ·
        refine LCode.seq ?_
        refine LCode.region ?_
        refine LOps.detP (Det.move rfl) (Nat.le_of_ble_eq_true rfl) ?_
        refine LOps.detP (Det.bin rfl rfl (br_shr64 (b := 8) (by omega))) (Nat.le_of_ble_eq_true rfl) ?_
        refine LOps.detP (Det.assign rfl) (Nat.le_of_ble_eq_true rfl) ?_
        refine LOps.nil ?_
        refine LCode.region ?_
        refine LOps.detP (Det.move rfl) (Nat.le_of_ble_eq_true rfl) ?_
        refine LOps.detP (Det.bin rfl rfl (br_add (b := 8) (by omega))) (Nat.le_of_ble_eq_true rfl) ?_
        refine LOps.detP (Det.assign rfl) (Nat.le_of_ble_eq_true rfl) ?_
        refine LOps.nil ?_
        refine LCode.seq ?_
        refine LCode.region ?_
        refine LOps.detP (Det.move rfl) (Nat.le_of_ble_eq_true rfl) ?_
        refine LOps.detP (Det.move rfl) (Nat.le_of_ble_eq_true rfl) ?_
        refine LOps.detP (Det.conv8 Try.underlying22 Try.underlying5 rfl) (Nat.le_of_ble_eq_true rfl) ?_
        refine LOps.detP (Slots.cast (Det.indexStr Try.underlying9 rfl rfl (by omega) (by show ((_ % 256 : Nat) : Int) < 256; omega)) (len_tab_int _ (Nat.mod_lt _ (by decide)))) (Nat.le_of_ble_eq_true rfl) ?_
        refine LOps.detP (Det.convi Try.underlying5 Try.underlying3 rfl (Nat.lt_of_le_of_lt (blen_m8 _) (by decide))) (Nat.le_of_ble_eq_true rfl) ?_
        refine LOps.detP (Det.bin rfl rfl (br_add (Nat.lt_of_le_of_lt (Nat.add_le_add_left (blen_m8 _) _) (by omega)))) (Nat.le_of_ble_eq_true rfl) ?_
        refine LOps.detP (Det.assign rfl) (Nat.le_of_ble_eq_true rfl) ?_
        refine LOps.nil ?_
        refine LCode.ret ?_
        have hm : ∀ z : Nat, z < 256 → blen (z % 256) = blen z := fun z hz => by rw [Nat.mod_eq_of_lt hz]
        refine ⟨[_], .cons rfl .nil, fun a w' hr => ⟨?_, hr.fr.below⟩⟩
        refine congrArg (fun n : Nat => Ending.returned (.int .i64 (n : Int))) ?_
        have e32 := blen_shr (k := 32) (show 2 ^ 32 ≤ x by omega)
        have e8 := blen_shr (k := 8) (show 2 ^ 8 ≤ (x / 2 ^ 32) by omega)
        rw [hm ((x / 2 ^ 32) / 2 ^ 8) (by omega)]
        omega
      ·
        refine LCode.skip ?_
        refine LCode.seq ?_
        refine LCode.region ?_
        refine LOps.detP (Det.move rfl) (Nat.le_of_ble_eq_true rfl) ?_
        refine LOps.detP (Det.move rfl) (Nat.le_of_ble_eq_true rfl) ?_
        refine LOps.detP (Det.conv8 Try.underlying22 Try.underlying5 rfl) (Nat.le_of_ble_eq_true rfl) ?_
        refine LOps.detP (Slots.cast (Det.indexStr Try.underlying9 rfl rfl (by omega) (by show ((_ % 256 : Nat) : Int) < 256; omega)) (len_tab_int _ (Nat.mod_lt _ (by decide)))) (Nat.le_of_ble_eq_true rfl) ?_
        refine LOps.detP (Det.convi Try.underlying5 Try.underlying3 rfl (Nat.lt_of_le_of_lt (blen_m8 _) (by decide))) (Nat.le_of_ble_eq_true rfl) ?_
        refine LOps.detP (Det.bin rfl rfl (br_add (Nat.lt_of_le_of_lt (Nat.add_le_add_left (blen_m8 _) _) (by omega)))) (Nat.le_of_ble_eq_true rfl) ?_
        refine LOps.detP (Det.assign rfl) (Nat.le_of_ble_eq_true rfl) ?_
        refine LOps.nil ?_
        refine LCode.ret ?_
        have hm : ∀ z : Nat, z < 256 → blen (z % 256) = blen z := fun z hz => by rw [Nat.mod_eq_of_lt hz]
        refine ⟨[_], .cons rfl .nil, fun a w' hr => ⟨?_, hr.fr.below⟩⟩
        refine congrArg (fun n : Nat => Ending.returned (.int .i64 (n : Int))) ?_
        have e32 := blen_shr (k := 32) (show 2 ^ 32 ≤ x by omega)
        rw [hm (x / 2 ^ 32) (by omega)]
        omega
  ·
    refine LCode.skip ?_
    refine LCode.seq ?_
    refine LCode.seq ?_
    refine LCode.region ?_
    refine LOps.detP (Det.move rfl) (Nat.le_of_ble_eq_true rfl) ?_
    refine LOps.detP (Det.bin rfl rfl (br_geq (b := 65536))) (Nat.le_of_ble_eq_true rfl) ?_
    refine LOps.nil ?_
    first | refine LCode.condD rfl (fun h8 => ?_) (fun h8 => ?_) | refine LCode.cond rfl (fun h8 => ?_) (fun h8 => ?_)
    ·
      refine LCode.seq ?_
      refine LCode.region ?_
      refine LOps.detP (Det.move rfl) (Nat.le_of_ble_eq_true rfl) ?_
      refine LOps.detP (Det.bin rfl rfl (br_shr64 (b := 16) (by omega))) (Nat.le_of_ble_eq_true rfl) ?_
      refine LOps.detP (Det.assign rfl) (Nat.le_of_ble_eq_true rfl) ?_
      refine LOps.nil ?_
      refine LCode.region ?_
      refine LOps.detP (Det.move rfl) (Nat.le_of_ble_eq_true rfl) ?_
      refine LOps.detP (Det.bin rfl rfl (br_add (b := 16) (by omega))) (Nat.le_of_ble_eq_true rfl) ?_
      refine LOps.detP (Det.assign rfl) (Nat.le_of_ble_eq_true rfl) ?_
      refine LOps.nil ?_
      refine LCode.seq ?_
      refine LCode.seq ?_
      refine LCode.region ?_
      refine LOps.detP (Det.move rfl) (Nat.le_of_ble_eq_true rfl) ?_
      refine LOps.detP (Det.bin rfl rfl (br_geq (b := 256))) (Nat.le_of_ble_eq_true rfl) ?_
      refine LOps.nil ?_
      first | refine LCode.condD rfl (fun h14 => ?_) (fun h14 => ?_) | refine LCode.cond rfl (fun h14 => ?_) (fun h14 => ?_)
      ·
        refine LCode.seq ?_
        refine LCode.region ?_
        refine LOps.detP (Det.move rfl) (Nat.le_of_ble_eq_true rfl) ?_
        refine LOps.detP (Det.bin rfl rfl (br_shr64 (b := 8) (by omega))) (Nat.le_of_ble_eq_true rfl) ?_
        refine LOps.detP (Det.assign rfl) (Nat.le_of_ble_eq_true rfl) ?_
        refine LOps.nil ?_
        refine LCode.region ?_
        refine LOps.detP (Det.move rfl) (Nat.le_of_ble_eq_true rfl) ?_
        refine LOps.detP (Det.bin rfl rfl (br_add (b := 8) (by omega))) (Nat.le_of_ble_eq_true rfl) ?_
        refine LOps.detP (Det.assign rfl) (Nat.le_of_ble_eq_true rfl) ?_
        refine LOps.nil ?_
        refine LCode.seq ?_
        refine LCode.region ?_
        refine LOps.detP (Det.move rfl) (Nat.le_of_ble_eq_true rfl) ?_
        refine LOps.detP (Det.move rfl) (Nat.le_of_ble_eq_true rfl) ?_
        refine LOps.detP (Det.conv8 Try.underlying22 Try.underlying5 rfl) (Nat.le_of_ble_eq_true rfl) ?_
        refine LOps.detP (Slots.cast (Det.indexStr Try.underlying9 rfl rfl (by omega) (by show ((_ % 256 : Nat) : Int) < 256; omega)) (len_tab_int _ (Nat.mod_lt _ (by decide)))) (Nat.le_of_ble_eq_true rfl) ?_
        refine LOps.detP (Det.convi Try.underlying5 Try.underlying3 rfl (Nat.lt_of_le_of_lt (blen_m8 _) (by decide))) (Nat.le_of_ble_eq_true rfl) ?_
        refine LOps.detP (Det.bin rfl rfl (br_add (Nat.lt_of_le_of_lt (Nat.add_le_add_left (blen_m8 _) _) (by omega)))) (Nat.le_of_ble_eq_true rfl) ?_
        refine LOps.detP (Det.assign rfl) (Nat.le_of_ble_eq_true rfl) ?_
        refine LOps.nil ?_
        refine LCode.ret ?_
        have hm : ∀ z : Nat, z < 256 → blen (z % 256) = blen z := fun z hz => by rw [Nat.mod_eq_of_lt hz]
        refine ⟨[_], .cons rfl .nil, fun a w' hr => ⟨?_, hr.fr.below⟩⟩
        refine congrArg (fun n : Nat => Ending.returned (.int .i64 (n : Int))) ?_
        have e16 := blen_shr (k := 16) (show 2 ^ 16 ≤ x by omega)
        have e8 := blen_shr (k := 8) (show 2 ^ 8 ≤ (x / 2 ^ 16) by omega)
        rw [hm ((x / 2 ^ 16) / 2 ^ 8) (by omega)]
        omega
      ·
        refine LCode.skip ?_
        refine LCode.seq ?_
        refine LCode.region ?_
        refine LOps.detP (Det.move rfl) (Nat.le_of_ble_eq_true rfl) ?_
        refine LOps.detP (Det.move rfl) (Nat.le_of_ble_eq_true rfl) ?_
        refine LOps.detP (Det.conv8 Try.underlying22 Try.underlying5 rfl) (Nat.le_of_ble_eq_true rfl) ?_
        refine LOps.detP (Slots.cast (Det.indexStr Try.underlying9 rfl rfl (by omega) (by show ((_ % 256 : Nat) : Int) < 256; omega)) (len_tab_int _ (Nat.mod_lt _ (by decide)))) (Nat.le_of_ble_eq_true rfl) ?_
        refine LOps.detP (Det.convi Try.underlying5 Try.underlying3 rfl (Nat.lt_of_le_of_lt (blen_m8 _) (by decide))) (Nat.le_of_ble_eq_true rfl) ?_
        refine LOps.detP (Det.bin rfl rfl (br_add (Nat.lt_of_le_of_lt (Nat.add_le_add_left (blen_m8 _) _) (by omega)))) (Nat.le_of_ble_eq_true rfl) ?_
        refine LOps.detP (Det.assign rfl) (Nat.le_of_ble_eq_true rfl) ?_
        refine LOps.nil ?_
        refine LCode.ret ?_
        have hm : ∀ z : Nat, z < 256 → blen (z % 256) = blen z := fun z hz => by rw [Nat.mod_eq_of_lt hz]
        refine ⟨[_], .cons rfl .nil, fun a w' hr => ⟨?_, hr.fr.below⟩⟩
        refine congrArg (fun n : Nat => Ending.returned (.int .i64 (n : Int))) ?_
        have e16 := blen_shr (k := 16) (show 2 ^ 16 ≤ x by omega)
        rw [hm (x / 2 ^ 16) (by omega)]
        omega
    ·
      refine LCode.skip ?_
      refine LCode.seq ?_
      refine LCode.seq ?_
      refine LCode.region ?_
      refine LOps.detP (Det.move rfl) (Nat.le_of_ble_eq_true rfl) ?_
      refine LOps.detP (Det.bin rfl rfl (br_geq (b := 256))) (Nat.le_of_ble_eq_true rfl) ?_
      refine LOps.nil ?_
      first | refine LCode.condD rfl (fun h14 => ?_) (fun h14 => ?_) | refine LCode.cond rfl (fun h14 => ?_) (fun h14 => ?_)
      ·
        refine LCode.seq ?_
        refine LCode.region ?_
        refine LOps.detP (Det.move rfl) (Nat.le_of_ble_eq_true rfl) ?_
        refine LOps.detP (Det.bin rfl rfl (br_shr64 (b := 8) (by omega))) (Nat.le_of_ble_eq_true rfl) ?_
        refine LOps.detP (Det.assign rfl) (Nat.le_of_ble_eq_true rfl) ?_
        refine LOps.nil ?_
        refine LCode.region ?_
        refine LOps.detP (Det.move rfl) (Nat.le_of_ble_eq_true rfl) ?_
        refine LOps.detP (Det.bin rfl rfl (br_add (b := 8) (by omega))) (Nat.le_of_ble_eq_true rfl) ?_
        refine LOps.detP (Det.assign rfl) (Nat.le_of_ble_eq_true rfl) ?_
        refine LOps.nil ?_
        refine LCode.seq ?_
        refine LCode.region ?_
        refine LOps.detP (Det.move rfl) (Nat.le_of_ble_eq_true rfl) ?_
        refine LOps.detP (Det.move rfl) (Nat.le_of_ble_eq_true rfl) ?_
        refine LOps.detP (Det.conv8 Try.underlying22 Try.underlying5 rfl) (Nat.le_of_ble_eq_true rfl) ?_
        refine LOps.detP (Slots.cast (Det.indexStr Try.underlying9 rfl rfl (by omega) (by show ((_ % 256 : Nat) : Int) < 256; omega)) (len_tab_int _ (Nat.mod_lt _ (by decide)))) (Nat.le_of_ble_eq_true rfl) ?_
        refine LOps.detP (Det.convi Try.underlying5 Try.underlying3 rfl (Nat.lt_of_le_of_lt (blen_m8 _) (by decide))) (Nat.le_of_ble_eq_true rfl) ?_
        refine LOps.detP (Det.bin rfl rfl (br_add (Nat.lt_of_le_of_lt (Nat.add_le_add_left (blen_m8 _) _) (by omega)))) (Nat.le_of_ble_eq_true rfl) ?_
        refine LOps.detP (Det.assign rfl) (Nat.le_of_ble_eq_true rfl) ?_
        refine LOps.nil ?_
        refine LCode.ret ?_
        have hm : ∀ z : Nat, z < 256 → blen (z % 256) = blen z := fun z hz => by rw [Nat.mod_eq_of_lt hz]
        refine ⟨[_], .cons rfl .nil, fun a w' hr => ⟨?_, hr.fr.below⟩⟩
        refine congrArg (fun n : Nat => Ending.returned (.int .i64 (n : Int))) ?_
        have e8 := blen_shr (k := 8) (show 2 ^ 8 ≤ x by omega)
        rw [hm (x / 2 ^ 8) (by omega)]
        omega
      ·
        refine LCode.skip ?_
        refine LCode.seq ?_
        refine LCode.region ?_
        refine LOps.detP (Det.move rfl) (Nat.le_of_ble_eq_true rfl) ?_
        refine LOps.detP (Det.move rfl) (Nat.le_of_ble_eq_true rfl) ?_
        refine LOps.detP (Det.conv8 Try.underlying22 Try.underlying5 rfl) (Nat.le_of_ble_eq_true rfl) ?_
        refine LOps.detP (Slots.cast (Det.indexStr Try.underlying9 rfl rfl (by omega) (by show ((_ % 256 : Nat) : Int) < 256; omega)) (len_tab_int _ (Nat.mod_lt _ (by decide)))) (Nat.le_of_ble_eq_true rfl) ?_
        refine LOps.detP (Det.convi Try.underlying5 Try.underlying3 rfl (Nat.lt_of_le_of_lt (blen_m8 _) (by decide))) (Nat.le_of_ble_eq_true rfl) ?_
        refine LOps.detP (Det.bin rfl rfl (br_add (Nat.lt_of_le_of_lt (Nat.add_le_add_left (blen_m8 _) _) (by omega)))) (Nat.le_of_ble_eq_true rfl) ?_
        refine LOps.detP (Det.assign rfl) (Nat.le_of_ble_eq_true rfl) ?_
        refine LOps.nil ?_
        refine LCode.ret ?_
        have hm : ∀ z : Nat, z < 256 → blen (z % 256) = blen z := fun z hz => by rw [Nat.mod_eq_of_lt hz]
        refine ⟨[_], .cons rfl .nil, fun a w' hr => ⟨?_, hr.fr.below⟩⟩
        refine congrArg (fun n : Nat => Ending.returned (.int .i64 (n : Int))) ?_
        rw [hm x (by omega)]
        omega

theorem c_LeadingZeros64 (x : Nat) (hx : x < 18446744073709551616) (w : World)  : Calls Try.prog 192 ([.int .u64 ((x : Nat) : Int)] : List Value).toArray w (fun e w' => e = .returned (.int .i64 ((64 - blen x : Nat) : Int)) ∧ Below w.heap.size w w') := by
  refine calls_ro (N := 6) (rs := [.tmp 2]) [] Try.func192 rfl Try.ntmps192 Try.results192 (Nat.le_of_ble_eq_true rfl) trivial rfl ?_
  show LCode _ _ _ ⟨_, _⟩ _
  refine LCode.seq ?_
  refine LCode.region ?_
  refine LOps.detP (Det.assign (v := .int .i64 ((0 : Nat) : Int)) rfl) (Nat.le_of_ble_eq_true rfl) ?_
  refine LOps.nil ?_
  refine LCode.seq ?_
  refine LCode.region ?_
  refine LOps.detP (Det.move rfl) (Nat.le_of_ble_eq_true rfl) ?_
  refine LOps.step rfl (LStep.w (LStep.callF (first := []) rfl en_173 rfl (Nat.le_of_ble_eq_true rfl) (fun w hw => c_Len64 _ (by omega) w) ?_))
  refine LOps.detP (Det.bin rfl rfl (br_sub (a := 64) (blen_le hx) (by omega))) (Nat.le_of_ble_eq_true rfl) ?_
  refine LOps.detP (Det.assign rfl) (Nat.le_of_ble_eq_true rfl) ?_
  refine LOps.nil ?_
  refine LCode.ret ?_
  refine ⟨[_], .cons rfl .nil, fun a w' hr => ⟨?_, hr.fr.below⟩⟩
  rfl

theorem c_Div64 (hi lo y : Nat) (hlo : lo < 18446744073709551616) (hy : 9223372036854775808 ≤ y) (hy2 : y < 18446744073709551616) (hh : hi < y) (w : World)  : Calls Try.prog 197 ([.int .u64 ((hi : Nat) : Int), .int .u64 ((lo : Nat) : Int), .int .u64 ((y : Nat) : Int)] : List Value).toArray w (fun e w' => e = .returned (.tuple #[.int .u64 (((hi * 18446744073709551616 + lo) / y : Nat) : Int), .int .u64 (((hi * 18446744073709551616 + lo) % y : Nat) : Int)]) ∧ Below w.heap.size w w') := by
  have hb : 64 - blen y = 0 := by have := le_blen (A := y) (n := 63) (by omega); omega
  refine calls_ro (N := 135) (rs := [.tmp 6, .tmp 7]) [] Try.func197 rfl Try.ntmps197 Try.results197 (Nat.le_of_ble_eq_true rfl) trivial rfl ?_
  show LCode _ _ _ ⟨_, _⟩ _
  refine LCode.seq ?_
  refine LCode.region ?_
  refine LOps.detP (Det.assign (v := .int .u64 ((0 : Nat) : Int)) rfl) (Nat.le_of_ble_eq_true rfl) ?_
  refine LOps.detP (Det.assign (v := .int .u64 ((0 : Nat) : Int)) rfl) (Nat.le_of_ble_eq_true rfl) ?_
  refine LOps.nil ?_
  refine LCode.seq ?_
  refine LCode.seq ?_
  refine LCode.region ?_
  refine LOps.detP (Det.move rfl) (Nat.le_of_ble_eq_true rfl) ?_
  refine LOps.detP (Det.bin rfl rfl (br_f (br_eql (b := 0)) (by omega))) (Nat.le_of_ble_eq_true rfl) ?_
  refine LOps.nil ?_
  refine LCode.cond_false rfl ?_
  refine LCode.skip ?_
  refine LCode.seq ?_
  refine LCode.seq ?_
  refine LCode.region ?_
  refine LOps.detP (Det.move rfl) (Nat.le_of_ble_eq_true rfl) ?_
  refine LOps.detP (Det.move rfl) (Nat.le_of_ble_eq_true rfl) ?_
  refine LOps.detP (Det.bin rfl rfl (br_f br_leq (by omega))) (Nat.le_of_ble_eq_true rfl) ?_
  refine LOps.nil ?_
  refine LCode.cond_false rfl ?_
  refine LCode.skip ?_
  refine LCode.seq ?_
  refine LCode.seq ?_
  refine LCode.region ?_
  refine LOps.detP (Det.move rfl) (Nat.le_of_ble_eq_true rfl) ?_
  refine LOps.detP (Det.bin rfl rfl (br_eql (b := 0))) (Nat.le_of_ble_eq_true rfl) ?_
  refine LOps.nil ?_
  first | refine LCode.condD rfl (fun h27 => ?_) (fun h27 => ?_) | refine LCode.cond rfl (fun h27 => ?_) (fun h27 => ?_)
  ·
    refine LCode.seq ?_
    refine LCode.regionD [] (by kernel_rfl) ?_
    refine LAny.takeP 0 rfl (by kernel_rfl) (Nat.le_of_ble_eq_true rfl) (Det.move rfl) ?_
    refine LAny.takeP 1 rfl (by kernel_rfl) (Nat.le_of_ble_eq_true rfl) (Det.move rfl) ?_
    refine LAny.takeP 2 rfl (by kernel_rfl) (Nat.le_of_ble_eq_true rfl) (Det.bin rfl rfl (br_quo64 (by omega) (by omega))) ?_
    refine LAny.takeP 3 rfl (by kernel_rfl) (Nat.le_of_ble_eq_true rfl) (Det.move rfl) ?_
    refine LAny.takeP 4 rfl (by kernel_rfl) (Nat.le_of_ble_eq_true rfl) (Det.move rfl) ?_
    refine LAny.takeP 5 rfl (by kernel_rfl) (Nat.le_of_ble_eq_true rfl) (Det.bin rfl rfl (br_rem64 (by omega))) ?_
    refine LAny.takeP 6 rfl (by kernel_rfl) (Nat.le_of_ble_eq_true rfl) (Det.assign rfl) ?_
    refine LAny.takeP 7 rfl (by kernel_rfl) (Nat.le_of_ble_eq_true rfl) (Det.assign rfl) ?_
    refine LAny.done (by kernel_rfl) ?_
    refine LCode.ret ?_
    refine ⟨[_, _], .cons rfl (.cons rfl .nil), fun a w' hr => ⟨?_, hr.fr.below⟩⟩
    subst h27
    rw [Nat.zero_mul, Nat.zero_add]
    rfl
  ·
    refine LCode.skip ?_
    refine LCode.seq ?_
    refine LCode.region ?_
    refine LOps.detP (Det.move rfl) (Nat.le_of_ble_eq_true rfl) ?_
    refine LOps.step rfl (LStep.w (LStep.callF (first := []) rfl en_192 rfl (Nat.le_of_ble_eq_true rfl) (fun w hw => c_LeadingZeros64 _ (by omega) w) ?_))
    refine LOps.detP (Slots.cast (v := .int .u64 ((64 - blen y : Nat) : Int)) (Det.conv64 Try.underlying3 Try.underlying46 rfl (by omega)) (by rw [hb])) (Nat.le_of_ble_eq_true rfl) ?_
    refine LOps.detP (Det.assign rfl) (Nat.le_of_ble_eq_true rfl) ?_
    refine LOps.nil ?_
    refine LCode.seq ?_
    refine LCode.region ?_
    refine LOps.detP (Det.move rfl) (Nat.le_of_ble_eq_true rfl) ?_
    refine LOps.detP (Det.move rfl) (Nat.le_of_ble_eq_true rfl) ?_
    refine LOps.detP (Slots.cast (Det.bin rfl rfl (br_shl64 (b := 0))) (vi (b := y) (by omega))) (Nat.le_of_ble_eq_true rfl) ?_
    refine LOps.detP (Det.assign rfl) (Nat.le_of_ble_eq_true rfl) ?_
    refine LOps.nil ?_
    refine LCode.seq ?_
    refine LCode.region ?_
    refine LOps.detP (Det.move rfl) (Nat.le_of_ble_eq_true rfl) ?_
    refine LOps.detP (Det.bin rfl rfl (br_shr64 (b := 32) (by omega))) (Nat.le_of_ble_eq_true rfl) ?_
    refine LOps.detP (Det.assign rfl) (Nat.le_of_ble_eq_true rfl) ?_
    refine LOps.nil ?_
    refine LCode.seq ?_
    refine LCode.region ?_
    refine LOps.detP (Det.move rfl) (Nat.le_of_ble_eq_true rfl) ?_
    refine LOps.detP (Slots.cast (Det.bin rfl rfl (br_and64 (b := 4294967295) (by omega) (by omega))) (vi (b := y % 4294967296) (by rw [and32]))) (Nat.le_of_ble_eq_true rfl) ?_
    refine LOps.detP (Det.assign rfl) (Nat.le_of_ble_eq_true rfl) ?_
    refine LOps.nil ?_
    refine LCode.seq ?_
    refine LCode.region ?_
    refine LOps.detP (Det.move rfl) (Nat.le_of_ble_eq_true rfl) ?_
    refine LOps.detP (Det.move rfl) (Nat.le_of_ble_eq_true rfl) ?_
    refine LOps.detP (Slots.cast (Det.bin rfl rfl (br_shl64 (b := 0))) (vi (b := hi) (by omega))) (Nat.le_of_ble_eq_true rfl) ?_
    refine LOps.detP (Det.move rfl) (Nat.le_of_ble_eq_true rfl) ?_
    refine LOps.detP (Det.move rfl) (Nat.le_of_ble_eq_true rfl) ?_
    refine LOps.detP (Det.bin (v := .int .u64 ((64 : Nat) : Int)) rfl rfl rfl) (Nat.le_of_ble_eq_true rfl) ?_
    refine LOps.detP (Slots.cast (Det.bin rfl rfl (br_shr64 (b := 64) (by omega))) (vi (b := 0) (by omega))) (Nat.le_of_ble_eq_true rfl) ?_
    refine LOps.detP (Slots.cast (Det.bin rfl rfl (br_or64 (by omega) (by omega))) (vi (b := hi) (by rw [Nat.or_zero]))) (Nat.le_of_ble_eq_true rfl) ?_
    refine LOps.detP (Det.assign rfl) (Nat.le_of_ble_eq_true rfl) ?_
    refine LOps.nil ?_
    refine LCode.seq ?_
    refine LCode.region ?_
    refine LOps.detP (Det.move rfl) (Nat.le_of_ble_eq_true rfl) ?_
    refine LOps.detP (Det.move rfl) (Nat.le_of_ble_eq_true rfl) ?_
    refine LOps.detP (Slots.cast (Det.bin rfl rfl (br_shl64 (b := 0))) (vi (b := lo) (by omega))) (Nat.le_of_ble_eq_true rfl) ?_
    refine LOps.detP (Det.assign rfl) (Nat.le_of_ble_eq_true rfl) ?_
    refine LOps.nil ?_
    refine LCode.seq ?_
    refine LCode.region ?_
    refine LOps.detP (Det.move rfl) (Nat.le_of_ble_eq_true rfl) ?_
    refine LOps.detP (Det.bin rfl rfl (br_shr64 (b := 32) (by omega))) (Nat.le_of_ble_eq_true rfl) ?_
    refine LOps.detP (Det.assign rfl) (Nat.le_of_ble_eq_true rfl) ?_
    refine LOps.nil ?_
    refine LCode.seq ?_
    refine LCode.region ?_
    refine LOps.detP (Det.move rfl) (Nat.le_of_ble_eq_true rfl) ?_
    refine LOps.detP (Slots.cast (Det.bin rfl rfl (br_and64 (b := 4294967295) (by omega) (by omega))) (vi (b := lo % 4294967296) (by rw [and32]))) (Nat.le_of_ble_eq_true rfl) ?_
    refine LOps.detP (Det.assign rfl) (Nat.le_of_ble_eq_true rfl) ?_
    refine LOps.nil ?_
    refine LCode.seq ?_
    refine LCode.region ?_
    refine LOps.detP (Det.move rfl) (Nat.le_of_ble_eq_true rfl) ?_
    refine LOps.detP (Det.move rfl) (Nat.le_of_ble_eq_true rfl) ?_
    refine LOps.detP (Det.bin rfl rfl (br_quo64 (by omega) (by omega))) (Nat.le_of_ble_eq_true rfl) ?_
    refine LOps.detP (Det.assign rfl) (Nat.le_of_ble_eq_true rfl) ?_
    refine LOps.nil ?_
    refine LCode.seq ?_
    refine LCode.region ?_
    refine LOps.detP (Det.move rfl) (Nat.le_of_ble_eq_true rfl) ?_
    refine LOps.detP (Det.move rfl) (Nat.le_of_ble_eq_true rfl) ?_
    refine LOps.detP (Det.move rfl) (Nat.le_of_ble_eq_true rfl) ?_
    refine LOps.detP (Det.bin rfl rfl (br_mul64)) (Nat.le_of_ble_eq_true rfl) ?_
    refine LOps.detP (Slots.cast (Det.bin rfl rfl (br_sub64 (Nat.mod_lt _ (by decide)))) (vi (b := hi % (y / 2 ^ 32)) (minus_div (by omega)))) (Nat.le_of_ble_eq_true rfl) ?_
    refine LOps.detP (Det.assign rfl) (Nat.le_of_ble_eq_true rfl) ?_
    refine LOps.nil ?_
    refine LCode.cut (α := Unit) (fun _ => True) (fun _ => ⟨[(2, .int .u64 ((y : Nat) : Int)), (9, .int .u64 ((y / 2 ^ 32 : Nat) : Int)), (10, .int .u64 ((y % 4294967296 : Nat) : Int)), (11, .int .u64 ((hi : Nat) : Int)), (12, .int .u64 ((lo : Nat) : Int)), (13, .int .u64 ((lo / 2 ^ 32 : Nat) : Int)), (14, .int .u64 ((lo % 4294967296 : Nat) : Int)), (8, .int .u64 ((0 : Nat) : Int)), (15, .int .u64 (((hi * 4294967296 + lo / 2 ^ 32) / y : Nat) : Int))], []⟩) ?_ ?_
    ·
      refine LCode.block ?_
      refine LCode.loop (α := Nat × Nat) (fun x => x.1 * (y / 2 ^ 32) + x.2 = hi ∧ (hi * 4294967296 + lo / 2 ^ 32) / y ≤ x.1 ∧ x.2 < 4294967296) (fun x => ⟨[(2, .int .u64 ((y : Nat) : Int)), (9, .int .u64 ((y / 2 ^ 32 : Nat) : Int)), (10, .int .u64 ((y % 4294967296 : Nat) : Int)), (11, .int .u64 ((hi : Nat) : Int)), (12, .int .u64 ((lo : Nat) : Int)), (13, .int .u64 ((lo / 2 ^ 32 : Nat) : Int)), (14, .int .u64 ((lo % 4294967296 : Nat) : Int)), (8, .int .u64 ((0 : Nat) : Int)), (15, .int .u64 ((x.1 : Nat) : Int)), (16, .int .u64 ((x.2 : Nat) : Int))], []⟩) (fun x => x.1) ((hi / (y / 2 ^ 32), hi % (y / 2 ^ 32))) (half_init _ _ _ hy hy2 (by first | assumption | exact Nat.mod_lt _ (by omega)) (by omega)) (Sub.mk (by exact ⟨rfl, rfl, rfl, rfl, rfl, rfl, rfl, rfl, rfl, rfl, trivial⟩) (by repeat (first | exact Sel.nil _ | refine Sel.cons (by repeat (first | exact Pick.head _ | apply Pick.tail)) ?_))) ?_
      rintro x ⟨hq1, hq2, hq3⟩
      have hql : x.1 < 18446744073709551616 := by
        have h1 : x.1 * 1 ≤ x.1 * (y / 2 ^ 32) := Nat.mul_le_mul_left _ (by omega)
        have h2 : hi < y := by first | assumption | exact Nat.mod_lt _ (by omega)
        generalize x.1 * (y / 2 ^ 32) = z at *
        omega
      refine LCode.seq ?_
      refine LCode.seq ?_
      rcases Nat.lt_or_ge x.1 4294967296 with hge | hge
      rotate_left
      ·
        refine LCode.region ?_
        refine LOps.detP (Det.move rfl) (Nat.le_of_ble_eq_true rfl) ?_
        refine LOps.detP (Det.bin rfl rfl (br_t (br_geq (b := 4294967296)) hge)) (Nat.le_of_ble_eq_true rfl) ?_
        refine LOps.detP (Det.move rfl) (Nat.le_of_ble_eq_true rfl) ?_
        refine LOps.skip rfl rfl rfl (Nat.le_of_ble_eq_true rfl) ?_
        refine LOps.skip rfl rfl rfl (Nat.le_of_ble_eq_true rfl) ?_
        refine LOps.skip rfl rfl rfl (Nat.le_of_ble_eq_true rfl) ?_
        refine LOps.skip rfl rfl rfl (Nat.le_of_ble_eq_true rfl) ?_
        refine LOps.skip rfl rfl rfl (Nat.le_of_ble_eq_true rfl) ?_
        refine LOps.skip rfl rfl rfl (Nat.le_of_ble_eq_true rfl) ?_
        refine LOps.skip rfl rfl rfl (Nat.le_of_ble_eq_true rfl) ?_
        refine LOps.skip rfl rfl rfl (Nat.le_of_ble_eq_true rfl) ?_
        refine LOps.detP (Det.pick_true rfl rfl) (Nat.le_of_ble_eq_true rfl) ?_
        refine LOps.nil ?_
        have hcont : 4294967296 ≤ x.1 ∨ (x.1 < 4294967296 ∧ 4294967296 * x.2 + (lo / 2 ^ 32) < x.1 * (y % 4294967296)) := .inl hge
        have hm := half_more (by omega) (by first | assumption | exact Nat.mod_lt _ (by omega)) (by omega) hq1 hq2 hcont
        refine LCode.cond_true rfl ?_
        refine LCode.skip ?_
        refine LCode.block ?_
        refine LCode.seq ?_
        refine LCode.region ?_
        refine LOps.detP (Det.move rfl) (Nat.le_of_ble_eq_true rfl) ?_
        refine LOps.detP (Slots.cast (Det.bin rfl rfl (br_sub64 (b := 1) (by omega))) (vi (b := x.1 - 1) (by have := hm.1; have : x.1 < 18446744073709551616 := hql; omega))) (Nat.le_of_ble_eq_true rfl) ?_
        refine LOps.detP (Det.assign rfl) (Nat.le_of_ble_eq_true rfl) ?_
        refine LOps.nil ?_
        refine LCode.seq ?_
        refine LCode.region ?_
        refine LOps.detP (Det.move rfl) (Nat.le_of_ble_eq_true rfl) ?_
        refine LOps.detP (Det.move rfl) (Nat.le_of_ble_eq_true rfl) ?_
        refine LOps.detP (Slots.cast (Det.bin rfl rfl br_add64) (vi (b := x.2 + y / 2 ^ 32) (by omega))) (Nat.le_of_ble_eq_true rfl) ?_
        refine LOps.detP (Det.assign rfl) (Nat.le_of_ble_eq_true rfl) ?_
        refine LOps.nil ?_
        refine LCode.seq ?_
        refine LCode.region ?_
        refine LOps.detP (Det.move rfl) (Nat.le_of_ble_eq_true rfl) ?_
        refine LOps.detP (Det.bin rfl rfl (br_geq (b := 4294967296))) (Nat.le_of_ble_eq_true rfl) ?_
        refine LOps.nil ?_
        first | refine LCode.condD rfl (fun hbrk => ?_) (fun hbrk => ?_) | refine LCode.cond rfl (fun hbrk => ?_) (fun hbrk => ?_)
        ·
          refine LCode.exit ?_
          have hqq := half_break hy (by first | assumption | exact Nat.mod_lt _ (by omega)) hm.2.1 hm.2.2 hbrk
          rw [hqq]
          exact ⟨(), trivial, Sub.mk (by exact ⟨rfl, rfl, rfl, rfl, rfl, rfl, rfl, rfl, rfl, trivial⟩) (by repeat (first | exact Sel.nil _ | refine Sel.cons (by repeat (first | exact Pick.head _ | apply Pick.tail)) ?_))⟩
        ·
          refine LCode.skip ?_
          refine ⟨(x.1 - 1, x.2 + y / 2 ^ 32), ⟨hm.2.1, hm.2.2, Nat.lt_of_not_le hbrk⟩, ?_, Sub.mk (by exact ⟨rfl, rfl, rfl, rfl, rfl, rfl, rfl, rfl, rfl, rfl, trivial⟩) (by repeat (first | exact Sel.nil _ | refine Sel.cons (by repeat (first | exact Pick.head _ | apply Pick.tail)) ?_))⟩
          show x.1 - 1 < x.1
          have := hm.1
          omega
      ·
        refine LCode.region ?_
        refine LOps.detP (Det.move rfl) (Nat.le_of_ble_eq_true rfl) ?_
        refine LOps.detP (Det.bin rfl rfl (br_f (br_geq (b := 4294967296)) (Nat.not_le_of_lt hge))) (Nat.le_of_ble_eq_true rfl) ?_
        refine LOps.detP (Det.move rfl) (Nat.le_of_ble_eq_true rfl) ?_
        refine LOps.detGP rfl rfl (Det.move rfl) (Nat.le_of_ble_eq_true rfl) ?_
        refine LOps.detGP rfl rfl (Det.move rfl) (Nat.le_of_ble_eq_true rfl) ?_
        refine LOps.detGP rfl rfl (Slots.cast (Det.bin rfl rfl br_mul64) (vi (b := x.1 * (y % 4294967296)) (by exact Nat.mod_eq_of_lt (by have := Nat.mul_le_mul (show x.1 ≤ 4294967295 by omega) (show y % 4294967296 ≤ 4294967295 by omega); omega)))) (Nat.le_of_ble_eq_true rfl) ?_
        refine LOps.detGP rfl rfl (Det.move rfl) (Nat.le_of_ble_eq_true rfl) ?_
        refine LOps.detGP rfl rfl (Det.bin rfl rfl (br_mul64 (a := 4294967296))) (Nat.le_of_ble_eq_true rfl) ?_
        refine LOps.detGP rfl rfl (Det.move rfl) (Nat.le_of_ble_eq_true rfl) ?_
        refine LOps.detGP rfl rfl (Slots.cast (Det.bin rfl rfl br_add64) (vi (b := 4294967296 * x.2 + (lo / 2 ^ 32)) (by omega))) (Nat.le_of_ble_eq_true rfl) ?_
        refine LOps.detGP rfl rfl (Det.bin rfl rfl (br_gtr)) (Nat.le_of_ble_eq_true rfl) ?_
        refine LOps.detP (Det.pick_false rfl rfl) (Nat.le_of_ble_eq_true rfl) ?_
        refine LOps.nil ?_
        first | refine LCode.condD rfl (fun hgt => ?_) (fun hgt => ?_) | refine LCode.cond rfl (fun hgt => ?_) (fun hgt => ?_)
        ·
          have hcont : 4294967296 ≤ x.1 ∨ (x.1 < 4294967296 ∧ 4294967296 * x.2 + (lo / 2 ^ 32) < x.1 * (y % 4294967296)) := .inr ⟨by omega, hgt⟩
          have hm := half_more (by omega) (by first | assumption | exact Nat.mod_lt _ (by omega)) (by omega) hq1 hq2 hcont
          refine LCode.skip ?_
          refine LCode.block ?_
          refine LCode.seq ?_
          refine LCode.region ?_
          refine LOps.detP (Det.move rfl) (Nat.le_of_ble_eq_true rfl) ?_
          refine LOps.detP (Slots.cast (Det.bin rfl rfl (br_sub64 (b := 1) (by omega))) (vi (b := x.1 - 1) (by have := hm.1; have : x.1 < 18446744073709551616 := hql; omega))) (Nat.le_of_ble_eq_true rfl) ?_
          refine LOps.detP (Det.assign rfl) (Nat.le_of_ble_eq_true rfl) ?_
          refine LOps.nil ?_
          refine LCode.seq ?_
          refine LCode.region ?_
          refine LOps.detP (Det.move rfl) (Nat.le_of_ble_eq_true rfl) ?_
          refine LOps.detP (Det.move rfl) (Nat.le_of_ble_eq_true rfl) ?_
          refine LOps.detP (Slots.cast (Det.bin rfl rfl br_add64) (vi (b := x.2 + y / 2 ^ 32) (by omega))) (Nat.le_of_ble_eq_true rfl) ?_
          refine LOps.detP (Det.assign rfl) (Nat.le_of_ble_eq_true rfl) ?_
          refine LOps.nil ?_
          refine LCode.seq ?_
          refine LCode.region ?_
          refine LOps.detP (Det.move rfl) (Nat.le_of_ble_eq_true rfl) ?_
          refine LOps.detP (Det.bin rfl rfl (br_geq (b := 4294967296))) (Nat.le_of_ble_eq_true rfl) ?_
          refine LOps.nil ?_
          first | refine LCode.condD rfl (fun hbrk => ?_) (fun hbrk => ?_) | refine LCode.cond rfl (fun hbrk => ?_) (fun hbrk => ?_)
          ·
            refine LCode.exit ?_
            have hqq := half_break hy (by first | assumption | exact Nat.mod_lt _ (by omega)) hm.2.1 hm.2.2 hbrk
            rw [hqq]
            exact ⟨(), trivial, Sub.mk (by exact ⟨rfl, rfl, rfl, rfl, rfl, rfl, rfl, rfl, rfl, trivial⟩) (by repeat (first | exact Sel.nil _ | refine Sel.cons (by repeat (first | exact Pick.head _ | apply Pick.tail)) ?_))⟩
          ·
            refine LCode.skip ?_
            refine ⟨(x.1 - 1, x.2 + y / 2 ^ 32), ⟨hm.2.1, hm.2.2, Nat.lt_of_not_le hbrk⟩, ?_, Sub.mk (by exact ⟨rfl, rfl, rfl, rfl, rfl, rfl, rfl, rfl, rfl, rfl, trivial⟩) (by repeat (first | exact Sel.nil _ | refine Sel.cons (by repeat (first | exact Pick.head _ | apply Pick.tail)) ?_))⟩
            show x.1 - 1 < x.1
            have := hm.1
            omega
        ·
          have hle : x.1 * (y % 4294967296) ≤ 4294967296 * x.2 + (lo / 2 ^ 32) := Nat.le_of_not_lt hgt
          refine LCode.exit ?_
          have hqq := half_quit (by omega) hq1 hq2 hle
          rw [hqq]
          exact ⟨(), trivial, Sub.mk (by exact ⟨rfl, rfl, rfl, rfl, rfl, rfl, rfl, rfl, rfl, trivial⟩) (by repeat (first | exact Sel.nil _ | refine Sel.cons (by repeat (first | exact Pick.head _ | apply Pick.tail)) ?_))⟩
    ·
      intro _ _
      refine LCode.seq ?_
      refine LCode.region ?_
      refine LOps.detP (Det.move rfl) (Nat.le_of_ble_eq_true rfl) ?_
      refine LOps.detP (Det.bin rfl rfl (br_mul64 (b := 4294967296))) (Nat.le_of_ble_eq_true rfl) ?_
      refine LOps.detP (Det.move rfl) (Nat.le_of_ble_eq_true rfl) ?_
      refine LOps.detP (Det.bin rfl rfl (br_add64)) (Nat.le_of_ble_eq_true rfl) ?_
      refine LOps.detP (Det.move rfl) (Nat.le_of_ble_eq_true rfl) ?_
      refine LOps.detP (Det.move rfl) (Nat.le_of_ble_eq_true rfl) ?_
      refine LOps.detP (Det.bin rfl rfl (br_mul64)) (Nat.le_of_ble_eq_true rfl) ?_
      refine LOps.detP (Slots.cast (Det.bin rfl rfl (br_sub64 (Nat.mod_lt _ (by decide)))) (vi (b := (hi * 4294967296 + lo / 2 ^ 32) % y) (by exact half_rest (by omega) hy2))) (Nat.le_of_ble_eq_true rfl) ?_
      refine LOps.detP (Det.assign rfl) (Nat.le_of_ble_eq_true rfl) ?_
      refine LOps.nil ?_
      refine LCode.seq ?_
      have hrr : (hi * 4294967296 + lo / 2 ^ 32) % y < y := Nat.mod_lt _ (by omega)
      refine LCode.region ?_
      refine LOps.detP (Det.move rfl) (Nat.le_of_ble_eq_true rfl) ?_
      refine LOps.detP (Det.move rfl) (Nat.le_of_ble_eq_true rfl) ?_
      refine LOps.detP (Det.bin rfl rfl (br_quo64 (by omega) (by omega))) (Nat.le_of_ble_eq_true rfl) ?_
      refine LOps.detP (Det.assign rfl) (Nat.le_of_ble_eq_true rfl) ?_
      refine LOps.nil ?_
      refine LCode.seq ?_
      refine LCode.region ?_
      refine LOps.detP (Det.move rfl) (Nat.le_of_ble_eq_true rfl) ?_
      refine LOps.detP (Det.move rfl) (Nat.le_of_ble_eq_true rfl) ?_
      refine LOps.detP (Det.move rfl) (Nat.le_of_ble_eq_true rfl) ?_
      refine LOps.detP (Det.bin rfl rfl (br_mul64)) (Nat.le_of_ble_eq_true rfl) ?_
      refine LOps.detP (Slots.cast (Det.bin rfl rfl (br_sub64 (Nat.mod_lt _ (by decide)))) (vi (b := ((hi * 4294967296 + lo / 2 ^ 32) % y) % (y / 2 ^ 32)) (minus_div (by omega)))) (Nat.le_of_ble_eq_true rfl) ?_
      refine LOps.detP (Det.assign rfl) (Nat.le_of_ble_eq_true rfl) ?_
      refine LOps.nil ?_
      refine LCode.cut (α := Unit) (fun _ => True) (fun _ => ⟨[(2, .int .u64 ((y : Nat) : Int)), (9, .int .u64 ((y / 2 ^ 32 : Nat) : Int)), (10, .int .u64 ((y % 4294967296 : Nat) : Int)), (14, .int .u64 ((lo % 4294967296 : Nat) : Int)), (8, .int .u64 ((0 : Nat) : Int)), (15, .int .u64 (((hi * 4294967296 + lo / 2 ^ 32) / y : Nat) : Int)), (17, .int .u64 (((hi * 4294967296 + lo / 2 ^ 32) % y : Nat) : Int)), (18, .int .u64 ((((hi * 4294967296 + lo / 2 ^ 32) % y * 4294967296 + lo % 4294967296) / y : Nat) : Int))], []⟩) ?_ ?_
      ·
        refine LCode.block ?_
        refine LCode.loop (α := Nat × Nat) (fun x => x.1 * (y / 2 ^ 32) + x.2 = ((hi * 4294967296 + lo / 2 ^ 32) % y) ∧ (((hi * 4294967296 + lo / 2 ^ 32) % y) * 4294967296 + lo % 4294967296) / y ≤ x.1 ∧ x.2 < 4294967296) (fun x => ⟨[(2, .int .u64 ((y : Nat) : Int)), (9, .int .u64 ((y / 2 ^ 32 : Nat) : Int)), (10, .int .u64 ((y % 4294967296 : Nat) : Int)), (14, .int .u64 ((lo % 4294967296 : Nat) : Int)), (8, .int .u64 ((0 : Nat) : Int)), (15, .int .u64 (((hi * 4294967296 + lo / 2 ^ 32) / y : Nat) : Int)), (17, .int .u64 (((hi * 4294967296 + lo / 2 ^ 32) % y : Nat) : Int)), (18, .int .u64 ((x.1 : Nat) : Int)), (16, .int .u64 ((x.2 : Nat) : Int))], []⟩) (fun x => x.1) ((((hi * 4294967296 + lo / 2 ^ 32) % y) / (y / 2 ^ 32), ((hi * 4294967296 + lo / 2 ^ 32) % y) % (y / 2 ^ 32))) (half_init _ _ _ hy hy2 (by first | assumption | exact Nat.mod_lt _ (by omega)) (by omega)) (Sub.mk (by exact ⟨rfl, rfl, rfl, rfl, rfl, rfl, rfl, rfl, rfl, trivial⟩) (by repeat (first | exact Sel.nil _ | refine Sel.cons (by repeat (first | exact Pick.head _ | apply Pick.tail)) ?_))) ?_
        rintro x ⟨hq1, hq2, hq3⟩
        have hql : x.1 < 18446744073709551616 := by
          have h1 : x.1 * 1 ≤ x.1 * (y / 2 ^ 32) := Nat.mul_le_mul_left _ (by omega)
          have h2 : ((hi * 4294967296 + lo / 2 ^ 32) % y) < y := by first | assumption | exact Nat.mod_lt _ (by omega)
          generalize x.1 * (y / 2 ^ 32) = z at *
          omega
        refine LCode.seq ?_
        refine LCode.seq ?_
        rcases Nat.lt_or_ge x.1 4294967296 with hge | hge
        rotate_left
        ·
          refine LCode.region ?_
          refine LOps.detP (Det.move rfl) (Nat.le_of_ble_eq_true rfl) ?_
          refine LOps.detP (Det.bin rfl rfl (br_t (br_geq (b := 4294967296)) hge)) (Nat.le_of_ble_eq_true rfl) ?_
          refine LOps.detP (Det.move rfl) (Nat.le_of_ble_eq_true rfl) ?_
          refine LOps.skip rfl rfl rfl (Nat.le_of_ble_eq_true rfl) ?_
          refine LOps.skip rfl rfl rfl (Nat.le_of_ble_eq_true rfl) ?_
          refine LOps.skip rfl rfl rfl (Nat.le_of_ble_eq_true rfl) ?_
          refine LOps.skip rfl rfl rfl (Nat.le_of_ble_eq_true rfl) ?_
          refine LOps.skip rfl rfl rfl (Nat.le_of_ble_eq_true rfl) ?_
          refine LOps.skip rfl rfl rfl (Nat.le_of_ble_eq_true rfl) ?_
          refine LOps.skip rfl rfl rfl (Nat.le_of_ble_eq_true rfl) ?_
          refine LOps.skip rfl rfl rfl (Nat.le_of_ble_eq_true rfl) ?_
          refine LOps.detP (Det.pick_true rfl rfl) (Nat.le_of_ble_eq_true rfl) ?_
          refine LOps.nil ?_
          have hcont : 4294967296 ≤ x.1 ∨ (x.1 < 4294967296 ∧ 4294967296 * x.2 + (lo % 4294967296) < x.1 * (y % 4294967296)) := .inl hge
          have hm := half_more (by omega) (by first | assumption | exact Nat.mod_lt _ (by omega)) (by omega) hq1 hq2 hcont
          refine LCode.cond_true rfl ?_
          refine LCode.skip ?_
          refine LCode.block ?_
          refine LCode.seq ?_
          refine LCode.region ?_
          refine LOps.detP (Det.move rfl) (Nat.le_of_ble_eq_true rfl) ?_
          refine LOps.detP (Slots.cast (Det.bin rfl rfl (br_sub64 (b := 1) (by omega))) (vi (b := x.1 - 1) (by have := hm.1; have : x.1 < 18446744073709551616 := hql; omega))) (Nat.le_of_ble_eq_true rfl) ?_
          refine LOps.detP (Det.assign rfl) (Nat.le_of_ble_eq_true rfl) ?_
          refine LOps.nil ?_
          refine LCode.seq ?_
          refine LCode.region ?_
          refine LOps.detP (Det.move rfl) (Nat.le_of_ble_eq_true rfl) ?_
          refine LOps.detP (Det.move rfl) (Nat.le_of_ble_eq_true rfl) ?_
          refine LOps.detP (Slots.cast (Det.bin rfl rfl br_add64) (vi (b := x.2 + y / 2 ^ 32) (by omega))) (Nat.le_of_ble_eq_true rfl) ?_
          refine LOps.detP (Det.assign rfl) (Nat.le_of_ble_eq_true rfl) ?_
          refine LOps.nil ?_
          refine LCode.seq ?_
          refine LCode.region ?_
          refine LOps.detP (Det.move rfl) (Nat.le_of_ble_eq_true rfl) ?_
          refine LOps.detP (Det.bin rfl rfl (br_geq (b := 4294967296))) (Nat.le_of_ble_eq_true rfl) ?_
          refine LOps.nil ?_
          first | refine LCode.condD rfl (fun hbrk => ?_) (fun hbrk => ?_) | refine LCode.cond rfl (fun hbrk => ?_) (fun hbrk => ?_)
          ·
            refine LCode.exit ?_
            have hqq := half_break hy (by first | assumption | exact Nat.mod_lt _ (by omega)) hm.2.1 hm.2.2 hbrk
            rw [hqq]
            exact ⟨(), trivial, Sub.mk (by exact ⟨rfl, rfl, rfl, rfl, rfl, rfl, rfl, rfl, trivial⟩) (by repeat (first | exact Sel.nil _ | refine Sel.cons (by repeat (first | exact Pick.head _ | apply Pick.tail)) ?_))⟩
          ·
            refine LCode.skip ?_
            refine ⟨(x.1 - 1, x.2 + y / 2 ^ 32), ⟨hm.2.1, hm.2.2, Nat.lt_of_not_le hbrk⟩, ?_, Sub.mk (by exact ⟨rfl, rfl, rfl, rfl, rfl, rfl, rfl, rfl, rfl, trivial⟩) (by repeat (first | exact Sel.nil _ | refine Sel.cons (by repeat (first | exact Pick.head _ | apply Pick.tail)) ?_))⟩
            show x.1 - 1 < x.1
            have := hm.1
            omega
        ·
          refine LCode.region ?_
          refine LOps.detP (Det.move rfl) (Nat.le_of_ble_eq_true rfl) ?_
          refine LOps.detP (Det.bin rfl rfl (br_f (br_geq (b := 4294967296)) (Nat.not_le_of_lt hge))) (Nat.le_of_ble_eq_true rfl) ?_
          refine LOps.detP (Det.move rfl) (Nat.le_of_ble_eq_true rfl) ?_
          refine LOps.detGP rfl rfl (Det.move rfl) (Nat.le_of_ble_eq_true rfl) ?_
          refine LOps.detGP rfl rfl (Det.move rfl) (Nat.le_of_ble_eq_true rfl) ?_
          refine LOps.detGP rfl rfl (Slots.cast (Det.bin rfl rfl br_mul64) (vi (b := x.1 * (y % 4294967296)) (by exact Nat.mod_eq_of_lt (by have := Nat.mul_le_mul (show x.1 ≤ 4294967295 by omega) (show y % 4294967296 ≤ 4294967295 by omega); omega)))) (Nat.le_of_ble_eq_true rfl) ?_
          refine LOps.detGP rfl rfl (Det.move rfl) (Nat.le_of_ble_eq_true rfl) ?_
          refine LOps.detGP rfl rfl (Det.bin rfl rfl (br_mul64 (a := 4294967296))) (Nat.le_of_ble_eq_true rfl) ?_
          refine LOps.detGP rfl rfl (Det.move rfl) (Nat.le_of_ble_eq_true rfl) ?_
          refine LOps.detGP rfl rfl (Slots.cast (Det.bin rfl rfl br_add64) (vi (b := 4294967296 * x.2 + (lo % 4294967296)) (by omega))) (Nat.le_of_ble_eq_true rfl) ?_
          refine LOps.detGP rfl rfl (Det.bin rfl rfl (br_gtr)) (Nat.le_of_ble_eq_true rfl) ?_
          refine LOps.detP (Det.pick_false rfl rfl) (Nat.le_of_ble_eq_true rfl) ?_
          refine LOps.nil ?_
          first | refine LCode.condD rfl (fun hgt => ?_) (fun hgt => ?_) | refine LCode.cond rfl (fun hgt => ?_) (fun hgt => ?_)
          ·
            have hcont : 4294967296 ≤ x.1 ∨ (x.1 < 4294967296 ∧ 4294967296 * x.2 + (lo % 4294967296) < x.1 * (y % 4294967296)) := .inr ⟨by omega, hgt⟩
            have hm := half_more (by omega) (by first | assumption | exact Nat.mod_lt _ (by omega)) (by omega) hq1 hq2 hcont
            refine LCode.skip ?_
            refine LCode.block ?_
            refine LCode.seq ?_
            refine LCode.region ?_
            refine LOps.detP (Det.move rfl) (Nat.le_of_ble_eq_true rfl) ?_
            refine LOps.detP (Slots.cast (Det.bin rfl rfl (br_sub64 (b := 1) (by omega))) (vi (b := x.1 - 1) (by have := hm.1; have : x.1 < 18446744073709551616 := hql; omega))) (Nat.le_of_ble_eq_true rfl) ?_
            refine LOps.detP (Det.assign rfl) (Nat.le_of_ble_eq_true rfl) ?_
            refine LOps.nil ?_
            refine LCode.seq ?_
            refine LCode.region ?_
            refine LOps.detP (Det.move rfl) (Nat.le_of_ble_eq_true rfl) ?_
            refine LOps.detP (Det.move rfl) (Nat.le_of_ble_eq_true rfl) ?_
            refine LOps.detP (Slots.cast (Det.bin rfl rfl br_add64) (vi (b := x.2 + y / 2 ^ 32) (by omega))) (Nat.le_of_ble_eq_true rfl) ?_
            refine LOps.detP (Det.assign rfl) (Nat.le_of_ble_eq_true rfl) ?_
            refine LOps.nil ?_
            refine LCode.seq ?_
            refine LCode.region ?_
            refine LOps.detP (Det.move rfl) (Nat.le_of_ble_eq_true rfl) ?_
            refine LOps.detP (Det.bin rfl rfl (br_geq (b := 4294967296))) (Nat.le_of_ble_eq_true rfl) ?_
            refine LOps.nil ?_
            first | refine LCode.condD rfl (fun hbrk => ?_) (fun hbrk => ?_) | refine LCode.cond rfl (fun hbrk => ?_) (fun hbrk => ?_)
            ·
              refine LCode.exit ?_
              have hqq := half_break hy (by first | assumption | exact Nat.mod_lt _ (by omega)) hm.2.1 hm.2.2 hbrk
              rw [hqq]
              exact ⟨(), trivial, Sub.mk (by exact ⟨rfl, rfl, rfl, rfl, rfl, rfl, rfl, rfl, trivial⟩) (by repeat (first | exact Sel.nil _ | refine Sel.cons (by repeat (first | exact Pick.head _ | apply Pick.tail)) ?_))⟩
            ·
              refine LCode.skip ?_
              refine ⟨(x.1 - 1, x.2 + y / 2 ^ 32), ⟨hm.2.1, hm.2.2, Nat.lt_of_not_le hbrk⟩, ?_, Sub.mk (by exact ⟨rfl, rfl, rfl, rfl, rfl, rfl, rfl, rfl, rfl, trivial⟩) (by repeat (first | exact Sel.nil _ | refine Sel.cons (by repeat (first | exact Pick.head _ | apply Pick.tail)) ?_))⟩
              show x.1 - 1 < x.1
              have := hm.1
              omega
          ·
            have hle : x.1 * (y % 4294967296) ≤ 4294967296 * x.2 + (lo % 4294967296) := Nat.le_of_not_lt hgt
            refine LCode.exit ?_
            have hqq := half_quit (by omega) hq1 hq2 hle
            rw [hqq]
            exact ⟨(), trivial, Sub.mk (by exact ⟨rfl, rfl, rfl, rfl, rfl, rfl, rfl, rfl, trivial⟩) (by repeat (first | exact Sel.nil _ | refine Sel.cons (by repeat (first | exact Pick.head _ | apply Pick.tail)) ?_))⟩
      ·
        intro _ _
        refine LCode.seq ?_
        refine LCode.region ?_
        refine LOps.detP (Det.move rfl) (Nat.le_of_ble_eq_true rfl) ?_
        refine LOps.detP (Det.bin rfl rfl (br_mul64 (b := 4294967296))) (Nat.le_of_ble_eq_true rfl) ?_
        refine LOps.detP (Det.move rfl) (Nat.le_of_ble_eq_true rfl) ?_
        refine LOps.detP (Det.bin rfl rfl (br_add64)) (Nat.le_of_ble_eq_true rfl) ?_
        refine LOps.detP (Det.move rfl) (Nat.le_of_ble_eq_true rfl) ?_
        refine LOps.detP (Det.bin rfl rfl (br_mul64 (b := 4294967296))) (Nat.le_of_ble_eq_true rfl) ?_
        refine LOps.detP (Det.move rfl) (Nat.le_of_ble_eq_true rfl) ?_
        refine LOps.detP (Det.bin rfl rfl (br_add64)) (Nat.le_of_ble_eq_true rfl) ?_
        refine LOps.detP (Det.move rfl) (Nat.le_of_ble_eq_true rfl) ?_
        refine LOps.detP (Det.move rfl) (Nat.le_of_ble_eq_true rfl) ?_
        refine LOps.detP (Det.bin rfl rfl (br_mul64)) (Nat.le_of_ble_eq_true rfl) ?_
        refine LOps.detP (Slots.cast (Det.bin rfl rfl (br_sub64 (Nat.mod_lt _ (by decide)))) (vi (b := (((hi * 4294967296 + lo / 2 ^ 32) % y) * 4294967296 + lo % 4294967296) % y) (by exact half_rest (by omega) hy2))) (Nat.le_of_ble_eq_true rfl) ?_
        refine LOps.detP (Det.move rfl) (Nat.le_of_ble_eq_true rfl) ?_
        refine LOps.detP (Slots.cast (Det.bin rfl rfl (br_shr64 (b := 0) (Nat.lt_trans (Nat.mod_lt _ (by omega)) hy2))) (vi (b := (((hi * 4294967296 + lo / 2 ^ 32) % y) * 4294967296 + lo % 4294967296) % y) (by rw [Nat.pow_zero, Nat.div_one]))) (Nat.le_of_ble_eq_true rfl) ?_
        refine LOps.detP (Det.assign rfl) (Nat.le_of_ble_eq_true rfl) ?_
        refine LOps.detP (Det.assign rfl) (Nat.le_of_ble_eq_true rfl) ?_
        refine LOps.nil ?_
        refine LCode.ret ?_
        have hv := halves (hi := hi) (lo := lo) (show 0 < y by omega)
        have hq9 : (hi * 18446744073709551616 + lo) / y < 18446744073709551616 := by
          rw [Nat.div_lt_iff_lt_mul (by omega), Nat.mul_comm]
          omega
        refine ⟨[_, _], .cons rfl (.cons rfl .nil), fun a w' hr => ⟨?_, hr.fr.below⟩⟩
        rw [← hv.1, ← hv.2]
        rw [← hv.1] at hq9
        refine congrArg (fun n : Nat => Ending.returned (.tuple #[.int .u64 (n : Int), _])) ?_
        exact wrap_sum hq9

end Go.Proofs.Ytljblbgogjieaaa
