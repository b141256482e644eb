/- Walks: what functions of the program come to, step by step. -/
import Derived.Test.YtljblbgogjieaaaW13
set_option linter.unusedVariables false
set_option linter.unusedSimpArgs false
set_option maxRecDepth 20000
namespace Go.Proofs.Ytljblbgogjieaaa
open Go Go.RowKit

theorem c_n_Bytes (q : NV) (A n : Nat) (w : World) (hq : (numT q A).holds w) (hA : D.nw A ≤ 1000000) (hn : n ≤ 72) : Calls Try.prog 54 ([numV q A, .int .i64 ((n : Nat) : Int)] : List Value).toArray w (fun e w' => e = .returned (if 8 * n < blen A then .tuple #[.string ⟨#[]⟩, .bool false] else .tuple #[.string (strOf (beBytes n A)), .bool true]) ∧ Below w.heap.size w w') := by
  refine calls_ro (N := 46) (rs := [.tmp 4, .tmp 5]) [numT q A] Try.func54 rfl Try.ntmps54 Try.results54 (Nat.le_of_ble_eq_true rfl) ⟨hq, trivial⟩ rfl ?_
  show LCode _ _ _ ⟨_, _⟩ _
  refine LCode.seq ?_
  refine LCode.region ?_
  refine LOps.detP (Det.assign rfl) (Nat.le_of_ble_eq_true rfl) ?_
  refine LOps.detP (Det.assign rfl) (Nat.le_of_ble_eq_true rfl) ?_
  refine LOps.nil ?_
  refine LCode.seq ?_
  refine LCode.seq ?_
  refine LCode.region ?_
  refine LOps.detP (Det.move rfl) (Nat.le_of_ble_eq_true rfl) ?_
  refine LOps.detP (Det.bin rfl rfl (br_f (br_lss (b := 0)) (Nat.not_lt_zero _))) (Nat.le_of_ble_eq_true rfl) ?_
  refine LOps.detP (Det.move rfl) (Nat.le_of_ble_eq_true rfl) ?_
  refine LOps.detGP rfl rfl (Det.move rfl) (Nat.le_of_ble_eq_true rfl) ?_
  refine LOps.detGP rfl rfl (Det.bin rfl rfl (br_f (br_gtr (b := 72)) (by omega))) (Nat.le_of_ble_eq_true rfl) ?_
  refine LOps.detP (Det.pick_false rfl rfl) (Nat.le_of_ble_eq_true rfl) ?_
  refine LOps.detP (Det.move rfl) (Nat.le_of_ble_eq_true rfl) ?_
  refine LOps.detGP rfl rfl (Det.move rfl) (Nat.le_of_ble_eq_true rfl) ?_
  refine LOps.stepG rfl rfl rfl (LStep.w (LStep.callF (first := []) rfl en_76 rfl (Nat.le_of_ble_eq_true rfl) (fun w hw => c_n_Bits q A w (hw _ (by repeat (first | exact List.Mem.head _ | apply List.Mem.tail))) hA) ?_))
  refine LOps.detGP rfl rfl (Det.move rfl) (Nat.le_of_ble_eq_true rfl) ?_
  refine LOps.detGP rfl rfl (Det.bin rfl rfl (br_mul (a := 8) (by omega))) (Nat.le_of_ble_eq_true rfl) ?_
  refine LOps.detGP rfl rfl (Det.bin rfl rfl (br_gtr)) (Nat.le_of_ble_eq_true rfl) ?_
  refine LOps.detP (Det.pick_false rfl rfl) (Nat.le_of_ble_eq_true rfl) ?_
  refine LOps.nil ?_
  first | refine LCode.condD rfl (fun h20 => ?_) (fun h20 => ?_) | refine LCode.cond rfl (fun h20 => ?_) (fun h20 => ?_)
  ·
    have h20 : 8 * n < blen A := h20
    refine LCode.seq ?_
    refine LCode.region ?_
    refine LOps.detP (Det.assign rfl) (Nat.le_of_ble_eq_true rfl) ?_
    refine LOps.detP (Det.assign rfl) (Nat.le_of_ble_eq_true rfl) ?_
    refine LOps.nil ?_
    refine LCode.ret ?_
    refine ⟨[_, _], .cons rfl (.cons rfl .nil), fun a w' hr => ⟨?_, hr.fr.below⟩⟩
    rw [if_pos h20]
    rfl
  ·
    have h20 : ¬ 8 * n < blen A := h20
    refine LCode.skip ?_
    refine LCode.seq ?_
    refine LCode.region ?_
    refine LOps.detP (Det.move rfl) (Nat.le_of_ble_eq_true rfl) ?_
    refine LOps.step rfl (LStep.w (LStep.makes (Makes.mkV Try.underlying52 inf_5 rfl rfl (by omega) (by omega)) (Nat.le_of_ble_eq_true rfl) (fun b22 => ?_)))
    refine LOps.detP (Det.assign rfl) (Nat.le_of_ble_eq_true rfl) ?_
    refine LOps.nil ?_
    refine LCode.seq ?_
    refine LCode.seq ?_
    refine LCode.region ?_
    refine LOps.detP (Det.assign (v := .int .i64 ((0 : Nat) : Int)) rfl) (Nat.le_of_ble_eq_true rfl) ?_
    refine LOps.nil ?_
    refine LCode.block ?_
    refine LCode.loop (α := Nat) (fun x => x ≤ n) (fun x => ⟨[(0, numV q A), (1, .int .i64 ((n : Nat) : Int)), (6, .slice (some ⟨b22, 0, none⟩) n n), (7, .int .i64 ((x : Nat) : Int))], [.blk b22 ⟨true, vec .u8 n (fun j => if n - x ≤ j then A / 256 ^ (n - 1 - j) % 256 else 0), 5, (0, 0)⟩, numT q A]⟩) (fun x => n - x) (0) (Nat.zero_le _) (Sub.re (Sub.cells (b := b22) (cs' := vec .u8 n (fun j => if n - 0 ≤ j then A / 256 ^ (n - 1 - j) % 256 else 0)) (by repeat (first | exact SetAt.head _ | apply SetAt.tail)) (vec_congr fun j hj => by rw [if_neg (by omega)])) (Sub.mk ⟨rfl, rfl, rfl, rfl, trivial⟩ (by repeat (first | exact Sel.nil _ | refine Sel.cons (by repeat (first | exact Pick.head _ | apply Pick.tail)) ?_)))) ?_
    intro x hx
    refine LCode.seq ?_
    refine LCode.seq ?_
    refine LCode.region ?_
    refine LOps.detP (Det.move rfl) (Nat.le_of_ble_eq_true rfl) ?_
    refine LOps.detP (Det.move rfl) (Nat.le_of_ble_eq_true rfl) ?_
    refine LOps.detP (Det.bin rfl rfl (br_lss)) (Nat.le_of_ble_eq_true rfl) ?_
    refine LOps.nil ?_
    first | refine LCode.condD rfl (fun h25 => ?_) (fun h25 => ?_) | refine LCode.cond rfl (fun h25 => ?_) (fun h25 => ?_)
    ·
      refine LCode.skip ?_
      refine LCode.seq ?_
      refine LCode.block ?_
      refine LCode.region ?_
      refine LOps.detP (Det.move rfl) (Nat.le_of_ble_eq_true rfl) ?_
      refine LOps.detP (Det.move rfl) (Nat.le_of_ble_eq_true rfl) ?_
      refine LOps.detP (Det.bin rfl rfl (br_sub (b := 1) (by omega) (by omega))) (Nat.le_of_ble_eq_true rfl) ?_
      refine LOps.detP (Det.move rfl) (Nat.le_of_ble_eq_true rfl) ?_
      refine LOps.detP (Det.bin rfl rfl (br_sub (by omega) (by omega))) (Nat.le_of_ble_eq_true rfl) ?_
      refine LOps.detP (Det.move rfl) (Nat.le_of_ble_eq_true rfl) ?_
      refine LOps.detP (Det.move rfl) (Nat.le_of_ble_eq_true rfl) ?_
      refine LOps.detP (Det.bin rfl rfl (br_quo (b := 4) (by omega) (by omega))) (Nat.le_of_ble_eq_true rfl) ?_
      refine LOps.step rfl (LStep.w (LStep.callF (first := []) rfl en_118 rfl (Nat.le_of_ble_eq_true rfl) (fun w hw => c_n_digit q A (D.nw A) (x / 4) w (hw _ (by repeat (first | exact List.Mem.head _ | apply List.Mem.tail)))) ?_))
      refine LOps.detP (Det.move rfl) (Nat.le_of_ble_eq_true rfl) ?_
      refine LOps.detP (Det.bin rfl rfl (br_rem (b := 4) (by omega))) (Nat.le_of_ble_eq_true rfl) ?_
      refine LOps.detP (Det.bin rfl rfl (br_mul (b := 8) (by omega))) (Nat.le_of_ble_eq_true rfl) ?_
      refine LOps.detP (Det.bin rfl rfl (br_shr64 (Nat.lt_trans (D.limb_lt _ _) (by decide)))) (Nat.le_of_ble_eq_true rfl) ?_
      refine LOps.detP (Det.bin rfl rfl (br_and64 (b := 255) (Nat.lt_of_le_of_lt (Nat.div_le_self _ _) (Nat.lt_trans (D.limb_lt _ _) (by decide))) (by decide))) (Nat.le_of_ble_eq_true rfl) ?_
      refine LOps.detP (Det.conv8 Try.underlying22 Try.underlying5 rfl) (Nat.le_of_ble_eq_true rfl) ?_
      refine LOps.detP (Det.indexS0 Try.underlying52 sz_5 rfl rfl (by omega)) (Nat.le_of_ble_eq_true rfl) ?_
      refine LOps.step rfl (LStepW.store1 rfl rfl rfl sz_5 (by repeat (first | exact SetAt.head _ | apply SetAt.tail)) (by first | (simp only [vec_length, natL_length, wideL_length, dv_length]; omega) | (simp; omega)) (by first | exact vec_set _ _ _ _ _ | exact dv_setm _ _ _ _ (by omega) | exact dv_sets _ _ _ _ | rfl) (by simp) ?_)
      refine LOps.nil ?_
      refine LCode.region ?_
      refine LOps.detP (Det.move rfl) (Nat.le_of_ble_eq_true rfl) ?_
      refine LOps.detP (Det.bin rfl rfl (br_add (b := 1) (by omega))) (Nat.le_of_ble_eq_true rfl) ?_
      refine LOps.detP (Det.assign rfl) (Nat.le_of_ble_eq_true rfl) ?_
      refine LOps.nil ?_
      refine ⟨x + 1, by omega, by omega, Sub.re (Sub.cells (b := b22) (cs' := vec .u8 n (fun j => if n - (x + 1) ≤ j then A / 256 ^ (n - 1 - j) % 256 else 0)) (by repeat (first | exact SetAt.head _ | apply SetAt.tail)) (vec_congr fun j hj => ?_)) (Sub.mk ⟨rfl, rfl, rfl, rfl, trivial⟩ (by repeat (first | exact Sel.nil _ | refine Sel.cons (by repeat (first | exact Pick.head _ | apply Pick.tail)) ?_)))⟩
      by_cases e : j = n - 1 - x
      · rw [if_pos e, if_pos (by omega), and255, Nat.mod_mod, show x % 4 * 8 = 8 * (x % 4) by omega, D.byte_of, show n - 1 - j = x by omega]
      · rw [if_neg e]
        by_cases e2 : n - x ≤ j
        · rw [if_pos e2, if_pos (by omega)]
        · rw [if_neg e2, if_neg (by omega)]
    ·
      refine LCode.exit ?_
      refine LCode.seq ?_
      refine LCode.region ?_
      refine LOps.detP (Det.move rfl) (Nat.le_of_ble_eq_true rfl) ?_
      refine LOps.det (Det.bytesStr Try.underlying52 Try.underlying5 Try.underlying9 rfl (by repeat (first | exact List.Mem.head _ | apply List.Mem.tail)) (by exact (List.take_of_length_le (by simp [vec_length])).trans (List.drop_zero))) (Nat.le_of_ble_eq_true rfl) ?_
      refine LOps.detP (Det.assign rfl) (Nat.le_of_ble_eq_true rfl) ?_
      refine LOps.detP (Det.assign rfl) (Nat.le_of_ble_eq_true rfl) ?_
      refine LOps.nil ?_
      refine LCode.ret ?_
      have hx9 : x = n := by omega
      subst hx9
      refine ⟨[_, _], .cons rfl (.cons rfl .nil), fun a w' hr => ⟨?_, hr.fr.below⟩⟩
      rw [if_neg h20]
      have e : ((List.range x).map fun i => UInt8.ofNat ((fun j => if x - x ≤ j then A / 256 ^ (x - 1 - j) % 256 else 0) i)) = beBytes x A := by
        apply List.map_congr_left
        intro i hi
        dsimp only
        rw [if_pos (by omega)]
      rw [e]
      rfl

theorem beVal_take {l : List UInt8} {x : Nat} (h : x < l.length) : beVal (l.take (x + 1)) = beVal (l.take x) * 256 + (l.getD x 0).toNat := by
  rw [List.take_succ_eq_append_getElem h, beVal_append]
  have : l.getD x 0 = l[x] := by rw [List.getD_eq_getElem?_getD, List.getElem?_eq_getElem h]; rfl
  rw [this]
  simp [beVal]
theorem beVal_take_lt (l : List UInt8) (x : Nat) (h : x ≤ l.length) : beVal (l.take x) < 256 ^ x := by
  have := beVal_lt (l.take x)
  rwa [List.length_take, Nat.min_eq_left h] at this
/-- The highest x bytes, as far up as they stand. -/
def beTop (l : List UInt8) (x : Nat) : Nat := beVal (l.take x) * 256 ^ (l.length - x)
theorem beTop_zero (l : List UInt8) : beTop l 0 = 0 := by simp [beTop, beVal]
theorem beTop_all (l : List UInt8) : beTop l l.length = beVal l := by simp [beTop]
theorem beTop_succ {l : List UInt8} {x : Nat} (h : x < l.length) : beTop l (x + 1) = beTop l x + (l.getD x 0).toNat * 2 ^ (8 * (4 * ((l.length - 1 - x) / 4) + (l.length - 1 - x) % 4)) ∧ beTop l x % 2 ^ (8 * (4 * ((l.length - 1 - x) / 4) + (l.length - 1 - x) % 4 + 1)) = 0 := by
  rw [show 4 * ((l.length - 1 - x) / 4) + (l.length - 1 - x) % 4 = l.length - 1 - x by omega, ← pow256, ← pow256, show l.length - 1 - x + 1 = l.length - x by omega]
  unfold beTop
  refine ⟨?_, Nat.mul_mod_left _ _⟩
  rw [beVal_take h, show l.length - (x + 1) = l.length - 1 - x by omega, Nat.add_mul, Nat.mul_assoc]
  congr 2
  rw [Nat.mul_comm 256, ← Nat.pow_succ, show (l.length - 1 - x).succ = l.length - x by omega]
theorem beTop_lt (l : List UInt8) (x : Nat) (h : x ≤ l.length) : beTop l x < 2 ^ (32 * (l.length / 4 + 1)) := by
  have h1 := beVal_take_lt l x h
  have h2 : beTop l x < 256 ^ x * 256 ^ (l.length - x) := Nat.mul_lt_mul_of_pos_right h1 (Nat.pow_pos (by decide))
  rw [← Nat.pow_add, show x + (l.length - x) = l.length by omega, pow256] at h2
  exact Nat.lt_of_lt_of_le h2 (Nat.pow_le_pow_right (by decide) (by omega))

theorem c_n_Read (s : ByteArray) (w : World) (hs : s.size ≤ 1000000) : Calls Try.prog 117 ([.string s] : List Value).toArray w (fun e w' => NumR w ([]) (beVal s.data.toList) (fun v => v) e w') := by
  have hbv : beVal s.data.toList < 2 ^ (32 * (s.size / 4 + 1)) := by have := beTop_lt s.data.toList s.data.toList.length (Nat.le_refl _); rwa [beTop_all] at this
  refine calls_ro (N := 42) (rs := [.tmp 2]) [] Try.func117 rfl Try.ntmps117 Try.results117 (Nat.le_of_ble_eq_true rfl) trivial rfl ?_
  show LCode _ _ _ ⟨_, _⟩ _
  refine LCode.seq ?_
  refine LCode.region ?_
  refine LOps.detP (Det.assign rfl) (Nat.le_of_ble_eq_true rfl) ?_
  refine LOps.nil ?_
  refine LCode.seq ?_
  refine LCode.region ?_
  refine LOps.detP (Det.move rfl) (Nat.le_of_ble_eq_true rfl) ?_
  refine LOps.detP (Det.lens Try.underlying9 rfl) (Nat.le_of_ble_eq_true rfl) ?_
  refine LOps.detP (Det.bin rfl rfl (br_quo (b := 4) (by omega) (by omega))) (Nat.le_of_ble_eq_true rfl) ?_
  refine LOps.detP (Det.bin rfl rfl (br_add (b := 1) (by omega))) (Nat.le_of_ble_eq_true rfl) ?_
  refine LOps.step rfl (LStep.w (LStep.makes (Makes.mkV Try.underlying29 inf_56 rfl rfl (by omega) (by omega)) (Nat.le_of_ble_eq_true rfl) (fun b10 => ?_)))
  refine LOps.detP (Det.assign rfl) (Nat.le_of_ble_eq_true rfl) ?_
  refine LOps.nil ?_
  refine LCode.seq ?_
  refine LCode.seq ?_
  refine LCode.region ?_
  refine LOps.detP (Det.assign (v := .int .i64 ((0 : Nat) : Int)) rfl) (Nat.le_of_ble_eq_true rfl) ?_
  refine LOps.nil ?_
  refine LCode.block ?_
  refine LCode.loop (α := Nat) (fun x => x ≤ s.size) (fun x => ⟨[(0, .string s), (3, .slice (some ⟨b10, 0, none⟩) (s.size / 4 + 1) (s.size / 4 + 1)), (4, .int .i64 ((x : Nat) : Int))], [.blk b10 ⟨true, vec .u32 (s.size / 4 + 1) (D.limb (beTop s.data.toList (x))), 56, (0, 0)⟩]⟩) (fun x => s.size - x) (0) (Nat.zero_le _) (Sub.re (Sub.cells (b := b10) (cs' := vec .u32 (s.size / 4 + 1) (D.limb (beTop s.data.toList (0)))) (by repeat (first | exact SetAt.head _ | apply SetAt.tail)) (vec_congr fun j hj => by rw [beTop_zero, D.limb_zero])) (Sub.mk ⟨rfl, rfl, rfl, trivial⟩ (by repeat (first | exact Sel.nil _ | refine Sel.cons (by repeat (first | exact Pick.head _ | apply Pick.tail)) ?_)))) ?_
  intro x hx
  refine LCode.seq ?_
  refine LCode.seq ?_
  refine LCode.region ?_
  refine LOps.detP (Det.move rfl) (Nat.le_of_ble_eq_true rfl) ?_
  refine LOps.detP (Det.move rfl) (Nat.le_of_ble_eq_true rfl) ?_
  refine LOps.detP (Det.lens Try.underlying9 rfl) (Nat.le_of_ble_eq_true rfl) ?_
  refine LOps.detP (Det.bin rfl rfl (br_lss)) (Nat.le_of_ble_eq_true rfl) ?_
  refine LOps.nil ?_
  first | refine LCode.condD rfl (fun h14 => ?_) (fun h14 => ?_) | refine LCode.cond rfl (fun h14 => ?_) (fun h14 => ?_)
  ·
    have h14 : x < s.size := h14
    refine LCode.skip ?_
    refine LCode.seq ?_
    refine LCode.block ?_
    refine LCode.seq ?_
    refine LCode.region ?_
    refine LOps.detP (Det.move rfl) (Nat.le_of_ble_eq_true rfl) ?_
    refine LOps.detP (Det.lens Try.underlying9 rfl) (Nat.le_of_ble_eq_true rfl) ?_
    refine LOps.detP (Det.bin rfl rfl (br_sub (b := 1) (by omega) (by omega))) (Nat.le_of_ble_eq_true rfl) ?_
    refine LOps.detP (Det.move rfl) (Nat.le_of_ble_eq_true rfl) ?_
    refine LOps.detP (Det.bin rfl rfl (br_sub (by omega) (by omega))) (Nat.le_of_ble_eq_true rfl) ?_
    refine LOps.detP (Det.assign rfl) (Nat.le_of_ble_eq_true rfl) ?_
    refine LOps.nil ?_
    have hy : (s.data.toList.getD x 0).toNat < 256 := UInt8.toNat_lt _
    have hsl : s.data.toList.length = s.size := rfl
    have hbt := beTop_succ (l := s.data.toList) (x := x) (by rw [hsl]; exact h14)
    rw [hsl] at hbt
    have hlb := D.limb_below (V := beTop s.data.toList (x)) (y := (s.data.toList.getD x 0).toNat) (s := 8) (w := 4) (i := (s.size - 1 - x) / 4) (k := (s.size - 1 - x) % 4) rfl (Nat.mod_lt _ (by decide)) hbt.2 hy
    refine LCode.regionD [18] (by kernel_rfl) ?_
    refine LAny.takeP 0 rfl (by kernel_rfl) (Nat.le_of_ble_eq_true rfl) (Det.move rfl) ?_
    refine LAny.takeP 1 rfl (by kernel_rfl) (Nat.le_of_ble_eq_true rfl) (Det.move rfl) ?_
    refine LAny.takeP 2 rfl (by kernel_rfl) (Nat.le_of_ble_eq_true rfl) (Det.bin rfl rfl (br_quo (b := 4) (by omega) (by omega))) ?_
    refine LAny.takeP 3 rfl (by kernel_rfl) (Nat.le_of_ble_eq_true rfl) (Det.move rfl) ?_
    refine LAny.takeP 4 rfl (by kernel_rfl) (Nat.le_of_ble_eq_true rfl) (Det.move rfl) ?_
    refine LAny.takeP 5 rfl (by kernel_rfl) (Nat.le_of_ble_eq_true rfl) (Det.bin rfl rfl (br_quo (b := 4) (by omega) (by omega))) ?_
    refine LAny.takeP 6 rfl (by kernel_rfl) (Nat.le_of_ble_eq_true rfl) (Det.indexS0 Try.underlying29 sz_56 rfl rfl (by omega)) ?_
    refine LAny.take 7 rfl (by kernel_rfl) (Nat.le_of_ble_eq_true rfl) (Det.load rfl (by repeat (first | exact List.Mem.head _ | apply List.Mem.tail)) (LoadV.one Try.underlying56 rfl (by exact vec_get _ _ _ (show (s.size - 1 - x) / 4 < s.size / 4 + 1 by omega)))) ?_
    refine LAny.takeP 8 rfl (by kernel_rfl) (Nat.le_of_ble_eq_true rfl) (Det.move rfl) ?_
    refine LAny.takeP 9 rfl (by kernel_rfl) (Nat.le_of_ble_eq_true rfl) (Det.move rfl) ?_
    refine LAny.takeP 10 rfl (by kernel_rfl) (Nat.le_of_ble_eq_true rfl) (Slots.cast (Det.indexStr Try.underlying9 rfl rfl (by omega) (by omega)) (vi (b := (s.data.toList.getD x 0).toNat) (by rw [Int.toNat_natCast]))) ?_
    refine LAny.takeP 11 rfl (by kernel_rfl) (Nat.le_of_ble_eq_true rfl) (Slots.cast (Det.conv32 Try.underlying5 Try.underlying56 rfl) (vi (b := (s.data.toList.getD x 0).toNat) (by rw [Nat.mod_eq_of_lt (by omega)]))) ?_
    refine LAny.takeP 12 rfl (by kernel_rfl) (Nat.le_of_ble_eq_true rfl) (Det.move rfl) ?_
    refine LAny.takeP 13 rfl (by kernel_rfl) (Nat.le_of_ble_eq_true rfl) (Det.bin rfl rfl (br_rem (b := 4) (by omega))) ?_
    refine LAny.takeP 14 rfl (by kernel_rfl) (Nat.le_of_ble_eq_true rfl) (Det.bin rfl rfl (br_mul (b := 8) (by omega))) ?_
    refine LAny.takeP 15 rfl (by kernel_rfl) (Nat.le_of_ble_eq_true rfl) (Det.bin rfl rfl (br_shl32)) ?_
    refine LAny.takeP 16 rfl (by kernel_rfl) (Nat.le_of_ble_eq_true rfl) (Det.bin rfl rfl (br_or32 (D.limb_lt _ _) (Nat.mod_lt _ (by decide)))) ?_
    refine LAny.takeP 17 rfl (by kernel_rfl) (Nat.le_of_ble_eq_true rfl) (Det.indexS0 Try.underlying29 sz_56 rfl rfl (by omega)) ?_
    refine LAny.late 18 rfl rfl (by kernel_rfl) (by kernel_rfl) (LStepW.store1 rfl rfl rfl sz_56 (by repeat (first | exact SetAt.head _ | apply SetAt.tail)) (by first | (simp only [vec_length, natL_length, wideL_length, dv_length]; omega) | (simp; omega)) (by first | exact vec_set _ _ _ _ _ | exact dv_setm _ _ _ _ (by omega) | exact dv_sets _ _ _ _ | rfl) (by simp) ?_)
    refine LAny.done (by kernel_rfl) ?_
    refine LCode.region ?_
    refine LOps.detP (Det.move rfl) (Nat.le_of_ble_eq_true rfl) ?_
    refine LOps.detP (Det.bin rfl rfl (br_add (b := 1) (by omega))) (Nat.le_of_ble_eq_true rfl) ?_
    refine LOps.detP (Det.assign rfl) (Nat.le_of_ble_eq_true rfl) ?_
    refine LOps.nil ?_
    refine ⟨x + 1, by omega, by omega, Sub.re (Sub.cells (b := b10) (cs' := vec .u32 (s.size / 4 + 1) (D.limb (beTop s.data.toList (x + 1)))) (by repeat (first | exact SetAt.head _ | apply SetAt.tail)) (vec_congr fun j hj => ?_)) (Sub.mk ⟨rfl, rfl, rfl, trivial⟩ (by repeat (first | exact Sel.nil _ | refine Sel.cons (by repeat (first | exact Pick.head _ | apply Pick.tail)) ?_)))⟩
    rw [hbt.1, hlb.2 j, show (s.size - 1 - x) % 4 * 8 = 8 * ((s.size - 1 - x) % 4) by omega]
  ·
    have h14 : ¬ x < s.size := h14
    refine LCode.exit ?_
    refine LCode.seq ?_
    obtain rfl : x = s.size := by omega
    refine LCode.sub (Sub.cells (b := b10) (cs' := vec .u32 (s.size / 4 + 1) (D.limb (beVal s.data.toList))) (by repeat (first | exact SetAt.head _ | apply SetAt.tail)) (by rw [show s.size = s.data.toList.length from rfl, beTop_all])) ?_
    refine LCode.region ?_
    refine LOps.detP (Det.move rfl) (Nat.le_of_ble_eq_true rfl) ?_
    refine LOps.step rfl (LStep.w (LStep.callF (first := []) rfl en_120 rfl (Nat.le_of_ble_eq_true rfl) (fun w hw => c_trim (beVal s.data.toList) b10 (s.size / 4 + 1) (s.size / 4 + 1) (s.size / 4 + 1) _ true w (hw _ (by repeat (first | exact List.Mem.head _ | apply List.Mem.tail))) (Nat.le_refl _) (Nat.le_refl _) (by omega) hbv) ?_))
    refine LOps.detP (Det.assign rfl) (Nat.le_of_ble_eq_true rfl) ?_
    refine LOps.nil ?_
    refine LCode.ret ?_
    refine ⟨[_], .cons rfl .nil, fun a w' hr => hr.num (by repeat (first | exact List.Mem.head _ | apply List.Mem.tail)) (hbv)⟩

end Go.Proofs.Ytljblbgogjieaaa
