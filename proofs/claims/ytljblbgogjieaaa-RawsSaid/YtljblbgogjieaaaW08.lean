/- Walks: what functions of the program come to, step by step. -/
import Derived.Test.YtljblbgogjieaaaW07
set_option linter.unusedVariables false
set_option linter.unusedSimpArgs false
set_option maxRecDepth 20000
namespace Go.Proofs.Ytljblbgogjieaaa
open Go Go.RowKit

theorem fill_zero (W s : Nat) : W % 2 ^ (64 * 0) * 2 ^ s = 0 := by rw [Nat.mul_zero, Nat.pow_zero, Nat.mod_one, Nat.zero_mul]
theorem rest_or {U s i : Nat} (hs : s < 64) : (limb U i / 2 ^ s ||| limb U (i + 1) * 2 ^ (64 - s) % 18446744073709551616) = limb (U / 2 ^ s) i := by
  have := shr_or (A := U) (w := 0) (r := s) (i := i) hs
  rwa [Nat.add_zero, Nat.mul_zero, Nat.zero_add] at this
theorem quo_store {K x y : Nat} (hx : x < 18446744073709551616) (j : Nat) : (if j = y then x else limb (K * 2 ^ (64 * (y + 1))) j) = limb ((K * 18446744073709551616 + x) * 2 ^ (64 * y)) j := by
  have h0 : limb (K * 2 ^ (64 * (y + 1))) y = 0 := by
    unfold limb
    rw [pow64_succ, ← Nat.mul_assoc, Nat.mul_div_cancel _ (pow64_pos y), Nat.mul_mod_left]
  have := limb_addl (K * 2 ^ (64 * (y + 1))) x y j (by rw [h0]; omega)
  rw [h0, Nat.zero_add] at this
  rw [← this, Nat.add_mul, pow64_succ, Nat.mul_assoc]
theorem quo_sum {U U0 K x y D V : Nat} (h1 : U + x * D * 2 ^ (64 * y) = U0) (h2 : U0 + K * 2 ^ (64 * (y + 1)) * D = V) : U + (K * 18446744073709551616 + x) * 2 ^ (64 * y) * D = V := by
  rw [← h2, ← h1, pow64_succ]
  generalize 2 ^ (64 * y) = A
  grind

theorem c_divide (m W bd bw l c : Nat) (tw : TypeId) (ww : Bool) (hm0 : m ≠ 0) (w : World) (hbd : (Item.blk bd ⟨false, dvL m, 241, (0, 0)⟩).holds w) (hbw : (Item.blk bw ⟨ww, vec .u64 c (limb W), tw, (0, 0)⟩).holds w) (hm : m < W9) (hlc : l ≤ c) (hc : c ≤ 18) (hW : W < 2 ^ (64 * l)) : Calls Try.prog 186 ([.pointer (some ⟨bd, 0, none⟩), .slice (some ⟨bw, 0, none⟩) l c] : List Value).toArray w (fun e w' => e = .returned (.tuple #[wideV (W / m), natV (W % m)]) ∧ Below w.heap.size w w') := by
  refine calls_ro (N := 124) (rs := [.cell 4 230, .cell 5 25]) [.blk bd ⟨false, dvL m, 241, (0, 0)⟩, .blk bw ⟨false, vec .u64 c (limb W), tw, (0, 0)⟩] Try.func186 rfl Try.ntmps186 Try.results186 (Nat.le_of_ble_eq_true rfl) ⟨hbd, hbw, trivial⟩ rfl ?_
  show LCode _ _ _ ⟨_, _⟩ _
  refine LCode.seq ?_
  have hn0 := nw_pos hm0
  have hn9 := nw_w9 hm
  have hs64 := dsh_lt hm0
  refine LCode.region ?_
  refine LOps.step rfl (LStep.w (LStep.makes (Makes.allocA zr_230) (Nat.le_of_ble_eq_true rfl) (fun b4 => ?_)))
  refine LOps.step rfl (LStep.w (LStep.makes (Makes.allocA zr_25) (Nat.le_of_ble_eq_true rfl) (fun b5 => ?_)))
  refine LOps.nil ?_
  refine LCode.seq ?_
  refine LCode.region ?_
  refine LOps.step rfl (LStep.w (LStep.makes (Makes.allocA zr_243) (Nat.le_of_ble_eq_true rfl) (fun b6 => ?_)))
  refine LOps.nil ?_
  refine LCode.seq ?_
  refine LCode.region ?_
  refine LOps.step rfl (LStep.w (LStep.makes (Makes.allocA zr_230) (Nat.le_of_ble_eq_true rfl) (fun b7 => ?_)))
  refine LOps.nil ?_
  refine LCode.seq ?_
  refine LCode.seq ?_
  refine LCode.region ?_
  refine LOps.detP (Det.move rfl) (Nat.le_of_ble_eq_true rfl) ?_
  refine LOps.detP (Det.len Try.underlying234 rfl) (Nat.le_of_ble_eq_true rfl) ?_
  refine LOps.detP (Det.move (v := .int .i64 ((0 : Nat) : Int)) rfl) (Nat.le_of_ble_eq_true rfl) ?_
  refine LOps.nil ?_
  refine LCode.block ?_
  refine LCode.loop (α := Nat) (fun x => x ≤ l) (fun x => ⟨[(0, .pointer (some ⟨bd, 0, none⟩)), (1, .slice (some ⟨bw, 0, none⟩) l c), (4, .pointer (some ⟨b4, 0, none⟩)), (5, .pointer (some ⟨b5, 0, none⟩)), (6, .pointer (some ⟨b6, 0, none⟩)), (7, .pointer (some ⟨b7, 0, none⟩)), (15, .slice (some ⟨bw, 0, none⟩) l c), (16, .int .i64 ((l : Nat) : Int)), (17, .int .i64 ((x : Nat) : Int))], [.blk b6 ⟨true, vec .u64 19 (limb (W % 2 ^ (64 * x) * 2 ^ dsh m)), 243, (0, 0)⟩, .blk b7 ⟨true, vec .u64 18 (fun _ => 0), 230, (0, 0)⟩, .blk b5 ⟨true, vec .u64 9 (fun _ => 0), 25, (0, 0)⟩, .blk b4 ⟨true, vec .u64 18 (fun _ => 0), 230, (0, 0)⟩, .blk bd ⟨false, dvL m, 241, (0, 0)⟩, .blk bw ⟨false, vec .u64 c (limb W), tw, (0, 0)⟩]⟩) (fun x => l - x) (0) (Nat.zero_le _) (Sub.re (Sub.cells (b := b6) (cs' := vec .u64 19 (limb (W % 2 ^ (64 * 0) * 2 ^ dsh m))) (by repeat (first | exact SetAt.head _ | apply SetAt.tail)) (by rw [fill_zero]; exact vec_zeros 19)) (Sub.mk ⟨rfl, rfl, rfl, rfl, rfl, rfl, rfl, rfl, rfl, trivial⟩ (by repeat (first | exact Sel.nil _ | refine Sel.cons (by repeat (first | exact Pick.head _ | apply Pick.tail)) ?_)))) ?_
  intro x hx
  refine LCode.seq ?_
  refine LCode.region ?_
  refine LOps.detP (Det.bin rfl rfl (br_lss)) (Nat.le_of_ble_eq_true rfl) ?_
  refine LOps.nil ?_
  refine LCode.seq ?_
  first | refine LCode.condD rfl (fun h18 => ?_) (fun h18 => ?_) | refine LCode.cond rfl (fun h18 => ?_) (fun h18 => ?_)
  ·
    have h18 : x < l := h18
    refine LCode.skip ?_
    refine LCode.seq ?_
    refine LCode.block ?_
    refine LCode.seq ?_
    refine LCode.region ?_
    refine LOps.detP (Det.move rfl) (Nat.le_of_ble_eq_true rfl) ?_
    refine LOps.detP (Det.indexS0 Try.underlying234 sz_22 rfl rfl (by omega)) (Nat.le_of_ble_eq_true rfl) ?_
    refine LOps.det (Det.load rfl (by repeat (first | exact List.Mem.head _ | apply List.Mem.tail)) (LoadV.one Try.underlying22 rfl (by exact vec_get _ _ _ (show x < c by omega)))) (Nat.le_of_ble_eq_true rfl) ?_
    refine LOps.detP (Det.assign rfl) (Nat.le_of_ble_eq_true rfl) ?_
    refine LOps.detP (Det.assign rfl) (Nat.le_of_ble_eq_true rfl) ?_
    refine LOps.nil ?_
    refine LCode.seq ?_
    refine LCode.regionD [11] (by kernel_rfl) ?_
    refine LAny.takeP 0 rfl (by kernel_rfl) (Nat.le_of_ble_eq_true rfl) (Det.move rfl) ?_
    refine LAny.takeP 1 rfl (by kernel_rfl) (Nat.le_of_ble_eq_true rfl) (Det.indexA0 Try.underlying243 sz_22 rfl rfl (by omega)) ?_
    refine LAny.take 2 rfl (by kernel_rfl) (Nat.le_of_ble_eq_true rfl) (Det.load rfl (by repeat (first | exact List.Mem.head _ | apply List.Mem.tail)) (LoadV.one Try.underlying22 rfl (by exact vec_get _ _ _ (show x < 19 by omega)))) ?_
    refine LAny.takeP 3 rfl (by kernel_rfl) (Nat.le_of_ble_eq_true rfl) (Det.move rfl) ?_
    refine LAny.takeP 4 rfl (by kernel_rfl) (Nat.le_of_ble_eq_true rfl) (Det.move rfl) ?_
    refine LAny.takeP 5 rfl (by kernel_rfl) (Nat.le_of_ble_eq_true rfl) (Det.nilCheck rfl) ?_
    refine LAny.takeP 6 rfl (by kernel_rfl) (Nat.le_of_ble_eq_true rfl) (Det.fieldA (o' := 10) Try.underlying241 rfl rfl rfl sz_3 (by decide)) ?_
    refine LAny.take 7 rfl (by kernel_rfl) (Nat.le_of_ble_eq_true rfl) (Det.load rfl (by repeat (first | exact List.Mem.head _ | apply List.Mem.tail)) (LoadV.one Try.underlying3 rfl (dvL_s _))) ?_
    refine LAny.takeP 8 rfl (by kernel_rfl) (Nat.le_of_ble_eq_true rfl) (Det.bin rfl rfl (br_shl64)) ?_
    refine LAny.takeP 9 rfl (by kernel_rfl) (Nat.le_of_ble_eq_true rfl) (Det.bin rfl rfl (br_or64 (limb_lt _ _) (Nat.mod_lt _ (by decide)))) ?_
    refine LAny.takeP 10 rfl (by kernel_rfl) (Nat.le_of_ble_eq_true rfl) (Det.indexA0 Try.underlying243 sz_22 rfl rfl (by omega)) ?_
    refine LAny.late 11 rfl rfl (by kernel_rfl) (by kernel_rfl) (LStepW.store1 rfl rfl rfl sz_22 (by repeat (first | exact SetAt.head _ | apply SetAt.tail)) (by first | (simp only [vec_length, natL_length, wideL_length, dv_length]; omega) | (simp; omega)) (by first | exact vec_set _ _ _ _ _ | exact dv_setm _ _ _ _ (by omega) | exact dv_sets _ _ _ _ | rfl) (by simp) ?_)
    refine LAny.done (by kernel_rfl) ?_
    refine LCode.seq ?_
    refine LCode.region ?_
    refine LOps.detP (Det.move rfl) (Nat.le_of_ble_eq_true rfl) ?_
    refine LOps.detP (Det.nilCheck rfl) (Nat.le_of_ble_eq_true rfl) ?_
    refine LOps.detP (Det.fieldA (o' := 10) Try.underlying241 rfl rfl rfl sz_3 (by decide)) (Nat.le_of_ble_eq_true rfl) ?_
    refine LOps.det (Det.load rfl (by repeat (first | exact List.Mem.head _ | apply List.Mem.tail)) (LoadV.one Try.underlying3 rfl (dvL_s _))) (Nat.le_of_ble_eq_true rfl) ?_
    refine LOps.detP (Det.bin rfl rfl (br_gtr (b := 0))) (Nat.le_of_ble_eq_true rfl) ?_
    refine LOps.nil ?_
    first | refine LCode.condD rfl (fun h37 => ?_) (fun h37 => ?_) | refine LCode.cond rfl (fun h37 => ?_) (fun h37 => ?_)
    ·
      have h37 : 0 < dsh m := h37
      refine LCode.region ?_
      refine LOps.detP (Det.move rfl) (Nat.le_of_ble_eq_true rfl) ?_
      refine LOps.detP (Det.bin rfl rfl (br_add (b := 1) (by omega))) (Nat.le_of_ble_eq_true rfl) ?_
      refine LOps.detP (Det.move rfl) (Nat.le_of_ble_eq_true rfl) ?_
      refine LOps.detP (Det.move rfl) (Nat.le_of_ble_eq_true rfl) ?_
      refine LOps.detP (Det.nilCheck rfl) (Nat.le_of_ble_eq_true rfl) ?_
      refine LOps.detP (Det.fieldA (o' := 10) Try.underlying241 rfl rfl rfl sz_3 (by decide)) (Nat.le_of_ble_eq_true rfl) ?_
      refine LOps.det (Det.load rfl (by repeat (first | exact List.Mem.head _ | apply List.Mem.tail)) (LoadV.one Try.underlying3 rfl (dvL_s _))) (Nat.le_of_ble_eq_true rfl) ?_
      refine LOps.detP (Det.bin rfl rfl (br_sub (a := 64) (by omega) (by omega))) (Nat.le_of_ble_eq_true rfl) ?_
      refine LOps.detP (Det.bin rfl rfl (br_shr64 (limb_lt _ _))) (Nat.le_of_ble_eq_true rfl) ?_
      refine LOps.detP (Det.indexA0 Try.underlying243 sz_22 rfl rfl (by omega)) (Nat.le_of_ble_eq_true rfl) ?_
      refine LOps.step rfl (LStepW.store1 rfl rfl rfl sz_22 (by repeat (first | exact SetAt.head _ | apply SetAt.tail)) (by first | (simp only [vec_length, natL_length, wideL_length, dv_length]; omega) | (simp; omega)) (by first | exact vec_set _ _ _ _ _ | exact dv_setm _ _ _ _ (by omega) | exact dv_sets _ _ _ _ | rfl) (by simp) ?_)
      refine LOps.nil ?_
      refine LCode.region ?_
      refine LOps.detP (Det.bin rfl rfl (br_add (b := 1) (by omega))) (Nat.le_of_ble_eq_true rfl) ?_
      refine LOps.detP (Det.move rfl) (Nat.le_of_ble_eq_true rfl) ?_
      refine LOps.nil ?_
      refine ⟨x + 1, by omega, by omega, Sub.re (Sub.cells (b := b6) (cs' := vec .u64 19 (limb (W % 2 ^ (64 * (x + 1)) * 2 ^ dsh m))) (by repeat (first | exact SetAt.head _ | apply SetAt.tail)) (vec_congr fun j _ => (fill_step hs64 j).symm)) (Sub.mk ⟨rfl, rfl, rfl, rfl, rfl, rfl, rfl, rfl, rfl, trivial⟩ (by repeat (first | exact Sel.nil _ | refine Sel.cons (by repeat (first | exact Pick.head _ | apply Pick.tail)) ?_)))⟩
    ·
      have h37 : ¬ 0 < dsh m := h37
      refine LCode.skip ?_
      refine LCode.region ?_
      refine LOps.detP (Det.bin rfl rfl (br_add (b := 1) (by omega))) (Nat.le_of_ble_eq_true rfl) ?_
      refine LOps.detP (Det.move rfl) (Nat.le_of_ble_eq_true rfl) ?_
      refine LOps.nil ?_
      refine ⟨x + 1, by omega, by omega, Sub.re (Sub.cells (b := b6) (cs' := vec .u64 19 (limb (W % 2 ^ (64 * (x + 1)) * 2 ^ dsh m))) (by repeat (first | exact SetAt.head _ | apply SetAt.tail)) (vec_congr fun j _ => ?_)) (Sub.mk ⟨rfl, rfl, rfl, rfl, rfl, rfl, rfl, rfl, rfl, trivial⟩ (by repeat (first | exact Sel.nil _ | refine Sel.cons (by repeat (first | exact Pick.head _ | apply Pick.tail)) ?_)))⟩
      rw [fill_step hs64 j]
      by_cases e : j = x + 1
      · rw [if_pos e, if_neg (by omega), e, (fill_word hs64).2, show 64 - dsh m = 64 by omega]
        exact (Nat.div_eq_of_lt (limb_lt W x)).symm
      · rw [if_neg e]
  ·
    have h18 : ¬ x < l := h18
    have hxl : x = l := by omega
    subst hxl
    refine LCode.exit ?_
    refine LCode.seq ?_
    refine LCode.seq ?_
    refine LCode.region ?_
    refine LOps.detP (Det.move rfl) (Nat.le_of_ble_eq_true rfl) ?_
    refine LOps.detP (Det.len Try.underlying234 rfl) (Nat.le_of_ble_eq_true rfl) ?_
    refine LOps.detP (Det.move rfl) (Nat.le_of_ble_eq_true rfl) ?_
    refine LOps.detP (Det.nilCheck rfl) (Nat.le_of_ble_eq_true rfl) ?_
    refine LOps.detP (Det.fieldA (o' := 9) Try.underlying241 rfl rfl rfl sz_3 (by decide)) (Nat.le_of_ble_eq_true rfl) ?_
    refine LOps.det (Det.load rfl (by repeat (first | exact List.Mem.head _ | apply List.Mem.tail)) (LoadV.one Try.underlying3 rfl (dvL_n _))) (Nat.le_of_ble_eq_true rfl) ?_
    refine LOps.detP (Det.bin (v := .int .i64 ((x : Int) - (nw m : Int))) rfl rfl (br_subI (by omega) (by omega))) (Nat.le_of_ble_eq_true rfl) ?_
    refine LOps.detP (Det.assign rfl) (Nat.le_of_ble_eq_true rfl) ?_
    refine LOps.nil ?_
    refine LCode.block ?_
    refine LCode.loop (α := Int × Nat × Nat) (fun x => (-20 ≤ x.1 ∧ x.1 + nw m ≤ 18) ∧ x.2.1 + x.2.2 * 2 ^ (64 * (x.1 + 1).toNat) * dnm m = W * 2 ^ dsh m ∧ x.2.1 < dnm m * 2 ^ (64 * (x.1 + 1).toNat)) (fun x => ⟨[(0, .pointer (some ⟨bd, 0, none⟩)), (4, .pointer (some ⟨b4, 0, none⟩)), (5, .pointer (some ⟨b5, 0, none⟩)), (6, .pointer (some ⟨b6, 0, none⟩)), (7, .pointer (some ⟨b7, 0, none⟩)), (10, .int .i64 x.1)], [.blk b6 ⟨true, vec .u64 19 (limb x.2.1), 243, (0, 0)⟩, .blk b7 ⟨true, wideL (x.2.2 * 2 ^ (64 * (x.1 + 1).toNat)), 230, (0, 0)⟩, .blk b5 ⟨true, vec .u64 9 (fun _ => 0), 25, (0, 0)⟩, .blk b4 ⟨true, vec .u64 18 (fun _ => 0), 230, (0, 0)⟩, .blk bd ⟨false, dvL m, 241, (0, 0)⟩]⟩) (fun x => (x.1 + 1).toNat) (((x : Int) - nw m, W * 2 ^ dsh m, 0)) (⟨⟨by dsimp only; omega, by dsimp only; omega⟩, by dsimp only; rw [Nat.zero_mul, Nat.zero_mul, Nat.add_zero], by
      dsimp only
      rcases Nat.lt_or_ge x (nw m) with hlt | hge
      · rw [show ((x : Int) - nw m + 1).toNat = 0 by omega, Nat.mul_zero, Nat.pow_zero, Nat.mul_one]
        exact div_short hm0 hlt hW
      · rw [show ((x : Int) - nw m + 1).toNat = x - nw m + 1 by omega]
        exact div_begin hm0 hge hW⟩) (Sub.re (Sub.cells (b := b6) (cs' := vec .u64 19 (limb (W * 2 ^ dsh m))) (by repeat (first | exact SetAt.head _ | apply SetAt.tail)) (by rw [Nat.mod_eq_of_lt hW])) (Sub.re (Sub.cells (b := b7) (cs' := wideL (0 * 2 ^ (64 * ((x : Int) - nw m + 1).toNat))) (by repeat (first | exact SetAt.head _ | apply SetAt.tail)) (by rw [Nat.zero_mul]; exact vec_zeros 18)) (Sub.mk ⟨rfl, rfl, rfl, rfl, rfl, rfl, trivial⟩ (by repeat (first | exact Sel.nil _ | refine Sel.cons (by repeat (first | exact Pick.head _ | apply Pick.tail)) ?_))))) ?_
    intro x ⟨⟨hx1, hx2⟩, hx3, hx4⟩
    refine LCode.seq ?_
    refine LCode.seq ?_
    rcases Int.lt_or_le x.1 0 with hz | hz
    ·
      refine LCode.region ?_
      refine LOps.detP (Det.move rfl) (Nat.le_of_ble_eq_true rfl) ?_
      refine LOps.detP (Det.bin (v := .bool false) rfl rfl (by simp [binRes]; omega)) (Nat.le_of_ble_eq_true rfl) ?_
      refine LOps.nil ?_
      have ha0 : (x.1 + 1).toNat = 0 := by omega
      rw [ha0, Nat.mul_zero, Nat.pow_zero, Nat.mul_one] at hx3
      rw [ha0, Nat.mul_zero, Nat.pow_zero, Nat.mul_one] at hx4
      have hend := div_end hm0 hx3 hx4
      refine LCode.cond_false rfl ?_
      refine LCode.exit ?_
      refine LCode.seq ?_
      refine LCode.region ?_
      refine LOps.step rfl (LStep.w (LStep.makes (Makes.allocA zr_25) (Nat.le_of_ble_eq_true rfl) (fun b13 => ?_)))
      refine LOps.nil ?_
      refine LCode.seq ?_
      refine LCode.seq ?_
      refine LCode.region ?_
      refine LOps.detP (Det.move rfl) (Nat.le_of_ble_eq_true rfl) ?_
      refine LOps.detP (Det.nilCheck rfl) (Nat.le_of_ble_eq_true rfl) ?_
      refine LOps.detP (Det.fieldA (o' := 9) Try.underlying241 rfl rfl rfl sz_3 (by decide)) (Nat.le_of_ble_eq_true rfl) ?_
      refine LOps.det (Det.load rfl (by repeat (first | exact List.Mem.head _ | apply List.Mem.tail)) (LoadV.one Try.underlying3 rfl (dvL_n _))) (Nat.le_of_ble_eq_true rfl) ?_
      refine LOps.detP (Det.move (v := .int .i64 ((0 : Nat) : Int)) rfl) (Nat.le_of_ble_eq_true rfl) ?_
      refine LOps.nil ?_
      refine LCode.block ?_
      refine LCode.loop (α := Nat) (fun i => i ≤ nw m) (fun i => ⟨[(0, .pointer (some ⟨bd, 0, none⟩)), (4, .pointer (some ⟨b4, 0, none⟩)), (5, .pointer (some ⟨b5, 0, none⟩)), (6, .pointer (some ⟨b6, 0, none⟩)), (7, .pointer (some ⟨b7, 0, none⟩)), (13, .pointer (some ⟨b13, 0, none⟩)), (84, .int .i64 ((nw m : Nat) : Int)), (85, .int .i64 ((i : Nat) : Int))], [.blk b13 ⟨true, vec .u64 9 (fun j => if j < i then limb (x.2.1 / 2 ^ dsh m) j else 0), 25, (0, 0)⟩, .blk b6 ⟨true, vec .u64 19 (limb x.2.1), 243, (0, 0)⟩, .blk b7 ⟨true, wideL (x.2.2 * 2 ^ (64 * (x.1 + 1).toNat)), 230, (0, 0)⟩, .blk b5 ⟨true, vec .u64 9 (fun _ => 0), 25, (0, 0)⟩, .blk b4 ⟨true, vec .u64 18 (fun _ => 0), 230, (0, 0)⟩, .blk bd ⟨false, dvL m, 241, (0, 0)⟩]⟩) (fun i => nw m - i) (0) (Nat.zero_le _) (Sub.mk ⟨rfl, rfl, rfl, rfl, rfl, rfl, rfl, rfl, trivial⟩ (by repeat (first | exact Sel.nil _ | refine Sel.cons (by repeat (first | exact Pick.head _ | apply Pick.tail)) ?_))) ?_
      intro i hi
      refine LCode.seq ?_
      refine LCode.region ?_
      refine LOps.detP (Det.bin rfl rfl (br_lss)) (Nat.le_of_ble_eq_true rfl) ?_
      refine LOps.nil ?_
      refine LCode.seq ?_
      first | refine LCode.condD rfl (fun h86 => ?_) (fun h86 => ?_) | refine LCode.cond rfl (fun h86 => ?_) (fun h86 => ?_)
      ·
        have h86 : i < nw m := h86
        refine LCode.skip ?_
        refine LCode.seq ?_
        refine LCode.block ?_
        refine LCode.seq ?_
        refine LCode.region ?_
        refine LOps.detP (Det.move rfl) (Nat.le_of_ble_eq_true rfl) ?_
        refine LOps.detP (Det.assign rfl) (Nat.le_of_ble_eq_true rfl) ?_
        refine LOps.nil ?_
        refine LCode.seq ?_
        refine LCode.regionD [11] (by kernel_rfl) ?_
        refine LAny.takeP 0 rfl (by kernel_rfl) (Nat.le_of_ble_eq_true rfl) (Det.move rfl) ?_
        refine LAny.takeP 1 rfl (by kernel_rfl) (Nat.le_of_ble_eq_true rfl) (Det.move rfl) ?_
        refine LAny.takeP 2 rfl (by kernel_rfl) (Nat.le_of_ble_eq_true rfl) (Det.indexA0 Try.underlying243 sz_22 rfl rfl (by omega)) ?_
        refine LAny.take 3 rfl (by kernel_rfl) (Nat.le_of_ble_eq_true rfl) (Det.load rfl (by repeat (first | exact List.Mem.head _ | apply List.Mem.tail)) (LoadV.one Try.underlying22 rfl (by exact vec_get _ _ _ (show i < 19 by omega)))) ?_
        refine LAny.takeP 4 rfl (by kernel_rfl) (Nat.le_of_ble_eq_true rfl) (Det.move rfl) ?_
        refine LAny.takeP 5 rfl (by kernel_rfl) (Nat.le_of_ble_eq_true rfl) (Det.nilCheck rfl) ?_
        refine LAny.takeP 6 rfl (by kernel_rfl) (Nat.le_of_ble_eq_true rfl) (Det.fieldA (o' := 10) Try.underlying241 rfl rfl rfl sz_3 (by decide)) ?_
        refine LAny.take 7 rfl (by kernel_rfl) (Nat.le_of_ble_eq_true rfl) (Det.load rfl (by repeat (first | exact List.Mem.head _ | apply List.Mem.tail)) (LoadV.one Try.underlying3 rfl (dvL_s _))) ?_
        refine LAny.takeP 8 rfl (by kernel_rfl) (Nat.le_of_ble_eq_true rfl) (Det.bin rfl rfl (br_shr64 (limb_lt _ _))) ?_
        refine LAny.takeP 9 rfl (by kernel_rfl) (Nat.le_of_ble_eq_true rfl) (Det.fieldA (o' := 0) Try.underlying25 rfl rfl rfl sz_23 (by decide)) ?_
        refine LAny.takeP 10 rfl (by kernel_rfl) (Nat.le_of_ble_eq_true rfl) (Det.indexA0 Try.underlying23 sz_22 rfl rfl (by omega)) ?_
        refine LAny.late 11 rfl rfl (by kernel_rfl) (by kernel_rfl) (LStepW.store1 rfl rfl rfl sz_22 (by repeat (first | exact SetAt.head _ | apply SetAt.tail)) (by first | (simp only [vec_length, natL_length, wideL_length, dv_length]; omega) | (simp; omega)) (by first | exact vec_set _ _ _ _ _ | exact dv_setm _ _ _ _ (by omega) | exact dv_sets _ _ _ _ | rfl) (by simp) ?_)
        refine LAny.done (by kernel_rfl) ?_
        refine LCode.seq ?_
        refine LCode.region ?_
        refine LOps.detP (Det.move rfl) (Nat.le_of_ble_eq_true rfl) ?_
        refine LOps.detP (Det.nilCheck rfl) (Nat.le_of_ble_eq_true rfl) ?_
        refine LOps.detP (Det.fieldA (o' := 10) Try.underlying241 rfl rfl rfl sz_3 (by decide)) (Nat.le_of_ble_eq_true rfl) ?_
        refine LOps.det (Det.load rfl (by repeat (first | exact List.Mem.head _ | apply List.Mem.tail)) (LoadV.one Try.underlying3 rfl (dvL_s _))) (Nat.le_of_ble_eq_true rfl) ?_
        refine LOps.detP (Det.bin rfl rfl (br_gtr (b := 0))) (Nat.le_of_ble_eq_true rfl) ?_
        refine LOps.nil ?_
        first | refine LCode.condD rfl (fun h103 => ?_) (fun h103 => ?_) | refine LCode.cond rfl (fun h103 => ?_) (fun h103 => ?_)
        ·
          have h103 : 0 < dsh m := h103
          refine LCode.regionD [17] (by kernel_rfl) ?_
          refine LAny.takeP 0 rfl (by kernel_rfl) (Nat.le_of_ble_eq_true rfl) (Det.move rfl) ?_
          refine LAny.takeP 1 rfl (by kernel_rfl) (Nat.le_of_ble_eq_true rfl) (Det.fieldA (o' := 0) Try.underlying25 rfl rfl rfl sz_23 (by decide)) ?_
          refine LAny.takeP 2 rfl (by kernel_rfl) (Nat.le_of_ble_eq_true rfl) (Det.indexA0 Try.underlying23 sz_22 rfl rfl (by omega)) ?_
          refine LAny.take 3 rfl (by kernel_rfl) (Nat.le_of_ble_eq_true rfl) (Det.load (v := .int .u64 ((limb x.2.1 i / 2 ^ dsh m : Nat) : Int)) rfl (by repeat (first | exact List.Mem.head _ | apply List.Mem.tail)) (LoadV.one Try.underlying22 rfl (by exact (vec_get .u64 9 (fun j => if j = i then limb x.2.1 i / 2 ^ dsh m else if j < i then limb (x.2.1 / 2 ^ dsh m) j else 0) (show i < 9 by omega)).trans (by show some (Value.int .u64 ((if i = i then _ else _ : Nat) : Int)) = _; rw [if_pos rfl])))) ?_
          refine LAny.takeP 4 rfl (by kernel_rfl) (Nat.le_of_ble_eq_true rfl) (Det.move rfl) ?_
          refine LAny.takeP 5 rfl (by kernel_rfl) (Nat.le_of_ble_eq_true rfl) (Det.bin rfl rfl (br_add (b := 1) (by omega))) ?_
          refine LAny.takeP 6 rfl (by kernel_rfl) (Nat.le_of_ble_eq_true rfl) (Det.indexA0 Try.underlying243 sz_22 rfl rfl (by omega)) ?_
          refine LAny.take 7 rfl (by kernel_rfl) (Nat.le_of_ble_eq_true rfl) (Det.load rfl (by repeat (first | exact List.Mem.head _ | apply List.Mem.tail)) (LoadV.one Try.underlying22 rfl (by exact vec_get _ _ _ (show i + 1 < 19 by omega)))) ?_
          refine LAny.takeP 8 rfl (by kernel_rfl) (Nat.le_of_ble_eq_true rfl) (Det.move rfl) ?_
          refine LAny.takeP 9 rfl (by kernel_rfl) (Nat.le_of_ble_eq_true rfl) (Det.nilCheck rfl) ?_
          refine LAny.takeP 10 rfl (by kernel_rfl) (Nat.le_of_ble_eq_true rfl) (Det.fieldA (o' := 10) Try.underlying241 rfl rfl rfl sz_3 (by decide)) ?_
          refine LAny.take 11 rfl (by kernel_rfl) (Nat.le_of_ble_eq_true rfl) (Det.load rfl (by repeat (first | exact List.Mem.head _ | apply List.Mem.tail)) (LoadV.one Try.underlying3 rfl (dvL_s _))) ?_
          refine LAny.takeP 12 rfl (by kernel_rfl) (Nat.le_of_ble_eq_true rfl) (Det.bin rfl rfl (br_sub (a := 64) (by omega) (by omega))) ?_
          refine LAny.takeP 13 rfl (by kernel_rfl) (Nat.le_of_ble_eq_true rfl) (Det.bin rfl rfl (br_shl64)) ?_
          refine LAny.takeP 14 rfl (by kernel_rfl) (Nat.le_of_ble_eq_true rfl) (Det.bin rfl rfl (br_or64 (Nat.lt_of_le_of_lt (Nat.div_le_self _ _) (limb_lt _ _)) (Nat.mod_lt _ (by decide)))) ?_
          refine LAny.takeP 15 rfl (by kernel_rfl) (Nat.le_of_ble_eq_true rfl) (Det.fieldA (o' := 0) Try.underlying25 rfl rfl rfl sz_23 (by decide)) ?_
          refine LAny.takeP 16 rfl (by kernel_rfl) (Nat.le_of_ble_eq_true rfl) (Det.indexA0 Try.underlying23 sz_22 rfl rfl (by omega)) ?_
          refine LAny.late 17 rfl rfl (by kernel_rfl) (by kernel_rfl) (LStepW.store1 rfl rfl rfl sz_22 (by repeat (first | exact SetAt.head _ | apply SetAt.tail)) (by first | (simp only [vec_length, natL_length, wideL_length, dv_length]; omega) | (simp; omega)) (by first | exact vec_set _ _ _ _ _ | exact dv_setm _ _ _ _ (by omega) | exact dv_sets _ _ _ _ | rfl) (by simp) ?_)
          refine LAny.done (by kernel_rfl) ?_
          refine LCode.region ?_
          refine LOps.detP (Det.bin rfl rfl (br_add (b := 1) (by omega))) (Nat.le_of_ble_eq_true rfl) ?_
          refine LOps.detP (Det.move rfl) (Nat.le_of_ble_eq_true rfl) ?_
          refine LOps.nil ?_
          refine ⟨i + 1, by omega, by omega, Sub.re (Sub.cells (b := b13) (cs' := vec .u64 9 (fun j => if j < i + 1 then limb (x.2.1 / 2 ^ dsh m) j else 0)) (by repeat (first | exact SetAt.head _ | apply SetAt.tail)) (vec_congr fun j _ => ?_)) (Sub.mk ⟨rfl, rfl, rfl, rfl, rfl, rfl, rfl, rfl, trivial⟩ (by repeat (first | exact Sel.nil _ | refine Sel.cons (by repeat (first | exact Pick.head _ | apply Pick.tail)) ?_)))⟩
          by_cases e : j = i
          · subst e
            rw [if_pos rfl, if_pos (by omega)]
            exact rest_or hs64
          · rw [if_neg e, if_neg e]
            by_cases e2 : j < i
            · rw [if_pos e2, if_pos (by omega)]
            · rw [if_neg e2, if_neg (by omega)]
        ·
          have h103 : ¬ 0 < dsh m := h103
          refine LCode.skip ?_
          refine LCode.region ?_
          refine LOps.detP (Det.bin rfl rfl (br_add (b := 1) (by omega))) (Nat.le_of_ble_eq_true rfl) ?_
          refine LOps.detP (Det.move rfl) (Nat.le_of_ble_eq_true rfl) ?_
          refine LOps.nil ?_
          refine ⟨i + 1, by omega, by omega, Sub.re (Sub.cells (b := b13) (cs' := vec .u64 9 (fun j => if j < i + 1 then limb (x.2.1 / 2 ^ dsh m) j else 0)) (by repeat (first | exact SetAt.head _ | apply SetAt.tail)) (vec_congr fun j _ => ?_)) (Sub.mk ⟨rfl, rfl, rfl, rfl, rfl, rfl, rfl, rfl, trivial⟩ (by repeat (first | exact Sel.nil _ | refine Sel.cons (by repeat (first | exact Pick.head _ | apply Pick.tail)) ?_)))⟩
          by_cases e : j = i
          · subst e
            rw [if_pos rfl, if_pos (by omega), show dsh m = 0 by omega, Nat.pow_zero, Nat.div_one, Nat.div_one]
          · rw [if_neg e]
            by_cases e2 : j < i
            · rw [if_pos e2, if_pos (by omega)]
            · rw [if_neg e2, if_neg (by omega)]
      ·
        have h86 : ¬ i < nw m := h86
        have hin : i = nw m := by omega
        subst hin
        refine LCode.exit ?_
        refine LCode.seq ?_
        refine LCode.regionD [2, 3] (by kernel_rfl) ?_
        refine LAny.take 0 rfl (by kernel_rfl) (Nat.le_of_ble_eq_true rfl) (Det.load rfl (by repeat (first | exact List.Mem.head _ | apply List.Mem.tail)) (by exact LoadV.whole Try.underlying230 rfl sz_230)) ?_
        refine LAny.twoX 1 2 rfl rfl rfl rfl (by kernel_rfl) (.inr (LStep.det (Det.load rfl (by repeat (first | exact List.Mem.head _ | apply List.Mem.tail)) (by exact LoadV.whole Try.underlying25 rfl sz_25)) (Nat.le_of_ble_eq_true rfl) ?_)) (.inl ⟨rfl, LStepW.storeA rfl rfl sz_230 (by repeat (first | exact natL_one _ | exact vec_one _ _ _ | exact wideL_one _ | exact ptL_one _ _ _ | exact pjL_one _ _ _ | exact allOne_nil | refine allOne_cons rfl ?_ | refine allOne_append ?_ ?_)) (by repeat (first | exact SetAt.head _ | apply SetAt.tail)) (by first | exact natL_length _ | exact vec_length _ _ _ | exact wideL_length _ | exact ptL_length _ _ _ | exact pjL_length _ _ _ | rfl | simp [vec_length, natL_length, wideL_length]) ?_⟩)
        ·
          refine LAny.late 2 rfl rfl (by kernel_rfl) (by kernel_rfl) (LStepW.storeA rfl rfl sz_230 (by repeat (first | exact natL_one _ | exact vec_one _ _ _ | exact wideL_one _ | exact ptL_one _ _ _ | exact pjL_one _ _ _ | exact allOne_nil | refine allOne_cons rfl ?_ | refine allOne_append ?_ ?_)) (by repeat (first | exact SetAt.head _ | apply SetAt.tail)) (by first | exact natL_length _ | exact vec_length _ _ _ | exact wideL_length _ | exact ptL_length _ _ _ | exact pjL_length _ _ _ | rfl | simp [vec_length, natL_length, wideL_length]) ?_)
          refine LAny.late 3 rfl rfl (by kernel_rfl) (by kernel_rfl) (LStepW.storeA rfl rfl sz_25 (by repeat (first | exact natL_one _ | exact vec_one _ _ _ | exact wideL_one _ | exact ptL_one _ _ _ | exact pjL_one _ _ _ | exact allOne_nil | refine allOne_cons rfl ?_ | refine allOne_append ?_ ?_)) (by repeat (first | exact SetAt.head _ | apply SetAt.tail)) (by first | exact natL_length _ | exact vec_length _ _ _ | exact wideL_length _ | exact ptL_length _ _ _ | exact pjL_length _ _ _ | rfl | simp [vec_length, natL_length, wideL_length]) ?_)
          refine LAny.done (by kernel_rfl) ?_
          refine LCode.ret ?_
          have hr9 : (vec IntKind.u64 9 fun j => if j < nw m then limb (x.2.1 / 2 ^ dsh m) j else 0) = natL (W % m) := by
            rw [← hend.2]
            apply vec_congr
            intro j hj
            by_cases e : j < nw m
            · rw [if_pos e]
            · rw [if_neg e, limb_high (Nat.lt_of_le_of_lt (Nat.div_le_self _ _) (Nat.lt_trans hx4 (dnm_lt m))) (by omega)]
          have hq9 : wideL (x.2.2 * 2 ^ (64 * (x.1 + 1).toNat)) = wideL (W / m) := by rw [ha0, Nat.mul_zero, Nat.pow_zero, Nat.mul_one, hend.1]
          refine ⟨[_, _], .cons ⟨_, _, _, rfl, (by repeat (first | exact List.Mem.head _ | apply List.Mem.tail)), by exact LoadV.whole Try.underlying230 rfl sz_230⟩ (.cons ⟨_, _, _, rfl, (by repeat (first | exact List.Mem.head _ | apply List.Mem.tail)), by exact LoadV.whole Try.underlying25 rfl sz_25⟩ .nil), fun a w' hr => ⟨?_, hr.fr.below⟩⟩
          show Ending.returned (.tuple #[.agg (wideL (x.2.2 * 2 ^ (64 * (x.1 + 1).toNat))).toArray, .agg (vec IntKind.u64 9 fun j => if j < nw m then limb (x.2.1 / 2 ^ dsh m) j else 0).toArray]) = _
          rw [hr9, hq9]
          rfl
        ·
          refine LAny.take 1 rfl (by kernel_rfl) (Nat.le_of_ble_eq_true rfl) (Det.load rfl (by repeat (first | exact List.Mem.head _ | apply List.Mem.tail)) (by exact LoadV.whole Try.underlying25 rfl sz_25)) ?_
          refine LAny.late 3 rfl rfl (by kernel_rfl) (by kernel_rfl) (LStepW.storeA rfl rfl sz_25 (by repeat (first | exact natL_one _ | exact vec_one _ _ _ | exact wideL_one _ | exact ptL_one _ _ _ | exact pjL_one _ _ _ | exact allOne_nil | refine allOne_cons rfl ?_ | refine allOne_append ?_ ?_)) (by repeat (first | exact SetAt.head _ | apply SetAt.tail)) (by first | exact natL_length _ | exact vec_length _ _ _ | exact wideL_length _ | exact ptL_length _ _ _ | exact pjL_length _ _ _ | rfl | simp [vec_length, natL_length, wideL_length]) ?_)
          refine LAny.done (by kernel_rfl) ?_
          refine LCode.ret ?_
          have hr9 : (vec IntKind.u64 9 fun j => if j < nw m then limb (x.2.1 / 2 ^ dsh m) j else 0) = natL (W % m) := by
            rw [← hend.2]
            apply vec_congr
            intro j hj
            by_cases e : j < nw m
            · rw [if_pos e]
            · rw [if_neg e, limb_high (Nat.lt_of_le_of_lt (Nat.div_le_self _ _) (Nat.lt_trans hx4 (dnm_lt m))) (by omega)]
          have hq9 : wideL (x.2.2 * 2 ^ (64 * (x.1 + 1).toNat)) = wideL (W / m) := by rw [ha0, Nat.mul_zero, Nat.pow_zero, Nat.mul_one, hend.1]
          refine ⟨[_, _], .cons ⟨_, _, _, rfl, (by repeat (first | exact List.Mem.head _ | apply List.Mem.tail)), by exact LoadV.whole Try.underlying230 rfl sz_230⟩ (.cons ⟨_, _, _, rfl, (by repeat (first | exact List.Mem.head _ | apply List.Mem.tail)), by exact LoadV.whole Try.underlying25 rfl sz_25⟩ .nil), fun a w' hr => ⟨?_, hr.fr.below⟩⟩
          show Ending.returned (.tuple #[.agg (wideL (x.2.2 * 2 ^ (64 * (x.1 + 1).toNat))).toArray, .agg (vec IntKind.u64 9 fun j => if j < nw m then limb (x.2.1 / 2 ^ dsh m) j else 0).toArray]) = _
          rw [hr9, hq9]
          rfl
    ·
      refine LCode.region ?_
      refine LOps.detP (Det.move rfl) (Nat.le_of_ble_eq_true rfl) ?_
      refine LOps.detP (Det.bin (v := .bool true) rfl rfl (by simp [binRes]; omega)) (Nat.le_of_ble_eq_true rfl) ?_
      refine LOps.nil ?_
      obtain ⟨y, hy⟩ : ∃ y : Nat, x.1 = y := ⟨x.1.toNat, by omega⟩
      have ha1 : (x.1 + 1).toNat = y + 1 := by omega
      rw [ha1] at hx3
      rw [ha1] at hx4
      refine LCode.cond_true rfl ?_
      refine LCode.skip ?_
      refine LCode.seq ?_
      refine LCode.block ?_
      refine LCode.seq ?_
      refine LCode.region ?_
      refine LOps.detP (Det.move rfl) (Nat.le_of_ble_eq_true rfl) ?_
      refine LOps.detP (Det.slArr Try.underlying243 sz_22 rfl) (Nat.le_of_ble_eq_true rfl) ?_
      refine LOps.detP (Det.move (v := .int .i64 ((y : Nat) : Int)) (by show some _ = some _; rw [hy])) (Nat.le_of_ble_eq_true rfl) ?_
      refine LOps.step rfl (LStep.w (LStep.callV (Post := fun v => ∃ q : Nat, (q < 18446744073709551616 ∧ x.2.1 / 2 ^ (64 * y) / dnm m ≤ q) ∧ v = .int .u64 ((q : Nat) : Int)) (first := []) rfl en_194 rfl (Nat.le_of_ble_eq_true rfl) (fun w hw => (c_guess m x.2.1 bd b6 y true hm0 w (hw _ (by repeat (first | exact List.Mem.head _ | apply List.Mem.tail))) (hw _ (by repeat (first | exact List.Mem.head _ | apply List.Mem.tail))) hm (by omega) hx4).mono fun e w' ⟨q, h, h1, h2⟩ => ⟨_, ⟨q, h, rfl⟩, h1, h2⟩) ?_))
      rintro _ ⟨q, ⟨hq1, hq2⟩, rfl⟩
      refine LOps.detP (Det.assign rfl) (Nat.le_of_ble_eq_true rfl) ?_
      refine LOps.nil ?_
      refine LCode.seq ?_
      refine LCode.seq ?_
      refine LCode.region ?_
      refine LOps.detP (Det.move rfl) (Nat.le_of_ble_eq_true rfl) ?_
      refine LOps.detP (Det.slArr Try.underlying243 sz_22 rfl) (Nat.le_of_ble_eq_true rfl) ?_
      refine LOps.detP (Det.move (v := .int .i64 ((y : Nat) : Int)) (by show some _ = some _; rw [hy])) (Nat.le_of_ble_eq_true rfl) ?_
      refine LOps.detP (Det.move rfl) (Nat.le_of_ble_eq_true rfl) ?_
      refine LOps.step rfl (LStepW.callWF (Post := fun v cs' => ∃ U' bw, bw ≤ 1 ∧ U' < 2 ^ (64 * (y + nw m + 1)) ∧ U' + q * dnm m * 2 ^ (64 * y) = x.2.1 + bw * 2 ^ (64 * (y + nw m + 1)) ∧ v = .bool (decide (bw = 1)) ∧ cs' = vec .u64 19 (limb U')) (first := []) rfl en_195 rfl (Nat.le_of_ble_eq_true rfl) (fun cs' => (by repeat (first | exact SetAt.head _ | apply SetAt.tail))) (fun w hw hap => c_take m x.2.1 bd b6 y q hq1 w (hw _ (by repeat (first | exact List.Mem.head _ | apply List.Mem.tail))) (hw _ (by repeat (first | exact List.Mem.head _ | apply List.Mem.tail))) (apart_blk hap (b := b6) (by repeat (first | exact List.Mem.head _ | apply List.Mem.tail)) (c := bd) (by repeat (first | exact List.Mem.head _ | apply List.Mem.tail)) rfl rfl) hm (by omega) (win_lt (dnm_lt m) hx4)) ?_)
      rintro _ _ ⟨U1, bw1, ht1, ht2, ht3, rfl, rfl⟩
      refine LOps.detP (Det.assign rfl) (Nat.le_of_ble_eq_true rfl) ?_
      refine LOps.nil ?_
      refine LCode.block ?_
      refine LCode.loop (α := Nat × Nat × Nat) (fun k => k.2.2 ≤ 1 ∧ k.2.1 < 2 ^ (64 * (y + nw m + 1)) ∧ k.2.1 + k.1 * dnm m * 2 ^ (64 * y) = x.2.1 + k.2.2 * 2 ^ (64 * (y + nw m + 1)) ∧ x.2.1 / 2 ^ (64 * y) / dnm m ≤ k.1 ∧ k.1 < 18446744073709551616) (fun k => ⟨[(0, .pointer (some ⟨bd, 0, none⟩)), (4, .pointer (some ⟨b4, 0, none⟩)), (5, .pointer (some ⟨b5, 0, none⟩)), (6, .pointer (some ⟨b6, 0, none⟩)), (7, .pointer (some ⟨b7, 0, none⟩)), (10, .int .i64 ((y : Nat) : Int)), (11, .int .u64 ((k.1 : Nat) : Int)), (12, .bool (decide (k.2.2 = 1)))], [.blk b6 ⟨true, vec .u64 19 (limb k.2.1), 243, (0, 0)⟩, .blk b7 ⟨true, wideL (x.2.2 * 2 ^ (64 * (x.1 + 1).toNat)), 230, (0, 0)⟩, .blk b5 ⟨true, vec .u64 9 (fun _ => 0), 25, (0, 0)⟩, .blk b4 ⟨true, vec .u64 18 (fun _ => 0), 230, (0, 0)⟩, .blk bd ⟨false, dvL m, 241, (0, 0)⟩]⟩) (fun k => k.1) ((q, U1, bw1)) (⟨ht1, ht2, ht3, hq2, hq1⟩) (Sub.mk ⟨rfl, rfl, rfl, rfl, rfl, congrArg (fun i : Int => some (Value.int .i64 i)) hy, rfl, rfl, trivial⟩ (by repeat (first | exact Sel.nil _ | refine Sel.cons (by repeat (first | exact Pick.head _ | apply Pick.tail)) ?_))) ?_
      intro k ⟨hk1, hk2, hk3, hk4, hk5⟩
      refine LCode.seq ?_
      refine LCode.seq ?_
      refine LCode.region ?_
      refine LOps.detP (Det.move rfl) (Nat.le_of_ble_eq_true rfl) ?_
      refine LOps.nil ?_
      first | refine LCode.condD rfl (fun h69 => ?_) (fun h69 => ?_) | refine LCode.cond rfl (fun h69 => ?_) (fun h69 => ?_)
      ·
        have h69 : k.2.2 = 1 := h69
        rw [h69, Nat.one_mul] at hk3
        have hqw := quo_word hk2 hk3 hk4 (dnm_pos hm0)
        refine LCode.skip ?_
        refine LCode.seq ?_
        refine LCode.block ?_
        refine LCode.region ?_
        refine LOps.detP (Det.move rfl) (Nat.le_of_ble_eq_true rfl) ?_
        refine LOps.detP (Slots.cast (Det.bin rfl rfl (br_sub64 (b := 1) (by decide))) (vi (b := k.1 - 1) (by omega))) (Nat.le_of_ble_eq_true rfl) ?_
        refine LOps.detP (Det.assign rfl) (Nat.le_of_ble_eq_true rfl) ?_
        refine LOps.nil ?_
        refine LCode.region ?_
        refine LOps.detP (Det.move rfl) (Nat.le_of_ble_eq_true rfl) ?_
        refine LOps.detP (Det.slArr Try.underlying243 sz_22 rfl) (Nat.le_of_ble_eq_true rfl) ?_
        refine LOps.detP (Det.move rfl) (Nat.le_of_ble_eq_true rfl) ?_
        refine LOps.step rfl (LStepW.callWF (Post := fun v cs' => ∃ U' c, c ≤ 1 ∧ U' < 2 ^ (64 * (y + nw m + 1)) ∧ U' + c * 2 ^ (64 * (y + (nw m + 1))) = k.2.1 + dnm m * 2 ^ (64 * y) ∧ v = .bool (decide (c = 1)) ∧ cs' = vec .u64 19 (limb U')) (first := []) rfl en_196 rfl (Nat.le_of_ble_eq_true rfl) (fun cs' => (by repeat (first | exact SetAt.head _ | apply SetAt.tail))) (fun w hw hap => c_back m k.2.1 bd b6 y w (hw _ (by repeat (first | exact List.Mem.head _ | apply List.Mem.tail))) (hw _ (by repeat (first | exact List.Mem.head _ | apply List.Mem.tail))) (apart_blk hap (b := b6) (by repeat (first | exact List.Mem.head _ | apply List.Mem.tail)) (c := bd) (by repeat (first | exact List.Mem.head _ | apply List.Mem.tail)) rfl rfl) hm (by omega) hk2) ?_)
        rintro _ _ ⟨U2, c2, hb1, hb2, hb3, rfl, rfl⟩
        refine LOps.detP (Det.not rfl) (Nat.le_of_ble_eq_true rfl) ?_
        refine LOps.detP (Det.assign rfl) (Nat.le_of_ble_eq_true rfl) ?_
        refine LOps.nil ?_
        refine ⟨(k.1 - 1, U2, 1 - c2), ⟨by dsimp only; omega, hb2, quo_back hqw.2 hk3 (by rw [← Nat.add_assoc] at hb3; exact hb3) hb1, hqw.1, by dsimp only; omega⟩, by have := hqw.2; dsimp only; omega, Sub.mk ⟨rfl, rfl, rfl, rfl, rfl, rfl, rfl, ?_, trivial⟩ (by repeat (first | exact Sel.nil _ | refine Sel.cons (by repeat (first | exact Pick.head _ | apply Pick.tail)) ?_))⟩
        refine congrArg (fun b : Bool => some (Value.bool b)) ?_
        rcases Nat.le_one_iff_eq_zero_or_eq_one.1 hb1 with h | h <;> subst h <;> rfl
      ·
        have h69 : ¬ k.2.2 = 1 := h69
        have hk0 : k.2.2 = 0 := by omega
        rw [hk0, Nat.zero_mul, Nat.add_zero] at hk3
        have hdn := quo_done (dnm_pos hm0) hk3 hk4
        refine LCode.exit ?_
        refine LCode.region ?_
        refine LOps.detP (Det.move rfl) (Nat.le_of_ble_eq_true rfl) ?_
        refine LOps.detP (Det.move rfl) (Nat.le_of_ble_eq_true rfl) ?_
        refine LOps.detP (Det.fieldA (o' := 0) Try.underlying230 rfl rfl rfl sz_228 (by decide)) (Nat.le_of_ble_eq_true rfl) ?_
        refine LOps.detP (Det.indexA0 Try.underlying228 sz_22 rfl rfl (by omega)) (Nat.le_of_ble_eq_true rfl) ?_
        refine LOps.step rfl (LStepW.store1 rfl rfl rfl sz_22 (by repeat (first | exact SetAt.head _ | apply SetAt.tail)) (by first | (simp only [vec_length, natL_length, wideL_length, dv_length]; omega) | (simp; omega)) (by first | exact vec_set _ _ _ _ _ | exact dv_setm _ _ _ _ (by omega) | exact dv_sets _ _ _ _ | rfl) (by simp) ?_)
        refine LOps.nil ?_
        refine LCode.region ?_
        refine LOps.detP (Det.move rfl) (Nat.le_of_ble_eq_true rfl) ?_
        refine LOps.detP (Det.bin (v := .int .i64 ((y : Int) - 1)) rfl rfl (br_subI (by omega) (by omega))) (Nat.le_of_ble_eq_true rfl) ?_
        refine LOps.detP (Det.assign rfl) (Nat.le_of_ble_eq_true rfl) ?_
        refine LOps.nil ?_
        refine ⟨((y : Int) - 1, k.2.1, x.2.2 * 18446744073709551616 + k.1), ⟨⟨by dsimp only; omega, by dsimp only; omega⟩, ?_, ?_⟩, by dsimp only; omega, Sub.re (Sub.cells (b := b7) (cs' := wideL ((x.2.2 * 18446744073709551616 + k.1) * 2 ^ (64 * ((y : Int) - 1 + 1).toNat))) (by repeat (first | exact SetAt.head _ | apply SetAt.tail)) (vec_congr fun j _ => ?_)) (Sub.mk ⟨rfl, rfl, rfl, rfl, rfl, rfl, trivial⟩ (by repeat (first | exact Sel.nil _ | refine Sel.cons (by repeat (first | exact Pick.head _ | apply Pick.tail)) ?_)))⟩
        · dsimp only
          rw [show ((y : Int) - 1 + 1).toNat = y by omega]
          exact quo_sum hk3 hx3
        · dsimp only
          rw [show ((y : Int) - 1 + 1).toNat = y by omega]
          exact hdn
        · rw [show ((y : Int) - 1 + 1).toNat = y by omega, ha1]
          exact quo_store hk5 j

end Go.Proofs.Ytljblbgogjieaaa
