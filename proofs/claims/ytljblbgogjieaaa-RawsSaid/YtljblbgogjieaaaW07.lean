/- Walks: what functions of the program come to, step by step. -/
import Derived.Test.YtljblbgogjieaaaW06
set_option linter.unusedVariables false
set_option linter.unusedSimpArgs false
set_option maxRecDepth 20000
namespace Go.Proofs.Ytljblbgogjieaaa
open Go Go.RowKit

theorem take_pre {U q D a : Nat} : U + q * (D % 2 ^ (64 * 0)) * 2 ^ (64 * a) = U + (0 + 0) * 2 ^ (64 * (a + 0)) := by
  rw [Nat.mul_zero, Nat.pow_zero, Nat.mod_one, Nat.mul_zero, Nat.zero_mul, Nat.zero_mul]
theorem back_pre {U D a : Nat} : U + 0 * 2 ^ (64 * (a + 0)) = U + (D % 2 ^ (64 * 0)) * 2 ^ (64 * a) := by
  rw [Nat.mul_zero, Nat.pow_zero, Nat.mod_one, Nat.zero_mul, Nat.zero_mul]

theorem c_take (m U bd bu at_ q : Nat) (hq : q < 18446744073709551616) (w : World) (hbd : (Item.blk bd ⟨false, dvL m, 241, (0, 0)⟩).holds w) (hbu : (Item.blk bu ⟨true, vec .u64 19 (limb U), 243, (0, 0)⟩).holds w) (hne : bd ≠ bu) (hm : m < W9) (hat : at_ + nw m < 19) (hU : U < 2 ^ (64 * (at_ + nw m + 1))) : Calls Try.prog 195 ([.pointer (some ⟨bd, 0, none⟩), .slice (some ⟨bu, 0, none⟩) 19 19, .int .i64 ((at_ : Nat) : Int), .int .u64 ((q : Nat) : Int)] : List Value).toArray w (fun e w' => ∃ v cs', (∃ U' bw, bw ≤ 1 ∧ U' < 2 ^ (64 * (at_ + nw m + 1)) ∧ U' + q * dnm m * 2 ^ (64 * at_) = U + bw * 2 ^ (64 * (at_ + nw m + 1)) ∧ v = .bool (decide (bw = 1)) ∧ cs' = vec .u64 19 (limb U')) ∧ e = .returned v ∧ (Item.blk bu ⟨true, cs', 243, (0, 0)⟩).holds w' ∧ Fr (fun k => k = bu) w w') := by
  refine calls_w1 (N := 85) (rs := [.tmp 8]) bu (vec .u64 19 (limb U)) 243 (0, 0) [.blk bd ⟨false, dvL m, 241, (0, 0)⟩] Try.func195 rfl Try.ntmps195 Try.results195 (Nat.le_of_ble_eq_true rfl) hbu ⟨hbd, trivial⟩ rfl (by intro x hx; simp at hx; subst hx; simp [Item.fp]; exact fun e => hne e.symm) ?_
  show LCode _ _ _ ⟨_, _⟩ _
  refine LCode.seq ?_
  have hn9 := nw_w9 hm
  refine LCode.region ?_
  refine LOps.detP (Det.assign rfl) (Nat.le_of_ble_eq_true rfl) ?_
  refine LOps.nil ?_
  refine LCode.seq ?_
  refine LCode.region ?_
  refine LOps.detP (Det.assign (v := .int .u64 ((0 : Nat) : Int)) rfl) (Nat.le_of_ble_eq_true rfl) ?_
  refine LOps.detP (Det.assign (v := .int .u64 ((0 : Nat) : Int)) rfl) (Nat.le_of_ble_eq_true rfl) ?_
  refine LOps.nil ?_
  refine LCode.seq ?_
  refine LCode.seq ?_
  refine LCode.region ?_
  refine LOps.detP (Det.move rfl) (Nat.le_of_ble_eq_true rfl) ?_
  refine LOps.detP (Det.nilCheck rfl) (Nat.le_of_ble_eq_true rfl) ?_
  refine LOps.detP (Det.fieldA (o' := 9) Try.underlying241 rfl rfl rfl sz_3 (by decide)) (Nat.le_of_ble_eq_true rfl) ?_
  refine LOps.det (Det.load rfl (by repeat (first | exact List.Mem.head _ | apply List.Mem.tail)) (LoadV.one Try.underlying3 rfl (dvL_n _))) (Nat.le_of_ble_eq_true rfl) ?_
  refine LOps.detP (Det.move (v := .int .i64 ((0 : Nat) : Int)) rfl) (Nat.le_of_ble_eq_true rfl) ?_
  refine LOps.nil ?_
  refine LCode.block ?_
  refine LCode.loop (α := Nat × Nat × Nat × Nat) (fun x => x.1 ≤ nw m ∧ x.2.2.1 ≤ 1 ∧ x.2.2.2 < 18446744073709551616 ∧ x.2.1 < 2 ^ (64 * (at_ + nw m + 1)) ∧ x.2.1 + q * (dnm m % 2 ^ (64 * x.1)) * 2 ^ (64 * at_) = U + (x.2.2.1 + x.2.2.2) * 2 ^ (64 * (at_ + x.1))) (fun x => ⟨[(0, .pointer (some ⟨bd, 0, none⟩)), (1, .slice (some ⟨bu, 0, none⟩) 19 19), (2, .int .i64 ((at_ : Nat) : Int)), (3, .int .u64 ((q : Nat) : Int)), (9, .int .u64 ((x.2.2.1 : Nat) : Int)), (10, .int .u64 ((x.2.2.2 : Nat) : Int)), (18, .int .i64 ((nw m : Nat) : Int)), (19, .int .i64 ((x.1 : Nat) : Int))], [.blk bu ⟨true, vec .u64 19 (limb x.2.1), 243, (0, 0)⟩, .blk bd ⟨false, dvL m, 241, (0, 0)⟩]⟩) (fun x => nw m - x.1) ((0, U, 0, 0)) (⟨Nat.zero_le _, Nat.zero_le _, show (0 : Nat) < 18446744073709551616 by decide, hU, take_pre⟩) (Sub.mk ⟨rfl, rfl, rfl, rfl, rfl, rfl, rfl, rfl, trivial⟩ (by repeat (first | exact Sel.nil _ | refine Sel.cons (by repeat (first | exact Pick.head _ | apply Pick.tail)) ?_))) ?_
  intro x ⟨hx1, hx2, hx3, hx4, hx5⟩
  refine LCode.seq ?_
  refine LCode.region ?_
  refine LOps.detP (Det.bin rfl rfl (br_lss)) (Nat.le_of_ble_eq_true rfl) ?_
  refine LOps.nil ?_
  refine LCode.seq ?_
  first | refine LCode.condD rfl (fun h20 => ?_) (fun h20 => ?_) | refine LCode.cond rfl (fun h20 => ?_) (fun h20 => ?_)
  ·
    have h20 : x.1 < nw m := h20
    refine LCode.skip ?_
    refine LCode.seq ?_
    refine LCode.block ?_
    refine LCode.seq ?_
    refine LCode.region ?_
    refine LOps.detP (Det.move rfl) (Nat.le_of_ble_eq_true rfl) ?_
    refine LOps.detP (Det.assign rfl) (Nat.le_of_ble_eq_true rfl) ?_
    refine LOps.nil ?_
    refine LCode.seq ?_
    refine LCode.region ?_
    refine LOps.detP (Det.move rfl) (Nat.le_of_ble_eq_true rfl) ?_
    refine LOps.detP (Det.move rfl) (Nat.le_of_ble_eq_true rfl) ?_
    refine LOps.detP (Det.move rfl) (Nat.le_of_ble_eq_true rfl) ?_
    refine LOps.detP (Det.nilCheck rfl) (Nat.le_of_ble_eq_true rfl) ?_
    refine LOps.detP (Det.fieldA (o' := 0) Try.underlying241 rfl rfl rfl sz_23 (by decide)) (Nat.le_of_ble_eq_true rfl) ?_
    refine LOps.detP (Det.indexA0 Try.underlying23 sz_22 rfl rfl (by omega)) (Nat.le_of_ble_eq_true rfl) ?_
    refine LOps.det (Det.load rfl (by repeat (first | exact List.Mem.head _ | apply List.Mem.tail)) (LoadV.one Try.underlying22 rfl (by exact dvL_m _ (show x.1 < 9 by omega)))) (Nat.le_of_ble_eq_true rfl) ?_
    refine LOps.step rfl (LStep.w (LStep.callF (first := []) rfl en_193 rfl (Nat.le_of_ble_eq_true rfl) (fun w hw => c_Mul64 _ _ hq (limb_lt _ _) w) ?_))
    refine LOps.detP (Det.move rfl) (Nat.le_of_ble_eq_true rfl) ?_
    refine LOps.detP (Det.extract rfl rfl) (Nat.le_of_ble_eq_true rfl) ?_
    refine LOps.detP (Det.extract rfl rfl) (Nat.le_of_ble_eq_true rfl) ?_
    refine LOps.detP (Det.assign rfl) (Nat.le_of_ble_eq_true rfl) ?_
    refine LOps.detP (Det.assign rfl) (Nat.le_of_ble_eq_true rfl) ?_
    refine LOps.nil ?_
    refine LCode.seq ?_
    refine LCode.region ?_
    refine LOps.detP (Det.assign (v := .int .u64 ((0 : Nat) : Int)) rfl) (Nat.le_of_ble_eq_true rfl) ?_
    refine LOps.nil ?_
    refine LCode.seq ?_
    refine LCode.region ?_
    refine LOps.detP (Det.move rfl) (Nat.le_of_ble_eq_true rfl) ?_
    refine LOps.detP (Det.move rfl) (Nat.le_of_ble_eq_true rfl) ?_
    refine LOps.detP (Det.add64 (c := 0) ex_184 rfl rfl rfl (by omega)) (Nat.le_of_ble_eq_true rfl) ?_
    refine LOps.detP (Det.move rfl) (Nat.le_of_ble_eq_true rfl) ?_
    refine LOps.detP (Det.extract rfl rfl) (Nat.le_of_ble_eq_true rfl) ?_
    refine LOps.detP (Det.extract rfl rfl) (Nat.le_of_ble_eq_true rfl) ?_
    refine LOps.detP (Det.assign rfl) (Nat.le_of_ble_eq_true rfl) ?_
    refine LOps.detP (Det.assign rfl) (Nat.le_of_ble_eq_true rfl) ?_
    refine LOps.nil ?_
    refine LCode.seq ?_
    refine LCode.region ?_
    refine LOps.detP (Det.move rfl) (Nat.le_of_ble_eq_true rfl) ?_
    refine LOps.detP (Det.move rfl) (Nat.le_of_ble_eq_true rfl) ?_
    refine LOps.detP (Det.bin rfl rfl (br_add64)) (Nat.le_of_ble_eq_true rfl) ?_
    refine LOps.detP (Det.assign rfl) (Nat.le_of_ble_eq_true rfl) ?_
    refine LOps.nil ?_
    refine LCode.region ?_
    refine LOps.detP (Det.move rfl) (Nat.le_of_ble_eq_true rfl) ?_
    refine LOps.detP (Det.move rfl) (Nat.le_of_ble_eq_true rfl) ?_
    refine LOps.detP (Det.move rfl) (Nat.le_of_ble_eq_true rfl) ?_
    refine LOps.detP (Det.bin rfl rfl (br_add (by omega))) (Nat.le_of_ble_eq_true rfl) ?_
    refine LOps.detP (Det.move rfl) (Nat.le_of_ble_eq_true rfl) ?_
    refine LOps.detP (Det.move rfl) (Nat.le_of_ble_eq_true rfl) ?_
    refine LOps.detP (Det.move rfl) (Nat.le_of_ble_eq_true rfl) ?_
    refine LOps.detP (Det.bin rfl rfl (br_add (by omega))) (Nat.le_of_ble_eq_true rfl) ?_
    refine LOps.detP (Det.indexS0 Try.underlying234 sz_22 rfl rfl (by omega)) (Nat.le_of_ble_eq_true rfl) ?_
    refine LOps.det (Det.load rfl (by repeat (first | exact List.Mem.head _ | apply List.Mem.tail)) (LoadV.one Try.underlying22 rfl (by exact vec_get _ _ _ (show at_ + x.1 < 19 by omega)))) (Nat.le_of_ble_eq_true rfl) ?_
    refine LOps.detP (Det.move rfl) (Nat.le_of_ble_eq_true rfl) ?_
    refine LOps.detP (Det.move rfl) (Nat.le_of_ble_eq_true rfl) ?_
    refine LOps.detP (Det.sub64 ex_171 rfl rfl rfl (by omega)) (Nat.le_of_ble_eq_true rfl) ?_
    refine LOps.detP (Det.move rfl) (Nat.le_of_ble_eq_true rfl) ?_
    refine LOps.detP (Det.extract rfl rfl) (Nat.le_of_ble_eq_true rfl) ?_
    refine LOps.detP (Det.extract rfl rfl) (Nat.le_of_ble_eq_true rfl) ?_
    refine LOps.detP (Det.indexS0 Try.underlying234 sz_22 rfl rfl (by omega)) (Nat.le_of_ble_eq_true rfl) ?_
    refine LOps.step rfl (LStepW.store1 rfl rfl rfl sz_22 (by repeat (first | exact SetAt.head _ | apply SetAt.tail)) (by first | (simp only [vec_length, natL_length, wideL_length, dv_length]; omega) | (simp; omega)) (by first | exact vec_set _ _ _ _ _ | exact dv_setm _ _ _ _ (by omega) | exact dv_sets _ _ _ _ | rfl) (by simp) ?_)
    refine LOps.detP (Det.assign rfl) (Nat.le_of_ble_eq_true rfl) ?_
    refine LOps.nil ?_
    refine LCode.region ?_
    refine LOps.detP (Det.bin rfl rfl (br_add (b := 1) (by omega))) (Nat.le_of_ble_eq_true rfl) ?_
    refine LOps.detP (Det.move rfl) (Nat.le_of_ble_eq_true rfl) ?_
    refine LOps.nil ?_
    have hw := mul_word hq (limb_lt (dnm m) x.1) hx3
    have hp := mul_parts hx3 hw
    refine ⟨(x.1 + 1, setl x.2.1 (at_ + x.1) ((limb x.2.1 (at_ + x.1) + 18446744073709551616 - (q * limb (dnm m) x.1 + x.2.2.2) % 18446744073709551616 - x.2.2.1) % 18446744073709551616), (if limb x.2.1 (at_ + x.1) < (q * limb (dnm m) x.1 + x.2.2.2) % 18446744073709551616 + x.2.2.1 then 1 else 0), (q * limb (dnm m) x.1 + x.2.2.2) / 18446744073709551616), ⟨by dsimp only; omega, by dsimp only; split <;> omega, by dsimp only; omega, setl_lt hx4 (by omega) (Nat.mod_lt _ (by decide)), take_step hx5 rfl (sub_word (limb_lt _ _) (Nat.mod_lt _ (by decide)) hx2)⟩, by dsimp only; omega,
      Sub.re (Sub.cells (b := bu) (cs' := vec .u64 19 (limb (setl x.2.1 (at_ + x.1) ((limb x.2.1 (at_ + x.1) + 18446744073709551616 - (q * limb (dnm m) x.1 + x.2.2.2) % 18446744073709551616 - x.2.2.1) % 18446744073709551616)))) (by repeat (first | exact SetAt.head _ | apply SetAt.tail)) ?_) (Sub.mk ⟨rfl, rfl, rfl, rfl, congrArg some (vi (by dsimp only; rw [hp.1])), congrArg some (vi hp.2), rfl, rfl, trivial⟩ (by repeat (first | exact Sel.nil _ | refine Sel.cons (by repeat (first | exact Pick.head _ | apply Pick.tail)) ?_)))⟩
    rw [hp.1]
    exact vec_setl (Nat.mod_lt _ (by decide))
  ·
    have h20 : ¬ x.1 < nw m := h20
    have he : x.1 = nw m := by omega
    rw [he] at hx5
    refine LCode.exit ?_
    refine LCode.seq ?_
    refine LCode.regionD [23] (by kernel_rfl) ?_
    refine LAny.takeP 0 rfl (by kernel_rfl) (Nat.le_of_ble_eq_true rfl) (Det.move rfl) ?_
    refine LAny.takeP 1 rfl (by kernel_rfl) (Nat.le_of_ble_eq_true rfl) (Det.move rfl) ?_
    refine LAny.takeP 2 rfl (by kernel_rfl) (Nat.le_of_ble_eq_true rfl) (Det.move rfl) ?_
    refine LAny.takeP 3 rfl (by kernel_rfl) (Nat.le_of_ble_eq_true rfl) (Det.nilCheck rfl) ?_
    refine LAny.takeP 4 rfl (by kernel_rfl) (Nat.le_of_ble_eq_true rfl) (Det.fieldA (o' := 9) Try.underlying241 rfl rfl rfl sz_3 (by decide)) ?_
    refine LAny.take 5 rfl (by kernel_rfl) (Nat.le_of_ble_eq_true rfl) (Det.load rfl (by repeat (first | exact List.Mem.head _ | apply List.Mem.tail)) (LoadV.one Try.underlying3 rfl (dvL_n _))) ?_
    refine LAny.takeP 6 rfl (by kernel_rfl) (Nat.le_of_ble_eq_true rfl) (Det.bin rfl rfl (br_add (by omega))) ?_
    refine LAny.takeP 7 rfl (by kernel_rfl) (Nat.le_of_ble_eq_true rfl) (Det.move rfl) ?_
    refine LAny.takeP 8 rfl (by kernel_rfl) (Nat.le_of_ble_eq_true rfl) (Det.move rfl) ?_
    refine LAny.takeP 9 rfl (by kernel_rfl) (Nat.le_of_ble_eq_true rfl) (Det.move rfl) ?_
    refine LAny.takeP 10 rfl (by kernel_rfl) (Nat.le_of_ble_eq_true rfl) (Det.nilCheck rfl) ?_
    refine LAny.takeP 11 rfl (by kernel_rfl) (Nat.le_of_ble_eq_true rfl) (Det.fieldA (o' := 9) Try.underlying241 rfl rfl rfl sz_3 (by decide)) ?_
    refine LAny.take 12 rfl (by kernel_rfl) (Nat.le_of_ble_eq_true rfl) (Det.load rfl (by repeat (first | exact List.Mem.head _ | apply List.Mem.tail)) (LoadV.one Try.underlying3 rfl (dvL_n _))) ?_
    refine LAny.takeP 13 rfl (by kernel_rfl) (Nat.le_of_ble_eq_true rfl) (Det.bin rfl rfl (br_add (by omega))) ?_
    refine LAny.takeP 14 rfl (by kernel_rfl) (Nat.le_of_ble_eq_true rfl) (Det.indexS0 Try.underlying234 sz_22 rfl rfl (by omega)) ?_
    refine LAny.take 15 rfl (by kernel_rfl) (Nat.le_of_ble_eq_true rfl) (Det.load rfl (by repeat (first | exact List.Mem.head _ | apply List.Mem.tail)) (LoadV.one Try.underlying22 rfl (by exact vec_get _ _ _ (show at_ + nw m < 19 by omega)))) ?_
    refine LAny.takeP 16 rfl (by kernel_rfl) (Nat.le_of_ble_eq_true rfl) (Det.move rfl) ?_
    refine LAny.takeP 17 rfl (by kernel_rfl) (Nat.le_of_ble_eq_true rfl) (Det.move rfl) ?_
    refine LAny.takeP 18 rfl (by kernel_rfl) (Nat.le_of_ble_eq_true rfl) (Det.sub64 ex_171 rfl rfl rfl (by omega)) ?_
    refine LAny.takeP 19 rfl (by kernel_rfl) (Nat.le_of_ble_eq_true rfl) (Det.move rfl) ?_
    refine LAny.takeP 20 rfl (by kernel_rfl) (Nat.le_of_ble_eq_true rfl) (Det.extract rfl rfl) ?_
    refine LAny.takeP 21 rfl (by kernel_rfl) (Nat.le_of_ble_eq_true rfl) (Det.extract rfl rfl) ?_
    refine LAny.takeP 22 rfl (by kernel_rfl) (Nat.le_of_ble_eq_true rfl) (Det.indexS0 Try.underlying234 sz_22 rfl rfl (by omega)) ?_
    refine LAny.late 23 rfl rfl (by kernel_rfl) (by kernel_rfl) (LStepW.store1 rfl rfl rfl sz_22 (by repeat (first | exact SetAt.head _ | apply SetAt.tail)) (by first | (simp only [vec_length, natL_length, wideL_length, dv_length]; omega) | (simp; omega)) (by first | exact vec_set _ _ _ _ _ | exact dv_setm _ _ _ _ (by omega) | exact dv_sets _ _ _ _ | rfl) (by simp) ?_)
    refine LAny.takeP 24 rfl (by kernel_rfl) (Nat.le_of_ble_eq_true rfl) (Det.assign rfl) ?_
    refine LAny.done (by kernel_rfl) ?_
    refine LCode.seq ?_
    refine LCode.region ?_
    refine LOps.detP (Det.move rfl) (Nat.le_of_ble_eq_true rfl) ?_
    refine LOps.detP (Det.bin rfl rfl (br_eql (b := 1))) (Nat.le_of_ble_eq_true rfl) ?_
    refine LOps.detP (Det.assign rfl) (Nat.le_of_ble_eq_true rfl) ?_
    refine LOps.nil ?_
    refine LCode.ret ?_
    refine ⟨[_], .cons rfl .nil, fun a w' hr => ⟨_, _, ⟨setl x.2.1 (at_ + nw m) ((limb x.2.1 (at_ + nw m) + 18446744073709551616 - x.2.2.2 - x.2.2.1) % 18446744073709551616), (if limb x.2.1 (at_ + nw m) < x.2.2.2 + x.2.2.1 then 1 else 0), by split <;> omega, setl_lt hx4 (by omega) (Nat.mod_lt _ (by decide)), take_last (dnm_lt m) hx5 (sub_word (limb_lt _ _) hx3 hx2), rfl, vec_setl (Nat.mod_lt _ (by decide))⟩, rfl, hr.hp _ (by repeat (first | exact List.Mem.head _ | apply List.Mem.tail)), hr.fr⟩⟩

theorem c_back (m U bd bu at_ : Nat) (w : World) (hbd : (Item.blk bd ⟨false, dvL m, 241, (0, 0)⟩).holds w) (hbu : (Item.blk bu ⟨true, vec .u64 19 (limb U), 243, (0, 0)⟩).holds w) (hne : bd ≠ bu) (hm : m < W9) (hat : at_ + nw m < 19) (hU : U < 2 ^ (64 * (at_ + nw m + 1))) : Calls Try.prog 196 ([.pointer (some ⟨bd, 0, none⟩), .slice (some ⟨bu, 0, none⟩) 19 19, .int .i64 ((at_ : Nat) : Int)] : List Value).toArray w (fun e w' => ∃ v cs', (∃ U' c, c ≤ 1 ∧ U' < 2 ^ (64 * (at_ + nw m + 1)) ∧ U' + c * 2 ^ (64 * (at_ + (nw m + 1))) = U + dnm m * 2 ^ (64 * at_) ∧ v = .bool (decide (c = 1)) ∧ cs' = vec .u64 19 (limb U')) ∧ e = .returned v ∧ (Item.blk bu ⟨true, cs', 243, (0, 0)⟩).holds w' ∧ Fr (fun k => k = bu) w w') := by
  refine calls_w1 (N := 63) (rs := [.tmp 6]) bu (vec .u64 19 (limb U)) 243 (0, 0) [.blk bd ⟨false, dvL m, 241, (0, 0)⟩] Try.func196 rfl Try.ntmps196 Try.results196 (Nat.le_of_ble_eq_true rfl) hbu ⟨hbd, trivial⟩ rfl (by intro x hx; simp at hx; subst hx; simp [Item.fp]; exact fun e => hne e.symm) ?_
  show LCode _ _ _ ⟨_, _⟩ _
  refine LCode.seq ?_
  have hn9 := nw_w9 hm
  refine LCode.region ?_
  refine LOps.detP (Det.assign rfl) (Nat.le_of_ble_eq_true rfl) ?_
  refine LOps.nil ?_
  refine LCode.seq ?_
  refine LCode.region ?_
  refine LOps.detP (Det.assign (v := .int .u64 ((0 : Nat) : Int)) rfl) (Nat.le_of_ble_eq_true rfl) ?_
  refine LOps.nil ?_
  refine LCode.seq ?_
  refine LCode.seq ?_
  refine LCode.region ?_
  refine LOps.detP (Det.move rfl) (Nat.le_of_ble_eq_true rfl) ?_
  refine LOps.detP (Det.nilCheck rfl) (Nat.le_of_ble_eq_true rfl) ?_
  refine LOps.detP (Det.fieldA (o' := 9) Try.underlying241 rfl rfl rfl sz_3 (by decide)) (Nat.le_of_ble_eq_true rfl) ?_
  refine LOps.det (Det.load rfl (by repeat (first | exact List.Mem.head _ | apply List.Mem.tail)) (LoadV.one Try.underlying3 rfl (dvL_n _))) (Nat.le_of_ble_eq_true rfl) ?_
  refine LOps.detP (Det.move (v := .int .i64 ((0 : Nat) : Int)) rfl) (Nat.le_of_ble_eq_true rfl) ?_
  refine LOps.nil ?_
  refine LCode.block ?_
  refine LCode.loop (α := Nat × Nat × Nat) (fun x => x.1 ≤ nw m ∧ x.2.2 ≤ 1 ∧ x.2.1 < 2 ^ (64 * (at_ + nw m + 1)) ∧ x.2.1 + x.2.2 * 2 ^ (64 * (at_ + x.1)) = U + (dnm m % 2 ^ (64 * x.1)) * 2 ^ (64 * at_)) (fun x => ⟨[(0, .pointer (some ⟨bd, 0, none⟩)), (1, .slice (some ⟨bu, 0, none⟩) 19 19), (2, .int .i64 ((at_ : Nat) : Int)), (7, .int .u64 ((x.2.2 : Nat) : Int)), (12, .int .i64 ((nw m : Nat) : Int)), (13, .int .i64 ((x.1 : Nat) : Int))], [.blk bu ⟨true, vec .u64 19 (limb x.2.1), 243, (0, 0)⟩, .blk bd ⟨false, dvL m, 241, (0, 0)⟩]⟩) (fun x => nw m - x.1) ((0, U, 0)) (⟨Nat.zero_le _, Nat.zero_le _, hU, back_pre⟩) (Sub.mk ⟨rfl, rfl, rfl, rfl, rfl, rfl, trivial⟩ (by repeat (first | exact Sel.nil _ | refine Sel.cons (by repeat (first | exact Pick.head _ | apply Pick.tail)) ?_))) ?_
  intro x ⟨hx1, hx2, hx4, hx5⟩
  refine LCode.seq ?_
  refine LCode.region ?_
  refine LOps.detP (Det.bin rfl rfl (br_lss)) (Nat.le_of_ble_eq_true rfl) ?_
  refine LOps.nil ?_
  refine LCode.seq ?_
  first | refine LCode.condD rfl (fun h20 => ?_) (fun h20 => ?_) | refine LCode.cond rfl (fun h20 => ?_) (fun h20 => ?_)
  ·
    have h20 : x.1 < nw m := h20
    refine LCode.skip ?_
    refine LCode.seq ?_
    refine LCode.block ?_
    refine LCode.seq ?_
    refine LCode.region ?_
    refine LOps.detP (Det.move rfl) (Nat.le_of_ble_eq_true rfl) ?_
    refine LOps.detP (Det.assign rfl) (Nat.le_of_ble_eq_true rfl) ?_
    refine LOps.nil ?_
    refine LCode.regionD [22] (by kernel_rfl) ?_
    refine LAny.takeP 0 rfl (by kernel_rfl) (Nat.le_of_ble_eq_true rfl) (Det.move rfl) ?_
    refine LAny.takeP 1 rfl (by kernel_rfl) (Nat.le_of_ble_eq_true rfl) (Det.move rfl) ?_
    refine LAny.takeP 2 rfl (by kernel_rfl) (Nat.le_of_ble_eq_true rfl) (Det.move rfl) ?_
    refine LAny.takeP 3 rfl (by kernel_rfl) (Nat.le_of_ble_eq_true rfl) (Det.bin rfl rfl (br_add (by omega))) ?_
    refine LAny.takeP 4 rfl (by kernel_rfl) (Nat.le_of_ble_eq_true rfl) (Det.move rfl) ?_
    refine LAny.takeP 5 rfl (by kernel_rfl) (Nat.le_of_ble_eq_true rfl) (Det.move rfl) ?_
    refine LAny.takeP 6 rfl (by kernel_rfl) (Nat.le_of_ble_eq_true rfl) (Det.move rfl) ?_
    refine LAny.takeP 7 rfl (by kernel_rfl) (Nat.le_of_ble_eq_true rfl) (Det.bin rfl rfl (br_add (by omega))) ?_
    refine LAny.takeP 8 rfl (by kernel_rfl) (Nat.le_of_ble_eq_true rfl) (Det.indexS0 Try.underlying234 sz_22 rfl rfl (by omega)) ?_
    refine LAny.take 9 rfl (by kernel_rfl) (Nat.le_of_ble_eq_true rfl) (Det.load rfl (by repeat (first | exact List.Mem.head _ | apply List.Mem.tail)) (LoadV.one Try.underlying22 rfl (by exact vec_get _ _ _ (show at_ + x.1 < 19 by omega)))) ?_
    refine LAny.takeP 10 rfl (by kernel_rfl) (Nat.le_of_ble_eq_true rfl) (Det.move rfl) ?_
    refine LAny.takeP 11 rfl (by kernel_rfl) (Nat.le_of_ble_eq_true rfl) (Det.move rfl) ?_
    refine LAny.takeP 12 rfl (by kernel_rfl) (Nat.le_of_ble_eq_true rfl) (Det.nilCheck rfl) ?_
    refine LAny.takeP 13 rfl (by kernel_rfl) (Nat.le_of_ble_eq_true rfl) (Det.fieldA (o' := 0) Try.underlying241 rfl rfl rfl sz_23 (by decide)) ?_
    refine LAny.takeP 14 rfl (by kernel_rfl) (Nat.le_of_ble_eq_true rfl) (Det.indexA0 Try.underlying23 sz_22 rfl rfl (by omega)) ?_
    refine LAny.take 15 rfl (by kernel_rfl) (Nat.le_of_ble_eq_true rfl) (Det.load rfl (by repeat (first | exact List.Mem.head _ | apply List.Mem.tail)) (LoadV.one Try.underlying22 rfl (by exact dvL_m _ (show x.1 < 9 by omega)))) ?_
    refine LAny.takeP 16 rfl (by kernel_rfl) (Nat.le_of_ble_eq_true rfl) (Det.move rfl) ?_
    refine LAny.takeP 17 rfl (by kernel_rfl) (Nat.le_of_ble_eq_true rfl) (Det.add64 ex_184 rfl rfl rfl (by omega)) ?_
    refine LAny.takeP 18 rfl (by kernel_rfl) (Nat.le_of_ble_eq_true rfl) (Det.move rfl) ?_
    refine LAny.takeP 19 rfl (by kernel_rfl) (Nat.le_of_ble_eq_true rfl) (Det.extract rfl rfl) ?_
    refine LAny.takeP 20 rfl (by kernel_rfl) (Nat.le_of_ble_eq_true rfl) (Det.extract rfl rfl) ?_
    refine LAny.takeP 21 rfl (by kernel_rfl) (Nat.le_of_ble_eq_true rfl) (Det.indexS0 Try.underlying234 sz_22 rfl rfl (by omega)) ?_
    refine LAny.late 22 rfl rfl (by kernel_rfl) (by kernel_rfl) (LStepW.store1 rfl rfl rfl sz_22 (by repeat (first | exact SetAt.head _ | apply SetAt.tail)) (by first | (simp only [vec_length, natL_length, wideL_length, dv_length]; omega) | (simp; omega)) (by first | exact vec_set _ _ _ _ _ | exact dv_setm _ _ _ _ (by omega) | exact dv_sets _ _ _ _ | rfl) (by simp) ?_)
    refine LAny.takeP 23 rfl (by kernel_rfl) (Nat.le_of_ble_eq_true rfl) (Det.assign rfl) ?_
    refine LAny.done (by kernel_rfl) ?_
    refine LCode.region ?_
    refine LOps.detP (Det.bin rfl rfl (br_add (b := 1) (by omega))) (Nat.le_of_ble_eq_true rfl) ?_
    refine LOps.detP (Det.move rfl) (Nat.le_of_ble_eq_true rfl) ?_
    refine LOps.nil ?_
    refine ⟨(x.1 + 1, setl x.2.1 (at_ + x.1) ((limb x.2.1 (at_ + x.1) + limb (dnm m) x.1 + x.2.2) % 18446744073709551616), (limb x.2.1 (at_ + x.1) + limb (dnm m) x.1 + x.2.2) / 18446744073709551616), ⟨by dsimp only; omega, add_carry (limb_lt _ _) (limb_lt _ _) hx2, setl_lt hx4 (by omega) (Nat.mod_lt _ (by decide)), back_step hx5 add_word⟩, by dsimp only; omega,
      Sub.re (Sub.cells (b := bu) (cs' := vec .u64 19 (limb (setl x.2.1 (at_ + x.1) ((limb x.2.1 (at_ + x.1) + limb (dnm m) x.1 + x.2.2) % 18446744073709551616)))) (by repeat (first | exact SetAt.head _ | apply SetAt.tail)) (vec_setl (Nat.mod_lt _ (by decide)))) (Sub.mk ⟨rfl, rfl, rfl, rfl, rfl, rfl, trivial⟩ (by repeat (first | exact Sel.nil _ | refine Sel.cons (by repeat (first | exact Pick.head _ | apply Pick.tail)) ?_)))⟩
  ·
    have h20 : ¬ x.1 < nw m := h20
    have he : x.1 = nw m := by omega
    rw [he] at hx5
    refine LCode.exit ?_
    refine LCode.seq ?_
    refine LCode.regionD [22] (by kernel_rfl) ?_
    refine LAny.takeP 0 rfl (by kernel_rfl) (Nat.le_of_ble_eq_true rfl) (Det.move rfl) ?_
    refine LAny.takeP 1 rfl (by kernel_rfl) (Nat.le_of_ble_eq_true rfl) (Det.move rfl) ?_
    refine LAny.takeP 2 rfl (by kernel_rfl) (Nat.le_of_ble_eq_true rfl) (Det.move rfl) ?_
    refine LAny.takeP 3 rfl (by kernel_rfl) (Nat.le_of_ble_eq_true rfl) (Det.nilCheck rfl) ?_
    refine LAny.takeP 4 rfl (by kernel_rfl) (Nat.le_of_ble_eq_true rfl) (Det.fieldA (o' := 9) Try.underlying241 rfl rfl rfl sz_3 (by decide)) ?_
    refine LAny.take 5 rfl (by kernel_rfl) (Nat.le_of_ble_eq_true rfl) (Det.load rfl (by repeat (first | exact List.Mem.head _ | apply List.Mem.tail)) (LoadV.one Try.underlying3 rfl (dvL_n _))) ?_
    refine LAny.takeP 6 rfl (by kernel_rfl) (Nat.le_of_ble_eq_true rfl) (Det.bin rfl rfl (br_add (by omega))) ?_
    refine LAny.takeP 7 rfl (by kernel_rfl) (Nat.le_of_ble_eq_true rfl) (Det.move rfl) ?_
    refine LAny.takeP 8 rfl (by kernel_rfl) (Nat.le_of_ble_eq_true rfl) (Det.move rfl) ?_
    refine LAny.takeP 9 rfl (by kernel_rfl) (Nat.le_of_ble_eq_true rfl) (Det.move rfl) ?_
    refine LAny.takeP 10 rfl (by kernel_rfl) (Nat.le_of_ble_eq_true rfl) (Det.nilCheck rfl) ?_
    refine LAny.takeP 11 rfl (by kernel_rfl) (Nat.le_of_ble_eq_true rfl) (Det.fieldA (o' := 9) Try.underlying241 rfl rfl rfl sz_3 (by decide)) ?_
    refine LAny.take 12 rfl (by kernel_rfl) (Nat.le_of_ble_eq_true rfl) (Det.load rfl (by repeat (first | exact List.Mem.head _ | apply List.Mem.tail)) (LoadV.one Try.underlying3 rfl (dvL_n _))) ?_
    refine LAny.takeP 13 rfl (by kernel_rfl) (Nat.le_of_ble_eq_true rfl) (Det.bin rfl rfl (br_add (by omega))) ?_
    refine LAny.takeP 14 rfl (by kernel_rfl) (Nat.le_of_ble_eq_true rfl) (Det.indexS0 Try.underlying234 sz_22 rfl rfl (by omega)) ?_
    refine LAny.take 15 rfl (by kernel_rfl) (Nat.le_of_ble_eq_true rfl) (Det.load rfl (by repeat (first | exact List.Mem.head _ | apply List.Mem.tail)) (LoadV.one Try.underlying22 rfl (by exact vec_get _ _ _ (show at_ + nw m < 19 by omega)))) ?_
    refine LAny.takeP 16 rfl (by kernel_rfl) (Nat.le_of_ble_eq_true rfl) (Det.move rfl) ?_
    refine LAny.takeP 17 rfl (by kernel_rfl) (Nat.le_of_ble_eq_true rfl) (Det.add64 (j := 0) ex_184 rfl rfl rfl (by omega)) ?_
    refine LAny.takeP 18 rfl (by kernel_rfl) (Nat.le_of_ble_eq_true rfl) (Det.move rfl) ?_
    refine LAny.takeP 19 rfl (by kernel_rfl) (Nat.le_of_ble_eq_true rfl) (Det.extract rfl rfl) ?_
    refine LAny.takeP 20 rfl (by kernel_rfl) (Nat.le_of_ble_eq_true rfl) (Det.extract rfl rfl) ?_
    refine LAny.takeP 21 rfl (by kernel_rfl) (Nat.le_of_ble_eq_true rfl) (Det.indexS0 Try.underlying234 sz_22 rfl rfl (by omega)) ?_
    refine LAny.late 22 rfl rfl (by kernel_rfl) (by kernel_rfl) (LStepW.store1 rfl rfl rfl sz_22 (by repeat (first | exact SetAt.head _ | apply SetAt.tail)) (by first | (simp only [vec_length, natL_length, wideL_length, dv_length]; omega) | (simp; omega)) (by first | exact vec_set _ _ _ _ _ | exact dv_setm _ _ _ _ (by omega) | exact dv_sets _ _ _ _ | rfl) (by simp) ?_)
    refine LAny.takeP 23 rfl (by kernel_rfl) (Nat.le_of_ble_eq_true rfl) (Det.assign rfl) ?_
    refine LAny.done (by kernel_rfl) ?_
    refine LCode.seq ?_
    refine LCode.region ?_
    refine LOps.detP (Det.move rfl) (Nat.le_of_ble_eq_true rfl) ?_
    refine LOps.detP (Det.bin rfl rfl (br_eql (b := 1))) (Nat.le_of_ble_eq_true rfl) ?_
    refine LOps.detP (Det.assign rfl) (Nat.le_of_ble_eq_true rfl) ?_
    refine LOps.nil ?_
    refine LCode.ret ?_
    have hb := back_step (a := at_) (i := nw m) (D := dnm m) hx5 (lo := (limb x.2.1 (at_ + nw m) + 0 + x.2.2) % 18446744073709551616) (c' := (limb x.2.1 (at_ + nw m) + 0 + x.2.2) / 18446744073709551616) (by rw [limb_high (dnm_lt m) (Nat.le_refl _)]; exact add_word)
    rw [Nat.mod_eq_of_lt (Nat.lt_of_lt_of_le (dnm_lt m) (Nat.pow_le_pow_right (by decide) (by omega)))] at hb
    refine ⟨[_], .cons rfl .nil, fun a w' hr => ⟨_, _, ⟨setl x.2.1 (at_ + nw m) ((limb x.2.1 (at_ + nw m) + 0 + x.2.2) % 18446744073709551616), (limb x.2.1 (at_ + nw m) + 0 + x.2.2) / 18446744073709551616, add_carry (limb_lt _ _) (by decide) hx2, setl_lt hx4 (by omega) (Nat.mod_lt _ (by decide)), hb, rfl, vec_setl (Nat.mod_lt _ (by decide))⟩, rfl, hr.hp _ (by repeat (first | exact List.Mem.head _ | apply List.Mem.tail)), hr.fr⟩⟩

end Go.Proofs.Ytljblbgogjieaaa
