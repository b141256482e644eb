/- Walks: what functions of the program come to, step by step. -/
import Derived.Test.YtljblbgogjieaaaW05
set_option linter.unusedVariables false
set_option linter.unusedSimpArgs false
set_option maxRecDepth 20000
namespace Go.Proofs.Ytljblbgogjieaaa
open Go Go.RowKit

theorem dvL_m (m : Nat) {i : Nat} (h : i < 9) : (dvL m)[i]? = some (.int .u64 (limb (dnm m) i : Int)) := dv_m _ _ _ h
theorem dvL_n (m : Nat) : (dvL m)[9]? = some (.int .i64 (nw m : Int)) := dv_n _ _ _
theorem dvL_s (m : Nat) : (dvL m)[10]? = some (.int .i64 (dsh m : Int)) := dv_s _ _ _
/-- The guess's numbers. -/
theorem guess_facts {U m a : Nat} (hm : m ≠ 0) (hU : U < dnm m * 2 ^ (64 * (a + 1))) :
    limb U (a + nw m) * 18446744073709551616 + limb U (a + nw m - 1) = U / 2 ^ (64 * a) / 2 ^ (64 * (nw m - 1)) ∧ limb (dnm m) (nw m - 1) = dnm m / 2 ^ (64 * (nw m - 1)) ∧ 9223372036854775808 ≤ limb (dnm m) (nw m - 1) ∧
    U / 2 ^ (64 * a) / dnm m ≤ U / 2 ^ (64 * a) / 2 ^ (64 * (nw m - 1)) / limb (dnm m) (nw m - 1) := by
  have hn := nw_pos hm
  have h1 := win_lt (dnm_lt m) hU
  rw [Nat.add_assoc] at h1
  have h2 := win_div h1
  obtain ⟨h3, h4⟩ := dnm_top hm
  refine ⟨?_, h3, h4, ?_⟩
  · rw [show a + nw m - 1 = a + (nw m - 1) by omega, ← limb_div, ← limb_div]
    have := two_words (R := U / 2 ^ (64 * a)) (j := nw m - 1) (by rw [show nw m - 1 + 2 = nw m + 1 by omega]; exact h2)
    rw [this, show nw m - 1 + 1 = nw m by omega]
  · rw [h3]
    apply div_cut (pow64_pos _)
    rw [← h3]; omega
theorem guess_step {U m a q r : Nat} (hm : m ≠ 0) (hn : 2 ≤ nw m) (h1 : q * limb (dnm m) (nw m - 1) + r = U / 2 ^ (64 * a) / 2 ^ (64 * (nw m - 1)))
    (h2 : r * 18446744073709551616 + limb U (a + nw m - 2) < q * limb (dnm m) (nw m - 2)) : U / 2 ^ (64 * a) / dnm m < q := by
  refine guess_more (k := 2 ^ (64 * (nw m - 2))) (M := 18446744073709551616) (pow64_pos _) (dnm_pos hm) (top := limb (dnm m) (nw m - 1)) (d2 := limb (dnm m) (nw m - 2)) ?_ (R2 := U / 2 ^ (64 * a) / 2 ^ (64 * (nw m - 1))) (u2 := limb U (a + nw m - 2)) ?_ h1 h2
  · have := two_words (R := dnm m) (j := nw m - 2) (by rw [show nw m - 2 + 2 = nw m by omega]; exact dnm_lt m)
    rw [this, show nw m - 2 + 1 = nw m - 1 by omega]
  · have := next_word (U / 2 ^ (64 * a)) (nw m - 2)
    rw [this, limb_div, show nw m - 2 + 1 = nw m - 1 by omega, show a + (nw m - 2) = a + nw m - 2 by omega]
theorem two_le {a b r u : Nat} (hb : b < 18446744073709551616) (hu : u < 18446744073709551616) (h : r < a ∨ (a = r ∧ u < b)) : r * 18446744073709551616 + u < a * 18446744073709551616 + b := by omega
theorem prod_parts (p : Nat) : p / 18446744073709551616 * 18446744073709551616 + p % 18446744073709551616 = p := by omega
theorem guess_next {top r q d2 u R2 : Nat} (h1 : q * top + r = R2) (h0 : 0 < q) : (q - 1) * top + (r + top) = R2 := by
  obtain ⟨p, rfl⟩ : ∃ p, q = p + 1 := ⟨q - 1, by omega⟩
  rw [Nat.add_mul] at h1
  rw [Nat.add_sub_cancel]; omega

theorem c_guess (m U bd bu at_ : Nat) (wu : Bool) (hm0 : m ≠ 0) (w : World) (hbd : (Item.blk bd ⟨false, dvL m, 241, (0, 0)⟩).holds w) (hbu : (Item.blk bu ⟨wu, vec .u64 19 (limb U), 243, (0, 0)⟩).holds w) (hm : m < W9) (hat : at_ + nw m < 19) (hU : U < dnm m * 2 ^ (64 * (at_ + 1))) : Calls Try.prog 194 ([.pointer (some ⟨bd, 0, none⟩), .slice (some ⟨bu, 0, none⟩) 19 19, .int .i64 ((at_ : Nat) : Int)] : List Value).toArray w (fun e w' => ∃ q, (q < 18446744073709551616 ∧ U / 2 ^ (64 * at_) / dnm m ≤ q) ∧ e = .returned (.int .u64 ((q : Nat) : Int)) ∧ Below w.heap.size w w') := by
  refine calls_ro (N := 108) (rs := [.tmp 6]) [.blk bd ⟨false, dvL m, 241, (0, 0)⟩, .blk bu ⟨false, vec .u64 19 (limb U), 243, (0, 0)⟩] Try.func194 rfl Try.ntmps194 Try.results194 (Nat.le_of_ble_eq_true rfl) ⟨hbd, hbu, trivial⟩ rfl ?_
  show LCode _ _ _ ⟨_, _⟩ _
  refine LCode.seq ?_
  refine LCode.region ?_
  refine LOps.detP (Det.assign (v := .int .u64 ((0 : Nat) : Int)) rfl) (Nat.le_of_ble_eq_true rfl) ?_
  refine LOps.nil ?_
  refine LCode.seq ?_
  have hn0 := nw_pos hm0
  have hn9 := nw_w9 hm
  obtain ⟨hf1, hf2, hf3, hf4⟩ := guess_facts hm0 hU
  have hlt := limb_lt (dnm m) (nw m - 1)
  have hlu := limb_lt U (at_ + nw m - 1)
  refine LCode.regionD [] (by kernel_rfl) ?_
  refine LAny.takeP 0 rfl (by kernel_rfl) (Nat.le_of_ble_eq_true rfl) (Det.move rfl) ?_
  refine LAny.takeP 1 rfl (by kernel_rfl) (Nat.le_of_ble_eq_true rfl) (Det.move rfl) ?_
  refine LAny.takeP 2 rfl (by kernel_rfl) (Nat.le_of_ble_eq_true rfl) (Det.nilCheck rfl) ?_
  refine LAny.takeP 3 rfl (by kernel_rfl) (Nat.le_of_ble_eq_true rfl) (Det.fieldA (o' := 9) Try.underlying241 rfl rfl rfl sz_3 (by decide)) ?_
  refine LAny.take 4 rfl (by kernel_rfl) (Nat.le_of_ble_eq_true rfl) (Det.load rfl (by repeat (first | exact List.Mem.head _ | apply List.Mem.tail)) (LoadV.one Try.underlying3 rfl (dvL_n _))) ?_
  refine LAny.takeP 5 rfl (by kernel_rfl) (Nat.le_of_ble_eq_true rfl) (Det.bin rfl rfl (br_sub (b := 1) (by omega) (by omega))) ?_
  refine LAny.takeP 6 rfl (by kernel_rfl) (Nat.le_of_ble_eq_true rfl) (Det.nilCheck rfl) ?_
  refine LAny.takeP 7 rfl (by kernel_rfl) (Nat.le_of_ble_eq_true rfl) (Det.fieldA (o' := 0) Try.underlying241 rfl rfl rfl sz_23 (by decide)) ?_
  refine LAny.takeP 8 rfl (by kernel_rfl) (Nat.le_of_ble_eq_true rfl) (Det.indexA0 Try.underlying23 sz_22 rfl rfl (by omega)) ?_
  refine LAny.take 9 rfl (by kernel_rfl) (Nat.le_of_ble_eq_true rfl) (Det.load rfl (by repeat (first | exact List.Mem.head _ | apply List.Mem.tail)) (LoadV.one Try.underlying22 rfl (by exact dvL_m _ (show nw m - 1 < 9 by omega)))) ?_
  refine LAny.takeP 10 rfl (by kernel_rfl) (Nat.le_of_ble_eq_true rfl) (Det.assign rfl) ?_
  refine LAny.done (by kernel_rfl) ?_
  refine LCode.seq ?_
  refine LCode.regionD [] (by kernel_rfl) ?_
  refine LAny.takeP 0 rfl (by kernel_rfl) (Nat.le_of_ble_eq_true rfl) (Det.move rfl) ?_
  refine LAny.takeP 1 rfl (by kernel_rfl) (Nat.le_of_ble_eq_true rfl) (Det.move rfl) ?_
  refine LAny.takeP 2 rfl (by kernel_rfl) (Nat.le_of_ble_eq_true rfl) (Det.move rfl) ?_
  refine LAny.takeP 3 rfl (by kernel_rfl) (Nat.le_of_ble_eq_true rfl) (Det.nilCheck rfl) ?_
  refine LAny.takeP 4 rfl (by kernel_rfl) (Nat.le_of_ble_eq_true rfl) (Det.fieldA (o' := 9) Try.underlying241 rfl rfl rfl sz_3 (by decide)) ?_
  refine LAny.take 5 rfl (by kernel_rfl) (Nat.le_of_ble_eq_true rfl) (Det.load rfl (by repeat (first | exact List.Mem.head _ | apply List.Mem.tail)) (LoadV.one Try.underlying3 rfl (dvL_n _))) ?_
  refine LAny.takeP 6 rfl (by kernel_rfl) (Nat.le_of_ble_eq_true rfl) (Det.bin rfl rfl (br_add (by omega))) ?_
  refine LAny.takeP 7 rfl (by kernel_rfl) (Nat.le_of_ble_eq_true rfl) (Det.indexS0 Try.underlying234 sz_22 rfl rfl (by omega)) ?_
  refine LAny.take 8 rfl (by kernel_rfl) (Nat.le_of_ble_eq_true rfl) (Det.load rfl (by repeat (first | exact List.Mem.head _ | apply List.Mem.tail)) (LoadV.one Try.underlying22 rfl (by exact vec_get _ _ _ (show at_ + nw m < 19 by omega)))) ?_
  refine LAny.takeP 9 rfl (by kernel_rfl) (Nat.le_of_ble_eq_true rfl) (Det.move rfl) ?_
  refine LAny.takeP 10 rfl (by kernel_rfl) (Nat.le_of_ble_eq_true rfl) (Det.move rfl) ?_
  refine LAny.takeP 11 rfl (by kernel_rfl) (Nat.le_of_ble_eq_true rfl) (Det.move rfl) ?_
  refine LAny.takeP 12 rfl (by kernel_rfl) (Nat.le_of_ble_eq_true rfl) (Det.nilCheck rfl) ?_
  refine LAny.takeP 13 rfl (by kernel_rfl) (Nat.le_of_ble_eq_true rfl) (Det.fieldA (o' := 9) Try.underlying241 rfl rfl rfl sz_3 (by decide)) ?_
  refine LAny.take 14 rfl (by kernel_rfl) (Nat.le_of_ble_eq_true rfl) (Det.load rfl (by repeat (first | exact List.Mem.head _ | apply List.Mem.tail)) (LoadV.one Try.underlying3 rfl (dvL_n _))) ?_
  refine LAny.takeP 15 rfl (by kernel_rfl) (Nat.le_of_ble_eq_true rfl) (Det.bin rfl rfl (br_add (by omega))) ?_
  refine LAny.takeP 16 rfl (by kernel_rfl) (Nat.le_of_ble_eq_true rfl) (Det.bin rfl rfl (br_sub (b := 1) (by omega) (by omega))) ?_
  refine LAny.takeP 17 rfl (by kernel_rfl) (Nat.le_of_ble_eq_true rfl) (Det.indexS0 Try.underlying234 sz_22 rfl rfl (by omega)) ?_
  refine LAny.take 18 rfl (by kernel_rfl) (Nat.le_of_ble_eq_true rfl) (Det.load rfl (by repeat (first | exact List.Mem.head _ | apply List.Mem.tail)) (LoadV.one Try.underlying22 rfl (by exact vec_get _ _ _ (show at_ + nw m - 1 < 19 by omega)))) ?_
  refine LAny.takeP 19 rfl (by kernel_rfl) (Nat.le_of_ble_eq_true rfl) (Det.assign rfl) ?_
  refine LAny.takeP 20 rfl (by kernel_rfl) (Nat.le_of_ble_eq_true rfl) (Det.assign rfl) ?_
  refine LAny.done (by kernel_rfl) ?_
  refine LCode.seq ?_
  refine LCode.seq ?_
  refine LCode.region ?_
  refine LOps.detP (Det.move rfl) (Nat.le_of_ble_eq_true rfl) ?_
  refine LOps.detP (Det.move rfl) (Nat.le_of_ble_eq_true rfl) ?_
  refine LOps.detP (Det.bin rfl rfl (br_geq)) (Nat.le_of_ble_eq_true rfl) ?_
  refine LOps.nil ?_
  first | refine LCode.condD rfl (fun h46 => ?_) (fun h46 => ?_) | refine LCode.cond rfl (fun h46 => ?_) (fun h46 => ?_)
  ·
    refine LCode.seq ?_
    refine LCode.region ?_
    refine LOps.detP (Det.assign (v := .int .u64 ((18446744073709551615 : Nat) : Int)) rfl) (Nat.le_of_ble_eq_true rfl) ?_
    refine LOps.nil ?_
    refine LCode.ret ?_
    refine ⟨[_], .cons rfl .nil, fun a w' hr => ⟨18446744073709551615, ?_, rfl, hr.fr.below⟩⟩
    exact ⟨by decide, by have := quo_lt (dnm_pos hm0) hU; omega⟩
  ·
    have h46 : limb U (at_ + nw m) < limb (dnm m) (nw m - 1) := Nat.lt_of_not_le h46
    have hq9 : U / 2 ^ (64 * at_) / 2 ^ (64 * (nw m - 1)) / limb (dnm m) (nw m - 1) < 18446744073709551616 := by
      rw [← hf1, Nat.div_lt_iff_lt_mul (by omega), Nat.mul_comm]
      omega
    refine LCode.skip ?_
    refine LCode.seq ?_
    refine LCode.region ?_
    refine LOps.detP (Det.move rfl) (Nat.le_of_ble_eq_true rfl) ?_
    refine LOps.detP (Det.move rfl) (Nat.le_of_ble_eq_true rfl) ?_
    refine LOps.detP (Det.move rfl) (Nat.le_of_ble_eq_true rfl) ?_
    refine LOps.step rfl (LStep.w (LStep.callF (v := .tuple #[.int .u64 ((U / 2 ^ (64 * at_) / 2 ^ (64 * (nw m - 1)) / limb (dnm m) (nw m - 1) : Nat) : Int), .int .u64 ((U / 2 ^ (64 * at_) / 2 ^ (64 * (nw m - 1)) % limb (dnm m) (nw m - 1) : Nat) : Int)]) (first := []) rfl en_197 rfl (Nat.le_of_ble_eq_true rfl) (fun w hw => by have h := c_Div64 (limb U (at_ + nw m)) (limb U (at_ + nw m - 1)) _ (limb_lt _ _) hf3 hlt h46 w; rw [hf1] at h; exact h) ?_))
    refine LOps.detP (Det.move rfl) (Nat.le_of_ble_eq_true rfl) ?_
    refine LOps.detP (Det.extract rfl rfl) (Nat.le_of_ble_eq_true rfl) ?_
    refine LOps.detP (Det.extract rfl rfl) (Nat.le_of_ble_eq_true rfl) ?_
    refine LOps.detP (Det.assign rfl) (Nat.le_of_ble_eq_true rfl) ?_
    refine LOps.detP (Det.assign rfl) (Nat.le_of_ble_eq_true rfl) ?_
    refine LOps.nil ?_
    refine LCode.seq ?_
    refine LCode.seq ?_
    refine LCode.region ?_
    refine LOps.detP (Det.move rfl) (Nat.le_of_ble_eq_true rfl) ?_
    refine LOps.detP (Det.nilCheck rfl) (Nat.le_of_ble_eq_true rfl) ?_
    refine LOps.detP (Det.fieldA (o' := 9) Try.underlying241 rfl rfl rfl sz_3 (by decide)) (Nat.le_of_ble_eq_true rfl) ?_
    refine LOps.det (Det.load rfl (by repeat (first | exact List.Mem.head _ | apply List.Mem.tail)) (LoadV.one Try.underlying3 rfl (dvL_n _))) (Nat.le_of_ble_eq_true rfl) ?_
    refine LOps.detP (Det.bin rfl rfl (br_eql (b := 1))) (Nat.le_of_ble_eq_true rfl) ?_
    refine LOps.nil ?_
    first | refine LCode.condD rfl (fun h58 => ?_) (fun h58 => ?_) | refine LCode.cond rfl (fun h58 => ?_) (fun h58 => ?_)
    ·
      refine LCode.seq ?_
      refine LCode.region ?_
      refine LOps.detP (Det.move rfl) (Nat.le_of_ble_eq_true rfl) ?_
      refine LOps.detP (Det.assign rfl) (Nat.le_of_ble_eq_true rfl) ?_
      refine LOps.nil ?_
      refine LCode.ret ?_
      refine ⟨[_], .cons rfl .nil, fun a w' hr => ⟨(U / 2 ^ (64 * at_) / 2 ^ (64 * (nw m - 1))) / limb (dnm m) (nw m - 1), ?_, rfl, hr.fr.below⟩⟩
      exact ⟨hq9, hf4⟩
    ·
      refine LCode.skip ?_
      refine LCode.block ?_
      refine LCode.loop (α := Nat × Nat) (fun x => x.1 * limb (dnm m) (nw m - 1) + x.2 = U / 2 ^ (64 * at_) / 2 ^ (64 * (nw m - 1)) ∧ U / 2 ^ (64 * at_) / dnm m ≤ x.1 ∧ x.1 < 18446744073709551616 ∧ x.2 < 18446744073709551616) (fun x => ⟨[(0, .pointer (some ⟨bd, 0, none⟩)), (1, .slice (some ⟨bu, 0, none⟩) 19 19), (2, .int .i64 ((at_ : Nat) : Int)), (7, .int .u64 ((limb (dnm m) (nw m - 1) : Nat) : Int)), (10, .int .u64 ((x.1 : Nat) : Int)), (11, .int .u64 ((x.2 : Nat) : Int))], [.blk bd ⟨false, dvL m, 241, (0, 0)⟩, .blk bu ⟨false, vec .u64 19 (limb U), 243, (0, 0)⟩]⟩) (fun x => x.1) (((U / 2 ^ (64 * at_) / 2 ^ (64 * (nw m - 1))) / limb (dnm m) (nw m - 1), (U / 2 ^ (64 * at_) / 2 ^ (64 * (nw m - 1))) % limb (dnm m) (nw m - 1))) (⟨by rw [Nat.mul_comm]; exact Nat.div_add_mod _ _, hf4, hq9, Nat.lt_trans (Nat.mod_lt _ (by omega)) hlt⟩) (Sub.mk ⟨rfl, rfl, rfl, rfl, rfl, rfl, trivial⟩ (by repeat (first | exact Sel.nil _ | refine Sel.cons (by repeat (first | exact Pick.head _ | apply Pick.tail)) ?_))) ?_
      intro x ⟨hx1, hx2, hx3, hx4⟩
      have h58 : ¬ nw m = 1 := h58
      refine LCode.block ?_
      refine LCode.seq ?_
      refine LCode.regionD [] (by kernel_rfl) ?_
      refine LAny.takeP 0 rfl (by kernel_rfl) (Nat.le_of_ble_eq_true rfl) (Det.move rfl) ?_
      refine LAny.takeP 1 rfl (by kernel_rfl) (Nat.le_of_ble_eq_true rfl) (Det.move rfl) ?_
      refine LAny.takeP 2 rfl (by kernel_rfl) (Nat.le_of_ble_eq_true rfl) (Det.move rfl) ?_
      refine LAny.takeP 3 rfl (by kernel_rfl) (Nat.le_of_ble_eq_true rfl) (Det.nilCheck rfl) ?_
      refine LAny.takeP 4 rfl (by kernel_rfl) (Nat.le_of_ble_eq_true rfl) (Det.fieldA (o' := 9) Try.underlying241 rfl rfl rfl sz_3 (by decide)) ?_
      refine LAny.take 5 rfl (by kernel_rfl) (Nat.le_of_ble_eq_true rfl) (Det.load rfl (by repeat (first | exact List.Mem.head _ | apply List.Mem.tail)) (LoadV.one Try.underlying3 rfl (dvL_n _))) ?_
      refine LAny.takeP 6 rfl (by kernel_rfl) (Nat.le_of_ble_eq_true rfl) (Det.bin rfl rfl (br_sub (b := 2) (by omega) (by omega))) ?_
      refine LAny.takeP 7 rfl (by kernel_rfl) (Nat.le_of_ble_eq_true rfl) (Det.nilCheck rfl) ?_
      refine LAny.takeP 8 rfl (by kernel_rfl) (Nat.le_of_ble_eq_true rfl) (Det.fieldA (o' := 0) Try.underlying241 rfl rfl rfl sz_23 (by decide)) ?_
      refine LAny.takeP 9 rfl (by kernel_rfl) (Nat.le_of_ble_eq_true rfl) (Det.indexA0 Try.underlying23 sz_22 rfl rfl (by omega)) ?_
      refine LAny.take 10 rfl (by kernel_rfl) (Nat.le_of_ble_eq_true rfl) (Det.load rfl (by repeat (first | exact List.Mem.head _ | apply List.Mem.tail)) (LoadV.one Try.underlying22 rfl (by exact dvL_m _ (show nw m - 2 < 9 by omega)))) ?_
      refine LAny.one 11 rfl rfl (by kernel_rfl) (LStep.callF (first := []) rfl en_193 rfl (Nat.le_of_ble_eq_true rfl) (fun w hw => c_Mul64 _ _ hx3 (limb_lt _ _) w) ?_)
      refine LAny.takeP 12 rfl (by kernel_rfl) (Nat.le_of_ble_eq_true rfl) (Det.move rfl) ?_
      refine LAny.takeP 13 rfl (by kernel_rfl) (Nat.le_of_ble_eq_true rfl) (Det.extract rfl rfl) ?_
      refine LAny.takeP 14 rfl (by kernel_rfl) (Nat.le_of_ble_eq_true rfl) (Det.extract rfl rfl) ?_
      refine LAny.takeP 15 rfl (by kernel_rfl) (Nat.le_of_ble_eq_true rfl) (Det.assign rfl) ?_
      refine LAny.takeP 16 rfl (by kernel_rfl) (Nat.le_of_ble_eq_true rfl) (Det.assign rfl) ?_
      refine LAny.done (by kernel_rfl) ?_
      refine LCode.seq ?_
      refine LCode.seq ?_
      rcases Nat.lt_trichotomy (x.1 * limb (dnm m) (nw m - 2) / 18446744073709551616) x.2 with h9 | h9 | h9
      ·
        refine LCode.region ?_
        refine LOps.detP (Det.move rfl) (Nat.le_of_ble_eq_true rfl) ?_
        refine LOps.detP (Det.move rfl) (Nat.le_of_ble_eq_true rfl) ?_
        refine LOps.detP (Det.bin rfl rfl (br_t br_lss h9)) (Nat.le_of_ble_eq_true rfl) ?_
        refine LOps.detP (Det.move rfl) (Nat.le_of_ble_eq_true rfl) ?_
        refine LOps.skip rfl rfl rfl (Nat.le_of_ble_eq_true rfl) ?_
        refine LOps.skip rfl rfl rfl (Nat.le_of_ble_eq_true rfl) ?_
        refine LOps.skip rfl rfl rfl (Nat.le_of_ble_eq_true rfl) ?_
        refine LOps.skip rfl rfl rfl (Nat.le_of_ble_eq_true rfl) ?_
        refine LOps.skipU rfl rfl (Nat.le_of_ble_eq_true rfl) ?_
        refine LOps.skipU rfl rfl (Nat.le_of_ble_eq_true rfl) ?_
        refine LOps.skipU rfl rfl (Nat.le_of_ble_eq_true rfl) ?_
        refine LOps.skipU rfl rfl (Nat.le_of_ble_eq_true rfl) ?_
        refine LOps.skipU rfl rfl (Nat.le_of_ble_eq_true rfl) ?_
        refine LOps.skipU rfl rfl (Nat.le_of_ble_eq_true rfl) ?_
        refine LOps.skipU rfl rfl (Nat.le_of_ble_eq_true rfl) ?_
        refine LOps.skipU rfl rfl (Nat.le_of_ble_eq_true rfl) ?_
        refine LOps.skipU rfl rfl (Nat.le_of_ble_eq_true rfl) ?_
        refine LOps.skipU rfl rfl (Nat.le_of_ble_eq_true rfl) ?_
        refine LOps.skipU rfl rfl (Nat.le_of_ble_eq_true rfl) ?_
        refine LOps.skipU rfl rfl (Nat.le_of_ble_eq_true rfl) ?_
        refine LOps.skip rfl rfl rfl (Nat.le_of_ble_eq_true rfl) ?_
        refine LOps.detP (Det.pick_true rfl rfl) (Nat.le_of_ble_eq_true rfl) ?_
        refine LOps.nil ?_
        refine LCode.cond_true rfl ?_
        refine LCode.seq ?_
        refine LCode.region ?_
        refine LOps.detP (Det.move rfl) (Nat.le_of_ble_eq_true rfl) ?_
        refine LOps.detP (Det.assign rfl) (Nat.le_of_ble_eq_true rfl) ?_
        refine LOps.nil ?_
        refine LCode.ret ?_
        refine ⟨[_], .cons rfl .nil, fun a w' hr => ⟨x.1, ?_, rfl, hr.fr.below⟩⟩
        exact ⟨hx3, hx2⟩
      ·
        refine LCode.region ?_
        refine LOps.detP (Det.move rfl) (Nat.le_of_ble_eq_true rfl) ?_
        refine LOps.detP (Det.move rfl) (Nat.le_of_ble_eq_true rfl) ?_
        refine LOps.detP (Det.bin rfl rfl (br_f br_lss (by omega))) (Nat.le_of_ble_eq_true rfl) ?_
        refine LOps.detP (Det.move rfl) (Nat.le_of_ble_eq_true rfl) ?_
        refine LOps.detGP rfl rfl (Det.move rfl) (Nat.le_of_ble_eq_true rfl) ?_
        refine LOps.detGP rfl rfl (Det.move rfl) (Nat.le_of_ble_eq_true rfl) ?_
        refine LOps.detGP rfl rfl (Det.bin rfl rfl (br_t br_eql h9)) (Nat.le_of_ble_eq_true rfl) ?_
        refine LOps.detGP rfl rfl (Det.move rfl) (Nat.le_of_ble_eq_true rfl) ?_
        refine LOps.detGP rfl rfl (Det.move rfl) (Nat.le_of_ble_eq_true rfl) ?_
        refine LOps.detGP rfl rfl (Det.move rfl) (Nat.le_of_ble_eq_true rfl) ?_
        refine LOps.detGP rfl rfl (Det.move rfl) (Nat.le_of_ble_eq_true rfl) ?_
        refine LOps.detGP rfl rfl (Det.move rfl) (Nat.le_of_ble_eq_true rfl) ?_
        refine LOps.detGP rfl rfl (Det.nilCheck rfl) (Nat.le_of_ble_eq_true rfl) ?_
        refine LOps.detGP rfl rfl (Det.fieldA (o' := 9) Try.underlying241 rfl rfl rfl sz_3 (by decide)) (Nat.le_of_ble_eq_true rfl) ?_
        refine LOps.detG rfl rfl (Det.load rfl (by repeat (first | exact List.Mem.head _ | apply List.Mem.tail)) (LoadV.one Try.underlying3 rfl (dvL_n _))) (Nat.le_of_ble_eq_true rfl) ?_
        refine LOps.detGP rfl rfl (Det.bin rfl rfl (br_add (by omega))) (Nat.le_of_ble_eq_true rfl) ?_
        refine LOps.detGP rfl rfl (Det.bin rfl rfl (br_sub (b := 2) (by omega) (by omega))) (Nat.le_of_ble_eq_true rfl) ?_
        refine LOps.detGP rfl rfl (Det.indexS0 Try.underlying234 sz_22 rfl rfl (by omega)) (Nat.le_of_ble_eq_true rfl) ?_
        refine LOps.detG rfl rfl (Det.load rfl (by repeat (first | exact List.Mem.head _ | apply List.Mem.tail)) (LoadV.one Try.underlying22 rfl (by exact vec_get _ _ _ (show at_ + nw m - 2 < 19 by omega)))) (Nat.le_of_ble_eq_true rfl) ?_
        refine LOps.detGP rfl rfl (Det.bin rfl rfl (br_leq)) (Nat.le_of_ble_eq_true rfl) ?_
        refine LOps.detGP rfl rfl (Det.pick_true rfl rfl) (Nat.le_of_ble_eq_true rfl) ?_
        refine LOps.detP (Det.pick_false rfl rfl) (Nat.le_of_ble_eq_true rfl) ?_
        refine LOps.nil ?_
        first | refine LCode.condD rfl (fun h96 => ?_) (fun h96 => ?_) | refine LCode.cond rfl (fun h96 => ?_) (fun h96 => ?_)
        ·
          refine LCode.seq ?_
          refine LCode.region ?_
          refine LOps.detP (Det.move rfl) (Nat.le_of_ble_eq_true rfl) ?_
          refine LOps.detP (Det.assign rfl) (Nat.le_of_ble_eq_true rfl) ?_
          refine LOps.nil ?_
          refine LCode.ret ?_
          refine ⟨[_], .cons rfl .nil, fun a w' hr => ⟨x.1, ?_, rfl, hr.fr.below⟩⟩
          exact ⟨hx3, hx2⟩
        ·
          have h96 : ¬ x.1 * limb (dnm m) (nw m - 2) % 18446744073709551616 ≤ limb U (at_ + nw m - 2) := h96
          have hq := guess_step hm0 (by omega) hx1 (by rw [← prod_parts (x.1 * limb (dnm m) (nw m - 2))]; exact two_le (Nat.mod_lt _ (by decide)) (limb_lt _ _) (.inr ⟨h9, by omega⟩))
          have hq0 := Nat.lt_of_le_of_lt (Nat.zero_le _) hq
          refine LCode.skip ?_
          refine LCode.seq ?_
          refine LCode.region ?_
          refine LOps.detP (Det.move rfl) (Nat.le_of_ble_eq_true rfl) ?_
          refine LOps.detP (Slots.cast (Det.bin rfl rfl (br_sub64 (b := 1) (by decide))) (vi (b := x.1 - 1) (by omega))) (Nat.le_of_ble_eq_true rfl) ?_
          refine LOps.detP (Det.assign rfl) (Nat.le_of_ble_eq_true rfl) ?_
          refine LOps.nil ?_
          refine LCode.seq ?_
          refine LCode.region ?_
          refine LOps.detP (Det.move rfl) (Nat.le_of_ble_eq_true rfl) ?_
          refine LOps.detP (Det.move rfl) (Nat.le_of_ble_eq_true rfl) ?_
          refine LOps.detP (Det.bin rfl rfl (br_add64)) (Nat.le_of_ble_eq_true rfl) ?_
          refine LOps.detP (Det.assign rfl) (Nat.le_of_ble_eq_true rfl) ?_
          refine LOps.nil ?_
          refine LCode.seq ?_
          refine LCode.seq ?_
          refine LCode.region ?_
          refine LOps.detP (Det.move rfl) (Nat.le_of_ble_eq_true rfl) ?_
          refine LOps.detP (Det.move rfl) (Nat.le_of_ble_eq_true rfl) ?_
          refine LOps.detP (Det.bin rfl rfl (br_lss)) (Nat.le_of_ble_eq_true rfl) ?_
          refine LOps.nil ?_
          first | refine LCode.condD rfl (fun h105 => ?_) (fun h105 => ?_) | refine LCode.cond rfl (fun h105 => ?_) (fun h105 => ?_)
          ·
            have h105 : (x.2 + limb (dnm m) (nw m - 1)) % 18446744073709551616 < x.2 := h105
            refine LCode.seq ?_
            refine LCode.region ?_
            refine LOps.detP (Det.move rfl) (Nat.le_of_ble_eq_true rfl) ?_
            refine LOps.detP (Det.assign rfl) (Nat.le_of_ble_eq_true rfl) ?_
            refine LOps.nil ?_
            refine LCode.ret ?_
            refine ⟨[_], .cons rfl .nil, fun a w' hr => ⟨x.1 - 1, ?_, rfl, hr.fr.below⟩⟩
            exact ⟨by omega, Nat.le_sub_one_of_lt hq⟩
          ·
            have h105 : ¬ (x.2 + limb (dnm m) (nw m - 1)) % 18446744073709551616 < x.2 := h105
            refine LCode.skip ?_
            refine LCode.region ?_
            refine LOps.detP (Det.move rfl) (Nat.le_of_ble_eq_true rfl) ?_
            refine LOps.detP (Det.assign rfl) (Nat.le_of_ble_eq_true rfl) ?_
            refine LOps.nil ?_
            refine ⟨(x.1 - 1, x.2 + limb (dnm m) (nw m - 1)), ⟨guess_next (d2 := 0) (u := 0) hx1 hq0, Nat.le_sub_one_of_lt hq, by dsimp only; omega, by dsimp only; omega⟩, by dsimp only; omega, Sub.mk ⟨rfl, rfl, rfl, rfl, rfl, congrArg some (vi (by dsimp only; omega)), trivial⟩ (by repeat (first | exact Sel.nil _ | refine Sel.cons (by repeat (first | exact Pick.head _ | apply Pick.tail)) ?_))⟩
      ·
        refine LCode.region ?_
        refine LOps.detP (Det.move rfl) (Nat.le_of_ble_eq_true rfl) ?_
        refine LOps.detP (Det.move rfl) (Nat.le_of_ble_eq_true rfl) ?_
        refine LOps.detP (Det.bin rfl rfl (br_f br_lss (by omega))) (Nat.le_of_ble_eq_true rfl) ?_
        refine LOps.detP (Det.move rfl) (Nat.le_of_ble_eq_true rfl) ?_
        refine LOps.detGP rfl rfl (Det.move rfl) (Nat.le_of_ble_eq_true rfl) ?_
        refine LOps.detGP rfl rfl (Det.move rfl) (Nat.le_of_ble_eq_true rfl) ?_
        refine LOps.detGP rfl rfl (Det.bin rfl rfl (br_f br_eql (by omega))) (Nat.le_of_ble_eq_true rfl) ?_
        refine LOps.detGP rfl rfl (Det.move rfl) (Nat.le_of_ble_eq_true rfl) ?_
        refine LOps.skip rfl rfl rfl (Nat.le_of_ble_eq_true rfl) ?_
        refine LOps.skip rfl rfl rfl (Nat.le_of_ble_eq_true rfl) ?_
        refine LOps.skip rfl rfl rfl (Nat.le_of_ble_eq_true rfl) ?_
        refine LOps.skip rfl rfl rfl (Nat.le_of_ble_eq_true rfl) ?_
        refine LOps.skip rfl rfl rfl (Nat.le_of_ble_eq_true rfl) ?_
        refine LOps.skip rfl rfl rfl (Nat.le_of_ble_eq_true rfl) ?_
        refine LOps.skip rfl rfl rfl (Nat.le_of_ble_eq_true rfl) ?_
        refine LOps.skip rfl rfl rfl (Nat.le_of_ble_eq_true rfl) ?_
        refine LOps.skip rfl rfl rfl (Nat.le_of_ble_eq_true rfl) ?_
        refine LOps.skip rfl rfl rfl (Nat.le_of_ble_eq_true rfl) ?_
        refine LOps.skip rfl rfl rfl (Nat.le_of_ble_eq_true rfl) ?_
        refine LOps.skip rfl rfl rfl (Nat.le_of_ble_eq_true rfl) ?_
        refine LOps.detGP rfl rfl (Det.pick_false rfl rfl) (Nat.le_of_ble_eq_true rfl) ?_
        refine LOps.detP (Det.pick_false rfl rfl) (Nat.le_of_ble_eq_true rfl) ?_
        refine LOps.nil ?_
        have hq := guess_step hm0 (by omega) hx1 (by rw [← prod_parts (x.1 * limb (dnm m) (nw m - 2))]; exact two_le (Nat.mod_lt _ (by decide)) (limb_lt _ _) (.inl h9))
        have hq0 := Nat.lt_of_le_of_lt (Nat.zero_le _) hq
        refine LCode.cond_false rfl ?_
        refine LCode.skip ?_
        refine LCode.seq ?_
        refine LCode.region ?_
        refine LOps.detP (Det.move rfl) (Nat.le_of_ble_eq_true rfl) ?_
        refine LOps.detP (Slots.cast (Det.bin rfl rfl (br_sub64 (b := 1) (by decide))) (vi (b := x.1 - 1) (by omega))) (Nat.le_of_ble_eq_true rfl) ?_
        refine LOps.detP (Det.assign rfl) (Nat.le_of_ble_eq_true rfl) ?_
        refine LOps.nil ?_
        refine LCode.seq ?_
        refine LCode.region ?_
        refine LOps.detP (Det.move rfl) (Nat.le_of_ble_eq_true rfl) ?_
        refine LOps.detP (Det.move rfl) (Nat.le_of_ble_eq_true rfl) ?_
        refine LOps.detP (Det.bin rfl rfl (br_add64)) (Nat.le_of_ble_eq_true rfl) ?_
        refine LOps.detP (Det.assign rfl) (Nat.le_of_ble_eq_true rfl) ?_
        refine LOps.nil ?_
        refine LCode.seq ?_
        refine LCode.seq ?_
        refine LCode.region ?_
        refine LOps.detP (Det.move rfl) (Nat.le_of_ble_eq_true rfl) ?_
        refine LOps.detP (Det.move rfl) (Nat.le_of_ble_eq_true rfl) ?_
        refine LOps.detP (Det.bin rfl rfl (br_lss)) (Nat.le_of_ble_eq_true rfl) ?_
        refine LOps.nil ?_
        first | refine LCode.condD rfl (fun h105 => ?_) (fun h105 => ?_) | refine LCode.cond rfl (fun h105 => ?_) (fun h105 => ?_)
        ·
          have h105 : (x.2 + limb (dnm m) (nw m - 1)) % 18446744073709551616 < x.2 := h105
          refine LCode.seq ?_
          refine LCode.region ?_
          refine LOps.detP (Det.move rfl) (Nat.le_of_ble_eq_true rfl) ?_
          refine LOps.detP (Det.assign rfl) (Nat.le_of_ble_eq_true rfl) ?_
          refine LOps.nil ?_
          refine LCode.ret ?_
          refine ⟨[_], .cons rfl .nil, fun a w' hr => ⟨x.1 - 1, ?_, rfl, hr.fr.below⟩⟩
          exact ⟨by omega, Nat.le_sub_one_of_lt hq⟩
        ·
          have h105 : ¬ (x.2 + limb (dnm m) (nw m - 1)) % 18446744073709551616 < x.2 := h105
          refine LCode.skip ?_
          refine LCode.region ?_
          refine LOps.detP (Det.move rfl) (Nat.le_of_ble_eq_true rfl) ?_
          refine LOps.detP (Det.assign rfl) (Nat.le_of_ble_eq_true rfl) ?_
          refine LOps.nil ?_
          refine ⟨(x.1 - 1, x.2 + limb (dnm m) (nw m - 1)), ⟨guess_next (d2 := 0) (u := 0) hx1 hq0, Nat.le_sub_one_of_lt hq, by dsimp only; omega, by dsimp only; omega⟩, by dsimp only; omega, Sub.mk ⟨rfl, rfl, rfl, rfl, rfl, congrArg some (vi (by dsimp only; omega)), trivial⟩ (by repeat (first | exact Sel.nil _ | refine Sel.cons (by repeat (first | exact Pick.head _ | apply Pick.tail)) ?_))⟩

end Go.Proofs.Ytljblbgogjieaaa
