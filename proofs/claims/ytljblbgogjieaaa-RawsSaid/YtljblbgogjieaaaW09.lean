/- Walks: what functions of the program come to, step by step. -/
import Derived.Test.YtljblbgogjieaaaW08
set_option linter.unusedVariables false
set_option linter.unusedSimpArgs false
set_option maxRecDepth 20000
namespace Go.Proofs.Ytljblbgogjieaaa
open Go Go.RowKit

theorem nat_eq_iff {A B : Nat} (hA : A < W9) (hB : B < W9) : (decide (A = B)) = true ↔ ∀ i, i < 9 → limb A i = limb B i := by
  constructor
  · intro h i _; rw [of_decide_eq_true h]
  · intro h; exact decide_eq_true (limb_ext hA hB h)
theorem take_all (A : Nat) : (natL A).take 9 = natL A := List.take_of_length_le (by rw [natL_length]; exact Nat.le_refl _)
theorem eq_nat (A B : Nat) (hA : A < W9) (hB : B < W9) : EqD 3 Try.prog 25 (natV A) (natV B) (decide (A = B)) := by
  rw [← Bool.and_true (decide (A = B))]
  exact EqD.struct (fs := [_]) Try.underlying25 (by kernel_rfl) (EqFs.cons (by decide) (PartOf.agg Try.underlying23 rfl sz_23 (take_all A)) (PartOf.agg Try.underlying23 rfl sz_23 (take_all B)) (EqD.nums (nat_eq_iff hA hB) Try.underlying23 Try.underlying22 sz_22) EqFs.nil)
theorem blen_w9e {E : Nat} (h : E < W9) : blen E ≤ 576 := by
  have h1 : ∀ n, n = 9 → blen E ≤ 64 * n := fun n hn => blen_le (lt_w9_pow h n hn)
  have := h1 9 rfl
  omega
theorem mul_pow18 {A B : Nat} (hA : A < W9) (hB : B < W9) : ∀ i, i = 18 → A * B < 2 ^ (64 * i) := fun i h => by
  rw [w18 h]; exact mul_w18 hA hB
theorem nw_mul {A B : Nat} (hA : A < W9) (hB : B < W9) : nw (A * B) ≤ 18 := nw_le (mul_pow18 hA hB 18 rfl)
theorem one_w9 : 1 < W9 := Nat.one_lt_pow (by decide) (by decide)
theorem mod_w9 {A m : Nat} (hm0 : m ≠ 0) (hm : m < W9) : A % m < W9 := Nat.lt_trans (Nat.mod_lt _ (Nat.pos_of_ne_zero hm0)) hm
theorem wide_take {Q : Nat} : ((wideL Q).drop 0).take 9 = natL Q := by
  unfold wideL natL vec
  rw [List.drop_zero, ← List.map_take, List.take_range]
  rfl
theorem pow_bit (a e i m : Nat) : (if e / 2 ^ i % 2 = 1 then (a ^ (e / 2 ^ (i + 1)) % m * (a ^ (e / 2 ^ (i + 1)) % m) % m * a) % m else (a ^ (e / 2 ^ (i + 1)) % m * (a ^ (e / 2 ^ (i + 1)) % m)) % m) = a ^ (e / 2 ^ i) % m := by
  have h1 : e / 2 ^ i = 2 * (e / 2 ^ (i + 1)) + e / 2 ^ i % 2 := by
    rw [Nat.pow_succ, ← Nat.div_div_eq_div_mul]; omega
  have h2 := Nat.mod_two_eq_zero_or_one (e / 2 ^ i)
  generalize e / 2 ^ (i + 1) = k at *
  rw [← Nat.mul_mod]
  rcases h2 with h2 | h2
  · rw [h2] at h1 ⊢
    rw [if_neg (by decide), h1, Nat.add_zero, Nat.two_mul, Nat.pow_add]
  · rw [h2] at h1 ⊢
    rw [if_pos rfl, h1, Nat.pow_add, Nat.two_mul, Nat.pow_add, Nat.pow_one, Nat.mod_mul_mod]

theorem c_zero (m bm : Nat) (wr : Bool) (w : World) (hb : (Item.blk bm ⟨wr, natL m, 25, (0, 0)⟩).holds w) (hm : m < W9) : Calls Try.prog 188 ([.pointer (some ⟨bm, 0, none⟩)] : List Value).toArray w (fun e w' => e = .returned (.bool (decide (m = 0))) ∧ Below w.heap.size w w') := by
  refine calls_ro (N := 8) (rs := [.tmp 2]) [.blk bm ⟨false, natL m, 25, (0, 0)⟩] Try.func188 rfl Try.ntmps188 Try.results188 (Nat.le_of_ble_eq_true rfl) ⟨hb, trivial⟩ rfl ?_
  show LCode _ _ _ ⟨_, _⟩ _
  refine LCode.seq ?_
  refine LCode.region ?_
  refine LOps.detP (Det.assign rfl) (Nat.le_of_ble_eq_true rfl) ?_
  refine LOps.nil ?_
  refine LCode.seq ?_
  refine LCode.region ?_
  refine LOps.detP (Det.move rfl) (Nat.le_of_ble_eq_true rfl) ?_
  refine LOps.detP (Det.nilCheck rfl) (Nat.le_of_ble_eq_true rfl) ?_
  refine LOps.det (Det.load rfl (by repeat (first | exact List.Mem.head _ | apply List.Mem.tail)) (by exact LoadV.whole Try.underlying25 rfl sz_25)) (Nat.le_of_ble_eq_true rfl) ?_
  refine LOps.detP (Slots.cast (Det.build pl_25 zr_25 rfl rfl) (show _ = natV 0 by unfold natV natL; rw [← vec_zeros 9])) (Nat.le_of_ble_eq_true rfl) ?_
  refine LOps.detP (Det.eqa (by kernel_rfl) (fun w => eq_nat m 0 hm (by exact w9_pos) 10000 (by decide) w) rfl rfl) (Nat.le_of_ble_eq_true rfl) ?_
  refine LOps.detP (Det.assign rfl) (Nat.le_of_ble_eq_true rfl) ?_
  refine LOps.nil ?_
  refine LCode.ret ?_
  refine ⟨[_], .cons rfl .nil, fun a w' hr => ⟨?_, hr.fr.below⟩⟩
  rfl

theorem c_zeroN (m bm : Nat) (wr : Bool) (hm0 : m ≠ 0) (w : World) (hb : (Item.blk bm ⟨wr, natL m, 25, (0, 0)⟩).holds w) (hm : m < W9) : Calls Try.prog 188 ([.pointer (some ⟨bm, 0, none⟩)] : List Value).toArray w (fun e w' => e = .returned (.bool false) ∧ Below w.heap.size w w') := by
  have h := c_zero m bm wr w hb hm
  rw [decide_eq_false hm0] at h
  exact h

theorem c_By (m : Nat) (hm0 : m ≠ 0) (hm : m < W9) (w : World)  : Calls Try.prog 170 ([natV m] : List Value).toArray w (fun e w' => ∃ b, e = .returned (.agg [.pointer (some ⟨b, 0, none⟩)].toArray) ∧ w.heap.size ≤ b ∧ (Item.blk b ⟨false, dvL m, 241, (0, 0)⟩).holds w' ∧ Below w.heap.size w w') := by
  refine calls_ro (N := 5) (rs := [.cell 2 192]) [] Try.func170 rfl Try.ntmps170 Try.results170 (Nat.le_of_ble_eq_true rfl) trivial rfl ?_
  show LCode _ _ _ ⟨_, _⟩ _
  refine LCode.seq ?_
  refine LCode.region ?_
  refine LOps.step rfl (LStep.w (LStep.makes (Makes.boxA rfl) (Nat.le_of_ble_eq_true rfl) (fun b1 => ?_)))
  refine LOps.step rfl (LStep.w (LStep.makes (Makes.allocA zr_192) (Nat.le_of_ble_eq_true rfl) (fun b2 => ?_)))
  refine LOps.nil ?_
  refine LCode.seq ?_
  refine LCode.region ?_
  refine LOps.step rfl (LStep.w (LStep.call (Post := fun v its => ∃ b, v = .pointer (some ⟨b, 0, none⟩) ∧ its = [.blk b ⟨true, dvL m, 241, (0, 0)⟩]) (first := []) rfl en_183 rfl (Nat.le_of_ble_eq_true rfl) (fun w hw => (c_of m b1 _ hm0 w (hw _ (by repeat (first | exact List.Mem.head _ | apply List.Mem.tail))) hm).mono fun e w' ⟨b, h1, h2, h3, h4⟩ => ⟨_, _, ⟨b, rfl, rfl⟩, h1, Brings.blk1 h4 h2 h3⟩) ?_))
  rintro _ _ ⟨bd, rfl, rfl⟩
  refine LOps.detP (Det.build pl_192 zr_192 rfl (((fillL_step (A := ([] : List Value)) (B := ([Value.pointer none])) (D := ([] : List Value)) (cs := [.pointer (some ⟨bd, 0, none⟩)]) rfl rfl (by first | exact natL_length _ | exact vec_length _ _ _ | exact wideL_length _ | exact dv_length _ _ _ | rfl | (simp only [List.length_append, List.length_cons, List.length_nil, natL_length, vec_length, wideL_length, dv_length, ptL_length, pjL_length])) (by first | rfl | simp only [List.append_assoc, List.nil_append, List.append_nil, List.cons_append]) (by first | exact natL_length _ | exact vec_length _ _ _ | exact wideL_length _ | exact dv_length _ _ _ | rfl | (simp only [List.length_append, List.length_cons, List.length_nil, natL_length, vec_length, wideL_length, dv_length, ptL_length, pjL_length])) (by first | exact natL_length _ | exact vec_length _ _ _ | exact wideL_length _ | exact dv_length _ _ _ | rfl | (simp only [List.length_append, List.length_cons, List.length_nil, natL_length, vec_length, wideL_length, dv_length, ptL_length, pjL_length])) rfl) : fillL _ _ _ = _).trans (congrArg some (show _ = ([.pointer (some ⟨bd, 0, none⟩)]) from by first | rfl | simp only [List.append_assoc, List.nil_append, List.append_nil, List.cons_append])))) (Nat.le_of_ble_eq_true rfl) ?_
  refine LOps.step rfl (LStepW.storeA rfl rfl sz_192 (by repeat (first | exact natL_one _ | exact vec_one _ _ _ | exact wideL_one _ | exact ptL_one _ _ _ | exact pjL_one _ _ _ | exact allOne_nil | refine allOne_cons rfl ?_ | refine allOne_append ?_ ?_)) (by repeat (first | exact SetAt.head _ | apply SetAt.tail)) (by first | exact natL_length _ | exact vec_length _ _ _ | exact wideL_length _ | exact ptL_length _ _ _ | exact pjL_length _ _ _ | rfl | simp [vec_length, natL_length, wideL_length]) ?_)
  refine LOps.nil ?_
  refine LCode.ret ?_
  refine ⟨[_], .cons ⟨_, _, _, rfl, (by repeat (first | exact List.Mem.head _ | apply List.Mem.tail)), by exact LoadV.whole Try.underlying192 rfl sz_192⟩ .nil, fun a w' hr => ⟨bd, rfl, hr.new (B := ⟨true, dvL m, 241, (0, 0)⟩) (by repeat (first | exact List.Mem.head _ | apply List.Mem.tail)) rfl, (show (Item.blk bd ⟨true, dvL m, 241, (0, 0)⟩).holds w' from hr.hp _ (by repeat (first | exact List.Mem.head _ | apply List.Mem.tail))), hr.fr.below⟩⟩

theorem c_Mul (m A B bd : Nat) (hm0 : m ≠ 0) (hm : m < W9) (w : World) (hbd : (Item.blk bd ⟨false, dvL m, 241, (0, 0)⟩).holds w) (hA : A < W9) (hB : B < W9) : Calls Try.prog 175 ([.agg [.pointer (some ⟨bd, 0, none⟩)].toArray, natV A, natV B] : List Value).toArray w (fun e w' => e = .returned (natV (A * B % m)) ∧ Below w.heap.size w w') := by
  refine calls_ro (N := 25) (rs := [.cell 6 25]) [.blk bd ⟨false, dvL m, 241, (0, 0)⟩] Try.func175 rfl Try.ntmps175 Try.results175 (Nat.le_of_ble_eq_true rfl) ⟨hbd, trivial⟩ rfl ?_
  show LCode _ _ _ ⟨_, _⟩ _
  refine LCode.seq ?_
  refine LCode.region ?_
  refine LOps.step rfl (LStep.w (LStep.makes (Makes.boxA rfl) (Nat.le_of_ble_eq_true rfl) (fun b3 => ?_)))
  refine LOps.step rfl (LStep.w (LStep.makes (Makes.boxA rfl) (Nat.le_of_ble_eq_true rfl) (fun b4 => ?_)))
  refine LOps.step rfl (LStep.w (LStep.makes (Makes.boxA rfl) (Nat.le_of_ble_eq_true rfl) (fun b5 => ?_)))
  refine LOps.step rfl (LStep.w (LStep.makes (Makes.allocA zr_25) (Nat.le_of_ble_eq_true rfl) (fun b6 => ?_)))
  refine LOps.nil ?_
  refine LCode.seq ?_
  refine LCode.region ?_
  refine LOps.det (Det.load rfl (by repeat (first | exact List.Mem.head _ | apply List.Mem.tail)) (by exact LoadV.whole Try.underlying25 rfl sz_25)) (Nat.le_of_ble_eq_true rfl) ?_
  refine LOps.det (Det.load rfl (by repeat (first | exact List.Mem.head _ | apply List.Mem.tail)) (by exact LoadV.whole Try.underlying25 rfl sz_25)) (Nat.le_of_ble_eq_true rfl) ?_
  refine LOps.step rfl (LStep.w (LStep.callF (first := []) rfl en_185 rfl (Nat.le_of_ble_eq_true rfl) (fun w hw => c_nat_Mul A B hA hB w) ?_))
  refine LOps.step rfl (LStep.w (LStep.makes (Makes.allocA zr_230) (Nat.le_of_ble_eq_true rfl) (fun b7 => ?_)))
  refine LOps.step rfl (LStepW.storeA rfl rfl sz_230 (by repeat (first | exact natL_one _ | exact vec_one _ _ _ | exact wideL_one _ | exact ptL_one _ _ _ | exact pjL_one _ _ _ | exact allOne_nil | refine allOne_cons rfl ?_ | refine allOne_append ?_ ?_)) (by repeat (first | exact SetAt.head _ | apply SetAt.tail)) (by first | exact natL_length _ | exact vec_length _ _ _ | exact wideL_length _ | exact ptL_length _ _ _ | exact pjL_length _ _ _ | rfl | simp [vec_length, natL_length, wideL_length]) ?_)
  refine LOps.nil ?_
  refine LCode.seq ?_
  refine LCode.regionD [13, 14] (by kernel_rfl) ?_
  refine LAny.takeP 0 rfl (by kernel_rfl) (Nat.le_of_ble_eq_true rfl) (Det.fieldA (o' := 0) Try.underlying192 rfl rfl rfl sz_190 (by decide)) ?_
  refine LAny.take 1 rfl (by kernel_rfl) (Nat.le_of_ble_eq_true rfl) (Det.load rfl (by repeat (first | exact List.Mem.head _ | apply List.Mem.tail)) (LoadV.one Try.underlying190 rfl (by first | rfl | exact vec_get _ _ _ (by omega) | exact natL_get _ (by omega) | exact wideL_get _ (by omega) | exact dv_m _ _ _ (by omega)))) ?_
  refine LAny.takeP 2 rfl (by kernel_rfl) (Nat.le_of_ble_eq_true rfl) (Det.fieldA (o' := 0) Try.underlying230 rfl rfl rfl sz_228 (by decide)) ?_
  refine LAny.takeP 3 rfl (by kernel_rfl) (Nat.le_of_ble_eq_true rfl) (Det.fieldA (o' := 0) Try.underlying230 rfl rfl rfl sz_228 (by decide)) ?_
  refine LAny.takeP 4 rfl (by kernel_rfl) (Nat.le_of_ble_eq_true rfl) (Det.slArr Try.underlying228 sz_22 rfl) ?_
  refine LAny.toP ?_
  refine LAnyP.start 11 rfl (.inl zr_230) (Nat.le_of_ble_eq_true rfl) rfl rfl rfl ?_
  refine LAnyP.start 12 rfl (.inl zr_25) (Nat.le_of_ble_eq_true rfl) rfl rfl rfl ?_
  refine LAnyP.step 5 rfl rfl rfl (Nat.le_of_ble_eq_true rfl) (by kernel_rfl) rfl (LExt.callF (first := []) rfl en_187 rfl (fun w hw => c_length (A * B) b7 18 18 _ true w (hw _ (by repeat (first | exact List.Mem.head _ | apply List.Mem.tail))) (Nat.le_refl _) (by decide) (mul_pow18 hA hB 18 rfl))) ?_
  rintro _ _ ⟨rfl, rfl⟩
  refine LAnyP.takeP 6 rfl (by kernel_rfl) (Nat.le_of_ble_eq_true rfl) rfl (Det.slArrH Try.underlying228 sz_22 rfl rfl (by omega) (by have := nw_mul hA hB; omega)) ?_
  refine LAnyP.step 7 rfl rfl rfl (Nat.le_of_ble_eq_true rfl) (by kernel_rfl) rfl (LExt.callF (first := []) rfl en_186 rfl (fun w hw => c_divide m (A * B) bd b7 (nw (A * B)) 18 _ true hm0 w (hw _ (by repeat (first | exact List.Mem.head _ | apply List.Mem.tail))) (hw _ (by repeat (first | exact List.Mem.head _ | apply List.Mem.tail))) hm (nw_mul hA hB) (by decide) (lt_nw _))) ?_
  rintro _ _ ⟨rfl, rfl⟩
  refine LAnyP.takeP 8 rfl (by kernel_rfl) (Nat.le_of_ble_eq_true rfl) rfl (Det.move rfl) ?_
  refine LAnyP.takeP 9 rfl (by kernel_rfl) (Nat.le_of_ble_eq_true rfl) rfl (Det.extract rfl rfl) ?_
  refine LAnyP.takeP 10 rfl (by kernel_rfl) (Nat.le_of_ble_eq_true rfl) rfl (Det.extract rfl rfl) ?_
  refine LAnyP.mat (by kernel_rfl) (fun b9 => ?_)
  refine LAnyP.mat (by kernel_rfl) (fun b8 => ?_)
  refine LAnyP.toAny ?_
  refine LAny.late 13 rfl rfl (by kernel_rfl) (by kernel_rfl) (LStepW.storeA rfl rfl sz_230 (by repeat (first | exact natL_one _ | exact vec_one _ _ _ | exact wideL_one _ | exact ptL_one _ _ _ | exact pjL_one _ _ _ | exact allOne_nil | refine allOne_cons rfl ?_ | refine allOne_append ?_ ?_)) (by repeat (first | exact SetAt.head _ | apply SetAt.tail)) (by first | exact natL_length _ | exact vec_length _ _ _ | exact wideL_length _ | exact ptL_length _ _ _ | exact pjL_length _ _ _ | rfl | simp [vec_length, natL_length, wideL_length]) ?_)
  refine LAny.late 14 rfl rfl (by kernel_rfl) (by kernel_rfl) (LStepW.storeA rfl rfl sz_25 (by repeat (first | exact natL_one _ | exact vec_one _ _ _ | exact wideL_one _ | exact ptL_one _ _ _ | exact pjL_one _ _ _ | exact allOne_nil | refine allOne_cons rfl ?_ | refine allOne_append ?_ ?_)) (by repeat (first | exact SetAt.head _ | apply SetAt.tail)) (by first | exact natL_length _ | exact vec_length _ _ _ | exact wideL_length _ | exact ptL_length _ _ _ | exact pjL_length _ _ _ | rfl | simp [vec_length, natL_length, wideL_length]) ?_)
  refine LAny.done (by kernel_rfl) ?_
  refine LCode.seq ?_
  refine LCode.region ?_
  refine LOps.det (Det.load rfl (by repeat (first | exact List.Mem.head _ | apply List.Mem.tail)) (by exact LoadV.whole Try.underlying25 rfl sz_25)) (Nat.le_of_ble_eq_true rfl) ?_
  refine LOps.step rfl (LStepW.storeA rfl rfl sz_25 (by repeat (first | exact natL_one _ | exact vec_one _ _ _ | exact wideL_one _ | exact ptL_one _ _ _ | exact pjL_one _ _ _ | exact allOne_nil | refine allOne_cons rfl ?_ | refine allOne_append ?_ ?_)) (by repeat (first | exact SetAt.head _ | apply SetAt.tail)) (by first | exact natL_length _ | exact vec_length _ _ _ | exact wideL_length _ | exact ptL_length _ _ _ | exact pjL_length _ _ _ | rfl | simp [vec_length, natL_length, wideL_length]) ?_)
  refine LOps.nil ?_
  refine LCode.ret ?_
  refine ⟨[_], .cons ⟨_, _, _, rfl, (by repeat (first | exact List.Mem.head _ | apply List.Mem.tail)), by exact LoadV.whole Try.underlying25 rfl sz_25⟩ .nil, fun a w' hr => ⟨?_, hr.fr.below⟩⟩
  rfl

theorem c_Div (A m : Nat) (hm0 : m ≠ 0) (w : World) (hA : A < W9) (hm : m < W9) : Calls Try.prog 189 ([natV A, natV m] : List Value).toArray w (fun e w' => e = .returned (.tuple #[natV (A / m), natV (A % m), .int .i64 ((0 : Nat) : Int)]) ∧ Below w.heap.size w w') := by
  refine calls_ro (N := 25) (rs := [.cell 4 25, .cell 5 25, .tmp 6]) [] Try.func189 rfl Try.ntmps189 Try.results189 (Nat.le_of_ble_eq_true rfl) trivial rfl ?_
  show LCode _ _ _ ⟨_, _⟩ _
  refine LCode.seq ?_
  refine LCode.region ?_
  refine LOps.step rfl (LStep.w (LStep.makes (Makes.boxA rfl) (Nat.le_of_ble_eq_true rfl) (fun b2 => ?_)))
  refine LOps.step rfl (LStep.w (LStep.makes (Makes.boxA rfl) (Nat.le_of_ble_eq_true rfl) (fun b3 => ?_)))
  refine LOps.step rfl (LStep.w (LStep.makes (Makes.allocA zr_25) (Nat.le_of_ble_eq_true rfl) (fun b4 => ?_)))
  refine LOps.step rfl (LStep.w (LStep.makes (Makes.allocA zr_25) (Nat.le_of_ble_eq_true rfl) (fun b5 => ?_)))
  refine LOps.detP (Det.assign (v := .int .i64 ((0 : Nat) : Int)) rfl) (Nat.le_of_ble_eq_true rfl) ?_
  refine LOps.nil ?_
  refine LCode.seq ?_
  refine LCode.seq ?_
  refine LCode.region ?_
  refine LOps.step rfl (LStep.w (LStep.callF (first := []) rfl en_188 rfl (Nat.le_of_ble_eq_true rfl) (fun w hw => c_zeroN m b3 _ hm0 w (hw _ (by repeat (first | exact List.Mem.head _ | apply List.Mem.tail))) hm) ?_))
  refine LOps.nil ?_
  
  refine LCode.cond_false rfl ?_
  refine LCode.skip ?_
  refine LCode.seq ?_
  refine LCode.regionD [9, 10] (by kernel_rfl) ?_
  refine LAny.takeP 1 rfl (by kernel_rfl) (Nat.le_of_ble_eq_true rfl) (Det.fieldA (o' := 0) Try.underlying25 rfl rfl rfl sz_23 (by decide)) ?_
  refine LAny.takeP 2 rfl (by kernel_rfl) (Nat.le_of_ble_eq_true rfl) (Det.slArr Try.underlying23 sz_22 rfl) ?_
  refine LAny.toP ?_
  refine LAnyP.start 7 rfl (.inl zr_230) (Nat.le_of_ble_eq_true rfl) rfl rfl rfl ?_
  refine LAnyP.start 8 rfl (.inl zr_25) (Nat.le_of_ble_eq_true rfl) rfl rfl rfl ?_
  refine LAnyP.step 0 rfl rfl rfl (Nat.le_of_ble_eq_true rfl) (by kernel_rfl) rfl (LExt.call (Post := fun v its => ∃ b, v = .pointer (some ⟨b, 0, none⟩) ∧ its = [.blk b ⟨false, dvL m, 241, (0, 0)⟩]) (first := []) rfl en_183 rfl (fun w hw => (c_of m b3 _ hm0 w (hw _ (by repeat (first | exact List.Mem.head _ | apply List.Mem.tail))) hm).mono fun e w' ⟨b, h1, h2, h3, h4⟩ => ⟨_, _, ⟨b, rfl, rfl⟩, h1, Brings.blk1 h4 h2 h3⟩)) ?_
  rintro _ _ ⟨bd, rfl, rfl⟩
  refine LAnyP.step 3 rfl rfl rfl (Nat.le_of_ble_eq_true rfl) (by kernel_rfl) rfl (LExt.callF (first := []) rfl en_186 rfl (fun w hw => c_divide m A bd b2 9 9 _ true hm0 w (hw _ (by repeat (first | exact List.Mem.head _ | apply List.Mem.tail))) (hw _ (by repeat (first | exact List.Mem.head _ | apply List.Mem.tail))) hm (Nat.le_refl _) (by decide) (lt_w9_pow hA 9 rfl))) ?_
  rintro _ _ ⟨rfl, rfl⟩
  refine LAnyP.takeP 4 rfl (by kernel_rfl) (Nat.le_of_ble_eq_true rfl) rfl (Det.move rfl) ?_
  refine LAnyP.takeP 5 rfl (by kernel_rfl) (Nat.le_of_ble_eq_true rfl) rfl (Det.extract rfl rfl) ?_
  refine LAnyP.takeP 6 rfl (by kernel_rfl) (Nat.le_of_ble_eq_true rfl) rfl (Det.extract rfl rfl) ?_
  refine LAnyP.mat (by kernel_rfl) (fun b8 => ?_)
  refine LAnyP.mat (by kernel_rfl) (fun b7 => ?_)
  refine LAnyP.toAny ?_
  refine LAny.late 9 rfl rfl (by kernel_rfl) (by kernel_rfl) (LStepW.storeA rfl rfl sz_230 (by repeat (first | exact natL_one _ | exact vec_one _ _ _ | exact wideL_one _ | exact ptL_one _ _ _ | exact pjL_one _ _ _ | exact allOne_nil | refine allOne_cons rfl ?_ | refine allOne_append ?_ ?_)) (by repeat (first | exact SetAt.head _ | apply SetAt.tail)) (by first | exact natL_length _ | exact vec_length _ _ _ | exact wideL_length _ | exact ptL_length _ _ _ | exact pjL_length _ _ _ | rfl | simp [vec_length, natL_length, wideL_length]) ?_)
  refine LAny.late 10 rfl rfl (by kernel_rfl) (by kernel_rfl) (LStepW.storeA rfl rfl sz_25 (by repeat (first | exact natL_one _ | exact vec_one _ _ _ | exact wideL_one _ | exact ptL_one _ _ _ | exact pjL_one _ _ _ | exact allOne_nil | refine allOne_cons rfl ?_ | refine allOne_append ?_ ?_)) (by repeat (first | exact SetAt.head _ | apply SetAt.tail)) (by first | exact natL_length _ | exact vec_length _ _ _ | exact wideL_length _ | exact ptL_length _ _ _ | exact pjL_length _ _ _ | rfl | simp [vec_length, natL_length, wideL_length]) ?_)
  refine LAny.done (by kernel_rfl) ?_
  refine LCode.seq ?_
  refine LCode.regionD [6, 7] (by kernel_rfl) ?_
  refine LAny.takeP 0 rfl (by kernel_rfl) (Nat.le_of_ble_eq_true rfl) (Det.fieldA (o' := 0) Try.underlying230 rfl rfl rfl sz_228 (by decide)) ?_
  refine LAny.takeP 1 rfl (by kernel_rfl) (Nat.le_of_ble_eq_true rfl) (Det.slArrH Try.underlying228 sz_22 rfl rfl (by omega) (by omega)) ?_
  refine LAny.takeP 2 rfl (by kernel_rfl) (Nat.le_of_ble_eq_true rfl) (Det.s2a Try.underlying23 rfl (by omega)) ?_
  refine LAny.take 3 rfl (by kernel_rfl) (Nat.le_of_ble_eq_true rfl) (Det.load (v := .agg (natL (A / m)).toArray) rfl (by repeat (first | exact List.Mem.head _ | apply List.Mem.tail)) (LoadV.many Try.underlying23 rfl sz_23 wide_take (by simp only [wideL_length]; decide))) ?_
  refine LAny.takeP 4 rfl (by kernel_rfl) (Nat.le_of_ble_eq_true rfl) (Det.build pl_25 zr_25 rfl (((fillL_step (A := ([] : List Value)) (B := (vec .u64 9 (fun _ => 0))) (D := ([] : List Value)) (cs := natL (A / m)) rfl rfl (by first | exact natL_length _ | exact vec_length _ _ _ | exact wideL_length _ | exact dv_length _ _ _ | rfl | (simp only [List.length_append, List.length_cons, List.length_nil, natL_length, vec_length, wideL_length, dv_length, ptL_length, pjL_length])) (by first | rfl | simp only [List.append_assoc, List.nil_append, List.append_nil, List.cons_append]) (by first | exact natL_length _ | exact vec_length _ _ _ | exact wideL_length _ | exact dv_length _ _ _ | rfl | (simp only [List.length_append, List.length_cons, List.length_nil, natL_length, vec_length, wideL_length, dv_length, ptL_length, pjL_length])) (by first | exact natL_length _ | exact vec_length _ _ _ | exact wideL_length _ | exact dv_length _ _ _ | rfl | (simp only [List.length_append, List.length_cons, List.length_nil, natL_length, vec_length, wideL_length, dv_length, ptL_length, pjL_length])) rfl) : fillL _ _ _ = _).trans (congrArg some (show _ = (natL (A / m)) from by first | rfl | simp only [List.append_assoc, List.nil_append, List.append_nil, List.cons_append])))) ?_
  refine LAny.twoX 5 6 rfl rfl rfl rfl (by kernel_rfl) (.inr (LStep.det (Det.load rfl (by repeat (first | exact List.Mem.head _ | apply List.Mem.tail)) (by exact LoadV.whole Try.underlying25 rfl sz_25)) (Nat.le_of_ble_eq_true rfl) ?_)) (.inl ⟨rfl, LStepW.storeA rfl rfl sz_25 (by repeat (first | exact natL_one _ | exact vec_one _ _ _ | exact wideL_one _ | exact ptL_one _ _ _ | exact pjL_one _ _ _ | exact allOne_nil | refine allOne_cons rfl ?_ | refine allOne_append ?_ ?_)) (by repeat (first | exact SetAt.head _ | apply SetAt.tail)) (by first | exact natL_length _ | exact vec_length _ _ _ | exact wideL_length _ | exact ptL_length _ _ _ | exact pjL_length _ _ _ | rfl | simp [vec_length, natL_length, wideL_length]) ?_⟩)
  ·
    refine LAny.late 6 rfl rfl (by kernel_rfl) (by kernel_rfl) (LStepW.storeA rfl rfl sz_25 (by repeat (first | exact natL_one _ | exact vec_one _ _ _ | exact wideL_one _ | exact ptL_one _ _ _ | exact pjL_one _ _ _ | exact allOne_nil | refine allOne_cons rfl ?_ | refine allOne_append ?_ ?_)) (by repeat (first | exact SetAt.head _ | apply SetAt.tail)) (by first | exact natL_length _ | exact vec_length _ _ _ | exact wideL_length _ | exact ptL_length _ _ _ | exact pjL_length _ _ _ | rfl | simp [vec_length, natL_length, wideL_length]) ?_)
    refine LAny.late 7 rfl rfl (by kernel_rfl) (by kernel_rfl) (LStepW.storeA rfl rfl sz_25 (by repeat (first | exact natL_one _ | exact vec_one _ _ _ | exact wideL_one _ | exact ptL_one _ _ _ | exact pjL_one _ _ _ | exact allOne_nil | refine allOne_cons rfl ?_ | refine allOne_append ?_ ?_)) (by repeat (first | exact SetAt.head _ | apply SetAt.tail)) (by first | exact natL_length _ | exact vec_length _ _ _ | exact wideL_length _ | exact ptL_length _ _ _ | exact pjL_length _ _ _ | rfl | simp [vec_length, natL_length, wideL_length]) ?_)
    refine LAny.takeP 8 rfl (by kernel_rfl) (Nat.le_of_ble_eq_true rfl) (Det.assign (v := .int .i64 ((0 : Nat) : Int)) rfl) ?_
    refine LAny.done (by kernel_rfl) ?_
    refine LCode.ret ?_
    refine ⟨[_, _, _], .cons ⟨_, _, _, rfl, (by repeat (first | exact List.Mem.head _ | apply List.Mem.tail)), by exact LoadV.whole Try.underlying25 rfl sz_25⟩ (.cons ⟨_, _, _, rfl, (by repeat (first | exact List.Mem.head _ | apply List.Mem.tail)), by exact LoadV.whole Try.underlying25 rfl sz_25⟩ (.cons rfl .nil)), fun a w' hr => ⟨?_, hr.fr.below⟩⟩
    rfl
  ·
    refine LAny.take 5 rfl (by kernel_rfl) (Nat.le_of_ble_eq_true rfl) (Det.load rfl (by repeat (first | exact List.Mem.head _ | apply List.Mem.tail)) (by exact LoadV.whole Try.underlying25 rfl sz_25)) ?_
    refine LAny.late 7 rfl rfl (by kernel_rfl) (by kernel_rfl) (LStepW.storeA rfl rfl sz_25 (by repeat (first | exact natL_one _ | exact vec_one _ _ _ | exact wideL_one _ | exact ptL_one _ _ _ | exact pjL_one _ _ _ | exact allOne_nil | refine allOne_cons rfl ?_ | refine allOne_append ?_ ?_)) (by repeat (first | exact SetAt.head _ | apply SetAt.tail)) (by first | exact natL_length _ | exact vec_length _ _ _ | exact wideL_length _ | exact ptL_length _ _ _ | exact pjL_length _ _ _ | rfl | simp [vec_length, natL_length, wideL_length]) ?_)
    refine LAny.takeP 8 rfl (by kernel_rfl) (Nat.le_of_ble_eq_true rfl) (Det.assign (v := .int .i64 ((0 : Nat) : Int)) rfl) ?_
    refine LAny.done (by kernel_rfl) ?_
    refine LCode.ret ?_
    refine ⟨[_, _, _], .cons ⟨_, _, _, rfl, (by repeat (first | exact List.Mem.head _ | apply List.Mem.tail)), by exact LoadV.whole Try.underlying25 rfl sz_25⟩ (.cons ⟨_, _, _, rfl, (by repeat (first | exact List.Mem.head _ | apply List.Mem.tail)), by exact LoadV.whole Try.underlying25 rfl sz_25⟩ (.cons rfl .nil)), fun a w' hr => ⟨?_, hr.fr.below⟩⟩
    rfl

theorem c_Pow (m A E bd : Nat) (hm0 : m ≠ 0) (hm : m < W9) (w : World) (hbd : (Item.blk bd ⟨false, dvL m, 241, (0, 0)⟩).holds w) (hA : A < W9) (hE : E < W9) : Calls Try.prog 179 ([.agg [.pointer (some ⟨bd, 0, none⟩)].toArray, natV A, natV E] : List Value).toArray w (fun e w' => e = .returned (natV (A ^ E % m)) ∧ Below w.heap.size w w') := by
  refine calls_ro (N := 33) (rs := [.cell 6 25]) [.blk bd ⟨false, dvL m, 241, (0, 0)⟩] Try.func179 rfl Try.ntmps179 Try.results179 (Nat.le_of_ble_eq_true rfl) ⟨hbd, trivial⟩ rfl ?_
  show LCode _ _ _ ⟨_, _⟩ _
  refine LCode.seq ?_
  refine LCode.region ?_
  refine LOps.step rfl (LStep.w (LStep.makes (Makes.boxA rfl) (Nat.le_of_ble_eq_true rfl) (fun b3 => ?_)))
  refine LOps.step rfl (LStep.w (LStep.makes (Makes.boxA rfl) (Nat.le_of_ble_eq_true rfl) (fun b4 => ?_)))
  refine LOps.step rfl (LStep.w (LStep.makes (Makes.boxA rfl) (Nat.le_of_ble_eq_true rfl) (fun b5 => ?_)))
  refine LOps.step rfl (LStep.w (LStep.makes (Makes.allocA zr_25) (Nat.le_of_ble_eq_true rfl) (fun b6 => ?_)))
  refine LOps.nil ?_
  refine LCode.seq ?_
  refine LCode.regionD [5] (by kernel_rfl) ?_
  refine LAny.take 0 rfl (by kernel_rfl) (Nat.le_of_ble_eq_true rfl) (Det.load rfl (by repeat (first | exact List.Mem.head _ | apply List.Mem.tail)) (by exact LoadV.whole Try.underlying192 rfl sz_192)) ?_
  refine LAny.toP ?_
  refine LAnyP.start 4 rfl (.inl zr_25) (Nat.le_of_ble_eq_true rfl) rfl rfl rfl ?_
  refine LAnyP.step 1 rfl rfl rfl (Nat.le_of_ble_eq_true rfl) (by kernel_rfl) rfl (LExt.callF (first := []) rfl en_150 rfl (fun w hw => c_nat_Small 1 (by decide) w)) ?_
  rintro _ _ ⟨rfl, rfl⟩
  refine LAnyP.step 2 rfl rfl rfl (Nat.le_of_ble_eq_true rfl) (by kernel_rfl) rfl (LExt.callF (first := []) rfl en_150 rfl (fun w hw => c_nat_Small 1 (by decide) w)) ?_
  rintro _ _ ⟨rfl, rfl⟩
  refine LAnyP.step 3 rfl rfl rfl (Nat.le_of_ble_eq_true rfl) (by kernel_rfl) rfl (LExt.callF (first := []) rfl en_175 rfl (fun w hw => c_Mul m 1 1 bd hm0 hm w (hw _ (by repeat (first | exact List.Mem.head _ | apply List.Mem.tail))) one_w9 one_w9)) ?_
  rintro _ _ ⟨rfl, rfl⟩
  refine LAnyP.mat (by kernel_rfl) (fun b7 => ?_)
  refine LAnyP.toAny ?_
  refine LAny.late 5 rfl rfl (by kernel_rfl) (by kernel_rfl) (LStepW.storeA rfl rfl sz_25 (by repeat (first | exact natL_one _ | exact vec_one _ _ _ | exact wideL_one _ | exact ptL_one _ _ _ | exact pjL_one _ _ _ | exact allOne_nil | refine allOne_cons rfl ?_ | refine allOne_append ?_ ?_)) (by repeat (first | exact SetAt.head _ | apply SetAt.tail)) (by first | exact natL_length _ | exact vec_length _ _ _ | exact wideL_length _ | exact ptL_length _ _ _ | exact pjL_length _ _ _ | rfl | simp [vec_length, natL_length, wideL_length]) ?_)
  refine LAny.done (by kernel_rfl) ?_
  refine LCode.seq ?_
  refine LCode.seq ?_
  have hbl : blen E ≤ 576 := blen_w9e hE
  refine LCode.region ?_
  refine LOps.det (Det.load rfl (by repeat (first | exact List.Mem.head _ | apply List.Mem.tail)) (by exact LoadV.whole Try.underlying25 rfl sz_25)) (Nat.le_of_ble_eq_true rfl) ?_
  refine LOps.step rfl (LStep.w (LStep.callF (first := []) rfl en_151 rfl (Nat.le_of_ble_eq_true rfl) (fun w hw => c_nat_Bits E hE w) ?_))
  refine LOps.detP (Det.bin (v := .int .i64 ((blen E : Int) - 1)) rfl rfl (br_subI (by omega) (by omega))) (Nat.le_of_ble_eq_true rfl) ?_
  refine LOps.detP (Det.assign rfl) (Nat.le_of_ble_eq_true rfl) ?_
  refine LOps.nil ?_
  refine LCode.block ?_
  refine LCode.loop (α := Nat) (fun x => x ≤ blen E) (fun x => ⟨[(3, .pointer (some ⟨b3, 0, none⟩)), (4, .pointer (some ⟨b4, 0, none⟩)), (5, .pointer (some ⟨b5, 0, none⟩)), (6, .pointer (some ⟨b6, 0, none⟩)), (7, .pointer (some ⟨b7, 0, none⟩)), (8, .int .i64 ((x : Int) - 1))], [.blk b7 ⟨true, natL (A ^ (E / 2 ^ x) % m), 25, (0, 0)⟩, .blk b6 ⟨true, vec .u64 9 (fun _ => 0), 25, (0, 0)⟩, .blk b5 ⟨true, natL E, 25, (0, 0)⟩, .blk b4 ⟨true, natL A, 25, (0, 0)⟩, .blk b3 ⟨true, [.pointer (some ⟨bd, 0, none⟩)], 192, (0, 0)⟩, .blk bd ⟨false, dvL m, 241, (0, 0)⟩]⟩) (fun x => x) (blen E) (Nat.le_refl _) (Sub.re (Sub.cells (b := b7) (cs' := natL (A ^ (E / 2 ^ (blen E)) % m)) (by repeat (first | exact SetAt.head _ | apply SetAt.tail)) (by rw [Nat.div_eq_of_lt (lt_blen E), Nat.pow_zero, Nat.mul_one])) (Sub.mk ⟨rfl, rfl, rfl, rfl, rfl, rfl, trivial⟩ (by repeat (first | exact Sel.nil _ | refine Sel.cons (by repeat (first | exact Pick.head _ | apply Pick.tail)) ?_)))) ?_
  intro x hx
  refine LCode.seq ?_
  refine LCode.seq ?_
  rcases Nat.eq_zero_or_pos x with h0 | h0
  ·
    refine LCode.region ?_
    refine LOps.detP (Det.move rfl) (Nat.le_of_ble_eq_true rfl) ?_
    refine LOps.detP (Det.bin (v := .bool false) rfl rfl (by subst h0; rfl)) (Nat.le_of_ble_eq_true rfl) ?_
    refine LOps.nil ?_
    subst h0
    refine LCode.cond_false rfl ?_
    refine LCode.exit ?_
    refine LCode.seq ?_
    refine LCode.region ?_
    refine LOps.det (Det.load rfl (by repeat (first | exact List.Mem.head _ | apply List.Mem.tail)) (by exact LoadV.whole Try.underlying25 rfl sz_25)) (Nat.le_of_ble_eq_true rfl) ?_
    refine LOps.step rfl (LStepW.storeA rfl rfl sz_25 (by repeat (first | exact natL_one _ | exact vec_one _ _ _ | exact wideL_one _ | exact ptL_one _ _ _ | exact pjL_one _ _ _ | exact allOne_nil | refine allOne_cons rfl ?_ | refine allOne_append ?_ ?_)) (by repeat (first | exact SetAt.head _ | apply SetAt.tail)) (by first | exact natL_length _ | exact vec_length _ _ _ | exact wideL_length _ | exact ptL_length _ _ _ | exact pjL_length _ _ _ | rfl | simp [vec_length, natL_length, wideL_length]) ?_)
    refine LOps.nil ?_
    refine LCode.ret ?_
    refine ⟨[_], .cons ⟨_, _, _, rfl, (by repeat (first | exact List.Mem.head _ | apply List.Mem.tail)), by exact LoadV.whole Try.underlying25 rfl sz_25⟩ .nil, fun a w' hr => ⟨?_, hr.fr.below⟩⟩
    rw [Nat.pow_zero, Nat.div_one]
    rfl
  ·
    refine LCode.region ?_
    refine LOps.detP (Det.move rfl) (Nat.le_of_ble_eq_true rfl) ?_
    refine LOps.detP (Det.bin (v := .bool true) rfl rfl (by simp [binRes]; omega)) (Nat.le_of_ble_eq_true rfl) ?_
    refine LOps.nil ?_
    obtain ⟨y, rfl⟩ : ∃ y, x = y + 1 := ⟨x - 1, by omega⟩
    refine LCode.cond_true rfl ?_
    refine LCode.skip ?_
    refine LCode.seq ?_
    refine LCode.block ?_
    refine LCode.seq ?_
    refine LCode.region ?_
    refine LOps.det (Det.load rfl (by repeat (first | exact List.Mem.head _ | apply List.Mem.tail)) (by exact LoadV.whole Try.underlying192 rfl sz_192)) (Nat.le_of_ble_eq_true rfl) ?_
    refine LOps.det (Det.load rfl (by repeat (first | exact List.Mem.head _ | apply List.Mem.tail)) (by exact LoadV.whole Try.underlying25 rfl sz_25)) (Nat.le_of_ble_eq_true rfl) ?_
    refine LOps.det (Det.load rfl (by repeat (first | exact List.Mem.head _ | apply List.Mem.tail)) (by exact LoadV.whole Try.underlying25 rfl sz_25)) (Nat.le_of_ble_eq_true rfl) ?_
    refine LOps.step rfl (LStep.w (LStep.callF (first := []) rfl en_175 rfl (Nat.le_of_ble_eq_true rfl) (fun w hw => c_Mul m _ _ bd hm0 hm w (hw _ (by repeat (first | exact List.Mem.head _ | apply List.Mem.tail))) (mod_w9 hm0 hm) (mod_w9 hm0 hm)) ?_))
    refine LOps.step rfl (LStepW.storeA rfl rfl sz_25 (by repeat (first | exact natL_one _ | exact vec_one _ _ _ | exact wideL_one _ | exact ptL_one _ _ _ | exact pjL_one _ _ _ | exact allOne_nil | refine allOne_cons rfl ?_ | refine allOne_append ?_ ?_)) (by repeat (first | exact SetAt.head _ | apply SetAt.tail)) (by first | exact natL_length _ | exact vec_length _ _ _ | exact wideL_length _ | exact ptL_length _ _ _ | exact pjL_length _ _ _ | rfl | simp [vec_length, natL_length, wideL_length]) ?_)
    refine LOps.nil ?_
    refine LCode.seq ?_
    refine LCode.region ?_
    refine LOps.det (Det.load rfl (by repeat (first | exact List.Mem.head _ | apply List.Mem.tail)) (by exact LoadV.whole Try.underlying25 rfl sz_25)) (Nat.le_of_ble_eq_true rfl) ?_
    refine LOps.detP (Det.move (v := .int .i64 ((y : Nat) : Int)) (by show some _ = some _; congr 2; omega)) (Nat.le_of_ble_eq_true rfl) ?_
    refine LOps.step rfl (LStep.w (LStep.callF (first := []) rfl en_139 rfl (Nat.le_of_ble_eq_true rfl) (fun w hw => c_nat_Bit E y hE (by omega) w) ?_))
    refine LOps.detP (Det.bin rfl rfl (br_eql (b := 1))) (Nat.le_of_ble_eq_true rfl) ?_
    refine LOps.nil ?_
    first | refine LCode.condD rfl (fun h27 => ?_) (fun h27 => ?_) | refine LCode.cond rfl (fun h27 => ?_) (fun h27 => ?_)
    ·
      have h27 : E / 2 ^ y % 2 = 1 := h27
      refine LCode.region ?_
      refine LOps.det (Det.load rfl (by repeat (first | exact List.Mem.head _ | apply List.Mem.tail)) (by exact LoadV.whole Try.underlying192 rfl sz_192)) (Nat.le_of_ble_eq_true rfl) ?_
      refine LOps.det (Det.load rfl (by repeat (first | exact List.Mem.head _ | apply List.Mem.tail)) (by exact LoadV.whole Try.underlying25 rfl sz_25)) (Nat.le_of_ble_eq_true rfl) ?_
      refine LOps.det (Det.load rfl (by repeat (first | exact List.Mem.head _ | apply List.Mem.tail)) (by exact LoadV.whole Try.underlying25 rfl sz_25)) (Nat.le_of_ble_eq_true rfl) ?_
      refine LOps.step rfl (LStep.w (LStep.callF (first := []) rfl en_175 rfl (Nat.le_of_ble_eq_true rfl) (fun w hw => c_Mul m _ _ bd hm0 hm w (hw _ (by repeat (first | exact List.Mem.head _ | apply List.Mem.tail))) (mod_w9 hm0 hm) hA) ?_))
      refine LOps.step rfl (LStepW.storeA rfl rfl sz_25 (by repeat (first | exact natL_one _ | exact vec_one _ _ _ | exact wideL_one _ | exact ptL_one _ _ _ | exact pjL_one _ _ _ | exact allOne_nil | refine allOne_cons rfl ?_ | refine allOne_append ?_ ?_)) (by repeat (first | exact SetAt.head _ | apply SetAt.tail)) (by first | exact natL_length _ | exact vec_length _ _ _ | exact wideL_length _ | exact ptL_length _ _ _ | exact pjL_length _ _ _ | rfl | simp [vec_length, natL_length, wideL_length]) ?_)
      refine LOps.nil ?_
      refine LCode.region ?_
      refine LOps.detP (Det.move (v := .int .i64 ((y : Nat) : Int)) (by show some _ = some _; congr 2; omega)) (Nat.le_of_ble_eq_true rfl) ?_
      refine LOps.detP (Det.bin rfl rfl rfl) (Nat.le_of_ble_eq_true rfl) ?_
      refine LOps.detP (Det.assign rfl) (Nat.le_of_ble_eq_true rfl) ?_
      refine LOps.nil ?_
      have hpb := pow_bit A E y m
      rw [if_pos h27] at hpb
      refine ⟨y, by omega, by omega, Sub.re (Sub.cells (b := b7) (cs' := natL (A ^ (E / 2 ^ y) % m)) (by repeat (first | exact SetAt.head _ | apply SetAt.tail)) (by rw [hpb])) (Sub.mk ⟨rfl, rfl, rfl, rfl, rfl, congrArg (fun i : Int => some (Value.int .i64 i)) (wrap_i64 (by omega) (by omega)), trivial⟩ (by repeat (first | exact Sel.nil _ | refine Sel.cons (by repeat (first | exact Pick.head _ | apply Pick.tail)) ?_)))⟩
    ·
      have h27 : ¬ E / 2 ^ y % 2 = 1 := h27
      refine LCode.skip ?_
      refine LCode.region ?_
      refine LOps.detP (Det.move (v := .int .i64 ((y : Nat) : Int)) (by show some _ = some _; congr 2; omega)) (Nat.le_of_ble_eq_true rfl) ?_
      refine LOps.detP (Det.bin rfl rfl rfl) (Nat.le_of_ble_eq_true rfl) ?_
      refine LOps.detP (Det.assign rfl) (Nat.le_of_ble_eq_true rfl) ?_
      refine LOps.nil ?_
      have hpb := pow_bit A E y m
      rw [if_neg h27] at hpb
      refine ⟨y, by omega, by omega, Sub.re (Sub.cells (b := b7) (cs' := natL (A ^ (E / 2 ^ y) % m)) (by repeat (first | exact SetAt.head _ | apply SetAt.tail)) (by rw [hpb])) (Sub.mk ⟨rfl, rfl, rfl, rfl, rfl, congrArg (fun i : Int => some (Value.int .i64 i)) (wrap_i64 (by omega) (by omega)), trivial⟩ (by repeat (first | exact Sel.nil _ | refine Sel.cons (by repeat (first | exact Pick.head _ | apply Pick.tail)) ?_)))⟩

end Go.Proofs.Ytljblbgogjieaaa
