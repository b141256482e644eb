/- Walks: what functions of the program come to, step by step. -/
import Derived.Test.YtljblbgogjieaaaFacts
import Derived.Test.YtljblbgogjieaaaMath1
set_option linter.unusedVariables false
set_option linter.unusedSimpArgs false
set_option maxRecDepth 20000
namespace Go.Proofs.Ytljblbgogjieaaa
open Go Go.RowKit

theorem c_nat_Add (A B : Nat) (hA : A < W9) (hB : B < W9) (w : World)  : Calls Try.prog 174 ([natV A, natV B] : List Value).toArray w (fun e w' => e = .returned (.tuple #[natV ((A + B) % W9), .bool (decide (W9 ≤ A + B))]) ∧ Below w.heap.size w w') := by
  refine calls_ro (N := 31) (rs := [.cell 4 25, .tmp 5]) [] Try.func174 rfl Try.ntmps174 Try.results174 (Nat.le_of_ble_eq_true rfl) trivial rfl ?_
  show LCode _ _ _ ⟨_, _⟩ _
  refine LCode.seq ?_
  refine LCode.region ?_
  refine LOps.step rfl (LStep.w (LStep.makes (Makes.boxA rfl) (Nat.le_of_ble_eq_true rfl) (fun b2 => ?_)))
  refine LOps.step rfl (LStep.w (LStep.makes (Makes.boxA rfl) (Nat.le_of_ble_eq_true rfl) (fun b3 => ?_)))
  refine LOps.step rfl (LStep.w (LStep.makes (Makes.allocA zr_25) (Nat.le_of_ble_eq_true rfl) (fun b4 => ?_)))
  refine LOps.detP (Det.assign rfl) (Nat.le_of_ble_eq_true rfl) ?_
  refine LOps.nil ?_
  refine LCode.seq ?_
  refine LCode.region ?_
  refine LOps.detP (Det.assign (v := .int .u64 ((0 : Nat) : Int)) rfl) (Nat.le_of_ble_eq_true rfl) ?_
  refine LOps.nil ?_
  refine LCode.seq ?_
  refine LCode.seq ?_
  refine LCode.region ?_
  refine LOps.detP (Det.move (v := .int .i64 ((0 : Nat) : Int)) rfl) (Nat.le_of_ble_eq_true rfl) ?_
  refine LOps.nil ?_
  refine LCode.block ?_
  refine LCode.loop (α := Nat) (fun x => x ≤ 9) (fun x => ⟨[(2, .pointer (some ⟨b2, 0, none⟩)), (3, .pointer (some ⟨b3, 0, none⟩)), (4, .pointer (some ⟨b4, 0, none⟩)), (6, .int .u64 ((carry A B x : Nat) : Int)), (8, .int .i64 ((x : Nat) : Int))], [.blk b4 ⟨true, vec .u64 9 (fun _ => 0), 25, (0, 0)⟩, .blk b3 ⟨true, natL B, 25, (0, 0)⟩, .blk b2 ⟨true, vec .u64 9 (fun j => if j < x then limb (A + B) j else limb A j), 25, (0, 0)⟩]⟩) (fun x => 9 - x) (0) (by omega) (Sub.mk ⟨rfl, rfl, rfl, by rw [carry_zero]; rfl, rfl, trivial⟩ (by repeat (first | exact Sel.nil _ | refine Sel.cons (by repeat (first | exact Pick.head _ | apply Pick.tail)) ?_))) ?_
  intro x hx
  have hc := carry_le A B x
  have ha := add_limb A B x
  have hl := limb_lt (A + B) x
  refine LCode.seq ?_
  refine LCode.region ?_
  refine LOps.detP (Det.bin rfl rfl (br_lss (b := 9))) (Nat.le_of_ble_eq_true rfl) ?_
  refine LOps.nil ?_
  refine LCode.seq ?_
  first | refine LCode.condD rfl (fun h9 => ?_) (fun h9 => ?_) | refine LCode.cond rfl (fun h9 => ?_) (fun h9 => ?_)
  ·
    have h9 : x < 9 := h9
    
    refine LCode.skip ?_
    refine LCode.seq ?_
    refine LCode.block ?_
    refine LCode.seq ?_
    refine LCode.region ?_
    refine LOps.detP (Det.move rfl) (Nat.le_of_ble_eq_true rfl) ?_
    refine LOps.detP (Det.assign rfl) (Nat.le_of_ble_eq_true rfl) ?_
    refine LOps.nil ?_
    refine LCode.regionD [16] (by kernel_rfl) ?_
    refine LAny.takeP 0 rfl (by kernel_rfl) (Nat.le_of_ble_eq_true rfl) (Det.move rfl) ?_
    refine LAny.takeP 1 rfl (by kernel_rfl) (Nat.le_of_ble_eq_true rfl) (Det.move rfl) ?_
    refine LAny.takeP 2 rfl (by kernel_rfl) (Nat.le_of_ble_eq_true rfl) (Det.fieldA (o' := 0) Try.underlying25 rfl rfl rfl sz_23 (by decide)) ?_
    refine LAny.takeP 3 rfl (by kernel_rfl) (Nat.le_of_ble_eq_true rfl) (Det.indexA0 Try.underlying23 sz_22 rfl rfl (by omega)) ?_
    refine LAny.take 4 rfl (by kernel_rfl) (Nat.le_of_ble_eq_true rfl) (Det.load rfl (by repeat (first | exact List.Mem.head _ | apply List.Mem.tail)) (LoadV.one Try.underlying22 rfl (by exact vec_get _ _ _ (by omega)))) ?_
    refine LAny.takeP 5 rfl (by kernel_rfl) (Nat.le_of_ble_eq_true rfl) (Det.move rfl) ?_
    refine LAny.takeP 6 rfl (by kernel_rfl) (Nat.le_of_ble_eq_true rfl) (Det.fieldA (o' := 0) Try.underlying25 rfl rfl rfl sz_23 (by decide)) ?_
    refine LAny.takeP 7 rfl (by kernel_rfl) (Nat.le_of_ble_eq_true rfl) (Det.indexA0 Try.underlying23 sz_22 rfl rfl (by omega)) ?_
    refine LAny.take 8 rfl (by kernel_rfl) (Nat.le_of_ble_eq_true rfl) (Det.load rfl (by repeat (first | exact List.Mem.head _ | apply List.Mem.tail)) (LoadV.one Try.underlying22 rfl (by exact natL_get _ (by omega)))) ?_
    refine LAny.takeP 9 rfl (by kernel_rfl) (Nat.le_of_ble_eq_true rfl) (Det.move rfl) ?_
    refine LAny.takeP 10 rfl (by kernel_rfl) (Nat.le_of_ble_eq_true rfl) (Det.add64 ex_184 rfl rfl rfl (by omega)) ?_
    refine LAny.takeP 11 rfl (by kernel_rfl) (Nat.le_of_ble_eq_true rfl) (Det.move rfl) ?_
    refine LAny.takeP 12 rfl (by kernel_rfl) (Nat.le_of_ble_eq_true rfl) (Det.extract rfl rfl) ?_
    refine LAny.takeP 13 rfl (by kernel_rfl) (Nat.le_of_ble_eq_true rfl) (Det.extract rfl rfl) ?_
    refine LAny.takeP 14 rfl (by kernel_rfl) (Nat.le_of_ble_eq_true rfl) (Det.fieldA (o' := 0) Try.underlying25 rfl rfl rfl sz_23 (by decide)) ?_
    refine LAny.takeP 15 rfl (by kernel_rfl) (Nat.le_of_ble_eq_true rfl) (Det.indexA0 Try.underlying23 sz_22 rfl rfl (by omega)) ?_
    refine LAny.late 16 rfl rfl (by kernel_rfl) (by kernel_rfl) (LStepW.store1 rfl rfl rfl sz_22 (by repeat (first | exact SetAt.head _ | apply SetAt.tail)) (by first | (simp only [vec_length, natL_length, wideL_length, dv_length]; omega) | (simp; omega)) (by first | exact vec_set _ _ _ _ _ | exact dv_setm _ _ _ _ (by omega) | exact dv_sets _ _ _ _ | rfl) (by simp) ?_)
    refine LAny.takeP 17 rfl (by kernel_rfl) (Nat.le_of_ble_eq_true rfl) (Det.assign rfl) ?_
    refine LAny.done (by kernel_rfl) ?_
    refine LCode.region ?_
    refine LOps.detP (Det.bin rfl rfl (br_add (b := 1) (by omega))) (Nat.le_of_ble_eq_true rfl) ?_
    refine LOps.detP (Det.move rfl) (Nat.le_of_ble_eq_true rfl) ?_
    refine LOps.nil ?_
    refine ⟨x + 1, by omega, by omega, Sub.re (Sub.cells (b := b2) (cs' := vec .u64 9 (fun j => if j < x + 1 then limb (A + B) j else limb A j)) (by repeat (first | exact SetAt.head _ | apply SetAt.tail)) ?_) (Sub.mk ⟨rfl, rfl, rfl, congrArg (fun n : Nat => some (Value.int .u64 (n : Int))) ?_, rfl, trivial⟩ (by repeat (first | exact Sel.nil _ | refine Sel.cons (by repeat (first | exact Pick.head _ | apply Pick.tail)) ?_)))⟩
    · apply vec_congr
      intro j hj
      by_cases e : j = x
      · subst e
        simp
        omega
      · simp only [e, if_false]
        by_cases e2 : j < x
        · rw [if_pos e2, if_pos (by omega)]
        · rw [if_neg e2, if_neg (by omega)]
    · simp
      omega
  ·
    have h9 : ¬ x < 9 := h9
    refine LCode.exit ?_
    refine LCode.seq ?_
    refine LCode.region ?_
    refine LOps.det (Det.load rfl (by repeat (first | exact List.Mem.head _ | apply List.Mem.tail)) (by exact LoadV.whole Try.underlying25 rfl sz_25)) (Nat.le_of_ble_eq_true rfl) ?_
    refine LOps.detP (Det.move rfl) (Nat.le_of_ble_eq_true rfl) ?_
    refine LOps.detP (Det.bin rfl rfl (br_eql (b := 1))) (Nat.le_of_ble_eq_true rfl) ?_
    refine LOps.step rfl (LStepW.storeA rfl rfl sz_25 (by repeat (first | exact natL_one _ | exact vec_one _ _ _ | exact wideL_one _ | exact ptL_one _ _ _ | exact pjL_one _ _ _ | exact allOne_nil | refine allOne_cons rfl ?_ | refine allOne_append ?_ ?_)) (by repeat (first | exact SetAt.head _ | apply SetAt.tail)) (by first | exact natL_length _ | exact vec_length _ _ _ | exact wideL_length _ | exact ptL_length _ _ _ | exact pjL_length _ _ _ | rfl | simp [vec_length, natL_length, wideL_length]) ?_)
    refine LOps.detP (Det.assign rfl) (Nat.le_of_ble_eq_true rfl) ?_
    refine LOps.nil ?_
    refine LCode.ret ?_
    obtain rfl : x = 9 := by omega
    refine ⟨[_, _], .cons ⟨_, _, _, rfl, (by repeat (first | exact List.Mem.head _ | apply List.Mem.tail)), by exact LoadV.whole Try.underlying25 rfl sz_25⟩ (.cons rfl .nil), fun a w' hr => ⟨?_, hr.fr.below⟩⟩
    rw [natV_mod]
    have h1 : (vec IntKind.u64 9 fun j => if j < 9 then limb (A + B) j else limb A j) = natL (A + B) := vec_congr (fun i hi => if_pos hi)
    have h2 : decide (carry A B 9 = 1) = decide (W9 ≤ A + B) := by
      rw [carry_nine A B 9 rfl hA hB]
      by_cases h : W9 ≤ A + B <;> simp [h]
    show Ending.returned (.tuple #[.agg (vec IntKind.u64 9 fun j => if j < 9 then limb (A + B) j else limb A j).toArray, .bool (decide (carry A B 9 = 1))]) = _
    rw [h1, h2]
    rfl

theorem c_nat_Sub (A B : Nat) (hA : A < W9) (hB : B < W9) (w : World)  : Calls Try.prog 149 ([natV A, natV B] : List Value).toArray w (fun e w' => e = .returned (.tuple #[natV (dif A B), .bool (decide (A < B))]) ∧ Below w.heap.size w w') := by
  refine calls_ro (N := 31) (rs := [.cell 4 25, .tmp 5]) [] Try.func149 rfl Try.ntmps149 Try.results149 (Nat.le_of_ble_eq_true rfl) trivial rfl ?_
  show LCode _ _ _ ⟨_, _⟩ _
  refine LCode.seq ?_
  refine LCode.region ?_
  refine LOps.step rfl (LStep.w (LStep.makes (Makes.boxA rfl) (Nat.le_of_ble_eq_true rfl) (fun b2 => ?_)))
  refine LOps.step rfl (LStep.w (LStep.makes (Makes.boxA rfl) (Nat.le_of_ble_eq_true rfl) (fun b3 => ?_)))
  refine LOps.step rfl (LStep.w (LStep.makes (Makes.allocA zr_25) (Nat.le_of_ble_eq_true rfl) (fun b4 => ?_)))
  refine LOps.detP (Det.assign rfl) (Nat.le_of_ble_eq_true rfl) ?_
  refine LOps.nil ?_
  refine LCode.seq ?_
  refine LCode.region ?_
  refine LOps.detP (Det.assign (v := .int .u64 ((0 : Nat) : Int)) rfl) (Nat.le_of_ble_eq_true rfl) ?_
  refine LOps.nil ?_
  refine LCode.seq ?_
  refine LCode.seq ?_
  refine LCode.region ?_
  refine LOps.detP (Det.move (v := .int .i64 ((0 : Nat) : Int)) rfl) (Nat.le_of_ble_eq_true rfl) ?_
  refine LOps.nil ?_
  refine LCode.block ?_
  refine LCode.loop (α := Nat) (fun x => x ≤ 9) (fun x => ⟨[(2, .pointer (some ⟨b2, 0, none⟩)), (3, .pointer (some ⟨b3, 0, none⟩)), (4, .pointer (some ⟨b4, 0, none⟩)), (6, .int .u64 ((borrow A B x : Nat) : Int)), (8, .int .i64 ((x : Nat) : Int))], [.blk b4 ⟨true, vec .u64 9 (fun _ => 0), 25, (0, 0)⟩, .blk b3 ⟨true, natL B, 25, (0, 0)⟩, .blk b2 ⟨true, vec .u64 9 (fun j => if j < x then limb (dif A B) j else limb A j), 25, (0, 0)⟩]⟩) (fun x => 9 - x) (0) (by omega) (Sub.mk ⟨rfl, rfl, rfl, by rw [borrow_zero]; rfl, rfl, trivial⟩ (by repeat (first | exact Sel.nil _ | refine Sel.cons (by repeat (first | exact Pick.head _ | apply Pick.tail)) ?_))) ?_
  intro x hx
  have hc := borrow_le A B x
  refine LCode.seq ?_
  refine LCode.region ?_
  refine LOps.detP (Det.bin rfl rfl (br_lss (b := 9))) (Nat.le_of_ble_eq_true rfl) ?_
  refine LOps.nil ?_
  refine LCode.seq ?_
  first | refine LCode.condD rfl (fun h9 => ?_) (fun h9 => ?_) | refine LCode.cond rfl (fun h9 => ?_) (fun h9 => ?_)
  ·
    have h9 : x < 9 := h9
    have ha := sub_limb A B x hA hB h9
    have hb := borrow_succ A B x
    refine LCode.skip ?_
    refine LCode.seq ?_
    refine LCode.block ?_
    refine LCode.seq ?_
    refine LCode.region ?_
    refine LOps.detP (Det.move rfl) (Nat.le_of_ble_eq_true rfl) ?_
    refine LOps.detP (Det.assign rfl) (Nat.le_of_ble_eq_true rfl) ?_
    refine LOps.nil ?_
    refine LCode.regionD [16] (by kernel_rfl) ?_
    refine LAny.takeP 0 rfl (by kernel_rfl) (Nat.le_of_ble_eq_true rfl) (Det.move rfl) ?_
    refine LAny.takeP 1 rfl (by kernel_rfl) (Nat.le_of_ble_eq_true rfl) (Det.move rfl) ?_
    refine LAny.takeP 2 rfl (by kernel_rfl) (Nat.le_of_ble_eq_true rfl) (Det.fieldA (o' := 0) Try.underlying25 rfl rfl rfl sz_23 (by decide)) ?_
    refine LAny.takeP 3 rfl (by kernel_rfl) (Nat.le_of_ble_eq_true rfl) (Det.indexA0 Try.underlying23 sz_22 rfl rfl (by omega)) ?_
    refine LAny.take 4 rfl (by kernel_rfl) (Nat.le_of_ble_eq_true rfl) (Det.load rfl (by repeat (first | exact List.Mem.head _ | apply List.Mem.tail)) (LoadV.one Try.underlying22 rfl (by exact vec_get _ _ _ (by omega)))) ?_
    refine LAny.takeP 5 rfl (by kernel_rfl) (Nat.le_of_ble_eq_true rfl) (Det.move rfl) ?_
    refine LAny.takeP 6 rfl (by kernel_rfl) (Nat.le_of_ble_eq_true rfl) (Det.fieldA (o' := 0) Try.underlying25 rfl rfl rfl sz_23 (by decide)) ?_
    refine LAny.takeP 7 rfl (by kernel_rfl) (Nat.le_of_ble_eq_true rfl) (Det.indexA0 Try.underlying23 sz_22 rfl rfl (by omega)) ?_
    refine LAny.take 8 rfl (by kernel_rfl) (Nat.le_of_ble_eq_true rfl) (Det.load rfl (by repeat (first | exact List.Mem.head _ | apply List.Mem.tail)) (LoadV.one Try.underlying22 rfl (by exact natL_get _ (by omega)))) ?_
    refine LAny.takeP 9 rfl (by kernel_rfl) (Nat.le_of_ble_eq_true rfl) (Det.move rfl) ?_
    refine LAny.takeP 10 rfl (by kernel_rfl) (Nat.le_of_ble_eq_true rfl) (Det.sub64 ex_171 rfl rfl rfl (by omega)) ?_
    refine LAny.takeP 11 rfl (by kernel_rfl) (Nat.le_of_ble_eq_true rfl) (Det.move rfl) ?_
    refine LAny.takeP 12 rfl (by kernel_rfl) (Nat.le_of_ble_eq_true rfl) (Det.extract rfl rfl) ?_
    refine LAny.takeP 13 rfl (by kernel_rfl) (Nat.le_of_ble_eq_true rfl) (Det.extract rfl rfl) ?_
    refine LAny.takeP 14 rfl (by kernel_rfl) (Nat.le_of_ble_eq_true rfl) (Det.fieldA (o' := 0) Try.underlying25 rfl rfl rfl sz_23 (by decide)) ?_
    refine LAny.takeP 15 rfl (by kernel_rfl) (Nat.le_of_ble_eq_true rfl) (Det.indexA0 Try.underlying23 sz_22 rfl rfl (by omega)) ?_
    refine LAny.late 16 rfl rfl (by kernel_rfl) (by kernel_rfl) (LStepW.store1 rfl rfl rfl sz_22 (by repeat (first | exact SetAt.head _ | apply SetAt.tail)) (by first | (simp only [vec_length, natL_length, wideL_length, dv_length]; omega) | (simp; omega)) (by first | exact vec_set _ _ _ _ _ | exact dv_setm _ _ _ _ (by omega) | exact dv_sets _ _ _ _ | rfl) (by simp) ?_)
    refine LAny.takeP 17 rfl (by kernel_rfl) (Nat.le_of_ble_eq_true rfl) (Det.assign rfl) ?_
    refine LAny.done (by kernel_rfl) ?_
    refine LCode.region ?_
    refine LOps.detP (Det.bin rfl rfl (br_add (b := 1) (by omega))) (Nat.le_of_ble_eq_true rfl) ?_
    refine LOps.detP (Det.move rfl) (Nat.le_of_ble_eq_true rfl) ?_
    refine LOps.nil ?_
    refine ⟨x + 1, by omega, by omega, Sub.re (Sub.cells (b := b2) (cs' := vec .u64 9 (fun j => if j < x + 1 then limb (dif A B) j else limb A j)) (by repeat (first | exact SetAt.head _ | apply SetAt.tail)) ?_) (Sub.mk ⟨rfl, rfl, rfl, congrArg (fun n : Nat => some (Value.int .u64 (n : Int))) ?_, rfl, trivial⟩ (by repeat (first | exact Sel.nil _ | refine Sel.cons (by repeat (first | exact Pick.head _ | apply Pick.tail)) ?_)))⟩
    · apply vec_congr
      intro j hj
      by_cases e : j = x
      · subst e
        simp
        omega
      · simp only [e, if_false]
        by_cases e2 : j < x
        · rw [if_pos e2, if_pos (by omega)]
        · rw [if_neg e2, if_neg (by omega)]
    · simp
      omega
  ·
    have h9 : ¬ x < 9 := h9
    refine LCode.exit ?_
    refine LCode.seq ?_
    refine LCode.region ?_
    refine LOps.det (Det.load rfl (by repeat (first | exact List.Mem.head _ | apply List.Mem.tail)) (by exact LoadV.whole Try.underlying25 rfl sz_25)) (Nat.le_of_ble_eq_true rfl) ?_
    refine LOps.detP (Det.move rfl) (Nat.le_of_ble_eq_true rfl) ?_
    refine LOps.detP (Det.bin rfl rfl (br_eql (b := 1))) (Nat.le_of_ble_eq_true rfl) ?_
    refine LOps.step rfl (LStepW.storeA rfl rfl sz_25 (by repeat (first | exact natL_one _ | exact vec_one _ _ _ | exact wideL_one _ | exact ptL_one _ _ _ | exact pjL_one _ _ _ | exact allOne_nil | refine allOne_cons rfl ?_ | refine allOne_append ?_ ?_)) (by repeat (first | exact SetAt.head _ | apply SetAt.tail)) (by first | exact natL_length _ | exact vec_length _ _ _ | exact wideL_length _ | exact ptL_length _ _ _ | exact pjL_length _ _ _ | rfl | simp [vec_length, natL_length, wideL_length]) ?_)
    refine LOps.detP (Det.assign rfl) (Nat.le_of_ble_eq_true rfl) ?_
    refine LOps.nil ?_
    refine LCode.ret ?_
    obtain rfl : x = 9 := by omega
    refine ⟨[_, _], .cons ⟨_, _, _, rfl, (by repeat (first | exact List.Mem.head _ | apply List.Mem.tail)), by exact LoadV.whole Try.underlying25 rfl sz_25⟩ (.cons rfl .nil), fun a w' hr => ⟨?_, hr.fr.below⟩⟩
    have h1 : (vec IntKind.u64 9 fun j => if j < 9 then limb (dif A B) j else limb A j) = natL (dif A B) := vec_congr (fun i hi => if_pos hi)
    have h2 : decide (borrow A B 9 = 1) = decide (A < B) := by
      rw [borrow_nine A B 9 rfl hA hB]
      by_cases h : A < B <;> simp [h]
    show Ending.returned (.tuple #[.agg (vec IntKind.u64 9 fun j => if j < 9 then limb (dif A B) j else limb A j).toArray, .bool (decide (borrow A B 9 = 1))]) = _
    rw [h1, h2]
    rfl

theorem c_nat_used (A b : Nat) (wr : Bool) (w : World) (hb : (Item.blk b ⟨wr, natL A, 25, (0, 0)⟩).holds w) (hA : A < W9) : Calls Try.prog 172 ([.pointer (some ⟨b, 0, none⟩)] : List Value).toArray w (fun e w' => e = .returned (.int .i64 ((nw A : Nat) : Int)) ∧ Below w.heap.size w w') := by
  refine calls_ro (N := 19) (rs := [.tmp 2]) [.blk b ⟨false, natL A, 25, (0, 0)⟩] Try.func172 rfl Try.ntmps172 Try.results172 (Nat.le_of_ble_eq_true rfl) ⟨hb, trivial⟩ rfl ?_
  show LCode _ _ _ ⟨_, _⟩ _
  refine LCode.seq ?_
  refine LCode.region ?_
  refine LOps.detP (Det.assign (v := .int .i64 ((0 : Nat) : Int)) rfl) (Nat.le_of_ble_eq_true rfl) ?_
  refine LOps.nil ?_
  refine LCode.seq ?_
  refine LCode.region ?_
  refine LOps.detP (Det.assign (v := .int .i64 ((9 : Nat) : Int)) rfl) (Nat.le_of_ble_eq_true rfl) ?_
  refine LOps.nil ?_
  refine LCode.seq ?_
  refine LCode.block ?_
  refine LCode.loop (α := Nat) (fun x => x ≤ 9 ∧ A < 2 ^ (64 * x)) (fun x => ⟨[(0, .pointer (some ⟨b, 0, none⟩)), (3, .int .i64 ((x : Nat) : Int))], [.blk b ⟨false, natL A, 25, (0, 0)⟩]⟩) (fun x => x) (9) (⟨by omega, lt_w9_pow hA 9 rfl⟩) (Sub.mk ⟨rfl, rfl, trivial⟩ (by repeat (first | exact Sel.nil _ | refine Sel.cons (by repeat (first | exact Pick.head _ | apply Pick.tail)) ?_))) ?_
  rintro x ⟨hx, hlt⟩
  refine LCode.seq ?_
  refine LCode.seq ?_
  by_cases h0 : 0 < x
  ·
    refine LCode.region ?_
    refine LOps.detP (Det.move rfl) (Nat.le_of_ble_eq_true rfl) ?_
    refine LOps.detP (Det.bin rfl rfl (br_t (br_gtr (b := 0)) h0)) (Nat.le_of_ble_eq_true rfl) ?_
    refine LOps.detP (Det.move rfl) (Nat.le_of_ble_eq_true rfl) ?_
    refine LOps.detGP rfl rfl (Det.move rfl) (Nat.le_of_ble_eq_true rfl) ?_
    refine LOps.detGP rfl rfl (Det.move rfl) (Nat.le_of_ble_eq_true rfl) ?_
    refine LOps.detGP rfl rfl (Det.bin rfl rfl (br_sub (b := 1) (by omega) (by omega))) (Nat.le_of_ble_eq_true rfl) ?_
    refine LOps.detGP rfl rfl (Det.nilCheck rfl) (Nat.le_of_ble_eq_true rfl) ?_
    refine LOps.detGP rfl rfl (Det.fieldA (o' := 0) Try.underlying25 rfl rfl rfl sz_23 (by decide)) (Nat.le_of_ble_eq_true rfl) ?_
    refine LOps.detGP rfl rfl (Det.indexA0 Try.underlying23 sz_22 rfl rfl (by omega)) (Nat.le_of_ble_eq_true rfl) ?_
    refine LOps.detG rfl rfl (Det.load rfl (by repeat (first | exact List.Mem.head _ | apply List.Mem.tail)) (LoadV.one Try.underlying22 rfl (by exact natL_get _ (show x - 1 < 9 by omega)))) (Nat.le_of_ble_eq_true rfl) ?_
    refine LOps.detGP rfl rfl (Det.bin rfl rfl (br_eql (b := 0))) (Nat.le_of_ble_eq_true rfl) ?_
    refine LOps.detP (Det.pick_true rfl rfl) (Nat.le_of_ble_eq_true rfl) ?_
    refine LOps.nil ?_
    first | refine LCode.condD rfl (fun h15 => ?_) (fun h15 => ?_) | refine LCode.cond rfl (fun h15 => ?_) (fun h15 => ?_)
    ·
      have h15 : limb A (x - 1) = 0 := by have := h15; simpa using this
      refine LCode.skip ?_
      refine LCode.block ?_
      refine LCode.region ?_
      refine LOps.detP (Det.move rfl) (Nat.le_of_ble_eq_true rfl) ?_
      refine LOps.detP (Det.bin rfl rfl (br_sub (b := 1) (by omega) (by omega))) (Nat.le_of_ble_eq_true rfl) ?_
      refine LOps.detP (Det.assign rfl) (Nat.le_of_ble_eq_true rfl) ?_
      refine LOps.nil ?_
      refine ⟨x - 1, ⟨by omega, ?_⟩, by omega, Sub.mk ⟨rfl, rfl, trivial⟩ (by repeat (first | exact Sel.nil _ | refine Sel.cons (by repeat (first | exact Pick.head _ | apply Pick.tail)) ?_))⟩
      exact lt_of_limb_zero (A := A) (n := x - 1) (by rw [show x - 1 + 1 = x by omega]; exact hlt) h15
    ·
      have h15 : ¬ limb A (x - 1) = 0 := by have := h15; simpa using this
      refine LCode.exit ?_
      refine LCode.seq ?_
      refine LCode.region ?_
      refine LOps.detP (Det.move rfl) (Nat.le_of_ble_eq_true rfl) ?_
      refine LOps.detP (Det.assign rfl) (Nat.le_of_ble_eq_true rfl) ?_
      refine LOps.nil ?_
      refine LCode.ret ?_
      have he : nw A = x := nw_eq hlt (.inr (le_of_limb (A := A) (n := x - 1) (by rw [show x - 1 + 1 = x by omega]; exact hlt) h15))
      refine ⟨[_], .cons rfl .nil, fun a w' hr => ⟨?_, hr.fr.below⟩⟩
      rw [he]; rfl
  ·
    refine LCode.region ?_
    refine LOps.detP (Det.move rfl) (Nat.le_of_ble_eq_true rfl) ?_
    refine LOps.detP (Det.bin rfl rfl (br_f (br_gtr (b := 0)) h0)) (Nat.le_of_ble_eq_true rfl) ?_
    refine LOps.detP (Det.move rfl) (Nat.le_of_ble_eq_true rfl) ?_
    refine LOps.skip rfl rfl rfl (Nat.le_of_ble_eq_true rfl) ?_
    refine LOps.skip rfl rfl rfl (Nat.le_of_ble_eq_true rfl) ?_
    refine LOps.skip rfl rfl rfl (Nat.le_of_ble_eq_true rfl) ?_
    refine LOps.skip rfl rfl rfl (Nat.le_of_ble_eq_true rfl) ?_
    refine LOps.skip rfl rfl rfl (Nat.le_of_ble_eq_true rfl) ?_
    refine LOps.skip rfl rfl rfl (Nat.le_of_ble_eq_true rfl) ?_
    refine LOps.skip rfl rfl rfl (Nat.le_of_ble_eq_true rfl) ?_
    refine LOps.skip rfl rfl rfl (Nat.le_of_ble_eq_true rfl) ?_
    refine LOps.detP (Det.pick_false rfl rfl) (Nat.le_of_ble_eq_true rfl) ?_
    refine LOps.nil ?_
    refine LCode.cond_false rfl ?_
    refine LCode.exit ?_
    refine LCode.seq ?_
    refine LCode.region ?_
    refine LOps.detP (Det.move rfl) (Nat.le_of_ble_eq_true rfl) ?_
    refine LOps.detP (Det.assign rfl) (Nat.le_of_ble_eq_true rfl) ?_
    refine LOps.nil ?_
    refine LCode.ret ?_
    have he : nw A = x := nw_eq hlt (.inl (by omega))
    refine ⟨[_], .cons rfl .nil, fun a w' hr => ⟨?_, hr.fr.below⟩⟩
    rw [he]; rfl

theorem c_nat_Cmp (A B : Nat) (hA : A < W9) (hB : B < W9) (w : World)  : Calls Try.prog 113 ([natV A, natV B] : List Value).toArray w (fun e w' => e = .returned (.int .i64 (cmpI A B)) ∧ Below w.heap.size w w') := by
  refine calls_ro (N := 30) (rs := [.tmp 4]) [] Try.func113 rfl Try.ntmps113 Try.results113 (Nat.le_of_ble_eq_true rfl) trivial rfl ?_
  show LCode _ _ _ ⟨_, _⟩ _
  refine LCode.seq ?_
  refine LCode.region ?_
  refine LOps.step rfl (LStep.w (LStep.makes (Makes.boxA rfl) (Nat.le_of_ble_eq_true rfl) (fun b2 => ?_)))
  refine LOps.step rfl (LStep.w (LStep.makes (Makes.boxA rfl) (Nat.le_of_ble_eq_true rfl) (fun b3 => ?_)))
  refine LOps.detP (Det.assign (v := .int .i64 ((0 : Nat) : Int)) rfl) (Nat.le_of_ble_eq_true rfl) ?_
  refine LOps.nil ?_
  refine LCode.seq ?_
  refine LCode.seq ?_
  refine LCode.region ?_
  refine LOps.detP (Det.assign (v := .int .i64 ((8 : Nat) : Int)) rfl) (Nat.le_of_ble_eq_true rfl) ?_
  refine LOps.nil ?_
  refine LCode.block ?_
  refine LCode.loop (α := Nat) (fun x => x ≤ 9 ∧ A / 2 ^ (64 * x) = B / 2 ^ (64 * x)) (fun x => ⟨[(2, .pointer (some ⟨b2, 0, none⟩)), (3, .pointer (some ⟨b3, 0, none⟩)), (5, .int .i64 ((x : Int) - 1))], [.blk b3 ⟨true, natL B, 25, (0, 0)⟩, .blk b2 ⟨true, natL A, 25, (0, 0)⟩]⟩) (fun x => x) (9) (⟨by omega, by rw [Nat.div_eq_of_lt (lt_w9_pow hA 9 rfl), Nat.div_eq_of_lt (lt_w9_pow hB 9 rfl)]⟩) (Sub.mk ⟨rfl, rfl, rfl, trivial⟩ (by repeat (first | exact Sel.nil _ | refine Sel.cons (by repeat (first | exact Pick.head _ | apply Pick.tail)) ?_))) ?_
  rintro x ⟨hx, hab⟩
  refine LCode.seq ?_
  refine LCode.seq ?_
  rcases Nat.eq_zero_or_pos x with h0 | h0
  ·
    refine LCode.region ?_
    refine LOps.detP (Det.move rfl) (Nat.le_of_ble_eq_true rfl) ?_
    refine LOps.detP (Det.bin (v := .bool false) rfl rfl (by subst h0; rfl)) (Nat.le_of_ble_eq_true rfl) ?_
    refine LOps.nil ?_
    refine LCode.cond_false rfl ?_
    refine LCode.exit ?_
    refine LCode.seq ?_
    refine LCode.region ?_
    refine LOps.detP (Det.assign (v := .int .i64 ((0 : Nat) : Int)) rfl) (Nat.le_of_ble_eq_true rfl) ?_
    refine LOps.nil ?_
    refine LCode.ret ?_
    have he : A = B := by subst h0; simpa using hab
    refine ⟨[_], .cons rfl .nil, fun a w' hr => ⟨?_, hr.fr.below⟩⟩
    simp [resOf, cmpI, he]
  ·
    obtain ⟨x, rfl⟩ : ∃ y, x = y + 1 := ⟨x - 1, by omega⟩
    refine LCode.region ?_
    refine LOps.detP (Det.move rfl) (Nat.le_of_ble_eq_true rfl) ?_
    refine LOps.detP (Det.bin (v := .bool true) rfl rfl (by simp [binRes])) (Nat.le_of_ble_eq_true rfl) ?_
    refine LOps.nil ?_
    refine LCode.cond_true rfl ?_
    refine LCode.skip ?_
    refine LCode.seq ?_
    refine LCode.block ?_
    refine LCode.block ?_
    refine LCode.seq ?_
    refine LCode.regionD [] (by kernel_rfl) ?_
    refine LAny.takeP 0 rfl (by kernel_rfl) (Nat.le_of_ble_eq_true rfl) (Det.move (v := .int .i64 ((x : Nat) : Int)) (by show some _ = some _; congr 2; omega)) ?_
    refine LAny.takeP 1 rfl (by kernel_rfl) (Nat.le_of_ble_eq_true rfl) (Det.fieldA (o' := 0) Try.underlying25 rfl rfl rfl sz_23 (by decide)) ?_
    refine LAny.takeP 2 rfl (by kernel_rfl) (Nat.le_of_ble_eq_true rfl) (Det.indexA0 Try.underlying23 sz_22 rfl rfl (by omega)) ?_
    refine LAny.take 3 rfl (by kernel_rfl) (Nat.le_of_ble_eq_true rfl) (Det.load rfl (by repeat (first | exact List.Mem.head _ | apply List.Mem.tail)) (LoadV.one Try.underlying22 rfl (by exact natL_get _ (show x < 9 by omega)))) ?_
    refine LAny.takeP 4 rfl (by kernel_rfl) (Nat.le_of_ble_eq_true rfl) (Det.move (v := .int .i64 ((x : Nat) : Int)) (by show some _ = some _; congr 2; omega)) ?_
    refine LAny.takeP 5 rfl (by kernel_rfl) (Nat.le_of_ble_eq_true rfl) (Det.fieldA (o' := 0) Try.underlying25 rfl rfl rfl sz_23 (by decide)) ?_
    refine LAny.takeP 6 rfl (by kernel_rfl) (Nat.le_of_ble_eq_true rfl) (Det.indexA0 Try.underlying23 sz_22 rfl rfl (by omega)) ?_
    refine LAny.take 7 rfl (by kernel_rfl) (Nat.le_of_ble_eq_true rfl) (Det.load rfl (by repeat (first | exact List.Mem.head _ | apply List.Mem.tail)) (LoadV.one Try.underlying22 rfl (by exact natL_get _ (show x < 9 by omega)))) ?_
    refine LAny.takeP 8 rfl (by kernel_rfl) (Nat.le_of_ble_eq_true rfl) (Det.bin rfl rfl (br_lss)) ?_
    refine LAny.takeP 9 rfl (by kernel_rfl) (Nat.le_of_ble_eq_true rfl) (Det.assign rfl) ?_
    refine LAny.done (by kernel_rfl) ?_
    first | refine LCode.condD rfl (fun h10 => ?_) (fun h10 => ?_) | refine LCode.cond rfl (fun h10 => ?_) (fun h10 => ?_)
    ·
      refine LCode.seq ?_
      refine LCode.region ?_
      refine LOps.detP (Det.assign rfl) (Nat.le_of_ble_eq_true rfl) ?_
      refine LOps.nil ?_
      refine LCode.ret ?_
      have he : A < B := lt_of_limb hab h10
      refine ⟨[_], .cons rfl .nil, fun a w' hr => ⟨?_, hr.fr.below⟩⟩
      simp [resOf, cmpI, he]
    ·
      refine LCode.seq ?_
      refine LCode.regionD [] (by kernel_rfl) ?_
      refine LAny.takeP 0 rfl (by kernel_rfl) (Nat.le_of_ble_eq_true rfl) (Det.move (v := .int .i64 ((x : Nat) : Int)) (by show some _ = some _; congr 2; omega)) ?_
      refine LAny.takeP 1 rfl (by kernel_rfl) (Nat.le_of_ble_eq_true rfl) (Det.fieldA (o' := 0) Try.underlying25 rfl rfl rfl sz_23 (by decide)) ?_
      refine LAny.takeP 2 rfl (by kernel_rfl) (Nat.le_of_ble_eq_true rfl) (Det.indexA0 Try.underlying23 sz_22 rfl rfl (by omega)) ?_
      refine LAny.take 3 rfl (by kernel_rfl) (Nat.le_of_ble_eq_true rfl) (Det.load rfl (by repeat (first | exact List.Mem.head _ | apply List.Mem.tail)) (LoadV.one Try.underlying22 rfl (by exact natL_get _ (show x < 9 by omega)))) ?_
      refine LAny.takeP 4 rfl (by kernel_rfl) (Nat.le_of_ble_eq_true rfl) (Det.move (v := .int .i64 ((x : Nat) : Int)) (by show some _ = some _; congr 2; omega)) ?_
      refine LAny.takeP 5 rfl (by kernel_rfl) (Nat.le_of_ble_eq_true rfl) (Det.fieldA (o' := 0) Try.underlying25 rfl rfl rfl sz_23 (by decide)) ?_
      refine LAny.takeP 6 rfl (by kernel_rfl) (Nat.le_of_ble_eq_true rfl) (Det.indexA0 Try.underlying23 sz_22 rfl rfl (by omega)) ?_
      refine LAny.take 7 rfl (by kernel_rfl) (Nat.le_of_ble_eq_true rfl) (Det.load rfl (by repeat (first | exact List.Mem.head _ | apply List.Mem.tail)) (LoadV.one Try.underlying22 rfl (by exact natL_get _ (show x < 9 by omega)))) ?_
      refine LAny.takeP 8 rfl (by kernel_rfl) (Nat.le_of_ble_eq_true rfl) (Det.bin rfl rfl (br_gtr)) ?_
      refine LAny.takeP 9 rfl (by kernel_rfl) (Nat.le_of_ble_eq_true rfl) (Det.assign rfl) ?_
      refine LAny.done (by kernel_rfl) ?_
      first | refine LCode.condD rfl (fun h20 => ?_) (fun h20 => ?_) | refine LCode.cond rfl (fun h20 => ?_) (fun h20 => ?_)
      ·
        refine LCode.seq ?_
        refine LCode.region ?_
        refine LOps.detP (Det.assign (v := .int .i64 ((1 : Nat) : Int)) rfl) (Nat.le_of_ble_eq_true rfl) ?_
        refine LOps.nil ?_
        refine LCode.ret ?_
        have he : B < A := lt_of_limb hab.symm h20
        have he2 : ¬ A < B := by omega
        refine ⟨[_], .cons rfl .nil, fun a w' hr => ⟨?_, hr.fr.below⟩⟩
        simp [resOf, cmpI, he, he2]
      ·
        refine LCode.skip ?_
        refine LCode.region ?_
        refine LOps.detP (Det.move (v := .int .i64 ((x : Nat) : Int)) (by show some _ = some _; congr 2; omega)) (Nat.le_of_ble_eq_true rfl) ?_
        refine LOps.detP (Det.bin rfl rfl rfl) (Nat.le_of_ble_eq_true rfl) ?_
        refine LOps.detP (Det.assign rfl) (Nat.le_of_ble_eq_true rfl) ?_
        refine LOps.nil ?_
        refine ⟨x, ⟨by omega, ?_⟩, by omega, Sub.mk ⟨rfl, rfl, ?_, trivial⟩ (by repeat (first | exact Sel.nil _ | refine Sel.cons (by repeat (first | exact Pick.head _ | apply Pick.tail)) ?_))⟩
        · have h1 : limb A x = limb B x := by omega
          exact (div_eq_iff_limb A B x).2 ⟨hab, h1⟩
        · exact congrArg (fun i : Int => some (Value.int .i64 i)) (wrap_i64 (by omega) (by omega))

end Go.Proofs.Ytljblbgogjieaaa
