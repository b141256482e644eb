/- Part 2 of what the proof leans on: a symbolic execution of the model, walks of the program's functions, and the mathematics. No condition. -/
import Derived.WalkKit
import Derived.Orders
import Derived.Laws.StructEq
import Derived.WalkSpells
import Derived.OrdersHeld
import Derived.KernelRfl
import Derived.Laws.Externs
import Derived.Laws.Bits64
import Derived.Laws.MakeOwn
import Derived.Laws.BytesString
import Derived.Carry
import Derived.WideShapes
import GoSem.Claim
import Derived.Test.YtljblbgogjieaaaProg
import Derived.Laws.AppendOwn
import Derived.Test.YtljblbgogjieaaaRows
import Derived.ProofKit
import Derived.OpenShut
import Derived.Test.YtljblbgogjieaaaP1
set_option linter.unusedVariables false
set_option linter.unusedSimpArgs false
set_option maxRecDepth 20000
namespace Go.Proofs.Ytljblbgogjieaaa
open Go Go.RowKit
theorem c_nat_Add (A B : Nat) (hA : A < W9) (hB : B < W9) (w : World)  : Calls Try.prog 174 ([natV A, natV B] : List Value).toArray w (fun e w' => e = .returned (.tuple #[natV ((A + B) % W9), .bool (decide (W9 ≤ A + B))]) ∧ Below w.heap.size w w') := by
  refine calls_ro (N := 31) (rs := [.cell 4 25, .tmp 5]) [] Try.func174 rfl Try.ntmps174 Try.results174 (Nb rfl) trivial rfl ?_
  show LCode _ _ _ ⟨_, _⟩ _
  refine LCode.seq ?_
  refine LCode.region ?_
  refine LOps.step rfl (LStep.w (LStep.makes (Makes.boxA rfl) (Nb rfl) (fun b2 => ?_)))
  refine LOps.step rfl (LStep.w (LStep.makes (Makes.boxA rfl) (Nb rfl) (fun b3 => ?_)))
  refine LOps.step rfl (LStep.w (LStep.makes (Makes.allocA zr_25) (Nb rfl) (fun b4 => ?_)))
  refine LOps.detP (Det.assign rfl) (Nb rfl) ?_
  refine LOps.nil ?_
  refine LCode.seq ?_
  refine LCode.region ?_
  refine LOps.detP (Det.assign (v := .int .u64 ((0 : Nat) : Int)) rfl) (Nb rfl) ?_
  refine LOps.nil ?_
  refine LCode.seq ?_
  refine LCode.seq ?_
  refine LCode.region ?_
  refine LOps.detP (Det.move (v := .int .i64 ((0 : Nat) : Int)) rfl) (Nb rfl) ?_
  refine LOps.nil ?_
  refine LCode.block ?_
  refine LCode.loop (α := Nat) (fun x => x ≤ 9) (fun x => ⟨[(2, .pointer (some ⟨b2, 0, none⟩)), (3, .pointer (some ⟨b3, 0, none⟩)), (4, .pointer (some ⟨b4, 0, none⟩)), (6, .int .u64 ((carry A B x : Nat) : Int)), (8, .int .i64 ((x : Nat) : Int))], [.blk b4 ⟨true, vec .u64 9 (fun _ => 0), 25, (0, 0)⟩, .blk b3 ⟨true, natL B, 25, (0, 0)⟩, .blk b2 ⟨true, vec .u64 9 (fun j => if j < x then limb (A + B) j else limb A j), 25, (0, 0)⟩]⟩) (fun x => 9 - x) (0) (by omega) (Sub.mk ⟨rfl, rfl, rfl, by rw [carry_zero]; rfl, rfl, trivial⟩ (by repeat (first | exact Sel.nil _ | refine Sel.cons (by repeat (first | exact Ph _ | apply Pt_)) ?_))) ?_
  intro x hx
  have hc := carry_le A B x
  have ha := add_limb A B x
  have hl := limb_lt (A + B) x
  refine LCode.seq ?_
  refine LCode.region ?_
  refine LOps.detP (Det.bin rfl rfl (br_lss (b := 9))) (Nb rfl) ?_
  refine LOps.nil ?_
  refine LCode.seq ?_
  first | refine LCode.condD rfl (fun h9 => ?_) (fun h9 => ?_) | refine LCode.cond rfl (fun h9 => ?_) (fun h9 => ?_)
  ·
    have h9 : x < 9 := h9
    refine LCode.skip ?_
    refine LCode.seq ?_
    refine LCode.block ?_
    refine LCode.seq ?_
    refine LCode.region ?_
    refine LOps.detP (Det.move rfl) (Nb rfl) ?_
    refine LOps.detP (Det.assign rfl) (Nb rfl) ?_
    refine LOps.nil ?_
    refine LCode.regionD [16] (by kernel_rfl) ?_
    refine LAny.takeP 0 rfl (by kernel_rfl) (Nb rfl) (Det.move rfl) ?_
    refine LAny.takeP 1 rfl (by kernel_rfl) (Nb rfl) (Det.move rfl) ?_
    refine LAny.takeP 2 rfl (by kernel_rfl) (Nb rfl) (Det.fieldA (o' := 0) Try.underlying25 rfl rfl rfl sz_23 (by decide)) ?_
    refine LAny.takeP 3 rfl (by kernel_rfl) (Nb rfl) (Det.indexA0 Try.underlying23 sz_22 rfl rfl (by omega)) ?_
    refine LAny.take 4 rfl (by kernel_rfl) (Nb rfl) (Det.load rfl (by repeat (first | exact Mh _ | apply Mt)) (LoadV.one Try.underlying22 rfl (by exact vec_get _ _ _ (by omega)))) ?_
    refine LAny.takeP 5 rfl (by kernel_rfl) (Nb rfl) (Det.move rfl) ?_
    refine LAny.takeP 6 rfl (by kernel_rfl) (Nb rfl) (Det.fieldA (o' := 0) Try.underlying25 rfl rfl rfl sz_23 (by decide)) ?_
    refine LAny.takeP 7 rfl (by kernel_rfl) (Nb rfl) (Det.indexA0 Try.underlying23 sz_22 rfl rfl (by omega)) ?_
    refine LAny.take 8 rfl (by kernel_rfl) (Nb rfl) (Det.load rfl (by repeat (first | exact Mh _ | apply Mt)) (LoadV.one Try.underlying22 rfl (by exact natL_get _ (by omega)))) ?_
    refine LAny.takeP 9 rfl (by kernel_rfl) (Nb rfl) (Det.move rfl) ?_
    refine LAny.takeP 10 rfl (by kernel_rfl) (Nb rfl) (Det.add64 ex_184 rfl rfl rfl (by omega)) ?_
    refine LAny.takeP 11 rfl (by kernel_rfl) (Nb rfl) (Det.move rfl) ?_
    refine LAny.takeP 12 rfl (by kernel_rfl) (Nb rfl) (Det.extract rfl rfl) ?_
    refine LAny.takeP 13 rfl (by kernel_rfl) (Nb rfl) (Det.extract rfl rfl) ?_
    refine LAny.takeP 14 rfl (by kernel_rfl) (Nb rfl) (Det.fieldA (o' := 0) Try.underlying25 rfl rfl rfl sz_23 (by decide)) ?_
    refine LAny.takeP 15 rfl (by kernel_rfl) (Nb rfl) (Det.indexA0 Try.underlying23 sz_22 rfl rfl (by omega)) ?_
    refine LAny.late 16 rfl rfl (by kernel_rfl) (by kernel_rfl) (LStepW.store1 rfl rfl rfl sz_22 (by repeat (first | exact Sh _ | apply St_)) (by first | (simp only [vec_length, natL_length, wideL_length, dv_length]; omega) | (simp; omega)) (by first | exact vec_set _ _ _ _ _ | exact dv_setm _ _ _ _ (by omega) | exact dv_sets _ _ _ _ | rfl) (by simp) ?_)
    refine LAny.takeP 17 rfl (by kernel_rfl) (Nb rfl) (Det.assign rfl) ?_
    refine LAny.done (by kernel_rfl) ?_
    refine LCode.region ?_
    refine LOps.detP (Det.bin rfl rfl (br_add (b := 1) (by omega))) (Nb rfl) ?_
    refine LOps.detP (Det.move rfl) (Nb rfl) ?_
    refine LOps.nil ?_
    refine ⟨x + 1, by omega, by omega, Sub.re (Sub.cells (b := b2) (cs' := vec .u64 9 (fun j => if j < x + 1 then limb (A + B) j else limb A j)) (by repeat (first | exact Sh _ | apply St_)) ?_) (Sub.mk ⟨rfl, rfl, rfl, congrArg (fun n : Nat => some (Value.int .u64 (n : Int))) ?_, rfl, trivial⟩ (by repeat (first | exact Sel.nil _ | refine Sel.cons (by repeat (first | exact Ph _ | apply Pt_)) ?_)))⟩
    · apply vec_congr
      intro j hj
      by_cases e : j = x
      · subst e
        simp
        omega
      · simp only [e, if_false]
        by_cases e2 : j < x
        · rw [if_pos e2, if_pos (by omega)]
        · rw [if_neg e2, if_neg (by omega)]
    · simp
      omega
  ·
    have h9 : ¬ x < 9 := h9
    refine LCode.exit ?_
    refine LCode.seq ?_
    refine LCode.region ?_
    refine LOps.det (Det.load rfl (by repeat (first | exact Mh _ | apply Mt)) (by exact LoadV.whole Try.underlying25 rfl sz_25)) (Nb rfl) ?_
    refine LOps.detP (Det.move rfl) (Nb rfl) ?_
    refine LOps.detP (Det.bin rfl rfl (br_eql (b := 1))) (Nb rfl) ?_
    refine LOps.step rfl (LStepW.storeA rfl rfl sz_25 (by repeat (first | exact natL_one _ | exact vec_one _ _ _ | exact wideL_one _ | exact ptL_one _ _ _ | exact pjL_one _ _ _ | exact allOne_nil | refine allOne_cons rfl ?_ | refine allOne_append ?_ ?_)) (by repeat (first | exact Sh _ | apply St_)) (by first | exact natL_length _ | exact vec_length _ _ _ | exact wideL_length _ | exact ptL_length _ _ _ | exact pjL_length _ _ _ | rfl | simp [vec_length, natL_length, wideL_length]) ?_)
    refine LOps.detP (Det.assign rfl) (Nb rfl) ?_
    refine LOps.nil ?_
    refine LCode.ret ?_
    obtain rfl : x = 9 := by omega
    refine ⟨[_, _], .cons ⟨_, _, _, rfl, (by repeat (first | exact Mh _ | apply Mt)), by exact LoadV.whole Try.underlying25 rfl sz_25⟩ (.cons rfl .nil), fun a w' hr => ⟨?_, hr.fr.below⟩⟩
    rw [natV_mod]
    have h1 : (vec IntKind.u64 9 fun j => if j < 9 then limb (A + B) j else limb A j) = natL (A + B) := vec_congr (fun i hi => if_pos hi)
    have h2 : decide (carry A B 9 = 1) = decide (W9 ≤ A + B) := by
      rw [carry_nine A B 9 rfl hA hB]
      by_cases h : W9 ≤ A + B <;> simp [h]
    show Ending.returned (.tuple #[.agg (vec IntKind.u64 9 fun j => if j < 9 then limb (A + B) j else limb A j).toArray, .bool (decide (carry A B 9 = 1))]) = _
    rw [h1, h2]
    rfl
theorem c_nat_Sub (A B : Nat) (hA : A < W9) (hB : B < W9) (w : World)  : Calls Try.prog 149 ([natV A, natV B] : List Value).toArray w (fun e w' => e = .returned (.tuple #[natV (dif A B), .bool (decide (A < B))]) ∧ Below w.heap.size w w') := by
  refine calls_ro (N := 31) (rs := [.cell 4 25, .tmp 5]) [] Try.func149 rfl Try.ntmps149 Try.results149 (Nb rfl) trivial rfl ?_
  show LCode _ _ _ ⟨_, _⟩ _
  refine LCode.seq ?_
  refine LCode.region ?_
  refine LOps.step rfl (LStep.w (LStep.makes (Makes.boxA rfl) (Nb rfl) (fun b2 => ?_)))
  refine LOps.step rfl (LStep.w (LStep.makes (Makes.boxA rfl) (Nb rfl) (fun b3 => ?_)))
  refine LOps.step rfl (LStep.w (LStep.makes (Makes.allocA zr_25) (Nb rfl) (fun b4 => ?_)))
  refine LOps.detP (Det.assign rfl) (Nb rfl) ?_
  refine LOps.nil ?_
  refine LCode.seq ?_
  refine LCode.region ?_
  refine LOps.detP (Det.assign (v := .int .u64 ((0 : Nat) : Int)) rfl) (Nb rfl) ?_
  refine LOps.nil ?_
  refine LCode.seq ?_
  refine LCode.seq ?_
  refine LCode.region ?_
  refine LOps.detP (Det.move (v := .int .i64 ((0 : Nat) : Int)) rfl) (Nb rfl) ?_
  refine LOps.nil ?_
  refine LCode.block ?_
  refine LCode.loop (α := Nat) (fun x => x ≤ 9) (fun x => ⟨[(2, .pointer (some ⟨b2, 0, none⟩)), (3, .pointer (some ⟨b3, 0, none⟩)), (4, .pointer (some ⟨b4, 0, none⟩)), (6, .int .u64 ((borrow A B x : Nat) : Int)), (8, .int .i64 ((x : Nat) : Int))], [.blk b4 ⟨true, vec .u64 9 (fun _ => 0), 25, (0, 0)⟩, .blk b3 ⟨true, natL B, 25, (0, 0)⟩, .blk b2 ⟨true, vec .u64 9 (fun j => if j < x then limb (dif A B) j else limb A j), 25, (0, 0)⟩]⟩) (fun x => 9 - x) (0) (by omega) (Sub.mk ⟨rfl, rfl, rfl, by rw [borrow_zero]; rfl, rfl, trivial⟩ (by repeat (first | exact Sel.nil _ | refine Sel.cons (by repeat (first | exact Ph _ | apply Pt_)) ?_))) ?_
  intro x hx
  have hc := borrow_le A B x
  refine LCode.seq ?_
  refine LCode.region ?_
  refine LOps.detP (Det.bin rfl rfl (br_lss (b := 9))) (Nb rfl) ?_
  refine LOps.nil ?_
  refine LCode.seq ?_
  first | refine LCode.condD rfl (fun h9 => ?_) (fun h9 => ?_) | refine LCode.cond rfl (fun h9 => ?_) (fun h9 => ?_)
  ·
    have h9 : x < 9 := h9
    have ha := sub_limb A B x hA hB h9
    have hb := borrow_succ A B x
    refine LCode.skip ?_
    refine LCode.seq ?_
    refine LCode.block ?_
    refine LCode.seq ?_
    refine LCode.region ?_
    refine LOps.detP (Det.move rfl) (Nb rfl) ?_
    refine LOps.detP (Det.assign rfl) (Nb rfl) ?_
    refine LOps.nil ?_
    refine LCode.regionD [16] (by kernel_rfl) ?_
    refine LAny.takeP 0 rfl (by kernel_rfl) (Nb rfl) (Det.move rfl) ?_
    refine LAny.takeP 1 rfl (by kernel_rfl) (Nb rfl) (Det.move rfl) ?_
    refine LAny.takeP 2 rfl (by kernel_rfl) (Nb rfl) (Det.fieldA (o' := 0) Try.underlying25 rfl rfl rfl sz_23 (by decide)) ?_
    refine LAny.takeP 3 rfl (by kernel_rfl) (Nb rfl) (Det.indexA0 Try.underlying23 sz_22 rfl rfl (by omega)) ?_
    refine LAny.take 4 rfl (by kernel_rfl) (Nb rfl) (Det.load rfl (by repeat (first | exact Mh _ | apply Mt)) (LoadV.one Try.underlying22 rfl (by exact vec_get _ _ _ (by omega)))) ?_
    refine LAny.takeP 5 rfl (by kernel_rfl) (Nb rfl) (Det.move rfl) ?_
    refine LAny.takeP 6 rfl (by kernel_rfl) (Nb rfl) (Det.fieldA (o' := 0) Try.underlying25 rfl rfl rfl sz_23 (by decide)) ?_
    refine LAny.takeP 7 rfl (by kernel_rfl) (Nb rfl) (Det.indexA0 Try.underlying23 sz_22 rfl rfl (by omega)) ?_
    refine LAny.take 8 rfl (by kernel_rfl) (Nb rfl) (Det.load rfl (by repeat (first | exact Mh _ | apply Mt)) (LoadV.one Try.underlying22 rfl (by exact natL_get _ (by omega)))) ?_
    refine LAny.takeP 9 rfl (by kernel_rfl) (Nb rfl) (Det.move rfl) ?_
    refine LAny.takeP 10 rfl (by kernel_rfl) (Nb rfl) (Det.sub64 ex_171 rfl rfl rfl (by omega)) ?_
    refine LAny.takeP 11 rfl (by kernel_rfl) (Nb rfl) (Det.move rfl) ?_
    refine LAny.takeP 12 rfl (by kernel_rfl) (Nb rfl) (Det.extract rfl rfl) ?_
    refine LAny.takeP 13 rfl (by kernel_rfl) (Nb rfl) (Det.extract rfl rfl) ?_
    refine LAny.takeP 14 rfl (by kernel_rfl) (Nb rfl) (Det.fieldA (o' := 0) Try.underlying25 rfl rfl rfl sz_23 (by decide)) ?_
    refine LAny.takeP 15 rfl (by kernel_rfl) (Nb rfl) (Det.indexA0 Try.underlying23 sz_22 rfl rfl (by omega)) ?_
    refine LAny.late 16 rfl rfl (by kernel_rfl) (by kernel_rfl) (LStepW.store1 rfl rfl rfl sz_22 (by repeat (first | exact Sh _ | apply St_)) (by first | (simp only [vec_length, natL_length, wideL_length, dv_length]; omega) | (simp; omega)) (by first | exact vec_set _ _ _ _ _ | exact dv_setm _ _ _ _ (by omega) | exact dv_sets _ _ _ _ | rfl) (by simp) ?_)
    refine LAny.takeP 17 rfl (by kernel_rfl) (Nb rfl) (Det.assign rfl) ?_
    refine LAny.done (by kernel_rfl) ?_
    refine LCode.region ?_
    refine LOps.detP (Det.bin rfl rfl (br_add (b := 1) (by omega))) (Nb rfl) ?_
    refine LOps.detP (Det.move rfl) (Nb rfl) ?_
    refine LOps.nil ?_
    refine ⟨x + 1, by omega, by omega, Sub.re (Sub.cells (b := b2) (cs' := vec .u64 9 (fun j => if j < x + 1 then limb (dif A B) j else limb A j)) (by repeat (first | exact Sh _ | apply St_)) ?_) (Sub.mk ⟨rfl, rfl, rfl, congrArg (fun n : Nat => some (Value.int .u64 (n : Int))) ?_, rfl, trivial⟩ (by repeat (first | exact Sel.nil _ | refine Sel.cons (by repeat (first | exact Ph _ | apply Pt_)) ?_)))⟩
    · apply vec_congr
      intro j hj
      by_cases e : j = x
      · subst e
        simp
        omega
      · simp only [e, if_false]
        by_cases e2 : j < x
        · rw [if_pos e2, if_pos (by omega)]
        · rw [if_neg e2, if_neg (by omega)]
    · simp
      omega
  ·
    have h9 : ¬ x < 9 := h9
    refine LCode.exit ?_
    refine LCode.seq ?_
    refine LCode.region ?_
    refine LOps.det (Det.load rfl (by repeat (first | exact Mh _ | apply Mt)) (by exact LoadV.whole Try.underlying25 rfl sz_25)) (Nb rfl) ?_
    refine LOps.detP (Det.move rfl) (Nb rfl) ?_
    refine LOps.detP (Det.bin rfl rfl (br_eql (b := 1))) (Nb rfl) ?_
    refine LOps.step rfl (LStepW.storeA rfl rfl sz_25 (by repeat (first | exact natL_one _ | exact vec_one _ _ _ | exact wideL_one _ | exact ptL_one _ _ _ | exact pjL_one _ _ _ | exact allOne_nil | refine allOne_cons rfl ?_ | refine allOne_append ?_ ?_)) (by repeat (first | exact Sh _ | apply St_)) (by first | exact natL_length _ | exact vec_length _ _ _ | exact wideL_length _ | exact ptL_length _ _ _ | exact pjL_length _ _ _ | rfl | simp [vec_length, natL_length, wideL_length]) ?_)
    refine LOps.detP (Det.assign rfl) (Nb rfl) ?_
    refine LOps.nil ?_
    refine LCode.ret ?_
    obtain rfl : x = 9 := by omega
    refine ⟨[_, _], .cons ⟨_, _, _, rfl, (by repeat (first | exact Mh _ | apply Mt)), by exact LoadV.whole Try.underlying25 rfl sz_25⟩ (.cons rfl .nil), fun a w' hr => ⟨?_, hr.fr.below⟩⟩
    have h1 : (vec IntKind.u64 9 fun j => if j < 9 then limb (dif A B) j else limb A j) = natL (dif A B) := vec_congr (fun i hi => if_pos hi)
    have h2 : decide (borrow A B 9 = 1) = decide (A < B) := by
      rw [borrow_nine A B 9 rfl hA hB]
      by_cases h : A < B <;> simp [h]
    show Ending.returned (.tuple #[.agg (vec IntKind.u64 9 fun j => if j < 9 then limb (dif A B) j else limb A j).toArray, .bool (decide (borrow A B 9 = 1))]) = _
    rw [h1, h2]
    rfl
theorem c_nat_used (A b : Nat) (wr : Bool) (w : World) (hb : (Item.blk b ⟨wr, natL A, 25, (0, 0)⟩).holds w) (hA : A < W9) : Calls Try.prog 172 ([.pointer (some ⟨b, 0, none⟩)] : List Value).toArray w (fun e w' => e = .returned (.int .i64 ((nw A : Nat) : Int)) ∧ Below w.heap.size w w') := by
  refine calls_ro (N := 19) (rs := [.tmp 2]) [.blk b ⟨false, natL A, 25, (0, 0)⟩] Try.func172 rfl Try.ntmps172 Try.results172 (Nb rfl) ⟨hb, trivial⟩ rfl ?_
  show LCode _ _ _ ⟨_, _⟩ _
  refine LCode.seq ?_
  refine LCode.region ?_
  refine LOps.detP (Det.assign (v := .int .i64 ((0 : Nat) : Int)) rfl) (Nb rfl) ?_
  refine LOps.nil ?_
  refine LCode.seq ?_
  refine LCode.region ?_
  refine LOps.detP (Det.assign (v := .int .i64 ((9 : Nat) : Int)) rfl) (Nb rfl) ?_
  refine LOps.nil ?_
  refine LCode.seq ?_
  refine LCode.block ?_
  refine LCode.loop (α := Nat) (fun x => x ≤ 9 ∧ A < 2 ^ (64 * x)) (fun x => ⟨[(0, .pointer (some ⟨b, 0, none⟩)), (3, .int .i64 ((x : Nat) : Int))], [.blk b ⟨false, natL A, 25, (0, 0)⟩]⟩) (fun x => x) (9) (⟨by omega, lt_w9_pow hA 9 rfl⟩) (Sub.mk ⟨rfl, rfl, trivial⟩ (by repeat (first | exact Sel.nil _ | refine Sel.cons (by repeat (first | exact Ph _ | apply Pt_)) ?_))) ?_
  rintro x ⟨hx, hlt⟩
  refine LCode.seq ?_
  refine LCode.seq ?_
  by_cases h0 : 0 < x
  ·
    refine LCode.region ?_
    refine LOps.detP (Det.move rfl) (Nb rfl) ?_
    refine LOps.detP (Det.bin rfl rfl (br_t (br_gtr (b := 0)) h0)) (Nb rfl) ?_
    refine LOps.detP (Det.move rfl) (Nb rfl) ?_
    refine LOps.detGP rfl rfl (Det.move rfl) (Nb rfl) ?_
    refine LOps.detGP rfl rfl (Det.move rfl) (Nb rfl) ?_
    refine LOps.detGP rfl rfl (Det.bin rfl rfl (br_sub (b := 1) (by omega) (by omega))) (Nb rfl) ?_
    refine LOps.detGP rfl rfl (Det.nilCheck rfl) (Nb rfl) ?_
    refine LOps.detGP rfl rfl (Det.fieldA (o' := 0) Try.underlying25 rfl rfl rfl sz_23 (by decide)) (Nb rfl) ?_
    refine LOps.detGP rfl rfl (Det.indexA0 Try.underlying23 sz_22 rfl rfl (by omega)) (Nb rfl) ?_
    refine LOps.detG rfl rfl (Det.load rfl (by repeat (first | exact Mh _ | apply Mt)) (LoadV.one Try.underlying22 rfl (by exact natL_get _ (show x - 1 < 9 by omega)))) (Nb rfl) ?_
    refine LOps.detGP rfl rfl (Det.bin rfl rfl (br_eql (b := 0))) (Nb rfl) ?_
    refine LOps.detP (Det.pick_true rfl rfl) (Nb rfl) ?_
    refine LOps.nil ?_
    first | refine LCode.condD rfl (fun h15 => ?_) (fun h15 => ?_) | refine LCode.cond rfl (fun h15 => ?_) (fun h15 => ?_)
    ·
      have h15 : limb A (x - 1) = 0 := by have := h15; simpa using this
      refine LCode.skip ?_
      refine LCode.block ?_
      refine LCode.region ?_
      refine LOps.detP (Det.move rfl) (Nb rfl) ?_
      refine LOps.detP (Det.bin rfl rfl (br_sub (b := 1) (by omega) (by omega))) (Nb rfl) ?_
      refine LOps.detP (Det.assign rfl) (Nb rfl) ?_
      refine LOps.nil ?_
      refine ⟨x - 1, ⟨by omega, ?_⟩, by omega, Sub.mk ⟨rfl, rfl, trivial⟩ (by repeat (first | exact Sel.nil _ | refine Sel.cons (by repeat (first | exact Ph _ | apply Pt_)) ?_))⟩
      exact lt_of_limb_zero (A := A) (n := x - 1) (by rw [show x - 1 + 1 = x by omega]; exact hlt) h15
    ·
      have h15 : ¬ limb A (x - 1) = 0 := by have := h15; simpa using this
      refine LCode.exit ?_
      refine LCode.seq ?_
      refine LCode.region ?_
      refine LOps.detP (Det.move rfl) (Nb rfl) ?_
      refine LOps.detP (Det.assign rfl) (Nb rfl) ?_
      refine LOps.nil ?_
      refine LCode.ret ?_
      have he : nw A = x := nw_eq hlt (.inr (le_of_limb (A := A) (n := x - 1) (by rw [show x - 1 + 1 = x by omega]; exact hlt) h15))
      refine ⟨[_], .cons rfl .nil, fun a w' hr => ⟨?_, hr.fr.below⟩⟩
      rw [he]; rfl
  ·
    refine LCode.region ?_
    refine LOps.detP (Det.move rfl) (Nb rfl) ?_
    refine LOps.detP (Det.bin rfl rfl (br_f (br_gtr (b := 0)) h0)) (Nb rfl) ?_
    refine LOps.detP (Det.move rfl) (Nb rfl) ?_
    refine LOps.skip rfl rfl rfl (Nb rfl) ?_
    refine LOps.skip rfl rfl rfl (Nb rfl) ?_
    refine LOps.skip rfl rfl rfl (Nb rfl) ?_
    refine LOps.skip rfl rfl rfl (Nb rfl) ?_
    refine LOps.skip rfl rfl rfl (Nb rfl) ?_
    refine LOps.skip rfl rfl rfl (Nb rfl) ?_
    refine LOps.skip rfl rfl rfl (Nb rfl) ?_
    refine LOps.skip rfl rfl rfl (Nb rfl) ?_
    refine LOps.detP (Det.pick_false rfl rfl) (Nb rfl) ?_
    refine LOps.nil ?_
    refine LCode.cond_false rfl ?_
    refine LCode.exit ?_
    refine LCode.seq ?_
    refine LCode.region ?_
    refine LOps.detP (Det.move rfl) (Nb rfl) ?_
    refine LOps.detP (Det.assign rfl) (Nb rfl) ?_
    refine LOps.nil ?_
    refine LCode.ret ?_
    have he : nw A = x := nw_eq hlt (.inl (by omega))
    refine ⟨[_], .cons rfl .nil, fun a w' hr => ⟨?_, hr.fr.below⟩⟩
    rw [he]; rfl
theorem c_nat_Cmp (A B : Nat) (hA : A < W9) (hB : B < W9) (w : World)  : Calls Try.prog 113 ([natV A, natV B] : List Value).toArray w (fun e w' => e = .returned (.int .i64 (cmpI A B)) ∧ Below w.heap.size w w') := by
  refine calls_ro (N := 30) (rs := [.tmp 4]) [] Try.func113 rfl Try.ntmps113 Try.results113 (Nb rfl) trivial rfl ?_
  show LCode _ _ _ ⟨_, _⟩ _
  refine LCode.seq ?_
  refine LCode.region ?_
  refine LOps.step rfl (LStep.w (LStep.makes (Makes.boxA rfl) (Nb rfl) (fun b2 => ?_)))
  refine LOps.step rfl (LStep.w (LStep.makes (Makes.boxA rfl) (Nb rfl) (fun b3 => ?_)))
  refine LOps.detP (Det.assign (v := .int .i64 ((0 : Nat) : Int)) rfl) (Nb rfl) ?_
  refine LOps.nil ?_
  refine LCode.seq ?_
  refine LCode.seq ?_
  refine LCode.region ?_
  refine LOps.detP (Det.assign (v := .int .i64 ((8 : Nat) : Int)) rfl) (Nb rfl) ?_
  refine LOps.nil ?_
  refine LCode.block ?_
  refine LCode.loop (α := Nat) (fun x => x ≤ 9 ∧ A / 2 ^ (64 * x) = B / 2 ^ (64 * x)) (fun x => ⟨[(2, .pointer (some ⟨b2, 0, none⟩)), (3, .pointer (some ⟨b3, 0, none⟩)), (5, .int .i64 ((x : Int) - 1))], [.blk b3 ⟨true, natL B, 25, (0, 0)⟩, .blk b2 ⟨true, natL A, 25, (0, 0)⟩]⟩) (fun x => x) (9) (⟨by omega, by rw [Nat.div_eq_of_lt (lt_w9_pow hA 9 rfl), Nat.div_eq_of_lt (lt_w9_pow hB 9 rfl)]⟩) (Sub.mk ⟨rfl, rfl, rfl, trivial⟩ (by repeat (first | exact Sel.nil _ | refine Sel.cons (by repeat (first | exact Ph _ | apply Pt_)) ?_))) ?_
  rintro x ⟨hx, hab⟩
  refine LCode.seq ?_
  refine LCode.seq ?_
  rcases Nat.eq_zero_or_pos x with h0 | h0
  ·
    refine LCode.region ?_
    refine LOps.detP (Det.move rfl) (Nb rfl) ?_
    refine LOps.detP (Det.bin (v := .bool false) rfl rfl (by subst h0; rfl)) (Nb rfl) ?_
    refine LOps.nil ?_
    refine LCode.cond_false rfl ?_
    refine LCode.exit ?_
    refine LCode.seq ?_
    refine LCode.region ?_
    refine LOps.detP (Det.assign (v := .int .i64 ((0 : Nat) : Int)) rfl) (Nb rfl) ?_
    refine LOps.nil ?_
    refine LCode.ret ?_
    have he : A = B := by subst h0; simpa using hab
    refine ⟨[_], .cons rfl .nil, fun a w' hr => ⟨?_, hr.fr.below⟩⟩
    simp [resOf, cmpI, he]
  ·
    obtain ⟨x, rfl⟩ : ∃ y, x = y + 1 := ⟨x - 1, by omega⟩
    refine LCode.region ?_
    refine LOps.detP (Det.move rfl) (Nb rfl) ?_
    refine LOps.detP (Det.bin (v := .bool true) rfl rfl (by simp [binRes])) (Nb rfl) ?_
    refine LOps.nil ?_
    refine LCode.cond_true rfl ?_
    refine LCode.skip ?_
    refine LCode.seq ?_
    refine LCode.block ?_
    refine LCode.block ?_
    refine LCode.seq ?_
    refine LCode.regionD [] (by kernel_rfl) ?_
    refine LAny.takeP 0 rfl (by kernel_rfl) (Nb rfl) (Det.move (v := .int .i64 ((x : Nat) : Int)) (by show some _ = some _; congr 2; omega)) ?_
    refine LAny.takeP 1 rfl (by kernel_rfl) (Nb rfl) (Det.fieldA (o' := 0) Try.underlying25 rfl rfl rfl sz_23 (by decide)) ?_
    refine LAny.takeP 2 rfl (by kernel_rfl) (Nb rfl) (Det.indexA0 Try.underlying23 sz_22 rfl rfl (by omega)) ?_
    refine LAny.take 3 rfl (by kernel_rfl) (Nb rfl) (Det.load rfl (by repeat (first | exact Mh _ | apply Mt)) (LoadV.one Try.underlying22 rfl (by exact natL_get _ (show x < 9 by omega)))) ?_
    refine LAny.takeP 4 rfl (by kernel_rfl) (Nb rfl) (Det.move (v := .int .i64 ((x : Nat) : Int)) (by show some _ = some _; congr 2; omega)) ?_
    refine LAny.takeP 5 rfl (by kernel_rfl) (Nb rfl) (Det.fieldA (o' := 0) Try.underlying25 rfl rfl rfl sz_23 (by decide)) ?_
    refine LAny.takeP 6 rfl (by kernel_rfl) (Nb rfl) (Det.indexA0 Try.underlying23 sz_22 rfl rfl (by omega)) ?_
    refine LAny.take 7 rfl (by kernel_rfl) (Nb rfl) (Det.load rfl (by repeat (first | exact Mh _ | apply Mt)) (LoadV.one Try.underlying22 rfl (by exact natL_get _ (show x < 9 by omega)))) ?_
    refine LAny.takeP 8 rfl (by kernel_rfl) (Nb rfl) (Det.bin rfl rfl (br_lss)) ?_
    refine LAny.takeP 9 rfl (by kernel_rfl) (Nb rfl) (Det.assign rfl) ?_
    refine LAny.done (by kernel_rfl) ?_
    first | refine LCode.condD rfl (fun h10 => ?_) (fun h10 => ?_) | refine LCode.cond rfl (fun h10 => ?_) (fun h10 => ?_)
    ·
      refine LCode.seq ?_
      refine LCode.region ?_
      refine LOps.detP (Det.assign rfl) (Nb rfl) ?_
      refine LOps.nil ?_
      refine LCode.ret ?_
      have he : A < B := lt_of_limb hab h10
      refine ⟨[_], .cons rfl .nil, fun a w' hr => ⟨?_, hr.fr.below⟩⟩
      simp [resOf, cmpI, he]
    ·
      refine LCode.seq ?_
      refine LCode.regionD [] (by kernel_rfl) ?_
      refine LAny.takeP 0 rfl (by kernel_rfl) (Nb rfl) (Det.move (v := .int .i64 ((x : Nat) : Int)) (by show some _ = some _; congr 2; omega)) ?_
      refine LAny.takeP 1 rfl (by kernel_rfl) (Nb rfl) (Det.fieldA (o' := 0) Try.underlying25 rfl rfl rfl sz_23 (by decide)) ?_
      refine LAny.takeP 2 rfl (by kernel_rfl) (Nb rfl) (Det.indexA0 Try.underlying23 sz_22 rfl rfl (by omega)) ?_
      refine LAny.take 3 rfl (by kernel_rfl) (Nb rfl) (Det.load rfl (by repeat (first | exact Mh _ | apply Mt)) (LoadV.one Try.underlying22 rfl (by exact natL_get _ (show x < 9 by omega)))) ?_
      refine LAny.takeP 4 rfl (by kernel_rfl) (Nb rfl) (Det.move (v := .int .i64 ((x : Nat) : Int)) (by show some _ = some _; congr 2; omega)) ?_
      refine LAny.takeP 5 rfl (by kernel_rfl) (Nb rfl) (Det.fieldA (o' := 0) Try.underlying25 rfl rfl rfl sz_23 (by decide)) ?_
      refine LAny.takeP 6 rfl (by kernel_rfl) (Nb rfl) (Det.indexA0 Try.underlying23 sz_22 rfl rfl (by omega)) ?_
      refine LAny.take 7 rfl (by kernel_rfl) (Nb rfl) (Det.load rfl (by repeat (first | exact Mh _ | apply Mt)) (LoadV.one Try.underlying22 rfl (by exact natL_get _ (show x < 9 by omega)))) ?_
      refine LAny.takeP 8 rfl (by kernel_rfl) (Nb rfl) (Det.bin rfl rfl (br_gtr)) ?_
      refine LAny.takeP 9 rfl (by kernel_rfl) (Nb rfl) (Det.assign rfl) ?_
      refine LAny.done (by kernel_rfl) ?_
      first | refine LCode.condD rfl (fun h20 => ?_) (fun h20 => ?_) | refine LCode.cond rfl (fun h20 => ?_) (fun h20 => ?_)
      ·
        refine LCode.seq ?_
        refine LCode.region ?_
        refine LOps.detP (Det.assign (v := .int .i64 ((1 : Nat) : Int)) rfl) (Nb rfl) ?_
        refine LOps.nil ?_
        refine LCode.ret ?_
        have he : B < A := lt_of_limb hab.symm h20
        have he2 : ¬ A < B := by omega
        refine ⟨[_], .cons rfl .nil, fun a w' hr => ⟨?_, hr.fr.below⟩⟩
        simp [resOf, cmpI, he, he2]
      ·
        refine LCode.skip ?_
        refine LCode.region ?_
        refine LOps.detP (Det.move (v := .int .i64 ((x : Nat) : Int)) (by show some _ = some _; congr 2; omega)) (Nb rfl) ?_
        refine LOps.detP (Det.bin rfl rfl rfl) (Nb rfl) ?_
        refine LOps.detP (Det.assign rfl) (Nb rfl) ?_
        refine LOps.nil ?_
        refine ⟨x, ⟨by omega, ?_⟩, by omega, Sub.mk ⟨rfl, rfl, ?_, trivial⟩ (by repeat (first | exact Sel.nil _ | refine Sel.cons (by repeat (first | exact Ph _ | apply Pt_)) ?_))⟩
        · have h1 : limb A x = limb B x := by omega
          exact (div_eq_iff_limb A B x).2 ⟨hab, h1⟩
        · exact congrArg (fun i : Int => some (Value.int .i64 i)) (wrap_i64 (by omega) (by omega))
end Go.Proofs.Ytljblbgogjieaaa
set_option linter.unusedVariables false
set_option linter.unusedSimpArgs false
set_option maxRecDepth 20000
namespace Go.Proofs.Ytljblbgogjieaaa
open Go Go.RowKit
def lenTab : List UInt8 := [0, 1, 2, 2, 3, 3, 3, 3, 4, 4, 4, 4, 4, 4, 4, 4, 5, 5, 5, 5, 5, 5, 5, 5, 5, 5, 5, 5, 5, 5, 5, 5, 6, 6, 6, 6, 6, 6, 6, 6, 6, 6, 6, 6, 6, 6, 6, 6, 6, 6, 6, 6, 6, 6, 6, 6, 6, 6, 6, 6, 6, 6, 6, 6, 7, 7, 7, 7, 7, 7, 7, 7, 7, 7, 7, 7, 7, 7, 7, 7, 7, 7, 7, 7, 7, 7, 7, 7, 7, 7, 7, 7, 7, 7, 7, 7, 7, 7, 7, 7, 7, 7, 7, 7, 7, 7, 7, 7, 7, 7, 7, 7, 7, 7, 7, 7, 7, 7, 7, 7, 7, 7, 7, 7, 7, 7, 7, 7, 8, 8, 8, 8, 8, 8, 8, 8, 8, 8, 8, 8, 8, 8, 8, 8, 8, 8, 8, 8, 8, 8, 8, 8, 8, 8, 8, 8, 8, 8, 8, 8, 8, 8, 8, 8, 8, 8, 8, 8, 8, 8, 8, 8, 8, 8, 8, 8, 8, 8, 8, 8, 8, 8, 8, 8, 8, 8, 8, 8, 8, 8, 8, 8, 8, 8, 8, 8, 8, 8, 8, 8, 8, 8, 8, 8, 8, 8, 8, 8, 8, 8, 8, 8, 8, 8, 8, 8, 8, 8, 8, 8, 8, 8, 8, 8, 8, 8, 8, 8, 8, 8, 8, 8, 8, 8, 8, 8, 8, 8, 8, 8, 8, 8, 8, 8, 8, 8, 8, 8, 8, 8, 8, 8, 8, 8, 8, 8]
theorem len_tab : ∀ i, i < 256 → (lenTab.getD i 0).toNat = blen i := by decide +kernel
theorem len_tab_int (i : Nat) (h : i < 256) : (Value.int .u8 ((lenTab.getD ((i : Int).toNat) 0).toNat : Int)) = .int .u8 ((blen i : Nat) : Int) := by rw [Int.toNat_natCast, len_tab i h]
theorem blen_m8 (z : Nat) : blen (z % 256) ≤ 8 := blen_le (Nat.mod_lt _ (by decide))
theorem c_Len64 (x : Nat) (hx : x < 18446744073709551616) (w : World)  : Calls Try.prog 173 ([.int .u64 ((x : Nat) : Int)] : List Value).toArray w (fun e w' => e = .returned (.int .i64 ((blen x : Nat) : Int)) ∧ Below w.heap.size w w') := by
  refine calls_ro (N := 25) (rs := [.tmp 2]) [] Try.func173 rfl Try.ntmps173 Try.results173 (Nb rfl) trivial rfl ?_
  show LCode _ _ _ ⟨_, _⟩ _
  refine LCode.seq ?_
  refine LCode.region ?_
  refine LOps.detP (Det.assign (v := .int .i64 ((0 : Nat) : Int)) rfl) (Nb rfl) ?_
  refine LOps.nil ?_
  refine LCode.seq ?_
  refine LCode.seq ?_
  refine LCode.region ?_
  refine LOps.detP (Det.move rfl) (Nb rfl) ?_
  refine LOps.detP (Det.bin rfl rfl (br_geq (b := 4294967296))) (Nb rfl) ?_
  refine LOps.nil ?_
  first | refine LCode.condD rfl (fun h4 => ?_) (fun h4 => ?_) | refine LCode.cond rfl (fun h4 => ?_) (fun h4 => ?_)
  ·
    refine LCode.seq ?_
    refine LCode.region ?_
    refine LOps.detP (Det.move rfl) (Nb rfl) ?_
    refine LOps.detP (Det.bin rfl rfl (br_shr64 (b := 32) (by omega))) (Nb rfl) ?_
    refine LOps.detP (Det.assign rfl) (Nb rfl) ?_
    refine LOps.nil ?_
    refine LCode.region ?_
    refine LOps.detP (Det.assign (v := .int .i64 ((32 : Nat) : Int)) rfl) (Nb rfl) ?_
    refine LOps.nil ?_
    refine LCode.seq ?_
    refine LCode.seq ?_
    refine LCode.region ?_
    refine LOps.detP (Det.move rfl) (Nb rfl) ?_
    refine LOps.detP (Det.bin rfl rfl (br_geq (b := 65536))) (Nb rfl) ?_
    refine LOps.nil ?_
    first | refine LCode.condD rfl (fun h8 => ?_) (fun h8 => ?_) | refine LCode.cond rfl (fun h8 => ?_) (fun h8 => ?_)
    ·
      refine LCode.seq ?_
      refine LCode.region ?_
      refine LOps.detP (Det.move rfl) (Nb rfl) ?_
      refine LOps.detP (Det.bin rfl rfl (br_shr64 (b := 16) (by omega))) (Nb rfl) ?_
      refine LOps.detP (Det.assign rfl) (Nb rfl) ?_
      refine LOps.nil ?_
      refine LCode.region ?_
      refine LOps.detP (Det.move rfl) (Nb rfl) ?_
      refine LOps.detP (Det.bin rfl rfl (br_add (b := 16) (by omega))) (Nb rfl) ?_
      refine LOps.detP (Det.assign rfl) (Nb rfl) ?_
      refine LOps.nil ?_
      refine LCode.seq ?_
      refine LCode.seq ?_
      refine LCode.region ?_
      refine LOps.detP (Det.move rfl) (Nb rfl) ?_
      refine LOps.detP (Det.bin rfl rfl (br_geq (b := 256))) (Nb rfl) ?_
      refine LOps.nil ?_
      first | refine LCode.condD rfl (fun h14 => ?_) (fun h14 => ?_) | refine LCode.cond rfl (fun h14 => ?_) (fun h14 => ?_)
      ·
        refine LCode.seq ?_
        refine LCode.region ?_
        refine LOps.detP (Det.move rfl) (Nb rfl) ?_
        refine LOps.detP (Det.bin rfl rfl (br_shr64 (b := 8) (by omega))) (Nb rfl) ?_
        refine LOps.detP (Det.assign rfl) (Nb rfl) ?_
        refine LOps.nil ?_
        refine LCode.region ?_
        refine LOps.detP (Det.move rfl) (Nb rfl) ?_
        refine LOps.detP (Det.bin rfl rfl (br_add (b := 8) (by omega))) (Nb rfl) ?_
        refine LOps.detP (Det.assign rfl) (Nb rfl) ?_
        refine LOps.nil ?_
        refine LCode.seq ?_
        refine LCode.region ?_
        refine LOps.detP (Det.move rfl) (Nb rfl) ?_
        refine LOps.detP (Det.move rfl) (Nb rfl) ?_
        refine LOps.detP (Det.conv8 Try.underlying22 Try.underlying5 rfl) (Nb rfl) ?_
        refine LOps.detP (Slots.cast (Det.indexStr Try.underlying9 rfl rfl (by omega) (by show ((_ % 256 : Nat) : Int) < 256; omega)) (len_tab_int _ (Nat.mod_lt _ (by decide)))) (Nb rfl) ?_
        refine LOps.detP (Det.convi Try.underlying5 Try.underlying3 rfl (Nat.lt_of_le_of_lt (blen_m8 _) (by decide))) (Nb rfl) ?_
        refine LOps.detP (Det.bin rfl rfl (br_add (Nat.lt_of_le_of_lt (Nat.add_le_add_left (blen_m8 _) _) (by omega)))) (Nb rfl) ?_
        refine LOps.detP (Det.assign rfl) (Nb rfl) ?_
        refine LOps.nil ?_
        refine LCode.ret ?_
        have hm : ∀ z : Nat, z < 256 → blen (z % 256) = blen z := fun z hz => by rw [Nat.mod_eq_of_lt hz]
        refine ⟨[_], .cons rfl .nil, fun a w' hr => ⟨?_, hr.fr.below⟩⟩
        refine congrArg (fun n : Nat => Ending.returned (.int .i64 (n : Int))) ?_
        have e32 := blen_shr (k := 32) (show 2 ^ 32 ≤ x by omega)
        have e16 := blen_shr (k := 16) (show 2 ^ 16 ≤ (x / 2 ^ 32) by omega)
        have e8 := blen_shr (k := 8) (show 2 ^ 8 ≤ ((x / 2 ^ 32) / 2 ^ 16) by omega)
        rw [hm (((x / 2 ^ 32) / 2 ^ 16) / 2 ^ 8) (by omega)]
        omega
      ·
        refine LCode.skip ?_
        refine LCode.seq ?_
        refine LCode.region ?_
        refine LOps.detP (Det.move rfl) (Nb rfl) ?_
        refine LOps.detP (Det.move rfl) (Nb rfl) ?_
        refine LOps.detP (Det.conv8 Try.underlying22 Try.underlying5 rfl) (Nb rfl) ?_
        refine LOps.detP (Slots.cast (Det.indexStr Try.underlying9 rfl rfl (by omega) (by show ((_ % 256 : Nat) : Int) < 256; omega)) (len_tab_int _ (Nat.mod_lt _ (by decide)))) (Nb rfl) ?_
        refine LOps.detP (Det.convi Try.underlying5 Try.underlying3 rfl (Nat.lt_of_le_of_lt (blen_m8 _) (by decide))) (Nb rfl) ?_
        refine LOps.detP (Det.bin rfl rfl (br_add (Nat.lt_of_le_of_lt (Nat.add_le_add_left (blen_m8 _) _) (by omega)))) (Nb rfl) ?_
        refine LOps.detP (Det.assign rfl) (Nb rfl) ?_
        refine LOps.nil ?_
        refine LCode.ret ?_
        have hm : ∀ z : Nat, z < 256 → blen (z % 256) = blen z := fun z hz => by rw [Nat.mod_eq_of_lt hz]
        refine ⟨[_], .cons rfl .nil, fun a w' hr => ⟨?_, hr.fr.below⟩⟩
        refine congrArg (fun n : Nat => Ending.returned (.int .i64 (n : Int))) ?_
        have e32 := blen_shr (k := 32) (show 2 ^ 32 ≤ x by omega)
        have e16 := blen_shr (k := 16) (show 2 ^ 16 ≤ (x / 2 ^ 32) by omega)
        rw [hm ((x / 2 ^ 32) / 2 ^ 16) (by omega)]
        omega
    ·
      refine LCode.skip ?_
      refine LCode.seq ?_
      refine LCode.seq ?_
      refine LCode.region ?_
      refine LOps.detP (Det.move rfl) (Nb rfl) ?_
      refine LOps.detP (Det.bin rfl rfl (br_geq (b := 256))) (Nb rfl) ?_
      refine LOps.nil ?_
      first | refine LCode.condD rfl (fun h14 => ?_) (fun h14 => ?_) | refine LCode.cond rfl (fun h14 => ?_) (fun h14 => ?_)
      ·
        refine LCode.seq ?_
        refine LCode.region ?_
        refine LOps.detP (Det.move rfl) (Nb rfl) ?_
        refine LOps.detP (Det.bin rfl rfl (br_shr64 (b := 8) (by omega))) (Nb rfl) ?_
        refine LOps.detP (Det.assign rfl) (Nb rfl) ?_
        refine LOps.nil ?_
        refine LCode.region ?_
        refine LOps.detP (Det.move rfl) (Nb rfl) ?_
        refine LOps.detP (Det.bin rfl rfl (br_add (b := 8) (by omega))) (Nb rfl) ?_
        refine LOps.detP (Det.assign rfl) (Nb rfl) ?_
        refine LOps.nil ?_
        refine LCode.seq ?_
        refine LCode.region ?_
        refine LOps.detP (Det.move rfl) (Nb rfl) ?_
        refine LOps.detP (Det.move rfl) (Nb rfl) ?_
        refine LOps.detP (Det.conv8 Try.underlying22 Try.underlying5 rfl) (Nb rfl) ?_
        refine LOps.detP (Slots.cast (Det.indexStr Try.underlying9 rfl rfl (by omega) (by show ((_ % 256 : Nat) : Int) < 256; omega)) (len_tab_int _ (Nat.mod_lt _ (by decide)))) (Nb rfl) ?_
        refine LOps.detP (Det.convi Try.underlying5 Try.underlying3 rfl (Nat.lt_of_le_of_lt (blen_m8 _) (by decide))) (Nb rfl) ?_
        refine LOps.detP (Det.bin rfl rfl (br_add (Nat.lt_of_le_of_lt (Nat.add_le_add_left (blen_m8 _) _) (by omega)))) (Nb rfl) ?_
        refine LOps.detP (Det.assign rfl) (Nb rfl) ?_
        refine LOps.nil ?_
        refine LCode.ret ?_
        have hm : ∀ z : Nat, z < 256 → blen (z % 256) = blen z := fun z hz => by rw [Nat.mod_eq_of_lt hz]
        refine ⟨[_], .cons rfl .nil, fun a w' hr => ⟨?_, hr.fr.below⟩⟩
        refine congrArg (fun n : Nat => Ending.returned (.int .i64 (n : Int))) ?_
        have e32 := blen_shr (k := 32) (show 2 ^ 32 ≤ x by omega)
        have e8 := blen_shr (k := 8) (show 2 ^ 8 ≤ (x / 2 ^ 32) by omega)
        rw [hm ((x / 2 ^ 32) / 2 ^ 8) (by omega)]
        omega
      ·
        refine LCode.skip ?_
        refine LCode.seq ?_
        refine LCode.region ?_
        refine LOps.detP (Det.move rfl) (Nb rfl) ?_
        refine LOps.detP (Det.move rfl) (Nb rfl) ?_
        refine LOps.detP (Det.conv8 Try.underlying22 Try.underlying5 rfl) (Nb rfl) ?_
        refine LOps.detP (Slots.cast (Det.indexStr Try.underlying9 rfl rfl (by omega) (by show ((_ % 256 : Nat) : Int) < 256; omega)) (len_tab_int _ (Nat.mod_lt _ (by decide)))) (Nb rfl) ?_
        refine LOps.detP (Det.convi Try.underlying5 Try.underlying3 rfl (Nat.lt_of_le_of_lt (blen_m8 _) (by decide))) (Nb rfl) ?_
        refine LOps.detP (Det.bin rfl rfl (br_add (Nat.lt_of_le_of_lt (Nat.add_le_add_left (blen_m8 _) _) (by omega)))) (Nb rfl) ?_
        refine LOps.detP (Det.assign rfl) (Nb rfl) ?_
        refine LOps.nil ?_
        refine LCode.ret ?_
        have hm : ∀ z : Nat, z < 256 → blen (z % 256) = blen z := fun z hz => by rw [Nat.mod_eq_of_lt hz]
        refine ⟨[_], .cons rfl .nil, fun a w' hr => ⟨?_, hr.fr.below⟩⟩
        refine congrArg (fun n : Nat => Ending.returned (.int .i64 (n : Int))) ?_
        have e32 := blen_shr (k := 32) (show 2 ^ 32 ≤ x by omega)
        rw [hm (x / 2 ^ 32) (by omega)]
        omega
  ·
    refine LCode.skip ?_
    refine LCode.seq ?_
    refine LCode.seq ?_
    refine LCode.region ?_
    refine LOps.detP (Det.move rfl) (Nb rfl) ?_
    refine LOps.detP (Det.bin rfl rfl (br_geq (b := 65536))) (Nb rfl) ?_
    refine LOps.nil ?_
    first | refine LCode.condD rfl (fun h8 => ?_) (fun h8 => ?_) | refine LCode.cond rfl (fun h8 => ?_) (fun h8 => ?_)
    ·
      refine LCode.seq ?_
      refine LCode.region ?_
      refine LOps.detP (Det.move rfl) (Nb rfl) ?_
      refine LOps.detP (Det.bin rfl rfl (br_shr64 (b := 16) (by omega))) (Nb rfl) ?_
      refine LOps.detP (Det.assign rfl) (Nb rfl) ?_
      refine LOps.nil ?_
      refine LCode.region ?_
      refine LOps.detP (Det.move rfl) (Nb rfl) ?_
      refine LOps.detP (Det.bin rfl rfl (br_add (b := 16) (by omega))) (Nb rfl) ?_
      refine LOps.detP (Det.assign rfl) (Nb rfl) ?_
      refine LOps.nil ?_
      refine LCode.seq ?_
      refine LCode.seq ?_
      refine LCode.region ?_
      refine LOps.detP (Det.move rfl) (Nb rfl) ?_
      refine LOps.detP (Det.bin rfl rfl (br_geq (b := 256))) (Nb rfl) ?_
      refine LOps.nil ?_
      first | refine LCode.condD rfl (fun h14 => ?_) (fun h14 => ?_) | refine LCode.cond rfl (fun h14 => ?_) (fun h14 => ?_)
      ·
        refine LCode.seq ?_
        refine LCode.region ?_
        refine LOps.detP (Det.move rfl) (Nb rfl) ?_
        refine LOps.detP (Det.bin rfl rfl (br_shr64 (b := 8) (by omega))) (Nb rfl) ?_
        refine LOps.detP (Det.assign rfl) (Nb rfl) ?_
        refine LOps.nil ?_
        refine LCode.region ?_
        refine LOps.detP (Det.move rfl) (Nb rfl) ?_
        refine LOps.detP (Det.bin rfl rfl (br_add (b := 8) (by omega))) (Nb rfl) ?_
        refine LOps.detP (Det.assign rfl) (Nb rfl) ?_
        refine LOps.nil ?_
        refine LCode.seq ?_
        refine LCode.region ?_
        refine LOps.detP (Det.move rfl) (Nb rfl) ?_
        refine LOps.detP (Det.move rfl) (Nb rfl) ?_
        refine LOps.detP (Det.conv8 Try.underlying22 Try.underlying5 rfl) (Nb rfl) ?_
        refine LOps.detP (Slots.cast (Det.indexStr Try.underlying9 rfl rfl (by omega) (by show ((_ % 256 : Nat) : Int) < 256; omega)) (len_tab_int _ (Nat.mod_lt _ (by decide)))) (Nb rfl) ?_
        refine LOps.detP (Det.convi Try.underlying5 Try.underlying3 rfl (Nat.lt_of_le_of_lt (blen_m8 _) (by decide))) (Nb rfl) ?_
        refine LOps.detP (Det.bin rfl rfl (br_add (Nat.lt_of_le_of_lt (Nat.add_le_add_left (blen_m8 _) _) (by omega)))) (Nb rfl) ?_
        refine LOps.detP (Det.assign rfl) (Nb rfl) ?_
        refine LOps.nil ?_
        refine LCode.ret ?_
        have hm : ∀ z : Nat, z < 256 → blen (z % 256) = blen z := fun z hz => by rw [Nat.mod_eq_of_lt hz]
        refine ⟨[_], .cons rfl .nil, fun a w' hr => ⟨?_, hr.fr.below⟩⟩
        refine congrArg (fun n : Nat => Ending.returned (.int .i64 (n : Int))) ?_
        have e16 := blen_shr (k := 16) (show 2 ^ 16 ≤ x by omega)
        have e8 := blen_shr (k := 8) (show 2 ^ 8 ≤ (x / 2 ^ 16) by omega)
        rw [hm ((x / 2 ^ 16) / 2 ^ 8) (by omega)]
        omega
      ·
        refine LCode.skip ?_
        refine LCode.seq ?_
        refine LCode.region ?_
        refine LOps.detP (Det.move rfl) (Nb rfl) ?_
        refine LOps.detP (Det.move rfl) (Nb rfl) ?_
        refine LOps.detP (Det.conv8 Try.underlying22 Try.underlying5 rfl) (Nb rfl) ?_
        refine LOps.detP (Slots.cast (Det.indexStr Try.underlying9 rfl rfl (by omega) (by show ((_ % 256 : Nat) : Int) < 256; omega)) (len_tab_int _ (Nat.mod_lt _ (by decide)))) (Nb rfl) ?_
        refine LOps.detP (Det.convi Try.underlying5 Try.underlying3 rfl (Nat.lt_of_le_of_lt (blen_m8 _) (by decide))) (Nb rfl) ?_
        refine LOps.detP (Det.bin rfl rfl (br_add (Nat.lt_of_le_of_lt (Nat.add_le_add_left (blen_m8 _) _) (by omega)))) (Nb rfl) ?_
        refine LOps.detP (Det.assign rfl) (Nb rfl) ?_
        refine LOps.nil ?_
        refine LCode.ret ?_
        have hm : ∀ z : Nat, z < 256 → blen (z % 256) = blen z := fun z hz => by rw [Nat.mod_eq_of_lt hz]
        refine ⟨[_], .cons rfl .nil, fun a w' hr => ⟨?_, hr.fr.below⟩⟩
        refine congrArg (fun n : Nat => Ending.returned (.int .i64 (n : Int))) ?_
        have e16 := blen_shr (k := 16) (show 2 ^ 16 ≤ x by omega)
        rw [hm (x / 2 ^ 16) (by omega)]
        omega
    ·
      refine LCode.skip ?_
      refine LCode.seq ?_
      refine LCode.seq ?_
      refine LCode.region ?_
      refine LOps.detP (Det.move rfl) (Nb rfl) ?_
      refine LOps.detP (Det.bin rfl rfl (br_geq (b := 256))) (Nb rfl) ?_
      refine LOps.nil ?_
      first | refine LCode.condD rfl (fun h14 => ?_) (fun h14 => ?_) | refine LCode.cond rfl (fun h14 => ?_) (fun h14 => ?_)
      ·
        refine LCode.seq ?_
        refine LCode.region ?_
        refine LOps.detP (Det.move rfl) (Nb rfl) ?_
        refine LOps.detP (Det.bin rfl rfl (br_shr64 (b := 8) (by omega))) (Nb rfl) ?_
        refine LOps.detP (Det.assign rfl) (Nb rfl) ?_
        refine LOps.nil ?_
        refine LCode.region ?_
        refine LOps.detP (Det.move rfl) (Nb rfl) ?_
        refine LOps.detP (Det.bin rfl rfl (br_add (b := 8) (by omega))) (Nb rfl) ?_
        refine LOps.detP (Det.assign rfl) (Nb rfl) ?_
        refine LOps.nil ?_
        refine LCode.seq ?_
        refine LCode.region ?_
        refine LOps.detP (Det.move rfl) (Nb rfl) ?_
        refine LOps.detP (Det.move rfl) (Nb rfl) ?_
        refine LOps.detP (Det.conv8 Try.underlying22 Try.underlying5 rfl) (Nb rfl) ?_
        refine LOps.detP (Slots.cast (Det.indexStr Try.underlying9 rfl rfl (by omega) (by show ((_ % 256 : Nat) : Int) < 256; omega)) (len_tab_int _ (Nat.mod_lt _ (by decide)))) (Nb rfl) ?_
        refine LOps.detP (Det.convi Try.underlying5 Try.underlying3 rfl (Nat.lt_of_le_of_lt (blen_m8 _) (by decide))) (Nb rfl) ?_
        refine LOps.detP (Det.bin rfl rfl (br_add (Nat.lt_of_le_of_lt (Nat.add_le_add_left (blen_m8 _) _) (by omega)))) (Nb rfl) ?_
        refine LOps.detP (Det.assign rfl) (Nb rfl) ?_
        refine LOps.nil ?_
        refine LCode.ret ?_
        have hm : ∀ z : Nat, z < 256 → blen (z % 256) = blen z := fun z hz => by rw [Nat.mod_eq_of_lt hz]
        refine ⟨[_], .cons rfl .nil, fun a w' hr => ⟨?_, hr.fr.below⟩⟩
        refine congrArg (fun n : Nat => Ending.returned (.int .i64 (n : Int))) ?_
        have e8 := blen_shr (k := 8) (show 2 ^ 8 ≤ x by omega)
        rw [hm (x / 2 ^ 8) (by omega)]
        omega
      ·
        refine LCode.skip ?_
        refine LCode.seq ?_
        refine LCode.region ?_
        refine LOps.detP (Det.move rfl) (Nb rfl) ?_
        refine LOps.detP (Det.move rfl) (Nb rfl) ?_
        refine LOps.detP (Det.conv8 Try.underlying22 Try.underlying5 rfl) (Nb rfl) ?_
        refine LOps.detP (Slots.cast (Det.indexStr Try.underlying9 rfl rfl (by omega) (by show ((_ % 256 : Nat) : Int) < 256; omega)) (len_tab_int _ (Nat.mod_lt _ (by decide)))) (Nb rfl) ?_
        refine LOps.detP (Det.convi Try.underlying5 Try.underlying3 rfl (Nat.lt_of_le_of_lt (blen_m8 _) (by decide))) (Nb rfl) ?_
        refine LOps.detP (Det.bin rfl rfl (br_add (Nat.lt_of_le_of_lt (Nat.add_le_add_left (blen_m8 _) _) (by omega)))) (Nb rfl) ?_
        refine LOps.detP (Det.assign rfl) (Nb rfl) ?_
        refine LOps.nil ?_
        refine LCode.ret ?_
        have hm : ∀ z : Nat, z < 256 → blen (z % 256) = blen z := fun z hz => by rw [Nat.mod_eq_of_lt hz]
        refine ⟨[_], .cons rfl .nil, fun a w' hr => ⟨?_, hr.fr.below⟩⟩
        refine congrArg (fun n : Nat => Ending.returned (.int .i64 (n : Int))) ?_
        rw [hm x (by omega)]
        omega
theorem c_LeadingZeros64 (x : Nat) (hx : x < 18446744073709551616) (w : World)  : Calls Try.prog 192 ([.int .u64 ((x : Nat) : Int)] : List Value).toArray w (fun e w' => e = .returned (.int .i64 ((64 - blen x : Nat) : Int)) ∧ Below w.heap.size w w') := by
  refine calls_ro (N := 6) (rs := [.tmp 2]) [] Try.func192 rfl Try.ntmps192 Try.results192 (Nb rfl) trivial rfl ?_
  show LCode _ _ _ ⟨_, _⟩ _
  refine LCode.seq ?_
  refine LCode.region ?_
  refine LOps.detP (Det.assign (v := .int .i64 ((0 : Nat) : Int)) rfl) (Nb rfl) ?_
  refine LOps.nil ?_
  refine LCode.seq ?_
  refine LCode.region ?_
  refine LOps.detP (Det.move rfl) (Nb rfl) ?_
  refine LOps.step rfl (LStep.w (LStep.callF (first := []) rfl en_173 rfl (Nb rfl) (fun w hw => c_Len64 _ (by omega) w) ?_))
  refine LOps.detP (Det.bin rfl rfl (br_sub (a := 64) (blen_le hx) (by omega))) (Nb rfl) ?_
  refine LOps.detP (Det.assign rfl) (Nb rfl) ?_
  refine LOps.nil ?_
  refine LCode.ret ?_
  refine ⟨[_], .cons rfl .nil, fun a w' hr => ⟨?_, hr.fr.below⟩⟩
  rfl
end Go.Proofs.Ytljblbgogjieaaa
set_option linter.unusedVariables false
set_option linter.unusedSimpArgs false
set_option maxRecDepth 20000
namespace Go.Proofs.Ytljblbgogjieaaa
open Go Go.RowKit
theorem nw_ne {A : Nat} (h : nw A ≠ 0) : 2 ^ (64 * (nw A - 1)) ≤ A := by
  have h0 : A ≠ 0 := by intro e; subst e; exact h rfl
  refine Nat.le_trans (Nat.pow_le_pow_right (by decide) ?_) (blen_pos h0)
  unfold nw at *; omega
theorem bits_words {A : Nat} (h : nw A ≠ 0) : (nw A - 1) * 64 + blen (limb A (nw A - 1)) = blen A := by
  have h1 := nw_ne h
  rw [limb_top (A := A) (n := nw A - 1) (by rw [show nw A - 1 + 1 = nw A by omega]; exact lt_nw A)]
  have := blen_shr h1
  omega
theorem mod_nw (A : Nat) : A % 2 ^ (64 * nw A) = A := Nat.mod_eq_of_lt (lt_nw A)
theorem mod_zero_word (A B : Nat) : A % 2 ^ (64 * 0) * B = 0 := by rw [Nat.mul_zero, Nat.pow_zero, Nat.mod_one, Nat.zero_mul]
theorem c_nat_Bits (A : Nat) (hA : A < W9) (w : World)  : Calls Try.prog 151 ([natV A] : List Value).toArray w (fun e w' => e = .returned (.int .i64 ((blen A : Nat) : Int)) ∧ Below w.heap.size w w') := by
  refine calls_ro (N := 17) (rs := [.tmp 2]) [] Try.func151 rfl Try.ntmps151 Try.results151 (Nb rfl) trivial rfl ?_
  show LCode _ _ _ ⟨_, _⟩ _
  refine LCode.seq ?_
  refine LCode.region ?_
  refine LOps.step rfl (LStep.w (LStep.makes (Makes.boxA rfl) (Nb rfl) (fun b1 => ?_)))
  refine LOps.detP (Det.assign (v := .int .i64 ((0 : Nat) : Int)) rfl) (Nb rfl) ?_
  refine LOps.nil ?_
  refine LCode.seq ?_
  refine LCode.region ?_
  refine LOps.step rfl (LStep.w (LStep.callF (first := []) rfl en_172 rfl (Nb rfl) (fun w hw => c_nat_used _ _ _ w (hw _ (by repeat (first | exact Mh _ | apply Mt))) (by omega)) ?_))
  refine LOps.detP (Det.assign rfl) (Nb rfl) ?_
  refine LOps.nil ?_
  refine LCode.seq ?_
  refine LCode.seq ?_
  refine LCode.region ?_
  refine LOps.detP (Det.move rfl) (Nb rfl) ?_
  refine LOps.detP (Det.bin rfl rfl (br_eql (b := 0))) (Nb rfl) ?_
  refine LOps.nil ?_
  first | refine LCode.condD rfl (fun h6 => ?_) (fun h6 => ?_) | refine LCode.cond rfl (fun h6 => ?_) (fun h6 => ?_)
  ·
    refine LCode.seq ?_
    refine LCode.region ?_
    refine LOps.detP (Det.assign (v := .int .i64 ((0 : Nat) : Int)) rfl) (Nb rfl) ?_
    refine LOps.nil ?_
    refine LCode.ret ?_
    have hz : blen A = 0 := by
      unfold nw at h6
      omega
    refine ⟨[_], .cons rfl .nil, fun a w' hr => ⟨?_, hr.fr.below⟩⟩
    rw [hz]
    rfl
  ·
    have hA9 := nw_w9 hA
    have hbl : blen (limb A (nw A - 1)) ≤ 64 := blen_le (limb_lt _ _)
    have hll := limb_lt A (nw A - 1)
    refine LCode.skip ?_
    refine LCode.seq ?_
    refine LCode.region ?_
    refine LOps.detP (Det.move rfl) (Nb rfl) ?_
    refine LOps.detP (Det.bin rfl rfl (br_sub (b := 1) (by omega) (by omega))) (Nb rfl) ?_
    refine LOps.detP (Det.bin rfl rfl (br_mul (b := 64) (by omega))) (Nb rfl) ?_
    refine LOps.detP (Det.move rfl) (Nb rfl) ?_
    refine LOps.detP (Det.bin rfl rfl (br_sub (b := 1) (by omega) (by omega))) (Nb rfl) ?_
    refine LOps.detP (Det.fieldA (o' := 0) Try.underlying25 rfl rfl rfl sz_23 (by decide)) (Nb rfl) ?_
    refine LOps.detP (Det.indexA0 Try.underlying23 sz_22 rfl rfl (by omega)) (Nb rfl) ?_
    refine LOps.det (Det.load rfl (by repeat (first | exact Mh _ | apply Mt)) (LoadV.one Try.underlying22 rfl (by exact natL_get _ (show nw A - 1 < 9 by omega)))) (Nb rfl) ?_
    refine LOps.step rfl (LStep.w (LStep.callF (first := []) rfl en_173 rfl (Nb rfl) (fun w hw => c_Len64 _ (by omega) w) ?_))
    refine LOps.detP (Det.bin rfl rfl (br_add (by omega))) (Nb rfl) ?_
    refine LOps.detP (Det.assign rfl) (Nb rfl) ?_
    refine LOps.nil ?_
    refine LCode.ret ?_
    refine ⟨[_], .cons rfl .nil, fun a w' hr => ⟨?_, hr.fr.below⟩⟩
    rw [← bits_words h6]
    rfl
theorem c_nat_Small (x : Nat) (hx : x < 9223372036854775808) (w : World)  : Calls Try.prog 150 ([.int .i64 ((x : Nat) : Int)] : List Value).toArray w (fun e w' => e = .returned (natV x) ∧ Below w.heap.size w w') := by
  refine calls_ro (N := 8) (rs := [.cell 2 25]) [] Try.func150 rfl Try.ntmps150 Try.results150 (Nb rfl) trivial rfl ?_
  show LCode _ _ _ ⟨_, _⟩ _
  refine LCode.seq ?_
  refine LCode.region ?_
  refine LOps.step rfl (LStep.w (LStep.makes (Makes.allocA zr_25) (Nb rfl) (fun b2 => ?_)))
  refine LOps.nil ?_
  refine LCode.seq ?_
  refine LCode.region ?_
  refine LOps.detP (Det.move rfl) (Nb rfl) ?_
  refine LOps.detP (Det.max0 rfl rfl) (Nb rfl) ?_
  refine LOps.detP (Det.conv64 Try.underlying3 Try.underlying22 rfl (by first | omega | exact Nat.lt_trans (D.limb_lt _ _) (by decide))) (Nb rfl) ?_
  refine LOps.detP (Det.build pl_23 zr_23 rfl (by exact fill_small (by omega))) (Nb rfl) ?_
  refine LOps.detP (Det.build pl_25 zr_25 rfl (by exact fillL_whole (vec_length _ _ _) (natL_length _))) (Nb rfl) ?_
  refine LOps.step rfl (LStepW.storeA rfl rfl sz_25 (by repeat (first | exact natL_one _ | exact vec_one _ _ _ | exact wideL_one _ | exact ptL_one _ _ _ | exact pjL_one _ _ _ | exact allOne_nil | refine allOne_cons rfl ?_ | refine allOne_append ?_ ?_)) (by repeat (first | exact Sh _ | apply St_)) (by first | exact natL_length _ | exact vec_length _ _ _ | exact wideL_length _ | exact ptL_length _ _ _ | exact pjL_length _ _ _ | rfl | simp [vec_length, natL_length, wideL_length]) ?_)
  refine LOps.nil ?_
  refine LCode.ret ?_
  refine ⟨[_], .cons ⟨_, _, _, rfl, (by repeat (first | exact Mh _ | apply Mt)), by exact LoadV.whole Try.underlying25 rfl sz_25⟩ .nil, fun a w' hr => ⟨?_, hr.fr.below⟩⟩
  rfl
end Go.Proofs.Ytljblbgogjieaaa
set_option linter.unusedVariables false
set_option linter.unusedSimpArgs false
set_option maxRecDepth 20000
namespace Go.Proofs.Ytljblbgogjieaaa
open Go Go.RowKit
theorem drop_step {l : List UInt8} {x : Nat} (h : x < l.length) : l.drop (l.length - (x + 1)) = l.getD (l.length - 1 - x) 0 :: l.drop (l.length - x) := by
  rw [show l.length - x = l.length - (x + 1) + 1 by omega, List.drop_eq_getElem_cons (by omega)]
  congr 1
  rw [List.getD_eq_getElem?_getD, List.getElem?_eq_getElem (by omega)]
  simp only [Option.getD_some]
  congr 1
  omega
theorem beVal_step {l : List UInt8} {x : Nat} (h : x < l.length) : beVal (l.drop (l.length - (x + 1))) = (l.getD (l.length - 1 - x) 0).toNat * 256 ^ x + beVal (l.drop (l.length - x)) := by
  rw [drop_step h, beVal, List.length_drop, show l.length - (l.length - x) = x by omega]
theorem beVal_drop (l : List UInt8) (x : Nat) (h : x ≤ l.length) : beVal (l.drop (l.length - x)) < 256 ^ x := by
  have := beVal_lt (l.drop (l.length - x))
  rwa [List.length_drop, show l.length - (l.length - x) = x by omega] at this
theorem size_list (s : ByteArray) : s.data.toList.length = s.size := rfl
theorem pow256_w9 {n : Nat} (h : n ≤ 72) : 256 ^ n ≤ W9 := by
  obtain ⟨j, hj⟩ : ∃ j : Nat, j = 9 := ⟨9, rfl⟩
  rw [← w9 hj, pow256]
  exact Nat.pow_le_pow_right (by decide) (by omega)
theorem beVal_w9 {l : List UInt8} (h : l.length ≤ 72) : beVal l < W9 := Nat.lt_of_lt_of_le (beVal_lt l) (pow256_w9 h)
theorem c_nat_Of (s : ByteArray) (hs : s.size < 9223372036854775808) (w : World)  : Calls Try.prog 116 ([.string s] : List Value).toArray w (fun e w' => e = .returned (if 72 < s.size then .tuple #[natV 0, .int .i64 ((100 : Nat) : Int)] else .tuple #[natV (beVal s.data.toList), .int .i64 ((0 : Nat) : Int)]) ∧ Below w.heap.size w w') := by
  refine calls_ro (N := 39) (rs := [.cell 2 25, .tmp 3]) [] Try.func116 rfl Try.ntmps116 Try.results116 (Nb rfl) trivial rfl ?_
  show LCode _ _ _ ⟨_, _⟩ _
  refine LCode.seq ?_
  refine LCode.region ?_
  refine LOps.step rfl (LStep.w (LStep.makes (Makes.allocA zr_25) (Nb rfl) (fun b2 => ?_)))
  refine LOps.detP (Det.assign (v := .int .i64 ((0 : Nat) : Int)) rfl) (Nb rfl) ?_
  refine LOps.nil ?_
  refine LCode.seq ?_
  refine LCode.seq ?_
  have hsz : s.size < 9223372036854775808 := by omega
  refine LCode.region ?_
  refine LOps.detP (Det.move rfl) (Nb rfl) ?_
  refine LOps.detP (Det.lens Try.underlying9 rfl) (Nb rfl) ?_
  refine LOps.detP (Det.bin rfl rfl (br_gtr (b := 72))) (Nb rfl) ?_
  refine LOps.nil ?_
  first | refine LCode.condD rfl (fun h9 => ?_) (fun h9 => ?_) | refine LCode.cond rfl (fun h9 => ?_) (fun h9 => ?_)
  ·
    have h9 : 72 < s.size := h9
    refine LCode.seq ?_
    refine LCode.region ?_
    refine LOps.detP (Det.build pl_25 zr_25 rfl rfl) (Nb rfl) ?_
    refine LOps.step rfl (LStepW.storeA rfl rfl sz_25 (by repeat (first | exact natL_one _ | exact vec_one _ _ _ | exact wideL_one _ | exact ptL_one _ _ _ | exact pjL_one _ _ _ | exact allOne_nil | refine allOne_cons rfl ?_ | refine allOne_append ?_ ?_)) (by repeat (first | exact Sh _ | apply St_)) (by first | exact natL_length _ | exact vec_length _ _ _ | exact wideL_length _ | exact ptL_length _ _ _ | exact pjL_length _ _ _ | rfl | simp [vec_length, natL_length, wideL_length]) ?_)
    refine LOps.detP (Det.assign (v := .int .i64 ((100 : Nat) : Int)) rfl) (Nb rfl) ?_
    refine LOps.nil ?_
    refine LCode.ret ?_
    refine ⟨[_, _], .cons ⟨_, _, _, rfl, (by repeat (first | exact Mh _ | apply Mt)), by exact LoadV.whole Try.underlying25 rfl sz_25⟩ (.cons rfl .nil), fun a w' hr => ⟨?_, hr.fr.below⟩⟩
    rw [if_pos h9]
    refine congrArg (fun l : List Value => Ending.returned (.tuple #[.agg l.toArray, _])) ?_
    exact vec_zeros 9
  ·
    have h9 : ¬ 72 < s.size := h9
    refine LCode.skip ?_
    refine LCode.seq ?_
    refine LCode.region ?_
    refine LOps.step rfl (LStep.w (LStep.makes (Makes.allocA zr_25) (Nb rfl) (fun b4 => ?_)))
    refine LOps.nil ?_
    refine LCode.seq ?_
    refine LCode.seq ?_
    refine LCode.region ?_
    refine LOps.detP (Det.move rfl) (Nb rfl) ?_
    refine LOps.detP (Det.lens Try.underlying9 rfl) (Nb rfl) ?_
    refine LOps.detP (Det.move (v := .int .i64 ((0 : Nat) : Int)) rfl) (Nb rfl) ?_
    refine LOps.nil ?_
    refine LCode.block ?_
    refine LCode.loop (α := Nat) (fun x => x ≤ s.size) (fun x => ⟨[(0, .string s), (2, .pointer (some ⟨b2, 0, none⟩)), (4, .pointer (some ⟨b4, 0, none⟩)), (12, .int .i64 ((s.size : Nat) : Int)), (13, .int .i64 ((x : Nat) : Int))], [.blk b4 ⟨true, natL (beVal (s.data.toList.drop (s.size - x))), 25, (0, 0)⟩, .blk b2 ⟨true, vec .u64 9 (fun _ => 0), 25, (0, 0)⟩]⟩) (fun x => s.size - x) (0) (Nat.zero_le _) (Sub.re (Sub.cells (b := b4) (cs' := natL (beVal (s.data.toList.drop (s.size - 0)))) (by repeat (first | exact Sh _ | apply St_)) (by rw [Nat.sub_zero, ← size_list, List.drop_length]; exact vec_zeros 9)) (Sub.mk ⟨rfl, rfl, rfl, rfl, rfl, trivial⟩ (by repeat (first | exact Sel.nil _ | refine Sel.cons (by repeat (first | exact Ph _ | apply Pt_)) ?_)))) ?_
    intro x hx
    refine LCode.seq ?_
    refine LCode.region ?_
    refine LOps.detP (Det.bin rfl rfl (br_lss)) (Nb rfl) ?_
    refine LOps.nil ?_
    refine LCode.seq ?_
    first | refine LCode.condD rfl (fun h14 => ?_) (fun h14 => ?_) | refine LCode.cond rfl (fun h14 => ?_) (fun h14 => ?_)
    ·
      have h14 : x < s.size := h14
      refine LCode.skip ?_
      refine LCode.seq ?_
      refine LCode.block ?_
      refine LCode.seq ?_
      refine LCode.region ?_
      refine LOps.detP (Det.move rfl) (Nb rfl) ?_
      refine LOps.detP (Det.assign rfl) (Nb rfl) ?_
      refine LOps.nil ?_
      refine LCode.seq ?_
      refine LCode.region ?_
      refine LOps.detP (Det.move rfl) (Nb rfl) ?_
      refine LOps.detP (Det.lens Try.underlying9 rfl) (Nb rfl) ?_
      refine LOps.detP (Det.bin rfl rfl (br_sub (b := 1) (by omega) (by omega))) (Nb rfl) ?_
      refine LOps.detP (Det.move rfl) (Nb rfl) ?_
      refine LOps.detP (Det.bin rfl rfl (br_sub (by omega) (by omega))) (Nb rfl) ?_
      refine LOps.detP (Det.assign rfl) (Nb rfl) ?_
      refine LOps.nil ?_
      refine LCode.regionD [16] (by kernel_rfl) ?_
      refine LAny.takeP 0 rfl (by kernel_rfl) (Nb rfl) (Det.move rfl) ?_
      refine LAny.takeP 1 rfl (by kernel_rfl) (Nb rfl) (Det.bin rfl rfl (br_quo (b := 8) (by omega) (by omega))) ?_
      refine LAny.takeP 2 rfl (by kernel_rfl) (Nb rfl) (Det.fieldA (o' := 0) Try.underlying25 rfl rfl rfl sz_23 (by decide)) ?_
      refine LAny.takeP 3 rfl (by kernel_rfl) (Nb rfl) (Det.indexA0 Try.underlying23 sz_22 rfl rfl (by omega)) ?_
      refine LAny.take 4 rfl (by kernel_rfl) (Nb rfl) (Det.load rfl (by repeat (first | exact Mh _ | apply Mt)) (LoadV.one Try.underlying22 rfl (by exact natL_get _ (show x / 8 < 9 by omega)))) ?_
      refine LAny.takeP 5 rfl (by kernel_rfl) (Nb rfl) (Det.move rfl) ?_
      refine LAny.takeP 6 rfl (by kernel_rfl) (Nb rfl) (Det.move rfl) ?_
      refine LAny.takeP 7 rfl (by kernel_rfl) (Nb rfl) (Slots.cast (Det.indexStr Try.underlying9 rfl rfl (by omega) (by omega)) (vi (b := (s.data.toList.getD (s.size - 1 - x) 0).toNat) (by rw [Int.toNat_natCast]))) ?_
      refine LAny.takeP 8 rfl (by kernel_rfl) (Nb rfl) (Det.conv64 Try.underlying5 Try.underlying22 rfl (Nat.lt_trans (UInt8.toNat_lt _) (by decide))) ?_
      refine LAny.takeP 9 rfl (by kernel_rfl) (Nb rfl) (Det.move rfl) ?_
      refine LAny.takeP 10 rfl (by kernel_rfl) (Nb rfl) (Det.bin rfl rfl (br_rem (b := 8) (by omega))) ?_
      refine LAny.takeP 11 rfl (by kernel_rfl) (Nb rfl) (Det.bin rfl rfl (br_mul (a := 8) (by omega))) ?_
      refine LAny.takeP 12 rfl (by kernel_rfl) (Nb rfl) (Det.bin rfl rfl (br_shl64)) ?_
      refine LAny.takeP 13 rfl (by kernel_rfl) (Nb rfl) (Det.bin rfl rfl (br_or64 (limb_lt _ _) (Nat.mod_lt _ (by decide)))) ?_
      refine LAny.takeP 14 rfl (by kernel_rfl) (Nb rfl) (Det.fieldA (o' := 0) Try.underlying25 rfl rfl rfl sz_23 (by decide)) ?_
      refine LAny.takeP 15 rfl (by kernel_rfl) (Nb rfl) (Det.indexA0 Try.underlying23 sz_22 rfl rfl (by omega)) ?_
      refine LAny.late 16 rfl rfl (by kernel_rfl) (by kernel_rfl) (LStepW.store1 rfl rfl rfl sz_22 (by repeat (first | exact Sh _ | apply St_)) (by first | (simp only [vec_length, natL_length, wideL_length, dv_length]; omega) | (simp; omega)) (by first | exact vec_set _ _ _ _ _ | exact dv_setm _ _ _ _ (by omega) | exact dv_sets _ _ _ _ | rfl) (by simp) ?_)
      refine LAny.done (by kernel_rfl) ?_
      refine LCode.region ?_
      refine LOps.detP (Det.bin rfl rfl (br_add (b := 1) (by omega))) (Nb rfl) ?_
      refine LOps.detP (Det.move rfl) (Nb rfl) ?_
      refine LOps.nil ?_
      have hb := limb_byte (i := x) (beVal_drop s.data.toList x hx) (UInt8.toNat_lt (s.data.toList.getD (s.data.toList.length - 1 - x) 0))
      refine ⟨x + 1, by omega, by omega, Sub.re (Sub.cells (b := b4) (cs' := natL (beVal (s.data.toList.drop (s.size - (x + 1))))) (by repeat (first | exact Sh _ | apply St_)) ?_) (Sub.mk ⟨rfl, rfl, rfl, rfl, rfl, trivial⟩ (by repeat (first | exact Sel.nil _ | refine Sel.cons (by repeat (first | exact Ph _ | apply Pt_)) ?_)))⟩
      have hs := beVal_step (l := s.data.toList) (x := x) h14
      rw [size_list] at hs hb
      rw [hs]
      exact vec_congr fun j _ => (hb.2 j).symm
    ·
      have h14 : ¬ x < s.size := h14
      refine LCode.exit ?_
      refine LCode.seq ?_
      refine LCode.region ?_
      refine LOps.det (Det.load rfl (by repeat (first | exact Mh _ | apply Mt)) (by exact LoadV.whole Try.underlying25 rfl sz_25)) (Nb rfl) ?_
      refine LOps.step rfl (LStepW.storeA rfl rfl sz_25 (by repeat (first | exact natL_one _ | exact vec_one _ _ _ | exact wideL_one _ | exact ptL_one _ _ _ | exact pjL_one _ _ _ | exact allOne_nil | refine allOne_cons rfl ?_ | refine allOne_append ?_ ?_)) (by repeat (first | exact Sh _ | apply St_)) (by first | exact natL_length _ | exact vec_length _ _ _ | exact wideL_length _ | exact ptL_length _ _ _ | exact pjL_length _ _ _ | rfl | simp [vec_length, natL_length, wideL_length]) ?_)
      refine LOps.detP (Det.assign (v := .int .i64 ((0 : Nat) : Int)) rfl) (Nb rfl) ?_
      refine LOps.nil ?_
      refine LCode.ret ?_
      have hx9 : x = s.size := by omega
      subst hx9
      refine ⟨[_, _], .cons ⟨_, _, _, rfl, (by repeat (first | exact Mh _ | apply Mt)), by exact LoadV.whole Try.underlying25 rfl sz_25⟩ (.cons rfl .nil), fun a w' hr => ⟨?_, hr.fr.below⟩⟩
      rw [if_neg h9, Nat.sub_self, List.drop_zero]
      rfl
theorem c_nat_Bytes (A n : Nat) (hA : A < W9) (hn : n ≤ 72) (w : World)  : Calls Try.prog 114 ([natV A, .int .i64 ((n : Nat) : Int)] : List Value).toArray w (fun e w' => e = .returned (if 8 * n < blen A then .tuple #[.string ⟨#[]⟩, .int .i64 ((101 : Nat) : Int)] else .tuple #[.string (strOf (beBytes n A)), .int .i64 ((0 : Nat) : Int)]) ∧ Below w.heap.size w w') := by
  refine calls_ro (N := 47) (rs := [.tmp 4, .tmp 5]) [] Try.func114 rfl Try.ntmps114 Try.results114 (Nb rfl) trivial rfl ?_
  show LCode _ _ _ ⟨_, _⟩ _
  refine LCode.seq ?_
  refine LCode.region ?_
  refine LOps.step rfl (LStep.w (LStep.makes (Makes.boxA rfl) (Nb rfl) (fun b2 => ?_)))
  refine LOps.detP (Det.assign rfl) (Nb rfl) ?_
  refine LOps.detP (Det.assign (v := .int .i64 ((0 : Nat) : Int)) rfl) (Nb rfl) ?_
  refine LOps.nil ?_
  refine LCode.seq ?_
  refine LCode.seq ?_
  refine LCode.region ?_
  refine LOps.detP (Det.move rfl) (Nb rfl) ?_
  refine LOps.detP (Det.bin rfl rfl (br_f (br_lss (b := 0)) (Nat.not_lt_zero _))) (Nb rfl) ?_
  refine LOps.detP (Det.move rfl) (Nb rfl) ?_
  refine LOps.detGP rfl rfl (Det.move rfl) (Nb rfl) ?_
  refine LOps.detGP rfl rfl (Det.bin rfl rfl (br_f (br_gtr (b := 72)) (by omega))) (Nb rfl) ?_
  refine LOps.detP (Det.pick_false rfl rfl) (Nb rfl) ?_
  refine LOps.detP (Det.move rfl) (Nb rfl) ?_
  refine LOps.detG rfl rfl (Det.load rfl (by repeat (first | exact Mh _ | apply Mt)) (by exact LoadV.whole Try.underlying25 rfl sz_25)) (Nb rfl) ?_
  refine LOps.stepG rfl rfl rfl (LStep.w (LStep.callF (first := []) rfl en_151 rfl (Nb rfl) (fun w hw => c_nat_Bits _ (by omega) w) ?_))
  refine LOps.detGP rfl rfl (Det.move rfl) (Nb rfl) ?_
  refine LOps.detGP rfl rfl (Det.bin rfl rfl (br_mul (a := 8) (by omega))) (Nb rfl) ?_
  refine LOps.detGP rfl rfl (Det.bin rfl rfl (br_gtr)) (Nb rfl) ?_
  refine LOps.detP (Det.pick_false rfl rfl) (Nb rfl) ?_
  refine LOps.nil ?_
  first | refine LCode.condD rfl (fun h20 => ?_) (fun h20 => ?_) | refine LCode.cond rfl (fun h20 => ?_) (fun h20 => ?_)
  ·
    have h20 : 8 * n < blen A := h20
    refine LCode.seq ?_
    refine LCode.region ?_
    refine LOps.detP (Det.assign rfl) (Nb rfl) ?_
    refine LOps.detP (Det.assign (v := .int .i64 ((101 : Nat) : Int)) rfl) (Nb rfl) ?_
    refine LOps.nil ?_
    refine LCode.ret ?_
    refine ⟨[_, _], .cons rfl (.cons rfl .nil), fun a w' hr => ⟨?_, hr.fr.below⟩⟩
    rw [if_pos h20]
    rfl
  ·
    have h20 : ¬ 8 * n < blen A := h20
    refine LCode.skip ?_
    refine LCode.seq ?_
    refine LCode.region ?_
    refine LOps.detP (Det.move rfl) (Nb rfl) ?_
    refine LOps.step rfl (LStep.w (LStep.makes (Makes.mkV Try.underlying52 inf_5 rfl rfl (by omega) (by omega)) (Nb rfl) (fun b22 => ?_)))
    refine LOps.detP (Det.assign rfl) (Nb rfl) ?_
    refine LOps.nil ?_
    refine LCode.seq ?_
    refine LCode.seq ?_
    refine LCode.region ?_
    refine LOps.detP (Det.move rfl) (Nb rfl) ?_
    refine LOps.detP (Det.len Try.underlying52 rfl) (Nb rfl) ?_
    refine LOps.detP (Det.move (v := .int .i64 ((0 : Nat) : Int)) rfl) (Nb rfl) ?_
    refine LOps.nil ?_
    refine LCode.block ?_
    refine LCode.loop (α := Nat) (fun x => x ≤ n) (fun x => ⟨[(1, .int .i64 ((n : Nat) : Int)), (2, .pointer (some ⟨b2, 0, none⟩)), (6, .slice (some ⟨b22, 0, none⟩) n n), (24, .int .i64 ((n : Nat) : Int)), (25, .int .i64 ((x : Nat) : Int))], [.blk b22 ⟨true, vec .u8 n (fun j => if n - x ≤ j then A / 256 ^ (n - 1 - j) % 256 else 0), 5, (0, 0)⟩, .blk b2 ⟨true, natL A, 25, (0, 0)⟩]⟩) (fun x => n - x) (0) (Nat.zero_le _) (Sub.re (Sub.cells (b := b22) (cs' := vec .u8 n (fun j => if n - 0 ≤ j then A / 256 ^ (n - 1 - j) % 256 else 0)) (by repeat (first | exact Sh _ | apply St_)) (vec_congr fun j hj => by rw [if_neg (by omega)])) (Sub.mk ⟨rfl, rfl, rfl, rfl, rfl, trivial⟩ (by repeat (first | exact Sel.nil _ | refine Sel.cons (by repeat (first | exact Ph _ | apply Pt_)) ?_)))) ?_
    intro x hx
    refine LCode.seq ?_
    refine LCode.region ?_
    refine LOps.detP (Det.bin rfl rfl (br_lss)) (Nb rfl) ?_
    refine LOps.nil ?_
    refine LCode.seq ?_
    first | refine LCode.condD rfl (fun h26 => ?_) (fun h26 => ?_) | refine LCode.cond rfl (fun h26 => ?_) (fun h26 => ?_)
    ·
      have h26 : x < n := h26
      refine LCode.skip ?_
      refine LCode.seq ?_
      refine LCode.block ?_
      refine LCode.seq ?_
      refine LCode.region ?_
      refine LOps.detP (Det.move rfl) (Nb rfl) ?_
      refine LOps.detP (Det.assign rfl) (Nb rfl) ?_
      refine LOps.nil ?_
      refine LCode.region ?_
      refine LOps.detP (Det.move rfl) (Nb rfl) ?_
      refine LOps.detP (Det.move rfl) (Nb rfl) ?_
      refine LOps.detP (Det.bin rfl rfl (br_sub (b := 1) (by omega) (by omega))) (Nb rfl) ?_
      refine LOps.detP (Det.move rfl) (Nb rfl) ?_
      refine LOps.detP (Det.bin rfl rfl (br_sub (by omega) (by omega))) (Nb rfl) ?_
      refine LOps.detP (Det.move rfl) (Nb rfl) ?_
      refine LOps.detP (Det.bin rfl rfl (br_quo (b := 8) (by omega) (by omega))) (Nb rfl) ?_
      refine LOps.detP (Det.fieldA (o' := 0) Try.underlying25 rfl rfl rfl sz_23 (by decide)) (Nb rfl) ?_
      refine LOps.detP (Det.indexA0 Try.underlying23 sz_22 rfl rfl (by omega)) (Nb rfl) ?_
      refine LOps.det (Det.load rfl (by repeat (first | exact Mh _ | apply Mt)) (LoadV.one Try.underlying22 rfl (by exact natL_get _ (show x / 8 < 9 by omega)))) (Nb rfl) ?_
      refine LOps.detP (Det.move rfl) (Nb rfl) ?_
      refine LOps.detP (Det.bin rfl rfl (br_rem (b := 8) (by omega))) (Nb rfl) ?_
      refine LOps.detP (Det.bin rfl rfl (br_mul (a := 8) (by omega))) (Nb rfl) ?_
      refine LOps.detP (Det.bin rfl rfl (br_shr64 (limb_lt _ _))) (Nb rfl) ?_
      refine LOps.detP (Det.conv8 Try.underlying22 Try.underlying5 rfl) (Nb rfl) ?_
      refine LOps.detP (Det.indexS0 Try.underlying52 sz_5 rfl rfl (by omega)) (Nb rfl) ?_
      refine LOps.step rfl (LStepW.store1 rfl rfl rfl sz_5 (by repeat (first | exact Sh _ | apply St_)) (by first | (simp only [vec_length, natL_length, wideL_length, dv_length]; omega) | (simp; omega)) (by first | exact vec_set _ _ _ _ _ | exact dv_setm _ _ _ _ (by omega) | exact dv_sets _ _ _ _ | rfl) (by simp) ?_)
      refine LOps.nil ?_
      refine LCode.region ?_
      refine LOps.detP (Det.bin rfl rfl (br_add (b := 1) (by omega))) (Nb rfl) ?_
      refine LOps.detP (Det.move rfl) (Nb rfl) ?_
      refine LOps.nil ?_
      refine ⟨x + 1, by omega, by omega, Sub.re (Sub.cells (b := b22) (cs' := vec .u8 n (fun j => if n - (x + 1) ≤ j then A / 256 ^ (n - 1 - j) % 256 else 0)) (by repeat (first | exact Sh _ | apply St_)) (vec_congr fun j hj => ?_)) (Sub.mk ⟨rfl, rfl, rfl, rfl, rfl, trivial⟩ (by repeat (first | exact Sel.nil _ | refine Sel.cons (by repeat (first | exact Ph _ | apply Pt_)) ?_)))⟩
      by_cases e : j = n - 1 - x
      · rw [if_pos e, if_pos (by omega), byte_of, show n - 1 - j = x by omega]
      · rw [if_neg e]
        by_cases e2 : n - x ≤ j
        · rw [if_pos e2, if_pos (by omega)]
        · rw [if_neg e2, if_neg (by omega)]
    ·
      have h26 : ¬ x < n := h26
      refine LCode.exit ?_
      refine LCode.seq ?_
      refine LCode.region ?_
      refine LOps.detP (Det.move rfl) (Nb rfl) ?_
      refine LOps.det (Det.bytesStr Try.underlying52 Try.underlying5 Try.underlying9 rfl (by repeat (first | exact Mh _ | apply Mt)) (by exact (List.take_of_length_le (by simp [vec_length])).trans (List.drop_zero))) (Nb rfl) ?_
      refine LOps.detP (Det.assign rfl) (Nb rfl) ?_
      refine LOps.detP (Det.assign (v := .int .i64 ((0 : Nat) : Int)) rfl) (Nb rfl) ?_
      refine LOps.nil ?_
      refine LCode.ret ?_
      have hx9 : x = n := by omega
      subst hx9
      refine ⟨[_, _], .cons rfl (.cons rfl .nil), fun a w' hr => ⟨?_, hr.fr.below⟩⟩
      rw [if_neg h20]
      have e : ((List.range x).map fun i => UInt8.ofNat ((fun j => if x - x ≤ j then A / 256 ^ (x - 1 - j) % 256 else 0) i)) = beBytes x A := by
        apply List.map_congr_left
        intro i hi
        dsimp only
        rw [if_pos (by omega)]
      rw [e]
      rfl
end Go.Proofs.Ytljblbgogjieaaa
set_option linter.unusedVariables false
set_option linter.unusedSimpArgs false
set_option maxRecDepth 20000
namespace Go.Proofs.Ytljblbgogjieaaa
open Go Go.RowKit
theorem c_length (A b l c : Nat) (ty : TypeId) (wr : Bool) (w : World) (hb : (Item.blk b ⟨wr, vec .u64 c (limb A), ty, (0, 0)⟩).holds w) (hlc : l ≤ c) (hc : c < 9223372036854775808) (hA : A < 2 ^ (64 * l)) : Calls Try.prog 187 ([.slice (some ⟨b, 0, none⟩) l c] : List Value).toArray w (fun e w' => e = .returned (.int .i64 ((nw A : Nat) : Int)) ∧ Below w.heap.size w w') := by
  refine calls_ro (N := 19) (rs := [.tmp 2]) [.blk b ⟨false, vec .u64 c (limb A), ty, (0, 0)⟩] Try.func187 rfl Try.ntmps187 Try.results187 (Nb rfl) ⟨hb, trivial⟩ rfl ?_
  show LCode _ _ _ ⟨_, _⟩ _
  refine LCode.seq ?_
  refine LCode.region ?_
  refine LOps.detP (Det.assign (v := .int .i64 ((0 : Nat) : Int)) rfl) (Nb rfl) ?_
  refine LOps.nil ?_
  refine LCode.seq ?_
  refine LCode.region ?_
  refine LOps.detP (Det.move rfl) (Nb rfl) ?_
  refine LOps.detP (Det.len Try.underlying234 rfl) (Nb rfl) ?_
  refine LOps.detP (Det.assign rfl) (Nb rfl) ?_
  refine LOps.nil ?_
  refine LCode.seq ?_
  refine LCode.block ?_
  refine LCode.loop (α := Nat) (fun x => x ≤ l ∧ A < 2 ^ (64 * x)) (fun x => ⟨[(0, .slice (some ⟨b, 0, none⟩) l c), (3, .int .i64 ((x : Nat) : Int))], [.blk b ⟨false, vec .u64 c (limb A), ty, (0, 0)⟩]⟩) (fun x => x) (l) (⟨Nat.le_refl _, hA⟩) (Sub.mk ⟨rfl, rfl, trivial⟩ (by repeat (first | exact Sel.nil _ | refine Sel.cons (by repeat (first | exact Ph _ | apply Pt_)) ?_))) ?_
  rintro x ⟨hx, hlt⟩
  refine LCode.seq ?_
  refine LCode.seq ?_
  by_cases h0 : 0 < x
  ·
    refine LCode.region ?_
    refine LOps.detP (Det.move rfl) (Nb rfl) ?_
    refine LOps.detP (Det.bin rfl rfl (br_t (br_gtr (b := 0)) h0)) (Nb rfl) ?_
    refine LOps.detP (Det.move rfl) (Nb rfl) ?_
    refine LOps.detGP rfl rfl (Det.move rfl) (Nb rfl) ?_
    refine LOps.detGP rfl rfl (Det.move rfl) (Nb rfl) ?_
    refine LOps.detGP rfl rfl (Det.bin rfl rfl (br_sub (b := 1) (by omega) (by omega))) (Nb rfl) ?_
    refine LOps.detGP rfl rfl (Det.indexS0 Try.underlying234 sz_22 rfl rfl (by omega)) (Nb rfl) ?_
    refine LOps.detG rfl rfl (Det.load rfl (by repeat (first | exact Mh _ | apply Mt)) (LoadV.one Try.underlying22 rfl (by exact vec_get _ _ _ (show x - 1 < c by omega)))) (Nb rfl) ?_
    refine LOps.detGP rfl rfl (Det.bin rfl rfl (br_eql (b := 0))) (Nb rfl) ?_
    refine LOps.detP (Det.pick_true rfl rfl) (Nb rfl) ?_
    refine LOps.nil ?_
    first | refine LCode.condD rfl (fun h15 => ?_) (fun h15 => ?_) | refine LCode.cond rfl (fun h15 => ?_) (fun h15 => ?_)
    ·
      have h15 : limb A (x - 1) = 0 := by have := h15; simpa using this
      refine LCode.skip ?_
      refine LCode.block ?_
      refine LCode.region ?_
      refine LOps.detP (Det.move rfl) (Nb rfl) ?_
      refine LOps.detP (Det.bin rfl rfl (br_sub (b := 1) (by omega) (by omega))) (Nb rfl) ?_
      refine LOps.detP (Det.assign rfl) (Nb rfl) ?_
      refine LOps.nil ?_
      refine ⟨x - 1, ⟨by omega, ?_⟩, by omega, Sub.mk ⟨rfl, rfl, trivial⟩ (by repeat (first | exact Sel.nil _ | refine Sel.cons (by repeat (first | exact Ph _ | apply Pt_)) ?_))⟩
      exact lt_of_limb_zero (A := A) (n := x - 1) (by rw [show x - 1 + 1 = x by omega]; exact hlt) h15
    ·
      have h15 : ¬ limb A (x - 1) = 0 := by have := h15; simpa using this
      refine LCode.exit ?_
      refine LCode.seq ?_
      refine LCode.region ?_
      refine LOps.detP (Det.move rfl) (Nb rfl) ?_
      refine LOps.detP (Det.assign rfl) (Nb rfl) ?_
      refine LOps.nil ?_
      refine LCode.ret ?_
      have he : nw A = x := nw_eq hlt (.inr (le_of_limb (A := A) (n := x - 1) (by rw [show x - 1 + 1 = x by omega]; exact hlt) h15))
      refine ⟨[_], .cons rfl .nil, fun a w' hr => ⟨?_, hr.fr.below⟩⟩
      rw [he]; rfl
  ·
    refine LCode.region ?_
    refine LOps.detP (Det.move rfl) (Nb rfl) ?_
    refine LOps.detP (Det.bin rfl rfl (br_f (br_gtr (b := 0)) h0)) (Nb rfl) ?_
    refine LOps.detP (Det.move rfl) (Nb rfl) ?_
    refine LOps.skip rfl rfl rfl (Nb rfl) ?_
    refine LOps.skip rfl rfl rfl (Nb rfl) ?_
    refine LOps.skip rfl rfl rfl (Nb rfl) ?_
    refine LOps.skip rfl rfl rfl (Nb rfl) ?_
    refine LOps.skip rfl rfl rfl (Nb rfl) ?_
    refine LOps.skip rfl rfl rfl (Nb rfl) ?_
    refine LOps.detP (Det.pick_false rfl rfl) (Nb rfl) ?_
    refine LOps.nil ?_
    refine LCode.cond_false rfl ?_
    refine LCode.exit ?_
    refine LCode.seq ?_
    refine LCode.region ?_
    refine LOps.detP (Det.move rfl) (Nb rfl) ?_
    refine LOps.detP (Det.assign rfl) (Nb rfl) ?_
    refine LOps.nil ?_
    refine LCode.ret ?_
    have he : nw A = x := nw_eq hlt (.inl (by omega))
    refine ⟨[_], .cons rfl .nil, fun a w' hr => ⟨?_, hr.fr.below⟩⟩
    rw [he]; rfl
def dvL (m : Nat) : List Value := dv (limb (dnm m)) (nw m) (dsh m)
theorem Brings.blk1 {w w' : World} {H : List Item} {b : Nat} {B : Blk} (hb : Below w.heap.size w w') (hn : w.heap.size ≤ b) (hh : (Item.blk b B).holds w') : Brings w H [.blk b B] w' :=
  ⟨hb, fun x hx => by simp at hx; subst hx; exact hh, fun x hx k hk => by simp at hx; subst hx; simp [Item.fp] at hk; subst hk; exact .inl hn,
    fun x hx _ k hk => by simp at hx; subst hx; simp [Item.fp] at hk; subst hk; exact hn, List.pairwise_singleton _ _⟩
theorem of_word {m x : Nat} (h0 : 0 < dsh m) (hm : m ≠ 0) (hx : 0 < x) : (limb m x * 2 ^ dsh m % 18446744073709551616 ||| limb m (x - 1) / 2 ^ (64 - dsh m)) = limb (dnm m) x := by
  unfold dnm
  rw [limb_shl m (dsh m) x (dsh_lt hm) h0, if_neg (by omega), or_low (limb_lt _ _) h0 (dsh_lt hm)]
theorem of_word0 {m x : Nat} (hm : m ≠ 0) (h : x = 0 ∨ dsh m = 0) : limb m x * 2 ^ dsh m % 18446744073709551616 = limb (dnm m) x := by
  rcases Nat.eq_zero_or_pos (dsh m) with h0 | h0
  · unfold dnm
    rw [h0, Nat.pow_zero, Nat.mul_one, Nat.mul_one, Nat.mod_eq_of_lt (limb_lt _ _)]
  · unfold dnm
    rw [limb_shl m (dsh m) x (dsh_lt hm) h0, if_pos (by omega), Nat.add_zero]
theorem lz_top {m : Nat} (hm : m ≠ 0) : 64 - blen (limb m (nw m - 1)) = dsh m := by
  have h := bits_words (A := m) (by have := nw_pos hm; omega)
  have := blen_le (n := 64) (limb_lt m (nw m - 1))
  have := nw_pos hm
  unfold dsh; omega
theorem c_of (m bm : Nat) (wr : Bool) (hm0 : m ≠ 0) (w : World) (hb : (Item.blk bm ⟨wr, natL m, 25, (0, 0)⟩).holds w) (hm : m < W9) : Calls Try.prog 183 ([.pointer (some ⟨bm, 0, none⟩)] : List Value).toArray w (fun e w' => ∃ b, e = .returned (.pointer (some ⟨b, 0, none⟩)) ∧ w.heap.size ≤ b ∧ (Item.blk b ⟨false, dvL m, 241, (0, 0)⟩).holds w' ∧ Below w.heap.size w w') := by
  refine calls_ro (N := 86) (rs := [.tmp 2]) [.blk bm ⟨false, natL m, 25, (0, 0)⟩] Try.func183 rfl Try.ntmps183 Try.results183 (Nb rfl) ⟨hb, trivial⟩ rfl ?_
  show LCode _ _ _ ⟨_, _⟩ _
  refine LCode.seq ?_
  refine LCode.region ?_
  refine LOps.detP (Det.assign rfl) (Nb rfl) ?_
  refine LOps.nil ?_
  refine LCode.seq ?_
  refine LCode.regionD [] (by kernel_rfl) ?_
  refine LAny.takeP 0 rfl (by kernel_rfl) (Nb rfl) (Det.move rfl) ?_
  refine LAny.takeP 1 rfl (by kernel_rfl) (Nb rfl) (Det.nilCheck rfl) ?_
  refine LAny.takeP 2 rfl (by kernel_rfl) (Nb rfl) (Det.fieldA (o' := 0) Try.underlying25 rfl rfl rfl sz_23 (by decide)) ?_
  refine LAny.take 3 rfl (by kernel_rfl) (Nb rfl) (Det.load rfl (by repeat (first | exact Mh _ | apply Mt)) (by exact LoadV.whole Try.underlying23 rfl sz_23)) ?_
  refine LAny.takeP 4 rfl (by kernel_rfl) (Nb rfl) (Det.move rfl) ?_
  refine LAny.takeP 5 rfl (by kernel_rfl) (Nb rfl) (Det.nilCheck rfl) ?_
  refine LAny.takeP 6 rfl (by kernel_rfl) (Nb rfl) (Det.fieldA (o' := 0) Try.underlying25 rfl rfl rfl sz_23 (by decide)) ?_
  refine LAny.takeP 7 rfl (by kernel_rfl) (Nb rfl) (Det.slArr Try.underlying23 sz_22 rfl) ?_
  refine LAny.one 8 rfl rfl (by kernel_rfl) (LStep.callF (first := []) rfl en_187 rfl (Nb rfl) (fun w hw => c_length m bm 9 9 _ false w (hw _ (by repeat (first | exact Mh _ | apply Mt))) (Nat.le_refl _) (by decide) (lt_w9_pow hm 9 rfl)) ?_)
  refine LAny.takeP 9 rfl (by kernel_rfl) (Nb rfl) (Det.build pl_241 zr_241 rfl (show fillL _ _ _ = some (dv (limb m) (nw m) 0) from (fillL_step (A := []) (B := vec .u64 9 (fun _ => 0)) (D := [.int .i64 ((0 : Nat) : Int), .int .i64 ((0 : Nat) : Int)]) (cs := natL m) rfl rfl (natL_length _) rfl rfl (vec_length _ _ _) ((fillL_step (A := natL m) (B := [.int .i64 ((0 : Nat) : Int)]) (D := [.int .i64 ((0 : Nat) : Int)]) (cs := [.int .i64 ((nw m : Nat) : Int)]) rfl rfl rfl rfl (natL_length _) rfl rfl).trans rfl)))) ?_
  refine LAny.one 10 rfl rfl (by kernel_rfl) (LStep.makes (Makes.boxA rfl) (Nb rfl) (fun b15 => ?_))
  refine LAny.takeP 11 rfl (by kernel_rfl) (Nb rfl) (Det.assign rfl) ?_
  refine LAny.done (by kernel_rfl) ?_
  refine LCode.seq ?_
  have hn0 := nw_pos hm0
  have hn9 := nw_w9 hm
  have hs64 := dsh_lt hm0
  refine LCode.regionD [14] (by kernel_rfl) ?_
  refine LAny.takeP 0 rfl (by kernel_rfl) (Nb rfl) (Det.move rfl) ?_
  refine LAny.takeP 1 rfl (by kernel_rfl) (Nb rfl) (Det.move rfl) ?_
  refine LAny.takeP 2 rfl (by kernel_rfl) (Nb rfl) (Det.move rfl) ?_
  refine LAny.takeP 3 rfl (by kernel_rfl) (Nb rfl) (Det.nilCheck rfl) ?_
  refine LAny.takeP 4 rfl (by kernel_rfl) (Nb rfl) (Det.fieldA (o' := 9) Try.underlying241 rfl rfl rfl sz_3 (by decide)) ?_
  refine LAny.take 5 rfl (by kernel_rfl) (Nb rfl) (Det.load rfl (by repeat (first | exact Mh _ | apply Mt)) (LoadV.one Try.underlying3 rfl (by first | rfl | exact vec_get _ _ _ (by omega) | exact natL_get _ (by omega) | exact wideL_get _ (by omega) | exact dv_m _ _ _ (by omega)))) ?_
  refine LAny.takeP 6 rfl (by kernel_rfl) (Nb rfl) (Det.bin rfl rfl (br_sub (b := 1) (by omega) (by omega))) ?_
  refine LAny.takeP 7 rfl (by kernel_rfl) (Nb rfl) (Det.nilCheck rfl) ?_
  refine LAny.takeP 8 rfl (by kernel_rfl) (Nb rfl) (Det.fieldA (o' := 0) Try.underlying241 rfl rfl rfl sz_23 (by decide)) ?_
  refine LAny.takeP 9 rfl (by kernel_rfl) (Nb rfl) (Det.indexA0 Try.underlying23 sz_22 rfl rfl (by omega)) ?_
  refine LAny.take 10 rfl (by kernel_rfl) (Nb rfl) (Det.load rfl (by repeat (first | exact Mh _ | apply Mt)) (LoadV.one Try.underlying22 rfl (by exact dv_m _ _ _ (show nw m - 1 < 9 by omega)))) ?_
  refine LAny.one 11 rfl rfl (by kernel_rfl) (LStep.callF (first := []) rfl en_192 rfl (Nb rfl) (fun w hw => c_LeadingZeros64 _ (limb_lt _ _) w) ?_)
  refine LAny.takeP 12 rfl (by kernel_rfl) (Nb rfl) (Det.nilCheck rfl) ?_
  refine LAny.takeP 13 rfl (by kernel_rfl) (Nb rfl) (Det.fieldA (o' := 10) Try.underlying241 rfl rfl rfl sz_3 (by decide)) ?_
  refine LAny.late 14 rfl rfl (by kernel_rfl) (by kernel_rfl) (LStepW.store1 rfl rfl rfl sz_3 (by repeat (first | exact Sh _ | apply St_)) (by simp only [dv_length]; omega) (show (dv (limb m) (nw m) 0).set 10 _ = dv (limb m) (nw m) (dsh m) by rw [← lz_top hm0]; exact dv_sets _ _ _ _) (by simp) ?_)
  refine LAny.done (by kernel_rfl) ?_
  refine LCode.seq ?_
  refine LCode.seq ?_
  refine LCode.region ?_
  refine LOps.detP (Det.move rfl) (Nb rfl) ?_
  refine LOps.detP (Det.nilCheck rfl) (Nb rfl) ?_
  refine LOps.detP (Det.fieldA (o' := 9) Try.underlying241 rfl rfl rfl sz_3 (by decide)) (Nb rfl) ?_
  refine LOps.det (Det.load rfl (by repeat (first | exact Mh _ | apply Mt)) (LoadV.one Try.underlying3 rfl (by first | rfl | exact vec_get _ _ _ (by omega) | exact natL_get _ (by omega) | exact wideL_get _ (by omega) | exact dv_m _ _ _ (by omega)))) (Nb rfl) ?_
  refine LOps.detP (Det.bin rfl rfl (br_sub (b := 1) (by omega) (by omega))) (Nb rfl) ?_
  refine LOps.detP (Det.assign rfl) (Nb rfl) ?_
  refine LOps.nil ?_
  refine LCode.block ?_
  refine LCode.loop (α := Nat) (fun x => x ≤ nw m) (fun x => ⟨[(3, .pointer (some ⟨b15, 0, none⟩)), (4, .int .i64 ((x : Int) - 1))], [.blk b15 ⟨true, dv (fun j => if x ≤ j then limb (dnm m) j else limb m j) (nw m) (dsh m), 241, (0, 0)⟩]⟩) (fun x => x) (nw m) (Nat.le_refl _) (Sub.re (Sub.cells (b := b15) (cs' := dv (fun j => if nw m ≤ j then limb (dnm m) j else limb m j) (nw m) (dsh m)) (by repeat (first | exact Sh _ | apply St_)) (dv_congr fun j _ => by
    by_cases e : nw m ≤ j
    · rw [if_pos e, limb_high (lt_nw m) e, limb_high (dnm_lt m) e]
    · rw [if_neg e])) (Sub.mk ⟨rfl, congrArg (fun i : Int => some (Value.int .i64 i)) (by omega), trivial⟩ (by repeat (first | exact Sel.nil _ | refine Sel.cons (by repeat (first | exact Ph _ | apply Pt_)) ?_)))) ?_
  intro x hx
  refine LCode.seq ?_
  refine LCode.seq ?_
  rcases Nat.eq_zero_or_pos x with h0 | h0
  ·
    refine LCode.region ?_
    refine LOps.detP (Det.move rfl) (Nb rfl) ?_
    refine LOps.detP (Det.bin (v := .bool false) rfl rfl (by subst h0; rfl)) (Nb rfl) ?_
    refine LOps.nil ?_
    refine LCode.cond_false rfl ?_
    refine LCode.exit ?_
    refine LCode.seq ?_
    refine LCode.region ?_
    refine LOps.detP (Det.move rfl) (Nb rfl) ?_
    refine LOps.detP (Det.assign rfl) (Nb rfl) ?_
    refine LOps.nil ?_
    refine LCode.ret ?_
    have e0 : (dv (fun j => if 0 ≤ j then limb (dnm m) j else limb m j) (nw m) (dsh m)) = dvL m := dv_congr fun j _ => if_pos (Nat.zero_le _)
    refine ⟨[_], .cons rfl .nil, fun a w' hr => ⟨b15, rfl, hr.new (by repeat (first | exact Mh _ | apply Mt)) rfl, ?_, hr.fr.below⟩⟩
    have := hr.hp _ (by repeat (first | exact Mh _ | apply Mt))
    rw [← e0]
    subst h0
    exact this
  ·
    obtain ⟨y, rfl⟩ : ∃ y, x = y + 1 := ⟨x - 1, by omega⟩
    refine LCode.region ?_
    refine LOps.detP (Det.move rfl) (Nb rfl) ?_
    refine LOps.detP (Det.bin (v := .bool true) rfl rfl (by simp [binRes])) (Nb rfl) ?_
    refine LOps.nil ?_
    refine LCode.cond_true rfl ?_
    refine LCode.skip ?_
    refine LCode.seq ?_
    refine LCode.block ?_
    refine LCode.seq ?_
    refine LCode.regionD [14] (by kernel_rfl) ?_
    refine LAny.takeP 0 rfl (by kernel_rfl) (Nb rfl) (Det.move rfl) ?_
    refine LAny.takeP 1 rfl (by kernel_rfl) (Nb rfl) (Det.move (v := .int .i64 ((y : Nat) : Int)) (by show some _ = some _; congr 2; omega)) ?_
    refine LAny.takeP 2 rfl (by kernel_rfl) (Nb rfl) (Det.nilCheck rfl) ?_
    refine LAny.takeP 3 rfl (by kernel_rfl) (Nb rfl) (Det.fieldA (o' := 0) Try.underlying241 rfl rfl rfl sz_23 (by decide)) ?_
    refine LAny.takeP 4 rfl (by kernel_rfl) (Nb rfl) (Det.indexA0 Try.underlying23 sz_22 rfl rfl (by omega)) ?_
    refine LAny.take 5 rfl (by kernel_rfl) (Nb rfl) (Det.load rfl (by repeat (first | exact Mh _ | apply Mt)) (LoadV.one Try.underlying22 rfl (by exact (dv_m _ _ _ (show y < 9 by omega)).trans (congrArg some (vi (b := limb m y) (if_neg (by omega))))))) ?_
    refine LAny.takeP 6 rfl (by kernel_rfl) (Nb rfl) (Det.move rfl) ?_
    refine LAny.takeP 7 rfl (by kernel_rfl) (Nb rfl) (Det.nilCheck rfl) ?_
    refine LAny.takeP 8 rfl (by kernel_rfl) (Nb rfl) (Det.fieldA (o' := 10) Try.underlying241 rfl rfl rfl sz_3 (by decide)) ?_
    refine LAny.take 9 rfl (by kernel_rfl) (Nb rfl) (Det.load rfl (by repeat (first | exact Mh _ | apply Mt)) (LoadV.one Try.underlying3 rfl (by first | rfl | exact vec_get _ _ _ (by omega) | exact natL_get _ (by omega) | exact wideL_get _ (by omega) | exact dv_m _ _ _ (by omega)))) ?_
    refine LAny.takeP 10 rfl (by kernel_rfl) (Nb rfl) (Det.bin rfl rfl (br_shl64)) ?_
    refine LAny.takeP 11 rfl (by kernel_rfl) (Nb rfl) (Det.nilCheck rfl) ?_
    refine LAny.takeP 12 rfl (by kernel_rfl) (Nb rfl) (Det.fieldA (o' := 0) Try.underlying241 rfl rfl rfl sz_23 (by decide)) ?_
    refine LAny.takeP 13 rfl (by kernel_rfl) (Nb rfl) (Det.indexA0 Try.underlying23 sz_22 rfl rfl (by omega)) ?_
    refine LAny.late 14 rfl rfl (by kernel_rfl) (by kernel_rfl) (LStepW.store1 rfl rfl rfl sz_22 (by repeat (first | exact Sh _ | apply St_)) (by first | (simp only [vec_length, natL_length, wideL_length, dv_length]; omega) | (simp; omega)) (by first | exact vec_set _ _ _ _ _ | exact dv_setm _ _ _ _ (by omega) | exact dv_sets _ _ _ _ | rfl) (by simp) ?_)
    refine LAny.done (by kernel_rfl) ?_
    refine LCode.seq ?_
    rcases Nat.eq_zero_or_pos y with hy0 | hy0
    rotate_left
    rcases Nat.eq_zero_or_pos (dsh m) with hs0 | hs0
    ·
      refine LCode.region ?_
      refine LOps.detP (Det.move (v := .int .i64 ((y : Nat) : Int)) (by show some _ = some _; congr 2; omega)) (Nb rfl) ?_
      refine LOps.detP (Det.bin rfl rfl (br_t (br_gtr (b := 0)) hy0)) (Nb rfl) ?_
      refine LOps.detP (Det.move rfl) (Nb rfl) ?_
      refine LOps.detGP rfl rfl (Det.move rfl) (Nb rfl) ?_
      refine LOps.detGP rfl rfl (Det.nilCheck rfl) (Nb rfl) ?_
      refine LOps.detGP rfl rfl (Det.fieldA (o' := 10) Try.underlying241 rfl rfl rfl sz_3 (by decide)) (Nb rfl) ?_
      refine LOps.detG rfl rfl (Det.load rfl (by repeat (first | exact Mh _ | apply Mt)) (LoadV.one Try.underlying3 rfl (by first | rfl | exact vec_get _ _ _ (by omega) | exact natL_get _ (by omega) | exact wideL_get _ (by omega) | exact dv_m _ _ _ (by omega)))) (Nb rfl) ?_
      refine LOps.detGP rfl rfl (Det.bin rfl rfl (br_f (br_gtr (b := 0)) (by omega))) (Nb rfl) ?_
      refine LOps.detP (Det.pick_true rfl rfl) (Nb rfl) ?_
      refine LOps.nil ?_
      refine LCode.cond_false rfl ?_
      refine LCode.skip ?_
      refine LCode.region ?_
      refine LOps.detP (Det.move (v := .int .i64 ((y : Nat) : Int)) (by show some _ = some _; congr 2; omega)) (Nb rfl) ?_
      refine LOps.detP (Det.bin rfl rfl rfl) (Nb rfl) ?_
      refine LOps.detP (Det.assign rfl) (Nb rfl) ?_
      refine LOps.nil ?_
      refine ⟨y, by omega, by omega, Sub.re (Sub.cells (b := b15) (cs' := dv (fun j => if y ≤ j then limb (dnm m) j else limb m j) (nw m) (dsh m)) (by repeat (first | exact Sh _ | apply St_)) (dv_congr fun j hj => ?_)) (Sub.mk ⟨rfl, ?_, trivial⟩ (by repeat (first | exact Sel.nil _ | refine Sel.cons (by repeat (first | exact Ph _ | apply Pt_)) ?_)))⟩
      · by_cases e : j = y
        · subst e
          rw [if_pos rfl, if_pos (Nat.le_refl _)]
          exact of_word0 hm0 (.inr hs0)
        · simp only [e, if_false]
          by_cases e2 : y + 1 ≤ j
          · rw [if_pos e2, if_pos (by omega)]
          · rw [if_neg e2, if_neg (by omega)]
      · exact congrArg (fun i : Int => some (Value.int .i64 i)) (wrap_i64 (by omega) (by omega))
    ·
      refine LCode.region ?_
      refine LOps.detP (Det.move (v := .int .i64 ((y : Nat) : Int)) (by show some _ = some _; congr 2; omega)) (Nb rfl) ?_
      refine LOps.detP (Det.bin rfl rfl (br_t (br_gtr (b := 0)) hy0)) (Nb rfl) ?_
      refine LOps.detP (Det.move rfl) (Nb rfl) ?_
      refine LOps.detGP rfl rfl (Det.move rfl) (Nb rfl) ?_
      refine LOps.detGP rfl rfl (Det.nilCheck rfl) (Nb rfl) ?_
      refine LOps.detGP rfl rfl (Det.fieldA (o' := 10) Try.underlying241 rfl rfl rfl sz_3 (by decide)) (Nb rfl) ?_
      refine LOps.detG rfl rfl (Det.load rfl (by repeat (first | exact Mh _ | apply Mt)) (LoadV.one Try.underlying3 rfl (by first | rfl | exact vec_get _ _ _ (by omega) | exact natL_get _ (by omega) | exact wideL_get _ (by omega) | exact dv_m _ _ _ (by omega)))) (Nb rfl) ?_
      refine LOps.detGP rfl rfl (Det.bin rfl rfl (br_t (br_gtr (b := 0)) hs0)) (Nb rfl) ?_
      refine LOps.detP (Det.pick_true rfl rfl) (Nb rfl) ?_
      refine LOps.nil ?_
      refine LCode.cond_true rfl ?_
      refine LCode.regionD [23] (by kernel_rfl) ?_
      refine LAny.takeP 0 rfl (by kernel_rfl) (Nb rfl) (Det.move rfl) ?_
      refine LAny.takeP 1 rfl (by kernel_rfl) (Nb rfl) (Det.move (v := .int .i64 ((y : Nat) : Int)) (by show some _ = some _; congr 2; omega)) ?_
      refine LAny.takeP 2 rfl (by kernel_rfl) (Nb rfl) (Det.nilCheck rfl) ?_
      refine LAny.takeP 3 rfl (by kernel_rfl) (Nb rfl) (Det.fieldA (o' := 0) Try.underlying241 rfl rfl rfl sz_23 (by decide)) ?_
      refine LAny.takeP 4 rfl (by kernel_rfl) (Nb rfl) (Det.indexA0 Try.underlying23 sz_22 rfl rfl (by omega)) ?_
      refine LAny.take 5 rfl (by kernel_rfl) (Nb rfl) (Det.load rfl (by repeat (first | exact Mh _ | apply Mt)) (LoadV.one Try.underlying22 rfl (by exact (dv_m _ _ _ (show y < 9 by omega)).trans (congrArg some (vi (b := limb m y * 2 ^ dsh m % 18446744073709551616) (if_pos rfl)))))) ?_
      refine LAny.takeP 6 rfl (by kernel_rfl) (Nb rfl) (Det.move rfl) ?_
      refine LAny.takeP 7 rfl (by kernel_rfl) (Nb rfl) (Det.move (v := .int .i64 ((y : Nat) : Int)) (by show some _ = some _; congr 2; omega)) ?_
      refine LAny.takeP 8 rfl (by kernel_rfl) (Nb rfl) (Det.bin rfl rfl (br_sub (b := 1) (by omega) (by omega))) ?_
      refine LAny.takeP 9 rfl (by kernel_rfl) (Nb rfl) (Det.nilCheck rfl) ?_
      refine LAny.takeP 10 rfl (by kernel_rfl) (Nb rfl) (Det.fieldA (o' := 0) Try.underlying241 rfl rfl rfl sz_23 (by decide)) ?_
      refine LAny.takeP 11 rfl (by kernel_rfl) (Nb rfl) (Det.indexA0 Try.underlying23 sz_22 rfl rfl (by omega)) ?_
      refine LAny.take 12 rfl (by kernel_rfl) (Nb rfl) (Det.load rfl (by repeat (first | exact Mh _ | apply Mt)) (LoadV.one Try.underlying22 rfl (by exact (dv_m _ _ _ (show y - 1 < 9 by omega)).trans (congrArg some (vi (b := limb m (y - 1)) (by rw [if_neg (by omega), if_neg (by omega)])))))) ?_
      refine LAny.takeP 13 rfl (by kernel_rfl) (Nb rfl) (Det.move rfl) ?_
      refine LAny.takeP 14 rfl (by kernel_rfl) (Nb rfl) (Det.nilCheck rfl) ?_
      refine LAny.takeP 15 rfl (by kernel_rfl) (Nb rfl) (Det.fieldA (o' := 10) Try.underlying241 rfl rfl rfl sz_3 (by decide)) ?_
      refine LAny.take 16 rfl (by kernel_rfl) (Nb rfl) (Det.load rfl (by repeat (first | exact Mh _ | apply Mt)) (LoadV.one Try.underlying3 rfl (by first | rfl | exact vec_get _ _ _ (by omega) | exact natL_get _ (by omega) | exact wideL_get _ (by omega) | exact dv_m _ _ _ (by omega)))) ?_
      refine LAny.takeP 17 rfl (by kernel_rfl) (Nb rfl) (Det.bin rfl rfl (br_sub (a := 64) (by omega) (by omega))) ?_
      refine LAny.takeP 18 rfl (by kernel_rfl) (Nb rfl) (Det.bin rfl rfl (br_shr64 (limb_lt _ _))) ?_
      refine LAny.takeP 19 rfl (by kernel_rfl) (Nb rfl) (Det.bin rfl rfl (br_or64 (Nat.mod_lt _ (by decide)) (Nat.lt_of_le_of_lt (Nat.div_le_self _ _) (limb_lt _ _)))) ?_
      refine LAny.takeP 20 rfl (by kernel_rfl) (Nb rfl) (Det.nilCheck rfl) ?_
      refine LAny.takeP 21 rfl (by kernel_rfl) (Nb rfl) (Det.fieldA (o' := 0) Try.underlying241 rfl rfl rfl sz_23 (by decide)) ?_
      refine LAny.takeP 22 rfl (by kernel_rfl) (Nb rfl) (Det.indexA0 Try.underlying23 sz_22 rfl rfl (by omega)) ?_
      refine LAny.late 23 rfl rfl (by kernel_rfl) (by kernel_rfl) (LStepW.store1 rfl rfl rfl sz_22 (by repeat (first | exact Sh _ | apply St_)) (by first | (simp only [vec_length, natL_length, wideL_length, dv_length]; omega) | (simp; omega)) (by first | exact vec_set _ _ _ _ _ | exact dv_setm _ _ _ _ (by omega) | exact dv_sets _ _ _ _ | rfl) (by simp) ?_)
      refine LAny.done (by kernel_rfl) ?_
      refine LCode.region ?_
      refine LOps.detP (Det.move (v := .int .i64 ((y : Nat) : Int)) (by show some _ = some _; congr 2; omega)) (Nb rfl) ?_
      refine LOps.detP (Det.bin rfl rfl rfl) (Nb rfl) ?_
      refine LOps.detP (Det.assign rfl) (Nb rfl) ?_
      refine LOps.nil ?_
      refine ⟨y, by omega, by omega, Sub.re (Sub.cells (b := b15) (cs' := dv (fun j => if y ≤ j then limb (dnm m) j else limb m j) (nw m) (dsh m)) (by repeat (first | exact Sh _ | apply St_)) (dv_congr fun j hj => ?_)) (Sub.mk ⟨rfl, ?_, trivial⟩ (by repeat (first | exact Sel.nil _ | refine Sel.cons (by repeat (first | exact Ph _ | apply Pt_)) ?_)))⟩
      · by_cases e : j = y
        · subst e
          rw [if_pos rfl, if_pos (Nat.le_refl _)]
          exact of_word hs0 hm0 hy0
        · simp only [e, if_false]
          by_cases e2 : y + 1 ≤ j
          · rw [if_pos e2, if_pos (by omega)]
          · rw [if_neg e2, if_neg (by omega)]
      · exact congrArg (fun i : Int => some (Value.int .i64 i)) (wrap_i64 (by omega) (by omega))
    ·
      refine LCode.region ?_
      refine LOps.detP (Det.move (v := .int .i64 ((y : Nat) : Int)) (by show some _ = some _; congr 2; omega)) (Nb rfl) ?_
      refine LOps.detP (Det.bin rfl rfl (br_f (br_gtr (b := 0)) (by omega))) (Nb rfl) ?_
      refine LOps.detP (Det.move rfl) (Nb rfl) ?_
      refine LOps.skip rfl rfl rfl (Nb rfl) ?_
      refine LOps.skip rfl rfl rfl (Nb rfl) ?_
      refine LOps.skip rfl rfl rfl (Nb rfl) ?_
      refine LOps.skip rfl rfl rfl (Nb rfl) ?_
      refine LOps.skip rfl rfl rfl (Nb rfl) ?_
      refine LOps.detP (Det.pick_false rfl rfl) (Nb rfl) ?_
      refine LOps.nil ?_
      refine LCode.cond_false rfl ?_
      refine LCode.skip ?_
      refine LCode.region ?_
      refine LOps.detP (Det.move (v := .int .i64 ((y : Nat) : Int)) (by show some _ = some _; congr 2; omega)) (Nb rfl) ?_
      refine LOps.detP (Det.bin rfl rfl rfl) (Nb rfl) ?_
      refine LOps.detP (Det.assign rfl) (Nb rfl) ?_
      refine LOps.nil ?_
      refine ⟨y, by omega, by omega, Sub.re (Sub.cells (b := b15) (cs' := dv (fun j => if y ≤ j then limb (dnm m) j else limb m j) (nw m) (dsh m)) (by repeat (first | exact Sh _ | apply St_)) (dv_congr fun j hj => ?_)) (Sub.mk ⟨rfl, ?_, trivial⟩ (by repeat (first | exact Sel.nil _ | refine Sel.cons (by repeat (first | exact Ph _ | apply Pt_)) ?_)))⟩
      · by_cases e : j = y
        · subst e
          rw [if_pos rfl, if_pos (Nat.le_refl _)]
          exact of_word0 hm0 (.inl hy0)
        · simp only [e, if_false]
          by_cases e2 : y + 1 ≤ j
          · rw [if_pos e2, if_pos (by omega)]
          · rw [if_neg e2, if_neg (by omega)]
      · exact congrArg (fun i : Int => some (Value.int .i64 i)) (wrap_i64 (by omega) (by omega))
end Go.Proofs.Ytljblbgogjieaaa
set_option linter.unusedVariables false
set_option linter.unusedSimpArgs false
set_option maxRecDepth 20000
namespace Go.Proofs.Ytljblbgogjieaaa
open Go Go.RowKit
theorem guess_facts {U m a : Nat} (hm : m ≠ 0) (hU : U < dnm m * 2 ^ (64 * (a + 1))) :
    limb U (a + nw m) * 18446744073709551616 + limb U (a + nw m - 1) = U / 2 ^ (64 * a) / 2 ^ (64 * (nw m - 1)) ∧ limb (dnm m) (nw m - 1) = dnm m / 2 ^ (64 * (nw m - 1)) ∧ 9223372036854775808 ≤ limb (dnm m) (nw m - 1) ∧
    U / 2 ^ (64 * a) / dnm m ≤ U / 2 ^ (64 * a) / 2 ^ (64 * (nw m - 1)) / limb (dnm m) (nw m - 1) := by
  have hn := nw_pos hm
  have h1 := win_lt (dnm_lt m) hU
  rw [Nat.add_assoc] at h1
  have h2 := win_div h1
  obtain ⟨h3, h4⟩ := dnm_top hm
  refine ⟨?_, h3, h4, ?_⟩
  · rw [show a + nw m - 1 = a + (nw m - 1) by omega, ← limb_div, ← limb_div]
    have := two_words (R := U / 2 ^ (64 * a)) (j := nw m - 1) (by rw [show nw m - 1 + 2 = nw m + 1 by omega]; exact h2)
    rw [this, show nw m - 1 + 1 = nw m by omega]
  · rw [h3]
    apply div_cut (pow64_pos _)
    rw [← h3]; omega
theorem guess_step {U m a q r : Nat} (hm : m ≠ 0) (hn : 2 ≤ nw m) (h1 : q * limb (dnm m) (nw m - 1) + r = U / 2 ^ (64 * a) / 2 ^ (64 * (nw m - 1)))
    (h2 : r * 18446744073709551616 + limb U (a + nw m - 2) < q * limb (dnm m) (nw m - 2)) : U / 2 ^ (64 * a) / dnm m < q := by
  refine guess_more (k := 2 ^ (64 * (nw m - 2))) (M := 18446744073709551616) (pow64_pos _) (dnm_pos hm) (top := limb (dnm m) (nw m - 1)) (d2 := limb (dnm m) (nw m - 2)) ?_ (R2 := U / 2 ^ (64 * a) / 2 ^ (64 * (nw m - 1))) (u2 := limb U (a + nw m - 2)) ?_ h1 h2
  · have := two_words (R := dnm m) (j := nw m - 2) (by rw [show nw m - 2 + 2 = nw m by omega]; exact dnm_lt m)
    rw [this, show nw m - 2 + 1 = nw m - 1 by omega]
  · have := next_word (U / 2 ^ (64 * a)) (nw m - 2)
    rw [this, limb_div, show nw m - 2 + 1 = nw m - 1 by omega, show a + (nw m - 2) = a + nw m - 2 by omega]
theorem guess_next {top r q d2 u R2 : Nat} (h1 : q * top + r = R2) (h0 : 0 < q) : (q - 1) * top + (r + top) = R2 := by
  obtain ⟨p, rfl⟩ : ∃ p, q = p + 1 := ⟨q - 1, by omega⟩
  rw [Nat.add_mul] at h1
  rw [Nat.add_sub_cancel]; omega
end Go.Proofs.Ytljblbgogjieaaa
set_option linter.unusedVariables false
set_option linter.unusedSimpArgs false
set_option maxRecDepth 20000
namespace Go.Proofs.Ytljblbgogjieaaa
open Go Go.RowKit
theorem take_pre {U q D a : Nat} : U + q * (D % 2 ^ (64 * 0)) * 2 ^ (64 * a) = U + (0 + 0) * 2 ^ (64 * (a + 0)) := by
  rw [Nat.mul_zero, Nat.pow_zero, Nat.mod_one, Nat.mul_zero, Nat.zero_mul, Nat.zero_mul]
theorem back_pre {U D a : Nat} : U + 0 * 2 ^ (64 * (a + 0)) = U + (D % 2 ^ (64 * 0)) * 2 ^ (64 * a) := by
  rw [Nat.mul_zero, Nat.pow_zero, Nat.mod_one, Nat.zero_mul, Nat.zero_mul]
end Go.Proofs.Ytljblbgogjieaaa
set_option linter.unusedVariables false
set_option linter.unusedSimpArgs false
set_option maxRecDepth 20000
namespace Go.Proofs.Ytljblbgogjieaaa
open Go Go.RowKit
theorem quo_store {K x y : Nat} (hx : x < 18446744073709551616) (j : Nat) : (if j = y then x else limb (K * 2 ^ (64 * (y + 1))) j) = limb ((K * 18446744073709551616 + x) * 2 ^ (64 * y)) j := by
  have h0 : limb (K * 2 ^ (64 * (y + 1))) y = 0 := by
    unfold limb
    rw [pow64_succ, ← Nat.mul_assoc, Nat.mul_div_cancel _ (pow64_pos y), Nat.mul_mod_left]
  have := limb_addl (K * 2 ^ (64 * (y + 1))) x y j (by rw [h0]; omega)
  rw [h0, Nat.zero_add] at this
  rw [← this, Nat.add_mul, pow64_succ, Nat.mul_assoc]
theorem quo_sum {U U0 K x y D V : Nat} (h1 : U + x * D * 2 ^ (64 * y) = U0) (h2 : U0 + K * 2 ^ (64 * (y + 1)) * D = V) : U + (K * 18446744073709551616 + x) * 2 ^ (64 * y) * D = V := by
  rw [← h2, ← h1, pow64_succ]
  generalize 2 ^ (64 * y) = A
  grind
end Go.Proofs.Ytljblbgogjieaaa
set_option linter.unusedVariables false
set_option linter.unusedSimpArgs false
set_option maxRecDepth 20000
namespace Go.Proofs.Ytljblbgogjieaaa
open Go Go.RowKit
theorem nat_eq_iff {A B : Nat} (hA : A < W9) (hB : B < W9) : (decide (A = B)) = true ↔ ∀ i, i < 9 → limb A i = limb B i := by
  constructor
  · intro h i _; rw [of_decide_eq_true h]
  · intro h; exact decide_eq_true (limb_ext hA hB h)
theorem take_all (A : Nat) : (natL A).take 9 = natL A := List.take_of_length_le (by rw [natL_length]; exact Nat.le_refl _)
theorem eq_nat (A B : Nat) (hA : A < W9) (hB : B < W9) : EqD 3 Try.prog 25 (natV A) (natV B) (decide (A = B)) := by
  rw [← Bool.and_true (decide (A = B))]
  exact EqD.struct (fs := [_]) Try.underlying25 (by kernel_rfl) (EqFs.cons (by decide) (PartOf.agg Try.underlying23 rfl sz_23 (take_all A)) (PartOf.agg Try.underlying23 rfl sz_23 (take_all B)) (EqD.nums (nat_eq_iff hA hB) Try.underlying23 Try.underlying22 sz_22) EqFs.nil)
theorem c_By (m : Nat) (hm0 : m ≠ 0) (hm : m < W9) (w : World)  : Calls Try.prog 170 ([natV m] : List Value).toArray w (fun e w' => ∃ b, e = .returned (.agg [.pointer (some ⟨b, 0, none⟩)].toArray) ∧ w.heap.size ≤ b ∧ (Item.blk b ⟨false, dvL m, 241, (0, 0)⟩).holds w' ∧ Below w.heap.size w w') := by
  refine calls_ro (N := 5) (rs := [.cell 2 192]) [] Try.func170 rfl Try.ntmps170 Try.results170 (Nb rfl) trivial rfl ?_
  show LCode _ _ _ ⟨_, _⟩ _
  refine LCode.seq ?_
  refine LCode.region ?_
  refine LOps.step rfl (LStep.w (LStep.makes (Makes.boxA rfl) (Nb rfl) (fun b1 => ?_)))
  refine LOps.step rfl (LStep.w (LStep.makes (Makes.allocA zr_192) (Nb rfl) (fun b2 => ?_)))
  refine LOps.nil ?_
  refine LCode.seq ?_
  refine LCode.region ?_
  refine LOps.step rfl (LStep.w (LStep.call (Post := fun v its => ∃ b, v = .pointer (some ⟨b, 0, none⟩) ∧ its = [.blk b ⟨true, dvL m, 241, (0, 0)⟩]) (first := []) rfl en_183 rfl (Nb rfl) (fun w hw => (c_of m b1 _ hm0 w (hw _ (by repeat (first | exact Mh _ | apply Mt))) hm).mono fun e w' ⟨b, h1, h2, h3, h4⟩ => ⟨_, _, ⟨b, rfl, rfl⟩, h1, Brings.blk1 h4 h2 h3⟩) ?_))
  rintro _ _ ⟨bd, rfl, rfl⟩
  refine LOps.detP (Det.build pl_192 zr_192 rfl (((fillL_step (A := ([] : List Value)) (B := ([Value.pointer none])) (D := ([] : List Value)) (cs := [.pointer (some ⟨bd, 0, none⟩)]) rfl rfl (by first | exact natL_length _ | exact vec_length _ _ _ | exact wideL_length _ | exact dv_length _ _ _ | rfl | (simp only [List.length_append, List.length_cons, List.length_nil, natL_length, vec_length, wideL_length, dv_length, ptL_length, pjL_length])) (by first | rfl | simp only [List.append_assoc, List.nil_append, List.append_nil, List.cons_append]) (by first | exact natL_length _ | exact vec_length _ _ _ | exact wideL_length _ | exact dv_length _ _ _ | rfl | (simp only [List.length_append, List.length_cons, List.length_nil, natL_length, vec_length, wideL_length, dv_length, ptL_length, pjL_length])) (by first | exact natL_length _ | exact vec_length _ _ _ | exact wideL_length _ | exact dv_length _ _ _ | rfl | (simp only [List.length_append, List.length_cons, List.length_nil, natL_length, vec_length, wideL_length, dv_length, ptL_length, pjL_length])) rfl) : fillL _ _ _ = _).trans (congrArg some (show _ = ([.pointer (some ⟨bd, 0, none⟩)]) from by first | rfl | simp only [List.append_assoc, List.nil_append, List.append_nil, List.cons_append])))) (Nb rfl) ?_
  refine LOps.step rfl (LStepW.storeA rfl rfl sz_192 (by repeat (first | exact natL_one _ | exact vec_one _ _ _ | exact wideL_one _ | exact ptL_one _ _ _ | exact pjL_one _ _ _ | exact allOne_nil | refine allOne_cons rfl ?_ | refine allOne_append ?_ ?_)) (by repeat (first | exact Sh _ | apply St_)) (by first | exact natL_length _ | exact vec_length _ _ _ | exact wideL_length _ | exact ptL_length _ _ _ | exact pjL_length _ _ _ | rfl | simp [vec_length, natL_length, wideL_length]) ?_)
  refine LOps.nil ?_
  refine LCode.ret ?_
  refine ⟨[_], .cons ⟨_, _, _, rfl, (by repeat (first | exact Mh _ | apply Mt)), by exact LoadV.whole Try.underlying192 rfl sz_192⟩ .nil, fun a w' hr => ⟨bd, rfl, hr.new (B := ⟨true, dvL m, 241, (0, 0)⟩) (by repeat (first | exact Mh _ | apply Mt)) rfl, (show (Item.blk bd ⟨true, dvL m, 241, (0, 0)⟩).holds w' from hr.hp _ (by repeat (first | exact Mh _ | apply Mt))), hr.fr.below⟩⟩
end Go.Proofs.Ytljblbgogjieaaa
set_option linter.unusedVariables false
namespace Go.Proofs.Ytljblbgogjieaaa
open Go Go.RowKit
theorem word_digits (A i : Nat) : limb A i = D.limb A (2 * i) + 4294967296 * D.limb A (2 * i + 1) := by
  unfold limb D.limb
  have h1 : A / 2 ^ (32 * (2 * i + 1)) = A / 2 ^ (64 * i) / 4294967296 := by
    rw [Nat.div_div_eq_div_mul, show (4294967296 : Nat) = 2 ^ 32 from rfl, ← Nat.pow_add]; congr 2; omega
  rw [h1, show 32 * (2 * i) = 64 * i by omega]
  generalize A / 2 ^ (64 * i) = q
  omega
theorem digit_low (A i : Nat) : limb A i % 4294967296 = D.limb A (2 * i) := by
  have := word_digits A i
  have := D.limb_lt A (2 * i)
  omega
theorem digit_high (A i : Nat) : limb A i / 4294967296 = D.limb A (2 * i + 1) := by
  have := word_digits A i
  have := D.limb_lt A (2 * i)
  omega
theorem or_digits {a b : Nat} (ha : a < 4294967296) (hb : b < 4294967296) : (a ||| b * 4294967296 % 18446744073709551616) = a + 4294967296 * b := by
  have h := or_high (a := a) (z := b) (s := 32) ha (by decide)
  rw [show (2 : Nat) ^ 32 = 4294967296 from rfl] at h
  rw [h, Nat.mod_eq_of_lt (by omega)]; omega
theorem word_or (A i : Nat) : (D.limb A (2 * i) ||| D.limb A (2 * i + 1) * 4294967296 % 18446744073709551616) = limb A i := by
  rw [or_digits (D.limb_lt _ _) (D.limb_lt _ _), word_digits]
theorem w9_digits {i : Nat} (h : i = 18) : 2 ^ (32 * i) = W9 := by
  obtain ⟨j, hj⟩ : ∃ j : Nat, j = 9 := ⟨9, rfl⟩
  rw [← w9 hj, show 32 * i = 64 * j by omega]
theorem lt_w9_dig {A : Nat} (h : A < W9) : ∀ n, n = 18 → A < 2 ^ (32 * n) := fun n hn => by rw [w9_digits hn]; exact h
theorem nw_w9_dig {A : Nat} (h : A < W9) : D.nw A ≤ 18 := D.nw_le (lt_w9_dig h 18 rfl)
namespace D
theorem limb_zero (i : Nat) : limb 0 i = 0 := by simp [limb]
theorem nw_ne {A : Nat} (h : nw A ≠ 0) : 2 ^ (32 * (nw A - 1)) ≤ A := by
  have hA : A ≠ 0 := fun e => h (by rw [e]; rfl)
  have h1 := blen_pos hA
  have h2 := blen_ne hA
  exact Nat.le_trans (Nat.pow_le_pow_right (by decide) (by unfold nw; omega)) h1
theorem bits_words {A : Nat} (h : nw A ≠ 0) : 32 * (nw A - 1) + blen (limb A (nw A - 1)) = blen A := by
  have h1 := nw_ne h
  rw [limb_top (A := A) (n := nw A - 1) (by rw [show nw A - 1 + 1 = nw A by omega]; exact lt_nw A)]
  have := blen_shr h1
  omega
theorem nw_mono {A B : Nat} (h : A ≤ B) : nw A ≤ nw B := nw_le (Nat.lt_of_le_of_lt h (lt_nw B))
theorem lt_of_nw {A B : Nat} (h : nw A < nw B) : A < B := Nat.lt_of_not_le fun h' => by have := nw_mono h'; omega
theorem carry_borrow {A B : Nat} (h : B ≤ A) (i : Nat) : carry B (A - B) i = borrow A B i := by
  have hp := pow64_pos i
  have h0 : (B % 2 ^ (32 * i) + (A - B) % 2 ^ (32 * i)) % 2 ^ (32 * i) = A % 2 ^ (32 * i) := by rw [← Nat.add_mod]; congr 1; omega
  unfold carry borrow
  have h1 := Nat.mod_lt B hp
  have h2 := Nat.mod_lt (A - B) hp
  generalize B % 2 ^ (32 * i) = b at *
  generalize (A - B) % 2 ^ (32 * i) = d at *
  generalize A % 2 ^ (32 * i) = a at *
  generalize 2 ^ (32 * i) = M at *
  by_cases hc : b + d < M
  · rw [Nat.mod_eq_of_lt hc] at h0
    rw [Nat.div_eq_of_lt hc, if_neg (by omega)]
  · have e : b + d = (b + d - M) + M := by omega
    rw [e, Nat.add_mod_right, Nat.mod_eq_of_lt (by omega)] at h0
    rw [e, Nat.add_div_right _ hp, Nat.div_eq_of_lt (by omega), if_pos (by omega)]
theorem sub_limb {A B : Nat} (h : B ≤ A) (i : Nat) : (limb A i + 4294967296 - limb B i - borrow A B i) % 4294967296 = limb (A - B) i ∧ 1 - (limb A i + 4294967296 - limb B i - borrow A B i) / 4294967296 = borrow A B (i + 1) := by
  have h1 := add_limb B (A - B) i
  rw [carry_borrow h, carry_borrow h, show B + (A - B) = A by omega] at h1
  have h2 := limb_lt A i
  have h3 := limb_lt B i
  have h4 := limb_lt (A - B) i
  have h5 := borrow_le A B i
  have h6 := borrow_le A B (i + 1)
  omega
theorem ext {n A B : Nat} (hA : A < 2 ^ (32 * n)) (hB : B < 2 ^ (32 * n)) (h : ∀ i, i < n → limb A i = limb B i) : A = B := by
  have key : ∀ k, k ≤ n → A / 2 ^ (32 * (n - k)) = B / 2 ^ (32 * (n - k)) := by
    intro k
    induction k with
    | zero => intro _; rw [Nat.sub_zero, Nat.div_eq_of_lt hA, Nat.div_eq_of_lt hB]
    | succ k ih =>
      intro hk
      refine (div_eq_iff_limb A B (n - (k + 1))).2 ⟨?_, h _ (by omega)⟩
      rw [show n - (k + 1) + 1 = n - k by omega]
      exact ih (by omega)
  have := key n (Nat.le_refl _)
  simpa using this
theorem byte_of (A i : Nat) : limb A (i / 4) / 2 ^ (8 * (i % 4)) % 256 = A / 256 ^ i % 256 := by
  have h1 : A / 256 ^ i = A / 2 ^ (32 * (i / 4)) / 2 ^ (8 * (i % 4)) := by
    rw [pow256, Nat.div_div_eq_div_mul, ← Nat.pow_add]; congr 2; omega
  rw [h1]
  unfold limb
  generalize A / 2 ^ (32 * (i / 4)) = q
  have hr : i % 4 < 4 := Nat.mod_lt _ (by decide)
  generalize i % 4 = r at *
  have : ∀ r, r < 4 → q % 4294967296 / 2 ^ (8 * r) % 256 = q / 2 ^ (8 * r) % 256 := by
    intro r hr
    have hc : r = 0 ∨ r = 1 ∨ r = 2 ∨ r = 3 := by omega
    rcases hc with h | h | h | h <;> subst h <;> simp only [Nat.reduceMul, Nat.reducePow] <;> omega
  exact this r hr
theorem limb_below {V y s i k w : Nat} (hs : s * w = 32) (hk : k < w) (hi : V % 2 ^ (s * (w * i + k + 1)) = 0) (hy : y < 2 ^ s) : (limb V i ||| y * 2 ^ (s * k) % 4294967296) < 4294967296 ∧
    ∀ j, limb (V + y * 2 ^ (s * (w * i + k))) j = if j = i then (limb V i ||| y * 2 ^ (s * k) % 4294967296) else limb V j := by
  have h1 : 2 ^ (s * (w * i + k)) = 2 ^ (s * k) * 2 ^ (32 * i) := by
    rw [← Nat.pow_add, Nat.mul_add, ← Nat.mul_assoc, hs]; congr 1; omega
  have hle : s * k + s ≤ 32 := by
    have : s * (k + 1) ≤ s * w := Nat.mul_le_mul_left _ hk
    rw [Nat.mul_succ] at this
    omega
  have hpos : 0 < 2 ^ (s * k) := Nat.pow_pos (by decide)
  have hylt : y * 2 ^ (s * k) < 2 ^ (s * k + s) := by
    rw [Nat.add_comm, Nat.pow_add]; exact Nat.mul_lt_mul_of_pos_right hy hpos
  have hle2 : 2 ^ (s * k + s) ≤ 4294967296 := by
    have : 2 ^ (s * k + s) ≤ 2 ^ 32 := Nat.pow_le_pow_right (by decide) hle
    exact this
  have h2 : 2 ^ (s * (w * i + k + 1)) = 2 ^ (s * k + s) * 2 ^ (32 * i) := by
    rw [← Nat.pow_add, Nat.mul_add, Nat.mul_add, ← Nat.mul_assoc, hs]; congr 1; omega
  obtain ⟨m, hm⟩ := Nat.dvd_of_mod_eq_zero hi
  have hl : limb V i = m * 2 ^ (s * k + s) % 4294967296 := by
    unfold limb
    rw [hm, h2, show 2 ^ (s * k + s) * 2 ^ (32 * i) * m = m * 2 ^ (s * k + s) * 2 ^ (32 * i) by rw [Nat.mul_comm _ m, Nat.mul_assoc], Nat.mul_div_cancel _ (pow64_pos _)]
  have ho : (limb V i ||| y * 2 ^ (s * k) % 4294967296) = limb V i + y * 2 ^ (s * k) := by
    rw [Nat.mod_eq_of_lt (show y * 2 ^ (s * k) < 4294967296 by omega), hl, Nat.or_comm, or_high hylt hle, Nat.add_comm]
  have hlt : limb V i + y * 2 ^ (s * k) < 4294967296 := by
    rw [← ho]
    exact Nat.or_lt_two_pow (n := 32) (limb_lt V i) (Nat.mod_lt _ (by decide))
  rw [ho]
  refine ⟨hlt, fun j => ?_⟩
  have := limb_addl V (y * 2 ^ (s * k)) i j hlt
  rw [← this, h1, Nat.mul_assoc]
end D
theorem limb_piece64 {V y s i k w : Nat} (hs : s * w = 64) (hk : k < w) (hi : V < 2 ^ (s * (w * i + k))) (hy : y < 2 ^ s) : (limb V i ||| y * 2 ^ (s * k) % 18446744073709551616) < 18446744073709551616 ∧
    ∀ j, limb (y * 2 ^ (s * (w * i + k)) + V) j = if j = i then (limb V i ||| y * 2 ^ (s * k) % 18446744073709551616) else limb V j := by
  have h1 : 2 ^ (s * (w * i + k)) = 2 ^ (s * k) * 2 ^ (64 * i) := by
    rw [← Nat.pow_add, Nat.mul_add, ← Nat.mul_assoc, hs]; congr 1; omega
  have hl : limb V i < 2 ^ (s * k) := by
    have : V / 2 ^ (64 * i) < 2 ^ (s * k) := by
      rw [Nat.div_lt_iff_lt_mul (pow64_pos _), ← h1]; exact hi
    exact Nat.lt_of_le_of_lt (Nat.mod_le _ _) this
  have hle : s * k + s ≤ 64 := by
    have : s * (k + 1) ≤ s * w := Nat.mul_le_mul_left _ hk
    rw [Nat.mul_succ] at this
    omega
  have hlt : y * 2 ^ (s * k) + 2 ^ (s * k) ≤ 18446744073709551616 := by
    have h2 : (y + 1) * 2 ^ (s * k) ≤ 2 ^ s * 2 ^ (s * k) := Nat.mul_le_mul_right _ hy
    have h3 : 2 ^ s * 2 ^ (s * k) ≤ 2 ^ 64 := by rw [← Nat.pow_add]; exact Nat.pow_le_pow_right (by decide) (by omega)
    rw [Nat.add_mul] at h2
    have h4 : (2 : Nat) ^ 64 = 18446744073709551616 := rfl
    omega
  have hpos : 0 < 2 ^ (s * k) := Nat.pow_pos (by decide)
  have ho : (limb V i ||| y * 2 ^ (s * k) % 18446744073709551616) = limb V i + y * 2 ^ (s * k) := by
    rw [or_high hl (by omega), Nat.mod_eq_of_lt (by omega)]
  rw [ho]
  refine ⟨by omega, fun j => ?_⟩
  have := limb_addl V (y * 2 ^ (s * k)) i j (by omega)
  rw [← this, h1, Nat.mul_assoc, Nat.add_comm]
end Go.Proofs.Ytljblbgogjieaaa
set_option linter.unusedVariables false
set_option linter.unusedSimpArgs false
set_option maxRecDepth 20000
namespace Go.Proofs.Ytljblbgogjieaaa
open Go Go.RowKit
theorem c_trim (A b n c m : Nat) (ty : TypeId) (wr : Bool) (w : World) (hb : (Item.blk b ⟨wr, vec .u32 m (D.limb A), ty, (0, 0)⟩).holds w) (hnm : n ≤ m) (hnc : n ≤ c) (hc : n < 9223372036854775808) (hA : A < 2 ^ (32 * n)) : Calls Try.prog 120 ([.slice (some ⟨b, 0, none⟩) n c] : List Value).toArray w (fun e w' => e = .returned (.slice (some ⟨b, 0, none⟩) (D.nw A) c) ∧ Below w.heap.size w w') := by
  refine calls_ro (N := 21) (rs := [.tmp 2]) [.blk b ⟨false, vec .u32 m (D.limb A), ty, (0, 0)⟩] Try.func120 rfl Try.ntmps120 Try.results120 (Nb rfl) ⟨hb, trivial⟩ rfl ?_
  show LCode _ _ _ ⟨_, _⟩ _
  refine LCode.seq ?_
  refine LCode.region ?_
  refine LOps.detP (Det.assign rfl) (Nb rfl) ?_
  refine LOps.nil ?_
  refine LCode.seq ?_
  refine LCode.region ?_
  refine LOps.detP (Det.move rfl) (Nb rfl) ?_
  refine LOps.detP (Det.len Try.underlying29 rfl) (Nb rfl) ?_
  refine LOps.detP (Det.assign rfl) (Nb rfl) ?_
  refine LOps.nil ?_
  refine LCode.seq ?_
  refine LCode.block ?_
  refine LCode.loop (α := Nat) (fun x => x ≤ n ∧ A < 2 ^ (32 * x)) (fun x => ⟨[(0, .slice (some ⟨b, 0, none⟩) n c), (3, .int .i64 ((x : Nat) : Int))], [.blk b ⟨false, vec .u32 m (D.limb A), ty, (0, 0)⟩]⟩) (fun x => x) (n) (⟨Nat.le_refl _, hA⟩) (Sub.mk ⟨rfl, rfl, trivial⟩ (by repeat (first | exact Sel.nil _ | refine Sel.cons (by repeat (first | exact Ph _ | apply Pt_)) ?_))) ?_
  rintro x ⟨hx, hlt⟩
  refine LCode.seq ?_
  refine LCode.seq ?_
  by_cases h0 : 0 < x
  ·
    refine LCode.region ?_
    refine LOps.detP (Det.move rfl) (Nb rfl) ?_
    refine LOps.detP (Det.bin rfl rfl (br_t (br_gtr (b := 0)) h0)) (Nb rfl) ?_
    refine LOps.detP (Det.move rfl) (Nb rfl) ?_
    refine LOps.detGP rfl rfl (Det.move rfl) (Nb rfl) ?_
    refine LOps.detGP rfl rfl (Det.move rfl) (Nb rfl) ?_
    refine LOps.detGP rfl rfl (Det.bin rfl rfl (br_sub (b := 1) (by omega) (by omega))) (Nb rfl) ?_
    refine LOps.detGP rfl rfl (Det.indexS0 Try.underlying29 sz_56 rfl rfl (by omega)) (Nb rfl) ?_
    refine LOps.detG rfl rfl (Det.load rfl (by repeat (first | exact Mh _ | apply Mt)) (LoadV.one Try.underlying56 rfl (by exact vec_get _ _ _ (show x - 1 < m by omega)))) (Nb rfl) ?_
    refine LOps.detGP rfl rfl (Det.bin rfl rfl (br_eql (b := 0))) (Nb rfl) ?_
    refine LOps.detP (Det.pick_true rfl rfl) (Nb rfl) ?_
    refine LOps.nil ?_
    first | refine LCode.condD rfl (fun h15 => ?_) (fun h15 => ?_) | refine LCode.cond rfl (fun h15 => ?_) (fun h15 => ?_)
    ·
      have h15 : D.limb A (x - 1) = 0 := by have := h15; simpa using this
      refine LCode.skip ?_
      refine LCode.block ?_
      refine LCode.region ?_
      refine LOps.detP (Det.move rfl) (Nb rfl) ?_
      refine LOps.detP (Det.bin rfl rfl (br_sub (b := 1) (by omega) (by omega))) (Nb rfl) ?_
      refine LOps.detP (Det.assign rfl) (Nb rfl) ?_
      refine LOps.nil ?_
      refine ⟨x - 1, ⟨by omega, ?_⟩, by omega, Sub.mk ⟨rfl, rfl, trivial⟩ (by repeat (first | exact Sel.nil _ | refine Sel.cons (by repeat (first | exact Ph _ | apply Pt_)) ?_))⟩
      exact D.lt_of_limb_zero (A := A) (n := x - 1) (by rw [show x - 1 + 1 = x by omega]; exact hlt) h15
    ·
      have h15 : ¬ D.limb A (x - 1) = 0 := by have := h15; simpa using this
      refine LCode.exit ?_
      refine LCode.seq ?_
      refine LCode.region ?_
      refine LOps.detP (Det.move rfl) (Nb rfl) ?_
      refine LOps.detP (Det.move rfl) (Nb rfl) ?_
      refine LOps.detP (Det.slH Try.underlying29 sz_56 rfl rfl (by omega) (by omega)) (Nb rfl) ?_
      refine LOps.detP (Det.assign rfl) (Nb rfl) ?_
      refine LOps.nil ?_
      refine LCode.ret ?_
      have he : D.nw A = x := D.nw_eq hlt (.inr (D.le_of_limb (A := A) (n := x - 1) (by rw [show x - 1 + 1 = x by omega]; exact hlt) h15))
      refine ⟨[_], .cons rfl .nil, fun a w' hr => ⟨?_, hr.fr.below⟩⟩
      rw [he]; rfl
  ·
    refine LCode.region ?_
    refine LOps.detP (Det.move rfl) (Nb rfl) ?_
    refine LOps.detP (Det.bin rfl rfl (br_f (br_gtr (b := 0)) h0)) (Nb rfl) ?_
    refine LOps.detP (Det.move rfl) (Nb rfl) ?_
    refine LOps.skip rfl rfl rfl (Nb rfl) ?_
    refine LOps.skip rfl rfl rfl (Nb rfl) ?_
    refine LOps.skip rfl rfl rfl (Nb rfl) ?_
    refine LOps.skip rfl rfl rfl (Nb rfl) ?_
    refine LOps.skip rfl rfl rfl (Nb rfl) ?_
    refine LOps.skip rfl rfl rfl (Nb rfl) ?_
    refine LOps.detP (Det.pick_false rfl rfl) (Nb rfl) ?_
    refine LOps.nil ?_
    refine LCode.cond_false rfl ?_
    refine LCode.exit ?_
    refine LCode.seq ?_
    refine LCode.region ?_
    refine LOps.detP (Det.move rfl) (Nb rfl) ?_
    refine LOps.detP (Det.move rfl) (Nb rfl) ?_
    refine LOps.detP (Det.slH Try.underlying29 sz_56 rfl rfl (by omega) (by omega)) (Nb rfl) ?_
    refine LOps.detP (Det.assign rfl) (Nb rfl) ?_
    refine LOps.nil ?_
    refine LCode.ret ?_
    have he : D.nw A = x := D.nw_eq hlt (.inl (by omega))
    refine ⟨[_], .cons rfl .nil, fun a w' hr => ⟨?_, hr.fr.below⟩⟩
    rw [he]; rfl
theorem c_n_From (A : Nat) (hA : A < W9) (w : World)  : Calls Try.prog 52 ([natV A] : List Value).toArray w (fun e w' => NumR w ([]) (A) (fun v => v) e w') := by
  refine calls_ro (N := 33) (rs := [.tmp 2]) [] Try.func52 rfl Try.ntmps52 Try.results52 (Nb rfl) trivial rfl ?_
  show LCode _ _ _ ⟨_, _⟩ _
  refine LCode.seq ?_
  refine LCode.region ?_
  refine LOps.step rfl (LStep.w (LStep.makes (Makes.boxA rfl) (Nb rfl) (fun b1 => ?_)))
  refine LOps.detP (Det.assign rfl) (Nb rfl) ?_
  refine LOps.nil ?_
  refine LCode.seq ?_
  refine LCode.region ?_
  refine LOps.step rfl (LStep.w (LStep.makes (Makes.mkV Try.underlying29 inf_56 rfl rfl (by decide) (by decide)) (Nb rfl) (fun b5 => ?_)))
  refine LOps.detP (Det.assign rfl) (Nb rfl) ?_
  refine LOps.nil ?_
  refine LCode.seq ?_
  refine LCode.seq ?_
  refine LCode.region ?_
  refine LOps.detP (Det.assign (v := .int .i64 ((0 : Nat) : Int)) rfl) (Nb rfl) ?_
  refine LOps.nil ?_
  refine LCode.block ?_
  refine LCode.loop (α := Nat) (fun x => x ≤ 9) (fun x => ⟨[(1, .pointer (some ⟨b1, 0, none⟩)), (3, .slice (some ⟨b5, 0, none⟩) 18 18), (4, .int .i64 ((x : Nat) : Int))], [.blk b5 ⟨true, vec .u32 18 (fun j => if j < 2 * x then D.limb A j else 0), 56, (0, 0)⟩, .blk b1 ⟨true, natL A, 25, (0, 0)⟩]⟩) (fun x => 9 - x) (0) (Nat.zero_le _) (Sub.mk ⟨rfl, rfl, rfl, trivial⟩ (by repeat (first | exact Sel.nil _ | refine Sel.cons (by repeat (first | exact Ph _ | apply Pt_)) ?_))) ?_
  intro x hx
  refine LCode.seq ?_
  refine LCode.seq ?_
  refine LCode.region ?_
  refine LOps.detP (Det.move rfl) (Nb rfl) ?_
  refine LOps.detP (Det.bin rfl rfl (br_lss (b := 9))) (Nb rfl) ?_
  refine LOps.nil ?_
  first | refine LCode.condD rfl (fun h7 => ?_) (fun h7 => ?_) | refine LCode.cond rfl (fun h7 => ?_) (fun h7 => ?_)
  ·
    refine LCode.skip ?_
    refine LCode.seq ?_
    refine LCode.block ?_
    refine LCode.seq ?_
    refine LCode.region ?_
    refine LOps.detP (Det.move rfl) (Nb rfl) ?_
    refine LOps.detP (Det.move rfl) (Nb rfl) ?_
    refine LOps.detP (Det.bin rfl rfl (br_mul (a := 2) (by omega))) (Nb rfl) ?_
    refine LOps.detP (Det.move rfl) (Nb rfl) ?_
    refine LOps.detP (Det.fieldA (o' := 0) Try.underlying25 rfl rfl rfl sz_23 (by decide)) (Nb rfl) ?_
    refine LOps.detP (Det.indexA0 Try.underlying23 sz_22 rfl rfl (by omega)) (Nb rfl) ?_
    refine LOps.det (Det.load rfl (by repeat (first | exact Mh _ | apply Mt)) (LoadV.one Try.underlying22 rfl (by exact natL_get _ (by omega)))) (Nb rfl) ?_
    refine LOps.detP (Det.bin rfl rfl (br_and64 (b := 4294967295) (limb_lt _ _) (by decide))) (Nb rfl) ?_
    refine LOps.detP (Det.conv32 Try.underlying22 Try.underlying56 rfl) (Nb rfl) ?_
    refine LOps.detP (Det.indexS0 Try.underlying29 sz_56 rfl rfl (by omega)) (Nb rfl) ?_
    refine LOps.step rfl (LStepW.store1 rfl rfl rfl sz_56 (by repeat (first | exact Sh _ | apply St_)) (by first | (simp only [vec_length, natL_length, wideL_length, dv_length]; omega) | (simp; omega)) (by first | exact vec_set _ _ _ _ _ | exact dv_setm _ _ _ _ (by omega) | exact dv_sets _ _ _ _ | rfl) (by simp) ?_)
    refine LOps.nil ?_
    refine LCode.region ?_
    refine LOps.detP (Det.move rfl) (Nb rfl) ?_
    refine LOps.detP (Det.move rfl) (Nb rfl) ?_
    refine LOps.detP (Det.bin rfl rfl (br_mul (a := 2) (by omega))) (Nb rfl) ?_
    refine LOps.detP (Det.bin rfl rfl (br_add (b := 1) (by omega))) (Nb rfl) ?_
    refine LOps.detP (Det.move rfl) (Nb rfl) ?_
    refine LOps.detP (Det.fieldA (o' := 0) Try.underlying25 rfl rfl rfl sz_23 (by decide)) (Nb rfl) ?_
    refine LOps.detP (Det.indexA0 Try.underlying23 sz_22 rfl rfl (by omega)) (Nb rfl) ?_
    refine LOps.det (Det.load rfl (by repeat (first | exact Mh _ | apply Mt)) (LoadV.one Try.underlying22 rfl (by exact natL_get _ (by omega)))) (Nb rfl) ?_
    refine LOps.detP (Det.bin rfl rfl (br_shr64 (b := 32) (limb_lt _ _))) (Nb rfl) ?_
    refine LOps.detP (Det.conv32 Try.underlying22 Try.underlying56 rfl) (Nb rfl) ?_
    refine LOps.detP (Det.indexS0 Try.underlying29 sz_56 rfl rfl (by omega)) (Nb rfl) ?_
    refine LOps.step rfl (LStepW.store1 rfl rfl rfl sz_56 (by repeat (first | exact Sh _ | apply St_)) (by first | (simp only [vec_length, natL_length, wideL_length, dv_length]; omega) | (simp; omega)) (by first | exact vec_set _ _ _ _ _ | exact dv_setm _ _ _ _ (by omega) | exact dv_sets _ _ _ _ | rfl) (by simp) ?_)
    refine LOps.nil ?_
    refine LCode.region ?_
    refine LOps.detP (Det.move rfl) (Nb rfl) ?_
    refine LOps.detP (Det.bin rfl rfl (br_add (b := 1) (by omega))) (Nb rfl) ?_
    refine LOps.detP (Det.assign rfl) (Nb rfl) ?_
    refine LOps.nil ?_
    refine ⟨x + 1, by omega, by omega, Sub.re (Sub.cells (b := b5) (cs' := vec .u32 18 (fun j => if j < 2 * (x + 1) then D.limb A j else 0)) (by repeat (first | exact Sh _ | apply St_)) (vec_congr fun j hj => ?_)) (Sub.mk ⟨rfl, rfl, rfl, trivial⟩ (by repeat (first | exact Sel.nil _ | refine Sel.cons (by repeat (first | exact Ph _ | apply Pt_)) ?_)))⟩
    by_cases e : j = 2 * x + 1
    · rw [if_pos e, if_pos (by omega), e, ← digit_high]
      exact Nat.mod_eq_of_lt (by have := limb_lt A x; rw [show (2 : Nat) ^ 32 = 4294967296 from rfl]; omega)
    · rw [if_neg e]
      by_cases e2 : j = 2 * x
      · rw [if_pos e2, if_pos (by omega), e2, and32, Nat.mod_mod, digit_low]
      · rw [if_neg e2]
        by_cases e3 : j < 2 * x
        · rw [if_pos e3, if_pos (by omega)]
        · rw [if_neg e3, if_neg (by omega)]
  ·
    refine LCode.exit ?_
    refine LCode.seq ?_
    obtain rfl : x = 9 := by omega
    refine LCode.sub (Sub.cells (b := b5) (cs' := vec .u32 18 (D.limb A)) (by repeat (first | exact Sh _ | apply St_)) (vec_congr fun j hj => if_pos (by omega))) ?_
    refine LCode.region ?_
    refine LOps.detP (Det.move rfl) (Nb rfl) ?_
    refine LOps.step rfl (LStep.w (LStep.callF (first := []) rfl en_120 rfl (Nb rfl) (fun w hw => c_trim A b5 18 18 18 _ true w (hw _ (by repeat (first | exact Mh _ | apply Mt))) (Nat.le_refl _) (Nat.le_refl _) (by decide) (lt_w9_dig hA 18 rfl)) ?_))
    refine LOps.detP (Det.assign rfl) (Nb rfl) ?_
    refine LOps.nil ?_
    refine LCode.ret ?_
    refine ⟨[_], .cons rfl .nil, fun a w' hr => hr.num (by repeat (first | exact Mh _ | apply Mt)) (lt_w9_dig hA 18 rfl)⟩
theorem c_n_digit (q : NV) (A n i : Nat) (w : World) (hq : (numI q A n).holds w) : Calls Try.prog 118 ([slV q n, .int .i64 ((i : Nat) : Int)] : List Value).toArray w (fun e w' => e = .returned (.int .u64 ((D.limb A i : Nat) : Int)) ∧ Below w.heap.size w w') := by
  have hA := numI_lt hq
  refine calls_ro (N := 14) (rs := [.tmp 4]) [numI q A n] Try.func118 rfl Try.ntmps118 Try.results118 (Nb rfl) ⟨hq, trivial⟩ rfl ?_
  show LCode _ _ _ ⟨_, _⟩ _
  refine LCode.seq ?_
  refine LCode.region ?_
  refine LOps.detP (Det.assign (v := .int .u64 ((0 : Nat) : Int)) rfl) (Nb rfl) ?_
  refine LOps.nil ?_
  refine LCode.seq ?_
  refine LCode.seq ?_
  refine LCode.region ?_
  refine LOps.detP (Det.move rfl) (Nb rfl) ?_
  refine LOps.detP (Det.move rfl) (Nb rfl) ?_
  refine LOps.detP (Det.len Try.underlying29 rfl) (Nb rfl) ?_
  refine LOps.detP (Det.bin rfl rfl (br_lss)) (Nb rfl) ?_
  refine LOps.nil ?_
  first | refine LCode.condD rfl (fun h8 => ?_) (fun h8 => ?_) | refine LCode.cond rfl (fun h8 => ?_) (fun h8 => ?_)
  ·
    have h8 : i < n := h8
    refine LCode.seq ?_
    refine LCode.region ?_
    refine LOps.detP (Det.move rfl) (Nb rfl) ?_
    refine LOps.detP (Det.move rfl) (Nb rfl) ?_
    refine LOps.detP (Det.indexN Try.underlying29 sz_56 rfl rfl (by omega)) (Nb rfl) ?_
    refine LOps.det (Det.loadN Try.underlying56 rfl rfl (by repeat (first | exact Mh _ | apply Mt)) (by omega)) (Nb rfl) ?_
    refine LOps.detP (Det.conv64 Try.underlying56 Try.underlying22 rfl (by first | omega | exact Nat.lt_trans (D.limb_lt _ _) (by decide))) (Nb rfl) ?_
    refine LOps.detP (Det.assign rfl) (Nb rfl) ?_
    refine LOps.nil ?_
    refine LCode.ret ?_
    refine ⟨[_], .cons rfl .nil, fun a w' hr => ⟨rfl, hr.fr.below⟩⟩
  ·
    have h8 : ¬ i < n := h8
    refine LCode.skip ?_
    refine LCode.seq ?_
    refine LCode.region ?_
    refine LOps.detP (Det.assign (v := .int .u64 ((0 : Nat) : Int)) rfl) (Nb rfl) ?_
    refine LOps.nil ?_
    refine LCode.ret ?_
    have hz : D.limb A i = 0 := D.limb_high (n := n) hA (by omega)
    refine ⟨[_], .cons rfl .nil, fun a w' hr => ⟨?_, hr.fr.below⟩⟩
    rw [hz]; rfl
end Go.Proofs.Ytljblbgogjieaaa
set_option linter.unusedVariables false
set_option linter.unusedSimpArgs false
set_option maxRecDepth 20000
namespace Go.Proofs.Ytljblbgogjieaaa
open Go Go.RowKit
theorem c_n_Nat (q : NV) (A n : Nat) (w : World) (hq : (numI q A n).holds w) : Calls Try.prog 50 ([slV q n] : List Value).toArray w (fun e w' => e = .returned (natV A) ∧ Below w.heap.size w w') := by
  refine calls_ro (N := 24) (rs := [.cell 2 25]) [numI q A n] Try.func50 rfl Try.ntmps50 Try.results50 (Nb rfl) ⟨hq, trivial⟩ rfl ?_
  show LCode _ _ _ ⟨_, _⟩ _
  refine LCode.seq ?_
  refine LCode.region ?_
  refine LOps.step rfl (LStep.w (LStep.makes (Makes.allocA zr_25) (Nb rfl) (fun b2 => ?_)))
  refine LOps.nil ?_
  refine LCode.seq ?_
  refine LCode.region ?_
  refine LOps.step rfl (LStep.w (LStep.makes (Makes.allocA zr_25) (Nb rfl) (fun b3 => ?_)))
  refine LOps.nil ?_
  refine LCode.seq ?_
  refine LCode.seq ?_
  refine LCode.region ?_
  refine LOps.detP (Det.assign (v := .int .i64 ((0 : Nat) : Int)) rfl) (Nb rfl) ?_
  refine LOps.nil ?_
  refine LCode.block ?_
  refine LCode.loop (α := Nat) (fun x => x ≤ 9) (fun x => ⟨[(0, slV q n), (2, .pointer (some ⟨b2, 0, none⟩)), (3, .pointer (some ⟨b3, 0, none⟩)), (4, .int .i64 ((x : Nat) : Int))], [.blk b3 ⟨true, vec .u64 9 (fun j => if j < x then limb A j else 0), 25, (0, 0)⟩, .blk b2 ⟨true, vec .u64 9 (fun _ => 0), 25, (0, 0)⟩, numI q A n]⟩) (fun x => 9 - x) (0) (Nat.zero_le _) (Sub.mk ⟨rfl, rfl, rfl, rfl, trivial⟩ (by repeat (first | exact Sel.nil _ | refine Sel.cons (by repeat (first | exact Ph _ | apply Pt_)) ?_))) ?_
  intro x hx
  refine LCode.seq ?_
  refine LCode.seq ?_
  refine LCode.region ?_
  refine LOps.detP (Det.move rfl) (Nb rfl) ?_
  refine LOps.detP (Det.bin rfl rfl (br_lss (b := 9))) (Nb rfl) ?_
  refine LOps.nil ?_
  first | refine LCode.condD rfl (fun h6 => ?_) (fun h6 => ?_) | refine LCode.cond rfl (fun h6 => ?_) (fun h6 => ?_)
  ·
    refine LCode.skip ?_
    refine LCode.seq ?_
    refine LCode.block ?_
    refine LCode.region ?_
    refine LOps.detP (Det.move rfl) (Nb rfl) ?_
    refine LOps.detP (Det.move rfl) (Nb rfl) ?_
    refine LOps.detP (Det.move rfl) (Nb rfl) ?_
    refine LOps.detP (Det.bin rfl rfl (br_mul (a := 2) (by omega))) (Nb rfl) ?_
    refine LOps.step rfl (LStep.w (LStep.callF (first := []) rfl en_118 rfl (Nb rfl) (fun w hw => c_n_digit _ _ _ _ w (hw _ (by repeat (first | exact Mh _ | apply Mt)))) ?_))
    refine LOps.detP (Det.move rfl) (Nb rfl) ?_
    refine LOps.detP (Det.move rfl) (Nb rfl) ?_
    refine LOps.detP (Det.bin rfl rfl (br_mul (a := 2) (by omega))) (Nb rfl) ?_
    refine LOps.detP (Det.bin rfl rfl (br_add (b := 1) (by omega))) (Nb rfl) ?_
    refine LOps.step rfl (LStep.w (LStep.callF (first := []) rfl en_118 rfl (Nb rfl) (fun w hw => c_n_digit _ _ _ _ w (hw _ (by repeat (first | exact Mh _ | apply Mt)))) ?_))
    refine LOps.detP (Det.bin rfl rfl (br_shl64 (b := 32))) (Nb rfl) ?_
    refine LOps.detP (Det.bin rfl rfl (br_or64 (Nat.lt_trans (D.limb_lt _ _) (by decide)) (Nat.mod_lt _ (by decide)))) (Nb rfl) ?_
    refine LOps.detP (Det.fieldA (o' := 0) Try.underlying25 rfl rfl rfl sz_23 (by decide)) (Nb rfl) ?_
    refine LOps.detP (Det.indexA0 Try.underlying23 sz_22 rfl rfl (by omega)) (Nb rfl) ?_
    refine LOps.step rfl (LStepW.store1 rfl rfl rfl sz_22 (by repeat (first | exact Sh _ | apply St_)) (by first | (simp only [vec_length, natL_length, wideL_length, dv_length]; omega) | (simp; omega)) (by first | exact vec_set _ _ _ _ _ | exact dv_setm _ _ _ _ (by omega) | exact dv_sets _ _ _ _ | rfl) (by simp) ?_)
    refine LOps.nil ?_
    refine LCode.region ?_
    refine LOps.detP (Det.move rfl) (Nb rfl) ?_
    refine LOps.detP (Det.bin rfl rfl (br_add (b := 1) (by omega))) (Nb rfl) ?_
    refine LOps.detP (Det.assign rfl) (Nb rfl) ?_
    refine LOps.nil ?_
    refine ⟨x + 1, by omega, by omega, Sub.re (Sub.cells (b := b3) (cs' := vec .u64 9 (fun j => if j < x + 1 then limb A j else 0)) (by repeat (first | exact Sh _ | apply St_)) (vec_congr fun j hj => ?_)) (Sub.mk ⟨rfl, rfl, rfl, rfl, trivial⟩ (by repeat (first | exact Sel.nil _ | refine Sel.cons (by repeat (first | exact Ph _ | apply Pt_)) ?_)))⟩
    by_cases e : j = x
    · rw [if_pos e, if_pos (by omega), e]
      exact word_or A x
    · rw [if_neg e]
      by_cases e3 : j < x
      · rw [if_pos e3, if_pos (by omega)]
      · rw [if_neg e3, if_neg (by omega)]
  ·
    refine LCode.exit ?_
    refine LCode.seq ?_
    obtain rfl : x = 9 := by omega
    refine LCode.sub (Sub.cells (b := b3) (cs' := natL A) (by repeat (first | exact Sh _ | apply St_)) (vec_congr fun j hj => if_pos (by omega))) ?_
    refine LCode.region ?_
    refine LOps.det (Det.load rfl (by repeat (first | exact Mh _ | apply Mt)) (by exact LoadV.whole Try.underlying25 rfl sz_25)) (Nb rfl) ?_
    refine LOps.step rfl (LStepW.storeA rfl rfl sz_25 (by repeat (first | exact natL_one _ | exact vec_one _ _ _ | exact wideL_one _ | exact ptL_one _ _ _ | exact pjL_one _ _ _ | exact allOne_nil | refine allOne_cons rfl ?_ | refine allOne_append ?_ ?_)) (by repeat (first | exact Sh _ | apply St_)) (by first | exact natL_length _ | exact vec_length _ _ _ | exact wideL_length _ | exact ptL_length _ _ _ | exact pjL_length _ _ _ | rfl | simp [vec_length, natL_length, wideL_length]) ?_)
    refine LOps.nil ?_
    refine LCode.ret ?_
    refine ⟨[_], .cons ⟨_, _, _, rfl, (by repeat (first | exact Mh _ | apply Mt)), by exact LoadV.whole Try.underlying25 rfl sz_25⟩ .nil, fun a w' hr => ⟨?_, hr.fr.below⟩⟩
    rfl
theorem c_n_Cmp (q r : NV) (A B : Nat) (w : World) (hq : (numT q A).holds w) (hr : (numT r B).holds w) (hA : D.nw A ≤ 1000000) : Calls Try.prog 70 ([numV q A, numV r B] : List Value).toArray w (fun e w' => e = .returned (.int .i64 (cmpI A B)) ∧ Below w.heap.size w w') := by
  refine calls_ro (N := 41) (rs := [.tmp 4]) [numT q A, numT r B] Try.func70 rfl Try.ntmps70 Try.results70 (Nb rfl) ⟨hq, hr, trivial⟩ rfl ?_
  show LCode _ _ _ ⟨_, _⟩ _
  refine LCode.seq ?_
  refine LCode.region ?_
  refine LOps.detP (Det.assign (v := .int .i64 ((0 : Nat) : Int)) rfl) (Nb rfl) ?_
  refine LOps.nil ?_
  refine LCode.seq ?_
  refine LCode.seq ?_
  refine LCode.region ?_
  refine LOps.detP (Det.move rfl) (Nb rfl) ?_
  refine LOps.detP (Det.len Try.underlying29 rfl) (Nb rfl) ?_
  refine LOps.detP (Det.move rfl) (Nb rfl) ?_
  refine LOps.detP (Det.len Try.underlying29 rfl) (Nb rfl) ?_
  refine LOps.detP (Det.bin rfl rfl (br_neq)) (Nb rfl) ?_
  refine LOps.nil ?_
  first | refine LCode.condD rfl (fun h10 => ?_) (fun h10 => ?_) | refine LCode.cond rfl (fun h10 => ?_) (fun h10 => ?_)
  ·
    have h10 : ¬ D.nw A = D.nw B := by have := h10; simpa using this
    refine LCode.seq ?_
    refine LCode.seq ?_
    refine LCode.region ?_
    refine LOps.detP (Det.move rfl) (Nb rfl) ?_
    refine LOps.detP (Det.len Try.underlying29 rfl) (Nb rfl) ?_
    refine LOps.detP (Det.move rfl) (Nb rfl) ?_
    refine LOps.detP (Det.len Try.underlying29 rfl) (Nb rfl) ?_
    refine LOps.detP (Det.bin rfl rfl (br_lss)) (Nb rfl) ?_
    refine LOps.nil ?_
    first | refine LCode.condD rfl (fun h15 => ?_) (fun h15 => ?_) | refine LCode.cond rfl (fun h15 => ?_) (fun h15 => ?_)
    ·
      have h15 : D.nw A < D.nw B := by have := h15; simpa using this
      refine LCode.seq ?_
      refine LCode.region ?_
      refine LOps.detP (Det.assign rfl) (Nb rfl) ?_
      refine LOps.nil ?_
      refine LCode.ret ?_
      have he : A < B := D.lt_of_nw h15
      refine ⟨[_], .cons rfl .nil, fun a w' hr => ⟨?_, hr.fr.below⟩⟩
      simp [resOf, cmpI, he]
    ·
      have h15 : ¬ D.nw A < D.nw B := by have := h15; simpa using this
      refine LCode.skip ?_
      refine LCode.seq ?_
      refine LCode.region ?_
      refine LOps.detP (Det.assign (v := .int .i64 ((1 : Nat) : Int)) rfl) (Nb rfl) ?_
      refine LOps.nil ?_
      refine LCode.ret ?_
      have he : B < A := D.lt_of_nw (by omega)
      have he2 : ¬ A < B := by omega
      refine ⟨[_], .cons rfl .nil, fun a w' hr => ⟨?_, hr.fr.below⟩⟩
      simp [resOf, cmpI, he, he2]
  ·
    have h10 : D.nw A = D.nw B := by have := h10; simpa using this
    refine LCode.skip ?_
    refine LCode.seq ?_
    refine LCode.seq ?_
    refine LCode.region ?_
    refine LOps.detP (Det.move rfl) (Nb rfl) ?_
    refine LOps.detP (Det.len Try.underlying29 rfl) (Nb rfl) ?_
    refine LOps.detP (Det.bin (v := .int .i64 ((D.nw A : Int) - 1)) rfl rfl (br_subI (by omega) (by omega))) (Nb rfl) ?_
    refine LOps.detP (Det.assign rfl) (Nb rfl) ?_
    refine LOps.nil ?_
    refine LCode.block ?_
    refine LCode.loop (α := Nat) (fun x => x ≤ D.nw A ∧ A / 2 ^ (32 * x) = B / 2 ^ (32 * x)) (fun x => ⟨[(0, numV q A), (1, numV r B), (5, .int .i64 ((x : Int) - 1))], [numT q A, numT r B]⟩) (fun x => x) (D.nw A) (⟨Nat.le_refl _, by rw [Nat.div_eq_of_lt (D.lt_nw A), h10, Nat.div_eq_of_lt (D.lt_nw B)]⟩) (Sub.mk ⟨rfl, rfl, rfl, trivial⟩ (by repeat (first | exact Sel.nil _ | refine Sel.cons (by repeat (first | exact Ph _ | apply Pt_)) ?_))) ?_
    rintro x ⟨hx, hab⟩
    refine LCode.seq ?_
    refine LCode.seq ?_
    rcases Nat.eq_zero_or_pos x with h0 | h0
    ·
      refine LCode.region ?_
      refine LOps.detP (Det.move rfl) (Nb rfl) ?_
      refine LOps.detP (Det.bin (v := .bool false) rfl rfl (by subst h0; rfl)) (Nb rfl) ?_
      refine LOps.nil ?_
      refine LCode.cond_false rfl ?_
      refine LCode.exit ?_
      refine LCode.seq ?_
      refine LCode.region ?_
      refine LOps.detP (Det.assign (v := .int .i64 ((0 : Nat) : Int)) rfl) (Nb rfl) ?_
      refine LOps.nil ?_
      refine LCode.ret ?_
      have he : A = B := by subst h0; simpa using hab
      refine ⟨[_], .cons rfl .nil, fun a w' hr => ⟨?_, hr.fr.below⟩⟩
      simp [resOf, cmpI, he]
    ·
      obtain ⟨x, rfl⟩ : ∃ y, x = y + 1 := ⟨x - 1, by omega⟩
      refine LCode.region ?_
      refine LOps.detP (Det.move rfl) (Nb rfl) ?_
      refine LOps.detP (Det.bin (v := .bool true) rfl rfl (by simp [binRes])) (Nb rfl) ?_
      refine LOps.nil ?_
      refine LCode.cond_true rfl ?_
      refine LCode.skip ?_
      refine LCode.seq ?_
      refine LCode.block ?_
      refine LCode.seq ?_
      refine LCode.regionD [] (by kernel_rfl) ?_
      refine LAny.takeP 0 rfl (by kernel_rfl) (Nb rfl) (Det.move rfl) ?_
      refine LAny.takeP 1 rfl (by kernel_rfl) (Nb rfl) (Det.move (v := .int .i64 ((x : Nat) : Int)) (by show some _ = some _; congr 2; omega)) ?_
      refine LAny.takeP 2 rfl (by kernel_rfl) (Nb rfl) (Det.indexN Try.underlying29 sz_56 rfl rfl (by omega)) ?_
      refine LAny.take 3 rfl (by kernel_rfl) (Nb rfl) (Det.loadN Try.underlying56 rfl rfl (by repeat (first | exact Mh _ | apply Mt)) (by omega)) ?_
      refine LAny.takeP 4 rfl (by kernel_rfl) (Nb rfl) (Det.move rfl) ?_
      refine LAny.takeP 5 rfl (by kernel_rfl) (Nb rfl) (Det.move (v := .int .i64 ((x : Nat) : Int)) (by show some _ = some _; congr 2; omega)) ?_
      refine LAny.takeP 6 rfl (by kernel_rfl) (Nb rfl) (Det.indexN Try.underlying29 sz_56 rfl rfl (by omega)) ?_
      refine LAny.take 7 rfl (by kernel_rfl) (Nb rfl) (Det.loadN Try.underlying56 rfl rfl (by repeat (first | exact Mh _ | apply Mt)) (by omega)) ?_
      refine LAny.takeP 8 rfl (by kernel_rfl) (Nb rfl) (Det.bin rfl rfl (br_neq)) ?_
      refine LAny.done (by kernel_rfl) ?_
      first | refine LCode.condD rfl (fun h31 => ?_) (fun h31 => ?_) | refine LCode.cond rfl (fun h31 => ?_) (fun h31 => ?_)
      ·
        refine LCode.seq ?_
        refine LCode.seq ?_
        refine LCode.regionD [] (by kernel_rfl) ?_
        refine LAny.takeP 0 rfl (by kernel_rfl) (Nb rfl) (Det.move rfl) ?_
        refine LAny.takeP 1 rfl (by kernel_rfl) (Nb rfl) (Det.move (v := .int .i64 ((x : Nat) : Int)) (by show some _ = some _; congr 2; omega)) ?_
        refine LAny.takeP 2 rfl (by kernel_rfl) (Nb rfl) (Det.indexN Try.underlying29 sz_56 rfl rfl (by omega)) ?_
        refine LAny.take 3 rfl (by kernel_rfl) (Nb rfl) (Det.loadN Try.underlying56 rfl rfl (by repeat (first | exact Mh _ | apply Mt)) (by omega)) ?_
        refine LAny.takeP 4 rfl (by kernel_rfl) (Nb rfl) (Det.move rfl) ?_
        refine LAny.takeP 5 rfl (by kernel_rfl) (Nb rfl) (Det.move (v := .int .i64 ((x : Nat) : Int)) (by show some _ = some _; congr 2; omega)) ?_
        refine LAny.takeP 6 rfl (by kernel_rfl) (Nb rfl) (Det.indexN Try.underlying29 sz_56 rfl rfl (by omega)) ?_
        refine LAny.take 7 rfl (by kernel_rfl) (Nb rfl) (Det.loadN Try.underlying56 rfl rfl (by repeat (first | exact Mh _ | apply Mt)) (by omega)) ?_
        refine LAny.takeP 8 rfl (by kernel_rfl) (Nb rfl) (Det.bin rfl rfl (br_lss)) ?_
        refine LAny.done (by kernel_rfl) ?_
        first | refine LCode.condD rfl (fun h40 => ?_) (fun h40 => ?_) | refine LCode.cond rfl (fun h40 => ?_) (fun h40 => ?_)
        ·
          refine LCode.seq ?_
          refine LCode.region ?_
          refine LOps.detP (Det.assign rfl) (Nb rfl) ?_
          refine LOps.nil ?_
          refine LCode.ret ?_
          have he : A < B := D.lt_of_limb hab h40
          refine ⟨[_], .cons rfl .nil, fun a w' hr => ⟨?_, hr.fr.below⟩⟩
          simp [resOf, cmpI, he]
        ·
          refine LCode.skip ?_
          refine LCode.seq ?_
          refine LCode.region ?_
          refine LOps.detP (Det.assign (v := .int .i64 ((1 : Nat) : Int)) rfl) (Nb rfl) ?_
          refine LOps.nil ?_
          refine LCode.ret ?_
          have he : B < A := D.lt_of_limb hab.symm (by omega)
          have he2 : ¬ A < B := by omega
          refine ⟨[_], .cons rfl .nil, fun a w' hr => ⟨?_, hr.fr.below⟩⟩
          simp [resOf, cmpI, he, he2]
      ·
        refine LCode.skip ?_
        refine LCode.region ?_
        refine LOps.detP (Det.move (v := .int .i64 ((x : Nat) : Int)) (by show some _ = some _; congr 2; omega)) (Nb rfl) ?_
        refine LOps.detP (Det.bin rfl rfl rfl) (Nb rfl) ?_
        refine LOps.detP (Det.assign rfl) (Nb rfl) ?_
        refine LOps.nil ?_
        refine ⟨x, ⟨by omega, ?_⟩, by omega, Sub.mk ⟨rfl, rfl, ?_, trivial⟩ (by repeat (first | exact Sel.nil _ | refine Sel.cons (by repeat (first | exact Ph _ | apply Pt_)) ?_))⟩
        · have h1 : D.limb A x = D.limb B x := by have := h31; omega
          exact (D.div_eq_iff_limb A B x).2 ⟨hab, h1⟩
        · exact congrArg (fun i : Int => some (Value.int .i64 i)) (wrap_i64 (by omega) (by omega))
theorem c_n_Sub (q r : NV) (A B : Nat) (w : World) (hq : (numT q A).holds w) (hr : (numT r B).holds w) (hBA : B ≤ A) (hA : D.nw A ≤ 1000000) : Calls Try.prog 65 ([numV q A, numV r B] : List Value).toArray w (fun e w' => NumR w ([]) (A - B) (fun v => v) e w') := by
  refine calls_ro (N := 39) (rs := [.tmp 4]) [numT q A, numT r B] Try.func65 rfl Try.ntmps65 Try.results65 (Nb rfl) ⟨hq, hr, trivial⟩ rfl ?_
  show LCode _ _ _ ⟨_, _⟩ _
  refine LCode.seq ?_
  refine LCode.region ?_
  refine LOps.detP (Det.assign rfl) (Nb rfl) ?_
  refine LOps.nil ?_
  refine LCode.seq ?_
  refine LCode.region ?_
  refine LOps.detP (Det.move rfl) (Nb rfl) ?_
  refine LOps.detP (Det.len Try.underlying29 rfl) (Nb rfl) ?_
  refine LOps.step rfl (LStep.w (LStep.makes (Makes.mkV Try.underlying29 inf_56 rfl rfl (by omega) (by omega)) (Nb rfl) (fun b11 => ?_)))
  refine LOps.detP (Det.assign rfl) (Nb rfl) ?_
  refine LOps.nil ?_
  refine LCode.seq ?_
  refine LCode.region ?_
  refine LOps.detP (Det.assign (v := .int .u64 ((0 : Nat) : Int)) rfl) (Nb rfl) ?_
  refine LOps.nil ?_
  refine LCode.seq ?_
  refine LCode.seq ?_
  refine LCode.region ?_
  refine LOps.detP (Det.assign (v := .int .i64 ((0 : Nat) : Int)) rfl) (Nb rfl) ?_
  refine LOps.nil ?_
  refine LCode.block ?_
  refine LCode.loop (α := Nat) (fun x => x ≤ D.nw A) (fun x => ⟨[(0, numV q A), (1, numV r B), (5, .slice (some ⟨b11, 0, none⟩) (D.nw A) (D.nw A)), (6, .int .u64 ((D.borrow A B x : Nat) : Int)), (7, .int .i64 ((x : Nat) : Int))], [.blk b11 ⟨true, vec .u32 (D.nw A) (fun j => if j < x then D.limb (A - B) j else 0), 56, (0, 0)⟩, numT q A, numT r B]⟩) (fun x => D.nw A - x) (0) (Nat.zero_le _) (Sub.mk ⟨rfl, rfl, rfl, by rw [D.borrow_zero]; rfl, rfl, trivial⟩ (by repeat (first | exact Sel.nil _ | refine Sel.cons (by repeat (first | exact Ph _ | apply Pt_)) ?_))) ?_
  intro x hx
  refine LCode.seq ?_
  refine LCode.seq ?_
  refine LCode.region ?_
  refine LOps.detP (Det.move rfl) (Nb rfl) ?_
  refine LOps.detP (Det.move rfl) (Nb rfl) ?_
  refine LOps.detP (Det.len Try.underlying29 rfl) (Nb rfl) ?_
  refine LOps.detP (Det.bin rfl rfl (br_lss)) (Nb rfl) ?_
  refine LOps.nil ?_
  first | refine LCode.condD rfl (fun h15 => ?_) (fun h15 => ?_) | refine LCode.cond rfl (fun h15 => ?_) (fun h15 => ?_)
  ·
    refine LCode.skip ?_
    refine LCode.seq ?_
    refine LCode.block ?_
    refine LCode.seq ?_
    have hs := D.sub_limb hBA x
    have hbr := D.borrow_le A B x
    have hla := D.limb_lt A x
    have hlb := D.limb_lt B x
    refine LCode.region ?_
    refine LOps.detP (Det.move rfl) (Nb rfl) ?_
    refine LOps.detP (Det.move rfl) (Nb rfl) ?_
    refine LOps.step rfl (LStep.w (LStep.callF (first := []) rfl en_118 rfl (Nb rfl) (fun w hw => c_n_digit q A (D.nw A) x w (hw _ (by repeat (first | exact Mh _ | apply Mt)))) ?_))
    refine LOps.detP (Det.bin rfl rfl (br_add64 (b := 4294967296))) (Nb rfl) ?_
    refine LOps.detP (Det.move rfl) (Nb rfl) ?_
    refine LOps.detP (Det.move rfl) (Nb rfl) ?_
    refine LOps.step rfl (LStep.w (LStep.callF (first := []) rfl en_118 rfl (Nb rfl) (fun w hw => c_n_digit r B (D.nw B) x w (hw _ (by repeat (first | exact Mh _ | apply Mt)))) ?_))
    refine LOps.detP (Det.bin rfl rfl (br_sub64 (by omega))) (Nb rfl) ?_
    refine LOps.detP (Det.move rfl) (Nb rfl) ?_
    refine LOps.detP (Det.bin rfl rfl (br_sub64 (by omega))) (Nb rfl) ?_
    refine LOps.detP (Det.assign rfl) (Nb rfl) ?_
    refine LOps.nil ?_
    refine LCode.seq ?_
    refine LCode.region ?_
    refine LOps.detP (Det.move rfl) (Nb rfl) ?_
    refine LOps.detP (Det.move rfl) (Nb rfl) ?_
    refine LOps.detP (Det.move rfl) (Nb rfl) ?_
    refine LOps.detP (Det.bin rfl rfl (br_and64 (b := 4294967295) (by omega) (by decide))) (Nb rfl) ?_
    refine LOps.detP (Det.conv32 Try.underlying22 Try.underlying56 rfl) (Nb rfl) ?_
    refine LOps.detP (Det.indexS0 Try.underlying29 sz_56 rfl rfl (by omega)) (Nb rfl) ?_
    refine LOps.step rfl (LStepW.store1 rfl rfl rfl sz_56 (by repeat (first | exact Sh _ | apply St_)) (by first | (simp only [vec_length, natL_length, wideL_length, dv_length]; omega) | (simp; omega)) (by first | exact vec_set _ _ _ _ _ | exact dv_setm _ _ _ _ (by omega) | exact dv_sets _ _ _ _ | rfl) (by simp) ?_)
    refine LOps.nil ?_
    refine LCode.region ?_
    refine LOps.detP (Det.move rfl) (Nb rfl) ?_
    refine LOps.detP (Det.bin rfl rfl (br_shr64 (b := 32) (by omega))) (Nb rfl) ?_
    refine LOps.detP (Det.bin rfl rfl (br_sub64 (a := 1) (by omega))) (Nb rfl) ?_
    refine LOps.detP (Det.assign rfl) (Nb rfl) ?_
    refine LOps.nil ?_
    refine LCode.region ?_
    refine LOps.detP (Det.move rfl) (Nb rfl) ?_
    refine LOps.detP (Det.bin rfl rfl (br_add (b := 1) (by omega))) (Nb rfl) ?_
    refine LOps.detP (Det.assign rfl) (Nb rfl) ?_
    refine LOps.nil ?_
    refine ⟨x + 1, by omega, by omega, Sub.re (Sub.cells (b := b11) (cs' := vec .u32 (D.nw A) (fun j => if j < x + 1 then D.limb (A - B) j else 0)) (by repeat (first | exact Sh _ | apply St_)) (vec_congr fun j hj => ?_)) (Sub.mk ⟨rfl, rfl, rfl, congrArg (fun n : Nat => some (Value.int .u64 (n : Int))) ?_, rfl, trivial⟩ (by repeat (first | exact Sel.nil _ | refine Sel.cons (by repeat (first | exact Ph _ | apply Pt_)) ?_)))⟩
    · by_cases e : j = x
      · rw [if_pos e, if_pos (by omega), e, and32]
        omega
      · rw [if_neg e]
        by_cases e3 : j < x
        · rw [if_pos e3, if_pos (by omega)]
        · rw [if_neg e3, if_neg (by omega)]
    · omega
  ·
    refine LCode.exit ?_
    refine LCode.seq ?_
    obtain rfl : x = D.nw A := by omega
    refine LCode.sub (Sub.cells (b := b11) (cs' := vec .u32 (D.nw A) (D.limb (A - B))) (by repeat (first | exact Sh _ | apply St_)) (vec_congr fun j hj => if_pos hj)) ?_
    refine LCode.region ?_
    refine LOps.detP (Det.move rfl) (Nb rfl) ?_
    refine LOps.step rfl (LStep.w (LStep.callF (first := []) rfl en_120 rfl (Nb rfl) (fun w hw => c_trim (A - B) b11 (D.nw A) (D.nw A) (D.nw A) _ true w (hw _ (by repeat (first | exact Mh _ | apply Mt))) (Nat.le_refl _) (Nat.le_refl _) (by omega) (Nat.lt_of_le_of_lt (Nat.sub_le _ _) (D.lt_nw A))) ?_))
    refine LOps.detP (Det.assign rfl) (Nb rfl) ?_
    refine LOps.nil ?_
    refine LCode.ret ?_
    refine ⟨[_], .cons rfl .nil, fun a w' hr => hr.num (by repeat (first | exact Mh _ | apply Mt)) (Nat.lt_of_le_of_lt (Nat.sub_le _ _) (D.lt_nw A))⟩
end Go.Proofs.Ytljblbgogjieaaa
set_option linter.unusedVariables false
set_option linter.unusedSimpArgs false
set_option maxRecDepth 20000
namespace Go.Proofs.Ytljblbgogjieaaa
open Go Go.RowKit
theorem blen_half {x : Nat} (h : x ≠ 0) : blen (x / 2) + 1 = blen x := by
  by_cases h1 : x = 1
  · subst h1; rfl
  · have := blen_shr (x := x) (k := 1) (show 2 ^ 1 ≤ x by omega)
    exact this
theorem c_n_Bits (q : NV) (A : Nat) (w : World) (hq : (numT q A).holds w) (hA : D.nw A ≤ 1000000) : Calls Try.prog 76 ([numV q A] : List Value).toArray w (fun e w' => e = .returned (.int .i64 ((blen A : Nat) : Int)) ∧ Below w.heap.size w w') := by
  refine calls_ro (N := 25) (rs := [.tmp 2]) [numT q A] Try.func76 rfl Try.ntmps76 Try.results76 (Nb rfl) ⟨hq, trivial⟩ rfl ?_
  show LCode _ _ _ ⟨_, _⟩ _
  refine LCode.seq ?_
  refine LCode.region ?_
  refine LOps.detP (Det.assign (v := .int .i64 ((0 : Nat) : Int)) rfl) (Nb rfl) ?_
  refine LOps.nil ?_
  refine LCode.seq ?_
  refine LCode.seq ?_
  refine LCode.region ?_
  refine LOps.detP (Det.move rfl) (Nb rfl) ?_
  refine LOps.detP (Det.len Try.underlying29 rfl) (Nb rfl) ?_
  refine LOps.detP (Det.bin rfl rfl (br_eql (b := 0))) (Nb rfl) ?_
  refine LOps.nil ?_
  first | refine LCode.condD rfl (fun h7 => ?_) (fun h7 => ?_) | refine LCode.cond rfl (fun h7 => ?_) (fun h7 => ?_)
  ·
    have h7 : D.nw A = 0 := by have := h7; simpa using this
    refine LCode.seq ?_
    refine LCode.region ?_
    refine LOps.detP (Det.assign (v := .int .i64 ((0 : Nat) : Int)) rfl) (Nb rfl) ?_
    refine LOps.nil ?_
    refine LCode.ret ?_
    have hz : A = 0 := nw_eq_zero.1 h7
    refine ⟨[_], .cons rfl .nil, fun a w' hr => ⟨?_, hr.fr.below⟩⟩
    rw [hz]; rfl
  ·
    have h7 : D.nw A ≠ 0 := by have := h7; simpa using this
    refine LCode.skip ?_
    refine LCode.seq ?_
    refine LCode.region ?_
    refine LOps.detP (Det.move rfl) (Nb rfl) ?_
    refine LOps.detP (Det.len Try.underlying29 rfl) (Nb rfl) ?_
    refine LOps.detP (Det.bin rfl rfl (br_sub (b := 1) (by omega) (by omega))) (Nb rfl) ?_
    refine LOps.detP (Det.bin rfl rfl (br_mul (a := 32) (by omega))) (Nb rfl) ?_
    refine LOps.detP (Det.assign rfl) (Nb rfl) ?_
    refine LOps.nil ?_
    refine LCode.seq ?_
    refine LCode.seq ?_
    refine LCode.region ?_
    refine LOps.detP (Det.move rfl) (Nb rfl) ?_
    refine LOps.detP (Det.move rfl) (Nb rfl) ?_
    refine LOps.detP (Det.len Try.underlying29 rfl) (Nb rfl) ?_
    refine LOps.detP (Det.bin rfl rfl (br_sub (b := 1) (by omega) (by omega))) (Nb rfl) ?_
    refine LOps.detP (Det.indexN Try.underlying29 sz_56 rfl rfl (by omega)) (Nb rfl) ?_
    refine LOps.det (Det.loadN Try.underlying56 rfl rfl (by repeat (first | exact Mh _ | apply Mt)) (by omega)) (Nb rfl) ?_
    refine LOps.detP (Det.assign rfl) (Nb rfl) ?_
    refine LOps.nil ?_
    refine LCode.block ?_
    refine LCode.loop (α := Nat × Nat) (fun x => x.1 < 4294967296 ∧ x.2 + blen x.1 = blen A ∧ blen A ≤ 32000000) (fun x => ⟨[(3, .int .i64 ((x.2 : Nat) : Int)), (4, .int .u32 ((x.1 : Nat) : Int))], []⟩) (fun x => x.1) ((D.limb A (D.nw A - 1), 32 * (D.nw A - 1))) (⟨D.limb_lt _ _, D.bits_words h7, by have := D.bits_words h7; have := blen_le (n := 32) (D.limb_lt A (D.nw A - 1)); omega⟩) (Sub.mk ⟨rfl, rfl, trivial⟩ (by repeat (first | exact Sel.nil _ | refine Sel.cons (by repeat (first | exact Ph _ | apply Pt_)) ?_))) ?_
    rintro x ⟨hx1, hx2, hx3⟩
    refine LCode.seq ?_
    refine LCode.seq ?_
    refine LCode.region ?_
    refine LOps.detP (Det.move rfl) (Nb rfl) ?_
    refine LOps.detP (Det.bin rfl rfl (br_gtr (b := 0))) (Nb rfl) ?_
    refine LOps.nil ?_
    first | refine LCode.condD rfl (fun h19 => ?_) (fun h19 => ?_) | refine LCode.cond rfl (fun h19 => ?_) (fun h19 => ?_)
    ·
      have h19 : 0 < x.1 := by have := h19; simpa using this
      refine LCode.skip ?_
      refine LCode.seq ?_
      refine LCode.block ?_
      have hb1 := blen_ne (A := x.1) (by omega)
      refine LCode.region ?_
      refine LOps.detP (Det.move rfl) (Nb rfl) ?_
      refine LOps.detP (Det.bin rfl rfl (br_add (b := 1) (by omega))) (Nb rfl) ?_
      refine LOps.detP (Det.assign rfl) (Nb rfl) ?_
      refine LOps.nil ?_
      refine LCode.region ?_
      refine LOps.detP (Det.move rfl) (Nb rfl) ?_
      refine LOps.detP (Det.bin rfl rfl (br_shr32 (b := 1) (by omega))) (Nb rfl) ?_
      refine LOps.detP (Det.assign rfl) (Nb rfl) ?_
      refine LOps.nil ?_
      have hh := blen_half (x := x.1) (by omega)
      refine ⟨(x.1 / 2, x.2 + 1), ⟨by dsimp only; omega, by dsimp only; omega, hx3⟩, by dsimp only; omega, Sub.mk ⟨rfl, rfl, trivial⟩ (by repeat (first | exact Sel.nil _ | refine Sel.cons (by repeat (first | exact Ph _ | apply Pt_)) ?_))⟩
    ·
      have h19 : ¬ 0 < x.1 := by have := h19; simpa using this
      refine LCode.exit ?_
      refine LCode.seq ?_
      refine LCode.region ?_
      refine LOps.detP (Det.move rfl) (Nb rfl) ?_
      refine LOps.detP (Det.assign rfl) (Nb rfl) ?_
      refine LOps.nil ?_
      refine LCode.ret ?_
      have h0 : x.1 = 0 := by omega
      rw [h0, blen_zero, Nat.add_zero] at hx2
      refine ⟨[_], .cons rfl .nil, fun a w' hr => ⟨?_, hr.fr.below⟩⟩
      rw [← hx2]; rfl
theorem and255 (x : Nat) : x &&& 255 = x % 256 := Nat.and_two_pow_sub_one_eq_mod x 8
theorem shift_dig {A k i : Nat} : D.limb (A / 2 ^ k) i = (D.limb A (i + k / 32) ||| D.limb A (i + k / 32 + 1) * 4294967296 % 18446744073709551616) / 2 ^ (k % 32) % 4294967296 := by
  have h := D.limb_shr A (k / 32) (k % 32) i (Nat.mod_lt _ (by decide))
  rw [show 32 * (k / 32) + k % 32 = k by omega] at h
  rw [h, or_digits (D.limb_lt _ _) (D.limb_lt _ _)]
  have h1 := D.limb_lt A (i + k / 32)
  have h2 := D.limb_lt A (i + k / 32 + 1)
  have hr : k % 32 < 32 := Nat.mod_lt _ (by decide)
  generalize D.limb A (i + k / 32) = a at *
  generalize D.limb A (i + k / 32 + 1) = b at *
  generalize k % 32 = r at *
  have e : (4294967296 : Nat) = 2 ^ (32 - r) * 2 ^ r := by rw [← Nat.pow_add, show 32 - r + r = 32 by omega]
  have hp : 0 < 2 ^ r := Nat.pow_pos (by decide)
  have e2 : (a + 4294967296 * b) / 2 ^ r = a / 2 ^ r + b * 2 ^ (32 - r) := by
    rw [show a + 4294967296 * b = a + b * 2 ^ (32 - r) * 2 ^ r by rw [e, Nat.mul_comm _ b, Nat.mul_assoc], Nat.add_mul_div_right _ _ hp]
  rw [e2]
  have h3 : a / 2 ^ r < 2 ^ (32 - r) := by rw [Nat.div_lt_iff_lt_mul hp, ← e]; exact h1
  have h4 : b * 2 ^ (32 - r) % 4294967296 = b % 2 ^ r * 2 ^ (32 - r) := by
    rw [e, Nat.mul_comm (2 ^ (32 - r)), Nat.mul_mod_mul_right]
  have h5 : b % 2 ^ r + 1 ≤ 2 ^ r := Nat.mod_lt _ hp
  have h6 := Nat.mul_le_mul_right (2 ^ (32 - r)) h5
  rw [Nat.add_mul, Nat.mul_comm (2 ^ r), ← e, Nat.one_mul] at h6
  have h7 : a / 2 ^ r + b * 2 ^ (32 - r) % 4294967296 < 4294967296 := by
    rw [h4]; exact Nat.lt_of_lt_of_le (Nat.add_lt_add_right h3 _) (by rw [Nat.add_comm]; exact h6)
  rw [Nat.add_mod (a / 2 ^ r), Nat.mod_eq_of_lt (show a / 2 ^ r < 4294967296 by have := Nat.div_le_self a (2 ^ r); omega), Nat.mod_eq_of_lt h7]
theorem c_n_Shr (q : NV) (A n k : Nat) (w : World) (hq : (numI q A n).holds w) (hn : n ≤ 1000000) (hk : k < 4294967296) : Calls Try.prog 145 ([slV q n, .int .i64 ((k : Nat) : Int)] : List Value).toArray w (fun e w' => NumR w ([]) (A / 2 ^ k) (fun v => v) e w') := by
  have hA := numI_lt hq
  refine calls_ro (N := 51) (rs := [.tmp 4]) [numI q A n] Try.func145 rfl Try.ntmps145 Try.results145 (Nb rfl) ⟨hq, trivial⟩ rfl ?_
  show LCode _ _ _ ⟨_, _⟩ _
  refine LCode.seq ?_
  refine LCode.region ?_
  refine LOps.detP (Det.assign rfl) (Nb rfl) ?_
  refine LOps.nil ?_
  refine LCode.seq ?_
  refine LCode.seq ?_
  refine LCode.region ?_
  refine LOps.detP (Det.move rfl) (Nb rfl) ?_
  refine LOps.detP (Det.bin rfl rfl (br_quo (b := 32) (by omega) (by omega))) (Nb rfl) ?_
  refine LOps.detP (Det.move rfl) (Nb rfl) ?_
  refine LOps.detP (Det.len Try.underlying29 rfl) (Nb rfl) ?_
  refine LOps.detP (Det.bin rfl rfl (br_geq)) (Nb rfl) ?_
  refine LOps.nil ?_
  first | refine LCode.condD rfl (fun h12 => ?_) (fun h12 => ?_) | refine LCode.cond rfl (fun h12 => ?_) (fun h12 => ?_)
  ·
    have h12 : n ≤ k / 32 := by have := h12; omega
    refine LCode.seq ?_
    refine LCode.region ?_
    refine LOps.detP (Det.assign rfl) (Nb rfl) ?_
    refine LOps.nil ?_
    refine LCode.ret ?_
    have hz : A / 2 ^ k = 0 := Nat.div_eq_of_lt (Nat.lt_of_lt_of_le hA (Nat.pow_le_pow_right (by decide) (by omega)))
    rw [hz]
    refine ⟨[_], .cons rfl .nil, fun a w' hr => hr.numNil⟩
  ·
    have h12 : ¬ n ≤ k / 32 := by have := h12; omega
    refine LCode.skip ?_
    refine LCode.seq ?_
    have hAk : A / 2 ^ k < 2 ^ (32 * (n - k / 32)) := by
      rw [Nat.div_lt_iff_lt_mul (Nat.pow_pos (by decide)), ← Nat.pow_add]
      exact Nat.lt_of_lt_of_le hA (Nat.pow_le_pow_right (by decide) (by omega))
    refine LCode.region ?_
    refine LOps.detP (Det.move rfl) (Nb rfl) ?_
    refine LOps.detP (Det.len Try.underlying29 rfl) (Nb rfl) ?_
    refine LOps.detP (Det.move rfl) (Nb rfl) ?_
    refine LOps.detP (Det.bin rfl rfl (br_quo (b := 32) (by omega) (by omega))) (Nb rfl) ?_
    refine LOps.detP (Det.bin rfl rfl (br_sub (by omega) (by omega))) (Nb rfl) ?_
    refine LOps.step rfl (LStep.w (LStep.makes (Makes.mkV Try.underlying29 inf_56 rfl rfl (by omega) (by omega)) (Nb rfl) (fun b18 => ?_)))
    refine LOps.detP (Det.assign rfl) (Nb rfl) ?_
    refine LOps.nil ?_
    refine LCode.seq ?_
    refine LCode.seq ?_
    refine LCode.region ?_
    refine LOps.detP (Det.assign (v := .int .i64 ((0 : Nat) : Int)) rfl) (Nb rfl) ?_
    refine LOps.nil ?_
    refine LCode.block ?_
    refine LCode.loop (α := Nat) (fun x => x ≤ n - k / 32) (fun x => ⟨[(0, slV q n), (1, .int .i64 ((k : Nat) : Int)), (5, .slice (some ⟨b18, 0, none⟩) (n - k / 32) (n - k / 32)), (6, .int .i64 ((x : Nat) : Int))], [.blk b18 ⟨true, vec .u32 (n - k / 32) (fun j => if j < x then D.limb (A / 2 ^ k) j else 0), 56, (0, 0)⟩, numI q A n]⟩) (fun x => n - k / 32 - x) (0) (Nat.zero_le _) (Sub.mk ⟨rfl, rfl, rfl, rfl, trivial⟩ (by repeat (first | exact Sel.nil _ | refine Sel.cons (by repeat (first | exact Ph _ | apply Pt_)) ?_))) ?_
    intro x hx
    refine LCode.seq ?_
    refine LCode.seq ?_
    refine LCode.region ?_
    refine LOps.detP (Det.move rfl) (Nb rfl) ?_
    refine LOps.detP (Det.move rfl) (Nb rfl) ?_
    refine LOps.detP (Det.len Try.underlying29 rfl) (Nb rfl) ?_
    refine LOps.detP (Det.bin rfl rfl (br_lss)) (Nb rfl) ?_
    refine LOps.nil ?_
    first | refine LCode.condD rfl (fun h22 => ?_) (fun h22 => ?_) | refine LCode.cond rfl (fun h22 => ?_) (fun h22 => ?_)
    ·
      refine LCode.skip ?_
      refine LCode.seq ?_
      refine LCode.block ?_
      refine LCode.seq ?_
      refine LCode.region ?_
      refine LOps.detP (Det.move rfl) (Nb rfl) ?_
      refine LOps.detP (Det.move rfl) (Nb rfl) ?_
      refine LOps.detP (Det.move rfl) (Nb rfl) ?_
      refine LOps.detP (Det.bin rfl rfl (br_quo (b := 32) (by omega) (by omega))) (Nb rfl) ?_
      refine LOps.detP (Det.bin rfl rfl (br_add (by omega))) (Nb rfl) ?_
      refine LOps.step rfl (LStep.w (LStep.callF (first := []) rfl en_118 rfl (Nb rfl) (fun w hw => c_n_digit q A n (x + k / 32) w (hw _ (by repeat (first | exact Mh _ | apply Mt)))) ?_))
      refine LOps.detP (Det.move rfl) (Nb rfl) ?_
      refine LOps.detP (Det.move rfl) (Nb rfl) ?_
      refine LOps.detP (Det.move rfl) (Nb rfl) ?_
      refine LOps.detP (Det.bin rfl rfl (br_quo (b := 32) (by omega) (by omega))) (Nb rfl) ?_
      refine LOps.detP (Det.bin rfl rfl (br_add (by omega))) (Nb rfl) ?_
      refine LOps.detP (Det.bin rfl rfl (br_add (b := 1) (by omega))) (Nb rfl) ?_
      refine LOps.step rfl (LStep.w (LStep.callF (first := []) rfl en_118 rfl (Nb rfl) (fun w hw => c_n_digit q A n (x + k / 32 + 1) w (hw _ (by repeat (first | exact Mh _ | apply Mt)))) ?_))
      refine LOps.detP (Det.bin rfl rfl (br_shl64 (b := 32))) (Nb rfl) ?_
      refine LOps.detP (Det.bin rfl rfl (br_or64 (Nat.lt_trans (D.limb_lt _ _) (by decide)) (Nat.mod_lt _ (by decide)))) (Nb rfl) ?_
      refine LOps.detP (Det.assign rfl) (Nb rfl) ?_
      refine LOps.nil ?_
      refine LCode.region ?_
      refine LOps.detP (Det.move rfl) (Nb rfl) ?_
      refine LOps.detP (Det.move rfl) (Nb rfl) ?_
      refine LOps.detP (Det.move rfl) (Nb rfl) ?_
      refine LOps.detP (Det.move rfl) (Nb rfl) ?_
      refine LOps.detP (Det.bin rfl rfl (br_rem (b := 32) (by omega))) (Nb rfl) ?_
      refine LOps.detP (Det.bin rfl rfl (br_shr64 (Nat.or_lt_two_pow (n := 64) (Nat.lt_trans (D.limb_lt _ _) (by decide)) (Nat.mod_lt _ (by decide))))) (Nb rfl) ?_
      refine LOps.detP (Det.bin rfl rfl (br_and64 (b := 4294967295) (Nat.lt_of_le_of_lt (Nat.div_le_self _ _) (Nat.or_lt_two_pow (n := 64) (Nat.lt_trans (D.limb_lt _ _) (by decide)) (Nat.mod_lt _ (by decide)))) (by decide))) (Nb rfl) ?_
      refine LOps.detP (Det.conv32 Try.underlying22 Try.underlying56 rfl) (Nb rfl) ?_
      refine LOps.detP (Det.indexS0 Try.underlying29 sz_56 rfl rfl (by omega)) (Nb rfl) ?_
      refine LOps.step rfl (LStepW.store1 rfl rfl rfl sz_56 (by repeat (first | exact Sh _ | apply St_)) (by first | (simp only [vec_length, natL_length, wideL_length, dv_length]; omega) | (simp; omega)) (by first | exact vec_set _ _ _ _ _ | exact dv_setm _ _ _ _ (by omega) | exact dv_sets _ _ _ _ | rfl) (by simp) ?_)
      refine LOps.nil ?_
      refine LCode.region ?_
      refine LOps.detP (Det.move rfl) (Nb rfl) ?_
      refine LOps.detP (Det.bin rfl rfl (br_add (b := 1) (by omega))) (Nb rfl) ?_
      refine LOps.detP (Det.assign rfl) (Nb rfl) ?_
      refine LOps.nil ?_
      refine ⟨x + 1, by omega, by omega, Sub.re (Sub.cells (b := b18) (cs' := vec .u32 (n - k / 32) (fun j => if j < x + 1 then D.limb (A / 2 ^ k) j else 0)) (by repeat (first | exact Sh _ | apply St_)) (vec_congr fun j hj => ?_)) (Sub.mk ⟨rfl, rfl, rfl, rfl, trivial⟩ (by repeat (first | exact Sel.nil _ | refine Sel.cons (by repeat (first | exact Ph _ | apply Pt_)) ?_)))⟩
      by_cases e : j = x
      · rw [if_pos e, if_pos (by omega), e, and32, Nat.mod_mod]
        exact shift_dig.symm
      · rw [if_neg e]
        by_cases e3 : j < x
        · rw [if_pos e3, if_pos (by omega)]
        · rw [if_neg e3, if_neg (by omega)]
    ·
      refine LCode.exit ?_
      refine LCode.seq ?_
      obtain rfl : x = n - k / 32 := by omega
      refine LCode.sub (Sub.cells (b := b18) (cs' := vec .u32 (n - k / 32) (D.limb (A / 2 ^ k))) (by repeat (first | exact Sh _ | apply St_)) (vec_congr fun j hj => if_pos hj)) ?_
      refine LCode.region ?_
      refine LOps.detP (Det.move rfl) (Nb rfl) ?_
      refine LOps.step rfl (LStep.w (LStep.callF (first := []) rfl en_120 rfl (Nb rfl) (fun w hw => c_trim (A / 2 ^ k) b18 (n - k / 32) (n - k / 32) (n - k / 32) _ true w (hw _ (by repeat (first | exact Mh _ | apply Mt))) (Nat.le_refl _) (Nat.le_refl _) (by omega) hAk) ?_))
      refine LOps.detP (Det.assign rfl) (Nb rfl) ?_
      refine LOps.nil ?_
      refine LCode.ret ?_
      refine ⟨[_], .cons rfl .nil, fun a w' hr => hr.num (by repeat (first | exact Mh _ | apply Mt)) (hAk)⟩
end Go.Proofs.Ytljblbgogjieaaa
set_option linter.unusedVariables false
set_option linter.unusedSimpArgs false
set_option maxRecDepth 20000
namespace Go.Proofs.Ytljblbgogjieaaa
open Go Go.RowKit
theorem c_n_Bytes (q : NV) (A n : Nat) (w : World) (hq : (numT q A).holds w) (hA : D.nw A ≤ 1000000) (hn : n ≤ 72) : Calls Try.prog 54 ([numV q A, .int .i64 ((n : Nat) : Int)] : List Value).toArray w (fun e w' => e = .returned (if 8 * n < blen A then .tuple #[.string ⟨#[]⟩, .bool false] else .tuple #[.string (strOf (beBytes n A)), .bool true]) ∧ Below w.heap.size w w') := by
  refine calls_ro (N := 46) (rs := [.tmp 4, .tmp 5]) [numT q A] Try.func54 rfl Try.ntmps54 Try.results54 (Nb rfl) ⟨hq, trivial⟩ rfl ?_
  show LCode _ _ _ ⟨_, _⟩ _
  refine LCode.seq ?_
  refine LCode.region ?_
  refine LOps.detP (Det.assign rfl) (Nb rfl) ?_
  refine LOps.detP (Det.assign rfl) (Nb rfl) ?_
  refine LOps.nil ?_
  refine LCode.seq ?_
  refine LCode.seq ?_
  refine LCode.region ?_
  refine LOps.detP (Det.move rfl) (Nb rfl) ?_
  refine LOps.detP (Det.bin rfl rfl (br_f (br_lss (b := 0)) (Nat.not_lt_zero _))) (Nb rfl) ?_
  refine LOps.detP (Det.move rfl) (Nb rfl) ?_
  refine LOps.detGP rfl rfl (Det.move rfl) (Nb rfl) ?_
  refine LOps.detGP rfl rfl (Det.bin rfl rfl (br_f (br_gtr (b := 72)) (by omega))) (Nb rfl) ?_
  refine LOps.detP (Det.pick_false rfl rfl) (Nb rfl) ?_
  refine LOps.detP (Det.move rfl) (Nb rfl) ?_
  refine LOps.detGP rfl rfl (Det.move rfl) (Nb rfl) ?_
  refine LOps.stepG rfl rfl rfl (LStep.w (LStep.callF (first := []) rfl en_76 rfl (Nb rfl) (fun w hw => c_n_Bits q A w (hw _ (by repeat (first | exact Mh _ | apply Mt))) hA) ?_))
  refine LOps.detGP rfl rfl (Det.move rfl) (Nb rfl) ?_
  refine LOps.detGP rfl rfl (Det.bin rfl rfl (br_mul (a := 8) (by omega))) (Nb rfl) ?_
  refine LOps.detGP rfl rfl (Det.bin rfl rfl (br_gtr)) (Nb rfl) ?_
  refine LOps.detP (Det.pick_false rfl rfl) (Nb rfl) ?_
  refine LOps.nil ?_
  first | refine LCode.condD rfl (fun h20 => ?_) (fun h20 => ?_) | refine LCode.cond rfl (fun h20 => ?_) (fun h20 => ?_)
  ·
    have h20 : 8 * n < blen A := h20
    refine LCode.seq ?_
    refine LCode.region ?_
    refine LOps.detP (Det.assign rfl) (Nb rfl) ?_
    refine LOps.detP (Det.assign rfl) (Nb rfl) ?_
    refine LOps.nil ?_
    refine LCode.ret ?_
    refine ⟨[_, _], .cons rfl (.cons rfl .nil), fun a w' hr => ⟨?_, hr.fr.below⟩⟩
    rw [if_pos h20]
    rfl
  ·
    have h20 : ¬ 8 * n < blen A := h20
    refine LCode.skip ?_
    refine LCode.seq ?_
    refine LCode.region ?_
    refine LOps.detP (Det.move rfl) (Nb rfl) ?_
    refine LOps.step rfl (LStep.w (LStep.makes (Makes.mkV Try.underlying52 inf_5 rfl rfl (by omega) (by omega)) (Nb rfl) (fun b22 => ?_)))
    refine LOps.detP (Det.assign rfl) (Nb rfl) ?_
    refine LOps.nil ?_
    refine LCode.seq ?_
    refine LCode.seq ?_
    refine LCode.region ?_
    refine LOps.detP (Det.assign (v := .int .i64 ((0 : Nat) : Int)) rfl) (Nb rfl) ?_
    refine LOps.nil ?_
    refine LCode.block ?_
    refine LCode.loop (α := Nat) (fun x => x ≤ n) (fun x => ⟨[(0, numV q A), (1, .int .i64 ((n : Nat) : Int)), (6, .slice (some ⟨b22, 0, none⟩) n n), (7, .int .i64 ((x : Nat) : Int))], [.blk b22 ⟨true, vec .u8 n (fun j => if n - x ≤ j then A / 256 ^ (n - 1 - j) % 256 else 0), 5, (0, 0)⟩, numT q A]⟩) (fun x => n - x) (0) (Nat.zero_le _) (Sub.re (Sub.cells (b := b22) (cs' := vec .u8 n (fun j => if n - 0 ≤ j then A / 256 ^ (n - 1 - j) % 256 else 0)) (by repeat (first | exact Sh _ | apply St_)) (vec_congr fun j hj => by rw [if_neg (by omega)])) (Sub.mk ⟨rfl, rfl, rfl, rfl, trivial⟩ (by repeat (first | exact Sel.nil _ | refine Sel.cons (by repeat (first | exact Ph _ | apply Pt_)) ?_)))) ?_
    intro x hx
    refine LCode.seq ?_
    refine LCode.seq ?_
    refine LCode.region ?_
    refine LOps.detP (Det.move rfl) (Nb rfl) ?_
    refine LOps.detP (Det.move rfl) (Nb rfl) ?_
    refine LOps.detP (Det.bin rfl rfl (br_lss)) (Nb rfl) ?_
    refine LOps.nil ?_
    first | refine LCode.condD rfl (fun h25 => ?_) (fun h25 => ?_) | refine LCode.cond rfl (fun h25 => ?_) (fun h25 => ?_)
    ·
      refine LCode.skip ?_
      refine LCode.seq ?_
      refine LCode.block ?_
      refine LCode.region ?_
      refine LOps.detP (Det.move rfl) (Nb rfl) ?_
      refine LOps.detP (Det.move rfl) (Nb rfl) ?_
      refine LOps.detP (Det.bin rfl rfl (br_sub (b := 1) (by omega) (by omega))) (Nb rfl) ?_
      refine LOps.detP (Det.move rfl) (Nb rfl) ?_
      refine LOps.detP (Det.bin rfl rfl (br_sub (by omega) (by omega))) (Nb rfl) ?_
      refine LOps.detP (Det.move rfl) (Nb rfl) ?_
      refine LOps.detP (Det.move rfl) (Nb rfl) ?_
      refine LOps.detP (Det.bin rfl rfl (br_quo (b := 4) (by omega) (by omega))) (Nb rfl) ?_
      refine LOps.step rfl (LStep.w (LStep.callF (first := []) rfl en_118 rfl (Nb rfl) (fun w hw => c_n_digit q A (D.nw A) (x / 4) w (hw _ (by repeat (first | exact Mh _ | apply Mt)))) ?_))
      refine LOps.detP (Det.move rfl) (Nb rfl) ?_
      refine LOps.detP (Det.bin rfl rfl (br_rem (b := 4) (by omega))) (Nb rfl) ?_
      refine LOps.detP (Det.bin rfl rfl (br_mul (b := 8) (by omega))) (Nb rfl) ?_
      refine LOps.detP (Det.bin rfl rfl (br_shr64 (Nat.lt_trans (D.limb_lt _ _) (by decide)))) (Nb rfl) ?_
      refine LOps.detP (Det.bin rfl rfl (br_and64 (b := 255) (Nat.lt_of_le_of_lt (Nat.div_le_self _ _) (Nat.lt_trans (D.limb_lt _ _) (by decide))) (by decide))) (Nb rfl) ?_
      refine LOps.detP (Det.conv8 Try.underlying22 Try.underlying5 rfl) (Nb rfl) ?_
      refine LOps.detP (Det.indexS0 Try.underlying52 sz_5 rfl rfl (by omega)) (Nb rfl) ?_
      refine LOps.step rfl (LStepW.store1 rfl rfl rfl sz_5 (by repeat (first | exact Sh _ | apply St_)) (by first | (simp only [vec_length, natL_length, wideL_length, dv_length]; omega) | (simp; omega)) (by first | exact vec_set _ _ _ _ _ | exact dv_setm _ _ _ _ (by omega) | exact dv_sets _ _ _ _ | rfl) (by simp) ?_)
      refine LOps.nil ?_
      refine LCode.region ?_
      refine LOps.detP (Det.move rfl) (Nb rfl) ?_
      refine LOps.detP (Det.bin rfl rfl (br_add (b := 1) (by omega))) (Nb rfl) ?_
      refine LOps.detP (Det.assign rfl) (Nb rfl) ?_
      refine LOps.nil ?_
      refine ⟨x + 1, by omega, by omega, Sub.re (Sub.cells (b := b22) (cs' := vec .u8 n (fun j => if n - (x + 1) ≤ j then A / 256 ^ (n - 1 - j) % 256 else 0)) (by repeat (first | exact Sh _ | apply St_)) (vec_congr fun j hj => ?_)) (Sub.mk ⟨rfl, rfl, rfl, rfl, trivial⟩ (by repeat (first | exact Sel.nil _ | refine Sel.cons (by repeat (first | exact Ph _ | apply Pt_)) ?_)))⟩
      by_cases e : j = n - 1 - x
      · rw [if_pos e, if_pos (by omega), and255, Nat.mod_mod, show x % 4 * 8 = 8 * (x % 4) by omega, D.byte_of, show n - 1 - j = x by omega]
      · rw [if_neg e]
        by_cases e2 : n - x ≤ j
        · rw [if_pos e2, if_pos (by omega)]
        · rw [if_neg e2, if_neg (by omega)]
    ·
      refine LCode.exit ?_
      refine LCode.seq ?_
      refine LCode.region ?_
      refine LOps.detP (Det.move rfl) (Nb rfl) ?_
      refine LOps.det (Det.bytesStr Try.underlying52 Try.underlying5 Try.underlying9 rfl (by repeat (first | exact Mh _ | apply Mt)) (by exact (List.take_of_length_le (by simp [vec_length])).trans (List.drop_zero))) (Nb rfl) ?_
      refine LOps.detP (Det.assign rfl) (Nb rfl) ?_
      refine LOps.detP (Det.assign rfl) (Nb rfl) ?_
      refine LOps.nil ?_
      refine LCode.ret ?_
      have hx9 : x = n := by omega
      subst hx9
      refine ⟨[_, _], .cons rfl (.cons rfl .nil), fun a w' hr => ⟨?_, hr.fr.below⟩⟩
      rw [if_neg h20]
      have e : ((List.range x).map fun i => UInt8.ofNat ((fun j => if x - x ≤ j then A / 256 ^ (x - 1 - j) % 256 else 0) i)) = beBytes x A := by
        apply List.map_congr_left
        intro i hi
        dsimp only
        rw [if_pos (by omega)]
      rw [e]
      rfl
end Go.Proofs.Ytljblbgogjieaaa
set_option linter.unusedVariables false
namespace Go.Proofs.Ytljblbgogjieaaa.Grp
section
variable {p : Nat} [NeZero p]
abbrev F (p : Nat) := Fin p
theorem eq_of_sub {x y : Fin p} (h : x - y = 0) : x = y := by grind -lia
theorem sub_of_eq {x y : Fin p} (h : x = y) : x - y = 0 := by grind -lia
theorem lin1 {x c1 e1 : Fin p} (h : x = c1 * e1) (h1 : e1 = 0) : x = 0 := by rw [h, h1]; grind -lia
theorem lin2 {x c1 e1 c2 e2 : Fin p} (h : x = c1 * e1 + c2 * e2) (h1 : e1 = 0) (h2 : e2 = 0) : x = 0 := by rw [h, h1, h2]; grind -lia
theorem lin3 {x c1 e1 c2 e2 c3 e3 : Fin p} (h : x = c1 * e1 + c2 * e2 + c3 * e3) (h1 : e1 = 0) (h2 : e2 = 0) (h3 : e3 = 0) : x = 0 := by rw [h, h1, h2, h3]; grind -lia
theorem lin4 {x c1 e1 c2 e2 c3 e3 c4 e4 : Fin p} (h : x = c1 * e1 + c2 * e2 + c3 * e3 + c4 * e4) (h1 : e1 = 0) (h2 : e2 = 0) (h3 : e3 = 0) (h4 : e4 = 0) : x = 0 := by rw [h, h1, h2, h3, h4]; grind -lia
def Dom (p : Nat) [NeZero p] : Prop := ∀ x y : Fin p, x * y = 0 → x = 0 ∨ y = 0
theorem Dom.cancel (hd : Dom p) {x y c : Fin p} (hc : c ≠ 0) (h : (x - y) * c = 0) : x = y := by
  rcases hd _ _ h with h | h
  · exact eq_of_sub h
  · exact absurd h hc
structure Slope (a x1 y1 x2 y2 l : Fin p) : Prop where
  chord : l * (x1 - x2) - (y1 - y2) = 0
  tang : l * (y1 + y2) - (x1 * x1 + x1 * x2 + x2 * x2 + a) = 0
theorem Slope.symm {a x1 y1 x2 y2 l : Fin p} (h : Slope a x1 y1 x2 y2 l) : Slope a x2 y2 x1 y1 l :=
  ⟨lin1 (c1 := -1) (by grind -lia) h.chord, lin1 (c1 := 1) (by grind -lia) h.tang⟩
def Opp (x1 y1 x2 y2 : Fin p) : Prop := x1 - x2 = 0 ∧ y1 + y2 = 0
theorem Slope.unique (hd : Dom p) {a x1 y1 x2 y2 l m : Fin p} (hn : ¬ Opp x1 y1 x2 y2) (hl : Slope a x1 y1 x2 y2 l) (hm : Slope a x1 y1 x2 y2 m) : l = m := by
  by_cases h : x1 - x2 = 0
  · have h2 : y1 + y2 ≠ 0 := fun e => hn ⟨h, e⟩
    exact hd.cancel h2 (lin2 (c1 := 1) (c2 := -1) (by grind -lia) hl.tang hm.tang)
  · exact hd.cancel h (lin2 (c1 := 1) (c2 := -1) (by grind -lia) hl.chord hm.chord)
theorem slope_next (hd : Dom p) {a x1 y1 x2 y2 x3 y3 l m s x4 y4 : Fin p} (hA : Slope a x1 y1 x2 y2 l) (hC : Slope a x3 y3 x2 y2 m) (h4 : x4 - (l * l - x1 - x2) = 0) (h5 : y4 - (l * (x1 - x4) - y1) = 0)
    (hs : Slope a x3 y3 x4 y4 s) (hlm : l - m ≠ 0) (hn : ¬ Opp x3 y3 x4 y4) : (s + l) * (l - m) = x1 - x3 := by
  obtain ⟨hA1, hA2⟩ := hA
  obtain ⟨hC1, hC2⟩ := hC
  obtain ⟨hs1, hs2⟩ := hs
  obtain rfl : y1 = y2 + l * (x1 - x2) := eq_of_sub (lin1 (c1 := -1) (by grind -lia) hA1)
  obtain rfl : y3 = y2 + m * (x3 - x2) := eq_of_sub (lin1 (c1 := -1) (by grind -lia) hC1)
  obtain rfl : x4 = l * l - x1 - x2 := eq_of_sub h4
  obtain rfl : y4 = _ := eq_of_sub h5
  have hK1 : (s * (l - m) - (l * m - l * l + x1 - x3)) * (x3 - (l * l - x1 - x2)) = 0 :=
    lin3 (c1 := l - m) (c2 := 1) (c3 := -1) (by clear hA1 hA2 hC1 hC2 hs1 hs2 h4 h5 hlm hn; grind -lia) hs1 hA2 hC2
  have hK2 : (s * (l - m) - (l * m - l * l + x1 - x3)) * (y2 + m * (x3 - x2) + (l * (x1 - (l * l - x1 - x2)) - (y2 + l * (x1 - x2)))) = 0 :=
    lin3 (c1 := l - m) (c2 := m) (c3 := -l) (by clear hA1 hA2 hC1 hC2 hs1 hs2 h4 h5 hlm hn hK1; grind -lia) hs2 hA2 hC2
  have hK : s * (l - m) = l * m - l * l + x1 - x3 := by
    by_cases h : x3 - (l * l - x1 - x2) = 0
    · exact hd.cancel (fun e => hn ⟨h, e⟩) hK2
    · exact hd.cancel h hK1
  clear hA1 hA2 hC1 hC2 hs1 hs2 h4 h5 hlm hn hK1 hK2
  have : (s + l) * (l - m) = s * (l - m) + l * (l - m) := by clear hK; grind -lia
  rw [this, hK]; clear hK this; grind -lia
inductive Pt (p : Nat) where
  | inf
  | aff (x y : Fin p)
def Pt.neg : Pt p → Pt p
  | .inf => .inf
  | .aff x y => .aff x (-y)
inductive Add (a : Fin p) : Pt p → Pt p → Pt p → Prop where
  | left (q : Pt p) : Add a .inf q q
  | right (q : Pt p) : Add a q .inf q
  | opp {x1 y1 x2 y2 : Fin p} : Opp x1 y1 x2 y2 → Add a (.aff x1 y1) (.aff x2 y2) .inf
  | line {x1 y1 x2 y2 : Fin p} (l x y : Fin p) : ¬ Opp x1 y1 x2 y2 → Slope a x1 y1 x2 y2 l → x - (l * l - x1 - x2) = 0 → y - (l * (x1 - x) - y1) = 0 → Add a (.aff x1 y1) (.aff x2 y2) (.aff x y)
theorem Opp.symm {x1 y1 x2 y2 : Fin p} (h : Opp x1 y1 x2 y2) : Opp x2 y2 x1 y1 := ⟨lin1 (c1 := -1) (by grind -lia) h.1, lin1 (c1 := 1) (by grind -lia) h.2⟩
theorem Add.symm {a : Fin p} {A B R : Pt p} (h : Add a A B R) : Add a B A R := by
  cases h with
  | left q => exact .right _
  | right q => exact .left _
  | opp h => exact .opp h.symm
  | line l x y hn hs hx hy =>
    refine .line l x y (fun h => hn h.symm) hs.symm ?_ ?_
    · exact lin1 (c1 := 1) (by clear hs hx hy hn; grind -lia) hx
    · exact lin2 (c1 := 1) (c2 := 1) (by clear hs hx hy hn; grind -lia) hy hs.chord
theorem Add.unique (hd : Dom p) {a : Fin p} {A B R S : Pt p} (h : Add a A B R) (k : Add a A B S) : R = S := by
  cases h with
  | left q => cases k <;> rfl
  | right q => cases k <;> rfl
  | opp h => cases k with
    | opp _ => rfl
    | line _ _ _ hn _ _ _ => exact absurd h hn
  | line l x y hn hs hx hy => cases k with
    | opp h => exact absurd h hn
    | line m x' y' hn' hs' hx' hy' =>
      obtain rfl := hs.unique hd hn hs'
      obtain rfl := eq_of_sub hx
      obtain rfl := eq_of_sub hy
      obtain rfl := eq_of_sub hx'
      obtain rfl := eq_of_sub hy'
      rfl
def On (a b : Fin p) : Pt p → Prop
  | .inf => True
  | .aff x y => y * y - (x * x * x + a * x + b) = 0
theorem Add.on {a b : Fin p} {A B R : Pt p} (h : Add a A B R) (hA : On a b A) (hB : On a b B) : On a b R := by
  cases h with
  | left q => exact hB
  | right q => exact hA
  | opp h => trivial
  | @line x1 y1 x2 y2 l x y hn hs hx hy =>
    obtain ⟨h1, h2⟩ := hs
    simp only [On] at hA hB ⊢
    obtain rfl := eq_of_sub hy
    have hx' : l * l - x1 - x2 - x = 0 := lin1 (c1 := -1) (by clear h1 h2 hA hB hn hx; grind -lia) hx
    exact lin4 (c1 := 1) (c2 := x - x1) (c3 := -((x - x1) * l)) (c4 := (x - x1) * (x - x2)) (by clear h1 h2 hA hB hn hx hx'; grind -lia) hA h2 h1 hx'
structure Fine (a b : Fin p) : Prop where
  dom : Dom p
  two : ∀ y : Fin p, y + y = 0 → y = 0
  sing : ∀ x : Fin p, On a b (.aff x 0) → x * x + x * x + x * x + a = 0 → False
theorem Opp.eq {x1 y1 x2 y2 : Fin p} (h : Opp x1 y1 x2 y2) : (.aff x2 y2 : Pt p) = .aff x1 (-y1) := by
  have e1 : x2 = x1 := eq_of_sub (lin1 (c1 := -1) (by grind -lia) h.1)
  have e2 : y2 = -y1 := eq_of_sub (lin1 (c1 := 1) (by grind -lia) h.2)
  rw [e1, e2]
theorem opp_neg (x y : Fin p) : Opp x (-y) x y := ⟨by grind -lia, by grind -lia⟩
theorem opp_neg' (x y : Fin p) : Opp x y x (-y) := ⟨by grind -lia, by grind -lia⟩
theorem Pt.neg_neg (A : Pt p) : A.neg.neg = A := by
  cases A with
  | inf => rfl
  | aff x y => simp only [Pt.neg]; congr 1; grind -lia
theorem Add.cancel {a b : Fin p} (hf : Fine a b) {B C E : Pt p} (hB : On a b B) (h : Add a B C E) : Add a B.neg E C := by
  cases h with
  | left q => exact .left _
  | right q =>
    cases B with
    | inf => exact .right _
    | aff x y => exact .opp (opp_neg x y)
  | opp h => rw [h.eq]; exact .right _
  | @line x2 y2 x3 y3 m x y hn hs hx hy =>
    obtain ⟨h1, h2⟩ := hs
    have ht : -m * (-y2 + y) - (x2 * x2 + x2 * x + x * x + a) = 0 := by
      clear hB hn
      obtain rfl : y3 = y2 - m * (x2 - x3) := eq_of_sub (lin1 (c1 := 1) (by clear h1 h2 hx hy; grind -lia) h1)
      obtain rfl := eq_of_sub hx
      obtain rfl := eq_of_sub hy
      exact lin1 (c1 := 1) (by clear h1 h2 hx hy; grind -lia) h2
    refine .line (-m) x3 y3 ?_ ⟨?_, ht⟩ ?_ ?_
    · rintro ⟨o1, o2⟩
      obtain rfl := eq_of_sub o1
      have e1 : y2 + y2 = 0 := lin2 (c1 := -1) (c2 := 1) (by clear h1 h2 hx hy hB hn ht o1 o2; grind -lia) o2 hy
      have e2 := hf.two _ e1
      subst e2
      have e3 : y = 0 := by
        have : y - 0 = 0 := lin1 (c1 := 1) (by clear h1 h2 hx hy hB hn ht o1 o2 e1; grind -lia) o2
        exact eq_of_sub this
      subst e3
      exact hf.sing _ hB (lin1 (c1 := -1) (by clear h1 h2 hx hy hB hn ht o1 o2 e1; grind -lia) ht)
    · exact lin1 (c1 := 1) (by clear h1 h2 hx hB hn ht hy; grind -lia) hy
    · exact lin1 (c1 := 1) (by clear h1 h2 hx hB hn ht hy; grind -lia) hx
    · exact lin1 (c1 := 1) (by clear h1 h2 hx hB hn ht hy; grind -lia) h1
theorem Add.neg {a : Fin p} {A B R : Pt p} (h : Add a A B R) : Add a A.neg B.neg R.neg := by
  cases h with
  | left q => exact .left _
  | right q => exact .right _
  | opp h => exact .opp ⟨h.1, lin1 (c1 := -1) (by grind -lia) h.2⟩
  | @line x1 y1 x2 y2 l x y hn hs hx hy =>
    refine .line (-l) x (-y) (fun h => hn ⟨h.1, lin1 (c1 := -1) (by grind -lia) h.2⟩) ⟨lin1 (c1 := -1) (by clear hn hx hy; grind -lia) hs.1, lin1 (c1 := 1) (by clear hn hx hy; grind -lia) hs.2⟩ ?_ ?_
    · exact lin1 (c1 := 1) (by clear hn hx hy hs; grind -lia) hx
    · exact lin1 (c1 := -1) (by clear hn hx hy hs; grind -lia) hy
theorem neg_on {a b : Fin p} {A : Pt p} (h : On a b A) : On a b A.neg := by
  cases A with
  | inf => trivial
  | aff x y =>
    simp only [On, Pt.neg] at h ⊢
    exact lin1 (c1 := 1) (by clear h; grind -lia) h
theorem add_neg (a : Fin p) (A : Pt p) : Add a A A.neg .inf := by
  cases A with
  | inf => exact .left _
  | aff x y => exact .opp (opp_neg' x y)
theorem Add.assoc {a b : Fin p} (hf : Fine a b) {A B C D E R S : Pt p} (hA : On a b A) (hB : On a b B) (hC : On a b C) (h1 : Add a A B D) (h2 : Add a D C R) (h3 : Add a B C E) (h4 : Add a A E S) : R = S := by
  have hd := hf.dom
  have hnA : ∀ {A' B' D' : Pt p}, Add a A' B' D' → On a b A' → On a b B' → Add a B' D'.neg A'.neg := by
    intro A' B' D' h hA hB
    have := (Add.cancel hf hB h.symm).neg
    rwa [Pt.neg_neg] at this
  cases h1 with
  | left q =>
    have := h2.unique hd h3
    subst this
    cases h4 <;> rfl
  | right q =>
    cases h3 <;> exact h2.unique hd h4
  | @opp x1 y1 x2 y2 h =>
    have e : R = C := by cases h2 <;> rfl
    subst e
    have e2 := Add.cancel hf hB h3
    have e3 : (Pt.aff x2 y2).neg = .aff x1 y1 := by
      have := h.symm.eq
      simp only [Pt.neg]; exact this.symm
    rw [e3] at e2
    exact e2.unique hd h4
  | @line x1 y1 x2 y2 l x4 y4 hn hs hx hy =>
    have hAB : Add a (.aff x1 y1) (.aff x2 y2) (.aff x4 y4) := .line l x4 y4 hn hs hx hy
    cases h3 with
    | right q =>
      have e : R = .aff x4 y4 := by cases h2; rfl
      subst e
      exact hAB.unique hd h4
    | @opp _ _ x3 y3 h =>
      have e : S = .aff x1 y1 := by cases h4; rfl
      subst e
      have e2 := Add.cancel hf hB hAB.symm
      rw [show (Pt.aff x2 y2).neg = .aff x3 y3 from h.eq.symm] at e2
      exact h2.unique hd e2.symm
    | @line _ _ x3 y3 m x6 y6 hn' hs' hx' hy' =>
      have hBC : Add a (.aff x2 y2) (.aff x3 y3) (.aff x6 y6) := .line m x6 y6 hn' hs' hx' hy'
      cases h2 with
      | opp h =>
        have e := hnA hAB hA hB
        rw [show (Pt.aff x4 y4).neg = .aff x3 y3 from h.eq.symm] at e
        have e2 := e.unique hd hBC
        rw [← e2] at h4
        exact (add_neg a _).unique hd h4
      | @line _ _ _ _ s xr yr ns ss hxr hyr =>
        cases h4 with
        | opp h =>
          have e := Add.cancel hf hB hBC
          have e1 := e.neg
          rw [Pt.neg_neg, show (Pt.aff x6 y6).neg = Pt.aff x1 y1 from h.symm.eq.symm] at e1
          have e2 := hAB.unique hd e1.symm
          exact absurd (show Opp x4 y4 x3 y3 by injection e2 with e3 e4; rw [e3, e4]; exact opp_neg _ _) ns
        | @line _ _ _ _ t xs ys nt st hxs hys =>
          by_cases hlm : l - m = 0
          · obtain rfl := eq_of_sub hlm
            clear hlm
            have hz : (x1 - x3) * (x1 + x3 + x2 - l * l) = 0 := by
              obtain rfl : y1 = y2 + l * (x1 - x2) := eq_of_sub (lin1 (c1 := -1) (by clear hA hB hC hAB hBC hn hs hx hy hn' hs' hx' hy' ns ss hxr hyr nt st hxs hys; grind -lia) hs.1)
              obtain rfl : y3 = y2 - l * (x2 - x3) := eq_of_sub (lin1 (c1 := 1) (by clear hA hB hC hAB hBC hn hs hx hy hn' hs' hx' hy' ns ss hxr hyr nt st hxs hys; grind -lia) hs'.1)
              exact lin2 (c1 := -1) (c2 := 1) (by clear hA hB hC hAB hBC hn hs hx hy hn' hs' hx' hy' ns ss hxr hyr nt st hxs hys; grind -lia) hs.2 hs'.2
            rcases hd _ _ hz with h | h
            · have hac : (Pt.aff x3 y3) = .aff x1 y1 := by
                obtain rfl := eq_of_sub h
                have : y3 - y1 = 0 := lin2 (c1 := 1) (c2 := 1) (by clear hA hB hC hAB hBC hn hs hx hy hn' hs' hx' hy' ns ss hxr hyr nt st hxs hys hz h; grind -lia) hs.1 hs'.1
                rw [eq_of_sub this]
              have h2' : Add a (.aff x4 y4) (.aff x3 y3) (.aff xr yr) := .line s xr yr ns ss hxr hyr
              have h4' : Add a (.aff x1 y1) (.aff x6 y6) (.aff xs ys) := .line t xs ys nt st hxs hys
              rw [hac] at hBC h2'
              have e := hAB.symm.unique hd hBC
              rw [e] at h2'
              exact h2'.symm.unique hd h4'
            · have h' : x4 - x3 = 0 := lin2 (c1 := 1) (c2 := -1) (by clear hA hB hC hAB hBC hn hs hx hy hn' hs' hx' hy' ns ss hxr hyr nt st hxs hys hz h; grind -lia) hx h
              exact absurd (show Opp x4 y4 x3 y3 from ⟨h', lin4 (c1 := 1) (c2 := 1) (c3 := 1) (c4 := -l) (by clear hA hB hC hAB hBC hn hs hx hy hn' hs' hx' hy' ns ss hxr hyr nt st hxs hys hz h; clear h'; grind -lia) hy hs.1 hs'.1 h'⟩) ns
          · have e1 := slope_next hd hs hs'.symm hx hy ss.symm hlm (fun h => ns h.symm)
            have hs3 : Slope a x3 y3 x2 y2 m := hs'.symm
            have hx3 : x6 - (m * m - x3 - x2) = 0 := lin1 (c1 := 1) (by clear hA hB hC hAB hBC hn hs hx hy hn' hs' hx' hy' ns ss hxr hyr nt st hxs hys hlm; grind -lia) hx'
            have hy3 : y6 - (m * (x3 - x6) - y3) = 0 := lin2 (c1 := 1) (c2 := 1) (by clear hA hB hC hAB hBC hn hs hx hy hn' hs' hx' hy' ns ss hxr hyr nt st hxs hys hlm; clear hx3; grind -lia) hy' hs'.1
            have hml : m - l ≠ 0 := fun e => hlm (lin1 (c1 := -1) (by clear hA hB hC hAB hBC hn hs hx hy hn' hs' hx' hy' ns ss hxr hyr nt st hxs hys hlm; clear hx3 hy3 e; grind -lia) e)
            have e2 := slope_next hd hs3 hs hx3 hy3 st hml nt
            have e3 : s = t + m - l := by
              refine hd.cancel hlm (lin2 (c1 := 1) (c2 := 1) (by clear hA hB hC hAB hBC hn hs hx hy hn' hs' hx' hy' ns ss hxr hyr nt st hxs hys hlm; clear hx3 hy3 hml e1 e2; grind -lia) (sub_of_eq e1) (sub_of_eq e2))
            have e4 := sub_of_eq e2
            clear e1 e2 hx3 hy3 hml hs3
            subst e3
            have z0 := lin2 (c1 := 1) (c2 := 2) rfl hx' e4
            have hxx : xr = xs := eq_of_sub (lin4 (c1 := 1) (c2 := -1) (c3 := -1) (c4 := 1) (by clear hA hB hC hAB hBC hn hs hx hy hn' hs' hx' hy' ns ss hxr hyr nt st hxs hys hlm e4; clear z0; grind -lia) hxr hxs hx z0)
            clear z0
            subst hxx
            have z1 := lin4 (c1 := 1) (c2 := -1) (c3 := 1) (c4 := -1) rfl hyr hys ss.1 hs.1
            have z2 := lin4 (c1 := -1) (c2 := m - l) (c3 := -(m - l)) (c4 := -(t - m)) rfl hs'.1 hx' hxs e4
            have hyy : yr = ys := eq_of_sub (lin2 (c1 := 1) (c2 := 1) (by clear hA hB hC hAB hBC hn hs hx hy hn' hs' hx' hy' ns ss hxr hyr nt st hxs hys hlm e4; clear z1 z2; grind -lia) z1 z2)
            rw [hyy]
end
end Go.Proofs.Ytljblbgogjieaaa.Grp
set_option linter.unusedVariables false
namespace Go.Proofs.Ytljblbgogjieaaa.Grp
section
variable {p : Nat} [NeZero p]
def sum3 (A T X1 Y1 Z1 X2 Y2 Z2 : Fin p) : Fin p × Fin p × Fin p :=
  let t0 := X1 * X2
  let t1 := Y1 * Y2
  let t2 := Z1 * Z2
  let t3 := (X1 + Y1) * (X2 + Y2) - (t0 + t1)
  let t4 := (X1 + Z1) * (X2 + Z2) - (t0 + t2)
  let t5 := (Y1 + Z1) * (Y2 + Z2) - (t1 + t2)
  let z := T * t2 + A * t4
  let x := t1 - z
  let z := t1 + z
  let y := x * z
  let t1 := t0 + t0 + t0
  let t2 := A * t2
  let t4 := T * t4
  let t1 := t1 + t2
  let t2 := A * (t0 - t2)
  let t4 := t4 + t2
  let y := y + t1 * t4
  let x := t3 * x - t5 * t4
  let z := t5 * z + t3 * t1
  (x, y, z)
inductive Rep : Fin p → Fin p → Fin p → Pt p → Prop where
  | inf {Y : Fin p} : Y ≠ 0 → Rep 0 Y 0 .inf
  | aff {Z : Fin p} (x y : Fin p) : Z ≠ 0 → Rep (x * Z) (y * Z) Z (.aff x y)
theorem sum3_scale (A T x1 y1 Z1 x2 y2 Z2 : Fin p) : sum3 A T (x1 * Z1) (y1 * Z1) Z1 (x2 * Z2) (y2 * Z2) Z2 =
    ((sum3 A T x1 y1 1 x2 y2 1).1 * (Z1 * Z1 * (Z2 * Z2)), (sum3 A T x1 y1 1 x2 y2 1).2.1 * (Z1 * Z1 * (Z2 * Z2)), (sum3 A T x1 y1 1 x2 y2 1).2.2 * (Z1 * Z1 * (Z2 * Z2))) := by
  simp only [sum3]
  refine Prod.ext ?_ (Prod.ext ?_ ?_)
  · dsimp only; grind -lia
  · dsimp only; grind -lia
  · dsimp only; grind -lia
theorem sum3_line {x1 x2 y2 l A B : Fin p} (hA : A = l * (y2 + l * (x1 - x2) + y2) - (x1 * x1 + x1 * x2 + x2 * x2)) (hB : B = (y2 + l * (x1 - x2)) * (y2 + l * (x1 - x2)) - x1 * x1 * x1 - A * x1) :
    (sum3 A (B + B + B) x1 (y2 + l * (x1 - x2)) 1 x2 y2 1).1 = (l * l - x1 - x2) * (sum3 A (B + B + B) x1 (y2 + l * (x1 - x2)) 1 x2 y2 1).2.2 ∧
    (sum3 A (B + B + B) x1 (y2 + l * (x1 - x2)) 1 x2 y2 1).2.1 = (l * (x1 - (l * l - x1 - x2)) - (y2 + l * (x1 - x2))) * (sum3 A (B + B + B) x1 (y2 + l * (x1 - x2)) 1 x2 y2 1).2.2 ∧
    (sum3 A (B + B + B) x1 (y2 + l * (x1 - x2)) 1 x2 y2 1).2.2 = -((y2 + l * (x1 - x2) + y2) * (x1 * (x1 - x2) * (x1 - x2) - ((y2 + l * (x1 - x2) + y2) * (y2 + l * (x1 - x2) + y2) - (x1 + x2) * ((x1 - x2) * (x1 - x2)))) - (y2 + l * (x1 - x2)) * ((x1 - x2) * (x1 - x2) * (x1 - x2))) := by
  subst hB hA
  simp only [sum3]
  refine ⟨?_, ?_, ?_⟩ <;> grind -lia
theorem sum3_opp {x y A B : Fin p} (hB : B = y * y - x * x * x - A * x) : sum3 A (B + B + B) x y 1 x (-y) 1 =
    (0, -(8 * (y * y * (y * y)) - 12 * x * (y * y) * (3 * (x * x) + A) + (3 * (x * x) + A) * (3 * (x * x) + A) * (3 * (x * x) + A)), 0) := by
  subst hB
  simp only [sum3]
  refine Prod.ext ?_ (Prod.ext ?_ ?_)
  · dsimp only; grind -lia
  · dsimp only; grind -lia
  · dsimp only; grind -lia
theorem sum3_left (A T Y1 x2 y2 Z2 : Fin p) : sum3 A T 0 Y1 0 (x2 * Z2) (y2 * Z2) Z2 = (x2 * (Y1 * Y1 * (y2 * Z2) * Z2), y2 * (Y1 * Y1 * (y2 * Z2) * Z2), Y1 * Y1 * (y2 * Z2) * Z2) := by
  simp only [sum3]
  refine Prod.ext ?_ (Prod.ext ?_ ?_)
  · dsimp only; grind -lia
  · dsimp only; grind -lia
  · dsimp only; grind -lia
theorem sum3_right (A T Y1 x2 y2 Z2 : Fin p) : sum3 A T (x2 * Z2) (y2 * Z2) Z2 0 Y1 0 = (x2 * (Y1 * Y1 * (y2 * Z2) * Z2), y2 * (Y1 * Y1 * (y2 * Z2) * Z2), Y1 * Y1 * (y2 * Z2) * Z2) := by
  simp only [sum3]
  refine Prod.ext ?_ (Prod.ext ?_ ?_)
  · dsimp only; grind -lia
  · dsimp only; grind -lia
  · dsimp only; grind -lia
theorem sum3_none (A T Y1 Y2 : Fin p) : sum3 A T 0 Y1 0 0 Y2 0 = (0, Y1 * Y2 * (Y1 * Y2), 0) := by
  simp only [sum3]
  refine Prod.ext ?_ (Prod.ext ?_ ?_)
  · dsimp only; grind -lia
  · dsimp only; grind -lia
  · dsimp only; grind -lia
theorem Dom.mul (hd : Dom p) {x y : Fin p} (hx : x ≠ 0) (hy : y ≠ 0) : x * y ≠ 0 := fun h => (hd _ _ h).elim hx hy
theorem neg_ne {x : Fin p} (h : x ≠ 0) : -x ≠ 0 := fun e => h (by have : x = -(-x) := by grind -lia
                                                                  rw [this, e]; grind -lia)
structure Good (a b : Fin p) : Prop where
  dom : Dom p
  inv : ∀ x : Fin p, x ≠ 0 → ∃ y, x * y = 1
  two : ∀ y : Fin p, y + y = 0 → y = 0
  root : ∀ x : Fin p, ¬ On a b (.aff x 0)
theorem Good.fine {a b : Fin p} (h : Good a b) : Fine a b := ⟨h.dom, h.two, fun x hx _ => h.root x hx⟩
theorem Good.y_ne {a b x y : Fin p} (h : Good a b) (hP : On a b (.aff x y)) : y ≠ 0 := fun e => h.root x (e ▸ hP)
theorem Good.quot {a b : Fin p} (h : Good a b) {x : Fin p} (hx : x ≠ 0) (y : Fin p) : ∃ l, l * x = y := by
  obtain ⟨i, hi⟩ := h.inv x hx
  refine ⟨y * i, ?_⟩
  have e : y * i * x = y * (x * i) := by clear hi; grind -lia
  rw [e, hi]; clear hi e; grind -lia
theorem Good.sum {a b : Fin p} (h : Good a b) {A B : Pt p} (hA : On a b A) (hB : On a b B) : ∃ R, Add a A B R := by
  cases A with
  | inf => exact ⟨_, .left _⟩
  | aff x1 y1 => cases B with
    | inf => exact ⟨_, .right _⟩
    | aff x2 y2 =>
      by_cases ho : Opp x1 y1 x2 y2
      · exact ⟨_, .opp ho⟩
      · have key : ∃ l, Slope a x1 y1 x2 y2 l := by
          simp only [On] at hA hB
          by_cases hx : x1 - x2 = 0
          · have hs : y1 + y2 ≠ 0 := fun e => ho ⟨hx, e⟩
            obtain ⟨l, hl⟩ := h.quot hs (x1 * x1 + x1 * x2 + x2 * x2 + a)
            refine ⟨l, ?_, sub_of_eq hl⟩
            obtain rfl := eq_of_sub hx
            have e : (y1 - y2) * (y1 + y2) = 0 := lin2 (c1 := 1) (c2 := -1) (by clear hl hs hx ho hA hB; grind -lia) hA hB
            have e2 : y1 - y2 = 0 := (h.dom _ _ e).elim id (fun e => absurd e hs)
            exact lin1 (c1 := -1) (by clear hl hs hx ho hA hB e e2; grind -lia) e2
          · obtain ⟨l, hl⟩ := h.quot hx (y1 - y2)
            refine ⟨l, sub_of_eq hl, ?_⟩
            have e : (l * (y1 + y2) - (x1 * x1 + x1 * x2 + x2 * x2 + a)) * (x1 - x2) = 0 := lin3 (c1 := y1 + y2) (c2 := 1) (c3 := -1) (by clear hl hx ho hA hB; grind -lia) (sub_of_eq hl) hA hB
            exact (h.dom _ _ e).elim id (fun e => absurd e hx)
        obtain ⟨l, hl⟩ := key
        exact ⟨_, .line l (l * l - x1 - x2) (l * (x1 - (l * l - x1 - x2)) - y1) ho hl (by clear hl ho hA hB; grind -lia) (by clear hl ho hA hB; grind -lia)⟩
theorem rep_scale {X Y Z k : Fin p} {P : Pt p} (hd : Dom p) (h : Rep X Y Z P) (hk : k ≠ 0) : Rep (X * k) (Y * k) (Z * k) P := by
  cases h with
  | inf h =>
    have e : (0 : Fin p) * k = 0 := by clear h hk; grind -lia
    rw [e]
    exact .inf (hd.mul h hk)
  | aff x y h =>
    have e1 : x * Z * k = x * (Z * k) := by clear h hk; grind -lia
    have e2 : y * Z * k = y * (Z * k) := by clear h hk; grind -lia
    rw [e1, e2]
    exact .aff x y (hd.mul h hk)
theorem Rep.sum {a b X1 Y1 Z1 X2 Y2 Z2 : Fin p} (h : Good a b) {P Q R : Pt p} (hP : Rep X1 Y1 Z1 P) (hQ : Rep X2 Y2 Z2 Q) (oP : On a b P) (oQ : On a b Q) (hR : Add a P Q R) :
    Rep (sum3 a (b + b + b) X1 Y1 Z1 X2 Y2 Z2).1 (sum3 a (b + b + b) X1 Y1 Z1 X2 Y2 Z2).2.1 (sum3 a (b + b + b) X1 Y1 Z1 X2 Y2 Z2).2.2 R := by
  have hd := h.dom
  cases hP with
  | inf h1 => cases hQ with
    | inf h2 =>
      have e : R = .inf := by cases hR <;> rfl
      subst e
      rw [sum3_none]
      exact .inf (hd.mul (hd.mul h1 h2) (hd.mul h1 h2))
    | aff x2 y2 h2 =>
      have e : R = .aff x2 y2 := by cases hR; rfl
      subst e
      rw [sum3_left]
      exact .aff x2 y2 (hd.mul (hd.mul (hd.mul h1 h1) (hd.mul (h.y_ne oQ) h2)) h2)
  | aff x1 y1 h1 => cases hQ with
    | inf h2 =>
      have e : R = .aff x1 y1 := by cases hR; rfl
      subst e
      rw [sum3_right]
      exact .aff x1 y1 (hd.mul (hd.mul (hd.mul h2 h2) (hd.mul (h.y_ne oP) h1)) h1)
    | aff x2 y2 h2 =>
      rw [sum3_scale]
      refine rep_scale hd ?_ (hd.mul (hd.mul h1 h1) (hd.mul h2 h2))
      have hb := oP
      simp only [On] at hb
      cases hR with
      | opp ho =>
        have e := ho.eq
        injection e with e1 e2
        subst e1 e2
        have hB : b = y1 * y1 - x2 * x2 * x2 - a * x2 := eq_of_sub (lin1 (c1 := -1) (by clear hb ho oP oQ h1 h2; grind -lia) hb)
        rw [sum3_opp hB]
        refine .inf (neg_ne ?_)
        intro hV
        have hy := h.y_ne oP
        have hyy : y1 + y1 ≠ 0 := fun e => hy (h.two _ e)
        obtain ⟨l, hl⟩ := h.quot hyy (3 * (x2 * x2) + a)
        have hs : Slope a x2 y1 x2 y1 l := ⟨by clear hl hV hB hb; grind -lia, lin1 (c1 := 1) (by clear hl hV hB hb; grind -lia) (sub_of_eq hl)⟩
        have hA : Add a (.aff x2 y1) (.aff x2 y1) (.aff (l * l - x2 - x2) (l * (x2 - (l * l - x2 - x2)) - y1)) := .line l _ _ (fun e => hyy e.2) hs (by clear hl hV hB hb; grind -lia) (by clear hl hV hB hb; grind -lia)
        have hO := hA.on oP oP
        have hy4 := h.y_ne hO
        apply hd.mul hy4 (hd.mul hyy (hd.mul hyy hyy))
        have hl' := hl.symm
        rw [hl'] at hV
        refine lin1 (c1 := -1) ?_ hV
        clear hV hl' hl hB hb hs hA hO hy4 hyy hy oP oQ ho
        grind -lia
      | line l x y hn hs hx hy =>
        obtain rfl := eq_of_sub hx
        obtain rfl := eq_of_sub hy
        have hs1 := hs.chord
        have hs2 := hs.tang
        obtain rfl : y1 = y2 + l * (x1 - x2) := eq_of_sub (lin1 (c1 := -1) (by clear hs1 hs2 hb hx hy oP oQ; grind -lia) hs1)
        have hA : a = l * (y2 + l * (x1 - x2) + y2) - (x1 * x1 + x1 * x2 + x2 * x2) := eq_of_sub (lin1 (c1 := -1) (by clear hs1 hs2 hb hx hy oP oQ; grind -lia) hs2)
        have hB : b = (y2 + l * (x1 - x2)) * (y2 + l * (x1 - x2)) - x1 * x1 * x1 - a * x1 := eq_of_sub (lin1 (c1 := -1) (by clear hs1 hs2 hb hx hy oP oQ hA; grind -lia) hb)
        obtain ⟨e1, e2, e3⟩ := sum3_line hA hB
        rw [e1, e2]
        refine .aff _ _ ?_
        rw [e3]
        refine neg_ne ?_
        clear e1 e2 e3
        by_cases hxx : x1 - x2 = 0
        · have hss : y2 + l * (x1 - x2) + y2 ≠ 0 := fun e => hn ⟨hxx, e⟩
          intro hV
          obtain rfl := eq_of_sub hxx
          apply hd.mul hss (hd.mul hss hss)
          refine lin1 (c1 := -1) ?_ hV
          clear hV hss hA hB hb hs hs1 hs2 hx hy oP oQ hxx hn
          grind -lia
        · obtain ⟨n, hn'⟩ := h.quot hxx (y2 + l * (x1 - x2) + y2)
          have oQ' : On a b (.aff x2 (-y2)) := neg_on oQ
          have hs' : Slope a x1 (y2 + l * (x1 - x2)) x2 (-y2) n := by
            have c1 : n * (x1 - x2) - (y2 + l * (x1 - x2) - -y2) = 0 := lin1 (c1 := 1) (by clear hn' hA hB hb hs hs1 hs2 hx hy oP oQ oQ' hxx hn; grind -lia) (sub_of_eq hn')
            refine ⟨c1, ?_⟩
            have e : (n * (y2 + l * (x1 - x2) + -y2) - (x1 * x1 + x1 * x2 + x2 * x2 + a)) * (x1 - x2) = 0 := lin2 (c1 := l * (x1 - x2)) (c2 := x1 - x2) (by clear hn' hA hB hb hs hs1 hs2 hx hy oP oQ oQ' hxx hn; grind -lia) (sub_of_eq hn') hs2
            exact (hd _ _ e).elim id (fun e => absurd e hxx)
          have hA' : Add a (.aff x1 (y2 + l * (x1 - x2))) (.aff x2 (-y2)) (.aff (n * n - x1 - x2) (n * (x1 - (n * n - x1 - x2)) - (y2 + l * (x1 - x2)))) := .line n _ _ (fun e => hxx e.1) hs' (by clear hn' hA hB hb hs hs1 hs2 hx hy oP oQ oQ' hxx hn hs'; grind -lia) (by clear hn' hA hB hb hs hs1 hs2 hx hy oP oQ oQ' hxx hn hs'; grind -lia)
          have hO := hA'.on oP oQ'
          have hy4 := h.y_ne hO
          intro hV
          apply hd.mul hy4 (hd.mul hxx (hd.mul hxx hxx))
          rw [← hn'] at hV
          refine lin1 (c1 := 1) ?_ hV
          clear hV hA hB hb hs hs1 hs2 hx hy oP oQ oQ' hxx hn hs' hA' hO hy4 hn'
          grind -lia
end
end Go.Proofs.Ytljblbgogjieaaa.Grp
set_option linter.unusedVariables false
set_option linter.unusedSectionVars false
namespace Go.Proofs.Ytljblbgogjieaaa.Grp
section
def Pr (p : Nat) : Prop := 2 ≤ p ∧ ∀ d, d ∣ p → d = 1 ∨ d = p
theorem bez (a m : Nat) : ∃ s t : Int, (a : Int) * s + (m : Int) * t = ((Nat.gcd a m : Nat) : Int) := by
  induction a, m using Nat.gcd.induction with
  | H0 n => exact ⟨0, 1, by simp⟩
  | H1 m n hm ih =>
    obtain ⟨s, t, h⟩ := ih
    refine ⟨t - ((n / m : Nat) : Int) * s, s, ?_⟩
    rw [Nat.gcd_rec m n, ← h]
    have e : ((n : Nat) : Int) = (m : Int) * ((n / m : Nat) : Int) + ((n % m : Nat) : Int) := by
      rw [← Int.natCast_mul, ← Int.natCast_add, Nat.div_add_mod]
    generalize ((n / m : Nat) : Int) = q at *
    generalize ((n % m : Nat) : Int) = r at *
    rw [e]
    grind
theorem inv_mod {a m : Nat} (h : Nat.gcd a m = 1) (hm : 1 < m) : ∃ s, s < m ∧ a * s % m = 1 := by
  obtain ⟨s, t, e⟩ := bez a m
  rw [h] at e
  have hm' : (m : Int) ≠ 0 := by omega
  refine ⟨(s % (m : Int)).toNat, ?_, ?_⟩
  · have := Int.emod_lt_of_pos s (show (0 : Int) < m by omega)
    have := Int.emod_nonneg s hm'
    omega
  · have h0 := Int.emod_nonneg s hm'
    have h1 : ((a * (s % (m : Int)).toNat % m : Nat) : Int) = 1 := by
      rw [Int.natCast_emod, Int.natCast_mul, Int.toNat_of_nonneg h0, Int.mul_emod, Int.emod_emod, ← Int.mul_emod]
      have e2 : (a : Int) * s = 1 + (m : Int) * (-t) := by
        rw [Int.mul_neg]; simp at e; omega
      rw [e2, Int.add_mul_emod_self_left]
      exact Int.emod_eq_of_lt (by decide) (by omega)
    omega
theorem Pr.cop {p x : Nat} (h : Pr p) (hx : ¬ p ∣ x) : Nat.gcd x p = 1 := by
  rcases h.2 _ (Nat.gcd_dvd_right x p) with e | e
  · exact e
  · exact absurd (e ▸ Nat.gcd_dvd_left x p) hx
theorem Pr.mul {p x y : Nat} (h : Pr p) (hd : p ∣ x * y) : p ∣ x ∨ p ∣ y := by
  by_cases hx : p ∣ x
  · exact .inl hx
  · refine .inr (Nat.Coprime.dvd_of_dvd_mul_left ?_ hd)
    rw [Nat.coprime_comm]
    exact h.cop hx
variable {p : Nat} [NeZero p]
structure Fld (p : Nat) [NeZero p] : Prop where
  dom : Dom p
  inv : ∀ x : Fin p, x ≠ 0 → ∃ y, x * y = 1
  two : ∀ y : Fin p, y + y = 0 → y = 0
theorem Pr.fld (h : Pr p) (h2 : p ≠ 2) : Fld p := by
  have hp := h.1
  have zero_of : ∀ x : Fin p, p ∣ x.val → x = 0 := fun x hx => by
    apply Fin.ext
    rw [Fin.val_zero]
    exact Nat.eq_zero_of_dvd_of_lt hx x.isLt
  refine ⟨fun x y e => ?_, fun x hx => ?_, fun y e => ?_⟩
  · have e1 : x.val * y.val % p = 0 := by rw [← Fin.val_mul, e, Fin.val_zero]
    exact (h.mul (Nat.dvd_of_mod_eq_zero e1)).imp (zero_of x) (zero_of y)
  · obtain ⟨s, hs, e⟩ := inv_mod (a := x.val) (h.cop (fun hd => hx (zero_of x hd))) (show 1 < p by omega)
    refine ⟨⟨s, hs⟩, Fin.ext ?_⟩
    rw [Fin.val_mul]
    show x.val * s % p = _
    rw [e]
    have : (1 : Fin p).val = 1 % p := rfl
    rw [this, Nat.mod_eq_of_lt (by omega)]
  · have e1 : (y.val + y.val) % p = 0 := by rw [← Fin.val_add, e, Fin.val_zero]
    have e2 : p ∣ 2 * y.val := by rw [Nat.two_mul]; exact Nat.dvd_of_mod_eq_zero e1
    rcases h.mul e2 with e3 | e3
    · have := Nat.le_of_dvd (by decide) e3
      exact absurd (show p = 2 by omega) h2
    · exact zero_of y e3
structure Crv (a b : Fin p) : Prop where
  fld : Fld p
  sing : ∀ x : Fin p, On a b (.aff x 0) → x * x + x * x + x * x + a = 0 → False
theorem Crv.fine {a b : Fin p} (h : Crv a b) : Fine a b := ⟨h.fld.dom, h.fld.two, h.sing⟩
theorem Fld.quot (h : Fld p) {x : Fin p} (hx : x ≠ 0) (y : Fin p) : ∃ l, l * x = y := by
  obtain ⟨i, hi⟩ := h.inv x hx
  refine ⟨y * i, ?_⟩
  have e : y * i * x = y * (x * i) := by clear hi; grind -lia
  rw [e, hi]; clear hi e; grind -lia
theorem Fld.sum (h : Fld p) {a b : Fin p} {A B : Pt p} (hA : On a b A) (hB : On a b B) : ∃ R, Add a A B R := by
  cases A with
  | inf => exact ⟨_, .left _⟩
  | aff x1 y1 => cases B with
    | inf => exact ⟨_, .right _⟩
    | aff x2 y2 =>
      by_cases ho : Opp x1 y1 x2 y2
      · exact ⟨_, .opp ho⟩
      · have key : ∃ l, Slope a x1 y1 x2 y2 l := by
          simp only [On] at hA hB
          by_cases hx : x1 - x2 = 0
          · have hs : y1 + y2 ≠ 0 := fun e => ho ⟨hx, e⟩
            obtain ⟨l, hl⟩ := h.quot hs (x1 * x1 + x1 * x2 + x2 * x2 + a)
            refine ⟨l, ?_, sub_of_eq hl⟩
            obtain rfl := eq_of_sub hx
            have e : (y1 - y2) * (y1 + y2) = 0 := lin2 (c1 := 1) (c2 := -1) (by clear hl hs hx ho hA hB; grind -lia) hA hB
            have e2 : y1 - y2 = 0 := (h.dom _ _ e).elim id (fun e => absurd e hs)
            exact lin1 (c1 := -1) (by clear hl hs hx ho hA hB e e2; grind -lia) e2
          · obtain ⟨l, hl⟩ := h.quot hx (y1 - y2)
            refine ⟨l, sub_of_eq hl, ?_⟩
            have e : (l * (y1 + y2) - (x1 * x1 + x1 * x2 + x2 * x2 + a)) * (x1 - x2) = 0 := lin3 (c1 := y1 + y2) (c2 := 1) (c3 := -1) (by clear hl hx ho hA hB; grind -lia) (sub_of_eq hl) hA hB
            exact (h.dom _ _ e).elim id (fun e => absurd e hx)
        obtain ⟨l, hl⟩ := key
        exact ⟨_, .line l (l * l - x1 - x2) (l * (x1 - (l * l - x1 - x2)) - y1) ho hl (by clear hl ho hA hB; grind -lia) (by clear hl ho hA hB; grind -lia)⟩
instance : Nonempty (Pt p) := ⟨.inf⟩
noncomputable def padd (a : Fin p) (A B : Pt p) : Pt p := Classical.epsilon (fun R => Add a A B R)
theorem padd_spec (h : Fld p) {a b : Fin p} {A B : Pt p} (hA : On a b A) (hB : On a b B) : Add a A B (padd a A B) := Classical.epsilon_spec (h.sum hA hB)
theorem padd_eq (h : Fld p) {a b : Fin p} {A B R : Pt p} (hA : On a b A) (hB : On a b B) (hR : Add a A B R) : padd a A B = R := (padd_spec h hA hB).unique h.dom hR
theorem padd_on (h : Fld p) {a b : Fin p} {A B : Pt p} (hA : On a b A) (hB : On a b B) : On a b (padd a A B) := (padd_spec h hA hB).on hA hB
theorem padd_comm (h : Fld p) {a b : Fin p} {A B : Pt p} (hA : On a b A) (hB : On a b B) : padd a A B = padd a B A := padd_eq h hA hB (padd_spec h hB hA).symm
theorem padd_assoc {a b : Fin p} (h : Crv a b) {A B C : Pt p} (hA : On a b A) (hB : On a b B) (hC : On a b C) : padd a (padd a A B) C = padd a A (padd a B C) :=
  Add.assoc h.fine hA hB hC (padd_spec h.fld hA hB) (padd_spec h.fld (padd_on h.fld hA hB) hC) (padd_spec h.fld hB hC) (padd_spec h.fld hA (padd_on h.fld hB hC))
theorem padd_inf (h : Fld p) {a b : Fin p} {A : Pt p} (hA : On a b A) : padd a A .inf = A := padd_eq h hA (b := b) trivial (.right _)
theorem inf_padd (h : Fld p) {a b : Fin p} {A : Pt p} (hA : On a b A) : padd a .inf A = A := padd_eq h (b := b) trivial hA (.left _)
theorem padd_neg (h : Fld p) {a b : Fin p} {A : Pt p} (hA : On a b A) : padd a A A.neg = .inf := padd_eq h hA (neg_on hA) (add_neg a A)
theorem padd_cancel {a b : Fin p} (h : Crv a b) {A B C : Pt p} (hA : On a b A) (hB : On a b B) (hC : On a b C) (e : padd a A C = padd a B C) : A = B := by
  have e1 := congrArg (fun X => padd a X C.neg) e
  simp only [padd_assoc h hA hC (neg_on hC), padd_assoc h hB hC (neg_on hC), padd_neg h.fld hC, padd_inf h.fld hA, padd_inf h.fld hB] at e1
  exact e1
noncomputable def pmul (a : Fin p) (P : Pt p) : Nat → Pt p
  | 0 => .inf
  | k + 1 => padd a (pmul a P k) P
theorem pmul_on (h : Fld p) {a b : Fin p} {P : Pt p} (hP : On a b P) : ∀ k, On a b (pmul a P k)
  | 0 => trivial
  | k + 1 => padd_on h (pmul_on h hP k) hP
theorem pmul_one (h : Fld p) {a b : Fin p} {P : Pt p} (hP : On a b P) : pmul a P 1 = P := inf_padd h hP
theorem pmul_add {a b : Fin p} (h : Crv a b) {P : Pt p} (hP : On a b P) (i : Nat) : ∀ j, pmul a P (i + j) = padd a (pmul a P i) (pmul a P j)
  | 0 => (padd_inf h.fld (pmul_on h.fld hP i)).symm
  | j + 1 => by
    show padd a (pmul a P (i + j)) P = _
    rw [pmul_add h hP i j, padd_assoc h (pmul_on h.fld hP i) (pmul_on h.fld hP j) hP]
    rfl
theorem pmul_mul {a b : Fin p} (h : Crv a b) {P : Pt p} (hP : On a b P) (i : Nat) : ∀ j, pmul a P (i * j) = pmul a (pmul a P i) j
  | 0 => rfl
  | j + 1 => by
    rw [Nat.mul_succ, pmul_add h hP, pmul_mul h hP i j]
    rfl
theorem pmul_inf {a b : Fin p} (h : Fld p) : ∀ j, pmul a (.inf : Pt p) j = .inf
  | 0 => rfl
  | j + 1 => by
    show padd a (pmul a .inf j) .inf = _
    rw [pmul_inf (b := b) h j, padd_inf h (show On a b (.inf : Pt p) from trivial)]
theorem pmul_order {a b : Fin p} (h : Crv a b) {P : Pt p} (hP : On a b P) {q : Nat} (hq : Pr q) (h0 : P ≠ .inf) (hqP : pmul a P q = .inf) {k : Nat} (hk : pmul a P k = .inf) : q ∣ k := by
  refine Classical.byContradiction fun hn => h0 ?_
  have hq2 := hq.1
  obtain ⟨s, _, hs⟩ := inv_mod (hq.cop hn) (show 1 < q by omega)
  have e1 : k * s = q * (k * s / q) + 1 := by
    have := Nat.div_add_mod (k * s) q
    omega
  have e2 : pmul a P (k * s) = .inf := by rw [pmul_mul h hP, hk, pmul_inf (b := b) h.fld]
  rw [e1, pmul_add h hP, pmul_mul h hP, hqP, pmul_inf (b := b) h.fld, pmul_one h.fld hP, inf_padd h.fld hP] at e2
  exact e2
theorem pmul_inj {a b : Fin p} (h : Crv a b) {P : Pt p} (hP : On a b P) {q : Nat} (hq : Pr q) (h0 : P ≠ .inf) (hqP : pmul a P q = .inf) {i j : Nat} (hj : j < q) (hi : i ≤ j) (e : pmul a P i = pmul a P j) : i = j := by
  have e1 : pmul a P j = padd a (pmul a P (j - i)) (pmul a P i) := by rw [← pmul_add h hP, Nat.sub_add_cancel hi]
  have e2 : padd a .inf (pmul a P i) = padd a (pmul a P (j - i)) (pmul a P i) := by rw [inf_padd h.fld (pmul_on h.fld hP i), ← e1, e]
  have e3 := padd_cancel h (show On a b (.inf : Pt p) from trivial) (pmul_on h.fld hP _) (pmul_on h.fld hP i) e2
  have e4 := pmul_order h hP hq h0 hqP e3.symm
  have := Nat.eq_zero_of_dvd_of_lt e4 (by omega)
  omega
theorem doves : ∀ (M N : Nat) (f : Nat → Nat), (∀ i, i < N → f i < M) → (∀ i j, i < j → j < N → f i ≠ f j) → N ≤ M
  | 0, N, f, h, _ => Nat.le_of_not_lt fun hN => Nat.not_lt_zero _ (h 0 hN)
  | M + 1, N, f, h, hi => by
    by_cases hex : ∃ i0, i0 < N ∧ f i0 = M
    · obtain ⟨i0, h0, e0⟩ := hex
      have := doves M (N - 1) (fun i => if i < i0 then f i else f (i + 1)) (fun i hiN => by
        split
        · have := h i (by omega)
          have := hi i i0 (by omega) h0
          omega
        · have := h (i + 1) (by omega)
          have := hi i0 (i + 1) (by omega) (by omega)
          omega) (fun i j hij hj => by
        split
        · split
          · exact hi i j hij (by omega)
          · exact hi i (j + 1) (by omega) (by omega)
        · split
          · omega
          · exact hi (i + 1) (j + 1) (by omega) (by omega))
      omega
    · have := doves M N f (fun i hiN => by
        have := h i hiN
        have : f i ≠ M := fun e => hex ⟨i, hiN, e⟩
        omega) hi
      omega
def pcode : Pt p → Nat
  | .inf => 2 * p
  | .aff x y => 2 * x.val + (if 2 * y.val < p then 0 else 1)
theorem pcode_lt (P : Pt p) : pcode P < 2 * p + 1 := by
  cases P with
  | inf => simp [pcode]
  | aff x y => have := x.isLt; simp only [pcode]; split <;> omega
theorem pcode_inj (h : Fld p) {a b : Fin p} {P Q : Pt p} (hP : On a b P) (hQ : On a b Q) (e : pcode P = pcode Q) : P = Q := by
  cases P with
  | inf => cases Q with
    | inf => rfl
    | aff x y => have := x.isLt; simp only [pcode] at e; split at e <;> omega
  | aff x y => cases Q with
    | inf => have := x.isLt; simp only [pcode] at e; split at e <;> omega
    | aff x' y' =>
      simp only [pcode] at e
      have hx : x = x' := Fin.ext (by split at e <;> split at e <;> omega)
      subst hx
      simp only [On] at hP hQ
      have hm : (y - y') * (y + y') = 0 := lin2 (c1 := 1) (c2 := -1) (by clear hP hQ e; grind -lia) hP hQ
      rcases h.dom _ _ hm with h1 | h1
      · rw [eq_of_sub h1]
      · have h2 : (y.val + y'.val) % p = 0 := by rw [← Fin.val_add, h1, Fin.val_zero]
        have h3 := y.isLt
        have h4 := y'.isLt
        have h5 : y.val + y'.val = 0 ∨ y.val + y'.val = p := by
          rcases Nat.lt_or_ge (y.val + y'.val) p with h6 | h6
          · rw [Nat.mod_eq_of_lt h6] at h2; exact .inl h2
          · have : (y.val + y'.val - p) % p = 0 := by rw [← Nat.mod_eq_sub_mod h6]; exact h2
            rw [Nat.mod_eq_of_lt (by omega)] at this
            omega
        have h7 : y = y' := Fin.ext (by split at e <;> split at e <;> omega)
        rw [h7]
theorem order_le {a b : Fin p} (h : Crv a b) {P : Pt p} (hP : On a b P) {q : Nat} (hq : Pr q) (h0 : P ≠ .inf) (hqP : pmul a P q = .inf) : q ≤ 2 * p + 1 :=
  doves (2 * p + 1) q (fun i => pcode (pmul a P i)) (fun i _ => pcode_lt _) (fun i j hij hj e =>
    absurd (pmul_inj h hP hq h0 hqP hj (Nat.le_of_lt hij) (pcode_inj h.fld (pmul_on h.fld hP i) (pmul_on h.fld hP j) e)) (by omega))
end
end Go.Proofs.Ytljblbgogjieaaa.Grp
set_option linter.unusedVariables false
set_option linter.unusedSectionVars false
namespace Go.Proofs.Ytljblbgogjieaaa.Grp
section
variable {p : Nat} [NeZero p]
def c (p : Nat) [NeZero p] (k : Nat) : Fin p := Fin.ofNat p k
theorem c_val (k : Nat) : (c p k).val = k % p := rfl
theorem c_add (i j : Nat) : c p (i + j) = c p i + c p j := Fin.ext (by rw [Fin.val_add, c_val, c_val, c_val, ← Nat.add_mod])
theorem c_mul (i j : Nat) : c p (i * j) = c p i * c p j := Fin.ext (by rw [Fin.val_mul, c_val, c_val, c_val, ← Nat.mul_mod])
theorem c_mod {n : Nat} (hn : p ∣ n) (i : Nat) : c p (i % n) = c p i := Fin.ext (by rw [c_val, c_val, Nat.mod_mod_of_dvd _ hn])
theorem c_zero_iff {k : Nat} : c p k = 0 ↔ p ∣ k := by
  constructor
  · intro h
    have := congrArg Fin.val h
    rw [c_val, Fin.val_zero] at this
    exact Nat.dvd_of_mod_eq_zero this
  · intro h
    apply Fin.ext
    rw [c_val, Fin.val_zero]
    exact Nat.mod_eq_zero_of_dvd h
theorem c_sub {n j : Nat} (hn : p ∣ n) (hj : j ≤ n) : c p (n - j) = -c p j := by
  have h1 : c p (n - j) + c p j = 0 := by rw [← c_add, Nat.sub_add_cancel hj]; exact c_zero_iff.2 hn
  have h2 : c p (n - j) - -c p j = 0 := by rw [← h1]; grind -lia
  exact eq_of_sub h2
theorem c_one : c p 1 = 1 := rfl
theorem c_two : c p 2 = 2 := rfl
theorem c_three : c p 3 = 3 := rfl
theorem c_four : c p 4 = 4 := rfl
theorem c_six : c p 6 = 6 := rfl
def RZ (X Y Z : Fin p) (A : Pt p) : Prop := Z ≠ 0 → ∃ x y, A = .aff x y ∧ X = x * Z ∧ Y = y * Z
theorem RZ.dbl {a b X Y Z W S : Fin p} {A : Pt p} (h : Fld p) (hA : On a b A) (hr : RZ X Y Z A) (hW : W = 3 * X * X + a * (Z * Z)) (hS : S = 2 * Y * Z) :
    RZ (S * (W * W - 4 * (X * Y * S))) (W * (6 * (X * Y * S) - W * W) - 2 * (Y * S) * (Y * S)) (S * S * S) (padd a A A) := by
  intro hz
  have hS0 : S ≠ 0 := fun e => hz (by rw [e]; clear hr hW hS e hz; grind -lia)
  have hZ0 : Z ≠ 0 := fun e => hS0 (by rw [hS, e]; clear hr hW hS e hz hS0; grind -lia)
  obtain ⟨x, y, rfl, hX, hY⟩ := hr hZ0
  have hy0 : y ≠ 0 := fun e => hS0 (by rw [hS, hY, e]; clear hr hW hS e hz hS0 hX hY; grind -lia)
  have hsp := padd_spec h hA hA
  generalize padd a (.aff x y) (.aff x y) = R at hsp
  cases hsp with
  | opp ho => exact absurd (h.two _ ho.2) hy0
  | line l x4 y4 hn hs hx hy =>
    have ha : a = l * (y + y) - (x * x + x * x + x * x) := eq_of_sub (lin1 (c1 := -1) (by clear hr hW hS hz hS0 hX hY hx hy hs hA; grind -lia) hs.tang)
    obtain rfl := eq_of_sub hx
    obtain rfl := eq_of_sub hy
    refine ⟨_, _, rfl, ?_, ?_⟩
    · rw [hW, hS, hX, hY, ha]; clear hr hW hS hz hS0 hX hY hx hy hs hA ha; grind -lia
    · rw [hW, hS, hX, hY, ha]; clear hr hW hS hz hS0 hX hY hx hy hs hA ha; grind -lia
theorem RZ.add {a b X Y Z x2 y2 u v : Fin p} {A : Pt p} (h : Fld p) (hA : On a b A) (hQ : On a b (.aff x2 y2)) (hr : RZ X Y Z A) (hu : u = y2 * Z - Y) (hv : v = x2 * Z - X) :
    RZ (v * (u * u * Z - v * v * v - 2 * (v * v * X))) (u * (v * v * X - (u * u * Z - v * v * v - 2 * (v * v * X))) - v * v * v * Y) (v * v * v * Z) (padd a A (.aff x2 y2)) := by
  intro hz
  have hv0 : v ≠ 0 := fun e => hz (by rw [e]; clear hr hu hv e hz; grind -lia)
  have hZ0 : Z ≠ 0 := fun e => hz (by rw [e]; clear hr hu hv e hz hv0; grind -lia)
  obtain ⟨x, y, rfl, hX, hY⟩ := hr hZ0
  have hx0 : x - x2 ≠ 0 := fun e => hv0 (by
    obtain rfl := eq_of_sub e
    rw [hv, hX]; clear hr hu hv e hz hv0 hX hY; grind -lia)
  have hsp := padd_spec h hA hQ
  generalize padd a (.aff x y) (.aff x2 y2) = R at hsp
  cases hsp with
  | opp ho => exact absurd ho.1 hx0
  | line l x4 y4 hn hs hx hy =>
    have e : y = y2 + l * (x - x2) := eq_of_sub (lin1 (c1 := -1) (by clear hr hu hv hz hv0 hX hY hx hy hs hA hQ; grind -lia) hs.chord)
    obtain rfl := eq_of_sub hx
    obtain rfl := eq_of_sub hy
    refine ⟨_, _, rfl, ?_, ?_⟩
    · rw [hu, hv, hX, hY, e]; clear hr hu hv hz hv0 hX hY hx hy hs hA hQ e; grind -lia
    · rw [hu, hv, hX, hY, e]; clear hr hu hv hz hv0 hX hY hx hy hs hA hQ e; grind -lia
end
@[reducible] noncomputable def force (m : Nat) (f : Nat → Bool) : Bool := Nat.rec (motive := fun _ => Bool) (f 0) (fun m _ => f (Nat.succ m)) m
theorem force_eq (m : Nat) (f : Nat → Bool) : force m f = f m := by cases m <;> rfl
noncomputable def lad (n a x y k : Nat) (fin : Nat → Nat → Nat → Bool) : Nat → Nat → Nat → Nat → Bool :=
  Nat.rec (motive := fun _ => Nat → Nat → Nat → Bool) fin (fun i ih X Y Z =>
    force ((3 * X * X + a * (Z * Z)) % n) fun W => force (2 * Y * Z % n) fun S => force (X * Y % n * S % n) fun B => force (Y * S % n) fun E =>
    force (S * (W * W + 4 * (n - B)) % n) fun X1 => force ((W * (6 * B + (n - W) * W) + 2 * (n - E) * E) % n) fun Y1 => force (S * S % n * S % n) fun Z1 =>
    Bool.rec (ih X1 Y1 Z1) (
      force ((y * Z1 + (n - Y1)) % n) fun u => force ((x * Z1 + (n - X1)) % n) fun v => force (v * v % n) fun vv => force (vv * v % n) fun v3 =>
      force (vv * X1 % n) fun R => force ((u * u % n * Z1 + (n - v3) + 2 * (n - R)) % n) fun A =>
      force (v * A % n) fun X2 => force ((u * (R + (n - A)) + (n - v3) * Y1) % n) fun Y2 => force (v3 * Z1 % n) fun Z2 => ih X2 Y2 Z2)
      (Nat.testBit k i))
theorem lad_unf (n a x y k : Nat) (fin : Nat → Nat → Nat → Bool) (i X Y Z : Nat) : lad n a x y k fin (i + 1) X Y Z =
    force ((3 * X * X + a * (Z * Z)) % n) fun W => force (2 * Y * Z % n) fun S => force (X * Y % n * S % n) fun B => force (Y * S % n) fun E =>
    force (S * (W * W + 4 * (n - B)) % n) fun X1 => force ((W * (6 * B + (n - W) * W) + 2 * (n - E) * E) % n) fun Y1 => force (S * S % n * S % n) fun Z1 =>
    Bool.rec (lad n a x y k fin i X1 Y1 Z1) (
      force ((y * Z1 + (n - Y1)) % n) fun u => force ((x * Z1 + (n - X1)) % n) fun v => force (v * v % n) fun vv => force (vv * v % n) fun v3 =>
      force (vv * X1 % n) fun R => force ((u * u % n * Z1 + (n - v3) + 2 * (n - R)) % n) fun A =>
      force (v * A % n) fun X2 => force ((u * (R + (n - A)) + (n - v3) * Y1) % n) fun Y2 => force (v3 * Z1 % n) fun Z2 => lad n a x y k fin i X2 Y2 Z2)
      (Nat.testBit k i) := rfl
theorem lad_succ (n a x y k : Nat) (fin : Nat → Nat → Nat → Bool) (i X Y Z W S B E X1 Y1 Z1 u v vv v3 R A : Nat) (hW : W = (3 * X * X + a * (Z * Z)) % n) (hS : S = 2 * Y * Z % n) (hB : B = X * Y % n * S % n) (hE : E = Y * S % n)
    (hX1 : X1 = S * (W * W + 4 * (n - B)) % n) (hY1 : Y1 = (W * (6 * B + (n - W) * W) + 2 * (n - E) * E) % n) (hZ1 : Z1 = S * S % n * S % n)
    (hu : u = (y * Z1 + (n - Y1)) % n) (hv : v = (x * Z1 + (n - X1)) % n) (hvv : vv = v * v % n) (hv3 : v3 = vv * v % n) (hR : R = vv * X1 % n) (hA : A = (u * u % n * Z1 + (n - v3) + 2 * (n - R)) % n) :
    lad n a x y k fin (i + 1) X Y Z = if k.testBit i then lad n a x y k fin i (v * A % n) ((u * (R + (n - A)) + (n - v3) * Y1) % n) (v3 * Z1 % n) else lad n a x y k fin i X1 Y1 Z1 := by
  subst hA hR hv3 hvv hv hu hZ1 hY1 hX1 hE hB hS hW
  rw [lad_unf]
  simp only [force_eq]
  cases k.testBit i <;> rfl
section
variable {p : Nat} [NeZero p]
theorem lad_spec {n a b x y k : Nat} {fin : Nat → Nat → Nat → Bool} (hn : 0 < n) : ∀ (i X Y Z : Nat), lad n a x y k fin i X Y Z = true → ∃ X' Y' Z', fin X' Y' Z' = true ∧
    ∀ (p : Nat) [NeZero p], p ∣ n → Crv (c p a) (c p b) → On (c p a) (c p b) (.aff (c p x) (c p y)) → RZ (c p X) (c p Y) (c p Z) (pmul (c p a) (.aff (c p x) (c p y)) (k >>> i)) → RZ (c p X') (c p Y') (c p Z') (pmul (c p a) (.aff (c p x) (c p y)) k)
  | 0, X, Y, Z, h => ⟨X, Y, Z, h, fun p _ _ _ _ hr => by simpa using hr⟩
  | i + 1, X, Y, Z, h => by
    have hlt : ∀ z, z % n ≤ n := fun z => Nat.le_of_lt (Nat.mod_lt _ hn)
    obtain ⟨W, hW⟩ : ∃ W, W = (3 * X * X + a * (Z * Z)) % n := ⟨_, rfl⟩
    obtain ⟨S, hS⟩ : ∃ S, S = 2 * Y * Z % n := ⟨_, rfl⟩
    obtain ⟨B, hB⟩ : ∃ B, B = X * Y % n * S % n := ⟨_, rfl⟩
    obtain ⟨E, hE⟩ : ∃ E, E = Y * S % n := ⟨_, rfl⟩
    obtain ⟨X1, hX1⟩ : ∃ X1, X1 = S * (W * W + 4 * (n - B)) % n := ⟨_, rfl⟩
    obtain ⟨Y1, hY1⟩ : ∃ Y1, Y1 = (W * (6 * B + (n - W) * W) + 2 * (n - E) * E) % n := ⟨_, rfl⟩
    obtain ⟨Z1, hZ1⟩ : ∃ Z1, Z1 = S * S % n * S % n := ⟨_, rfl⟩
    obtain ⟨u, hu⟩ : ∃ u, u = (y * Z1 + (n - Y1)) % n := ⟨_, rfl⟩
    obtain ⟨v, hv⟩ : ∃ v, v = (x * Z1 + (n - X1)) % n := ⟨_, rfl⟩
    obtain ⟨vv, hvv⟩ : ∃ vv, vv = v * v % n := ⟨_, rfl⟩
    obtain ⟨v3, hv3⟩ : ∃ v3, v3 = vv * v % n := ⟨_, rfl⟩
    obtain ⟨R, hR⟩ : ∃ R, R = vv * X1 % n := ⟨_, rfl⟩
    obtain ⟨A, hA⟩ : ∃ A, A = (u * u % n * Z1 + (n - v3) + 2 * (n - R)) % n := ⟨_, rfl⟩
    rw [lad_succ n a x y k fin i X Y Z W S B E X1 Y1 Z1 u v vv v3 R A hW hS hB hE hX1 hY1 hZ1 hu hv hvv hv3 hR hA] at h
    have key1 : ∀ (p : Nat) [NeZero p], p ∣ n → Crv (c p a) (c p b) → On (c p a) (c p b) (.aff (c p x) (c p y)) → RZ (c p X) (c p Y) (c p Z) (pmul (c p a) (.aff (c p x) (c p y)) (k >>> (i + 1))) →
        RZ (c p X1) (c p Y1) (c p Z1) (pmul (c p a) (.aff (c p x) (c p y)) (k >>> (i + 1) + k >>> (i + 1))) := by
      intro p _ hp hc hP hr
      rw [pmul_add hc hP]
      have h1 := RZ.dbl (W := c p W) (S := c p S) hc.fld (pmul_on hc.fld hP _) hr (by rw [hW, c_mod hp]; simp only [c_add, c_mul, c_three]) (by rw [hS, c_mod hp]; simp only [c_mul, c_two])
      have eB : c p B = c p X * c p Y * c p S := by rw [hB, c_mod hp, c_mul, c_mod hp, c_mul]
      have eE : c p E = c p Y * c p S := by rw [hE, c_mod hp, c_mul]
      have e1 : c p X1 = c p S * (c p W * c p W - 4 * (c p X * c p Y * c p S)) := by
        rw [hX1, c_mod hp]; simp only [c_add, c_mul, c_four, c_sub hp (show B ≤ n by rw [hB]; exact hlt _), eB]
        clear h1 eB eE hr hP; grind -lia
      have e2 : c p Y1 = c p W * (6 * (c p X * c p Y * c p S) - c p W * c p W) - 2 * (c p Y * c p S) * (c p Y * c p S) := by
        rw [hY1, c_mod hp]; simp only [c_add, c_mul, c_six, c_two, c_sub hp (show W ≤ n by rw [hW]; exact hlt _), c_sub hp (show E ≤ n by rw [hE]; exact hlt _), eB, eE]
        clear h1 eB eE hr hP e1; grind -lia
      have e3 : c p Z1 = c p S * c p S * c p S := by rw [hZ1, c_mod hp, c_mul, c_mod hp, c_mul]
      rw [e1, e2, e3]
      exact h1
    have hsh : k >>> i = k >>> (i + 1) + k >>> (i + 1) + (if k.testBit i then 1 else 0) := by
      have e1 : k >>> (i + 1) = k >>> i / 2 := by rw [Nat.shiftRight_add]; rfl
      have e2 : k.testBit i = decide (k >>> i % 2 = 1) := by rw [Nat.testBit_eq_decide_div_mod_eq, Nat.shiftRight_eq_div_pow]
      rw [e1, e2]
      generalize k >>> i = z
      have := Nat.mod_two_eq_zero_or_one z
      have := Nat.div_add_mod z 2
      by_cases hz : z % 2 = 1
      · rw [if_pos (by rw [hz]; rfl)]; omega
      · rw [if_neg (by simp [hz])]; omega
    by_cases hb : k.testBit i = true
    · rw [if_pos hb] at h hsh
      obtain ⟨X', Y', Z', hf, hk⟩ := lad_spec hn i _ _ _ h
      refine ⟨X', Y', Z', hf, fun p _ hp hc hP hr => hk p hp hc hP ?_⟩
      have h1 := key1 p hp hc hP hr
      rw [hsh, pmul_add hc hP, pmul_one hc.fld hP]
      have h2 := RZ.add (u := c p u) (v := c p v) hc.fld (pmul_on hc.fld hP _) hP h1 (by rw [hu, c_mod hp]; simp only [c_add, c_mul, c_sub hp (show Y1 ≤ n by rw [hY1]; exact hlt _)]; clear h1 hr hP; grind -lia)
        (by rw [hv, c_mod hp]; simp only [c_add, c_mul, c_sub hp (show X1 ≤ n by rw [hX1]; exact hlt _)]; clear h1 hr hP; grind -lia)
      have evv : c p vv = c p v * c p v := by rw [hvv, c_mod hp, c_mul]
      have ev3 : c p v3 = c p v * c p v * c p v := by rw [hv3, c_mod hp, c_mul, evv]
      have eR : c p R = c p v * c p v * c p X1 := by rw [hR, c_mod hp, c_mul, evv]
      have eA : c p A = c p u * c p u * c p Z1 - c p v * c p v * c p v - 2 * (c p v * c p v * c p X1) := by
        rw [hA, c_mod hp]; simp only [c_add, c_mul, c_mod hp, c_two, c_sub hp (show v3 ≤ n by rw [hv3]; exact hlt _), c_sub hp (show R ≤ n by rw [hR]; exact hlt _), ev3, eR]
        clear h1 h2 hr hP evv ev3 eR; grind -lia
      have e1 : c p (v * A % n) = c p v * (c p u * c p u * c p Z1 - c p v * c p v * c p v - 2 * (c p v * c p v * c p X1)) := by rw [c_mod hp, c_mul, eA]
      have e2 : c p ((u * (R + (n - A)) + (n - v3) * Y1) % n) = c p u * (c p v * c p v * c p X1 - (c p u * c p u * c p Z1 - c p v * c p v * c p v - 2 * (c p v * c p v * c p X1))) - c p v * c p v * c p v * c p Y1 := by
        rw [c_mod hp]; simp only [c_add, c_mul, c_sub hp (show A ≤ n by rw [hA]; exact hlt _), c_sub hp (show v3 ≤ n by rw [hv3]; exact hlt _), ev3, eR, eA]
        clear h1 h2 hr hP evv ev3 eR eA e1; grind -lia
      have e3 : c p (v3 * Z1 % n) = c p v * c p v * c p v * c p Z1 := by rw [c_mod hp, c_mul, ev3]
      rw [e1, e2, e3]
      exact h2
    · rw [if_neg hb] at h hsh
      obtain ⟨X', Y', Z', hf, hk⟩ := lad_spec hn i _ _ _ h
      refine ⟨X', Y', Z', hf, fun p _ hp hc hP hr => hk p hp hc hP ?_⟩
      rw [hsh, Nat.add_zero]
      exact key1 p hp hc hP hr
noncomputable def gkOK (n a b x y q l : Nat) : Bool :=
  Nat.ble 2 n && Nat.beq (Nat.gcd 6 n) 1 && Nat.beq (Nat.gcd (4 * (a * (a * a)) + 27 * (b * b)) n) 1 && Nat.beq (y * y % n) ((x * x * x + a * x + b) % n) && Nat.ble (4 * n + 1) ((q - 1) * (q - 1)) && Nat.beq ((q - 1) >>> l) 1 &&
    lad n a x y (q - 1) (fun X Y Z => Nat.beq (Nat.gcd Z n) 1 && Nat.beq (X % n) (x * Z % n) && Nat.beq ((Y + y * Z) % n) 0) l x y 1
theorem prime_of {n : Nat} (hn : 1 < n) (h : ∀ p, Pr p → p ∣ n → n < p * p) : Pr n := by
  refine ⟨hn, fun d hd => ?_⟩
  refine Classical.byContradiction fun hne => ?_
  have hd0 : d ≠ 0 := fun e => by rw [e] at hd; have := Nat.eq_zero_of_zero_dvd hd; omega
  have hd2 : 2 ≤ d := by omega
  have least : ∃ e, (2 ≤ e ∧ e ∣ n) ∧ ∀ f, 2 ≤ f → f ∣ n → e ≤ f := by
    have main : ∀ m e, e ≤ m → 2 ≤ e → e ∣ n → ∃ e, (2 ≤ e ∧ e ∣ n) ∧ ∀ f, 2 ≤ f → f ∣ n → e ≤ f := by
      intro m
      induction m with
      | zero => intro e h1 h2; omega
      | succ m ih =>
        intro e h1 h2 h3
        by_cases hx : ∃ f, 2 ≤ f ∧ f ∣ n ∧ f < e
        · obtain ⟨f, f1, f2, f3⟩ := hx
          exact ih f (by omega) f1 f2
        · exact ⟨e, ⟨h2, h3⟩, fun f f1 f2 => Nat.le_of_not_lt fun f3 => hx ⟨f, f1, f2, f3⟩⟩
    exact main d d (Nat.le_refl _) hd2 hd
  obtain ⟨e, ⟨e1, e2⟩, e3⟩ := least
  have hp : Pr e := ⟨e1, fun f hf => by
    have hf0 : f ≠ 0 := fun z => by rw [z] at hf; have := Nat.eq_zero_of_zero_dvd hf; omega
    by_cases h1 : f = 1
    · exact .inl h1
    · have h2 := e3 f (by omega) (Nat.dvd_trans hf e2)
      have h3 := Nat.le_of_dvd (by omega) hf
      exact .inr (by omega)⟩
  have h1 := h e hp e2
  obtain ⟨g, rfl⟩ := hd
  have hg2 : 2 ≤ g := by
    have : g ≠ 0 := fun z => by rw [z] at hn; omega
    have : g ≠ 1 := fun z => by rw [z] at hne; omega
    omega
  have h2 := e3 d hd2 (Nat.dvd_mul_right d g)
  have h3 := e3 g hg2 (Nat.dvd_mul_left g d)
  have := Nat.mul_le_mul h2 h3
  omega
theorem crv_of {n a b p : Nat} [NeZero p] (hp : Pr p) (hd : p ∣ n) (h6 : Nat.gcd 6 n = 1) (hg : Nat.gcd (4 * (a * (a * a)) + 27 * (b * b)) n = 1) : Crv (c p a) (c p b) := by
  have no : ∀ z, Nat.gcd z n = 1 → ¬ p ∣ z := fun z hz hpz => by
    have := Nat.dvd_gcd hpz hd
    rw [hz] at this
    have := Nat.le_of_dvd (by decide) this
    have := hp.1
    omega
  have h2 : p ≠ 2 := fun e => no 6 h6 (by rw [e]; decide)
  refine ⟨hp.fld h2, fun x hx h3 => no _ hg (c_zero_iff.1 ?_)⟩
  simp only [On] at hx
  have e4 : c p (4 * (a * (a * a)) + 27 * (b * b)) = 4 * (c p a * (c p a * c p a)) + 27 * (c p b * c p b) := by simp only [c_add, c_mul]; rfl
  rw [e4]
  generalize c p a = A at *
  generalize c p b = B at *
  have hA : A = -(x * x + x * x + x * x) := eq_of_sub (lin1 (c1 := 1) (by clear hx h3 e4; grind -lia) h3)
  subst hA
  have hB : B = x * x * x + x * x * x := eq_of_sub (lin1 (c1 := -1) (by clear hx h3 e4; grind -lia) hx)
  subst hB
  clear hx h3 e4
  grind -lia
theorem beq_eq {i j : Nat} (h : Nat.beq i j = true) : i = j := Nat.eq_of_beq_eq_true h
theorem gk_mul {n a b x y q l : Nat} (h : gkOK n a b x y q l = true) (hn : 0 < n) : ∀ (p : Nat) [NeZero p], Pr p → p ∣ n → Crv (c p a) (c p b) ∧ On (c p a) (c p b) (.aff (c p x) (c p y)) ∧ pmul (c p a) (.aff (c p x) (c p y)) q = .inf := by
  intro p _ hp hd
  simp only [gkOK, Bool.and_eq_true] at h
  obtain ⟨⟨⟨⟨⟨⟨_, h1⟩, h2⟩, h3⟩, h4⟩, h5⟩, h6⟩ := h
  have hc := crv_of hp hd (beq_eq h1) (beq_eq h2)
  have hP : On (c p a) (c p b) (.aff (c p x) (c p y)) := by
    have := congrArg (c p) (beq_eq h3)
    rw [c_mod hd, c_mod hd] at this
    simp only [c_add, c_mul] at this
    exact sub_of_eq this
  refine ⟨hc, hP, ?_⟩
  obtain ⟨X, Y, Z, hf, hk⟩ := lad_spec (b := b) hn _ _ _ _ h6
  simp only [Bool.and_eq_true] at hf
  obtain ⟨⟨f1, f2⟩, f3⟩ := hf
  have hZ : c p Z ≠ 0 := fun e => by
    have h1 := Nat.dvd_gcd (c_zero_iff.1 e) hd
    rw [beq_eq f1] at h1
    have h2 := Nat.le_of_dvd (by decide) h1
    have h3 := hp.1
    omega
  have hr := hk p hd hc hP (by
    rw [beq_eq h5, pmul_one hc.fld hP]
    intro _
    refine ⟨_, _, rfl, ?_, ?_⟩ <;> rw [c_one] <;> grind -lia)
  obtain ⟨x', y', e1, e2, e3⟩ := hr hZ
  have g2 := congrArg (c p) (beq_eq f2)
  rw [c_mod hd, c_mod hd, c_mul, e2] at g2
  have g3 := congrArg (c p) (beq_eq f3)
  rw [c_mod hd, c_add, c_mul, e3] at g3
  have hx : x' = c p x := hc.fld.dom.cancel hZ (lin1 (c1 := 1) (by clear g2 g3 e1 e2 e3 hZ hk hP; grind -lia) (sub_of_eq g2))
  have hy : y' = -c p y := hc.fld.dom.cancel hZ (lin1 (c1 := 1) (by clear g2 g3 e1 e2 e3 hZ hk hP hx; grind -lia) (show y' * c p Z + c p y * c p Z = 0 from g3))
  have hq : q = q - 1 + 1 := by
    have : q ≠ 0 := fun e => by rw [e] at h5; simp at h5
    omega
  rw [hq]
  show padd (c p a) (pmul _ _ (q - 1)) _ = _
  rw [e1, hx, hy]
  exact (padd_comm hc.fld (neg_on hP) hP).trans (padd_neg hc.fld hP)
theorem gk {n a b x y q l : Nat} (h : gkOK n a b x y q l = true) (hq : Pr q) : Pr n := by
  have h' := h
  simp only [gkOK, Bool.and_eq_true] at h'
  obtain ⟨⟨⟨⟨⟨⟨h0, h1⟩, h2⟩, h3⟩, h4⟩, h5⟩, h6⟩ := h'
  have h4 := Nb h4
  have hn2 := Nb h0
  · refine prime_of hn2 fun p hp hd => ?_
    have : NeZero p := ⟨by have := hp.1; omega⟩
    obtain ⟨hc, hP, hm⟩ := gk_mul h (by omega) p hp hd
    have := order_le hc hP hq (fun e => by cases e) hm
    refine Nat.lt_of_not_le fun hle => ?_
    have h7 : (q - 1) * (q - 1) ≤ (2 * p) * (2 * p) := Nat.mul_le_mul (by omega) (by omega)
    have h8 : (2 * p) * (2 * p) = 4 * (p * p) := by rw [Nat.mul_mul_mul_comm]
    omega
end
end Go.Proofs.Ytljblbgogjieaaa.Grp
set_option linter.unusedVariables false
set_option linter.unusedSectionVars false
namespace Go.Proofs.Ytljblbgogjieaaa.Grp
section
variable {p : Nat} [NeZero p]
def fpow (x : Fin p) : Nat → Fin p
  | 0 => 1
  | k + 1 => fpow x k * x
theorem fpow_one (x : Fin p) : fpow x 1 = x := by show (1 : Fin p) * x = x; grind -lia
theorem fpow_add (x : Fin p) (i : Nat) : ∀ j, fpow x (i + j) = fpow x i * fpow x j
  | 0 => by show fpow x i = fpow x i * 1; grind -lia
  | j + 1 => by
    show fpow x (i + j) * x = fpow x i * (fpow x j * x)
    rw [fpow_add x i j]; grind -lia
theorem fpow_mul (x : Fin p) (i : Nat) : ∀ j, fpow x (i * j) = fpow (fpow x i) j
  | 0 => rfl
  | j + 1 => by
    rw [Nat.mul_succ, fpow_add, fpow_mul x i j]; rfl
theorem mul_fpow (x y : Fin p) : ∀ j, fpow (x * y) j = fpow x j * fpow y j
  | 0 => by show (1 : Fin p) = 1 * 1; grind -lia
  | j + 1 => by
    show fpow (x * y) j * (x * y) = fpow x j * x * (fpow y j * y)
    rw [mul_fpow x y j]; grind -lia
def prodL : List (Fin p) → Fin p
  | [] => 1
  | x :: l => x * prodL l
theorem prodL_perm {l m : List (Fin p)} (h : l.Perm m) : prodL l = prodL m := by
  induction h with
  | nil => rfl
  | cons x _ ih => simp only [prodL, ih]
  | swap x y l => simp only [prodL]; grind -lia
  | trans _ _ ih1 ih2 => exact ih1.trans ih2
theorem prodL_map (x : Fin p) : ∀ l : List (Fin p), prodL (l.map fun y => x * y) = fpow x l.length * prodL l
  | [] => by show (1 : Fin p) = 1 * 1; grind -lia
  | y :: l => by
    show x * y * prodL (l.map fun y => x * y) = fpow x l.length * x * (y * prodL l)
    rw [prodL_map x l]; grind -lia
theorem prodL_ne (hd : Dom p) (h1 : (1 : Fin p) ≠ 0) : ∀ l : List (Fin p), (∀ x, x ∈ l → x ≠ 0) → prodL l ≠ 0
  | [], _ => h1
  | x :: l, h => hd.mul (h x (.head _)) (prodL_ne hd h1 l fun y hy => h y (.tail _ hy))
end
theorem one_ne {p : Nat} [NeZero p] (hp : 2 ≤ p) : (1 : Fin p) ≠ 0 := fun e => by
  have := congrArg Fin.val e
  rw [Fin.val_zero] at this
  have h1 : (1 : Fin p).val = 1 % p := rfl
  rw [h1, Nat.mod_eq_of_lt (by omega)] at this
  cases this
theorem fermat {p : Nat} [NeZero p] (h : Fld p) (hp : 2 ≤ p) {x : Fin p} (hx : x ≠ 0) : fpow x (p - 1) = 1 := by
  obtain ⟨k, rfl⟩ : ∃ k, p = k + 1 := ⟨p - 1, by omega⟩
  have hd := h.dom
  obtain ⟨xi, hxi⟩ := h.inv x hx
  have hU : ∀ y : Fin (k + 1), y ∈ (List.finRange k).map Fin.succ ↔ y ≠ 0 := fun y => by
    constructor
    · intro hy e
      obtain ⟨z, _, hz⟩ := List.mem_map.1 hy
      exact Fin.succ_ne_zero z (hz.trans e)
    · intro hy
      obtain ⟨z, hz⟩ : ∃ z : Fin k, z.succ = y := ⟨y.pred hy, Fin.succ_pred y hy⟩
      exact List.mem_map.2 ⟨z, List.mem_finRange z, hz⟩
  have hn : ((List.finRange k).map Fin.succ).Nodup := by
    have := List.nodup_finRange (k + 1)
    rw [List.finRange_succ] at this
    exact (List.nodup_cons.1 this).2
  have hcan : ∀ y z : Fin (k + 1), x * y = x * z → y = z := fun y z e => by
    have : (y - z) * x = 0 := lin1 (c1 := 1) (by clear hU hn hxi e; grind -lia) (sub_of_eq e)
    exact hd.cancel hx this
  have hn2 : (((List.finRange k).map Fin.succ).map fun y => x * y).Nodup := by
    rw [List.nodup_iff_pairwise_ne] at hn ⊢
    exact List.Pairwise.map _ (fun y z hne e => hne (hcan y z e)) hn
  have hperm : (((List.finRange k).map Fin.succ).map fun y => x * y).Perm ((List.finRange k).map Fin.succ) := by
    rw [List.perm_ext_iff_of_nodup hn2 hn]
    intro y
    rw [hU]
    constructor
    · intro hy e
      obtain ⟨z, hz, e2⟩ := List.mem_map.1 hy
      exact hd.mul hx ((hU z).1 hz) (e2.trans e)
    · intro hy
      refine List.mem_map.2 ⟨xi * y, (hU _).2 ?_, ?_⟩
      · refine hd.mul (fun e => ?_) hy
        rw [e] at hxi
        exact one_ne hp (by rw [← hxi]; clear hU hn hcan hn2 hxi; grind -lia)
      · have : x * (xi * y) = x * xi * y := by clear hU hn hcan hn2 hxi; grind -lia
        rw [this, hxi]; clear this hU hn hcan hn2 hxi; grind -lia
  have e := prodL_perm hperm
  rw [prodL_map, List.length_map, List.length_finRange] at e
  have hP := prodL_ne hd (one_ne hp) _ fun y hy => (hU y).1 hy
  generalize prodL ((List.finRange k).map Fin.succ) = P at e hP
  rw [Nat.add_sub_cancel]
  exact hd.cancel hP (lin1 (c1 := 1) (by clear hU hn hcan hn2 hperm hxi hP e; grind -lia) (sub_of_eq e))
theorem fermat' {p : Nat} [NeZero p] (h : Fld p) (hp : 2 ≤ p) (x : Fin p) : fpow x p = x := by
  by_cases hx : x = 0
  · obtain ⟨k, rfl⟩ : ∃ k, p = k + 1 := ⟨p - 1, by omega⟩
    rw [hx]
    show fpow 0 k * 0 = 0
    grind -lia
  · have e := fermat h hp hx
    obtain ⟨k, rfl⟩ : ∃ k, p = k + 1 := ⟨p - 1, by omega⟩
    show fpow x k * x = x
    rw [Nat.add_sub_cancel] at e
    rw [e]; clear e hx; grind -lia
end Go.Proofs.Ytljblbgogjieaaa.Grp
set_option linter.unusedVariables false
set_option linter.unusedSectionVars false
namespace Go.Proofs.Ytljblbgogjieaaa.Grp
noncomputable def lad3 (p a b k : Nat) (fin : Nat → Nat → Nat → Bool) : Nat → Nat → Nat → Nat → Bool :=
  Nat.rec (motive := fun _ => Nat → Nat → Nat → Bool) fin (fun i ih A B C =>
    force (A * A % p) fun AA => force (A * B % p) fun AB =>
    force ((B * B + 2 * A * C + a * (p - AA)) % p) fun A1 => force ((2 * B * C + b * (p - AA) + 2 * a * (p - AB)) % p) fun B1 => force ((C * C + 2 * b * (p - AB)) % p) fun C1 =>
    Bool.rec (ih A1 B1 C1) (force ((C1 + a * (p - A1)) % p) fun B2 => force (b * (p - A1) % p) fun C2 => ih B1 B2 C2) (Nat.testBit k i))
theorem lad3_unf (p a b k : Nat) (fin : Nat → Nat → Nat → Bool) (i A B C : Nat) : lad3 p a b k fin (i + 1) A B C =
    force (A * A % p) fun AA => force (A * B % p) fun AB =>
    force ((B * B + 2 * A * C + a * (p - AA)) % p) fun A1 => force ((2 * B * C + b * (p - AA) + 2 * a * (p - AB)) % p) fun B1 => force ((C * C + 2 * b * (p - AB)) % p) fun C1 =>
    Bool.rec (lad3 p a b k fin i A1 B1 C1) (force ((C1 + a * (p - A1)) % p) fun B2 => force (b * (p - A1) % p) fun C2 => lad3 p a b k fin i B1 B2 C2) (Nat.testBit k i) := rfl
theorem lad3_succ (p a b k : Nat) (fin : Nat → Nat → Nat → Bool) (i A B C AA AB A1 B1 C1 : Nat) (hAA : AA = A * A % p) (hAB : AB = A * B % p) (hA1 : A1 = (B * B + 2 * A * C + a * (p - AA)) % p) (hB1 : B1 = (2 * B * C + b * (p - AA) + 2 * a * (p - AB)) % p) (hC1 : C1 = (C * C + 2 * b * (p - AB)) % p) :
    lad3 p a b k fin (i + 1) A B C = if k.testBit i then lad3 p a b k fin i B1 ((C1 + a * (p - A1)) % p) (b * (p - A1) % p) else lad3 p a b k fin i A1 B1 C1 := by
  subst hC1 hB1 hA1 hAB hAA
  rw [lad3_unf]
  simp only [force_eq]
  cases k.testBit i <;> rfl
theorem shift_bit (k i : Nat) : k >>> i = k >>> (i + 1) + k >>> (i + 1) + (if k.testBit i then 1 else 0) := by
  have e1 : k >>> (i + 1) = k >>> i / 2 := by rw [Nat.shiftRight_add]; rfl
  have e2 : k.testBit i = decide (k >>> i % 2 = 1) := by rw [Nat.testBit_eq_decide_div_mod_eq, Nat.shiftRight_eq_div_pow]
  rw [e1, e2]
  generalize k >>> i = z
  have := Nat.mod_two_eq_zero_or_one z
  have := Nat.div_add_mod z 2
  by_cases hz : z % 2 = 1
  · rw [if_pos (by rw [hz]; rfl)]; omega
  · rw [if_neg (by simp [hz])]; omega
section
variable {p : Nat} [NeZero p]
theorem lad3_spec {a b k : Nat} {fin : Nat → Nat → Nat → Bool} (hp : 0 < p) {r : Fin p} (hr : r * r * r + c p a * r + c p b = 0) : ∀ (i A B C : Nat), lad3 p a b k fin i A B C = true → c p A * (r * r) + c p B * r + c p C = fpow r (k >>> i) →
    ∃ A' B' C', fin A' B' C' = true ∧ c p A' * (r * r) + c p B' * r + c p C' = fpow r k
  | 0, A, B, C, h, e => ⟨A, B, C, h, by simpa using e⟩
  | i + 1, A, B, C, h, e => by
    have hlt : ∀ z, z % p ≤ p := fun z => Nat.le_of_lt (Nat.mod_lt _ hp)
    have hd : p ∣ p := Nat.dvd_refl p
    obtain ⟨AA, hAA⟩ : ∃ z, z = A * A % p := ⟨_, rfl⟩
    obtain ⟨AB, hAB⟩ : ∃ z, z = A * B % p := ⟨_, rfl⟩
    obtain ⟨A1, hA1⟩ : ∃ z, z = (B * B + 2 * A * C + a * (p - AA)) % p := ⟨_, rfl⟩
    obtain ⟨B1, hB1⟩ : ∃ z, z = (2 * B * C + b * (p - AA) + 2 * a * (p - AB)) % p := ⟨_, rfl⟩
    obtain ⟨C1, hC1⟩ : ∃ z, z = (C * C + 2 * b * (p - AB)) % p := ⟨_, rfl⟩
    rw [lad3_succ p a b k fin i A B C AA AB A1 B1 C1 hAA hAB hA1 hB1 hC1] at h
    have eAA : c p AA = c p A * c p A := by rw [hAA, c_mod hd, c_mul]
    have eAB : c p AB = c p A * c p B := by rw [hAB, c_mod hd, c_mul]
    have eA1 : c p A1 = c p B * c p B + 2 * c p A * c p C - c p a * (c p A * c p A) := by
      rw [hA1, c_mod hd]; simp only [c_add, c_mul, c_two, c_sub hd (show AA ≤ p by rw [hAA]; exact hlt _), eAA]
      clear eAA eAB hr e; grind -lia
    have eB1 : c p B1 = 2 * c p B * c p C - c p b * (c p A * c p A) - 2 * c p a * (c p A * c p B) := by
      rw [hB1, c_mod hd]; simp only [c_add, c_mul, c_two, c_sub hd (show AA ≤ p by rw [hAA]; exact hlt _), c_sub hd (show AB ≤ p by rw [hAB]; exact hlt _), eAA, eAB]
      clear eAA eAB hr e eA1; grind -lia
    have eC1 : c p C1 = c p C * c p C - 2 * c p b * (c p A * c p B) := by
      rw [hC1, c_mod hd]; simp only [c_add, c_mul, c_two, c_sub hd (show AB ≤ p by rw [hAB]; exact hlt _), eAB]
      clear eAA eAB hr e eA1 eB1; grind -lia
    have key : c p A1 * (r * r) + c p B1 * r + c p C1 = fpow r (k >>> (i + 1) + k >>> (i + 1)) := by
      rw [fpow_add, ← e, eA1, eB1, eC1]
      clear eAA eAB e eA1 eB1 eC1 h
      refine eq_of_sub (lin1 (c1 := -(c p A * c p A * r + 2 * c p A * c p B)) ?_ hr)
      clear hr; grind -lia
    have hsh := shift_bit k i
    by_cases hb : k.testBit i = true
    · rw [if_pos hb] at h hsh
      refine lad3_spec hp hr i _ _ _ h ?_
      rw [hsh, fpow_add, ← key, fpow_one, c_mod hd, c_mod hd, c_add, c_mul, c_mul, c_sub hd (show A1 ≤ p by rw [hA1]; exact hlt _)]
      generalize c p A1 = A1' at *
      generalize c p B1 = B1' at *
      generalize c p C1 = C1' at *
      clear eAA eAB e eA1 eB1 eC1 h key
      refine eq_of_sub (lin1 (c1 := -A1') ?_ hr)
      clear hr; grind -lia
    · rw [if_neg hb] at h hsh
      rw [Nat.add_zero] at hsh
      exact lad3_spec hp hr i _ _ _ h (by rw [hsh]; exact key)
noncomputable def rootOK (p a b l u1 u0 v2 v1 v0 : Nat) : Bool := Nat.beq (p >>> l) 1 &&
  lad3 p a b p (fun A B C => Nat.beq ((u1 + v2 * A) % p) 0 && Nat.beq ((u0 + v2 * (B + (p - 1)) + v1 * A) % p) 0 && Nat.beq ((u1 * a + v2 * C + v1 * (B + (p - 1)) + v0 * A) % p) 0 &&
    Nat.beq ((u1 * b + u0 * a + v1 * C + v0 * (B + (p - 1))) % p) 0 && Nat.beq ((u0 * b + v0 * C) % p) 1) l 0 1 0
theorem noroot {a b l u1 u0 v2 v1 v0 : Nat} (h : Fld p) (hp : 2 ≤ p) (hok : rootOK p a b l u1 u0 v2 v1 v0 = true) (x : Fin p) : ¬ On (c p a) (c p b) (.aff x 0) := by
  intro hx
  simp only [On] at hx
  have hr : x * x * x + c p a * x + c p b = 0 := lin1 (c1 := -1) (by clear hx; grind -lia) hx
  simp only [rootOK, Bool.and_eq_true] at hok
  obtain ⟨h1, h2⟩ := hok
  obtain ⟨A, B, C, hf, e⟩ := lad3_spec (by omega) hr _ _ _ _ h2 (by
    rw [beq_eq h1, fpow_one, c_one]
    have : c p 0 = 0 := c_zero_iff.2 (Nat.dvd_zero p)
    rw [this]; clear hx hr; grind -lia)
  rw [fermat' h hp] at e
  simp only [Bool.and_eq_true] at hf
  obtain ⟨⟨⟨⟨f1, f2⟩, f3⟩, f4⟩, f5⟩ := hf
  have hd : p ∣ p := Nat.dvd_refl p
  have z : c p 0 = 0 := c_zero_iff.2 (Nat.dvd_zero p)
  have g1 := congrArg (c p) (beq_eq f1)
  have g2 := congrArg (c p) (beq_eq f2)
  have g3 := congrArg (c p) (beq_eq f3)
  have g4 := congrArg (c p) (beq_eq f4)
  have g5 := congrArg (c p) (beq_eq f5)
  rw [c_mod hd] at g1 g2 g3 g4 g5
  simp only [c_add, c_mul, c_sub hd (show 1 ≤ p by omega), c_one, z] at g1 g2 g3 g4 g5
  generalize c p A = A' at *
  generalize c p B = B' at *
  generalize c p C = C' at *
  generalize c p u1 = U1 at *
  generalize c p u0 = U0 at *
  generalize c p v2 = V2 at *
  generalize c p v1 = V1 at *
  generalize c p v0 = V0 at *
  generalize c p a = a' at *
  generalize c p b = b' at *
  clear h1 h2 f1 f2 f3 f4 f5 hx
  apply one_ne hp
  have s1 := lin4 (c1 := x * x * x * x) (c2 := x * x * x) (c3 := x * x) (c4 := x) rfl g1 g2 g3 g4
  have s2 := lin2 (c1 := U1 * x + U0) (c2 := V2 * (x * x) + V1 * x + V0) rfl hr (sub_of_eq e)
  have s3 := sub_of_eq g5
  refine lin3 (c1 := 1) (c2 := -1) (c3 := -1) ?_ s2 s1 s3
  clear s1 s2 s3 g1 g2 g3 g4 g5 e hr z
  grind -lia
end
end Go.Proofs.Ytljblbgogjieaaa.Grp
