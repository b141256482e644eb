/- Walks: what functions of the program come to, step by step. -/
import Derived.Test.YtljblbgogjieaaaW09
import Derived.Test.YtljblbgogjieaaaMath5
set_option linter.unusedVariables false
set_option linter.unusedSimpArgs false
set_option maxRecDepth 20000
namespace Go.Proofs.Ytljblbgogjieaaa
open Go Go.RowKit

theorem c_Inverse (a m : Nat) (hm0 : m ≠ 0) (w : World) (ha : a < W9) (hm : m < W9) : Calls Try.prog 176 ([natV a, natV m] : List Value).toArray w (fun e w' => e = .returned (.tuple #[natV (invM a m), .int .i64 ((if Nat.gcd a m = 1 ∧ m ≠ 1 then 0 else 401 : Nat) : Int)]) ∧ Below w.heap.size w w') := by
  refine calls_ro (N := 75) (rs := [.cell 4 25, .tmp 5]) [] Try.func176 rfl Try.ntmps176 Try.results176 (Nat.le_of_ble_eq_true rfl) trivial rfl ?_
  show LCode _ _ _ ⟨_, _⟩ _
  refine LCode.seq ?_
  refine LCode.region ?_
  refine LOps.step rfl (LStep.w (LStep.makes (Makes.boxA rfl) (Nat.le_of_ble_eq_true rfl) (fun b2 => ?_)))
  refine LOps.step rfl (LStep.w (LStep.makes (Makes.boxA rfl) (Nat.le_of_ble_eq_true rfl) (fun b3 => ?_)))
  refine LOps.step rfl (LStep.w (LStep.makes (Makes.allocA zr_25) (Nat.le_of_ble_eq_true rfl) (fun b4 => ?_)))
  refine LOps.detP (Det.assign (v := .int .i64 ((0 : Nat) : Int)) rfl) (Nat.le_of_ble_eq_true rfl) ?_
  refine LOps.nil ?_
  refine LCode.seq ?_
  refine LCode.seq ?_
  refine LCode.region ?_
  refine LOps.step rfl (LStep.w (LStep.callF (first := []) rfl en_188 rfl (Nat.le_of_ble_eq_true rfl) (fun w hw => c_zeroN m b3 _ hm0 w (hw _ (by repeat (first | exact List.Mem.head _ | apply List.Mem.tail))) hm) ?_))
  refine LOps.nil ?_
  
  refine LCode.cond_false rfl ?_
  refine LCode.skip ?_
  refine LCode.seq ?_
  refine LCode.region ?_
  refine LOps.det (Det.load rfl (by repeat (first | exact List.Mem.head _ | apply List.Mem.tail)) (by exact LoadV.whole Try.underlying25 rfl sz_25)) (Nat.le_of_ble_eq_true rfl) ?_
  refine LOps.det (Det.load rfl (by repeat (first | exact List.Mem.head _ | apply List.Mem.tail)) (by exact LoadV.whole Try.underlying25 rfl sz_25)) (Nat.le_of_ble_eq_true rfl) ?_
  refine LOps.step rfl (LStep.w (LStep.callF (first := []) rfl en_189 rfl (Nat.le_of_ble_eq_true rfl) (fun w hw => c_Div a m hm0 w ha hm) ?_))
  refine LOps.detP (Det.move rfl) (Nat.le_of_ble_eq_true rfl) ?_
  refine LOps.detP (Det.extract rfl rfl) (Nat.le_of_ble_eq_true rfl) ?_
  refine LOps.detP (Det.extract rfl rfl) (Nat.le_of_ble_eq_true rfl) ?_
  refine LOps.detP (Det.extract rfl rfl) (Nat.le_of_ble_eq_true rfl) ?_
  refine LOps.step rfl (LStep.w (LStep.makes (Makes.allocA zr_25) (Nat.le_of_ble_eq_true rfl) (fun b6 => ?_)))
  refine LOps.step rfl (LStep.w (LStep.makes (Makes.allocA zr_25) (Nat.le_of_ble_eq_true rfl) (fun b7 => ?_)))
  refine LOps.step rfl (LStepW.storeA rfl rfl sz_25 (by repeat (first | exact natL_one _ | exact vec_one _ _ _ | exact wideL_one _ | exact ptL_one _ _ _ | exact pjL_one _ _ _ | exact allOne_nil | refine allOne_cons rfl ?_ | refine allOne_append ?_ ?_)) (by repeat (first | exact SetAt.head _ | apply SetAt.tail)) (by first | exact natL_length _ | exact vec_length _ _ _ | exact wideL_length _ | exact ptL_length _ _ _ | exact pjL_length _ _ _ | rfl | simp [vec_length, natL_length, wideL_length]) ?_)
  refine LOps.step rfl (LStepW.storeA rfl rfl sz_25 (by repeat (first | exact natL_one _ | exact vec_one _ _ _ | exact wideL_one _ | exact ptL_one _ _ _ | exact pjL_one _ _ _ | exact allOne_nil | refine allOne_cons rfl ?_ | refine allOne_append ?_ ?_)) (by repeat (first | exact SetAt.head _ | apply SetAt.tail)) (by first | exact natL_length _ | exact vec_length _ _ _ | exact wideL_length _ | exact ptL_length _ _ _ | exact pjL_length _ _ _ | rfl | simp [vec_length, natL_length, wideL_length]) ?_)
  refine LOps.detP (Det.assign rfl) (Nat.le_of_ble_eq_true rfl) ?_
  refine LOps.nil ?_
  refine LCode.cut (α := Nat × Nat) (fun _ => True) (fun x => ⟨[(2, .pointer (some ⟨b2, 0, none⟩)), (3, .pointer (some ⟨b3, 0, none⟩)), (4, .pointer (some ⟨b4, 0, none⟩)), (9, .pointer (some ⟨x.1, 0, none⟩)), (10, .pointer (some ⟨x.2, 0, none⟩))], [.blk x.1 ⟨true, natL (m), 25, (0, 0)⟩, .blk x.2 ⟨true, natL (a % m), 25, (0, 0)⟩, .blk b4 ⟨true, vec .u64 9 (fun _ => 0), 25, (0, 0)⟩, .blk b3 ⟨true, natL (m), 25, (0, 0)⟩, .blk b2 ⟨true, natL (a), 25, (0, 0)⟩]⟩) ?_ ?_
  ·
    refine LCode.regionD [4, 5] (by kernel_rfl) ?_
    refine LAny.take 0 rfl (by kernel_rfl) (Nat.le_of_ble_eq_true rfl) (Det.load rfl (by repeat (first | exact List.Mem.head _ | apply List.Mem.tail)) (by exact LoadV.whole Try.underlying25 rfl sz_25)) ?_
    refine LAny.threeX 1 2 3 rfl rfl rfl rfl rfl rfl (by kernel_rfl) (.inr (LStep.det (Det.load rfl (by repeat (first | exact List.Mem.head _ | apply List.Mem.tail)) (by exact LoadV.whole Try.underlying25 rfl sz_25)) (Nat.le_of_ble_eq_true rfl) ?_)) (.inr (LStep.makes (Makes.allocA zr_25) (Nat.le_of_ble_eq_true rfl) (fun b9 => ?_))) (.inr (LStep.makes (Makes.allocA zr_25) (Nat.le_of_ble_eq_true rfl) (fun b10 => ?_)))
    ·
      refine LAny.twoX 2 3 rfl rfl rfl rfl (by kernel_rfl) (.inr (LStep.makes (Makes.allocA zr_25) (Nat.le_of_ble_eq_true rfl) (fun b9 => ?_))) (.inr (LStep.makes (Makes.allocA zr_25) (Nat.le_of_ble_eq_true rfl) (fun b10 => ?_)))
      ·
        refine LAny.one 3 rfl rfl (by kernel_rfl) (LStep.makes (Makes.allocA zr_25) (Nat.le_of_ble_eq_true rfl) (fun b10 => ?_))
        refine LAny.late 4 rfl rfl (by kernel_rfl) (by kernel_rfl) (LStepW.storeA rfl rfl sz_25 (by repeat (first | exact natL_one _ | exact vec_one _ _ _ | exact wideL_one _ | exact ptL_one _ _ _ | exact pjL_one _ _ _ | exact allOne_nil | refine allOne_cons rfl ?_ | refine allOne_append ?_ ?_)) (by repeat (first | exact SetAt.head _ | apply SetAt.tail)) (by first | exact natL_length _ | exact vec_length _ _ _ | exact wideL_length _ | exact ptL_length _ _ _ | exact pjL_length _ _ _ | rfl | simp [vec_length, natL_length, wideL_length]) ?_)
        refine LAny.late 5 rfl rfl (by kernel_rfl) (by kernel_rfl) (LStepW.storeA rfl rfl sz_25 (by repeat (first | exact natL_one _ | exact vec_one _ _ _ | exact wideL_one _ | exact ptL_one _ _ _ | exact pjL_one _ _ _ | exact allOne_nil | refine allOne_cons rfl ?_ | refine allOne_append ?_ ?_)) (by repeat (first | exact SetAt.head _ | apply SetAt.tail)) (by first | exact natL_length _ | exact vec_length _ _ _ | exact wideL_length _ | exact ptL_length _ _ _ | exact pjL_length _ _ _ | rfl | simp [vec_length, natL_length, wideL_length]) ?_)
        refine LAny.done (by kernel_rfl) ?_
        exact ⟨(b9, b10), trivial, Sub.mk ⟨rfl, rfl, rfl, rfl, rfl, trivial⟩ (by repeat (first | exact Sel.nil _ | refine Sel.cons (by repeat (first | exact Pick.head _ | apply Pick.tail)) ?_))⟩
      ·
        refine LAny.one 2 rfl rfl (by kernel_rfl) (LStep.makes (Makes.allocA zr_25) (Nat.le_of_ble_eq_true rfl) (fun b9 => ?_))
        refine LAny.late 4 rfl rfl (by kernel_rfl) (by kernel_rfl) (LStepW.storeA rfl rfl sz_25 (by repeat (first | exact natL_one _ | exact vec_one _ _ _ | exact wideL_one _ | exact ptL_one _ _ _ | exact pjL_one _ _ _ | exact allOne_nil | refine allOne_cons rfl ?_ | refine allOne_append ?_ ?_)) (by repeat (first | exact SetAt.head _ | apply SetAt.tail)) (by first | exact natL_length _ | exact vec_length _ _ _ | exact wideL_length _ | exact ptL_length _ _ _ | exact pjL_length _ _ _ | rfl | simp [vec_length, natL_length, wideL_length]) ?_)
        refine LAny.late 5 rfl rfl (by kernel_rfl) (by kernel_rfl) (LStepW.storeA rfl rfl sz_25 (by repeat (first | exact natL_one _ | exact vec_one _ _ _ | exact wideL_one _ | exact ptL_one _ _ _ | exact pjL_one _ _ _ | exact allOne_nil | refine allOne_cons rfl ?_ | refine allOne_append ?_ ?_)) (by repeat (first | exact SetAt.head _ | apply SetAt.tail)) (by first | exact natL_length _ | exact vec_length _ _ _ | exact wideL_length _ | exact ptL_length _ _ _ | exact pjL_length _ _ _ | rfl | simp [vec_length, natL_length, wideL_length]) ?_)
        refine LAny.done (by kernel_rfl) ?_
        exact ⟨(b9, b10), trivial, Sub.mk ⟨rfl, rfl, rfl, rfl, rfl, trivial⟩ (by repeat (first | exact Sel.nil _ | refine Sel.cons (by repeat (first | exact Pick.head _ | apply Pick.tail)) ?_))⟩
    ·
      refine LAny.twoX 1 3 rfl rfl rfl rfl (by kernel_rfl) (.inr (LStep.det (Det.load rfl (by repeat (first | exact List.Mem.head _ | apply List.Mem.tail)) (by exact LoadV.whole Try.underlying25 rfl sz_25)) (Nat.le_of_ble_eq_true rfl) ?_)) (.inr (LStep.makes (Makes.allocA zr_25) (Nat.le_of_ble_eq_true rfl) (fun b10 => ?_)))
      ·
        refine LAny.one 3 rfl rfl (by kernel_rfl) (LStep.makes (Makes.allocA zr_25) (Nat.le_of_ble_eq_true rfl) (fun b10 => ?_))
        refine LAny.late 4 rfl rfl (by kernel_rfl) (by kernel_rfl) (LStepW.storeA rfl rfl sz_25 (by repeat (first | exact natL_one _ | exact vec_one _ _ _ | exact wideL_one _ | exact ptL_one _ _ _ | exact pjL_one _ _ _ | exact allOne_nil | refine allOne_cons rfl ?_ | refine allOne_append ?_ ?_)) (by repeat (first | exact SetAt.head _ | apply SetAt.tail)) (by first | exact natL_length _ | exact vec_length _ _ _ | exact wideL_length _ | exact ptL_length _ _ _ | exact pjL_length _ _ _ | rfl | simp [vec_length, natL_length, wideL_length]) ?_)
        refine LAny.late 5 rfl rfl (by kernel_rfl) (by kernel_rfl) (LStepW.storeA rfl rfl sz_25 (by repeat (first | exact natL_one _ | exact vec_one _ _ _ | exact wideL_one _ | exact ptL_one _ _ _ | exact pjL_one _ _ _ | exact allOne_nil | refine allOne_cons rfl ?_ | refine allOne_append ?_ ?_)) (by repeat (first | exact SetAt.head _ | apply SetAt.tail)) (by first | exact natL_length _ | exact vec_length _ _ _ | exact wideL_length _ | exact ptL_length _ _ _ | exact pjL_length _ _ _ | rfl | simp [vec_length, natL_length, wideL_length]) ?_)
        refine LAny.done (by kernel_rfl) ?_
        exact ⟨(b9, b10), trivial, Sub.mk ⟨rfl, rfl, rfl, rfl, rfl, trivial⟩ (by repeat (first | exact Sel.nil _ | refine Sel.cons (by repeat (first | exact Pick.head _ | apply Pick.tail)) ?_))⟩
      ·
        refine LAny.twoX 1 4 rfl rfl rfl rfl (by kernel_rfl) (.inr (LStep.det (Det.load rfl (by repeat (first | exact List.Mem.head _ | apply List.Mem.tail)) (by exact LoadV.whole Try.underlying25 rfl sz_25)) (Nat.le_of_ble_eq_true rfl) ?_)) (.inl ⟨rfl, LStepW.storeA rfl rfl sz_25 (by repeat (first | exact natL_one _ | exact vec_one _ _ _ | exact wideL_one _ | exact ptL_one _ _ _ | exact pjL_one _ _ _ | exact allOne_nil | refine allOne_cons rfl ?_ | refine allOne_append ?_ ?_)) (by repeat (first | exact SetAt.head _ | apply SetAt.tail)) (by first | exact natL_length _ | exact vec_length _ _ _ | exact wideL_length _ | exact ptL_length _ _ _ | exact pjL_length _ _ _ | rfl | simp [vec_length, natL_length, wideL_length]) ?_⟩)
        ·
          refine LAny.late 4 rfl rfl (by kernel_rfl) (by kernel_rfl) (LStepW.storeA rfl rfl sz_25 (by repeat (first | exact natL_one _ | exact vec_one _ _ _ | exact wideL_one _ | exact ptL_one _ _ _ | exact pjL_one _ _ _ | exact allOne_nil | refine allOne_cons rfl ?_ | refine allOne_append ?_ ?_)) (by repeat (first | exact SetAt.head _ | apply SetAt.tail)) (by first | exact natL_length _ | exact vec_length _ _ _ | exact wideL_length _ | exact ptL_length _ _ _ | exact pjL_length _ _ _ | rfl | simp [vec_length, natL_length, wideL_length]) ?_)
          refine LAny.late 5 rfl rfl (by kernel_rfl) (by kernel_rfl) (LStepW.storeA rfl rfl sz_25 (by repeat (first | exact natL_one _ | exact vec_one _ _ _ | exact wideL_one _ | exact ptL_one _ _ _ | exact pjL_one _ _ _ | exact allOne_nil | refine allOne_cons rfl ?_ | refine allOne_append ?_ ?_)) (by repeat (first | exact SetAt.head _ | apply SetAt.tail)) (by first | exact natL_length _ | exact vec_length _ _ _ | exact wideL_length _ | exact ptL_length _ _ _ | exact pjL_length _ _ _ | rfl | simp [vec_length, natL_length, wideL_length]) ?_)
          refine LAny.done (by kernel_rfl) ?_
          exact ⟨(b9, b10), trivial, Sub.mk ⟨rfl, rfl, rfl, rfl, rfl, trivial⟩ (by repeat (first | exact Sel.nil _ | refine Sel.cons (by repeat (first | exact Pick.head _ | apply Pick.tail)) ?_))⟩
        ·
          refine LAny.take 1 rfl (by kernel_rfl) (Nat.le_of_ble_eq_true rfl) (Det.load rfl (by repeat (first | exact List.Mem.head _ | apply List.Mem.tail)) (by exact LoadV.whole Try.underlying25 rfl sz_25)) ?_
          refine LAny.late 5 rfl rfl (by kernel_rfl) (by kernel_rfl) (LStepW.storeA rfl rfl sz_25 (by repeat (first | exact natL_one _ | exact vec_one _ _ _ | exact wideL_one _ | exact ptL_one _ _ _ | exact pjL_one _ _ _ | exact allOne_nil | refine allOne_cons rfl ?_ | refine allOne_append ?_ ?_)) (by repeat (first | exact SetAt.head _ | apply SetAt.tail)) (by first | exact natL_length _ | exact vec_length _ _ _ | exact wideL_length _ | exact ptL_length _ _ _ | exact pjL_length _ _ _ | rfl | simp [vec_length, natL_length, wideL_length]) ?_)
          refine LAny.done (by kernel_rfl) ?_
          exact ⟨(b9, b10), trivial, Sub.mk ⟨rfl, rfl, rfl, rfl, rfl, trivial⟩ (by repeat (first | exact Sel.nil _ | refine Sel.cons (by repeat (first | exact Pick.head _ | apply Pick.tail)) ?_))⟩
    ·
      refine LAny.twoX 1 2 rfl rfl rfl rfl (by kernel_rfl) (.inr (LStep.det (Det.load rfl (by repeat (first | exact List.Mem.head _ | apply List.Mem.tail)) (by exact LoadV.whole Try.underlying25 rfl sz_25)) (Nat.le_of_ble_eq_true rfl) ?_)) (.inr (LStep.makes (Makes.allocA zr_25) (Nat.le_of_ble_eq_true rfl) (fun b9 => ?_)))
      ·
        refine LAny.one 2 rfl rfl (by kernel_rfl) (LStep.makes (Makes.allocA zr_25) (Nat.le_of_ble_eq_true rfl) (fun b9 => ?_))
        refine LAny.late 4 rfl rfl (by kernel_rfl) (by kernel_rfl) (LStepW.storeA rfl rfl sz_25 (by repeat (first | exact natL_one _ | exact vec_one _ _ _ | exact wideL_one _ | exact ptL_one _ _ _ | exact pjL_one _ _ _ | exact allOne_nil | refine allOne_cons rfl ?_ | refine allOne_append ?_ ?_)) (by repeat (first | exact SetAt.head _ | apply SetAt.tail)) (by first | exact natL_length _ | exact vec_length _ _ _ | exact wideL_length _ | exact ptL_length _ _ _ | exact pjL_length _ _ _ | rfl | simp [vec_length, natL_length, wideL_length]) ?_)
        refine LAny.late 5 rfl rfl (by kernel_rfl) (by kernel_rfl) (LStepW.storeA rfl rfl sz_25 (by repeat (first | exact natL_one _ | exact vec_one _ _ _ | exact wideL_one _ | exact ptL_one _ _ _ | exact pjL_one _ _ _ | exact allOne_nil | refine allOne_cons rfl ?_ | refine allOne_append ?_ ?_)) (by repeat (first | exact SetAt.head _ | apply SetAt.tail)) (by first | exact natL_length _ | exact vec_length _ _ _ | exact wideL_length _ | exact ptL_length _ _ _ | exact pjL_length _ _ _ | rfl | simp [vec_length, natL_length, wideL_length]) ?_)
        refine LAny.done (by kernel_rfl) ?_
        exact ⟨(b9, b10), trivial, Sub.mk ⟨rfl, rfl, rfl, rfl, rfl, trivial⟩ (by repeat (first | exact Sel.nil _ | refine Sel.cons (by repeat (first | exact Pick.head _ | apply Pick.tail)) ?_))⟩
      ·
        refine LAny.twoX 1 4 rfl rfl rfl rfl (by kernel_rfl) (.inr (LStep.det (Det.load rfl (by repeat (first | exact List.Mem.head _ | apply List.Mem.tail)) (by exact LoadV.whole Try.underlying25 rfl sz_25)) (Nat.le_of_ble_eq_true rfl) ?_)) (.inl ⟨rfl, LStepW.storeA rfl rfl sz_25 (by repeat (first | exact natL_one _ | exact vec_one _ _ _ | exact wideL_one _ | exact ptL_one _ _ _ | exact pjL_one _ _ _ | exact allOne_nil | refine allOne_cons rfl ?_ | refine allOne_append ?_ ?_)) (by repeat (first | exact SetAt.head _ | apply SetAt.tail)) (by first | exact natL_length _ | exact vec_length _ _ _ | exact wideL_length _ | exact ptL_length _ _ _ | exact pjL_length _ _ _ | rfl | simp [vec_length, natL_length, wideL_length]) ?_⟩)
        ·
          refine LAny.late 4 rfl rfl (by kernel_rfl) (by kernel_rfl) (LStepW.storeA rfl rfl sz_25 (by repeat (first | exact natL_one _ | exact vec_one _ _ _ | exact wideL_one _ | exact ptL_one _ _ _ | exact pjL_one _ _ _ | exact allOne_nil | refine allOne_cons rfl ?_ | refine allOne_append ?_ ?_)) (by repeat (first | exact SetAt.head _ | apply SetAt.tail)) (by first | exact natL_length _ | exact vec_length _ _ _ | exact wideL_length _ | exact ptL_length _ _ _ | exact pjL_length _ _ _ | rfl | simp [vec_length, natL_length, wideL_length]) ?_)
          refine LAny.late 5 rfl rfl (by kernel_rfl) (by kernel_rfl) (LStepW.storeA rfl rfl sz_25 (by repeat (first | exact natL_one _ | exact vec_one _ _ _ | exact wideL_one _ | exact ptL_one _ _ _ | exact pjL_one _ _ _ | exact allOne_nil | refine allOne_cons rfl ?_ | refine allOne_append ?_ ?_)) (by repeat (first | exact SetAt.head _ | apply SetAt.tail)) (by first | exact natL_length _ | exact vec_length _ _ _ | exact wideL_length _ | exact ptL_length _ _ _ | exact pjL_length _ _ _ | rfl | simp [vec_length, natL_length, wideL_length]) ?_)
          refine LAny.done (by kernel_rfl) ?_
          exact ⟨(b9, b10), trivial, Sub.mk ⟨rfl, rfl, rfl, rfl, rfl, trivial⟩ (by repeat (first | exact Sel.nil _ | refine Sel.cons (by repeat (first | exact Pick.head _ | apply Pick.tail)) ?_))⟩
        ·
          refine LAny.take 1 rfl (by kernel_rfl) (Nat.le_of_ble_eq_true rfl) (Det.load rfl (by repeat (first | exact List.Mem.head _ | apply List.Mem.tail)) (by exact LoadV.whole Try.underlying25 rfl sz_25)) ?_
          refine LAny.late 5 rfl rfl (by kernel_rfl) (by kernel_rfl) (LStepW.storeA rfl rfl sz_25 (by repeat (first | exact natL_one _ | exact vec_one _ _ _ | exact wideL_one _ | exact ptL_one _ _ _ | exact pjL_one _ _ _ | exact allOne_nil | refine allOne_cons rfl ?_ | refine allOne_append ?_ ?_)) (by repeat (first | exact SetAt.head _ | apply SetAt.tail)) (by first | exact natL_length _ | exact vec_length _ _ _ | exact wideL_length _ | exact ptL_length _ _ _ | exact pjL_length _ _ _ | rfl | simp [vec_length, natL_length, wideL_length]) ?_)
          refine LAny.done (by kernel_rfl) ?_
          exact ⟨(b9, b10), trivial, Sub.mk ⟨rfl, rfl, rfl, rfl, rfl, trivial⟩ (by repeat (first | exact Sel.nil _ | refine Sel.cons (by repeat (first | exact Pick.head _ | apply Pick.tail)) ?_))⟩
  ·
    rintro ⟨b9, b10⟩ _
    dsimp only
    refine LCode.seq ?_
    refine LCode.region ?_
    refine LOps.detP (Slots.cast (Det.build pl_25 zr_25 rfl rfl) (show _ = natV 0 by unfold natV natL; rw [← vec_zeros 9])) (Nat.le_of_ble_eq_true rfl) ?_
    refine LOps.step rfl (LStep.w (LStep.callF (first := []) rfl en_150 rfl (Nat.le_of_ble_eq_true rfl) (fun w hw => c_nat_Small 1 (by decide) w) ?_))
    refine LOps.step rfl (LStep.w (LStep.makes (Makes.allocA zr_25) (Nat.le_of_ble_eq_true rfl) (fun b11 => ?_)))
    refine LOps.step rfl (LStep.w (LStep.makes (Makes.allocA zr_25) (Nat.le_of_ble_eq_true rfl) (fun b12 => ?_)))
    refine LOps.step rfl (LStepW.storeA rfl rfl sz_25 (by repeat (first | exact natL_one _ | exact vec_one _ _ _ | exact wideL_one _ | exact ptL_one _ _ _ | exact pjL_one _ _ _ | exact allOne_nil | refine allOne_cons rfl ?_ | refine allOne_append ?_ ?_)) (by repeat (first | exact SetAt.head _ | apply SetAt.tail)) (by first | exact natL_length _ | exact vec_length _ _ _ | exact wideL_length _ | exact ptL_length _ _ _ | exact pjL_length _ _ _ | rfl | simp [vec_length, natL_length, wideL_length]) ?_)
    refine LOps.step rfl (LStepW.storeA rfl rfl sz_25 (by repeat (first | exact natL_one _ | exact vec_one _ _ _ | exact wideL_one _ | exact ptL_one _ _ _ | exact pjL_one _ _ _ | exact allOne_nil | refine allOne_cons rfl ?_ | refine allOne_append ?_ ?_)) (by repeat (first | exact SetAt.head _ | apply SetAt.tail)) (by first | exact natL_length _ | exact vec_length _ _ _ | exact wideL_length _ | exact ptL_length _ _ _ | exact pjL_length _ _ _ | rfl | simp [vec_length, natL_length, wideL_length]) ?_)
    refine LOps.nil ?_
    refine LCode.seq ?_
    refine LCode.region ?_
    refine LOps.det (Det.load rfl (by repeat (first | exact List.Mem.head _ | apply List.Mem.tail)) (by exact LoadV.whole Try.underlying25 rfl sz_25)) (Nat.le_of_ble_eq_true rfl) ?_
    refine LOps.step rfl (LStep.w (LStep.call (Post := fun v its => ∃ b, v = .agg [.pointer (some ⟨b, 0, none⟩)].toArray ∧ its = [.blk b ⟨false, dvL m, 241, (0, 0)⟩]) (first := []) rfl en_170 rfl (Nat.le_of_ble_eq_true rfl) (fun w hw => (c_By m hm0 hm w).mono fun e w' ⟨b, h1, h2, h3, h4⟩ => ⟨_, _, ⟨b, rfl, rfl⟩, h1, Brings.blk1 h4 h2 h3⟩) ?_))
    rintro _ _ ⟨bd, rfl, rfl⟩
    refine LOps.step rfl (LStep.w (LStep.makes (Makes.allocA zr_192) (Nat.le_of_ble_eq_true rfl) (fun b13 => ?_)))
    refine LOps.step rfl (LStepW.storeA rfl rfl sz_192 (by repeat (first | exact natL_one _ | exact vec_one _ _ _ | exact wideL_one _ | exact ptL_one _ _ _ | exact pjL_one _ _ _ | exact allOne_nil | refine allOne_cons rfl ?_ | refine allOne_append ?_ ?_)) (by repeat (first | exact SetAt.head _ | apply SetAt.tail)) (by first | exact natL_length _ | exact vec_length _ _ _ | exact wideL_length _ | exact ptL_length _ _ _ | exact pjL_length _ _ _ | rfl | simp [vec_length, natL_length, wideL_length]) ?_)
    refine LOps.nil ?_
    refine LCode.seq ?_
    refine LCode.block ?_
    refine LCode.loop (α := Nat × Nat × Nat × Nat) (fun x => x.1 ≤ m ∧ x.2.1 < m ∧ x.2.2.1 < m ∧ (1 < m → x.2.2.2 < m) ∧ (m = 1 → x.2.1 = 0) ∧ a * x.2.2.1 % m = x.1 % m ∧ a * x.2.2.2 % m = x.2.1 % m ∧ Nat.gcd x.1 x.2.1 = Nat.gcd m a) (fun x => ⟨[(2, .pointer (some ⟨b2, 0, none⟩)), (3, .pointer (some ⟨b3, 0, none⟩)), (4, .pointer (some ⟨b4, 0, none⟩)), (9, .pointer (some ⟨b9, 0, none⟩)), (10, .pointer (some ⟨b10, 0, none⟩)), (11, .pointer (some ⟨b11, 0, none⟩)), (12, .pointer (some ⟨b12, 0, none⟩)), (13, .pointer (some ⟨b13, 0, none⟩))], [.blk b9 ⟨true, natL (x.1), 25, (0, 0)⟩, .blk b10 ⟨true, natL (x.2.1), 25, (0, 0)⟩, .blk b11 ⟨true, natL (x.2.2.1), 25, (0, 0)⟩, .blk b12 ⟨true, natL (x.2.2.2), 25, (0, 0)⟩, .blk b13 ⟨true, [.pointer (some ⟨bd, 0, none⟩)], 192, (0, 0)⟩, .blk b4 ⟨true, vec .u64 9 (fun _ => 0), 25, (0, 0)⟩, .blk b3 ⟨true, natL (m), 25, (0, 0)⟩, .blk b2 ⟨true, natL (a), 25, (0, 0)⟩, .blk bd ⟨false, dvL m, 241, (0, 0)⟩]⟩) (fun x => x.2.1) ((m, a % m, 0, 1)) (⟨Nat.le_refl _, Nat.mod_lt _ (by omega), by dsimp only; omega, fun h => h, fun h => by subst h; exact Nat.mod_one _, by dsimp only; rw [Nat.mul_zero, Nat.zero_mod, Nat.mod_self], by dsimp only; rw [Nat.mul_one, Nat.mod_mod], by dsimp only; rw [Nat.gcd_comm m (a % m), ← Nat.gcd_rec]⟩) (Sub.mk ⟨rfl, rfl, rfl, rfl, rfl, rfl, rfl, rfl, trivial⟩ (by repeat (first | exact Sel.nil _ | refine Sel.cons (by repeat (first | exact Pick.head _ | apply Pick.tail)) ?_))) ?_
    intro x ⟨hx1, hx2, hx3, hx6, hx9, hx5, hx7, hx8⟩
    refine LCode.seq ?_
    refine LCode.seq ?_
    rcases Nat.eq_zero_or_pos x.2.1 with h0 | h0
    ·
      refine LCode.region ?_
      refine LOps.step rfl (LStep.w (LStep.callF (first := []) rfl en_188 rfl (Nat.le_of_ble_eq_true rfl) (fun w hw => c_zero x.2.1 b10 _ w (hw _ (by repeat (first | exact List.Mem.head _ | apply List.Mem.tail))) (by omega)) ?_))
      refine LOps.detP (Slots.cast (Det.not rfl) (show _ = Value.bool false by rw [decide_eq_true h0]; rfl)) (Nat.le_of_ble_eq_true rfl) ?_
      refine LOps.nil ?_
      have hg : Nat.gcd a m = x.1 := by rw [h0, Nat.gcd_zero_right] at hx8; rw [Nat.gcd_comm, hx8]
      refine LCode.cond_false rfl ?_
      refine LCode.exit ?_
      refine LCode.seq ?_
      refine LCode.seq ?_
      rcases (show (x.1 = 1 ∧ m ≠ 1) ∨ (x.1 = 1 ∧ m = 1) ∨ x.1 ≠ 1 by omega) with ⟨hd1, hd2⟩ | ⟨hd1, hd2⟩ | hd1
      ·
        refine LCode.regionD [] (by kernel_rfl) ?_
        refine LAny.take 0 rfl (by kernel_rfl) (Nat.le_of_ble_eq_true rfl) (Det.load rfl (by repeat (first | exact List.Mem.head _ | apply List.Mem.tail)) (by exact LoadV.whole Try.underlying25 rfl sz_25)) ?_
        refine LAny.one 1 rfl rfl (by kernel_rfl) (LStep.callF (first := []) rfl en_150 rfl (Nat.le_of_ble_eq_true rfl) (fun w hw => c_nat_Small 1 (by decide) w) ?_)
        refine LAny.takeP 2 rfl (by kernel_rfl) (Nat.le_of_ble_eq_true rfl) (Slots.cast (Det.nea (by kernel_rfl) (fun w => eq_nat x.1 1 (by omega) one_w9 10000 (by decide) w) rfl rfl) (show _ = Value.bool false by rw [decide_eq_true hd1]; rfl)) ?_
        refine LAny.takeP 3 rfl (by kernel_rfl) (Nat.le_of_ble_eq_true rfl) (Det.move rfl) ?_
        refine LAny.takeG 4 rfl rfl rfl (by kernel_rfl) (Nat.le_of_ble_eq_true rfl) (Det.load rfl (by repeat (first | exact List.Mem.head _ | apply List.Mem.tail)) (by exact LoadV.whole Try.underlying25 rfl sz_25)) ?_
        refine LAny.oneG 5 rfl rfl rfl rfl (by kernel_rfl) (LStep.callF (first := []) rfl en_150 rfl (Nat.le_of_ble_eq_true rfl) (fun w hw => c_nat_Small 1 (by decide) w) ?_)
        refine LAny.takeGP 6 rfl rfl rfl (by kernel_rfl) (Nat.le_of_ble_eq_true rfl) (Slots.cast (Det.eqa (by kernel_rfl) (fun w => eq_nat m 1 hm one_w9 10000 (by decide) w) rfl rfl) (show _ = Value.bool false by rw [decide_eq_false hd2])) ?_
        refine LAny.takeP 7 rfl (by kernel_rfl) (Nat.le_of_ble_eq_true rfl) (Det.pick_false rfl rfl) ?_
        refine LAny.done (by kernel_rfl) ?_
        refine LCode.cond_false rfl ?_
        refine LCode.skip ?_
        refine LCode.seq ?_
        refine LCode.region ?_
        refine LOps.det (Det.load rfl (by repeat (first | exact List.Mem.head _ | apply List.Mem.tail)) (by exact LoadV.whole Try.underlying25 rfl sz_25)) (Nat.le_of_ble_eq_true rfl) ?_
        refine LOps.step rfl (LStepW.storeA rfl rfl sz_25 (by repeat (first | exact natL_one _ | exact vec_one _ _ _ | exact wideL_one _ | exact ptL_one _ _ _ | exact pjL_one _ _ _ | exact allOne_nil | refine allOne_cons rfl ?_ | refine allOne_append ?_ ?_)) (by repeat (first | exact SetAt.head _ | apply SetAt.tail)) (by first | exact natL_length _ | exact vec_length _ _ _ | exact wideL_length _ | exact ptL_length _ _ _ | exact pjL_length _ _ _ | rfl | simp [vec_length, natL_length, wideL_length]) ?_)
        refine LOps.detP (Det.assign (v := .int .i64 ((0 : Nat) : Int)) rfl) (Nat.le_of_ble_eq_true rfl) ?_
        refine LOps.nil ?_
        refine LCode.ret ?_
        have hgd : Nat.gcd a m = 1 ∧ m ≠ 1 := ⟨hg.trans hd1, hd2⟩
        have hia : invM a m = x.2.2.1 := invM_eq hx3 (by rw [hx5, hd1]; exact Nat.mod_eq_of_lt (by omega))
        refine ⟨[_, _], .cons ⟨_, _, _, rfl, (by repeat (first | exact List.Mem.head _ | apply List.Mem.tail)), by exact LoadV.whole Try.underlying25 rfl sz_25⟩ (.cons rfl .nil), fun a' w' hr => ⟨?_, hr.fr.below⟩⟩
        rw [hia, if_pos hgd]
        rfl
      ·
        refine LCode.regionD [] (by kernel_rfl) ?_
        refine LAny.take 0 rfl (by kernel_rfl) (Nat.le_of_ble_eq_true rfl) (Det.load rfl (by repeat (first | exact List.Mem.head _ | apply List.Mem.tail)) (by exact LoadV.whole Try.underlying25 rfl sz_25)) ?_
        refine LAny.one 1 rfl rfl (by kernel_rfl) (LStep.callF (first := []) rfl en_150 rfl (Nat.le_of_ble_eq_true rfl) (fun w hw => c_nat_Small 1 (by decide) w) ?_)
        refine LAny.takeP 2 rfl (by kernel_rfl) (Nat.le_of_ble_eq_true rfl) (Slots.cast (Det.nea (by kernel_rfl) (fun w => eq_nat x.1 1 (by omega) one_w9 10000 (by decide) w) rfl rfl) (show _ = Value.bool false by rw [decide_eq_true hd1]; rfl)) ?_
        refine LAny.takeP 3 rfl (by kernel_rfl) (Nat.le_of_ble_eq_true rfl) (Det.move rfl) ?_
        refine LAny.takeG 4 rfl rfl rfl (by kernel_rfl) (Nat.le_of_ble_eq_true rfl) (Det.load rfl (by repeat (first | exact List.Mem.head _ | apply List.Mem.tail)) (by exact LoadV.whole Try.underlying25 rfl sz_25)) ?_
        refine LAny.oneG 5 rfl rfl rfl rfl (by kernel_rfl) (LStep.callF (first := []) rfl en_150 rfl (Nat.le_of_ble_eq_true rfl) (fun w hw => c_nat_Small 1 (by decide) w) ?_)
        refine LAny.takeGP 6 rfl rfl rfl (by kernel_rfl) (Nat.le_of_ble_eq_true rfl) (Slots.cast (Det.eqa (by kernel_rfl) (fun w => eq_nat m 1 hm one_w9 10000 (by decide) w) rfl rfl) (show _ = Value.bool true by rw [decide_eq_true hd2])) ?_
        refine LAny.takeP 7 rfl (by kernel_rfl) (Nat.le_of_ble_eq_true rfl) (Det.pick_false rfl rfl) ?_
        refine LAny.done (by kernel_rfl) ?_
        refine LCode.cond_true rfl ?_
        refine LCode.seq ?_
        refine LCode.region ?_
        refine LOps.detP (Det.build pl_25 zr_25 rfl rfl) (Nat.le_of_ble_eq_true rfl) ?_
        refine LOps.step rfl (LStepW.storeA rfl rfl sz_25 (by repeat (first | exact natL_one _ | exact vec_one _ _ _ | exact wideL_one _ | exact ptL_one _ _ _ | exact pjL_one _ _ _ | exact allOne_nil | refine allOne_cons rfl ?_ | refine allOne_append ?_ ?_)) (by repeat (first | exact SetAt.head _ | apply SetAt.tail)) (by first | exact natL_length _ | exact vec_length _ _ _ | exact wideL_length _ | exact ptL_length _ _ _ | exact pjL_length _ _ _ | rfl | simp [vec_length, natL_length, wideL_length]) ?_)
        refine LOps.detP (Det.assign (v := .int .i64 ((401 : Nat) : Int)) rfl) (Nat.le_of_ble_eq_true rfl) ?_
        refine LOps.nil ?_
        refine LCode.ret ?_
        have hng : ¬ (Nat.gcd a m = 1 ∧ m ≠ 1) := by rw [hg]; exact fun h => h.2 hd2
        refine ⟨[_, _], .cons ⟨_, _, _, rfl, (by repeat (first | exact List.Mem.head _ | apply List.Mem.tail)), by exact LoadV.whole Try.underlying25 rfl sz_25⟩ (.cons rfl .nil), fun a' w' hr => ⟨?_, hr.fr.below⟩⟩
        rw [invM_none hng, if_neg hng]
        refine congrArg (fun l : List Value => Ending.returned (.tuple #[.agg l.toArray, _])) ?_
        exact vec_zeros 9
      ·
        refine LCode.regionD [] (by kernel_rfl) ?_
        refine LAny.take 0 rfl (by kernel_rfl) (Nat.le_of_ble_eq_true rfl) (Det.load rfl (by repeat (first | exact List.Mem.head _ | apply List.Mem.tail)) (by exact LoadV.whole Try.underlying25 rfl sz_25)) ?_
        refine LAny.one 1 rfl rfl (by kernel_rfl) (LStep.callF (first := []) rfl en_150 rfl (Nat.le_of_ble_eq_true rfl) (fun w hw => c_nat_Small 1 (by decide) w) ?_)
        refine LAny.takeP 2 rfl (by kernel_rfl) (Nat.le_of_ble_eq_true rfl) (Slots.cast (Det.nea (by kernel_rfl) (fun w => eq_nat x.1 1 (by omega) one_w9 10000 (by decide) w) rfl rfl) (show _ = Value.bool true by rw [decide_eq_false hd1]; rfl)) ?_
        refine LAny.takeP 3 rfl (by kernel_rfl) (Nat.le_of_ble_eq_true rfl) (Det.move rfl) ?_
        refine LAny.skip 4 rfl rfl rfl rfl (by kernel_rfl) (Nat.le_of_ble_eq_true rfl) ?_
        refine LAny.skip 5 rfl rfl rfl rfl (by kernel_rfl) (Nat.le_of_ble_eq_true rfl) ?_
        refine LAny.skip 6 rfl rfl rfl rfl (by kernel_rfl) (Nat.le_of_ble_eq_true rfl) ?_
        refine LAny.takeP 7 rfl (by kernel_rfl) (Nat.le_of_ble_eq_true rfl) (Det.pick_true rfl rfl) ?_
        refine LAny.done (by kernel_rfl) ?_
        refine LCode.cond_true rfl ?_
        refine LCode.seq ?_
        refine LCode.region ?_
        refine LOps.detP (Det.build pl_25 zr_25 rfl rfl) (Nat.le_of_ble_eq_true rfl) ?_
        refine LOps.step rfl (LStepW.storeA rfl rfl sz_25 (by repeat (first | exact natL_one _ | exact vec_one _ _ _ | exact wideL_one _ | exact ptL_one _ _ _ | exact pjL_one _ _ _ | exact allOne_nil | refine allOne_cons rfl ?_ | refine allOne_append ?_ ?_)) (by repeat (first | exact SetAt.head _ | apply SetAt.tail)) (by first | exact natL_length _ | exact vec_length _ _ _ | exact wideL_length _ | exact ptL_length _ _ _ | exact pjL_length _ _ _ | rfl | simp [vec_length, natL_length, wideL_length]) ?_)
        refine LOps.detP (Det.assign (v := .int .i64 ((401 : Nat) : Int)) rfl) (Nat.le_of_ble_eq_true rfl) ?_
        refine LOps.nil ?_
        refine LCode.ret ?_
        have hng : ¬ (Nat.gcd a m = 1 ∧ m ≠ 1) := by rw [hg]; exact fun h => hd1 h.1
        refine ⟨[_, _], .cons ⟨_, _, _, rfl, (by repeat (first | exact List.Mem.head _ | apply List.Mem.tail)), by exact LoadV.whole Try.underlying25 rfl sz_25⟩ (.cons rfl .nil), fun a' w' hr => ⟨?_, hr.fr.below⟩⟩
        rw [invM_none hng, if_neg hng]
        refine congrArg (fun l : List Value => Ending.returned (.tuple #[.agg l.toArray, _])) ?_
        exact vec_zeros 9
    ·
      refine LCode.region ?_
      refine LOps.step rfl (LStep.w (LStep.callF (first := []) rfl en_188 rfl (Nat.le_of_ble_eq_true rfl) (fun w hw => c_zero x.2.1 b10 _ w (hw _ (by repeat (first | exact List.Mem.head _ | apply List.Mem.tail))) (by omega)) ?_))
      refine LOps.detP (Slots.cast (Det.not rfl) (show _ = Value.bool true by rw [decide_eq_false (by omega)]; rfl)) (Nat.le_of_ble_eq_true rfl) ?_
      refine LOps.nil ?_
      have h0 : x.2.1 ≠ 0 := by omega
      have hm1 : 1 < m := by
        rcases Nat.lt_or_ge 1 m with h | h
        · exact h
        · exact absurd (hx9 (by omega)) h0
      refine LCode.cond_true rfl ?_
      refine LCode.skip ?_
      refine LCode.block ?_
      refine LCode.seq ?_
      refine LCode.region ?_
      refine LOps.det (Det.load rfl (by repeat (first | exact List.Mem.head _ | apply List.Mem.tail)) (by exact LoadV.whole Try.underlying25 rfl sz_25)) (Nat.le_of_ble_eq_true rfl) ?_
      refine LOps.det (Det.load rfl (by repeat (first | exact List.Mem.head _ | apply List.Mem.tail)) (by exact LoadV.whole Try.underlying25 rfl sz_25)) (Nat.le_of_ble_eq_true rfl) ?_
      refine LOps.step rfl (LStep.w (LStep.callF (first := []) rfl en_189 rfl (Nat.le_of_ble_eq_true rfl) (fun w hw => c_Div x.1 x.2.1 h0 w (by omega) (by omega)) ?_))
      refine LOps.detP (Det.move rfl) (Nat.le_of_ble_eq_true rfl) ?_
      refine LOps.detP (Det.extract rfl rfl) (Nat.le_of_ble_eq_true rfl) ?_
      refine LOps.detP (Det.extract rfl rfl) (Nat.le_of_ble_eq_true rfl) ?_
      refine LOps.detP (Det.extract rfl rfl) (Nat.le_of_ble_eq_true rfl) ?_
      refine LOps.step rfl (LStep.w (LStep.makes (Makes.allocA zr_25) (Nat.le_of_ble_eq_true rfl) (fun b14 => ?_)))
      refine LOps.step rfl (LStep.w (LStep.makes (Makes.allocA zr_25) (Nat.le_of_ble_eq_true rfl) (fun b15 => ?_)))
      refine LOps.step rfl (LStepW.storeA rfl rfl sz_25 (by repeat (first | exact natL_one _ | exact vec_one _ _ _ | exact wideL_one _ | exact ptL_one _ _ _ | exact pjL_one _ _ _ | exact allOne_nil | refine allOne_cons rfl ?_ | refine allOne_append ?_ ?_)) (by repeat (first | exact SetAt.head _ | apply SetAt.tail)) (by first | exact natL_length _ | exact vec_length _ _ _ | exact wideL_length _ | exact ptL_length _ _ _ | exact pjL_length _ _ _ | rfl | simp [vec_length, natL_length, wideL_length]) ?_)
      refine LOps.step rfl (LStepW.storeA rfl rfl sz_25 (by repeat (first | exact natL_one _ | exact vec_one _ _ _ | exact wideL_one _ | exact ptL_one _ _ _ | exact pjL_one _ _ _ | exact allOne_nil | refine allOne_cons rfl ?_ | refine allOne_append ?_ ?_)) (by repeat (first | exact SetAt.head _ | apply SetAt.tail)) (by first | exact natL_length _ | exact vec_length _ _ _ | exact wideL_length _ | exact ptL_length _ _ _ | exact pjL_length _ _ _ | rfl | simp [vec_length, natL_length, wideL_length]) ?_)
      refine LOps.detP (Det.assign rfl) (Nat.le_of_ble_eq_true rfl) ?_
      refine LOps.nil ?_
      refine LCode.cut (α := Unit) (fun _ => True) (fun _ => ⟨[(2, .pointer (some ⟨b2, 0, none⟩)), (3, .pointer (some ⟨b3, 0, none⟩)), (4, .pointer (some ⟨b4, 0, none⟩)), (9, .pointer (some ⟨b9, 0, none⟩)), (10, .pointer (some ⟨b10, 0, none⟩)), (11, .pointer (some ⟨b11, 0, none⟩)), (12, .pointer (some ⟨b12, 0, none⟩)), (13, .pointer (some ⟨b13, 0, none⟩)), (14, .pointer (some ⟨b14, 0, none⟩))], [.blk b9 ⟨true, natL (x.2.1), 25, (0, 0)⟩, .blk b10 ⟨true, natL (x.1 % x.2.1), 25, (0, 0)⟩, .blk b11 ⟨true, natL (x.2.2.1), 25, (0, 0)⟩, .blk b12 ⟨true, natL (x.2.2.2), 25, (0, 0)⟩, .blk b14 ⟨true, natL (x.1 / x.2.1), 25, (0, 0)⟩, .blk b13 ⟨true, [.pointer (some ⟨bd, 0, none⟩)], 192, (0, 0)⟩, .blk b4 ⟨true, vec .u64 9 (fun _ => 0), 25, (0, 0)⟩, .blk b3 ⟨true, natL (m), 25, (0, 0)⟩, .blk b2 ⟨true, natL (a), 25, (0, 0)⟩, .blk bd ⟨false, dvL m, 241, (0, 0)⟩]⟩) ?_ ?_
      ·
        refine LCode.regionD [2, 3] (by kernel_rfl) ?_
        refine LAny.take 0 rfl (by kernel_rfl) (Nat.le_of_ble_eq_true rfl) (Det.load rfl (by repeat (first | exact List.Mem.head _ | apply List.Mem.tail)) (by exact LoadV.whole Try.underlying25 rfl sz_25)) ?_
        refine LAny.twoX 1 2 rfl rfl rfl rfl (by kernel_rfl) (.inr (LStep.det (Det.load rfl (by repeat (first | exact List.Mem.head _ | apply List.Mem.tail)) (by exact LoadV.whole Try.underlying25 rfl sz_25)) (Nat.le_of_ble_eq_true rfl) ?_)) (.inl ⟨rfl, LStepW.storeA rfl rfl sz_25 (by repeat (first | exact natL_one _ | exact vec_one _ _ _ | exact wideL_one _ | exact ptL_one _ _ _ | exact pjL_one _ _ _ | exact allOne_nil | refine allOne_cons rfl ?_ | refine allOne_append ?_ ?_)) (by repeat (first | exact SetAt.head _ | apply SetAt.tail)) (by first | exact natL_length _ | exact vec_length _ _ _ | exact wideL_length _ | exact ptL_length _ _ _ | exact pjL_length _ _ _ | rfl | simp [vec_length, natL_length, wideL_length]) ?_⟩)
        ·
          refine LAny.late 2 rfl rfl (by kernel_rfl) (by kernel_rfl) (LStepW.storeA rfl rfl sz_25 (by repeat (first | exact natL_one _ | exact vec_one _ _ _ | exact wideL_one _ | exact ptL_one _ _ _ | exact pjL_one _ _ _ | exact allOne_nil | refine allOne_cons rfl ?_ | refine allOne_append ?_ ?_)) (by repeat (first | exact SetAt.head _ | apply SetAt.tail)) (by first | exact natL_length _ | exact vec_length _ _ _ | exact wideL_length _ | exact ptL_length _ _ _ | exact pjL_length _ _ _ | rfl | simp [vec_length, natL_length, wideL_length]) ?_)
          refine LAny.late 3 rfl rfl (by kernel_rfl) (by kernel_rfl) (LStepW.storeA rfl rfl sz_25 (by repeat (first | exact natL_one _ | exact vec_one _ _ _ | exact wideL_one _ | exact ptL_one _ _ _ | exact pjL_one _ _ _ | exact allOne_nil | refine allOne_cons rfl ?_ | refine allOne_append ?_ ?_)) (by repeat (first | exact SetAt.head _ | apply SetAt.tail)) (by first | exact natL_length _ | exact vec_length _ _ _ | exact wideL_length _ | exact ptL_length _ _ _ | exact pjL_length _ _ _ | rfl | simp [vec_length, natL_length, wideL_length]) ?_)
          refine LAny.done (by kernel_rfl) ?_
          exact ⟨(), trivial, Sub.mk ⟨rfl, rfl, rfl, rfl, rfl, rfl, rfl, rfl, rfl, trivial⟩ (by repeat (first | exact Sel.nil _ | refine Sel.cons (by repeat (first | exact Pick.head _ | apply Pick.tail)) ?_))⟩
        ·
          refine LAny.take 1 rfl (by kernel_rfl) (Nat.le_of_ble_eq_true rfl) (Det.load rfl (by repeat (first | exact List.Mem.head _ | apply List.Mem.tail)) (by exact LoadV.whole Try.underlying25 rfl sz_25)) ?_
          refine LAny.late 3 rfl rfl (by kernel_rfl) (by kernel_rfl) (LStepW.storeA rfl rfl sz_25 (by repeat (first | exact natL_one _ | exact vec_one _ _ _ | exact wideL_one _ | exact ptL_one _ _ _ | exact pjL_one _ _ _ | exact allOne_nil | refine allOne_cons rfl ?_ | refine allOne_append ?_ ?_)) (by repeat (first | exact SetAt.head _ | apply SetAt.tail)) (by first | exact natL_length _ | exact vec_length _ _ _ | exact wideL_length _ | exact ptL_length _ _ _ | exact pjL_length _ _ _ | rfl | simp [vec_length, natL_length, wideL_length]) ?_)
          refine LAny.done (by kernel_rfl) ?_
          exact ⟨(), trivial, Sub.mk ⟨rfl, rfl, rfl, rfl, rfl, rfl, rfl, rfl, rfl, trivial⟩ (by repeat (first | exact Sel.nil _ | refine Sel.cons (by repeat (first | exact Pick.head _ | apply Pick.tail)) ?_))⟩
      ·
        rintro _ _
        refine LCode.seq ?_
        refine LCode.region ?_
        refine LOps.det (Det.load rfl (by repeat (first | exact List.Mem.head _ | apply List.Mem.tail)) (by exact LoadV.whole Try.underlying192 rfl sz_192)) (Nat.le_of_ble_eq_true rfl) ?_
        refine LOps.det (Det.load rfl (by repeat (first | exact List.Mem.head _ | apply List.Mem.tail)) (by exact LoadV.whole Try.underlying25 rfl sz_25)) (Nat.le_of_ble_eq_true rfl) ?_
        refine LOps.det (Det.load rfl (by repeat (first | exact List.Mem.head _ | apply List.Mem.tail)) (by exact LoadV.whole Try.underlying25 rfl sz_25)) (Nat.le_of_ble_eq_true rfl) ?_
        refine LOps.step rfl (LStep.w (LStep.callF (first := []) rfl en_175 rfl (Nat.le_of_ble_eq_true rfl) (fun w hw => c_Mul m (x.1 / x.2.1) x.2.2.2 bd hm0 hm w (hw _ (by repeat (first | exact List.Mem.head _ | apply List.Mem.tail))) (Nat.lt_of_le_of_lt (Nat.div_le_self _ _) (by omega)) (by have := hx6 hm1; omega)) ?_))
        refine LOps.step rfl (LStep.w (LStep.makes (Makes.allocA zr_25) (Nat.le_of_ble_eq_true rfl) (fun b17 => ?_)))
        refine LOps.step rfl (LStepW.storeA rfl rfl sz_25 (by repeat (first | exact natL_one _ | exact vec_one _ _ _ | exact wideL_one _ | exact ptL_one _ _ _ | exact pjL_one _ _ _ | exact allOne_nil | refine allOne_cons rfl ?_ | refine allOne_append ?_ ?_)) (by repeat (first | exact SetAt.head _ | apply SetAt.tail)) (by first | exact natL_length _ | exact vec_length _ _ _ | exact wideL_length _ | exact ptL_length _ _ _ | exact pjL_length _ _ _ | rfl | simp [vec_length, natL_length, wideL_length]) ?_)
        refine LOps.nil ?_
        refine LCode.seq ?_
        refine LCode.region ?_
        refine LOps.det (Det.load rfl (by repeat (first | exact List.Mem.head _ | apply List.Mem.tail)) (by exact LoadV.whole Try.underlying25 rfl sz_25)) (Nat.le_of_ble_eq_true rfl) ?_
        refine LOps.det (Det.load rfl (by repeat (first | exact List.Mem.head _ | apply List.Mem.tail)) (by exact LoadV.whole Try.underlying25 rfl sz_25)) (Nat.le_of_ble_eq_true rfl) ?_
        refine LOps.step rfl (LStep.w (LStep.callF (first := []) rfl en_149 rfl (Nat.le_of_ble_eq_true rfl) (fun w hw => c_nat_Sub x.2.2.1 (x.1 / x.2.1 * x.2.2.2 % m) (by omega) (mod_w9 hm0 hm) w) ?_))
        refine LOps.detP (Det.move rfl) (Nat.le_of_ble_eq_true rfl) ?_
        refine LOps.detP (Det.extract rfl rfl) (Nat.le_of_ble_eq_true rfl) ?_
        refine LOps.detP (Det.extract rfl rfl) (Nat.le_of_ble_eq_true rfl) ?_
        refine LOps.step rfl (LStep.w (LStep.makes (Makes.allocA zr_25) (Nat.le_of_ble_eq_true rfl) (fun b18 => ?_)))
        refine LOps.step rfl (LStepW.storeA rfl rfl sz_25 (by repeat (first | exact natL_one _ | exact vec_one _ _ _ | exact wideL_one _ | exact ptL_one _ _ _ | exact pjL_one _ _ _ | exact allOne_nil | refine allOne_cons rfl ?_ | refine allOne_append ?_ ?_)) (by repeat (first | exact SetAt.head _ | apply SetAt.tail)) (by first | exact natL_length _ | exact vec_length _ _ _ | exact wideL_length _ | exact ptL_length _ _ _ | exact pjL_length _ _ _ | rfl | simp [vec_length, natL_length, wideL_length]) ?_)
        refine LOps.detP (Det.assign rfl) (Nat.le_of_ble_eq_true rfl) ?_
        refine LOps.nil ?_
        refine LCode.seq ?_
        refine LCode.seq ?_
        refine LCode.region ?_
        refine LOps.detP (Det.move rfl) (Nat.le_of_ble_eq_true rfl) ?_
        refine LOps.nil ?_
        first | refine LCode.condD rfl (fun h56 => ?_) (fun h56 => ?_) | refine LCode.cond rfl (fun h56 => ?_) (fun h56 => ?_)
        ·
          have h56 : x.2.2.1 < x.1 / x.2.1 * x.2.2.2 % m := h56
          refine LCode.region ?_
          refine LOps.det (Det.load rfl (by repeat (first | exact List.Mem.head _ | apply List.Mem.tail)) (by exact LoadV.whole Try.underlying25 rfl sz_25)) (Nat.le_of_ble_eq_true rfl) ?_
          refine LOps.det (Det.load rfl (by repeat (first | exact List.Mem.head _ | apply List.Mem.tail)) (by exact LoadV.whole Try.underlying25 rfl sz_25)) (Nat.le_of_ble_eq_true rfl) ?_
          refine LOps.step rfl (LStep.w (LStep.callF (first := []) rfl en_174 rfl (Nat.le_of_ble_eq_true rfl) (fun w hw => c_nat_Add (dif x.2.2.1 (x.1 / x.2.1 * x.2.2.2 % m)) m (dif_lt _ _) hm w) ?_))
          refine LOps.detP (Det.move rfl) (Nat.le_of_ble_eq_true rfl) ?_
          refine LOps.detP (Det.extract rfl rfl) (Nat.le_of_ble_eq_true rfl) ?_
          refine LOps.detP (Det.extract rfl rfl) (Nat.le_of_ble_eq_true rfl) ?_
          refine LOps.step rfl (LStepW.storeA rfl rfl sz_25 (by repeat (first | exact natL_one _ | exact vec_one _ _ _ | exact wideL_one _ | exact ptL_one _ _ _ | exact pjL_one _ _ _ | exact allOne_nil | refine allOne_cons rfl ?_ | refine allOne_append ?_ ?_)) (by repeat (first | exact SetAt.head _ | apply SetAt.tail)) (by first | exact natL_length _ | exact vec_length _ _ _ | exact wideL_length _ | exact ptL_length _ _ _ | exact pjL_length _ _ _ | rfl | simp [vec_length, natL_length, wideL_length]) ?_)
          refine LOps.nil ?_
          refine LCode.regionD [2, 3] (by kernel_rfl) ?_
          refine LAny.take 0 rfl (by kernel_rfl) (Nat.le_of_ble_eq_true rfl) (Det.load rfl (by repeat (first | exact List.Mem.head _ | apply List.Mem.tail)) (by exact LoadV.whole Try.underlying25 rfl sz_25)) ?_
          refine LAny.twoX 1 2 rfl rfl rfl rfl (by kernel_rfl) (.inr (LStep.det (Det.load rfl (by repeat (first | exact List.Mem.head _ | apply List.Mem.tail)) (by exact LoadV.whole Try.underlying25 rfl sz_25)) (Nat.le_of_ble_eq_true rfl) ?_)) (.inl ⟨rfl, LStepW.storeA rfl rfl sz_25 (by repeat (first | exact natL_one _ | exact vec_one _ _ _ | exact wideL_one _ | exact ptL_one _ _ _ | exact pjL_one _ _ _ | exact allOne_nil | refine allOne_cons rfl ?_ | refine allOne_append ?_ ?_)) (by repeat (first | exact SetAt.head _ | apply SetAt.tail)) (by first | exact natL_length _ | exact vec_length _ _ _ | exact wideL_length _ | exact ptL_length _ _ _ | exact pjL_length _ _ _ | rfl | simp [vec_length, natL_length, wideL_length]) ?_⟩)
          ·
            refine LAny.late 2 rfl rfl (by kernel_rfl) (by kernel_rfl) (LStepW.storeA rfl rfl sz_25 (by repeat (first | exact natL_one _ | exact vec_one _ _ _ | exact wideL_one _ | exact ptL_one _ _ _ | exact pjL_one _ _ _ | exact allOne_nil | refine allOne_cons rfl ?_ | refine allOne_append ?_ ?_)) (by repeat (first | exact SetAt.head _ | apply SetAt.tail)) (by first | exact natL_length _ | exact vec_length _ _ _ | exact wideL_length _ | exact ptL_length _ _ _ | exact pjL_length _ _ _ | rfl | simp [vec_length, natL_length, wideL_length]) ?_)
            refine LAny.late 3 rfl rfl (by kernel_rfl) (by kernel_rfl) (LStepW.storeA rfl rfl sz_25 (by repeat (first | exact natL_one _ | exact vec_one _ _ _ | exact wideL_one _ | exact ptL_one _ _ _ | exact pjL_one _ _ _ | exact allOne_nil | refine allOne_cons rfl ?_ | refine allOne_append ?_ ?_)) (by repeat (first | exact SetAt.head _ | apply SetAt.tail)) (by first | exact natL_length _ | exact vec_length _ _ _ | exact wideL_length _ | exact ptL_length _ _ _ | exact pjL_length _ _ _ | rfl | simp [vec_length, natL_length, wideL_length]) ?_)
            refine LAny.done (by kernel_rfl) ?_
            refine ⟨(x.2.1, x.1 % x.2.1, x.2.2.2, lessM x.2.2.1 (x.1 / x.2.1 * x.2.2.2 % m) m), ⟨by dsimp only; omega, by dsimp only; have := Nat.mod_lt x.1 (show 0 < x.2.1 by omega); omega, hx6 hm1, fun _ => lessM_lt hx3 (Nat.mod_lt _ (by omega)), fun h => absurd h (by omega), hx7, inv_step rfl hx3 (by omega) hx5 hx7, by show Nat.gcd x.2.1 (x.1 % x.2.1) = _; rw [← hx8, Nat.gcd_comm x.2.1, ← Nat.gcd_rec, Nat.gcd_comm]⟩, Nat.mod_lt _ (by omega), Sub.re (Sub.cells (b := b12) (cs' := natL (lessM x.2.2.1 (x.1 / x.2.1 * x.2.2.2 % m) m)) (by repeat (first | exact SetAt.head _ | apply SetAt.tail)) ?_) (Sub.mk ⟨rfl, rfl, rfl, rfl, rfl, rfl, rfl, rfl, trivial⟩ (by repeat (first | exact Sel.nil _ | refine Sel.cons (by repeat (first | exact Pick.head _ | apply Pick.tail)) ?_)))⟩
            rw [← less_word hx3 (Nat.mod_lt _ (by omega)) hm, if_pos h56]
          ·
            refine LAny.take 1 rfl (by kernel_rfl) (Nat.le_of_ble_eq_true rfl) (Det.load rfl (by repeat (first | exact List.Mem.head _ | apply List.Mem.tail)) (by exact LoadV.whole Try.underlying25 rfl sz_25)) ?_
            refine LAny.late 3 rfl rfl (by kernel_rfl) (by kernel_rfl) (LStepW.storeA rfl rfl sz_25 (by repeat (first | exact natL_one _ | exact vec_one _ _ _ | exact wideL_one _ | exact ptL_one _ _ _ | exact pjL_one _ _ _ | exact allOne_nil | refine allOne_cons rfl ?_ | refine allOne_append ?_ ?_)) (by repeat (first | exact SetAt.head _ | apply SetAt.tail)) (by first | exact natL_length _ | exact vec_length _ _ _ | exact wideL_length _ | exact ptL_length _ _ _ | exact pjL_length _ _ _ | rfl | simp [vec_length, natL_length, wideL_length]) ?_)
            refine LAny.done (by kernel_rfl) ?_
            refine ⟨(x.2.1, x.1 % x.2.1, x.2.2.2, lessM x.2.2.1 (x.1 / x.2.1 * x.2.2.2 % m) m), ⟨by dsimp only; omega, by dsimp only; have := Nat.mod_lt x.1 (show 0 < x.2.1 by omega); omega, hx6 hm1, fun _ => lessM_lt hx3 (Nat.mod_lt _ (by omega)), fun h => absurd h (by omega), hx7, inv_step rfl hx3 (by omega) hx5 hx7, by show Nat.gcd x.2.1 (x.1 % x.2.1) = _; rw [← hx8, Nat.gcd_comm x.2.1, ← Nat.gcd_rec, Nat.gcd_comm]⟩, Nat.mod_lt _ (by omega), Sub.re (Sub.cells (b := b12) (cs' := natL (lessM x.2.2.1 (x.1 / x.2.1 * x.2.2.2 % m) m)) (by repeat (first | exact SetAt.head _ | apply SetAt.tail)) ?_) (Sub.mk ⟨rfl, rfl, rfl, rfl, rfl, rfl, rfl, rfl, trivial⟩ (by repeat (first | exact Sel.nil _ | refine Sel.cons (by repeat (first | exact Pick.head _ | apply Pick.tail)) ?_)))⟩
            rw [← less_word hx3 (Nat.mod_lt _ (by omega)) hm, if_pos h56]
        ·
          have h56 : ¬ x.2.2.1 < x.1 / x.2.1 * x.2.2.2 % m := h56
          refine LCode.skip ?_
          refine LCode.regionD [2, 3] (by kernel_rfl) ?_
          refine LAny.take 0 rfl (by kernel_rfl) (Nat.le_of_ble_eq_true rfl) (Det.load rfl (by repeat (first | exact List.Mem.head _ | apply List.Mem.tail)) (by exact LoadV.whole Try.underlying25 rfl sz_25)) ?_
          refine LAny.twoX 1 2 rfl rfl rfl rfl (by kernel_rfl) (.inr (LStep.det (Det.load rfl (by repeat (first | exact List.Mem.head _ | apply List.Mem.tail)) (by exact LoadV.whole Try.underlying25 rfl sz_25)) (Nat.le_of_ble_eq_true rfl) ?_)) (.inl ⟨rfl, LStepW.storeA rfl rfl sz_25 (by repeat (first | exact natL_one _ | exact vec_one _ _ _ | exact wideL_one _ | exact ptL_one _ _ _ | exact pjL_one _ _ _ | exact allOne_nil | refine allOne_cons rfl ?_ | refine allOne_append ?_ ?_)) (by repeat (first | exact SetAt.head _ | apply SetAt.tail)) (by first | exact natL_length _ | exact vec_length _ _ _ | exact wideL_length _ | exact ptL_length _ _ _ | exact pjL_length _ _ _ | rfl | simp [vec_length, natL_length, wideL_length]) ?_⟩)
          ·
            refine LAny.late 2 rfl rfl (by kernel_rfl) (by kernel_rfl) (LStepW.storeA rfl rfl sz_25 (by repeat (first | exact natL_one _ | exact vec_one _ _ _ | exact wideL_one _ | exact ptL_one _ _ _ | exact pjL_one _ _ _ | exact allOne_nil | refine allOne_cons rfl ?_ | refine allOne_append ?_ ?_)) (by repeat (first | exact SetAt.head _ | apply SetAt.tail)) (by first | exact natL_length _ | exact vec_length _ _ _ | exact wideL_length _ | exact ptL_length _ _ _ | exact pjL_length _ _ _ | rfl | simp [vec_length, natL_length, wideL_length]) ?_)
            refine LAny.late 3 rfl rfl (by kernel_rfl) (by kernel_rfl) (LStepW.storeA rfl rfl sz_25 (by repeat (first | exact natL_one _ | exact vec_one _ _ _ | exact wideL_one _ | exact ptL_one _ _ _ | exact pjL_one _ _ _ | exact allOne_nil | refine allOne_cons rfl ?_ | refine allOne_append ?_ ?_)) (by repeat (first | exact SetAt.head _ | apply SetAt.tail)) (by first | exact natL_length _ | exact vec_length _ _ _ | exact wideL_length _ | exact ptL_length _ _ _ | exact pjL_length _ _ _ | rfl | simp [vec_length, natL_length, wideL_length]) ?_)
            refine LAny.done (by kernel_rfl) ?_
            refine ⟨(x.2.1, x.1 % x.2.1, x.2.2.2, lessM x.2.2.1 (x.1 / x.2.1 * x.2.2.2 % m) m), ⟨by dsimp only; omega, by dsimp only; have := Nat.mod_lt x.1 (show 0 < x.2.1 by omega); omega, hx6 hm1, fun _ => lessM_lt hx3 (Nat.mod_lt _ (by omega)), fun h => absurd h (by omega), hx7, inv_step rfl hx3 (by omega) hx5 hx7, by show Nat.gcd x.2.1 (x.1 % x.2.1) = _; rw [← hx8, Nat.gcd_comm x.2.1, ← Nat.gcd_rec, Nat.gcd_comm]⟩, Nat.mod_lt _ (by omega), Sub.re (Sub.cells (b := b12) (cs' := natL (lessM x.2.2.1 (x.1 / x.2.1 * x.2.2.2 % m) m)) (by repeat (first | exact SetAt.head _ | apply SetAt.tail)) ?_) (Sub.mk ⟨rfl, rfl, rfl, rfl, rfl, rfl, rfl, rfl, trivial⟩ (by repeat (first | exact Sel.nil _ | refine Sel.cons (by repeat (first | exact Pick.head _ | apply Pick.tail)) ?_)))⟩
            rw [← less_word hx3 (Nat.mod_lt _ (by omega)) hm, if_neg h56]
          ·
            refine LAny.take 1 rfl (by kernel_rfl) (Nat.le_of_ble_eq_true rfl) (Det.load rfl (by repeat (first | exact List.Mem.head _ | apply List.Mem.tail)) (by exact LoadV.whole Try.underlying25 rfl sz_25)) ?_
            refine LAny.late 3 rfl rfl (by kernel_rfl) (by kernel_rfl) (LStepW.storeA rfl rfl sz_25 (by repeat (first | exact natL_one _ | exact vec_one _ _ _ | exact wideL_one _ | exact ptL_one _ _ _ | exact pjL_one _ _ _ | exact allOne_nil | refine allOne_cons rfl ?_ | refine allOne_append ?_ ?_)) (by repeat (first | exact SetAt.head _ | apply SetAt.tail)) (by first | exact natL_length _ | exact vec_length _ _ _ | exact wideL_length _ | exact ptL_length _ _ _ | exact pjL_length _ _ _ | rfl | simp [vec_length, natL_length, wideL_length]) ?_)
            refine LAny.done (by kernel_rfl) ?_
            refine ⟨(x.2.1, x.1 % x.2.1, x.2.2.2, lessM x.2.2.1 (x.1 / x.2.1 * x.2.2.2 % m) m), ⟨by dsimp only; omega, by dsimp only; have := Nat.mod_lt x.1 (show 0 < x.2.1 by omega); omega, hx6 hm1, fun _ => lessM_lt hx3 (Nat.mod_lt _ (by omega)), fun h => absurd h (by omega), hx7, inv_step rfl hx3 (by omega) hx5 hx7, by show Nat.gcd x.2.1 (x.1 % x.2.1) = _; rw [← hx8, Nat.gcd_comm x.2.1, ← Nat.gcd_rec, Nat.gcd_comm]⟩, Nat.mod_lt _ (by omega), Sub.re (Sub.cells (b := b12) (cs' := natL (lessM x.2.2.1 (x.1 / x.2.1 * x.2.2.2 % m) m)) (by repeat (first | exact SetAt.head _ | apply SetAt.tail)) ?_) (Sub.mk ⟨rfl, rfl, rfl, rfl, rfl, rfl, rfl, rfl, trivial⟩ (by repeat (first | exact Sel.nil _ | refine Sel.cons (by repeat (first | exact Pick.head _ | apply Pick.tail)) ?_)))⟩
            rw [← less_word hx3 (Nat.mod_lt _ (by omega)) hm, if_neg h56]

end Go.Proofs.Ytljblbgogjieaaa
