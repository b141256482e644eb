/- Walks: what functions of the program come to, step by step. -/
import Derived.Test.YtljblbgogjieaaaW19
set_option linter.unusedVariables false
set_option linter.unusedSimpArgs false
set_option maxRecDepth 20000
namespace Go.Proofs.Ytljblbgogjieaaa
open Go Go.RowKit

theorem blen_w9 {A : Nat} (h : A < W9) : blen A ≤ 576 := by
  obtain ⟨k, hk⟩ : ∃ k : Nat, k = 9 := ⟨9, rfl⟩
  have := blen_le (lt_w9_pow h k hk)
  omega
def legB (V : Cv) : Bool := decide (V.id = 1 ∨ V.id = 7)
def thr (V : Cv) : Nat := ((V.b + V.b) % V.p + V.b) % V.p
/-- An open curve's cells. -/
def opL (V : Cv) (f : Nat) : List Value := cvC V.id V.p V.a V.b V.n V.x V.y false (blen V.n) (nby V.p) (legB V) (.pointer (some ⟨f, 0, none⟩)) (thr V)
theorem thr_lt {V : Cv} (h : V.Ok) : thr V < V.p := Nat.mod_lt _ (by have := h.bounds.1; omega)
theorem fill_pt (X Y : Nat) : fillL [(0, 9), (9, 9), (18, 1)] (vec .u64 9 (fun _ => 0) ++ (vec .u64 9 (fun _ => 0) ++ [Value.bool false])) [(0, natV X), (1, natV Y)] = some (ptL X Y false) := by
  refine fillL_step (A := []) (B := vec .u64 9 (fun _ => 0)) (D := vec .u64 9 (fun _ => 0) ++ [Value.bool false]) (cs := natL X) rfl rfl (natL_length _) rfl rfl (vec_length _ _ _) ?_
  refine (fillL_step (A := natL X) (B := vec .u64 9 (fun _ => 0)) (D := [Value.bool false]) (cs := natL Y) rfl rfl (natL_length _) (by simp) (natL_length _) (vec_length _ _ _) rfl).trans ?_
  simp [ptL]

theorem c_Open_none (id : Int) (w : World) (h : cvI id = none) : Calls Try.prog 112 ([.int .i64 id] : List Value).toArray w (fun e w' => e = .returned (.pointer none) ∧ Below w.heap.size w w') := by
  refine calls_ro (N := 130) (rs := [.tmp 2]) [] Try.func112 rfl Try.ntmps112 Try.results112 (Nat.le_of_ble_eq_true rfl) trivial rfl ?_
  show LCode _ _ _ ⟨_, _⟩ _
  refine LCode.seq ?_
  refine LCode.region ?_
  refine LOps.detP (Det.assign rfl) (Nat.le_of_ble_eq_true rfl) ?_
  refine LOps.nil ?_
  refine LCode.seq ?_
  refine LCode.region ?_
  refine LOps.detP (Det.move rfl) (Nat.le_of_ble_eq_true rfl) ?_
  refine LOps.step rfl (LStep.w (LStep.callF (first := []) rfl en_146 rfl (Nat.le_of_ble_eq_true rfl) (fun w hw => c_f_Of_none id w h) ?_))
  refine LOps.detP (Det.assign rfl) (Nat.le_of_ble_eq_true rfl) ?_
  refine LOps.nil ?_
  refine LCode.seq ?_
  refine LCode.seq ?_
  refine LCode.region ?_
  refine LOps.detP (Det.move rfl) (Nat.le_of_ble_eq_true rfl) ?_
  refine LOps.detP (Slots.cast (Det.eqp Try.underlying145 rfl rfl) (show _ = Value.bool true from rfl)) (Nat.le_of_ble_eq_true rfl) ?_
  refine LOps.nil ?_
  refine LCode.cond_true rfl ?_
  refine LCode.seq ?_
  refine LCode.region ?_
  refine LOps.detP (Det.assign rfl) (Nat.le_of_ble_eq_true rfl) ?_
  refine LOps.nil ?_
  refine LCode.ret ?_
  refine ⟨[_], .cons rfl .nil, fun a w' hr => ⟨?_, hr.fr.below⟩⟩
  rfl

theorem c_Open (id : Int) (V : Cv) (w : World) (h : cvI id = some V) : Calls Try.prog 112 ([.int .i64 id] : List Value).toArray w (fun e w' => ∃ b f bd, e = .returned (.pointer (some ⟨b, 0, none⟩)) ∧ (Item.blk b ⟨false, opL V f, 147, (0, 0)⟩).holds w' ∧ (Item.blk f ⟨false, fldL V.p bd, 194, (0, 0)⟩).holds w' ∧ (Item.blk bd ⟨false, dvL V.p, 241, (0, 0)⟩).holds w' ∧ w.heap.size ≤ b ∧ w.heap.size ≤ f ∧ w.heap.size ≤ bd ∧ Below w.heap.size w w') := by
  obtain ⟨hok, rfl⟩ := cvI_ok h
  refine calls_ro (N := 130) (rs := [.tmp 2]) [] Try.func112 rfl Try.ntmps112 Try.results112 (Nat.le_of_ble_eq_true rfl) trivial rfl ?_
  show LCode _ _ _ ⟨_, _⟩ _
  refine LCode.seq ?_
  refine LCode.region ?_
  refine LOps.detP (Det.assign rfl) (Nat.le_of_ble_eq_true rfl) ?_
  refine LOps.nil ?_
  refine LCode.seq ?_
  refine LCode.region ?_
  refine LOps.detP (Det.move rfl) (Nat.le_of_ble_eq_true rfl) ?_
  refine LOps.step rfl (LStep.w (LStep.callZ (Post := fun v its => ∃ f bd, v = .pointer (some ⟨f, 0, none⟩) ∧ its = [.blk f ⟨false, fldL V.p bd, 194, (0, 0)⟩, .blk bd ⟨false, dvL V.p, 241, (0, 0)⟩] ∧ w.heap.size ≤ f ∧ w.heap.size ≤ bd) (first := []) rfl en_146 rfl (Nat.le_of_ble_eq_true rfl) (fun w1 hw hs => (c_f_Of _ V w1 h).mono fun e w' ⟨f, bd, h1, h2, h3, h4, h5, h6⟩ => ⟨_, _, ⟨f, bd, rfl, rfl, Nat.le_trans hs h4, Nat.le_trans hs h5⟩, h1, Brings.nums h6 (by intro x hx; simp at hx; rcases hx with rfl | rfl; exact h2; exact h3) (by intro x hx; simp at hx; rcases hx with rfl | rfl <;> rfl) (by intro x hx k hk; simp at hx; rcases hx with rfl | rfl <;> simp [Item.fp] at hk <;> subst hk; exact .inl h4; exact .inl h5)⟩) ?_))
  rintro _ _ ⟨f, bd, rfl, rfl, hnf, hnbd⟩
  refine LOps.detP (Det.assign rfl) (Nat.le_of_ble_eq_true rfl) ?_
  refine LOps.nil ?_
  refine LCode.seq ?_
  refine LCode.seq ?_
  refine LCode.region ?_
  refine LOps.detP (Det.move rfl) (Nat.le_of_ble_eq_true rfl) ?_
  refine LOps.detP (Slots.cast (Det.eqp Try.underlying145 rfl rfl) (show _ = Value.bool false from rfl)) (Nat.le_of_ble_eq_true rfl) ?_
  refine LOps.nil ?_
  refine LCode.cond_false rfl ?_
  refine LCode.skip ?_
  refine LCode.seq ?_
  have hbb := hok.bounds
  have hpW : V.p < W9 := w9_521 hbb.2.1
  have hnW : V.n < W9 := w9_521 hbb.2.2.2.2.2.2.1
  have hbln := blen_w9 hnW
  have hblp := blen_w9 hpW
  refine LCode.region ?_
  refine LOps.detP (Det.move rfl) (Nat.le_of_ble_eq_true rfl) ?_
  refine LOps.step rfl (LStep.w (LStep.callV (first := []) rfl en_147 rfl (Nat.le_of_ble_eq_true rfl) (fun w hw => c_rows_some _ V w h) ?_))
  rintro _ ⟨s0, s1, s2, s3, s4, rfl, hrow⟩
  obtain ⟨hA, hB, hN, hX, hY⟩ := rowsB_spec hrow
  clear hrow
  refine LOps.step rfl (LStep.w (LStep.makes (Makes.allocA zr_188) (Nat.le_of_ble_eq_true rfl) (fun b4 => ?_)))
  refine LOps.step rfl (LStepW.storeA rfl rfl sz_188 (by repeat (first | exact allOne_nil | refine allOne_cons rfl ?_)) (by repeat (first | exact SetAt.head _ | apply SetAt.tail)) (by rfl) ?_)
  refine LOps.nil ?_
  refine LCode.seq ?_
  refine LCode.region ?_
  refine LOps.detP (Det.move rfl) (Nat.le_of_ble_eq_true rfl) ?_
  refine LOps.detP (Slots.cast (Det.build pl_147 zr_147 rfl (fillF (.pointer (some ⟨f, 0, none⟩)) rfl)) rfl) (Nat.le_of_ble_eq_true rfl) ?_
  refine LOps.step rfl (LStep.w (LStep.makes (Makes.boxA rfl) (Nat.le_of_ble_eq_true rfl) (fun b14 => ?_)))
  refine LOps.detP (Det.assign rfl) (Nat.le_of_ble_eq_true rfl) ?_
  refine LOps.nil ?_
  refine LCode.cut (α := Unit) (fun _ => True) (fun _ => ⟨[(0, .int .i64 ((V.id : Nat) : Int)), (3, .pointer (some ⟨f, 0, none⟩)), (4, .pointer (some ⟨b4, 0, none⟩)), (5, .pointer (some ⟨b14, 0, none⟩))], [.blk b14 ⟨true, cvC V.id V.p 0 V.b V.n 0 0 false 0 0 false (.pointer (some ⟨f, 0, none⟩)) 0, 147, (0, 0)⟩, .blk b4 ⟨true, [.string s0, .string s1, .string s2, .string s3, .string s4], 188, (0, 0)⟩, .blk f ⟨false, fldL V.p bd, 194, (0, 0)⟩, .blk bd ⟨false, dvL V.p, 241, (0, 0)⟩]⟩) ?_ ?_
  ·
    refine LCode.regionD [18, 22, 26, 30] (by kernel_rfl) ?_
    refine LAny.takeP 0 rfl (by kernel_rfl) (Nat.le_of_ble_eq_true rfl) (Det.move rfl) ?_
    refine LAny.takeP 1 rfl (by kernel_rfl) (Nat.le_of_ble_eq_true rfl) (Det.move rfl) ?_
    refine LAny.takeP 2 rfl (by kernel_rfl) (Nat.le_of_ble_eq_true rfl) (Det.move rfl) ?_
    refine LAny.takeP 3 rfl (by kernel_rfl) (Nat.le_of_ble_eq_true rfl) (Det.move rfl) ?_
    refine LAny.takeP 4 rfl (by kernel_rfl) (Nat.le_of_ble_eq_true rfl) (Det.move rfl) ?_
    refine LAny.takeP 5 rfl (by kernel_rfl) (Nat.le_of_ble_eq_true rfl) (Det.move rfl) ?_
    refine LAny.takeP 6 rfl (by kernel_rfl) (Nat.le_of_ble_eq_true rfl) (Det.nilCheck rfl) ?_
    refine LAny.takeP 7 rfl (by kernel_rfl) (Nat.le_of_ble_eq_true rfl) (Det.fieldA (o' := 0) Try.underlying194 rfl rfl rfl sz_25 (by decide)) ?_
    refine LAny.take 8 rfl (by kernel_rfl) (Nat.le_of_ble_eq_true rfl) (Det.load rfl (by repeat (first | exact List.Mem.head _ | apply List.Mem.tail)) (by exact LoadV.first Try.underlying25 rfl sz_25 rfl (natL_length _))) ?_
    refine LAny.takeP 9 rfl (by kernel_rfl) (Nat.le_of_ble_eq_true rfl) (Det.fieldA (o' := 1) Try.underlying188 rfl rfl rfl sz_9 (by decide)) ?_
    refine LAny.takeP 12 rfl (by kernel_rfl) (Nat.le_of_ble_eq_true rfl) (Det.fieldA (o' := 2) Try.underlying188 rfl rfl rfl sz_9 (by decide)) ?_
    refine LAny.twoX 10 13 rfl rfl rfl rfl (by kernel_rfl) (.inr (LStep.det (Det.load rfl (by repeat (first | exact List.Mem.head _ | apply List.Mem.tail)) (LoadV.one Try.underlying9 rfl (by first | rfl | exact vec_get _ _ _ (by omega) | exact natL_get _ (by omega) | exact wideL_get _ (by omega) | exact dv_m _ _ _ (by omega)))) (Nat.le_of_ble_eq_true rfl) ?_)) (.inr (LStep.det (Det.load rfl (by repeat (first | exact List.Mem.head _ | apply List.Mem.tail)) (LoadV.one Try.underlying9 rfl (by first | rfl | exact vec_get _ _ _ (by omega) | exact natL_get _ (by omega) | exact wideL_get _ (by omega) | exact dv_m _ _ _ (by omega)))) (Nat.le_of_ble_eq_true rfl) ?_))
    ·
      refine LAny.twoX 11 13 rfl rfl rfl rfl (by kernel_rfl) (.inr (LStep.callF (first := []) rfl en_148 rfl (Nat.le_of_ble_eq_true rfl) (fun w hw => fhex s1 V.b w hB) ?_)) (.inr (LStep.det (Det.load rfl (by repeat (first | exact List.Mem.head _ | apply List.Mem.tail)) (LoadV.one Try.underlying9 rfl (by first | rfl | exact vec_get _ _ _ (by omega) | exact natL_get _ (by omega) | exact wideL_get _ (by omega) | exact dv_m _ _ _ (by omega)))) (Nat.le_of_ble_eq_true rfl) ?_))
      ·
        refine LAny.one 13 rfl rfl (by kernel_rfl) (LStep.det (Det.load rfl (by repeat (first | exact List.Mem.head _ | apply List.Mem.tail)) (LoadV.one Try.underlying9 rfl (by first | rfl | exact vec_get _ _ _ (by omega) | exact natL_get _ (by omega) | exact wideL_get _ (by omega) | exact dv_m _ _ _ (by omega)))) (Nat.le_of_ble_eq_true rfl) ?_)
        refine LAny.one 14 rfl rfl (by kernel_rfl) (LStep.callF (first := []) rfl en_148 rfl (Nat.le_of_ble_eq_true rfl) (fun w hw => fhex s2 V.n w hN) ?_)
        refine LAny.takeP 15 rfl (by kernel_rfl) (Nat.le_of_ble_eq_true rfl) (Det.nilCheck rfl) ?_
        refine LAny.takeP 16 rfl (by kernel_rfl) (Nat.le_of_ble_eq_true rfl) (Det.fieldA (o' := 0) Try.underlying147 rfl rfl rfl sz_62 (by decide)) ?_
        refine LAny.takeP 17 rfl (by kernel_rfl) (Nat.le_of_ble_eq_true rfl) (Det.fieldA (o' := 0) Try.underlying62 rfl rfl rfl sz_3 (by decide)) ?_
        refine LAny.late 18 rfl rfl (by kernel_rfl) (by kernel_rfl) (LStepW.storeN rfl rfl rfl sz_3 (by first | exact natL_length _ | exact ptL_length _ _ _ | rfl) (by first | exact natL_one _ | exact ptL_one _ _ _ | exact allOne_cons rfl allOne_nil) (by repeat (first | exact SetAt.head _ | apply SetAt.tail)) (by simp only [cvC_length]; decide) (cvC_set_id _ _ _ _ _ _ _ _ _ _ _ _ _ _) (by simp) ?_)
        refine LAny.takeP 19 rfl (by kernel_rfl) (Nat.le_of_ble_eq_true rfl) (Det.nilCheck rfl) ?_
        refine LAny.takeP 20 rfl (by kernel_rfl) (Nat.le_of_ble_eq_true rfl) (Det.fieldA (o' := 0) Try.underlying147 rfl rfl rfl sz_62 (by decide)) ?_
        refine LAny.takeP 21 rfl (by kernel_rfl) (Nat.le_of_ble_eq_true rfl) (Det.fieldA (o' := 1) Try.underlying62 rfl rfl rfl sz_25 (by decide)) ?_
        refine LAny.late 22 rfl rfl (by kernel_rfl) (by kernel_rfl) (LStepW.storeN rfl rfl rfl sz_25 (by first | exact natL_length _ | exact ptL_length _ _ _ | rfl) (by first | exact natL_one _ | exact ptL_one _ _ _ | exact allOne_cons rfl allOne_nil) (by repeat (first | exact SetAt.head _ | apply SetAt.tail)) (by simp only [cvC_length]; decide) (cvC_set_p _ _ _ _ _ _ _ _ _ _ _ _ _ _) (by simp) ?_)
        refine LAny.takeP 23 rfl (by kernel_rfl) (Nat.le_of_ble_eq_true rfl) (Det.nilCheck rfl) ?_
        refine LAny.takeP 24 rfl (by kernel_rfl) (Nat.le_of_ble_eq_true rfl) (Det.fieldA (o' := 0) Try.underlying147 rfl rfl rfl sz_62 (by decide)) ?_
        refine LAny.takeP 25 rfl (by kernel_rfl) (Nat.le_of_ble_eq_true rfl) (Det.fieldA (o' := 19) Try.underlying62 rfl rfl rfl sz_25 (by decide)) ?_
        refine LAny.late 26 rfl rfl (by kernel_rfl) (by kernel_rfl) (LStepW.storeN rfl rfl rfl sz_25 (by first | exact natL_length _ | exact ptL_length _ _ _ | rfl) (by first | exact natL_one _ | exact ptL_one _ _ _ | exact allOne_cons rfl allOne_nil) (by repeat (first | exact SetAt.head _ | apply SetAt.tail)) (by simp only [cvC_length]; decide) (cvC_set_b _ _ _ _ _ _ _ _ _ _ _ _ _ _) (by simp) ?_)
        refine LAny.takeP 27 rfl (by kernel_rfl) (Nat.le_of_ble_eq_true rfl) (Det.nilCheck rfl) ?_
        refine LAny.takeP 28 rfl (by kernel_rfl) (Nat.le_of_ble_eq_true rfl) (Det.fieldA (o' := 0) Try.underlying147 rfl rfl rfl sz_62 (by decide)) ?_
        refine LAny.takeP 29 rfl (by kernel_rfl) (Nat.le_of_ble_eq_true rfl) (Det.fieldA (o' := 28) Try.underlying62 rfl rfl rfl sz_25 (by decide)) ?_
        refine LAny.late 30 rfl rfl (by kernel_rfl) (by kernel_rfl) (LStepW.storeN rfl rfl rfl sz_25 (by first | exact natL_length _ | exact ptL_length _ _ _ | rfl) (by first | exact natL_one _ | exact ptL_one _ _ _ | exact allOne_cons rfl allOne_nil) (by repeat (first | exact SetAt.head _ | apply SetAt.tail)) (by simp only [cvC_length]; decide) (cvC_set_n _ _ _ _ _ _ _ _ _ _ _ _ _ _) (by simp) ?_)
        refine LAny.done (by kernel_rfl) ?_
        exact ⟨(), trivial, Sub.mk ⟨rfl, rfl, rfl, rfl, trivial⟩ (by repeat (first | exact Sel.nil _ | refine Sel.cons (by repeat (first | exact Pick.head _ | apply Pick.tail)) ?_))⟩
      ·
        refine LAny.one 11 rfl rfl (by kernel_rfl) (LStep.callF (first := []) rfl en_148 rfl (Nat.le_of_ble_eq_true rfl) (fun w hw => fhex s1 V.b w hB) ?_)
        refine LAny.one 14 rfl rfl (by kernel_rfl) (LStep.callF (first := []) rfl en_148 rfl (Nat.le_of_ble_eq_true rfl) (fun w hw => fhex s2 V.n w hN) ?_)
        refine LAny.takeP 15 rfl (by kernel_rfl) (Nat.le_of_ble_eq_true rfl) (Det.nilCheck rfl) ?_
        refine LAny.takeP 16 rfl (by kernel_rfl) (Nat.le_of_ble_eq_true rfl) (Det.fieldA (o' := 0) Try.underlying147 rfl rfl rfl sz_62 (by decide)) ?_
        refine LAny.takeP 17 rfl (by kernel_rfl) (Nat.le_of_ble_eq_true rfl) (Det.fieldA (o' := 0) Try.underlying62 rfl rfl rfl sz_3 (by decide)) ?_
        refine LAny.late 18 rfl rfl (by kernel_rfl) (by kernel_rfl) (LStepW.storeN rfl rfl rfl sz_3 (by first | exact natL_length _ | exact ptL_length _ _ _ | rfl) (by first | exact natL_one _ | exact ptL_one _ _ _ | exact allOne_cons rfl allOne_nil) (by repeat (first | exact SetAt.head _ | apply SetAt.tail)) (by simp only [cvC_length]; decide) (cvC_set_id _ _ _ _ _ _ _ _ _ _ _ _ _ _) (by simp) ?_)
        refine LAny.takeP 19 rfl (by kernel_rfl) (Nat.le_of_ble_eq_true rfl) (Det.nilCheck rfl) ?_
        refine LAny.takeP 20 rfl (by kernel_rfl) (Nat.le_of_ble_eq_true rfl) (Det.fieldA (o' := 0) Try.underlying147 rfl rfl rfl sz_62 (by decide)) ?_
        refine LAny.takeP 21 rfl (by kernel_rfl) (Nat.le_of_ble_eq_true rfl) (Det.fieldA (o' := 1) Try.underlying62 rfl rfl rfl sz_25 (by decide)) ?_
        refine LAny.late 22 rfl rfl (by kernel_rfl) (by kernel_rfl) (LStepW.storeN rfl rfl rfl sz_25 (by first | exact natL_length _ | exact ptL_length _ _ _ | rfl) (by first | exact natL_one _ | exact ptL_one _ _ _ | exact allOne_cons rfl allOne_nil) (by repeat (first | exact SetAt.head _ | apply SetAt.tail)) (by simp only [cvC_length]; decide) (cvC_set_p _ _ _ _ _ _ _ _ _ _ _ _ _ _) (by simp) ?_)
        refine LAny.takeP 23 rfl (by kernel_rfl) (Nat.le_of_ble_eq_true rfl) (Det.nilCheck rfl) ?_
        refine LAny.takeP 24 rfl (by kernel_rfl) (Nat.le_of_ble_eq_true rfl) (Det.fieldA (o' := 0) Try.underlying147 rfl rfl rfl sz_62 (by decide)) ?_
        refine LAny.takeP 25 rfl (by kernel_rfl) (Nat.le_of_ble_eq_true rfl) (Det.fieldA (o' := 19) Try.underlying62 rfl rfl rfl sz_25 (by decide)) ?_
        refine LAny.late 26 rfl rfl (by kernel_rfl) (by kernel_rfl) (LStepW.storeN rfl rfl rfl sz_25 (by first | exact natL_length _ | exact ptL_length _ _ _ | rfl) (by first | exact natL_one _ | exact ptL_one _ _ _ | exact allOne_cons rfl allOne_nil) (by repeat (first | exact SetAt.head _ | apply SetAt.tail)) (by simp only [cvC_length]; decide) (cvC_set_b _ _ _ _ _ _ _ _ _ _ _ _ _ _) (by simp) ?_)
        refine LAny.takeP 27 rfl (by kernel_rfl) (Nat.le_of_ble_eq_true rfl) (Det.nilCheck rfl) ?_
        refine LAny.takeP 28 rfl (by kernel_rfl) (Nat.le_of_ble_eq_true rfl) (Det.fieldA (o' := 0) Try.underlying147 rfl rfl rfl sz_62 (by decide)) ?_
        refine LAny.takeP 29 rfl (by kernel_rfl) (Nat.le_of_ble_eq_true rfl) (Det.fieldA (o' := 28) Try.underlying62 rfl rfl rfl sz_25 (by decide)) ?_
        refine LAny.late 30 rfl rfl (by kernel_rfl) (by kernel_rfl) (LStepW.storeN rfl rfl rfl sz_25 (by first | exact natL_length _ | exact ptL_length _ _ _ | rfl) (by first | exact natL_one _ | exact ptL_one _ _ _ | exact allOne_cons rfl allOne_nil) (by repeat (first | exact SetAt.head _ | apply SetAt.tail)) (by simp only [cvC_length]; decide) (cvC_set_n _ _ _ _ _ _ _ _ _ _ _ _ _ _) (by simp) ?_)
        refine LAny.done (by kernel_rfl) ?_
        exact ⟨(), trivial, Sub.mk ⟨rfl, rfl, rfl, rfl, trivial⟩ (by repeat (first | exact Sel.nil _ | refine Sel.cons (by repeat (first | exact Pick.head _ | apply Pick.tail)) ?_))⟩
    ·
      refine LAny.one 10 rfl rfl (by kernel_rfl) (LStep.det (Det.load rfl (by repeat (first | exact List.Mem.head _ | apply List.Mem.tail)) (LoadV.one Try.underlying9 rfl (by first | rfl | exact vec_get _ _ _ (by omega) | exact natL_get _ (by omega) | exact wideL_get _ (by omega) | exact dv_m _ _ _ (by omega)))) (Nat.le_of_ble_eq_true rfl) ?_)
      refine LAny.one 11 rfl rfl (by kernel_rfl) (LStep.callF (first := []) rfl en_148 rfl (Nat.le_of_ble_eq_true rfl) (fun w hw => fhex s1 V.b w hB) ?_)
      refine LAny.one 14 rfl rfl (by kernel_rfl) (LStep.callF (first := []) rfl en_148 rfl (Nat.le_of_ble_eq_true rfl) (fun w hw => fhex s2 V.n w hN) ?_)
      refine LAny.takeP 15 rfl (by kernel_rfl) (Nat.le_of_ble_eq_true rfl) (Det.nilCheck rfl) ?_
      refine LAny.takeP 16 rfl (by kernel_rfl) (Nat.le_of_ble_eq_true rfl) (Det.fieldA (o' := 0) Try.underlying147 rfl rfl rfl sz_62 (by decide)) ?_
      refine LAny.takeP 17 rfl (by kernel_rfl) (Nat.le_of_ble_eq_true rfl) (Det.fieldA (o' := 0) Try.underlying62 rfl rfl rfl sz_3 (by decide)) ?_
      refine LAny.late 18 rfl rfl (by kernel_rfl) (by kernel_rfl) (LStepW.storeN rfl rfl rfl sz_3 (by first | exact natL_length _ | exact ptL_length _ _ _ | rfl) (by first | exact natL_one _ | exact ptL_one _ _ _ | exact allOne_cons rfl allOne_nil) (by repeat (first | exact SetAt.head _ | apply SetAt.tail)) (by simp only [cvC_length]; decide) (cvC_set_id _ _ _ _ _ _ _ _ _ _ _ _ _ _) (by simp) ?_)
      refine LAny.takeP 19 rfl (by kernel_rfl) (Nat.le_of_ble_eq_true rfl) (Det.nilCheck rfl) ?_
      refine LAny.takeP 20 rfl (by kernel_rfl) (Nat.le_of_ble_eq_true rfl) (Det.fieldA (o' := 0) Try.underlying147 rfl rfl rfl sz_62 (by decide)) ?_
      refine LAny.takeP 21 rfl (by kernel_rfl) (Nat.le_of_ble_eq_true rfl) (Det.fieldA (o' := 1) Try.underlying62 rfl rfl rfl sz_25 (by decide)) ?_
      refine LAny.late 22 rfl rfl (by kernel_rfl) (by kernel_rfl) (LStepW.storeN rfl rfl rfl sz_25 (by first | exact natL_length _ | exact ptL_length _ _ _ | rfl) (by first | exact natL_one _ | exact ptL_one _ _ _ | exact allOne_cons rfl allOne_nil) (by repeat (first | exact SetAt.head _ | apply SetAt.tail)) (by simp only [cvC_length]; decide) (cvC_set_p _ _ _ _ _ _ _ _ _ _ _ _ _ _) (by simp) ?_)
      refine LAny.takeP 23 rfl (by kernel_rfl) (Nat.le_of_ble_eq_true rfl) (Det.nilCheck rfl) ?_
      refine LAny.takeP 24 rfl (by kernel_rfl) (Nat.le_of_ble_eq_true rfl) (Det.fieldA (o' := 0) Try.underlying147 rfl rfl rfl sz_62 (by decide)) ?_
      refine LAny.takeP 25 rfl (by kernel_rfl) (Nat.le_of_ble_eq_true rfl) (Det.fieldA (o' := 19) Try.underlying62 rfl rfl rfl sz_25 (by decide)) ?_
      refine LAny.late 26 rfl rfl (by kernel_rfl) (by kernel_rfl) (LStepW.storeN rfl rfl rfl sz_25 (by first | exact natL_length _ | exact ptL_length _ _ _ | rfl) (by first | exact natL_one _ | exact ptL_one _ _ _ | exact allOne_cons rfl allOne_nil) (by repeat (first | exact SetAt.head _ | apply SetAt.tail)) (by simp only [cvC_length]; decide) (cvC_set_b _ _ _ _ _ _ _ _ _ _ _ _ _ _) (by simp) ?_)
      refine LAny.takeP 27 rfl (by kernel_rfl) (Nat.le_of_ble_eq_true rfl) (Det.nilCheck rfl) ?_
      refine LAny.takeP 28 rfl (by kernel_rfl) (Nat.le_of_ble_eq_true rfl) (Det.fieldA (o' := 0) Try.underlying147 rfl rfl rfl sz_62 (by decide)) ?_
      refine LAny.takeP 29 rfl (by kernel_rfl) (Nat.le_of_ble_eq_true rfl) (Det.fieldA (o' := 28) Try.underlying62 rfl rfl rfl sz_25 (by decide)) ?_
      refine LAny.late 30 rfl rfl (by kernel_rfl) (by kernel_rfl) (LStepW.storeN rfl rfl rfl sz_25 (by first | exact natL_length _ | exact ptL_length _ _ _ | rfl) (by first | exact natL_one _ | exact ptL_one _ _ _ | exact allOne_cons rfl allOne_nil) (by repeat (first | exact SetAt.head _ | apply SetAt.tail)) (by simp only [cvC_length]; decide) (cvC_set_n _ _ _ _ _ _ _ _ _ _ _ _ _ _) (by simp) ?_)
      refine LAny.done (by kernel_rfl) ?_
      exact ⟨(), trivial, Sub.mk ⟨rfl, rfl, rfl, rfl, trivial⟩ (by repeat (first | exact Sel.nil _ | refine Sel.cons (by repeat (first | exact Pick.head _ | apply Pick.tail)) ?_))⟩
  ·
    rintro _ _
    refine LCode.seq ?_
    refine LCode.seq ?_
    rcases hA with ⟨hA0, hVa⟩ | ⟨hA0, hA1⟩
    ·
      refine LCode.region ?_
      refine LOps.detP (Det.fieldA (o' := 0) Try.underlying188 rfl rfl rfl sz_9 (by decide)) (Nat.le_of_ble_eq_true rfl) ?_
      refine LOps.det (Det.load rfl (by repeat (first | exact List.Mem.head _ | apply List.Mem.tail)) (LoadV.one Try.underlying9 rfl (by first | rfl | exact vec_get _ _ _ (by omega) | exact natL_get _ (by omega) | exact wideL_get _ (by omega) | exact dv_m _ _ _ (by omega)))) (Nat.le_of_ble_eq_true rfl) ?_
      refine LOps.detP (Slots.cast (Det.eqs rfl rfl) (congrArg Value.bool (eq_str_t hA0))) (Nat.le_of_ble_eq_true rfl) ?_
      refine LOps.nil ?_
      refine LCode.cond_true rfl ?_
      refine LCode.regionD [13] (by kernel_rfl) ?_
      refine LAny.takeP 0 rfl (by kernel_rfl) (Nat.le_of_ble_eq_true rfl) (Det.move rfl) ?_
      refine LAny.takeP 1 rfl (by kernel_rfl) (Nat.le_of_ble_eq_true rfl) (Det.move rfl) ?_
      refine LAny.takeP 2 rfl (by kernel_rfl) (Nat.le_of_ble_eq_true rfl) (Det.nilCheck rfl) ?_
      refine LAny.takeP 3 rfl (by kernel_rfl) (Nat.le_of_ble_eq_true rfl) (Det.fieldA (o' := 0) Try.underlying194 rfl rfl rfl sz_25 (by decide)) ?_
      refine LAny.take 4 rfl (by kernel_rfl) (Nat.le_of_ble_eq_true rfl) (Det.load rfl (by repeat (first | exact List.Mem.head _ | apply List.Mem.tail)) (by exact LoadV.first Try.underlying25 rfl sz_25 rfl (natL_length _))) ?_
      refine LAny.one 5 rfl rfl (by kernel_rfl) (LStep.callF (first := []) rfl en_150 rfl (Nat.le_of_ble_eq_true rfl) (fun w hw => c_nat_Small 3 (by decide) w) ?_)
      refine LAny.one 6 rfl rfl (by kernel_rfl) (LStep.callF (first := []) rfl en_149 rfl (Nat.le_of_ble_eq_true rfl) (fun w hw => c_nat_SubS V.p 3 w (by omega) (by omega)) ?_)
      refine LAny.takeP 7 rfl (by kernel_rfl) (Nat.le_of_ble_eq_true rfl) (Det.move rfl) ?_
      refine LAny.takeP 8 rfl (by kernel_rfl) (Nat.le_of_ble_eq_true rfl) (Det.extract rfl rfl) ?_
      refine LAny.takeP 9 rfl (by kernel_rfl) (Nat.le_of_ble_eq_true rfl) (Det.extract rfl rfl) ?_
      refine LAny.takeP 10 rfl (by kernel_rfl) (Nat.le_of_ble_eq_true rfl) (Det.nilCheck rfl) ?_
      refine LAny.takeP 11 rfl (by kernel_rfl) (Nat.le_of_ble_eq_true rfl) (Det.fieldA (o' := 0) Try.underlying147 rfl rfl rfl sz_62 (by decide)) ?_
      refine LAny.takeP 12 rfl (by kernel_rfl) (Nat.le_of_ble_eq_true rfl) (Det.fieldA (o' := 10) Try.underlying62 rfl rfl rfl sz_25 (by decide)) ?_
      refine LAny.late 13 rfl rfl (by kernel_rfl) (by kernel_rfl) (LStepW.storeN rfl rfl rfl sz_25 (by first | exact natL_length _ | exact ptL_length _ _ _ | rfl) (by first | exact natL_one _ | exact ptL_one _ _ _ | exact allOne_cons rfl allOne_nil) (by repeat (first | exact SetAt.head _ | apply SetAt.tail)) (by simp only [cvC_length]; decide) (cvC_set_a _ _ _ _ _ _ _ _ _ _ _ _ _ _) (by simp) ?_)
      refine LAny.done (by kernel_rfl) ?_
      refine LCode.seq ?_
      refine LCode.regionD [11] (by kernel_rfl) ?_
      refine LAny.takeP 0 rfl (by kernel_rfl) (Nat.le_of_ble_eq_true rfl) (Det.move rfl) ?_
      refine LAny.takeP 1 rfl (by kernel_rfl) (Nat.le_of_ble_eq_true rfl) (Det.fieldA (o' := 3) Try.underlying188 rfl rfl rfl sz_9 (by decide)) ?_
      refine LAny.take 2 rfl (by kernel_rfl) (Nat.le_of_ble_eq_true rfl) (Det.load rfl (by repeat (first | exact List.Mem.head _ | apply List.Mem.tail)) (LoadV.one Try.underlying9 rfl (by first | rfl | exact vec_get _ _ _ (by omega) | exact natL_get _ (by omega) | exact wideL_get _ (by omega) | exact dv_m _ _ _ (by omega)))) ?_
      refine LAny.takeP 4 rfl (by kernel_rfl) (Nat.le_of_ble_eq_true rfl) (Det.fieldA (o' := 4) Try.underlying188 rfl rfl rfl sz_9 (by decide)) ?_
      refine LAny.take 5 rfl (by kernel_rfl) (Nat.le_of_ble_eq_true rfl) (Det.load rfl (by repeat (first | exact List.Mem.head _ | apply List.Mem.tail)) (LoadV.one Try.underlying9 rfl (by first | rfl | exact vec_get _ _ _ (by omega) | exact natL_get _ (by omega) | exact wideL_get _ (by omega) | exact dv_m _ _ _ (by omega)))) ?_
      refine LAny.one 3 rfl rfl (by kernel_rfl) (LStep.callF (first := []) rfl en_148 rfl (Nat.le_of_ble_eq_true rfl) (fun w hw => fhex s3 V.x w hX) ?_)
      refine LAny.one 6 rfl rfl (by kernel_rfl) (LStep.callF (first := []) rfl en_148 rfl (Nat.le_of_ble_eq_true rfl) (fun w hw => fhex s4 V.y w hY) ?_)
      refine LAny.takeP 7 rfl (by kernel_rfl) (Nat.le_of_ble_eq_true rfl) (Slots.cast (Det.build pl_60 zr_60 rfl (fill_pt _ _)) rfl) ?_
      refine LAny.takeP 8 rfl (by kernel_rfl) (Nat.le_of_ble_eq_true rfl) (Det.nilCheck rfl) ?_
      refine LAny.takeP 9 rfl (by kernel_rfl) (Nat.le_of_ble_eq_true rfl) (Det.fieldA (o' := 0) Try.underlying147 rfl rfl rfl sz_62 (by decide)) ?_
      refine LAny.takeP 10 rfl (by kernel_rfl) (Nat.le_of_ble_eq_true rfl) (Det.fieldA (o' := 37) Try.underlying62 rfl rfl rfl sz_60 (by decide)) ?_
      refine LAny.late 11 rfl rfl (by kernel_rfl) (by kernel_rfl) (LStepW.storeN rfl rfl rfl sz_60 (by first | exact natL_length _ | exact ptL_length _ _ _ | rfl) (by first | exact natL_one _ | exact ptL_one _ _ _ | exact allOne_cons rfl allOne_nil) (by repeat (first | exact SetAt.head _ | apply SetAt.tail)) (by simp only [cvC_length]; decide) (cvC_set_g _ _ _ _ _ _ _ _ _ _ _ _ _ _ _ _) (by simp) ?_)
      refine LAny.done (by kernel_rfl) ?_
      refine LCode.seq ?_
      refine LCode.regionD [18, 22] (by kernel_rfl) ?_
      refine LAny.takeP 0 rfl (by kernel_rfl) (Nat.le_of_ble_eq_true rfl) (Det.move rfl) ?_
      refine LAny.takeP 1 rfl (by kernel_rfl) (Nat.le_of_ble_eq_true rfl) (Det.move rfl) ?_
      refine LAny.takeP 2 rfl (by kernel_rfl) (Nat.le_of_ble_eq_true rfl) (Det.move rfl) ?_
      refine LAny.takeP 3 rfl (by kernel_rfl) (Nat.le_of_ble_eq_true rfl) (Det.nilCheck rfl) ?_
      refine LAny.takeP 4 rfl (by kernel_rfl) (Nat.le_of_ble_eq_true rfl) (Det.fieldA (o' := 0) Try.underlying147 rfl rfl rfl sz_62 (by decide)) ?_
      refine LAny.takeP 5 rfl (by kernel_rfl) (Nat.le_of_ble_eq_true rfl) (Det.fieldA (o' := 28) Try.underlying62 rfl rfl rfl sz_25 (by decide)) ?_
      refine LAny.take 6 rfl (by kernel_rfl) (Nat.le_of_ble_eq_true rfl) (Det.load rfl (by repeat (first | exact List.Mem.head _ | apply List.Mem.tail)) (by exact cvC_ld_n _ _ _ _ _ _ _ _ _ _ _ _ _ _ _ _)) ?_
      refine LAny.takeP 8 rfl (by kernel_rfl) (Nat.le_of_ble_eq_true rfl) (Det.move rfl) ?_
      refine LAny.takeP 9 rfl (by kernel_rfl) (Nat.le_of_ble_eq_true rfl) (Det.nilCheck rfl) ?_
      refine LAny.takeP 10 rfl (by kernel_rfl) (Nat.le_of_ble_eq_true rfl) (Det.fieldA (o' := 0) Try.underlying194 rfl rfl rfl sz_25 (by decide)) ?_
      refine LAny.take 11 rfl (by kernel_rfl) (Nat.le_of_ble_eq_true rfl) (Det.load rfl (by repeat (first | exact List.Mem.head _ | apply List.Mem.tail)) (by exact LoadV.first Try.underlying25 rfl sz_25 rfl (natL_length _))) ?_
      refine LAny.one 7 rfl rfl (by kernel_rfl) (LStep.callF (first := []) rfl en_151 rfl (Nat.le_of_ble_eq_true rfl) (fun w hw => c_nat_Bits V.n hnW w) ?_)
      refine LAny.one 12 rfl rfl (by kernel_rfl) (LStep.callF (first := []) rfl en_151 rfl (Nat.le_of_ble_eq_true rfl) (fun w hw => c_nat_Bits V.p hpW w) ?_)
      refine LAny.takeP 13 rfl (by kernel_rfl) (Nat.le_of_ble_eq_true rfl) (Det.bin rfl rfl (br_add (b := 7) (by omega))) ?_
      refine LAny.takeP 14 rfl (by kernel_rfl) (Nat.le_of_ble_eq_true rfl) (Det.bin rfl rfl (br_quo (b := 8) (by omega) (by omega))) ?_
      refine LAny.takeP 15 rfl (by kernel_rfl) (Nat.le_of_ble_eq_true rfl) (Det.nilCheck rfl) ?_
      refine LAny.takeP 16 rfl (by kernel_rfl) (Nat.le_of_ble_eq_true rfl) (Det.fieldA (o' := 0) Try.underlying147 rfl rfl rfl sz_62 (by decide)) ?_
      refine LAny.takeP 17 rfl (by kernel_rfl) (Nat.le_of_ble_eq_true rfl) (Det.fieldA (o' := 56) Try.underlying62 rfl rfl rfl sz_3 (by decide)) ?_
      refine LAny.late 18 rfl rfl (by kernel_rfl) (by kernel_rfl) (LStepW.storeN rfl rfl rfl sz_3 (by first | exact natL_length _ | exact ptL_length _ _ _ | rfl) (by first | exact natL_one _ | exact ptL_one _ _ _ | exact allOne_cons rfl allOne_nil) (by repeat (first | exact SetAt.head _ | apply SetAt.tail)) (by simp only [cvC_length]; decide) (cvC_set_bits _ _ _ _ _ _ _ _ _ _ _ _ _ _) (by simp) ?_)
      refine LAny.takeP 19 rfl (by kernel_rfl) (Nat.le_of_ble_eq_true rfl) (Det.nilCheck rfl) ?_
      refine LAny.takeP 20 rfl (by kernel_rfl) (Nat.le_of_ble_eq_true rfl) (Det.fieldA (o' := 0) Try.underlying147 rfl rfl rfl sz_62 (by decide)) ?_
      refine LAny.takeP 21 rfl (by kernel_rfl) (Nat.le_of_ble_eq_true rfl) (Det.fieldA (o' := 57) Try.underlying62 rfl rfl rfl sz_3 (by decide)) ?_
      refine LAny.late 22 rfl rfl (by kernel_rfl) (by kernel_rfl) (LStepW.storeN rfl rfl rfl sz_3 (by first | exact natL_length _ | exact ptL_length _ _ _ | rfl) (by first | exact natL_one _ | exact ptL_one _ _ _ | exact allOne_cons rfl allOne_nil) (by repeat (first | exact SetAt.head _ | apply SetAt.tail)) (by simp only [cvC_length]; decide) (cvC_set_size _ _ _ _ _ _ _ _ _ _ _ _ _ _) (by simp) ?_)
      refine LAny.done (by kernel_rfl) ?_
      refine LCode.seq ?_
      by_cases hi1 : ((V.id : Nat) : Int) = 1
      ·
        refine LCode.region ?_
        refine LOps.detP (Det.move rfl) (Nat.le_of_ble_eq_true rfl) ?_
        refine LOps.detP (Det.move rfl) (Nat.le_of_ble_eq_true rfl) ?_
        refine LOps.detP (Det.bin (v := .bool true) rfl rfl (br_t br_eqI hi1)) (Nat.le_of_ble_eq_true rfl) ?_
        refine LOps.detP (Det.move rfl) (Nat.le_of_ble_eq_true rfl) ?_
        refine LOps.skip rfl rfl rfl (Nat.le_of_ble_eq_true rfl) ?_
        refine LOps.skip rfl rfl rfl (Nat.le_of_ble_eq_true rfl) ?_
        refine LOps.detP (Det.pick_true rfl rfl) (Nat.le_of_ble_eq_true rfl) ?_
        refine LOps.detP (Det.nilCheck rfl) (Nat.le_of_ble_eq_true rfl) ?_
        refine LOps.detP (Det.fieldA (o' := 0) Try.underlying147 rfl rfl rfl sz_62 (by decide)) (Nat.le_of_ble_eq_true rfl) ?_
        refine LOps.detP (Det.fieldA (o' := 58) Try.underlying62 rfl rfl rfl sz_4 (by decide)) (Nat.le_of_ble_eq_true rfl) ?_
        refine LOps.step rfl (LStepW.storeN rfl rfl rfl sz_4 (by first | exact natL_length _ | exact ptL_length _ _ _ | rfl) (by first | exact natL_one _ | exact ptL_one _ _ _ | exact allOne_cons rfl allOne_nil) (by repeat (first | exact SetAt.head _ | apply SetAt.tail)) (by simp only [cvC_length]; decide) (cvC_set_leg _ _ _ _ _ _ _ _ _ _ _ _ _ _) (by simp) ?_)
        refine LOps.nil ?_
        refine LCode.seq ?_
        refine LCode.regionD [22] (by kernel_rfl) ?_
        refine LAny.takeP 0 rfl (by kernel_rfl) (Nat.le_of_ble_eq_true rfl) (Det.move rfl) ?_
        refine LAny.takeP 1 rfl (by kernel_rfl) (Nat.le_of_ble_eq_true rfl) (Det.move rfl) ?_
        refine LAny.takeP 2 rfl (by kernel_rfl) (Nat.le_of_ble_eq_true rfl) (Det.move rfl) ?_
        refine LAny.takeP 3 rfl (by kernel_rfl) (Nat.le_of_ble_eq_true rfl) (Det.move rfl) ?_
        refine LAny.takeP 4 rfl (by kernel_rfl) (Nat.le_of_ble_eq_true rfl) (Det.nilCheck rfl) ?_
        refine LAny.takeP 5 rfl (by kernel_rfl) (Nat.le_of_ble_eq_true rfl) (Det.fieldA (o' := 0) Try.underlying147 rfl rfl rfl sz_62 (by decide)) ?_
        refine LAny.takeP 6 rfl (by kernel_rfl) (Nat.le_of_ble_eq_true rfl) (Det.fieldA (o' := 19) Try.underlying62 rfl rfl rfl sz_25 (by decide)) ?_
        refine LAny.take 7 rfl (by kernel_rfl) (Nat.le_of_ble_eq_true rfl) (Det.load rfl (by repeat (first | exact List.Mem.head _ | apply List.Mem.tail)) (by exact cvC_ld_b _ _ _ _ _ _ _ _ _ _ _ _ _ _ _ _)) ?_
        refine LAny.takeP 8 rfl (by kernel_rfl) (Nat.le_of_ble_eq_true rfl) (Det.move rfl) ?_
        refine LAny.takeP 9 rfl (by kernel_rfl) (Nat.le_of_ble_eq_true rfl) (Det.nilCheck rfl) ?_
        refine LAny.takeP 10 rfl (by kernel_rfl) (Nat.le_of_ble_eq_true rfl) (Det.fieldA (o' := 0) Try.underlying147 rfl rfl rfl sz_62 (by decide)) ?_
        refine LAny.takeP 11 rfl (by kernel_rfl) (Nat.le_of_ble_eq_true rfl) (Det.fieldA (o' := 19) Try.underlying62 rfl rfl rfl sz_25 (by decide)) ?_
        refine LAny.take 12 rfl (by kernel_rfl) (Nat.le_of_ble_eq_true rfl) (Det.load rfl (by repeat (first | exact List.Mem.head _ | apply List.Mem.tail)) (by exact cvC_ld_b _ _ _ _ _ _ _ _ _ _ _ _ _ _ _ _)) ?_
        refine LAny.takeP 14 rfl (by kernel_rfl) (Nat.le_of_ble_eq_true rfl) (Det.move rfl) ?_
        refine LAny.takeP 15 rfl (by kernel_rfl) (Nat.le_of_ble_eq_true rfl) (Det.nilCheck rfl) ?_
        refine LAny.takeP 16 rfl (by kernel_rfl) (Nat.le_of_ble_eq_true rfl) (Det.fieldA (o' := 0) Try.underlying147 rfl rfl rfl sz_62 (by decide)) ?_
        refine LAny.takeP 17 rfl (by kernel_rfl) (Nat.le_of_ble_eq_true rfl) (Det.fieldA (o' := 19) Try.underlying62 rfl rfl rfl sz_25 (by decide)) ?_
        refine LAny.take 18 rfl (by kernel_rfl) (Nat.le_of_ble_eq_true rfl) (Det.load rfl (by repeat (first | exact List.Mem.head _ | apply List.Mem.tail)) (by exact cvC_ld_b _ _ _ _ _ _ _ _ _ _ _ _ _ _ _ _)) ?_
        refine LAny.one 13 rfl rfl (by kernel_rfl) (LStep.callF (first := []) rfl en_152 rfl (Nat.le_of_ble_eq_true rfl) (fun w hw => c_f_Add V f bd V.b V.b w (hw _ (by repeat (first | exact List.Mem.head _ | apply List.Mem.tail))) hbb.2.1 (by omega) (by omega)) ?_)
        refine LAny.one 19 rfl rfl (by kernel_rfl) (LStep.callF (first := []) rfl en_152 rfl (Nat.le_of_ble_eq_true rfl) (fun w hw => c_f_Add V f bd ((V.b + V.b) % V.p) V.b w (hw _ (by repeat (first | exact List.Mem.head _ | apply List.Mem.tail))) hbb.2.1 (Nat.mod_lt _ (by omega)) (by omega)) ?_)
        refine LAny.takeP 20 rfl (by kernel_rfl) (Nat.le_of_ble_eq_true rfl) (Det.nilCheck rfl) ?_
        refine LAny.takeP 21 rfl (by kernel_rfl) (Nat.le_of_ble_eq_true rfl) (Det.fieldA (o' := 60) Try.underlying147 rfl rfl rfl sz_25 (by decide)) ?_
        refine LAny.late 22 rfl rfl (by kernel_rfl) (by kernel_rfl) (LStepW.storeN rfl rfl rfl sz_25 (by first | exact natL_length _ | exact ptL_length _ _ _ | rfl) (by first | exact natL_one _ | exact ptL_one _ _ _ | exact allOne_cons rfl allOne_nil) (by repeat (first | exact SetAt.head _ | apply SetAt.tail)) (by simp only [cvC_length]; decide) (cvC_set_t3 _ _ _ _ _ _ _ _ _ _ _ _ _ _) (by simp) ?_)
        refine LAny.done (by kernel_rfl) ?_
        refine LCode.seq ?_
        refine LCode.region ?_
        refine LOps.detP (Det.move rfl) (Nat.le_of_ble_eq_true rfl) ?_
        refine LOps.detP (Det.assign rfl) (Nat.le_of_ble_eq_true rfl) ?_
        refine LOps.nil ?_
        refine LCode.ret ?_
        refine ⟨[_], .cons rfl .nil, fun a w' hr => ⟨b14, f, bd, rfl, ?_, hr.hp _ (by repeat (first | exact List.Mem.head _ | apply List.Mem.tail)), hr.hp _ (by repeat (first | exact List.Mem.head _ | apply List.Mem.tail)), hr.new (B := ⟨true, _, _, _⟩) (by repeat (first | exact List.Mem.head _ | apply List.Mem.tail)) rfl, hnf, hnbd, hr.fr.below⟩⟩
        have hcv := hr.hp _ (show Item.blk b14 ⟨true, cvC V.id V.p (V.p - 3) V.b V.n V.x V.y false (blen V.n) (nby V.p) true (.pointer (some ⟨f, 0, none⟩)) (thr V), 147, (0, 0)⟩ ∈ _ from (by repeat (first | exact List.Mem.head _ | apply List.Mem.tail)))
        have hl : legB V = true := by unfold legB; exact decide_eq_true (by omega)
        have ha : V.a = V.p - 3 := by omega
        rw [← ha] at hcv
        unfold opL
        rw [hl]
        exact hcv
      ·
        refine LCode.region ?_
        refine LOps.detP (Det.move rfl) (Nat.le_of_ble_eq_true rfl) ?_
        refine LOps.detP (Det.move rfl) (Nat.le_of_ble_eq_true rfl) ?_
        refine LOps.detP (Det.bin (v := .bool false) rfl rfl (br_f br_eqI hi1)) (Nat.le_of_ble_eq_true rfl) ?_
        refine LOps.detP (Det.move rfl) (Nat.le_of_ble_eq_true rfl) ?_
        refine LOps.detGP rfl rfl (Det.move rfl) (Nat.le_of_ble_eq_true rfl) ?_
        refine LOps.detGP rfl rfl (Det.bin (v := .bool (decide (((V.id : Nat) : Int) = 7))) rfl rfl br_eqI) (Nat.le_of_ble_eq_true rfl) ?_
        refine LOps.detP (Det.pick_false rfl rfl) (Nat.le_of_ble_eq_true rfl) ?_
        refine LOps.detP (Det.nilCheck rfl) (Nat.le_of_ble_eq_true rfl) ?_
        refine LOps.detP (Det.fieldA (o' := 0) Try.underlying147 rfl rfl rfl sz_62 (by decide)) (Nat.le_of_ble_eq_true rfl) ?_
        refine LOps.detP (Det.fieldA (o' := 58) Try.underlying62 rfl rfl rfl sz_4 (by decide)) (Nat.le_of_ble_eq_true rfl) ?_
        refine LOps.step rfl (LStepW.storeN rfl rfl rfl sz_4 (by first | exact natL_length _ | exact ptL_length _ _ _ | rfl) (by first | exact natL_one _ | exact ptL_one _ _ _ | exact allOne_cons rfl allOne_nil) (by repeat (first | exact SetAt.head _ | apply SetAt.tail)) (by simp only [cvC_length]; decide) (cvC_set_leg _ _ _ _ _ _ _ _ _ _ _ _ _ _) (by simp) ?_)
        refine LOps.nil ?_
        refine LCode.seq ?_
        refine LCode.regionD [22] (by kernel_rfl) ?_
        refine LAny.takeP 0 rfl (by kernel_rfl) (Nat.le_of_ble_eq_true rfl) (Det.move rfl) ?_
        refine LAny.takeP 1 rfl (by kernel_rfl) (Nat.le_of_ble_eq_true rfl) (Det.move rfl) ?_
        refine LAny.takeP 2 rfl (by kernel_rfl) (Nat.le_of_ble_eq_true rfl) (Det.move rfl) ?_
        refine LAny.takeP 3 rfl (by kernel_rfl) (Nat.le_of_ble_eq_true rfl) (Det.move rfl) ?_
        refine LAny.takeP 4 rfl (by kernel_rfl) (Nat.le_of_ble_eq_true rfl) (Det.nilCheck rfl) ?_
        refine LAny.takeP 5 rfl (by kernel_rfl) (Nat.le_of_ble_eq_true rfl) (Det.fieldA (o' := 0) Try.underlying147 rfl rfl rfl sz_62 (by decide)) ?_
        refine LAny.takeP 6 rfl (by kernel_rfl) (Nat.le_of_ble_eq_true rfl) (Det.fieldA (o' := 19) Try.underlying62 rfl rfl rfl sz_25 (by decide)) ?_
        refine LAny.take 7 rfl (by kernel_rfl) (Nat.le_of_ble_eq_true rfl) (Det.load rfl (by repeat (first | exact List.Mem.head _ | apply List.Mem.tail)) (by exact cvC_ld_b _ _ _ _ _ _ _ _ _ _ _ _ _ _ _ _)) ?_
        refine LAny.takeP 8 rfl (by kernel_rfl) (Nat.le_of_ble_eq_true rfl) (Det.move rfl) ?_
        refine LAny.takeP 9 rfl (by kernel_rfl) (Nat.le_of_ble_eq_true rfl) (Det.nilCheck rfl) ?_
        refine LAny.takeP 10 rfl (by kernel_rfl) (Nat.le_of_ble_eq_true rfl) (Det.fieldA (o' := 0) Try.underlying147 rfl rfl rfl sz_62 (by decide)) ?_
        refine LAny.takeP 11 rfl (by kernel_rfl) (Nat.le_of_ble_eq_true rfl) (Det.fieldA (o' := 19) Try.underlying62 rfl rfl rfl sz_25 (by decide)) ?_
        refine LAny.take 12 rfl (by kernel_rfl) (Nat.le_of_ble_eq_true rfl) (Det.load rfl (by repeat (first | exact List.Mem.head _ | apply List.Mem.tail)) (by exact cvC_ld_b _ _ _ _ _ _ _ _ _ _ _ _ _ _ _ _)) ?_
        refine LAny.takeP 14 rfl (by kernel_rfl) (Nat.le_of_ble_eq_true rfl) (Det.move rfl) ?_
        refine LAny.takeP 15 rfl (by kernel_rfl) (Nat.le_of_ble_eq_true rfl) (Det.nilCheck rfl) ?_
        refine LAny.takeP 16 rfl (by kernel_rfl) (Nat.le_of_ble_eq_true rfl) (Det.fieldA (o' := 0) Try.underlying147 rfl rfl rfl sz_62 (by decide)) ?_
        refine LAny.takeP 17 rfl (by kernel_rfl) (Nat.le_of_ble_eq_true rfl) (Det.fieldA (o' := 19) Try.underlying62 rfl rfl rfl sz_25 (by decide)) ?_
        refine LAny.take 18 rfl (by kernel_rfl) (Nat.le_of_ble_eq_true rfl) (Det.load rfl (by repeat (first | exact List.Mem.head _ | apply List.Mem.tail)) (by exact cvC_ld_b _ _ _ _ _ _ _ _ _ _ _ _ _ _ _ _)) ?_
        refine LAny.one 13 rfl rfl (by kernel_rfl) (LStep.callF (first := []) rfl en_152 rfl (Nat.le_of_ble_eq_true rfl) (fun w hw => c_f_Add V f bd V.b V.b w (hw _ (by repeat (first | exact List.Mem.head _ | apply List.Mem.tail))) hbb.2.1 (by omega) (by omega)) ?_)
        refine LAny.one 19 rfl rfl (by kernel_rfl) (LStep.callF (first := []) rfl en_152 rfl (Nat.le_of_ble_eq_true rfl) (fun w hw => c_f_Add V f bd ((V.b + V.b) % V.p) V.b w (hw _ (by repeat (first | exact List.Mem.head _ | apply List.Mem.tail))) hbb.2.1 (Nat.mod_lt _ (by omega)) (by omega)) ?_)
        refine LAny.takeP 20 rfl (by kernel_rfl) (Nat.le_of_ble_eq_true rfl) (Det.nilCheck rfl) ?_
        refine LAny.takeP 21 rfl (by kernel_rfl) (Nat.le_of_ble_eq_true rfl) (Det.fieldA (o' := 60) Try.underlying147 rfl rfl rfl sz_25 (by decide)) ?_
        refine LAny.late 22 rfl rfl (by kernel_rfl) (by kernel_rfl) (LStepW.storeN rfl rfl rfl sz_25 (by first | exact natL_length _ | exact ptL_length _ _ _ | rfl) (by first | exact natL_one _ | exact ptL_one _ _ _ | exact allOne_cons rfl allOne_nil) (by repeat (first | exact SetAt.head _ | apply SetAt.tail)) (by simp only [cvC_length]; decide) (cvC_set_t3 _ _ _ _ _ _ _ _ _ _ _ _ _ _) (by simp) ?_)
        refine LAny.done (by kernel_rfl) ?_
        refine LCode.seq ?_
        refine LCode.region ?_
        refine LOps.detP (Det.move rfl) (Nat.le_of_ble_eq_true rfl) ?_
        refine LOps.detP (Det.assign rfl) (Nat.le_of_ble_eq_true rfl) ?_
        refine LOps.nil ?_
        refine LCode.ret ?_
        refine ⟨[_], .cons rfl .nil, fun a w' hr => ⟨b14, f, bd, rfl, ?_, hr.hp _ (by repeat (first | exact List.Mem.head _ | apply List.Mem.tail)), hr.hp _ (by repeat (first | exact List.Mem.head _ | apply List.Mem.tail)), hr.new (B := ⟨true, _, _, _⟩) (by repeat (first | exact List.Mem.head _ | apply List.Mem.tail)) rfl, hnf, hnbd, hr.fr.below⟩⟩
        have hcv := hr.hp _ (show Item.blk b14 ⟨true, cvC V.id V.p (V.p - 3) V.b V.n V.x V.y false (blen V.n) (nby V.p) (decide (((V.id : Nat) : Int) = 7)) (.pointer (some ⟨f, 0, none⟩)) (thr V), 147, (0, 0)⟩ ∈ _ from (by repeat (first | exact List.Mem.head _ | apply List.Mem.tail)))
        have hl : legB V = (decide (((V.id : Nat) : Int) = 7)) := by unfold legB; by_cases h7 : V.id = 7 <;> simp [h7]; omega
        have ha : V.a = V.p - 3 := by omega
        rw [← ha] at hcv
        unfold opL
        rw [hl]
        exact hcv
    ·
      refine LCode.region ?_
      refine LOps.detP (Det.fieldA (o' := 0) Try.underlying188 rfl rfl rfl sz_9 (by decide)) (Nat.le_of_ble_eq_true rfl) ?_
      refine LOps.det (Det.load rfl (by repeat (first | exact List.Mem.head _ | apply List.Mem.tail)) (LoadV.one Try.underlying9 rfl (by first | rfl | exact vec_get _ _ _ (by omega) | exact natL_get _ (by omega) | exact wideL_get _ (by omega) | exact dv_m _ _ _ (by omega)))) (Nat.le_of_ble_eq_true rfl) ?_
      refine LOps.detP (Slots.cast (Det.eqs rfl rfl) (congrArg Value.bool (eq_str_f hA0))) (Nat.le_of_ble_eq_true rfl) ?_
      refine LOps.nil ?_
      refine LCode.cond_false rfl ?_
      refine LCode.region ?_
      refine LOps.detP (Det.move rfl) (Nat.le_of_ble_eq_true rfl) ?_
      refine LOps.detP (Det.fieldA (o' := 0) Try.underlying188 rfl rfl rfl sz_9 (by decide)) (Nat.le_of_ble_eq_true rfl) ?_
      refine LOps.det (Det.load rfl (by repeat (first | exact List.Mem.head _ | apply List.Mem.tail)) (LoadV.one Try.underlying9 rfl (by first | rfl | exact vec_get _ _ _ (by omega) | exact natL_get _ (by omega) | exact wideL_get _ (by omega) | exact dv_m _ _ _ (by omega)))) (Nat.le_of_ble_eq_true rfl) ?_
      refine LOps.step rfl (LStep.w (LStep.callF (first := []) rfl en_148 rfl (Nat.le_of_ble_eq_true rfl) (fun w hw => fhex s0 V.a w hA1) ?_))
      refine LOps.detP (Det.nilCheck rfl) (Nat.le_of_ble_eq_true rfl) ?_
      refine LOps.detP (Det.fieldA (o' := 0) Try.underlying147 rfl rfl rfl sz_62 (by decide)) (Nat.le_of_ble_eq_true rfl) ?_
      refine LOps.detP (Det.fieldA (o' := 10) Try.underlying62 rfl rfl rfl sz_25 (by decide)) (Nat.le_of_ble_eq_true rfl) ?_
      refine LOps.step rfl (LStepW.storeN rfl rfl rfl sz_25 (by first | exact natL_length _ | exact ptL_length _ _ _ | rfl) (by first | exact natL_one _ | exact ptL_one _ _ _ | exact allOne_cons rfl allOne_nil) (by repeat (first | exact SetAt.head _ | apply SetAt.tail)) (by simp only [cvC_length]; decide) (cvC_set_a _ _ _ _ _ _ _ _ _ _ _ _ _ _) (by simp) ?_)
      refine LOps.nil ?_
      refine LCode.seq ?_
      refine LCode.regionD [11] (by kernel_rfl) ?_
      refine LAny.takeP 0 rfl (by kernel_rfl) (Nat.le_of_ble_eq_true rfl) (Det.move rfl) ?_
      refine LAny.takeP 1 rfl (by kernel_rfl) (Nat.le_of_ble_eq_true rfl) (Det.fieldA (o' := 3) Try.underlying188 rfl rfl rfl sz_9 (by decide)) ?_
      refine LAny.take 2 rfl (by kernel_rfl) (Nat.le_of_ble_eq_true rfl) (Det.load rfl (by repeat (first | exact List.Mem.head _ | apply List.Mem.tail)) (LoadV.one Try.underlying9 rfl (by first | rfl | exact vec_get _ _ _ (by omega) | exact natL_get _ (by omega) | exact wideL_get _ (by omega) | exact dv_m _ _ _ (by omega)))) ?_
      refine LAny.takeP 4 rfl (by kernel_rfl) (Nat.le_of_ble_eq_true rfl) (Det.fieldA (o' := 4) Try.underlying188 rfl rfl rfl sz_9 (by decide)) ?_
      refine LAny.take 5 rfl (by kernel_rfl) (Nat.le_of_ble_eq_true rfl) (Det.load rfl (by repeat (first | exact List.Mem.head _ | apply List.Mem.tail)) (LoadV.one Try.underlying9 rfl (by first | rfl | exact vec_get _ _ _ (by omega) | exact natL_get _ (by omega) | exact wideL_get _ (by omega) | exact dv_m _ _ _ (by omega)))) ?_
      refine LAny.one 3 rfl rfl (by kernel_rfl) (LStep.callF (first := []) rfl en_148 rfl (Nat.le_of_ble_eq_true rfl) (fun w hw => fhex s3 V.x w hX) ?_)
      refine LAny.one 6 rfl rfl (by kernel_rfl) (LStep.callF (first := []) rfl en_148 rfl (Nat.le_of_ble_eq_true rfl) (fun w hw => fhex s4 V.y w hY) ?_)
      refine LAny.takeP 7 rfl (by kernel_rfl) (Nat.le_of_ble_eq_true rfl) (Slots.cast (Det.build pl_60 zr_60 rfl (fill_pt _ _)) rfl) ?_
      refine LAny.takeP 8 rfl (by kernel_rfl) (Nat.le_of_ble_eq_true rfl) (Det.nilCheck rfl) ?_
      refine LAny.takeP 9 rfl (by kernel_rfl) (Nat.le_of_ble_eq_true rfl) (Det.fieldA (o' := 0) Try.underlying147 rfl rfl rfl sz_62 (by decide)) ?_
      refine LAny.takeP 10 rfl (by kernel_rfl) (Nat.le_of_ble_eq_true rfl) (Det.fieldA (o' := 37) Try.underlying62 rfl rfl rfl sz_60 (by decide)) ?_
      refine LAny.late 11 rfl rfl (by kernel_rfl) (by kernel_rfl) (LStepW.storeN rfl rfl rfl sz_60 (by first | exact natL_length _ | exact ptL_length _ _ _ | rfl) (by first | exact natL_one _ | exact ptL_one _ _ _ | exact allOne_cons rfl allOne_nil) (by repeat (first | exact SetAt.head _ | apply SetAt.tail)) (by simp only [cvC_length]; decide) (cvC_set_g _ _ _ _ _ _ _ _ _ _ _ _ _ _ _ _) (by simp) ?_)
      refine LAny.done (by kernel_rfl) ?_
      refine LCode.seq ?_
      refine LCode.regionD [18, 22] (by kernel_rfl) ?_
      refine LAny.takeP 0 rfl (by kernel_rfl) (Nat.le_of_ble_eq_true rfl) (Det.move rfl) ?_
      refine LAny.takeP 1 rfl (by kernel_rfl) (Nat.le_of_ble_eq_true rfl) (Det.move rfl) ?_
      refine LAny.takeP 2 rfl (by kernel_rfl) (Nat.le_of_ble_eq_true rfl) (Det.move rfl) ?_
      refine LAny.takeP 3 rfl (by kernel_rfl) (Nat.le_of_ble_eq_true rfl) (Det.nilCheck rfl) ?_
      refine LAny.takeP 4 rfl (by kernel_rfl) (Nat.le_of_ble_eq_true rfl) (Det.fieldA (o' := 0) Try.underlying147 rfl rfl rfl sz_62 (by decide)) ?_
      refine LAny.takeP 5 rfl (by kernel_rfl) (Nat.le_of_ble_eq_true rfl) (Det.fieldA (o' := 28) Try.underlying62 rfl rfl rfl sz_25 (by decide)) ?_
      refine LAny.take 6 rfl (by kernel_rfl) (Nat.le_of_ble_eq_true rfl) (Det.load rfl (by repeat (first | exact List.Mem.head _ | apply List.Mem.tail)) (by exact cvC_ld_n _ _ _ _ _ _ _ _ _ _ _ _ _ _ _ _)) ?_
      refine LAny.takeP 8 rfl (by kernel_rfl) (Nat.le_of_ble_eq_true rfl) (Det.move rfl) ?_
      refine LAny.takeP 9 rfl (by kernel_rfl) (Nat.le_of_ble_eq_true rfl) (Det.nilCheck rfl) ?_
      refine LAny.takeP 10 rfl (by kernel_rfl) (Nat.le_of_ble_eq_true rfl) (Det.fieldA (o' := 0) Try.underlying194 rfl rfl rfl sz_25 (by decide)) ?_
      refine LAny.take 11 rfl (by kernel_rfl) (Nat.le_of_ble_eq_true rfl) (Det.load rfl (by repeat (first | exact List.Mem.head _ | apply List.Mem.tail)) (by exact LoadV.first Try.underlying25 rfl sz_25 rfl (natL_length _))) ?_
      refine LAny.one 7 rfl rfl (by kernel_rfl) (LStep.callF (first := []) rfl en_151 rfl (Nat.le_of_ble_eq_true rfl) (fun w hw => c_nat_Bits V.n hnW w) ?_)
      refine LAny.one 12 rfl rfl (by kernel_rfl) (LStep.callF (first := []) rfl en_151 rfl (Nat.le_of_ble_eq_true rfl) (fun w hw => c_nat_Bits V.p hpW w) ?_)
      refine LAny.takeP 13 rfl (by kernel_rfl) (Nat.le_of_ble_eq_true rfl) (Det.bin rfl rfl (br_add (b := 7) (by omega))) ?_
      refine LAny.takeP 14 rfl (by kernel_rfl) (Nat.le_of_ble_eq_true rfl) (Det.bin rfl rfl (br_quo (b := 8) (by omega) (by omega))) ?_
      refine LAny.takeP 15 rfl (by kernel_rfl) (Nat.le_of_ble_eq_true rfl) (Det.nilCheck rfl) ?_
      refine LAny.takeP 16 rfl (by kernel_rfl) (Nat.le_of_ble_eq_true rfl) (Det.fieldA (o' := 0) Try.underlying147 rfl rfl rfl sz_62 (by decide)) ?_
      refine LAny.takeP 17 rfl (by kernel_rfl) (Nat.le_of_ble_eq_true rfl) (Det.fieldA (o' := 56) Try.underlying62 rfl rfl rfl sz_3 (by decide)) ?_
      refine LAny.late 18 rfl rfl (by kernel_rfl) (by kernel_rfl) (LStepW.storeN rfl rfl rfl sz_3 (by first | exact natL_length _ | exact ptL_length _ _ _ | rfl) (by first | exact natL_one _ | exact ptL_one _ _ _ | exact allOne_cons rfl allOne_nil) (by repeat (first | exact SetAt.head _ | apply SetAt.tail)) (by simp only [cvC_length]; decide) (cvC_set_bits _ _ _ _ _ _ _ _ _ _ _ _ _ _) (by simp) ?_)
      refine LAny.takeP 19 rfl (by kernel_rfl) (Nat.le_of_ble_eq_true rfl) (Det.nilCheck rfl) ?_
      refine LAny.takeP 20 rfl (by kernel_rfl) (Nat.le_of_ble_eq_true rfl) (Det.fieldA (o' := 0) Try.underlying147 rfl rfl rfl sz_62 (by decide)) ?_
      refine LAny.takeP 21 rfl (by kernel_rfl) (Nat.le_of_ble_eq_true rfl) (Det.fieldA (o' := 57) Try.underlying62 rfl rfl rfl sz_3 (by decide)) ?_
      refine LAny.late 22 rfl rfl (by kernel_rfl) (by kernel_rfl) (LStepW.storeN rfl rfl rfl sz_3 (by first | exact natL_length _ | exact ptL_length _ _ _ | rfl) (by first | exact natL_one _ | exact ptL_one _ _ _ | exact allOne_cons rfl allOne_nil) (by repeat (first | exact SetAt.head _ | apply SetAt.tail)) (by simp only [cvC_length]; decide) (cvC_set_size _ _ _ _ _ _ _ _ _ _ _ _ _ _) (by simp) ?_)
      refine LAny.done (by kernel_rfl) ?_
      refine LCode.seq ?_
      by_cases hi1 : ((V.id : Nat) : Int) = 1
      ·
        refine LCode.region ?_
        refine LOps.detP (Det.move rfl) (Nat.le_of_ble_eq_true rfl) ?_
        refine LOps.detP (Det.move rfl) (Nat.le_of_ble_eq_true rfl) ?_
        refine LOps.detP (Det.bin (v := .bool true) rfl rfl (br_t br_eqI hi1)) (Nat.le_of_ble_eq_true rfl) ?_
        refine LOps.detP (Det.move rfl) (Nat.le_of_ble_eq_true rfl) ?_
        refine LOps.skip rfl rfl rfl (Nat.le_of_ble_eq_true rfl) ?_
        refine LOps.skip rfl rfl rfl (Nat.le_of_ble_eq_true rfl) ?_
        refine LOps.detP (Det.pick_true rfl rfl) (Nat.le_of_ble_eq_true rfl) ?_
        refine LOps.detP (Det.nilCheck rfl) (Nat.le_of_ble_eq_true rfl) ?_
        refine LOps.detP (Det.fieldA (o' := 0) Try.underlying147 rfl rfl rfl sz_62 (by decide)) (Nat.le_of_ble_eq_true rfl) ?_
        refine LOps.detP (Det.fieldA (o' := 58) Try.underlying62 rfl rfl rfl sz_4 (by decide)) (Nat.le_of_ble_eq_true rfl) ?_
        refine LOps.step rfl (LStepW.storeN rfl rfl rfl sz_4 (by first | exact natL_length _ | exact ptL_length _ _ _ | rfl) (by first | exact natL_one _ | exact ptL_one _ _ _ | exact allOne_cons rfl allOne_nil) (by repeat (first | exact SetAt.head _ | apply SetAt.tail)) (by simp only [cvC_length]; decide) (cvC_set_leg _ _ _ _ _ _ _ _ _ _ _ _ _ _) (by simp) ?_)
        refine LOps.nil ?_
        refine LCode.seq ?_
        refine LCode.regionD [22] (by kernel_rfl) ?_
        refine LAny.takeP 0 rfl (by kernel_rfl) (Nat.le_of_ble_eq_true rfl) (Det.move rfl) ?_
        refine LAny.takeP 1 rfl (by kernel_rfl) (Nat.le_of_ble_eq_true rfl) (Det.move rfl) ?_
        refine LAny.takeP 2 rfl (by kernel_rfl) (Nat.le_of_ble_eq_true rfl) (Det.move rfl) ?_
        refine LAny.takeP 3 rfl (by kernel_rfl) (Nat.le_of_ble_eq_true rfl) (Det.move rfl) ?_
        refine LAny.takeP 4 rfl (by kernel_rfl) (Nat.le_of_ble_eq_true rfl) (Det.nilCheck rfl) ?_
        refine LAny.takeP 5 rfl (by kernel_rfl) (Nat.le_of_ble_eq_true rfl) (Det.fieldA (o' := 0) Try.underlying147 rfl rfl rfl sz_62 (by decide)) ?_
        refine LAny.takeP 6 rfl (by kernel_rfl) (Nat.le_of_ble_eq_true rfl) (Det.fieldA (o' := 19) Try.underlying62 rfl rfl rfl sz_25 (by decide)) ?_
        refine LAny.take 7 rfl (by kernel_rfl) (Nat.le_of_ble_eq_true rfl) (Det.load rfl (by repeat (first | exact List.Mem.head _ | apply List.Mem.tail)) (by exact cvC_ld_b _ _ _ _ _ _ _ _ _ _ _ _ _ _ _ _)) ?_
        refine LAny.takeP 8 rfl (by kernel_rfl) (Nat.le_of_ble_eq_true rfl) (Det.move rfl) ?_
        refine LAny.takeP 9 rfl (by kernel_rfl) (Nat.le_of_ble_eq_true rfl) (Det.nilCheck rfl) ?_
        refine LAny.takeP 10 rfl (by kernel_rfl) (Nat.le_of_ble_eq_true rfl) (Det.fieldA (o' := 0) Try.underlying147 rfl rfl rfl sz_62 (by decide)) ?_
        refine LAny.takeP 11 rfl (by kernel_rfl) (Nat.le_of_ble_eq_true rfl) (Det.fieldA (o' := 19) Try.underlying62 rfl rfl rfl sz_25 (by decide)) ?_
        refine LAny.take 12 rfl (by kernel_rfl) (Nat.le_of_ble_eq_true rfl) (Det.load rfl (by repeat (first | exact List.Mem.head _ | apply List.Mem.tail)) (by exact cvC_ld_b _ _ _ _ _ _ _ _ _ _ _ _ _ _ _ _)) ?_
        refine LAny.takeP 14 rfl (by kernel_rfl) (Nat.le_of_ble_eq_true rfl) (Det.move rfl) ?_
        refine LAny.takeP 15 rfl (by kernel_rfl) (Nat.le_of_ble_eq_true rfl) (Det.nilCheck rfl) ?_
        refine LAny.takeP 16 rfl (by kernel_rfl) (Nat.le_of_ble_eq_true rfl) (Det.fieldA (o' := 0) Try.underlying147 rfl rfl rfl sz_62 (by decide)) ?_
        refine LAny.takeP 17 rfl (by kernel_rfl) (Nat.le_of_ble_eq_true rfl) (Det.fieldA (o' := 19) Try.underlying62 rfl rfl rfl sz_25 (by decide)) ?_
        refine LAny.take 18 rfl (by kernel_rfl) (Nat.le_of_ble_eq_true rfl) (Det.load rfl (by repeat (first | exact List.Mem.head _ | apply List.Mem.tail)) (by exact cvC_ld_b _ _ _ _ _ _ _ _ _ _ _ _ _ _ _ _)) ?_
        refine LAny.one 13 rfl rfl (by kernel_rfl) (LStep.callF (first := []) rfl en_152 rfl (Nat.le_of_ble_eq_true rfl) (fun w hw => c_f_Add V f bd V.b V.b w (hw _ (by repeat (first | exact List.Mem.head _ | apply List.Mem.tail))) hbb.2.1 (by omega) (by omega)) ?_)
        refine LAny.one 19 rfl rfl (by kernel_rfl) (LStep.callF (first := []) rfl en_152 rfl (Nat.le_of_ble_eq_true rfl) (fun w hw => c_f_Add V f bd ((V.b + V.b) % V.p) V.b w (hw _ (by repeat (first | exact List.Mem.head _ | apply List.Mem.tail))) hbb.2.1 (Nat.mod_lt _ (by omega)) (by omega)) ?_)
        refine LAny.takeP 20 rfl (by kernel_rfl) (Nat.le_of_ble_eq_true rfl) (Det.nilCheck rfl) ?_
        refine LAny.takeP 21 rfl (by kernel_rfl) (Nat.le_of_ble_eq_true rfl) (Det.fieldA (o' := 60) Try.underlying147 rfl rfl rfl sz_25 (by decide)) ?_
        refine LAny.late 22 rfl rfl (by kernel_rfl) (by kernel_rfl) (LStepW.storeN rfl rfl rfl sz_25 (by first | exact natL_length _ | exact ptL_length _ _ _ | rfl) (by first | exact natL_one _ | exact ptL_one _ _ _ | exact allOne_cons rfl allOne_nil) (by repeat (first | exact SetAt.head _ | apply SetAt.tail)) (by simp only [cvC_length]; decide) (cvC_set_t3 _ _ _ _ _ _ _ _ _ _ _ _ _ _) (by simp) ?_)
        refine LAny.done (by kernel_rfl) ?_
        refine LCode.seq ?_
        refine LCode.region ?_
        refine LOps.detP (Det.move rfl) (Nat.le_of_ble_eq_true rfl) ?_
        refine LOps.detP (Det.assign rfl) (Nat.le_of_ble_eq_true rfl) ?_
        refine LOps.nil ?_
        refine LCode.ret ?_
        refine ⟨[_], .cons rfl .nil, fun a w' hr => ⟨b14, f, bd, rfl, ?_, hr.hp _ (by repeat (first | exact List.Mem.head _ | apply List.Mem.tail)), hr.hp _ (by repeat (first | exact List.Mem.head _ | apply List.Mem.tail)), hr.new (B := ⟨true, _, _, _⟩) (by repeat (first | exact List.Mem.head _ | apply List.Mem.tail)) rfl, hnf, hnbd, hr.fr.below⟩⟩
        have hcv := hr.hp _ (show Item.blk b14 ⟨true, cvC V.id V.p V.a V.b V.n V.x V.y false (blen V.n) (nby V.p) true (.pointer (some ⟨f, 0, none⟩)) (thr V), 147, (0, 0)⟩ ∈ _ from (by repeat (first | exact List.Mem.head _ | apply List.Mem.tail)))
        have hl : legB V = true := by unfold legB; exact decide_eq_true (by omega)
        unfold opL
        rw [hl]
        exact hcv
      ·
        refine LCode.region ?_
        refine LOps.detP (Det.move rfl) (Nat.le_of_ble_eq_true rfl) ?_
        refine LOps.detP (Det.move rfl) (Nat.le_of_ble_eq_true rfl) ?_
        refine LOps.detP (Det.bin (v := .bool false) rfl rfl (br_f br_eqI hi1)) (Nat.le_of_ble_eq_true rfl) ?_
        refine LOps.detP (Det.move rfl) (Nat.le_of_ble_eq_true rfl) ?_
        refine LOps.detGP rfl rfl (Det.move rfl) (Nat.le_of_ble_eq_true rfl) ?_
        refine LOps.detGP rfl rfl (Det.bin (v := .bool (decide (((V.id : Nat) : Int) = 7))) rfl rfl br_eqI) (Nat.le_of_ble_eq_true rfl) ?_
        refine LOps.detP (Det.pick_false rfl rfl) (Nat.le_of_ble_eq_true rfl) ?_
        refine LOps.detP (Det.nilCheck rfl) (Nat.le_of_ble_eq_true rfl) ?_
        refine LOps.detP (Det.fieldA (o' := 0) Try.underlying147 rfl rfl rfl sz_62 (by decide)) (Nat.le_of_ble_eq_true rfl) ?_
        refine LOps.detP (Det.fieldA (o' := 58) Try.underlying62 rfl rfl rfl sz_4 (by decide)) (Nat.le_of_ble_eq_true rfl) ?_
        refine LOps.step rfl (LStepW.storeN rfl rfl rfl sz_4 (by first | exact natL_length _ | exact ptL_length _ _ _ | rfl) (by first | exact natL_one _ | exact ptL_one _ _ _ | exact allOne_cons rfl allOne_nil) (by repeat (first | exact SetAt.head _ | apply SetAt.tail)) (by simp only [cvC_length]; decide) (cvC_set_leg _ _ _ _ _ _ _ _ _ _ _ _ _ _) (by simp) ?_)
        refine LOps.nil ?_
        refine LCode.seq ?_
        refine LCode.regionD [22] (by kernel_rfl) ?_
        refine LAny.takeP 0 rfl (by kernel_rfl) (Nat.le_of_ble_eq_true rfl) (Det.move rfl) ?_
        refine LAny.takeP 1 rfl (by kernel_rfl) (Nat.le_of_ble_eq_true rfl) (Det.move rfl) ?_
        refine LAny.takeP 2 rfl (by kernel_rfl) (Nat.le_of_ble_eq_true rfl) (Det.move rfl) ?_
        refine LAny.takeP 3 rfl (by kernel_rfl) (Nat.le_of_ble_eq_true rfl) (Det.move rfl) ?_
        refine LAny.takeP 4 rfl (by kernel_rfl) (Nat.le_of_ble_eq_true rfl) (Det.nilCheck rfl) ?_
        refine LAny.takeP 5 rfl (by kernel_rfl) (Nat.le_of_ble_eq_true rfl) (Det.fieldA (o' := 0) Try.underlying147 rfl rfl rfl sz_62 (by decide)) ?_
        refine LAny.takeP 6 rfl (by kernel_rfl) (Nat.le_of_ble_eq_true rfl) (Det.fieldA (o' := 19) Try.underlying62 rfl rfl rfl sz_25 (by decide)) ?_
        refine LAny.take 7 rfl (by kernel_rfl) (Nat.le_of_ble_eq_true rfl) (Det.load rfl (by repeat (first | exact List.Mem.head _ | apply List.Mem.tail)) (by exact cvC_ld_b _ _ _ _ _ _ _ _ _ _ _ _ _ _ _ _)) ?_
        refine LAny.takeP 8 rfl (by kernel_rfl) (Nat.le_of_ble_eq_true rfl) (Det.move rfl) ?_
        refine LAny.takeP 9 rfl (by kernel_rfl) (Nat.le_of_ble_eq_true rfl) (Det.nilCheck rfl) ?_
        refine LAny.takeP 10 rfl (by kernel_rfl) (Nat.le_of_ble_eq_true rfl) (Det.fieldA (o' := 0) Try.underlying147 rfl rfl rfl sz_62 (by decide)) ?_
        refine LAny.takeP 11 rfl (by kernel_rfl) (Nat.le_of_ble_eq_true rfl) (Det.fieldA (o' := 19) Try.underlying62 rfl rfl rfl sz_25 (by decide)) ?_
        refine LAny.take 12 rfl (by kernel_rfl) (Nat.le_of_ble_eq_true rfl) (Det.load rfl (by repeat (first | exact List.Mem.head _ | apply List.Mem.tail)) (by exact cvC_ld_b _ _ _ _ _ _ _ _ _ _ _ _ _ _ _ _)) ?_
        refine LAny.takeP 14 rfl (by kernel_rfl) (Nat.le_of_ble_eq_true rfl) (Det.move rfl) ?_
        refine LAny.takeP 15 rfl (by kernel_rfl) (Nat.le_of_ble_eq_true rfl) (Det.nilCheck rfl) ?_
        refine LAny.takeP 16 rfl (by kernel_rfl) (Nat.le_of_ble_eq_true rfl) (Det.fieldA (o' := 0) Try.underlying147 rfl rfl rfl sz_62 (by decide)) ?_
        refine LAny.takeP 17 rfl (by kernel_rfl) (Nat.le_of_ble_eq_true rfl) (Det.fieldA (o' := 19) Try.underlying62 rfl rfl rfl sz_25 (by decide)) ?_
        refine LAny.take 18 rfl (by kernel_rfl) (Nat.le_of_ble_eq_true rfl) (Det.load rfl (by repeat (first | exact List.Mem.head _ | apply List.Mem.tail)) (by exact cvC_ld_b _ _ _ _ _ _ _ _ _ _ _ _ _ _ _ _)) ?_
        refine LAny.one 13 rfl rfl (by kernel_rfl) (LStep.callF (first := []) rfl en_152 rfl (Nat.le_of_ble_eq_true rfl) (fun w hw => c_f_Add V f bd V.b V.b w (hw _ (by repeat (first | exact List.Mem.head _ | apply List.Mem.tail))) hbb.2.1 (by omega) (by omega)) ?_)
        refine LAny.one 19 rfl rfl (by kernel_rfl) (LStep.callF (first := []) rfl en_152 rfl (Nat.le_of_ble_eq_true rfl) (fun w hw => c_f_Add V f bd ((V.b + V.b) % V.p) V.b w (hw _ (by repeat (first | exact List.Mem.head _ | apply List.Mem.tail))) hbb.2.1 (Nat.mod_lt _ (by omega)) (by omega)) ?_)
        refine LAny.takeP 20 rfl (by kernel_rfl) (Nat.le_of_ble_eq_true rfl) (Det.nilCheck rfl) ?_
        refine LAny.takeP 21 rfl (by kernel_rfl) (Nat.le_of_ble_eq_true rfl) (Det.fieldA (o' := 60) Try.underlying147 rfl rfl rfl sz_25 (by decide)) ?_
        refine LAny.late 22 rfl rfl (by kernel_rfl) (by kernel_rfl) (LStepW.storeN rfl rfl rfl sz_25 (by first | exact natL_length _ | exact ptL_length _ _ _ | rfl) (by first | exact natL_one _ | exact ptL_one _ _ _ | exact allOne_cons rfl allOne_nil) (by repeat (first | exact SetAt.head _ | apply SetAt.tail)) (by simp only [cvC_length]; decide) (cvC_set_t3 _ _ _ _ _ _ _ _ _ _ _ _ _ _) (by simp) ?_)
        refine LAny.done (by kernel_rfl) ?_
        refine LCode.seq ?_
        refine LCode.region ?_
        refine LOps.detP (Det.move rfl) (Nat.le_of_ble_eq_true rfl) ?_
        refine LOps.detP (Det.assign rfl) (Nat.le_of_ble_eq_true rfl) ?_
        refine LOps.nil ?_
        refine LCode.ret ?_
        refine ⟨[_], .cons rfl .nil, fun a w' hr => ⟨b14, f, bd, rfl, ?_, hr.hp _ (by repeat (first | exact List.Mem.head _ | apply List.Mem.tail)), hr.hp _ (by repeat (first | exact List.Mem.head _ | apply List.Mem.tail)), hr.new (B := ⟨true, _, _, _⟩) (by repeat (first | exact List.Mem.head _ | apply List.Mem.tail)) rfl, hnf, hnbd, hr.fr.below⟩⟩
        have hcv := hr.hp _ (show Item.blk b14 ⟨true, cvC V.id V.p V.a V.b V.n V.x V.y false (blen V.n) (nby V.p) (decide (((V.id : Nat) : Int) = 7)) (.pointer (some ⟨f, 0, none⟩)) (thr V), 147, (0, 0)⟩ ∈ _ from (by repeat (first | exact List.Mem.head _ | apply List.Mem.tail)))
        have hl : legB V = (decide (((V.id : Nat) : Int) = 7)) := by unfold legB; by_cases h7 : V.id = 7 <;> simp [h7]; omega
        unfold opL
        rw [hl]
        exact hcv

end Go.Proofs.Ytljblbgogjieaaa
