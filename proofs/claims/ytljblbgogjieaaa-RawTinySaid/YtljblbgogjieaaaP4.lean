/- Part 4 of what the proof leans on: a symbolic execution of the model, walks of the program's functions, and the mathematics. No condition. -/
import Derived.WalkKit
import Derived.Orders
import Derived.Laws.StructEq
import Derived.WalkSpells
import Derived.OrdersHeld
import Derived.KernelRfl
import Derived.Laws.Externs
import Derived.Laws.Bits64
import Derived.Laws.MakeOwn
import Derived.Laws.BytesString
import Derived.Carry
import Derived.WideShapes
import GoSem.Claim
import Derived.Test.YtljblbgogjieaaaProg
import Derived.Laws.AppendOwn
import Derived.Test.YtljblbgogjieaaaRows
import Derived.ProofKit
import Derived.OpenShut
import Derived.Test.YtljblbgogjieaaaP3
set_option linter.unusedVariables false
set_option linter.unusedSimpArgs false
set_option maxRecDepth 20000
namespace Go.Proofs.Ytljblbgogjieaaa
open Go Go.RowKit
theorem blen_w9 {A : Nat} (h : A < W9) : blen A ≤ 576 := by
  obtain ⟨k, hk⟩ : ∃ k : Nat, k = 9 := ⟨9, rfl⟩
  have := blen_le (lt_w9_pow h k hk)
  omega
def legB (V : Cv) : Bool := decide (V.id = 1 ∨ V.id = 7)
def thr (V : Cv) : Nat := ((V.b + V.b) % V.p + V.b) % V.p
def opL (V : Cv) (f : Nat) : List Value := cvC V.id V.p V.a V.b V.n V.x V.y false (blen V.n) (nby V.p) (legB V) (.pointer (some ⟨f, 0, none⟩)) (thr V)
theorem fill_pt (X Y : Nat) : fillL [(0, 9), (9, 9), (18, 1)] (vec .u64 9 (fun _ => 0) ++ (vec .u64 9 (fun _ => 0) ++ [Value.bool false])) [(0, natV X), (1, natV Y)] = some (ptL X Y false) := by
  refine fillL_step (A := []) (B := vec .u64 9 (fun _ => 0)) (D := vec .u64 9 (fun _ => 0) ++ [Value.bool false]) (cs := natL X) rfl rfl (natL_length _) rfl rfl (vec_length _ _ _) ?_
  refine (fillL_step (A := natL X) (B := vec .u64 9 (fun _ => 0)) (D := [Value.bool false]) (cs := natL Y) rfl rfl (natL_length _) (by simp) (natL_length _) (vec_length _ _ _) rfl).trans ?_
  simp [ptL]
theorem c_Open_none (id : Int) (w : World) (h : cvI id = none) : Calls Try.prog 112 ([.int .i64 id] : List Value).toArray w (fun e w' => e = .returned (.pointer none) ∧ Below w.heap.size w w') := by
  refine calls_ro (N := 130) (rs := [.tmp 2]) [] Try.func112 rfl Try.ntmps112 Try.results112 (Nb rfl) trivial rfl ?_
  show LCode _ _ _ ⟨_, _⟩ _
  refine LCode.seq ?_
  refine LCode.region ?_
  refine LOps.detP (Det.assign rfl) (Nb rfl) ?_
  refine LOps.nil ?_
  refine LCode.seq ?_
  refine LCode.region ?_
  refine LOps.detP (Det.move rfl) (Nb rfl) ?_
  refine LOps.step rfl (LStep.w (LStep.callF (first := []) rfl en_146 rfl (Nb rfl) (fun w hw => c_f_Of_none id w h) ?_))
  refine LOps.detP (Det.assign rfl) (Nb rfl) ?_
  refine LOps.nil ?_
  refine LCode.seq ?_
  refine LCode.seq ?_
  refine LCode.region ?_
  refine LOps.detP (Det.move rfl) (Nb rfl) ?_
  refine LOps.detP (Slots.cast (Det.eqp Try.underlying145 rfl rfl) (show _ = Value.bool true from rfl)) (Nb rfl) ?_
  refine LOps.nil ?_
  refine LCode.cond_true rfl ?_
  refine LCode.seq ?_
  refine LCode.region ?_
  refine LOps.detP (Det.assign rfl) (Nb rfl) ?_
  refine LOps.nil ?_
  refine LCode.ret ?_
  refine ⟨[_], .cons rfl .nil, fun a w' hr => ⟨?_, hr.fr.below⟩⟩
  rfl
theorem c_Open (id : Int) (V : Cv) (w : World) (h : cvI id = some V) : Calls Try.prog 112 ([.int .i64 id] : List Value).toArray w (fun e w' => ∃ b f bd, e = .returned (.pointer (some ⟨b, 0, none⟩)) ∧ (Item.blk b ⟨false, opL V f, 147, (0, 0)⟩).holds w' ∧ (Item.blk f ⟨false, fldL V.p bd, 194, (0, 0)⟩).holds w' ∧ (Item.blk bd ⟨false, dvL V.p, 241, (0, 0)⟩).holds w' ∧ w.heap.size ≤ b ∧ w.heap.size ≤ f ∧ w.heap.size ≤ bd ∧ Below w.heap.size w w') := by
  obtain ⟨hok, rfl⟩ := cvI_ok h
  refine calls_ro (N := 130) (rs := [.tmp 2]) [] Try.func112 rfl Try.ntmps112 Try.results112 (Nb rfl) trivial rfl ?_
  show LCode _ _ _ ⟨_, _⟩ _
  refine LCode.seq ?_
  refine LCode.region ?_
  refine LOps.detP (Det.assign rfl) (Nb rfl) ?_
  refine LOps.nil ?_
  refine LCode.seq ?_
  refine LCode.region ?_
  refine LOps.detP (Det.move rfl) (Nb rfl) ?_
  refine LOps.step rfl (LStep.w (LStep.callZ (Post := fun v its => ∃ f bd, v = .pointer (some ⟨f, 0, none⟩) ∧ its = [.blk f ⟨false, fldL V.p bd, 194, (0, 0)⟩, .blk bd ⟨false, dvL V.p, 241, (0, 0)⟩] ∧ w.heap.size ≤ f ∧ w.heap.size ≤ bd) (first := []) rfl en_146 rfl (Nb rfl) (fun w1 hw hs => (c_f_Of _ V w1 h).mono fun e w' ⟨f, bd, h1, h2, h3, h4, h5, h6⟩ => ⟨_, _, ⟨f, bd, rfl, rfl, Nat.le_trans hs h4, Nat.le_trans hs h5⟩, h1, Brings.nums h6 (by intro x hx; simp at hx; rcases hx with rfl | rfl; exact h2; exact h3) (by intro x hx; simp at hx; rcases hx with rfl | rfl <;> rfl) (by intro x hx k hk; simp at hx; rcases hx with rfl | rfl <;> simp [Item.fp] at hk <;> subst hk; exact .inl h4; exact .inl h5)⟩) ?_))
  rintro _ _ ⟨f, bd, rfl, rfl, hnf, hnbd⟩
  refine LOps.detP (Det.assign rfl) (Nb rfl) ?_
  refine LOps.nil ?_
  refine LCode.seq ?_
  refine LCode.seq ?_
  refine LCode.region ?_
  refine LOps.detP (Det.move rfl) (Nb rfl) ?_
  refine LOps.detP (Slots.cast (Det.eqp Try.underlying145 rfl rfl) (show _ = Value.bool false from rfl)) (Nb rfl) ?_
  refine LOps.nil ?_
  refine LCode.cond_false rfl ?_
  refine LCode.skip ?_
  refine LCode.seq ?_
  have hbb := hok.bounds
  have hpW : V.p < W9 := w9_521 hbb.2.1
  have hnW : V.n < W9 := w9_521 hbb.2.2.2.2.2.2.1
  have hbln := blen_w9 hnW
  have hblp := blen_w9 hpW
  refine LCode.region ?_
  refine LOps.detP (Det.move rfl) (Nb rfl) ?_
  refine LOps.step rfl (LStep.w (LStep.callV (first := []) rfl en_147 rfl (Nb rfl) (fun w hw => c_rows_some _ V w h) ?_))
  rintro _ ⟨s0, s1, s2, s3, s4, rfl, hrow⟩
  obtain ⟨hA, hB, hN, hX, hY⟩ := rowsB_spec hrow
  clear hrow
  refine LOps.step rfl (LStep.w (LStep.makes (Makes.allocA zr_188) (Nb rfl) (fun b4 => ?_)))
  refine LOps.step rfl (LStepW.storeA rfl rfl sz_188 (by repeat (first | exact allOne_nil | refine allOne_cons rfl ?_)) (by repeat (first | exact Sh _ | apply St_)) (by rfl) ?_)
  refine LOps.nil ?_
  refine LCode.seq ?_
  refine LCode.region ?_
  refine LOps.detP (Det.move rfl) (Nb rfl) ?_
  refine LOps.detP (Slots.cast (Det.build pl_147 zr_147 rfl (fillF (.pointer (some ⟨f, 0, none⟩)) rfl)) rfl) (Nb rfl) ?_
  refine LOps.step rfl (LStep.w (LStep.makes (Makes.boxA rfl) (Nb rfl) (fun b14 => ?_)))
  refine LOps.detP (Det.assign rfl) (Nb rfl) ?_
  refine LOps.nil ?_
  refine LCode.cut (α := Unit) (fun _ => True) (fun _ => ⟨[(0, .int .i64 ((V.id : Nat) : Int)), (3, .pointer (some ⟨f, 0, none⟩)), (4, .pointer (some ⟨b4, 0, none⟩)), (5, .pointer (some ⟨b14, 0, none⟩))], [.blk b14 ⟨true, cvC V.id V.p 0 V.b V.n 0 0 false 0 0 false (.pointer (some ⟨f, 0, none⟩)) 0, 147, (0, 0)⟩, .blk b4 ⟨true, [.string s0, .string s1, .string s2, .string s3, .string s4], 188, (0, 0)⟩, .blk f ⟨false, fldL V.p bd, 194, (0, 0)⟩, .blk bd ⟨false, dvL V.p, 241, (0, 0)⟩]⟩) ?_ ?_
  ·
    refine LCode.regionD [18, 22, 26, 30] (by kernel_rfl) ?_
    refine LAny.takeP 0 rfl (by kernel_rfl) (Nb rfl) (Det.move rfl) ?_
    refine LAny.takeP 1 rfl (by kernel_rfl) (Nb rfl) (Det.move rfl) ?_
    refine LAny.takeP 2 rfl (by kernel_rfl) (Nb rfl) (Det.move rfl) ?_
    refine LAny.takeP 3 rfl (by kernel_rfl) (Nb rfl) (Det.move rfl) ?_
    refine LAny.takeP 4 rfl (by kernel_rfl) (Nb rfl) (Det.move rfl) ?_
    refine LAny.takeP 5 rfl (by kernel_rfl) (Nb rfl) (Det.move rfl) ?_
    refine LAny.takeP 6 rfl (by kernel_rfl) (Nb rfl) (Det.nilCheck rfl) ?_
    refine LAny.takeP 7 rfl (by kernel_rfl) (Nb rfl) (Det.fieldA (o' := 0) Try.underlying194 rfl rfl rfl sz_25 (by decide)) ?_
    refine LAny.take 8 rfl (by kernel_rfl) (Nb rfl) (Det.load rfl (by repeat (first | exact Mh _ | apply Mt)) (by exact LoadV.first Try.underlying25 rfl sz_25 rfl (natL_length _))) ?_
    refine LAny.takeP 9 rfl (by kernel_rfl) (Nb rfl) (Det.fieldA (o' := 1) Try.underlying188 rfl rfl rfl sz_9 (by decide)) ?_
    refine LAny.takeP 12 rfl (by kernel_rfl) (Nb rfl) (Det.fieldA (o' := 2) Try.underlying188 rfl rfl rfl sz_9 (by decide)) ?_
    refine LAny.twoX 10 13 rfl rfl rfl rfl (by kernel_rfl) (.inr (LStep.det (Det.load rfl (by repeat (first | exact Mh _ | apply Mt)) (LoadV.one Try.underlying9 rfl (by first | rfl | exact vec_get _ _ _ (by omega) | exact natL_get _ (by omega) | exact wideL_get _ (by omega) | exact dv_m _ _ _ (by omega)))) (Nb rfl) ?_)) (.inr (LStep.det (Det.load rfl (by repeat (first | exact Mh _ | apply Mt)) (LoadV.one Try.underlying9 rfl (by first | rfl | exact vec_get _ _ _ (by omega) | exact natL_get _ (by omega) | exact wideL_get _ (by omega) | exact dv_m _ _ _ (by omega)))) (Nb rfl) ?_))
    ·
      refine LAny.twoX 11 13 rfl rfl rfl rfl (by kernel_rfl) (.inr (LStep.callF (first := []) rfl en_148 rfl (Nb rfl) (fun w hw => fhex s1 V.b w hB) ?_)) (.inr (LStep.det (Det.load rfl (by repeat (first | exact Mh _ | apply Mt)) (LoadV.one Try.underlying9 rfl (by first | rfl | exact vec_get _ _ _ (by omega) | exact natL_get _ (by omega) | exact wideL_get _ (by omega) | exact dv_m _ _ _ (by omega)))) (Nb rfl) ?_))
      ·
        refine LAny.one 13 rfl rfl (by kernel_rfl) (LStep.det (Det.load rfl (by repeat (first | exact Mh _ | apply Mt)) (LoadV.one Try.underlying9 rfl (by first | rfl | exact vec_get _ _ _ (by omega) | exact natL_get _ (by omega) | exact wideL_get _ (by omega) | exact dv_m _ _ _ (by omega)))) (Nb rfl) ?_)
        refine LAny.one 14 rfl rfl (by kernel_rfl) (LStep.callF (first := []) rfl en_148 rfl (Nb rfl) (fun w hw => fhex s2 V.n w hN) ?_)
        refine LAny.takeP 15 rfl (by kernel_rfl) (Nb rfl) (Det.nilCheck rfl) ?_
        refine LAny.takeP 16 rfl (by kernel_rfl) (Nb rfl) (Det.fieldA (o' := 0) Try.underlying147 rfl rfl rfl sz_62 (by decide)) ?_
        refine LAny.takeP 17 rfl (by kernel_rfl) (Nb rfl) (Det.fieldA (o' := 0) Try.underlying62 rfl rfl rfl sz_3 (by decide)) ?_
        refine LAny.late 18 rfl rfl (by kernel_rfl) (by kernel_rfl) (LStepW.storeN rfl rfl rfl sz_3 (by first | exact natL_length _ | exact ptL_length _ _ _ | rfl) (by first | exact natL_one _ | exact ptL_one _ _ _ | exact allOne_cons rfl allOne_nil) (by repeat (first | exact Sh _ | apply St_)) (by simp only [cvC_length]; decide) (cvC_set_id _ _ _ _ _ _ _ _ _ _ _ _ _ _) (by simp) ?_)
        refine LAny.takeP 19 rfl (by kernel_rfl) (Nb rfl) (Det.nilCheck rfl) ?_
        refine LAny.takeP 20 rfl (by kernel_rfl) (Nb rfl) (Det.fieldA (o' := 0) Try.underlying147 rfl rfl rfl sz_62 (by decide)) ?_
        refine LAny.takeP 21 rfl (by kernel_rfl) (Nb rfl) (Det.fieldA (o' := 1) Try.underlying62 rfl rfl rfl sz_25 (by decide)) ?_
        refine LAny.late 22 rfl rfl (by kernel_rfl) (by kernel_rfl) (LStepW.storeN rfl rfl rfl sz_25 (by first | exact natL_length _ | exact ptL_length _ _ _ | rfl) (by first | exact natL_one _ | exact ptL_one _ _ _ | exact allOne_cons rfl allOne_nil) (by repeat (first | exact Sh _ | apply St_)) (by simp only [cvC_length]; decide) (cvC_set_p _ _ _ _ _ _ _ _ _ _ _ _ _ _) (by simp) ?_)
        refine LAny.takeP 23 rfl (by kernel_rfl) (Nb rfl) (Det.nilCheck rfl) ?_
        refine LAny.takeP 24 rfl (by kernel_rfl) (Nb rfl) (Det.fieldA (o' := 0) Try.underlying147 rfl rfl rfl sz_62 (by decide)) ?_
        refine LAny.takeP 25 rfl (by kernel_rfl) (Nb rfl) (Det.fieldA (o' := 19) Try.underlying62 rfl rfl rfl sz_25 (by decide)) ?_
        refine LAny.late 26 rfl rfl (by kernel_rfl) (by kernel_rfl) (LStepW.storeN rfl rfl rfl sz_25 (by first | exact natL_length _ | exact ptL_length _ _ _ | rfl) (by first | exact natL_one _ | exact ptL_one _ _ _ | exact allOne_cons rfl allOne_nil) (by repeat (first | exact Sh _ | apply St_)) (by simp only [cvC_length]; decide) (cvC_set_b _ _ _ _ _ _ _ _ _ _ _ _ _ _) (by simp) ?_)
        refine LAny.takeP 27 rfl (by kernel_rfl) (Nb rfl) (Det.nilCheck rfl) ?_
        refine LAny.takeP 28 rfl (by kernel_rfl) (Nb rfl) (Det.fieldA (o' := 0) Try.underlying147 rfl rfl rfl sz_62 (by decide)) ?_
        refine LAny.takeP 29 rfl (by kernel_rfl) (Nb rfl) (Det.fieldA (o' := 28) Try.underlying62 rfl rfl rfl sz_25 (by decide)) ?_
        refine LAny.late 30 rfl rfl (by kernel_rfl) (by kernel_rfl) (LStepW.storeN rfl rfl rfl sz_25 (by first | exact natL_length _ | exact ptL_length _ _ _ | rfl) (by first | exact natL_one _ | exact ptL_one _ _ _ | exact allOne_cons rfl allOne_nil) (by repeat (first | exact Sh _ | apply St_)) (by simp only [cvC_length]; decide) (cvC_set_n _ _ _ _ _ _ _ _ _ _ _ _ _ _) (by simp) ?_)
        refine LAny.done (by kernel_rfl) ?_
        exact ⟨(), trivial, Sub.mk ⟨rfl, rfl, rfl, rfl, trivial⟩ (by repeat (first | exact Sel.nil _ | refine Sel.cons (by repeat (first | exact Ph _ | apply Pt_)) ?_))⟩
      ·
        refine LAny.one 11 rfl rfl (by kernel_rfl) (LStep.callF (first := []) rfl en_148 rfl (Nb rfl) (fun w hw => fhex s1 V.b w hB) ?_)
        refine LAny.one 14 rfl rfl (by kernel_rfl) (LStep.callF (first := []) rfl en_148 rfl (Nb rfl) (fun w hw => fhex s2 V.n w hN) ?_)
        refine LAny.takeP 15 rfl (by kernel_rfl) (Nb rfl) (Det.nilCheck rfl) ?_
        refine LAny.takeP 16 rfl (by kernel_rfl) (Nb rfl) (Det.fieldA (o' := 0) Try.underlying147 rfl rfl rfl sz_62 (by decide)) ?_
        refine LAny.takeP 17 rfl (by kernel_rfl) (Nb rfl) (Det.fieldA (o' := 0) Try.underlying62 rfl rfl rfl sz_3 (by decide)) ?_
        refine LAny.late 18 rfl rfl (by kernel_rfl) (by kernel_rfl) (LStepW.storeN rfl rfl rfl sz_3 (by first | exact natL_length _ | exact ptL_length _ _ _ | rfl) (by first | exact natL_one _ | exact ptL_one _ _ _ | exact allOne_cons rfl allOne_nil) (by repeat (first | exact Sh _ | apply St_)) (by simp only [cvC_length]; decide) (cvC_set_id _ _ _ _ _ _ _ _ _ _ _ _ _ _) (by simp) ?_)
        refine LAny.takeP 19 rfl (by kernel_rfl) (Nb rfl) (Det.nilCheck rfl) ?_
        refine LAny.takeP 20 rfl (by kernel_rfl) (Nb rfl) (Det.fieldA (o' := 0) Try.underlying147 rfl rfl rfl sz_62 (by decide)) ?_
        refine LAny.takeP 21 rfl (by kernel_rfl) (Nb rfl) (Det.fieldA (o' := 1) Try.underlying62 rfl rfl rfl sz_25 (by decide)) ?_
        refine LAny.late 22 rfl rfl (by kernel_rfl) (by kernel_rfl) (LStepW.storeN rfl rfl rfl sz_25 (by first | exact natL_length _ | exact ptL_length _ _ _ | rfl) (by first | exact natL_one _ | exact ptL_one _ _ _ | exact allOne_cons rfl allOne_nil) (by repeat (first | exact Sh _ | apply St_)) (by simp only [cvC_length]; decide) (cvC_set_p _ _ _ _ _ _ _ _ _ _ _ _ _ _) (by simp) ?_)
        refine LAny.takeP 23 rfl (by kernel_rfl) (Nb rfl) (Det.nilCheck rfl) ?_
        refine LAny.takeP 24 rfl (by kernel_rfl) (Nb rfl) (Det.fieldA (o' := 0) Try.underlying147 rfl rfl rfl sz_62 (by decide)) ?_
        refine LAny.takeP 25 rfl (by kernel_rfl) (Nb rfl) (Det.fieldA (o' := 19) Try.underlying62 rfl rfl rfl sz_25 (by decide)) ?_
        refine LAny.late 26 rfl rfl (by kernel_rfl) (by kernel_rfl) (LStepW.storeN rfl rfl rfl sz_25 (by first | exact natL_length _ | exact ptL_length _ _ _ | rfl) (by first | exact natL_one _ | exact ptL_one _ _ _ | exact allOne_cons rfl allOne_nil) (by repeat (first | exact Sh _ | apply St_)) (by simp only [cvC_length]; decide) (cvC_set_b _ _ _ _ _ _ _ _ _ _ _ _ _ _) (by simp) ?_)
        refine LAny.takeP 27 rfl (by kernel_rfl) (Nb rfl) (Det.nilCheck rfl) ?_
        refine LAny.takeP 28 rfl (by kernel_rfl) (Nb rfl) (Det.fieldA (o' := 0) Try.underlying147 rfl rfl rfl sz_62 (by decide)) ?_
        refine LAny.takeP 29 rfl (by kernel_rfl) (Nb rfl) (Det.fieldA (o' := 28) Try.underlying62 rfl rfl rfl sz_25 (by decide)) ?_
        refine LAny.late 30 rfl rfl (by kernel_rfl) (by kernel_rfl) (LStepW.storeN rfl rfl rfl sz_25 (by first | exact natL_length _ | exact ptL_length _ _ _ | rfl) (by first | exact natL_one _ | exact ptL_one _ _ _ | exact allOne_cons rfl allOne_nil) (by repeat (first | exact Sh _ | apply St_)) (by simp only [cvC_length]; decide) (cvC_set_n _ _ _ _ _ _ _ _ _ _ _ _ _ _) (by simp) ?_)
        refine LAny.done (by kernel_rfl) ?_
        exact ⟨(), trivial, Sub.mk ⟨rfl, rfl, rfl, rfl, trivial⟩ (by repeat (first | exact Sel.nil _ | refine Sel.cons (by repeat (first | exact Ph _ | apply Pt_)) ?_))⟩
    ·
      refine LAny.one 10 rfl rfl (by kernel_rfl) (LStep.det (Det.load rfl (by repeat (first | exact Mh _ | apply Mt)) (LoadV.one Try.underlying9 rfl (by first | rfl | exact vec_get _ _ _ (by omega) | exact natL_get _ (by omega) | exact wideL_get _ (by omega) | exact dv_m _ _ _ (by omega)))) (Nb rfl) ?_)
      refine LAny.one 11 rfl rfl (by kernel_rfl) (LStep.callF (first := []) rfl en_148 rfl (Nb rfl) (fun w hw => fhex s1 V.b w hB) ?_)
      refine LAny.one 14 rfl rfl (by kernel_rfl) (LStep.callF (first := []) rfl en_148 rfl (Nb rfl) (fun w hw => fhex s2 V.n w hN) ?_)
      refine LAny.takeP 15 rfl (by kernel_rfl) (Nb rfl) (Det.nilCheck rfl) ?_
      refine LAny.takeP 16 rfl (by kernel_rfl) (Nb rfl) (Det.fieldA (o' := 0) Try.underlying147 rfl rfl rfl sz_62 (by decide)) ?_
      refine LAny.takeP 17 rfl (by kernel_rfl) (Nb rfl) (Det.fieldA (o' := 0) Try.underlying62 rfl rfl rfl sz_3 (by decide)) ?_
      refine LAny.late 18 rfl rfl (by kernel_rfl) (by kernel_rfl) (LStepW.storeN rfl rfl rfl sz_3 (by first | exact natL_length _ | exact ptL_length _ _ _ | rfl) (by first | exact natL_one _ | exact ptL_one _ _ _ | exact allOne_cons rfl allOne_nil) (by repeat (first | exact Sh _ | apply St_)) (by simp only [cvC_length]; decide) (cvC_set_id _ _ _ _ _ _ _ _ _ _ _ _ _ _) (by simp) ?_)
      refine LAny.takeP 19 rfl (by kernel_rfl) (Nb rfl) (Det.nilCheck rfl) ?_
      refine LAny.takeP 20 rfl (by kernel_rfl) (Nb rfl) (Det.fieldA (o' := 0) Try.underlying147 rfl rfl rfl sz_62 (by decide)) ?_
      refine LAny.takeP 21 rfl (by kernel_rfl) (Nb rfl) (Det.fieldA (o' := 1) Try.underlying62 rfl rfl rfl sz_25 (by decide)) ?_
      refine LAny.late 22 rfl rfl (by kernel_rfl) (by kernel_rfl) (LStepW.storeN rfl rfl rfl sz_25 (by first | exact natL_length _ | exact ptL_length _ _ _ | rfl) (by first | exact natL_one _ | exact ptL_one _ _ _ | exact allOne_cons rfl allOne_nil) (by repeat (first | exact Sh _ | apply St_)) (by simp only [cvC_length]; decide) (cvC_set_p _ _ _ _ _ _ _ _ _ _ _ _ _ _) (by simp) ?_)
      refine LAny.takeP 23 rfl (by kernel_rfl) (Nb rfl) (Det.nilCheck rfl) ?_
      refine LAny.takeP 24 rfl (by kernel_rfl) (Nb rfl) (Det.fieldA (o' := 0) Try.underlying147 rfl rfl rfl sz_62 (by decide)) ?_
      refine LAny.takeP 25 rfl (by kernel_rfl) (Nb rfl) (Det.fieldA (o' := 19) Try.underlying62 rfl rfl rfl sz_25 (by decide)) ?_
      refine LAny.late 26 rfl rfl (by kernel_rfl) (by kernel_rfl) (LStepW.storeN rfl rfl rfl sz_25 (by first | exact natL_length _ | exact ptL_length _ _ _ | rfl) (by first | exact natL_one _ | exact ptL_one _ _ _ | exact allOne_cons rfl allOne_nil) (by repeat (first | exact Sh _ | apply St_)) (by simp only [cvC_length]; decide) (cvC_set_b _ _ _ _ _ _ _ _ _ _ _ _ _ _) (by simp) ?_)
      refine LAny.takeP 27 rfl (by kernel_rfl) (Nb rfl) (Det.nilCheck rfl) ?_
      refine LAny.takeP 28 rfl (by kernel_rfl) (Nb rfl) (Det.fieldA (o' := 0) Try.underlying147 rfl rfl rfl sz_62 (by decide)) ?_
      refine LAny.takeP 29 rfl (by kernel_rfl) (Nb rfl) (Det.fieldA (o' := 28) Try.underlying62 rfl rfl rfl sz_25 (by decide)) ?_
      refine LAny.late 30 rfl rfl (by kernel_rfl) (by kernel_rfl) (LStepW.storeN rfl rfl rfl sz_25 (by first | exact natL_length _ | exact ptL_length _ _ _ | rfl) (by first | exact natL_one _ | exact ptL_one _ _ _ | exact allOne_cons rfl allOne_nil) (by repeat (first | exact Sh _ | apply St_)) (by simp only [cvC_length]; decide) (cvC_set_n _ _ _ _ _ _ _ _ _ _ _ _ _ _) (by simp) ?_)
      refine LAny.done (by kernel_rfl) ?_
      exact ⟨(), trivial, Sub.mk ⟨rfl, rfl, rfl, rfl, trivial⟩ (by repeat (first | exact Sel.nil _ | refine Sel.cons (by repeat (first | exact Ph _ | apply Pt_)) ?_))⟩
  ·
    rintro _ _
    refine LCode.seq ?_
    refine LCode.seq ?_
    rcases hA with ⟨hA0, hVa⟩ | ⟨hA0, hA1⟩
    ·
      refine LCode.region ?_
      refine LOps.detP (Det.fieldA (o' := 0) Try.underlying188 rfl rfl rfl sz_9 (by decide)) (Nb rfl) ?_
      refine LOps.det (Det.load rfl (by repeat (first | exact Mh _ | apply Mt)) (LoadV.one Try.underlying9 rfl (by first | rfl | exact vec_get _ _ _ (by omega) | exact natL_get _ (by omega) | exact wideL_get _ (by omega) | exact dv_m _ _ _ (by omega)))) (Nb rfl) ?_
      refine LOps.detP (Slots.cast (Det.eqs rfl rfl) (congrArg Value.bool (eq_str_t hA0))) (Nb rfl) ?_
      refine LOps.nil ?_
      refine LCode.cond_true rfl ?_
      refine LCode.regionD [13] (by kernel_rfl) ?_
      refine LAny.takeP 0 rfl (by kernel_rfl) (Nb rfl) (Det.move rfl) ?_
      refine LAny.takeP 1 rfl (by kernel_rfl) (Nb rfl) (Det.move rfl) ?_
      refine LAny.takeP 2 rfl (by kernel_rfl) (Nb rfl) (Det.nilCheck rfl) ?_
      refine LAny.takeP 3 rfl (by kernel_rfl) (Nb rfl) (Det.fieldA (o' := 0) Try.underlying194 rfl rfl rfl sz_25 (by decide)) ?_
      refine LAny.take 4 rfl (by kernel_rfl) (Nb rfl) (Det.load rfl (by repeat (first | exact Mh _ | apply Mt)) (by exact LoadV.first Try.underlying25 rfl sz_25 rfl (natL_length _))) ?_
      refine LAny.one 5 rfl rfl (by kernel_rfl) (LStep.callF (first := []) rfl en_150 rfl (Nb rfl) (fun w hw => c_nat_Small 3 (by decide) w) ?_)
      refine LAny.one 6 rfl rfl (by kernel_rfl) (LStep.callF (first := []) rfl en_149 rfl (Nb rfl) (fun w hw => c_nat_SubS V.p 3 w (by omega) (by omega)) ?_)
      refine LAny.takeP 7 rfl (by kernel_rfl) (Nb rfl) (Det.move rfl) ?_
      refine LAny.takeP 8 rfl (by kernel_rfl) (Nb rfl) (Det.extract rfl rfl) ?_
      refine LAny.takeP 9 rfl (by kernel_rfl) (Nb rfl) (Det.extract rfl rfl) ?_
      refine LAny.takeP 10 rfl (by kernel_rfl) (Nb rfl) (Det.nilCheck rfl) ?_
      refine LAny.takeP 11 rfl (by kernel_rfl) (Nb rfl) (Det.fieldA (o' := 0) Try.underlying147 rfl rfl rfl sz_62 (by decide)) ?_
      refine LAny.takeP 12 rfl (by kernel_rfl) (Nb rfl) (Det.fieldA (o' := 10) Try.underlying62 rfl rfl rfl sz_25 (by decide)) ?_
      refine LAny.late 13 rfl rfl (by kernel_rfl) (by kernel_rfl) (LStepW.storeN rfl rfl rfl sz_25 (by first | exact natL_length _ | exact ptL_length _ _ _ | rfl) (by first | exact natL_one _ | exact ptL_one _ _ _ | exact allOne_cons rfl allOne_nil) (by repeat (first | exact Sh _ | apply St_)) (by simp only [cvC_length]; decide) (cvC_set_a _ _ _ _ _ _ _ _ _ _ _ _ _ _) (by simp) ?_)
      refine LAny.done (by kernel_rfl) ?_
      refine LCode.seq ?_
      refine LCode.regionD [11] (by kernel_rfl) ?_
      refine LAny.takeP 0 rfl (by kernel_rfl) (Nb rfl) (Det.move rfl) ?_
      refine LAny.takeP 1 rfl (by kernel_rfl) (Nb rfl) (Det.fieldA (o' := 3) Try.underlying188 rfl rfl rfl sz_9 (by decide)) ?_
      refine LAny.take 2 rfl (by kernel_rfl) (Nb rfl) (Det.load rfl (by repeat (first | exact Mh _ | apply Mt)) (LoadV.one Try.underlying9 rfl (by first | rfl | exact vec_get _ _ _ (by omega) | exact natL_get _ (by omega) | exact wideL_get _ (by omega) | exact dv_m _ _ _ (by omega)))) ?_
      refine LAny.takeP 4 rfl (by kernel_rfl) (Nb rfl) (Det.fieldA (o' := 4) Try.underlying188 rfl rfl rfl sz_9 (by decide)) ?_
      refine LAny.take 5 rfl (by kernel_rfl) (Nb rfl) (Det.load rfl (by repeat (first | exact Mh _ | apply Mt)) (LoadV.one Try.underlying9 rfl (by first | rfl | exact vec_get _ _ _ (by omega) | exact natL_get _ (by omega) | exact wideL_get _ (by omega) | exact dv_m _ _ _ (by omega)))) ?_
      refine LAny.one 3 rfl rfl (by kernel_rfl) (LStep.callF (first := []) rfl en_148 rfl (Nb rfl) (fun w hw => fhex s3 V.x w hX) ?_)
      refine LAny.one 6 rfl rfl (by kernel_rfl) (LStep.callF (first := []) rfl en_148 rfl (Nb rfl) (fun w hw => fhex s4 V.y w hY) ?_)
      refine LAny.takeP 7 rfl (by kernel_rfl) (Nb rfl) (Slots.cast (Det.build pl_60 zr_60 rfl (fill_pt _ _)) rfl) ?_
      refine LAny.takeP 8 rfl (by kernel_rfl) (Nb rfl) (Det.nilCheck rfl) ?_
      refine LAny.takeP 9 rfl (by kernel_rfl) (Nb rfl) (Det.fieldA (o' := 0) Try.underlying147 rfl rfl rfl sz_62 (by decide)) ?_
      refine LAny.takeP 10 rfl (by kernel_rfl) (Nb rfl) (Det.fieldA (o' := 37) Try.underlying62 rfl rfl rfl sz_60 (by decide)) ?_
      refine LAny.late 11 rfl rfl (by kernel_rfl) (by kernel_rfl) (LStepW.storeN rfl rfl rfl sz_60 (by first | exact natL_length _ | exact ptL_length _ _ _ | rfl) (by first | exact natL_one _ | exact ptL_one _ _ _ | exact allOne_cons rfl allOne_nil) (by repeat (first | exact Sh _ | apply St_)) (by simp only [cvC_length]; decide) (cvC_set_g _ _ _ _ _ _ _ _ _ _ _ _ _ _ _ _) (by simp) ?_)
      refine LAny.done (by kernel_rfl) ?_
      refine LCode.seq ?_
      refine LCode.regionD [18, 22] (by kernel_rfl) ?_
      refine LAny.takeP 0 rfl (by kernel_rfl) (Nb rfl) (Det.move rfl) ?_
      refine LAny.takeP 1 rfl (by kernel_rfl) (Nb rfl) (Det.move rfl) ?_
      refine LAny.takeP 2 rfl (by kernel_rfl) (Nb rfl) (Det.move rfl) ?_
      refine LAny.takeP 3 rfl (by kernel_rfl) (Nb rfl) (Det.nilCheck rfl) ?_
      refine LAny.takeP 4 rfl (by kernel_rfl) (Nb rfl) (Det.fieldA (o' := 0) Try.underlying147 rfl rfl rfl sz_62 (by decide)) ?_
      refine LAny.takeP 5 rfl (by kernel_rfl) (Nb rfl) (Det.fieldA (o' := 28) Try.underlying62 rfl rfl rfl sz_25 (by decide)) ?_
      refine LAny.take 6 rfl (by kernel_rfl) (Nb rfl) (Det.load rfl (by repeat (first | exact Mh _ | apply Mt)) (by exact cvC_ld_n _ _ _ _ _ _ _ _ _ _ _ _ _ _ _ _)) ?_
      refine LAny.takeP 8 rfl (by kernel_rfl) (Nb rfl) (Det.move rfl) ?_
      refine LAny.takeP 9 rfl (by kernel_rfl) (Nb rfl) (Det.nilCheck rfl) ?_
      refine LAny.takeP 10 rfl (by kernel_rfl) (Nb rfl) (Det.fieldA (o' := 0) Try.underlying194 rfl rfl rfl sz_25 (by decide)) ?_
      refine LAny.take 11 rfl (by kernel_rfl) (Nb rfl) (Det.load rfl (by repeat (first | exact Mh _ | apply Mt)) (by exact LoadV.first Try.underlying25 rfl sz_25 rfl (natL_length _))) ?_
      refine LAny.one 7 rfl rfl (by kernel_rfl) (LStep.callF (first := []) rfl en_151 rfl (Nb rfl) (fun w hw => c_nat_Bits V.n hnW w) ?_)
      refine LAny.one 12 rfl rfl (by kernel_rfl) (LStep.callF (first := []) rfl en_151 rfl (Nb rfl) (fun w hw => c_nat_Bits V.p hpW w) ?_)
      refine LAny.takeP 13 rfl (by kernel_rfl) (Nb rfl) (Det.bin rfl rfl (br_add (b := 7) (by omega))) ?_
      refine LAny.takeP 14 rfl (by kernel_rfl) (Nb rfl) (Det.bin rfl rfl (br_quo (b := 8) (by omega) (by omega))) ?_
      refine LAny.takeP 15 rfl (by kernel_rfl) (Nb rfl) (Det.nilCheck rfl) ?_
      refine LAny.takeP 16 rfl (by kernel_rfl) (Nb rfl) (Det.fieldA (o' := 0) Try.underlying147 rfl rfl rfl sz_62 (by decide)) ?_
      refine LAny.takeP 17 rfl (by kernel_rfl) (Nb rfl) (Det.fieldA (o' := 56) Try.underlying62 rfl rfl rfl sz_3 (by decide)) ?_
      refine LAny.late 18 rfl rfl (by kernel_rfl) (by kernel_rfl) (LStepW.storeN rfl rfl rfl sz_3 (by first | exact natL_length _ | exact ptL_length _ _ _ | rfl) (by first | exact natL_one _ | exact ptL_one _ _ _ | exact allOne_cons rfl allOne_nil) (by repeat (first | exact Sh _ | apply St_)) (by simp only [cvC_length]; decide) (cvC_set_bits _ _ _ _ _ _ _ _ _ _ _ _ _ _) (by simp) ?_)
      refine LAny.takeP 19 rfl (by kernel_rfl) (Nb rfl) (Det.nilCheck rfl) ?_
      refine LAny.takeP 20 rfl (by kernel_rfl) (Nb rfl) (Det.fieldA (o' := 0) Try.underlying147 rfl rfl rfl sz_62 (by decide)) ?_
      refine LAny.takeP 21 rfl (by kernel_rfl) (Nb rfl) (Det.fieldA (o' := 57) Try.underlying62 rfl rfl rfl sz_3 (by decide)) ?_
      refine LAny.late 22 rfl rfl (by kernel_rfl) (by kernel_rfl) (LStepW.storeN rfl rfl rfl sz_3 (by first | exact natL_length _ | exact ptL_length _ _ _ | rfl) (by first | exact natL_one _ | exact ptL_one _ _ _ | exact allOne_cons rfl allOne_nil) (by repeat (first | exact Sh _ | apply St_)) (by simp only [cvC_length]; decide) (cvC_set_size _ _ _ _ _ _ _ _ _ _ _ _ _ _) (by simp) ?_)
      refine LAny.done (by kernel_rfl) ?_
      refine LCode.seq ?_
      by_cases hi1 : ((V.id : Nat) : Int) = 1
      ·
        refine LCode.region ?_
        refine LOps.detP (Det.move rfl) (Nb rfl) ?_
        refine LOps.detP (Det.move rfl) (Nb rfl) ?_
        refine LOps.detP (Det.bin (v := .bool true) rfl rfl (br_t br_eqI hi1)) (Nb rfl) ?_
        refine LOps.detP (Det.move rfl) (Nb rfl) ?_
        refine LOps.skip rfl rfl rfl (Nb rfl) ?_
        refine LOps.skip rfl rfl rfl (Nb rfl) ?_
        refine LOps.detP (Det.pick_true rfl rfl) (Nb rfl) ?_
        refine LOps.detP (Det.nilCheck rfl) (Nb rfl) ?_
        refine LOps.detP (Det.fieldA (o' := 0) Try.underlying147 rfl rfl rfl sz_62 (by decide)) (Nb rfl) ?_
        refine LOps.detP (Det.fieldA (o' := 58) Try.underlying62 rfl rfl rfl sz_4 (by decide)) (Nb rfl) ?_
        refine LOps.step rfl (LStepW.storeN rfl rfl rfl sz_4 (by first | exact natL_length _ | exact ptL_length _ _ _ | rfl) (by first | exact natL_one _ | exact ptL_one _ _ _ | exact allOne_cons rfl allOne_nil) (by repeat (first | exact Sh _ | apply St_)) (by simp only [cvC_length]; decide) (cvC_set_leg _ _ _ _ _ _ _ _ _ _ _ _ _ _) (by simp) ?_)
        refine LOps.nil ?_
        refine LCode.seq ?_
        refine LCode.regionD [22] (by kernel_rfl) ?_
        refine LAny.takeP 0 rfl (by kernel_rfl) (Nb rfl) (Det.move rfl) ?_
        refine LAny.takeP 1 rfl (by kernel_rfl) (Nb rfl) (Det.move rfl) ?_
        refine LAny.takeP 2 rfl (by kernel_rfl) (Nb rfl) (Det.move rfl) ?_
        refine LAny.takeP 3 rfl (by kernel_rfl) (Nb rfl) (Det.move rfl) ?_
        refine LAny.takeP 4 rfl (by kernel_rfl) (Nb rfl) (Det.nilCheck rfl) ?_
        refine LAny.takeP 5 rfl (by kernel_rfl) (Nb rfl) (Det.fieldA (o' := 0) Try.underlying147 rfl rfl rfl sz_62 (by decide)) ?_
        refine LAny.takeP 6 rfl (by kernel_rfl) (Nb rfl) (Det.fieldA (o' := 19) Try.underlying62 rfl rfl rfl sz_25 (by decide)) ?_
        refine LAny.take 7 rfl (by kernel_rfl) (Nb rfl) (Det.load rfl (by repeat (first | exact Mh _ | apply Mt)) (by exact cvC_ld_b _ _ _ _ _ _ _ _ _ _ _ _ _ _ _ _)) ?_
        refine LAny.takeP 8 rfl (by kernel_rfl) (Nb rfl) (Det.move rfl) ?_
        refine LAny.takeP 9 rfl (by kernel_rfl) (Nb rfl) (Det.nilCheck rfl) ?_
        refine LAny.takeP 10 rfl (by kernel_rfl) (Nb rfl) (Det.fieldA (o' := 0) Try.underlying147 rfl rfl rfl sz_62 (by decide)) ?_
        refine LAny.takeP 11 rfl (by kernel_rfl) (Nb rfl) (Det.fieldA (o' := 19) Try.underlying62 rfl rfl rfl sz_25 (by decide)) ?_
        refine LAny.take 12 rfl (by kernel_rfl) (Nb rfl) (Det.load rfl (by repeat (first | exact Mh _ | apply Mt)) (by exact cvC_ld_b _ _ _ _ _ _ _ _ _ _ _ _ _ _ _ _)) ?_
        refine LAny.takeP 14 rfl (by kernel_rfl) (Nb rfl) (Det.move rfl) ?_
        refine LAny.takeP 15 rfl (by kernel_rfl) (Nb rfl) (Det.nilCheck rfl) ?_
        refine LAny.takeP 16 rfl (by kernel_rfl) (Nb rfl) (Det.fieldA (o' := 0) Try.underlying147 rfl rfl rfl sz_62 (by decide)) ?_
        refine LAny.takeP 17 rfl (by kernel_rfl) (Nb rfl) (Det.fieldA (o' := 19) Try.underlying62 rfl rfl rfl sz_25 (by decide)) ?_
        refine LAny.take 18 rfl (by kernel_rfl) (Nb rfl) (Det.load rfl (by repeat (first | exact Mh _ | apply Mt)) (by exact cvC_ld_b _ _ _ _ _ _ _ _ _ _ _ _ _ _ _ _)) ?_
        refine LAny.one 13 rfl rfl (by kernel_rfl) (LStep.callF (first := []) rfl en_152 rfl (Nb rfl) (fun w hw => c_f_Add V f bd V.b V.b w (hw _ (by repeat (first | exact Mh _ | apply Mt))) hbb.2.1 (by omega) (by omega)) ?_)
        refine LAny.one 19 rfl rfl (by kernel_rfl) (LStep.callF (first := []) rfl en_152 rfl (Nb rfl) (fun w hw => c_f_Add V f bd ((V.b + V.b) % V.p) V.b w (hw _ (by repeat (first | exact Mh _ | apply Mt))) hbb.2.1 (Nat.mod_lt _ (by omega)) (by omega)) ?_)
        refine LAny.takeP 20 rfl (by kernel_rfl) (Nb rfl) (Det.nilCheck rfl) ?_
        refine LAny.takeP 21 rfl (by kernel_rfl) (Nb rfl) (Det.fieldA (o' := 60) Try.underlying147 rfl rfl rfl sz_25 (by decide)) ?_
        refine LAny.late 22 rfl rfl (by kernel_rfl) (by kernel_rfl) (LStepW.storeN rfl rfl rfl sz_25 (by first | exact natL_length _ | exact ptL_length _ _ _ | rfl) (by first | exact natL_one _ | exact ptL_one _ _ _ | exact allOne_cons rfl allOne_nil) (by repeat (first | exact Sh _ | apply St_)) (by simp only [cvC_length]; decide) (cvC_set_t3 _ _ _ _ _ _ _ _ _ _ _ _ _ _) (by simp) ?_)
        refine LAny.done (by kernel_rfl) ?_
        refine LCode.seq ?_
        refine LCode.region ?_
        refine LOps.detP (Det.move rfl) (Nb rfl) ?_
        refine LOps.detP (Det.assign rfl) (Nb rfl) ?_
        refine LOps.nil ?_
        refine LCode.ret ?_
        refine ⟨[_], .cons rfl .nil, fun a w' hr => ⟨b14, f, bd, rfl, ?_, hr.hp _ (by repeat (first | exact Mh _ | apply Mt)), hr.hp _ (by repeat (first | exact Mh _ | apply Mt)), hr.new (B := ⟨true, _, _, _⟩) (by repeat (first | exact Mh _ | apply Mt)) rfl, hnf, hnbd, hr.fr.below⟩⟩
        have hcv := hr.hp _ (show Item.blk b14 ⟨true, cvC V.id V.p (V.p - 3) V.b V.n V.x V.y false (blen V.n) (nby V.p) true (.pointer (some ⟨f, 0, none⟩)) (thr V), 147, (0, 0)⟩ ∈ _ from (by repeat (first | exact Mh _ | apply Mt)))
        have hl : legB V = true := by unfold legB; exact decide_eq_true (by omega)
        have ha : V.a = V.p - 3 := by omega
        rw [← ha] at hcv
        unfold opL
        rw [hl]
        exact hcv
      ·
        refine LCode.region ?_
        refine LOps.detP (Det.move rfl) (Nb rfl) ?_
        refine LOps.detP (Det.move rfl) (Nb rfl) ?_
        refine LOps.detP (Det.bin (v := .bool false) rfl rfl (br_f br_eqI hi1)) (Nb rfl) ?_
        refine LOps.detP (Det.move rfl) (Nb rfl) ?_
        refine LOps.detGP rfl rfl (Det.move rfl) (Nb rfl) ?_
        refine LOps.detGP rfl rfl (Det.bin (v := .bool (decide (((V.id : Nat) : Int) = 7))) rfl rfl br_eqI) (Nb rfl) ?_
        refine LOps.detP (Det.pick_false rfl rfl) (Nb rfl) ?_
        refine LOps.detP (Det.nilCheck rfl) (Nb rfl) ?_
        refine LOps.detP (Det.fieldA (o' := 0) Try.underlying147 rfl rfl rfl sz_62 (by decide)) (Nb rfl) ?_
        refine LOps.detP (Det.fieldA (o' := 58) Try.underlying62 rfl rfl rfl sz_4 (by decide)) (Nb rfl) ?_
        refine LOps.step rfl (LStepW.storeN rfl rfl rfl sz_4 (by first | exact natL_length _ | exact ptL_length _ _ _ | rfl) (by first | exact natL_one _ | exact ptL_one _ _ _ | exact allOne_cons rfl allOne_nil) (by repeat (first | exact Sh _ | apply St_)) (by simp only [cvC_length]; decide) (cvC_set_leg _ _ _ _ _ _ _ _ _ _ _ _ _ _) (by simp) ?_)
        refine LOps.nil ?_
        refine LCode.seq ?_
        refine LCode.regionD [22] (by kernel_rfl) ?_
        refine LAny.takeP 0 rfl (by kernel_rfl) (Nb rfl) (Det.move rfl) ?_
        refine LAny.takeP 1 rfl (by kernel_rfl) (Nb rfl) (Det.move rfl) ?_
        refine LAny.takeP 2 rfl (by kernel_rfl) (Nb rfl) (Det.move rfl) ?_
        refine LAny.takeP 3 rfl (by kernel_rfl) (Nb rfl) (Det.move rfl) ?_
        refine LAny.takeP 4 rfl (by kernel_rfl) (Nb rfl) (Det.nilCheck rfl) ?_
        refine LAny.takeP 5 rfl (by kernel_rfl) (Nb rfl) (Det.fieldA (o' := 0) Try.underlying147 rfl rfl rfl sz_62 (by decide)) ?_
        refine LAny.takeP 6 rfl (by kernel_rfl) (Nb rfl) (Det.fieldA (o' := 19) Try.underlying62 rfl rfl rfl sz_25 (by decide)) ?_
        refine LAny.take 7 rfl (by kernel_rfl) (Nb rfl) (Det.load rfl (by repeat (first | exact Mh _ | apply Mt)) (by exact cvC_ld_b _ _ _ _ _ _ _ _ _ _ _ _ _ _ _ _)) ?_
        refine LAny.takeP 8 rfl (by kernel_rfl) (Nb rfl) (Det.move rfl) ?_
        refine LAny.takeP 9 rfl (by kernel_rfl) (Nb rfl) (Det.nilCheck rfl) ?_
        refine LAny.takeP 10 rfl (by kernel_rfl) (Nb rfl) (Det.fieldA (o' := 0) Try.underlying147 rfl rfl rfl sz_62 (by decide)) ?_
        refine LAny.takeP 11 rfl (by kernel_rfl) (Nb rfl) (Det.fieldA (o' := 19) Try.underlying62 rfl rfl rfl sz_25 (by decide)) ?_
        refine LAny.take 12 rfl (by kernel_rfl) (Nb rfl) (Det.load rfl (by repeat (first | exact Mh _ | apply Mt)) (by exact cvC_ld_b _ _ _ _ _ _ _ _ _ _ _ _ _ _ _ _)) ?_
        refine LAny.takeP 14 rfl (by kernel_rfl) (Nb rfl) (Det.move rfl) ?_
        refine LAny.takeP 15 rfl (by kernel_rfl) (Nb rfl) (Det.nilCheck rfl) ?_
        refine LAny.takeP 16 rfl (by kernel_rfl) (Nb rfl) (Det.fieldA (o' := 0) Try.underlying147 rfl rfl rfl sz_62 (by decide)) ?_
        refine LAny.takeP 17 rfl (by kernel_rfl) (Nb rfl) (Det.fieldA (o' := 19) Try.underlying62 rfl rfl rfl sz_25 (by decide)) ?_
        refine LAny.take 18 rfl (by kernel_rfl) (Nb rfl) (Det.load rfl (by repeat (first | exact Mh _ | apply Mt)) (by exact cvC_ld_b _ _ _ _ _ _ _ _ _ _ _ _ _ _ _ _)) ?_
        refine LAny.one 13 rfl rfl (by kernel_rfl) (LStep.callF (first := []) rfl en_152 rfl (Nb rfl) (fun w hw => c_f_Add V f bd V.b V.b w (hw _ (by repeat (first | exact Mh _ | apply Mt))) hbb.2.1 (by omega) (by omega)) ?_)
        refine LAny.one 19 rfl rfl (by kernel_rfl) (LStep.callF (first := []) rfl en_152 rfl (Nb rfl) (fun w hw => c_f_Add V f bd ((V.b + V.b) % V.p) V.b w (hw _ (by repeat (first | exact Mh _ | apply Mt))) hbb.2.1 (Nat.mod_lt _ (by omega)) (by omega)) ?_)
        refine LAny.takeP 20 rfl (by kernel_rfl) (Nb rfl) (Det.nilCheck rfl) ?_
        refine LAny.takeP 21 rfl (by kernel_rfl) (Nb rfl) (Det.fieldA (o' := 60) Try.underlying147 rfl rfl rfl sz_25 (by decide)) ?_
        refine LAny.late 22 rfl rfl (by kernel_rfl) (by kernel_rfl) (LStepW.storeN rfl rfl rfl sz_25 (by first | exact natL_length _ | exact ptL_length _ _ _ | rfl) (by first | exact natL_one _ | exact ptL_one _ _ _ | exact allOne_cons rfl allOne_nil) (by repeat (first | exact Sh _ | apply St_)) (by simp only [cvC_length]; decide) (cvC_set_t3 _ _ _ _ _ _ _ _ _ _ _ _ _ _) (by simp) ?_)
        refine LAny.done (by kernel_rfl) ?_
        refine LCode.seq ?_
        refine LCode.region ?_
        refine LOps.detP (Det.move rfl) (Nb rfl) ?_
        refine LOps.detP (Det.assign rfl) (Nb rfl) ?_
        refine LOps.nil ?_
        refine LCode.ret ?_
        refine ⟨[_], .cons rfl .nil, fun a w' hr => ⟨b14, f, bd, rfl, ?_, hr.hp _ (by repeat (first | exact Mh _ | apply Mt)), hr.hp _ (by repeat (first | exact Mh _ | apply Mt)), hr.new (B := ⟨true, _, _, _⟩) (by repeat (first | exact Mh _ | apply Mt)) rfl, hnf, hnbd, hr.fr.below⟩⟩
        have hcv := hr.hp _ (show Item.blk b14 ⟨true, cvC V.id V.p (V.p - 3) V.b V.n V.x V.y false (blen V.n) (nby V.p) (decide (((V.id : Nat) : Int) = 7)) (.pointer (some ⟨f, 0, none⟩)) (thr V), 147, (0, 0)⟩ ∈ _ from (by repeat (first | exact Mh _ | apply Mt)))
        have hl : legB V = (decide (((V.id : Nat) : Int) = 7)) := by unfold legB; by_cases h7 : V.id = 7 <;> simp [h7]; omega
        have ha : V.a = V.p - 3 := by omega
        rw [← ha] at hcv
        unfold opL
        rw [hl]
        exact hcv
    ·
      refine LCode.region ?_
      refine LOps.detP (Det.fieldA (o' := 0) Try.underlying188 rfl rfl rfl sz_9 (by decide)) (Nb rfl) ?_
      refine LOps.det (Det.load rfl (by repeat (first | exact Mh _ | apply Mt)) (LoadV.one Try.underlying9 rfl (by first | rfl | exact vec_get _ _ _ (by omega) | exact natL_get _ (by omega) | exact wideL_get _ (by omega) | exact dv_m _ _ _ (by omega)))) (Nb rfl) ?_
      refine LOps.detP (Slots.cast (Det.eqs rfl rfl) (congrArg Value.bool (eq_str_f hA0))) (Nb rfl) ?_
      refine LOps.nil ?_
      refine LCode.cond_false rfl ?_
      refine LCode.region ?_
      refine LOps.detP (Det.move rfl) (Nb rfl) ?_
      refine LOps.detP (Det.fieldA (o' := 0) Try.underlying188 rfl rfl rfl sz_9 (by decide)) (Nb rfl) ?_
      refine LOps.det (Det.load rfl (by repeat (first | exact Mh _ | apply Mt)) (LoadV.one Try.underlying9 rfl (by first | rfl | exact vec_get _ _ _ (by omega) | exact natL_get _ (by omega) | exact wideL_get _ (by omega) | exact dv_m _ _ _ (by omega)))) (Nb rfl) ?_
      refine LOps.step rfl (LStep.w (LStep.callF (first := []) rfl en_148 rfl (Nb rfl) (fun w hw => fhex s0 V.a w hA1) ?_))
      refine LOps.detP (Det.nilCheck rfl) (Nb rfl) ?_
      refine LOps.detP (Det.fieldA (o' := 0) Try.underlying147 rfl rfl rfl sz_62 (by decide)) (Nb rfl) ?_
      refine LOps.detP (Det.fieldA (o' := 10) Try.underlying62 rfl rfl rfl sz_25 (by decide)) (Nb rfl) ?_
      refine LOps.step rfl (LStepW.storeN rfl rfl rfl sz_25 (by first | exact natL_length _ | exact ptL_length _ _ _ | rfl) (by first | exact natL_one _ | exact ptL_one _ _ _ | exact allOne_cons rfl allOne_nil) (by repeat (first | exact Sh _ | apply St_)) (by simp only [cvC_length]; decide) (cvC_set_a _ _ _ _ _ _ _ _ _ _ _ _ _ _) (by simp) ?_)
      refine LOps.nil ?_
      refine LCode.seq ?_
      refine LCode.regionD [11] (by kernel_rfl) ?_
      refine LAny.takeP 0 rfl (by kernel_rfl) (Nb rfl) (Det.move rfl) ?_
      refine LAny.takeP 1 rfl (by kernel_rfl) (Nb rfl) (Det.fieldA (o' := 3) Try.underlying188 rfl rfl rfl sz_9 (by decide)) ?_
      refine LAny.take 2 rfl (by kernel_rfl) (Nb rfl) (Det.load rfl (by repeat (first | exact Mh _ | apply Mt)) (LoadV.one Try.underlying9 rfl (by first | rfl | exact vec_get _ _ _ (by omega) | exact natL_get _ (by omega) | exact wideL_get _ (by omega) | exact dv_m _ _ _ (by omega)))) ?_
      refine LAny.takeP 4 rfl (by kernel_rfl) (Nb rfl) (Det.fieldA (o' := 4) Try.underlying188 rfl rfl rfl sz_9 (by decide)) ?_
      refine LAny.take 5 rfl (by kernel_rfl) (Nb rfl) (Det.load rfl (by repeat (first | exact Mh _ | apply Mt)) (LoadV.one Try.underlying9 rfl (by first | rfl | exact vec_get _ _ _ (by omega) | exact natL_get _ (by omega) | exact wideL_get _ (by omega) | exact dv_m _ _ _ (by omega)))) ?_
      refine LAny.one 3 rfl rfl (by kernel_rfl) (LStep.callF (first := []) rfl en_148 rfl (Nb rfl) (fun w hw => fhex s3 V.x w hX) ?_)
      refine LAny.one 6 rfl rfl (by kernel_rfl) (LStep.callF (first := []) rfl en_148 rfl (Nb rfl) (fun w hw => fhex s4 V.y w hY) ?_)
      refine LAny.takeP 7 rfl (by kernel_rfl) (Nb rfl) (Slots.cast (Det.build pl_60 zr_60 rfl (fill_pt _ _)) rfl) ?_
      refine LAny.takeP 8 rfl (by kernel_rfl) (Nb rfl) (Det.nilCheck rfl) ?_
      refine LAny.takeP 9 rfl (by kernel_rfl) (Nb rfl) (Det.fieldA (o' := 0) Try.underlying147 rfl rfl rfl sz_62 (by decide)) ?_
      refine LAny.takeP 10 rfl (by kernel_rfl) (Nb rfl) (Det.fieldA (o' := 37) Try.underlying62 rfl rfl rfl sz_60 (by decide)) ?_
      refine LAny.late 11 rfl rfl (by kernel_rfl) (by kernel_rfl) (LStepW.storeN rfl rfl rfl sz_60 (by first | exact natL_length _ | exact ptL_length _ _ _ | rfl) (by first | exact natL_one _ | exact ptL_one _ _ _ | exact allOne_cons rfl allOne_nil) (by repeat (first | exact Sh _ | apply St_)) (by simp only [cvC_length]; decide) (cvC_set_g _ _ _ _ _ _ _ _ _ _ _ _ _ _ _ _) (by simp) ?_)
      refine LAny.done (by kernel_rfl) ?_
      refine LCode.seq ?_
      refine LCode.regionD [18, 22] (by kernel_rfl) ?_
      refine LAny.takeP 0 rfl (by kernel_rfl) (Nb rfl) (Det.move rfl) ?_
      refine LAny.takeP 1 rfl (by kernel_rfl) (Nb rfl) (Det.move rfl) ?_
      refine LAny.takeP 2 rfl (by kernel_rfl) (Nb rfl) (Det.move rfl) ?_
      refine LAny.takeP 3 rfl (by kernel_rfl) (Nb rfl) (Det.nilCheck rfl) ?_
      refine LAny.takeP 4 rfl (by kernel_rfl) (Nb rfl) (Det.fieldA (o' := 0) Try.underlying147 rfl rfl rfl sz_62 (by decide)) ?_
      refine LAny.takeP 5 rfl (by kernel_rfl) (Nb rfl) (Det.fieldA (o' := 28) Try.underlying62 rfl rfl rfl sz_25 (by decide)) ?_
      refine LAny.take 6 rfl (by kernel_rfl) (Nb rfl) (Det.load rfl (by repeat (first | exact Mh _ | apply Mt)) (by exact cvC_ld_n _ _ _ _ _ _ _ _ _ _ _ _ _ _ _ _)) ?_
      refine LAny.takeP 8 rfl (by kernel_rfl) (Nb rfl) (Det.move rfl) ?_
      refine LAny.takeP 9 rfl (by kernel_rfl) (Nb rfl) (Det.nilCheck rfl) ?_
      refine LAny.takeP 10 rfl (by kernel_rfl) (Nb rfl) (Det.fieldA (o' := 0) Try.underlying194 rfl rfl rfl sz_25 (by decide)) ?_
      refine LAny.take 11 rfl (by kernel_rfl) (Nb rfl) (Det.load rfl (by repeat (first | exact Mh _ | apply Mt)) (by exact LoadV.first Try.underlying25 rfl sz_25 rfl (natL_length _))) ?_
      refine LAny.one 7 rfl rfl (by kernel_rfl) (LStep.callF (first := []) rfl en_151 rfl (Nb rfl) (fun w hw => c_nat_Bits V.n hnW w) ?_)
      refine LAny.one 12 rfl rfl (by kernel_rfl) (LStep.callF (first := []) rfl en_151 rfl (Nb rfl) (fun w hw => c_nat_Bits V.p hpW w) ?_)
      refine LAny.takeP 13 rfl (by kernel_rfl) (Nb rfl) (Det.bin rfl rfl (br_add (b := 7) (by omega))) ?_
      refine LAny.takeP 14 rfl (by kernel_rfl) (Nb rfl) (Det.bin rfl rfl (br_quo (b := 8) (by omega) (by omega))) ?_
      refine LAny.takeP 15 rfl (by kernel_rfl) (Nb rfl) (Det.nilCheck rfl) ?_
      refine LAny.takeP 16 rfl (by kernel_rfl) (Nb rfl) (Det.fieldA (o' := 0) Try.underlying147 rfl rfl rfl sz_62 (by decide)) ?_
      refine LAny.takeP 17 rfl (by kernel_rfl) (Nb rfl) (Det.fieldA (o' := 56) Try.underlying62 rfl rfl rfl sz_3 (by decide)) ?_
      refine LAny.late 18 rfl rfl (by kernel_rfl) (by kernel_rfl) (LStepW.storeN rfl rfl rfl sz_3 (by first | exact natL_length _ | exact ptL_length _ _ _ | rfl) (by first | exact natL_one _ | exact ptL_one _ _ _ | exact allOne_cons rfl allOne_nil) (by repeat (first | exact Sh _ | apply St_)) (by simp only [cvC_length]; decide) (cvC_set_bits _ _ _ _ _ _ _ _ _ _ _ _ _ _) (by simp) ?_)
      refine LAny.takeP 19 rfl (by kernel_rfl) (Nb rfl) (Det.nilCheck rfl) ?_
      refine LAny.takeP 20 rfl (by kernel_rfl) (Nb rfl) (Det.fieldA (o' := 0) Try.underlying147 rfl rfl rfl sz_62 (by decide)) ?_
      refine LAny.takeP 21 rfl (by kernel_rfl) (Nb rfl) (Det.fieldA (o' := 57) Try.underlying62 rfl rfl rfl sz_3 (by decide)) ?_
      refine LAny.late 22 rfl rfl (by kernel_rfl) (by kernel_rfl) (LStepW.storeN rfl rfl rfl sz_3 (by first | exact natL_length _ | exact ptL_length _ _ _ | rfl) (by first | exact natL_one _ | exact ptL_one _ _ _ | exact allOne_cons rfl allOne_nil) (by repeat (first | exact Sh _ | apply St_)) (by simp only [cvC_length]; decide) (cvC_set_size _ _ _ _ _ _ _ _ _ _ _ _ _ _) (by simp) ?_)
      refine LAny.done (by kernel_rfl) ?_
      refine LCode.seq ?_
      by_cases hi1 : ((V.id : Nat) : Int) = 1
      ·
        refine LCode.region ?_
        refine LOps.detP (Det.move rfl) (Nb rfl) ?_
        refine LOps.detP (Det.move rfl) (Nb rfl) ?_
        refine LOps.detP (Det.bin (v := .bool true) rfl rfl (br_t br_eqI hi1)) (Nb rfl) ?_
        refine LOps.detP (Det.move rfl) (Nb rfl) ?_
        refine LOps.skip rfl rfl rfl (Nb rfl) ?_
        refine LOps.skip rfl rfl rfl (Nb rfl) ?_
        refine LOps.detP (Det.pick_true rfl rfl) (Nb rfl) ?_
        refine LOps.detP (Det.nilCheck rfl) (Nb rfl) ?_
        refine LOps.detP (Det.fieldA (o' := 0) Try.underlying147 rfl rfl rfl sz_62 (by decide)) (Nb rfl) ?_
        refine LOps.detP (Det.fieldA (o' := 58) Try.underlying62 rfl rfl rfl sz_4 (by decide)) (Nb rfl) ?_
        refine LOps.step rfl (LStepW.storeN rfl rfl rfl sz_4 (by first | exact natL_length _ | exact ptL_length _ _ _ | rfl) (by first | exact natL_one _ | exact ptL_one _ _ _ | exact allOne_cons rfl allOne_nil) (by repeat (first | exact Sh _ | apply St_)) (by simp only [cvC_length]; decide) (cvC_set_leg _ _ _ _ _ _ _ _ _ _ _ _ _ _) (by simp) ?_)
        refine LOps.nil ?_
        refine LCode.seq ?_
        refine LCode.regionD [22] (by kernel_rfl) ?_
        refine LAny.takeP 0 rfl (by kernel_rfl) (Nb rfl) (Det.move rfl) ?_
        refine LAny.takeP 1 rfl (by kernel_rfl) (Nb rfl) (Det.move rfl) ?_
        refine LAny.takeP 2 rfl (by kernel_rfl) (Nb rfl) (Det.move rfl) ?_
        refine LAny.takeP 3 rfl (by kernel_rfl) (Nb rfl) (Det.move rfl) ?_
        refine LAny.takeP 4 rfl (by kernel_rfl) (Nb rfl) (Det.nilCheck rfl) ?_
        refine LAny.takeP 5 rfl (by kernel_rfl) (Nb rfl) (Det.fieldA (o' := 0) Try.underlying147 rfl rfl rfl sz_62 (by decide)) ?_
        refine LAny.takeP 6 rfl (by kernel_rfl) (Nb rfl) (Det.fieldA (o' := 19) Try.underlying62 rfl rfl rfl sz_25 (by decide)) ?_
        refine LAny.take 7 rfl (by kernel_rfl) (Nb rfl) (Det.load rfl (by repeat (first | exact Mh _ | apply Mt)) (by exact cvC_ld_b _ _ _ _ _ _ _ _ _ _ _ _ _ _ _ _)) ?_
        refine LAny.takeP 8 rfl (by kernel_rfl) (Nb rfl) (Det.move rfl) ?_
        refine LAny.takeP 9 rfl (by kernel_rfl) (Nb rfl) (Det.nilCheck rfl) ?_
        refine LAny.takeP 10 rfl (by kernel_rfl) (Nb rfl) (Det.fieldA (o' := 0) Try.underlying147 rfl rfl rfl sz_62 (by decide)) ?_
        refine LAny.takeP 11 rfl (by kernel_rfl) (Nb rfl) (Det.fieldA (o' := 19) Try.underlying62 rfl rfl rfl sz_25 (by decide)) ?_
        refine LAny.take 12 rfl (by kernel_rfl) (Nb rfl) (Det.load rfl (by repeat (first | exact Mh _ | apply Mt)) (by exact cvC_ld_b _ _ _ _ _ _ _ _ _ _ _ _ _ _ _ _)) ?_
        refine LAny.takeP 14 rfl (by kernel_rfl) (Nb rfl) (Det.move rfl) ?_
        refine LAny.takeP 15 rfl (by kernel_rfl) (Nb rfl) (Det.nilCheck rfl) ?_
        refine LAny.takeP 16 rfl (by kernel_rfl) (Nb rfl) (Det.fieldA (o' := 0) Try.underlying147 rfl rfl rfl sz_62 (by decide)) ?_
        refine LAny.takeP 17 rfl (by kernel_rfl) (Nb rfl) (Det.fieldA (o' := 19) Try.underlying62 rfl rfl rfl sz_25 (by decide)) ?_
        refine LAny.take 18 rfl (by kernel_rfl) (Nb rfl) (Det.load rfl (by repeat (first | exact Mh _ | apply Mt)) (by exact cvC_ld_b _ _ _ _ _ _ _ _ _ _ _ _ _ _ _ _)) ?_
        refine LAny.one 13 rfl rfl (by kernel_rfl) (LStep.callF (first := []) rfl en_152 rfl (Nb rfl) (fun w hw => c_f_Add V f bd V.b V.b w (hw _ (by repeat (first | exact Mh _ | apply Mt))) hbb.2.1 (by omega) (by omega)) ?_)
        refine LAny.one 19 rfl rfl (by kernel_rfl) (LStep.callF (first := []) rfl en_152 rfl (Nb rfl) (fun w hw => c_f_Add V f bd ((V.b + V.b) % V.p) V.b w (hw _ (by repeat (first | exact Mh _ | apply Mt))) hbb.2.1 (Nat.mod_lt _ (by omega)) (by omega)) ?_)
        refine LAny.takeP 20 rfl (by kernel_rfl) (Nb rfl) (Det.nilCheck rfl) ?_
        refine LAny.takeP 21 rfl (by kernel_rfl) (Nb rfl) (Det.fieldA (o' := 60) Try.underlying147 rfl rfl rfl sz_25 (by decide)) ?_
        refine LAny.late 22 rfl rfl (by kernel_rfl) (by kernel_rfl) (LStepW.storeN rfl rfl rfl sz_25 (by first | exact natL_length _ | exact ptL_length _ _ _ | rfl) (by first | exact natL_one _ | exact ptL_one _ _ _ | exact allOne_cons rfl allOne_nil) (by repeat (first | exact Sh _ | apply St_)) (by simp only [cvC_length]; decide) (cvC_set_t3 _ _ _ _ _ _ _ _ _ _ _ _ _ _) (by simp) ?_)
        refine LAny.done (by kernel_rfl) ?_
        refine LCode.seq ?_
        refine LCode.region ?_
        refine LOps.detP (Det.move rfl) (Nb rfl) ?_
        refine LOps.detP (Det.assign rfl) (Nb rfl) ?_
        refine LOps.nil ?_
        refine LCode.ret ?_
        refine ⟨[_], .cons rfl .nil, fun a w' hr => ⟨b14, f, bd, rfl, ?_, hr.hp _ (by repeat (first | exact Mh _ | apply Mt)), hr.hp _ (by repeat (first | exact Mh _ | apply Mt)), hr.new (B := ⟨true, _, _, _⟩) (by repeat (first | exact Mh _ | apply Mt)) rfl, hnf, hnbd, hr.fr.below⟩⟩
        have hcv := hr.hp _ (show Item.blk b14 ⟨true, cvC V.id V.p V.a V.b V.n V.x V.y false (blen V.n) (nby V.p) true (.pointer (some ⟨f, 0, none⟩)) (thr V), 147, (0, 0)⟩ ∈ _ from (by repeat (first | exact Mh _ | apply Mt)))
        have hl : legB V = true := by unfold legB; exact decide_eq_true (by omega)
        unfold opL
        rw [hl]
        exact hcv
      ·
        refine LCode.region ?_
        refine LOps.detP (Det.move rfl) (Nb rfl) ?_
        refine LOps.detP (Det.move rfl) (Nb rfl) ?_
        refine LOps.detP (Det.bin (v := .bool false) rfl rfl (br_f br_eqI hi1)) (Nb rfl) ?_
        refine LOps.detP (Det.move rfl) (Nb rfl) ?_
        refine LOps.detGP rfl rfl (Det.move rfl) (Nb rfl) ?_
        refine LOps.detGP rfl rfl (Det.bin (v := .bool (decide (((V.id : Nat) : Int) = 7))) rfl rfl br_eqI) (Nb rfl) ?_
        refine LOps.detP (Det.pick_false rfl rfl) (Nb rfl) ?_
        refine LOps.detP (Det.nilCheck rfl) (Nb rfl) ?_
        refine LOps.detP (Det.fieldA (o' := 0) Try.underlying147 rfl rfl rfl sz_62 (by decide)) (Nb rfl) ?_
        refine LOps.detP (Det.fieldA (o' := 58) Try.underlying62 rfl rfl rfl sz_4 (by decide)) (Nb rfl) ?_
        refine LOps.step rfl (LStepW.storeN rfl rfl rfl sz_4 (by first | exact natL_length _ | exact ptL_length _ _ _ | rfl) (by first | exact natL_one _ | exact ptL_one _ _ _ | exact allOne_cons rfl allOne_nil) (by repeat (first | exact Sh _ | apply St_)) (by simp only [cvC_length]; decide) (cvC_set_leg _ _ _ _ _ _ _ _ _ _ _ _ _ _) (by simp) ?_)
        refine LOps.nil ?_
        refine LCode.seq ?_
        refine LCode.regionD [22] (by kernel_rfl) ?_
        refine LAny.takeP 0 rfl (by kernel_rfl) (Nb rfl) (Det.move rfl) ?_
        refine LAny.takeP 1 rfl (by kernel_rfl) (Nb rfl) (Det.move rfl) ?_
        refine LAny.takeP 2 rfl (by kernel_rfl) (Nb rfl) (Det.move rfl) ?_
        refine LAny.takeP 3 rfl (by kernel_rfl) (Nb rfl) (Det.move rfl) ?_
        refine LAny.takeP 4 rfl (by kernel_rfl) (Nb rfl) (Det.nilCheck rfl) ?_
        refine LAny.takeP 5 rfl (by kernel_rfl) (Nb rfl) (Det.fieldA (o' := 0) Try.underlying147 rfl rfl rfl sz_62 (by decide)) ?_
        refine LAny.takeP 6 rfl (by kernel_rfl) (Nb rfl) (Det.fieldA (o' := 19) Try.underlying62 rfl rfl rfl sz_25 (by decide)) ?_
        refine LAny.take 7 rfl (by kernel_rfl) (Nb rfl) (Det.load rfl (by repeat (first | exact Mh _ | apply Mt)) (by exact cvC_ld_b _ _ _ _ _ _ _ _ _ _ _ _ _ _ _ _)) ?_
        refine LAny.takeP 8 rfl (by kernel_rfl) (Nb rfl) (Det.move rfl) ?_
        refine LAny.takeP 9 rfl (by kernel_rfl) (Nb rfl) (Det.nilCheck rfl) ?_
        refine LAny.takeP 10 rfl (by kernel_rfl) (Nb rfl) (Det.fieldA (o' := 0) Try.underlying147 rfl rfl rfl sz_62 (by decide)) ?_
        refine LAny.takeP 11 rfl (by kernel_rfl) (Nb rfl) (Det.fieldA (o' := 19) Try.underlying62 rfl rfl rfl sz_25 (by decide)) ?_
        refine LAny.take 12 rfl (by kernel_rfl) (Nb rfl) (Det.load rfl (by repeat (first | exact Mh _ | apply Mt)) (by exact cvC_ld_b _ _ _ _ _ _ _ _ _ _ _ _ _ _ _ _)) ?_
        refine LAny.takeP 14 rfl (by kernel_rfl) (Nb rfl) (Det.move rfl) ?_
        refine LAny.takeP 15 rfl (by kernel_rfl) (Nb rfl) (Det.nilCheck rfl) ?_
        refine LAny.takeP 16 rfl (by kernel_rfl) (Nb rfl) (Det.fieldA (o' := 0) Try.underlying147 rfl rfl rfl sz_62 (by decide)) ?_
        refine LAny.takeP 17 rfl (by kernel_rfl) (Nb rfl) (Det.fieldA (o' := 19) Try.underlying62 rfl rfl rfl sz_25 (by decide)) ?_
        refine LAny.take 18 rfl (by kernel_rfl) (Nb rfl) (Det.load rfl (by repeat (first | exact Mh _ | apply Mt)) (by exact cvC_ld_b _ _ _ _ _ _ _ _ _ _ _ _ _ _ _ _)) ?_
        refine LAny.one 13 rfl rfl (by kernel_rfl) (LStep.callF (first := []) rfl en_152 rfl (Nb rfl) (fun w hw => c_f_Add V f bd V.b V.b w (hw _ (by repeat (first | exact Mh _ | apply Mt))) hbb.2.1 (by omega) (by omega)) ?_)
        refine LAny.one 19 rfl rfl (by kernel_rfl) (LStep.callF (first := []) rfl en_152 rfl (Nb rfl) (fun w hw => c_f_Add V f bd ((V.b + V.b) % V.p) V.b w (hw _ (by repeat (first | exact Mh _ | apply Mt))) hbb.2.1 (Nat.mod_lt _ (by omega)) (by omega)) ?_)
        refine LAny.takeP 20 rfl (by kernel_rfl) (Nb rfl) (Det.nilCheck rfl) ?_
        refine LAny.takeP 21 rfl (by kernel_rfl) (Nb rfl) (Det.fieldA (o' := 60) Try.underlying147 rfl rfl rfl sz_25 (by decide)) ?_
        refine LAny.late 22 rfl rfl (by kernel_rfl) (by kernel_rfl) (LStepW.storeN rfl rfl rfl sz_25 (by first | exact natL_length _ | exact ptL_length _ _ _ | rfl) (by first | exact natL_one _ | exact ptL_one _ _ _ | exact allOne_cons rfl allOne_nil) (by repeat (first | exact Sh _ | apply St_)) (by simp only [cvC_length]; decide) (cvC_set_t3 _ _ _ _ _ _ _ _ _ _ _ _ _ _) (by simp) ?_)
        refine LAny.done (by kernel_rfl) ?_
        refine LCode.seq ?_
        refine LCode.region ?_
        refine LOps.detP (Det.move rfl) (Nb rfl) ?_
        refine LOps.detP (Det.assign rfl) (Nb rfl) ?_
        refine LOps.nil ?_
        refine LCode.ret ?_
        refine ⟨[_], .cons rfl .nil, fun a w' hr => ⟨b14, f, bd, rfl, ?_, hr.hp _ (by repeat (first | exact Mh _ | apply Mt)), hr.hp _ (by repeat (first | exact Mh _ | apply Mt)), hr.new (B := ⟨true, _, _, _⟩) (by repeat (first | exact Mh _ | apply Mt)) rfl, hnf, hnbd, hr.fr.below⟩⟩
        have hcv := hr.hp _ (show Item.blk b14 ⟨true, cvC V.id V.p V.a V.b V.n V.x V.y false (blen V.n) (nby V.p) (decide (((V.id : Nat) : Int) = 7)) (.pointer (some ⟨f, 0, none⟩)) (thr V), 147, (0, 0)⟩ ∈ _ from (by repeat (first | exact Mh _ | apply Mt)))
        have hl : legB V = (decide (((V.id : Nat) : Int) = 7)) := by unfold legB; by_cases h7 : V.id = 7 <;> simp [h7]; omega
        unfold opL
        rw [hl]
        exact hcv
end Go.Proofs.Ytljblbgogjieaaa
set_option linter.unusedVariables false
set_option linter.unusedSimpArgs false
set_option maxRecDepth 20000
namespace Go.Proofs.Ytljblbgogjieaaa
open Go Go.RowKit
theorem c_cBytes (V : Cv) (b f : Nat) (w : World) (hb : (Item.blk b ⟨false, opL V f, 147, (0, 0)⟩).holds w) (hbl : blen V.n ≤ 576) : Calls Try.prog 115 ([.pointer (some ⟨b, 0, none⟩)] : List Value).toArray w (fun e w' => e = .returned (.int .i64 ((nby V.n : Nat) : Int)) ∧ Below w.heap.size w w') := by
  refine calls_ro (N := 10) (rs := [.tmp 2]) [.blk b ⟨false, opL V f, 147, (0, 0)⟩] Try.func115 rfl Try.ntmps115 Try.results115 (Nb rfl) ⟨hb, trivial⟩ rfl ?_
  show LCode _ _ _ ⟨_, _⟩ _
  refine LCode.seq ?_
  refine LCode.region ?_
  refine LOps.detP (Det.assign (v := .int .i64 ((0 : Nat) : Int)) rfl) (Nb rfl) ?_
  refine LOps.nil ?_
  refine LCode.seq ?_
  refine LCode.region ?_
  refine LOps.detP (Det.move rfl) (Nb rfl) ?_
  refine LOps.detP (Det.nilCheck rfl) (Nb rfl) ?_
  refine LOps.detP (Det.fieldA (o' := 0) Try.underlying147 rfl rfl rfl sz_62 (by decide)) (Nb rfl) ?_
  refine LOps.detP (Det.fieldA (o' := 56) Try.underlying62 rfl rfl rfl sz_3 (by decide)) (Nb rfl) ?_
  refine LOps.det (Det.load rfl (by repeat (first | exact Mh _ | apply Mt)) (LoadV.one Try.underlying3 rfl (by exact cvC_gt_bits _ _ _ _ _ _ _ _ _ _ _ _ _))) (Nb rfl) ?_
  refine LOps.detP (Det.bin rfl rfl (br_add (b := 7) (by omega))) (Nb rfl) ?_
  refine LOps.detP (Det.bin rfl rfl (br_quo (b := 8) (by omega) (by omega))) (Nb rfl) ?_
  refine LOps.detP (Det.assign rfl) (Nb rfl) ?_
  refine LOps.nil ?_
  refine LCode.ret ?_
  refine ⟨[_], .cons rfl .nil, fun a w' hr => ⟨?_, hr.fr.below⟩⟩
  rfl
theorem c_raw_Put_none (id : Int) (R T : Nat) (w : World) (h : cvI id = none) : Calls Try.prog 44 ([.int .i64 id, sgV R T] : List Value).toArray w (fun e w' => e = .returned (.tuple #[.string ⟨#[]⟩, .int .i64 ((2300 : Nat) : Int)]) ∧ Below w.heap.size w w') := by
  refine calls_ro (N := 56) (rs := [.tmp 4, .tmp 5]) [] Try.func44 rfl Try.ntmps44 Try.results44 (Nb rfl) trivial rfl ?_
  show LCode _ _ _ ⟨_, _⟩ _
  refine LCode.seq ?_
  refine LCode.region ?_
  refine LOps.step rfl (LStep.w (LStep.makes (Makes.boxA rfl) (Nb rfl) (fun b3 => ?_)))
  refine LOps.detP (Det.assign rfl) (Nb rfl) ?_
  refine LOps.detP (Det.assign (v := .int .i64 ((0 : Nat) : Int)) rfl) (Nb rfl) ?_
  refine LOps.nil ?_
  refine LCode.seq ?_
  refine LCode.region ?_
  refine LOps.detP (Det.move rfl) (Nb rfl) ?_
  refine LOps.step rfl (LStep.w (LStep.callF (first := []) rfl en_112 rfl (Nb rfl) (fun w hw => c_Open_none id w h) ?_))
  refine LOps.detP (Det.assign rfl) (Nb rfl) ?_
  refine LOps.nil ?_
  refine LCode.seq ?_
  refine LCode.block ?_
  refine LCode.seq ?_
  refine LCode.region ?_
  refine LOps.detP (Det.move rfl) (Nb rfl) ?_
  refine LOps.detP (Slots.cast (Det.eqp Try.underlying142 rfl rfl) (show _ = Value.bool true from rfl)) (Nb rfl) ?_
  refine LOps.detP (Det.assign rfl) (Nb rfl) ?_
  refine LOps.nil ?_
  refine LCode.cond_true rfl ?_
  refine LCode.seq ?_
  refine LCode.region ?_
  refine LOps.detP (Det.assign rfl) (Nb rfl) ?_
  refine LOps.detP (Det.assign (v := .int .i64 ((2300 : Nat) : Int)) rfl) (Nb rfl) ?_
  refine LOps.nil ?_
  refine LCode.ret ?_
  refine ⟨[_, _], .cons rfl (.cons rfl .nil), fun a w' hr => ⟨?_, hr.fr.below⟩⟩
  rfl
theorem c_raw_Put (id : Int) (V : Cv) (R T : Nat) (w : World) (h : cvI id = some V) (hR : R < W9) (hT : T < W9) : Calls Try.prog 44 ([.int .i64 id, sgV R T] : List Value).toArray w (fun e w' => e = .returned (rawPut V R T) ∧ Below w.heap.size w w') := by
  obtain ⟨hok, hid⟩ := cvI_ok h
  have hbb := hok.bounds
  have hpW : V.p < W9 := w9_521 hbb.2.1
  have hnW : V.n < W9 := w9_521 hbb.2.2.2.2.2.2.1
  have hbl := blen_w9 hnW
  have hnb : nby V.n ≤ 72 := by (unfold nby; omega)
  refine calls_ro (N := 56) (rs := [.tmp 4, .tmp 5]) [] Try.func44 rfl Try.ntmps44 Try.results44 (Nb rfl) trivial rfl ?_
  show LCode _ _ _ ⟨_, _⟩ _
  refine LCode.seq ?_
  refine LCode.region ?_
  refine LOps.step rfl (LStep.w (LStep.makes (Makes.boxA rfl) (Nb rfl) (fun b3 => ?_)))
  refine LOps.detP (Det.assign rfl) (Nb rfl) ?_
  refine LOps.detP (Det.assign (v := .int .i64 ((0 : Nat) : Int)) rfl) (Nb rfl) ?_
  refine LOps.nil ?_
  refine LCode.seq ?_
  refine LCode.region ?_
  refine LOps.detP (Det.move rfl) (Nb rfl) ?_
  refine LOps.step rfl (LStep.w (LStep.callZ (Post := fun v its => ∃ b f bd, v = .pointer (some ⟨b, 0, none⟩) ∧ its = [.blk b ⟨false, opL V f, 147, (0, 0)⟩, .blk f ⟨false, fldL V.p bd, 194, (0, 0)⟩, .blk bd ⟨false, dvL V.p, 241, (0, 0)⟩]) (first := []) rfl en_112 rfl (Nb rfl) (fun w1 hw hs => (c_Open _ V w1 h).mono fun e w' ⟨b, f, bd, h1, h2, h3, h4, h5, h6, h7, h8⟩ => ⟨_, _, ⟨b, f, bd, rfl, rfl⟩, h1, Brings.nums h8 (by intro x hx; simp at hx; rcases hx with rfl | rfl | rfl; exact h2; exact h3; exact h4) (by intro x hx; simp at hx; rcases hx with rfl | rfl | rfl <;> rfl) (by intro x hx k hk; simp at hx; rcases hx with rfl | rfl | rfl <;> simp [Item.fp] at hk <;> subst hk; exact .inl h5; exact .inl h6; exact .inl h7)⟩) ?_))
  rintro _ _ ⟨b, f, bd, rfl, rfl⟩
  refine LOps.detP (Det.assign rfl) (Nb rfl) ?_
  refine LOps.nil ?_
  refine LCode.seq ?_
  refine LCode.block ?_
  refine LCode.seq ?_
  refine LCode.region ?_
  refine LOps.detP (Det.move rfl) (Nb rfl) ?_
  refine LOps.detP (Slots.cast (Det.eqp Try.underlying142 rfl rfl) (show _ = Value.bool false from rfl)) (Nb rfl) ?_
  refine LOps.detP (Det.assign rfl) (Nb rfl) ?_
  refine LOps.nil ?_
  refine LCode.cond_false rfl ?_
  refine LCode.seq ?_
  rcases (show V.n ≤ R ∨ (R < V.n ∧ V.n ≤ T) ∨ (R < V.n ∧ T < V.n) by omega) with hg | ⟨hl, hg⟩ | ⟨hl, hl2⟩
  ·
    refine LCode.regionD [] (by kernel_rfl) ?_
    refine LAny.takeP 0 rfl (by kernel_rfl) (Nb rfl) (Det.fieldA (o' := 0) Try.underlying27 rfl rfl rfl sz_25 (by decide)) ?_
    refine LAny.take 1 rfl (by kernel_rfl) (Nb rfl) (Det.load rfl (by repeat (first | exact Mh _ | apply Mt)) (by exact LoadV.first Try.underlying25 rfl sz_25 rfl (natL_length _))) ?_
    refine LAny.takeP 2 rfl (by kernel_rfl) (Nb rfl) (Det.move rfl) ?_
    refine LAny.takeP 3 rfl (by kernel_rfl) (Nb rfl) (Det.nilCheck rfl) ?_
    refine LAny.takeP 4 rfl (by kernel_rfl) (Nb rfl) (Det.fieldA (o' := 0) Try.underlying147 rfl rfl rfl sz_62 (by decide)) ?_
    refine LAny.takeP 5 rfl (by kernel_rfl) (Nb rfl) (Det.fieldA (o' := 28) Try.underlying62 rfl rfl rfl sz_25 (by decide)) ?_
    refine LAny.take 6 rfl (by kernel_rfl) (Nb rfl) (Det.load rfl (by repeat (first | exact Mh _ | apply Mt)) (by exact cvC_ld_n _ _ _ _ _ _ _ _ _ _ _ _ _ _ _ _)) ?_
    refine LAny.one 7 rfl rfl (by kernel_rfl) (LStep.callF (first := []) rfl en_113 rfl (Nb rfl) (fun w hw => c_nat_Cmp R V.n hR hnW w) ?_)
    refine LAny.takeP 8 rfl (by kernel_rfl) (Nb rfl) (Det.bin (v := .bool true) rfl rfl (cmp_ge_t hg)) ?_
    refine LAny.takeP 9 rfl (by kernel_rfl) (Nb rfl) (Det.move rfl) ?_
    refine LAny.skip 10 rfl rfl rfl rfl (by kernel_rfl) (Nb rfl) ?_
    refine LAny.skip 11 rfl rfl rfl rfl (by kernel_rfl) (Nb rfl) ?_
    refine LAny.skip 12 rfl rfl rfl rfl (by kernel_rfl) (Nb rfl) ?_
    refine LAny.skip 13 rfl rfl rfl rfl (by kernel_rfl) (Nb rfl) ?_
    refine LAny.skip 14 rfl rfl rfl rfl (by kernel_rfl) (Nb rfl) ?_
    refine LAny.skip 15 rfl rfl rfl rfl (by kernel_rfl) (Nb rfl) ?_
    refine LAny.skip 16 rfl rfl rfl rfl (by kernel_rfl) (Nb rfl) ?_
    refine LAny.skip 17 rfl rfl rfl rfl (by kernel_rfl) (Nb rfl) ?_
    refine LAny.skip 18 rfl rfl rfl rfl (by kernel_rfl) (Nb rfl) ?_
    refine LAny.takeP 19 rfl (by kernel_rfl) (Nb rfl) (Det.pick_true rfl rfl) ?_
    refine LAny.takeP 20 rfl (by kernel_rfl) (Nb rfl) (Det.assign rfl) ?_
    refine LAny.done (by kernel_rfl) ?_
    refine LCode.cond_true rfl ?_
    refine LCode.seq ?_
    refine LCode.region ?_
    refine LOps.detP (Det.assign rfl) (Nb rfl) ?_
    refine LOps.detP (Det.assign (v := .int .i64 ((2302 : Nat) : Int)) rfl) (Nb rfl) ?_
    refine LOps.nil ?_
    refine LCode.ret ?_
    refine ⟨[_, _], .cons rfl (.cons rfl .nil), fun a w' hr => ⟨?_, hr.fr.below⟩⟩
    unfold rawPut
    rw [if_pos (.inl hg)]
    rfl
  ·
    refine LCode.regionD [] (by kernel_rfl) ?_
    refine LAny.takeP 0 rfl (by kernel_rfl) (Nb rfl) (Det.fieldA (o' := 0) Try.underlying27 rfl rfl rfl sz_25 (by decide)) ?_
    refine LAny.take 1 rfl (by kernel_rfl) (Nb rfl) (Det.load rfl (by repeat (first | exact Mh _ | apply Mt)) (by exact LoadV.first Try.underlying25 rfl sz_25 rfl (natL_length _))) ?_
    refine LAny.takeP 2 rfl (by kernel_rfl) (Nb rfl) (Det.move rfl) ?_
    refine LAny.takeP 3 rfl (by kernel_rfl) (Nb rfl) (Det.nilCheck rfl) ?_
    refine LAny.takeP 4 rfl (by kernel_rfl) (Nb rfl) (Det.fieldA (o' := 0) Try.underlying147 rfl rfl rfl sz_62 (by decide)) ?_
    refine LAny.takeP 5 rfl (by kernel_rfl) (Nb rfl) (Det.fieldA (o' := 28) Try.underlying62 rfl rfl rfl sz_25 (by decide)) ?_
    refine LAny.take 6 rfl (by kernel_rfl) (Nb rfl) (Det.load rfl (by repeat (first | exact Mh _ | apply Mt)) (by exact cvC_ld_n _ _ _ _ _ _ _ _ _ _ _ _ _ _ _ _)) ?_
    refine LAny.one 7 rfl rfl (by kernel_rfl) (LStep.callF (first := []) rfl en_113 rfl (Nb rfl) (fun w hw => c_nat_Cmp R V.n hR hnW w) ?_)
    refine LAny.takeP 8 rfl (by kernel_rfl) (Nb rfl) (Det.bin (v := .bool false) rfl rfl (cmp_ge_f hl)) ?_
    refine LAny.takeP 9 rfl (by kernel_rfl) (Nb rfl) (Det.move rfl) ?_
    refine LAny.takeGP 10 rfl rfl rfl (by kernel_rfl) (Nb rfl) (Det.fieldA (o' := 9) Try.underlying27 rfl rfl rfl sz_25 (by decide)) ?_
    refine LAny.takeG 11 rfl rfl rfl (by kernel_rfl) (Nb rfl) (Det.load rfl (by repeat (first | exact Mh _ | apply Mt)) (by exact LoadV.last Try.underlying25 rfl sz_25 rfl (natL_length _) (natL_length _))) ?_
    refine LAny.takeGP 12 rfl rfl rfl (by kernel_rfl) (Nb rfl) (Det.move rfl) ?_
    refine LAny.takeGP 13 rfl rfl rfl (by kernel_rfl) (Nb rfl) (Det.nilCheck rfl) ?_
    refine LAny.takeGP 14 rfl rfl rfl (by kernel_rfl) (Nb rfl) (Det.fieldA (o' := 0) Try.underlying147 rfl rfl rfl sz_62 (by decide)) ?_
    refine LAny.takeGP 15 rfl rfl rfl (by kernel_rfl) (Nb rfl) (Det.fieldA (o' := 28) Try.underlying62 rfl rfl rfl sz_25 (by decide)) ?_
    refine LAny.takeG 16 rfl rfl rfl (by kernel_rfl) (Nb rfl) (Det.load rfl (by repeat (first | exact Mh _ | apply Mt)) (by exact cvC_ld_n _ _ _ _ _ _ _ _ _ _ _ _ _ _ _ _)) ?_
    refine LAny.oneG 17 rfl rfl rfl rfl (by kernel_rfl) (LStep.callF (first := []) rfl en_113 rfl (Nb rfl) (fun w hw => c_nat_Cmp T V.n hT hnW w) ?_)
    refine LAny.takeGP 18 rfl rfl rfl (by kernel_rfl) (Nb rfl) (Det.bin (v := .bool true) rfl rfl (cmp_ge_t hg)) ?_
    refine LAny.takeP 19 rfl (by kernel_rfl) (Nb rfl) (Det.pick_false rfl rfl) ?_
    refine LAny.takeP 20 rfl (by kernel_rfl) (Nb rfl) (Det.assign rfl) ?_
    refine LAny.done (by kernel_rfl) ?_
    refine LCode.cond_true rfl ?_
    refine LCode.seq ?_
    refine LCode.region ?_
    refine LOps.detP (Det.assign rfl) (Nb rfl) ?_
    refine LOps.detP (Det.assign (v := .int .i64 ((2302 : Nat) : Int)) rfl) (Nb rfl) ?_
    refine LOps.nil ?_
    refine LCode.ret ?_
    refine ⟨[_, _], .cons rfl (.cons rfl .nil), fun a w' hr => ⟨?_, hr.fr.below⟩⟩
    unfold rawPut
    rw [if_pos (.inr hg)]
    rfl
  ·
    refine LCode.regionD [] (by kernel_rfl) ?_
    refine LAny.takeP 0 rfl (by kernel_rfl) (Nb rfl) (Det.fieldA (o' := 0) Try.underlying27 rfl rfl rfl sz_25 (by decide)) ?_
    refine LAny.take 1 rfl (by kernel_rfl) (Nb rfl) (Det.load rfl (by repeat (first | exact Mh _ | apply Mt)) (by exact LoadV.first Try.underlying25 rfl sz_25 rfl (natL_length _))) ?_
    refine LAny.takeP 2 rfl (by kernel_rfl) (Nb rfl) (Det.move rfl) ?_
    refine LAny.takeP 3 rfl (by kernel_rfl) (Nb rfl) (Det.nilCheck rfl) ?_
    refine LAny.takeP 4 rfl (by kernel_rfl) (Nb rfl) (Det.fieldA (o' := 0) Try.underlying147 rfl rfl rfl sz_62 (by decide)) ?_
    refine LAny.takeP 5 rfl (by kernel_rfl) (Nb rfl) (Det.fieldA (o' := 28) Try.underlying62 rfl rfl rfl sz_25 (by decide)) ?_
    refine LAny.take 6 rfl (by kernel_rfl) (Nb rfl) (Det.load rfl (by repeat (first | exact Mh _ | apply Mt)) (by exact cvC_ld_n _ _ _ _ _ _ _ _ _ _ _ _ _ _ _ _)) ?_
    refine LAny.one 7 rfl rfl (by kernel_rfl) (LStep.callF (first := []) rfl en_113 rfl (Nb rfl) (fun w hw => c_nat_Cmp R V.n hR hnW w) ?_)
    refine LAny.takeP 8 rfl (by kernel_rfl) (Nb rfl) (Det.bin (v := .bool false) rfl rfl (cmp_ge_f hl)) ?_
    refine LAny.takeP 9 rfl (by kernel_rfl) (Nb rfl) (Det.move rfl) ?_
    refine LAny.takeGP 10 rfl rfl rfl (by kernel_rfl) (Nb rfl) (Det.fieldA (o' := 9) Try.underlying27 rfl rfl rfl sz_25 (by decide)) ?_
    refine LAny.takeG 11 rfl rfl rfl (by kernel_rfl) (Nb rfl) (Det.load rfl (by repeat (first | exact Mh _ | apply Mt)) (by exact LoadV.last Try.underlying25 rfl sz_25 rfl (natL_length _) (natL_length _))) ?_
    refine LAny.takeGP 12 rfl rfl rfl (by kernel_rfl) (Nb rfl) (Det.move rfl) ?_
    refine LAny.takeGP 13 rfl rfl rfl (by kernel_rfl) (Nb rfl) (Det.nilCheck rfl) ?_
    refine LAny.takeGP 14 rfl rfl rfl (by kernel_rfl) (Nb rfl) (Det.fieldA (o' := 0) Try.underlying147 rfl rfl rfl sz_62 (by decide)) ?_
    refine LAny.takeGP 15 rfl rfl rfl (by kernel_rfl) (Nb rfl) (Det.fieldA (o' := 28) Try.underlying62 rfl rfl rfl sz_25 (by decide)) ?_
    refine LAny.takeG 16 rfl rfl rfl (by kernel_rfl) (Nb rfl) (Det.load rfl (by repeat (first | exact Mh _ | apply Mt)) (by exact cvC_ld_n _ _ _ _ _ _ _ _ _ _ _ _ _ _ _ _)) ?_
    refine LAny.oneG 17 rfl rfl rfl rfl (by kernel_rfl) (LStep.callF (first := []) rfl en_113 rfl (Nb rfl) (fun w hw => c_nat_Cmp T V.n hT hnW w) ?_)
    refine LAny.takeGP 18 rfl rfl rfl (by kernel_rfl) (Nb rfl) (Det.bin (v := .bool false) rfl rfl (cmp_ge_f hl2)) ?_
    refine LAny.takeP 19 rfl (by kernel_rfl) (Nb rfl) (Det.pick_false rfl rfl) ?_
    refine LAny.takeP 20 rfl (by kernel_rfl) (Nb rfl) (Det.assign rfl) ?_
    refine LAny.done (by kernel_rfl) ?_
    refine LCode.cond_false rfl ?_
    refine LCode.skip ?_
    refine LCode.seq ?_
    refine LCode.regionD [] (by kernel_rfl) ?_
    refine LAny.takeP 0 rfl (by kernel_rfl) (Nb rfl) (Det.fieldA (o' := 0) Try.underlying27 rfl rfl rfl sz_25 (by decide)) ?_
    refine LAny.take 1 rfl (by kernel_rfl) (Nb rfl) (Det.load rfl (by repeat (first | exact Mh _ | apply Mt)) (by exact LoadV.first Try.underlying25 rfl sz_25 rfl (natL_length _))) ?_
    refine LAny.takeP 2 rfl (by kernel_rfl) (Nb rfl) (Det.move rfl) ?_
    refine LAny.one 3 rfl rfl (by kernel_rfl) (LStep.callF (first := []) rfl en_115 rfl (Nb rfl) (fun w hw => c_cBytes V b f w (hw _ (by repeat (first | exact Mh _ | apply Mt))) hbl) ?_)
    refine LAny.one 4 rfl rfl (by kernel_rfl) (LStep.callF (first := []) rfl en_114 rfl (Nb rfl) (fun w hw => c_nat_BytesOK R (nby V.n) w (by omega) hnb (nby_le hl)) ?_)
    refine LAny.takeP 5 rfl (by kernel_rfl) (Nb rfl) (Det.move rfl) ?_
    refine LAny.takeP 6 rfl (by kernel_rfl) (Nb rfl) (Det.extract rfl rfl) ?_
    refine LAny.takeP 7 rfl (by kernel_rfl) (Nb rfl) (Det.extract rfl rfl) ?_
    refine LAny.takeP 8 rfl (by kernel_rfl) (Nb rfl) (Det.assign rfl) ?_
    refine LAny.takeP 9 rfl (by kernel_rfl) (Nb rfl) (Det.assign rfl) ?_
    refine LAny.done (by kernel_rfl) ?_
    refine LCode.seq ?_
    refine LCode.regionD [] (by kernel_rfl) ?_
    refine LAny.takeP 0 rfl (by kernel_rfl) (Nb rfl) (Det.fieldA (o' := 9) Try.underlying27 rfl rfl rfl sz_25 (by decide)) ?_
    refine LAny.take 1 rfl (by kernel_rfl) (Nb rfl) (Det.load rfl (by repeat (first | exact Mh _ | apply Mt)) (by exact LoadV.last Try.underlying25 rfl sz_25 rfl (natL_length _) (natL_length _))) ?_
    refine LAny.takeP 2 rfl (by kernel_rfl) (Nb rfl) (Det.move rfl) ?_
    refine LAny.one 3 rfl rfl (by kernel_rfl) (LStep.callF (first := []) rfl en_115 rfl (Nb rfl) (fun w hw => c_cBytes V b f w (hw _ (by repeat (first | exact Mh _ | apply Mt))) hbl) ?_)
    refine LAny.one 4 rfl rfl (by kernel_rfl) (LStep.callF (first := []) rfl en_114 rfl (Nb rfl) (fun w hw => c_nat_BytesOK T (nby V.n) w (by omega) hnb (nby_le hl2)) ?_)
    refine LAny.takeP 5 rfl (by kernel_rfl) (Nb rfl) (Det.move rfl) ?_
    refine LAny.takeP 6 rfl (by kernel_rfl) (Nb rfl) (Det.extract rfl rfl) ?_
    refine LAny.takeP 7 rfl (by kernel_rfl) (Nb rfl) (Det.extract rfl rfl) ?_
    refine LAny.takeP 8 rfl (by kernel_rfl) (Nb rfl) (Det.assign rfl) ?_
    refine LAny.takeP 9 rfl (by kernel_rfl) (Nb rfl) (Det.assign rfl) ?_
    refine LAny.done (by kernel_rfl) ?_
    refine LCode.seq ?_
    refine LCode.region ?_
    refine LOps.detP (Det.move rfl) (Nb rfl) ?_
    refine LOps.detP (Det.move rfl) (Nb rfl) ?_
    refine LOps.detP (Det.cat rfl rfl (by have h1 := str_size (nby V.n) R; have h2 := str_size (nby V.n) T; omega)) (Nb rfl) ?_
    refine LOps.detP (Det.assign rfl) (Nb rfl) ?_
    refine LOps.detP (Det.assign (v := .int .i64 ((0 : Nat) : Int)) rfl) (Nb rfl) ?_
    refine LOps.nil ?_
    refine LCode.ret ?_
    refine ⟨[_, _], .cons rfl (.cons rfl .nil), fun a w' hr => ⟨?_, hr.fr.below⟩⟩
    unfold rawPut
    rw [if_neg (by omega)]
    rfl
theorem sg_set0 (R T R' : Nat) : splice (sgL R T) 0 (natL R') = sgL R' T := splice_mid (A := []) (B := natL R) (D := natL T) rfl rfl (by rw [natL_length, natL_length]) rfl
theorem sg_set1 (R T T' : Nat) : splice (sgL R T) 9 (natL T') = sgL R T' := splice_mid (A := natL R) (B := natL T) (D := []) (by simp [sgL]) (natL_length _) (by rw [natL_length, natL_length]) (by simp [sgL])
theorem c_nat_OfOK (s : ByteArray) (w : World) (h : s.size ≤ 72) : Calls Try.prog 116 ([.string s] : List Value).toArray w (fun e w' => e = .returned (.tuple #[natV (beVal s.data.toList), .int .i64 ((0 : Nat) : Int)]) ∧ Below w.heap.size w w') := by
  have h1 := c_nat_Of s (by omega) w
  rwa [if_neg (by omega)] at h1
theorem c_raw_Get (id : Int) (V : Cv) (s : ByteArray) (w : World) (h : cvI id = some V) (hs : s.size < 9223372036854775808) : Calls Try.prog 45 ([.int .i64 id, .string s] : List Value).toArray w (fun e w' => e = .returned (rawGet V s) ∧ Below w.heap.size w w') := by
  obtain ⟨hok, hid⟩ := cvI_ok h
  have hbb := hok.bounds
  have hpW : V.p < W9 := w9_521 hbb.2.1
  have hnW : V.n < W9 := w9_521 hbb.2.2.2.2.2.2.1
  have hbl := blen_w9 hnW
  have hnb : nby V.n ≤ 72 := by (unfold nby; omega)
  refine calls_ro (N := 60) (rs := [.cell 4 27, .tmp 5]) [] Try.func45 rfl Try.ntmps45 Try.results45 (Nb rfl) trivial rfl ?_
  show LCode _ _ _ ⟨_, _⟩ _
  refine LCode.seq ?_
  refine LCode.region ?_
  refine LOps.step rfl (LStep.w (LStep.makes (Makes.allocA zr_27) (Nb rfl) (fun b4 => ?_)))
  refine LOps.detP (Det.assign (v := .int .i64 ((0 : Nat) : Int)) rfl) (Nb rfl) ?_
  refine LOps.nil ?_
  refine LCode.seq ?_
  refine LCode.region ?_
  refine LOps.detP (Det.move rfl) (Nb rfl) ?_
  refine LOps.step rfl (LStep.w (LStep.callZ (Post := fun v its => ∃ b f bd, v = .pointer (some ⟨b, 0, none⟩) ∧ its = [.blk b ⟨false, opL V f, 147, (0, 0)⟩, .blk f ⟨false, fldL V.p bd, 194, (0, 0)⟩, .blk bd ⟨false, dvL V.p, 241, (0, 0)⟩]) (first := []) rfl en_112 rfl (Nb rfl) (fun w1 hw hs => (c_Open _ V w1 h).mono fun e w' ⟨b, f, bd, h1, h2, h3, h4, h5, h6, h7, h8⟩ => ⟨_, _, ⟨b, f, bd, rfl, rfl⟩, h1, Brings.nums h8 (by intro x hx; simp at hx; rcases hx with rfl | rfl | rfl; exact h2; exact h3; exact h4) (by intro x hx; simp at hx; rcases hx with rfl | rfl | rfl <;> rfl) (by intro x hx k hk; simp at hx; rcases hx with rfl | rfl | rfl <;> simp [Item.fp] at hk <;> subst hk; exact .inl h5; exact .inl h6; exact .inl h7)⟩) ?_))
  rintro _ _ ⟨b, f, bd, rfl, rfl⟩
  refine LOps.detP (Det.assign rfl) (Nb rfl) ?_
  refine LOps.nil ?_
  refine LCode.seq ?_
  refine LCode.seq ?_
  refine LCode.region ?_
  refine LOps.detP (Det.move rfl) (Nb rfl) ?_
  refine LOps.detP (Slots.cast (Det.eqp Try.underlying142 rfl rfl) (show _ = Value.bool false from rfl)) (Nb rfl) ?_
  refine LOps.nil ?_
  refine LCode.cond_false rfl ?_
  refine LCode.skip ?_
  refine LCode.seq ?_
  refine LCode.region ?_
  refine LOps.detP (Det.move rfl) (Nb rfl) ?_
  refine LOps.step rfl (LStep.w (LStep.callF (first := []) rfl en_115 rfl (Nb rfl) (fun w hw => c_cBytes V b f w (hw _ (by repeat (first | exact Mh _ | apply Mt))) hbl) ?_))
  refine LOps.detP (Det.assign rfl) (Nb rfl) ?_
  refine LOps.nil ?_
  refine LCode.seq ?_
  refine LCode.seq ?_
  refine LCode.region ?_
  refine LOps.detP (Det.move rfl) (Nb rfl) ?_
  refine LOps.detP (Det.lens Try.underlying9 rfl) (Nb rfl) ?_
  refine LOps.detP (Det.move rfl) (Nb rfl) ?_
  refine LOps.detP (Det.bin rfl rfl (br_mul (a := 2) (by omega))) (Nb rfl) ?_
  refine LOps.detP (Det.bin rfl rfl (br_neq)) (Nb rfl) ?_
  refine LOps.nil ?_
  first | refine LCode.condD rfl (fun h20 => ?_) (fun h20 => ?_) | refine LCode.cond rfl (fun h20 => ?_) (fun h20 => ?_)
  ·
    have h20 : s.size ≠ 2 * nby V.n := by have := h20; simpa using this
    refine LCode.seq ?_
    refine LCode.region ?_
    refine LOps.detP (Slots.cast (Det.build pl_27 zr_27 rfl rfl) (show _ = sgV 0 0 from sg_zero)) (Nb rfl) ?_
    refine LOps.step rfl (LStepW.storeA rfl rfl sz_27 (by exact sgL_one _ _) (by repeat (first | exact Sh _ | apply St_)) (by exact sgL_length _ _) ?_)
    refine LOps.detP (Det.assign (v := .int .i64 ((2301 : Nat) : Int)) rfl) (Nb rfl) ?_
    refine LOps.nil ?_
    refine LCode.ret ?_
    refine ⟨[_, _], .cons ⟨_, _, _, rfl, (by repeat (first | exact Mh _ | apply Mt)), by exact LoadV.whole Try.underlying27 rfl sz_27⟩ (.cons rfl .nil), fun a w' hr => ⟨?_, hr.fr.below⟩⟩
    unfold rawGet
    rw [if_pos h20]
    rfl
  ·
    have h20 : s.size = 2 * nby V.n := by have := h20; simpa using this
    refine LCode.skip ?_
    refine LCode.seq ?_
    refine LCode.region ?_
    refine LOps.step rfl (LStep.w (LStep.makes (Makes.allocA zr_27) (Nb rfl) (fun b8 => ?_)))
    refine LOps.nil ?_
    refine LCode.seq ?_
    refine LCode.sub (Sub.cells (b := b8) (cs' := sgL 0 0) (by repeat (first | exact Sh _ | apply St_)) sg_zero') ?_
    refine LCode.region ?_
    refine LOps.detP (Det.move rfl) (Nb rfl) ?_
    refine LOps.detP (Det.move rfl) (Nb rfl) ?_
    refine LOps.detP (Slots.cast (Det.slStrH Try.underlying9 rfl rfl (by omega) (by omega)) (by rw [Int.toNat_natCast])) (Nb rfl) ?_
    refine LOps.step rfl (LStep.w (LStep.callF (first := []) rfl en_116 rfl (Nb rfl) (fun w hw => c_nat_OfOK (s.extract 0 (nby V.n)) w (by rw [ext_size _ _ _ (by omega)]; omega)) ?_))
    refine LOps.detP (Det.move rfl) (Nb rfl) ?_
    refine LOps.detP (Det.extract rfl rfl) (Nb rfl) ?_
    refine LOps.detP (Det.extract rfl rfl) (Nb rfl) ?_
    refine LOps.detP (Det.fieldA (o' := 0) Try.underlying27 rfl rfl rfl sz_25 (by decide)) (Nb rfl) ?_
    refine LOps.step rfl (LStepW.storeN rfl rfl rfl sz_25 (natL_length _) (natL_one _) (by repeat (first | exact Sh _ | apply St_)) (by simp only [sgL_length, List.length_append, vec_length]; decide) (sg_set0 _ _ _) (by simp) ?_)
    refine LOps.nil ?_
    refine LCode.seq ?_
    refine LCode.region ?_
    refine LOps.detP (Det.move rfl) (Nb rfl) ?_
    refine LOps.detP (Det.move rfl) (Nb rfl) ?_
    refine LOps.detP (Slots.cast (Det.slStrL Try.underlying9 rfl rfl (by omega) (by omega)) (by rw [Int.toNat_natCast])) (Nb rfl) ?_
    refine LOps.step rfl (LStep.w (LStep.callF (first := []) rfl en_116 rfl (Nb rfl) (fun w hw => c_nat_OfOK (s.extract (nby V.n) s.size) w (by rw [ext_size _ _ _ (Nat.le_refl _)]; omega)) ?_))
    refine LOps.detP (Det.move rfl) (Nb rfl) ?_
    refine LOps.detP (Det.extract rfl rfl) (Nb rfl) ?_
    refine LOps.detP (Det.extract rfl rfl) (Nb rfl) ?_
    refine LOps.detP (Det.fieldA (o' := 9) Try.underlying27 rfl rfl rfl sz_25 (by decide)) (Nb rfl) ?_
    refine LOps.step rfl (LStepW.storeN rfl rfl rfl sz_25 (natL_length _) (natL_one _) (by repeat (first | exact Sh _ | apply St_)) (by simp only [sgL_length, List.length_append, vec_length]; decide) (sg_set1 _ _ _) (by simp) ?_)
    refine LOps.nil ?_
    refine LCode.seq ?_
    refine LCode.seq ?_
    rcases (show V.n ≤ rawR V s ∨ (rawR V s < V.n ∧ V.n ≤ rawT V s) ∨ (rawR V s < V.n ∧ rawT V s < V.n) by omega) with hg | ⟨hl, hg⟩ | ⟨hl, hl2⟩
    ·
      have hRw : rawR V s < W9 := beVal_w9 (by show (s.extract 0 (nby V.n)).size ≤ 72; rw [ext_size _ _ _ (by omega)]; omega)
      have hTw : rawT V s < W9 := beVal_w9 (by show (s.extract (nby V.n) s.size).size ≤ 72; rw [ext_size _ _ _ (Nat.le_refl _)]; omega)
      refine LCode.regionD [] (by kernel_rfl) ?_
      refine LAny.takeP 0 rfl (by kernel_rfl) (Nb rfl) (Det.fieldA (o' := 0) Try.underlying27 rfl rfl rfl sz_25 (by decide)) ?_
      refine LAny.take 1 rfl (by kernel_rfl) (Nb rfl) (Det.load rfl (by repeat (first | exact Mh _ | apply Mt)) (by exact LoadV.first Try.underlying25 rfl sz_25 rfl (natL_length _))) ?_
      refine LAny.takeP 2 rfl (by kernel_rfl) (Nb rfl) (Det.move rfl) ?_
      refine LAny.takeP 3 rfl (by kernel_rfl) (Nb rfl) (Det.nilCheck rfl) ?_
      refine LAny.takeP 4 rfl (by kernel_rfl) (Nb rfl) (Det.fieldA (o' := 0) Try.underlying147 rfl rfl rfl sz_62 (by decide)) ?_
      refine LAny.takeP 5 rfl (by kernel_rfl) (Nb rfl) (Det.fieldA (o' := 28) Try.underlying62 rfl rfl rfl sz_25 (by decide)) ?_
      refine LAny.take 6 rfl (by kernel_rfl) (Nb rfl) (Det.load rfl (by repeat (first | exact Mh _ | apply Mt)) (by exact cvC_ld_n _ _ _ _ _ _ _ _ _ _ _ _ _ _ _ _)) ?_
      refine LAny.one 7 rfl rfl (by kernel_rfl) (LStep.callF (first := []) rfl en_113 rfl (Nb rfl) (fun w hw => c_nat_Cmp (rawR V s) V.n hRw hnW w) ?_)
      refine LAny.takeP 8 rfl (by kernel_rfl) (Nb rfl) (Det.bin (v := .bool true) rfl rfl (cmp_ge_t hg)) ?_
      refine LAny.takeP 9 rfl (by kernel_rfl) (Nb rfl) (Det.move rfl) ?_
      refine LAny.skip 10 rfl rfl rfl rfl (by kernel_rfl) (Nb rfl) ?_
      refine LAny.skip 11 rfl rfl rfl rfl (by kernel_rfl) (Nb rfl) ?_
      refine LAny.skip 12 rfl rfl rfl rfl (by kernel_rfl) (Nb rfl) ?_
      refine LAny.skip 13 rfl rfl rfl rfl (by kernel_rfl) (Nb rfl) ?_
      refine LAny.skip 14 rfl rfl rfl rfl (by kernel_rfl) (Nb rfl) ?_
      refine LAny.skip 15 rfl rfl rfl rfl (by kernel_rfl) (Nb rfl) ?_
      refine LAny.skip 16 rfl rfl rfl rfl (by kernel_rfl) (Nb rfl) ?_
      refine LAny.skip 17 rfl rfl rfl rfl (by kernel_rfl) (Nb rfl) ?_
      refine LAny.skip 18 rfl rfl rfl rfl (by kernel_rfl) (Nb rfl) ?_
      refine LAny.takeP 19 rfl (by kernel_rfl) (Nb rfl) (Det.pick_true rfl rfl) ?_
      refine LAny.done (by kernel_rfl) ?_
      refine LCode.cond_true rfl ?_
      refine LCode.seq ?_
      refine LCode.region ?_
      refine LOps.detP (Slots.cast (Det.build pl_27 zr_27 rfl rfl) (show _ = sgV 0 0 from sg_zero)) (Nb rfl) ?_
      refine LOps.step rfl (LStepW.storeA rfl rfl sz_27 (by exact sgL_one _ _) (by repeat (first | exact Sh _ | apply St_)) (by exact sgL_length _ _) ?_)
      refine LOps.detP (Det.assign (v := .int .i64 ((2302 : Nat) : Int)) rfl) (Nb rfl) ?_
      refine LOps.nil ?_
      refine LCode.ret ?_
      refine ⟨[_, _], .cons ⟨_, _, _, rfl, (by repeat (first | exact Mh _ | apply Mt)), by exact LoadV.whole Try.underlying27 rfl sz_27⟩ (.cons rfl .nil), fun a w' hr => ⟨?_, hr.fr.below⟩⟩
      unfold rawGet
      rw [if_neg (by omega), if_pos (.inl hg)]
      rfl
    ·
      have hRw : rawR V s < W9 := beVal_w9 (by show (s.extract 0 (nby V.n)).size ≤ 72; rw [ext_size _ _ _ (by omega)]; omega)
      have hTw : rawT V s < W9 := beVal_w9 (by show (s.extract (nby V.n) s.size).size ≤ 72; rw [ext_size _ _ _ (Nat.le_refl _)]; omega)
      refine LCode.regionD [] (by kernel_rfl) ?_
      refine LAny.takeP 0 rfl (by kernel_rfl) (Nb rfl) (Det.fieldA (o' := 0) Try.underlying27 rfl rfl rfl sz_25 (by decide)) ?_
      refine LAny.take 1 rfl (by kernel_rfl) (Nb rfl) (Det.load rfl (by repeat (first | exact Mh _ | apply Mt)) (by exact LoadV.first Try.underlying25 rfl sz_25 rfl (natL_length _))) ?_
      refine LAny.takeP 2 rfl (by kernel_rfl) (Nb rfl) (Det.move rfl) ?_
      refine LAny.takeP 3 rfl (by kernel_rfl) (Nb rfl) (Det.nilCheck rfl) ?_
      refine LAny.takeP 4 rfl (by kernel_rfl) (Nb rfl) (Det.fieldA (o' := 0) Try.underlying147 rfl rfl rfl sz_62 (by decide)) ?_
      refine LAny.takeP 5 rfl (by kernel_rfl) (Nb rfl) (Det.fieldA (o' := 28) Try.underlying62 rfl rfl rfl sz_25 (by decide)) ?_
      refine LAny.take 6 rfl (by kernel_rfl) (Nb rfl) (Det.load rfl (by repeat (first | exact Mh _ | apply Mt)) (by exact cvC_ld_n _ _ _ _ _ _ _ _ _ _ _ _ _ _ _ _)) ?_
      refine LAny.one 7 rfl rfl (by kernel_rfl) (LStep.callF (first := []) rfl en_113 rfl (Nb rfl) (fun w hw => c_nat_Cmp (rawR V s) V.n hRw hnW w) ?_)
      refine LAny.takeP 8 rfl (by kernel_rfl) (Nb rfl) (Det.bin (v := .bool false) rfl rfl (cmp_ge_f hl)) ?_
      refine LAny.takeP 9 rfl (by kernel_rfl) (Nb rfl) (Det.move rfl) ?_
      refine LAny.takeGP 10 rfl rfl rfl (by kernel_rfl) (Nb rfl) (Det.fieldA (o' := 9) Try.underlying27 rfl rfl rfl sz_25 (by decide)) ?_
      refine LAny.takeG 11 rfl rfl rfl (by kernel_rfl) (Nb rfl) (Det.load rfl (by repeat (first | exact Mh _ | apply Mt)) (by exact LoadV.last Try.underlying25 rfl sz_25 rfl (natL_length _) (natL_length _))) ?_
      refine LAny.takeGP 12 rfl rfl rfl (by kernel_rfl) (Nb rfl) (Det.move rfl) ?_
      refine LAny.takeGP 13 rfl rfl rfl (by kernel_rfl) (Nb rfl) (Det.nilCheck rfl) ?_
      refine LAny.takeGP 14 rfl rfl rfl (by kernel_rfl) (Nb rfl) (Det.fieldA (o' := 0) Try.underlying147 rfl rfl rfl sz_62 (by decide)) ?_
      refine LAny.takeGP 15 rfl rfl rfl (by kernel_rfl) (Nb rfl) (Det.fieldA (o' := 28) Try.underlying62 rfl rfl rfl sz_25 (by decide)) ?_
      refine LAny.takeG 16 rfl rfl rfl (by kernel_rfl) (Nb rfl) (Det.load rfl (by repeat (first | exact Mh _ | apply Mt)) (by exact cvC_ld_n _ _ _ _ _ _ _ _ _ _ _ _ _ _ _ _)) ?_
      refine LAny.oneG 17 rfl rfl rfl rfl (by kernel_rfl) (LStep.callF (first := []) rfl en_113 rfl (Nb rfl) (fun w hw => c_nat_Cmp (rawT V s) V.n hTw hnW w) ?_)
      refine LAny.takeGP 18 rfl rfl rfl (by kernel_rfl) (Nb rfl) (Det.bin (v := .bool true) rfl rfl (cmp_ge_t hg)) ?_
      refine LAny.takeP 19 rfl (by kernel_rfl) (Nb rfl) (Det.pick_false rfl rfl) ?_
      refine LAny.done (by kernel_rfl) ?_
      refine LCode.cond_true rfl ?_
      refine LCode.seq ?_
      refine LCode.region ?_
      refine LOps.detP (Slots.cast (Det.build pl_27 zr_27 rfl rfl) (show _ = sgV 0 0 from sg_zero)) (Nb rfl) ?_
      refine LOps.step rfl (LStepW.storeA rfl rfl sz_27 (by exact sgL_one _ _) (by repeat (first | exact Sh _ | apply St_)) (by exact sgL_length _ _) ?_)
      refine LOps.detP (Det.assign (v := .int .i64 ((2302 : Nat) : Int)) rfl) (Nb rfl) ?_
      refine LOps.nil ?_
      refine LCode.ret ?_
      refine ⟨[_, _], .cons ⟨_, _, _, rfl, (by repeat (first | exact Mh _ | apply Mt)), by exact LoadV.whole Try.underlying27 rfl sz_27⟩ (.cons rfl .nil), fun a w' hr => ⟨?_, hr.fr.below⟩⟩
      unfold rawGet
      rw [if_neg (by omega), if_pos (.inr hg)]
      rfl
    ·
      have hRw : rawR V s < W9 := beVal_w9 (by show (s.extract 0 (nby V.n)).size ≤ 72; rw [ext_size _ _ _ (by omega)]; omega)
      have hTw : rawT V s < W9 := beVal_w9 (by show (s.extract (nby V.n) s.size).size ≤ 72; rw [ext_size _ _ _ (Nat.le_refl _)]; omega)
      refine LCode.regionD [] (by kernel_rfl) ?_
      refine LAny.takeP 0 rfl (by kernel_rfl) (Nb rfl) (Det.fieldA (o' := 0) Try.underlying27 rfl rfl rfl sz_25 (by decide)) ?_
      refine LAny.take 1 rfl (by kernel_rfl) (Nb rfl) (Det.load rfl (by repeat (first | exact Mh _ | apply Mt)) (by exact LoadV.first Try.underlying25 rfl sz_25 rfl (natL_length _))) ?_
      refine LAny.takeP 2 rfl (by kernel_rfl) (Nb rfl) (Det.move rfl) ?_
      refine LAny.takeP 3 rfl (by kernel_rfl) (Nb rfl) (Det.nilCheck rfl) ?_
      refine LAny.takeP 4 rfl (by kernel_rfl) (Nb rfl) (Det.fieldA (o' := 0) Try.underlying147 rfl rfl rfl sz_62 (by decide)) ?_
      refine LAny.takeP 5 rfl (by kernel_rfl) (Nb rfl) (Det.fieldA (o' := 28) Try.underlying62 rfl rfl rfl sz_25 (by decide)) ?_
      refine LAny.take 6 rfl (by kernel_rfl) (Nb rfl) (Det.load rfl (by repeat (first | exact Mh _ | apply Mt)) (by exact cvC_ld_n _ _ _ _ _ _ _ _ _ _ _ _ _ _ _ _)) ?_
      refine LAny.one 7 rfl rfl (by kernel_rfl) (LStep.callF (first := []) rfl en_113 rfl (Nb rfl) (fun w hw => c_nat_Cmp (rawR V s) V.n hRw hnW w) ?_)
      refine LAny.takeP 8 rfl (by kernel_rfl) (Nb rfl) (Det.bin (v := .bool false) rfl rfl (cmp_ge_f hl)) ?_
      refine LAny.takeP 9 rfl (by kernel_rfl) (Nb rfl) (Det.move rfl) ?_
      refine LAny.takeGP 10 rfl rfl rfl (by kernel_rfl) (Nb rfl) (Det.fieldA (o' := 9) Try.underlying27 rfl rfl rfl sz_25 (by decide)) ?_
      refine LAny.takeG 11 rfl rfl rfl (by kernel_rfl) (Nb rfl) (Det.load rfl (by repeat (first | exact Mh _ | apply Mt)) (by exact LoadV.last Try.underlying25 rfl sz_25 rfl (natL_length _) (natL_length _))) ?_
      refine LAny.takeGP 12 rfl rfl rfl (by kernel_rfl) (Nb rfl) (Det.move rfl) ?_
      refine LAny.takeGP 13 rfl rfl rfl (by kernel_rfl) (Nb rfl) (Det.nilCheck rfl) ?_
      refine LAny.takeGP 14 rfl rfl rfl (by kernel_rfl) (Nb rfl) (Det.fieldA (o' := 0) Try.underlying147 rfl rfl rfl sz_62 (by decide)) ?_
      refine LAny.takeGP 15 rfl rfl rfl (by kernel_rfl) (Nb rfl) (Det.fieldA (o' := 28) Try.underlying62 rfl rfl rfl sz_25 (by decide)) ?_
      refine LAny.takeG 16 rfl rfl rfl (by kernel_rfl) (Nb rfl) (Det.load rfl (by repeat (first | exact Mh _ | apply Mt)) (by exact cvC_ld_n _ _ _ _ _ _ _ _ _ _ _ _ _ _ _ _)) ?_
      refine LAny.oneG 17 rfl rfl rfl rfl (by kernel_rfl) (LStep.callF (first := []) rfl en_113 rfl (Nb rfl) (fun w hw => c_nat_Cmp (rawT V s) V.n hTw hnW w) ?_)
      refine LAny.takeGP 18 rfl rfl rfl (by kernel_rfl) (Nb rfl) (Det.bin (v := .bool false) rfl rfl (cmp_ge_f hl2)) ?_
      refine LAny.takeP 19 rfl (by kernel_rfl) (Nb rfl) (Det.pick_false rfl rfl) ?_
      refine LAny.done (by kernel_rfl) ?_
      refine LCode.cond_false rfl ?_
      refine LCode.skip ?_
      refine LCode.seq ?_
      refine LCode.region ?_
      refine LOps.det (Det.load rfl (by repeat (first | exact Mh _ | apply Mt)) (by exact LoadV.whole Try.underlying27 rfl sz_27)) (Nb rfl) ?_
      refine LOps.step rfl (LStepW.storeA rfl rfl sz_27 (by exact sgL_one _ _) (by repeat (first | exact Sh _ | apply St_)) (by exact sgL_length _ _) ?_)
      refine LOps.detP (Det.assign (v := .int .i64 ((0 : Nat) : Int)) rfl) (Nb rfl) ?_
      refine LOps.nil ?_
      refine LCode.ret ?_
      refine ⟨[_, _], .cons ⟨_, _, _, rfl, (by repeat (first | exact Mh _ | apply Mt)), by exact LoadV.whole Try.underlying27 rfl sz_27⟩ (.cons rfl .nil), fun a w' hr => ⟨?_, hr.fr.below⟩⟩
      unfold rawGet
      rw [if_neg (by omega), if_neg (by omega)]
      rfl
end Go.Proofs.Ytljblbgogjieaaa
set_option linter.unusedVariables false
set_option linter.unusedSimpArgs false
set_option maxRecDepth 20000
namespace Go.Proofs.Ytljblbgogjieaaa
open Go Go.RowKit
theorem c_Num (x : Int) (w : World)  : Calls Try.prog 46 ([.int .i64 x] : List Value).toArray w (fun e w' => e = .returned (.int .i64 x) ∧ Below w.heap.size w w') := by
  refine calls_ro (N := 4) (rs := [.tmp 2]) [] Try.func46 rfl Try.ntmps46 Try.results46 (Nb rfl) trivial rfl ?_
  show LCode _ _ _ ⟨_, _⟩ _
  refine LCode.seq ?_
  refine LCode.region ?_
  refine LOps.detP (Det.assign (v := .int .i64 ((0 : Nat) : Int)) rfl) (Nb rfl) ?_
  refine LOps.nil ?_
  refine LCode.seq ?_
  refine LCode.region ?_
  refine LOps.detP (Det.move rfl) (Nb rfl) ?_
  refine LOps.detP (Det.assign rfl) (Nb rfl) ?_
  refine LOps.nil ?_
  refine LCode.ret ?_
  refine ⟨[_], .cons rfl .nil, fun a w' hr => ⟨?_, hr.fr.below⟩⟩
  rfl
theorem one_cells9 {x : Nat} (hx : x < 18446744073709551616) : vec .u64 9 (fun j => if j = 0 then x else 0) = natL x := vec_congr fun i _ => by rw [limb_small hx]
theorem u64_w9 {x : Nat} (hx : x < 18446744073709551616) : x < W9 := by
  obtain ⟨k, hk⟩ : ∃ k : Nat, k = 9 := ⟨9, rfl⟩
  rw [← w9 hk]
  have h : x < 2 ^ 64 := hx
  exact Nat.lt_of_lt_of_le h (Nat.pow_le_pow_right (by decide) (by omega))
theorem c_One (x : Nat) (w : World) (hx : x < 18446744073709551616) : Calls Try.prog 55 ([.int .u64 ((x : Nat) : Int)] : List Value).toArray w (fun e w' => e = .returned (natV x) ∧ Below w.heap.size w w') := by
  refine calls_ro (N := 8) (rs := [.cell 2 25]) [] Try.func55 rfl Try.ntmps55 Try.results55 (Nb rfl) trivial rfl ?_
  show LCode _ _ _ ⟨_, _⟩ _
  refine LCode.seq ?_
  refine LCode.region ?_
  refine LOps.step rfl (LStep.w (LStep.makes (Makes.allocA zr_25) (Nb rfl) (fun b2 => ?_)))
  refine LOps.nil ?_
  refine LCode.seq ?_
  refine LCode.region ?_
  refine LOps.step rfl (LStep.w (LStep.makes (Makes.allocA zr_25) (Nb rfl) (fun b3 => ?_)))
  refine LOps.nil ?_
  refine LCode.seq ?_
  refine LCode.region ?_
  refine LOps.detP (Det.move rfl) (Nb rfl) ?_
  refine LOps.detP (Det.fieldA (o' := 0) Try.underlying25 rfl rfl rfl sz_23 (by decide)) (Nb rfl) ?_
  refine LOps.detP (Det.indexA0 (i := 0) Try.underlying23 sz_22 rfl rfl (by decide)) (Nb rfl) ?_
  refine LOps.step rfl (LStepW.store1 rfl rfl rfl sz_22 (by repeat (first | exact Sh _ | apply St_)) (by first | (simp only [vec_length, natL_length, wideL_length, dv_length]; omega) | (simp; omega)) (by first | exact vec_set _ _ _ _ _ | exact dv_setm _ _ _ _ (by omega) | exact dv_sets _ _ _ _ | rfl) (by simp) ?_)
  refine LOps.nil ?_
  refine LCode.seq ?_
  refine LCode.sub (Sub.cells (b := b3) (cs' := natL x) (by repeat (first | exact Sh _ | apply St_)) (one_cells9 hx)) ?_
  refine LCode.region ?_
  refine LOps.det (Det.load rfl (by repeat (first | exact Mh _ | apply Mt)) (by exact LoadV.whole Try.underlying25 rfl sz_25)) (Nb rfl) ?_
  refine LOps.step rfl (LStepW.storeA rfl rfl sz_25 (by repeat (first | exact natL_one _ | exact vec_one _ _ _ | exact wideL_one _ | exact ptL_one _ _ _ | exact pjL_one _ _ _ | exact allOne_nil | refine allOne_cons rfl ?_ | refine allOne_append ?_ ?_)) (by repeat (first | exact Sh _ | apply St_)) (by first | exact natL_length _ | exact vec_length _ _ _ | exact wideL_length _ | exact ptL_length _ _ _ | exact pjL_length _ _ _ | rfl | simp [vec_length, natL_length, wideL_length]) ?_)
  refine LOps.nil ?_
  refine LCode.ret ?_
  refine ⟨[_], .cons ⟨_, _, _, rfl, (by repeat (first | exact Mh _ | apply Mt)), by exact LoadV.whole Try.underlying25 rfl sz_25⟩ .nil, fun a w' hr => ⟨?_, hr.fr.below⟩⟩
  rfl
theorem eq_sig (R T R' T' : Nat) (hR : R < W9) (hT : T < W9) (hR' : R' < W9) (hT' : T' < W9) : EqD 4 Try.prog 27 (sgV R T) (sgV R' T') (decide (R = R') && (decide (T = T') && true)) := by
  have d1 : ∀ A B : Nat, ((sgL A B).drop 0).take 9 = natL A := fun A B => by
    rw [List.drop_zero]; unfold sgL; rw [List.take_left' (natL_length A)]
  have d2 : ∀ A B : Nat, ((sgL A B).drop 9).take 9 = natL B := fun A B => by
    unfold sgL; rw [List.drop_left' (natL_length A), take_all]
  exact EqD.struct (fs := [_, _]) Try.underlying27 (by kernel_rfl) (EqFs.cons (by decide) (PartOf.agg Try.underlying25 rfl sz_25 (d1 R T)) (PartOf.agg Try.underlying25 rfl sz_25 (d1 R' T')) (eq_nat R R' hR hR')
    (EqFs.cons (by decide) (PartOf.agg Try.underlying25 rfl sz_25 (d2 R T)) (PartOf.agg Try.underlying25 rfl sz_25 (d2 R' T')) (eq_nat T T' hT hT') EqFs.nil))
theorem zero_w9 : 0 < W9 := w9_pos
def rpS (V : Cv) (R T : Nat) : ByteArray := if V.n ≤ R ∨ V.n ≤ T then ⟨#[]⟩ else strOf (beBytes (nby V.n) R) ++ strOf (beBytes (nby V.n) T)
def rpE (V : Cv) (R T : Nat) : Nat := if V.n ≤ R ∨ V.n ≤ T then 2302 else 0
theorem rawPut_eq (V : Cv) (R T : Nat) : rawPut V R T = .tuple #[.string (rpS V R T), .int .i64 ((rpE V R T : Nat) : Int)] := by
  unfold rawPut rpS rpE
  split <;> rfl
def rgR (V : Cv) (s : ByteArray) : Nat := if s.size ≠ 2 * nby V.n then 0 else if V.n ≤ rawR V s ∨ V.n ≤ rawT V s then 0 else rawR V s
def rgT (V : Cv) (s : ByteArray) : Nat := if s.size ≠ 2 * nby V.n then 0 else if V.n ≤ rawR V s ∨ V.n ≤ rawT V s then 0 else rawT V s
def rgE (V : Cv) (s : ByteArray) : Nat := if s.size ≠ 2 * nby V.n then 2301 else if V.n ≤ rawR V s ∨ V.n ≤ rawT V s then 2302 else 0
theorem rawGet_eq (V : Cv) (s : ByteArray) : rawGet V s = .tuple #[sgV (rgR V s) (rgT V s), .int .i64 ((rgE V s : Nat) : Int)] := by
  unfold rawGet rgR rgT rgE
  split
  · rfl
  · split <;> rfl
theorem rg_lt (V : Cv) (hn : V.n < W9) (s : ByteArray) : rgR V s < W9 ∧ rgT V s < W9 := by
  have h0 := w9_pos
  unfold rgR rgT
  constructor
  · split
    · exact h0
    · split
      · exact h0
      · omega
  · split
    · exact h0
    · split
      · exact h0
      · omega
theorem c_raw_Put2 (id : Int) (V : Cv) (R T : Nat) (w : World) (h : cvI id = some V) (hR : R < W9) (hT : T < W9) : Calls Try.prog 44 ([.int .i64 id, sgV R T] : List Value).toArray w (fun e w' => e = .returned (.tuple #[.string (rpS V R T), .int .i64 ((rpE V R T : Nat) : Int)]) ∧ Below w.heap.size w w') := by
  rw [← rawPut_eq]; exact c_raw_Put id V R T w h hR hT
theorem c_raw_Get2 (id : Int) (V : Cv) (s : ByteArray) (w : World) (h : cvI id = some V) (hs : s.size < 9223372036854775808) : Calls Try.prog 45 ([.int .i64 id, .string s] : List Value).toArray w (fun e w' => e = .returned (.tuple #[sgV (rgR V s) (rgT V s), .int .i64 ((rgE V s : Nat) : Int)]) ∧ Below w.heap.size w w') := by
  rw [← rawGet_eq]; exact c_raw_Get id V s w h hs
theorem cv13_is : cvI 13 = some cv13 := rfl
theorem cv0_is : cvI 0 = none := rfl
theorem rp13 : (rpS cv13 3 222).data.toList = [3, 222] ∧ rpE cv13 3 222 = 0 := by
  constructor
  · unfold rpS
    rw [if_neg (by decide), ByteArray.toList_data_append]; rfl
  · rfl
theorem ext_data (s : ByteArray) (i j : Nat) : (s.extract i j).data.toList = (s.data.toList.take j).drop i := by
  rw [ByteArray.data_extract, Array.toList_extract]
  simp only [List.extract_eq_take_drop, List.take_drop]
  by_cases h : i ≤ j
  · rw [show i + (j - i) = j by omega]
  · rw [List.drop_of_length_le (by simp; omega), List.drop_of_length_le (by simp; omega)]
theorem rg13 {s : ByteArray} (h : s.data.toList = [3, 222]) : rgR cv13 s = 3 ∧ rgT cv13 s = 222 ∧ rgE cv13 s = 0 := by
  have hs : s.size = 2 := congrArg List.length h
  have hn : nby cv13.n = 1 := by rfl
  have e1 : rawR cv13 s = 3 := by unfold rawR; rw [ext_data, h, hn]; rfl
  have e2 : rawT cv13 s = 222 := by unfold rawT; rw [ext_data, h, hn, hs]; rfl
  unfold rgR rgT rgE
  rw [hs, hn, e1, e2]
  exact ⟨rfl, rfl, rfl⟩
theorem rg13' {s : ByteArray} (h : s.data.toList = [3, 223]) : rgE cv13 s = 2302 := by
  have hs : s.size = 2 := congrArg List.length h
  have hn : nby cv13.n = 1 := by rfl
  have e1 : rawR cv13 s = 3 := by unfold rawR; rw [ext_data, h, hn]; rfl
  have e2 : rawT cv13 s = 223 := by unfold rawT; rw [ext_data, h, hn, hs]; rfl
  unfold rgE
  rw [hs, hn, e1, e2]
  rfl
theorem c_awake23  (w : World)  : Calls Try.prog 47 ([] : List Value).toArray w (fun e w' => e = .returned (.bool true) ∧ Below w.heap.size w w') := by
  have hsz : (rpS cv13 3 222).size < 9223372036854775808 := by
    have : (rpS cv13 3 222).data.toList.length = 2 := by rw [rp13.1]; rfl
    show (rpS cv13 3 222).data.size < _
    rw [← Array.length_toList]; omega
  refine calls_ro (N := 59) (rs := [.tmp 0]) [] Try.func47 rfl Try.ntmps47 Try.results47 (Nb rfl) trivial rfl ?_
  show LCode _ _ _ ⟨_, _⟩ _
  refine LCode.seq ?_
  refine LCode.region ?_
  refine LOps.detP (Det.assign rfl) (Nb rfl) ?_
  refine LOps.nil ?_
  refine LCode.seq ?_
  refine LCode.region ?_
  refine LOps.step rfl (LStep.w (LStep.callF (first := []) rfl en_55 rfl (Nb rfl) (fun w hw => c_One _ w (by first | omega | decide)) ?_))
  refine LOps.step rfl (LStep.w (LStep.callF (first := []) rfl en_55 rfl (Nb rfl) (fun w hw => c_One _ w (by first | omega | decide)) ?_))
  refine LOps.detP (Slots.cast (Det.build pl_27 zr_27 rfl (fill_sg _ _)) rfl) (Nb rfl) ?_
  refine LOps.step rfl (LStep.w (LStep.callF (first := []) rfl en_44 rfl (Nb rfl) (fun w hw => c_raw_Put2 13 cv13 3 222 w cv13_is (u64_w9 (by decide)) (u64_w9 (by decide))) ?_))
  refine LOps.detP (Det.move rfl) (Nb rfl) ?_
  refine LOps.detP (Det.extract rfl rfl) (Nb rfl) ?_
  refine LOps.detP (Det.extract rfl rfl) (Nb rfl) ?_
  refine LOps.detP (Det.assign rfl) (Nb rfl) ?_
  refine LOps.detP (Det.assign rfl) (Nb rfl) ?_
  refine LOps.nil ?_
  refine LCode.seq ?_
  refine LCode.region ?_
  refine LOps.detP (Det.move rfl) (Nb rfl) ?_
  refine LOps.step rfl (LStep.w (LStep.callF (first := []) rfl en_45 rfl (Nb rfl) (fun w hw => c_raw_Get2 13 cv13 (rpS cv13 3 222) w cv13_is hsz) ?_))
  refine LOps.detP (Det.move rfl) (Nb rfl) ?_
  refine LOps.detP (Det.extract rfl rfl) (Nb rfl) ?_
  refine LOps.detP (Det.extract rfl rfl) (Nb rfl) ?_
  refine LOps.step rfl (LStep.w (LStep.makes (Makes.allocA zr_27) (Nb rfl) (fun b3 => ?_)))
  refine LOps.step rfl (LStepW.storeA rfl rfl sz_27 (by exact sgL_one _ _) (by repeat (first | exact Sh _ | apply St_)) (by exact sgL_length _ _) ?_)
  refine LOps.detP (Det.assign rfl) (Nb rfl) ?_
  refine LOps.nil ?_
  refine LCode.seq ?_
  refine LCode.region ?_
  refine LOps.step rfl (LStep.w (LStep.callF (first := []) rfl en_45 rfl (Nb rfl) (fun w hw => c_raw_Get2 13 cv13 ⟨#[3, 223]⟩ w cv13_is (by decide)) ?_))
  refine LOps.detP (Det.move rfl) (Nb rfl) ?_
  refine LOps.detP (Det.extract rfl rfl) (Nb rfl) ?_
  refine LOps.detP (Det.extract rfl rfl) (Nb rfl) ?_
  refine LOps.step rfl (LStep.w (LStep.makes (Makes.allocA zr_27) (Nb rfl) (fun b5 => ?_)))
  refine LOps.step rfl (LStepW.storeA rfl rfl sz_27 (by exact sgL_one _ _) (by repeat (first | exact Sh _ | apply St_)) (by exact sgL_length _ _) ?_)
  refine LOps.detP (Det.assign rfl) (Nb rfl) ?_
  refine LOps.nil ?_
  refine LCode.seq ?_
  refine LCode.region ?_
  refine LOps.detP (Slots.cast (Det.build pl_27 zr_27 rfl rfl) (show _ = sgV 0 0 from sg_zero)) (Nb rfl) ?_
  refine LOps.step rfl (LStep.w (LStep.callF (first := []) rfl en_44 rfl (Nb rfl) (fun w hw => c_raw_Put_none 0 0 0 w cv0_is) ?_))
  refine LOps.detP (Det.move rfl) (Nb rfl) ?_
  refine LOps.detP (Det.extract rfl rfl) (Nb rfl) ?_
  refine LOps.detP (Det.extract rfl rfl) (Nb rfl) ?_
  refine LOps.detP (Det.assign rfl) (Nb rfl) ?_
  refine LOps.detP (Det.assign rfl) (Nb rfl) ?_
  refine LOps.nil ?_
  refine LCode.seq ?_
  refine LCode.regionD [] (by kernel_rfl) ?_
  refine LAny.takeP 0 rfl (by kernel_rfl) (Nb rfl) (Det.move rfl) ?_
  refine LAny.takeP 1 rfl (by kernel_rfl) (Nb rfl) (Slots.cast (Det.eqs rfl rfl) (congrArg Value.bool (eq_str_t (rp13.1)))) ?_
  refine LAny.takeP 2 rfl (by kernel_rfl) (Nb rfl) (Det.move rfl) ?_
  refine LAny.takeGP 3 rfl rfl rfl (by kernel_rfl) (Nb rfl) (Det.move rfl) ?_
  refine LAny.oneG 4 rfl rfl rfl rfl (by kernel_rfl) (LStep.callF (first := []) rfl en_46 rfl (Nb rfl) (fun w hw => c_Num _ w) ?_)
  refine LAny.takeGP 5 rfl rfl rfl (by kernel_rfl) (Nb rfl) (Det.bin (v := .bool true) rfl rfl (br_t br_eql (rp13.2))) ?_
  refine LAny.takeP 6 rfl (by kernel_rfl) (Nb rfl) (Det.pick_true rfl rfl) ?_
  refine LAny.takeP 7 rfl (by kernel_rfl) (Nb rfl) (Det.move rfl) ?_
  refine LAny.takeG 8 rfl rfl rfl (by kernel_rfl) (Nb rfl) (Det.load rfl (by repeat (first | exact Mh _ | apply Mt)) (by exact LoadV.whole Try.underlying27 rfl sz_27)) ?_
  refine LAny.oneG 9 rfl rfl rfl rfl (by kernel_rfl) (LStep.callF (first := []) rfl en_55 rfl (Nb rfl) (fun w hw => c_One _ w (by first | omega | decide)) ?_)
  refine LAny.oneG 10 rfl rfl rfl rfl (by kernel_rfl) (LStep.callF (first := []) rfl en_55 rfl (Nb rfl) (fun w hw => c_One _ w (by first | omega | decide)) ?_)
  refine LAny.takeGP 11 rfl rfl rfl (by kernel_rfl) (Nb rfl) (Slots.cast (Det.build pl_27 zr_27 rfl (fill_sg _ _)) rfl) ?_
  refine LAny.takeGP 12 rfl rfl rfl (by kernel_rfl) (Nb rfl) (Slots.cast (Det.eqa (by kernel_rfl) (fun w => eq_sig (rgR cv13 (rpS cv13 3 222)) (rgT cv13 (rpS cv13 3 222)) 3 222 (rg_lt cv13 (u64_w9 (by decide)) _).1 (rg_lt cv13 (u64_w9 (by decide)) _).2 (u64_w9 (by decide)) (u64_w9 (by decide)) 10000 (by decide) w) rfl rfl) (show _ = Value.bool true by rw [(rg13 rp13.1).1, (rg13 rp13.1).2.1]; rfl)) ?_
  refine LAny.takeP 13 rfl (by kernel_rfl) (Nb rfl) (Det.pick_true rfl rfl) ?_
  refine LAny.takeP 14 rfl (by kernel_rfl) (Nb rfl) (Det.move rfl) ?_
  refine LAny.takeGP 15 rfl rfl rfl (by kernel_rfl) (Nb rfl) (Det.move rfl) ?_
  refine LAny.oneG 16 rfl rfl rfl rfl (by kernel_rfl) (LStep.callF (first := []) rfl en_46 rfl (Nb rfl) (fun w hw => c_Num _ w) ?_)
  refine LAny.takeGP 17 rfl rfl rfl (by kernel_rfl) (Nb rfl) (Det.bin (v := .bool true) rfl rfl (br_t br_eql ((rg13 rp13.1).2.2))) ?_
  refine LAny.takeP 18 rfl (by kernel_rfl) (Nb rfl) (Det.pick_true rfl rfl) ?_
  refine LAny.takeP 19 rfl (by kernel_rfl) (Nb rfl) (Det.move rfl) ?_
  refine LAny.takeGP 20 rfl rfl rfl (by kernel_rfl) (Nb rfl) (Det.move rfl) ?_
  refine LAny.oneG 21 rfl rfl rfl rfl (by kernel_rfl) (LStep.callF (first := []) rfl en_46 rfl (Nb rfl) (fun w hw => c_Num _ w) ?_)
  refine LAny.takeGP 22 rfl rfl rfl (by kernel_rfl) (Nb rfl) (Det.bin (v := .bool true) rfl rfl (br_t br_eql (rg13' rfl))) ?_
  refine LAny.takeP 23 rfl (by kernel_rfl) (Nb rfl) (Det.pick_true rfl rfl) ?_
  refine LAny.takeP 24 rfl (by kernel_rfl) (Nb rfl) (Det.move rfl) ?_
  refine LAny.takeGP 25 rfl rfl rfl (by kernel_rfl) (Nb rfl) (Det.move rfl) ?_
  refine LAny.oneG 26 rfl rfl rfl rfl (by kernel_rfl) (LStep.callF (first := []) rfl en_46 rfl (Nb rfl) (fun w hw => c_Num _ w) ?_)
  refine LAny.takeGP 27 rfl rfl rfl (by kernel_rfl) (Nb rfl) (Det.bin (v := .bool true) rfl rfl (br_t br_eql (rfl))) ?_
  refine LAny.takeP 28 rfl (by kernel_rfl) (Nb rfl) (Det.pick_true rfl rfl) ?_
  refine LAny.takeP 29 rfl (by kernel_rfl) (Nb rfl) (Det.assign rfl) ?_
  refine LAny.done (by kernel_rfl) ?_
  refine LCode.ret ?_
  refine ⟨[_], .cons rfl .nil, fun a w' hr => ⟨?_, hr.fr.below⟩⟩
  rfl
end Go.Proofs.Ytljblbgogjieaaa
set_option linter.unusedVariables false
namespace Go.Proofs.Ytljblbgogjieaaa.D
open Go Go.RowKit
theorem mod_nw (A : Nat) : A % 2 ^ (32 * nw A) = A := Nat.mod_eq_of_lt (lt_nw A)
theorem mod_zero_word (A B : Nat) : A % 2 ^ (32 * 0) * B = 0 := by rw [Nat.mul_zero, Nat.pow_zero, Nat.mod_one, Nat.zero_mul]
theorem guess_facts {U m a : Nat} (hm : m ≠ 0) (hU : U < dnm m * 2 ^ (32 * (a + 1))) :
    limb U (a + nw m) * 4294967296 + limb U (a + nw m - 1) = U / 2 ^ (32 * a) / 2 ^ (32 * (nw m - 1)) ∧ limb (dnm m) (nw m - 1) = dnm m / 2 ^ (32 * (nw m - 1)) ∧ 2147483648 ≤ limb (dnm m) (nw m - 1) ∧
    U / 2 ^ (32 * a) / dnm m ≤ U / 2 ^ (32 * a) / 2 ^ (32 * (nw m - 1)) / limb (dnm m) (nw m - 1) := by
  have hn := nw_pos hm
  have h1 := win_lt (dnm_lt m) hU
  rw [Nat.add_assoc] at h1
  have h2 := win_div h1
  obtain ⟨h3, h4⟩ := dnm_top hm
  refine ⟨?_, h3, h4, ?_⟩
  · rw [show a + nw m - 1 = a + (nw m - 1) by omega, ← limb_div, ← limb_div]
    have := two_words (R := U / 2 ^ (32 * a)) (j := nw m - 1) (by rw [show nw m - 1 + 2 = nw m + 1 by omega]; exact h2)
    rw [this, show nw m - 1 + 1 = nw m by omega]
  · rw [h3]
    apply div_cut (pow64_pos _)
    rw [← h3]; omega
theorem guess_step {U m a q r : Nat} (hm : m ≠ 0) (hn : 2 ≤ nw m) (h1 : q * limb (dnm m) (nw m - 1) + r = U / 2 ^ (32 * a) / 2 ^ (32 * (nw m - 1)))
    (h2 : r * 4294967296 + limb U (a + nw m - 2) < q * limb (dnm m) (nw m - 2)) : U / 2 ^ (32 * a) / dnm m < q := by
  refine guess_more (k := 2 ^ (32 * (nw m - 2))) (M := 4294967296) (pow64_pos _) (dnm_pos hm) (top := limb (dnm m) (nw m - 1)) (d2 := limb (dnm m) (nw m - 2)) ?_ (R2 := U / 2 ^ (32 * a) / 2 ^ (32 * (nw m - 1))) (u2 := limb U (a + nw m - 2)) ?_ h1 h2
  · have := two_words (R := dnm m) (j := nw m - 2) (by rw [show nw m - 2 + 2 = nw m by omega]; exact dnm_lt m)
    rw [this, show nw m - 2 + 1 = nw m - 1 by omega]
  · have := next_word (U / 2 ^ (32 * a)) (nw m - 2)
    rw [this, limb_div, show nw m - 2 + 1 = nw m - 1 by omega, show a + (nw m - 2) = a + nw m - 2 by omega]
theorem guess_next {top r q d2 u R2 : Nat} (h1 : q * top + r = R2) (h0 : 0 < q) : (q - 1) * top + (r + top) = R2 := by
  obtain ⟨p, rfl⟩ : ∃ p, q = p + 1 := ⟨q - 1, by omega⟩
  rw [Nat.add_mul] at h1
  rw [Nat.add_sub_cancel]; omega
theorem take_pre {U q D a : Nat} : U + q * (D % 2 ^ (32 * 0)) * 2 ^ (32 * a) = U + (0 + 0) * 2 ^ (32 * (a + 0)) := by
  rw [Nat.mul_zero, Nat.pow_zero, Nat.mod_one, Nat.mul_zero, Nat.zero_mul, Nat.zero_mul]
theorem back_pre {U D a : Nat} : U + 0 * 2 ^ (32 * (a + 0)) = U + (D % 2 ^ (32 * 0)) * 2 ^ (32 * a) := by
  rw [Nat.mul_zero, Nat.pow_zero, Nat.mod_one, Nat.zero_mul, Nat.zero_mul]
theorem quo_store {K x y : Nat} (hx : x < 4294967296) (j : Nat) : (if j = y then x else limb (K * 2 ^ (32 * (y + 1))) j) = limb ((K * 4294967296 + x) * 2 ^ (32 * y)) j := by
  have h0 : limb (K * 2 ^ (32 * (y + 1))) y = 0 := by
    unfold limb
    rw [pow64_succ, ← Nat.mul_assoc, Nat.mul_div_cancel _ (pow64_pos y), Nat.mul_mod_left]
  have := limb_addl (K * 2 ^ (32 * (y + 1))) x y j (by rw [h0]; omega)
  rw [h0, Nat.zero_add] at this
  rw [← this, Nat.add_mul, pow64_succ, Nat.mul_assoc]
theorem quo_sum {U U0 K x y D V : Nat} (h1 : U + x * D * 2 ^ (32 * y) = U0) (h2 : U0 + K * 2 ^ (32 * (y + 1)) * D = V) : U + (K * 4294967296 + x) * 2 ^ (32 * y) * D = V := by
  rw [← h2, ← h1, pow64_succ]
  generalize 2 ^ (32 * y) = A
  grind
theorem guess_bound {U m a q r : Nat} (hm : m ≠ 0) (hn : 2 ≤ nw m) (hq : q < 4294967296) (h1 : q * limb (dnm m) (nw m - 1) + r = U / 2 ^ (32 * a) / 2 ^ (32 * (nw m - 1)))
    (h2 : q * limb (dnm m) (nw m - 2) ≤ r * 4294967296 + limb U (a + nw m - 2)) : q ≤ U / 2 ^ (32 * a) / dnm m + 1 := by
  have hD := two_words (R := dnm m) (j := nw m - 2) (by rw [show nw m - 2 + 2 = nw m by omega]; exact dnm_lt m)
  rw [show nw m - 2 + 1 = nw m - 1 by omega] at hD
  have hR := next_word (U / 2 ^ (32 * a)) (nw m - 2)
  rw [limb_div, show nw m - 2 + 1 = nw m - 1 by omega, show a + (nw m - 2) = a + nw m - 2 by omega] at hR
  obtain ⟨ht1, ht2⟩ := dnm_top hm
  have hDp := dnm_pos hm
  have hk : 0 < 2 ^ (32 * (nw m - 2)) := pow64_pos _
  generalize hRe : U / 2 ^ (32 * a) = R at *
  generalize dnm m = D at *
  generalize 2 ^ (32 * (nw m - 2)) = k at *
  generalize limb D (nw m - 1) = v1 at *
  generalize limb D (nw m - 2) = v2 at *
  generalize limb U (a + nw m - 2) = u2 at *
  generalize R / 2 ^ (32 * (nw m - 1)) = x at *
  have h3 : q * (D / k) ≤ R / k := by
    rw [hD, hR, ← h1, Nat.mul_add, Nat.add_mul, ← Nat.mul_assoc]
    omega
  have h4 : q < D / k := by rw [hD]; omega
  have hD2 := Nat.div_add_mod D k
  have hD3 := Nat.mod_lt D hk
  have hR2 := Nat.div_mul_le_self R k
  have h5 : q * (D / k) * k ≤ R := Nat.le_trans (Nat.mul_le_mul_right k h3) hR2
  generalize D / k = V at *
  generalize D % k = d0 at *
  refine Nat.le_of_not_lt fun h => ?_
  have h6 : R < (R / D + 1) * D := by
    have e1 := Nat.div_add_mod R D
    have e2 := Nat.mod_lt R hDp
    rw [Nat.add_mul, Nat.one_mul, Nat.mul_comm (R / D)]; omega
  have h0 : R / D + 1 ≤ q - 1 := Nat.le_sub_one_of_lt h
  have h7 : (R / D + 1) * D ≤ (q - 1) * D := Nat.mul_le_mul_right D h0
  obtain ⟨p, rfl⟩ : ∃ p, q = p + 1 := ⟨q - 1, (Nat.sub_add_cancel (Nat.lt_of_le_of_lt (Nat.zero_le _) h)).symm⟩
  rw [Nat.add_sub_cancel] at h7
  have e3 : p * D = p * (k * V) + p * d0 := by rw [← Nat.mul_add, hD2]
  rw [e3] at h7
  have h8 : p * d0 ≤ p * k := Nat.mul_le_mul_left p (by omega)
  have h9 : p * k ≤ V * k := Nat.mul_le_mul_right k (by omega)
  rw [Nat.mul_comm k V, ← Nat.mul_assoc] at h7
  rw [Nat.add_mul, Nat.add_mul, Nat.one_mul] at h5
  generalize p * V * k = X at *
  generalize (R / D + 1) * D = Y at *
  generalize p * d0 = Z at *
  omega
theorem guess_top {U m a : Nat} (hm : m ≠ 0) (hU : U < dnm m * 2 ^ (32 * (a + 1))) : U / 2 ^ (32 * a) / 2 ^ (32 * (nw m - 1)) < (limb (dnm m) (nw m - 1) + 1) * 4294967296 := by
  have h1 : U / 2 ^ (32 * a) < dnm m * 4294967296 := by
    rw [Nat.div_lt_iff_lt_mul (pow64_pos a), Nat.mul_assoc, ← pow64_succ]; exact hU
  rw [(dnm_top hm).1, Nat.div_lt_iff_lt_mul (pow64_pos _)]
  refine Nat.lt_trans h1 ?_
  rw [Nat.mul_right_comm]
  refine Nat.mul_lt_mul_of_pos_right ?_ (by decide)
  rw [Nat.add_mul, Nat.one_mul]
  have := Nat.div_add_mod (dnm m) (2 ^ (32 * (nw m - 1)))
  have := Nat.mod_lt (dnm m) (pow64_pos (nw m - 1))
  rw [Nat.mul_comm]; omega
theorem guess_small {v q r x : Nat} (h1 : q * v + r = x) (h2 : x < (v + 1) * 4294967296) (h3 : 4294967296 ≤ r) : q < 4294967296 := by
  refine Nat.lt_of_not_le fun h => ?_
  have := Nat.mul_le_mul_right v h
  rw [Nat.add_mul, Nat.one_mul] at h2
  rw [Nat.mul_comm v] at h2
  omega
theorem back_enough {U' U0 D T d a c : Nat} (hD : 0 < D) (hc : c ≤ 1) (hd : d - 1 ≤ U0 / 2 ^ (32 * a) / D) (h : U' + (d - 1) * D * 2 ^ (32 * a) = U0 + (1 - c) * T) (hU : U' < T) : c = 1 := by
  rcases Nat.lt_or_ge c 1 with h0 | h0
  · exfalso
    have hc0 : c = 0 := by omega
    subst hc0
    have h1 : (d - 1) * D * 2 ^ (32 * a) ≤ U0 := by
      have h2 : (d - 1) * D ≤ U0 / 2 ^ (32 * a) := Nat.le_trans (Nat.mul_le_mul_right D hd) (Nat.div_mul_le_self _ _)
      exact Nat.le_trans (Nat.mul_le_mul_right _ h2) (Nat.div_mul_le_self _ _)
    omega
  · omega
theorem nw_dnm {m : Nat} (hm : m ≠ 0) : nw (dnm m) = nw m := nw_eq (dnm_lt m) (.inr (by
  have h1 := (dnm_top hm).2
  rw [(dnm_top hm).1] at h1
  have h2 := Nat.mul_le_mul_right (2 ^ (32 * (nw m - 1))) (Nat.le_trans (show 1 ≤ 2147483648 by decide) h1)
  rw [Nat.one_mul] at h2
  exact Nat.le_trans h2 (Nat.div_mul_le_self _ _)))
theorem limb_up_w (X w j : Nat) : limb (X * 2 ^ (32 * w)) j = if j < w then 0 else limb X (j - w) := by
  unfold limb
  by_cases h : j < w
  · rw [if_pos h]
    obtain ⟨d, rfl⟩ : ∃ d, w = j + (d + 1) := ⟨w - j - 1, by omega⟩
    rw [pow64_add, Nat.mul_comm (2 ^ (32 * j)), ← Nat.mul_assoc, Nat.mul_div_cancel _ (pow64_pos j), pow64_succ, Nat.mul_comm 4294967296, ← Nat.mul_assoc, Nat.mul_mod_left]
  · rw [if_neg h]
    obtain ⟨d, rfl⟩ : ∃ d, j = w + d := ⟨j - w, by omega⟩
    rw [pow64_add, ← Nat.div_div_eq_div_mul, Nat.mul_div_cancel _ (pow64_pos w), Nat.add_sub_cancel_left]
theorem shl_high {z s : Nat} (hs : s < 32) : z * 2 ^ s / 4294967296 = z / 2 ^ (32 - s) := by
  have e1 : (4294967296 : Nat) = 2 ^ s * 2 ^ (32 - s) := by rw [← Nat.pow_add, show s + (32 - s) = 32 by omega]
  rw [e1, ← Nat.div_div_eq_div_mul, Nat.mul_div_cancel _ (Nat.pow_pos (by decide))]
theorem shl_small {z s : Nat} (hs : s < 32) (hz : z < 4294967296) : z * 2 ^ s < 18446744073709551616 := by
  have h1 : 2 ^ s ≤ 2 ^ 31 := Nat.pow_le_pow_right (by decide) (by omega)
  have h2 := Nat.mul_le_mul (Nat.le_of_lt hz) h1
  omega
theorem shl_split (X k : Nat) : X * 2 ^ k = X * 2 ^ (k % 32) * 2 ^ (32 * (k / 32)) := by
  rw [Nat.mul_assoc, ← Nat.pow_add, show k % 32 + 32 * (k / 32) = k by omega]
theorem shl_step {A k i : Nat} (j : Nat) : limb (A % 2 ^ (32 * (i + 1)) * 2 ^ k) j =
    if j = i + k / 32 + 1 then limb A i * 2 ^ (k % 32) / 4294967296 else if j = i + k / 32 then (limb (A % 2 ^ (32 * i) * 2 ^ k) (i + k / 32) ||| limb A i * 2 ^ (k % 32) % 4294967296) else limb (A % 2 ^ (32 * i) * 2 ^ k) j := by
  have hs : k % 32 < 32 := Nat.mod_lt _ (by decide)
  rw [shl_split _ k, shl_split (A % 2 ^ (32 * i)) k, limb_up_w, limb_up_w, limb_up_w, shl_high hs, fill_step hs, if_neg (show ¬ (i + k / 32 < k / 32) by omega), Nat.add_sub_cancel]
  by_cases h : j < k / 32
  · rw [if_pos h, if_pos h, if_neg (by omega), if_neg (by omega)]
  · rw [if_neg h, if_neg h]
    by_cases h1 : j = i + k / 32 + 1
    · rw [if_pos h1, if_pos (by omega)]
    · rw [if_neg h1, if_neg (show ¬ j - k / 32 = i + 1 by omega)]
      by_cases h2 : j = i + k / 32
      · rw [if_pos h2, if_pos (by omega)]
      · rw [if_neg h2, if_neg (by omega)]
theorem shl_lt {A k : Nat} : A * 2 ^ k < 2 ^ (32 * (nw A + k / 32 + 1)) := by
  have h1 := Nat.mul_lt_mul_of_pos_right (lt_nw A) (Nat.pow_pos (n := k) (show 0 < 2 by decide))
  rw [← Nat.pow_add] at h1
  exact Nat.lt_of_lt_of_le h1 (Nat.pow_le_pow_right (by decide) (by omega))
theorem short_step {A m i K r : Nat} (hm : 0 < m) (h1 : K = A / 2 ^ (32 * (i + 1)) / m) (h2 : r = A / 2 ^ (32 * (i + 1)) % m) :
    (r * 4294967296 + limb A i) / m + K * 4294967296 = A / 2 ^ (32 * i) / m ∧ (r * 4294967296 + limb A i) % m = A / 2 ^ (32 * i) % m := by
  rw [div_pow_succ A i]
  generalize A / 2 ^ (32 * (i + 1)) = q at *
  have h3 := Nat.div_add_mod q m
  have e : limb A i + 4294967296 * q = (r * 4294967296 + limb A i) + m * (K * 4294967296) := by
    rw [h2, h1]
    conv => lhs; rw [← h3]
    rw [Nat.mul_add, ← Nat.mul_assoc m (q / m)]
    omega
  rw [e, Nat.add_mul_div_left _ _ hm, Nat.add_mul_mod_self_left]
  exact ⟨rfl, rfl⟩
end Go.Proofs.Ytljblbgogjieaaa.D
set_option linter.unusedVariables false
set_option linter.unusedSimpArgs false
namespace Go.Proofs.Ytljblbgogjieaaa
open Go Go.RowKit
theorem cellOf {w : World} {b : Nat} {cs : List Value} {e : TypeId} {fz : Nat × Nat} (h : w.heap[b]? = some (.cells cs.toArray e fz)) (o : Nat) : w.cell? ⟨b, o, none⟩ = cs[o]? := cell_of (B := ⟨true, cs, e, fz⟩) h o
theorem run_load_num {P : Program} {w : World} {q : NV} {A n m : Nat} (h : (numI q A n).holds w) (hm : m ≤ n) (h0 : 0 < n) : (loadCells ⟨q.b, 0, none⟩ m).run P w = .ok (vec .u32 m (D.limb A)).toArray w := by
  obtain ⟨rest, ty, fz, hb⟩ := (numI_get h).2 (pz_pos q h0).2.2
  have h1 := run_loadCells_list (P := P) w ⟨q.b, 0, none⟩ (vec .u32 m (D.limb A)) (fun j u hj => by
    have ha : (⟨q.b, 0, none⟩ : Addr).add j = ⟨q.b, 0 + j, none⟩ := by unfold Addr.add; split <;> simp_all
    rw [ha, cellOf hb, Nat.zero_add]
    have hj' : j < m := by
      rcases Nat.lt_or_ge j m with h' | h'
      · exact h'
      · rw [List.getElem?_eq_none (by rw [vec_length]; exact h')] at hj; cases hj
    rw [vec_get _ _ _ hj'] at hj
    rw [List.getElem?_append_left (by rw [vec_length]; omega), vec_get _ _ _ (by omega)]
    exact hj)
  rwa [vec_length] at h1
section
variable {P : Program} {C : Ctx} {ty : TypeId} {pos : String} {aft : Array Edge} {d : Nat} {x y z : Operand} {v u : Value} {t s e : TypeId} {K : St → Prop}
theorem LStepW.copyN {T : List (Nat × Value)} {H H' : List Item} {b l c n A u0 : Nat} {q : NV} {ats : List TypeId} {et : TypeId} {cs0 cs' : List Value} {g : Option (Nat × Bool)} (hx : evT T x = some (.slice (some ⟨b, 0, none⟩) l c)) (hy : evT T y = some (.slice (pz q n) n u0))
    (hat : ats[0]? = some t) (ht : P.underlying t = some (.slice e)) (he : szOf P e = some 1) (hq : numI q A n ∈ H) (hl : n ≤ l) (hlc : l ≤ cs0.length) (hd : d < C.N)
    (hs : SetAt b ⟨true, cs0, et, (0, 0)⟩ ⟨true, cs', et, (0, 0)⟩ H H') (hc' : splice cs0 0 (vec .u32 n (D.limb A)) = cs')
    (h : K ⟨(d, .int .i64 (n : Int)) :: T, H'⟩) : LStepW P C ⟨some d, .call { callee := .builtin .copy, args := #[x, y], argTypes := ats.toArray }, ty, pos, aft, g⟩ ⟨T, H⟩ K := by
  subst hc'
  unfold LStepW
  intro a w hr Qr
  have hb := hr.hp _ hs.mem
  have hn := hr.hp _ hq
  have hfc : (Builtin.firstCells 1 n (.slice (pz q n) n u0)).run P w = .ok (vec .u32 n (D.limb A)).toArray w := by
    rcases Nat.eq_zero_or_pos n with h0 | h0
    · subst h0
      cases hz : pz q 0 with
      | none => simp [Builtin.firstCells, vec]
      | some ad => simp [Builtin.firstCells, vec, loadCells, loadCellsFrom]
    · rw [(pz_pos q h0).1]
      simpa [Builtin.firstCells] using run_load_num (P := P) hn (Nat.le_refl n) h0
  obtain ⟨w', r, hx', hk, hz, ho, htp, hu⟩ := run_storeCells (P := P) b et (0, 0) (vec .u32 n (D.limb A)) 0 0 cs0 w hb (fun c hc => by
    obtain ⟨i, _, rfl⟩ := List.mem_map.1 hc
    rfl) (by rw [vec_length]; omega) (fun j hj => by simp)
  have hsz := run_sizeOf he w
  have hmin : Nat.min n l = n := Nat.min_eq_left hl
  unfold Oper.wp
  have hrun : (execOp a.eval ⟨some d, .call { callee := .builtin .copy, args := #[x, y], argTypes := ats.toArray }, ty, pos, aft, g⟩).run P w = .ok (.value (.int .i64 (n : Int))) w' := by
    simp [execOp, hr.ev hx, hr.ev hy, resolve, invoke, builtin, Builtin.copy_, hat, run_underlying ht, Builtin.lenOf, hmin, hsz, hfc, r, goInt]
  rw [hrun]
  exact ⟨_, h, (hr.setBlk hs rfl (by simpa [Item.holds] using hx') hk hz ho htp hu).put hd _⟩
theorem Det.loadF {st : St} {dd : Option Tmp} {g : Option (Nat × Bool)} {q : NV} {A n i : Nat} {D0 : TypeDesc} (hu : P.underlying t = some D0) (hn : notAgg D0 = true) (hx : evT st.T x = some (.pointer (some ⟨q.b, i, none⟩))) (hm : ∀ w, (∀ x, x ∈ st.H → x.holds w) → (numI q A n).holds w) (h : i < n) : Det P C ⟨dd, .load t x, ty, pos, aft, g⟩ st (.int .u32 (D.limb A i : Int)) := by
  unfold Det
  intro a w hr
  obtain ⟨rest, e', fz, hb⟩ := (numI_get (hm w hr.hp)).2 (pz_pos q h).2.2
  have hv : LoadV P t ⟨true, vec .u32 n (D.limb A) ++ rest, e', fz⟩ i (.int .u32 (D.limb A i : Int)) := LoadV.one hu hn (by
    show (vec .u32 n (D.limb A) ++ rest)[i]? = _
    rw [List.getElem?_append_left (by rw [vec_length]; exact h)]
    exact vec_get _ _ _ h)
  have hrun := hv.run (b := q.b) (w := w) hb
  simp [execOp, hr.ev hx, Instr.loadAt, Instr.sureAddr, hrun]
end
end Go.Proofs.Ytljblbgogjieaaa
set_option linter.unusedVariables false
set_option linter.unusedSimpArgs false
set_option maxRecDepth 20000
namespace Go.Proofs.Ytljblbgogjieaaa
open Go Go.RowKit
theorem c_n_Shl (q : NV) (A k : Nat) (w : World) (hq : (numT q A).holds w) (hA : D.nw A ≤ 1000000) (hk : k ≤ 32000000) : Calls Try.prog 75 ([numV q A, .int .i64 ((k : Nat) : Int)] : List Value).toArray w (fun e w' => NumR w ([]) (A * 2 ^ k) (fun v => v) e w') := by
  refine calls_ro (N := 58) (rs := [.tmp 4]) [numT q A] Try.func75 rfl Try.ntmps75 Try.results75 (Nb rfl) ⟨hq, trivial⟩ rfl ?_
  show LCode _ _ _ ⟨_, _⟩ _
  refine LCode.seq ?_
  refine LCode.region ?_
  refine LOps.detP (Det.assign rfl) (Nb rfl) ?_
  refine LOps.nil ?_
  refine LCode.seq ?_
  refine LCode.region ?_
  refine LOps.detP (Det.move rfl) (Nb rfl) ?_
  refine LOps.detP (Det.len Try.underlying29 rfl) (Nb rfl) ?_
  refine LOps.detP (Det.move rfl) (Nb rfl) ?_
  refine LOps.detP (Det.bin rfl rfl (br_quo (b := 32) (by omega) (by omega))) (Nb rfl) ?_
  refine LOps.detP (Det.bin rfl rfl (br_add (by omega))) (Nb rfl) ?_
  refine LOps.detP (Det.bin rfl rfl (br_add (b := 1) (by omega))) (Nb rfl) ?_
  refine LOps.step rfl (LStep.w (LStep.makes (Makes.mkV Try.underlying29 inf_56 rfl rfl (by omega) (by omega)) (Nb rfl) (fun b14 => ?_)))
  refine LOps.detP (Det.assign rfl) (Nb rfl) ?_
  refine LOps.nil ?_
  refine LCode.seq ?_
  refine LCode.seq ?_
  refine LCode.region ?_
  refine LOps.detP (Det.assign (v := .int .i64 ((0 : Nat) : Int)) rfl) (Nb rfl) ?_
  refine LOps.nil ?_
  refine LCode.block ?_
  refine LCode.loop (α := Nat) (fun x => x ≤ D.nw A) (fun x => ⟨[(0, numV q A), (1, .int .i64 ((k : Nat) : Int)), (5, .slice (some ⟨b14, 0, none⟩) (D.nw A + k / 32 + 1) (D.nw A + k / 32 + 1)), (6, .int .i64 ((x : Nat) : Int))], [.blk b14 ⟨true, vec .u32 (D.nw A + k / 32 + 1) (D.limb (A % 2 ^ (32 * x) * 2 ^ k)), 56, (0, 0)⟩, numT q A]⟩) (fun x => D.nw A - x) (0) (Nat.zero_le _) (Sub.re (Sub.cells (b := b14) (cs' := vec .u32 (D.nw A + k / 32 + 1) (D.limb (A % 2 ^ (32 * 0) * 2 ^ k))) (by repeat (first | exact Sh _ | apply St_)) (by rw [D.mod_zero_word]; exact D.vec_zeros _)) (Sub.mk ⟨rfl, rfl, rfl, rfl, trivial⟩ (by repeat (first | exact Sel.nil _ | refine Sel.cons (by repeat (first | exact Ph _ | apply Pt_)) ?_)))) ?_
  intro x hx
  refine LCode.seq ?_
  refine LCode.seq ?_
  refine LCode.region ?_
  refine LOps.detP (Det.move rfl) (Nb rfl) ?_
  refine LOps.detP (Det.move rfl) (Nb rfl) ?_
  refine LOps.detP (Det.len Try.underlying29 rfl) (Nb rfl) ?_
  refine LOps.detP (Det.bin rfl rfl (br_lss)) (Nb rfl) ?_
  refine LOps.nil ?_
  first | refine LCode.condD rfl (fun h18 => ?_) (fun h18 => ?_) | refine LCode.cond rfl (fun h18 => ?_) (fun h18 => ?_)
  ·
    have h18 : x < D.nw A := h18
    refine LCode.skip ?_
    refine LCode.seq ?_
    refine LCode.block ?_
    refine LCode.seq ?_
    have hla := D.limb_lt A x
    have hsm := D.shl_small (s := k % 32) (Nat.mod_lt _ (by decide)) hla
    have hst := D.shl_step (A := A) (k := k) (i := x)
    refine LCode.region ?_
    refine LOps.detP (Det.move rfl) (Nb rfl) ?_
    refine LOps.detP (Det.move rfl) (Nb rfl) ?_
    refine LOps.detP (Det.indexN Try.underlying29 sz_56 rfl rfl (by omega)) (Nb rfl) ?_
    refine LOps.det (Det.loadN Try.underlying56 rfl rfl (by repeat (first | exact Mh _ | apply Mt)) (by omega)) (Nb rfl) ?_
    refine LOps.detP (Det.conv64 Try.underlying56 Try.underlying22 rfl (by first | omega | exact Nat.lt_trans (D.limb_lt _ _) (by decide))) (Nb rfl) ?_
    refine LOps.detP (Det.move rfl) (Nb rfl) ?_
    refine LOps.detP (Det.bin rfl rfl (br_rem (b := 32) (by omega))) (Nb rfl) ?_
    refine LOps.detP (Slots.cast (Det.bin rfl rfl br_shl64) (vi (b := D.limb A x * 2 ^ (k % 32)) (Nat.mod_eq_of_lt hsm))) (Nb rfl) ?_
    refine LOps.detP (Det.assign rfl) (Nb rfl) ?_
    refine LOps.nil ?_
    refine LCode.seq ?_
    refine LCode.region ?_
    refine LOps.detP (Det.move rfl) (Nb rfl) ?_
    refine LOps.detP (Det.move rfl) (Nb rfl) ?_
    refine LOps.detP (Det.move rfl) (Nb rfl) ?_
    refine LOps.detP (Det.bin rfl rfl (br_quo (b := 32) (by omega) (by omega))) (Nb rfl) ?_
    refine LOps.detP (Det.bin rfl rfl (br_add (by omega))) (Nb rfl) ?_
    refine LOps.detP (Det.move rfl) (Nb rfl) ?_
    refine LOps.detP (Det.move rfl) (Nb rfl) ?_
    refine LOps.detP (Det.move rfl) (Nb rfl) ?_
    refine LOps.detP (Det.bin rfl rfl (br_quo (b := 32) (by omega) (by omega))) (Nb rfl) ?_
    refine LOps.detP (Det.bin rfl rfl (br_add (by omega))) (Nb rfl) ?_
    refine LOps.detP (Det.indexS0 Try.underlying29 sz_56 rfl rfl (by omega)) (Nb rfl) ?_
    refine LOps.det (Det.load rfl (by repeat (first | exact Mh _ | apply Mt)) (LoadV.one Try.underlying56 rfl (by exact vec_get _ _ _ (show x + k / 32 < D.nw A + k / 32 + 1 by omega)))) (Nb rfl) ?_
    refine LOps.detP (Det.move rfl) (Nb rfl) ?_
    refine LOps.detP (Det.bin rfl rfl (br_and64 (b := 4294967295) hsm (by decide))) (Nb rfl) ?_
    refine LOps.detP (Slots.cast (Det.conv32 Try.underlying22 Try.underlying56 rfl) (vi (b := D.limb A x * 2 ^ (k % 32) % 4294967296) (by rw [and32, Nat.mod_mod]))) (Nb rfl) ?_
    refine LOps.detP (Det.bin rfl rfl (br_or32 (D.limb_lt _ _) (Nat.mod_lt _ (by decide)))) (Nb rfl) ?_
    refine LOps.detP (Det.indexS0 Try.underlying29 sz_56 rfl rfl (by omega)) (Nb rfl) ?_
    refine LOps.step rfl (LStepW.store1 rfl rfl rfl sz_56 (by repeat (first | exact Sh _ | apply St_)) (by first | (simp only [vec_length, natL_length, wideL_length, dv_length]; omega) | (simp; omega)) (by first | exact vec_set _ _ _ _ _ | exact dv_setm _ _ _ _ (by omega) | exact dv_sets _ _ _ _ | rfl) (by simp) ?_)
    refine LOps.nil ?_
    refine LCode.region ?_
    refine LOps.detP (Det.move rfl) (Nb rfl) ?_
    refine LOps.detP (Det.move rfl) (Nb rfl) ?_
    refine LOps.detP (Det.move rfl) (Nb rfl) ?_
    refine LOps.detP (Det.bin rfl rfl (br_quo (b := 32) (by omega) (by omega))) (Nb rfl) ?_
    refine LOps.detP (Det.bin rfl rfl (br_add (by omega))) (Nb rfl) ?_
    refine LOps.detP (Det.bin rfl rfl (br_add (b := 1) (by omega))) (Nb rfl) ?_
    refine LOps.detP (Det.move rfl) (Nb rfl) ?_
    refine LOps.detP (Det.bin rfl rfl (br_shr64 (b := 32) hsm)) (Nb rfl) ?_
    refine LOps.detP (Slots.cast (Det.conv32 Try.underlying22 Try.underlying56 rfl) (vi (b := D.limb A x * 2 ^ (k % 32) / 4294967296) (by rw [show (2 : Nat) ^ 32 = 4294967296 from rfl]; omega))) (Nb rfl) ?_
    refine LOps.detP (Det.indexS0 Try.underlying29 sz_56 rfl rfl (by omega)) (Nb rfl) ?_
    refine LOps.step rfl (LStepW.store1 rfl rfl rfl sz_56 (by repeat (first | exact Sh _ | apply St_)) (by first | (simp only [vec_length, natL_length, wideL_length, dv_length]; omega) | (simp; omega)) (by first | exact vec_set _ _ _ _ _ | exact dv_setm _ _ _ _ (by omega) | exact dv_sets _ _ _ _ | rfl) (by simp) ?_)
    refine LOps.nil ?_
    refine LCode.region ?_
    refine LOps.detP (Det.move rfl) (Nb rfl) ?_
    refine LOps.detP (Det.bin rfl rfl (br_add (b := 1) (by omega))) (Nb rfl) ?_
    refine LOps.detP (Det.assign rfl) (Nb rfl) ?_
    refine LOps.nil ?_
    refine ⟨x + 1, by omega, by omega, Sub.re (Sub.cells (b := b14) (cs' := vec .u32 (D.nw A + k / 32 + 1) (D.limb (A % 2 ^ (32 * (x + 1)) * 2 ^ k))) (by repeat (first | exact Sh _ | apply St_)) (vec_congr fun j hj => (hst j).symm)) (Sub.mk ⟨rfl, rfl, rfl, rfl, trivial⟩ (by repeat (first | exact Sel.nil _ | refine Sel.cons (by repeat (first | exact Ph _ | apply Pt_)) ?_)))⟩
  ·
    have h18 : ¬ x < D.nw A := h18
    refine LCode.exit ?_
    refine LCode.seq ?_
    obtain rfl : x = D.nw A := by omega
    refine LCode.sub (Sub.cells (b := b14) (cs' := vec .u32 (D.nw A + k / 32 + 1) (D.limb (A * 2 ^ k))) (by repeat (first | exact Sh _ | apply St_)) (by rw [D.mod_nw])) ?_
    refine LCode.region ?_
    refine LOps.detP (Det.move rfl) (Nb rfl) ?_
    refine LOps.step rfl (LStep.w (LStep.callF (first := []) rfl en_120 rfl (Nb rfl) (fun w hw => c_trim (A * 2 ^ k) b14 (D.nw A + k / 32 + 1) (D.nw A + k / 32 + 1) (D.nw A + k / 32 + 1) _ true w (hw _ (by repeat (first | exact Mh _ | apply Mt))) (Nat.le_refl _) (Nat.le_refl _) (by omega) D.shl_lt) ?_))
    refine LOps.detP (Det.assign rfl) (Nb rfl) ?_
    refine LOps.nil ?_
    refine LCode.ret ?_
    refine ⟨[_], .cons rfl .nil, fun a w' hr => hr.num (by repeat (first | exact Mh _ | apply Mt)) (D.shl_lt)⟩
theorem Rel.num2 {w : World} {N : Nat} {st : St} {a : Act} {w' : World} {old : List Nat} {A n b c A' n' b' c' : Nat} {ty ty' : TypeId} {fz fz' : Nat × Nat} {mk : Value → Value → Value} (hr : Rel ⟨w, NoW, N⟩ st a w') (hm : Item.blk b ⟨true, vec .u32 n (D.limb A), ty, fz⟩ ∈ st.H) (hA : A < 2 ^ (32 * n))
    (hm' : Item.blk b' ⟨true, vec .u32 n' (D.limb A'), ty', fz'⟩ ∈ st.H) (hA' : A' < 2 ^ (32 * n')) : Num2R w old A A' mk (.returned (mk (.slice (some ⟨b, 0, none⟩) (D.nw A) c) (.slice (some ⟨b', 0, none⟩) (D.nw A') c'))) w' :=
  ⟨⟨false, b, c⟩, ⟨false, b', c'⟩, rfl, numT_blk (hr.hp _ hm) hA, NFr.blk _ (hr.new hm rfl), numT_blk (hr.hp _ hm') hA', NFr.blk _ (hr.new hm' rfl), hr.fr.below⟩
theorem shl32_eq {r : Nat} (h : r < 4294967296) : r * 2 ^ 32 % 18446744073709551616 = r * 4294967296 := by
  rw [show (2 : Nat) ^ 32 = 4294967296 from rfl]; omega
theorem shl32_lt {r : Nat} (h : r < 4294967296) : r * 4294967296 < 18446744073709551616 := by omega
theorem shl32_or {r l : Nat} (h : r < 4294967296) (hl : l < 4294967296) : (r * 4294967296 ||| l) = r * 4294967296 + l := by
  have := or_digits hl h
  rw [Nat.or_comm, Nat.mod_eq_of_lt (by omega)] at this
  omega
theorem vec_one_digit {A : Nat} (h : A < 4294967296) : [Value.int .u32 ((A : Nat) : Int)] = vec .u32 1 (D.limb A) := by
  have e : D.limb A 0 = A := by unfold D.limb; rw [Nat.mul_zero, Nat.pow_zero, Nat.div_one, Nat.mod_eq_of_lt h]
  simp [vec, e]
theorem c_n_short (q : NV) (A m : Nat) (w : World) (hq : (numT q A).holds w) (hA : D.nw A ≤ 1000000) (hm0 : 0 < m) (hm : m < 4294967296) : Calls Try.prog 153 ([numV q A, .int .u64 ((m : Nat) : Int)] : List Value).toArray w (fun e w' => Num2R w ([]) (A / m) (A % m) (fun u v => .tuple #[u, v]) e w') := by
  refine calls_ro (N := 44) (rs := [.tmp 4, .tmp 5]) [numT q A] Try.func153 rfl Try.ntmps153 Try.results153 (Nb rfl) ⟨hq, trivial⟩ rfl ?_
  show LCode _ _ _ ⟨_, _⟩ _
  refine LCode.seq ?_
  refine LCode.region ?_
  refine LOps.detP (Det.assign rfl) (Nb rfl) ?_
  refine LOps.detP (Det.assign rfl) (Nb rfl) ?_
  refine LOps.nil ?_
  refine LCode.seq ?_
  refine LCode.region ?_
  refine LOps.detP (Det.move rfl) (Nb rfl) ?_
  refine LOps.detP (Det.len Try.underlying29 rfl) (Nb rfl) ?_
  refine LOps.step rfl (LStep.w (LStep.makes (Makes.mkV Try.underlying29 inf_56 rfl rfl (by omega) (by omega)) (Nb rfl) (fun b12 => ?_)))
  refine LOps.detP (Det.assign rfl) (Nb rfl) ?_
  refine LOps.nil ?_
  refine LCode.seq ?_
  refine LCode.region ?_
  refine LOps.detP (Det.assign (v := .int .u64 ((0 : Nat) : Int)) rfl) (Nb rfl) ?_
  refine LOps.nil ?_
  refine LCode.seq ?_
  refine LCode.seq ?_
  refine LCode.region ?_
  refine LOps.detP (Det.move rfl) (Nb rfl) ?_
  refine LOps.detP (Det.len Try.underlying29 rfl) (Nb rfl) ?_
  refine LOps.detP (Det.bin (v := .int .i64 ((D.nw A : Int) - 1)) rfl rfl (br_subI (by omega) (by omega))) (Nb rfl) ?_
  refine LOps.detP (Det.assign rfl) (Nb rfl) ?_
  refine LOps.nil ?_
  refine LCode.block ?_
  refine LCode.loop (α := Nat) (fun x => x ≤ D.nw A) (fun x => ⟨[(0, numV q A), (1, .int .u64 ((m : Nat) : Int)), (6, .slice (some ⟨b12, 0, none⟩) (D.nw A) (D.nw A)), (7, .int .u64 ((A / 2 ^ (32 * x) % m : Nat) : Int)), (8, .int .i64 ((x : Int) - 1))], [.blk b12 ⟨true, vec .u32 (D.nw A) (D.limb (A / 2 ^ (32 * x) / m * 2 ^ (32 * x))), 56, (0, 0)⟩, numT q A]⟩) (fun x => x) (D.nw A) (Nat.le_refl _) (Sub.re (Sub.cells (b := b12) (cs' := vec .u32 (D.nw A) (D.limb (A / 2 ^ (32 * (D.nw A)) / m * 2 ^ (32 * (D.nw A))))) (by repeat (first | exact Sh _ | apply St_)) (by rw [Nat.div_eq_of_lt (D.lt_nw A), Nat.zero_div, Nat.zero_mul]; exact D.vec_zeros _)) (Sub.mk ⟨rfl, rfl, rfl, by rw [Nat.div_eq_of_lt (D.lt_nw A), Nat.zero_mod]; rfl, rfl, trivial⟩ (by repeat (first | exact Sel.nil _ | refine Sel.cons (by repeat (first | exact Ph _ | apply Pt_)) ?_)))) ?_
  intro x hx
  refine LCode.seq ?_
  refine LCode.seq ?_
  rcases Nat.eq_zero_or_pos x with h0 | h0
  ·
    refine LCode.region ?_
    refine LOps.detP (Det.move rfl) (Nb rfl) ?_
    refine LOps.detP (Det.bin (v := .bool false) rfl rfl (by subst h0; rfl)) (Nb rfl) ?_
    refine LOps.nil ?_
    refine LCode.cond_false rfl ?_
    refine LCode.exit ?_
    refine LCode.seq ?_
    have hm1 : A % m < m := Nat.mod_lt _ hm0
    refine LCode.sub (Sub.cells (b := b12) (cs' := vec .u32 (D.nw A) (D.limb (A / m))) (by repeat (first | exact Sh _ | apply St_)) (by subst h0; rw [Nat.mul_zero, Nat.pow_zero, Nat.div_one, Nat.mul_one])) ?_
    have hAm : A / m < 2 ^ (32 * D.nw A) := Nat.lt_of_le_of_lt (Nat.div_le_self _ _) (D.lt_nw A)
    refine LCode.region ?_
    refine LOps.detP (Det.move rfl) (Nb rfl) ?_
    refine LOps.step rfl (LStep.w (LStep.callF (first := []) rfl en_120 rfl (Nb rfl) (fun w hw => c_trim (A / m) b12 (D.nw A) (D.nw A) (D.nw A) _ true w (hw _ (by repeat (first | exact Mh _ | apply Mt))) (Nat.le_refl _) (Nat.le_refl _) (by omega) hAm) ?_))
    refine LOps.detP (Det.move rfl) (Nb rfl) ?_
    refine LOps.detP (Det.conv32 Try.underlying22 Try.underlying56 rfl) (Nb rfl) ?_
    refine LOps.step rfl (LStep.w (LStep.makes (Makes.rowN Try.underlying29 inf_56 rfl rfl rfl rfl (by decide) rfl) (Nb rfl) (fun b42 => ?_)))
    refine LOps.sub (Sub.cells (b := b42) (cs' := vec .u32 1 (D.limb (A % m))) (by repeat (first | exact Sh _ | apply St_)) ?_) ?_
    · subst h0
      rw [Nat.mul_zero, Nat.pow_zero, Nat.div_one, Nat.mod_eq_of_lt (show A % m < 2 ^ 32 by rw [show (2 : Nat) ^ 32 = 4294967296 from rfl]; omega)]
      exact vec_one_digit (by omega)
    refine LOps.step rfl (LStep.w (LStep.callF (first := []) rfl en_120 rfl (Nb rfl) (fun w hw => c_trim (A % m) b42 1 1 1 _ true w (hw _ (by repeat (first | exact Mh _ | apply Mt))) (Nat.le_refl _) (Nat.le_refl _) (by omega) (by omega)) ?_))
    refine LOps.detP (Det.assign rfl) (Nb rfl) ?_
    refine LOps.detP (Det.assign rfl) (Nb rfl) ?_
    refine LOps.nil ?_
    refine LCode.ret ?_
    refine ⟨[_, _], .cons rfl (.cons rfl .nil), fun a w' hr => hr.num2 (mk := fun u v => .tuple #[u, v]) (n := D.nw A) (n' := 1) (b := b12) (b' := b42) (ty := 56) (ty' := 56) (fz := (0, 0)) (fz' := (0, 0)) (by repeat (first | exact Mh _ | apply Mt)) hAm (by repeat (first | exact Mh _ | apply Mt)) (by omega)⟩
  ·
    obtain ⟨x, rfl⟩ : ∃ y, x = y + 1 := ⟨x - 1, by omega⟩
    have hla := D.limb_lt A x
    have hrm : A / 2 ^ (32 * (x + 1)) % m < m := Nat.mod_lt _ hm0
    obtain ⟨hs1, hs2⟩ := D.short_step (A := A) (i := x) hm0 rfl rfl
    have hqs : (A / 2 ^ (32 * (x + 1)) % m * 4294967296 + D.limb A x) / m < 4294967296 := by rw [Nat.div_lt_iff_lt_mul hm0]; have := Nat.mul_le_mul_left 4294967296 (show A / 2 ^ (32 * (x + 1)) % m + 1 ≤ m from hrm); omega
    refine LCode.region ?_
    refine LOps.detP (Det.move rfl) (Nb rfl) ?_
    refine LOps.detP (Det.bin (v := .bool true) rfl rfl (by simp [binRes] <;> omega)) (Nb rfl) ?_
    refine LOps.nil ?_
    refine LCode.cond_true rfl ?_
    refine LCode.skip ?_
    refine LCode.seq ?_
    refine LCode.block ?_
    refine LCode.seq ?_
    refine LCode.region ?_
    refine LOps.detP (Det.move rfl) (Nb rfl) ?_
    refine LOps.detP (Slots.cast (Det.bin rfl rfl br_shl64) (vi (b := A / 2 ^ (32 * (x + 1)) % m * 4294967296) (shl32_eq (Nat.lt_trans hrm hm)))) (Nb rfl) ?_
    refine LOps.detP (Det.move rfl) (Nb rfl) ?_
    refine LOps.detP (Det.move (v := .int .i64 ((x : Nat) : Int)) (by show some _ = some _; congr 2; omega)) (Nb rfl) ?_
    refine LOps.detP (Det.indexN Try.underlying29 sz_56 rfl rfl (by omega)) (Nb rfl) ?_
    refine LOps.det (Det.loadN Try.underlying56 rfl rfl (by repeat (first | exact Mh _ | apply Mt)) (by omega)) (Nb rfl) ?_
    refine LOps.detP (Det.conv64 Try.underlying56 Try.underlying22 rfl (by first | omega | exact Nat.lt_trans (D.limb_lt _ _) (by decide))) (Nb rfl) ?_
    refine LOps.detP (Slots.cast (Det.bin rfl rfl (br_or64 (shl32_lt (Nat.lt_trans hrm hm)) (Nat.lt_trans hla (by decide)))) (vi (b := A / 2 ^ (32 * (x + 1)) % m * 4294967296 + D.limb A x) (shl32_or (Nat.lt_trans hrm hm) hla))) (Nb rfl) ?_
    refine LOps.detP (Det.assign rfl) (Nb rfl) ?_
    refine LOps.nil ?_
    refine LCode.seq ?_
    refine LCode.region ?_
    refine LOps.detP (Det.move rfl) (Nb rfl) ?_
    refine LOps.detP (Det.move (v := .int .i64 ((x : Nat) : Int)) (by show some _ = some _; congr 2; omega)) (Nb rfl) ?_
    refine LOps.detP (Det.move rfl) (Nb rfl) ?_
    refine LOps.detP (Det.move rfl) (Nb rfl) ?_
    refine LOps.detP (Det.bin rfl rfl (br_quo64 (by omega) (by omega))) (Nb rfl) ?_
    refine LOps.detP (Slots.cast (Det.conv32 Try.underlying22 Try.underlying56 rfl) (vi (b := (A / 2 ^ (32 * (x + 1)) % m * 4294967296 + D.limb A x) / m) (Nat.mod_eq_of_lt hqs))) (Nb rfl) ?_
    refine LOps.detP (Det.indexS0 Try.underlying29 sz_56 rfl rfl (by omega)) (Nb rfl) ?_
    refine LOps.step rfl (LStepW.store1 rfl rfl rfl sz_56 (by repeat (first | exact Sh _ | apply St_)) (by first | (simp only [vec_length, natL_length, wideL_length, dv_length]; omega) | (simp; omega)) (by first | exact vec_set _ _ _ _ _ | exact dv_setm _ _ _ _ (by omega) | exact dv_sets _ _ _ _ | rfl) (by simp) ?_)
    refine LOps.nil ?_
    refine LCode.region ?_
    refine LOps.detP (Det.move rfl) (Nb rfl) ?_
    refine LOps.detP (Det.move rfl) (Nb rfl) ?_
    refine LOps.detP (Det.bin rfl rfl (br_rem64 (by omega))) (Nb rfl) ?_
    refine LOps.detP (Det.assign rfl) (Nb rfl) ?_
    refine LOps.nil ?_
    refine LCode.region ?_
    refine LOps.detP (Det.move (v := .int .i64 ((x : Nat) : Int)) (by show some _ = some _; congr 2; omega)) (Nb rfl) ?_
    refine LOps.detP (Det.bin rfl rfl rfl) (Nb rfl) ?_
    refine LOps.detP (Det.assign rfl) (Nb rfl) ?_
    refine LOps.nil ?_
    refine ⟨x, by omega, by omega, Sub.re (Sub.cells (b := b12) (cs' := vec .u32 (D.nw A) (D.limb (A / 2 ^ (32 * x) / m * 2 ^ (32 * x)))) (by repeat (first | exact Sh _ | apply St_)) (vec_congr fun j _ => ?_)) (Sub.mk ⟨rfl, rfl, rfl, congrArg (fun n : Nat => some (Value.int .u64 (n : Int))) hs2, ?_, trivial⟩ (by repeat (first | exact Sel.nil _ | refine Sel.cons (by repeat (first | exact Ph _ | apply Pt_)) ?_)))⟩
    · rw [← hs1, Nat.add_comm (_ / m)]
      exact D.quo_store hqs j
    · exact congrArg (fun i : Int => some (Value.int .i64 i)) (wrap_i64 (by omega) (by omega))
end Go.Proofs.Ytljblbgogjieaaa
set_option linter.unusedVariables false
set_option linter.unusedSimpArgs false
set_option maxRecDepth 20000
namespace Go.Proofs.Ytljblbgogjieaaa
open Go Go.RowKit
theorem br_add32d {a b : Nat} : binRes .add .u32 a .u32 b = some (.int .u32 (((a + b) % 4294967296 : Nat) : Int)) := by
  simp only [binRes, if_true]
  rw [show ((a : Int) + b) = ((a + b : Nat) : Int) by simp, wrap_u32_nat]
theorem guess_over {q v r u : Nat} (hq : q < 4294967296) (hv : v < 4294967296) (hr : 4294967296 ≤ r) : q * v ≤ r * 4294967296 + u := by
  have h1 := Nat.mul_le_mul (Nat.le_of_lt hq) (Nat.le_of_lt hv)
  have h2 := Nat.mul_le_mul_right 4294967296 hr
  omega
theorem mul_lt64 {q v : Nat} (hq : q < 4294967296) (hv : v < 4294967296) : q * v < 18446744073709551616 := by
  have h1 := Nat.mul_le_mul (show q ≤ 4294967295 by omega) (show v ≤ 4294967295 by omega)
  omega
theorem take_parts {l t b : Nat} (hl : l < 4294967296) (hb : b ≤ 1) : (l + 4294967296 - t % 4294967296 - b) % 4294967296 + t % 4294967296 + b = l + (1 - (l + 4294967296 - t % 4294967296 - b) / 4294967296) * 4294967296 := by omega
theorem take_parts2 {l c b : Nat} (hl : l < 4294967296) (hc : c < 4294967296) (hb : b ≤ 1) : (l + 4294967296 - c - b) % 4294967296 + c + b = l + (1 - (l + 4294967296 - c - b) / 4294967296) * 4294967296 := by omega
theorem c_n_step (qv : NV) (m U bu a l c : Nat) (hm0 : m ≠ 0) (w : World) (hbu : (Item.blk bu ⟨true, vec .u32 l (D.limb U), 56, (0, 0)⟩).holds w) (hv : (numI qv (D.dnm m) (D.nw m)).holds w) (hne : bu ∉ fpz qv (D.nw m)) (hn : 2 ≤ D.nw m) (hat : a + D.nw m < l) (hl : l ≤ 1000000) (hU : U < D.dnm m * 2 ^ (32 * (a + 1))) : Calls Try.prog 154 ([.slice (some ⟨bu, 0, none⟩) l c, slV qv (D.nw m), .int .i64 ((a : Nat) : Int)] : List Value).toArray w (fun e w' => ∃ v cs', (∃ q U', q < 4294967296 ∧ U' + q * D.dnm m * 2 ^ (32 * a) = U ∧ U' < D.dnm m * 2 ^ (32 * a) ∧ v = .int .u64 ((q : Nat) : Int) ∧ cs' = vec .u32 l (D.limb U')) ∧ e = .returned v ∧ (Item.blk bu ⟨true, cs', 56, (0, 0)⟩).holds w' ∧ Fr (fun k => k = bu) w w') := by
  refine calls_w1 (N := 200) (rs := [.tmp 6]) bu (vec .u32 l (D.limb U)) 56 (0, 0) [numI qv (D.dnm m) (D.nw m)] Try.func154 rfl Try.ntmps154 Try.results154 (Nb rfl) hbu ⟨hv, trivial⟩ rfl (by intro x hx; simp at hx; subst hx; exact hne) ?_
  show LCode _ _ _ ⟨_, _⟩ _
  refine LCode.seq ?_
  refine LCode.region ?_
  refine LOps.detP (Det.assign (v := .int .u64 ((0 : Nat) : Int)) rfl) (Nb rfl) ?_
  refine LOps.nil ?_
  refine LCode.seq ?_
  obtain ⟨hf1, hf2, hf3, hf4⟩ := D.guess_facts hm0 hU
  have hgt := D.guess_top hm0 hU
  have hql := D.quo_lt (D.dnm_pos hm0) hU
  have hUw := D.win_lt (D.dnm_lt m) hU
  have hqs : ∀ q r, q * D.limb (D.dnm m) (D.nw m - 1) + r = U / 2 ^ (32 * a) / 2 ^ (32 * (D.nw m - 1)) → r * 4294967296 + D.limb U (a + D.nw m - 2) < q * D.limb (D.dnm m) (D.nw m - 2) → U / 2 ^ (32 * a) / D.dnm m < q := fun q r => D.guess_step hm0 hn
  have hqb : ∀ q r, q < 4294967296 → q * D.limb (D.dnm m) (D.nw m - 1) + r = U / 2 ^ (32 * a) / 2 ^ (32 * (D.nw m - 1)) → q * D.limb (D.dnm m) (D.nw m - 2) ≤ r * 4294967296 + D.limb U (a + D.nw m - 2) → q ≤ U / 2 ^ (32 * a) / D.dnm m + 1 := fun q r => D.guess_bound hm0 hn
  have hXl : U / 2 ^ (32 * a) / 2 ^ (32 * (D.nw m - 1)) < 18446744073709551616 := by
    rw [← hf1]
    have g1 := D.limb_lt U (a + D.nw m)
    have g2 := D.limb_lt U (a + D.nw m - 1)
    omega
  have htl := D.limb_lt (D.dnm m) (D.nw m - 1)
  obtain ⟨XX, hX⟩ : ∃ XX, U / 2 ^ (32 * a) / 2 ^ (32 * (D.nw m - 1)) = XX := ⟨_, rfl⟩
  rw [hX] at hf1 hf4 hgt hXl
  simp only [hX] at hqs hqb
  obtain ⟨QT, hQ⟩ : ∃ QT, U / 2 ^ (32 * a) / D.dnm m = QT := ⟨_, rfl⟩
  rw [hQ] at hf4 hql
  simp only [hQ] at hqs hqb
  refine LCode.region ?_
  refine LOps.detP (Det.move rfl) (Nb rfl) ?_
  refine LOps.detP (Det.len Try.underlying29 rfl) (Nb rfl) ?_
  refine LOps.detP (Det.assign rfl) (Nb rfl) ?_
  refine LOps.nil ?_
  refine LCode.seq ?_
  refine LCode.regionD [] (by kernel_rfl) ?_
  refine LAny.takeP 0 rfl (by kernel_rfl) (Nb rfl) (Det.move rfl) ?_
  refine LAny.takeP 1 rfl (by kernel_rfl) (Nb rfl) (Det.move rfl) ?_
  refine LAny.takeP 2 rfl (by kernel_rfl) (Nb rfl) (Det.move rfl) ?_
  refine LAny.takeP 3 rfl (by kernel_rfl) (Nb rfl) (Det.bin rfl rfl (br_add (by omega))) ?_
  refine LAny.takeP 4 rfl (by kernel_rfl) (Nb rfl) (Det.indexS0 Try.underlying29 sz_56 rfl rfl (by omega)) ?_
  refine LAny.take 5 rfl (by kernel_rfl) (Nb rfl) (Det.load rfl (by repeat (first | exact Mh _ | apply Mt)) (LoadV.one Try.underlying56 rfl (by exact vec_get _ _ _ (show a + D.nw m < l by omega)))) ?_
  refine LAny.takeP 6 rfl (by kernel_rfl) (Nb rfl) (Det.conv64 Try.underlying56 Try.underlying22 rfl (by first | omega | exact Nat.lt_trans (D.limb_lt _ _) (by decide))) ?_
  refine LAny.takeP 7 rfl (by kernel_rfl) (Nb rfl) (Slots.cast (Det.bin rfl rfl br_shl64) (vi (b := D.limb U (a + D.nw m) * 4294967296) (shl32_eq (D.limb_lt _ _)))) ?_
  refine LAny.takeP 8 rfl (by kernel_rfl) (Nb rfl) (Det.move rfl) ?_
  refine LAny.takeP 9 rfl (by kernel_rfl) (Nb rfl) (Det.move rfl) ?_
  refine LAny.takeP 10 rfl (by kernel_rfl) (Nb rfl) (Det.move rfl) ?_
  refine LAny.takeP 11 rfl (by kernel_rfl) (Nb rfl) (Det.bin rfl rfl (br_add (by omega))) ?_
  refine LAny.takeP 12 rfl (by kernel_rfl) (Nb rfl) (Det.bin rfl rfl (br_sub (b := 1) (by omega) (by omega))) ?_
  refine LAny.takeP 13 rfl (by kernel_rfl) (Nb rfl) (Det.indexS0 Try.underlying29 sz_56 rfl rfl (by omega)) ?_
  refine LAny.take 14 rfl (by kernel_rfl) (Nb rfl) (Det.load rfl (by repeat (first | exact Mh _ | apply Mt)) (LoadV.one Try.underlying56 rfl (by exact vec_get _ _ _ (show a + D.nw m - 1 < l by omega)))) ?_
  refine LAny.takeP 15 rfl (by kernel_rfl) (Nb rfl) (Det.conv64 Try.underlying56 Try.underlying22 rfl (by first | omega | exact Nat.lt_trans (D.limb_lt _ _) (by decide))) ?_
  refine LAny.takeP 16 rfl (by kernel_rfl) (Nb rfl) (Slots.cast (Det.bin rfl rfl (br_or64 (shl32_lt (D.limb_lt _ _)) (Nat.lt_trans (D.limb_lt _ _) (by decide)))) (vi (b := XX) ((shl32_or (D.limb_lt _ _) (D.limb_lt _ _)).trans hf1))) ?_
  refine LAny.takeP 17 rfl (by kernel_rfl) (Nb rfl) (Det.assign rfl) ?_
  refine LAny.done (by kernel_rfl) ?_
  refine LCode.seq ?_
  refine LCode.regionD [] (by kernel_rfl) ?_
  refine LAny.takeP 0 rfl (by kernel_rfl) (Nb rfl) (Det.move rfl) ?_
  refine LAny.takeP 1 rfl (by kernel_rfl) (Nb rfl) (Det.move rfl) ?_
  refine LAny.takeP 2 rfl (by kernel_rfl) (Nb rfl) (Det.move rfl) ?_
  refine LAny.takeP 3 rfl (by kernel_rfl) (Nb rfl) (Det.bin rfl rfl (br_sub (b := 1) (by omega) (by omega))) ?_
  refine LAny.takeP 4 rfl (by kernel_rfl) (Nb rfl) (Det.indexN Try.underlying29 sz_56 rfl rfl (by omega)) ?_
  refine LAny.take 5 rfl (by kernel_rfl) (Nb rfl) (Det.loadN Try.underlying56 rfl rfl (by repeat (first | exact Mh _ | apply Mt)) (by omega)) ?_
  refine LAny.takeP 6 rfl (by kernel_rfl) (Nb rfl) (Det.conv64 Try.underlying56 Try.underlying22 rfl (by first | omega | exact Nat.lt_trans (D.limb_lt _ _) (by decide))) ?_
  refine LAny.takeP 7 rfl (by kernel_rfl) (Nb rfl) (Det.bin rfl rfl (br_quo64 (by omega) hXl)) ?_
  refine LAny.takeP 8 rfl (by kernel_rfl) (Nb rfl) (Det.move rfl) ?_
  refine LAny.takeP 9 rfl (by kernel_rfl) (Nb rfl) (Det.move rfl) ?_
  refine LAny.takeP 10 rfl (by kernel_rfl) (Nb rfl) (Det.move rfl) ?_
  refine LAny.takeP 11 rfl (by kernel_rfl) (Nb rfl) (Det.bin rfl rfl (br_sub (b := 1) (by omega) (by omega))) ?_
  refine LAny.takeP 12 rfl (by kernel_rfl) (Nb rfl) (Det.indexN Try.underlying29 sz_56 rfl rfl (by omega)) ?_
  refine LAny.take 13 rfl (by kernel_rfl) (Nb rfl) (Det.loadN Try.underlying56 rfl rfl (by repeat (first | exact Mh _ | apply Mt)) (by omega)) ?_
  refine LAny.takeP 14 rfl (by kernel_rfl) (Nb rfl) (Det.conv64 Try.underlying56 Try.underlying22 rfl (by first | omega | exact Nat.lt_trans (D.limb_lt _ _) (by decide))) ?_
  refine LAny.takeP 15 rfl (by kernel_rfl) (Nb rfl) (Det.bin rfl rfl (br_rem64 (by omega))) ?_
  refine LAny.takeP 16 rfl (by kernel_rfl) (Nb rfl) (Det.assign rfl) ?_
  refine LAny.takeP 17 rfl (by kernel_rfl) (Nb rfl) (Det.assign rfl) ?_
  refine LAny.done (by kernel_rfl) ?_
  refine LCode.cut (α := Nat) (fun d => d < 4294967296 ∧ QT ≤ d ∧ d ≤ QT + 1) (fun d => ⟨[(0, .slice (some ⟨bu, 0, none⟩) l c), (1, slV qv (D.nw m)), (2, .int .i64 ((a : Nat) : Int)), (7, .int .i64 ((D.nw m : Nat) : Int)), (9, .int .u64 ((d : Nat) : Int))], [.blk bu ⟨true, vec .u32 l (D.limb U), 56, (0, 0)⟩, numI qv (D.dnm m) (D.nw m)]⟩) ?_ ?_
  ·
    refine LCode.block ?_
    refine LCode.loop (α := Nat × Nat) (fun x => x.1 * D.limb (D.dnm m) (D.nw m - 1) + x.2 = XX ∧ QT ≤ x.1 ∧ x.1 < 18446744073709551616 ∧ x.2 < 4294967296) (fun x => ⟨[(0, .slice (some ⟨bu, 0, none⟩) l c), (1, slV qv (D.nw m)), (2, .int .i64 ((a : Nat) : Int)), (7, .int .i64 ((D.nw m : Nat) : Int)), (9, .int .u64 ((x.1 : Nat) : Int)), (10, .int .u64 ((x.2 : Nat) : Int))], [.blk bu ⟨true, vec .u32 l (D.limb U), 56, (0, 0)⟩, numI qv (D.dnm m) (D.nw m)]⟩) (fun x => x.1) ((XX / D.limb (D.dnm m) (D.nw m - 1), XX % D.limb (D.dnm m) (D.nw m - 1))) (⟨by rw [Nat.mul_comm]; exact Nat.div_add_mod _ _, hf4, Nat.lt_of_le_of_lt (Nat.div_le_self _ _) hXl, Nat.lt_trans (Nat.mod_lt _ (by omega)) htl⟩) (Sub.mk ⟨rfl, rfl, rfl, rfl, rfl, rfl, trivial⟩ (by repeat (first | exact Sel.nil _ | refine Sel.cons (by repeat (first | exact Ph _ | apply Pt_)) ?_))) ?_
    intro x ⟨hx1, hx2, hx3, hx4⟩
    refine LCode.seq ?_
    refine LCode.seq ?_
    rcases Nat.lt_or_ge x.1 4294967296 with h4 | h4
    ·
      refine LCode.regionD [] (by kernel_rfl) ?_
      refine LAny.takeP 0 rfl (by kernel_rfl) (Nb rfl) (Det.move rfl) ?_
      refine LAny.takeP 1 rfl (by kernel_rfl) (Nb rfl) (Det.bin rfl rfl (br_f (br_geq (b := 4294967296)) (Nat.not_le_of_lt h4))) ?_
      refine LAny.takeP 2 rfl (by kernel_rfl) (Nb rfl) (Det.move rfl) ?_
      refine LAny.takeGP 3 rfl rfl rfl (by kernel_rfl) (Nb rfl) (Det.move rfl) ?_
      refine LAny.takeGP 4 rfl rfl rfl (by kernel_rfl) (Nb rfl) (Det.move rfl) ?_
      refine LAny.takeGP 5 rfl rfl rfl (by kernel_rfl) (Nb rfl) (Det.move rfl) ?_
      refine LAny.takeGP 6 rfl rfl rfl (by kernel_rfl) (Nb rfl) (Det.bin rfl rfl (br_sub (b := 2) (by omega) (by omega))) ?_
      refine LAny.takeGP 7 rfl rfl rfl (by kernel_rfl) (Nb rfl) (Det.indexN Try.underlying29 sz_56 rfl rfl (by omega)) ?_
      refine LAny.takeG 8 rfl rfl rfl (by kernel_rfl) (Nb rfl) (Det.loadN Try.underlying56 rfl rfl (by repeat (first | exact Mh _ | apply Mt)) (by omega)) ?_
      refine LAny.takeGP 9 rfl rfl rfl (by kernel_rfl) (Nb rfl) (Det.conv64 Try.underlying56 Try.underlying22 rfl (by first | omega | exact Nat.lt_trans (D.limb_lt _ _) (by decide))) ?_
      refine LAny.takeGP 10 rfl rfl rfl (by kernel_rfl) (Nb rfl) (Slots.cast (Det.bin rfl rfl br_mul64) (vi (b := x.1 * D.limb (D.dnm m) (D.nw m - 2)) (Nat.mod_eq_of_lt (mul_lt64 h4 (D.limb_lt _ _))))) ?_
      refine LAny.takeGP 11 rfl rfl rfl (by kernel_rfl) (Nb rfl) (Det.move rfl) ?_
      refine LAny.takeGP 12 rfl rfl rfl (by kernel_rfl) (Nb rfl) (Slots.cast (Det.bin rfl rfl br_shl64) (vi (b := x.2 * 4294967296) (shl32_eq hx4))) ?_
      refine LAny.takeGP 13 rfl rfl rfl (by kernel_rfl) (Nb rfl) (Det.move rfl) ?_
      refine LAny.takeGP 14 rfl rfl rfl (by kernel_rfl) (Nb rfl) (Det.move rfl) ?_
      refine LAny.takeGP 15 rfl rfl rfl (by kernel_rfl) (Nb rfl) (Det.move rfl) ?_
      refine LAny.takeGP 16 rfl rfl rfl (by kernel_rfl) (Nb rfl) (Det.bin rfl rfl (br_add (by omega))) ?_
      refine LAny.takeGP 17 rfl rfl rfl (by kernel_rfl) (Nb rfl) (Det.bin rfl rfl (br_sub (b := 2) (by omega) (by omega))) ?_
      refine LAny.takeGP 18 rfl rfl rfl (by kernel_rfl) (Nb rfl) (Det.indexS0 Try.underlying29 sz_56 rfl rfl (by omega)) ?_
      refine LAny.takeG 19 rfl rfl rfl (by kernel_rfl) (Nb rfl) (Det.load rfl (by repeat (first | exact Mh _ | apply Mt)) (LoadV.one Try.underlying56 rfl (by exact vec_get _ _ _ (show a + D.nw m - 2 < l by omega)))) ?_
      refine LAny.takeGP 20 rfl rfl rfl (by kernel_rfl) (Nb rfl) (Det.conv64 Try.underlying56 Try.underlying22 rfl (by first | omega | exact Nat.lt_trans (D.limb_lt _ _) (by decide))) ?_
      refine LAny.takeGP 21 rfl rfl rfl (by kernel_rfl) (Nb rfl) (Slots.cast (Det.bin rfl rfl (br_or64 (shl32_lt hx4) (Nat.lt_trans (D.limb_lt _ _) (by decide)))) (vi (b := x.2 * 4294967296 + D.limb U (a + D.nw m - 2)) (shl32_or hx4 (D.limb_lt _ _)))) ?_
      refine LAny.takeGP 22 rfl rfl rfl (by kernel_rfl) (Nb rfl) (Det.bin rfl rfl (br_gtr)) ?_
      refine LAny.takeP 23 rfl (by kernel_rfl) (Nb rfl) (Det.pick_false rfl rfl) ?_
      refine LAny.done (by kernel_rfl) ?_
      first | refine LCode.condD rfl (fun h77 => ?_) (fun h77 => ?_) | refine LCode.cond rfl (fun h77 => ?_) (fun h77 => ?_)
      ·
        have hq := hqs _ _ hx1 h77
        have hq0 : 0 < x.1 := Nat.lt_of_le_of_lt (Nat.zero_le _) hq
        have hn1 := D.guess_next (d2 := 0) (u := 0) hx1 hq0
        have hq1 : QT ≤ x.1 - 1 := Nat.le_sub_one_of_lt hq
        refine LCode.skip ?_
        refine LCode.block ?_
        refine LCode.seq ?_
        refine LCode.region ?_
        refine LOps.detP (Det.move rfl) (Nb rfl) ?_
        refine LOps.detP (Slots.cast (Det.bin rfl rfl (br_sub64 (b := 1) (by decide))) (vi (b := x.1 - 1) (by omega))) (Nb rfl) ?_
        refine LOps.detP (Det.assign rfl) (Nb rfl) ?_
        refine LOps.nil ?_
        refine LCode.seq ?_
        refine LCode.region ?_
        refine LOps.detP (Det.move rfl) (Nb rfl) ?_
        refine LOps.detP (Det.move rfl) (Nb rfl) ?_
        refine LOps.detP (Det.move rfl) (Nb rfl) ?_
        refine LOps.detP (Det.bin rfl rfl (br_sub (b := 1) (by omega) (by omega))) (Nb rfl) ?_
        refine LOps.detP (Det.indexN Try.underlying29 sz_56 rfl rfl (by omega)) (Nb rfl) ?_
        refine LOps.det (Det.loadN Try.underlying56 rfl rfl (by repeat (first | exact Mh _ | apply Mt)) (by omega)) (Nb rfl) ?_
        refine LOps.detP (Det.conv64 Try.underlying56 Try.underlying22 rfl (by first | omega | exact Nat.lt_trans (D.limb_lt _ _) (by decide))) (Nb rfl) ?_
        refine LOps.detP (Slots.cast (Det.bin rfl rfl br_add64) (vi (b := x.2 + D.limb (D.dnm m) (D.nw m - 1)) (by omega))) (Nb rfl) ?_
        refine LOps.detP (Det.assign rfl) (Nb rfl) ?_
        refine LOps.nil ?_
        refine LCode.seq ?_
        refine LCode.region ?_
        refine LOps.detP (Det.move rfl) (Nb rfl) ?_
        refine LOps.detP (Det.bin rfl rfl (br_geq (b := 4294967296))) (Nb rfl) ?_
        refine LOps.nil ?_
        first | refine LCode.condD rfl (fun h89 => ?_) (fun h89 => ?_) | refine LCode.cond rfl (fun h89 => ?_) (fun h89 => ?_)
        ·
          have h89 : 4294967296 ≤ x.2 + D.limb (D.dnm m) (D.nw m - 1) := h89
          have hs1 := D.guess_small hn1 hgt h89
          refine LCode.exit ?_
          exact ⟨x.1 - 1, ⟨hs1, hq1, hqb _ _ hs1 hn1 (guess_over hs1 (D.limb_lt _ _) h89)⟩, Sub.mk ⟨rfl, rfl, rfl, rfl, rfl, trivial⟩ (by repeat (first | exact Sel.nil _ | refine Sel.cons (by repeat (first | exact Ph _ | apply Pt_)) ?_))⟩
        ·
          have h89 : ¬ 4294967296 ≤ x.2 + D.limb (D.dnm m) (D.nw m - 1) := h89
          refine LCode.skip ?_
          refine ⟨(x.1 - 1, x.2 + D.limb (D.dnm m) (D.nw m - 1)), ⟨hn1, hq1, by dsimp only; omega, by dsimp only; omega⟩, by dsimp only; omega, Sub.mk ⟨rfl, rfl, rfl, rfl, rfl, rfl, trivial⟩ (by repeat (first | exact Sel.nil _ | refine Sel.cons (by repeat (first | exact Ph _ | apply Pt_)) ?_))⟩
      ·
        have h77 : ¬ x.2 * 4294967296 + D.limb U (a + D.nw m - 2) < x.1 * D.limb (D.dnm m) (D.nw m - 2) := h77
        refine LCode.exit ?_
        exact ⟨x.1, ⟨h4, hx2, hqb _ _ h4 hx1 (Nat.le_of_not_lt h77)⟩, Sub.mk ⟨rfl, rfl, rfl, rfl, rfl, trivial⟩ (by repeat (first | exact Sel.nil _ | refine Sel.cons (by repeat (first | exact Ph _ | apply Pt_)) ?_))⟩
    ·
      refine LCode.regionD [] (by kernel_rfl) ?_
      refine LAny.takeP 0 rfl (by kernel_rfl) (Nb rfl) (Det.move rfl) ?_
      refine LAny.takeP 1 rfl (by kernel_rfl) (Nb rfl) (Det.bin rfl rfl (br_t (br_geq (b := 4294967296)) h4)) ?_
      refine LAny.takeP 2 rfl (by kernel_rfl) (Nb rfl) (Det.move rfl) ?_
      refine LAny.skip 3 rfl rfl rfl rfl (by kernel_rfl) (Nb rfl) ?_
      refine LAny.skip 4 rfl rfl rfl rfl (by kernel_rfl) (Nb rfl) ?_
      refine LAny.skip 5 rfl rfl rfl rfl (by kernel_rfl) (Nb rfl) ?_
      refine LAny.skip 6 rfl rfl rfl rfl (by kernel_rfl) (Nb rfl) ?_
      refine LAny.skip 7 rfl rfl rfl rfl (by kernel_rfl) (Nb rfl) ?_
      refine LAny.skip 8 rfl rfl rfl rfl (by kernel_rfl) (Nb rfl) ?_
      refine LAny.skip 9 rfl rfl rfl rfl (by kernel_rfl) (Nb rfl) ?_
      refine LAny.skip 10 rfl rfl rfl rfl (by kernel_rfl) (Nb rfl) ?_
      refine LAny.skip 11 rfl rfl rfl rfl (by kernel_rfl) (Nb rfl) ?_
      refine LAny.skip 12 rfl rfl rfl rfl (by kernel_rfl) (Nb rfl) ?_
      refine LAny.skip 13 rfl rfl rfl rfl (by kernel_rfl) (Nb rfl) ?_
      refine LAny.skip 14 rfl rfl rfl rfl (by kernel_rfl) (Nb rfl) ?_
      refine LAny.skip 15 rfl rfl rfl rfl (by kernel_rfl) (Nb rfl) ?_
      refine LAny.skip 16 rfl rfl rfl rfl (by kernel_rfl) (Nb rfl) ?_
      refine LAny.skip 17 rfl rfl rfl rfl (by kernel_rfl) (Nb rfl) ?_
      refine LAny.skip 18 rfl rfl rfl rfl (by kernel_rfl) (Nb rfl) ?_
      refine LAny.skip 19 rfl rfl rfl rfl (by kernel_rfl) (Nb rfl) ?_
      refine LAny.skip 20 rfl rfl rfl rfl (by kernel_rfl) (Nb rfl) ?_
      refine LAny.skip 21 rfl rfl rfl rfl (by kernel_rfl) (Nb rfl) ?_
      refine LAny.skip 22 rfl rfl rfl rfl (by kernel_rfl) (Nb rfl) ?_
      refine LAny.takeP 23 rfl (by kernel_rfl) (Nb rfl) (Det.pick_true rfl rfl) ?_
      refine LAny.done (by kernel_rfl) ?_
      have hq : QT < x.1 := Nat.lt_of_lt_of_le hql h4
      have hq0 : 0 < x.1 := Nat.lt_of_le_of_lt (Nat.zero_le _) hq
      have hn1 := D.guess_next (d2 := 0) (u := 0) hx1 hq0
      have hq1 : QT ≤ x.1 - 1 := Nat.le_sub_one_of_lt hq
      refine LCode.cond_true rfl ?_
      refine LCode.skip ?_
      refine LCode.block ?_
      refine LCode.seq ?_
      refine LCode.region ?_
      refine LOps.detP (Det.move rfl) (Nb rfl) ?_
      refine LOps.detP (Slots.cast (Det.bin rfl rfl (br_sub64 (b := 1) (by decide))) (vi (b := x.1 - 1) (by omega))) (Nb rfl) ?_
      refine LOps.detP (Det.assign rfl) (Nb rfl) ?_
      refine LOps.nil ?_
      refine LCode.seq ?_
      refine LCode.region ?_
      refine LOps.detP (Det.move rfl) (Nb rfl) ?_
      refine LOps.detP (Det.move rfl) (Nb rfl) ?_
      refine LOps.detP (Det.move rfl) (Nb rfl) ?_
      refine LOps.detP (Det.bin rfl rfl (br_sub (b := 1) (by omega) (by omega))) (Nb rfl) ?_
      refine LOps.detP (Det.indexN Try.underlying29 sz_56 rfl rfl (by omega)) (Nb rfl) ?_
      refine LOps.det (Det.loadN Try.underlying56 rfl rfl (by repeat (first | exact Mh _ | apply Mt)) (by omega)) (Nb rfl) ?_
      refine LOps.detP (Det.conv64 Try.underlying56 Try.underlying22 rfl (by first | omega | exact Nat.lt_trans (D.limb_lt _ _) (by decide))) (Nb rfl) ?_
      refine LOps.detP (Slots.cast (Det.bin rfl rfl br_add64) (vi (b := x.2 + D.limb (D.dnm m) (D.nw m - 1)) (by omega))) (Nb rfl) ?_
      refine LOps.detP (Det.assign rfl) (Nb rfl) ?_
      refine LOps.nil ?_
      refine LCode.seq ?_
      refine LCode.region ?_
      refine LOps.detP (Det.move rfl) (Nb rfl) ?_
      refine LOps.detP (Det.bin rfl rfl (br_geq (b := 4294967296))) (Nb rfl) ?_
      refine LOps.nil ?_
      first | refine LCode.condD rfl (fun h89 => ?_) (fun h89 => ?_) | refine LCode.cond rfl (fun h89 => ?_) (fun h89 => ?_)
      ·
        have h89 : 4294967296 ≤ x.2 + D.limb (D.dnm m) (D.nw m - 1) := h89
        have hs1 := D.guess_small hn1 hgt h89
        refine LCode.exit ?_
        exact ⟨x.1 - 1, ⟨hs1, hq1, hqb _ _ hs1 hn1 (guess_over hs1 (D.limb_lt _ _) h89)⟩, Sub.mk ⟨rfl, rfl, rfl, rfl, rfl, trivial⟩ (by repeat (first | exact Sel.nil _ | refine Sel.cons (by repeat (first | exact Ph _ | apply Pt_)) ?_))⟩
      ·
        have h89 : ¬ 4294967296 ≤ x.2 + D.limb (D.dnm m) (D.nw m - 1) := h89
        refine LCode.skip ?_
        refine ⟨(x.1 - 1, x.2 + D.limb (D.dnm m) (D.nw m - 1)), ⟨hn1, hq1, by dsimp only; omega, by dsimp only; omega⟩, by dsimp only; omega, Sub.mk ⟨rfl, rfl, rfl, rfl, rfl, rfl, trivial⟩ (by repeat (first | exact Sel.nil _ | refine Sel.cons (by repeat (first | exact Ph _ | apply Pt_)) ?_))⟩
  ·
    rintro d ⟨hd1, hd2, hd3⟩
    refine LCode.seq ?_
    refine LCode.region ?_
    refine LOps.detP (Det.assign (v := .int .u64 ((0 : Nat) : Int)) rfl) (Nb rfl) ?_
    refine LOps.detP (Det.assign (v := .int .u64 ((0 : Nat) : Int)) rfl) (Nb rfl) ?_
    refine LOps.nil ?_
    refine LCode.seq ?_
    refine LCode.seq ?_
    refine LCode.region ?_
    refine LOps.detP (Det.assign (v := .int .i64 ((0 : Nat) : Int)) rfl) (Nb rfl) ?_
    refine LOps.nil ?_
    refine LCode.block ?_
    refine LCode.loop (α := Nat × Nat × Nat × Nat) (fun x => x.1 ≤ D.nw m ∧ x.2.2.1 ≤ 1 ∧ x.2.2.2 < 4294967296 ∧ x.2.1 < 2 ^ (32 * (a + D.nw m + 1)) ∧ x.2.1 + d * (D.dnm m % 2 ^ (32 * x.1)) * 2 ^ (32 * a) = U + (x.2.2.1 + x.2.2.2) * 2 ^ (32 * (a + x.1))) (fun x => ⟨[(0, .slice (some ⟨bu, 0, none⟩) l c), (1, slV qv (D.nw m)), (2, .int .i64 ((a : Nat) : Int)), (7, .int .i64 ((D.nw m : Nat) : Int)), (9, .int .u64 ((d : Nat) : Int)), (11, .int .u64 ((x.2.2.2 : Nat) : Int)), (12, .int .u64 ((x.2.2.1 : Nat) : Int)), (13, .int .i64 ((x.1 : Nat) : Int))], [.blk bu ⟨true, vec .u32 l (D.limb x.2.1), 56, (0, 0)⟩, numI qv (D.dnm m) (D.nw m)]⟩) (fun x => D.nw m - x.1) ((0, U, 0, 0)) (⟨Nat.zero_le _, Nat.zero_le _, show (0 : Nat) < 4294967296 by decide, hUw, D.take_pre⟩) (Sub.mk ⟨rfl, rfl, rfl, rfl, rfl, rfl, rfl, rfl, trivial⟩ (by repeat (first | exact Sel.nil _ | refine Sel.cons (by repeat (first | exact Ph _ | apply Pt_)) ?_))) ?_
    intro x ⟨hx1, hx2, hx3, hx4, hx5⟩
    refine LCode.seq ?_
    refine LCode.seq ?_
    refine LCode.region ?_
    refine LOps.detP (Det.move rfl) (Nb rfl) ?_
    refine LOps.detP (Det.move rfl) (Nb rfl) ?_
    refine LOps.detP (Det.bin rfl rfl (br_lss)) (Nb rfl) ?_
    refine LOps.nil ?_
    first | refine LCode.condD rfl (fun h92 => ?_) (fun h92 => ?_) | refine LCode.cond rfl (fun h92 => ?_) (fun h92 => ?_)
    ·
      have h92 : x.1 < D.nw m := h92
      refine LCode.skip ?_
      refine LCode.seq ?_
      refine LCode.block ?_
      refine LCode.seq ?_
      have hlv := D.limb_lt (D.dnm m) x.1
      have hlx := D.limb_lt x.2.1 (a + x.1)
      have hw : d * D.limb (D.dnm m) x.1 + x.2.2.2 < 18446744073709551616 := D.mul_word hd1 hlv hx3
      refine LCode.region ?_
      refine LOps.detP (Det.move rfl) (Nb rfl) ?_
      refine LOps.detP (Det.move rfl) (Nb rfl) ?_
      refine LOps.detP (Det.move rfl) (Nb rfl) ?_
      refine LOps.detP (Det.indexN Try.underlying29 sz_56 rfl rfl (by omega)) (Nb rfl) ?_
      refine LOps.det (Det.loadN Try.underlying56 rfl rfl (by repeat (first | exact Mh _ | apply Mt)) (by omega)) (Nb rfl) ?_
      refine LOps.detP (Det.conv64 Try.underlying56 Try.underlying22 rfl (by first | omega | exact Nat.lt_trans (D.limb_lt _ _) (by decide))) (Nb rfl) ?_
      refine LOps.detP (Slots.cast (Det.bin rfl rfl br_mul64) (vi (b := d * D.limb (D.dnm m) x.1) (Nat.mod_eq_of_lt (mul_lt64 hd1 (D.limb_lt _ _))))) (Nb rfl) ?_
      refine LOps.detP (Det.move rfl) (Nb rfl) ?_
      refine LOps.detP (Slots.cast (Det.bin rfl rfl br_add64) (vi (b := d * D.limb (D.dnm m) x.1 + x.2.2.2) (Nat.mod_eq_of_lt hw))) (Nb rfl) ?_
      refine LOps.detP (Det.assign rfl) (Nb rfl) ?_
      refine LOps.nil ?_
      refine LCode.seq ?_
      refine LCode.region ?_
      refine LOps.detP (Det.move rfl) (Nb rfl) ?_
      refine LOps.detP (Det.bin rfl rfl (br_shr64 (b := 32) hw)) (Nb rfl) ?_
      refine LOps.detP (Det.assign rfl) (Nb rfl) ?_
      refine LOps.nil ?_
      refine LCode.seq ?_
      refine LCode.region ?_
      refine LOps.detP (Det.move rfl) (Nb rfl) ?_
      refine LOps.detP (Det.move rfl) (Nb rfl) ?_
      refine LOps.detP (Det.move rfl) (Nb rfl) ?_
      refine LOps.detP (Slots.cast (Det.bin rfl rfl (br_add (by omega))) (vi (b := a + x.1) (by omega))) (Nb rfl) ?_
      refine LOps.detP (Det.indexS0 Try.underlying29 sz_56 rfl rfl (by omega)) (Nb rfl) ?_
      refine LOps.det (Det.load rfl (by repeat (first | exact Mh _ | apply Mt)) (LoadV.one Try.underlying56 rfl (by exact vec_get _ _ _ (show a + x.1 < l by omega)))) (Nb rfl) ?_
      refine LOps.detP (Det.conv64 Try.underlying56 Try.underlying22 rfl (by first | omega | exact Nat.lt_trans (D.limb_lt _ _) (by decide))) (Nb rfl) ?_
      refine LOps.detP (Slots.cast (Det.bin rfl rfl (br_add64 (b := 4294967296))) (vi (b := D.limb x.2.1 (a + x.1) + 4294967296) (by omega))) (Nb rfl) ?_
      refine LOps.detP (Det.move rfl) (Nb rfl) ?_
      refine LOps.detP (Slots.cast (Det.bin rfl rfl (br_and64 hw (by decide))) (vi (b := (d * D.limb (D.dnm m) x.1 + x.2.2.2) % 4294967296) (and32 _))) (Nb rfl) ?_
      refine LOps.detP (Slots.cast (Det.bin rfl rfl (br_sub64 (by omega))) (vi (b := D.limb x.2.1 (a + x.1) + 4294967296 - (d * D.limb (D.dnm m) x.1 + x.2.2.2) % 4294967296) (by omega))) (Nb rfl) ?_
      refine LOps.detP (Det.move rfl) (Nb rfl) ?_
      refine LOps.detP (Slots.cast (Det.bin rfl rfl (br_sub64 (by omega))) (vi (b := D.limb x.2.1 (a + x.1) + 4294967296 - (d * D.limb (D.dnm m) x.1 + x.2.2.2) % 4294967296 - x.2.2.1) (by omega))) (Nb rfl) ?_
      refine LOps.detP (Det.assign rfl) (Nb rfl) ?_
      refine LOps.nil ?_
      refine LCode.seq ?_
      refine LCode.region ?_
      refine LOps.detP (Det.move rfl) (Nb rfl) ?_
      refine LOps.detP (Det.move rfl) (Nb rfl) ?_
      refine LOps.detP (Det.move rfl) (Nb rfl) ?_
      refine LOps.detP (Slots.cast (Det.bin rfl rfl (br_add (by omega))) (vi (b := a + x.1) (by omega))) (Nb rfl) ?_
      refine LOps.detP (Det.move rfl) (Nb rfl) ?_
      refine LOps.detP (Slots.cast (Det.bin rfl rfl (br_and64 (by omega) (by decide))) (vi (b := (D.limb x.2.1 (a + x.1) + 4294967296 - (d * D.limb (D.dnm m) x.1 + x.2.2.2) % 4294967296 - x.2.2.1) % 4294967296) (and32 _))) (Nb rfl) ?_
      refine LOps.detP (Slots.cast (Det.conv32 Try.underlying22 Try.underlying56 rfl) (vi (b := (D.limb x.2.1 (a + x.1) + 4294967296 - (d * D.limb (D.dnm m) x.1 + x.2.2.2) % 4294967296 - x.2.2.1) % 4294967296) (Nat.mod_mod _ _))) (Nb rfl) ?_
      refine LOps.detP (Det.indexS0 Try.underlying29 sz_56 rfl rfl (by omega)) (Nb rfl) ?_
      refine LOps.step rfl (LStepW.store1 rfl rfl rfl sz_56 (by repeat (first | exact Sh _ | apply St_)) (by first | (simp only [vec_length, natL_length, wideL_length, dv_length]; omega) | (simp; omega)) (by first | exact vec_set _ _ _ _ _ | exact dv_setm _ _ _ _ (by omega) | exact dv_sets _ _ _ _ | rfl) (by simp) ?_)
      refine LOps.nil ?_
      refine LCode.region ?_
      refine LOps.detP (Det.move rfl) (Nb rfl) ?_
      refine LOps.detP (Det.bin rfl rfl (br_shr64 (b := 32) (by omega))) (Nb rfl) ?_
      refine LOps.detP (Slots.cast (Det.bin rfl rfl (br_sub64 (a := 1) (by omega))) (vi (b := 1 - (D.limb x.2.1 (a + x.1) + 4294967296 - (d * D.limb (D.dnm m) x.1 + x.2.2.2) % 4294967296 - x.2.2.1) / 4294967296) (by rw [show (2 : Nat) ^ 32 = 4294967296 from rfl]; omega))) (Nb rfl) ?_
      refine LOps.detP (Det.assign rfl) (Nb rfl) ?_
      refine LOps.nil ?_
      refine LCode.region ?_
      refine LOps.detP (Det.move rfl) (Nb rfl) ?_
      refine LOps.detP (Det.bin rfl rfl (br_add (b := 1) (by omega))) (Nb rfl) ?_
      refine LOps.detP (Det.assign rfl) (Nb rfl) ?_
      refine LOps.nil ?_
      refine ⟨(x.1 + 1, D.setl x.2.1 (a + x.1) ((D.limb x.2.1 (a + x.1) + 4294967296 - (d * D.limb (D.dnm m) x.1 + x.2.2.2) % 4294967296 - x.2.2.1) % 4294967296), 1 - (D.limb x.2.1 (a + x.1) + 4294967296 - (d * D.limb (D.dnm m) x.1 + x.2.2.2) % 4294967296 - x.2.2.1) / 4294967296, (d * D.limb (D.dnm m) x.1 + x.2.2.2) / 4294967296), ⟨by dsimp only; omega, by dsimp only; omega, by dsimp only; omega, D.setl_lt hx4 (by omega) (Nat.mod_lt _ (by decide)), D.take_step hx5 rfl (take_parts hlx hx2)⟩, by dsimp only; omega,
        Sub.re (Sub.cells (b := bu) (cs' := vec .u32 l (D.limb (D.setl x.2.1 (a + x.1) ((D.limb x.2.1 (a + x.1) + 4294967296 - (d * D.limb (D.dnm m) x.1 + x.2.2.2) % 4294967296 - x.2.2.1) % 4294967296)))) (by repeat (first | exact Sh _ | apply St_)) (D.vec_setl (Nat.mod_lt _ (by decide)))) (Sub.mk ⟨rfl, rfl, rfl, rfl, rfl, rfl, rfl, rfl, trivial⟩ (by repeat (first | exact Sel.nil _ | refine Sel.cons (by repeat (first | exact Ph _ | apply Pt_)) ?_)))⟩
    ·
      have h92 : ¬ x.1 < D.nw m := h92
      have he : x.1 = D.nw m := by omega
      rw [he] at hx5
      refine LCode.exit ?_
      refine LCode.seq ?_
      have hlx := D.limb_lt x.2.1 (a + D.nw m)
      refine LCode.region ?_
      refine LOps.detP (Det.move rfl) (Nb rfl) ?_
      refine LOps.detP (Det.move rfl) (Nb rfl) ?_
      refine LOps.detP (Det.move rfl) (Nb rfl) ?_
      refine LOps.detP (Det.bin rfl rfl (br_add (by omega))) (Nb rfl) ?_
      refine LOps.detP (Det.indexS0 Try.underlying29 sz_56 rfl rfl (by omega)) (Nb rfl) ?_
      refine LOps.det (Det.load rfl (by repeat (first | exact Mh _ | apply Mt)) (LoadV.one Try.underlying56 rfl (by exact vec_get _ _ _ (show a + D.nw m < l by omega)))) (Nb rfl) ?_
      refine LOps.detP (Det.conv64 Try.underlying56 Try.underlying22 rfl (by first | omega | exact Nat.lt_trans (D.limb_lt _ _) (by decide))) (Nb rfl) ?_
      refine LOps.detP (Slots.cast (Det.bin rfl rfl (br_add64 (b := 4294967296))) (vi (b := D.limb x.2.1 (a + D.nw m) + 4294967296) (by omega))) (Nb rfl) ?_
      refine LOps.detP (Det.move rfl) (Nb rfl) ?_
      refine LOps.detP (Slots.cast (Det.bin rfl rfl (br_sub64 (by omega))) (vi (b := D.limb x.2.1 (a + D.nw m) + 4294967296 - x.2.2.2) (by omega))) (Nb rfl) ?_
      refine LOps.detP (Det.move rfl) (Nb rfl) ?_
      refine LOps.detP (Slots.cast (Det.bin rfl rfl (br_sub64 (by omega))) (vi (b := D.limb x.2.1 (a + D.nw m) + 4294967296 - x.2.2.2 - x.2.2.1) (by omega))) (Nb rfl) ?_
      refine LOps.detP (Det.assign rfl) (Nb rfl) ?_
      refine LOps.nil ?_
      refine LCode.seq ?_
      refine LCode.region ?_
      refine LOps.detP (Det.move rfl) (Nb rfl) ?_
      refine LOps.detP (Det.move rfl) (Nb rfl) ?_
      refine LOps.detP (Det.move rfl) (Nb rfl) ?_
      refine LOps.detP (Det.bin rfl rfl (br_add (by omega))) (Nb rfl) ?_
      refine LOps.detP (Det.move rfl) (Nb rfl) ?_
      refine LOps.detP (Slots.cast (Det.bin rfl rfl (br_and64 (by omega) (by decide))) (vi (b := (D.limb x.2.1 (a + D.nw m) + 4294967296 - x.2.2.2 - x.2.2.1) % 4294967296) (and32 _))) (Nb rfl) ?_
      refine LOps.detP (Slots.cast (Det.conv32 Try.underlying22 Try.underlying56 rfl) (vi (b := (D.limb x.2.1 (a + D.nw m) + 4294967296 - x.2.2.2 - x.2.2.1) % 4294967296) (Nat.mod_mod _ _))) (Nb rfl) ?_
      refine LOps.detP (Det.indexS0 Try.underlying29 sz_56 rfl rfl (by omega)) (Nb rfl) ?_
      refine LOps.step rfl (LStepW.store1 rfl rfl rfl sz_56 (by repeat (first | exact Sh _ | apply St_)) (by first | (simp only [vec_length, natL_length, wideL_length, dv_length]; omega) | (simp; omega)) (by first | exact vec_set _ _ _ _ _ | exact dv_setm _ _ _ _ (by omega) | exact dv_sets _ _ _ _ | rfl) (by simp) ?_)
      refine LOps.nil ?_
      refine LCode.seq ?_
      refine LCode.seq ?_
      refine LCode.region ?_
      refine LOps.detP (Det.move rfl) (Nb rfl) ?_
      refine LOps.detP (Det.bin rfl rfl (br_shr64 (b := 32) (by omega))) (Nb rfl) ?_
      refine LOps.detP (Det.bin rfl rfl (br_eql (b := 1))) (Nb rfl) ?_
      refine LOps.nil ?_
      first | refine LCode.condD rfl (fun h152 => ?_) (fun h152 => ?_) | refine LCode.cond rfl (fun h152 => ?_) (fun h152 => ?_)
      ·
        have h152 : (D.limb x.2.1 (a + D.nw m) + 4294967296 - x.2.2.2 - x.2.2.1) / 2 ^ 32 = 1 := h152
        rw [show (2 : Nat) ^ 32 = 4294967296 from rfl] at h152
        have hfl := D.take_last (D.dnm_lt m) hx5 (take_parts2 hlx hx3 hx2)
        rw [h152, Nat.sub_self, Nat.zero_mul] at hfl
        replace hfl := hfl.trans (Nat.add_zero U)
        refine LCode.seq ?_
        refine LCode.region ?_
        refine LOps.detP (Det.move rfl) (Nb rfl) ?_
        refine LOps.detP (Det.assign rfl) (Nb rfl) ?_
        refine LOps.nil ?_
        refine LCode.ret ?_
        refine ⟨[_], .cons rfl .nil, fun a' w' hr => ⟨_, _, ⟨d, _, hd1, hfl, D.quo_done (D.dnm_pos hm0) hfl (by rw [hQ]; exact hd2), rfl, D.vec_setl (Nat.mod_lt _ (by decide))⟩, rfl, hr.hp _ (by repeat (first | exact Mh _ | apply Mt)), hr.fr⟩⟩
      ·
        have h152 : ¬ (D.limb x.2.1 (a + D.nw m) + 4294967296 - x.2.2.2 - x.2.2.1) / 2 ^ 32 = 1 := h152
        rw [show (2 : Nat) ^ 32 = 4294967296 from rfl] at h152
        have hfl := D.take_last (D.dnm_lt m) hx5 (take_parts2 hlx hx3 hx2)
        rw [show 1 - (D.limb x.2.1 (a + D.nw m) + 4294967296 - x.2.2.2 - x.2.2.1) / 4294967296 = 1 by omega, Nat.one_mul] at hfl
        obtain ⟨U1, hU1⟩ : ∃ U1, D.setl x.2.1 (a + D.nw m) ((D.limb x.2.1 (a + D.nw m) + 4294967296 - x.2.2.2 - x.2.2.1) % 4294967296) = U1 := ⟨_, rfl⟩
        have hU1l := D.setl_lt (y := (D.limb x.2.1 (a + D.nw m) + 4294967296 - x.2.2.2 - x.2.2.1) % 4294967296) hx4 (show a + D.nw m < a + D.nw m + 1 by omega) (Nat.mod_lt _ (by decide))
        have hU1v := D.vec_setl (n := l) (X := x.2.1) (p := a + D.nw m) (y := (D.limb x.2.1 (a + D.nw m) + 4294967296 - x.2.2.2 - x.2.2.1) % 4294967296) (Nat.mod_lt _ (by decide))
        rw [hU1] at hfl hU1l hU1v
        have hqw := D.quo_word hU1l hfl (by rw [hQ]; exact hd2) (D.dnm_pos hm0)
        refine LCode.skip ?_
        refine LCode.seq ?_
        refine LCode.region ?_
        refine LOps.detP (Det.assign (v := .int .u64 ((0 : Nat) : Int)) rfl) (Nb rfl) ?_
        refine LOps.nil ?_
        refine LCode.seq ?_
        refine LCode.seq ?_
        refine LCode.region ?_
        refine LOps.detP (Det.assign (v := .int .i64 ((0 : Nat) : Int)) rfl) (Nb rfl) ?_
        refine LOps.nil ?_
        refine LCode.block ?_
        refine LCode.loop (α := Nat × Nat × Nat) (fun x => x.1 ≤ D.nw m ∧ x.2.2 ≤ 1 ∧ x.2.1 < 2 ^ (32 * (a + D.nw m + 1)) ∧ x.2.1 + x.2.2 * 2 ^ (32 * (a + x.1)) = U1 + (D.dnm m % 2 ^ (32 * x.1)) * 2 ^ (32 * a)) (fun x => ⟨[(0, .slice (some ⟨bu, 0, none⟩) l c), (1, slV qv (D.nw m)), (2, .int .i64 ((a : Nat) : Int)), (7, .int .i64 ((D.nw m : Nat) : Int)), (9, .int .u64 ((d : Nat) : Int)), (11, .int .u64 ((x.2.2 : Nat) : Int)), (17, .int .i64 ((x.1 : Nat) : Int))], [.blk bu ⟨true, vec .u32 l (D.limb x.2.1), 56, (0, 0)⟩, numI qv (D.dnm m) (D.nw m)]⟩) (fun x => D.nw m - x.1) ((0, U1, 0)) (⟨Nat.zero_le _, Nat.zero_le _, hU1l, D.back_pre⟩) (Sub.re (Sub.cells (b := bu) (cs' := vec .u32 l (D.limb U1)) (by repeat (first | exact Sh _ | apply St_)) hU1v) (Sub.mk ⟨rfl, rfl, rfl, rfl, rfl, rfl, rfl, trivial⟩ (by repeat (first | exact Sel.nil _ | refine Sel.cons (by repeat (first | exact Ph _ | apply Pt_)) ?_)))) ?_
        clear hx5
        intro x ⟨hx1, hx2, hx4, hx5⟩
        refine LCode.seq ?_
        refine LCode.seq ?_
        refine LCode.region ?_
        refine LOps.detP (Det.move rfl) (Nb rfl) ?_
        refine LOps.detP (Det.move rfl) (Nb rfl) ?_
        refine LOps.detP (Det.bin rfl rfl (br_lss)) (Nb rfl) ?_
        refine LOps.nil ?_
        first | refine LCode.condD rfl (fun h156 => ?_) (fun h156 => ?_) | refine LCode.cond rfl (fun h156 => ?_) (fun h156 => ?_)
        ·
          have h156 : x.1 < D.nw m := h156
          refine LCode.skip ?_
          refine LCode.seq ?_
          refine LCode.block ?_
          refine LCode.seq ?_
          have hlv := D.limb_lt (D.dnm m) x.1
          have hlx := D.limb_lt x.2.1 (a + x.1)
          refine LCode.regionD [] (by kernel_rfl) ?_
          refine LAny.takeP 0 rfl (by kernel_rfl) (Nb rfl) (Det.move rfl) ?_
          refine LAny.takeP 1 rfl (by kernel_rfl) (Nb rfl) (Det.move rfl) ?_
          refine LAny.takeP 2 rfl (by kernel_rfl) (Nb rfl) (Det.move rfl) ?_
          refine LAny.takeP 3 rfl (by kernel_rfl) (Nb rfl) (Slots.cast (Det.bin rfl rfl (br_add (by omega))) (vi (b := a + x.1) (by omega))) ?_
          refine LAny.takeP 4 rfl (by kernel_rfl) (Nb rfl) (Det.indexS0 Try.underlying29 sz_56 rfl rfl (by omega)) ?_
          refine LAny.take 5 rfl (by kernel_rfl) (Nb rfl) (Det.load rfl (by repeat (first | exact Mh _ | apply Mt)) (LoadV.one Try.underlying56 rfl (by exact vec_get _ _ _ (show a + x.1 < l by omega)))) ?_
          refine LAny.takeP 6 rfl (by kernel_rfl) (Nb rfl) (Det.conv64 Try.underlying56 Try.underlying22 rfl (by first | omega | exact Nat.lt_trans (D.limb_lt _ _) (by decide))) ?_
          refine LAny.takeP 7 rfl (by kernel_rfl) (Nb rfl) (Det.move rfl) ?_
          refine LAny.takeP 8 rfl (by kernel_rfl) (Nb rfl) (Det.move rfl) ?_
          refine LAny.takeP 9 rfl (by kernel_rfl) (Nb rfl) (Det.indexN Try.underlying29 sz_56 rfl rfl (by omega)) ?_
          refine LAny.take 10 rfl (by kernel_rfl) (Nb rfl) (Det.loadN Try.underlying56 rfl rfl (by repeat (first | exact Mh _ | apply Mt)) (by omega)) ?_
          refine LAny.takeP 11 rfl (by kernel_rfl) (Nb rfl) (Det.conv64 Try.underlying56 Try.underlying22 rfl (by first | omega | exact Nat.lt_trans (D.limb_lt _ _) (by decide))) ?_
          refine LAny.takeP 12 rfl (by kernel_rfl) (Nb rfl) (Slots.cast (Det.bin rfl rfl br_add64) (vi (b := D.limb x.2.1 (a + x.1) + D.limb (D.dnm m) x.1) (by omega))) ?_
          refine LAny.takeP 13 rfl (by kernel_rfl) (Nb rfl) (Det.move rfl) ?_
          refine LAny.takeP 14 rfl (by kernel_rfl) (Nb rfl) (Slots.cast (Det.bin rfl rfl br_add64) (vi (b := D.limb x.2.1 (a + x.1) + D.limb (D.dnm m) x.1 + x.2.2) (by omega))) ?_
          refine LAny.takeP 15 rfl (by kernel_rfl) (Nb rfl) (Det.assign rfl) ?_
          refine LAny.done (by kernel_rfl) ?_
          refine LCode.seq ?_
          refine LCode.region ?_
          refine LOps.detP (Det.move rfl) (Nb rfl) ?_
          refine LOps.detP (Det.move rfl) (Nb rfl) ?_
          refine LOps.detP (Det.move rfl) (Nb rfl) ?_
          refine LOps.detP (Slots.cast (Det.bin rfl rfl (br_add (by omega))) (vi (b := a + x.1) (by omega))) (Nb rfl) ?_
          refine LOps.detP (Det.move rfl) (Nb rfl) ?_
          refine LOps.detP (Slots.cast (Det.bin rfl rfl (br_and64 (by omega) (by decide))) (vi (b := (D.limb x.2.1 (a + x.1) + D.limb (D.dnm m) x.1 + x.2.2) % 4294967296) (and32 _))) (Nb rfl) ?_
          refine LOps.detP (Slots.cast (Det.conv32 Try.underlying22 Try.underlying56 rfl) (vi (b := (D.limb x.2.1 (a + x.1) + D.limb (D.dnm m) x.1 + x.2.2) % 4294967296) (Nat.mod_mod _ _))) (Nb rfl) ?_
          refine LOps.detP (Det.indexS0 Try.underlying29 sz_56 rfl rfl (by omega)) (Nb rfl) ?_
          refine LOps.step rfl (LStepW.store1 rfl rfl rfl sz_56 (by repeat (first | exact Sh _ | apply St_)) (by first | (simp only [vec_length, natL_length, wideL_length, dv_length]; omega) | (simp; omega)) (by first | exact vec_set _ _ _ _ _ | exact dv_setm _ _ _ _ (by omega) | exact dv_sets _ _ _ _ | rfl) (by simp) ?_)
          refine LOps.nil ?_
          refine LCode.region ?_
          refine LOps.detP (Det.move rfl) (Nb rfl) ?_
          refine LOps.detP (Det.bin rfl rfl (br_shr64 (b := 32) (by omega))) (Nb rfl) ?_
          refine LOps.detP (Det.assign rfl) (Nb rfl) ?_
          refine LOps.nil ?_
          refine LCode.region ?_
          refine LOps.detP (Det.move rfl) (Nb rfl) ?_
          refine LOps.detP (Det.bin rfl rfl (br_add (b := 1) (by omega))) (Nb rfl) ?_
          refine LOps.detP (Det.assign rfl) (Nb rfl) ?_
          refine LOps.nil ?_
          refine ⟨(x.1 + 1, D.setl x.2.1 (a + x.1) ((D.limb x.2.1 (a + x.1) + D.limb (D.dnm m) x.1 + x.2.2) % 4294967296), (D.limb x.2.1 (a + x.1) + D.limb (D.dnm m) x.1 + x.2.2) / 4294967296), ⟨by dsimp only; omega, by dsimp only; omega, D.setl_lt hx4 (by omega) (Nat.mod_lt _ (by decide)), D.back_step hx5 D.add_word⟩, by dsimp only; omega,
            Sub.re (Sub.cells (b := bu) (cs' := vec .u32 l (D.limb (D.setl x.2.1 (a + x.1) ((D.limb x.2.1 (a + x.1) + D.limb (D.dnm m) x.1 + x.2.2) % 4294967296)))) (by repeat (first | exact Sh _ | apply St_)) (D.vec_setl (Nat.mod_lt _ (by decide)))) (Sub.mk ⟨rfl, rfl, rfl, rfl, rfl, rfl, rfl, trivial⟩ (by repeat (first | exact Sel.nil _ | refine Sel.cons (by repeat (first | exact Ph _ | apply Pt_)) ?_)))⟩
        ·
          have h156 : ¬ x.1 < D.nw m := h156
          have he : x.1 = D.nw m := by omega
          rw [he] at hx5
          refine LCode.exit ?_
          refine LCode.seq ?_
          have hlx := D.limb_lt x.2.1 (a + D.nw m)
          refine LCode.region ?_
          refine LOps.detP (Det.move rfl) (Nb rfl) ?_
          refine LOps.detP (Det.move rfl) (Nb rfl) ?_
          refine LOps.detP (Det.move rfl) (Nb rfl) ?_
          refine LOps.detP (Det.bin rfl rfl (br_add (by omega))) (Nb rfl) ?_
          refine LOps.detP (Det.move rfl) (Nb rfl) ?_
          refine LOps.detP (Det.move rfl) (Nb rfl) ?_
          refine LOps.detP (Det.move rfl) (Nb rfl) ?_
          refine LOps.detP (Det.bin rfl rfl (br_add (by omega))) (Nb rfl) ?_
          refine LOps.detP (Det.indexS0 Try.underlying29 sz_56 rfl rfl (by omega)) (Nb rfl) ?_
          refine LOps.det (Det.load rfl (by repeat (first | exact Mh _ | apply Mt)) (LoadV.one Try.underlying56 rfl (by exact vec_get _ _ _ (show a + D.nw m < l by omega)))) (Nb rfl) ?_
          refine LOps.detP (Det.move rfl) (Nb rfl) ?_
          refine LOps.detP (Slots.cast (Det.conv32 Try.underlying22 Try.underlying56 rfl) (vi (b := x.2.2) (Nat.mod_eq_of_lt (by omega)))) (Nb rfl) ?_
          refine LOps.detP (Det.bin rfl rfl (br_add32d)) (Nb rfl) ?_
          refine LOps.detP (Det.indexS0 Try.underlying29 sz_56 rfl rfl (by omega)) (Nb rfl) ?_
          refine LOps.step rfl (LStepW.store1 rfl rfl rfl sz_56 (by repeat (first | exact Sh _ | apply St_)) (by first | (simp only [vec_length, natL_length, wideL_length, dv_length]; omega) | (simp; omega)) (by first | exact vec_set _ _ _ _ _ | exact dv_setm _ _ _ _ (by omega) | exact dv_sets _ _ _ _ | rfl) (by simp) ?_)
          refine LOps.nil ?_
          refine LCode.seq ?_
          refine LCode.region ?_
          refine LOps.detP (Det.move rfl) (Nb rfl) ?_
          refine LOps.detP (Slots.cast (Det.bin rfl rfl (br_sub64 (b := 1) (by decide))) (vi (b := d - 1) (by omega))) (Nb rfl) ?_
          refine LOps.detP (Det.assign rfl) (Nb rfl) ?_
          refine LOps.nil ?_
          refine LCode.ret ?_
          have hb := D.back_step (a := a) (i := D.nw m) (D := D.dnm m) hx5 (lo := (D.limb x.2.1 (a + D.nw m) + x.2.2) % 4294967296) (c' := (D.limb x.2.1 (a + D.nw m) + x.2.2) / 4294967296) (by rw [D.limb_high (D.dnm_lt m) (Nat.le_refl _)]; omega)
          rw [Nat.mod_eq_of_lt (Nat.lt_of_lt_of_le (D.dnm_lt m) (Nat.pow_le_pow_right (by decide) (by omega)))] at hb
          have hlt9 := D.limb_lt x.2.1 (a + D.nw m)
          have hc9 : (D.limb x.2.1 (a + D.nw m) + x.2.2) / 4294967296 ≤ 1 := by omega
          have hU9 := D.setl_lt (y := (D.limb x.2.1 (a + D.nw m) + x.2.2) % 4294967296) hx4 (show a + D.nw m < a + D.nw m + 1 by omega) (Nat.mod_lt _ (by decide))
          have hqb9 := D.quo_back hqw.2 hfl (by rw [← Nat.add_assoc] at hb; exact hb) hc9
          have hce := D.back_enough (D.dnm_pos hm0) hc9 (by rw [hQ]; omega) hqb9 hU9
          rw [hce, Nat.sub_self, Nat.zero_mul, Nat.add_zero] at hqb9
          refine ⟨[_], .cons rfl .nil, fun a' w' hr => ⟨_, _, ⟨d - 1, _, by omega, hqb9, D.quo_done (D.dnm_pos hm0) hqb9 (by rw [hQ]; rw [hQ] at hqw; exact hqw.1), rfl, D.vec_setl (Nat.mod_lt _ (by decide))⟩, rfl, hr.hp _ (by repeat (first | exact Mh _ | apply Mt)), hr.fr⟩⟩
end Go.Proofs.Ytljblbgogjieaaa
set_option linter.unusedVariables false
set_option linter.unusedSimpArgs false
set_option maxRecDepth 20000
namespace Go.Proofs.Ytljblbgogjieaaa
open Go Go.RowKit
theorem cmp_lss {A B : Nat} : binRes .lss .i64 (cmpI A B) .i64 0 = some (.bool (decide (A < B))) := by
  unfold cmpI
  by_cases h : A < B
  · rw [if_pos h, decide_eq_true h]; rfl
  · rw [if_neg h, decide_eq_false h]
    split <;> rfl
theorem one_digit {m : Nat} (h : D.nw m = 1) : D.limb m 0 = m := by
  have h1 := D.lt_nw m
  rw [h] at h1
  unfold D.limb
  rw [Nat.mul_zero, Nat.pow_zero, Nat.div_one, Nat.mod_eq_of_lt (by omega)]
theorem splice_num {A n l : Nat} (hA : A < 2 ^ (32 * n)) (h : n ≤ l) : splice (vec .u32 l (fun _ => 0)) 0 (vec .u32 n (D.limb A)) = vec .u32 l (D.limb A) := by
  apply List.ext_getElem?
  intro i
  simp only [splice, List.take_zero, List.nil_append, Nat.zero_add, vec_length]
  rcases Nat.lt_or_ge i n with h1 | h1
  · rw [List.getElem?_append_left (by rw [vec_length]; exact h1), vec_get _ _ _ h1, vec_get _ _ _ (by omega)]
  · rw [List.getElem?_append_right (by rw [vec_length]; exact h1), vec_length, List.getElem?_drop, show n + (i - n) = i by omega]
    rcases Nat.lt_or_ge i l with h2 | h2
    · rw [vec_get _ _ _ h2, vec_get _ _ _ h2, D.limb_high hA h1]
    · rw [List.getElem?_eq_none (by rw [vec_length]; exact h2), List.getElem?_eq_none (by rw [vec_length]; exact h2)]
theorem numV_dnm {q : NV} {m : Nat} (h : m ≠ 0) : numV q (D.dnm m) = slV q (D.nw m) := by unfold numV; rw [D.nw_dnm h]
theorem numT_dnm {q : NV} {m : Nat} (h : m ≠ 0) : numT q (D.dnm m) = numI q (D.dnm m) (D.nw m) := by unfold numT; rw [D.nw_dnm h]
theorem Rel.num2Q {w : World} {N : Nat} {st : St} {a : Act} {w' : World} {old : List Nat} {A B : Nat} {q r : NV} {mk : Value → Value → Value} (hr : Rel ⟨w, NoW, N⟩ st a w') (hm : numT q A ∈ st.H) (hn : NFr w.heap.size old q (D.nw A)) (hm' : numT r B ∈ st.H) (hn' : NFr w.heap.size old r (D.nw B)) :
    Num2R w old A B mk (.returned (mk (numV q A) (numV r B))) w' := ⟨q, r, rfl, hr.hp _ hm, hn, hr.hp _ hm', hn', hr.fr.below⟩
theorem Rel.num2B {w : World} {N : Nat} {st : St} {a : Act} {w' : World} {old : List Nat} {A n b c B : Nat} {r : NV} {ty : TypeId} {fz : Nat × Nat} {mk : Value → Value → Value} (hr : Rel ⟨w, NoW, N⟩ st a w') (hm : Item.blk b ⟨true, vec .u32 n (D.limb A), ty, fz⟩ ∈ st.H) (hA : A < 2 ^ (32 * n)) (hm' : numT r B ∈ st.H) (hn' : NFr w.heap.size old r (D.nw B)) :
    Num2R w old A B mk (.returned (mk (.slice (some ⟨b, 0, none⟩) (D.nw A) c) (numV r B))) w' := ⟨⟨false, b, c⟩, r, rfl, numT_blk (hr.hp _ hm) hA, NFr.blk _ (hr.new hm rfl), hr.hp _ hm', hn', hr.fr.below⟩
theorem c_n_Div (q r : NV) (A m : Nat) (hm0 : m ≠ 0) (w : World) (hq : (numT q A).holds w) (hr : (numT r m).holds w) (hA : D.nw A ≤ 900000) : Calls Try.prog 119 ([numV q A, numV r m] : List Value).toArray w (fun e w' => Num2R w (fpz q (D.nw A)) (A / m) (A % m) (fun u v => .tuple #[u, v]) e w') := by
  refine calls_ro (N := 78) (rs := [.tmp 4, .tmp 5]) [numT q A, numT r m] Try.func119 rfl Try.ntmps119 Try.results119 (Nb rfl) ⟨hq, hr, trivial⟩ rfl ?_
  show LCode _ _ _ ⟨_, _⟩ _
  refine LCode.seq ?_
  refine LCode.region ?_
  refine LOps.detP (Det.assign rfl) (Nb rfl) ?_
  refine LOps.detP (Det.assign rfl) (Nb rfl) ?_
  refine LOps.nil ?_
  refine LCode.seq ?_
  refine LCode.seq ?_
  refine LCode.region ?_
  refine LOps.detP (Det.move rfl) (Nb rfl) ?_
  refine LOps.detP (Det.move rfl) (Nb rfl) ?_
  refine LOps.step rfl (LStep.w (LStep.callF (first := []) rfl en_70 rfl (Nb rfl) (fun w hw => c_n_Cmp q r A m w (hw _ (by repeat (first | exact Mh _ | apply Mt))) (hw _ (by repeat (first | exact Mh _ | apply Mt))) (by omega)) ?_))
  refine LOps.detP (Det.bin rfl rfl cmp_lss) (Nb rfl) ?_
  refine LOps.nil ?_
  first | refine LCode.condD rfl (fun h15 => ?_) (fun h15 => ?_) | refine LCode.cond rfl (fun h15 => ?_) (fun h15 => ?_)
  ·
    have h15 : A < m := h15
    refine LCode.seq ?_
    refine LCode.region ?_
    refine LOps.detP (Det.move rfl) (Nb rfl) ?_
    refine LOps.detP (Det.assign rfl) (Nb rfl) ?_
    refine LOps.detP (Det.assign rfl) (Nb rfl) ?_
    refine LOps.nil ?_
    refine LCode.ret ?_
    refine ⟨[_, _], .cons rfl (.cons rfl .nil), fun a w' hr => ?_⟩
    rw [Nat.div_eq_of_lt h15, Nat.mod_eq_of_lt h15]
    exact ⟨⟨true, 0, 0⟩, q, rfl, numT_nil _ _ _, NFr.nil _ _ _ _, hr.hp _ (by repeat (first | exact Mh _ | apply Mt)), NFr.self _ _ _, hr.fr.below⟩
  ·
    have h15 : ¬ A < m := h15
    have hmA := D.nw_mono (Nat.le_of_not_lt h15)
    have hm9 := D.nw_pos hm0
    refine LCode.skip ?_
    refine LCode.seq ?_
    refine LCode.seq ?_
    refine LCode.region ?_
    refine LOps.detP (Det.move rfl) (Nb rfl) ?_
    refine LOps.detP (Det.len Try.underlying29 rfl) (Nb rfl) ?_
    refine LOps.detP (Det.bin rfl rfl (br_eql (b := 1))) (Nb rfl) ?_
    refine LOps.nil ?_
    first | refine LCode.condD rfl (fun h19 => ?_) (fun h19 => ?_) | refine LCode.cond rfl (fun h19 => ?_) (fun h19 => ?_)
    ·
      have h19 : D.nw m = 1 := h19
      have hm1 : m < 4294967296 := by have := D.lt_nw m; rw [h19] at this; omega
      refine LCode.seq ?_
      refine LCode.region ?_
      refine LOps.detP (Det.move rfl) (Nb rfl) ?_
      refine LOps.detP (Det.move rfl) (Nb rfl) ?_
      refine LOps.detP (Det.indexN (i := 0) Try.underlying29 sz_56 rfl rfl (by omega)) (Nb rfl) ?_
      refine LOps.det (Det.loadN Try.underlying56 rfl rfl (by repeat (first | exact Mh _ | apply Mt)) (by omega)) (Nb rfl) ?_
      refine LOps.detP (Slots.cast (Det.conv64 Try.underlying56 Try.underlying22 rfl (Nat.lt_trans (D.limb_lt _ _) (by decide))) (vi (b := m) (one_digit h19))) (Nb rfl) ?_
      refine LOps.step rfl (LStep.w (LStep.callZ (first := []) rfl en_153 rfl (Nb rfl) (fun w hw hs => (c_n_short q A m w (hw _ (by repeat (first | exact Mh _ | apply Mt))) (by omega) (Nat.pos_of_ne_zero hm0) hm1).mono fun e w' h => Num2R.q (Old.nil _) hs h) ?_))
      rintro _ _ ⟨q25a, q25b, rfl, rfl, hn25a, hn25b⟩
      refine LOps.detP (Det.extract rfl rfl) (Nb rfl) ?_
      refine LOps.detP (Det.extract rfl rfl) (Nb rfl) ?_
      refine LOps.detP (Det.assign rfl) (Nb rfl) ?_
      refine LOps.detP (Det.assign rfl) (Nb rfl) ?_
      refine LOps.nil ?_
      refine LCode.ret ?_
      refine ⟨[_, _], .cons rfl (.cons rfl .nil), fun a w' hr => hr.num2Q (by repeat (first | exact Mh _ | apply Mt)) hn25a.any (by repeat (first | exact Mh _ | apply Mt)) hn25b.any⟩
    ·
      have h19 : ¬ D.nw m = 1 := h19
      have hs32 := D.dsh_lt hm0
      have hbl := D.dsh_add m
      refine LCode.skip ?_
      refine LCode.seq ?_
      refine LCode.region ?_
      refine LOps.detP (Det.move rfl) (Nb rfl) ?_
      refine LOps.detP (Det.len Try.underlying29 rfl) (Nb rfl) ?_
      refine LOps.detP (Det.bin rfl rfl (br_mul (a := 32) (by omega))) (Nb rfl) ?_
      refine LOps.detP (Det.move rfl) (Nb rfl) ?_
      refine LOps.step rfl (LStep.w (LStep.callF (first := []) rfl en_76 rfl (Nb rfl) (fun w hw => c_n_Bits r m w (hw _ (by repeat (first | exact Mh _ | apply Mt))) (by omega)) ?_))
      refine LOps.detP (Slots.cast (Det.bin rfl rfl (br_sub (by omega) (by omega))) (vi (b := D.dsh m) rfl)) (Nb rfl) ?_
      refine LOps.detP (Det.assign rfl) (Nb rfl) ?_
      refine LOps.nil ?_
      refine LCode.seq ?_
      refine LCode.region ?_
      refine LOps.detP (Det.move rfl) (Nb rfl) ?_
      refine LOps.detP (Det.move rfl) (Nb rfl) ?_
      refine LOps.step rfl (LStep.w (LStep.callZ (first := []) rfl en_75 rfl (Nb rfl) (fun w hw hs => (c_n_Shl r m (D.dsh m) w (hw _ (by repeat (first | exact Mh _ | apply Mt))) (by omega) (by omega)).mono fun e w' h => NumR.q (Old.nil _) hs h) ?_))
      rintro _ _ ⟨q36, rfl, rfl, hn36⟩
      rw [show numV q36 (m * 2 ^ D.dsh m) = slV q36 (D.nw m) from numV_dnm hm0, show numT q36 (m * 2 ^ D.dsh m) = numI q36 (D.dnm m) (D.nw m) from numT_dnm hm0]
      refine LOps.detP (Det.assign rfl) (Nb rfl) ?_
      refine LOps.nil ?_
      refine LCode.seq ?_
      refine LCode.region ?_
      refine LOps.detP (Det.move rfl) (Nb rfl) ?_
      refine LOps.detP (Det.len Try.underlying29 rfl) (Nb rfl) ?_
      refine LOps.detP (Det.bin rfl rfl (br_add (b := 1) (by omega))) (Nb rfl) ?_
      refine LOps.step rfl (LStep.w (LStep.makes (Makes.mkV Try.underlying29 inf_56 rfl rfl (by omega) (by omega)) (Nb rfl) (fun b40 => ?_)))
      refine LOps.detP (Det.assign rfl) (Nb rfl) ?_
      refine LOps.nil ?_
      refine LCode.seq ?_
      have hle : D.nw (A * 2 ^ D.dsh m) ≤ D.nw A + 1 := D.nw_le (Nat.lt_of_lt_of_le D.shl_lt (Nat.pow_le_pow_right (by decide) (by rw [Nat.div_eq_of_lt hs32]; omega)))
      refine LCode.region ?_
      refine LOps.detP (Det.move rfl) (Nb rfl) ?_
      refine LOps.detP (Det.move rfl) (Nb rfl) ?_
      refine LOps.detP (Det.move rfl) (Nb rfl) ?_
      refine LOps.step rfl (LStep.w (LStep.callZ (first := []) rfl en_75 rfl (Nb rfl) (fun w hw hs => (c_n_Shl q A (D.dsh m) w (hw _ (by repeat (first | exact Mh _ | apply Mt))) (by omega) (by omega)).mono fun e w' h => NumR.q (Old.nil _) hs h) ?_))
      rintro _ _ ⟨q44, rfl, rfl, hn44⟩
      refine LOps.step rfl (LStepW.copyN (ats := [29, 29]) (n := D.nw (A * 2 ^ D.dsh m)) (A := A * 2 ^ D.dsh m) (q := q44) (l := D.nw A + 1) rfl rfl rfl Try.underlying29 sz_56 (by repeat (first | exact Mh _ | apply Mt)) hle (by rw [vec_length]; exact Nat.le_refl _) (Nb rfl) (by repeat (first | exact Sh _ | apply St_)) (splice_num (D.lt_nw _) hle) ?_)
      refine LOps.nil ?_
      refine LCode.seq ?_
      refine LCode.region ?_
      refine LOps.detP (Det.move rfl) (Nb rfl) ?_
      refine LOps.detP (Det.len Try.underlying29 rfl) (Nb rfl) ?_
      refine LOps.detP (Det.assign rfl) (Nb rfl) ?_
      refine LOps.nil ?_
      refine LCode.seq ?_
      refine LCode.region ?_
      refine LOps.detP (Det.move rfl) (Nb rfl) ?_
      refine LOps.detP (Det.len Try.underlying29 rfl) (Nb rfl) ?_
      refine LOps.detP (Det.move rfl) (Nb rfl) ?_
      refine LOps.detP (Det.bin rfl rfl (br_sub (by omega) (by omega))) (Nb rfl) ?_
      refine LOps.step rfl (LStep.w (LStep.makes (Makes.mkV Try.underlying29 inf_56 rfl rfl (by omega) (by omega)) (Nb rfl) (fun b52 => ?_)))
      refine LOps.detP (Det.assign rfl) (Nb rfl) ?_
      refine LOps.nil ?_
      refine LCode.seq ?_
      refine LCode.seq ?_
      refine LCode.region ?_
      refine LOps.detP (Det.move rfl) (Nb rfl) ?_
      refine LOps.detP (Det.len Try.underlying29 rfl) (Nb rfl) ?_
      refine LOps.detP (Det.move rfl) (Nb rfl) ?_
      refine LOps.detP (Det.bin rfl rfl (br_sub (by omega) (by omega))) (Nb rfl) ?_
      refine LOps.detP (Det.bin (v := .int .i64 (((D.nw A + 1 - D.nw m : Nat) : Int) - 1)) rfl rfl (br_subI (by omega) (by omega))) (Nb rfl) ?_
      refine LOps.detP (Det.assign rfl) (Nb rfl) ?_
      refine LOps.nil ?_
      refine LCode.block ?_
      refine LCode.loop (α := Nat × Nat × Nat) (fun x => x.1 ≤ D.nw A + 1 - D.nw m ∧ x.2.1 + x.2.2 * 2 ^ (32 * x.1) * D.dnm m = A * 2 ^ D.dsh m ∧ x.2.1 < D.dnm m * 2 ^ (32 * x.1)) (fun x => ⟨[(6, .int .i64 ((D.dsh m : Nat) : Int)), (7, slV q36 (D.nw m)), (8, .slice (some ⟨b40, 0, none⟩) (D.nw A + 1) (D.nw A + 1)), (9, .int .i64 ((D.nw m : Nat) : Int)), (10, .slice (some ⟨b52, 0, none⟩) (D.nw A + 1 - D.nw m) (D.nw A + 1 - D.nw m)), (11, .int .i64 ((x.1 : Int) - 1))], [.blk b52 ⟨true, vec .u32 (D.nw A + 1 - D.nw m) (D.limb (x.2.2 * 2 ^ (32 * x.1))), 56, (0, 0)⟩, .blk b40 ⟨true, vec .u32 (D.nw A + 1) (D.limb x.2.1), 56, (0, 0)⟩, numI q36 (D.dnm m) (D.nw m)]⟩) (fun x => x.1) ((D.nw A + 1 - D.nw m, A * 2 ^ D.dsh m, 0)) (⟨Nat.le_refl _, by dsimp only; rw [Nat.zero_mul, Nat.zero_mul, Nat.add_zero], by have := D.div_begin hm0 hmA (D.lt_nw A); dsimp only; rwa [show D.nw A + 1 - D.nw m = D.nw A - D.nw m + 1 by omega]⟩) (Sub.re (Sub.cells (b := b52) (cs' := vec .u32 (D.nw A + 1 - D.nw m) (D.limb (0 * 2 ^ (32 * (D.nw A + 1 - D.nw m))))) (by repeat (first | exact Sh _ | apply St_)) (by rw [Nat.zero_mul]; exact D.vec_zeros _)) (Sub.mk ⟨rfl, rfl, rfl, rfl, rfl, rfl, trivial⟩ (by repeat (first | exact Sel.nil _ | refine Sel.cons (by repeat (first | exact Ph _ | apply Pt_)) ?_)))) ?_
      rintro x ⟨hx1, hx3, hx4⟩
      refine LCode.seq ?_
      refine LCode.seq ?_
      rcases Nat.eq_zero_or_pos x.1 with h0 | h0
      ·
        refine LCode.region ?_
        refine LOps.detP (Det.move rfl) (Nb rfl) ?_
        refine LOps.detP (Det.bin (v := .bool false) rfl rfl (by rw [h0]; rfl)) (Nb rfl) ?_
        refine LOps.nil ?_
        rw [h0, Nat.mul_zero, Nat.pow_zero, Nat.mul_one] at hx3
        rw [h0, Nat.mul_zero, Nat.pow_zero, Nat.mul_one] at hx4
        have hU : x.2.1 < D.dnm m := hx4
        obtain ⟨he1, he2⟩ := D.div_end hm0 hx3 hx4
        refine LCode.cond_false rfl ?_
        refine LCode.exit ?_
        refine LCode.seq ?_
        have hQl : A / m < 2 ^ (32 * (D.nw A + 1 - D.nw m)) := by
          rw [← he1]
          refine Nat.lt_of_mul_lt_mul_right (a := D.dnm m) (Nat.lt_of_le_of_lt (Nat.le_trans (Nat.le_add_left _ _) (Nat.le_of_eq hx3)) ?_)
          have := D.div_begin hm0 hmA (D.lt_nw A)
          rw [show D.nw A - D.nw m + 1 = D.nw A + 1 - D.nw m by omega] at this
          rw [Nat.mul_comm (2 ^ _)]
          exact this
        refine LCode.sub (Sub.cells (b := b52) (cs' := vec .u32 (D.nw A + 1 - D.nw m) (D.limb (A / m))) (by repeat (first | exact Sh _ | apply St_)) (by rw [h0, Nat.mul_zero, Nat.pow_zero, Nat.mul_one, he1])) ?_
        refine LCode.regionD [] (by kernel_rfl) ?_
        refine LAny.takeP 0 rfl (by kernel_rfl) (Nb rfl) (Det.move rfl) ?_
        refine LAny.takeP 2 rfl (by kernel_rfl) (Nb rfl) (Det.move rfl) ?_
        refine LAny.takeP 3 rfl (by kernel_rfl) (Nb rfl) (Det.move rfl) ?_
        refine LAny.takeP 4 rfl (by kernel_rfl) (Nb rfl) (Det.slH Try.underlying29 sz_56 rfl rfl (by omega) (by omega)) ?_
        refine LAny.takeP 6 rfl (by kernel_rfl) (Nb rfl) (Det.move rfl) ?_
        refine LAny.one 1 rfl rfl (by kernel_rfl) (LStep.callF (first := []) rfl en_120 rfl (Nb rfl) (fun w hw => c_trim (A / m) b52 (D.nw A + 1 - D.nw m) (D.nw A + 1 - D.nw m) (D.nw A + 1 - D.nw m) _ true w (hw _ (by repeat (first | exact Mh _ | apply Mt))) (Nat.le_refl _) (Nat.le_refl _) (by omega) hQl) ?_)
        refine LAny.one 5 rfl rfl (by kernel_rfl) (LStep.callF (first := []) rfl en_120 rfl (Nb rfl) (fun w hw => c_trim x.2.1 b40 (D.nw m) (D.nw A + 1) (D.nw A + 1) _ true w (hw _ (by repeat (first | exact Mh _ | apply Mt))) (by omega) (by omega) (by omega) (Nat.lt_trans hU (D.dnm_lt m))) ?_)
        refine LAny.one 7 rfl rfl (by kernel_rfl) (LStep.callZ (first := []) rfl en_145 rfl (Nb rfl) (fun w hw hs => (c_n_Shr ⟨false, b40, D.nw A + 1⟩ x.2.1 (D.nw x.2.1) (D.dsh m) w (numI_blk0 (hw _ (by repeat (first | exact Mh _ | apply Mt))) (by have := D.nw_le (Nat.lt_trans hU (D.dnm_lt m)); omega) (D.lt_nw _)) (by have := D.nw_le (Nat.lt_trans hU (D.dnm_lt m)); omega) (by omega)).mono fun e w' h => NumR.q (Old.nil _) hs h) ?_)
        rintro _ _ ⟨q77, rfl, rfl, hn77⟩
        refine LAny.takeP 8 rfl (by kernel_rfl) (Nb rfl) (Det.assign rfl) ?_
        refine LAny.takeP 9 rfl (by kernel_rfl) (Nb rfl) (Det.assign rfl) ?_
        refine LAny.done (by kernel_rfl) ?_
        refine LCode.ret ?_
        rw [he2] at *
        refine ⟨[_, _], .cons rfl (.cons rfl .nil), fun a w' hr => hr.num2B (mk := fun u v => .tuple #[u, v]) (n := D.nw A + 1 - D.nw m) (b := b52) (ty := 56) (fz := (0, 0)) (by repeat (first | exact Mh _ | apply Mt)) hQl (by repeat (first | exact Mh _ | apply Mt)) hn77.any⟩
      ·
        obtain ⟨y, hy⟩ : ∃ y, x.1 = y + 1 := ⟨x.1 - 1, by omega⟩
        rw [hy] at hx1 hx3 hx4
        refine LCode.region ?_
        refine LOps.detP (Det.move rfl) (Nb rfl) ?_
        refine LOps.detP (Det.bin (v := .bool true) rfl rfl (by rw [hy]; simp [binRes] <;> omega)) (Nb rfl) ?_
        refine LOps.nil ?_
        refine LCode.cond_true rfl ?_
        refine LCode.skip ?_
        refine LCode.seq ?_
        refine LCode.block ?_
        refine LCode.region ?_
        refine LOps.detP (Det.move rfl) (Nb rfl) ?_
        refine LOps.detP (Det.move (v := .int .i64 ((y : Nat) : Int)) (by show some _ = some _; congr 2; omega)) (Nb rfl) ?_
        refine LOps.detP (Det.move rfl) (Nb rfl) ?_
        refine LOps.detP (Det.move rfl) (Nb rfl) ?_
        refine LOps.detP (Det.move (v := .int .i64 ((y : Nat) : Int)) (by show some _ = some _; congr 2; omega)) (Nb rfl) ?_
        refine LOps.step rfl (LStepW.callWF (Post := fun v cs' => ∃ q U', q < 4294967296 ∧ U' + q * D.dnm m * 2 ^ (32 * y) = x.2.1 ∧ U' < D.dnm m * 2 ^ (32 * y) ∧ v = .int .u64 ((q : Nat) : Int) ∧ cs' = vec .u32 (D.nw A + 1) (D.limb U')) (first := []) rfl en_154 rfl (Nb rfl) (fun cs' => (by repeat (first | exact Sh _ | apply St_))) (fun w hw hap => c_n_step q36 m x.2.1 b40 y (D.nw A + 1) (D.nw A + 1) hm0 w (hw _ (by repeat (first | exact Mh _ | apply Mt))) (hw _ (by repeat (first | exact Mh _ | apply Mt))) (apart_mem hap (x := Item.blk b40 _) (y := numI q36 (D.dnm m) (D.nw m)) (by repeat (first | exact Mh _ | apply Mt)) (by repeat (first | exact Mh _ | apply Mt)) rfl rfl b40 (List.Mem.head _)) (by omega) (by omega) (by omega) hx4) ?_)
        rintro _ _ ⟨d, U', hd1, hd2, hd3, rfl, rfl⟩
        refine LOps.detP (Slots.cast (Det.conv32 Try.underlying22 Try.underlying56 rfl) (vi (b := d) (Nat.mod_eq_of_lt hd1))) (Nb rfl) ?_
        refine LOps.detP (Det.indexS0 Try.underlying29 sz_56 rfl rfl (by omega)) (Nb rfl) ?_
        refine LOps.step rfl (LStepW.store1 rfl rfl rfl sz_56 (by repeat (first | exact Sh _ | apply St_)) (by first | (simp only [vec_length, natL_length, wideL_length, dv_length]; omega) | (simp; omega)) (by first | exact vec_set _ _ _ _ _ | exact dv_setm _ _ _ _ (by omega) | exact dv_sets _ _ _ _ | rfl) (by simp) ?_)
        refine LOps.nil ?_
        refine LCode.region ?_
        refine LOps.detP (Det.move (v := .int .i64 ((y : Nat) : Int)) (by show some _ = some _; congr 2; omega)) (Nb rfl) ?_
        refine LOps.detP (Det.bin rfl rfl rfl) (Nb rfl) ?_
        refine LOps.detP (Det.assign rfl) (Nb rfl) ?_
        refine LOps.nil ?_
        refine ⟨(y, U', x.2.2 * 4294967296 + d), ⟨by dsimp only; omega, D.quo_sum hd2 hx3, hd3⟩, by dsimp only; omega, Sub.re (Sub.cells (b := b52) (cs' := vec .u32 (D.nw A + 1 - D.nw m) (D.limb ((x.2.2 * 4294967296 + d) * 2 ^ (32 * y)))) (by repeat (first | exact Sh _ | apply St_)) (vec_congr fun j _ => ?_)) (Sub.mk ⟨rfl, rfl, rfl, rfl, rfl, ?_, trivial⟩ (by repeat (first | exact Sel.nil _ | refine Sel.cons (by repeat (first | exact Ph _ | apply Pt_)) ?_)))⟩
        · rw [hy]
          exact D.quo_store hd1 j
        · exact congrArg (fun i : Int => some (Value.int .i64 i)) (wrap_i64 (by omega) (by omega))
theorem c_n_Mod (q r : NV) (A m : Nat) (hm0 : m ≠ 0) (w : World) (hq : (numT q A).holds w) (hr : (numT r m).holds w) (hA : D.nw A ≤ 900000) : Calls Try.prog 51 ([numV q A, numV r m] : List Value).toArray w (fun e w' => NumR w (fpz q (D.nw A)) (A % m) (fun v => v) e w') := by
  refine calls_ro (N := 14) (rs := [.tmp 4]) [numT q A, numT r m] Try.func51 rfl Try.ntmps51 Try.results51 (Nb rfl) ⟨hq, hr, trivial⟩ rfl ?_
  show LCode _ _ _ ⟨_, _⟩ _
  refine LCode.seq ?_
  refine LCode.region ?_
  refine LOps.detP (Det.assign rfl) (Nb rfl) ?_
  refine LOps.nil ?_
  refine LCode.seq ?_
  refine LCode.region ?_
  refine LOps.detP (Det.move rfl) (Nb rfl) ?_
  refine LOps.detP (Det.move rfl) (Nb rfl) ?_
  refine LOps.step rfl (LStep.w (LStep.callZ (first := []) rfl en_119 rfl (Nb rfl) (fun w hw hs => (c_n_Div q r A m hm0 w (hw _ (by repeat (first | exact Mh _ | apply Mt))) (hw _ (by repeat (first | exact Mh _ | apply Mt))) hA).mono fun e w' h => Num2R.q (Old.one (x := numT q A) (by repeat (first | exact Mh _ | apply Mt)) rfl) hs h) ?_))
  rintro _ _ ⟨q10a, q10b, rfl, rfl, hn10a, hn10b⟩
  refine LOps.detP (Det.move rfl) (Nb rfl) ?_
  refine LOps.detP (Det.extract rfl rfl) (Nb rfl) ?_
  refine LOps.detP (Det.extract rfl rfl) (Nb rfl) ?_
  refine LOps.detP (Det.assign rfl) (Nb rfl) ?_
  refine LOps.detP (Det.assign rfl) (Nb rfl) ?_
  refine LOps.nil ?_
  refine LCode.seq ?_
  refine LCode.region ?_
  refine LOps.detP (Det.move rfl) (Nb rfl) ?_
  refine LOps.detP (Det.assign rfl) (Nb rfl) ?_
  refine LOps.nil ?_
  refine LCode.ret ?_
  refine ⟨[_], .cons rfl .nil, fun a w' hr => hr.numQ (by repeat (first | exact Mh _ | apply Mt)) hn10b⟩
end Go.Proofs.Ytljblbgogjieaaa
set_option linter.unusedVariables false
set_option linter.unusedSimpArgs false
set_option maxRecDepth 20000
namespace Go.Proofs.Ytljblbgogjieaaa
open Go Go.RowKit
def uidx (x : Int) : Nat := (x % 18446744073709551616).toNat
theorem uidx_eq (x : Int) : Value.int .u64 (IntKind.u64.wrap x) = Value.int .u64 ((uidx x : Nat) : Int) := by
  unfold uidx
  rw [wrap_u64, Int.toNat_of_nonneg (Int.emod_nonneg _ (by decide))]
theorem cvI_idx (x : Int) : ∃ V, cvI ((1 + uidx x % 15 : Nat) : Int) = some V := by
  rw [cvI_nat]; exact cvOf_some (by omega) (by omega)
theorem cvI_id {id : Int} {V : Cv} (h : cvI id = some V) : cvI ((V.id : Nat) : Int) = some V := by rw [(cvI_ok h).2]; exact h
theorem beVal_inj : ∀ l m : List UInt8, l.length = m.length → beVal l = beVal m → l = m
  | [], [], _, _ => rfl
  | [], y :: m, h, _ => by simp at h
  | x :: l, [], h, _ => by simp at h
  | x :: l, y :: m, h, hv => by
    have hl : l.length = m.length := by simpa using h
    have h1 := beVal_lt l
    have h2 := beVal_lt m
    simp only [beVal] at hv
    rw [hl] at hv h1
    have hp : 0 < 256 ^ m.length := Nat.pow_pos (by decide)
    have e1 : x.toNat = y.toNat := by
      have := congrArg (· / 256 ^ m.length) hv
      simp only [Nat.mul_comm _ (256 ^ m.length), Nat.mul_add_div hp, Nat.div_eq_of_lt h1, Nat.div_eq_of_lt h2, Nat.add_zero] at this
      exact this
    rw [e1] at hv
    rw [UInt8.toNat_inj.1 e1, beVal_inj l m hl (by omega)]
theorem beBytes_val (l : List UInt8) : beBytes l.length (beVal l) = l := beVal_inj _ _ (beBytes_length _ _) (by rw [beVal_bytes, Nat.mod_eq_of_lt (beVal_lt l)])
theorem lt_nby {R N : Nat} (h : R ≤ N) : R < 256 ^ nby N := by
  have h1 := lt_blen N
  rw [pow256]
  exact Nat.lt_of_le_of_lt h (Nat.lt_of_lt_of_le h1 (Nat.pow_le_pow_right (by decide) (by unfold nby; omega)))
theorem cat_data (k R T : Nat) : (strOf (beBytes k R) ++ strOf (beBytes k T)).data.toList = beBytes k R ++ beBytes k T := by
  rw [ByteArray.toList_data_append]; simp [strOf]
theorem cat_size (k R T : Nat) : (strOf (beBytes k R) ++ strOf (beBytes k T)).size = 2 * k := by
  have := congrArg List.length (cat_data k R T)
  rw [List.length_append, beBytes_length, beBytes_length, Array.length_toList] at this
  show (strOf (beBytes k R) ++ strOf (beBytes k T)).data.size = _
  omega
theorem cat_R {V : Cv} {R T : Nat} (hR : R ≤ V.n) : rawR V (strOf (beBytes (nby V.n) R) ++ strOf (beBytes (nby V.n) T)) = R := by
  unfold rawR
  rw [ext_data, cat_data, List.drop_zero, List.take_left' (beBytes_length _ _), beVal_bytes, Nat.mod_eq_of_lt (lt_nby hR)]
theorem cat_T {V : Cv} {R T : Nat} (hT : T ≤ V.n) : rawT V (strOf (beBytes (nby V.n) R) ++ strOf (beBytes (nby V.n) T)) = T := by
  unfold rawT
  rw [ext_data, cat_data, cat_size, List.take_of_length_le (by rw [List.length_append, beBytes_length, beBytes_length]; omega), List.drop_left' (beBytes_length _ _), beVal_bytes, Nat.mod_eq_of_lt (lt_nby hT)]
theorem rp_ok {V : Cv} {R T : Nat} (hR : R < V.n) (hT : T < V.n) : rpE V R T = 0 ∧ rpS V R T = strOf (beBytes (nby V.n) R) ++ strOf (beBytes (nby V.n) T) := by
  unfold rpE rpS
  rw [if_neg (by omega), if_neg (by omega)]
  exact ⟨rfl, rfl⟩
theorem rg_rp {V : Cv} {R T : Nat} (hR : R < V.n) (hT : T < V.n) : rgR V (rpS V R T) = R ∧ rgT V (rpS V R T) = T ∧ rgE V (rpS V R T) = 0 := by
  rw [(rp_ok hR hT).2]
  unfold rgR rgT rgE
  rw [cat_R (Nat.le_of_lt hR), cat_T (Nat.le_of_lt hT), cat_size, if_neg (by omega), if_neg (by omega), if_neg (by omega), if_neg (by omega), if_neg (by omega), if_neg (by omega)]
  exact ⟨rfl, rfl, rfl⟩
theorem rg_no {V : Cv} {s : ByteArray} (h : rgE V s ≠ 0) : rgR V s = 0 ∧ rgT V s = 0 := by
  unfold rgE at h
  unfold rgR rgT
  split at h
  · rename_i h1
    rw [if_pos h1, if_pos h1]; exact ⟨rfl, rfl⟩
  · rename_i h1
    split at h
    · rename_i h2
      rw [if_neg h1, if_neg h1, if_pos h2, if_pos h2]; exact ⟨rfl, rfl⟩
    · exact absurd rfl h
theorem rp_rg {V : Cv} {s : ByteArray} (h : rgE V s = 0) : rpE V (rgR V s) (rgT V s) = 0 ∧ (rpS V (rgR V s) (rgT V s)).data.toList = s.data.toList := by
  unfold rgE at h
  split at h
  · cases h
  · rename_i h1
    split at h
    · cases h
    · rename_i h2
      have h3 : rgR V s = rawR V s := by unfold rgR; rw [if_neg h1, if_neg h2]
      have h4 : rgT V s = rawT V s := by unfold rgT; rw [if_neg h1, if_neg h2]
      have h5 : rawR V s < V.n := by omega
      have h6 : rawT V s < V.n := by omega
      have hs : s.size = 2 * nby V.n := by omega
      have hsl : s.data.toList.length = 2 * nby V.n := hs
      rw [h3, h4]
      refine ⟨(rp_ok h5 h6).1, ?_⟩
      rw [(rp_ok h5 h6).2, cat_data]
      have e1 : beBytes (nby V.n) (rawR V s) = s.data.toList.take (nby V.n) := by
        unfold rawR
        rw [ext_data, List.drop_zero]
        have := beBytes_val (s.data.toList.take (nby V.n))
        rwa [List.length_take, Nat.min_eq_left (by omega)] at this
      have e2 : beBytes (nby V.n) (rawT V s) = s.data.toList.drop (nby V.n) := by
        unfold rawT
        rw [ext_data, List.take_of_length_le (by omega)]
        have := beBytes_val (s.data.toList.drop (nby V.n))
        rwa [List.length_drop, hsl, show 2 * nby V.n - nby V.n = nby V.n by omega] at this
      rw [e1, e2, List.take_append_drop]
theorem c_RawBack (id : Int) (R T : Nat) (s : ByteArray) (w : World) (hR : R < W9) (hT : T < W9) (hs : s.size < 9223372036854775808) : Calls Try.prog 4 ([.int .i64 id, natV R, natV T, .string s] : List Value).toArray w (fun e w' => e = .returned (.bool true) ∧ Below w.heap.size w w') := by
  obtain ⟨V, h⟩ := cvI_idx id
  obtain ⟨hok, hid⟩ := cvI_ok h
  have h2 := cvI_id h
  have hbb := hok.bounds
  have hnW : V.n < W9 := w9_521 hbb.2.2.2.2.2.2.1
  have hsz := hok.sz
  have hsn := hsz.n
  have hn0 : V.n ≠ 0 := Nat.ne_of_gt (Nat.lt_of_lt_of_le (by decide) hok.order.1)
  have hRn : R % V.n < V.n := Nat.mod_lt _ (Nat.pos_of_ne_zero hn0)
  have hTn : T % V.n < V.n := Nat.mod_lt _ (Nat.pos_of_ne_zero hn0)
  have hRw := Nat.lt_trans hRn hnW
  have hTw := Nat.lt_trans hTn hnW
  have he0 := (rp_ok hRn hTn).1
  have hr3 := rg_rp hRn hTn
  have hg := rg_lt V hnW s
  have hg2 := rg_lt V hnW (rpS V (R % V.n) (T % V.n))
  have hsz2 : (rpS V (R % V.n) (T % V.n)).size = 2 * nby V.n := by rw [(rp_ok hRn hTn).2]; exact cat_size _ _ _
  have hnb : nby V.n ≤ 72 := by have := blen_w9 hnW; unfold nby; omega
  have hs2 : (rpS V (R % V.n) (T % V.n)).size < 9223372036854775808 := by omega
  refine calls_ro (N := 109) (rs := [.tmp 8]) [] Try.func4 rfl Try.ntmps4 Try.results4 (Nb rfl) trivial rfl ?_
  show LCode _ _ _ ⟨_, _⟩ _
  refine LCode.seq ?_
  refine LCode.region ?_
  refine LOps.step rfl (LStep.w (LStep.makes (Makes.boxA rfl) (Nb rfl) (fun b5 => ?_)))
  refine LOps.step rfl (LStep.w (LStep.makes (Makes.boxA rfl) (Nb rfl) (fun b6 => ?_)))
  refine LOps.detP (Det.assign rfl) (Nb rfl) ?_
  refine LOps.nil ?_
  refine LCode.seq ?_
  refine LCode.seq ?_
  refine LCode.region ?_
  refine LOps.step rfl (LStep.w (LStep.callF (first := []) rfl en_47 rfl (Nb rfl) (fun w hw => c_awake23 w) ?_))
  refine LOps.detP (Slots.cast (Det.not rfl) (show _ = Value.bool false from rfl)) (Nb rfl) ?_
  refine LOps.nil ?_
  refine LCode.cond_false rfl ?_
  refine LCode.skip ?_
  refine LCode.seq ?_
  refine LCode.region ?_
  refine LOps.detP (Det.move rfl) (Nb rfl) ?_
  refine LOps.detP (Slots.cast (Det.conv Try.underlying3 Try.underlying46 rfl) (uidx_eq id)) (Nb rfl) ?_
  refine LOps.detP (Det.bin rfl rfl (br_rem64 (b := 15) (by omega))) (Nb rfl) ?_
  refine LOps.detP (Det.convi Try.underlying46 Try.underlying3 rfl (by omega)) (Nb rfl) ?_
  refine LOps.detP (Det.bin rfl rfl (br_add (a := 1) (by omega))) (Nb rfl) ?_
  refine LOps.step rfl (LStep.w (LStep.callZ (Post := fun v its => ∃ Q, v = .tuple #[.agg (crvL Q V).toArray, .bool true] ∧ its = [crvI Q V]) (first := []) rfl en_43 rfl (Nb rfl) (fun w1 hw hs => (c_r_Get _ V w1 h).mono fun e w' ⟨Q, h1, h2, h3, h4⟩ => ⟨_, _, ⟨Q, rfl, rfl⟩, h1, Brings.nums h4 (by intro x hx; simp at hx; subst hx; exact h2) (by intro x hx; simp at hx; subst hx; rfl) (by intro x hx k hk; simp at hx; subst hx; exact .inl (h3 k hk))⟩) ?_))
  rintro _ _ ⟨Q, rfl, rfl⟩
  refine LOps.detP (Det.move rfl) (Nb rfl) ?_
  refine LOps.detP (Det.extract rfl rfl) (Nb rfl) ?_
  refine LOps.detP (Det.extract rfl rfl) (Nb rfl) ?_
  refine LOps.step rfl (LStep.w (LStep.makes (Makes.allocA zr_31) (Nb rfl) (fun b9 => ?_)))
  refine LOps.step rfl (LStepW.storeA rfl rfl sz_31 (by repeat (first | exact allOne_nil | refine allOne_cons rfl ?_)) (by repeat (first | exact Sh _ | apply St_)) (by rfl) ?_)
  refine LOps.detP (Det.assign rfl) (Nb rfl) ?_
  refine LOps.nil ?_
  refine LCode.seq ?_
  refine LCode.seq ?_
  refine LCode.region ?_
  refine LOps.detP (Det.move rfl) (Nb rfl) ?_
  refine LOps.detP (Slots.cast (Det.not rfl) (show _ = Value.bool false from rfl)) (Nb rfl) ?_
  refine LOps.nil ?_
  refine LCode.cond_false rfl ?_
  refine LCode.skip ?_
  refine LCode.seq ?_
  have hnd := nw_w9_dig hR
  have hnt := nw_w9_dig hT
  refine LCode.regionD [14] (by kernel_rfl) ?_
  refine LAny.take 0 rfl (by kernel_rfl) (Nb rfl) (Det.load rfl (by repeat (first | exact Mh _ | apply Mt)) (by exact LoadV.whole Try.underlying25 rfl sz_25)) ?_
  refine LAny.takeP 2 rfl (by kernel_rfl) (Nb rfl) (Det.fieldA (o' := 4) Try.underlying31 rfl rfl rfl sz_29 (by decide)) ?_
  refine LAny.take 3 rfl (by kernel_rfl) (Nb rfl) (Det.load rfl (by repeat (first | exact Mh _ | apply Mt)) (LoadV.one Try.underlying29 rfl (by first | rfl | exact vec_get _ _ _ (by omega) | exact natL_get _ (by omega) | exact wideL_get _ (by omega) | exact dv_m _ _ _ (by omega)))) ?_
  refine LAny.take 6 rfl (by kernel_rfl) (Nb rfl) (Det.load rfl (by repeat (first | exact Mh _ | apply Mt)) (by exact LoadV.whole Try.underlying25 rfl sz_25)) ?_
  refine LAny.takeP 8 rfl (by kernel_rfl) (Nb rfl) (Det.fieldA (o' := 4) Try.underlying31 rfl rfl rfl sz_29 (by decide)) ?_
  refine LAny.take 9 rfl (by kernel_rfl) (Nb rfl) (Det.load rfl (by repeat (first | exact Mh _ | apply Mt)) (LoadV.one Try.underlying29 rfl (by first | rfl | exact vec_get _ _ _ (by omega) | exact natL_get _ (by omega) | exact wideL_get _ (by omega) | exact dv_m _ _ _ (by omega)))) ?_
  refine LAny.toP ?_
  refine LAnyP.start 13 rfl (.inl zr_27) (Nb rfl) rfl rfl rfl ?_
  refine LAnyP.step 1 rfl rfl rfl (Nb rfl) (by kernel_rfl) rfl (LExt.callZ (first := []) rfl en_52 rfl (fun w hw hs => (c_n_From R hR w).mono fun e w' h => NumR.q (Old.nil _) hs h)) ?_
  rintro _ _ ⟨q34, rfl, rfl, hn34⟩
  refine LAnyP.step 4 rfl rfl rfl (Nb rfl) (by kernel_rfl) rfl (LExt.callZ (first := []) rfl en_51 rfl (fun w hw hs => (c_n_Mod q34 Q.n R V.n hn0 w (hw _ (by repeat (first | exact Mh _ | apply Mt))) (crvI_n (hw _ (by repeat (first | exact Mh _ | apply Mt)))) (by omega)).mono fun e w' h => NumR.q (Old.one (x := numT q34 R) (by repeat (first | exact Mh _ | apply Mt)) rfl) hs h)) ?_
  rintro _ _ ⟨q37, rfl, rfl, hn37⟩
  refine LAnyP.step 5 rfl rfl rfl (Nb rfl) (by kernel_rfl) rfl (LExt.callF (first := []) rfl en_50 rfl (fun w hw => c_n_Nat q37 (R % V.n) (D.nw (R % V.n)) w (hw _ (by repeat (first | exact Mh _ | apply Mt))))) ?_
  rintro _ _ ⟨rfl, rfl⟩
  refine LAnyP.step 7 rfl rfl rfl (Nb rfl) (by kernel_rfl) rfl (LExt.callZ (first := []) rfl en_52 rfl (fun w hw hs => (c_n_From T hT w).mono fun e w' h => NumR.q (Old.nil _) hs h)) ?_
  rintro _ _ ⟨q40, rfl, rfl, hn40⟩
  refine LAnyP.step 10 rfl rfl rfl (Nb rfl) (by kernel_rfl) rfl (LExt.callZ (first := []) rfl en_51 rfl (fun w hw hs => (c_n_Mod q40 Q.n T V.n hn0 w (hw _ (by repeat (first | exact Mh _ | apply Mt))) (crvI_n (hw _ (by repeat (first | exact Mh _ | apply Mt)))) (by omega)).mono fun e w' h => NumR.q (Old.one (x := numT q40 T) (by repeat (first | exact Mh _ | apply Mt)) rfl) hs h)) ?_
  rintro _ _ ⟨q43, rfl, rfl, hn43⟩
  refine LAnyP.step 11 rfl rfl rfl (Nb rfl) (by kernel_rfl) rfl (LExt.callF (first := []) rfl en_50 rfl (fun w hw => c_n_Nat q43 (T % V.n) (D.nw (T % V.n)) w (hw _ (by repeat (first | exact Mh _ | apply Mt))))) ?_
  rintro _ _ ⟨rfl, rfl⟩
  refine LAnyP.takeP 12 rfl (by kernel_rfl) (Nb rfl) rfl (Slots.cast (Det.build pl_27 zr_27 rfl (fill_sg _ _)) rfl) ?_
  refine LAnyP.mat (by kernel_rfl) (fun b11 => ?_)
  refine LAnyP.toAny ?_
  refine LAny.late 14 rfl rfl (by kernel_rfl) (by kernel_rfl) (LStepW.storeA rfl rfl sz_27 (by exact sgL_one _ _) (by repeat (first | exact Sh _ | apply St_)) (by exact sgL_length _ _) ?_)
  refine LAny.done (by kernel_rfl) ?_
  refine LCode.seq ?_
  refine LCode.region ?_
  refine LOps.detP (Det.fieldA (o' := 0) Try.underlying31 rfl rfl rfl sz_3 (by decide)) (Nb rfl) ?_
  refine LOps.det (Det.load rfl (by repeat (first | exact Mh _ | apply Mt)) (LoadV.one Try.underlying3 rfl (by first | rfl | exact vec_get _ _ _ (by omega) | exact natL_get _ (by omega) | exact wideL_get _ (by omega) | exact dv_m _ _ _ (by omega)))) (Nb rfl) ?_
  refine LOps.det (Det.load rfl (by repeat (first | exact Mh _ | apply Mt)) (by exact LoadV.whole Try.underlying27 rfl sz_27)) (Nb rfl) ?_
  refine LOps.step rfl (LStep.w (LStep.callF (first := []) rfl en_44 rfl (Nb rfl) (fun w hw => c_raw_Put2 _ V (R % V.n) (T % V.n) w h2 hRw hTw) ?_))
  refine LOps.detP (Det.move rfl) (Nb rfl) ?_
  refine LOps.detP (Det.extract rfl rfl) (Nb rfl) ?_
  refine LOps.detP (Det.extract rfl rfl) (Nb rfl) ?_
  refine LOps.detP (Det.assign rfl) (Nb rfl) ?_
  refine LOps.detP (Det.assign rfl) (Nb rfl) ?_
  refine LOps.nil ?_
  refine LCode.seq ?_
  refine LCode.region ?_
  refine LOps.detP (Det.fieldA (o' := 0) Try.underlying31 rfl rfl rfl sz_3 (by decide)) (Nb rfl) ?_
  refine LOps.det (Det.load rfl (by repeat (first | exact Mh _ | apply Mt)) (LoadV.one Try.underlying3 rfl (by first | rfl | exact vec_get _ _ _ (by omega) | exact natL_get _ (by omega) | exact wideL_get _ (by omega) | exact dv_m _ _ _ (by omega)))) (Nb rfl) ?_
  refine LOps.detP (Det.move rfl) (Nb rfl) ?_
  refine LOps.step rfl (LStep.w (LStep.callF (first := []) rfl en_45 rfl (Nb rfl) (fun w hw => c_raw_Get2 _ V (rpS V (R % V.n) (T % V.n)) w h2 hs2) ?_))
  refine LOps.detP (Det.move rfl) (Nb rfl) ?_
  refine LOps.detP (Det.extract rfl rfl) (Nb rfl) ?_
  refine LOps.detP (Det.extract rfl rfl) (Nb rfl) ?_
  refine LOps.step rfl (LStep.w (LStep.makes (Makes.allocA zr_27) (Nb rfl) (fun b14 => ?_)))
  refine LOps.step rfl (LStepW.storeA rfl rfl sz_27 (by exact sgL_one _ _) (by repeat (first | exact Sh _ | apply St_)) (by exact sgL_length _ _) ?_)
  refine LOps.detP (Det.assign rfl) (Nb rfl) ?_
  refine LOps.nil ?_
  refine LCode.seq ?_
  refine LCode.seq ?_
  refine LCode.region ?_
  refine LOps.detP (Det.move rfl) (Nb rfl) ?_
  refine LOps.step rfl (LStep.w (LStep.callF (first := []) rfl en_46 rfl (Nb rfl) (fun w hw => c_Num _ w) ?_))
  refine LOps.detP (Det.bin (v := .bool false) rfl rfl (br_f (br_neq (b := 0)) (by rw [he0]; simp))) (Nb rfl) ?_
  refine LOps.detP (Det.move rfl) (Nb rfl) ?_
  refine LOps.detGP rfl rfl (Det.move rfl) (Nb rfl) ?_
  refine LOps.stepG rfl rfl rfl (LStep.w (LStep.callF (first := []) rfl en_46 rfl (Nb rfl) (fun w hw => c_Num _ w) ?_))
  refine LOps.detGP rfl rfl (Det.bin (v := .bool false) rfl rfl (br_f (br_neq (b := 0)) (by rw [hr3.2.2]; simp))) (Nb rfl) ?_
  refine LOps.detP (Det.pick_false rfl rfl) (Nb rfl) ?_
  refine LOps.detP (Det.move rfl) (Nb rfl) ?_
  refine LOps.detG rfl rfl (Det.load rfl (by repeat (first | exact Mh _ | apply Mt)) (by exact LoadV.whole Try.underlying27 rfl sz_27)) (Nb rfl) ?_
  refine LOps.detG rfl rfl (Det.load rfl (by repeat (first | exact Mh _ | apply Mt)) (by exact LoadV.whole Try.underlying27 rfl sz_27)) (Nb rfl) ?_
  refine LOps.detGP rfl rfl (Slots.cast (Det.nea (by kernel_rfl) (fun w => eq_sig (rgR V (rpS V (R % V.n) (T % V.n))) (rgT V (rpS V (R % V.n) (T % V.n))) (R % V.n) (T % V.n) hg2.1 hg2.2 hRw hTw 10000 (by decide) w) rfl rfl) (show _ = Value.bool false by rw [hr3.1, hr3.2.1]; simp)) (Nb rfl) ?_
  refine LOps.detP (Det.pick_false rfl rfl) (Nb rfl) ?_
  refine LOps.detP (Det.move rfl) (Nb rfl) ?_
  refine LOps.detGP rfl rfl (Det.move rfl) (Nb rfl) ?_
  refine LOps.detGP rfl rfl (Det.lens Try.underlying9 rfl) (Nb rfl) ?_
  refine LOps.detG rfl rfl (Det.load rfl (by repeat (first | exact Mh _ | apply Mt)) (by exact LoadV.whole Try.underlying31 rfl sz_31)) (Nb rfl) ?_
  refine LOps.stepG rfl rfl rfl (LStep.w (LStep.callF (first := []) rfl en_53 rfl (Nb rfl) (fun w hw => c_r_NSize Q V w (hw _ (by repeat (first | exact Mh _ | apply Mt))) hsz) ?_))
  refine LOps.detGP rfl rfl (Det.bin rfl rfl (br_mul (a := 2) (by omega))) (Nb rfl) ?_
  refine LOps.detGP rfl rfl (Det.bin (v := .bool false) rfl rfl (br_f br_neq (by rw [hsz2]; simp))) (Nb rfl) ?_
  refine LOps.detP (Det.pick_false rfl rfl) (Nb rfl) ?_
  refine LOps.nil ?_
  refine LCode.cond_false rfl ?_
  refine LCode.skip ?_
  refine LCode.seq ?_
  refine LCode.region ?_
  refine LOps.detP (Det.fieldA (o' := 0) Try.underlying31 rfl rfl rfl sz_3 (by decide)) (Nb rfl) ?_
  refine LOps.det (Det.load rfl (by repeat (first | exact Mh _ | apply Mt)) (LoadV.one Try.underlying3 rfl (by first | rfl | exact vec_get _ _ _ (by omega) | exact natL_get _ (by omega) | exact wideL_get _ (by omega) | exact dv_m _ _ _ (by omega)))) (Nb rfl) ?_
  refine LOps.detP (Det.move rfl) (Nb rfl) ?_
  refine LOps.step rfl (LStep.w (LStep.callF (first := []) rfl en_45 rfl (Nb rfl) (fun w hw => c_raw_Get2 _ V s w h2 hs) ?_))
  refine LOps.detP (Det.move rfl) (Nb rfl) ?_
  refine LOps.detP (Det.extract rfl rfl) (Nb rfl) ?_
  refine LOps.detP (Det.extract rfl rfl) (Nb rfl) ?_
  refine LOps.step rfl (LStep.w (LStep.makes (Makes.allocA zr_27) (Nb rfl) (fun b16 => ?_)))
  refine LOps.step rfl (LStepW.storeA rfl rfl sz_27 (by exact sgL_one _ _) (by repeat (first | exact Sh _ | apply St_)) (by exact sgL_length _ _) ?_)
  refine LOps.detP (Det.assign rfl) (Nb rfl) ?_
  refine LOps.nil ?_
  refine LCode.seq ?_
  refine LCode.seq ?_
  by_cases hE : rgE V s = 0
  ·
    refine LCode.region ?_
    refine LOps.detP (Det.move rfl) (Nb rfl) ?_
    refine LOps.step rfl (LStep.w (LStep.callF (first := []) rfl en_46 rfl (Nb rfl) (fun w hw => c_Num _ w) ?_))
    refine LOps.detP (Det.bin (v := .bool false) rfl rfl (br_f (br_neq (b := 0)) (by rw [hE]; simp))) (Nb rfl) ?_
    refine LOps.nil ?_
    refine LCode.cond_false rfl ?_
    refine LCode.skip ?_
    refine LCode.seq ?_
    refine LCode.region ?_
    refine LOps.detP (Det.fieldA (o' := 0) Try.underlying31 rfl rfl rfl sz_3 (by decide)) (Nb rfl) ?_
    refine LOps.det (Det.load rfl (by repeat (first | exact Mh _ | apply Mt)) (LoadV.one Try.underlying3 rfl (by first | rfl | exact vec_get _ _ _ (by omega) | exact natL_get _ (by omega) | exact wideL_get _ (by omega) | exact dv_m _ _ _ (by omega)))) (Nb rfl) ?_
    refine LOps.det (Det.load rfl (by repeat (first | exact Mh _ | apply Mt)) (by exact LoadV.whole Try.underlying27 rfl sz_27)) (Nb rfl) ?_
    refine LOps.step rfl (LStep.w (LStep.callF (first := []) rfl en_44 rfl (Nb rfl) (fun w hw => c_raw_Put2 _ V (rgR V s) (rgT V s) w h2 hg.1 hg.2) ?_))
    refine LOps.detP (Det.move rfl) (Nb rfl) ?_
    refine LOps.detP (Det.extract rfl rfl) (Nb rfl) ?_
    refine LOps.detP (Det.extract rfl rfl) (Nb rfl) ?_
    refine LOps.detP (Det.assign rfl) (Nb rfl) ?_
    refine LOps.detP (Det.assign rfl) (Nb rfl) ?_
    refine LOps.nil ?_
    refine LCode.seq ?_
    refine LCode.region ?_
    refine LOps.detP (Det.move rfl) (Nb rfl) ?_
    refine LOps.step rfl (LStep.w (LStep.callF (first := []) rfl en_46 rfl (Nb rfl) (fun w hw => c_Num _ w) ?_))
    refine LOps.detP (Det.bin (v := .bool true) rfl rfl (br_t (br_eql (b := 0)) ((rp_rg hE).1))) (Nb rfl) ?_
    refine LOps.detP (Det.move rfl) (Nb rfl) ?_
    refine LOps.detGP rfl rfl (Det.move rfl) (Nb rfl) ?_
    refine LOps.detGP rfl rfl (Det.move rfl) (Nb rfl) ?_
    refine LOps.detGP rfl rfl (Slots.cast (Det.eqs rfl rfl) (congrArg Value.bool (eq_str_t ((rp_rg hE).2)))) (Nb rfl) ?_
    refine LOps.detP (Det.pick_true rfl rfl) (Nb rfl) ?_
    refine LOps.detP (Det.assign rfl) (Nb rfl) ?_
    refine LOps.nil ?_
    refine LCode.ret ?_
    refine ⟨[_], .cons rfl .nil, fun a w' hr => ⟨?_, hr.fr.below⟩⟩
    rfl
  ·
    refine LCode.region ?_
    refine LOps.detP (Det.move rfl) (Nb rfl) ?_
    refine LOps.step rfl (LStep.w (LStep.callF (first := []) rfl en_46 rfl (Nb rfl) (fun w hw => c_Num _ w) ?_))
    refine LOps.detP (Det.bin (v := .bool true) rfl rfl (br_t (br_neq (b := 0)) (by intro e; exact hE (by simpa using e)))) (Nb rfl) ?_
    refine LOps.nil ?_
    refine LCode.cond_true rfl ?_
    refine LCode.seq ?_
    refine LCode.region ?_
    refine LOps.det (Det.load rfl (by repeat (first | exact Mh _ | apply Mt)) (by exact LoadV.whole Try.underlying27 rfl sz_27)) (Nb rfl) ?_
    refine LOps.detP (Slots.cast (Det.build pl_27 zr_27 rfl rfl) (show _ = sgV 0 0 from sg_zero)) (Nb rfl) ?_
    refine LOps.detP (Slots.cast (Det.eqa (by kernel_rfl) (fun w => eq_sig (rgR V s) (rgT V s) 0 0 hg.1 hg.2 zero_w9 zero_w9 10000 (by decide) w) rfl rfl) (show _ = Value.bool true by rw [(rg_no hE).1, (rg_no hE).2]; simp)) (Nb rfl) ?_
    refine LOps.detP (Det.assign rfl) (Nb rfl) ?_
    refine LOps.nil ?_
    refine LCode.ret ?_
    refine ⟨[_], .cons rfl .nil, fun a w' hr => ⟨?_, hr.fr.below⟩⟩
    rfl
theorem br_andI255 (x : Int) : binRes .and .i64 x .i64 255 = some (.int .i64 (((x % 256).toNat : Nat) : Int)) := by
  show some (Value.int .i64 (IntKind.i64.wrap ((BitVec.ofInt 64 x &&& BitVec.ofInt 64 255).toNat : Int))) = _
  have h1 : (BitVec.ofInt 64 x &&& BitVec.ofInt 64 255).toNat = (x % 256).toNat := by
    rw [BitVec.toNat_and]
    have h2 : (BitVec.ofInt 64 x).toNat = (x % 18446744073709551616).toNat := by rw [BitVec.toNat_ofInt]; rfl
    have h3 : (BitVec.ofInt 64 255).toNat = 255 := by decide
    rw [h2, h3, and255]
    omega
  rw [h1, wrap_i64 (by omega) (by omega)]
def u8idx (x : Int) : Nat := (x % 256).toNat
theorem u8idx_lt (x : Int) : u8idx x < 256 := by unfold u8idx; omega
theorem u8idx_eq (x : Int) : Value.int .u8 (IntKind.u8.wrap x) = Value.int .u8 ((u8idx x : Nat) : Int) := by
  unfold u8idx
  rw [wrap_u8, Int.toNat_of_nonneg (Int.emod_nonneg _ (by decide))]
theorem beVal_zeros : ∀ l : List UInt8, (∀ x, x ∈ l → x = 0) → beVal l = 0
  | [], _ => rfl
  | x :: l, h => by
    have h1 := h x (.head _)
    subst h1
    simp only [beVal, beVal_zeros l (fun y hy => h y (.tail _ hy))]
    simp
def zsOf (m : Nat) : ByteArray := strOf ((List.range m).map fun i => UInt8.ofNat ((fun _ => 0) i))
theorem zs_size (m : Nat) : (zsOf m).size = m := by
  show (zsOf m).data.size = m
  unfold zsOf strOf
  simp
theorem zs_rg {V : Cv} {m : Nat} (hn : V.n ≠ 0) : rgE V (zsOf m) = if m = 2 * nby V.n then 0 else 2301 := by
  have hz : ∀ x, x ∈ (zsOf m).data.toList → x = 0 := by
    intro x hx
    unfold zsOf strOf at hx
    simp at hx
    exact hx.2.symm
  have e1 : rawR V (zsOf m) = 0 := by
    unfold rawR
    rw [ext_data]
    exact beVal_zeros _ (fun x hx => hz x (List.mem_of_mem_take (List.mem_of_mem_drop hx)))
  have e2 : rawT V (zsOf m) = 0 := by
    unfold rawT
    rw [ext_data]
    exact beVal_zeros _ (fun x hx => hz x (List.mem_of_mem_take (List.mem_of_mem_drop hx)))
  unfold rgE
  rw [zs_size, e1, e2]
  by_cases h : m = 2 * nby V.n
  · rw [if_neg (by omega), if_neg (by omega), if_pos h]
  · rw [if_pos h, if_neg h]
theorem rg_bigR {V : Cv} (T : Nat) : rgE V (strOf (beBytes (nby V.n) V.n) ++ strOf (beBytes (nby V.n) T)) = 2302 := by
  unfold rgE
  rw [cat_size, if_neg (by omega), cat_R (Nat.le_refl _), if_pos (by omega)]
theorem rg_bigT {V : Cv} (R : Nat) : rgE V (strOf (beBytes (nby V.n) R) ++ strOf (beBytes (nby V.n) V.n)) = 2302 := by
  unfold rgE
  rw [cat_size, if_neg (by omega), cat_T (Nat.le_refl _), if_pos (by omega)]
theorem rp_big {V : Cv} {R T : Nat} (h : V.n ≤ R ∨ V.n ≤ T) : rpE V R T = 2302 := if_pos h
theorem c_RawLengths (id : Int) (R : Nat) (size : Int) (high : Bool) (w : World) (hR : R < W9) : Calls Try.prog 5 ([.int .i64 id, natV R, .int .i64 size, .bool high] : List Value).toArray w (fun e w' => e = .returned (.bool true) ∧ Below w.heap.size w w') := by
  obtain ⟨V, h⟩ := cvI_idx id
  obtain ⟨hok, hid⟩ := cvI_ok h
  have h2 := cvI_id h
  have hbb := hok.bounds
  have hnW : V.n < W9 := w9_521 hbb.2.2.2.2.2.2.1
  have hsz := hok.sz
  have hsn := hsz.n
  have hn0 : V.n ≠ 0 := Nat.ne_of_gt (Nat.lt_of_lt_of_le (by decide) hok.order.1)
  have hRn : R % V.n < V.n := Nat.mod_lt _ (Nat.pos_of_ne_zero hn0)
  have hRw := Nat.lt_trans hRn hnW
  have hnb : nby V.n ≤ 72 := by have := blen_w9 hnW; unfold nby; omega
  have hbl2 := nby_le hRn
  have hbl1 : ¬ 8 * nby V.n < blen V.n := by unfold nby; omega
  have hndn := nw_w9_dig hRw
  refine calls_ro (N := 143) (rs := [.tmp 8]) [] Try.func5 rfl Try.ntmps5 Try.results5 (Nb rfl) trivial rfl ?_
  show LCode _ _ _ ⟨_, _⟩ _
  refine LCode.seq ?_
  refine LCode.region ?_
  refine LOps.step rfl (LStep.w (LStep.makes (Makes.boxA rfl) (Nb rfl) (fun b5 => ?_)))
  refine LOps.detP (Det.assign rfl) (Nb rfl) ?_
  refine LOps.nil ?_
  refine LCode.seq ?_
  refine LCode.seq ?_
  refine LCode.region ?_
  refine LOps.step rfl (LStep.w (LStep.callF (first := []) rfl en_47 rfl (Nb rfl) (fun w hw => c_awake23 w) ?_))
  refine LOps.detP (Slots.cast (Det.not rfl) (show _ = Value.bool false from rfl)) (Nb rfl) ?_
  refine LOps.nil ?_
  refine LCode.cond_false rfl ?_
  refine LCode.skip ?_
  refine LCode.seq ?_
  refine LCode.region ?_
  refine LOps.detP (Det.move rfl) (Nb rfl) ?_
  refine LOps.detP (Slots.cast (Det.conv Try.underlying3 Try.underlying46 rfl) (uidx_eq id)) (Nb rfl) ?_
  refine LOps.detP (Det.bin rfl rfl (br_rem64 (b := 15) (by omega))) (Nb rfl) ?_
  refine LOps.detP (Det.convi Try.underlying46 Try.underlying3 rfl (by omega)) (Nb rfl) ?_
  refine LOps.detP (Det.bin rfl rfl (br_add (a := 1) (by omega))) (Nb rfl) ?_
  refine LOps.step rfl (LStep.w (LStep.callZ (Post := fun v its => ∃ Q, v = .tuple #[.agg (crvL Q V).toArray, .bool true] ∧ its = [crvI Q V]) (first := []) rfl en_43 rfl (Nb rfl) (fun w1 hw hs => (c_r_Get _ V w1 h).mono fun e w' ⟨Q, h1, h2, h3, h4⟩ => ⟨_, _, ⟨Q, rfl, rfl⟩, h1, Brings.nums h4 (by intro x hx; simp at hx; subst hx; exact h2) (by intro x hx; simp at hx; subst hx; rfl) (by intro x hx k hk; simp at hx; subst hx; exact .inl (h3 k hk))⟩) ?_))
  rintro _ _ ⟨Q, rfl, rfl⟩
  refine LOps.detP (Det.move rfl) (Nb rfl) ?_
  refine LOps.detP (Det.extract rfl rfl) (Nb rfl) ?_
  refine LOps.detP (Det.extract rfl rfl) (Nb rfl) ?_
  refine LOps.step rfl (LStep.w (LStep.makes (Makes.allocA zr_31) (Nb rfl) (fun b9 => ?_)))
  refine LOps.step rfl (LStepW.storeA rfl rfl sz_31 (by repeat (first | exact allOne_nil | refine allOne_cons rfl ?_)) (by repeat (first | exact Sh _ | apply St_)) (by rfl) ?_)
  refine LOps.detP (Det.assign rfl) (Nb rfl) ?_
  refine LOps.nil ?_
  refine LCode.seq ?_
  refine LCode.seq ?_
  refine LCode.region ?_
  refine LOps.detP (Det.move rfl) (Nb rfl) ?_
  refine LOps.detP (Slots.cast (Det.not rfl) (show _ = Value.bool false from rfl)) (Nb rfl) ?_
  refine LOps.nil ?_
  refine LCode.cond_false rfl ?_
  refine LCode.skip ?_
  refine LCode.seq ?_
  refine LCode.region ?_
  refine LOps.det (Det.load rfl (by repeat (first | exact Mh _ | apply Mt)) (by exact LoadV.whole Try.underlying31 rfl sz_31)) (Nb rfl) ?_
  refine LOps.step rfl (LStep.w (LStep.callF (first := []) rfl en_53 rfl (Nb rfl) (fun w hw => c_r_NSize Q V w (hw _ (by repeat (first | exact Mh _ | apply Mt))) hsz) ?_))
  refine LOps.detP (Det.assign rfl) (Nb rfl) ?_
  refine LOps.nil ?_
  refine LCode.seq ?_
  obtain ⟨mm, hmm⟩ : ∃ m, (size % 256).toNat = m := ⟨_, rfl⟩
  have hm2 : mm < 256 := by omega
  have hzl : (zsOf mm).size < 9223372036854775808 := by rw [zs_size]; omega
  refine LCode.region ?_
  refine LOps.detP (Det.move rfl) (Nb rfl) ?_
  refine LOps.detP (Det.bin rfl rfl (br_andI255 size)) (Nb rfl) ?_
  rw [hmm]
  refine LOps.detP (Det.assign rfl) (Nb rfl) ?_
  refine LOps.nil ?_
  refine LCode.seq ?_
  refine LCode.regionD [10] (by kernel_rfl) ?_
  refine LAny.takeP 0 rfl (by kernel_rfl) (Nb rfl) (Det.fieldA (o' := 0) Try.underlying31 rfl rfl rfl sz_3 (by decide)) ?_
  refine LAny.take 1 rfl (by kernel_rfl) (Nb rfl) (Det.load rfl (by repeat (first | exact Mh _ | apply Mt)) (LoadV.one Try.underlying3 rfl (by first | rfl | exact vec_get _ _ _ (by omega) | exact natL_get _ (by omega) | exact wideL_get _ (by omega) | exact dv_m _ _ _ (by omega)))) ?_
  refine LAny.takeP 2 rfl (by kernel_rfl) (Nb rfl) (Det.move rfl) ?_
  refine LAny.toP ?_
  refine LAnyP.start 9 rfl (.inl zr_27) (Nb rfl) rfl rfl rfl ?_
  refine LAnyP.step 3 rfl rfl rfl (Nb rfl) (by kernel_rfl) rfl (LExt.makes (Makes.mkV Try.underlying52 inf_5 rfl rfl (by omega) (by omega))) ?_
  rintro _ _ ⟨b49, rfl, rfl⟩
  refine LAnyP.take 4 rfl (by kernel_rfl) (Nb rfl) rfl (Det.bytesStr Try.underlying52 Try.underlying5 Try.underlying9 rfl (by repeat (first | exact Mh _ | apply Mt)) (by exact (List.take_of_length_le (by simp [vec_length])).trans List.drop_zero)) ?_
  refine LAnyP.step 5 rfl rfl rfl (Nb rfl) (by kernel_rfl) rfl (LExt.callF (first := []) rfl en_45 rfl (fun w hw => c_raw_Get2 _ V (zsOf mm) w h2 hzl)) ?_
  rintro _ _ ⟨rfl, rfl⟩
  refine LAnyP.takeP 6 rfl (by kernel_rfl) (Nb rfl) rfl (Det.move rfl) ?_
  refine LAnyP.takeP 7 rfl (by kernel_rfl) (Nb rfl) rfl (Det.extract rfl rfl) ?_
  refine LAnyP.takeP 8 rfl (by kernel_rfl) (Nb rfl) rfl (Det.extract rfl rfl) ?_
  refine LAnyP.mat (by kernel_rfl) (fun b13 => ?_)
  refine LAnyP.toAny ?_
  refine LAny.late 10 rfl rfl (by kernel_rfl) (by kernel_rfl) (LStepW.storeA rfl rfl sz_27 (by exact sgL_one _ _) (by repeat (first | exact Sh _ | apply St_)) (by exact sgL_length _ _) ?_)
  refine LAny.takeP 11 rfl (by kernel_rfl) (Nb rfl) (Det.assign rfl) ?_
  refine LAny.done (by kernel_rfl) ?_
  refine LCode.seq ?_
  have hnd := nw_w9_dig hR
  refine LCode.regionD [7] (by kernel_rfl) ?_
  refine LAny.take 0 rfl (by kernel_rfl) (Nb rfl) (Det.load rfl (by repeat (first | exact Mh _ | apply Mt)) (by exact LoadV.whole Try.underlying25 rfl sz_25)) ?_
  refine LAny.takeP 2 rfl (by kernel_rfl) (Nb rfl) (Det.fieldA (o' := 4) Try.underlying31 rfl rfl rfl sz_29 (by decide)) ?_
  refine LAny.take 3 rfl (by kernel_rfl) (Nb rfl) (Det.load rfl (by repeat (first | exact Mh _ | apply Mt)) (LoadV.one Try.underlying29 rfl (by first | rfl | exact vec_get _ _ _ (by omega) | exact natL_get _ (by omega) | exact wideL_get _ (by omega) | exact dv_m _ _ _ (by omega)))) ?_
  refine LAny.toP ?_
  refine LAnyP.start 6 rfl (.inl zr_25) (Nb rfl) rfl rfl rfl ?_
  refine LAnyP.step 1 rfl rfl rfl (Nb rfl) (by kernel_rfl) rfl (LExt.callZ (first := []) rfl en_52 rfl (fun w hw hs => (c_n_From R hR w).mono fun e w' h => NumR.q (Old.nil _) hs h)) ?_
  rintro _ _ ⟨q55, rfl, rfl, hn55⟩
  refine LAnyP.step 4 rfl rfl rfl (Nb rfl) (by kernel_rfl) rfl (LExt.callZ (first := []) rfl en_51 rfl (fun w hw hs => (c_n_Mod q55 Q.n R V.n hn0 w (hw _ (by repeat (first | exact Mh _ | apply Mt))) (crvI_n (hw _ (by repeat (first | exact Mh _ | apply Mt)))) (by omega)).mono fun e w' h => NumR.q (Old.one (x := numT q55 R) (by repeat (first | exact Mh _ | apply Mt)) rfl) hs h)) ?_
  rintro _ _ ⟨q58, rfl, rfl, hn58⟩
  refine LAnyP.step 5 rfl rfl rfl (Nb rfl) (by kernel_rfl) rfl (LExt.callF (first := []) rfl en_50 rfl (fun w hw => c_n_Nat q58 (R % V.n) (D.nw (R % V.n)) w (hw _ (by repeat (first | exact Mh _ | apply Mt))))) ?_
  rintro _ _ ⟨rfl, rfl⟩
  refine LAnyP.mat (by kernel_rfl) (fun b15 => ?_)
  refine LAnyP.toAny ?_
  refine LAny.late 7 rfl rfl (by kernel_rfl) (by kernel_rfl) (LStepW.storeA rfl rfl sz_25 (by repeat (first | exact natL_one _ | exact vec_one _ _ _ | exact wideL_one _ | exact ptL_one _ _ _ | exact pjL_one _ _ _ | exact allOne_nil | refine allOne_cons rfl ?_ | refine allOne_append ?_ ?_)) (by repeat (first | exact Sh _ | apply St_)) (by first | exact natL_length _ | exact vec_length _ _ _ | exact wideL_length _ | exact ptL_length _ _ _ | exact pjL_length _ _ _ | rfl | simp [vec_length, natL_length, wideL_length]) ?_)
  refine LAny.done (by kernel_rfl) ?_
  refine LCode.seq ?_
  refine LCode.region ?_
  refine LOps.detP (Det.fieldA (o' := 4) Try.underlying31 rfl rfl rfl sz_29 (by decide)) (Nb rfl) ?_
  refine LOps.det (Det.load rfl (by repeat (first | exact Mh _ | apply Mt)) (LoadV.one Try.underlying29 rfl (by first | rfl | exact vec_get _ _ _ (by omega) | exact natL_get _ (by omega) | exact wideL_get _ (by omega) | exact dv_m _ _ _ (by omega)))) (Nb rfl) ?_
  refine LOps.step rfl (LStep.w (LStep.callF (first := []) rfl en_50 rfl (Nb rfl) (fun w hw => c_n_Nat Q.n V.n (D.nw V.n) w (crvI_n (hw _ (by repeat (first | exact Mh _ | apply Mt))))) ?_))
  refine LOps.step rfl (LStep.w (LStep.makes (Makes.allocA zr_25) (Nb rfl) (fun b16 => ?_)))
  refine LOps.step rfl (LStepW.storeA rfl rfl sz_25 (by repeat (first | exact natL_one _ | exact vec_one _ _ _ | exact wideL_one _ | exact ptL_one _ _ _ | exact pjL_one _ _ _ | exact allOne_nil | refine allOne_cons rfl ?_ | refine allOne_append ?_ ?_)) (by repeat (first | exact Sh _ | apply St_)) (by first | exact natL_length _ | exact vec_length _ _ _ | exact wideL_length _ | exact ptL_length _ _ _ | exact pjL_length _ _ _ | rfl | simp [vec_length, natL_length, wideL_length]) ?_)
  refine LOps.nil ?_
  refine LCode.seq ?_
  refine LCode.region ?_
  refine LOps.det (Det.load rfl (by repeat (first | exact Mh _ | apply Mt)) (by exact LoadV.whole Try.underlying25 rfl sz_25)) (Nb rfl) ?_
  refine LOps.det (Det.load rfl (by repeat (first | exact Mh _ | apply Mt)) (by exact LoadV.whole Try.underlying25 rfl sz_25)) (Nb rfl) ?_
  refine LOps.detP (Slots.cast (Det.build pl_27 zr_27 rfl (fill_sg _ _)) rfl) (Nb rfl) ?_
  refine LOps.step rfl (LStep.w (LStep.makes (Makes.allocA zr_27) (Nb rfl) (fun b17 => ?_)))
  refine LOps.step rfl (LStepW.storeA rfl rfl sz_27 (by exact sgL_one _ _) (by repeat (first | exact Sh _ | apply St_)) (by exact sgL_length _ _) ?_)
  refine LOps.nil ?_
  refine LCode.cut (α := Nat × Nat) (fun x => (V.n ≤ x.1 ∨ V.n ≤ x.2) ∧ x.1 < W9 ∧ x.2 < W9) (fun x => ⟨[(9, .pointer (some ⟨b9, 0, none⟩)), (11, .int .i64 ((nby V.n : Nat) : Int)), (12, .int .i64 ((mm : Nat) : Int)), (14, .int .i64 ((rgE V (zsOf mm) : Nat) : Int)), (15, .pointer (some ⟨b15, 0, none⟩)), (17, .pointer (some ⟨b17, 0, none⟩))], [.blk b17 ⟨true, sgL x.1 x.2, 27, (0, 0)⟩, .blk b15 ⟨true, natL (R % V.n), 25, (0, 0)⟩, .blk b9 ⟨true, crvL Q V, 31, (0, 0)⟩, crvI Q V]⟩) ?_ ?_
  ·
    refine LCode.seq ?_
    refine LCode.region ?_
    refine LOps.detP (Det.move rfl) (Nb rfl) ?_
    refine LOps.nil ?_
    first | refine LCode.condD rfl (fun h66 => ?_) (fun h66 => ?_) | refine LCode.cond rfl (fun h66 => ?_) (fun h66 => ?_)
    ·
      refine LCode.region ?_
      refine LOps.det (Det.load rfl (by repeat (first | exact Mh _ | apply Mt)) (by exact LoadV.whole Try.underlying25 rfl sz_25)) (Nb rfl) ?_
      refine LOps.det (Det.load rfl (by repeat (first | exact Mh _ | apply Mt)) (by exact LoadV.whole Try.underlying25 rfl sz_25)) (Nb rfl) ?_
      refine LOps.detP (Slots.cast (Det.build pl_27 zr_27 rfl (fill_sg _ _)) rfl) (Nb rfl) ?_
      refine LOps.step rfl (LStepW.storeA rfl rfl sz_27 (by exact sgL_one _ _) (by repeat (first | exact Sh _ | apply St_)) (by rw [sgL_length, sgL_length]) ?_)
      refine LOps.nil ?_
      exact ⟨(V.n, R % V.n), ⟨.inl (Nat.le_refl _), hnW, hRw⟩, Sub.mk ⟨rfl, rfl, rfl, rfl, rfl, rfl, trivial⟩ (by repeat (first | exact Sel.nil _ | refine Sel.cons (by repeat (first | exact Ph _ | apply Pt_)) ?_))⟩
    ·
      refine LCode.skip ?_
      exact ⟨(R % V.n, V.n), ⟨.inr (Nat.le_refl _), hRw, hnW⟩, Sub.mk ⟨rfl, rfl, rfl, rfl, rfl, rfl, trivial⟩ (by repeat (first | exact Sel.nil _ | refine Sel.cons (by repeat (first | exact Ph _ | apply Pt_)) ?_))⟩
  ·
    rintro x ⟨hx1, hx2, hx3⟩
    refine LCode.seq ?_
    refine LCode.region ?_
    refine LOps.detP (Det.fieldA (o' := 0) Try.underlying31 rfl rfl rfl sz_3 (by decide)) (Nb rfl) ?_
    refine LOps.det (Det.load rfl (by repeat (first | exact Mh _ | apply Mt)) (LoadV.one Try.underlying3 rfl (by first | rfl | exact vec_get _ _ _ (by omega) | exact natL_get _ (by omega) | exact wideL_get _ (by omega) | exact dv_m _ _ _ (by omega)))) (Nb rfl) ?_
    refine LOps.det (Det.load rfl (by repeat (first | exact Mh _ | apply Mt)) (by exact LoadV.whole Try.underlying27 rfl sz_27)) (Nb rfl) ?_
    refine LOps.step rfl (LStep.w (LStep.callF (first := []) rfl en_44 rfl (Nb rfl) (fun w hw => c_raw_Put2 _ V x.1 x.2 w h2 hx2 hx3) ?_))
    refine LOps.detP (Det.move rfl) (Nb rfl) ?_
    refine LOps.detP (Det.extract rfl rfl) (Nb rfl) ?_
    refine LOps.detP (Det.extract rfl rfl) (Nb rfl) ?_
    refine LOps.detP (Det.assign rfl) (Nb rfl) ?_
    refine LOps.detP (Det.assign rfl) (Nb rfl) ?_
    refine LOps.nil ?_
    refine LCode.seq ?_
    refine LCode.region ?_
    refine LOps.detP (Det.fieldA (o' := 4) Try.underlying31 rfl rfl rfl sz_29 (by decide)) (Nb rfl) ?_
    refine LOps.det (Det.load rfl (by repeat (first | exact Mh _ | apply Mt)) (LoadV.one Try.underlying29 rfl (by first | rfl | exact vec_get _ _ _ (by omega) | exact natL_get _ (by omega) | exact wideL_get _ (by omega) | exact dv_m _ _ _ (by omega)))) (Nb rfl) ?_
    refine LOps.detP (Det.move rfl) (Nb rfl) ?_
    refine LOps.step rfl (LStep.w (LStep.callF (first := []) rfl en_54 rfl (Nb rfl) (fun w hw => c_n_BytesOK Q.n V.n (nby V.n) w (crvI_n (hw _ (by repeat (first | exact Mh _ | apply Mt)))) (by omega) hnb hbl1) ?_))
    refine LOps.detP (Det.move rfl) (Nb rfl) ?_
    refine LOps.detP (Det.extract rfl rfl) (Nb rfl) ?_
    refine LOps.detP (Det.extract rfl rfl) (Nb rfl) ?_
    refine LOps.detP (Det.assign rfl) (Nb rfl) ?_
    refine LOps.detP (Det.assign rfl) (Nb rfl) ?_
    refine LOps.nil ?_
    refine LCode.seq ?_
    refine LCode.region ?_
    refine LOps.det (Det.load rfl (by repeat (first | exact Mh _ | apply Mt)) (by exact LoadV.whole Try.underlying25 rfl sz_25)) (Nb rfl) ?_
    refine LOps.step rfl (LStep.w (LStep.callZ (first := []) rfl en_52 rfl (Nb rfl) (fun w hw hs => (c_n_From (R % V.n) hRw w).mono fun e w' h => NumR.q (Old.nil _) hs h) ?_))
    rintro _ _ ⟨q86, rfl, rfl, hn86⟩
    refine LOps.detP (Det.move rfl) (Nb rfl) ?_
    refine LOps.step rfl (LStep.w (LStep.callF (first := []) rfl en_54 rfl (Nb rfl) (fun w hw => c_n_BytesOK q86 (R % V.n) (nby V.n) w (hw _ (by repeat (first | exact Mh _ | apply Mt))) (by omega) hnb hbl2) ?_))
    refine LOps.detP (Det.move rfl) (Nb rfl) ?_
    refine LOps.detP (Det.extract rfl rfl) (Nb rfl) ?_
    refine LOps.detP (Det.extract rfl rfl) (Nb rfl) ?_
    refine LOps.detP (Det.assign rfl) (Nb rfl) ?_
    refine LOps.detP (Det.assign rfl) (Nb rfl) ?_
    refine LOps.nil ?_
    refine LCode.seq ?_
    refine LCode.region ?_
    refine LOps.detP (Det.fieldA (o' := 0) Try.underlying31 rfl rfl rfl sz_3 (by decide)) (Nb rfl) ?_
    refine LOps.det (Det.load rfl (by repeat (first | exact Mh _ | apply Mt)) (LoadV.one Try.underlying3 rfl (by first | rfl | exact vec_get _ _ _ (by omega) | exact natL_get _ (by omega) | exact wideL_get _ (by omega) | exact dv_m _ _ _ (by omega)))) (Nb rfl) ?_
    refine LOps.detP (Det.move rfl) (Nb rfl) ?_
    refine LOps.detP (Det.move rfl) (Nb rfl) ?_
    refine LOps.detP (Det.cat rfl rfl (by rw [str_size, str_size]; omega)) (Nb rfl) ?_
    refine LOps.step rfl (LStep.w (LStep.callF (first := []) rfl en_45 rfl (Nb rfl) (fun w hw => c_raw_Get2 _ V (strOf (beBytes (nby V.n) V.n) ++ strOf (beBytes (nby V.n) (R % V.n))) w h2 (by rw [cat_size]; omega)) ?_))
    refine LOps.detP (Det.move rfl) (Nb rfl) ?_
    refine LOps.detP (Det.extract rfl rfl) (Nb rfl) ?_
    refine LOps.detP (Det.extract rfl rfl) (Nb rfl) ?_
    refine LOps.step rfl (LStep.w (LStep.makes (Makes.allocA zr_27) (Nb rfl) (fun b24 => ?_)))
    refine LOps.step rfl (LStepW.storeA rfl rfl sz_27 (by exact sgL_one _ _) (by repeat (first | exact Sh _ | apply St_)) (by exact sgL_length _ _) ?_)
    refine LOps.detP (Det.assign rfl) (Nb rfl) ?_
    refine LOps.nil ?_
    refine LCode.seq ?_
    refine LCode.region ?_
    refine LOps.detP (Det.fieldA (o' := 0) Try.underlying31 rfl rfl rfl sz_3 (by decide)) (Nb rfl) ?_
    refine LOps.det (Det.load rfl (by repeat (first | exact Mh _ | apply Mt)) (LoadV.one Try.underlying3 rfl (by first | rfl | exact vec_get _ _ _ (by omega) | exact natL_get _ (by omega) | exact wideL_get _ (by omega) | exact dv_m _ _ _ (by omega)))) (Nb rfl) ?_
    refine LOps.detP (Det.move rfl) (Nb rfl) ?_
    refine LOps.detP (Det.move rfl) (Nb rfl) ?_
    refine LOps.detP (Det.cat rfl rfl (by rw [str_size, str_size]; omega)) (Nb rfl) ?_
    refine LOps.step rfl (LStep.w (LStep.callF (first := []) rfl en_45 rfl (Nb rfl) (fun w hw => c_raw_Get2 _ V (strOf (beBytes (nby V.n) (R % V.n)) ++ strOf (beBytes (nby V.n) V.n)) w h2 (by rw [cat_size]; omega)) ?_))
    refine LOps.detP (Det.move rfl) (Nb rfl) ?_
    refine LOps.detP (Det.extract rfl rfl) (Nb rfl) ?_
    refine LOps.detP (Det.extract rfl rfl) (Nb rfl) ?_
    refine LOps.step rfl (LStep.w (LStep.makes (Makes.allocA zr_27) (Nb rfl) (fun b26 => ?_)))
    refine LOps.step rfl (LStepW.storeA rfl rfl sz_27 (by exact sgL_one _ _) (by repeat (first | exact Sh _ | apply St_)) (by exact sgL_length _ _) ?_)
    refine LOps.detP (Det.assign rfl) (Nb rfl) ?_
    refine LOps.nil ?_
    refine LCode.seq ?_
    by_cases hM : mm = 2 * nby V.n
    ·
      refine LCode.region ?_
      refine LOps.detP (Det.move rfl) (Nb rfl) ?_
      refine LOps.step rfl (LStep.w (LStep.callF (first := []) rfl en_46 rfl (Nb rfl) (fun w hw => c_Num _ w) ?_))
      refine LOps.detP (Det.bin (v := .bool true) rfl rfl (br_t (br_eql (b := 0)) (by rw [zs_rg hn0, if_pos hM]))) (Nb rfl) ?_
      refine LOps.detP (Det.move rfl) (Nb rfl) ?_
      refine LOps.detP (Det.move rfl) (Nb rfl) ?_
      refine LOps.detP (Det.bin rfl rfl (br_mul (a := 2) (by omega))) (Nb rfl) ?_
      refine LOps.detP (Det.bin (v := .bool true) rfl rfl (br_t br_eql (hM))) (Nb rfl) ?_
      refine LOps.detP (Slots.cast (Det.eqb Try.underlying4 rfl rfl) (show _ = Value.bool true by rfl)) (Nb rfl) ?_
      refine LOps.detP (Det.move rfl) (Nb rfl) ?_
      refine LOps.detGP rfl rfl (Det.move rfl) (Nb rfl) ?_
      refine LOps.detGP rfl rfl (Det.move rfl) (Nb rfl) ?_
      refine LOps.detGP rfl rfl (Det.bin rfl rfl (br_mul (a := 2) (by omega))) (Nb rfl) ?_
      refine LOps.detGP rfl rfl (Det.bin (v := .bool true) rfl rfl (br_t br_eql (hM))) (Nb rfl) ?_
      refine LOps.detGP rfl rfl (Det.move rfl) (Nb rfl) ?_
      refine LOps.skip rfl rfl rfl (Nb rfl) ?_
      refine LOps.skip rfl rfl rfl (Nb rfl) ?_
      refine LOps.skip rfl rfl rfl (Nb rfl) ?_
      refine LOps.detGP rfl rfl (Det.pick_true rfl rfl) (Nb rfl) ?_
      refine LOps.detP (Det.pick_true rfl rfl) (Nb rfl) ?_
      refine LOps.detP (Det.move rfl) (Nb rfl) ?_
      refine LOps.detGP rfl rfl (Det.move rfl) (Nb rfl) ?_
      refine LOps.stepG rfl rfl rfl (LStep.w (LStep.callF (first := []) rfl en_46 rfl (Nb rfl) (fun w hw => c_Num _ w) ?_))
      refine LOps.detGP rfl rfl (Det.bin (v := .bool true) rfl rfl (br_t (br_eql (b := 2302)) (rp_big hx1))) (Nb rfl) ?_
      refine LOps.detP (Det.pick_true rfl rfl) (Nb rfl) ?_
      refine LOps.detP (Det.move rfl) (Nb rfl) ?_
      refine LOps.detGP rfl rfl (Det.move rfl) (Nb rfl) ?_
      refine LOps.stepG rfl rfl rfl (LStep.w (LStep.callF (first := []) rfl en_46 rfl (Nb rfl) (fun w hw => c_Num _ w) ?_))
      refine LOps.detGP rfl rfl (Det.bin (v := .bool true) rfl rfl (br_t (br_eql (b := 2302)) (rg_bigR _))) (Nb rfl) ?_
      refine LOps.detP (Det.pick_true rfl rfl) (Nb rfl) ?_
      refine LOps.detP (Det.move rfl) (Nb rfl) ?_
      refine LOps.detGP rfl rfl (Det.move rfl) (Nb rfl) ?_
      refine LOps.stepG rfl rfl rfl (LStep.w (LStep.callF (first := []) rfl en_46 rfl (Nb rfl) (fun w hw => c_Num _ w) ?_))
      refine LOps.detGP rfl rfl (Det.bin (v := .bool true) rfl rfl (br_t (br_eql (b := 2302)) (rg_bigT _))) (Nb rfl) ?_
      refine LOps.detP (Det.pick_true rfl rfl) (Nb rfl) ?_
      refine LOps.detP (Det.assign rfl) (Nb rfl) ?_
      refine LOps.nil ?_
      refine LCode.ret ?_
      refine ⟨[_], .cons rfl .nil, fun a w' hr => ⟨?_, hr.fr.below⟩⟩
      rfl
    ·
      refine LCode.region ?_
      refine LOps.detP (Det.move rfl) (Nb rfl) ?_
      refine LOps.step rfl (LStep.w (LStep.callF (first := []) rfl en_46 rfl (Nb rfl) (fun w hw => c_Num _ w) ?_))
      refine LOps.detP (Det.bin (v := .bool false) rfl rfl (br_f (br_eql (b := 0)) (by rw [zs_rg hn0, if_neg hM]; decide))) (Nb rfl) ?_
      refine LOps.detP (Det.move rfl) (Nb rfl) ?_
      refine LOps.detP (Det.move rfl) (Nb rfl) ?_
      refine LOps.detP (Det.bin rfl rfl (br_mul (a := 2) (by omega))) (Nb rfl) ?_
      refine LOps.detP (Det.bin (v := .bool false) rfl rfl (br_f br_eql (hM))) (Nb rfl) ?_
      refine LOps.detP (Slots.cast (Det.eqb Try.underlying4 rfl rfl) (show _ = Value.bool true by rfl)) (Nb rfl) ?_
      refine LOps.detP (Det.move rfl) (Nb rfl) ?_
      refine LOps.detGP rfl rfl (Det.move rfl) (Nb rfl) ?_
      refine LOps.detGP rfl rfl (Det.move rfl) (Nb rfl) ?_
      refine LOps.detGP rfl rfl (Det.bin rfl rfl (br_mul (a := 2) (by omega))) (Nb rfl) ?_
      refine LOps.detGP rfl rfl (Det.bin (v := .bool false) rfl rfl (br_f br_eql (hM))) (Nb rfl) ?_
      refine LOps.detGP rfl rfl (Det.move rfl) (Nb rfl) ?_
      refine LOps.detGP rfl rfl (Det.move rfl) (Nb rfl) ?_
      refine LOps.stepG rfl rfl rfl (LStep.w (LStep.callF (first := []) rfl en_46 rfl (Nb rfl) (fun w hw => c_Num _ w) ?_))
      refine LOps.detGP rfl rfl (Det.bin (v := .bool true) rfl rfl (br_t (br_eql (b := 2301)) (by rw [zs_rg hn0, if_neg hM]))) (Nb rfl) ?_
      refine LOps.detGP rfl rfl (Det.pick_false rfl rfl) (Nb rfl) ?_
      refine LOps.detP (Det.pick_true rfl rfl) (Nb rfl) ?_
      refine LOps.detP (Det.move rfl) (Nb rfl) ?_
      refine LOps.detGP rfl rfl (Det.move rfl) (Nb rfl) ?_
      refine LOps.stepG rfl rfl rfl (LStep.w (LStep.callF (first := []) rfl en_46 rfl (Nb rfl) (fun w hw => c_Num _ w) ?_))
      refine LOps.detGP rfl rfl (Det.bin (v := .bool true) rfl rfl (br_t (br_eql (b := 2302)) (rp_big hx1))) (Nb rfl) ?_
      refine LOps.detP (Det.pick_true rfl rfl) (Nb rfl) ?_
      refine LOps.detP (Det.move rfl) (Nb rfl) ?_
      refine LOps.detGP rfl rfl (Det.move rfl) (Nb rfl) ?_
      refine LOps.stepG rfl rfl rfl (LStep.w (LStep.callF (first := []) rfl en_46 rfl (Nb rfl) (fun w hw => c_Num _ w) ?_))
      refine LOps.detGP rfl rfl (Det.bin (v := .bool true) rfl rfl (br_t (br_eql (b := 2302)) (rg_bigR _))) (Nb rfl) ?_
      refine LOps.detP (Det.pick_true rfl rfl) (Nb rfl) ?_
      refine LOps.detP (Det.move rfl) (Nb rfl) ?_
      refine LOps.detGP rfl rfl (Det.move rfl) (Nb rfl) ?_
      refine LOps.stepG rfl rfl rfl (LStep.w (LStep.callF (first := []) rfl en_46 rfl (Nb rfl) (fun w hw => c_Num _ w) ?_))
      refine LOps.detGP rfl rfl (Det.bin (v := .bool true) rfl rfl (br_t (br_eql (b := 2302)) (rg_bigT _))) (Nb rfl) ?_
      refine LOps.detP (Det.pick_true rfl rfl) (Nb rfl) ?_
      refine LOps.detP (Det.assign rfl) (Nb rfl) ?_
      refine LOps.nil ?_
      refine LCode.ret ?_
      refine ⟨[_], .cons rfl .nil, fun a w' hr => ⟨?_, hr.fr.below⟩⟩
      rfl
theorem cvI_tiny (x : Int) : ∃ V, cvI ((13 + uidx x % 3 : Nat) : Int) = some V ∧ V.n ≤ 255 ∧ nby V.n = 1 ∧ D.nw V.n = 1 ∧ V.n ≠ 0 := by
  have h : uidx x % 3 = 0 ∨ uidx x % 3 = 1 ∨ uidx x % 3 = 2 := by omega
  rcases h with h | h | h <;> rw [h] <;> exact ⟨_, rfl, by decide, by rfl, by rfl, by decide⟩
def twoOf (x y : Nat) : ByteArray := strOf ((List.range 2).map fun i => UInt8.ofNat ((fun j => if j = 0 then x else y) i))
theorem two_data (x y : Nat) : (twoOf x y).data.toList = [UInt8.ofNat x, UInt8.ofNat y] := by
  unfold twoOf strOf
  simp [List.range_succ]
theorem two_size (x y : Nat) : (twoOf x y).size = 2 := by
  have := congrArg List.length (two_data x y)
  exact this
theorem two_rg {V : Cv} {x y : Nat} (h1 : nby V.n = 1) (hx : x < 256) (hy : y < 256) : rawR V (twoOf x y) = x ∧ rawT V (twoOf x y) = y := by
  have e1 : (UInt8.ofNat x).toNat = x := by simp [UInt8.toNat_ofNat]; omega
  have e2 : (UInt8.ofNat y).toNat = y := by simp [UInt8.toNat_ofNat]; omega
  unfold rawR rawT
  rw [ext_data, ext_data, two_data, two_size, h1]
  simp [beVal, e1, e2]
theorem two_ok {V : Cv} {x y : Nat} (h1 : nby V.n = 1) (hx : x < 256) (hy : y < 256) (h2 : x < V.n) (h3 : y < V.n) : rgR V (twoOf x y) = x ∧ rgT V (twoOf x y) = y ∧ rgE V (twoOf x y) = 0 := by
  obtain ⟨e1, e2⟩ := two_rg h1 hx hy
  unfold rgR rgT rgE
  rw [e1, e2, two_size, h1, if_neg (by omega), if_neg (by omega), if_neg (by omega), if_neg (by omega), if_neg (by omega), if_neg (by omega)]
  exact ⟨rfl, rfl, rfl⟩
theorem two_no {V : Cv} {x y : Nat} (h1 : nby V.n = 1) (hx : x < 256) (hy : y < 256) (h2 : ¬ (x < V.n ∧ y < V.n)) : rgE V (twoOf x y) = 2302 := by
  obtain ⟨e1, e2⟩ := two_rg h1 hx hy
  unfold rgE
  rw [e1, e2, two_size, h1, if_neg (by omega), if_pos (by omega)]
theorem c_RawTiny (which : Int) (b : Int) (w : World)  : Calls Try.prog 6 ([.int .i64 which, .int .i64 b] : List Value).toArray w (fun e w' => e = .returned (.bool true) ∧ Below w.heap.size w w') := by
  obtain ⟨V, h, hn255, hnb1, hnw1, hn0⟩ := cvI_tiny which
  obtain ⟨hok, hid⟩ := cvI_ok h
  have h2 := cvI_id h
  have hnW : V.n < W9 := u64_w9 (by omega)
  have hb8 := u8idx_lt b
  refine calls_ro (N := 93) (rs := [.tmp 4]) [] Try.func6 rfl Try.ntmps6 Try.results6 (Nb rfl) trivial rfl ?_
  show LCode _ _ _ ⟨_, _⟩ _
  refine LCode.seq ?_
  refine LCode.region ?_
  refine LOps.detP (Det.assign rfl) (Nb rfl) ?_
  refine LOps.nil ?_
  refine LCode.seq ?_
  refine LCode.seq ?_
  refine LCode.region ?_
  refine LOps.step rfl (LStep.w (LStep.callF (first := []) rfl en_47 rfl (Nb rfl) (fun w hw => c_awake23 w) ?_))
  refine LOps.detP (Slots.cast (Det.not rfl) (show _ = Value.bool false from rfl)) (Nb rfl) ?_
  refine LOps.nil ?_
  refine LCode.cond_false rfl ?_
  refine LCode.skip ?_
  refine LCode.seq ?_
  refine LCode.region ?_
  refine LOps.detP (Det.move rfl) (Nb rfl) ?_
  refine LOps.detP (Slots.cast (Det.conv Try.underlying3 Try.underlying46 rfl) (uidx_eq which)) (Nb rfl) ?_
  refine LOps.detP (Det.bin rfl rfl (br_rem64 (b := 3) (by omega))) (Nb rfl) ?_
  refine LOps.detP (Det.convi Try.underlying46 Try.underlying3 rfl (by omega)) (Nb rfl) ?_
  refine LOps.detP (Det.bin rfl rfl (br_add (a := 13) (by omega))) (Nb rfl) ?_
  refine LOps.step rfl (LStep.w (LStep.callZ (Post := fun v its => ∃ Q, v = .tuple #[.agg (crvL Q V).toArray, .bool true] ∧ its = [crvI Q V]) (first := []) rfl en_43 rfl (Nb rfl) (fun w1 hw hs => (c_r_Get _ V w1 h).mono fun e w' ⟨Q, h1, h2, h3, h4⟩ => ⟨_, _, ⟨Q, rfl, rfl⟩, h1, Brings.nums h4 (by intro x hx; simp at hx; subst hx; exact h2) (by intro x hx; simp at hx; subst hx; rfl) (by intro x hx k hk; simp at hx; subst hx; exact .inl (h3 k hk))⟩) ?_))
  rintro _ _ ⟨Q, rfl, rfl⟩
  refine LOps.detP (Det.move rfl) (Nb rfl) ?_
  refine LOps.detP (Det.extract rfl rfl) (Nb rfl) ?_
  refine LOps.detP (Det.extract rfl rfl) (Nb rfl) ?_
  refine LOps.step rfl (LStep.w (LStep.makes (Makes.allocA zr_31) (Nb rfl) (fun b5 => ?_)))
  refine LOps.step rfl (LStepW.storeA rfl rfl sz_31 (by repeat (first | exact allOne_nil | refine allOne_cons rfl ?_)) (by repeat (first | exact Sh _ | apply St_)) (by rfl) ?_)
  refine LOps.detP (Det.assign rfl) (Nb rfl) ?_
  refine LOps.nil ?_
  refine LCode.seq ?_
  refine LCode.seq ?_
  refine LCode.region ?_
  refine LOps.detP (Det.move rfl) (Nb rfl) ?_
  refine LOps.detP (Slots.cast (Det.not rfl) (show _ = Value.bool false from rfl)) (Nb rfl) ?_
  refine LOps.nil ?_
  refine LCode.cond_false rfl ?_
  refine LCode.skip ?_
  refine LCode.seq ?_
  refine LCode.region ?_
  refine LOps.detP (Det.fieldA (o' := 4) Try.underlying31 rfl rfl rfl sz_29 (by decide)) (Nb rfl) ?_
  refine LOps.det (Det.load rfl (by repeat (first | exact Mh _ | apply Mt)) (LoadV.one Try.underlying29 rfl (by first | rfl | exact vec_get _ _ _ (by omega) | exact natL_get _ (by omega) | exact wideL_get _ (by omega) | exact dv_m _ _ _ (by omega)))) (Nb rfl) ?_
  refine LOps.detP (Det.indexN (i := 0) Try.underlying29 sz_56 rfl rfl (by omega)) (Nb rfl) ?_
  refine LOps.det (Det.loadF (n := D.nw V.n) Try.underlying56 rfl rfl (fun w hw => crvI_n (hw _ (by repeat (first | exact Mh _ | apply Mt)))) (by omega)) (Nb rfl) ?_
  refine LOps.detP (Slots.cast (Det.conv64 Try.underlying56 Try.underlying22 rfl (Nat.lt_trans (D.limb_lt _ _) (by decide))) (vi (b := V.n) (one_digit hnw1))) (Nb rfl) ?_
  refine LOps.detP (Det.assign rfl) (Nb rfl) ?_
  refine LOps.nil ?_
  refine LCode.seq ?_
  refine LCode.seq ?_
  refine LCode.region ?_
  refine LOps.detP (Det.assign (v := .int .i64 ((0 : Nat) : Int)) rfl) (Nb rfl) ?_
  refine LOps.nil ?_
  refine LCode.block ?_
  refine LCode.loop (α := Nat) (fun x => x ≤ 256) (fun x => ⟨[(1, .int .i64 b), (5, .pointer (some ⟨b5, 0, none⟩)), (7, .int .u64 ((V.n : Nat) : Int)), (8, .int .i64 ((x : Nat) : Int))], [.blk b5 ⟨true, crvL Q V, 31, (0, 0)⟩, crvI Q V]⟩) (fun x => 256 - x) (0) (Nat.zero_le _) (Sub.mk ⟨rfl, rfl, rfl, rfl, trivial⟩ (by repeat (first | exact Sel.nil _ | refine Sel.cons (by repeat (first | exact Ph _ | apply Pt_)) ?_))) ?_
  intro x hx
  refine LCode.seq ?_
  refine LCode.seq ?_
  refine LCode.region ?_
  refine LOps.detP (Det.move rfl) (Nb rfl) ?_
  refine LOps.detP (Det.bin rfl rfl (br_lss (b := 256))) (Nb rfl) ?_
  refine LOps.nil ?_
  first | refine LCode.condD rfl (fun h32 => ?_) (fun h32 => ?_) | refine LCode.cond rfl (fun h32 => ?_) (fun h32 => ?_)
  ·
    have h32 : x < 256 := h32
    refine LCode.skip ?_
    refine LCode.seq ?_
    refine LCode.block ?_
    refine LCode.seq ?_
    have hx8 : x < 256 := h32
    refine LCode.region ?_
    refine LOps.detP (Det.move rfl) (Nb rfl) ?_
    refine LOps.detP (Slots.cast (Det.conv8 Try.underlying3 Try.underlying5 rfl) (vi (b := x) (Nat.mod_eq_of_lt hx8))) (Nb rfl) ?_
    refine LOps.detP (Det.move rfl) (Nb rfl) ?_
    refine LOps.detP (Slots.cast (Det.conv Try.underlying3 Try.underlying5 rfl) (u8idx_eq b)) (Nb rfl) ?_
    refine LOps.step rfl (LStep.w (LStep.makes (Makes.rowN Try.underlying52 inf_5 rfl rfl rfl rfl (by decide) rfl) (Nb rfl) (fun b39 => ?_)))
    refine LOps.det (Det.bytesStr (f := fun j => if j = 0 then x else u8idx b) Try.underlying52 Try.underlying5 Try.underlying9 rfl (by repeat (first | exact Mh _ | apply Mt)) (by rfl)) (Nb rfl) ?_
    refine LOps.detP (Det.assign rfl) (Nb rfl) ?_
    refine LOps.nil ?_
    refine LCode.seq ?_
    refine LCode.region ?_
    refine LOps.detP (Det.fieldA (o' := 0) Try.underlying31 rfl rfl rfl sz_3 (by decide)) (Nb rfl) ?_
    refine LOps.det (Det.load rfl (by repeat (first | exact Mh _ | apply Mt)) (LoadV.one Try.underlying3 rfl (by first | rfl | exact vec_get _ _ _ (by omega) | exact natL_get _ (by omega) | exact wideL_get _ (by omega) | exact dv_m _ _ _ (by omega)))) (Nb rfl) ?_
    refine LOps.detP (Det.move rfl) (Nb rfl) ?_
    refine LOps.step rfl (LStep.w (LStep.callF (first := []) rfl en_45 rfl (Nb rfl) (fun w hw => c_raw_Get2 _ V (twoOf x (u8idx b)) w h2 (by rw [two_size]; decide)) ?_))
    refine LOps.detP (Det.move rfl) (Nb rfl) ?_
    refine LOps.detP (Det.extract rfl rfl) (Nb rfl) ?_
    refine LOps.detP (Det.extract rfl rfl) (Nb rfl) ?_
    refine LOps.step rfl (LStep.w (LStep.makes (Makes.allocA zr_27) (Nb rfl) (fun b10 => ?_)))
    refine LOps.step rfl (LStepW.storeA rfl rfl sz_27 (by exact sgL_one _ _) (by repeat (first | exact Sh _ | apply St_)) (by exact sgL_length _ _) ?_)
    refine LOps.detP (Det.assign rfl) (Nb rfl) ?_
    refine LOps.nil ?_
    refine LCode.seq ?_
    rcases (show (x < V.n ∧ u8idx b < V.n) ∨ (x < V.n ∧ ¬ u8idx b < V.n) ∨ ¬ x < V.n by omega) with ⟨hA, hB⟩ | ⟨hA, hB⟩ | hA
    ·
      refine LCode.region ?_
      refine LOps.detP (Det.move rfl) (Nb rfl) ?_
      refine LOps.detP (Det.conv64 Try.underlying3 Try.underlying22 rfl (by first | omega | exact Nat.lt_trans (D.limb_lt _ _) (by decide))) (Nb rfl) ?_
      refine LOps.detP (Det.move rfl) (Nb rfl) ?_
      refine LOps.detP (Det.bin (v := .bool true) rfl rfl (br_t br_lss (hA))) (Nb rfl) ?_
      refine LOps.detP (Det.move rfl) (Nb rfl) ?_
      refine LOps.detGP rfl rfl (Det.move rfl) (Nb rfl) ?_
      refine LOps.detGP rfl rfl (Slots.cast (Det.conv Try.underlying3 Try.underlying5 rfl) (u8idx_eq b)) (Nb rfl) ?_
      refine LOps.detGP rfl rfl (Det.conv64 Try.underlying5 Try.underlying22 rfl (by first | omega | exact Nat.lt_trans (D.limb_lt _ _) (by decide))) (Nb rfl) ?_
      refine LOps.detGP rfl rfl (Det.move rfl) (Nb rfl) ?_
      refine LOps.detGP rfl rfl (Det.bin (v := .bool true) rfl rfl (br_t br_lss (hB))) (Nb rfl) ?_
      refine LOps.detP (Det.pick_true rfl rfl) (Nb rfl) ?_
      refine LOps.detP (Det.assign rfl) (Nb rfl) ?_
      refine LOps.nil ?_
      refine LCode.seq ?_
      refine LCode.regionD [] (by kernel_rfl) ?_
      refine LAny.takeP 0 rfl (by kernel_rfl) (Nb rfl) (Det.move rfl) ?_
      refine LAny.takeP 3 rfl (by kernel_rfl) (Nb rfl) (Det.move rfl) ?_
      refine LAny.one 1 rfl rfl (by kernel_rfl) (LStep.callF (first := []) rfl en_46 rfl (Nb rfl) (fun w hw => c_Num _ w) ?_)
      refine LAny.takeP 2 rfl (by kernel_rfl) (Nb rfl) (Det.bin (v := .bool true) rfl rfl (br_t (br_eql (b := 0)) ((two_ok hnb1 hx8 hb8 hA hB).2.2))) ?_
      refine LAny.takeP 4 rfl (by kernel_rfl) (Nb rfl) (Slots.cast (Det.neb Try.underlying4 rfl rfl) (show _ = Value.bool false by rfl)) ?_
      refine LAny.takeP 5 rfl (by kernel_rfl) (Nb rfl) (Det.move rfl) ?_
      refine LAny.takeGP 6 rfl rfl rfl (by kernel_rfl) (Nb rfl) (Det.move rfl) ?_
      refine LAny.takeGP 7 rfl rfl rfl (by kernel_rfl) (Nb rfl) (Det.move rfl) ?_
      refine LAny.takeGP 8 rfl rfl rfl (by kernel_rfl) (Nb rfl) (Det.fieldA (o' := 0) Try.underlying27 rfl rfl rfl sz_25 (by decide)) ?_
      refine LAny.takeG 9 rfl rfl rfl (by kernel_rfl) (Nb rfl) (Det.load rfl (by repeat (first | exact Mh _ | apply Mt)) (by exact LoadV.first Try.underlying25 rfl sz_25 rfl (natL_length _))) ?_
      refine LAny.takeGP 10 rfl rfl rfl (by kernel_rfl) (Nb rfl) (Det.move rfl) ?_
      refine LAny.takeGP 11 rfl rfl rfl (by kernel_rfl) (Nb rfl) (Det.conv64 Try.underlying3 Try.underlying22 rfl (by first | omega | exact Nat.lt_trans (D.limb_lt _ _) (by decide))) ?_
      refine LAny.oneG 12 rfl rfl rfl rfl (by kernel_rfl) (LStep.callF (first := []) rfl en_55 rfl (Nb rfl) (fun w hw => c_One x w (by omega)) ?_)
      refine LAny.takeGP 13 rfl rfl rfl (by kernel_rfl) (Nb rfl) (Slots.cast (Det.nea (by kernel_rfl) (fun w => eq_nat (rgR V (twoOf x (u8idx b))) x (rg_lt V hnW _).1 (u64_w9 (by omega)) 10000 (by decide) w) rfl rfl) (show _ = Value.bool false by rw [(two_ok hnb1 hx8 hb8 hA hB).1]; simp)) ?_
      refine LAny.takeGP 14 rfl rfl rfl (by kernel_rfl) (Nb rfl) (Det.move rfl) ?_
      refine LAny.takeGP 15 rfl rfl rfl (by kernel_rfl) (Nb rfl) (Det.fieldA (o' := 9) Try.underlying27 rfl rfl rfl sz_25 (by decide)) ?_
      refine LAny.takeG 16 rfl rfl rfl (by kernel_rfl) (Nb rfl) (Det.load rfl (by repeat (first | exact Mh _ | apply Mt)) (by exact LoadV.last Try.underlying25 rfl sz_25 rfl (natL_length _) (natL_length _))) ?_
      refine LAny.takeGP 17 rfl rfl rfl (by kernel_rfl) (Nb rfl) (Det.move rfl) ?_
      refine LAny.takeGP 18 rfl rfl rfl (by kernel_rfl) (Nb rfl) (Slots.cast (Det.conv Try.underlying3 Try.underlying5 rfl) (u8idx_eq b)) ?_
      refine LAny.takeGP 19 rfl rfl rfl (by kernel_rfl) (Nb rfl) (Det.conv64 Try.underlying5 Try.underlying22 rfl (by first | omega | exact Nat.lt_trans (D.limb_lt _ _) (by decide))) ?_
      refine LAny.oneG 20 rfl rfl rfl rfl (by kernel_rfl) (LStep.callF (first := []) rfl en_55 rfl (Nb rfl) (fun w hw => c_One (u8idx b) w (by omega)) ?_)
      refine LAny.takeGP 21 rfl rfl rfl (by kernel_rfl) (Nb rfl) (Slots.cast (Det.nea (by kernel_rfl) (fun w => eq_nat (rgT V (twoOf x (u8idx b))) (u8idx b) (rg_lt V hnW _).2 (u64_w9 (by omega)) 10000 (by decide) w) rfl rfl) (show _ = Value.bool false by rw [(two_ok hnb1 hx8 hb8 hA hB).2.1]; simp)) ?_
      refine LAny.takeGP 22 rfl rfl rfl (by kernel_rfl) (Nb rfl) (Det.pick_false rfl rfl) ?_
      refine LAny.takeGP 23 rfl rfl rfl (by kernel_rfl) (Nb rfl) (Det.pick_true rfl rfl) ?_
      refine LAny.takeP 24 rfl (by kernel_rfl) (Nb rfl) (Det.pick_false rfl rfl) ?_
      refine LAny.takeP 25 rfl (by kernel_rfl) (Nb rfl) (Det.move rfl) ?_
      refine LAny.takeGP 26 rfl rfl rfl (by kernel_rfl) (Nb rfl) (Det.move rfl) ?_
      refine LAny.takeGP 27 rfl rfl rfl (by kernel_rfl) (Nb rfl) (Slots.cast (Det.not rfl) (show _ = Value.bool false from rfl)) ?_
      refine LAny.takeGP 28 rfl rfl rfl (by kernel_rfl) (Nb rfl) (Det.move rfl) ?_
      refine LAny.skip 29 rfl rfl rfl rfl (by kernel_rfl) (Nb rfl) ?_
      refine LAny.skip 30 rfl rfl rfl rfl (by kernel_rfl) (Nb rfl) ?_
      refine LAny.skip 31 rfl rfl rfl rfl (by kernel_rfl) (Nb rfl) ?_
      refine LAny.takeGP 32 rfl rfl rfl (by kernel_rfl) (Nb rfl) (Det.pick_false rfl rfl) ?_
      refine LAny.takeP 33 rfl (by kernel_rfl) (Nb rfl) (Det.pick_false rfl rfl) ?_
      refine LAny.done (by kernel_rfl) ?_
      refine LCode.cond_false rfl ?_
      refine LCode.skip ?_
      refine LCode.region ?_
      refine LOps.detP (Det.move rfl) (Nb rfl) ?_
      refine LOps.detP (Det.bin rfl rfl (br_add (b := 1) (by omega))) (Nb rfl) ?_
      refine LOps.detP (Det.assign rfl) (Nb rfl) ?_
      refine LOps.nil ?_
      refine ⟨x + 1, by omega, by omega, Sub.mk ⟨rfl, rfl, rfl, rfl, trivial⟩ (by repeat (first | exact Sel.nil _ | refine Sel.cons (by repeat (first | exact Ph _ | apply Pt_)) ?_))⟩
    ·
      refine LCode.region ?_
      refine LOps.detP (Det.move rfl) (Nb rfl) ?_
      refine LOps.detP (Det.conv64 Try.underlying3 Try.underlying22 rfl (by first | omega | exact Nat.lt_trans (D.limb_lt _ _) (by decide))) (Nb rfl) ?_
      refine LOps.detP (Det.move rfl) (Nb rfl) ?_
      refine LOps.detP (Det.bin (v := .bool true) rfl rfl (br_t br_lss (hA))) (Nb rfl) ?_
      refine LOps.detP (Det.move rfl) (Nb rfl) ?_
      refine LOps.detGP rfl rfl (Det.move rfl) (Nb rfl) ?_
      refine LOps.detGP rfl rfl (Slots.cast (Det.conv Try.underlying3 Try.underlying5 rfl) (u8idx_eq b)) (Nb rfl) ?_
      refine LOps.detGP rfl rfl (Det.conv64 Try.underlying5 Try.underlying22 rfl (by first | omega | exact Nat.lt_trans (D.limb_lt _ _) (by decide))) (Nb rfl) ?_
      refine LOps.detGP rfl rfl (Det.move rfl) (Nb rfl) ?_
      refine LOps.detGP rfl rfl (Det.bin (v := .bool false) rfl rfl (br_f br_lss (hB))) (Nb rfl) ?_
      refine LOps.detP (Det.pick_true rfl rfl) (Nb rfl) ?_
      refine LOps.detP (Det.assign rfl) (Nb rfl) ?_
      refine LOps.nil ?_
      refine LCode.seq ?_
      refine LCode.regionD [] (by kernel_rfl) ?_
      refine LAny.takeP 0 rfl (by kernel_rfl) (Nb rfl) (Det.move rfl) ?_
      refine LAny.takeP 3 rfl (by kernel_rfl) (Nb rfl) (Det.move rfl) ?_
      refine LAny.one 1 rfl rfl (by kernel_rfl) (LStep.callF (first := []) rfl en_46 rfl (Nb rfl) (fun w hw => c_Num _ w) ?_)
      refine LAny.takeP 2 rfl (by kernel_rfl) (Nb rfl) (Det.bin (v := .bool false) rfl rfl (br_f (br_eql (b := 0)) (by rw [two_no hnb1 hx8 hb8 (fun h => hB h.2)]; decide))) ?_
      refine LAny.takeP 4 rfl (by kernel_rfl) (Nb rfl) (Slots.cast (Det.neb Try.underlying4 rfl rfl) (show _ = Value.bool false by rfl)) ?_
      refine LAny.takeP 5 rfl (by kernel_rfl) (Nb rfl) (Det.move rfl) ?_
      refine LAny.takeGP 6 rfl rfl rfl (by kernel_rfl) (Nb rfl) (Det.move rfl) ?_
      refine LAny.takeGP 7 rfl rfl rfl (by kernel_rfl) (Nb rfl) (Det.move rfl) ?_
      refine LAny.skip 8 rfl rfl rfl rfl (by kernel_rfl) (Nb rfl) ?_
      refine LAny.skip 9 rfl rfl rfl rfl (by kernel_rfl) (Nb rfl) ?_
      refine LAny.skip 10 rfl rfl rfl rfl (by kernel_rfl) (Nb rfl) ?_
      refine LAny.skip 11 rfl rfl rfl rfl (by kernel_rfl) (Nb rfl) ?_
      refine LAny.skip 12 rfl rfl rfl rfl (by kernel_rfl) (Nb rfl) ?_
      refine LAny.skip 13 rfl rfl rfl rfl (by kernel_rfl) (Nb rfl) ?_
      refine LAny.skip 14 rfl rfl rfl rfl (by kernel_rfl) (Nb rfl) ?_
      refine LAny.skipU 15 rfl rfl rfl (by kernel_rfl) (Nb rfl) ?_
      refine LAny.skipU 16 rfl rfl rfl (by kernel_rfl) (Nb rfl) ?_
      refine LAny.skipU 17 rfl rfl rfl (by kernel_rfl) (Nb rfl) ?_
      refine LAny.skipU 18 rfl rfl rfl (by kernel_rfl) (Nb rfl) ?_
      refine LAny.skipU 19 rfl rfl rfl (by kernel_rfl) (Nb rfl) ?_
      refine LAny.skipU 20 rfl rfl rfl (by kernel_rfl) (Nb rfl) ?_
      refine LAny.skipU 21 rfl rfl rfl (by kernel_rfl) (Nb rfl) ?_
      refine LAny.skip 22 rfl rfl rfl rfl (by kernel_rfl) (Nb rfl) ?_
      refine LAny.takeGP 23 rfl rfl rfl (by kernel_rfl) (Nb rfl) (Det.pick_false rfl rfl) ?_
      refine LAny.takeP 24 rfl (by kernel_rfl) (Nb rfl) (Det.pick_false rfl rfl) ?_
      refine LAny.takeP 25 rfl (by kernel_rfl) (Nb rfl) (Det.move rfl) ?_
      refine LAny.takeGP 26 rfl rfl rfl (by kernel_rfl) (Nb rfl) (Det.move rfl) ?_
      refine LAny.takeGP 27 rfl rfl rfl (by kernel_rfl) (Nb rfl) (Slots.cast (Det.not rfl) (show _ = Value.bool true from rfl)) ?_
      refine LAny.takeGP 28 rfl rfl rfl (by kernel_rfl) (Nb rfl) (Det.move rfl) ?_
      refine LAny.takeGP 29 rfl rfl rfl (by kernel_rfl) (Nb rfl) (Det.move rfl) ?_
      refine LAny.oneG 30 rfl rfl rfl rfl (by kernel_rfl) (LStep.callF (first := []) rfl en_46 rfl (Nb rfl) (fun w hw => c_Num _ w) ?_)
      refine LAny.takeGP 31 rfl rfl rfl (by kernel_rfl) (Nb rfl) (Det.bin (v := .bool false) rfl rfl (br_f (br_neq (b := 2302)) (by rw [two_no hnb1 hx8 hb8 (fun h => hB h.2)]; simp))) ?_
      refine LAny.takeGP 32 rfl rfl rfl (by kernel_rfl) (Nb rfl) (Det.pick_true rfl rfl) ?_
      refine LAny.takeP 33 rfl (by kernel_rfl) (Nb rfl) (Det.pick_false rfl rfl) ?_
      refine LAny.done (by kernel_rfl) ?_
      refine LCode.cond_false rfl ?_
      refine LCode.skip ?_
      refine LCode.region ?_
      refine LOps.detP (Det.move rfl) (Nb rfl) ?_
      refine LOps.detP (Det.bin rfl rfl (br_add (b := 1) (by omega))) (Nb rfl) ?_
      refine LOps.detP (Det.assign rfl) (Nb rfl) ?_
      refine LOps.nil ?_
      refine ⟨x + 1, by omega, by omega, Sub.mk ⟨rfl, rfl, rfl, rfl, trivial⟩ (by repeat (first | exact Sel.nil _ | refine Sel.cons (by repeat (first | exact Ph _ | apply Pt_)) ?_))⟩
    ·
      refine LCode.region ?_
      refine LOps.detP (Det.move rfl) (Nb rfl) ?_
      refine LOps.detP (Det.conv64 Try.underlying3 Try.underlying22 rfl (by first | omega | exact Nat.lt_trans (D.limb_lt _ _) (by decide))) (Nb rfl) ?_
      refine LOps.detP (Det.move rfl) (Nb rfl) ?_
      refine LOps.detP (Det.bin (v := .bool false) rfl rfl (br_f br_lss (hA))) (Nb rfl) ?_
      refine LOps.detP (Det.move rfl) (Nb rfl) ?_
      refine LOps.skip rfl rfl rfl (Nb rfl) ?_
      refine LOps.skip rfl rfl rfl (Nb rfl) ?_
      refine LOps.skip rfl rfl rfl (Nb rfl) ?_
      refine LOps.skip rfl rfl rfl (Nb rfl) ?_
      refine LOps.skip rfl rfl rfl (Nb rfl) ?_
      refine LOps.detP (Det.pick_false rfl rfl) (Nb rfl) ?_
      refine LOps.detP (Det.assign rfl) (Nb rfl) ?_
      refine LOps.nil ?_
      refine LCode.seq ?_
      refine LCode.regionD [] (by kernel_rfl) ?_
      refine LAny.takeP 0 rfl (by kernel_rfl) (Nb rfl) (Det.move rfl) ?_
      refine LAny.takeP 3 rfl (by kernel_rfl) (Nb rfl) (Det.move rfl) ?_
      refine LAny.one 1 rfl rfl (by kernel_rfl) (LStep.callF (first := []) rfl en_46 rfl (Nb rfl) (fun w hw => c_Num _ w) ?_)
      refine LAny.takeP 2 rfl (by kernel_rfl) (Nb rfl) (Det.bin (v := .bool false) rfl rfl (br_f (br_eql (b := 0)) (by rw [two_no hnb1 hx8 hb8 (fun h => hA h.1)]; decide))) ?_
      refine LAny.takeP 4 rfl (by kernel_rfl) (Nb rfl) (Slots.cast (Det.neb Try.underlying4 rfl rfl) (show _ = Value.bool false by rfl)) ?_
      refine LAny.takeP 5 rfl (by kernel_rfl) (Nb rfl) (Det.move rfl) ?_
      refine LAny.takeGP 6 rfl rfl rfl (by kernel_rfl) (Nb rfl) (Det.move rfl) ?_
      refine LAny.takeGP 7 rfl rfl rfl (by kernel_rfl) (Nb rfl) (Det.move rfl) ?_
      refine LAny.skip 8 rfl rfl rfl rfl (by kernel_rfl) (Nb rfl) ?_
      refine LAny.skip 9 rfl rfl rfl rfl (by kernel_rfl) (Nb rfl) ?_
      refine LAny.skip 10 rfl rfl rfl rfl (by kernel_rfl) (Nb rfl) ?_
      refine LAny.skip 11 rfl rfl rfl rfl (by kernel_rfl) (Nb rfl) ?_
      refine LAny.skip 12 rfl rfl rfl rfl (by kernel_rfl) (Nb rfl) ?_
      refine LAny.skip 13 rfl rfl rfl rfl (by kernel_rfl) (Nb rfl) ?_
      refine LAny.skip 14 rfl rfl rfl rfl (by kernel_rfl) (Nb rfl) ?_
      refine LAny.skipU 15 rfl rfl rfl (by kernel_rfl) (Nb rfl) ?_
      refine LAny.skipU 16 rfl rfl rfl (by kernel_rfl) (Nb rfl) ?_
      refine LAny.skipU 17 rfl rfl rfl (by kernel_rfl) (Nb rfl) ?_
      refine LAny.skipU 18 rfl rfl rfl (by kernel_rfl) (Nb rfl) ?_
      refine LAny.skipU 19 rfl rfl rfl (by kernel_rfl) (Nb rfl) ?_
      refine LAny.skipU 20 rfl rfl rfl (by kernel_rfl) (Nb rfl) ?_
      refine LAny.skipU 21 rfl rfl rfl (by kernel_rfl) (Nb rfl) ?_
      refine LAny.skip 22 rfl rfl rfl rfl (by kernel_rfl) (Nb rfl) ?_
      refine LAny.takeGP 23 rfl rfl rfl (by kernel_rfl) (Nb rfl) (Det.pick_false rfl rfl) ?_
      refine LAny.takeP 24 rfl (by kernel_rfl) (Nb rfl) (Det.pick_false rfl rfl) ?_
      refine LAny.takeP 25 rfl (by kernel_rfl) (Nb rfl) (Det.move rfl) ?_
      refine LAny.takeGP 26 rfl rfl rfl (by kernel_rfl) (Nb rfl) (Det.move rfl) ?_
      refine LAny.takeGP 27 rfl rfl rfl (by kernel_rfl) (Nb rfl) (Slots.cast (Det.not rfl) (show _ = Value.bool true from rfl)) ?_
      refine LAny.takeGP 28 rfl rfl rfl (by kernel_rfl) (Nb rfl) (Det.move rfl) ?_
      refine LAny.takeGP 29 rfl rfl rfl (by kernel_rfl) (Nb rfl) (Det.move rfl) ?_
      refine LAny.oneG 30 rfl rfl rfl rfl (by kernel_rfl) (LStep.callF (first := []) rfl en_46 rfl (Nb rfl) (fun w hw => c_Num _ w) ?_)
      refine LAny.takeGP 31 rfl rfl rfl (by kernel_rfl) (Nb rfl) (Det.bin (v := .bool false) rfl rfl (br_f (br_neq (b := 2302)) (by rw [two_no hnb1 hx8 hb8 (fun h => hA h.1)]; simp))) ?_
      refine LAny.takeGP 32 rfl rfl rfl (by kernel_rfl) (Nb rfl) (Det.pick_true rfl rfl) ?_
      refine LAny.takeP 33 rfl (by kernel_rfl) (Nb rfl) (Det.pick_false rfl rfl) ?_
      refine LAny.done (by kernel_rfl) ?_
      refine LCode.cond_false rfl ?_
      refine LCode.skip ?_
      refine LCode.region ?_
      refine LOps.detP (Det.move rfl) (Nb rfl) ?_
      refine LOps.detP (Det.bin rfl rfl (br_add (b := 1) (by omega))) (Nb rfl) ?_
      refine LOps.detP (Det.assign rfl) (Nb rfl) ?_
      refine LOps.nil ?_
      refine ⟨x + 1, by omega, by omega, Sub.mk ⟨rfl, rfl, rfl, rfl, trivial⟩ (by repeat (first | exact Sel.nil _ | refine Sel.cons (by repeat (first | exact Ph _ | apply Pt_)) ?_))⟩
  ·
    have h32 : ¬ x < 256 := h32
    refine LCode.exit ?_
    refine LCode.seq ?_
    refine LCode.region ?_
    refine LOps.detP (Det.assign rfl) (Nb rfl) ?_
    refine LOps.nil ?_
    refine LCode.ret ?_
    refine ⟨[_], .cons rfl .nil, fun a w' hr => ⟨?_, hr.fr.below⟩⟩
    rfl
end Go.Proofs.Ytljblbgogjieaaa
set_option maxRecDepth 100000
namespace Go.Proofs.Ytljblbgogjieaaa
open Go
def ioChars : List Char := ([104, 97, 114, 110, 101, 115, 115, 32, 102, 51, 57, 52, 54, 98, 99, 101, 49, 54, 101, 56, 99, 51, 102, 52, 49, 56, 48, 97, 55, 101, 53, 50, 100, 97, 98, 100, 56, 55, 98, 56, 54, 57, 51, 56, 100, 57, 50, 50, 100, 99, 56, 97, 98, 97, 101, 55, 102, 48, 56, 57, 55, 57, 99, 51, 48, 57, 101, 52, 56, 98, 54, 48, 32, 99, 117, 116, 32, 97, 116, 32, 99, 117, 114, 118, 101, 116, 47, 99, 117, 114, 118, 101, 116, 108, 97, 119, 50, 51, 46, 82, 97, 119, 115, 32, 99, 117, 114, 118, 101, 116, 47, 99, 117, 114, 118, 101, 116, 108, 97, 119, 50, 51, 46, 82, 97, 119, 66, 97, 99, 107, 32, 99, 117, 114, 118, 101, 116, 47, 99, 117, 114, 118, 101, 116, 108, 97, 119, 50, 51, 46, 82, 97, 119, 76, 101, 110, 103, 116, 104, 115, 32, 99, 117, 114, 118, 101, 116, 47, 99, 117, 114, 118, 101, 116, 108, 97, 119, 50, 51, 46, 82, 97, 119, 84, 105, 110, 121, 32, 99, 117, 114, 118, 101, 116, 47, 99, 117, 114, 118, 101, 116, 108, 97, 119, 49, 51, 46, 67, 117, 114, 118, 101, 115, 32, 99, 117, 114, 118, 101, 116, 47, 99, 117, 114, 118, 101, 116, 108, 97, 119, 49, 51, 46, 67, 117, 114, 118, 101, 79, 110, 115, 32, 99, 117, 114, 118, 101, 116, 47, 99, 117, 114, 118, 101, 116, 108, 97, 119, 49, 51, 46, 67, 117, 114, 118, 101, 83, 111, 117, 110, 100, 32, 99, 117, 114, 118, 101, 116, 47, 99, 117, 114, 118, 101, 116, 108, 97, 119, 49, 51, 46, 67, 117, 114, 118, 101, 78, 117, 109, 98, 101, 114, 115, 32, 99, 117, 114, 118, 101, 116, 47, 99, 117, 114, 118, 101, 116, 108, 97, 119, 49, 51, 46, 67, 117, 114, 118, 101, 79, 102, 102, 32, 99, 117, 114, 118, 101, 116, 47, 99, 117, 114, 118, 101, 116, 108, 97, 119, 49, 51, 46, 67, 117, 114, 118, 101, 84, 105, 110, 121, 32, 99, 117, 114, 118, 101, 116, 47, 99, 117, 114, 118, 101, 116, 108, 97, 119, 50, 48, 46, 68, 117, 97, 108, 115, 32, 99, 117, 114, 118, 101, 116, 47, 99, 117, 114, 118, 101, 116, 108, 97, 119, 50, 48, 46, 68, 117, 97, 108, 84, 105, 110, 121, 32, 99, 117, 114, 118, 101, 116, 47, 99, 117, 114, 118, 101, 116, 108, 97, 119, 49, 53, 46, 80, 114, 111, 106, 115, 32, 99, 117, 114, 118, 101, 116, 47, 99, 117, 114, 118, 101, 116, 108, 97, 119, 49, 53, 46, 80, 114, 111, 106, 70, 114, 111, 109, 32, 99, 117, 114, 118, 101, 116, 47, 99, 117, 114, 118, 101, 116, 108, 97, 119, 49, 53, 46, 80, 114, 111, 106, 83, 99, 97, 108, 101, 100, 32, 99, 117, 114, 118, 101, 116, 47, 99, 117, 114, 118, 101, 116, 108, 97, 119, 49, 53, 46, 80, 114, 111, 106, 68, 111, 117, 98, 108, 101, 115, 32, 99, 117, 114, 118, 101, 116, 47, 99, 117, 114, 118, 101, 116, 108, 97, 119, 49, 53, 46, 80, 114, 111, 106, 78, 111, 110, 101, 32, 99, 117, 114, 118, 101, 116, 47, 99, 117, 114, 118, 101, 116, 108, 97, 119, 49, 53, 46, 80, 114, 111, 106, 84, 105, 110, 121, 32, 99, 117, 114, 118, 101, 116, 47, 99, 117, 114, 118, 101, 116, 108, 97, 119, 49, 52, 46, 65, 102, 102, 105, 110, 101, 115, 32, 99, 117, 114, 118, 101, 116, 47, 99, 117, 114, 118, 101, 116, 108, 97, 119, 49, 52, 46, 65, 102, 102, 105, 110, 101, 84, 105, 109, 101, 115, 32, 99, 117, 114, 118, 101, 116, 47, 99, 117, 114, 118, 101, 116, 108, 97, 119, 49, 52, 46, 65, 102, 102, 105, 110, 101, 71, 114, 111, 117, 112, 32, 99, 117, 114, 118, 101, 116, 47, 99, 117, 114, 118, 101, 116, 108, 97, 119, 49, 52, 46, 65, 102, 102, 105, 110, 101, 79, 114, 100, 101, 114, 32, 99, 117, 114, 118, 101, 116, 47, 99, 117, 114, 118, 101, 116, 108, 97, 119, 49, 52, 46, 65, 102, 102, 105, 110, 101, 76, 105, 110, 101, 32, 99, 117, 114, 118, 101, 116, 47, 99, 117, 114, 118, 101, 116, 108, 97, 119, 49, 52, 46, 65, 102, 102, 105, 110, 101, 79, 112, 112, 111, 115, 105, 116, 101, 32, 99, 117, 114, 118, 101, 116, 47, 99, 117, 114, 118, 101, 116, 108, 97, 119, 49, 52, 46, 65, 102, 102, 105, 110, 101, 84, 105, 110, 121, 32, 99, 117, 114, 118, 101, 116, 47, 99, 117, 114, 118, 101, 116, 108, 97, 119, 49, 52, 46, 65, 102, 102, 105, 110, 101, 83, 112, 108, 105, 116, 115, 32, 99, 117, 114, 118, 101, 116, 47, 99, 117, 114, 118, 101, 116, 108, 97, 119, 49, 52, 46, 65, 102, 102, 105, 110, 101, 87, 97, 108, 107, 32, 99, 117, 114, 118, 101, 116, 47, 99, 117, 114, 118, 101, 116, 108, 97, 119, 50, 48, 46, 68, 117, 97, 108, 80, 97, 114, 116, 115, 32, 99, 117, 114, 118, 101, 116, 47, 99, 117, 114, 118, 101, 116, 108, 97, 119, 49, 54, 46, 84, 97, 98, 108, 101, 83, 105, 122, 101, 115, 32, 99, 117, 114, 118, 101, 116, 47, 99, 117, 114, 118, 101, 116, 108, 97, 119, 49, 54, 46, 84, 97, 98, 108, 101, 78, 105, 108, 32, 99, 117, 114, 118, 101, 116, 47, 99, 117, 114, 118, 101, 116, 108, 97, 119, 49, 53, 46, 80, 114, 111, 106, 83, 117, 109, 115, 32, 99, 117, 114, 118, 101, 116, 47, 99, 117, 114, 118, 101, 116, 108, 97, 119, 50, 49, 46, 83, 101, 99, 49, 115, 32, 99, 117, 114, 118, 101, 116, 47, 99, 117, 114, 118, 101, 116, 108, 97, 119, 50, 49, 46, 83, 101, 99, 49, 66, 97, 99, 107, 32, 99, 117, 114, 118, 101, 116, 47, 99, 117, 114, 118, 101, 116, 108, 97, 119, 50, 49, 46, 83, 101, 99, 49, 84, 105, 110, 121, 32, 99, 117, 114, 118, 101, 116, 47, 99, 117, 114, 118, 101, 116, 108, 97, 119, 50, 49, 46, 83, 101, 99, 49, 66, 111, 116, 104, 32, 99, 117, 114, 118, 101, 116, 47, 99, 117, 114, 118, 101, 116, 108, 97, 119, 50, 49, 46, 83, 101, 99, 49, 76, 101, 110, 103, 116, 104, 115, 32, 99, 117, 114, 118, 101, 116, 47, 99, 117, 114, 118, 101, 116, 108, 97, 119, 50, 49, 46, 83, 101, 99, 49, 87, 104, 111, 108, 101, 32, 99, 117, 114, 118, 101, 116, 47, 99, 117, 114, 118, 101, 116, 108, 97, 119, 50, 49, 46, 83, 101, 99, 49, 71, 114, 101, 97, 116, 32, 99, 117, 114, 118, 101, 116, 47, 99, 117, 114, 118, 101, 116, 108, 97, 119, 49, 54, 46, 84, 97, 98, 108, 101, 115, 32, 99, 117, 114, 118, 101, 116, 47, 99, 117, 114, 118, 101, 116, 108, 97, 119, 49, 57, 46, 66, 97, 115, 101, 115] : List Nat).map Char.ofNat
theorem io_lit : Try.prog.initOrder = String.ofList ioChars := by kernel_rfl
theorem io_list : Try.prog.initOrder.toList = ioChars := by rw [io_lit, String.toList_ofList]
def cutW : List Char := ([99, 117, 116] : List Nat).map Char.ofNat
def ioRest : List (List Char) := (wordsSigns ioChars).drop 3
theorem io_words : behindMainWord (wordsSigns ioChars) = cutW :: ioRest := by kernel_rfl
theorem io_strip (r : List (List Char)) : stripLifts liftWords (cutW :: r) = ([], cutW :: r) := by kernel_rfl
theorem no_later : Try.prog.laysLater = false := by kernel_rfl
theorem no_reflect : Try.prog.bearsReflect = false := by kernel_rfl
theorem door_fits : Try.prog.doorFits [] = true := by kernel_rfl
theorem and2 {a b : Bool} (h : a = true) (k : b = true) : (a && b) = true := by rw [h, k]; rfl
theorem or_right {a b : Bool} (h : b = true) : (a || b) = true := by rw [h]; cases a <;> rfl
theorem cut_is : (cutW == "cut".toList) = true := by kernel_rfl
theorem cut_gc : (cutW == "gc".toList) = false := by kernel_rfl
theorem cut_spec : (cutW == "spec".toList) = false := by kernel_rfl
theorem cut_carried : (cutW == "carried".toList) = false := by kernel_rfl
theorem head_carried (r : List (List Char)) : ((cutW :: r).head? == some "carried".toList) = false := cut_carried
theorem enter_of (P : Program) {r : List (List Char)} (h : behindMainWord (wordsSigns P.initOrder.toList) = cutW :: r) (h1 : P.laysLater = false) (h2 : P.bearsReflect = false) (h3 : P.doorFits [] = true) : P.mayEnter = true := by
  unfold Program.mayEnter
  rw [h]
  dsimp only
  refine or_right (and2 (and2 (and2 (and2 ?_ ?_) ?_) ?_) ?_)
  · rw [io_strip]; exact cut_is
  · rw [io_strip, h1]; rfl
  · rw [io_strip, h2]; rfl
  · rw [io_strip]; rfl
  · rw [io_strip]; exact h3
theorem lifts_of (P : Program) {r : List (List Char)} (h : behindMainWord (wordsSigns P.initOrder.toList) = cutW :: r) : (false == P.liftsFinal) = true := by
  have hl : P.headLifts = [] := by
    unfold Program.headLifts
    rw [h, io_strip]
    simp only [ite_self]
  unfold Program.liftsFinal
  rw [h, hl]
  dsimp only
  rw [head_carried, Bool.false_and]
  rfl
theorem make_of (P : Program) {r : List (List Char)} (h : behindMainWord (wordsSigns P.initOrder.toList) = cutW :: r) : (P.make == some .cut) = true := by
  have : P.make = some .cut := by
    unfold Program.make
    rw [h]
    dsimp only
    rw [if_neg (by rw [cut_gc, cut_spec]; exact fun h => by cases h), if_pos (by rw [cut_is]; rfl)]
  rw [this]; rfl
theorem io_all : behindMainWord (wordsSigns Try.prog.initOrder.toList) = cutW :: ioRest := by rw [io_list, io_words]
theorem fact_enter : Try.prog.mayEnter = true := enter_of _ io_all no_later no_reflect door_fits
theorem fact_lifts : (false == Try.prog.liftsFinal) = true := lifts_of _ io_all
theorem fact_make : (Try.prog.make == some .cut) = true := make_of _ io_all
theorem fact_laid : laidOutB Try.prog = true := by kernel_rfl
theorem fact_maps : mapsRowed Try.prog = true := by kernel_rfl
theorem fact_heard : Try.prog.stopsHeard = true := by kernel_rfl
end Go.Proofs.Ytljblbgogjieaaa
