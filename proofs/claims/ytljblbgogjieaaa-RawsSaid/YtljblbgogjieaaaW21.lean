/- Walks: what functions of the program come to, step by step. -/
import Derived.Test.YtljblbgogjieaaaW20
set_option linter.unusedVariables false
set_option linter.unusedSimpArgs false
set_option maxRecDepth 20000
namespace Go.Proofs.Ytljblbgogjieaaa
open Go Go.RowKit

theorem c_cBytes (V : Cv) (b f : Nat) (w : World) (hb : (Item.blk b ⟨false, opL V f, 147, (0, 0)⟩).holds w) (hbl : blen V.n ≤ 576) : Calls Try.prog 115 ([.pointer (some ⟨b, 0, none⟩)] : List Value).toArray w (fun e w' => e = .returned (.int .i64 ((nby V.n : Nat) : Int)) ∧ Below w.heap.size w w') := by
  refine calls_ro (N := 10) (rs := [.tmp 2]) [.blk b ⟨false, opL V f, 147, (0, 0)⟩] Try.func115 rfl Try.ntmps115 Try.results115 (Nat.le_of_ble_eq_true rfl) ⟨hb, trivial⟩ rfl ?_
  show LCode _ _ _ ⟨_, _⟩ _
  refine LCode.seq ?_
  refine LCode.region ?_
  refine LOps.detP (Det.assign (v := .int .i64 ((0 : Nat) : Int)) rfl) (Nat.le_of_ble_eq_true rfl) ?_
  refine LOps.nil ?_
  refine LCode.seq ?_
  refine LCode.region ?_
  refine LOps.detP (Det.move rfl) (Nat.le_of_ble_eq_true rfl) ?_
  refine LOps.detP (Det.nilCheck rfl) (Nat.le_of_ble_eq_true rfl) ?_
  refine LOps.detP (Det.fieldA (o' := 0) Try.underlying147 rfl rfl rfl sz_62 (by decide)) (Nat.le_of_ble_eq_true rfl) ?_
  refine LOps.detP (Det.fieldA (o' := 56) Try.underlying62 rfl rfl rfl sz_3 (by decide)) (Nat.le_of_ble_eq_true rfl) ?_
  refine LOps.det (Det.load rfl (by repeat (first | exact List.Mem.head _ | apply List.Mem.tail)) (LoadV.one Try.underlying3 rfl (by exact cvC_gt_bits _ _ _ _ _ _ _ _ _ _ _ _ _))) (Nat.le_of_ble_eq_true rfl) ?_
  refine LOps.detP (Det.bin rfl rfl (br_add (b := 7) (by omega))) (Nat.le_of_ble_eq_true rfl) ?_
  refine LOps.detP (Det.bin rfl rfl (br_quo (b := 8) (by omega) (by omega))) (Nat.le_of_ble_eq_true rfl) ?_
  refine LOps.detP (Det.assign rfl) (Nat.le_of_ble_eq_true rfl) ?_
  refine LOps.nil ?_
  refine LCode.ret ?_
  refine ⟨[_], .cons rfl .nil, fun a w' hr => ⟨?_, hr.fr.below⟩⟩
  rfl

theorem c_raw_Put_none (id : Int) (R T : Nat) (w : World) (h : cvI id = none) : Calls Try.prog 44 ([.int .i64 id, sgV R T] : List Value).toArray w (fun e w' => e = .returned (.tuple #[.string ⟨#[]⟩, .int .i64 ((2300 : Nat) : Int)]) ∧ Below w.heap.size w w') := by
  refine calls_ro (N := 56) (rs := [.tmp 4, .tmp 5]) [] Try.func44 rfl Try.ntmps44 Try.results44 (Nat.le_of_ble_eq_true rfl) trivial rfl ?_
  show LCode _ _ _ ⟨_, _⟩ _
  refine LCode.seq ?_
  refine LCode.region ?_
  refine LOps.step rfl (LStep.w (LStep.makes (Makes.boxA rfl) (Nat.le_of_ble_eq_true rfl) (fun b3 => ?_)))
  refine LOps.detP (Det.assign rfl) (Nat.le_of_ble_eq_true rfl) ?_
  refine LOps.detP (Det.assign (v := .int .i64 ((0 : Nat) : Int)) rfl) (Nat.le_of_ble_eq_true rfl) ?_
  refine LOps.nil ?_
  refine LCode.seq ?_
  refine LCode.region ?_
  refine LOps.detP (Det.move rfl) (Nat.le_of_ble_eq_true rfl) ?_
  refine LOps.step rfl (LStep.w (LStep.callF (first := []) rfl en_112 rfl (Nat.le_of_ble_eq_true rfl) (fun w hw => c_Open_none id w h) ?_))
  refine LOps.detP (Det.assign rfl) (Nat.le_of_ble_eq_true rfl) ?_
  refine LOps.nil ?_
  refine LCode.seq ?_
  refine LCode.block ?_
  refine LCode.seq ?_
  refine LCode.region ?_
  refine LOps.detP (Det.move rfl) (Nat.le_of_ble_eq_true rfl) ?_
  refine LOps.detP (Slots.cast (Det.eqp Try.underlying142 rfl rfl) (show _ = Value.bool true from rfl)) (Nat.le_of_ble_eq_true rfl) ?_
  refine LOps.detP (Det.assign rfl) (Nat.le_of_ble_eq_true rfl) ?_
  refine LOps.nil ?_
  refine LCode.cond_true rfl ?_
  refine LCode.seq ?_
  refine LCode.region ?_
  refine LOps.detP (Det.assign rfl) (Nat.le_of_ble_eq_true rfl) ?_
  refine LOps.detP (Det.assign (v := .int .i64 ((2300 : Nat) : Int)) rfl) (Nat.le_of_ble_eq_true rfl) ?_
  refine LOps.nil ?_
  refine LCode.ret ?_
  refine ⟨[_, _], .cons rfl (.cons rfl .nil), fun a w' hr => ⟨?_, hr.fr.below⟩⟩
  rfl

theorem c_raw_Put (id : Int) (V : Cv) (R T : Nat) (w : World) (h : cvI id = some V) (hR : R < W9) (hT : T < W9) : Calls Try.prog 44 ([.int .i64 id, sgV R T] : List Value).toArray w (fun e w' => e = .returned (rawPut V R T) ∧ Below w.heap.size w w') := by
  obtain ⟨hok, hid⟩ := cvI_ok h
  have hbb := hok.bounds
  have hpW : V.p < W9 := w9_521 hbb.2.1
  have hnW : V.n < W9 := w9_521 hbb.2.2.2.2.2.2.1
  have hbl := blen_w9 hnW
  have hnb : nby V.n ≤ 72 := by (unfold nby; omega)
  refine calls_ro (N := 56) (rs := [.tmp 4, .tmp 5]) [] Try.func44 rfl Try.ntmps44 Try.results44 (Nat.le_of_ble_eq_true rfl) trivial rfl ?_
  show LCode _ _ _ ⟨_, _⟩ _
  refine LCode.seq ?_
  refine LCode.region ?_
  refine LOps.step rfl (LStep.w (LStep.makes (Makes.boxA rfl) (Nat.le_of_ble_eq_true rfl) (fun b3 => ?_)))
  refine LOps.detP (Det.assign rfl) (Nat.le_of_ble_eq_true rfl) ?_
  refine LOps.detP (Det.assign (v := .int .i64 ((0 : Nat) : Int)) rfl) (Nat.le_of_ble_eq_true rfl) ?_
  refine LOps.nil ?_
  refine LCode.seq ?_
  refine LCode.region ?_
  refine LOps.detP (Det.move rfl) (Nat.le_of_ble_eq_true rfl) ?_
  refine LOps.step rfl (LStep.w (LStep.callZ (Post := fun v its => ∃ b f bd, v = .pointer (some ⟨b, 0, none⟩) ∧ its = [.blk b ⟨false, opL V f, 147, (0, 0)⟩, .blk f ⟨false, fldL V.p bd, 194, (0, 0)⟩, .blk bd ⟨false, dvL V.p, 241, (0, 0)⟩]) (first := []) rfl en_112 rfl (Nat.le_of_ble_eq_true rfl) (fun w1 hw hs => (c_Open _ V w1 h).mono fun e w' ⟨b, f, bd, h1, h2, h3, h4, h5, h6, h7, h8⟩ => ⟨_, _, ⟨b, f, bd, rfl, rfl⟩, h1, Brings.nums h8 (by intro x hx; simp at hx; rcases hx with rfl | rfl | rfl; exact h2; exact h3; exact h4) (by intro x hx; simp at hx; rcases hx with rfl | rfl | rfl <;> rfl) (by intro x hx k hk; simp at hx; rcases hx with rfl | rfl | rfl <;> simp [Item.fp] at hk <;> subst hk; exact .inl h5; exact .inl h6; exact .inl h7)⟩) ?_))
  rintro _ _ ⟨b, f, bd, rfl, rfl⟩
  refine LOps.detP (Det.assign rfl) (Nat.le_of_ble_eq_true rfl) ?_
  refine LOps.nil ?_
  refine LCode.seq ?_
  refine LCode.block ?_
  refine LCode.seq ?_
  refine LCode.region ?_
  refine LOps.detP (Det.move rfl) (Nat.le_of_ble_eq_true rfl) ?_
  refine LOps.detP (Slots.cast (Det.eqp Try.underlying142 rfl rfl) (show _ = Value.bool false from rfl)) (Nat.le_of_ble_eq_true rfl) ?_
  refine LOps.detP (Det.assign rfl) (Nat.le_of_ble_eq_true rfl) ?_
  refine LOps.nil ?_
  refine LCode.cond_false rfl ?_
  refine LCode.seq ?_
  rcases (show V.n ≤ R ∨ (R < V.n ∧ V.n ≤ T) ∨ (R < V.n ∧ T < V.n) by omega) with hg | ⟨hl, hg⟩ | ⟨hl, hl2⟩
  ·
    refine LCode.regionD [] (by kernel_rfl) ?_
    refine LAny.takeP 0 rfl (by kernel_rfl) (Nat.le_of_ble_eq_true rfl) (Det.fieldA (o' := 0) Try.underlying27 rfl rfl rfl sz_25 (by decide)) ?_
    refine LAny.take 1 rfl (by kernel_rfl) (Nat.le_of_ble_eq_true rfl) (Det.load rfl (by repeat (first | exact List.Mem.head _ | apply List.Mem.tail)) (by exact LoadV.first Try.underlying25 rfl sz_25 rfl (natL_length _))) ?_
    refine LAny.takeP 2 rfl (by kernel_rfl) (Nat.le_of_ble_eq_true rfl) (Det.move rfl) ?_
    refine LAny.takeP 3 rfl (by kernel_rfl) (Nat.le_of_ble_eq_true rfl) (Det.nilCheck rfl) ?_
    refine LAny.takeP 4 rfl (by kernel_rfl) (Nat.le_of_ble_eq_true rfl) (Det.fieldA (o' := 0) Try.underlying147 rfl rfl rfl sz_62 (by decide)) ?_
    refine LAny.takeP 5 rfl (by kernel_rfl) (Nat.le_of_ble_eq_true rfl) (Det.fieldA (o' := 28) Try.underlying62 rfl rfl rfl sz_25 (by decide)) ?_
    refine LAny.take 6 rfl (by kernel_rfl) (Nat.le_of_ble_eq_true rfl) (Det.load rfl (by repeat (first | exact List.Mem.head _ | apply List.Mem.tail)) (by exact cvC_ld_n _ _ _ _ _ _ _ _ _ _ _ _ _ _ _ _)) ?_
    refine LAny.one 7 rfl rfl (by kernel_rfl) (LStep.callF (first := []) rfl en_113 rfl (Nat.le_of_ble_eq_true rfl) (fun w hw => c_nat_Cmp R V.n hR hnW w) ?_)
    refine LAny.takeP 8 rfl (by kernel_rfl) (Nat.le_of_ble_eq_true rfl) (Det.bin (v := .bool true) rfl rfl (cmp_ge_t hg)) ?_
    refine LAny.takeP 9 rfl (by kernel_rfl) (Nat.le_of_ble_eq_true rfl) (Det.move rfl) ?_
    refine LAny.skip 10 rfl rfl rfl rfl (by kernel_rfl) (Nat.le_of_ble_eq_true rfl) ?_
    refine LAny.skip 11 rfl rfl rfl rfl (by kernel_rfl) (Nat.le_of_ble_eq_true rfl) ?_
    refine LAny.skip 12 rfl rfl rfl rfl (by kernel_rfl) (Nat.le_of_ble_eq_true rfl) ?_
    refine LAny.skip 13 rfl rfl rfl rfl (by kernel_rfl) (Nat.le_of_ble_eq_true rfl) ?_
    refine LAny.skip 14 rfl rfl rfl rfl (by kernel_rfl) (Nat.le_of_ble_eq_true rfl) ?_
    refine LAny.skip 15 rfl rfl rfl rfl (by kernel_rfl) (Nat.le_of_ble_eq_true rfl) ?_
    refine LAny.skip 16 rfl rfl rfl rfl (by kernel_rfl) (Nat.le_of_ble_eq_true rfl) ?_
    refine LAny.skip 17 rfl rfl rfl rfl (by kernel_rfl) (Nat.le_of_ble_eq_true rfl) ?_
    refine LAny.skip 18 rfl rfl rfl rfl (by kernel_rfl) (Nat.le_of_ble_eq_true rfl) ?_
    refine LAny.takeP 19 rfl (by kernel_rfl) (Nat.le_of_ble_eq_true rfl) (Det.pick_true rfl rfl) ?_
    refine LAny.takeP 20 rfl (by kernel_rfl) (Nat.le_of_ble_eq_true rfl) (Det.assign rfl) ?_
    refine LAny.done (by kernel_rfl) ?_
    refine LCode.cond_true rfl ?_
    refine LCode.seq ?_
    refine LCode.region ?_
    refine LOps.detP (Det.assign rfl) (Nat.le_of_ble_eq_true rfl) ?_
    refine LOps.detP (Det.assign (v := .int .i64 ((2302 : Nat) : Int)) rfl) (Nat.le_of_ble_eq_true rfl) ?_
    refine LOps.nil ?_
    refine LCode.ret ?_
    refine ⟨[_, _], .cons rfl (.cons rfl .nil), fun a w' hr => ⟨?_, hr.fr.below⟩⟩
    unfold rawPut
    rw [if_pos (.inl hg)]
    rfl
  ·
    refine LCode.regionD [] (by kernel_rfl) ?_
    refine LAny.takeP 0 rfl (by kernel_rfl) (Nat.le_of_ble_eq_true rfl) (Det.fieldA (o' := 0) Try.underlying27 rfl rfl rfl sz_25 (by decide)) ?_
    refine LAny.take 1 rfl (by kernel_rfl) (Nat.le_of_ble_eq_true rfl) (Det.load rfl (by repeat (first | exact List.Mem.head _ | apply List.Mem.tail)) (by exact LoadV.first Try.underlying25 rfl sz_25 rfl (natL_length _))) ?_
    refine LAny.takeP 2 rfl (by kernel_rfl) (Nat.le_of_ble_eq_true rfl) (Det.move rfl) ?_
    refine LAny.takeP 3 rfl (by kernel_rfl) (Nat.le_of_ble_eq_true rfl) (Det.nilCheck rfl) ?_
    refine LAny.takeP 4 rfl (by kernel_rfl) (Nat.le_of_ble_eq_true rfl) (Det.fieldA (o' := 0) Try.underlying147 rfl rfl rfl sz_62 (by decide)) ?_
    refine LAny.takeP 5 rfl (by kernel_rfl) (Nat.le_of_ble_eq_true rfl) (Det.fieldA (o' := 28) Try.underlying62 rfl rfl rfl sz_25 (by decide)) ?_
    refine LAny.take 6 rfl (by kernel_rfl) (Nat.le_of_ble_eq_true rfl) (Det.load rfl (by repeat (first | exact List.Mem.head _ | apply List.Mem.tail)) (by exact cvC_ld_n _ _ _ _ _ _ _ _ _ _ _ _ _ _ _ _)) ?_
    refine LAny.one 7 rfl rfl (by kernel_rfl) (LStep.callF (first := []) rfl en_113 rfl (Nat.le_of_ble_eq_true rfl) (fun w hw => c_nat_Cmp R V.n hR hnW w) ?_)
    refine LAny.takeP 8 rfl (by kernel_rfl) (Nat.le_of_ble_eq_true rfl) (Det.bin (v := .bool false) rfl rfl (cmp_ge_f hl)) ?_
    refine LAny.takeP 9 rfl (by kernel_rfl) (Nat.le_of_ble_eq_true rfl) (Det.move rfl) ?_
    refine LAny.takeGP 10 rfl rfl rfl (by kernel_rfl) (Nat.le_of_ble_eq_true rfl) (Det.fieldA (o' := 9) Try.underlying27 rfl rfl rfl sz_25 (by decide)) ?_
    refine LAny.takeG 11 rfl rfl rfl (by kernel_rfl) (Nat.le_of_ble_eq_true rfl) (Det.load rfl (by repeat (first | exact List.Mem.head _ | apply List.Mem.tail)) (by exact LoadV.last Try.underlying25 rfl sz_25 rfl (natL_length _) (natL_length _))) ?_
    refine LAny.takeGP 12 rfl rfl rfl (by kernel_rfl) (Nat.le_of_ble_eq_true rfl) (Det.move rfl) ?_
    refine LAny.takeGP 13 rfl rfl rfl (by kernel_rfl) (Nat.le_of_ble_eq_true rfl) (Det.nilCheck rfl) ?_
    refine LAny.takeGP 14 rfl rfl rfl (by kernel_rfl) (Nat.le_of_ble_eq_true rfl) (Det.fieldA (o' := 0) Try.underlying147 rfl rfl rfl sz_62 (by decide)) ?_
    refine LAny.takeGP 15 rfl rfl rfl (by kernel_rfl) (Nat.le_of_ble_eq_true rfl) (Det.fieldA (o' := 28) Try.underlying62 rfl rfl rfl sz_25 (by decide)) ?_
    refine LAny.takeG 16 rfl rfl rfl (by kernel_rfl) (Nat.le_of_ble_eq_true rfl) (Det.load rfl (by repeat (first | exact List.Mem.head _ | apply List.Mem.tail)) (by exact cvC_ld_n _ _ _ _ _ _ _ _ _ _ _ _ _ _ _ _)) ?_
    refine LAny.oneG 17 rfl rfl rfl rfl (by kernel_rfl) (LStep.callF (first := []) rfl en_113 rfl (Nat.le_of_ble_eq_true rfl) (fun w hw => c_nat_Cmp T V.n hT hnW w) ?_)
    refine LAny.takeGP 18 rfl rfl rfl (by kernel_rfl) (Nat.le_of_ble_eq_true rfl) (Det.bin (v := .bool true) rfl rfl (cmp_ge_t hg)) ?_
    refine LAny.takeP 19 rfl (by kernel_rfl) (Nat.le_of_ble_eq_true rfl) (Det.pick_false rfl rfl) ?_
    refine LAny.takeP 20 rfl (by kernel_rfl) (Nat.le_of_ble_eq_true rfl) (Det.assign rfl) ?_
    refine LAny.done (by kernel_rfl) ?_
    refine LCode.cond_true rfl ?_
    refine LCode.seq ?_
    refine LCode.region ?_
    refine LOps.detP (Det.assign rfl) (Nat.le_of_ble_eq_true rfl) ?_
    refine LOps.detP (Det.assign (v := .int .i64 ((2302 : Nat) : Int)) rfl) (Nat.le_of_ble_eq_true rfl) ?_
    refine LOps.nil ?_
    refine LCode.ret ?_
    refine ⟨[_, _], .cons rfl (.cons rfl .nil), fun a w' hr => ⟨?_, hr.fr.below⟩⟩
    unfold rawPut
    rw [if_pos (.inr hg)]
    rfl
  ·
    refine LCode.regionD [] (by kernel_rfl) ?_
    refine LAny.takeP 0 rfl (by kernel_rfl) (Nat.le_of_ble_eq_true rfl) (Det.fieldA (o' := 0) Try.underlying27 rfl rfl rfl sz_25 (by decide)) ?_
    refine LAny.take 1 rfl (by kernel_rfl) (Nat.le_of_ble_eq_true rfl) (Det.load rfl (by repeat (first | exact List.Mem.head _ | apply List.Mem.tail)) (by exact LoadV.first Try.underlying25 rfl sz_25 rfl (natL_length _))) ?_
    refine LAny.takeP 2 rfl (by kernel_rfl) (Nat.le_of_ble_eq_true rfl) (Det.move rfl) ?_
    refine LAny.takeP 3 rfl (by kernel_rfl) (Nat.le_of_ble_eq_true rfl) (Det.nilCheck rfl) ?_
    refine LAny.takeP 4 rfl (by kernel_rfl) (Nat.le_of_ble_eq_true rfl) (Det.fieldA (o' := 0) Try.underlying147 rfl rfl rfl sz_62 (by decide)) ?_
    refine LAny.takeP 5 rfl (by kernel_rfl) (Nat.le_of_ble_eq_true rfl) (Det.fieldA (o' := 28) Try.underlying62 rfl rfl rfl sz_25 (by decide)) ?_
    refine LAny.take 6 rfl (by kernel_rfl) (Nat.le_of_ble_eq_true rfl) (Det.load rfl (by repeat (first | exact List.Mem.head _ | apply List.Mem.tail)) (by exact cvC_ld_n _ _ _ _ _ _ _ _ _ _ _ _ _ _ _ _)) ?_
    refine LAny.one 7 rfl rfl (by kernel_rfl) (LStep.callF (first := []) rfl en_113 rfl (Nat.le_of_ble_eq_true rfl) (fun w hw => c_nat_Cmp R V.n hR hnW w) ?_)
    refine LAny.takeP 8 rfl (by kernel_rfl) (Nat.le_of_ble_eq_true rfl) (Det.bin (v := .bool false) rfl rfl (cmp_ge_f hl)) ?_
    refine LAny.takeP 9 rfl (by kernel_rfl) (Nat.le_of_ble_eq_true rfl) (Det.move rfl) ?_
    refine LAny.takeGP 10 rfl rfl rfl (by kernel_rfl) (Nat.le_of_ble_eq_true rfl) (Det.fieldA (o' := 9) Try.underlying27 rfl rfl rfl sz_25 (by decide)) ?_
    refine LAny.takeG 11 rfl rfl rfl (by kernel_rfl) (Nat.le_of_ble_eq_true rfl) (Det.load rfl (by repeat (first | exact List.Mem.head _ | apply List.Mem.tail)) (by exact LoadV.last Try.underlying25 rfl sz_25 rfl (natL_length _) (natL_length _))) ?_
    refine LAny.takeGP 12 rfl rfl rfl (by kernel_rfl) (Nat.le_of_ble_eq_true rfl) (Det.move rfl) ?_
    refine LAny.takeGP 13 rfl rfl rfl (by kernel_rfl) (Nat.le_of_ble_eq_true rfl) (Det.nilCheck rfl) ?_
    refine LAny.takeGP 14 rfl rfl rfl (by kernel_rfl) (Nat.le_of_ble_eq_true rfl) (Det.fieldA (o' := 0) Try.underlying147 rfl rfl rfl sz_62 (by decide)) ?_
    refine LAny.takeGP 15 rfl rfl rfl (by kernel_rfl) (Nat.le_of_ble_eq_true rfl) (Det.fieldA (o' := 28) Try.underlying62 rfl rfl rfl sz_25 (by decide)) ?_
    refine LAny.takeG 16 rfl rfl rfl (by kernel_rfl) (Nat.le_of_ble_eq_true rfl) (Det.load rfl (by repeat (first | exact List.Mem.head _ | apply List.Mem.tail)) (by exact cvC_ld_n _ _ _ _ _ _ _ _ _ _ _ _ _ _ _ _)) ?_
    refine LAny.oneG 17 rfl rfl rfl rfl (by kernel_rfl) (LStep.callF (first := []) rfl en_113 rfl (Nat.le_of_ble_eq_true rfl) (fun w hw => c_nat_Cmp T V.n hT hnW w) ?_)
    refine LAny.takeGP 18 rfl rfl rfl (by kernel_rfl) (Nat.le_of_ble_eq_true rfl) (Det.bin (v := .bool false) rfl rfl (cmp_ge_f hl2)) ?_
    refine LAny.takeP 19 rfl (by kernel_rfl) (Nat.le_of_ble_eq_true rfl) (Det.pick_false rfl rfl) ?_
    refine LAny.takeP 20 rfl (by kernel_rfl) (Nat.le_of_ble_eq_true rfl) (Det.assign rfl) ?_
    refine LAny.done (by kernel_rfl) ?_
    refine LCode.cond_false rfl ?_
    refine LCode.skip ?_
    refine LCode.seq ?_
    refine LCode.regionD [] (by kernel_rfl) ?_
    refine LAny.takeP 0 rfl (by kernel_rfl) (Nat.le_of_ble_eq_true rfl) (Det.fieldA (o' := 0) Try.underlying27 rfl rfl rfl sz_25 (by decide)) ?_
    refine LAny.take 1 rfl (by kernel_rfl) (Nat.le_of_ble_eq_true rfl) (Det.load rfl (by repeat (first | exact List.Mem.head _ | apply List.Mem.tail)) (by exact LoadV.first Try.underlying25 rfl sz_25 rfl (natL_length _))) ?_
    refine LAny.takeP 2 rfl (by kernel_rfl) (Nat.le_of_ble_eq_true rfl) (Det.move rfl) ?_
    refine LAny.one 3 rfl rfl (by kernel_rfl) (LStep.callF (first := []) rfl en_115 rfl (Nat.le_of_ble_eq_true rfl) (fun w hw => c_cBytes V b f w (hw _ (by repeat (first | exact List.Mem.head _ | apply List.Mem.tail))) hbl) ?_)
    refine LAny.one 4 rfl rfl (by kernel_rfl) (LStep.callF (first := []) rfl en_114 rfl (Nat.le_of_ble_eq_true rfl) (fun w hw => c_nat_BytesOK R (nby V.n) w (by omega) hnb (nby_le hl)) ?_)
    refine LAny.takeP 5 rfl (by kernel_rfl) (Nat.le_of_ble_eq_true rfl) (Det.move rfl) ?_
    refine LAny.takeP 6 rfl (by kernel_rfl) (Nat.le_of_ble_eq_true rfl) (Det.extract rfl rfl) ?_
    refine LAny.takeP 7 rfl (by kernel_rfl) (Nat.le_of_ble_eq_true rfl) (Det.extract rfl rfl) ?_
    refine LAny.takeP 8 rfl (by kernel_rfl) (Nat.le_of_ble_eq_true rfl) (Det.assign rfl) ?_
    refine LAny.takeP 9 rfl (by kernel_rfl) (Nat.le_of_ble_eq_true rfl) (Det.assign rfl) ?_
    refine LAny.done (by kernel_rfl) ?_
    refine LCode.seq ?_
    refine LCode.regionD [] (by kernel_rfl) ?_
    refine LAny.takeP 0 rfl (by kernel_rfl) (Nat.le_of_ble_eq_true rfl) (Det.fieldA (o' := 9) Try.underlying27 rfl rfl rfl sz_25 (by decide)) ?_
    refine LAny.take 1 rfl (by kernel_rfl) (Nat.le_of_ble_eq_true rfl) (Det.load rfl (by repeat (first | exact List.Mem.head _ | apply List.Mem.tail)) (by exact LoadV.last Try.underlying25 rfl sz_25 rfl (natL_length _) (natL_length _))) ?_
    refine LAny.takeP 2 rfl (by kernel_rfl) (Nat.le_of_ble_eq_true rfl) (Det.move rfl) ?_
    refine LAny.one 3 rfl rfl (by kernel_rfl) (LStep.callF (first := []) rfl en_115 rfl (Nat.le_of_ble_eq_true rfl) (fun w hw => c_cBytes V b f w (hw _ (by repeat (first | exact List.Mem.head _ | apply List.Mem.tail))) hbl) ?_)
    refine LAny.one 4 rfl rfl (by kernel_rfl) (LStep.callF (first := []) rfl en_114 rfl (Nat.le_of_ble_eq_true rfl) (fun w hw => c_nat_BytesOK T (nby V.n) w (by omega) hnb (nby_le hl2)) ?_)
    refine LAny.takeP 5 rfl (by kernel_rfl) (Nat.le_of_ble_eq_true rfl) (Det.move rfl) ?_
    refine LAny.takeP 6 rfl (by kernel_rfl) (Nat.le_of_ble_eq_true rfl) (Det.extract rfl rfl) ?_
    refine LAny.takeP 7 rfl (by kernel_rfl) (Nat.le_of_ble_eq_true rfl) (Det.extract rfl rfl) ?_
    refine LAny.takeP 8 rfl (by kernel_rfl) (Nat.le_of_ble_eq_true rfl) (Det.assign rfl) ?_
    refine LAny.takeP 9 rfl (by kernel_rfl) (Nat.le_of_ble_eq_true rfl) (Det.assign rfl) ?_
    refine LAny.done (by kernel_rfl) ?_
    refine LCode.seq ?_
    refine LCode.region ?_
    refine LOps.detP (Det.move rfl) (Nat.le_of_ble_eq_true rfl) ?_
    refine LOps.detP (Det.move rfl) (Nat.le_of_ble_eq_true rfl) ?_
    refine LOps.detP (Det.cat rfl rfl (by have h1 := str_size (nby V.n) R; have h2 := str_size (nby V.n) T; omega)) (Nat.le_of_ble_eq_true rfl) ?_
    refine LOps.detP (Det.assign rfl) (Nat.le_of_ble_eq_true rfl) ?_
    refine LOps.detP (Det.assign (v := .int .i64 ((0 : Nat) : Int)) rfl) (Nat.le_of_ble_eq_true rfl) ?_
    refine LOps.nil ?_
    refine LCode.ret ?_
    refine ⟨[_, _], .cons rfl (.cons rfl .nil), fun a w' hr => ⟨?_, hr.fr.below⟩⟩
    unfold rawPut
    rw [if_neg (by omega)]
    rfl

theorem c_raw_Get_none (id : Int) (s : ByteArray) (w : World) (h : cvI id = none) : Calls Try.prog 45 ([.int .i64 id, .string s] : List Value).toArray w (fun e w' => e = .returned (.tuple #[sgV 0 0, .int .i64 ((2300 : Nat) : Int)]) ∧ Below w.heap.size w w') := by
  refine calls_ro (N := 60) (rs := [.cell 4 27, .tmp 5]) [] Try.func45 rfl Try.ntmps45 Try.results45 (Nat.le_of_ble_eq_true rfl) trivial rfl ?_
  show LCode _ _ _ ⟨_, _⟩ _
  refine LCode.seq ?_
  refine LCode.region ?_
  refine LOps.step rfl (LStep.w (LStep.makes (Makes.allocA zr_27) (Nat.le_of_ble_eq_true rfl) (fun b4 => ?_)))
  refine LOps.detP (Det.assign (v := .int .i64 ((0 : Nat) : Int)) rfl) (Nat.le_of_ble_eq_true rfl) ?_
  refine LOps.nil ?_
  refine LCode.seq ?_
  refine LCode.region ?_
  refine LOps.detP (Det.move rfl) (Nat.le_of_ble_eq_true rfl) ?_
  refine LOps.step rfl (LStep.w (LStep.callF (first := []) rfl en_112 rfl (Nat.le_of_ble_eq_true rfl) (fun w hw => c_Open_none id w h) ?_))
  refine LOps.detP (Det.assign rfl) (Nat.le_of_ble_eq_true rfl) ?_
  refine LOps.nil ?_
  refine LCode.seq ?_
  refine LCode.seq ?_
  refine LCode.region ?_
  refine LOps.detP (Det.move rfl) (Nat.le_of_ble_eq_true rfl) ?_
  refine LOps.detP (Slots.cast (Det.eqp Try.underlying142 rfl rfl) (show _ = Value.bool true from rfl)) (Nat.le_of_ble_eq_true rfl) ?_
  refine LOps.nil ?_
  refine LCode.cond_true rfl ?_
  refine LCode.seq ?_
  refine LCode.region ?_
  refine LOps.detP (Slots.cast (Det.build pl_27 zr_27 rfl rfl) (show _ = sgV 0 0 from sg_zero)) (Nat.le_of_ble_eq_true rfl) ?_
  refine LOps.step rfl (LStepW.storeA rfl rfl sz_27 (by exact sgL_one _ _) (by repeat (first | exact SetAt.head _ | apply SetAt.tail)) (by exact sgL_length _ _) ?_)
  refine LOps.detP (Det.assign (v := .int .i64 ((2300 : Nat) : Int)) rfl) (Nat.le_of_ble_eq_true rfl) ?_
  refine LOps.nil ?_
  refine LCode.ret ?_
  refine ⟨[_, _], .cons ⟨_, _, _, rfl, (by repeat (first | exact List.Mem.head _ | apply List.Mem.tail)), by exact LoadV.whole Try.underlying27 rfl sz_27⟩ (.cons rfl .nil), fun a w' hr => ⟨?_, hr.fr.below⟩⟩
  rfl

theorem sg_set0 (R T R' : Nat) : splice (sgL R T) 0 (natL R') = sgL R' T := splice_mid (A := []) (B := natL R) (D := natL T) rfl rfl (by rw [natL_length, natL_length]) rfl
theorem sg_set1 (R T T' : Nat) : splice (sgL R T) 9 (natL T') = sgL R T' := splice_mid (A := natL R) (B := natL T) (D := []) (by simp [sgL]) (natL_length _) (by rw [natL_length, natL_length]) (by simp [sgL])
theorem c_nat_OfOK (s : ByteArray) (w : World) (h : s.size ≤ 72) : Calls Try.prog 116 ([.string s] : List Value).toArray w (fun e w' => e = .returned (.tuple #[natV (beVal s.data.toList), .int .i64 ((0 : Nat) : Int)]) ∧ Below w.heap.size w w') := by
  have h1 := c_nat_Of s (by omega) w
  rwa [if_neg (by omega)] at h1

theorem c_raw_Get (id : Int) (V : Cv) (s : ByteArray) (w : World) (h : cvI id = some V) (hs : s.size < 9223372036854775808) : Calls Try.prog 45 ([.int .i64 id, .string s] : List Value).toArray w (fun e w' => e = .returned (rawGet V s) ∧ Below w.heap.size w w') := by
  obtain ⟨hok, hid⟩ := cvI_ok h
  have hbb := hok.bounds
  have hpW : V.p < W9 := w9_521 hbb.2.1
  have hnW : V.n < W9 := w9_521 hbb.2.2.2.2.2.2.1
  have hbl := blen_w9 hnW
  have hnb : nby V.n ≤ 72 := by (unfold nby; omega)
  refine calls_ro (N := 60) (rs := [.cell 4 27, .tmp 5]) [] Try.func45 rfl Try.ntmps45 Try.results45 (Nat.le_of_ble_eq_true rfl) trivial rfl ?_
  show LCode _ _ _ ⟨_, _⟩ _
  refine LCode.seq ?_
  refine LCode.region ?_
  refine LOps.step rfl (LStep.w (LStep.makes (Makes.allocA zr_27) (Nat.le_of_ble_eq_true rfl) (fun b4 => ?_)))
  refine LOps.detP (Det.assign (v := .int .i64 ((0 : Nat) : Int)) rfl) (Nat.le_of_ble_eq_true rfl) ?_
  refine LOps.nil ?_
  refine LCode.seq ?_
  refine LCode.region ?_
  refine LOps.detP (Det.move rfl) (Nat.le_of_ble_eq_true rfl) ?_
  refine LOps.step rfl (LStep.w (LStep.callZ (Post := fun v its => ∃ b f bd, v = .pointer (some ⟨b, 0, none⟩) ∧ its = [.blk b ⟨false, opL V f, 147, (0, 0)⟩, .blk f ⟨false, fldL V.p bd, 194, (0, 0)⟩, .blk bd ⟨false, dvL V.p, 241, (0, 0)⟩]) (first := []) rfl en_112 rfl (Nat.le_of_ble_eq_true rfl) (fun w1 hw hs => (c_Open _ V w1 h).mono fun e w' ⟨b, f, bd, h1, h2, h3, h4, h5, h6, h7, h8⟩ => ⟨_, _, ⟨b, f, bd, rfl, rfl⟩, h1, Brings.nums h8 (by intro x hx; simp at hx; rcases hx with rfl | rfl | rfl; exact h2; exact h3; exact h4) (by intro x hx; simp at hx; rcases hx with rfl | rfl | rfl <;> rfl) (by intro x hx k hk; simp at hx; rcases hx with rfl | rfl | rfl <;> simp [Item.fp] at hk <;> subst hk; exact .inl h5; exact .inl h6; exact .inl h7)⟩) ?_))
  rintro _ _ ⟨b, f, bd, rfl, rfl⟩
  refine LOps.detP (Det.assign rfl) (Nat.le_of_ble_eq_true rfl) ?_
  refine LOps.nil ?_
  refine LCode.seq ?_
  refine LCode.seq ?_
  refine LCode.region ?_
  refine LOps.detP (Det.move rfl) (Nat.le_of_ble_eq_true rfl) ?_
  refine LOps.detP (Slots.cast (Det.eqp Try.underlying142 rfl rfl) (show _ = Value.bool false from rfl)) (Nat.le_of_ble_eq_true rfl) ?_
  refine LOps.nil ?_
  refine LCode.cond_false rfl ?_
  refine LCode.skip ?_
  refine LCode.seq ?_
  refine LCode.region ?_
  refine LOps.detP (Det.move rfl) (Nat.le_of_ble_eq_true rfl) ?_
  refine LOps.step rfl (LStep.w (LStep.callF (first := []) rfl en_115 rfl (Nat.le_of_ble_eq_true rfl) (fun w hw => c_cBytes V b f w (hw _ (by repeat (first | exact List.Mem.head _ | apply List.Mem.tail))) hbl) ?_))
  refine LOps.detP (Det.assign rfl) (Nat.le_of_ble_eq_true rfl) ?_
  refine LOps.nil ?_
  refine LCode.seq ?_
  refine LCode.seq ?_
  refine LCode.region ?_
  refine LOps.detP (Det.move rfl) (Nat.le_of_ble_eq_true rfl) ?_
  refine LOps.detP (Det.lens Try.underlying9 rfl) (Nat.le_of_ble_eq_true rfl) ?_
  refine LOps.detP (Det.move rfl) (Nat.le_of_ble_eq_true rfl) ?_
  refine LOps.detP (Det.bin rfl rfl (br_mul (a := 2) (by omega))) (Nat.le_of_ble_eq_true rfl) ?_
  refine LOps.detP (Det.bin rfl rfl (br_neq)) (Nat.le_of_ble_eq_true rfl) ?_
  refine LOps.nil ?_
  first | refine LCode.condD rfl (fun h20 => ?_) (fun h20 => ?_) | refine LCode.cond rfl (fun h20 => ?_) (fun h20 => ?_)
  ·
    have h20 : s.size ≠ 2 * nby V.n := by have := h20; simpa using this
    refine LCode.seq ?_
    refine LCode.region ?_
    refine LOps.detP (Slots.cast (Det.build pl_27 zr_27 rfl rfl) (show _ = sgV 0 0 from sg_zero)) (Nat.le_of_ble_eq_true rfl) ?_
    refine LOps.step rfl (LStepW.storeA rfl rfl sz_27 (by exact sgL_one _ _) (by repeat (first | exact SetAt.head _ | apply SetAt.tail)) (by exact sgL_length _ _) ?_)
    refine LOps.detP (Det.assign (v := .int .i64 ((2301 : Nat) : Int)) rfl) (Nat.le_of_ble_eq_true rfl) ?_
    refine LOps.nil ?_
    refine LCode.ret ?_
    refine ⟨[_, _], .cons ⟨_, _, _, rfl, (by repeat (first | exact List.Mem.head _ | apply List.Mem.tail)), by exact LoadV.whole Try.underlying27 rfl sz_27⟩ (.cons rfl .nil), fun a w' hr => ⟨?_, hr.fr.below⟩⟩
    unfold rawGet
    rw [if_pos h20]
    rfl
  ·
    have h20 : s.size = 2 * nby V.n := by have := h20; simpa using this
    refine LCode.skip ?_
    refine LCode.seq ?_
    refine LCode.region ?_
    refine LOps.step rfl (LStep.w (LStep.makes (Makes.allocA zr_27) (Nat.le_of_ble_eq_true rfl) (fun b8 => ?_)))
    refine LOps.nil ?_
    refine LCode.seq ?_
    refine LCode.sub (Sub.cells (b := b8) (cs' := sgL 0 0) (by repeat (first | exact SetAt.head _ | apply SetAt.tail)) sg_zero') ?_
    refine LCode.region ?_
    refine LOps.detP (Det.move rfl) (Nat.le_of_ble_eq_true rfl) ?_
    refine LOps.detP (Det.move rfl) (Nat.le_of_ble_eq_true rfl) ?_
    refine LOps.detP (Slots.cast (Det.slStrH Try.underlying9 rfl rfl (by omega) (by omega)) (by rw [Int.toNat_natCast])) (Nat.le_of_ble_eq_true rfl) ?_
    refine LOps.step rfl (LStep.w (LStep.callF (first := []) rfl en_116 rfl (Nat.le_of_ble_eq_true rfl) (fun w hw => c_nat_OfOK (s.extract 0 (nby V.n)) w (by rw [ext_size _ _ _ (by omega)]; omega)) ?_))
    refine LOps.detP (Det.move rfl) (Nat.le_of_ble_eq_true rfl) ?_
    refine LOps.detP (Det.extract rfl rfl) (Nat.le_of_ble_eq_true rfl) ?_
    refine LOps.detP (Det.extract rfl rfl) (Nat.le_of_ble_eq_true rfl) ?_
    refine LOps.detP (Det.fieldA (o' := 0) Try.underlying27 rfl rfl rfl sz_25 (by decide)) (Nat.le_of_ble_eq_true rfl) ?_
    refine LOps.step rfl (LStepW.storeN rfl rfl rfl sz_25 (natL_length _) (natL_one _) (by repeat (first | exact SetAt.head _ | apply SetAt.tail)) (by simp only [sgL_length, List.length_append, vec_length]; decide) (sg_set0 _ _ _) (by simp) ?_)
    refine LOps.nil ?_
    refine LCode.seq ?_
    refine LCode.region ?_
    refine LOps.detP (Det.move rfl) (Nat.le_of_ble_eq_true rfl) ?_
    refine LOps.detP (Det.move rfl) (Nat.le_of_ble_eq_true rfl) ?_
    refine LOps.detP (Slots.cast (Det.slStrL Try.underlying9 rfl rfl (by omega) (by omega)) (by rw [Int.toNat_natCast])) (Nat.le_of_ble_eq_true rfl) ?_
    refine LOps.step rfl (LStep.w (LStep.callF (first := []) rfl en_116 rfl (Nat.le_of_ble_eq_true rfl) (fun w hw => c_nat_OfOK (s.extract (nby V.n) s.size) w (by rw [ext_size _ _ _ (Nat.le_refl _)]; omega)) ?_))
    refine LOps.detP (Det.move rfl) (Nat.le_of_ble_eq_true rfl) ?_
    refine LOps.detP (Det.extract rfl rfl) (Nat.le_of_ble_eq_true rfl) ?_
    refine LOps.detP (Det.extract rfl rfl) (Nat.le_of_ble_eq_true rfl) ?_
    refine LOps.detP (Det.fieldA (o' := 9) Try.underlying27 rfl rfl rfl sz_25 (by decide)) (Nat.le_of_ble_eq_true rfl) ?_
    refine LOps.step rfl (LStepW.storeN rfl rfl rfl sz_25 (natL_length _) (natL_one _) (by repeat (first | exact SetAt.head _ | apply SetAt.tail)) (by simp only [sgL_length, List.length_append, vec_length]; decide) (sg_set1 _ _ _) (by simp) ?_)
    refine LOps.nil ?_
    refine LCode.seq ?_
    refine LCode.seq ?_
    rcases (show V.n ≤ rawR V s ∨ (rawR V s < V.n ∧ V.n ≤ rawT V s) ∨ (rawR V s < V.n ∧ rawT V s < V.n) by omega) with hg | ⟨hl, hg⟩ | ⟨hl, hl2⟩
    ·
      have hRw : rawR V s < W9 := beVal_w9 (by show (s.extract 0 (nby V.n)).size ≤ 72; rw [ext_size _ _ _ (by omega)]; omega)
      have hTw : rawT V s < W9 := beVal_w9 (by show (s.extract (nby V.n) s.size).size ≤ 72; rw [ext_size _ _ _ (Nat.le_refl _)]; omega)
      refine LCode.regionD [] (by kernel_rfl) ?_
      refine LAny.takeP 0 rfl (by kernel_rfl) (Nat.le_of_ble_eq_true rfl) (Det.fieldA (o' := 0) Try.underlying27 rfl rfl rfl sz_25 (by decide)) ?_
      refine LAny.take 1 rfl (by kernel_rfl) (Nat.le_of_ble_eq_true rfl) (Det.load rfl (by repeat (first | exact List.Mem.head _ | apply List.Mem.tail)) (by exact LoadV.first Try.underlying25 rfl sz_25 rfl (natL_length _))) ?_
      refine LAny.takeP 2 rfl (by kernel_rfl) (Nat.le_of_ble_eq_true rfl) (Det.move rfl) ?_
      refine LAny.takeP 3 rfl (by kernel_rfl) (Nat.le_of_ble_eq_true rfl) (Det.nilCheck rfl) ?_
      refine LAny.takeP 4 rfl (by kernel_rfl) (Nat.le_of_ble_eq_true rfl) (Det.fieldA (o' := 0) Try.underlying147 rfl rfl rfl sz_62 (by decide)) ?_
      refine LAny.takeP 5 rfl (by kernel_rfl) (Nat.le_of_ble_eq_true rfl) (Det.fieldA (o' := 28) Try.underlying62 rfl rfl rfl sz_25 (by decide)) ?_
      refine LAny.take 6 rfl (by kernel_rfl) (Nat.le_of_ble_eq_true rfl) (Det.load rfl (by repeat (first | exact List.Mem.head _ | apply List.Mem.tail)) (by exact cvC_ld_n _ _ _ _ _ _ _ _ _ _ _ _ _ _ _ _)) ?_
      refine LAny.one 7 rfl rfl (by kernel_rfl) (LStep.callF (first := []) rfl en_113 rfl (Nat.le_of_ble_eq_true rfl) (fun w hw => c_nat_Cmp (rawR V s) V.n hRw hnW w) ?_)
      refine LAny.takeP 8 rfl (by kernel_rfl) (Nat.le_of_ble_eq_true rfl) (Det.bin (v := .bool true) rfl rfl (cmp_ge_t hg)) ?_
      refine LAny.takeP 9 rfl (by kernel_rfl) (Nat.le_of_ble_eq_true rfl) (Det.move rfl) ?_
      refine LAny.skip 10 rfl rfl rfl rfl (by kernel_rfl) (Nat.le_of_ble_eq_true rfl) ?_
      refine LAny.skip 11 rfl rfl rfl rfl (by kernel_rfl) (Nat.le_of_ble_eq_true rfl) ?_
      refine LAny.skip 12 rfl rfl rfl rfl (by kernel_rfl) (Nat.le_of_ble_eq_true rfl) ?_
      refine LAny.skip 13 rfl rfl rfl rfl (by kernel_rfl) (Nat.le_of_ble_eq_true rfl) ?_
      refine LAny.skip 14 rfl rfl rfl rfl (by kernel_rfl) (Nat.le_of_ble_eq_true rfl) ?_
      refine LAny.skip 15 rfl rfl rfl rfl (by kernel_rfl) (Nat.le_of_ble_eq_true rfl) ?_
      refine LAny.skip 16 rfl rfl rfl rfl (by kernel_rfl) (Nat.le_of_ble_eq_true rfl) ?_
      refine LAny.skip 17 rfl rfl rfl rfl (by kernel_rfl) (Nat.le_of_ble_eq_true rfl) ?_
      refine LAny.skip 18 rfl rfl rfl rfl (by kernel_rfl) (Nat.le_of_ble_eq_true rfl) ?_
      refine LAny.takeP 19 rfl (by kernel_rfl) (Nat.le_of_ble_eq_true rfl) (Det.pick_true rfl rfl) ?_
      refine LAny.done (by kernel_rfl) ?_
      refine LCode.cond_true rfl ?_
      refine LCode.seq ?_
      refine LCode.region ?_
      refine LOps.detP (Slots.cast (Det.build pl_27 zr_27 rfl rfl) (show _ = sgV 0 0 from sg_zero)) (Nat.le_of_ble_eq_true rfl) ?_
      refine LOps.step rfl (LStepW.storeA rfl rfl sz_27 (by exact sgL_one _ _) (by repeat (first | exact SetAt.head _ | apply SetAt.tail)) (by exact sgL_length _ _) ?_)
      refine LOps.detP (Det.assign (v := .int .i64 ((2302 : Nat) : Int)) rfl) (Nat.le_of_ble_eq_true rfl) ?_
      refine LOps.nil ?_
      refine LCode.ret ?_
      refine ⟨[_, _], .cons ⟨_, _, _, rfl, (by repeat (first | exact List.Mem.head _ | apply List.Mem.tail)), by exact LoadV.whole Try.underlying27 rfl sz_27⟩ (.cons rfl .nil), fun a w' hr => ⟨?_, hr.fr.below⟩⟩
      unfold rawGet
      rw [if_neg (by omega), if_pos (.inl hg)]
      rfl
    ·
      have hRw : rawR V s < W9 := beVal_w9 (by show (s.extract 0 (nby V.n)).size ≤ 72; rw [ext_size _ _ _ (by omega)]; omega)
      have hTw : rawT V s < W9 := beVal_w9 (by show (s.extract (nby V.n) s.size).size ≤ 72; rw [ext_size _ _ _ (Nat.le_refl _)]; omega)
      refine LCode.regionD [] (by kernel_rfl) ?_
      refine LAny.takeP 0 rfl (by kernel_rfl) (Nat.le_of_ble_eq_true rfl) (Det.fieldA (o' := 0) Try.underlying27 rfl rfl rfl sz_25 (by decide)) ?_
      refine LAny.take 1 rfl (by kernel_rfl) (Nat.le_of_ble_eq_true rfl) (Det.load rfl (by repeat (first | exact List.Mem.head _ | apply List.Mem.tail)) (by exact LoadV.first Try.underlying25 rfl sz_25 rfl (natL_length _))) ?_
      refine LAny.takeP 2 rfl (by kernel_rfl) (Nat.le_of_ble_eq_true rfl) (Det.move rfl) ?_
      refine LAny.takeP 3 rfl (by kernel_rfl) (Nat.le_of_ble_eq_true rfl) (Det.nilCheck rfl) ?_
      refine LAny.takeP 4 rfl (by kernel_rfl) (Nat.le_of_ble_eq_true rfl) (Det.fieldA (o' := 0) Try.underlying147 rfl rfl rfl sz_62 (by decide)) ?_
      refine LAny.takeP 5 rfl (by kernel_rfl) (Nat.le_of_ble_eq_true rfl) (Det.fieldA (o' := 28) Try.underlying62 rfl rfl rfl sz_25 (by decide)) ?_
      refine LAny.take 6 rfl (by kernel_rfl) (Nat.le_of_ble_eq_true rfl) (Det.load rfl (by repeat (first | exact List.Mem.head _ | apply List.Mem.tail)) (by exact cvC_ld_n _ _ _ _ _ _ _ _ _ _ _ _ _ _ _ _)) ?_
      refine LAny.one 7 rfl rfl (by kernel_rfl) (LStep.callF (first := []) rfl en_113 rfl (Nat.le_of_ble_eq_true rfl) (fun w hw => c_nat_Cmp (rawR V s) V.n hRw hnW w) ?_)
      refine LAny.takeP 8 rfl (by kernel_rfl) (Nat.le_of_ble_eq_true rfl) (Det.bin (v := .bool false) rfl rfl (cmp_ge_f hl)) ?_
      refine LAny.takeP 9 rfl (by kernel_rfl) (Nat.le_of_ble_eq_true rfl) (Det.move rfl) ?_
      refine LAny.takeGP 10 rfl rfl rfl (by kernel_rfl) (Nat.le_of_ble_eq_true rfl) (Det.fieldA (o' := 9) Try.underlying27 rfl rfl rfl sz_25 (by decide)) ?_
      refine LAny.takeG 11 rfl rfl rfl (by kernel_rfl) (Nat.le_of_ble_eq_true rfl) (Det.load rfl (by repeat (first | exact List.Mem.head _ | apply List.Mem.tail)) (by exact LoadV.last Try.underlying25 rfl sz_25 rfl (natL_length _) (natL_length _))) ?_
      refine LAny.takeGP 12 rfl rfl rfl (by kernel_rfl) (Nat.le_of_ble_eq_true rfl) (Det.move rfl) ?_
      refine LAny.takeGP 13 rfl rfl rfl (by kernel_rfl) (Nat.le_of_ble_eq_true rfl) (Det.nilCheck rfl) ?_
      refine LAny.takeGP 14 rfl rfl rfl (by kernel_rfl) (Nat.le_of_ble_eq_true rfl) (Det.fieldA (o' := 0) Try.underlying147 rfl rfl rfl sz_62 (by decide)) ?_
      refine LAny.takeGP 15 rfl rfl rfl (by kernel_rfl) (Nat.le_of_ble_eq_true rfl) (Det.fieldA (o' := 28) Try.underlying62 rfl rfl rfl sz_25 (by decide)) ?_
      refine LAny.takeG 16 rfl rfl rfl (by kernel_rfl) (Nat.le_of_ble_eq_true rfl) (Det.load rfl (by repeat (first | exact List.Mem.head _ | apply List.Mem.tail)) (by exact cvC_ld_n _ _ _ _ _ _ _ _ _ _ _ _ _ _ _ _)) ?_
      refine LAny.oneG 17 rfl rfl rfl rfl (by kernel_rfl) (LStep.callF (first := []) rfl en_113 rfl (Nat.le_of_ble_eq_true rfl) (fun w hw => c_nat_Cmp (rawT V s) V.n hTw hnW w) ?_)
      refine LAny.takeGP 18 rfl rfl rfl (by kernel_rfl) (Nat.le_of_ble_eq_true rfl) (Det.bin (v := .bool true) rfl rfl (cmp_ge_t hg)) ?_
      refine LAny.takeP 19 rfl (by kernel_rfl) (Nat.le_of_ble_eq_true rfl) (Det.pick_false rfl rfl) ?_
      refine LAny.done (by kernel_rfl) ?_
      refine LCode.cond_true rfl ?_
      refine LCode.seq ?_
      refine LCode.region ?_
      refine LOps.detP (Slots.cast (Det.build pl_27 zr_27 rfl rfl) (show _ = sgV 0 0 from sg_zero)) (Nat.le_of_ble_eq_true rfl) ?_
      refine LOps.step rfl (LStepW.storeA rfl rfl sz_27 (by exact sgL_one _ _) (by repeat (first | exact SetAt.head _ | apply SetAt.tail)) (by exact sgL_length _ _) ?_)
      refine LOps.detP (Det.assign (v := .int .i64 ((2302 : Nat) : Int)) rfl) (Nat.le_of_ble_eq_true rfl) ?_
      refine LOps.nil ?_
      refine LCode.ret ?_
      refine ⟨[_, _], .cons ⟨_, _, _, rfl, (by repeat (first | exact List.Mem.head _ | apply List.Mem.tail)), by exact LoadV.whole Try.underlying27 rfl sz_27⟩ (.cons rfl .nil), fun a w' hr => ⟨?_, hr.fr.below⟩⟩
      unfold rawGet
      rw [if_neg (by omega), if_pos (.inr hg)]
      rfl
    ·
      have hRw : rawR V s < W9 := beVal_w9 (by show (s.extract 0 (nby V.n)).size ≤ 72; rw [ext_size _ _ _ (by omega)]; omega)
      have hTw : rawT V s < W9 := beVal_w9 (by show (s.extract (nby V.n) s.size).size ≤ 72; rw [ext_size _ _ _ (Nat.le_refl _)]; omega)
      refine LCode.regionD [] (by kernel_rfl) ?_
      refine LAny.takeP 0 rfl (by kernel_rfl) (Nat.le_of_ble_eq_true rfl) (Det.fieldA (o' := 0) Try.underlying27 rfl rfl rfl sz_25 (by decide)) ?_
      refine LAny.take 1 rfl (by kernel_rfl) (Nat.le_of_ble_eq_true rfl) (Det.load rfl (by repeat (first | exact List.Mem.head _ | apply List.Mem.tail)) (by exact LoadV.first Try.underlying25 rfl sz_25 rfl (natL_length _))) ?_
      refine LAny.takeP 2 rfl (by kernel_rfl) (Nat.le_of_ble_eq_true rfl) (Det.move rfl) ?_
      refine LAny.takeP 3 rfl (by kernel_rfl) (Nat.le_of_ble_eq_true rfl) (Det.nilCheck rfl) ?_
      refine LAny.takeP 4 rfl (by kernel_rfl) (Nat.le_of_ble_eq_true rfl) (Det.fieldA (o' := 0) Try.underlying147 rfl rfl rfl sz_62 (by decide)) ?_
      refine LAny.takeP 5 rfl (by kernel_rfl) (Nat.le_of_ble_eq_true rfl) (Det.fieldA (o' := 28) Try.underlying62 rfl rfl rfl sz_25 (by decide)) ?_
      refine LAny.take 6 rfl (by kernel_rfl) (Nat.le_of_ble_eq_true rfl) (Det.load rfl (by repeat (first | exact List.Mem.head _ | apply List.Mem.tail)) (by exact cvC_ld_n _ _ _ _ _ _ _ _ _ _ _ _ _ _ _ _)) ?_
      refine LAny.one 7 rfl rfl (by kernel_rfl) (LStep.callF (first := []) rfl en_113 rfl (Nat.le_of_ble_eq_true rfl) (fun w hw => c_nat_Cmp (rawR V s) V.n hRw hnW w) ?_)
      refine LAny.takeP 8 rfl (by kernel_rfl) (Nat.le_of_ble_eq_true rfl) (Det.bin (v := .bool false) rfl rfl (cmp_ge_f hl)) ?_
      refine LAny.takeP 9 rfl (by kernel_rfl) (Nat.le_of_ble_eq_true rfl) (Det.move rfl) ?_
      refine LAny.takeGP 10 rfl rfl rfl (by kernel_rfl) (Nat.le_of_ble_eq_true rfl) (Det.fieldA (o' := 9) Try.underlying27 rfl rfl rfl sz_25 (by decide)) ?_
      refine LAny.takeG 11 rfl rfl rfl (by kernel_rfl) (Nat.le_of_ble_eq_true rfl) (Det.load rfl (by repeat (first | exact List.Mem.head _ | apply List.Mem.tail)) (by exact LoadV.last Try.underlying25 rfl sz_25 rfl (natL_length _) (natL_length _))) ?_
      refine LAny.takeGP 12 rfl rfl rfl (by kernel_rfl) (Nat.le_of_ble_eq_true rfl) (Det.move rfl) ?_
      refine LAny.takeGP 13 rfl rfl rfl (by kernel_rfl) (Nat.le_of_ble_eq_true rfl) (Det.nilCheck rfl) ?_
      refine LAny.takeGP 14 rfl rfl rfl (by kernel_rfl) (Nat.le_of_ble_eq_true rfl) (Det.fieldA (o' := 0) Try.underlying147 rfl rfl rfl sz_62 (by decide)) ?_
      refine LAny.takeGP 15 rfl rfl rfl (by kernel_rfl) (Nat.le_of_ble_eq_true rfl) (Det.fieldA (o' := 28) Try.underlying62 rfl rfl rfl sz_25 (by decide)) ?_
      refine LAny.takeG 16 rfl rfl rfl (by kernel_rfl) (Nat.le_of_ble_eq_true rfl) (Det.load rfl (by repeat (first | exact List.Mem.head _ | apply List.Mem.tail)) (by exact cvC_ld_n _ _ _ _ _ _ _ _ _ _ _ _ _ _ _ _)) ?_
      refine LAny.oneG 17 rfl rfl rfl rfl (by kernel_rfl) (LStep.callF (first := []) rfl en_113 rfl (Nat.le_of_ble_eq_true rfl) (fun w hw => c_nat_Cmp (rawT V s) V.n hTw hnW w) ?_)
      refine LAny.takeGP 18 rfl rfl rfl (by kernel_rfl) (Nat.le_of_ble_eq_true rfl) (Det.bin (v := .bool false) rfl rfl (cmp_ge_f hl2)) ?_
      refine LAny.takeP 19 rfl (by kernel_rfl) (Nat.le_of_ble_eq_true rfl) (Det.pick_false rfl rfl) ?_
      refine LAny.done (by kernel_rfl) ?_
      refine LCode.cond_false rfl ?_
      refine LCode.skip ?_
      refine LCode.seq ?_
      refine LCode.region ?_
      refine LOps.det (Det.load rfl (by repeat (first | exact List.Mem.head _ | apply List.Mem.tail)) (by exact LoadV.whole Try.underlying27 rfl sz_27)) (Nat.le_of_ble_eq_true rfl) ?_
      refine LOps.step rfl (LStepW.storeA rfl rfl sz_27 (by exact sgL_one _ _) (by repeat (first | exact SetAt.head _ | apply SetAt.tail)) (by exact sgL_length _ _) ?_)
      refine LOps.detP (Det.assign (v := .int .i64 ((0 : Nat) : Int)) rfl) (Nat.le_of_ble_eq_true rfl) ?_
      refine LOps.nil ?_
      refine LCode.ret ?_
      refine ⟨[_, _], .cons ⟨_, _, _, rfl, (by repeat (first | exact List.Mem.head _ | apply List.Mem.tail)), by exact LoadV.whole Try.underlying27 rfl sz_27⟩ (.cons rfl .nil), fun a w' hr => ⟨?_, hr.fr.below⟩⟩
      unfold rawGet
      rw [if_neg (by omega), if_neg (by omega)]
      rfl

end Go.Proofs.Ytljblbgogjieaaa
