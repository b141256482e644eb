/- Walks: what functions of the program come to, step by step. -/
import Derived.Test.YtljblbgogjieaaaW11
set_option linter.unusedVariables false
set_option linter.unusedSimpArgs false
set_option maxRecDepth 20000
namespace Go.Proofs.Ytljblbgogjieaaa
open Go Go.RowKit

theorem c_n_Nat (q : NV) (A n : Nat) (w : World) (hq : (numI q A n).holds w) : Calls Try.prog 50 ([slV q n] : List Value).toArray w (fun e w' => e = .returned (natV A) ∧ Below w.heap.size w w') := by
  refine calls_ro (N := 24) (rs := [.cell 2 25]) [numI q A n] Try.func50 rfl Try.ntmps50 Try.results50 (Nat.le_of_ble_eq_true rfl) ⟨hq, trivial⟩ rfl ?_
  show LCode _ _ _ ⟨_, _⟩ _
  refine LCode.seq ?_
  refine LCode.region ?_
  refine LOps.step rfl (LStep.w (LStep.makes (Makes.allocA zr_25) (Nat.le_of_ble_eq_true rfl) (fun b2 => ?_)))
  refine LOps.nil ?_
  refine LCode.seq ?_
  refine LCode.region ?_
  refine LOps.step rfl (LStep.w (LStep.makes (Makes.allocA zr_25) (Nat.le_of_ble_eq_true rfl) (fun b3 => ?_)))
  refine LOps.nil ?_
  refine LCode.seq ?_
  refine LCode.seq ?_
  refine LCode.region ?_
  refine LOps.detP (Det.assign (v := .int .i64 ((0 : Nat) : Int)) rfl) (Nat.le_of_ble_eq_true rfl) ?_
  refine LOps.nil ?_
  refine LCode.block ?_
  refine LCode.loop (α := Nat) (fun x => x ≤ 9) (fun x => ⟨[(0, slV q n), (2, .pointer (some ⟨b2, 0, none⟩)), (3, .pointer (some ⟨b3, 0, none⟩)), (4, .int .i64 ((x : Nat) : Int))], [.blk b3 ⟨true, vec .u64 9 (fun j => if j < x then limb A j else 0), 25, (0, 0)⟩, .blk b2 ⟨true, vec .u64 9 (fun _ => 0), 25, (0, 0)⟩, numI q A n]⟩) (fun x => 9 - x) (0) (Nat.zero_le _) (Sub.mk ⟨rfl, rfl, rfl, rfl, trivial⟩ (by repeat (first | exact Sel.nil _ | refine Sel.cons (by repeat (first | exact Pick.head _ | apply Pick.tail)) ?_))) ?_
  intro x hx
  refine LCode.seq ?_
  refine LCode.seq ?_
  refine LCode.region ?_
  refine LOps.detP (Det.move rfl) (Nat.le_of_ble_eq_true rfl) ?_
  refine LOps.detP (Det.bin rfl rfl (br_lss (b := 9))) (Nat.le_of_ble_eq_true rfl) ?_
  refine LOps.nil ?_
  first | refine LCode.condD rfl (fun h6 => ?_) (fun h6 => ?_) | refine LCode.cond rfl (fun h6 => ?_) (fun h6 => ?_)
  ·
    refine LCode.skip ?_
    refine LCode.seq ?_
    refine LCode.block ?_
    refine LCode.region ?_
    refine LOps.detP (Det.move rfl) (Nat.le_of_ble_eq_true rfl) ?_
    refine LOps.detP (Det.move rfl) (Nat.le_of_ble_eq_true rfl) ?_
    refine LOps.detP (Det.move rfl) (Nat.le_of_ble_eq_true rfl) ?_
    refine LOps.detP (Det.bin rfl rfl (br_mul (a := 2) (by omega))) (Nat.le_of_ble_eq_true rfl) ?_
    refine LOps.step rfl (LStep.w (LStep.callF (first := []) rfl en_118 rfl (Nat.le_of_ble_eq_true rfl) (fun w hw => c_n_digit _ _ _ _ w (hw _ (by repeat (first | exact List.Mem.head _ | apply List.Mem.tail)))) ?_))
    refine LOps.detP (Det.move rfl) (Nat.le_of_ble_eq_true rfl) ?_
    refine LOps.detP (Det.move rfl) (Nat.le_of_ble_eq_true rfl) ?_
    refine LOps.detP (Det.bin rfl rfl (br_mul (a := 2) (by omega))) (Nat.le_of_ble_eq_true rfl) ?_
    refine LOps.detP (Det.bin rfl rfl (br_add (b := 1) (by omega))) (Nat.le_of_ble_eq_true rfl) ?_
    refine LOps.step rfl (LStep.w (LStep.callF (first := []) rfl en_118 rfl (Nat.le_of_ble_eq_true rfl) (fun w hw => c_n_digit _ _ _ _ w (hw _ (by repeat (first | exact List.Mem.head _ | apply List.Mem.tail)))) ?_))
    refine LOps.detP (Det.bin rfl rfl (br_shl64 (b := 32))) (Nat.le_of_ble_eq_true rfl) ?_
    refine LOps.detP (Det.bin rfl rfl (br_or64 (Nat.lt_trans (D.limb_lt _ _) (by decide)) (Nat.mod_lt _ (by decide)))) (Nat.le_of_ble_eq_true rfl) ?_
    refine LOps.detP (Det.fieldA (o' := 0) Try.underlying25 rfl rfl rfl sz_23 (by decide)) (Nat.le_of_ble_eq_true rfl) ?_
    refine LOps.detP (Det.indexA0 Try.underlying23 sz_22 rfl rfl (by omega)) (Nat.le_of_ble_eq_true rfl) ?_
    refine LOps.step rfl (LStepW.store1 rfl rfl rfl sz_22 (by repeat (first | exact SetAt.head _ | apply SetAt.tail)) (by first | (simp only [vec_length, natL_length, wideL_length, dv_length]; omega) | (simp; omega)) (by first | exact vec_set _ _ _ _ _ | exact dv_setm _ _ _ _ (by omega) | exact dv_sets _ _ _ _ | rfl) (by simp) ?_)
    refine LOps.nil ?_
    refine LCode.region ?_
    refine LOps.detP (Det.move rfl) (Nat.le_of_ble_eq_true rfl) ?_
    refine LOps.detP (Det.bin rfl rfl (br_add (b := 1) (by omega))) (Nat.le_of_ble_eq_true rfl) ?_
    refine LOps.detP (Det.assign rfl) (Nat.le_of_ble_eq_true rfl) ?_
    refine LOps.nil ?_
    refine ⟨x + 1, by omega, by omega, Sub.re (Sub.cells (b := b3) (cs' := vec .u64 9 (fun j => if j < x + 1 then limb A j else 0)) (by repeat (first | exact SetAt.head _ | apply SetAt.tail)) (vec_congr fun j hj => ?_)) (Sub.mk ⟨rfl, rfl, rfl, rfl, trivial⟩ (by repeat (first | exact Sel.nil _ | refine Sel.cons (by repeat (first | exact Pick.head _ | apply Pick.tail)) ?_)))⟩
    by_cases e : j = x
    · rw [if_pos e, if_pos (by omega), e]
      exact word_or A x
    · rw [if_neg e]
      by_cases e3 : j < x
      · rw [if_pos e3, if_pos (by omega)]
      · rw [if_neg e3, if_neg (by omega)]
  ·
    refine LCode.exit ?_
    refine LCode.seq ?_
    obtain rfl : x = 9 := by omega
    refine LCode.sub (Sub.cells (b := b3) (cs' := natL A) (by repeat (first | exact SetAt.head _ | apply SetAt.tail)) (vec_congr fun j hj => if_pos (by omega))) ?_
    refine LCode.region ?_
    refine LOps.det (Det.load rfl (by repeat (first | exact List.Mem.head _ | apply List.Mem.tail)) (by exact LoadV.whole Try.underlying25 rfl sz_25)) (Nat.le_of_ble_eq_true rfl) ?_
    refine LOps.step rfl (LStepW.storeA rfl rfl sz_25 (by repeat (first | exact natL_one _ | exact vec_one _ _ _ | exact wideL_one _ | exact ptL_one _ _ _ | exact pjL_one _ _ _ | exact allOne_nil | refine allOne_cons rfl ?_ | refine allOne_append ?_ ?_)) (by repeat (first | exact SetAt.head _ | apply SetAt.tail)) (by first | exact natL_length _ | exact vec_length _ _ _ | exact wideL_length _ | exact ptL_length _ _ _ | exact pjL_length _ _ _ | rfl | simp [vec_length, natL_length, wideL_length]) ?_)
    refine LOps.nil ?_
    refine LCode.ret ?_
    refine ⟨[_], .cons ⟨_, _, _, rfl, (by repeat (first | exact List.Mem.head _ | apply List.Mem.tail)), by exact LoadV.whole Try.underlying25 rfl sz_25⟩ .nil, fun a w' hr => ⟨?_, hr.fr.below⟩⟩
    rfl

theorem c_n_Cmp (q r : NV) (A B : Nat) (w : World) (hq : (numT q A).holds w) (hr : (numT r B).holds w) (hA : D.nw A ≤ 1000000) : Calls Try.prog 70 ([numV q A, numV r B] : List Value).toArray w (fun e w' => e = .returned (.int .i64 (cmpI A B)) ∧ Below w.heap.size w w') := by
  refine calls_ro (N := 41) (rs := [.tmp 4]) [numT q A, numT r B] Try.func70 rfl Try.ntmps70 Try.results70 (Nat.le_of_ble_eq_true rfl) ⟨hq, hr, trivial⟩ rfl ?_
  show LCode _ _ _ ⟨_, _⟩ _
  refine LCode.seq ?_
  refine LCode.region ?_
  refine LOps.detP (Det.assign (v := .int .i64 ((0 : Nat) : Int)) rfl) (Nat.le_of_ble_eq_true rfl) ?_
  refine LOps.nil ?_
  refine LCode.seq ?_
  refine LCode.seq ?_
  refine LCode.region ?_
  refine LOps.detP (Det.move rfl) (Nat.le_of_ble_eq_true rfl) ?_
  refine LOps.detP (Det.len Try.underlying29 rfl) (Nat.le_of_ble_eq_true rfl) ?_
  refine LOps.detP (Det.move rfl) (Nat.le_of_ble_eq_true rfl) ?_
  refine LOps.detP (Det.len Try.underlying29 rfl) (Nat.le_of_ble_eq_true rfl) ?_
  refine LOps.detP (Det.bin rfl rfl (br_neq)) (Nat.le_of_ble_eq_true rfl) ?_
  refine LOps.nil ?_
  first | refine LCode.condD rfl (fun h10 => ?_) (fun h10 => ?_) | refine LCode.cond rfl (fun h10 => ?_) (fun h10 => ?_)
  ·
    have h10 : ¬ D.nw A = D.nw B := by have := h10; simpa using this
    refine LCode.seq ?_
    refine LCode.seq ?_
    refine LCode.region ?_
    refine LOps.detP (Det.move rfl) (Nat.le_of_ble_eq_true rfl) ?_
    refine LOps.detP (Det.len Try.underlying29 rfl) (Nat.le_of_ble_eq_true rfl) ?_
    refine LOps.detP (Det.move rfl) (Nat.le_of_ble_eq_true rfl) ?_
    refine LOps.detP (Det.len Try.underlying29 rfl) (Nat.le_of_ble_eq_true rfl) ?_
    refine LOps.detP (Det.bin rfl rfl (br_lss)) (Nat.le_of_ble_eq_true rfl) ?_
    refine LOps.nil ?_
    first | refine LCode.condD rfl (fun h15 => ?_) (fun h15 => ?_) | refine LCode.cond rfl (fun h15 => ?_) (fun h15 => ?_)
    ·
      have h15 : D.nw A < D.nw B := by have := h15; simpa using this
      refine LCode.seq ?_
      refine LCode.region ?_
      refine LOps.detP (Det.assign rfl) (Nat.le_of_ble_eq_true rfl) ?_
      refine LOps.nil ?_
      refine LCode.ret ?_
      have he : A < B := D.lt_of_nw h15
      refine ⟨[_], .cons rfl .nil, fun a w' hr => ⟨?_, hr.fr.below⟩⟩
      simp [resOf, cmpI, he]
    ·
      have h15 : ¬ D.nw A < D.nw B := by have := h15; simpa using this
      refine LCode.skip ?_
      refine LCode.seq ?_
      refine LCode.region ?_
      refine LOps.detP (Det.assign (v := .int .i64 ((1 : Nat) : Int)) rfl) (Nat.le_of_ble_eq_true rfl) ?_
      refine LOps.nil ?_
      refine LCode.ret ?_
      have he : B < A := D.lt_of_nw (by omega)
      have he2 : ¬ A < B := by omega
      refine ⟨[_], .cons rfl .nil, fun a w' hr => ⟨?_, hr.fr.below⟩⟩
      simp [resOf, cmpI, he, he2]
  ·
    have h10 : D.nw A = D.nw B := by have := h10; simpa using this
    refine LCode.skip ?_
    refine LCode.seq ?_
    refine LCode.seq ?_
    refine LCode.region ?_
    refine LOps.detP (Det.move rfl) (Nat.le_of_ble_eq_true rfl) ?_
    refine LOps.detP (Det.len Try.underlying29 rfl) (Nat.le_of_ble_eq_true rfl) ?_
    refine LOps.detP (Det.bin (v := .int .i64 ((D.nw A : Int) - 1)) rfl rfl (br_subI (by omega) (by omega))) (Nat.le_of_ble_eq_true rfl) ?_
    refine LOps.detP (Det.assign rfl) (Nat.le_of_ble_eq_true rfl) ?_
    refine LOps.nil ?_
    refine LCode.block ?_
    refine LCode.loop (α := Nat) (fun x => x ≤ D.nw A ∧ A / 2 ^ (32 * x) = B / 2 ^ (32 * x)) (fun x => ⟨[(0, numV q A), (1, numV r B), (5, .int .i64 ((x : Int) - 1))], [numT q A, numT r B]⟩) (fun x => x) (D.nw A) (⟨Nat.le_refl _, by rw [Nat.div_eq_of_lt (D.lt_nw A), h10, Nat.div_eq_of_lt (D.lt_nw B)]⟩) (Sub.mk ⟨rfl, rfl, rfl, trivial⟩ (by repeat (first | exact Sel.nil _ | refine Sel.cons (by repeat (first | exact Pick.head _ | apply Pick.tail)) ?_))) ?_
    rintro x ⟨hx, hab⟩
    refine LCode.seq ?_
    refine LCode.seq ?_
    rcases Nat.eq_zero_or_pos x with h0 | h0
    ·
      refine LCode.region ?_
      refine LOps.detP (Det.move rfl) (Nat.le_of_ble_eq_true rfl) ?_
      refine LOps.detP (Det.bin (v := .bool false) rfl rfl (by subst h0; rfl)) (Nat.le_of_ble_eq_true rfl) ?_
      refine LOps.nil ?_
      refine LCode.cond_false rfl ?_
      refine LCode.exit ?_
      refine LCode.seq ?_
      refine LCode.region ?_
      refine LOps.detP (Det.assign (v := .int .i64 ((0 : Nat) : Int)) rfl) (Nat.le_of_ble_eq_true rfl) ?_
      refine LOps.nil ?_
      refine LCode.ret ?_
      have he : A = B := by subst h0; simpa using hab
      refine ⟨[_], .cons rfl .nil, fun a w' hr => ⟨?_, hr.fr.below⟩⟩
      simp [resOf, cmpI, he]
    ·
      obtain ⟨x, rfl⟩ : ∃ y, x = y + 1 := ⟨x - 1, by omega⟩
      refine LCode.region ?_
      refine LOps.detP (Det.move rfl) (Nat.le_of_ble_eq_true rfl) ?_
      refine LOps.detP (Det.bin (v := .bool true) rfl rfl (by simp [binRes])) (Nat.le_of_ble_eq_true rfl) ?_
      refine LOps.nil ?_
      refine LCode.cond_true rfl ?_
      refine LCode.skip ?_
      refine LCode.seq ?_
      refine LCode.block ?_
      refine LCode.seq ?_
      refine LCode.regionD [] (by kernel_rfl) ?_
      refine LAny.takeP 0 rfl (by kernel_rfl) (Nat.le_of_ble_eq_true rfl) (Det.move rfl) ?_
      refine LAny.takeP 1 rfl (by kernel_rfl) (Nat.le_of_ble_eq_true rfl) (Det.move (v := .int .i64 ((x : Nat) : Int)) (by show some _ = some _; congr 2; omega)) ?_
      refine LAny.takeP 2 rfl (by kernel_rfl) (Nat.le_of_ble_eq_true rfl) (Det.indexN Try.underlying29 sz_56 rfl rfl (by omega)) ?_
      refine LAny.take 3 rfl (by kernel_rfl) (Nat.le_of_ble_eq_true rfl) (Det.loadN Try.underlying56 rfl rfl (by repeat (first | exact List.Mem.head _ | apply List.Mem.tail)) (by omega)) ?_
      refine LAny.takeP 4 rfl (by kernel_rfl) (Nat.le_of_ble_eq_true rfl) (Det.move rfl) ?_
      refine LAny.takeP 5 rfl (by kernel_rfl) (Nat.le_of_ble_eq_true rfl) (Det.move (v := .int .i64 ((x : Nat) : Int)) (by show some _ = some _; congr 2; omega)) ?_
      refine LAny.takeP 6 rfl (by kernel_rfl) (Nat.le_of_ble_eq_true rfl) (Det.indexN Try.underlying29 sz_56 rfl rfl (by omega)) ?_
      refine LAny.take 7 rfl (by kernel_rfl) (Nat.le_of_ble_eq_true rfl) (Det.loadN Try.underlying56 rfl rfl (by repeat (first | exact List.Mem.head _ | apply List.Mem.tail)) (by omega)) ?_
      refine LAny.takeP 8 rfl (by kernel_rfl) (Nat.le_of_ble_eq_true rfl) (Det.bin rfl rfl (br_neq)) ?_
      refine LAny.done (by kernel_rfl) ?_
      first | refine LCode.condD rfl (fun h31 => ?_) (fun h31 => ?_) | refine LCode.cond rfl (fun h31 => ?_) (fun h31 => ?_)
      ·
        refine LCode.seq ?_
        refine LCode.seq ?_
        refine LCode.regionD [] (by kernel_rfl) ?_
        refine LAny.takeP 0 rfl (by kernel_rfl) (Nat.le_of_ble_eq_true rfl) (Det.move rfl) ?_
        refine LAny.takeP 1 rfl (by kernel_rfl) (Nat.le_of_ble_eq_true rfl) (Det.move (v := .int .i64 ((x : Nat) : Int)) (by show some _ = some _; congr 2; omega)) ?_
        refine LAny.takeP 2 rfl (by kernel_rfl) (Nat.le_of_ble_eq_true rfl) (Det.indexN Try.underlying29 sz_56 rfl rfl (by omega)) ?_
        refine LAny.take 3 rfl (by kernel_rfl) (Nat.le_of_ble_eq_true rfl) (Det.loadN Try.underlying56 rfl rfl (by repeat (first | exact List.Mem.head _ | apply List.Mem.tail)) (by omega)) ?_
        refine LAny.takeP 4 rfl (by kernel_rfl) (Nat.le_of_ble_eq_true rfl) (Det.move rfl) ?_
        refine LAny.takeP 5 rfl (by kernel_rfl) (Nat.le_of_ble_eq_true rfl) (Det.move (v := .int .i64 ((x : Nat) : Int)) (by show some _ = some _; congr 2; omega)) ?_
        refine LAny.takeP 6 rfl (by kernel_rfl) (Nat.le_of_ble_eq_true rfl) (Det.indexN Try.underlying29 sz_56 rfl rfl (by omega)) ?_
        refine LAny.take 7 rfl (by kernel_rfl) (Nat.le_of_ble_eq_true rfl) (Det.loadN Try.underlying56 rfl rfl (by repeat (first | exact List.Mem.head _ | apply List.Mem.tail)) (by omega)) ?_
        refine LAny.takeP 8 rfl (by kernel_rfl) (Nat.le_of_ble_eq_true rfl) (Det.bin rfl rfl (br_lss)) ?_
        refine LAny.done (by kernel_rfl) ?_
        first | refine LCode.condD rfl (fun h40 => ?_) (fun h40 => ?_) | refine LCode.cond rfl (fun h40 => ?_) (fun h40 => ?_)
        ·
          refine LCode.seq ?_
          refine LCode.region ?_
          refine LOps.detP (Det.assign rfl) (Nat.le_of_ble_eq_true rfl) ?_
          refine LOps.nil ?_
          refine LCode.ret ?_
          have he : A < B := D.lt_of_limb hab h40
          refine ⟨[_], .cons rfl .nil, fun a w' hr => ⟨?_, hr.fr.below⟩⟩
          simp [resOf, cmpI, he]
        ·
          refine LCode.skip ?_
          refine LCode.seq ?_
          refine LCode.region ?_
          refine LOps.detP (Det.assign (v := .int .i64 ((1 : Nat) : Int)) rfl) (Nat.le_of_ble_eq_true rfl) ?_
          refine LOps.nil ?_
          refine LCode.ret ?_
          have he : B < A := D.lt_of_limb hab.symm (by omega)
          have he2 : ¬ A < B := by omega
          refine ⟨[_], .cons rfl .nil, fun a w' hr => ⟨?_, hr.fr.below⟩⟩
          simp [resOf, cmpI, he, he2]
      ·
        refine LCode.skip ?_
        refine LCode.region ?_
        refine LOps.detP (Det.move (v := .int .i64 ((x : Nat) : Int)) (by show some _ = some _; congr 2; omega)) (Nat.le_of_ble_eq_true rfl) ?_
        refine LOps.detP (Det.bin rfl rfl rfl) (Nat.le_of_ble_eq_true rfl) ?_
        refine LOps.detP (Det.assign rfl) (Nat.le_of_ble_eq_true rfl) ?_
        refine LOps.nil ?_
        refine ⟨x, ⟨by omega, ?_⟩, by omega, Sub.mk ⟨rfl, rfl, ?_, trivial⟩ (by repeat (first | exact Sel.nil _ | refine Sel.cons (by repeat (first | exact Pick.head _ | apply Pick.tail)) ?_))⟩
        · have h1 : D.limb A x = D.limb B x := by have := h31; omega
          exact (D.div_eq_iff_limb A B x).2 ⟨hab, h1⟩
        · exact congrArg (fun i : Int => some (Value.int .i64 i)) (wrap_i64 (by omega) (by omega))

theorem c_n_Sub (q r : NV) (A B : Nat) (w : World) (hq : (numT q A).holds w) (hr : (numT r B).holds w) (hBA : B ≤ A) (hA : D.nw A ≤ 1000000) : Calls Try.prog 65 ([numV q A, numV r B] : List Value).toArray w (fun e w' => NumR w ([]) (A - B) (fun v => v) e w') := by
  refine calls_ro (N := 39) (rs := [.tmp 4]) [numT q A, numT r B] Try.func65 rfl Try.ntmps65 Try.results65 (Nat.le_of_ble_eq_true rfl) ⟨hq, hr, trivial⟩ rfl ?_
  show LCode _ _ _ ⟨_, _⟩ _
  refine LCode.seq ?_
  refine LCode.region ?_
  refine LOps.detP (Det.assign rfl) (Nat.le_of_ble_eq_true rfl) ?_
  refine LOps.nil ?_
  refine LCode.seq ?_
  refine LCode.region ?_
  refine LOps.detP (Det.move rfl) (Nat.le_of_ble_eq_true rfl) ?_
  refine LOps.detP (Det.len Try.underlying29 rfl) (Nat.le_of_ble_eq_true rfl) ?_
  refine LOps.step rfl (LStep.w (LStep.makes (Makes.mkV Try.underlying29 inf_56 rfl rfl (by omega) (by omega)) (Nat.le_of_ble_eq_true rfl) (fun b11 => ?_)))
  refine LOps.detP (Det.assign rfl) (Nat.le_of_ble_eq_true rfl) ?_
  refine LOps.nil ?_
  refine LCode.seq ?_
  refine LCode.region ?_
  refine LOps.detP (Det.assign (v := .int .u64 ((0 : Nat) : Int)) rfl) (Nat.le_of_ble_eq_true rfl) ?_
  refine LOps.nil ?_
  refine LCode.seq ?_
  refine LCode.seq ?_
  refine LCode.region ?_
  refine LOps.detP (Det.assign (v := .int .i64 ((0 : Nat) : Int)) rfl) (Nat.le_of_ble_eq_true rfl) ?_
  refine LOps.nil ?_
  refine LCode.block ?_
  refine LCode.loop (α := Nat) (fun x => x ≤ D.nw A) (fun x => ⟨[(0, numV q A), (1, numV r B), (5, .slice (some ⟨b11, 0, none⟩) (D.nw A) (D.nw A)), (6, .int .u64 ((D.borrow A B x : Nat) : Int)), (7, .int .i64 ((x : Nat) : Int))], [.blk b11 ⟨true, vec .u32 (D.nw A) (fun j => if j < x then D.limb (A - B) j else 0), 56, (0, 0)⟩, numT q A, numT r B]⟩) (fun x => D.nw A - x) (0) (Nat.zero_le _) (Sub.mk ⟨rfl, rfl, rfl, by rw [D.borrow_zero]; rfl, rfl, trivial⟩ (by repeat (first | exact Sel.nil _ | refine Sel.cons (by repeat (first | exact Pick.head _ | apply Pick.tail)) ?_))) ?_
  intro x hx
  refine LCode.seq ?_
  refine LCode.seq ?_
  refine LCode.region ?_
  refine LOps.detP (Det.move rfl) (Nat.le_of_ble_eq_true rfl) ?_
  refine LOps.detP (Det.move rfl) (Nat.le_of_ble_eq_true rfl) ?_
  refine LOps.detP (Det.len Try.underlying29 rfl) (Nat.le_of_ble_eq_true rfl) ?_
  refine LOps.detP (Det.bin rfl rfl (br_lss)) (Nat.le_of_ble_eq_true rfl) ?_
  refine LOps.nil ?_
  first | refine LCode.condD rfl (fun h15 => ?_) (fun h15 => ?_) | refine LCode.cond rfl (fun h15 => ?_) (fun h15 => ?_)
  ·
    refine LCode.skip ?_
    refine LCode.seq ?_
    refine LCode.block ?_
    refine LCode.seq ?_
    have hs := D.sub_limb hBA x
    have hbr := D.borrow_le A B x
    have hla := D.limb_lt A x
    have hlb := D.limb_lt B x
    refine LCode.region ?_
    refine LOps.detP (Det.move rfl) (Nat.le_of_ble_eq_true rfl) ?_
    refine LOps.detP (Det.move rfl) (Nat.le_of_ble_eq_true rfl) ?_
    refine LOps.step rfl (LStep.w (LStep.callF (first := []) rfl en_118 rfl (Nat.le_of_ble_eq_true rfl) (fun w hw => c_n_digit q A (D.nw A) x w (hw _ (by repeat (first | exact List.Mem.head _ | apply List.Mem.tail)))) ?_))
    refine LOps.detP (Det.bin rfl rfl (br_add64 (b := 4294967296))) (Nat.le_of_ble_eq_true rfl) ?_
    refine LOps.detP (Det.move rfl) (Nat.le_of_ble_eq_true rfl) ?_
    refine LOps.detP (Det.move rfl) (Nat.le_of_ble_eq_true rfl) ?_
    refine LOps.step rfl (LStep.w (LStep.callF (first := []) rfl en_118 rfl (Nat.le_of_ble_eq_true rfl) (fun w hw => c_n_digit r B (D.nw B) x w (hw _ (by repeat (first | exact List.Mem.head _ | apply List.Mem.tail)))) ?_))
    refine LOps.detP (Det.bin rfl rfl (br_sub64 (by omega))) (Nat.le_of_ble_eq_true rfl) ?_
    refine LOps.detP (Det.move rfl) (Nat.le_of_ble_eq_true rfl) ?_
    refine LOps.detP (Det.bin rfl rfl (br_sub64 (by omega))) (Nat.le_of_ble_eq_true rfl) ?_
    refine LOps.detP (Det.assign rfl) (Nat.le_of_ble_eq_true rfl) ?_
    refine LOps.nil ?_
    refine LCode.seq ?_
    refine LCode.region ?_
    refine LOps.detP (Det.move rfl) (Nat.le_of_ble_eq_true rfl) ?_
    refine LOps.detP (Det.move rfl) (Nat.le_of_ble_eq_true rfl) ?_
    refine LOps.detP (Det.move rfl) (Nat.le_of_ble_eq_true rfl) ?_
    refine LOps.detP (Det.bin rfl rfl (br_and64 (b := 4294967295) (by omega) (by decide))) (Nat.le_of_ble_eq_true rfl) ?_
    refine LOps.detP (Det.conv32 Try.underlying22 Try.underlying56 rfl) (Nat.le_of_ble_eq_true rfl) ?_
    refine LOps.detP (Det.indexS0 Try.underlying29 sz_56 rfl rfl (by omega)) (Nat.le_of_ble_eq_true rfl) ?_
    refine LOps.step rfl (LStepW.store1 rfl rfl rfl sz_56 (by repeat (first | exact SetAt.head _ | apply SetAt.tail)) (by first | (simp only [vec_length, natL_length, wideL_length, dv_length]; omega) | (simp; omega)) (by first | exact vec_set _ _ _ _ _ | exact dv_setm _ _ _ _ (by omega) | exact dv_sets _ _ _ _ | rfl) (by simp) ?_)
    refine LOps.nil ?_
    refine LCode.region ?_
    refine LOps.detP (Det.move rfl) (Nat.le_of_ble_eq_true rfl) ?_
    refine LOps.detP (Det.bin rfl rfl (br_shr64 (b := 32) (by omega))) (Nat.le_of_ble_eq_true rfl) ?_
    refine LOps.detP (Det.bin rfl rfl (br_sub64 (a := 1) (by omega))) (Nat.le_of_ble_eq_true rfl) ?_
    refine LOps.detP (Det.assign rfl) (Nat.le_of_ble_eq_true rfl) ?_
    refine LOps.nil ?_
    refine LCode.region ?_
    refine LOps.detP (Det.move rfl) (Nat.le_of_ble_eq_true rfl) ?_
    refine LOps.detP (Det.bin rfl rfl (br_add (b := 1) (by omega))) (Nat.le_of_ble_eq_true rfl) ?_
    refine LOps.detP (Det.assign rfl) (Nat.le_of_ble_eq_true rfl) ?_
    refine LOps.nil ?_
    refine ⟨x + 1, by omega, by omega, Sub.re (Sub.cells (b := b11) (cs' := vec .u32 (D.nw A) (fun j => if j < x + 1 then D.limb (A - B) j else 0)) (by repeat (first | exact SetAt.head _ | apply SetAt.tail)) (vec_congr fun j hj => ?_)) (Sub.mk ⟨rfl, rfl, rfl, congrArg (fun n : Nat => some (Value.int .u64 (n : Int))) ?_, rfl, trivial⟩ (by repeat (first | exact Sel.nil _ | refine Sel.cons (by repeat (first | exact Pick.head _ | apply Pick.tail)) ?_)))⟩
    · by_cases e : j = x
      · rw [if_pos e, if_pos (by omega), e, and32]
        omega
      · rw [if_neg e]
        by_cases e3 : j < x
        · rw [if_pos e3, if_pos (by omega)]
        · rw [if_neg e3, if_neg (by omega)]
    · omega
  ·
    refine LCode.exit ?_
    refine LCode.seq ?_
    obtain rfl : x = D.nw A := by omega
    refine LCode.sub (Sub.cells (b := b11) (cs' := vec .u32 (D.nw A) (D.limb (A - B))) (by repeat (first | exact SetAt.head _ | apply SetAt.tail)) (vec_congr fun j hj => if_pos hj)) ?_
    refine LCode.region ?_
    refine LOps.detP (Det.move rfl) (Nat.le_of_ble_eq_true rfl) ?_
    refine LOps.step rfl (LStep.w (LStep.callF (first := []) rfl en_120 rfl (Nat.le_of_ble_eq_true rfl) (fun w hw => c_trim (A - B) b11 (D.nw A) (D.nw A) (D.nw A) _ true w (hw _ (by repeat (first | exact List.Mem.head _ | apply List.Mem.tail))) (Nat.le_refl _) (Nat.le_refl _) (by omega) (Nat.lt_of_le_of_lt (Nat.sub_le _ _) (D.lt_nw A))) ?_))
    refine LOps.detP (Det.assign rfl) (Nat.le_of_ble_eq_true rfl) ?_
    refine LOps.nil ?_
    refine LCode.ret ?_
    refine ⟨[_], .cons rfl .nil, fun a w' hr => hr.num (by repeat (first | exact List.Mem.head _ | apply List.Mem.tail)) (Nat.lt_of_le_of_lt (Nat.sub_le _ _) (D.lt_nw A))⟩

end Go.Proofs.Ytljblbgogjieaaa
