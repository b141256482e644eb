/- Walks: what functions of the program come to, step by step. -/
import Derived.Test.YtljblbgogjieaaaW09
import Derived.Test.YtljblbgogjieaaaNum2
import Derived.Test.YtljblbgogjieaaaNum3
set_option linter.unusedVariables false
set_option linter.unusedSimpArgs false
set_option maxRecDepth 20000
namespace Go.Proofs.Ytljblbgogjieaaa
open Go Go.RowKit

theorem c_trim (A b n c m : Nat) (ty : TypeId) (wr : Bool) (w : World) (hb : (Item.blk b ⟨wr, vec .u32 m (D.limb A), ty, (0, 0)⟩).holds w) (hnm : n ≤ m) (hnc : n ≤ c) (hc : n < 9223372036854775808) (hA : A < 2 ^ (32 * n)) : Calls Try.prog 120 ([.slice (some ⟨b, 0, none⟩) n c] : List Value).toArray w (fun e w' => e = .returned (.slice (some ⟨b, 0, none⟩) (D.nw A) c) ∧ Below w.heap.size w w') := by
  refine calls_ro (N := 21) (rs := [.tmp 2]) [.blk b ⟨false, vec .u32 m (D.limb A), ty, (0, 0)⟩] Try.func120 rfl Try.ntmps120 Try.results120 (Nat.le_of_ble_eq_true rfl) ⟨hb, trivial⟩ rfl ?_
  show LCode _ _ _ ⟨_, _⟩ _
  refine LCode.seq ?_
  refine LCode.region ?_
  refine LOps.detP (Det.assign rfl) (Nat.le_of_ble_eq_true rfl) ?_
  refine LOps.nil ?_
  refine LCode.seq ?_
  refine LCode.region ?_
  refine LOps.detP (Det.move rfl) (Nat.le_of_ble_eq_true rfl) ?_
  refine LOps.detP (Det.len Try.underlying29 rfl) (Nat.le_of_ble_eq_true rfl) ?_
  refine LOps.detP (Det.assign rfl) (Nat.le_of_ble_eq_true rfl) ?_
  refine LOps.nil ?_
  refine LCode.seq ?_
  refine LCode.block ?_
  refine LCode.loop (α := Nat) (fun x => x ≤ n ∧ A < 2 ^ (32 * x)) (fun x => ⟨[(0, .slice (some ⟨b, 0, none⟩) n c), (3, .int .i64 ((x : Nat) : Int))], [.blk b ⟨false, vec .u32 m (D.limb A), ty, (0, 0)⟩]⟩) (fun x => x) (n) (⟨Nat.le_refl _, hA⟩) (Sub.mk ⟨rfl, rfl, trivial⟩ (by repeat (first | exact Sel.nil _ | refine Sel.cons (by repeat (first | exact Pick.head _ | apply Pick.tail)) ?_))) ?_
  rintro x ⟨hx, hlt⟩
  refine LCode.seq ?_
  refine LCode.seq ?_
  by_cases h0 : 0 < x
  ·
    refine LCode.region ?_
    refine LOps.detP (Det.move rfl) (Nat.le_of_ble_eq_true rfl) ?_
    refine LOps.detP (Det.bin rfl rfl (br_t (br_gtr (b := 0)) h0)) (Nat.le_of_ble_eq_true rfl) ?_
    refine LOps.detP (Det.move rfl) (Nat.le_of_ble_eq_true rfl) ?_
    refine LOps.detGP rfl rfl (Det.move rfl) (Nat.le_of_ble_eq_true rfl) ?_
    refine LOps.detGP rfl rfl (Det.move rfl) (Nat.le_of_ble_eq_true rfl) ?_
    refine LOps.detGP rfl rfl (Det.bin rfl rfl (br_sub (b := 1) (by omega) (by omega))) (Nat.le_of_ble_eq_true rfl) ?_
    refine LOps.detGP rfl rfl (Det.indexS0 Try.underlying29 sz_56 rfl rfl (by omega)) (Nat.le_of_ble_eq_true rfl) ?_
    refine LOps.detG rfl rfl (Det.load rfl (by repeat (first | exact List.Mem.head _ | apply List.Mem.tail)) (LoadV.one Try.underlying56 rfl (by exact vec_get _ _ _ (show x - 1 < m by omega)))) (Nat.le_of_ble_eq_true rfl) ?_
    refine LOps.detGP rfl rfl (Det.bin rfl rfl (br_eql (b := 0))) (Nat.le_of_ble_eq_true rfl) ?_
    refine LOps.detP (Det.pick_true rfl rfl) (Nat.le_of_ble_eq_true rfl) ?_
    refine LOps.nil ?_
    first | refine LCode.condD rfl (fun h15 => ?_) (fun h15 => ?_) | refine LCode.cond rfl (fun h15 => ?_) (fun h15 => ?_)
    ·
      have h15 : D.limb A (x - 1) = 0 := by have := h15; simpa using this
      refine LCode.skip ?_
      refine LCode.block ?_
      refine LCode.region ?_
      refine LOps.detP (Det.move rfl) (Nat.le_of_ble_eq_true rfl) ?_
      refine LOps.detP (Det.bin rfl rfl (br_sub (b := 1) (by omega) (by omega))) (Nat.le_of_ble_eq_true rfl) ?_
      refine LOps.detP (Det.assign rfl) (Nat.le_of_ble_eq_true rfl) ?_
      refine LOps.nil ?_
      refine ⟨x - 1, ⟨by omega, ?_⟩, by omega, Sub.mk ⟨rfl, rfl, trivial⟩ (by repeat (first | exact Sel.nil _ | refine Sel.cons (by repeat (first | exact Pick.head _ | apply Pick.tail)) ?_))⟩
      exact D.lt_of_limb_zero (A := A) (n := x - 1) (by rw [show x - 1 + 1 = x by omega]; exact hlt) h15
    ·
      have h15 : ¬ D.limb A (x - 1) = 0 := by have := h15; simpa using this
      refine LCode.exit ?_
      refine LCode.seq ?_
      refine LCode.region ?_
      refine LOps.detP (Det.move rfl) (Nat.le_of_ble_eq_true rfl) ?_
      refine LOps.detP (Det.move rfl) (Nat.le_of_ble_eq_true rfl) ?_
      refine LOps.detP (Det.slH Try.underlying29 sz_56 rfl rfl (by omega) (by omega)) (Nat.le_of_ble_eq_true rfl) ?_
      refine LOps.detP (Det.assign rfl) (Nat.le_of_ble_eq_true rfl) ?_
      refine LOps.nil ?_
      refine LCode.ret ?_
      have he : D.nw A = x := D.nw_eq hlt (.inr (D.le_of_limb (A := A) (n := x - 1) (by rw [show x - 1 + 1 = x by omega]; exact hlt) h15))
      refine ⟨[_], .cons rfl .nil, fun a w' hr => ⟨?_, hr.fr.below⟩⟩
      rw [he]; rfl
  ·
    refine LCode.region ?_
    refine LOps.detP (Det.move rfl) (Nat.le_of_ble_eq_true rfl) ?_
    refine LOps.detP (Det.bin rfl rfl (br_f (br_gtr (b := 0)) h0)) (Nat.le_of_ble_eq_true rfl) ?_
    refine LOps.detP (Det.move rfl) (Nat.le_of_ble_eq_true rfl) ?_
    refine LOps.skip rfl rfl rfl (Nat.le_of_ble_eq_true rfl) ?_
    refine LOps.skip rfl rfl rfl (Nat.le_of_ble_eq_true rfl) ?_
    refine LOps.skip rfl rfl rfl (Nat.le_of_ble_eq_true rfl) ?_
    refine LOps.skip rfl rfl rfl (Nat.le_of_ble_eq_true rfl) ?_
    refine LOps.skip rfl rfl rfl (Nat.le_of_ble_eq_true rfl) ?_
    refine LOps.skip rfl rfl rfl (Nat.le_of_ble_eq_true rfl) ?_
    refine LOps.detP (Det.pick_false rfl rfl) (Nat.le_of_ble_eq_true rfl) ?_
    refine LOps.nil ?_
    refine LCode.cond_false rfl ?_
    refine LCode.exit ?_
    refine LCode.seq ?_
    refine LCode.region ?_
    refine LOps.detP (Det.move rfl) (Nat.le_of_ble_eq_true rfl) ?_
    refine LOps.detP (Det.move rfl) (Nat.le_of_ble_eq_true rfl) ?_
    refine LOps.detP (Det.slH Try.underlying29 sz_56 rfl rfl (by omega) (by omega)) (Nat.le_of_ble_eq_true rfl) ?_
    refine LOps.detP (Det.assign rfl) (Nat.le_of_ble_eq_true rfl) ?_
    refine LOps.nil ?_
    refine LCode.ret ?_
    have he : D.nw A = x := D.nw_eq hlt (.inl (by omega))
    refine ⟨[_], .cons rfl .nil, fun a w' hr => ⟨?_, hr.fr.below⟩⟩
    rw [he]; rfl

theorem c_n_From (A : Nat) (hA : A < W9) (w : World)  : Calls Try.prog 52 ([natV A] : List Value).toArray w (fun e w' => NumR w ([]) (A) (fun v => v) e w') := by
  refine calls_ro (N := 33) (rs := [.tmp 2]) [] Try.func52 rfl Try.ntmps52 Try.results52 (Nat.le_of_ble_eq_true rfl) trivial rfl ?_
  show LCode _ _ _ ⟨_, _⟩ _
  refine LCode.seq ?_
  refine LCode.region ?_
  refine LOps.step rfl (LStep.w (LStep.makes (Makes.boxA rfl) (Nat.le_of_ble_eq_true rfl) (fun b1 => ?_)))
  refine LOps.detP (Det.assign rfl) (Nat.le_of_ble_eq_true rfl) ?_
  refine LOps.nil ?_
  refine LCode.seq ?_
  refine LCode.region ?_
  refine LOps.step rfl (LStep.w (LStep.makes (Makes.mkV Try.underlying29 inf_56 rfl rfl (by decide) (by decide)) (Nat.le_of_ble_eq_true rfl) (fun b5 => ?_)))
  refine LOps.detP (Det.assign rfl) (Nat.le_of_ble_eq_true rfl) ?_
  refine LOps.nil ?_
  refine LCode.seq ?_
  refine LCode.seq ?_
  refine LCode.region ?_
  refine LOps.detP (Det.assign (v := .int .i64 ((0 : Nat) : Int)) rfl) (Nat.le_of_ble_eq_true rfl) ?_
  refine LOps.nil ?_
  refine LCode.block ?_
  refine LCode.loop (α := Nat) (fun x => x ≤ 9) (fun x => ⟨[(1, .pointer (some ⟨b1, 0, none⟩)), (3, .slice (some ⟨b5, 0, none⟩) 18 18), (4, .int .i64 ((x : Nat) : Int))], [.blk b5 ⟨true, vec .u32 18 (fun j => if j < 2 * x then D.limb A j else 0), 56, (0, 0)⟩, .blk b1 ⟨true, natL A, 25, (0, 0)⟩]⟩) (fun x => 9 - x) (0) (Nat.zero_le _) (Sub.mk ⟨rfl, rfl, rfl, trivial⟩ (by repeat (first | exact Sel.nil _ | refine Sel.cons (by repeat (first | exact Pick.head _ | apply Pick.tail)) ?_))) ?_
  intro x hx
  refine LCode.seq ?_
  refine LCode.seq ?_
  refine LCode.region ?_
  refine LOps.detP (Det.move rfl) (Nat.le_of_ble_eq_true rfl) ?_
  refine LOps.detP (Det.bin rfl rfl (br_lss (b := 9))) (Nat.le_of_ble_eq_true rfl) ?_
  refine LOps.nil ?_
  first | refine LCode.condD rfl (fun h7 => ?_) (fun h7 => ?_) | refine LCode.cond rfl (fun h7 => ?_) (fun h7 => ?_)
  ·
    refine LCode.skip ?_
    refine LCode.seq ?_
    refine LCode.block ?_
    refine LCode.seq ?_
    refine LCode.region ?_
    refine LOps.detP (Det.move rfl) (Nat.le_of_ble_eq_true rfl) ?_
    refine LOps.detP (Det.move rfl) (Nat.le_of_ble_eq_true rfl) ?_
    refine LOps.detP (Det.bin rfl rfl (br_mul (a := 2) (by omega))) (Nat.le_of_ble_eq_true rfl) ?_
    refine LOps.detP (Det.move rfl) (Nat.le_of_ble_eq_true rfl) ?_
    refine LOps.detP (Det.fieldA (o' := 0) Try.underlying25 rfl rfl rfl sz_23 (by decide)) (Nat.le_of_ble_eq_true rfl) ?_
    refine LOps.detP (Det.indexA0 Try.underlying23 sz_22 rfl rfl (by omega)) (Nat.le_of_ble_eq_true rfl) ?_
    refine LOps.det (Det.load rfl (by repeat (first | exact List.Mem.head _ | apply List.Mem.tail)) (LoadV.one Try.underlying22 rfl (by exact natL_get _ (by omega)))) (Nat.le_of_ble_eq_true rfl) ?_
    refine LOps.detP (Det.bin rfl rfl (br_and64 (b := 4294967295) (limb_lt _ _) (by decide))) (Nat.le_of_ble_eq_true rfl) ?_
    refine LOps.detP (Det.conv32 Try.underlying22 Try.underlying56 rfl) (Nat.le_of_ble_eq_true rfl) ?_
    refine LOps.detP (Det.indexS0 Try.underlying29 sz_56 rfl rfl (by omega)) (Nat.le_of_ble_eq_true rfl) ?_
    refine LOps.step rfl (LStepW.store1 rfl rfl rfl sz_56 (by repeat (first | exact SetAt.head _ | apply SetAt.tail)) (by first | (simp only [vec_length, natL_length, wideL_length, dv_length]; omega) | (simp; omega)) (by first | exact vec_set _ _ _ _ _ | exact dv_setm _ _ _ _ (by omega) | exact dv_sets _ _ _ _ | rfl) (by simp) ?_)
    refine LOps.nil ?_
    refine LCode.region ?_
    refine LOps.detP (Det.move rfl) (Nat.le_of_ble_eq_true rfl) ?_
    refine LOps.detP (Det.move rfl) (Nat.le_of_ble_eq_true rfl) ?_
    refine LOps.detP (Det.bin rfl rfl (br_mul (a := 2) (by omega))) (Nat.le_of_ble_eq_true rfl) ?_
    refine LOps.detP (Det.bin rfl rfl (br_add (b := 1) (by omega))) (Nat.le_of_ble_eq_true rfl) ?_
    refine LOps.detP (Det.move rfl) (Nat.le_of_ble_eq_true rfl) ?_
    refine LOps.detP (Det.fieldA (o' := 0) Try.underlying25 rfl rfl rfl sz_23 (by decide)) (Nat.le_of_ble_eq_true rfl) ?_
    refine LOps.detP (Det.indexA0 Try.underlying23 sz_22 rfl rfl (by omega)) (Nat.le_of_ble_eq_true rfl) ?_
    refine LOps.det (Det.load rfl (by repeat (first | exact List.Mem.head _ | apply List.Mem.tail)) (LoadV.one Try.underlying22 rfl (by exact natL_get _ (by omega)))) (Nat.le_of_ble_eq_true rfl) ?_
    refine LOps.detP (Det.bin rfl rfl (br_shr64 (b := 32) (limb_lt _ _))) (Nat.le_of_ble_eq_true rfl) ?_
    refine LOps.detP (Det.conv32 Try.underlying22 Try.underlying56 rfl) (Nat.le_of_ble_eq_true rfl) ?_
    refine LOps.detP (Det.indexS0 Try.underlying29 sz_56 rfl rfl (by omega)) (Nat.le_of_ble_eq_true rfl) ?_
    refine LOps.step rfl (LStepW.store1 rfl rfl rfl sz_56 (by repeat (first | exact SetAt.head _ | apply SetAt.tail)) (by first | (simp only [vec_length, natL_length, wideL_length, dv_length]; omega) | (simp; omega)) (by first | exact vec_set _ _ _ _ _ | exact dv_setm _ _ _ _ (by omega) | exact dv_sets _ _ _ _ | rfl) (by simp) ?_)
    refine LOps.nil ?_
    refine LCode.region ?_
    refine LOps.detP (Det.move rfl) (Nat.le_of_ble_eq_true rfl) ?_
    refine LOps.detP (Det.bin rfl rfl (br_add (b := 1) (by omega))) (Nat.le_of_ble_eq_true rfl) ?_
    refine LOps.detP (Det.assign rfl) (Nat.le_of_ble_eq_true rfl) ?_
    refine LOps.nil ?_
    refine ⟨x + 1, by omega, by omega, Sub.re (Sub.cells (b := b5) (cs' := vec .u32 18 (fun j => if j < 2 * (x + 1) then D.limb A j else 0)) (by repeat (first | exact SetAt.head _ | apply SetAt.tail)) (vec_congr fun j hj => ?_)) (Sub.mk ⟨rfl, rfl, rfl, trivial⟩ (by repeat (first | exact Sel.nil _ | refine Sel.cons (by repeat (first | exact Pick.head _ | apply Pick.tail)) ?_)))⟩
    by_cases e : j = 2 * x + 1
    · rw [if_pos e, if_pos (by omega), e, ← digit_high]
      exact Nat.mod_eq_of_lt (by have := limb_lt A x; rw [show (2 : Nat) ^ 32 = 4294967296 from rfl]; omega)
    · rw [if_neg e]
      by_cases e2 : j = 2 * x
      · rw [if_pos e2, if_pos (by omega), e2, and32, Nat.mod_mod, digit_low]
      · rw [if_neg e2]
        by_cases e3 : j < 2 * x
        · rw [if_pos e3, if_pos (by omega)]
        · rw [if_neg e3, if_neg (by omega)]
  ·
    refine LCode.exit ?_
    refine LCode.seq ?_
    obtain rfl : x = 9 := by omega
    refine LCode.sub (Sub.cells (b := b5) (cs' := vec .u32 18 (D.limb A)) (by repeat (first | exact SetAt.head _ | apply SetAt.tail)) (vec_congr fun j hj => if_pos (by omega))) ?_
    refine LCode.region ?_
    refine LOps.detP (Det.move rfl) (Nat.le_of_ble_eq_true rfl) ?_
    refine LOps.step rfl (LStep.w (LStep.callF (first := []) rfl en_120 rfl (Nat.le_of_ble_eq_true rfl) (fun w hw => c_trim A b5 18 18 18 _ true w (hw _ (by repeat (first | exact List.Mem.head _ | apply List.Mem.tail))) (Nat.le_refl _) (Nat.le_refl _) (by decide) (lt_w9_dig hA 18 rfl)) ?_))
    refine LOps.detP (Det.assign rfl) (Nat.le_of_ble_eq_true rfl) ?_
    refine LOps.nil ?_
    refine LCode.ret ?_
    refine ⟨[_], .cons rfl .nil, fun a w' hr => hr.num (by repeat (first | exact List.Mem.head _ | apply List.Mem.tail)) (lt_w9_dig hA 18 rfl)⟩

theorem c_n_digit (q : NV) (A n i : Nat) (w : World) (hq : (numI q A n).holds w) : Calls Try.prog 118 ([slV q n, .int .i64 ((i : Nat) : Int)] : List Value).toArray w (fun e w' => e = .returned (.int .u64 ((D.limb A i : Nat) : Int)) ∧ Below w.heap.size w w') := by
  have hA := numI_lt hq
  refine calls_ro (N := 14) (rs := [.tmp 4]) [numI q A n] Try.func118 rfl Try.ntmps118 Try.results118 (Nat.le_of_ble_eq_true rfl) ⟨hq, trivial⟩ rfl ?_
  show LCode _ _ _ ⟨_, _⟩ _
  refine LCode.seq ?_
  refine LCode.region ?_
  refine LOps.detP (Det.assign (v := .int .u64 ((0 : Nat) : Int)) rfl) (Nat.le_of_ble_eq_true rfl) ?_
  refine LOps.nil ?_
  refine LCode.seq ?_
  refine LCode.seq ?_
  refine LCode.region ?_
  refine LOps.detP (Det.move rfl) (Nat.le_of_ble_eq_true rfl) ?_
  refine LOps.detP (Det.move rfl) (Nat.le_of_ble_eq_true rfl) ?_
  refine LOps.detP (Det.len Try.underlying29 rfl) (Nat.le_of_ble_eq_true rfl) ?_
  refine LOps.detP (Det.bin rfl rfl (br_lss)) (Nat.le_of_ble_eq_true rfl) ?_
  refine LOps.nil ?_
  first | refine LCode.condD rfl (fun h8 => ?_) (fun h8 => ?_) | refine LCode.cond rfl (fun h8 => ?_) (fun h8 => ?_)
  ·
    have h8 : i < n := h8
    refine LCode.seq ?_
    refine LCode.region ?_
    refine LOps.detP (Det.move rfl) (Nat.le_of_ble_eq_true rfl) ?_
    refine LOps.detP (Det.move rfl) (Nat.le_of_ble_eq_true rfl) ?_
    refine LOps.detP (Det.indexN Try.underlying29 sz_56 rfl rfl (by omega)) (Nat.le_of_ble_eq_true rfl) ?_
    refine LOps.det (Det.loadN Try.underlying56 rfl rfl (by repeat (first | exact List.Mem.head _ | apply List.Mem.tail)) (by omega)) (Nat.le_of_ble_eq_true rfl) ?_
    refine LOps.detP (Det.conv64 Try.underlying56 Try.underlying22 rfl (by first | omega | exact Nat.lt_trans (D.limb_lt _ _) (by decide))) (Nat.le_of_ble_eq_true rfl) ?_
    refine LOps.detP (Det.assign rfl) (Nat.le_of_ble_eq_true rfl) ?_
    refine LOps.nil ?_
    refine LCode.ret ?_
    refine ⟨[_], .cons rfl .nil, fun a w' hr => ⟨rfl, hr.fr.below⟩⟩
  ·
    have h8 : ¬ i < n := h8
    refine LCode.skip ?_
    refine LCode.seq ?_
    refine LCode.region ?_
    refine LOps.detP (Det.assign (v := .int .u64 ((0 : Nat) : Int)) rfl) (Nat.le_of_ble_eq_true rfl) ?_
    refine LOps.nil ?_
    refine LCode.ret ?_
    have hz : D.limb A i = 0 := D.limb_high (n := n) hA (by omega)
    refine ⟨[_], .cons rfl .nil, fun a w' hr => ⟨?_, hr.fr.below⟩⟩
    rw [hz]; rfl

end Go.Proofs.Ytljblbgogjieaaa
