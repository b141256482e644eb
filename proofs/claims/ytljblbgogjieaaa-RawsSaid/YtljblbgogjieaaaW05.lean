/- Walks: what functions of the program come to, step by step. -/
import Derived.Test.YtljblbgogjieaaaW04
import Derived.Test.YtljblbgogjieaaaMath4
set_option linter.unusedVariables false
set_option linter.unusedSimpArgs false
set_option maxRecDepth 20000
namespace Go.Proofs.Ytljblbgogjieaaa
open Go Go.RowKit

theorem c_length (A b l c : Nat) (ty : TypeId) (wr : Bool) (w : World) (hb : (Item.blk b ⟨wr, vec .u64 c (limb A), ty, (0, 0)⟩).holds w) (hlc : l ≤ c) (hc : c < 9223372036854775808) (hA : A < 2 ^ (64 * l)) : Calls Try.prog 187 ([.slice (some ⟨b, 0, none⟩) l c] : List Value).toArray w (fun e w' => e = .returned (.int .i64 ((nw A : Nat) : Int)) ∧ Below w.heap.size w w') := by
  refine calls_ro (N := 19) (rs := [.tmp 2]) [.blk b ⟨false, vec .u64 c (limb A), ty, (0, 0)⟩] Try.func187 rfl Try.ntmps187 Try.results187 (Nat.le_of_ble_eq_true rfl) ⟨hb, trivial⟩ rfl ?_
  show LCode _ _ _ ⟨_, _⟩ _
  refine LCode.seq ?_
  refine LCode.region ?_
  refine LOps.detP (Det.assign (v := .int .i64 ((0 : Nat) : Int)) rfl) (Nat.le_of_ble_eq_true rfl) ?_
  refine LOps.nil ?_
  refine LCode.seq ?_
  refine LCode.region ?_
  refine LOps.detP (Det.move rfl) (Nat.le_of_ble_eq_true rfl) ?_
  refine LOps.detP (Det.len Try.underlying234 rfl) (Nat.le_of_ble_eq_true rfl) ?_
  refine LOps.detP (Det.assign rfl) (Nat.le_of_ble_eq_true rfl) ?_
  refine LOps.nil ?_
  refine LCode.seq ?_
  refine LCode.block ?_
  refine LCode.loop (α := Nat) (fun x => x ≤ l ∧ A < 2 ^ (64 * x)) (fun x => ⟨[(0, .slice (some ⟨b, 0, none⟩) l c), (3, .int .i64 ((x : Nat) : Int))], [.blk b ⟨false, vec .u64 c (limb A), ty, (0, 0)⟩]⟩) (fun x => x) (l) (⟨Nat.le_refl _, hA⟩) (Sub.mk ⟨rfl, rfl, trivial⟩ (by repeat (first | exact Sel.nil _ | refine Sel.cons (by repeat (first | exact Pick.head _ | apply Pick.tail)) ?_))) ?_
  rintro x ⟨hx, hlt⟩
  refine LCode.seq ?_
  refine LCode.seq ?_
  by_cases h0 : 0 < x
  ·
    refine LCode.region ?_
    refine LOps.detP (Det.move rfl) (Nat.le_of_ble_eq_true rfl) ?_
    refine LOps.detP (Det.bin rfl rfl (br_t (br_gtr (b := 0)) h0)) (Nat.le_of_ble_eq_true rfl) ?_
    refine LOps.detP (Det.move rfl) (Nat.le_of_ble_eq_true rfl) ?_
    refine LOps.detGP rfl rfl (Det.move rfl) (Nat.le_of_ble_eq_true rfl) ?_
    refine LOps.detGP rfl rfl (Det.move rfl) (Nat.le_of_ble_eq_true rfl) ?_
    refine LOps.detGP rfl rfl (Det.bin rfl rfl (br_sub (b := 1) (by omega) (by omega))) (Nat.le_of_ble_eq_true rfl) ?_
    refine LOps.detGP rfl rfl (Det.indexS0 Try.underlying234 sz_22 rfl rfl (by omega)) (Nat.le_of_ble_eq_true rfl) ?_
    refine LOps.detG rfl rfl (Det.load rfl (by repeat (first | exact List.Mem.head _ | apply List.Mem.tail)) (LoadV.one Try.underlying22 rfl (by exact vec_get _ _ _ (show x - 1 < c by omega)))) (Nat.le_of_ble_eq_true rfl) ?_
    refine LOps.detGP rfl rfl (Det.bin rfl rfl (br_eql (b := 0))) (Nat.le_of_ble_eq_true rfl) ?_
    refine LOps.detP (Det.pick_true rfl rfl) (Nat.le_of_ble_eq_true rfl) ?_
    refine LOps.nil ?_
    first | refine LCode.condD rfl (fun h15 => ?_) (fun h15 => ?_) | refine LCode.cond rfl (fun h15 => ?_) (fun h15 => ?_)
    ·
      have h15 : limb A (x - 1) = 0 := by have := h15; simpa using this
      refine LCode.skip ?_
      refine LCode.block ?_
      refine LCode.region ?_
      refine LOps.detP (Det.move rfl) (Nat.le_of_ble_eq_true rfl) ?_
      refine LOps.detP (Det.bin rfl rfl (br_sub (b := 1) (by omega) (by omega))) (Nat.le_of_ble_eq_true rfl) ?_
      refine LOps.detP (Det.assign rfl) (Nat.le_of_ble_eq_true rfl) ?_
      refine LOps.nil ?_
      refine ⟨x - 1, ⟨by omega, ?_⟩, by omega, Sub.mk ⟨rfl, rfl, trivial⟩ (by repeat (first | exact Sel.nil _ | refine Sel.cons (by repeat (first | exact Pick.head _ | apply Pick.tail)) ?_))⟩
      exact lt_of_limb_zero (A := A) (n := x - 1) (by rw [show x - 1 + 1 = x by omega]; exact hlt) h15
    ·
      have h15 : ¬ limb A (x - 1) = 0 := by have := h15; simpa using this
      refine LCode.exit ?_
      refine LCode.seq ?_
      refine LCode.region ?_
      refine LOps.detP (Det.move rfl) (Nat.le_of_ble_eq_true rfl) ?_
      refine LOps.detP (Det.assign rfl) (Nat.le_of_ble_eq_true rfl) ?_
      refine LOps.nil ?_
      refine LCode.ret ?_
      have he : nw A = x := nw_eq hlt (.inr (le_of_limb (A := A) (n := x - 1) (by rw [show x - 1 + 1 = x by omega]; exact hlt) h15))
      refine ⟨[_], .cons rfl .nil, fun a w' hr => ⟨?_, hr.fr.below⟩⟩
      rw [he]; rfl
  ·
    refine LCode.region ?_
    refine LOps.detP (Det.move rfl) (Nat.le_of_ble_eq_true rfl) ?_
    refine LOps.detP (Det.bin rfl rfl (br_f (br_gtr (b := 0)) h0)) (Nat.le_of_ble_eq_true rfl) ?_
    refine LOps.detP (Det.move rfl) (Nat.le_of_ble_eq_true rfl) ?_
    refine LOps.skip rfl rfl rfl (Nat.le_of_ble_eq_true rfl) ?_
    refine LOps.skip rfl rfl rfl (Nat.le_of_ble_eq_true rfl) ?_
    refine LOps.skip rfl rfl rfl (Nat.le_of_ble_eq_true rfl) ?_
    refine LOps.skip rfl rfl rfl (Nat.le_of_ble_eq_true rfl) ?_
    refine LOps.skip rfl rfl rfl (Nat.le_of_ble_eq_true rfl) ?_
    refine LOps.skip rfl rfl rfl (Nat.le_of_ble_eq_true rfl) ?_
    refine LOps.detP (Det.pick_false rfl rfl) (Nat.le_of_ble_eq_true rfl) ?_
    refine LOps.nil ?_
    refine LCode.cond_false rfl ?_
    refine LCode.exit ?_
    refine LCode.seq ?_
    refine LCode.region ?_
    refine LOps.detP (Det.move rfl) (Nat.le_of_ble_eq_true rfl) ?_
    refine LOps.detP (Det.assign rfl) (Nat.le_of_ble_eq_true rfl) ?_
    refine LOps.nil ?_
    refine LCode.ret ?_
    have he : nw A = x := nw_eq hlt (.inl (by omega))
    refine ⟨[_], .cons rfl .nil, fun a w' hr => ⟨?_, hr.fr.below⟩⟩
    rw [he]; rfl

/-- A divisor's cells. -/
def dvL (m : Nat) : List Value := dv (limb (dnm m)) (nw m) (dsh m)
theorem Brings.blk1 {w w' : World} {H : List Item} {b : Nat} {B : Blk} (hb : Below w.heap.size w w') (hn : w.heap.size ≤ b) (hh : (Item.blk b B).holds w') : Brings w H [.blk b B] w' :=
  ⟨hb, fun x hx => by simp at hx; subst hx; exact hh, fun x hx k hk => by simp at hx; subst hx; simp [Item.fp] at hk; subst hk; exact .inl hn,
    fun x hx _ k hk => by simp at hx; subst hx; simp [Item.fp] at hk; subst hk; exact hn, List.pairwise_singleton _ _⟩
theorem of_word {m x : Nat} (h0 : 0 < dsh m) (hm : m ≠ 0) (hx : 0 < x) : (limb m x * 2 ^ dsh m % 18446744073709551616 ||| limb m (x - 1) / 2 ^ (64 - dsh m)) = limb (dnm m) x := by
  unfold dnm
  rw [limb_shl m (dsh m) x (dsh_lt hm) h0, if_neg (by omega), or_low (limb_lt _ _) h0 (dsh_lt hm)]
theorem of_word0 {m x : Nat} (hm : m ≠ 0) (h : x = 0 ∨ dsh m = 0) : limb m x * 2 ^ dsh m % 18446744073709551616 = limb (dnm m) x := by
  rcases Nat.eq_zero_or_pos (dsh m) with h0 | h0
  · unfold dnm
    rw [h0, Nat.pow_zero, Nat.mul_one, Nat.mul_one, Nat.mod_eq_of_lt (limb_lt _ _)]
  · unfold dnm
    rw [limb_shl m (dsh m) x (dsh_lt hm) h0, if_pos (by omega), Nat.add_zero]
theorem lz_top {m : Nat} (hm : m ≠ 0) : 64 - blen (limb m (nw m - 1)) = dsh m := by
  have h := bits_words (A := m) (by have := nw_pos hm; omega)
  have := blen_le (n := 64) (limb_lt m (nw m - 1))
  have := nw_pos hm
  unfold dsh; omega

theorem c_of (m bm : Nat) (wr : Bool) (hm0 : m ≠ 0) (w : World) (hb : (Item.blk bm ⟨wr, natL m, 25, (0, 0)⟩).holds w) (hm : m < W9) : Calls Try.prog 183 ([.pointer (some ⟨bm, 0, none⟩)] : List Value).toArray w (fun e w' => ∃ b, e = .returned (.pointer (some ⟨b, 0, none⟩)) ∧ w.heap.size ≤ b ∧ (Item.blk b ⟨false, dvL m, 241, (0, 0)⟩).holds w' ∧ Below w.heap.size w w') := by
  refine calls_ro (N := 86) (rs := [.tmp 2]) [.blk bm ⟨false, natL m, 25, (0, 0)⟩] Try.func183 rfl Try.ntmps183 Try.results183 (Nat.le_of_ble_eq_true rfl) ⟨hb, trivial⟩ rfl ?_
  show LCode _ _ _ ⟨_, _⟩ _
  refine LCode.seq ?_
  refine LCode.region ?_
  refine LOps.detP (Det.assign rfl) (Nat.le_of_ble_eq_true rfl) ?_
  refine LOps.nil ?_
  refine LCode.seq ?_
  refine LCode.regionD [] (by kernel_rfl) ?_
  refine LAny.takeP 0 rfl (by kernel_rfl) (Nat.le_of_ble_eq_true rfl) (Det.move rfl) ?_
  refine LAny.takeP 1 rfl (by kernel_rfl) (Nat.le_of_ble_eq_true rfl) (Det.nilCheck rfl) ?_
  refine LAny.takeP 2 rfl (by kernel_rfl) (Nat.le_of_ble_eq_true rfl) (Det.fieldA (o' := 0) Try.underlying25 rfl rfl rfl sz_23 (by decide)) ?_
  refine LAny.take 3 rfl (by kernel_rfl) (Nat.le_of_ble_eq_true rfl) (Det.load rfl (by repeat (first | exact List.Mem.head _ | apply List.Mem.tail)) (by exact LoadV.whole Try.underlying23 rfl sz_23)) ?_
  refine LAny.takeP 4 rfl (by kernel_rfl) (Nat.le_of_ble_eq_true rfl) (Det.move rfl) ?_
  refine LAny.takeP 5 rfl (by kernel_rfl) (Nat.le_of_ble_eq_true rfl) (Det.nilCheck rfl) ?_
  refine LAny.takeP 6 rfl (by kernel_rfl) (Nat.le_of_ble_eq_true rfl) (Det.fieldA (o' := 0) Try.underlying25 rfl rfl rfl sz_23 (by decide)) ?_
  refine LAny.takeP 7 rfl (by kernel_rfl) (Nat.le_of_ble_eq_true rfl) (Det.slArr Try.underlying23 sz_22 rfl) ?_
  refine LAny.one 8 rfl rfl (by kernel_rfl) (LStep.callF (first := []) rfl en_187 rfl (Nat.le_of_ble_eq_true rfl) (fun w hw => c_length m bm 9 9 _ false w (hw _ (by repeat (first | exact List.Mem.head _ | apply List.Mem.tail))) (Nat.le_refl _) (by decide) (lt_w9_pow hm 9 rfl)) ?_)
  refine LAny.takeP 9 rfl (by kernel_rfl) (Nat.le_of_ble_eq_true rfl) (Det.build pl_241 zr_241 rfl (show fillL _ _ _ = some (dv (limb m) (nw m) 0) from (fillL_step (A := []) (B := vec .u64 9 (fun _ => 0)) (D := [.int .i64 ((0 : Nat) : Int), .int .i64 ((0 : Nat) : Int)]) (cs := natL m) rfl rfl (natL_length _) rfl rfl (vec_length _ _ _) ((fillL_step (A := natL m) (B := [.int .i64 ((0 : Nat) : Int)]) (D := [.int .i64 ((0 : Nat) : Int)]) (cs := [.int .i64 ((nw m : Nat) : Int)]) rfl rfl rfl rfl (natL_length _) rfl rfl).trans rfl)))) ?_
  refine LAny.one 10 rfl rfl (by kernel_rfl) (LStep.makes (Makes.boxA rfl) (Nat.le_of_ble_eq_true rfl) (fun b15 => ?_))
  refine LAny.takeP 11 rfl (by kernel_rfl) (Nat.le_of_ble_eq_true rfl) (Det.assign rfl) ?_
  refine LAny.done (by kernel_rfl) ?_
  refine LCode.seq ?_
  have hn0 := nw_pos hm0
  have hn9 := nw_w9 hm
  have hs64 := dsh_lt hm0
  refine LCode.regionD [14] (by kernel_rfl) ?_
  refine LAny.takeP 0 rfl (by kernel_rfl) (Nat.le_of_ble_eq_true rfl) (Det.move rfl) ?_
  refine LAny.takeP 1 rfl (by kernel_rfl) (Nat.le_of_ble_eq_true rfl) (Det.move rfl) ?_
  refine LAny.takeP 2 rfl (by kernel_rfl) (Nat.le_of_ble_eq_true rfl) (Det.move rfl) ?_
  refine LAny.takeP 3 rfl (by kernel_rfl) (Nat.le_of_ble_eq_true rfl) (Det.nilCheck rfl) ?_
  refine LAny.takeP 4 rfl (by kernel_rfl) (Nat.le_of_ble_eq_true rfl) (Det.fieldA (o' := 9) Try.underlying241 rfl rfl rfl sz_3 (by decide)) ?_
  refine LAny.take 5 rfl (by kernel_rfl) (Nat.le_of_ble_eq_true rfl) (Det.load rfl (by repeat (first | exact List.Mem.head _ | apply List.Mem.tail)) (LoadV.one Try.underlying3 rfl (by first | rfl | exact vec_get _ _ _ (by omega) | exact natL_get _ (by omega) | exact wideL_get _ (by omega) | exact dv_m _ _ _ (by omega)))) ?_
  refine LAny.takeP 6 rfl (by kernel_rfl) (Nat.le_of_ble_eq_true rfl) (Det.bin rfl rfl (br_sub (b := 1) (by omega) (by omega))) ?_
  refine LAny.takeP 7 rfl (by kernel_rfl) (Nat.le_of_ble_eq_true rfl) (Det.nilCheck rfl) ?_
  refine LAny.takeP 8 rfl (by kernel_rfl) (Nat.le_of_ble_eq_true rfl) (Det.fieldA (o' := 0) Try.underlying241 rfl rfl rfl sz_23 (by decide)) ?_
  refine LAny.takeP 9 rfl (by kernel_rfl) (Nat.le_of_ble_eq_true rfl) (Det.indexA0 Try.underlying23 sz_22 rfl rfl (by omega)) ?_
  refine LAny.take 10 rfl (by kernel_rfl) (Nat.le_of_ble_eq_true rfl) (Det.load rfl (by repeat (first | exact List.Mem.head _ | apply List.Mem.tail)) (LoadV.one Try.underlying22 rfl (by exact dv_m _ _ _ (show nw m - 1 < 9 by omega)))) ?_
  refine LAny.one 11 rfl rfl (by kernel_rfl) (LStep.callF (first := []) rfl en_192 rfl (Nat.le_of_ble_eq_true rfl) (fun w hw => c_LeadingZeros64 _ (limb_lt _ _) w) ?_)
  refine LAny.takeP 12 rfl (by kernel_rfl) (Nat.le_of_ble_eq_true rfl) (Det.nilCheck rfl) ?_
  refine LAny.takeP 13 rfl (by kernel_rfl) (Nat.le_of_ble_eq_true rfl) (Det.fieldA (o' := 10) Try.underlying241 rfl rfl rfl sz_3 (by decide)) ?_
  refine LAny.late 14 rfl rfl (by kernel_rfl) (by kernel_rfl) (LStepW.store1 rfl rfl rfl sz_3 (by repeat (first | exact SetAt.head _ | apply SetAt.tail)) (by simp only [dv_length]; omega) (show (dv (limb m) (nw m) 0).set 10 _ = dv (limb m) (nw m) (dsh m) by rw [← lz_top hm0]; exact dv_sets _ _ _ _) (by simp) ?_)
  refine LAny.done (by kernel_rfl) ?_
  refine LCode.seq ?_
  refine LCode.seq ?_
  refine LCode.region ?_
  refine LOps.detP (Det.move rfl) (Nat.le_of_ble_eq_true rfl) ?_
  refine LOps.detP (Det.nilCheck rfl) (Nat.le_of_ble_eq_true rfl) ?_
  refine LOps.detP (Det.fieldA (o' := 9) Try.underlying241 rfl rfl rfl sz_3 (by decide)) (Nat.le_of_ble_eq_true rfl) ?_
  refine LOps.det (Det.load rfl (by repeat (first | exact List.Mem.head _ | apply List.Mem.tail)) (LoadV.one Try.underlying3 rfl (by first | rfl | exact vec_get _ _ _ (by omega) | exact natL_get _ (by omega) | exact wideL_get _ (by omega) | exact dv_m _ _ _ (by omega)))) (Nat.le_of_ble_eq_true rfl) ?_
  refine LOps.detP (Det.bin rfl rfl (br_sub (b := 1) (by omega) (by omega))) (Nat.le_of_ble_eq_true rfl) ?_
  refine LOps.detP (Det.assign rfl) (Nat.le_of_ble_eq_true rfl) ?_
  refine LOps.nil ?_
  refine LCode.block ?_
  refine LCode.loop (α := Nat) (fun x => x ≤ nw m) (fun x => ⟨[(3, .pointer (some ⟨b15, 0, none⟩)), (4, .int .i64 ((x : Int) - 1))], [.blk b15 ⟨true, dv (fun j => if x ≤ j then limb (dnm m) j else limb m j) (nw m) (dsh m), 241, (0, 0)⟩]⟩) (fun x => x) (nw m) (Nat.le_refl _) (Sub.re (Sub.cells (b := b15) (cs' := dv (fun j => if nw m ≤ j then limb (dnm m) j else limb m j) (nw m) (dsh m)) (by repeat (first | exact SetAt.head _ | apply SetAt.tail)) (dv_congr fun j _ => by
    by_cases e : nw m ≤ j
    · rw [if_pos e, limb_high (lt_nw m) e, limb_high (dnm_lt m) e]
    · rw [if_neg e])) (Sub.mk ⟨rfl, congrArg (fun i : Int => some (Value.int .i64 i)) (by omega), trivial⟩ (by repeat (first | exact Sel.nil _ | refine Sel.cons (by repeat (first | exact Pick.head _ | apply Pick.tail)) ?_)))) ?_
  intro x hx
  refine LCode.seq ?_
  refine LCode.seq ?_
  rcases Nat.eq_zero_or_pos x with h0 | h0
  ·
    refine LCode.region ?_
    refine LOps.detP (Det.move rfl) (Nat.le_of_ble_eq_true rfl) ?_
    refine LOps.detP (Det.bin (v := .bool false) rfl rfl (by subst h0; rfl)) (Nat.le_of_ble_eq_true rfl) ?_
    refine LOps.nil ?_
    refine LCode.cond_false rfl ?_
    refine LCode.exit ?_
    refine LCode.seq ?_
    refine LCode.region ?_
    refine LOps.detP (Det.move rfl) (Nat.le_of_ble_eq_true rfl) ?_
    refine LOps.detP (Det.assign rfl) (Nat.le_of_ble_eq_true rfl) ?_
    refine LOps.nil ?_
    refine LCode.ret ?_
    have e0 : (dv (fun j => if 0 ≤ j then limb (dnm m) j else limb m j) (nw m) (dsh m)) = dvL m := dv_congr fun j _ => if_pos (Nat.zero_le _)
    refine ⟨[_], .cons rfl .nil, fun a w' hr => ⟨b15, rfl, hr.new (by repeat (first | exact List.Mem.head _ | apply List.Mem.tail)) rfl, ?_, hr.fr.below⟩⟩
    have := hr.hp _ (by repeat (first | exact List.Mem.head _ | apply List.Mem.tail))
    rw [← e0]
    subst h0
    exact this
  ·
    obtain ⟨y, rfl⟩ : ∃ y, x = y + 1 := ⟨x - 1, by omega⟩
    refine LCode.region ?_
    refine LOps.detP (Det.move rfl) (Nat.le_of_ble_eq_true rfl) ?_
    refine LOps.detP (Det.bin (v := .bool true) rfl rfl (by simp [binRes])) (Nat.le_of_ble_eq_true rfl) ?_
    refine LOps.nil ?_
    refine LCode.cond_true rfl ?_
    refine LCode.skip ?_
    refine LCode.seq ?_
    refine LCode.block ?_
    refine LCode.seq ?_
    refine LCode.regionD [14] (by kernel_rfl) ?_
    refine LAny.takeP 0 rfl (by kernel_rfl) (Nat.le_of_ble_eq_true rfl) (Det.move rfl) ?_
    refine LAny.takeP 1 rfl (by kernel_rfl) (Nat.le_of_ble_eq_true rfl) (Det.move (v := .int .i64 ((y : Nat) : Int)) (by show some _ = some _; congr 2; omega)) ?_
    refine LAny.takeP 2 rfl (by kernel_rfl) (Nat.le_of_ble_eq_true rfl) (Det.nilCheck rfl) ?_
    refine LAny.takeP 3 rfl (by kernel_rfl) (Nat.le_of_ble_eq_true rfl) (Det.fieldA (o' := 0) Try.underlying241 rfl rfl rfl sz_23 (by decide)) ?_
    refine LAny.takeP 4 rfl (by kernel_rfl) (Nat.le_of_ble_eq_true rfl) (Det.indexA0 Try.underlying23 sz_22 rfl rfl (by omega)) ?_
    refine LAny.take 5 rfl (by kernel_rfl) (Nat.le_of_ble_eq_true rfl) (Det.load rfl (by repeat (first | exact List.Mem.head _ | apply List.Mem.tail)) (LoadV.one Try.underlying22 rfl (by exact (dv_m _ _ _ (show y < 9 by omega)).trans (congrArg some (vi (b := limb m y) (if_neg (by omega))))))) ?_
    refine LAny.takeP 6 rfl (by kernel_rfl) (Nat.le_of_ble_eq_true rfl) (Det.move rfl) ?_
    refine LAny.takeP 7 rfl (by kernel_rfl) (Nat.le_of_ble_eq_true rfl) (Det.nilCheck rfl) ?_
    refine LAny.takeP 8 rfl (by kernel_rfl) (Nat.le_of_ble_eq_true rfl) (Det.fieldA (o' := 10) Try.underlying241 rfl rfl rfl sz_3 (by decide)) ?_
    refine LAny.take 9 rfl (by kernel_rfl) (Nat.le_of_ble_eq_true rfl) (Det.load rfl (by repeat (first | exact List.Mem.head _ | apply List.Mem.tail)) (LoadV.one Try.underlying3 rfl (by first | rfl | exact vec_get _ _ _ (by omega) | exact natL_get _ (by omega) | exact wideL_get _ (by omega) | exact dv_m _ _ _ (by omega)))) ?_
    refine LAny.takeP 10 rfl (by kernel_rfl) (Nat.le_of_ble_eq_true rfl) (Det.bin rfl rfl (br_shl64)) ?_
    refine LAny.takeP 11 rfl (by kernel_rfl) (Nat.le_of_ble_eq_true rfl) (Det.nilCheck rfl) ?_
    refine LAny.takeP 12 rfl (by kernel_rfl) (Nat.le_of_ble_eq_true rfl) (Det.fieldA (o' := 0) Try.underlying241 rfl rfl rfl sz_23 (by decide)) ?_
    refine LAny.takeP 13 rfl (by kernel_rfl) (Nat.le_of_ble_eq_true rfl) (Det.indexA0 Try.underlying23 sz_22 rfl rfl (by omega)) ?_
    refine LAny.late 14 rfl rfl (by kernel_rfl) (by kernel_rfl) (LStepW.store1 rfl rfl rfl sz_22 (by repeat (first | exact SetAt.head _ | apply SetAt.tail)) (by first | (simp only [vec_length, natL_length, wideL_length, dv_length]; omega) | (simp; omega)) (by first | exact vec_set _ _ _ _ _ | exact dv_setm _ _ _ _ (by omega) | exact dv_sets _ _ _ _ | rfl) (by simp) ?_)
    refine LAny.done (by kernel_rfl) ?_
    refine LCode.seq ?_
    rcases Nat.eq_zero_or_pos y with hy0 | hy0
    rotate_left
    rcases Nat.eq_zero_or_pos (dsh m) with hs0 | hs0
    ·
      refine LCode.region ?_
      refine LOps.detP (Det.move (v := .int .i64 ((y : Nat) : Int)) (by show some _ = some _; congr 2; omega)) (Nat.le_of_ble_eq_true rfl) ?_
      refine LOps.detP (Det.bin rfl rfl (br_t (br_gtr (b := 0)) hy0)) (Nat.le_of_ble_eq_true rfl) ?_
      refine LOps.detP (Det.move rfl) (Nat.le_of_ble_eq_true rfl) ?_
      refine LOps.detGP rfl rfl (Det.move rfl) (Nat.le_of_ble_eq_true rfl) ?_
      refine LOps.detGP rfl rfl (Det.nilCheck rfl) (Nat.le_of_ble_eq_true rfl) ?_
      refine LOps.detGP rfl rfl (Det.fieldA (o' := 10) Try.underlying241 rfl rfl rfl sz_3 (by decide)) (Nat.le_of_ble_eq_true rfl) ?_
      refine LOps.detG rfl rfl (Det.load rfl (by repeat (first | exact List.Mem.head _ | apply List.Mem.tail)) (LoadV.one Try.underlying3 rfl (by first | rfl | exact vec_get _ _ _ (by omega) | exact natL_get _ (by omega) | exact wideL_get _ (by omega) | exact dv_m _ _ _ (by omega)))) (Nat.le_of_ble_eq_true rfl) ?_
      refine LOps.detGP rfl rfl (Det.bin rfl rfl (br_f (br_gtr (b := 0)) (by omega))) (Nat.le_of_ble_eq_true rfl) ?_
      refine LOps.detP (Det.pick_true rfl rfl) (Nat.le_of_ble_eq_true rfl) ?_
      refine LOps.nil ?_
      refine LCode.cond_false rfl ?_
      refine LCode.skip ?_
      refine LCode.region ?_
      refine LOps.detP (Det.move (v := .int .i64 ((y : Nat) : Int)) (by show some _ = some _; congr 2; omega)) (Nat.le_of_ble_eq_true rfl) ?_
      refine LOps.detP (Det.bin rfl rfl rfl) (Nat.le_of_ble_eq_true rfl) ?_
      refine LOps.detP (Det.assign rfl) (Nat.le_of_ble_eq_true rfl) ?_
      refine LOps.nil ?_
      refine ⟨y, by omega, by omega, Sub.re (Sub.cells (b := b15) (cs' := dv (fun j => if y ≤ j then limb (dnm m) j else limb m j) (nw m) (dsh m)) (by repeat (first | exact SetAt.head _ | apply SetAt.tail)) (dv_congr fun j hj => ?_)) (Sub.mk ⟨rfl, ?_, trivial⟩ (by repeat (first | exact Sel.nil _ | refine Sel.cons (by repeat (first | exact Pick.head _ | apply Pick.tail)) ?_)))⟩
      · by_cases e : j = y
        · subst e
          rw [if_pos rfl, if_pos (Nat.le_refl _)]
          exact of_word0 hm0 (.inr hs0)
        · simp only [e, if_false]
          by_cases e2 : y + 1 ≤ j
          · rw [if_pos e2, if_pos (by omega)]
          · rw [if_neg e2, if_neg (by omega)]
      · exact congrArg (fun i : Int => some (Value.int .i64 i)) (wrap_i64 (by omega) (by omega))
    ·
      refine LCode.region ?_
      refine LOps.detP (Det.move (v := .int .i64 ((y : Nat) : Int)) (by show some _ = some _; congr 2; omega)) (Nat.le_of_ble_eq_true rfl) ?_
      refine LOps.detP (Det.bin rfl rfl (br_t (br_gtr (b := 0)) hy0)) (Nat.le_of_ble_eq_true rfl) ?_
      refine LOps.detP (Det.move rfl) (Nat.le_of_ble_eq_true rfl) ?_
      refine LOps.detGP rfl rfl (Det.move rfl) (Nat.le_of_ble_eq_true rfl) ?_
      refine LOps.detGP rfl rfl (Det.nilCheck rfl) (Nat.le_of_ble_eq_true rfl) ?_
      refine LOps.detGP rfl rfl (Det.fieldA (o' := 10) Try.underlying241 rfl rfl rfl sz_3 (by decide)) (Nat.le_of_ble_eq_true rfl) ?_
      refine LOps.detG rfl rfl (Det.load rfl (by repeat (first | exact List.Mem.head _ | apply List.Mem.tail)) (LoadV.one Try.underlying3 rfl (by first | rfl | exact vec_get _ _ _ (by omega) | exact natL_get _ (by omega) | exact wideL_get _ (by omega) | exact dv_m _ _ _ (by omega)))) (Nat.le_of_ble_eq_true rfl) ?_
      refine LOps.detGP rfl rfl (Det.bin rfl rfl (br_t (br_gtr (b := 0)) hs0)) (Nat.le_of_ble_eq_true rfl) ?_
      refine LOps.detP (Det.pick_true rfl rfl) (Nat.le_of_ble_eq_true rfl) ?_
      refine LOps.nil ?_
      refine LCode.cond_true rfl ?_
      refine LCode.regionD [23] (by kernel_rfl) ?_
      refine LAny.takeP 0 rfl (by kernel_rfl) (Nat.le_of_ble_eq_true rfl) (Det.move rfl) ?_
      refine LAny.takeP 1 rfl (by kernel_rfl) (Nat.le_of_ble_eq_true rfl) (Det.move (v := .int .i64 ((y : Nat) : Int)) (by show some _ = some _; congr 2; omega)) ?_
      refine LAny.takeP 2 rfl (by kernel_rfl) (Nat.le_of_ble_eq_true rfl) (Det.nilCheck rfl) ?_
      refine LAny.takeP 3 rfl (by kernel_rfl) (Nat.le_of_ble_eq_true rfl) (Det.fieldA (o' := 0) Try.underlying241 rfl rfl rfl sz_23 (by decide)) ?_
      refine LAny.takeP 4 rfl (by kernel_rfl) (Nat.le_of_ble_eq_true rfl) (Det.indexA0 Try.underlying23 sz_22 rfl rfl (by omega)) ?_
      refine LAny.take 5 rfl (by kernel_rfl) (Nat.le_of_ble_eq_true rfl) (Det.load rfl (by repeat (first | exact List.Mem.head _ | apply List.Mem.tail)) (LoadV.one Try.underlying22 rfl (by exact (dv_m _ _ _ (show y < 9 by omega)).trans (congrArg some (vi (b := limb m y * 2 ^ dsh m % 18446744073709551616) (if_pos rfl)))))) ?_
      refine LAny.takeP 6 rfl (by kernel_rfl) (Nat.le_of_ble_eq_true rfl) (Det.move rfl) ?_
      refine LAny.takeP 7 rfl (by kernel_rfl) (Nat.le_of_ble_eq_true rfl) (Det.move (v := .int .i64 ((y : Nat) : Int)) (by show some _ = some _; congr 2; omega)) ?_
      refine LAny.takeP 8 rfl (by kernel_rfl) (Nat.le_of_ble_eq_true rfl) (Det.bin rfl rfl (br_sub (b := 1) (by omega) (by omega))) ?_
      refine LAny.takeP 9 rfl (by kernel_rfl) (Nat.le_of_ble_eq_true rfl) (Det.nilCheck rfl) ?_
      refine LAny.takeP 10 rfl (by kernel_rfl) (Nat.le_of_ble_eq_true rfl) (Det.fieldA (o' := 0) Try.underlying241 rfl rfl rfl sz_23 (by decide)) ?_
      refine LAny.takeP 11 rfl (by kernel_rfl) (Nat.le_of_ble_eq_true rfl) (Det.indexA0 Try.underlying23 sz_22 rfl rfl (by omega)) ?_
      refine LAny.take 12 rfl (by kernel_rfl) (Nat.le_of_ble_eq_true rfl) (Det.load rfl (by repeat (first | exact List.Mem.head _ | apply List.Mem.tail)) (LoadV.one Try.underlying22 rfl (by exact (dv_m _ _ _ (show y - 1 < 9 by omega)).trans (congrArg some (vi (b := limb m (y - 1)) (by rw [if_neg (by omega), if_neg (by omega)])))))) ?_
      refine LAny.takeP 13 rfl (by kernel_rfl) (Nat.le_of_ble_eq_true rfl) (Det.move rfl) ?_
      refine LAny.takeP 14 rfl (by kernel_rfl) (Nat.le_of_ble_eq_true rfl) (Det.nilCheck rfl) ?_
      refine LAny.takeP 15 rfl (by kernel_rfl) (Nat.le_of_ble_eq_true rfl) (Det.fieldA (o' := 10) Try.underlying241 rfl rfl rfl sz_3 (by decide)) ?_
      refine LAny.take 16 rfl (by kernel_rfl) (Nat.le_of_ble_eq_true rfl) (Det.load rfl (by repeat (first | exact List.Mem.head _ | apply List.Mem.tail)) (LoadV.one Try.underlying3 rfl (by first | rfl | exact vec_get _ _ _ (by omega) | exact natL_get _ (by omega) | exact wideL_get _ (by omega) | exact dv_m _ _ _ (by omega)))) ?_
      refine LAny.takeP 17 rfl (by kernel_rfl) (Nat.le_of_ble_eq_true rfl) (Det.bin rfl rfl (br_sub (a := 64) (by omega) (by omega))) ?_
      refine LAny.takeP 18 rfl (by kernel_rfl) (Nat.le_of_ble_eq_true rfl) (Det.bin rfl rfl (br_shr64 (limb_lt _ _))) ?_
      refine LAny.takeP 19 rfl (by kernel_rfl) (Nat.le_of_ble_eq_true rfl) (Det.bin rfl rfl (br_or64 (Nat.mod_lt _ (by decide)) (Nat.lt_of_le_of_lt (Nat.div_le_self _ _) (limb_lt _ _)))) ?_
      refine LAny.takeP 20 rfl (by kernel_rfl) (Nat.le_of_ble_eq_true rfl) (Det.nilCheck rfl) ?_
      refine LAny.takeP 21 rfl (by kernel_rfl) (Nat.le_of_ble_eq_true rfl) (Det.fieldA (o' := 0) Try.underlying241 rfl rfl rfl sz_23 (by decide)) ?_
      refine LAny.takeP 22 rfl (by kernel_rfl) (Nat.le_of_ble_eq_true rfl) (Det.indexA0 Try.underlying23 sz_22 rfl rfl (by omega)) ?_
      refine LAny.late 23 rfl rfl (by kernel_rfl) (by kernel_rfl) (LStepW.store1 rfl rfl rfl sz_22 (by repeat (first | exact SetAt.head _ | apply SetAt.tail)) (by first | (simp only [vec_length, natL_length, wideL_length, dv_length]; omega) | (simp; omega)) (by first | exact vec_set _ _ _ _ _ | exact dv_setm _ _ _ _ (by omega) | exact dv_sets _ _ _ _ | rfl) (by simp) ?_)
      refine LAny.done (by kernel_rfl) ?_
      refine LCode.region ?_
      refine LOps.detP (Det.move (v := .int .i64 ((y : Nat) : Int)) (by show some _ = some _; congr 2; omega)) (Nat.le_of_ble_eq_true rfl) ?_
      refine LOps.detP (Det.bin rfl rfl rfl) (Nat.le_of_ble_eq_true rfl) ?_
      refine LOps.detP (Det.assign rfl) (Nat.le_of_ble_eq_true rfl) ?_
      refine LOps.nil ?_
      refine ⟨y, by omega, by omega, Sub.re (Sub.cells (b := b15) (cs' := dv (fun j => if y ≤ j then limb (dnm m) j else limb m j) (nw m) (dsh m)) (by repeat (first | exact SetAt.head _ | apply SetAt.tail)) (dv_congr fun j hj => ?_)) (Sub.mk ⟨rfl, ?_, trivial⟩ (by repeat (first | exact Sel.nil _ | refine Sel.cons (by repeat (first | exact Pick.head _ | apply Pick.tail)) ?_)))⟩
      · by_cases e : j = y
        · subst e
          rw [if_pos rfl, if_pos (Nat.le_refl _)]
          exact of_word hs0 hm0 hy0
        · simp only [e, if_false]
          by_cases e2 : y + 1 ≤ j
          · rw [if_pos e2, if_pos (by omega)]
          · rw [if_neg e2, if_neg (by omega)]
      · exact congrArg (fun i : Int => some (Value.int .i64 i)) (wrap_i64 (by omega) (by omega))
    ·
      refine LCode.region ?_
      refine LOps.detP (Det.move (v := .int .i64 ((y : Nat) : Int)) (by show some _ = some _; congr 2; omega)) (Nat.le_of_ble_eq_true rfl) ?_
      refine LOps.detP (Det.bin rfl rfl (br_f (br_gtr (b := 0)) (by omega))) (Nat.le_of_ble_eq_true rfl) ?_
      refine LOps.detP (Det.move rfl) (Nat.le_of_ble_eq_true rfl) ?_
      refine LOps.skip rfl rfl rfl (Nat.le_of_ble_eq_true rfl) ?_
      refine LOps.skip rfl rfl rfl (Nat.le_of_ble_eq_true rfl) ?_
      refine LOps.skip rfl rfl rfl (Nat.le_of_ble_eq_true rfl) ?_
      refine LOps.skip rfl rfl rfl (Nat.le_of_ble_eq_true rfl) ?_
      refine LOps.skip rfl rfl rfl (Nat.le_of_ble_eq_true rfl) ?_
      refine LOps.detP (Det.pick_false rfl rfl) (Nat.le_of_ble_eq_true rfl) ?_
      refine LOps.nil ?_
      refine LCode.cond_false rfl ?_
      refine LCode.skip ?_
      refine LCode.region ?_
      refine LOps.detP (Det.move (v := .int .i64 ((y : Nat) : Int)) (by show some _ = some _; congr 2; omega)) (Nat.le_of_ble_eq_true rfl) ?_
      refine LOps.detP (Det.bin rfl rfl rfl) (Nat.le_of_ble_eq_true rfl) ?_
      refine LOps.detP (Det.assign rfl) (Nat.le_of_ble_eq_true rfl) ?_
      refine LOps.nil ?_
      refine ⟨y, by omega, by omega, Sub.re (Sub.cells (b := b15) (cs' := dv (fun j => if y ≤ j then limb (dnm m) j else limb m j) (nw m) (dsh m)) (by repeat (first | exact SetAt.head _ | apply SetAt.tail)) (dv_congr fun j hj => ?_)) (Sub.mk ⟨rfl, ?_, trivial⟩ (by repeat (first | exact Sel.nil _ | refine Sel.cons (by repeat (first | exact Pick.head _ | apply Pick.tail)) ?_)))⟩
      · by_cases e : j = y
        · subst e
          rw [if_pos rfl, if_pos (Nat.le_refl _)]
          exact of_word0 hm0 (.inl hy0)
        · simp only [e, if_false]
          by_cases e2 : y + 1 ≤ j
          · rw [if_pos e2, if_pos (by omega)]
          · rw [if_neg e2, if_neg (by omega)]
      · exact congrArg (fun i : Int => some (Value.int .i64 i)) (wrap_i64 (by omega) (by omega))

end Go.Proofs.Ytljblbgogjieaaa
