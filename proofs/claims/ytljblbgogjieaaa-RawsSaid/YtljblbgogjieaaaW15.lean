/- Walks: what functions of the program come to, step by step. -/
import Derived.Test.YtljblbgogjieaaaW14
import Derived.Test.YtljblbgogjieaaaCurves
set_option linter.unusedVariables false
set_option linter.unusedSimpArgs false
set_option maxRecDepth 20000
namespace Go.Proofs.Ytljblbgogjieaaa
open Go Go.RowKit

/-- A hexadecimal digit; a row of them. -/
def hexD (b : Nat) : Nat := if 97 ≤ b then b - 87 else b - 48
def hexOK (l : List UInt8) : Bool := l.all fun b => (Nat.ble 48 b.toNat && Nat.ble b.toNat 57) || (Nat.ble 97 b.toNat && Nat.ble b.toNat 102)
def hexVal : List UInt8 → Nat
  | [] => 0
  | b :: l => hexD b.toNat * 16 ^ l.length + hexVal l
theorem hexOK_get {l : List UInt8} (h : hexOK l = true) {x : Nat} (hx : x < l.length) : (48 ≤ (l.getD x 0).toNat ∧ (l.getD x 0).toNat ≤ 57) ∨ (97 ≤ (l.getD x 0).toNat ∧ (l.getD x 0).toNat ≤ 102) := by
  have e : l.getD x 0 = l[x] := by rw [List.getD_eq_getElem?_getD, List.getElem?_eq_getElem hx]; rfl
  have h1 := List.all_eq_true.1 h l[x] (List.getElem_mem hx)
  rw [e]
  simp only [Bool.or_eq_true, Bool.and_eq_true, Nat.ble_eq] at h1
  exact h1
theorem hexD_lt {l : List UInt8} (h : hexOK l = true) {x : Nat} (hx : x < l.length) : hexD (l.getD x 0).toNat < 2 ^ 4 := by
  have := hexOK_get h hx
  unfold hexD
  split <;> omega
theorem hexVal_lt : ∀ {l : List UInt8}, hexOK l = true → hexVal l < 16 ^ l.length
  | [], _ => by simp [hexVal]
  | b :: l, h => by
    have h1 := hexD_lt (l := b :: l) h (x := 0) (by simp)
    have h2 : hexOK l = true := by
      simp only [hexOK, List.all_cons, Bool.and_eq_true] at h
      exact h.2
    have h3 := hexVal_lt h2
    simp only [List.getD_cons_zero] at h1
    have h4 := Nat.mul_le_mul_right (16 ^ l.length) (show hexD b.toNat + 1 ≤ 16 from h1)
    simp only [hexVal, List.length_cons, Nat.pow_succ]
    rw [Nat.add_mul] at h4
    omega
theorem hexVal_append : ∀ l m : List UInt8, hexVal (l ++ m) = hexVal l * 16 ^ m.length + hexVal m
  | [], m => by simp [hexVal]
  | b :: l, m => by simp only [List.cons_append, hexVal, hexVal_append l m, List.length_append, Nat.pow_add, Nat.add_mul, Nat.mul_assoc]; omega
theorem hexOK_take {l : List UInt8} (h : hexOK l = true) (x : Nat) : hexOK (l.take x) = true := by
  simp only [hexOK, List.all_eq_true] at h ⊢
  exact fun b hb => h b (List.mem_of_mem_take hb)
theorem hexOK_drop {l : List UInt8} (h : hexOK l = true) (x : Nat) : hexOK (l.drop x) = true := by
  simp only [hexOK, List.all_eq_true] at h ⊢
  exact fun b hb => h b (List.mem_of_mem_drop hb)
theorem pow16 (i : Nat) : 16 ^ i = 2 ^ (4 * i) := by rw [Nat.pow_mul]
/-- The highest x digits, as far up as they stand. -/
def hexTop (l : List UInt8) (x : Nat) : Nat := hexVal (l.take x) * 16 ^ (l.length - x)
theorem hexTop_zero (l : List UInt8) : hexTop l 0 = 0 := by simp [hexTop, hexVal]
theorem hexTop_all (l : List UInt8) : hexTop l l.length = hexVal l := by simp [hexTop]
theorem hexTop_succ {l : List UInt8} {x : Nat} (h : x < l.length) : hexTop l (x + 1) = hexTop l x + hexD (l.getD x 0).toNat * 2 ^ (4 * (8 * ((l.length - 1 - x) / 8) + (l.length - 1 - x) % 8)) ∧ hexTop l x % 2 ^ (4 * (8 * ((l.length - 1 - x) / 8) + (l.length - 1 - x) % 8 + 1)) = 0 := by
  rw [show 8 * ((l.length - 1 - x) / 8) + (l.length - 1 - x) % 8 = l.length - 1 - x by omega, ← pow16, ← pow16, show l.length - 1 - x + 1 = l.length - x by omega]
  unfold hexTop
  refine ⟨?_, Nat.mul_mod_left _ _⟩
  have e : l.getD x 0 = l[x] := by rw [List.getD_eq_getElem?_getD, List.getElem?_eq_getElem h]; rfl
  rw [List.take_succ_eq_append_getElem h, hexVal_append, e, show l.length - (x + 1) = l.length - 1 - x by omega, Nat.add_mul, Nat.mul_assoc]
  simp only [List.length_singleton, hexVal, List.length_nil, Nat.pow_zero, Nat.mul_one, Nat.add_zero, Nat.pow_one]
  congr 2
  rw [Nat.mul_comm 16, ← Nat.pow_succ, show (l.length - 1 - x).succ = l.length - x by omega]
theorem hexTop_lt {l : List UInt8} (hok : hexOK l = true) (x : Nat) (h : x ≤ l.length) : hexTop l x < 2 ^ (32 * (l.length / 8 + 1)) := by
  have h1 := hexVal_lt (hexOK_take hok x)
  rw [List.length_take, Nat.min_eq_left h] at h1
  have h2 : hexTop l x < 16 ^ x * 16 ^ (l.length - x) := Nat.mul_lt_mul_of_pos_right h1 (Nat.pow_pos (by decide))
  rw [← Nat.pow_add, show x + (l.length - x) = l.length by omega, pow16] at h2
  exact Nat.lt_of_lt_of_le h2 (Nat.pow_le_pow_right (by decide) (by omega))

theorem br_sub8 {a b : Nat} (h : b ≤ a) (ha : a < 256) : binRes .sub .u8 a .u8 b = some (.int .u8 ((a - b : Nat) : Int)) := by
  simp only [binRes, if_true, wrap_u8]
  congr 2
  omega
theorem br_add32 {a b : Nat} (h : a + b < 4294967296) : binRes .add .u32 a .u32 b = some (.int .u32 ((a + b : Nat) : Int)) := by
  simp only [binRes, if_true, wrap_u32]
  congr 2
  omega

theorem c_r_digit (b : Nat) (w : World) (h48 : 48 ≤ b) (hb : b < 256) : Calls Try.prog 144 ([.int .u8 ((b : Nat) : Int)] : List Value).toArray w (fun e w' => e = .returned (.int .u32 ((hexD b : Nat) : Int)) ∧ Below w.heap.size w w') := by
  refine calls_ro (N := 12) (rs := [.tmp 2]) [] Try.func144 rfl Try.ntmps144 Try.results144 (Nat.le_of_ble_eq_true rfl) trivial rfl ?_
  show LCode _ _ _ ⟨_, _⟩ _
  refine LCode.seq ?_
  refine LCode.region ?_
  refine LOps.detP (Det.assign (v := .int .u32 ((0 : Nat) : Int)) rfl) (Nat.le_of_ble_eq_true rfl) ?_
  refine LOps.nil ?_
  refine LCode.seq ?_
  refine LCode.seq ?_
  refine LCode.region ?_
  refine LOps.detP (Det.move rfl) (Nat.le_of_ble_eq_true rfl) ?_
  refine LOps.detP (Det.bin rfl rfl (br_geq (b := 97))) (Nat.le_of_ble_eq_true rfl) ?_
  refine LOps.nil ?_
  first | refine LCode.condD rfl (fun h4 => ?_) (fun h4 => ?_) | refine LCode.cond rfl (fun h4 => ?_) (fun h4 => ?_)
  ·
    have h4 : 97 ≤ b := by have := h4; omega
    refine LCode.seq ?_
    refine LCode.region ?_
    refine LOps.detP (Det.move rfl) (Nat.le_of_ble_eq_true rfl) ?_
    refine LOps.detP (Det.bin (v := .int .u8 ((b - 97 : Nat) : Int)) rfl rfl (br_sub8 (a := b) (b := 97) h4 hb)) (Nat.le_of_ble_eq_true rfl) ?_
    refine LOps.detP (Det.conv32 Try.underlying5 Try.underlying56 rfl) (Nat.le_of_ble_eq_true rfl) ?_
    refine LOps.detP (Det.bin (v := .int .u32 (((b - 97) % 4294967296 + 10 : Nat) : Int)) rfl rfl (br_add32 (a := (b - 97) % 4294967296) (b := 10) (by omega))) (Nat.le_of_ble_eq_true rfl) ?_
    refine LOps.detP (Det.assign rfl) (Nat.le_of_ble_eq_true rfl) ?_
    refine LOps.nil ?_
    refine LCode.ret ?_
    refine ⟨[_], .cons rfl .nil, fun a w' hr => ⟨?_, hr.fr.below⟩⟩
    unfold hexD
    rw [if_pos h4, Nat.mod_eq_of_lt (by omega), show b - 97 + 10 = b - 87 by omega]
    rfl
  ·
    have h4 : ¬ 97 ≤ b := by have := h4; omega
    refine LCode.skip ?_
    refine LCode.seq ?_
    refine LCode.region ?_
    refine LOps.detP (Det.move rfl) (Nat.le_of_ble_eq_true rfl) ?_
    refine LOps.detP (Det.bin (v := .int .u8 ((b - 48 : Nat) : Int)) rfl rfl (br_sub8 (a := b) (b := 48) h48 hb)) (Nat.le_of_ble_eq_true rfl) ?_
    refine LOps.detP (Det.conv32 Try.underlying5 Try.underlying56 rfl) (Nat.le_of_ble_eq_true rfl) ?_
    refine LOps.detP (Det.assign rfl) (Nat.le_of_ble_eq_true rfl) ?_
    refine LOps.nil ?_
    refine LCode.ret ?_
    refine ⟨[_], .cons rfl .nil, fun a w' hr => ⟨?_, hr.fr.below⟩⟩
    unfold hexD
    rw [if_neg h4, Nat.mod_eq_of_lt (by omega)]
    rfl

theorem c_r_Hex (s : ByteArray) (w : World) (hok : hexOK s.data.toList = true) (hs : s.size ≤ 100000) : Calls Try.prog 111 ([.string s] : List Value).toArray w (fun e w' => NumR w ([]) (hexVal s.data.toList) (fun v => v) e w') := by
  have hbv : hexVal s.data.toList < 2 ^ (32 * (s.size / 8 + 1)) := by have := hexTop_lt hok s.data.toList.length (Nat.le_refl _); rwa [hexTop_all] at this
  refine calls_ro (N := 42) (rs := [.tmp 2]) [] Try.func111 rfl Try.ntmps111 Try.results111 (Nat.le_of_ble_eq_true rfl) trivial rfl ?_
  show LCode _ _ _ ⟨_, _⟩ _
  refine LCode.seq ?_
  refine LCode.region ?_
  refine LOps.detP (Det.assign rfl) (Nat.le_of_ble_eq_true rfl) ?_
  refine LOps.nil ?_
  refine LCode.seq ?_
  refine LCode.region ?_
  refine LOps.detP (Det.move rfl) (Nat.le_of_ble_eq_true rfl) ?_
  refine LOps.detP (Det.lens Try.underlying9 rfl) (Nat.le_of_ble_eq_true rfl) ?_
  refine LOps.detP (Det.bin rfl rfl (br_quo (b := 8) (by omega) (by omega))) (Nat.le_of_ble_eq_true rfl) ?_
  refine LOps.detP (Det.bin rfl rfl (br_add (b := 1) (by omega))) (Nat.le_of_ble_eq_true rfl) ?_
  refine LOps.step rfl (LStep.w (LStep.makes (Makes.mkV Try.underlying29 inf_56 rfl rfl (by omega) (by omega)) (Nat.le_of_ble_eq_true rfl) (fun b10 => ?_)))
  refine LOps.detP (Det.assign rfl) (Nat.le_of_ble_eq_true rfl) ?_
  refine LOps.nil ?_
  refine LCode.seq ?_
  refine LCode.seq ?_
  refine LCode.region ?_
  refine LOps.detP (Det.assign (v := .int .i64 ((0 : Nat) : Int)) rfl) (Nat.le_of_ble_eq_true rfl) ?_
  refine LOps.nil ?_
  refine LCode.block ?_
  refine LCode.loop (α := Nat) (fun x => x ≤ s.size) (fun x => ⟨[(0, .string s), (3, .slice (some ⟨b10, 0, none⟩) (s.size / 8 + 1) (s.size / 8 + 1)), (4, .int .i64 ((x : Nat) : Int))], [.blk b10 ⟨true, vec .u32 (s.size / 8 + 1) (D.limb (hexTop s.data.toList (x))), 56, (0, 0)⟩]⟩) (fun x => s.size - x) (0) (Nat.zero_le _) (Sub.re (Sub.cells (b := b10) (cs' := vec .u32 (s.size / 8 + 1) (D.limb (hexTop s.data.toList (0)))) (by repeat (first | exact SetAt.head _ | apply SetAt.tail)) (vec_congr fun j hj => by rw [hexTop_zero, D.limb_zero])) (Sub.mk ⟨rfl, rfl, rfl, trivial⟩ (by repeat (first | exact Sel.nil _ | refine Sel.cons (by repeat (first | exact Pick.head _ | apply Pick.tail)) ?_)))) ?_
  intro x hx
  refine LCode.seq ?_
  refine LCode.seq ?_
  refine LCode.region ?_
  refine LOps.detP (Det.move rfl) (Nat.le_of_ble_eq_true rfl) ?_
  refine LOps.detP (Det.move rfl) (Nat.le_of_ble_eq_true rfl) ?_
  refine LOps.detP (Det.lens Try.underlying9 rfl) (Nat.le_of_ble_eq_true rfl) ?_
  refine LOps.detP (Det.bin rfl rfl (br_lss)) (Nat.le_of_ble_eq_true rfl) ?_
  refine LOps.nil ?_
  first | refine LCode.condD rfl (fun h14 => ?_) (fun h14 => ?_) | refine LCode.cond rfl (fun h14 => ?_) (fun h14 => ?_)
  ·
    have h14 : x < s.size := h14
    refine LCode.skip ?_
    refine LCode.seq ?_
    refine LCode.block ?_
    refine LCode.seq ?_
    refine LCode.region ?_
    refine LOps.detP (Det.move rfl) (Nat.le_of_ble_eq_true rfl) ?_
    refine LOps.detP (Det.lens Try.underlying9 rfl) (Nat.le_of_ble_eq_true rfl) ?_
    refine LOps.detP (Det.bin rfl rfl (br_sub (b := 1) (by omega) (by omega))) (Nat.le_of_ble_eq_true rfl) ?_
    refine LOps.detP (Det.move rfl) (Nat.le_of_ble_eq_true rfl) ?_
    refine LOps.detP (Det.bin rfl rfl (br_sub (by omega) (by omega))) (Nat.le_of_ble_eq_true rfl) ?_
    refine LOps.detP (Det.assign rfl) (Nat.le_of_ble_eq_true rfl) ?_
    refine LOps.nil ?_
    have hdg := hexOK_get hok (x := x) (by show x < s.size; exact h14)
    have hy := hexD_lt hok (x := x) (by show x < s.size; exact h14)
    have hsl : s.data.toList.length = s.size := rfl
    have hbt := hexTop_succ (l := s.data.toList) (x := x) (by rw [hsl]; exact h14)
    rw [hsl] at hbt
    have hlb := D.limb_below (V := hexTop s.data.toList (x)) (y := hexD (s.data.toList.getD x 0).toNat) (s := 4) (w := 8) (i := (s.size - 1 - x) / 8) (k := (s.size - 1 - x) % 8) rfl (Nat.mod_lt _ (by decide)) hbt.2 hy
    refine LCode.regionD [18] (by kernel_rfl) ?_
    refine LAny.takeP 0 rfl (by kernel_rfl) (Nat.le_of_ble_eq_true rfl) (Det.move rfl) ?_
    refine LAny.takeP 1 rfl (by kernel_rfl) (Nat.le_of_ble_eq_true rfl) (Det.move rfl) ?_
    refine LAny.takeP 2 rfl (by kernel_rfl) (Nat.le_of_ble_eq_true rfl) (Det.bin rfl rfl (br_quo (b := 8) (by omega) (by omega))) ?_
    refine LAny.takeP 3 rfl (by kernel_rfl) (Nat.le_of_ble_eq_true rfl) (Det.move rfl) ?_
    refine LAny.takeP 4 rfl (by kernel_rfl) (Nat.le_of_ble_eq_true rfl) (Det.move rfl) ?_
    refine LAny.takeP 5 rfl (by kernel_rfl) (Nat.le_of_ble_eq_true rfl) (Det.bin rfl rfl (br_quo (b := 8) (by omega) (by omega))) ?_
    refine LAny.takeP 6 rfl (by kernel_rfl) (Nat.le_of_ble_eq_true rfl) (Det.indexS0 Try.underlying29 sz_56 rfl rfl (by omega)) ?_
    refine LAny.take 7 rfl (by kernel_rfl) (Nat.le_of_ble_eq_true rfl) (Det.load rfl (by repeat (first | exact List.Mem.head _ | apply List.Mem.tail)) (LoadV.one Try.underlying56 rfl (by exact vec_get _ _ _ (show (s.size - 1 - x) / 8 < s.size / 8 + 1 by omega)))) ?_
    refine LAny.takeP 8 rfl (by kernel_rfl) (Nat.le_of_ble_eq_true rfl) (Det.move rfl) ?_
    refine LAny.takeP 9 rfl (by kernel_rfl) (Nat.le_of_ble_eq_true rfl) (Det.move rfl) ?_
    refine LAny.takeP 10 rfl (by kernel_rfl) (Nat.le_of_ble_eq_true rfl) (Slots.cast (Det.indexStr Try.underlying9 rfl rfl (by omega) (by omega)) (vi (b := (s.data.toList.getD x 0).toNat) (by rw [Int.toNat_natCast]))) ?_
    refine LAny.takeP 12 rfl (by kernel_rfl) (Nat.le_of_ble_eq_true rfl) (Det.move rfl) ?_
    refine LAny.takeP 13 rfl (by kernel_rfl) (Nat.le_of_ble_eq_true rfl) (Det.bin rfl rfl (br_rem (b := 8) (by omega))) ?_
    refine LAny.takeP 14 rfl (by kernel_rfl) (Nat.le_of_ble_eq_true rfl) (Det.bin rfl rfl (br_mul (b := 4) (by omega))) ?_
    refine LAny.one 11 rfl rfl (by kernel_rfl) (LStep.callF (first := []) rfl en_144 rfl (Nat.le_of_ble_eq_true rfl) (fun w hw => c_r_digit _ w (by omega) (by omega)) ?_)
    refine LAny.takeP 15 rfl (by kernel_rfl) (Nat.le_of_ble_eq_true rfl) (Det.bin rfl rfl (br_shl32)) ?_
    refine LAny.takeP 16 rfl (by kernel_rfl) (Nat.le_of_ble_eq_true rfl) (Det.bin rfl rfl (br_or32 (D.limb_lt _ _) (Nat.mod_lt _ (by decide)))) ?_
    refine LAny.takeP 17 rfl (by kernel_rfl) (Nat.le_of_ble_eq_true rfl) (Det.indexS0 Try.underlying29 sz_56 rfl rfl (by omega)) ?_
    refine LAny.late 18 rfl rfl (by kernel_rfl) (by kernel_rfl) (LStepW.store1 rfl rfl rfl sz_56 (by repeat (first | exact SetAt.head _ | apply SetAt.tail)) (by first | (simp only [vec_length, natL_length, wideL_length, dv_length]; omega) | (simp; omega)) (by first | exact vec_set _ _ _ _ _ | exact dv_setm _ _ _ _ (by omega) | exact dv_sets _ _ _ _ | rfl) (by simp) ?_)
    refine LAny.done (by kernel_rfl) ?_
    refine LCode.region ?_
    refine LOps.detP (Det.move rfl) (Nat.le_of_ble_eq_true rfl) ?_
    refine LOps.detP (Det.bin rfl rfl (br_add (b := 1) (by omega))) (Nat.le_of_ble_eq_true rfl) ?_
    refine LOps.detP (Det.assign rfl) (Nat.le_of_ble_eq_true rfl) ?_
    refine LOps.nil ?_
    refine ⟨x + 1, by omega, by omega, Sub.re (Sub.cells (b := b10) (cs' := vec .u32 (s.size / 8 + 1) (D.limb (hexTop s.data.toList (x + 1)))) (by repeat (first | exact SetAt.head _ | apply SetAt.tail)) (vec_congr fun j hj => ?_)) (Sub.mk ⟨rfl, rfl, rfl, trivial⟩ (by repeat (first | exact Sel.nil _ | refine Sel.cons (by repeat (first | exact Pick.head _ | apply Pick.tail)) ?_)))⟩
    rw [hbt.1, hlb.2 j, show (s.size - 1 - x) % 8 * 4 = 4 * ((s.size - 1 - x) % 8) by omega]
  ·
    have h14 : ¬ x < s.size := h14
    refine LCode.exit ?_
    refine LCode.seq ?_
    obtain rfl : x = s.size := by omega
    refine LCode.sub (Sub.cells (b := b10) (cs' := vec .u32 (s.size / 8 + 1) (D.limb (hexVal s.data.toList))) (by repeat (first | exact SetAt.head _ | apply SetAt.tail)) (by rw [show s.size = s.data.toList.length from rfl, hexTop_all])) ?_
    refine LCode.region ?_
    refine LOps.detP (Det.move rfl) (Nat.le_of_ble_eq_true rfl) ?_
    refine LOps.step rfl (LStep.w (LStep.callZ (first := []) rfl en_145 rfl (Nat.le_of_ble_eq_true rfl) (fun w hw hs => (c_n_Shr ⟨false, b10, s.size / 8 + 1⟩ (hexVal s.data.toList) (s.size / 8 + 1) 0 w (numI_blk0 (hw _ (by repeat (first | exact List.Mem.head _ | apply List.Mem.tail))) (Nat.le_refl _) hbv) (by omega) (by decide)).mono fun e w' h => NumR.q (Old.nil _) hs h) ?_))
    rintro _ _ ⟨q41, rfl, rfl, hn41⟩
    refine LOps.detP (Det.assign rfl) (Nat.le_of_ble_eq_true rfl) ?_
    refine LOps.nil ?_
    refine LCode.ret ?_
    refine ⟨[_], .cons rfl .nil, fun a w' hr => ?_⟩
    rw [Nat.pow_zero, Nat.div_one] at hn41 hr ⊢
    exact hr.numQ (by repeat (first | exact List.Mem.head _ | apply List.Mem.tail)) hn41

def cvI (id : Int) : Option Cv := if 0 ≤ id then cvOf id.toNat else none
theorem cvI_nat (k : Nat) : cvI (k : Int) = cvOf k := by unfold cvI; rw [if_pos (Int.natCast_nonneg k), Int.toNat_natCast]
theorem cvI_none {id : Int} (h1 : ¬ id = 1) (h2 : ¬ id = 2) (h3 : ¬ id = 3) (h4 : ¬ id = 4) (h5 : ¬ id = 5) (h6 : ¬ id = 6) (h7 : ¬ id = 7) (h8 : ¬ id = 8) (h9 : ¬ id = 9) (h10 : ¬ id = 10) (h11 : ¬ id = 11) (h12 : ¬ id = 12) (h13 : ¬ id = 13) (h14 : ¬ id = 14) (h15 : ¬ id = 15) : cvI id = none := by
  unfold cvI
  split
  · exact cvOf_none (by omega)
  · rfl
/-- The text of a number. -/
def hexB (s : ByteArray) (n : Nat) : Bool := hexOK s.data.toList && Nat.beq (hexVal s.data.toList) n && Nat.ble s.data.toList.length 144
def dash : ByteArray := ⟨#[45]⟩
def rowB (V : Cv) (s0 s1 s2 s3 s4 s5 : ByteArray) : Bool := hexB s0 V.p && (if s1.data.toList = [45] then Nat.beq (V.a + 3) V.p else hexB s1 V.a) && hexB s2 V.b && hexB s3 V.n && hexB s4 V.x && hexB s5 V.y

theorem c_r_row (id : Int) (w : World)  : Calls Try.prog 110 ([.int .i64 id] : List Value).toArray w (fun e w' => (∃ V, cvI id = some V ∧ ∃ b s0 s1 s2 s3 s4 s5, e = .returned (.slice (some ⟨b, 0, none⟩) 6 6) ∧ (Item.blk b ⟨false, [.string s0, .string s1, .string s2, .string s3, .string s4, .string s5], 9, (0, 0)⟩).holds w' ∧ w.heap.size ≤ b ∧ rowB V s0 s1 s2 s3 s4 s5 = true ∧ Below w.heap.size w w') ∨ (cvI id = none ∧ e = .returned (.slice none 0 0) ∧ Below w.heap.size w w')) := by
  refine calls_ro (N := 49) (rs := [.tmp 2]) [] Try.func110 rfl Try.ntmps110 Try.results110 (Nat.le_of_ble_eq_true rfl) trivial rfl ?_
  show LCode _ _ _ ⟨_, _⟩ _
  refine LCode.seq ?_
  refine LCode.region ?_
  refine LOps.detP (Det.assign rfl) (Nat.le_of_ble_eq_true rfl) ?_
  refine LOps.nil ?_
  refine LCode.seq ?_
  refine LCode.seq ?_
  refine LCode.region ?_
  refine LOps.detP (Det.move rfl) (Nat.le_of_ble_eq_true rfl) ?_
  refine LOps.nil ?_
  refine LCode.block ?_
  refine LCode.seq ?_
  refine LCode.region ?_
  refine LOps.detP (Det.bin (v := .bool (decide (id = 1))) rfl rfl br_eqI) (Nat.le_of_ble_eq_true rfl) ?_
  refine LOps.detP (Det.assign rfl) (Nat.le_of_ble_eq_true rfl) ?_
  refine LOps.nil ?_
  first | refine LCode.condD rfl (fun hk1 => ?_) (fun hk1 => ?_) | refine LCode.cond rfl (fun hk1 => ?_) (fun hk1 => ?_)
  ·
    refine LCode.seq ?_
    refine LCode.region ?_
    refine LOps.step rfl (LStep.w (LStep.makes (Makes.rowN Try.underlying139 inf_9 rfl rfl rfl rfl (by decide) rfl) (Nat.le_of_ble_eq_true rfl) (fun b6 => ?_)))
    refine LOps.detP (Det.assign rfl) (Nat.le_of_ble_eq_true rfl) ?_
    refine LOps.nil ?_
    refine LCode.ret ?_
    refine ⟨[_], .cons rfl .nil, fun a w' hr => .inl ⟨cv1, by rw [hk1]; rfl, b6, _, _, _, _, _, _, rfl, (show (Item.blk b6 ⟨true, _, _, _⟩).holds w' from hr.hp _ (by repeat (first | exact List.Mem.head _ | apply List.Mem.tail))), hr.new (B := ⟨true, _, _, _⟩) (by repeat (first | exact List.Mem.head _ | apply List.Mem.tail)) rfl, by kernel_rfl, hr.fr.below⟩⟩
  ·
    refine LCode.seq ?_
    refine LCode.region ?_
    refine LOps.detP (Det.bin (v := .bool (decide (id = 2))) rfl rfl br_eqI) (Nat.le_of_ble_eq_true rfl) ?_
    refine LOps.detP (Det.assign rfl) (Nat.le_of_ble_eq_true rfl) ?_
    refine LOps.nil ?_
    first | refine LCode.condD rfl (fun hk2 => ?_) (fun hk2 => ?_) | refine LCode.cond rfl (fun hk2 => ?_) (fun hk2 => ?_)
    ·
      refine LCode.seq ?_
      refine LCode.region ?_
      refine LOps.step rfl (LStep.w (LStep.makes (Makes.rowN Try.underlying139 inf_9 rfl rfl rfl rfl (by decide) rfl) (Nat.le_of_ble_eq_true rfl) (fun b9 => ?_)))
      refine LOps.detP (Det.assign rfl) (Nat.le_of_ble_eq_true rfl) ?_
      refine LOps.nil ?_
      refine LCode.ret ?_
      refine ⟨[_], .cons rfl .nil, fun a w' hr => .inl ⟨cv2, by rw [hk2]; rfl, b9, _, _, _, _, _, _, rfl, (show (Item.blk b9 ⟨true, _, _, _⟩).holds w' from hr.hp _ (by repeat (first | exact List.Mem.head _ | apply List.Mem.tail))), hr.new (B := ⟨true, _, _, _⟩) (by repeat (first | exact List.Mem.head _ | apply List.Mem.tail)) rfl, by kernel_rfl, hr.fr.below⟩⟩
    ·
      refine LCode.seq ?_
      refine LCode.region ?_
      refine LOps.detP (Det.bin (v := .bool (decide (id = 3))) rfl rfl br_eqI) (Nat.le_of_ble_eq_true rfl) ?_
      refine LOps.detP (Det.assign rfl) (Nat.le_of_ble_eq_true rfl) ?_
      refine LOps.nil ?_
      first | refine LCode.condD rfl (fun hk3 => ?_) (fun hk3 => ?_) | refine LCode.cond rfl (fun hk3 => ?_) (fun hk3 => ?_)
      ·
        refine LCode.seq ?_
        refine LCode.region ?_
        refine LOps.step rfl (LStep.w (LStep.makes (Makes.rowN Try.underlying139 inf_9 rfl rfl rfl rfl (by decide) rfl) (Nat.le_of_ble_eq_true rfl) (fun b12 => ?_)))
        refine LOps.detP (Det.assign rfl) (Nat.le_of_ble_eq_true rfl) ?_
        refine LOps.nil ?_
        refine LCode.ret ?_
        refine ⟨[_], .cons rfl .nil, fun a w' hr => .inl ⟨cv3, by rw [hk3]; rfl, b12, _, _, _, _, _, _, rfl, (show (Item.blk b12 ⟨true, _, _, _⟩).holds w' from hr.hp _ (by repeat (first | exact List.Mem.head _ | apply List.Mem.tail))), hr.new (B := ⟨true, _, _, _⟩) (by repeat (first | exact List.Mem.head _ | apply List.Mem.tail)) rfl, by kernel_rfl, hr.fr.below⟩⟩
      ·
        refine LCode.seq ?_
        refine LCode.region ?_
        refine LOps.detP (Det.bin (v := .bool (decide (id = 4))) rfl rfl br_eqI) (Nat.le_of_ble_eq_true rfl) ?_
        refine LOps.detP (Det.assign rfl) (Nat.le_of_ble_eq_true rfl) ?_
        refine LOps.nil ?_
        first | refine LCode.condD rfl (fun hk4 => ?_) (fun hk4 => ?_) | refine LCode.cond rfl (fun hk4 => ?_) (fun hk4 => ?_)
        ·
          refine LCode.seq ?_
          refine LCode.region ?_
          refine LOps.step rfl (LStep.w (LStep.makes (Makes.rowN Try.underlying139 inf_9 rfl rfl rfl rfl (by decide) rfl) (Nat.le_of_ble_eq_true rfl) (fun b15 => ?_)))
          refine LOps.detP (Det.assign rfl) (Nat.le_of_ble_eq_true rfl) ?_
          refine LOps.nil ?_
          refine LCode.ret ?_
          refine ⟨[_], .cons rfl .nil, fun a w' hr => .inl ⟨cv4, by rw [hk4]; rfl, b15, _, _, _, _, _, _, rfl, (show (Item.blk b15 ⟨true, _, _, _⟩).holds w' from hr.hp _ (by repeat (first | exact List.Mem.head _ | apply List.Mem.tail))), hr.new (B := ⟨true, _, _, _⟩) (by repeat (first | exact List.Mem.head _ | apply List.Mem.tail)) rfl, by kernel_rfl, hr.fr.below⟩⟩
        ·
          refine LCode.seq ?_
          refine LCode.region ?_
          refine LOps.detP (Det.bin (v := .bool (decide (id = 5))) rfl rfl br_eqI) (Nat.le_of_ble_eq_true rfl) ?_
          refine LOps.detP (Det.assign rfl) (Nat.le_of_ble_eq_true rfl) ?_
          refine LOps.nil ?_
          first | refine LCode.condD rfl (fun hk5 => ?_) (fun hk5 => ?_) | refine LCode.cond rfl (fun hk5 => ?_) (fun hk5 => ?_)
          ·
            refine LCode.seq ?_
            refine LCode.region ?_
            refine LOps.step rfl (LStep.w (LStep.makes (Makes.rowN Try.underlying139 inf_9 rfl rfl rfl rfl (by decide) rfl) (Nat.le_of_ble_eq_true rfl) (fun b18 => ?_)))
            refine LOps.detP (Det.assign rfl) (Nat.le_of_ble_eq_true rfl) ?_
            refine LOps.nil ?_
            refine LCode.ret ?_
            refine ⟨[_], .cons rfl .nil, fun a w' hr => .inl ⟨cv5, by rw [hk5]; rfl, b18, _, _, _, _, _, _, rfl, (show (Item.blk b18 ⟨true, _, _, _⟩).holds w' from hr.hp _ (by repeat (first | exact List.Mem.head _ | apply List.Mem.tail))), hr.new (B := ⟨true, _, _, _⟩) (by repeat (first | exact List.Mem.head _ | apply List.Mem.tail)) rfl, by kernel_rfl, hr.fr.below⟩⟩
          ·
            refine LCode.seq ?_
            refine LCode.region ?_
            refine LOps.detP (Det.bin (v := .bool (decide (id = 6))) rfl rfl br_eqI) (Nat.le_of_ble_eq_true rfl) ?_
            refine LOps.detP (Det.assign rfl) (Nat.le_of_ble_eq_true rfl) ?_
            refine LOps.nil ?_
            first | refine LCode.condD rfl (fun hk6 => ?_) (fun hk6 => ?_) | refine LCode.cond rfl (fun hk6 => ?_) (fun hk6 => ?_)
            ·
              refine LCode.seq ?_
              refine LCode.region ?_
              refine LOps.step rfl (LStep.w (LStep.makes (Makes.rowN Try.underlying139 inf_9 rfl rfl rfl rfl (by decide) rfl) (Nat.le_of_ble_eq_true rfl) (fun b21 => ?_)))
              refine LOps.detP (Det.assign rfl) (Nat.le_of_ble_eq_true rfl) ?_
              refine LOps.nil ?_
              refine LCode.ret ?_
              refine ⟨[_], .cons rfl .nil, fun a w' hr => .inl ⟨cv6, by rw [hk6]; rfl, b21, _, _, _, _, _, _, rfl, (show (Item.blk b21 ⟨true, _, _, _⟩).holds w' from hr.hp _ (by repeat (first | exact List.Mem.head _ | apply List.Mem.tail))), hr.new (B := ⟨true, _, _, _⟩) (by repeat (first | exact List.Mem.head _ | apply List.Mem.tail)) rfl, by kernel_rfl, hr.fr.below⟩⟩
            ·
              refine LCode.seq ?_
              refine LCode.region ?_
              refine LOps.detP (Det.bin (v := .bool (decide (id = 7))) rfl rfl br_eqI) (Nat.le_of_ble_eq_true rfl) ?_
              refine LOps.detP (Det.assign rfl) (Nat.le_of_ble_eq_true rfl) ?_
              refine LOps.nil ?_
              first | refine LCode.condD rfl (fun hk7 => ?_) (fun hk7 => ?_) | refine LCode.cond rfl (fun hk7 => ?_) (fun hk7 => ?_)
              ·
                refine LCode.seq ?_
                refine LCode.region ?_
                refine LOps.step rfl (LStep.w (LStep.makes (Makes.rowN Try.underlying139 inf_9 rfl rfl rfl rfl (by decide) rfl) (Nat.le_of_ble_eq_true rfl) (fun b24 => ?_)))
                refine LOps.detP (Det.assign rfl) (Nat.le_of_ble_eq_true rfl) ?_
                refine LOps.nil ?_
                refine LCode.ret ?_
                refine ⟨[_], .cons rfl .nil, fun a w' hr => .inl ⟨cv7, by rw [hk7]; rfl, b24, _, _, _, _, _, _, rfl, (show (Item.blk b24 ⟨true, _, _, _⟩).holds w' from hr.hp _ (by repeat (first | exact List.Mem.head _ | apply List.Mem.tail))), hr.new (B := ⟨true, _, _, _⟩) (by repeat (first | exact List.Mem.head _ | apply List.Mem.tail)) rfl, by kernel_rfl, hr.fr.below⟩⟩
              ·
                refine LCode.seq ?_
                refine LCode.region ?_
                refine LOps.detP (Det.bin (v := .bool (decide (id = 8))) rfl rfl br_eqI) (Nat.le_of_ble_eq_true rfl) ?_
                refine LOps.detP (Det.assign rfl) (Nat.le_of_ble_eq_true rfl) ?_
                refine LOps.nil ?_
                first | refine LCode.condD rfl (fun hk8 => ?_) (fun hk8 => ?_) | refine LCode.cond rfl (fun hk8 => ?_) (fun hk8 => ?_)
                ·
                  refine LCode.seq ?_
                  refine LCode.region ?_
                  refine LOps.step rfl (LStep.w (LStep.makes (Makes.rowN Try.underlying139 inf_9 rfl rfl rfl rfl (by decide) rfl) (Nat.le_of_ble_eq_true rfl) (fun b27 => ?_)))
                  refine LOps.detP (Det.assign rfl) (Nat.le_of_ble_eq_true rfl) ?_
                  refine LOps.nil ?_
                  refine LCode.ret ?_
                  refine ⟨[_], .cons rfl .nil, fun a w' hr => .inl ⟨cv8, by rw [hk8]; rfl, b27, _, _, _, _, _, _, rfl, (show (Item.blk b27 ⟨true, _, _, _⟩).holds w' from hr.hp _ (by repeat (first | exact List.Mem.head _ | apply List.Mem.tail))), hr.new (B := ⟨true, _, _, _⟩) (by repeat (first | exact List.Mem.head _ | apply List.Mem.tail)) rfl, by kernel_rfl, hr.fr.below⟩⟩
                ·
                  refine LCode.seq ?_
                  refine LCode.region ?_
                  refine LOps.detP (Det.bin (v := .bool (decide (id = 9))) rfl rfl br_eqI) (Nat.le_of_ble_eq_true rfl) ?_
                  refine LOps.detP (Det.assign rfl) (Nat.le_of_ble_eq_true rfl) ?_
                  refine LOps.nil ?_
                  first | refine LCode.condD rfl (fun hk9 => ?_) (fun hk9 => ?_) | refine LCode.cond rfl (fun hk9 => ?_) (fun hk9 => ?_)
                  ·
                    refine LCode.seq ?_
                    refine LCode.region ?_
                    refine LOps.step rfl (LStep.w (LStep.makes (Makes.rowN Try.underlying139 inf_9 rfl rfl rfl rfl (by decide) rfl) (Nat.le_of_ble_eq_true rfl) (fun b30 => ?_)))
                    refine LOps.detP (Det.assign rfl) (Nat.le_of_ble_eq_true rfl) ?_
                    refine LOps.nil ?_
                    refine LCode.ret ?_
                    refine ⟨[_], .cons rfl .nil, fun a w' hr => .inl ⟨cv9, by rw [hk9]; rfl, b30, _, _, _, _, _, _, rfl, (show (Item.blk b30 ⟨true, _, _, _⟩).holds w' from hr.hp _ (by repeat (first | exact List.Mem.head _ | apply List.Mem.tail))), hr.new (B := ⟨true, _, _, _⟩) (by repeat (first | exact List.Mem.head _ | apply List.Mem.tail)) rfl, by kernel_rfl, hr.fr.below⟩⟩
                  ·
                    refine LCode.seq ?_
                    refine LCode.region ?_
                    refine LOps.detP (Det.bin (v := .bool (decide (id = 10))) rfl rfl br_eqI) (Nat.le_of_ble_eq_true rfl) ?_
                    refine LOps.detP (Det.assign rfl) (Nat.le_of_ble_eq_true rfl) ?_
                    refine LOps.nil ?_
                    first | refine LCode.condD rfl (fun hk10 => ?_) (fun hk10 => ?_) | refine LCode.cond rfl (fun hk10 => ?_) (fun hk10 => ?_)
                    ·
                      refine LCode.seq ?_
                      refine LCode.region ?_
                      refine LOps.step rfl (LStep.w (LStep.makes (Makes.rowN Try.underlying139 inf_9 rfl rfl rfl rfl (by decide) rfl) (Nat.le_of_ble_eq_true rfl) (fun b33 => ?_)))
                      refine LOps.detP (Det.assign rfl) (Nat.le_of_ble_eq_true rfl) ?_
                      refine LOps.nil ?_
                      refine LCode.ret ?_
                      refine ⟨[_], .cons rfl .nil, fun a w' hr => .inl ⟨cv10, by rw [hk10]; rfl, b33, _, _, _, _, _, _, rfl, (show (Item.blk b33 ⟨true, _, _, _⟩).holds w' from hr.hp _ (by repeat (first | exact List.Mem.head _ | apply List.Mem.tail))), hr.new (B := ⟨true, _, _, _⟩) (by repeat (first | exact List.Mem.head _ | apply List.Mem.tail)) rfl, by kernel_rfl, hr.fr.below⟩⟩
                    ·
                      refine LCode.seq ?_
                      refine LCode.region ?_
                      refine LOps.detP (Det.bin (v := .bool (decide (id = 11))) rfl rfl br_eqI) (Nat.le_of_ble_eq_true rfl) ?_
                      refine LOps.detP (Det.assign rfl) (Nat.le_of_ble_eq_true rfl) ?_
                      refine LOps.nil ?_
                      first | refine LCode.condD rfl (fun hk11 => ?_) (fun hk11 => ?_) | refine LCode.cond rfl (fun hk11 => ?_) (fun hk11 => ?_)
                      ·
                        refine LCode.seq ?_
                        refine LCode.region ?_
                        refine LOps.step rfl (LStep.w (LStep.makes (Makes.rowN Try.underlying139 inf_9 rfl rfl rfl rfl (by decide) rfl) (Nat.le_of_ble_eq_true rfl) (fun b36 => ?_)))
                        refine LOps.detP (Det.assign rfl) (Nat.le_of_ble_eq_true rfl) ?_
                        refine LOps.nil ?_
                        refine LCode.ret ?_
                        refine ⟨[_], .cons rfl .nil, fun a w' hr => .inl ⟨cv11, by rw [hk11]; rfl, b36, _, _, _, _, _, _, rfl, (show (Item.blk b36 ⟨true, _, _, _⟩).holds w' from hr.hp _ (by repeat (first | exact List.Mem.head _ | apply List.Mem.tail))), hr.new (B := ⟨true, _, _, _⟩) (by repeat (first | exact List.Mem.head _ | apply List.Mem.tail)) rfl, by kernel_rfl, hr.fr.below⟩⟩
                      ·
                        refine LCode.seq ?_
                        refine LCode.region ?_
                        refine LOps.detP (Det.bin (v := .bool (decide (id = 12))) rfl rfl br_eqI) (Nat.le_of_ble_eq_true rfl) ?_
                        refine LOps.detP (Det.assign rfl) (Nat.le_of_ble_eq_true rfl) ?_
                        refine LOps.nil ?_
                        first | refine LCode.condD rfl (fun hk12 => ?_) (fun hk12 => ?_) | refine LCode.cond rfl (fun hk12 => ?_) (fun hk12 => ?_)
                        ·
                          refine LCode.seq ?_
                          refine LCode.region ?_
                          refine LOps.step rfl (LStep.w (LStep.makes (Makes.rowN Try.underlying139 inf_9 rfl rfl rfl rfl (by decide) rfl) (Nat.le_of_ble_eq_true rfl) (fun b39 => ?_)))
                          refine LOps.detP (Det.assign rfl) (Nat.le_of_ble_eq_true rfl) ?_
                          refine LOps.nil ?_
                          refine LCode.ret ?_
                          refine ⟨[_], .cons rfl .nil, fun a w' hr => .inl ⟨cv12, by rw [hk12]; rfl, b39, _, _, _, _, _, _, rfl, (show (Item.blk b39 ⟨true, _, _, _⟩).holds w' from hr.hp _ (by repeat (first | exact List.Mem.head _ | apply List.Mem.tail))), hr.new (B := ⟨true, _, _, _⟩) (by repeat (first | exact List.Mem.head _ | apply List.Mem.tail)) rfl, by kernel_rfl, hr.fr.below⟩⟩
                        ·
                          refine LCode.seq ?_
                          refine LCode.region ?_
                          refine LOps.detP (Det.bin (v := .bool (decide (id = 13))) rfl rfl br_eqI) (Nat.le_of_ble_eq_true rfl) ?_
                          refine LOps.detP (Det.assign rfl) (Nat.le_of_ble_eq_true rfl) ?_
                          refine LOps.nil ?_
                          first | refine LCode.condD rfl (fun hk13 => ?_) (fun hk13 => ?_) | refine LCode.cond rfl (fun hk13 => ?_) (fun hk13 => ?_)
                          ·
                            refine LCode.seq ?_
                            refine LCode.region ?_
                            refine LOps.step rfl (LStep.w (LStep.makes (Makes.rowN Try.underlying139 inf_9 rfl rfl rfl rfl (by decide) rfl) (Nat.le_of_ble_eq_true rfl) (fun b42 => ?_)))
                            refine LOps.detP (Det.assign rfl) (Nat.le_of_ble_eq_true rfl) ?_
                            refine LOps.nil ?_
                            refine LCode.ret ?_
                            refine ⟨[_], .cons rfl .nil, fun a w' hr => .inl ⟨cv13, by rw [hk13]; rfl, b42, _, _, _, _, _, _, rfl, (show (Item.blk b42 ⟨true, _, _, _⟩).holds w' from hr.hp _ (by repeat (first | exact List.Mem.head _ | apply List.Mem.tail))), hr.new (B := ⟨true, _, _, _⟩) (by repeat (first | exact List.Mem.head _ | apply List.Mem.tail)) rfl, by kernel_rfl, hr.fr.below⟩⟩
                          ·
                            refine LCode.seq ?_
                            refine LCode.region ?_
                            refine LOps.detP (Det.bin (v := .bool (decide (id = 14))) rfl rfl br_eqI) (Nat.le_of_ble_eq_true rfl) ?_
                            refine LOps.detP (Det.assign rfl) (Nat.le_of_ble_eq_true rfl) ?_
                            refine LOps.nil ?_
                            first | refine LCode.condD rfl (fun hk14 => ?_) (fun hk14 => ?_) | refine LCode.cond rfl (fun hk14 => ?_) (fun hk14 => ?_)
                            ·
                              refine LCode.seq ?_
                              refine LCode.region ?_
                              refine LOps.step rfl (LStep.w (LStep.makes (Makes.rowN Try.underlying139 inf_9 rfl rfl rfl rfl (by decide) rfl) (Nat.le_of_ble_eq_true rfl) (fun b45 => ?_)))
                              refine LOps.detP (Det.assign rfl) (Nat.le_of_ble_eq_true rfl) ?_
                              refine LOps.nil ?_
                              refine LCode.ret ?_
                              refine ⟨[_], .cons rfl .nil, fun a w' hr => .inl ⟨cv14, by rw [hk14]; rfl, b45, _, _, _, _, _, _, rfl, (show (Item.blk b45 ⟨true, _, _, _⟩).holds w' from hr.hp _ (by repeat (first | exact List.Mem.head _ | apply List.Mem.tail))), hr.new (B := ⟨true, _, _, _⟩) (by repeat (first | exact List.Mem.head _ | apply List.Mem.tail)) rfl, by kernel_rfl, hr.fr.below⟩⟩
                            ·
                              refine LCode.seq ?_
                              refine LCode.region ?_
                              refine LOps.detP (Det.bin (v := .bool (decide (id = 15))) rfl rfl br_eqI) (Nat.le_of_ble_eq_true rfl) ?_
                              refine LOps.detP (Det.assign rfl) (Nat.le_of_ble_eq_true rfl) ?_
                              refine LOps.nil ?_
                              first | refine LCode.condD rfl (fun hk15 => ?_) (fun hk15 => ?_) | refine LCode.cond rfl (fun hk15 => ?_) (fun hk15 => ?_)
                              ·
                                refine LCode.seq ?_
                                refine LCode.region ?_
                                refine LOps.step rfl (LStep.w (LStep.makes (Makes.rowN Try.underlying139 inf_9 rfl rfl rfl rfl (by decide) rfl) (Nat.le_of_ble_eq_true rfl) (fun b48 => ?_)))
                                refine LOps.detP (Det.assign rfl) (Nat.le_of_ble_eq_true rfl) ?_
                                refine LOps.nil ?_
                                refine LCode.ret ?_
                                refine ⟨[_], .cons rfl .nil, fun a w' hr => .inl ⟨cv15, by rw [hk15]; rfl, b48, _, _, _, _, _, _, rfl, (show (Item.blk b48 ⟨true, _, _, _⟩).holds w' from hr.hp _ (by repeat (first | exact List.Mem.head _ | apply List.Mem.tail))), hr.new (B := ⟨true, _, _, _⟩) (by repeat (first | exact List.Mem.head _ | apply List.Mem.tail)) rfl, by kernel_rfl, hr.fr.below⟩⟩
                              ·
                                refine LCode.skip ?_
                                refine LCode.seq ?_
                                refine LCode.region ?_
                                refine LOps.detP (Det.assign rfl) (Nat.le_of_ble_eq_true rfl) ?_
                                refine LOps.nil ?_
                                refine LCode.ret ?_
                                refine ⟨[_], .cons rfl .nil, fun a w' hr => .inr ⟨cvI_none hk1 hk2 hk3 hk4 hk5 hk6 hk7 hk8 hk9 hk10 hk11 hk12 hk13 hk14 hk15, rfl, hr.fr.below⟩⟩

end Go.Proofs.Ytljblbgogjieaaa
