/- Walks: what functions of the program come to, step by step. -/
import Derived.Test.YtljblbgogjieaaaW21
set_option linter.unusedVariables false
set_option linter.unusedSimpArgs false
set_option maxRecDepth 20000
namespace Go.Proofs.Ytljblbgogjieaaa
open Go Go.RowKit

theorem c_Num (x : Int) (w : World)  : Calls Try.prog 46 ([.int .i64 x] : List Value).toArray w (fun e w' => e = .returned (.int .i64 x) ∧ Below w.heap.size w w') := by
  refine calls_ro (N := 4) (rs := [.tmp 2]) [] Try.func46 rfl Try.ntmps46 Try.results46 (Nat.le_of_ble_eq_true rfl) trivial rfl ?_
  show LCode _ _ _ ⟨_, _⟩ _
  refine LCode.seq ?_
  refine LCode.region ?_
  refine LOps.detP (Det.assign (v := .int .i64 ((0 : Nat) : Int)) rfl) (Nat.le_of_ble_eq_true rfl) ?_
  refine LOps.nil ?_
  refine LCode.seq ?_
  refine LCode.region ?_
  refine LOps.detP (Det.move rfl) (Nat.le_of_ble_eq_true rfl) ?_
  refine LOps.detP (Det.assign rfl) (Nat.le_of_ble_eq_true rfl) ?_
  refine LOps.nil ?_
  refine LCode.ret ?_
  refine ⟨[_], .cons rfl .nil, fun a w' hr => ⟨?_, hr.fr.below⟩⟩
  rfl

theorem one_cells9 {x : Nat} (hx : x < 18446744073709551616) : vec .u64 9 (fun j => if j = 0 then x else 0) = natL x := vec_congr fun i _ => by rw [limb_small hx]
theorem u64_w9 {x : Nat} (hx : x < 18446744073709551616) : x < W9 := by
  obtain ⟨k, hk⟩ : ∃ k : Nat, k = 9 := ⟨9, rfl⟩
  rw [← w9 hk]
  have h : x < 2 ^ 64 := hx
  exact Nat.lt_of_lt_of_le h (Nat.pow_le_pow_right (by decide) (by omega))

theorem c_One (x : Nat) (w : World) (hx : x < 18446744073709551616) : Calls Try.prog 55 ([.int .u64 ((x : Nat) : Int)] : List Value).toArray w (fun e w' => e = .returned (natV x) ∧ Below w.heap.size w w') := by
  refine calls_ro (N := 8) (rs := [.cell 2 25]) [] Try.func55 rfl Try.ntmps55 Try.results55 (Nat.le_of_ble_eq_true rfl) trivial rfl ?_
  show LCode _ _ _ ⟨_, _⟩ _
  refine LCode.seq ?_
  refine LCode.region ?_
  refine LOps.step rfl (LStep.w (LStep.makes (Makes.allocA zr_25) (Nat.le_of_ble_eq_true rfl) (fun b2 => ?_)))
  refine LOps.nil ?_
  refine LCode.seq ?_
  refine LCode.region ?_
  refine LOps.step rfl (LStep.w (LStep.makes (Makes.allocA zr_25) (Nat.le_of_ble_eq_true rfl) (fun b3 => ?_)))
  refine LOps.nil ?_
  refine LCode.seq ?_
  refine LCode.region ?_
  refine LOps.detP (Det.move rfl) (Nat.le_of_ble_eq_true rfl) ?_
  refine LOps.detP (Det.fieldA (o' := 0) Try.underlying25 rfl rfl rfl sz_23 (by decide)) (Nat.le_of_ble_eq_true rfl) ?_
  refine LOps.detP (Det.indexA0 (i := 0) Try.underlying23 sz_22 rfl rfl (by decide)) (Nat.le_of_ble_eq_true rfl) ?_
  refine LOps.step rfl (LStepW.store1 rfl rfl rfl sz_22 (by repeat (first | exact SetAt.head _ | apply SetAt.tail)) (by first | (simp only [vec_length, natL_length, wideL_length, dv_length]; omega) | (simp; omega)) (by first | exact vec_set _ _ _ _ _ | exact dv_setm _ _ _ _ (by omega) | exact dv_sets _ _ _ _ | rfl) (by simp) ?_)
  refine LOps.nil ?_
  refine LCode.seq ?_
  refine LCode.sub (Sub.cells (b := b3) (cs' := natL x) (by repeat (first | exact SetAt.head _ | apply SetAt.tail)) (one_cells9 hx)) ?_
  refine LCode.region ?_
  refine LOps.det (Det.load rfl (by repeat (first | exact List.Mem.head _ | apply List.Mem.tail)) (by exact LoadV.whole Try.underlying25 rfl sz_25)) (Nat.le_of_ble_eq_true rfl) ?_
  refine LOps.step rfl (LStepW.storeA rfl rfl sz_25 (by repeat (first | exact natL_one _ | exact vec_one _ _ _ | exact wideL_one _ | exact ptL_one _ _ _ | exact pjL_one _ _ _ | exact allOne_nil | refine allOne_cons rfl ?_ | refine allOne_append ?_ ?_)) (by repeat (first | exact SetAt.head _ | apply SetAt.tail)) (by first | exact natL_length _ | exact vec_length _ _ _ | exact wideL_length _ | exact ptL_length _ _ _ | exact pjL_length _ _ _ | rfl | simp [vec_length, natL_length, wideL_length]) ?_)
  refine LOps.nil ?_
  refine LCode.ret ?_
  refine ⟨[_], .cons ⟨_, _, _, rfl, (by repeat (first | exact List.Mem.head _ | apply List.Mem.tail)), by exact LoadV.whole Try.underlying25 rfl sz_25⟩ .nil, fun a w' hr => ⟨?_, hr.fr.below⟩⟩
  rfl

theorem eq_sig (R T R' T' : Nat) (hR : R < W9) (hT : T < W9) (hR' : R' < W9) (hT' : T' < W9) : EqD 4 Try.prog 27 (sgV R T) (sgV R' T') (decide (R = R') && (decide (T = T') && true)) := by
  have d1 : ∀ A B : Nat, ((sgL A B).drop 0).take 9 = natL A := fun A B => by
    rw [List.drop_zero]; unfold sgL; rw [List.take_left' (natL_length A)]
  have d2 : ∀ A B : Nat, ((sgL A B).drop 9).take 9 = natL B := fun A B => by
    unfold sgL; rw [List.drop_left' (natL_length A), take_all]
  exact EqD.struct (fs := [_, _]) Try.underlying27 (by kernel_rfl) (EqFs.cons (by decide) (PartOf.agg Try.underlying25 rfl sz_25 (d1 R T)) (PartOf.agg Try.underlying25 rfl sz_25 (d1 R' T')) (eq_nat R R' hR hR')
    (EqFs.cons (by decide) (PartOf.agg Try.underlying25 rfl sz_25 (d2 R T)) (PartOf.agg Try.underlying25 rfl sz_25 (d2 R' T')) (eq_nat T T' hT hT') EqFs.nil))
theorem zero_w9 : 0 < W9 := w9_pos

/-- The parts of what Put and Get give. -/
def rpS (V : Cv) (R T : Nat) : ByteArray := if V.n ≤ R ∨ V.n ≤ T then ⟨#[]⟩ else strOf (beBytes (nby V.n) R) ++ strOf (beBytes (nby V.n) T)
def rpE (V : Cv) (R T : Nat) : Nat := if V.n ≤ R ∨ V.n ≤ T then 2302 else 0
theorem rawPut_eq (V : Cv) (R T : Nat) : rawPut V R T = .tuple #[.string (rpS V R T), .int .i64 ((rpE V R T : Nat) : Int)] := by
  unfold rawPut rpS rpE
  split <;> rfl
def rgR (V : Cv) (s : ByteArray) : Nat := if s.size ≠ 2 * nby V.n then 0 else if V.n ≤ rawR V s ∨ V.n ≤ rawT V s then 0 else rawR V s
def rgT (V : Cv) (s : ByteArray) : Nat := if s.size ≠ 2 * nby V.n then 0 else if V.n ≤ rawR V s ∨ V.n ≤ rawT V s then 0 else rawT V s
def rgE (V : Cv) (s : ByteArray) : Nat := if s.size ≠ 2 * nby V.n then 2301 else if V.n ≤ rawR V s ∨ V.n ≤ rawT V s then 2302 else 0
theorem rawGet_eq (V : Cv) (s : ByteArray) : rawGet V s = .tuple #[sgV (rgR V s) (rgT V s), .int .i64 ((rgE V s : Nat) : Int)] := by
  unfold rawGet rgR rgT rgE
  split
  · rfl
  · split <;> rfl
theorem rg_lt (V : Cv) (hn : V.n < W9) (s : ByteArray) : rgR V s < W9 ∧ rgT V s < W9 := by
  have h0 := w9_pos
  unfold rgR rgT
  constructor
  · split
    · exact h0
    · split
      · exact h0
      · omega
  · split
    · exact h0
    · split
      · exact h0
      · omega
theorem c_raw_Put2 (id : Int) (V : Cv) (R T : Nat) (w : World) (h : cvI id = some V) (hR : R < W9) (hT : T < W9) : Calls Try.prog 44 ([.int .i64 id, sgV R T] : List Value).toArray w (fun e w' => e = .returned (.tuple #[.string (rpS V R T), .int .i64 ((rpE V R T : Nat) : Int)]) ∧ Below w.heap.size w w') := by
  rw [← rawPut_eq]; exact c_raw_Put id V R T w h hR hT
theorem c_raw_Get2 (id : Int) (V : Cv) (s : ByteArray) (w : World) (h : cvI id = some V) (hs : s.size < 9223372036854775808) : Calls Try.prog 45 ([.int .i64 id, .string s] : List Value).toArray w (fun e w' => e = .returned (.tuple #[sgV (rgR V s) (rgT V s), .int .i64 ((rgE V s : Nat) : Int)]) ∧ Below w.heap.size w w') := by
  rw [← rawGet_eq]; exact c_raw_Get id V s w h hs
theorem c_r_Raw2 (Q : CQ) (V : Cv) (R T : Nat) (w : World) (hc : (crvI Q V).holds w) (hsz : V.Sz) (hR : R < W9) (hT : T < W9) : Calls Try.prog 48 ([.agg (crvL Q V).toArray, sgV R T] : List Value).toArray w (fun e w' => e = .returned (.tuple #[.string (rpS V R T), .int .i64 ((rpE V R T : Nat) : Int)]) ∧ Below w.heap.size w w') := by
  rw [← rawPut_eq]; exact c_r_Raw Q V R T w hc hsz hR hT
theorem c_r_Unraw2 (Q : CQ) (V : Cv) (s : ByteArray) (w : World) (hc : (crvI Q V).holds w) (hsz : V.Sz) (hs : s.size < 9223372036854775808) : Calls Try.prog 49 ([.agg (crvL Q V).toArray, .string s] : List Value).toArray w (fun e w' => e = .returned (.tuple #[sgV (rgR V s) (rgT V s), .int .i64 ((rgE V s : Nat) : Int)]) ∧ Below w.heap.size w w') := by
  rw [← rawGet_eq]; exact c_r_Unraw Q V s w hc hsz hs
theorem cv13_is : cvI 13 = some cv13 := rfl
theorem cv0_is : cvI 0 = none := rfl
theorem rp13 : (rpS cv13 3 222).data.toList = [3, 222] ∧ rpE cv13 3 222 = 0 := by
  constructor
  · unfold rpS
    rw [if_neg (by decide), ByteArray.toList_data_append]; rfl
  · rfl
theorem ext_data (s : ByteArray) (i j : Nat) : (s.extract i j).data.toList = (s.data.toList.take j).drop i := by
  rw [ByteArray.data_extract, Array.toList_extract]
  simp only [List.extract_eq_take_drop, List.take_drop]
  by_cases h : i ≤ j
  · rw [show i + (j - i) = j by omega]
  · rw [List.drop_of_length_le (by simp; omega), List.drop_of_length_le (by simp; omega)]
theorem rg13 {s : ByteArray} (h : s.data.toList = [3, 222]) : rgR cv13 s = 3 ∧ rgT cv13 s = 222 ∧ rgE cv13 s = 0 := by
  have hs : s.size = 2 := congrArg List.length h
  have hn : nby cv13.n = 1 := by rfl
  have e1 : rawR cv13 s = 3 := by unfold rawR; rw [ext_data, h, hn]; rfl
  have e2 : rawT cv13 s = 222 := by unfold rawT; rw [ext_data, h, hn, hs]; rfl
  unfold rgR rgT rgE
  rw [hs, hn, e1, e2]
  exact ⟨rfl, rfl, rfl⟩
theorem rg13' {s : ByteArray} (h : s.data.toList = [3, 223]) : rgE cv13 s = 2302 := by
  have hs : s.size = 2 := congrArg List.length h
  have hn : nby cv13.n = 1 := by rfl
  have e1 : rawR cv13 s = 3 := by unfold rawR; rw [ext_data, h, hn]; rfl
  have e2 : rawT cv13 s = 223 := by unfold rawT; rw [ext_data, h, hn, hs]; rfl
  unfold rgE
  rw [hs, hn, e1, e2]
  rfl

theorem c_awake23  (w : World)  : Calls Try.prog 47 ([] : List Value).toArray w (fun e w' => e = .returned (.bool true) ∧ Below w.heap.size w w') := by
  have hsz : (rpS cv13 3 222).size < 9223372036854775808 := by
    have : (rpS cv13 3 222).data.toList.length = 2 := by rw [rp13.1]; rfl
    show (rpS cv13 3 222).data.size < _
    rw [← Array.length_toList]; omega
  refine calls_ro (N := 59) (rs := [.tmp 0]) [] Try.func47 rfl Try.ntmps47 Try.results47 (Nat.le_of_ble_eq_true rfl) trivial rfl ?_
  show LCode _ _ _ ⟨_, _⟩ _
  refine LCode.seq ?_
  refine LCode.region ?_
  refine LOps.detP (Det.assign rfl) (Nat.le_of_ble_eq_true rfl) ?_
  refine LOps.nil ?_
  refine LCode.seq ?_
  refine LCode.region ?_
  refine LOps.step rfl (LStep.w (LStep.callF (first := []) rfl en_55 rfl (Nat.le_of_ble_eq_true rfl) (fun w hw => c_One _ w (by first | omega | decide)) ?_))
  refine LOps.step rfl (LStep.w (LStep.callF (first := []) rfl en_55 rfl (Nat.le_of_ble_eq_true rfl) (fun w hw => c_One _ w (by first | omega | decide)) ?_))
  refine LOps.detP (Slots.cast (Det.build pl_27 zr_27 rfl (fill_sg _ _)) rfl) (Nat.le_of_ble_eq_true rfl) ?_
  refine LOps.step rfl (LStep.w (LStep.callF (first := []) rfl en_44 rfl (Nat.le_of_ble_eq_true rfl) (fun w hw => c_raw_Put2 13 cv13 3 222 w cv13_is (u64_w9 (by decide)) (u64_w9 (by decide))) ?_))
  refine LOps.detP (Det.move rfl) (Nat.le_of_ble_eq_true rfl) ?_
  refine LOps.detP (Det.extract rfl rfl) (Nat.le_of_ble_eq_true rfl) ?_
  refine LOps.detP (Det.extract rfl rfl) (Nat.le_of_ble_eq_true rfl) ?_
  refine LOps.detP (Det.assign rfl) (Nat.le_of_ble_eq_true rfl) ?_
  refine LOps.detP (Det.assign rfl) (Nat.le_of_ble_eq_true rfl) ?_
  refine LOps.nil ?_
  refine LCode.seq ?_
  refine LCode.region ?_
  refine LOps.detP (Det.move rfl) (Nat.le_of_ble_eq_true rfl) ?_
  refine LOps.step rfl (LStep.w (LStep.callF (first := []) rfl en_45 rfl (Nat.le_of_ble_eq_true rfl) (fun w hw => c_raw_Get2 13 cv13 (rpS cv13 3 222) w cv13_is hsz) ?_))
  refine LOps.detP (Det.move rfl) (Nat.le_of_ble_eq_true rfl) ?_
  refine LOps.detP (Det.extract rfl rfl) (Nat.le_of_ble_eq_true rfl) ?_
  refine LOps.detP (Det.extract rfl rfl) (Nat.le_of_ble_eq_true rfl) ?_
  refine LOps.step rfl (LStep.w (LStep.makes (Makes.allocA zr_27) (Nat.le_of_ble_eq_true rfl) (fun b3 => ?_)))
  refine LOps.step rfl (LStepW.storeA rfl rfl sz_27 (by exact sgL_one _ _) (by repeat (first | exact SetAt.head _ | apply SetAt.tail)) (by exact sgL_length _ _) ?_)
  refine LOps.detP (Det.assign rfl) (Nat.le_of_ble_eq_true rfl) ?_
  refine LOps.nil ?_
  refine LCode.seq ?_
  refine LCode.region ?_
  refine LOps.step rfl (LStep.w (LStep.callF (first := []) rfl en_45 rfl (Nat.le_of_ble_eq_true rfl) (fun w hw => c_raw_Get2 13 cv13 ⟨#[3, 223]⟩ w cv13_is (by decide)) ?_))
  refine LOps.detP (Det.move rfl) (Nat.le_of_ble_eq_true rfl) ?_
  refine LOps.detP (Det.extract rfl rfl) (Nat.le_of_ble_eq_true rfl) ?_
  refine LOps.detP (Det.extract rfl rfl) (Nat.le_of_ble_eq_true rfl) ?_
  refine LOps.step rfl (LStep.w (LStep.makes (Makes.allocA zr_27) (Nat.le_of_ble_eq_true rfl) (fun b5 => ?_)))
  refine LOps.step rfl (LStepW.storeA rfl rfl sz_27 (by exact sgL_one _ _) (by repeat (first | exact SetAt.head _ | apply SetAt.tail)) (by exact sgL_length _ _) ?_)
  refine LOps.detP (Det.assign rfl) (Nat.le_of_ble_eq_true rfl) ?_
  refine LOps.nil ?_
  refine LCode.seq ?_
  refine LCode.region ?_
  refine LOps.detP (Slots.cast (Det.build pl_27 zr_27 rfl rfl) (show _ = sgV 0 0 from sg_zero)) (Nat.le_of_ble_eq_true rfl) ?_
  refine LOps.step rfl (LStep.w (LStep.callF (first := []) rfl en_44 rfl (Nat.le_of_ble_eq_true rfl) (fun w hw => c_raw_Put_none 0 0 0 w cv0_is) ?_))
  refine LOps.detP (Det.move rfl) (Nat.le_of_ble_eq_true rfl) ?_
  refine LOps.detP (Det.extract rfl rfl) (Nat.le_of_ble_eq_true rfl) ?_
  refine LOps.detP (Det.extract rfl rfl) (Nat.le_of_ble_eq_true rfl) ?_
  refine LOps.detP (Det.assign rfl) (Nat.le_of_ble_eq_true rfl) ?_
  refine LOps.detP (Det.assign rfl) (Nat.le_of_ble_eq_true rfl) ?_
  refine LOps.nil ?_
  refine LCode.seq ?_
  refine LCode.regionD [] (by kernel_rfl) ?_
  refine LAny.takeP 0 rfl (by kernel_rfl) (Nat.le_of_ble_eq_true rfl) (Det.move rfl) ?_
  refine LAny.takeP 1 rfl (by kernel_rfl) (Nat.le_of_ble_eq_true rfl) (Slots.cast (Det.eqs rfl rfl) (congrArg Value.bool (eq_str_t (rp13.1)))) ?_
  refine LAny.takeP 2 rfl (by kernel_rfl) (Nat.le_of_ble_eq_true rfl) (Det.move rfl) ?_
  refine LAny.takeGP 3 rfl rfl rfl (by kernel_rfl) (Nat.le_of_ble_eq_true rfl) (Det.move rfl) ?_
  refine LAny.oneG 4 rfl rfl rfl rfl (by kernel_rfl) (LStep.callF (first := []) rfl en_46 rfl (Nat.le_of_ble_eq_true rfl) (fun w hw => c_Num _ w) ?_)
  refine LAny.takeGP 5 rfl rfl rfl (by kernel_rfl) (Nat.le_of_ble_eq_true rfl) (Det.bin (v := .bool true) rfl rfl (br_t br_eql (rp13.2))) ?_
  refine LAny.takeP 6 rfl (by kernel_rfl) (Nat.le_of_ble_eq_true rfl) (Det.pick_true rfl rfl) ?_
  refine LAny.takeP 7 rfl (by kernel_rfl) (Nat.le_of_ble_eq_true rfl) (Det.move rfl) ?_
  refine LAny.takeG 8 rfl rfl rfl (by kernel_rfl) (Nat.le_of_ble_eq_true rfl) (Det.load rfl (by repeat (first | exact List.Mem.head _ | apply List.Mem.tail)) (by exact LoadV.whole Try.underlying27 rfl sz_27)) ?_
  refine LAny.oneG 9 rfl rfl rfl rfl (by kernel_rfl) (LStep.callF (first := []) rfl en_55 rfl (Nat.le_of_ble_eq_true rfl) (fun w hw => c_One _ w (by first | omega | decide)) ?_)
  refine LAny.oneG 10 rfl rfl rfl rfl (by kernel_rfl) (LStep.callF (first := []) rfl en_55 rfl (Nat.le_of_ble_eq_true rfl) (fun w hw => c_One _ w (by first | omega | decide)) ?_)
  refine LAny.takeGP 11 rfl rfl rfl (by kernel_rfl) (Nat.le_of_ble_eq_true rfl) (Slots.cast (Det.build pl_27 zr_27 rfl (fill_sg _ _)) rfl) ?_
  refine LAny.takeGP 12 rfl rfl rfl (by kernel_rfl) (Nat.le_of_ble_eq_true rfl) (Slots.cast (Det.eqa (by kernel_rfl) (fun w => eq_sig (rgR cv13 (rpS cv13 3 222)) (rgT cv13 (rpS cv13 3 222)) 3 222 (rg_lt cv13 (u64_w9 (by decide)) _).1 (rg_lt cv13 (u64_w9 (by decide)) _).2 (u64_w9 (by decide)) (u64_w9 (by decide)) 10000 (by decide) w) rfl rfl) (show _ = Value.bool true by rw [(rg13 rp13.1).1, (rg13 rp13.1).2.1]; rfl)) ?_
  refine LAny.takeP 13 rfl (by kernel_rfl) (Nat.le_of_ble_eq_true rfl) (Det.pick_true rfl rfl) ?_
  refine LAny.takeP 14 rfl (by kernel_rfl) (Nat.le_of_ble_eq_true rfl) (Det.move rfl) ?_
  refine LAny.takeGP 15 rfl rfl rfl (by kernel_rfl) (Nat.le_of_ble_eq_true rfl) (Det.move rfl) ?_
  refine LAny.oneG 16 rfl rfl rfl rfl (by kernel_rfl) (LStep.callF (first := []) rfl en_46 rfl (Nat.le_of_ble_eq_true rfl) (fun w hw => c_Num _ w) ?_)
  refine LAny.takeGP 17 rfl rfl rfl (by kernel_rfl) (Nat.le_of_ble_eq_true rfl) (Det.bin (v := .bool true) rfl rfl (br_t br_eql ((rg13 rp13.1).2.2))) ?_
  refine LAny.takeP 18 rfl (by kernel_rfl) (Nat.le_of_ble_eq_true rfl) (Det.pick_true rfl rfl) ?_
  refine LAny.takeP 19 rfl (by kernel_rfl) (Nat.le_of_ble_eq_true rfl) (Det.move rfl) ?_
  refine LAny.takeGP 20 rfl rfl rfl (by kernel_rfl) (Nat.le_of_ble_eq_true rfl) (Det.move rfl) ?_
  refine LAny.oneG 21 rfl rfl rfl rfl (by kernel_rfl) (LStep.callF (first := []) rfl en_46 rfl (Nat.le_of_ble_eq_true rfl) (fun w hw => c_Num _ w) ?_)
  refine LAny.takeGP 22 rfl rfl rfl (by kernel_rfl) (Nat.le_of_ble_eq_true rfl) (Det.bin (v := .bool true) rfl rfl (br_t br_eql (rg13' rfl))) ?_
  refine LAny.takeP 23 rfl (by kernel_rfl) (Nat.le_of_ble_eq_true rfl) (Det.pick_true rfl rfl) ?_
  refine LAny.takeP 24 rfl (by kernel_rfl) (Nat.le_of_ble_eq_true rfl) (Det.move rfl) ?_
  refine LAny.takeGP 25 rfl rfl rfl (by kernel_rfl) (Nat.le_of_ble_eq_true rfl) (Det.move rfl) ?_
  refine LAny.oneG 26 rfl rfl rfl rfl (by kernel_rfl) (LStep.callF (first := []) rfl en_46 rfl (Nat.le_of_ble_eq_true rfl) (fun w hw => c_Num _ w) ?_)
  refine LAny.takeGP 27 rfl rfl rfl (by kernel_rfl) (Nat.le_of_ble_eq_true rfl) (Det.bin (v := .bool true) rfl rfl (br_t br_eql (rfl))) ?_
  refine LAny.takeP 28 rfl (by kernel_rfl) (Nat.le_of_ble_eq_true rfl) (Det.pick_true rfl rfl) ?_
  refine LAny.takeP 29 rfl (by kernel_rfl) (Nat.le_of_ble_eq_true rfl) (Det.assign rfl) ?_
  refine LAny.done (by kernel_rfl) ?_
  refine LCode.ret ?_
  refine ⟨[_], .cons rfl .nil, fun a w' hr => ⟨?_, hr.fr.below⟩⟩
  rfl

theorem c_Raws_none (id : Int) (R T : Nat) (s : ByteArray) (w : World) (h : cvI id = none) : Calls Try.prog 3 ([.int .i64 id, sgV R T, .string s] : List Value).toArray w (fun e w' => e = .returned (.bool true) ∧ Below w.heap.size w w') := by
  refine calls_ro (N := 91) (rs := [.tmp 6]) [] Try.func3 rfl Try.ntmps3 Try.results3 (Nat.le_of_ble_eq_true rfl) trivial rfl ?_
  show LCode _ _ _ ⟨_, _⟩ _
  refine LCode.seq ?_
  refine LCode.region ?_
  refine LOps.step rfl (LStep.w (LStep.makes (Makes.boxA rfl) (Nat.le_of_ble_eq_true rfl) (fun b4 => ?_)))
  refine LOps.detP (Det.assign rfl) (Nat.le_of_ble_eq_true rfl) ?_
  refine LOps.nil ?_
  refine LCode.seq ?_
  refine LCode.region ?_
  refine LOps.detP (Det.move rfl) (Nat.le_of_ble_eq_true rfl) ?_
  refine LOps.step rfl (LStep.w (LStep.callF (first := []) rfl en_43 rfl (Nat.le_of_ble_eq_true rfl) (fun w hw => c_r_Get_none id w h) ?_))
  refine LOps.detP (Det.move rfl) (Nat.le_of_ble_eq_true rfl) ?_
  refine LOps.detP (Det.extract rfl rfl) (Nat.le_of_ble_eq_true rfl) ?_
  refine LOps.detP (Det.extract rfl rfl) (Nat.le_of_ble_eq_true rfl) ?_
  refine LOps.step rfl (LStep.w (LStep.makes (Makes.allocA zr_31) (Nat.le_of_ble_eq_true rfl) (fun b7 => ?_)))
  refine LOps.step rfl (LStepW.storeA rfl rfl sz_31 (by repeat (first | exact allOne_nil | refine allOne_cons rfl ?_)) (by repeat (first | exact SetAt.head _ | apply SetAt.tail)) (by rfl) ?_)
  refine LOps.detP (Det.assign rfl) (Nat.le_of_ble_eq_true rfl) ?_
  refine LOps.nil ?_
  refine LCode.seq ?_
  refine LCode.region ?_
  refine LOps.detP (Det.move rfl) (Nat.le_of_ble_eq_true rfl) ?_
  refine LOps.det (Det.load rfl (by repeat (first | exact List.Mem.head _ | apply List.Mem.tail)) (by exact LoadV.whole Try.underlying27 rfl sz_27)) (Nat.le_of_ble_eq_true rfl) ?_
  refine LOps.step rfl (LStep.w (LStep.callF (first := []) rfl en_44 rfl (Nat.le_of_ble_eq_true rfl) (fun w hw => c_raw_Put_none id R T w h) ?_))
  refine LOps.detP (Det.move rfl) (Nat.le_of_ble_eq_true rfl) ?_
  refine LOps.detP (Det.extract rfl rfl) (Nat.le_of_ble_eq_true rfl) ?_
  refine LOps.detP (Det.extract rfl rfl) (Nat.le_of_ble_eq_true rfl) ?_
  refine LOps.detP (Det.assign rfl) (Nat.le_of_ble_eq_true rfl) ?_
  refine LOps.detP (Det.assign rfl) (Nat.le_of_ble_eq_true rfl) ?_
  refine LOps.nil ?_
  refine LCode.seq ?_
  refine LCode.region ?_
  refine LOps.detP (Det.move rfl) (Nat.le_of_ble_eq_true rfl) ?_
  refine LOps.detP (Det.move rfl) (Nat.le_of_ble_eq_true rfl) ?_
  refine LOps.step rfl (LStep.w (LStep.callF (first := []) rfl en_45 rfl (Nat.le_of_ble_eq_true rfl) (fun w hw => c_raw_Get_none id s w h) ?_))
  refine LOps.detP (Det.move rfl) (Nat.le_of_ble_eq_true rfl) ?_
  refine LOps.detP (Det.extract rfl rfl) (Nat.le_of_ble_eq_true rfl) ?_
  refine LOps.detP (Det.extract rfl rfl) (Nat.le_of_ble_eq_true rfl) ?_
  refine LOps.step rfl (LStep.w (LStep.makes (Makes.allocA zr_27) (Nat.le_of_ble_eq_true rfl) (fun b11 => ?_)))
  refine LOps.step rfl (LStepW.storeA rfl rfl sz_27 (by exact sgL_one _ _) (by repeat (first | exact SetAt.head _ | apply SetAt.tail)) (by exact sgL_length _ _) ?_)
  refine LOps.detP (Det.assign rfl) (Nat.le_of_ble_eq_true rfl) ?_
  refine LOps.nil ?_
  refine LCode.seq ?_
  refine LCode.seq ?_
  refine LCode.region ?_
  refine LOps.detP (Det.move rfl) (Nat.le_of_ble_eq_true rfl) ?_
  refine LOps.detP (Slots.cast (Det.not rfl) (show _ = Value.bool true from rfl)) (Nat.le_of_ble_eq_true rfl) ?_
  refine LOps.nil ?_
  refine LCode.cond_true rfl ?_
  refine LCode.seq ?_
  refine LCode.region ?_
  refine LOps.detP (Det.move rfl) (Nat.le_of_ble_eq_true rfl) ?_
  refine LOps.step rfl (LStep.w (LStep.callF (first := []) rfl en_46 rfl (Nat.le_of_ble_eq_true rfl) (fun w hw => c_Num _ w) ?_))
  refine LOps.detP (Det.bin (v := .bool true) rfl rfl (br_t br_eql (rfl))) (Nat.le_of_ble_eq_true rfl) ?_
  refine LOps.detP (Det.move rfl) (Nat.le_of_ble_eq_true rfl) ?_
  refine LOps.detGP rfl rfl (Det.move rfl) (Nat.le_of_ble_eq_true rfl) ?_
  refine LOps.stepG rfl rfl rfl (LStep.w (LStep.callF (first := []) rfl en_46 rfl (Nat.le_of_ble_eq_true rfl) (fun w hw => c_Num _ w) ?_))
  refine LOps.detGP rfl rfl (Det.bin (v := .bool true) rfl rfl (br_t br_eql (rfl))) (Nat.le_of_ble_eq_true rfl) ?_
  refine LOps.detP (Det.pick_true rfl rfl) (Nat.le_of_ble_eq_true rfl) ?_
  refine LOps.detP (Det.move rfl) (Nat.le_of_ble_eq_true rfl) ?_
  refine LOps.detGP rfl rfl (Det.move rfl) (Nat.le_of_ble_eq_true rfl) ?_
  refine LOps.detGP rfl rfl (Slots.cast (Det.eqs rfl rfl) (congrArg Value.bool (eq_str_t (rfl)))) (Nat.le_of_ble_eq_true rfl) ?_
  refine LOps.detP (Det.pick_true rfl rfl) (Nat.le_of_ble_eq_true rfl) ?_
  refine LOps.detP (Det.move rfl) (Nat.le_of_ble_eq_true rfl) ?_
  refine LOps.detG rfl rfl (Det.load rfl (by repeat (first | exact List.Mem.head _ | apply List.Mem.tail)) (by exact LoadV.whole Try.underlying27 rfl sz_27)) (Nat.le_of_ble_eq_true rfl) ?_
  refine LOps.detGP rfl rfl (Slots.cast (Det.build pl_27 zr_27 rfl rfl) (show _ = sgV 0 0 from sg_zero)) (Nat.le_of_ble_eq_true rfl) ?_
  refine LOps.detGP rfl rfl (Slots.cast (Det.eqa (by kernel_rfl) (fun w => eq_sig 0 0 0 0 zero_w9 zero_w9 zero_w9 zero_w9 10000 (by decide) w) rfl rfl) (show _ = Value.bool true by rfl)) (Nat.le_of_ble_eq_true rfl) ?_
  refine LOps.detP (Det.pick_true rfl rfl) (Nat.le_of_ble_eq_true rfl) ?_
  refine LOps.detP (Det.move rfl) (Nat.le_of_ble_eq_true rfl) ?_
  refine LOps.stepG rfl rfl rfl (LStep.w (LStep.callF (first := []) rfl en_47 rfl (Nat.le_of_ble_eq_true rfl) (fun w hw => c_awake23 w) ?_))
  refine LOps.detP (Det.pick_true rfl rfl) (Nat.le_of_ble_eq_true rfl) ?_
  refine LOps.detP (Det.assign rfl) (Nat.le_of_ble_eq_true rfl) ?_
  refine LOps.nil ?_
  refine LCode.ret ?_
  refine ⟨[_], .cons rfl .nil, fun a w' hr => ⟨?_, hr.fr.below⟩⟩
  rfl

theorem c_Raws_some (id : Int) (V : Cv) (R T : Nat) (s : ByteArray) (w : World) (h : cvI id = some V) (hR : R < W9) (hT : T < W9) (hs : s.size < 9223372036854775808) : Calls Try.prog 3 ([.int .i64 id, sgV R T, .string s] : List Value).toArray w (fun e w' => e = .returned (.bool true) ∧ Below w.heap.size w w') := by
  obtain ⟨hok, hid⟩ := cvI_ok h
  have hbb := hok.bounds
  have hnW : V.n < W9 := w9_521 hbb.2.2.2.2.2.2.1
  have hg := rg_lt V hnW s
  have hsz := hok.sz
  refine calls_ro (N := 91) (rs := [.tmp 6]) [] Try.func3 rfl Try.ntmps3 Try.results3 (Nat.le_of_ble_eq_true rfl) trivial rfl ?_
  show LCode _ _ _ ⟨_, _⟩ _
  refine LCode.seq ?_
  refine LCode.region ?_
  refine LOps.step rfl (LStep.w (LStep.makes (Makes.boxA rfl) (Nat.le_of_ble_eq_true rfl) (fun b4 => ?_)))
  refine LOps.detP (Det.assign rfl) (Nat.le_of_ble_eq_true rfl) ?_
  refine LOps.nil ?_
  refine LCode.seq ?_
  refine LCode.region ?_
  refine LOps.detP (Det.move rfl) (Nat.le_of_ble_eq_true rfl) ?_
  refine LOps.step rfl (LStep.w (LStep.callZ (Post := fun v its => ∃ Q, v = .tuple #[.agg (crvL Q V).toArray, .bool true] ∧ its = [crvI Q V]) (first := []) rfl en_43 rfl (Nat.le_of_ble_eq_true rfl) (fun w1 hw hs => (c_r_Get _ V w1 h).mono fun e w' ⟨Q, h1, h2, h3, h4⟩ => ⟨_, _, ⟨Q, rfl, rfl⟩, h1, Brings.nums h4 (by intro x hx; simp at hx; subst hx; exact h2) (by intro x hx; simp at hx; subst hx; rfl) (by intro x hx k hk; simp at hx; subst hx; exact .inl (h3 k hk))⟩) ?_))
  rintro _ _ ⟨Q, rfl, rfl⟩
  refine LOps.detP (Det.move rfl) (Nat.le_of_ble_eq_true rfl) ?_
  refine LOps.detP (Det.extract rfl rfl) (Nat.le_of_ble_eq_true rfl) ?_
  refine LOps.detP (Det.extract rfl rfl) (Nat.le_of_ble_eq_true rfl) ?_
  refine LOps.step rfl (LStep.w (LStep.makes (Makes.allocA zr_31) (Nat.le_of_ble_eq_true rfl) (fun b7 => ?_)))
  refine LOps.step rfl (LStepW.storeA rfl rfl sz_31 (by repeat (first | exact allOne_nil | refine allOne_cons rfl ?_)) (by repeat (first | exact SetAt.head _ | apply SetAt.tail)) (by rfl) ?_)
  refine LOps.detP (Det.assign rfl) (Nat.le_of_ble_eq_true rfl) ?_
  refine LOps.nil ?_
  refine LCode.seq ?_
  refine LCode.region ?_
  refine LOps.detP (Det.move rfl) (Nat.le_of_ble_eq_true rfl) ?_
  refine LOps.det (Det.load rfl (by repeat (first | exact List.Mem.head _ | apply List.Mem.tail)) (by exact LoadV.whole Try.underlying27 rfl sz_27)) (Nat.le_of_ble_eq_true rfl) ?_
  refine LOps.step rfl (LStep.w (LStep.callF (first := []) rfl en_44 rfl (Nat.le_of_ble_eq_true rfl) (fun w hw => c_raw_Put2 id V R T w h hR hT) ?_))
  refine LOps.detP (Det.move rfl) (Nat.le_of_ble_eq_true rfl) ?_
  refine LOps.detP (Det.extract rfl rfl) (Nat.le_of_ble_eq_true rfl) ?_
  refine LOps.detP (Det.extract rfl rfl) (Nat.le_of_ble_eq_true rfl) ?_
  refine LOps.detP (Det.assign rfl) (Nat.le_of_ble_eq_true rfl) ?_
  refine LOps.detP (Det.assign rfl) (Nat.le_of_ble_eq_true rfl) ?_
  refine LOps.nil ?_
  refine LCode.seq ?_
  refine LCode.region ?_
  refine LOps.detP (Det.move rfl) (Nat.le_of_ble_eq_true rfl) ?_
  refine LOps.detP (Det.move rfl) (Nat.le_of_ble_eq_true rfl) ?_
  refine LOps.step rfl (LStep.w (LStep.callF (first := []) rfl en_45 rfl (Nat.le_of_ble_eq_true rfl) (fun w hw => c_raw_Get2 id V s w h hs) ?_))
  refine LOps.detP (Det.move rfl) (Nat.le_of_ble_eq_true rfl) ?_
  refine LOps.detP (Det.extract rfl rfl) (Nat.le_of_ble_eq_true rfl) ?_
  refine LOps.detP (Det.extract rfl rfl) (Nat.le_of_ble_eq_true rfl) ?_
  refine LOps.step rfl (LStep.w (LStep.makes (Makes.allocA zr_27) (Nat.le_of_ble_eq_true rfl) (fun b11 => ?_)))
  refine LOps.step rfl (LStepW.storeA rfl rfl sz_27 (by exact sgL_one _ _) (by repeat (first | exact SetAt.head _ | apply SetAt.tail)) (by exact sgL_length _ _) ?_)
  refine LOps.detP (Det.assign rfl) (Nat.le_of_ble_eq_true rfl) ?_
  refine LOps.nil ?_
  refine LCode.seq ?_
  refine LCode.seq ?_
  refine LCode.region ?_
  refine LOps.detP (Det.move rfl) (Nat.le_of_ble_eq_true rfl) ?_
  refine LOps.detP (Slots.cast (Det.not rfl) (show _ = Value.bool false from rfl)) (Nat.le_of_ble_eq_true rfl) ?_
  refine LOps.nil ?_
  refine LCode.cond_false rfl ?_
  refine LCode.skip ?_
  refine LCode.seq ?_
  refine LCode.region ?_
  refine LOps.det (Det.load rfl (by repeat (first | exact List.Mem.head _ | apply List.Mem.tail)) (by exact LoadV.whole Try.underlying31 rfl sz_31)) (Nat.le_of_ble_eq_true rfl) ?_
  refine LOps.det (Det.load rfl (by repeat (first | exact List.Mem.head _ | apply List.Mem.tail)) (by exact LoadV.whole Try.underlying27 rfl sz_27)) (Nat.le_of_ble_eq_true rfl) ?_
  refine LOps.step rfl (LStep.w (LStep.callF (first := []) rfl en_48 rfl (Nat.le_of_ble_eq_true rfl) (fun w hw => c_r_Raw2 Q V R T w (hw _ (by repeat (first | exact List.Mem.head _ | apply List.Mem.tail))) hsz hR hT) ?_))
  refine LOps.detP (Det.move rfl) (Nat.le_of_ble_eq_true rfl) ?_
  refine LOps.detP (Det.extract rfl rfl) (Nat.le_of_ble_eq_true rfl) ?_
  refine LOps.detP (Det.extract rfl rfl) (Nat.le_of_ble_eq_true rfl) ?_
  refine LOps.detP (Det.assign rfl) (Nat.le_of_ble_eq_true rfl) ?_
  refine LOps.detP (Det.assign rfl) (Nat.le_of_ble_eq_true rfl) ?_
  refine LOps.nil ?_
  refine LCode.seq ?_
  refine LCode.region ?_
  refine LOps.det (Det.load rfl (by repeat (first | exact List.Mem.head _ | apply List.Mem.tail)) (by exact LoadV.whole Try.underlying31 rfl sz_31)) (Nat.le_of_ble_eq_true rfl) ?_
  refine LOps.detP (Det.move rfl) (Nat.le_of_ble_eq_true rfl) ?_
  refine LOps.step rfl (LStep.w (LStep.callF (first := []) rfl en_49 rfl (Nat.le_of_ble_eq_true rfl) (fun w hw => c_r_Unraw2 Q V s w (hw _ (by repeat (first | exact List.Mem.head _ | apply List.Mem.tail))) hsz hs) ?_))
  refine LOps.detP (Det.move rfl) (Nat.le_of_ble_eq_true rfl) ?_
  refine LOps.detP (Det.extract rfl rfl) (Nat.le_of_ble_eq_true rfl) ?_
  refine LOps.detP (Det.extract rfl rfl) (Nat.le_of_ble_eq_true rfl) ?_
  refine LOps.step rfl (LStep.w (LStep.makes (Makes.allocA zr_27) (Nat.le_of_ble_eq_true rfl) (fun b15 => ?_)))
  refine LOps.step rfl (LStepW.storeA rfl rfl sz_27 (by exact sgL_one _ _) (by repeat (first | exact SetAt.head _ | apply SetAt.tail)) (by exact sgL_length _ _) ?_)
  refine LOps.detP (Det.assign rfl) (Nat.le_of_ble_eq_true rfl) ?_
  refine LOps.nil ?_
  refine LCode.seq ?_
  refine LCode.region ?_
  refine LOps.detP (Det.move rfl) (Nat.le_of_ble_eq_true rfl) ?_
  refine LOps.detP (Det.move rfl) (Nat.le_of_ble_eq_true rfl) ?_
  refine LOps.detP (Slots.cast (Det.eqs rfl rfl) (congrArg Value.bool (eq_str_t (rfl)))) (Nat.le_of_ble_eq_true rfl) ?_
  refine LOps.detP (Det.move rfl) (Nat.le_of_ble_eq_true rfl) ?_
  refine LOps.detGP rfl rfl (Det.move rfl) (Nat.le_of_ble_eq_true rfl) ?_
  refine LOps.stepG rfl rfl rfl (LStep.w (LStep.callF (first := []) rfl en_46 rfl (Nat.le_of_ble_eq_true rfl) (fun w hw => c_Num _ w) ?_))
  refine LOps.detGP rfl rfl (Det.move rfl) (Nat.le_of_ble_eq_true rfl) ?_
  refine LOps.detGP rfl rfl (Det.bin (v := .bool true) rfl rfl (br_t br_eql (rfl))) (Nat.le_of_ble_eq_true rfl) ?_
  refine LOps.detP (Det.pick_true rfl rfl) (Nat.le_of_ble_eq_true rfl) ?_
  refine LOps.detP (Det.move rfl) (Nat.le_of_ble_eq_true rfl) ?_
  refine LOps.detG rfl rfl (Det.load rfl (by repeat (first | exact List.Mem.head _ | apply List.Mem.tail)) (by exact LoadV.whole Try.underlying27 rfl sz_27)) (Nat.le_of_ble_eq_true rfl) ?_
  refine LOps.detG rfl rfl (Det.load rfl (by repeat (first | exact List.Mem.head _ | apply List.Mem.tail)) (by exact LoadV.whole Try.underlying27 rfl sz_27)) (Nat.le_of_ble_eq_true rfl) ?_
  refine LOps.detGP rfl rfl (Slots.cast (Det.eqa (by kernel_rfl) (fun w => eq_sig (rgR V s) (rgT V s) (rgR V s) (rgT V s) hg.1 hg.2 hg.1 hg.2 10000 (by decide) w) rfl rfl) (show _ = Value.bool true by simp)) (Nat.le_of_ble_eq_true rfl) ?_
  refine LOps.detP (Det.pick_true rfl rfl) (Nat.le_of_ble_eq_true rfl) ?_
  refine LOps.detP (Det.move rfl) (Nat.le_of_ble_eq_true rfl) ?_
  refine LOps.detGP rfl rfl (Det.move rfl) (Nat.le_of_ble_eq_true rfl) ?_
  refine LOps.stepG rfl rfl rfl (LStep.w (LStep.callF (first := []) rfl en_46 rfl (Nat.le_of_ble_eq_true rfl) (fun w hw => c_Num _ w) ?_))
  refine LOps.detGP rfl rfl (Det.move rfl) (Nat.le_of_ble_eq_true rfl) ?_
  refine LOps.detGP rfl rfl (Det.bin (v := .bool true) rfl rfl (br_t br_eql (rfl))) (Nat.le_of_ble_eq_true rfl) ?_
  refine LOps.detP (Det.pick_true rfl rfl) (Nat.le_of_ble_eq_true rfl) ?_
  refine LOps.detP (Det.move rfl) (Nat.le_of_ble_eq_true rfl) ?_
  refine LOps.stepG rfl rfl rfl (LStep.w (LStep.callF (first := []) rfl en_47 rfl (Nat.le_of_ble_eq_true rfl) (fun w hw => c_awake23 w) ?_))
  refine LOps.detP (Det.pick_true rfl rfl) (Nat.le_of_ble_eq_true rfl) ?_
  refine LOps.detP (Det.assign rfl) (Nat.le_of_ble_eq_true rfl) ?_
  refine LOps.nil ?_
  refine LCode.ret ?_
  refine ⟨[_], .cons rfl .nil, fun a w' hr => ⟨?_, hr.fr.below⟩⟩
  rfl

theorem c_Raws (id : Int) (R T : Nat) (s : ByteArray) (w : World) (hR : R < W9) (hT : T < W9) (hs : s.size < 9223372036854775808) : Calls Try.prog 3 ([.int .i64 id, sgV R T, .string s] : List Value).toArray w (fun e w' => e = .returned (.bool true) ∧ Below w.heap.size w w') := by
  cases h : cvI id with
  | none => exact c_Raws_none id R T s w h
  | some V => exact c_Raws_some id V R T s w h hR hT hs

end Go.Proofs.Ytljblbgogjieaaa
