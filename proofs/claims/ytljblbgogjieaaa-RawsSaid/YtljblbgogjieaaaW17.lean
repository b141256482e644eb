/- Walks: what functions of the program come to, step by step. -/
import Derived.Test.YtljblbgogjieaaaW16
set_option linter.unusedVariables false
set_option linter.unusedSimpArgs false
set_option maxRecDepth 20000
namespace Go.Proofs.Ytljblbgogjieaaa
open Go Go.RowKit

theorem cmp_ge_t {A B : Nat} (h : B ≤ A) : binRes .geq .i64 (cmpI A B) .i64 0 = some (.bool true) := by
  have h1 : ¬ A < B := by omega
  unfold cmpI
  rw [if_neg h1]
  split <;> rfl
theorem cmp_ge_f {A B : Nat} (h : A < B) : binRes .geq .i64 (cmpI A B) .i64 0 = some (.bool false) := by
  unfold cmpI
  rw [if_pos h]; rfl
/-- A signature. -/
def sgL (R T : Nat) : List Value := natL R ++ natL T
def sgV (R T : Nat) : Value := .agg (sgL R T).toArray
theorem sgL_one (R T : Nat) : AllOne (sgL R T) := allOne_append (natL_one _) (natL_one _)
theorem sgL_length (R T : Nat) : (sgL R T).length = 18 := by simp [sgL, natL_length]
/-- How many bytes a number has. -/
def nby (N : Nat) : Nat := (blen N + 7) / 8
theorem nby_le {A N : Nat} (h : A < N) : ¬ 8 * nby N < blen A := by
  have : blen A ≤ blen N := blen_le (Nat.lt_trans h (lt_blen N))
  unfold nby; omega
theorem blen_nw (A : Nat) : blen A ≤ 32 * D.nw A := by unfold D.nw; omega
/-- A signature as text, and an error's number; a text as one. -/
def rawPut (V : Cv) (R T : Nat) : Value := if V.n ≤ R ∨ V.n ≤ T then .tuple #[.string ⟨#[]⟩, .int .i64 ((2302 : Nat) : Int)] else .tuple #[.string (strOf (beBytes (nby V.n) R) ++ strOf (beBytes (nby V.n) T)), .int .i64 ((0 : Nat) : Int)]
def rawR (V : Cv) (s : ByteArray) : Nat := beVal (s.extract 0 (nby V.n)).data.toList
def rawT (V : Cv) (s : ByteArray) : Nat := beVal (s.extract (nby V.n) s.size).data.toList
def rawGet (V : Cv) (s : ByteArray) : Value := if s.size ≠ 2 * nby V.n then .tuple #[sgV 0 0, .int .i64 ((2301 : Nat) : Int)] else if V.n ≤ rawR V s ∨ V.n ≤ rawT V s then .tuple #[sgV 0 0, .int .i64 ((2302 : Nat) : Int)] else .tuple #[sgV (rawR V s) (rawT V s), .int .i64 ((0 : Nat) : Int)]

theorem c_n_BytesOK (q : NV) (A n : Nat) (w : World) (hq : (numT q A).holds w) (hA : D.nw A ≤ 1000000) (hn : n ≤ 72) (hf : ¬ 8 * n < blen A) : Calls Try.prog 54 ([numV q A, .int .i64 ((n : Nat) : Int)] : List Value).toArray w (fun e w' => e = .returned (.tuple #[.string (strOf (beBytes n A)), .bool true]) ∧ Below w.heap.size w w') := by
  have h := c_n_Bytes q A n w hq hA hn
  rwa [if_neg hf] at h
theorem c_nat_BytesOK (A n : Nat) (w : World) (hA : A < W9) (hn : n ≤ 72) (hf : ¬ 8 * n < blen A) : Calls Try.prog 114 ([natV A, .int .i64 ((n : Nat) : Int)] : List Value).toArray w (fun e w' => e = .returned (.tuple #[.string (strOf (beBytes n A)), .int .i64 ((0 : Nat) : Int)]) ∧ Below w.heap.size w w') := by
  have h := c_nat_Bytes A n hA hn w
  rwa [if_neg hf] at h

theorem c_r_NSize (Q : CQ) (V : Cv) (w : World) (hc : (crvI Q V).holds w) (hsz : V.Sz) : Calls Try.prog 53 ([.agg (crvL Q V).toArray] : List Value).toArray w (fun e w' => e = .returned (.int .i64 ((nby V.n : Nat) : Int)) ∧ Below w.heap.size w w') := by
  have hsn := hsz.n
  refine calls_ro (N := 8) (rs := [.tmp 2]) [crvI Q V] Try.func53 rfl Try.ntmps53 Try.results53 (Nat.le_of_ble_eq_true rfl) ⟨hc, trivial⟩ rfl ?_
  show LCode _ _ _ ⟨_, _⟩ _
  refine LCode.seq ?_
  refine LCode.region ?_
  refine LOps.step rfl (LStep.w (LStep.makes (Makes.boxA rfl) (Nat.le_of_ble_eq_true rfl) (fun b1 => ?_)))
  refine LOps.detP (Det.assign (v := .int .i64 ((0 : Nat) : Int)) rfl) (Nat.le_of_ble_eq_true rfl) ?_
  refine LOps.nil ?_
  refine LCode.seq ?_
  have hbn := blen_nw V.n
  refine LCode.region ?_
  refine LOps.detP (Det.fieldA (o' := 4) Try.underlying31 rfl rfl rfl sz_29 (by decide)) (Nat.le_of_ble_eq_true rfl) ?_
  refine LOps.det (Det.load rfl (by repeat (first | exact List.Mem.head _ | apply List.Mem.tail)) (LoadV.one Try.underlying29 rfl (by first | rfl | exact vec_get _ _ _ (by omega) | exact natL_get _ (by omega) | exact wideL_get _ (by omega) | exact dv_m _ _ _ (by omega)))) (Nat.le_of_ble_eq_true rfl) ?_
  refine LOps.step rfl (LStep.w (LStep.callF (first := []) rfl en_76 rfl (Nat.le_of_ble_eq_true rfl) (fun w hw => c_n_Bits Q.n V.n w (crvI_n (hw _ (by repeat (first | exact List.Mem.head _ | apply List.Mem.tail)))) (by omega)) ?_))
  refine LOps.detP (Det.bin rfl rfl (br_add (b := 7) (by omega))) (Nat.le_of_ble_eq_true rfl) ?_
  refine LOps.detP (Det.bin rfl rfl (br_quo (b := 8) (by omega) (by omega))) (Nat.le_of_ble_eq_true rfl) ?_
  refine LOps.detP (Det.assign rfl) (Nat.le_of_ble_eq_true rfl) ?_
  refine LOps.nil ?_
  refine LCode.ret ?_
  refine ⟨[_], .cons rfl .nil, fun a w' hr => ⟨?_, hr.fr.below⟩⟩
  rfl

theorem c_r_Size (Q : CQ) (V : Cv) (w : World) (hc : (crvI Q V).holds w) (hsz : V.Sz) : Calls Try.prog 68 ([.agg (crvL Q V).toArray] : List Value).toArray w (fun e w' => e = .returned (.int .i64 ((nby V.p : Nat) : Int)) ∧ Below w.heap.size w w') := by
  have hsn := hsz.p
  refine calls_ro (N := 8) (rs := [.tmp 2]) [crvI Q V] Try.func68 rfl Try.ntmps68 Try.results68 (Nat.le_of_ble_eq_true rfl) ⟨hc, trivial⟩ rfl ?_
  show LCode _ _ _ ⟨_, _⟩ _
  refine LCode.seq ?_
  refine LCode.region ?_
  refine LOps.step rfl (LStep.w (LStep.makes (Makes.boxA rfl) (Nat.le_of_ble_eq_true rfl) (fun b1 => ?_)))
  refine LOps.detP (Det.assign (v := .int .i64 ((0 : Nat) : Int)) rfl) (Nat.le_of_ble_eq_true rfl) ?_
  refine LOps.nil ?_
  refine LCode.seq ?_
  have hbn := blen_nw V.p
  refine LCode.region ?_
  refine LOps.detP (Det.fieldA (o' := 1) Try.underlying31 rfl rfl rfl sz_29 (by decide)) (Nat.le_of_ble_eq_true rfl) ?_
  refine LOps.det (Det.load rfl (by repeat (first | exact List.Mem.head _ | apply List.Mem.tail)) (LoadV.one Try.underlying29 rfl (by first | rfl | exact vec_get _ _ _ (by omega) | exact natL_get _ (by omega) | exact wideL_get _ (by omega) | exact dv_m _ _ _ (by omega)))) (Nat.le_of_ble_eq_true rfl) ?_
  refine LOps.step rfl (LStep.w (LStep.callF (first := []) rfl en_76 rfl (Nat.le_of_ble_eq_true rfl) (fun w hw => c_n_Bits Q.p V.p w (crvI_p (hw _ (by repeat (first | exact List.Mem.head _ | apply List.Mem.tail)))) (by omega)) ?_))
  refine LOps.detP (Det.bin rfl rfl (br_add (b := 7) (by omega))) (Nat.le_of_ble_eq_true rfl) ?_
  refine LOps.detP (Det.bin rfl rfl (br_quo (b := 8) (by omega) (by omega))) (Nat.le_of_ble_eq_true rfl) ?_
  refine LOps.detP (Det.assign rfl) (Nat.le_of_ble_eq_true rfl) ?_
  refine LOps.nil ?_
  refine LCode.ret ?_
  refine ⟨[_], .cons rfl .nil, fun a w' hr => ⟨?_, hr.fr.below⟩⟩
  rfl

theorem str_size (n A : Nat) : (strOf (beBytes n A)).size = n := by
  show (beBytes n A).toArray.size = n
  rw [List.size_toArray, beBytes_length]

theorem c_r_Raw (Q : CQ) (V : Cv) (R T : Nat) (w : World) (hc : (crvI Q V).holds w) (hsz : V.Sz) (hR : R < W9) (hT : T < W9) : Calls Try.prog 48 ([.agg (crvL Q V).toArray, sgV R T] : List Value).toArray w (fun e w' => e = .returned (rawPut V R T) ∧ Below w.heap.size w w') := by
  refine calls_ro (N := 47) (rs := [.tmp 4, .tmp 5]) [crvI Q V] Try.func48 rfl Try.ntmps48 Try.results48 (Nat.le_of_ble_eq_true rfl) ⟨hc, trivial⟩ rfl ?_
  show LCode _ _ _ ⟨_, _⟩ _
  refine LCode.seq ?_
  refine LCode.region ?_
  refine LOps.step rfl (LStep.w (LStep.makes (Makes.boxA rfl) (Nat.le_of_ble_eq_true rfl) (fun b2 => ?_)))
  refine LOps.step rfl (LStep.w (LStep.makes (Makes.boxA rfl) (Nat.le_of_ble_eq_true rfl) (fun b3 => ?_)))
  refine LOps.detP (Det.assign rfl) (Nat.le_of_ble_eq_true rfl) ?_
  refine LOps.detP (Det.assign (v := .int .i64 ((0 : Nat) : Int)) rfl) (Nat.le_of_ble_eq_true rfl) ?_
  refine LOps.nil ?_
  refine LCode.seq ?_
  have hRd := nw_w9_dig hR
  have hTd := nw_w9_dig hT
  have hsn := hsz.n
  have hbn := blen_nw V.n
  refine LCode.regionD [] (by kernel_rfl) ?_
  refine LAny.takeP 0 rfl (by kernel_rfl) (Nat.le_of_ble_eq_true rfl) (Det.fieldA (o' := 0) Try.underlying27 rfl rfl rfl sz_25 (by decide)) ?_
  refine LAny.take 1 rfl (by kernel_rfl) (Nat.le_of_ble_eq_true rfl) (Det.load rfl (by repeat (first | exact List.Mem.head _ | apply List.Mem.tail)) (by exact LoadV.first Try.underlying25 rfl sz_25 rfl (natL_length _))) ?_
  refine LAny.takeP 3 rfl (by kernel_rfl) (Nat.le_of_ble_eq_true rfl) (Det.fieldA (o' := 9) Try.underlying27 rfl rfl rfl sz_25 (by decide)) ?_
  refine LAny.take 4 rfl (by kernel_rfl) (Nat.le_of_ble_eq_true rfl) (Det.load rfl (by repeat (first | exact List.Mem.head _ | apply List.Mem.tail)) (by exact LoadV.last Try.underlying25 rfl sz_25 rfl (natL_length _) (natL_length _))) ?_
  refine LAny.one 2 rfl rfl (by kernel_rfl) (LStep.callZ (first := []) rfl en_52 rfl (Nat.le_of_ble_eq_true rfl) (fun w hw hs => (c_n_From R hR w).mono fun e w' h => NumR.q (Old.nil _) hs h) ?_)
  rintro _ _ ⟨q14, rfl, rfl, hn14⟩
  refine LAny.one 5 rfl rfl (by kernel_rfl) (LStep.callZ (first := []) rfl en_52 rfl (Nat.le_of_ble_eq_true rfl) (fun w hw hs => (c_n_From T hT w).mono fun e w' h => NumR.q (Old.nil _) hs h) ?_)
  rintro _ _ ⟨q17, rfl, rfl, hn17⟩
  refine LAny.takeP 6 rfl (by kernel_rfl) (Nat.le_of_ble_eq_true rfl) (Det.assign rfl) ?_
  refine LAny.takeP 7 rfl (by kernel_rfl) (Nat.le_of_ble_eq_true rfl) (Det.assign rfl) ?_
  refine LAny.done (by kernel_rfl) ?_
  refine LCode.seq ?_
  refine LCode.seq ?_
  rcases (show V.n ≤ R ∨ (R < V.n ∧ V.n ≤ T) ∨ (R < V.n ∧ T < V.n) by omega) with hg | ⟨hl, hg⟩ | ⟨hl, hl2⟩
  ·
    refine LCode.region ?_
    refine LOps.detP (Det.move rfl) (Nat.le_of_ble_eq_true rfl) ?_
    refine LOps.detP (Det.fieldA (o' := 4) Try.underlying31 rfl rfl rfl sz_29 (by decide)) (Nat.le_of_ble_eq_true rfl) ?_
    refine LOps.det (Det.load rfl (by repeat (first | exact List.Mem.head _ | apply List.Mem.tail)) (LoadV.one Try.underlying29 rfl (by first | rfl | exact vec_get _ _ _ (by omega) | exact natL_get _ (by omega) | exact wideL_get _ (by omega) | exact dv_m _ _ _ (by omega)))) (Nat.le_of_ble_eq_true rfl) ?_
    refine LOps.step rfl (LStep.w (LStep.callF (first := []) rfl en_70 rfl (Nat.le_of_ble_eq_true rfl) (fun w hw => c_n_Cmp q14 Q.n R V.n w (hw _ (by repeat (first | exact List.Mem.head _ | apply List.Mem.tail))) (crvI_n (hw _ (by repeat (first | exact List.Mem.head _ | apply List.Mem.tail)))) (by omega)) ?_))
    refine LOps.detP (Det.bin (v := .bool true) rfl rfl (cmp_ge_t hg)) (Nat.le_of_ble_eq_true rfl) ?_
    refine LOps.detP (Det.move rfl) (Nat.le_of_ble_eq_true rfl) ?_
    refine LOps.skip rfl rfl rfl (Nat.le_of_ble_eq_true rfl) ?_
    refine LOps.skip rfl rfl rfl (Nat.le_of_ble_eq_true rfl) ?_
    refine LOps.skip rfl rfl rfl (Nat.le_of_ble_eq_true rfl) ?_
    refine LOps.skip rfl rfl rfl (Nat.le_of_ble_eq_true rfl) ?_
    refine LOps.skip rfl rfl rfl (Nat.le_of_ble_eq_true rfl) ?_
    refine LOps.detP (Det.pick_true rfl rfl) (Nat.le_of_ble_eq_true rfl) ?_
    refine LOps.nil ?_
    refine LCode.cond_true rfl ?_
    refine LCode.seq ?_
    refine LCode.region ?_
    refine LOps.detP (Det.assign rfl) (Nat.le_of_ble_eq_true rfl) ?_
    refine LOps.detP (Det.assign (v := .int .i64 ((2302 : Nat) : Int)) rfl) (Nat.le_of_ble_eq_true rfl) ?_
    refine LOps.nil ?_
    refine LCode.ret ?_
    refine ⟨[_, _], .cons rfl (.cons rfl .nil), fun a w' hr => ⟨?_, hr.fr.below⟩⟩
    unfold rawPut
    rw [if_pos (.inl hg)]
    rfl
  ·
    refine LCode.region ?_
    refine LOps.detP (Det.move rfl) (Nat.le_of_ble_eq_true rfl) ?_
    refine LOps.detP (Det.fieldA (o' := 4) Try.underlying31 rfl rfl rfl sz_29 (by decide)) (Nat.le_of_ble_eq_true rfl) ?_
    refine LOps.det (Det.load rfl (by repeat (first | exact List.Mem.head _ | apply List.Mem.tail)) (LoadV.one Try.underlying29 rfl (by first | rfl | exact vec_get _ _ _ (by omega) | exact natL_get _ (by omega) | exact wideL_get _ (by omega) | exact dv_m _ _ _ (by omega)))) (Nat.le_of_ble_eq_true rfl) ?_
    refine LOps.step rfl (LStep.w (LStep.callF (first := []) rfl en_70 rfl (Nat.le_of_ble_eq_true rfl) (fun w hw => c_n_Cmp q14 Q.n R V.n w (hw _ (by repeat (first | exact List.Mem.head _ | apply List.Mem.tail))) (crvI_n (hw _ (by repeat (first | exact List.Mem.head _ | apply List.Mem.tail)))) (by omega)) ?_))
    refine LOps.detP (Det.bin (v := .bool false) rfl rfl (cmp_ge_f hl)) (Nat.le_of_ble_eq_true rfl) ?_
    refine LOps.detP (Det.move rfl) (Nat.le_of_ble_eq_true rfl) ?_
    refine LOps.detGP rfl rfl (Det.move rfl) (Nat.le_of_ble_eq_true rfl) ?_
    refine LOps.detGP rfl rfl (Det.fieldA (o' := 4) Try.underlying31 rfl rfl rfl sz_29 (by decide)) (Nat.le_of_ble_eq_true rfl) ?_
    refine LOps.detG rfl rfl (Det.load rfl (by repeat (first | exact List.Mem.head _ | apply List.Mem.tail)) (LoadV.one Try.underlying29 rfl (by first | rfl | exact vec_get _ _ _ (by omega) | exact natL_get _ (by omega) | exact wideL_get _ (by omega) | exact dv_m _ _ _ (by omega)))) (Nat.le_of_ble_eq_true rfl) ?_
    refine LOps.stepG rfl rfl rfl (LStep.w (LStep.callF (first := []) rfl en_70 rfl (Nat.le_of_ble_eq_true rfl) (fun w hw => c_n_Cmp q17 Q.n T V.n w (hw _ (by repeat (first | exact List.Mem.head _ | apply List.Mem.tail))) (crvI_n (hw _ (by repeat (first | exact List.Mem.head _ | apply List.Mem.tail)))) (by omega)) ?_))
    refine LOps.detGP rfl rfl (Det.bin (v := .bool true) rfl rfl (cmp_ge_t hg)) (Nat.le_of_ble_eq_true rfl) ?_
    refine LOps.detP (Det.pick_false rfl rfl) (Nat.le_of_ble_eq_true rfl) ?_
    refine LOps.nil ?_
    refine LCode.cond_true rfl ?_
    refine LCode.seq ?_
    refine LCode.region ?_
    refine LOps.detP (Det.assign rfl) (Nat.le_of_ble_eq_true rfl) ?_
    refine LOps.detP (Det.assign (v := .int .i64 ((2302 : Nat) : Int)) rfl) (Nat.le_of_ble_eq_true rfl) ?_
    refine LOps.nil ?_
    refine LCode.ret ?_
    refine ⟨[_, _], .cons rfl (.cons rfl .nil), fun a w' hr => ⟨?_, hr.fr.below⟩⟩
    unfold rawPut
    rw [if_pos (.inr hg)]
    rfl
  ·
    refine LCode.region ?_
    refine LOps.detP (Det.move rfl) (Nat.le_of_ble_eq_true rfl) ?_
    refine LOps.detP (Det.fieldA (o' := 4) Try.underlying31 rfl rfl rfl sz_29 (by decide)) (Nat.le_of_ble_eq_true rfl) ?_
    refine LOps.det (Det.load rfl (by repeat (first | exact List.Mem.head _ | apply List.Mem.tail)) (LoadV.one Try.underlying29 rfl (by first | rfl | exact vec_get _ _ _ (by omega) | exact natL_get _ (by omega) | exact wideL_get _ (by omega) | exact dv_m _ _ _ (by omega)))) (Nat.le_of_ble_eq_true rfl) ?_
    refine LOps.step rfl (LStep.w (LStep.callF (first := []) rfl en_70 rfl (Nat.le_of_ble_eq_true rfl) (fun w hw => c_n_Cmp q14 Q.n R V.n w (hw _ (by repeat (first | exact List.Mem.head _ | apply List.Mem.tail))) (crvI_n (hw _ (by repeat (first | exact List.Mem.head _ | apply List.Mem.tail)))) (by omega)) ?_))
    refine LOps.detP (Det.bin (v := .bool false) rfl rfl (cmp_ge_f hl)) (Nat.le_of_ble_eq_true rfl) ?_
    refine LOps.detP (Det.move rfl) (Nat.le_of_ble_eq_true rfl) ?_
    refine LOps.detGP rfl rfl (Det.move rfl) (Nat.le_of_ble_eq_true rfl) ?_
    refine LOps.detGP rfl rfl (Det.fieldA (o' := 4) Try.underlying31 rfl rfl rfl sz_29 (by decide)) (Nat.le_of_ble_eq_true rfl) ?_
    refine LOps.detG rfl rfl (Det.load rfl (by repeat (first | exact List.Mem.head _ | apply List.Mem.tail)) (LoadV.one Try.underlying29 rfl (by first | rfl | exact vec_get _ _ _ (by omega) | exact natL_get _ (by omega) | exact wideL_get _ (by omega) | exact dv_m _ _ _ (by omega)))) (Nat.le_of_ble_eq_true rfl) ?_
    refine LOps.stepG rfl rfl rfl (LStep.w (LStep.callF (first := []) rfl en_70 rfl (Nat.le_of_ble_eq_true rfl) (fun w hw => c_n_Cmp q17 Q.n T V.n w (hw _ (by repeat (first | exact List.Mem.head _ | apply List.Mem.tail))) (crvI_n (hw _ (by repeat (first | exact List.Mem.head _ | apply List.Mem.tail)))) (by omega)) ?_))
    refine LOps.detGP rfl rfl (Det.bin (v := .bool false) rfl rfl (cmp_ge_f hl2)) (Nat.le_of_ble_eq_true rfl) ?_
    refine LOps.detP (Det.pick_false rfl rfl) (Nat.le_of_ble_eq_true rfl) ?_
    refine LOps.nil ?_
    refine LCode.cond_false rfl ?_
    refine LCode.skip ?_
    refine LCode.seq ?_
    refine LCode.region ?_
    refine LOps.detP (Det.move rfl) (Nat.le_of_ble_eq_true rfl) ?_
    refine LOps.det (Det.load rfl (by repeat (first | exact List.Mem.head _ | apply List.Mem.tail)) (by exact LoadV.whole Try.underlying31 rfl sz_31)) (Nat.le_of_ble_eq_true rfl) ?_
    refine LOps.step rfl (LStep.w (LStep.callF (first := []) rfl en_53 rfl (Nat.le_of_ble_eq_true rfl) (fun w hw => c_r_NSize Q V w (hw _ (by repeat (first | exact List.Mem.head _ | apply List.Mem.tail))) hsz) ?_))
    refine LOps.step rfl (LStep.w (LStep.callF (first := []) rfl en_54 rfl (Nat.le_of_ble_eq_true rfl) (fun w hw => c_n_BytesOK q14 R (nby V.n) w (hw _ (by repeat (first | exact List.Mem.head _ | apply List.Mem.tail))) (by omega) (by unfold nby; omega) (nby_le hl)) ?_))
    refine LOps.detP (Det.move rfl) (Nat.le_of_ble_eq_true rfl) ?_
    refine LOps.detP (Det.extract rfl rfl) (Nat.le_of_ble_eq_true rfl) ?_
    refine LOps.detP (Det.extract rfl rfl) (Nat.le_of_ble_eq_true rfl) ?_
    refine LOps.detP (Det.assign rfl) (Nat.le_of_ble_eq_true rfl) ?_
    refine LOps.detP (Det.assign rfl) (Nat.le_of_ble_eq_true rfl) ?_
    refine LOps.nil ?_
    refine LCode.seq ?_
    refine LCode.region ?_
    refine LOps.detP (Det.move rfl) (Nat.le_of_ble_eq_true rfl) ?_
    refine LOps.det (Det.load rfl (by repeat (first | exact List.Mem.head _ | apply List.Mem.tail)) (by exact LoadV.whole Try.underlying31 rfl sz_31)) (Nat.le_of_ble_eq_true rfl) ?_
    refine LOps.step rfl (LStep.w (LStep.callF (first := []) rfl en_53 rfl (Nat.le_of_ble_eq_true rfl) (fun w hw => c_r_NSize Q V w (hw _ (by repeat (first | exact List.Mem.head _ | apply List.Mem.tail))) hsz) ?_))
    refine LOps.step rfl (LStep.w (LStep.callF (first := []) rfl en_54 rfl (Nat.le_of_ble_eq_true rfl) (fun w hw => c_n_BytesOK q17 T (nby V.n) w (hw _ (by repeat (first | exact List.Mem.head _ | apply List.Mem.tail))) (by omega) (by unfold nby; omega) (nby_le hl2)) ?_))
    refine LOps.detP (Det.move rfl) (Nat.le_of_ble_eq_true rfl) ?_
    refine LOps.detP (Det.extract rfl rfl) (Nat.le_of_ble_eq_true rfl) ?_
    refine LOps.detP (Det.extract rfl rfl) (Nat.le_of_ble_eq_true rfl) ?_
    refine LOps.detP (Det.assign rfl) (Nat.le_of_ble_eq_true rfl) ?_
    refine LOps.detP (Det.assign rfl) (Nat.le_of_ble_eq_true rfl) ?_
    refine LOps.nil ?_
    refine LCode.seq ?_
    refine LCode.region ?_
    refine LOps.detP (Det.move rfl) (Nat.le_of_ble_eq_true rfl) ?_
    refine LOps.detP (Det.move rfl) (Nat.le_of_ble_eq_true rfl) ?_
    refine LOps.detP (Det.cat rfl rfl (by have h1 := str_size (nby V.n) R; have h2 := str_size (nby V.n) T; have h3 : nby V.n ≤ 72 := (by unfold nby; omega); omega)) (Nat.le_of_ble_eq_true rfl) ?_
    refine LOps.detP (Det.assign rfl) (Nat.le_of_ble_eq_true rfl) ?_
    refine LOps.detP (Det.assign (v := .int .i64 ((0 : Nat) : Int)) rfl) (Nat.le_of_ble_eq_true rfl) ?_
    refine LOps.nil ?_
    refine LCode.ret ?_
    refine ⟨[_, _], .cons rfl (.cons rfl .nil), fun a w' hr => ⟨?_, hr.fr.below⟩⟩
    unfold rawPut
    rw [if_neg (by omega)]
    rfl

theorem ext_size (s : ByteArray) (i j : Nat) (hj : j ≤ s.size) : (s.extract i j).size = j - i := by
  simp [ByteArray.size_extract]; omega

theorem sg_zero' : (vec .u64 9 (fun _ => 0) ++ vec .u64 9 (fun _ => 0) : List Value) = sgL 0 0 := by unfold sgL natL; rw [vec_zeros 9]
theorem sg_zero : Value.agg (vec .u64 9 (fun _ => 0) ++ vec .u64 9 (fun _ => 0) : List Value).toArray = sgV 0 0 := by rw [sg_zero']; rfl

theorem fill_sg (R T : Nat) : fillL [(0, 9), (9, 9)] (vec .u64 9 (fun _ => 0) ++ vec .u64 9 (fun _ => 0)) [(0, natV R), (1, natV T)] = some (sgL R T) := by
  refine fillL_step (A := []) (B := vec .u64 9 (fun _ => 0)) (D := vec .u64 9 (fun _ => 0)) (cs := natL R) rfl rfl (natL_length _) rfl rfl (vec_length _ _ _) ?_
  refine (fillL_step (A := natL R) (B := vec .u64 9 (fun _ => 0)) (D := []) (cs := natL T) rfl rfl (natL_length _) (by simp) (natL_length _) (vec_length _ _ _) rfl).trans ?_
  simp [sgL]

theorem c_r_Unraw (Q : CQ) (V : Cv) (s : ByteArray) (w : World) (hc : (crvI Q V).holds w) (hsz : V.Sz) (hs : s.size < 9223372036854775808) : Calls Try.prog 49 ([.agg (crvL Q V).toArray, .string s] : List Value).toArray w (fun e w' => e = .returned (rawGet V s) ∧ Below w.heap.size w w') := by
  refine calls_ro (N := 43) (rs := [.cell 4 27, .tmp 5]) [crvI Q V] Try.func49 rfl Try.ntmps49 Try.results49 (Nat.le_of_ble_eq_true rfl) ⟨hc, trivial⟩ rfl ?_
  show LCode _ _ _ ⟨_, _⟩ _
  refine LCode.seq ?_
  refine LCode.region ?_
  refine LOps.step rfl (LStep.w (LStep.makes (Makes.boxA rfl) (Nat.le_of_ble_eq_true rfl) (fun b2 => ?_)))
  refine LOps.step rfl (LStep.w (LStep.makes (Makes.allocA zr_27) (Nat.le_of_ble_eq_true rfl) (fun b4 => ?_)))
  refine LOps.detP (Det.assign (v := .int .i64 ((0 : Nat) : Int)) rfl) (Nat.le_of_ble_eq_true rfl) ?_
  refine LOps.nil ?_
  refine LCode.seq ?_
  have hsn := hsz.n
  have hbn := blen_nw V.n
  have hnb : nby V.n ≤ 72 := by (unfold nby; omega)
  refine LCode.region ?_
  refine LOps.det (Det.load rfl (by repeat (first | exact List.Mem.head _ | apply List.Mem.tail)) (by exact LoadV.whole Try.underlying31 rfl sz_31)) (Nat.le_of_ble_eq_true rfl) ?_
  refine LOps.step rfl (LStep.w (LStep.callF (first := []) rfl en_53 rfl (Nat.le_of_ble_eq_true rfl) (fun w hw => c_r_NSize Q V w (hw _ (by repeat (first | exact List.Mem.head _ | apply List.Mem.tail))) hsz) ?_))
  refine LOps.detP (Det.assign rfl) (Nat.le_of_ble_eq_true rfl) ?_
  refine LOps.nil ?_
  refine LCode.seq ?_
  refine LCode.seq ?_
  refine LCode.region ?_
  refine LOps.detP (Det.move rfl) (Nat.le_of_ble_eq_true rfl) ?_
  refine LOps.detP (Det.lens Try.underlying9 rfl) (Nat.le_of_ble_eq_true rfl) ?_
  refine LOps.detP (Det.move rfl) (Nat.le_of_ble_eq_true rfl) ?_
  refine LOps.detP (Det.bin rfl rfl (br_mul (a := 2) (by omega))) (Nat.le_of_ble_eq_true rfl) ?_
  refine LOps.detP (Det.bin rfl rfl (br_neq)) (Nat.le_of_ble_eq_true rfl) ?_
  refine LOps.nil ?_
  first | refine LCode.condD rfl (fun h15 => ?_) (fun h15 => ?_) | refine LCode.cond rfl (fun h15 => ?_) (fun h15 => ?_)
  ·
    have h15 : s.size ≠ 2 * nby V.n := by have := h15; simpa using this
    refine LCode.seq ?_
    refine LCode.region ?_
    refine LOps.detP (Slots.cast (Det.build pl_27 zr_27 rfl rfl) (show _ = sgV 0 0 from sg_zero)) (Nat.le_of_ble_eq_true rfl) ?_
    refine LOps.step rfl (LStepW.storeA rfl rfl sz_27 (by exact sgL_one _ _) (by repeat (first | exact SetAt.head _ | apply SetAt.tail)) (by exact sgL_length _ _) ?_)
    refine LOps.detP (Det.assign (v := .int .i64 ((2301 : Nat) : Int)) rfl) (Nat.le_of_ble_eq_true rfl) ?_
    refine LOps.nil ?_
    refine LCode.ret ?_
    refine ⟨[_, _], .cons ⟨_, _, _, rfl, (by repeat (first | exact List.Mem.head _ | apply List.Mem.tail)), by exact LoadV.whole Try.underlying27 rfl sz_27⟩ (.cons rfl .nil), fun a w' hr => ⟨?_, hr.fr.below⟩⟩
    unfold rawGet
    rw [if_pos h15]
    rfl
  ·
    have h15 : s.size = 2 * nby V.n := by have := h15; simpa using this
    refine LCode.skip ?_
    refine LCode.seq ?_
    refine LCode.regionD [] (by kernel_rfl) ?_
    refine LAny.takeP 0 rfl (by kernel_rfl) (Nat.le_of_ble_eq_true rfl) (Det.move rfl) ?_
    refine LAny.takeP 1 rfl (by kernel_rfl) (Nat.le_of_ble_eq_true rfl) (Det.move rfl) ?_
    refine LAny.takeP 2 rfl (by kernel_rfl) (Nat.le_of_ble_eq_true rfl) (Slots.cast (Det.slStrH Try.underlying9 rfl rfl (by omega) (by omega)) (by rw [Int.toNat_natCast])) ?_
    refine LAny.takeP 4 rfl (by kernel_rfl) (Nat.le_of_ble_eq_true rfl) (Det.move rfl) ?_
    refine LAny.takeP 5 rfl (by kernel_rfl) (Nat.le_of_ble_eq_true rfl) (Det.move rfl) ?_
    refine LAny.takeP 6 rfl (by kernel_rfl) (Nat.le_of_ble_eq_true rfl) (Slots.cast (Det.slStrL Try.underlying9 rfl rfl (by omega) (by omega)) (by rw [Int.toNat_natCast])) ?_
    refine LAny.one 3 rfl rfl (by kernel_rfl) (LStep.callZ (first := []) rfl en_117 rfl (Nat.le_of_ble_eq_true rfl) (fun w hw hs => (c_n_Read (s.extract 0 (nby V.n)) w (by rw [ext_size _ _ _ (by omega)]; omega)).mono fun e w' h => NumR.q (Old.nil _) hs h) ?_)
    rintro _ _ ⟨q20, rfl, rfl, hn20⟩
    refine LAny.one 7 rfl rfl (by kernel_rfl) (LStep.callZ (first := []) rfl en_117 rfl (Nat.le_of_ble_eq_true rfl) (fun w hw hs => (c_n_Read (s.extract (nby V.n) s.size) w (by rw [ext_size _ _ _ (Nat.le_refl _)]; omega)).mono fun e w' h => NumR.q (Old.nil _) hs h) ?_)
    rintro _ _ ⟨q24, rfl, rfl, hn24⟩
    refine LAny.takeP 8 rfl (by kernel_rfl) (Nat.le_of_ble_eq_true rfl) (Det.assign rfl) ?_
    refine LAny.takeP 9 rfl (by kernel_rfl) (Nat.le_of_ble_eq_true rfl) (Det.assign rfl) ?_
    refine LAny.done (by kernel_rfl) ?_
    refine LCode.seq ?_
    refine LCode.seq ?_
    rcases (show V.n ≤ rawR V s ∨ (rawR V s < V.n ∧ V.n ≤ rawT V s) ∨ (rawR V s < V.n ∧ rawT V s < V.n) by omega) with hg | ⟨hl, hg⟩ | ⟨hl, hl2⟩
    ·
      have hRw : rawR V s < W9 := beVal_w9 (by show (s.extract 0 (nby V.n)).size ≤ 72; rw [ext_size _ _ _ (by omega)]; omega)
      have hTw : rawT V s < W9 := beVal_w9 (by show (s.extract (nby V.n) s.size).size ≤ 72; rw [ext_size _ _ _ (Nat.le_refl _)]; omega)
      have hRd := nw_w9_dig hRw
      have hTd := nw_w9_dig hTw
      refine LCode.region ?_
      refine LOps.detP (Det.move rfl) (Nat.le_of_ble_eq_true rfl) ?_
      refine LOps.detP (Det.fieldA (o' := 4) Try.underlying31 rfl rfl rfl sz_29 (by decide)) (Nat.le_of_ble_eq_true rfl) ?_
      refine LOps.det (Det.load rfl (by repeat (first | exact List.Mem.head _ | apply List.Mem.tail)) (LoadV.one Try.underlying29 rfl (by first | rfl | exact vec_get _ _ _ (by omega) | exact natL_get _ (by omega) | exact wideL_get _ (by omega) | exact dv_m _ _ _ (by omega)))) (Nat.le_of_ble_eq_true rfl) ?_
      refine LOps.step rfl (LStep.w (LStep.callF (first := []) rfl en_70 rfl (Nat.le_of_ble_eq_true rfl) (fun w hw => c_n_Cmp q20 Q.n (rawR V s) V.n w (hw _ (by repeat (first | exact List.Mem.head _ | apply List.Mem.tail))) (crvI_n (hw _ (by repeat (first | exact List.Mem.head _ | apply List.Mem.tail)))) (by omega)) ?_))
      refine LOps.detP (Det.bin (v := .bool true) rfl rfl (cmp_ge_t hg)) (Nat.le_of_ble_eq_true rfl) ?_
      refine LOps.detP (Det.move rfl) (Nat.le_of_ble_eq_true rfl) ?_
      refine LOps.skip rfl rfl rfl (Nat.le_of_ble_eq_true rfl) ?_
      refine LOps.skip rfl rfl rfl (Nat.le_of_ble_eq_true rfl) ?_
      refine LOps.skip rfl rfl rfl (Nat.le_of_ble_eq_true rfl) ?_
      refine LOps.skip rfl rfl rfl (Nat.le_of_ble_eq_true rfl) ?_
      refine LOps.skip rfl rfl rfl (Nat.le_of_ble_eq_true rfl) ?_
      refine LOps.detP (Det.pick_true rfl rfl) (Nat.le_of_ble_eq_true rfl) ?_
      refine LOps.nil ?_
      refine LCode.cond_true rfl ?_
      refine LCode.seq ?_
      refine LCode.region ?_
      refine LOps.detP (Slots.cast (Det.build pl_27 zr_27 rfl rfl) (show _ = sgV 0 0 from sg_zero)) (Nat.le_of_ble_eq_true rfl) ?_
      refine LOps.step rfl (LStepW.storeA rfl rfl sz_27 (by exact sgL_one _ _) (by repeat (first | exact SetAt.head _ | apply SetAt.tail)) (by exact sgL_length _ _) ?_)
      refine LOps.detP (Det.assign (v := .int .i64 ((2302 : Nat) : Int)) rfl) (Nat.le_of_ble_eq_true rfl) ?_
      refine LOps.nil ?_
      refine LCode.ret ?_
      refine ⟨[_, _], .cons ⟨_, _, _, rfl, (by repeat (first | exact List.Mem.head _ | apply List.Mem.tail)), by exact LoadV.whole Try.underlying27 rfl sz_27⟩ (.cons rfl .nil), fun a w' hr => ⟨?_, hr.fr.below⟩⟩
      unfold rawGet
      rw [if_neg (by omega), if_pos (.inl hg)]
      rfl
    ·
      have hRw : rawR V s < W9 := beVal_w9 (by show (s.extract 0 (nby V.n)).size ≤ 72; rw [ext_size _ _ _ (by omega)]; omega)
      have hTw : rawT V s < W9 := beVal_w9 (by show (s.extract (nby V.n) s.size).size ≤ 72; rw [ext_size _ _ _ (Nat.le_refl _)]; omega)
      have hRd := nw_w9_dig hRw
      have hTd := nw_w9_dig hTw
      refine LCode.region ?_
      refine LOps.detP (Det.move rfl) (Nat.le_of_ble_eq_true rfl) ?_
      refine LOps.detP (Det.fieldA (o' := 4) Try.underlying31 rfl rfl rfl sz_29 (by decide)) (Nat.le_of_ble_eq_true rfl) ?_
      refine LOps.det (Det.load rfl (by repeat (first | exact List.Mem.head _ | apply List.Mem.tail)) (LoadV.one Try.underlying29 rfl (by first | rfl | exact vec_get _ _ _ (by omega) | exact natL_get _ (by omega) | exact wideL_get _ (by omega) | exact dv_m _ _ _ (by omega)))) (Nat.le_of_ble_eq_true rfl) ?_
      refine LOps.step rfl (LStep.w (LStep.callF (first := []) rfl en_70 rfl (Nat.le_of_ble_eq_true rfl) (fun w hw => c_n_Cmp q20 Q.n (rawR V s) V.n w (hw _ (by repeat (first | exact List.Mem.head _ | apply List.Mem.tail))) (crvI_n (hw _ (by repeat (first | exact List.Mem.head _ | apply List.Mem.tail)))) (by omega)) ?_))
      refine LOps.detP (Det.bin (v := .bool false) rfl rfl (cmp_ge_f hl)) (Nat.le_of_ble_eq_true rfl) ?_
      refine LOps.detP (Det.move rfl) (Nat.le_of_ble_eq_true rfl) ?_
      refine LOps.detGP rfl rfl (Det.move rfl) (Nat.le_of_ble_eq_true rfl) ?_
      refine LOps.detGP rfl rfl (Det.fieldA (o' := 4) Try.underlying31 rfl rfl rfl sz_29 (by decide)) (Nat.le_of_ble_eq_true rfl) ?_
      refine LOps.detG rfl rfl (Det.load rfl (by repeat (first | exact List.Mem.head _ | apply List.Mem.tail)) (LoadV.one Try.underlying29 rfl (by first | rfl | exact vec_get _ _ _ (by omega) | exact natL_get _ (by omega) | exact wideL_get _ (by omega) | exact dv_m _ _ _ (by omega)))) (Nat.le_of_ble_eq_true rfl) ?_
      refine LOps.stepG rfl rfl rfl (LStep.w (LStep.callF (first := []) rfl en_70 rfl (Nat.le_of_ble_eq_true rfl) (fun w hw => c_n_Cmp q24 Q.n (rawT V s) V.n w (hw _ (by repeat (first | exact List.Mem.head _ | apply List.Mem.tail))) (crvI_n (hw _ (by repeat (first | exact List.Mem.head _ | apply List.Mem.tail)))) (by omega)) ?_))
      refine LOps.detGP rfl rfl (Det.bin (v := .bool true) rfl rfl (cmp_ge_t hg)) (Nat.le_of_ble_eq_true rfl) ?_
      refine LOps.detP (Det.pick_false rfl rfl) (Nat.le_of_ble_eq_true rfl) ?_
      refine LOps.nil ?_
      refine LCode.cond_true rfl ?_
      refine LCode.seq ?_
      refine LCode.region ?_
      refine LOps.detP (Slots.cast (Det.build pl_27 zr_27 rfl rfl) (show _ = sgV 0 0 from sg_zero)) (Nat.le_of_ble_eq_true rfl) ?_
      refine LOps.step rfl (LStepW.storeA rfl rfl sz_27 (by exact sgL_one _ _) (by repeat (first | exact SetAt.head _ | apply SetAt.tail)) (by exact sgL_length _ _) ?_)
      refine LOps.detP (Det.assign (v := .int .i64 ((2302 : Nat) : Int)) rfl) (Nat.le_of_ble_eq_true rfl) ?_
      refine LOps.nil ?_
      refine LCode.ret ?_
      refine ⟨[_, _], .cons ⟨_, _, _, rfl, (by repeat (first | exact List.Mem.head _ | apply List.Mem.tail)), by exact LoadV.whole Try.underlying27 rfl sz_27⟩ (.cons rfl .nil), fun a w' hr => ⟨?_, hr.fr.below⟩⟩
      unfold rawGet
      rw [if_neg (by omega), if_pos (.inr hg)]
      rfl
    ·
      have hRw : rawR V s < W9 := beVal_w9 (by show (s.extract 0 (nby V.n)).size ≤ 72; rw [ext_size _ _ _ (by omega)]; omega)
      have hTw : rawT V s < W9 := beVal_w9 (by show (s.extract (nby V.n) s.size).size ≤ 72; rw [ext_size _ _ _ (Nat.le_refl _)]; omega)
      have hRd := nw_w9_dig hRw
      have hTd := nw_w9_dig hTw
      refine LCode.region ?_
      refine LOps.detP (Det.move rfl) (Nat.le_of_ble_eq_true rfl) ?_
      refine LOps.detP (Det.fieldA (o' := 4) Try.underlying31 rfl rfl rfl sz_29 (by decide)) (Nat.le_of_ble_eq_true rfl) ?_
      refine LOps.det (Det.load rfl (by repeat (first | exact List.Mem.head _ | apply List.Mem.tail)) (LoadV.one Try.underlying29 rfl (by first | rfl | exact vec_get _ _ _ (by omega) | exact natL_get _ (by omega) | exact wideL_get _ (by omega) | exact dv_m _ _ _ (by omega)))) (Nat.le_of_ble_eq_true rfl) ?_
      refine LOps.step rfl (LStep.w (LStep.callF (first := []) rfl en_70 rfl (Nat.le_of_ble_eq_true rfl) (fun w hw => c_n_Cmp q20 Q.n (rawR V s) V.n w (hw _ (by repeat (first | exact List.Mem.head _ | apply List.Mem.tail))) (crvI_n (hw _ (by repeat (first | exact List.Mem.head _ | apply List.Mem.tail)))) (by omega)) ?_))
      refine LOps.detP (Det.bin (v := .bool false) rfl rfl (cmp_ge_f hl)) (Nat.le_of_ble_eq_true rfl) ?_
      refine LOps.detP (Det.move rfl) (Nat.le_of_ble_eq_true rfl) ?_
      refine LOps.detGP rfl rfl (Det.move rfl) (Nat.le_of_ble_eq_true rfl) ?_
      refine LOps.detGP rfl rfl (Det.fieldA (o' := 4) Try.underlying31 rfl rfl rfl sz_29 (by decide)) (Nat.le_of_ble_eq_true rfl) ?_
      refine LOps.detG rfl rfl (Det.load rfl (by repeat (first | exact List.Mem.head _ | apply List.Mem.tail)) (LoadV.one Try.underlying29 rfl (by first | rfl | exact vec_get _ _ _ (by omega) | exact natL_get _ (by omega) | exact wideL_get _ (by omega) | exact dv_m _ _ _ (by omega)))) (Nat.le_of_ble_eq_true rfl) ?_
      refine LOps.stepG rfl rfl rfl (LStep.w (LStep.callF (first := []) rfl en_70 rfl (Nat.le_of_ble_eq_true rfl) (fun w hw => c_n_Cmp q24 Q.n (rawT V s) V.n w (hw _ (by repeat (first | exact List.Mem.head _ | apply List.Mem.tail))) (crvI_n (hw _ (by repeat (first | exact List.Mem.head _ | apply List.Mem.tail)))) (by omega)) ?_))
      refine LOps.detGP rfl rfl (Det.bin (v := .bool false) rfl rfl (cmp_ge_f hl2)) (Nat.le_of_ble_eq_true rfl) ?_
      refine LOps.detP (Det.pick_false rfl rfl) (Nat.le_of_ble_eq_true rfl) ?_
      refine LOps.nil ?_
      refine LCode.cond_false rfl ?_
      refine LCode.skip ?_
      refine LCode.seq ?_
      refine LCode.region ?_
      refine LOps.detP (Det.move rfl) (Nat.le_of_ble_eq_true rfl) ?_
      refine LOps.step rfl (LStep.w (LStep.callF (first := []) rfl en_50 rfl (Nat.le_of_ble_eq_true rfl) (fun w hw => c_n_Nat q20 (rawR V s) (D.nw (rawR V s)) w (hw _ (by repeat (first | exact List.Mem.head _ | apply List.Mem.tail)))) ?_))
      refine LOps.detP (Det.move rfl) (Nat.le_of_ble_eq_true rfl) ?_
      refine LOps.step rfl (LStep.w (LStep.callF (first := []) rfl en_50 rfl (Nat.le_of_ble_eq_true rfl) (fun w hw => c_n_Nat q24 (rawT V s) (D.nw (rawT V s)) w (hw _ (by repeat (first | exact List.Mem.head _ | apply List.Mem.tail)))) ?_))
      refine LOps.detP (Slots.cast (Det.build pl_27 zr_27 rfl (fill_sg _ _)) rfl) (Nat.le_of_ble_eq_true rfl) ?_
      refine LOps.step rfl (LStepW.storeA rfl rfl sz_27 (by exact sgL_one _ _) (by repeat (first | exact SetAt.head _ | apply SetAt.tail)) (by exact sgL_length _ _) ?_)
      refine LOps.detP (Det.assign (v := .int .i64 ((0 : Nat) : Int)) rfl) (Nat.le_of_ble_eq_true rfl) ?_
      refine LOps.nil ?_
      refine LCode.ret ?_
      refine ⟨[_, _], .cons ⟨_, _, _, rfl, (by repeat (first | exact List.Mem.head _ | apply List.Mem.tail)), by exact LoadV.whole Try.underlying27 rfl sz_27⟩ (.cons rfl .nil), fun a w' hr => ⟨?_, hr.fr.below⟩⟩
      unfold rawGet
      rw [if_neg (by omega), if_neg (by omega)]
      rfl

end Go.Proofs.Ytljblbgogjieaaa
