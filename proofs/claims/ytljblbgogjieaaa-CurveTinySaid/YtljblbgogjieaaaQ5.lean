/- Part 5 of what the proof leans on: a symbolic execution of the model, walks of the program's functions, and the mathematics. No condition. -/
import Derived.WalkKit
import Derived.Orders
import Derived.Laws.StructEq
import Derived.WalkSpells
import Derived.OrdersHeld
import Derived.KernelRfl
import Derived.Laws.Externs
import Derived.Laws.Bits64
import Derived.Laws.MakeOwn
import Derived.Laws.BytesString
import Derived.Carry
import Derived.WideShapes
import GoSem.Claim
import Derived.Test.YtljblbgogjieaaaProg
import Derived.Laws.AppendOwn
import Derived.Test.YtljblbgogjieaaaRows
import Derived.ProofKit
import Derived.OpenShut
import Derived.Test.YtljblbgogjieaaaQ4
set_option linter.unusedVariables false
set_option linter.unusedSimpArgs false
set_option maxRecDepth 20000
namespace Go.Proofs.Ytljblbgogjieaaa
open Go Go.RowKit
theorem blen_w9 {A : Nat} (h : A < W9) : blen A ≤ 576 := by
  obtain ⟨k, hk⟩ : ∃ k : Nat, k = 9 := ⟨9, rfl⟩
  have := blen_le (lt_w9_pow h k hk)
  omega
def legB (V : Cv) : Bool := decide (V.id = 1 ∨ V.id = 7)
def thr (V : Cv) : Nat := ((V.b + V.b) % V.p + V.b) % V.p
def opL (V : Cv) (f : Nat) : List Value := cvC V.id V.p V.a V.b V.n V.x V.y false (blen V.n) (nby V.p) (legB V) (.pointer (some ⟨f, 0, none⟩)) (thr V)
theorem fill_pt (X Y : Nat) : fillL [(0, 9), (9, 9), (18, 1)] (vec .u64 9 (fun _ => 0) ++ (vec .u64 9 (fun _ => 0) ++ [Value.bool false])) [(0, natV X), (1, natV Y)] = some (ptL X Y false) := by
  refine KAT (A := []) (B := vec .u64 9 (fun _ => 0)) (D := vec .u64 9 (fun _ => 0) ++ [Value.bool false]) (cs := natL X) rfl rfl (KI _) rfl rfl (KM _ _ _) ?_
  refine (KAT (A := natL X) (B := vec .u64 9 (fun _ => 0)) (D := [Value.bool false]) (cs := natL Y) rfl rfl (KI _) (by simp) (KI _) (KM _ _ _) rfl).trans ?_
  simp [ptL]
theorem c_Open_none (id : Int) (w : World) (h : cvI id = none) : Calls Try.prog 112 ([.int .i64 id] : List Value).toArray w (fun e w' => e = .returned (.pointer none) ∧ Below w.heap.size w w') := by
  refine KAA (N := 130) (rs := [.tmp 2]) [] Try.func112 rfl Try.ntmps112 Try.results112 (Nb rfl) trivial rfl ?_
  show LCode _ _ _ ⟨_, _⟩ _
  refine KE (KB ?_)
  refine KA (KF rfl) (Nb rfl) ?_
  refine KG ?_
  refine KE (KB ?_)
  refine KA (KD rfl) (Nb rfl) ?_
  refine KK rfl (KU (KO (first := []) rfl en_146 rfl (Nb rfl) (fun w hw => c_f_Of_none id w h) ?_))
  refine KA (KF rfl) (Nb rfl) ?_
  refine KG ?_
  refine KE ?_
  refine KE (KB ?_)
  refine KA (KD rfl) (Nb rfl) ?_
  refine KA (KP (Det.eqp Try.underlying145 rfl rfl) (show _ = Value.bool true from rfl)) (Nb rfl) ?_
  refine KG ?_
  refine KAD rfl ?_
  refine KE (KB ?_)
  refine KA (KF rfl) (Nb rfl) ?_
  refine KG (KR ?_)
  refine ⟨[_], .cons rfl .nil, fun a w' hr => ⟨?_, hr.fr.below⟩⟩
  rfl
theorem c_Open (id : Int) (V : Cv) (w : World) (h : cvI id = some V) : Calls Try.prog 112 ([.int .i64 id] : List Value).toArray w (fun e w' => ∃ b f bd, e = .returned (.pointer (some ⟨b, 0, none⟩)) ∧ (Item.blk b ⟨false, opL V f, 147, (0, 0)⟩).holds w' ∧ (Item.blk f ⟨false, fldL V.p bd, 194, (0, 0)⟩).holds w' ∧ (Item.blk bd ⟨false, dvL V.p, 241, (0, 0)⟩).holds w' ∧ w.heap.size ≤ b ∧ w.heap.size ≤ f ∧ w.heap.size ≤ bd ∧ Below w.heap.size w w') := by
  obtain ⟨hok, rfl⟩ := cvI_ok h
  refine KAA (N := 130) (rs := [.tmp 2]) [] Try.func112 rfl Try.ntmps112 Try.results112 (Nb rfl) trivial rfl ?_
  show LCode _ _ _ ⟨_, _⟩ _
  refine KE (KB ?_)
  refine KA (KF rfl) (Nb rfl) ?_
  refine KG ?_
  refine KE (KB ?_)
  refine KA (KD rfl) (Nb rfl) ?_
  refine KK rfl (KU (Km (Post := fun v its => ∃ f bd, v = .pointer (some ⟨f, 0, none⟩) ∧ its = [.blk f ⟨false, fldL V.p bd, 194, (0, 0)⟩, .blk bd ⟨false, dvL V.p, 241, (0, 0)⟩] ∧ w.heap.size ≤ f ∧ w.heap.size ≤ bd) (first := []) rfl en_146 rfl (Nb rfl) (fun w1 hw hs => (c_f_Of _ V w1 h).mono fun e w' ⟨f, bd, h1, h2, h3, h4, h5, h6⟩ => ⟨_, _, ⟨f, bd, rfl, rfl, Nat.le_trans hs h4, Nat.le_trans hs h5⟩, h1, Brings.nums h6 (by intro x hx; simp at hx; rcases hx with rfl | rfl; exact h2; exact h3) (by intro x hx; simp at hx; rcases hx with rfl | rfl <;> rfl) (by intro x hx k hk; simp at hx; rcases hx with rfl | rfl <;> simp [Item.fp] at hk <;> subst hk; exact .inl h4; exact .inl h5)⟩) ?_))
  rintro _ _ ⟨f, bd, rfl, rfl, hnf, hnbd⟩
  refine KA (KF rfl) (Nb rfl) ?_
  refine KG ?_
  refine KE ?_
  refine KE (KB ?_)
  refine KA (KD rfl) (Nb rfl) ?_
  refine KA (KP (Det.eqp Try.underlying145 rfl rfl) (show _ = Value.bool false from rfl)) (Nb rfl) ?_
  refine KG ?_
  refine Ki rfl ?_
  refine Ka ?_
  refine KE ?_
  have hbb := hok.bounds
  have hpW : V.p < W9 := w9_521 hbb.2.1
  have hnW : V.n < W9 := w9_521 hbb.2.2.2.2.2.2.1
  have hbln := blen_w9 hnW
  have hblp := blen_w9 hpW
  refine KB ?_
  refine KA (KD rfl) (Nb rfl) ?_
  refine KK rfl (KU (LStep.callV (first := []) rfl en_147 rfl (Nb rfl) (fun w hw => c_rows_some _ V w h) ?_))
  rintro _ ⟨s0, s1, s2, s3, s4, rfl, hrow⟩
  obtain ⟨hA, hB, hN, hX, hY⟩ := rowsB_spec hrow
  clear hrow
  refine KK rfl (KU (KW (Kt zr_188) (Nb rfl) (fun b4 => ?_)))
  refine KK rfl (Ke rfl rfl sz_188 (by repeat (first | exact Kg | refine Kc rfl ?_)) (by repeat (first | exact Sh _ | apply St_)) (by rfl) ?_)
  refine KG ?_
  refine KE (KB ?_)
  refine KA (KD rfl) (Nb rfl) ?_
  refine KA (KP (KAk pl_147 zr_147 rfl (fillF (.pointer (some ⟨f, 0, none⟩)) rfl)) rfl) (Nb rfl) ?_
  refine KK rfl (KU (KW (KAJ rfl) (Nb rfl) (fun b14 => ?_)))
  refine KA (KF rfl) (Nb rfl) ?_
  refine KG ?_
  refine LCode.cut (α := Unit) (fun _ => True) (fun _ => ⟨[(0, .int .i64 ((V.id : Nat) : Int)), (3, .pointer (some ⟨f, 0, none⟩)), (4, .pointer (some ⟨b4, 0, none⟩)), (5, .pointer (some ⟨b14, 0, none⟩))], [.blk b14 ⟨true, cvC V.id V.p 0 V.b V.n 0 0 false 0 0 false (.pointer (some ⟨f, 0, none⟩)) 0, 147, (0, 0)⟩, .blk b4 ⟨true, [.string s0, .string s1, .string s2, .string s3, .string s4], 188, (0, 0)⟩, .blk f ⟨false, fldL V.p bd, 194, (0, 0)⟩, .blk bd ⟨false, dvL V.p, 241, (0, 0)⟩]⟩) ?_ ?_
  ·
    refine Kb [18, 22, 26, 30] (by kernel_rfl) ?_
    refine KC 0 rfl (by kernel_rfl) (Nb rfl) (KD rfl) ?_
    refine KC 1 rfl (by kernel_rfl) (Nb rfl) (KD rfl) ?_
    refine KC 2 rfl (by kernel_rfl) (Nb rfl) (KD rfl) ?_
    refine KC 3 rfl (by kernel_rfl) (Nb rfl) (KD rfl) ?_
    refine KC 4 rfl (by kernel_rfl) (Nb rfl) (KD rfl) ?_
    refine KC 5 rfl (by kernel_rfl) (Nb rfl) (KD rfl) ?_
    refine KC 6 rfl (by kernel_rfl) (Nb rfl) (KZ rfl) ?_
    refine KC 7 rfl (by kernel_rfl) (Nb rfl) (KJ (o' := 0) Try.underlying194 rfl rfl rfl sz_25 (by decide)) ?_
    refine LAny.take 8 rfl (by kernel_rfl) (Nb rfl) (KN rfl (by repeat (first | exact Mh _ | apply Mt)) (by exact LoadV.first Try.underlying25 rfl sz_25 rfl (KI _))) ?_
    refine KC 9 rfl (by kernel_rfl) (Nb rfl) (KJ (o' := 1) Try.underlying188 rfl rfl rfl sz_9 (by decide)) ?_
    refine KC 12 rfl (by kernel_rfl) (Nb rfl) (KJ (o' := 2) Try.underlying188 rfl rfl rfl sz_9 (by decide)) ?_
    refine LAny.takeW [11, 14, 15, 16, 17, 18, 19, 20, 21, 22, 23, 24, 25, 26, 27, 28, 29, 30] 10 rfl (by kernel_rfl) (Nb rfl) (KN rfl (by repeat (first | exact Mh _ | apply Mt)) (KQ Try.underlying9 rfl (by first | rfl | exact Ku _ _ _ (by omega) | exact Kw _ (by omega) | exact Ky _ (by omega) | exact dv_m _ _ _ (by omega)))) ?_
    refine LAny.takeW [14, 15, 16, 17, 18, 19, 20, 21, 22, 23, 24, 25, 26, 27, 28, 29, 30] 13 rfl (by kernel_rfl) (Nb rfl) (KN rfl (by repeat (first | exact Mh _ | apply Mt)) (KQ Try.underlying9 rfl (by first | rfl | exact Ku _ _ _ (by omega) | exact Kw _ (by omega) | exact Ky _ (by omega) | exact dv_m _ _ _ (by omega)))) ?_
    refine Kz 11 rfl rfl (by kernel_rfl) (KO (first := []) rfl en_148 rfl (Nb rfl) (fun w hw => fhex s1 V.b w hB) ?_)
    refine Kz 14 rfl rfl (by kernel_rfl) (KO (first := []) rfl en_148 rfl (Nb rfl) (fun w hw => fhex s2 V.n w hN) ?_)
    refine KC 15 rfl (by kernel_rfl) (Nb rfl) (KZ rfl) ?_
    refine KC 16 rfl (by kernel_rfl) (Nb rfl) (KJ (o' := 0) Try.underlying147 rfl rfl rfl sz_62 (by decide)) ?_
    refine KC 17 rfl (by kernel_rfl) (Nb rfl) (KJ (o' := 0) Try.underlying62 rfl rfl rfl sz_3 (by decide)) ?_
    refine KAH 18 rfl rfl (by kernel_rfl) (by kernel_rfl) (KAM rfl rfl rfl sz_3 (by first | exact KI _ | exact KS _ _ _ | rfl) (by first | exact KAC _ | exact KAL _ _ _ | exact Kc rfl Kg) (by repeat (first | exact Sh _ | apply St_)) (by simp only [KAf]; decide) (cvC_set_id _ _ _ _ _ _ _ _ _ _ _ _ _ _) (by simp) ?_)
    refine KC 19 rfl (by kernel_rfl) (Nb rfl) (KZ rfl) ?_
    refine KC 20 rfl (by kernel_rfl) (Nb rfl) (KJ (o' := 0) Try.underlying147 rfl rfl rfl sz_62 (by decide)) ?_
    refine KC 21 rfl (by kernel_rfl) (Nb rfl) (KJ (o' := 1) Try.underlying62 rfl rfl rfl sz_25 (by decide)) ?_
    refine KAH 22 rfl rfl (by kernel_rfl) (by kernel_rfl) (KAM rfl rfl rfl sz_25 (by first | exact KI _ | exact KS _ _ _ | rfl) (by first | exact KAC _ | exact KAL _ _ _ | exact Kc rfl Kg) (by repeat (first | exact Sh _ | apply St_)) (by simp only [KAf]; decide) (cvC_set_p _ _ _ _ _ _ _ _ _ _ _ _ _ _) (by simp) ?_)
    refine KC 23 rfl (by kernel_rfl) (Nb rfl) (KZ rfl) ?_
    refine KC 24 rfl (by kernel_rfl) (Nb rfl) (KJ (o' := 0) Try.underlying147 rfl rfl rfl sz_62 (by decide)) ?_
    refine KC 25 rfl (by kernel_rfl) (Nb rfl) (KJ (o' := 19) Try.underlying62 rfl rfl rfl sz_25 (by decide)) ?_
    refine KAH 26 rfl rfl (by kernel_rfl) (by kernel_rfl) (KAM rfl rfl rfl sz_25 (by first | exact KI _ | exact KS _ _ _ | rfl) (by first | exact KAC _ | exact KAL _ _ _ | exact Kc rfl Kg) (by repeat (first | exact Sh _ | apply St_)) (by simp only [KAf]; decide) (cvC_set_b _ _ _ _ _ _ _ _ _ _ _ _ _ _) (by simp) ?_)
    refine KC 27 rfl (by kernel_rfl) (Nb rfl) (KZ rfl) ?_
    refine KC 28 rfl (by kernel_rfl) (Nb rfl) (KJ (o' := 0) Try.underlying147 rfl rfl rfl sz_62 (by decide)) ?_
    refine KC 29 rfl (by kernel_rfl) (Nb rfl) (KJ (o' := 28) Try.underlying62 rfl rfl rfl sz_25 (by decide)) ?_
    refine KAH 30 rfl rfl (by kernel_rfl) (by kernel_rfl) (KAM rfl rfl rfl sz_25 (by first | exact KI _ | exact KS _ _ _ | rfl) (by first | exact KAC _ | exact KAL _ _ _ | exact Kc rfl Kg) (by repeat (first | exact Sh _ | apply St_)) (by simp only [KAf]; decide) (cvC_set_n _ _ _ _ _ _ _ _ _ _ _ _ _ _) (by simp) ?_)
    refine Kp (by kernel_rfl) ?_
    exact ⟨(), trivial, KAE ⟨rfl, rfl, rfl, rfl, trivial⟩ (by repeat (first | exact Sel.nil _ | refine Sel.cons (by repeat (first | exact Ph _ | apply Pt_)) ?_))⟩
  ·
    rintro _ _
    refine KE ?_
    refine KE ?_
    rcases hA with ⟨hA0, hVa⟩ | ⟨hA0, hA1⟩
    ·
      refine KB ?_
      refine KA (KJ (o' := 0) Try.underlying188 rfl rfl rfl sz_9 (by decide)) (Nb rfl) ?_
      refine LOps.det (KN rfl (by repeat (first | exact Mh _ | apply Mt)) (KQ Try.underlying9 rfl (by first | rfl | exact Ku _ _ _ (by omega) | exact Kw _ (by omega) | exact Ky _ (by omega) | exact dv_m _ _ _ (by omega)))) (Nb rfl) ?_
      refine KA (KP (Det.eqs rfl rfl) (congrArg Value.bool (eq_str_t hA0))) (Nb rfl) ?_
      refine KG ?_
      refine KAD rfl ?_
      refine Kb [13] (by kernel_rfl) ?_
      refine KC 0 rfl (by kernel_rfl) (Nb rfl) (KD rfl) ?_
      refine KC 1 rfl (by kernel_rfl) (Nb rfl) (KD rfl) ?_
      refine KC 2 rfl (by kernel_rfl) (Nb rfl) (KZ rfl) ?_
      refine KC 3 rfl (by kernel_rfl) (Nb rfl) (KJ (o' := 0) Try.underlying194 rfl rfl rfl sz_25 (by decide)) ?_
      refine LAny.take 4 rfl (by kernel_rfl) (Nb rfl) (KN rfl (by repeat (first | exact Mh _ | apply Mt)) (by exact LoadV.first Try.underlying25 rfl sz_25 rfl (KI _))) ?_
      refine Kz 5 rfl rfl (by kernel_rfl) (KO (first := []) rfl en_150 rfl (Nb rfl) (fun w hw => c_nat_Small 3 (by decide) w) ?_)
      refine Kz 6 rfl rfl (by kernel_rfl) (KO (first := []) rfl en_149 rfl (Nb rfl) (fun w hw => c_nat_SubS V.p 3 w (by omega) (by omega)) ?_)
      refine KC 7 rfl (by kernel_rfl) (Nb rfl) (KD rfl) ?_
      refine KC 8 rfl (by kernel_rfl) (Nb rfl) (Kl rfl rfl) ?_
      refine KC 9 rfl (by kernel_rfl) (Nb rfl) (Kl rfl rfl) ?_
      refine KC 10 rfl (by kernel_rfl) (Nb rfl) (KZ rfl) ?_
      refine KC 11 rfl (by kernel_rfl) (Nb rfl) (KJ (o' := 0) Try.underlying147 rfl rfl rfl sz_62 (by decide)) ?_
      refine KC 12 rfl (by kernel_rfl) (Nb rfl) (KJ (o' := 10) Try.underlying62 rfl rfl rfl sz_25 (by decide)) ?_
      refine KAH 13 rfl rfl (by kernel_rfl) (by kernel_rfl) (KAM rfl rfl rfl sz_25 (by first | exact KI _ | exact KS _ _ _ | rfl) (by first | exact KAC _ | exact KAL _ _ _ | exact Kc rfl Kg) (by repeat (first | exact Sh _ | apply St_)) (by simp only [KAf]; decide) (cvC_set_a _ _ _ _ _ _ _ _ _ _ _ _ _ _) (by simp) ?_)
      refine Kp (by kernel_rfl) ?_
      refine KE ?_
      refine Kb [11] (by kernel_rfl) ?_
      refine KC 0 rfl (by kernel_rfl) (Nb rfl) (KD rfl) ?_
      refine KC 1 rfl (by kernel_rfl) (Nb rfl) (KJ (o' := 3) Try.underlying188 rfl rfl rfl sz_9 (by decide)) ?_
      refine LAny.take 2 rfl (by kernel_rfl) (Nb rfl) (KN rfl (by repeat (first | exact Mh _ | apply Mt)) (KQ Try.underlying9 rfl (by first | rfl | exact Ku _ _ _ (by omega) | exact Kw _ (by omega) | exact Ky _ (by omega) | exact dv_m _ _ _ (by omega)))) ?_
      refine KC 4 rfl (by kernel_rfl) (Nb rfl) (KJ (o' := 4) Try.underlying188 rfl rfl rfl sz_9 (by decide)) ?_
      refine LAny.take 5 rfl (by kernel_rfl) (Nb rfl) (KN rfl (by repeat (first | exact Mh _ | apply Mt)) (KQ Try.underlying9 rfl (by first | rfl | exact Ku _ _ _ (by omega) | exact Kw _ (by omega) | exact Ky _ (by omega) | exact dv_m _ _ _ (by omega)))) ?_
      refine Kz 3 rfl rfl (by kernel_rfl) (KO (first := []) rfl en_148 rfl (Nb rfl) (fun w hw => fhex s3 V.x w hX) ?_)
      refine Kz 6 rfl rfl (by kernel_rfl) (KO (first := []) rfl en_148 rfl (Nb rfl) (fun w hw => fhex s4 V.y w hY) ?_)
      refine KC 7 rfl (by kernel_rfl) (Nb rfl) (KP (KAk pl_60 zr_60 rfl (fill_pt _ _)) rfl) ?_
      refine KC 8 rfl (by kernel_rfl) (Nb rfl) (KZ rfl) ?_
      refine KC 9 rfl (by kernel_rfl) (Nb rfl) (KJ (o' := 0) Try.underlying147 rfl rfl rfl sz_62 (by decide)) ?_
      refine KC 10 rfl (by kernel_rfl) (Nb rfl) (KJ (o' := 37) Try.underlying62 rfl rfl rfl sz_60 (by decide)) ?_
      refine KAH 11 rfl rfl (by kernel_rfl) (by kernel_rfl) (KAM rfl rfl rfl sz_60 (by first | exact KI _ | exact KS _ _ _ | rfl) (by first | exact KAC _ | exact KAL _ _ _ | exact Kc rfl Kg) (by repeat (first | exact Sh _ | apply St_)) (by simp only [KAf]; decide) (cvC_set_g _ _ _ _ _ _ _ _ _ _ _ _ _ _ _ _) (by simp) ?_)
      refine Kp (by kernel_rfl) ?_
      refine KE ?_
      refine Kb [18, 22] (by kernel_rfl) ?_
      refine KC 0 rfl (by kernel_rfl) (Nb rfl) (KD rfl) ?_
      refine KC 1 rfl (by kernel_rfl) (Nb rfl) (KD rfl) ?_
      refine KC 2 rfl (by kernel_rfl) (Nb rfl) (KD rfl) ?_
      refine KC 3 rfl (by kernel_rfl) (Nb rfl) (KZ rfl) ?_
      refine KC 4 rfl (by kernel_rfl) (Nb rfl) (KJ (o' := 0) Try.underlying147 rfl rfl rfl sz_62 (by decide)) ?_
      refine KC 5 rfl (by kernel_rfl) (Nb rfl) (KJ (o' := 28) Try.underlying62 rfl rfl rfl sz_25 (by decide)) ?_
      refine LAny.take 6 rfl (by kernel_rfl) (Nb rfl) (KN rfl (by repeat (first | exact Mh _ | apply Mt)) (by exact cvC_ld_n _ _ _ _ _ _ _ _ _ _ _ _ _ _ _ _)) ?_
      refine KC 8 rfl (by kernel_rfl) (Nb rfl) (KD rfl) ?_
      refine KC 9 rfl (by kernel_rfl) (Nb rfl) (KZ rfl) ?_
      refine KC 10 rfl (by kernel_rfl) (Nb rfl) (KJ (o' := 0) Try.underlying194 rfl rfl rfl sz_25 (by decide)) ?_
      refine LAny.take 11 rfl (by kernel_rfl) (Nb rfl) (KN rfl (by repeat (first | exact Mh _ | apply Mt)) (by exact LoadV.first Try.underlying25 rfl sz_25 rfl (KI _))) ?_
      refine Kz 7 rfl rfl (by kernel_rfl) (KO (first := []) rfl en_151 rfl (Nb rfl) (fun w hw => c_nat_Bits V.n hnW w) ?_)
      refine Kz 12 rfl rfl (by kernel_rfl) (KO (first := []) rfl en_151 rfl (Nb rfl) (fun w hw => c_nat_Bits V.p hpW w) ?_)
      refine KC 13 rfl (by kernel_rfl) (Nb rfl) (KH rfl rfl (KAF (b := 7) (by omega))) ?_
      refine KC 14 rfl (by kernel_rfl) (Nb rfl) (KH rfl rfl (br_quo (b := 8) (by omega) (by omega))) ?_
      refine KC 15 rfl (by kernel_rfl) (Nb rfl) (KZ rfl) ?_
      refine KC 16 rfl (by kernel_rfl) (Nb rfl) (KJ (o' := 0) Try.underlying147 rfl rfl rfl sz_62 (by decide)) ?_
      refine KC 17 rfl (by kernel_rfl) (Nb rfl) (KJ (o' := 56) Try.underlying62 rfl rfl rfl sz_3 (by decide)) ?_
      refine KAH 18 rfl rfl (by kernel_rfl) (by kernel_rfl) (KAM rfl rfl rfl sz_3 (by first | exact KI _ | exact KS _ _ _ | rfl) (by first | exact KAC _ | exact KAL _ _ _ | exact Kc rfl Kg) (by repeat (first | exact Sh _ | apply St_)) (by simp only [KAf]; decide) (cvC_set_bits _ _ _ _ _ _ _ _ _ _ _ _ _ _) (by simp) ?_)
      refine KC 19 rfl (by kernel_rfl) (Nb rfl) (KZ rfl) ?_
      refine KC 20 rfl (by kernel_rfl) (Nb rfl) (KJ (o' := 0) Try.underlying147 rfl rfl rfl sz_62 (by decide)) ?_
      refine KC 21 rfl (by kernel_rfl) (Nb rfl) (KJ (o' := 57) Try.underlying62 rfl rfl rfl sz_3 (by decide)) ?_
      refine KAH 22 rfl rfl (by kernel_rfl) (by kernel_rfl) (KAM rfl rfl rfl sz_3 (by first | exact KI _ | exact KS _ _ _ | rfl) (by first | exact KAC _ | exact KAL _ _ _ | exact Kc rfl Kg) (by repeat (first | exact Sh _ | apply St_)) (by simp only [KAf]; decide) (cvC_set_size _ _ _ _ _ _ _ _ _ _ _ _ _ _) (by simp) ?_)
      refine Kp (by kernel_rfl) ?_
      refine KE ?_
      by_cases hi1 : ((V.id : Nat) : Int) = 1
      ·
        refine KB ?_
        refine KA (KD rfl) (Nb rfl) ?_
        refine KA (KD rfl) (Nb rfl) ?_
        refine KA (KH (v := .bool true) rfl rfl (br_t KAa hi1)) (Nb rfl) ?_
        refine KA (KD rfl) (Nb rfl) ?_
        refine Kj rfl rfl rfl (Nb rfl) ?_
        refine Kj rfl rfl rfl (Nb rfl) ?_
        refine KA (Kh rfl rfl) (Nb rfl) ?_
        refine KA (KZ rfl) (Nb rfl) ?_
        refine KA (KJ (o' := 0) Try.underlying147 rfl rfl rfl sz_62 (by decide)) (Nb rfl) ?_
        refine KA (KJ (o' := 58) Try.underlying62 rfl rfl rfl sz_4 (by decide)) (Nb rfl) ?_
        refine KK rfl (KAM rfl rfl rfl sz_4 (by first | exact KI _ | exact KS _ _ _ | rfl) (by first | exact KAC _ | exact KAL _ _ _ | exact Kc rfl Kg) (by repeat (first | exact Sh _ | apply St_)) (by simp only [KAf]; decide) (cvC_set_leg _ _ _ _ _ _ _ _ _ _ _ _ _ _) (by simp) ?_)
        refine KG ?_
        refine KE ?_
        refine Kb [22] (by kernel_rfl) ?_
        refine KC 0 rfl (by kernel_rfl) (Nb rfl) (KD rfl) ?_
        refine KC 1 rfl (by kernel_rfl) (Nb rfl) (KD rfl) ?_
        refine KC 2 rfl (by kernel_rfl) (Nb rfl) (KD rfl) ?_
        refine KC 3 rfl (by kernel_rfl) (Nb rfl) (KD rfl) ?_
        refine KC 4 rfl (by kernel_rfl) (Nb rfl) (KZ rfl) ?_
        refine KC 5 rfl (by kernel_rfl) (Nb rfl) (KJ (o' := 0) Try.underlying147 rfl rfl rfl sz_62 (by decide)) ?_
        refine KC 6 rfl (by kernel_rfl) (Nb rfl) (KJ (o' := 19) Try.underlying62 rfl rfl rfl sz_25 (by decide)) ?_
        refine LAny.take 7 rfl (by kernel_rfl) (Nb rfl) (KN rfl (by repeat (first | exact Mh _ | apply Mt)) (by exact cvC_ld_b _ _ _ _ _ _ _ _ _ _ _ _ _ _ _ _)) ?_
        refine KC 8 rfl (by kernel_rfl) (Nb rfl) (KD rfl) ?_
        refine KC 9 rfl (by kernel_rfl) (Nb rfl) (KZ rfl) ?_
        refine KC 10 rfl (by kernel_rfl) (Nb rfl) (KJ (o' := 0) Try.underlying147 rfl rfl rfl sz_62 (by decide)) ?_
        refine KC 11 rfl (by kernel_rfl) (Nb rfl) (KJ (o' := 19) Try.underlying62 rfl rfl rfl sz_25 (by decide)) ?_
        refine LAny.take 12 rfl (by kernel_rfl) (Nb rfl) (KN rfl (by repeat (first | exact Mh _ | apply Mt)) (by exact cvC_ld_b _ _ _ _ _ _ _ _ _ _ _ _ _ _ _ _)) ?_
        refine KC 14 rfl (by kernel_rfl) (Nb rfl) (KD rfl) ?_
        refine KC 15 rfl (by kernel_rfl) (Nb rfl) (KZ rfl) ?_
        refine KC 16 rfl (by kernel_rfl) (Nb rfl) (KJ (o' := 0) Try.underlying147 rfl rfl rfl sz_62 (by decide)) ?_
        refine KC 17 rfl (by kernel_rfl) (Nb rfl) (KJ (o' := 19) Try.underlying62 rfl rfl rfl sz_25 (by decide)) ?_
        refine LAny.take 18 rfl (by kernel_rfl) (Nb rfl) (KN rfl (by repeat (first | exact Mh _ | apply Mt)) (by exact cvC_ld_b _ _ _ _ _ _ _ _ _ _ _ _ _ _ _ _)) ?_
        refine Kz 13 rfl rfl (by kernel_rfl) (KO (first := []) rfl en_152 rfl (Nb rfl) (fun w hw => c_f_Add V f bd V.b V.b w (hw _ (by repeat (first | exact Mh _ | apply Mt))) hbb.2.1 (by omega) (by omega)) ?_)
        refine Kz 19 rfl rfl (by kernel_rfl) (KO (first := []) rfl en_152 rfl (Nb rfl) (fun w hw => c_f_Add V f bd ((V.b + V.b) % V.p) V.b w (hw _ (by repeat (first | exact Mh _ | apply Mt))) hbb.2.1 (Nat.mod_lt _ (by omega)) (by omega)) ?_)
        refine KC 20 rfl (by kernel_rfl) (Nb rfl) (KZ rfl) ?_
        refine KC 21 rfl (by kernel_rfl) (Nb rfl) (KJ (o' := 60) Try.underlying147 rfl rfl rfl sz_25 (by decide)) ?_
        refine KAH 22 rfl rfl (by kernel_rfl) (by kernel_rfl) (KAM rfl rfl rfl sz_25 (by first | exact KI _ | exact KS _ _ _ | rfl) (by first | exact KAC _ | exact KAL _ _ _ | exact Kc rfl Kg) (by repeat (first | exact Sh _ | apply St_)) (by simp only [KAf]; decide) (cvC_set_t3 _ _ _ _ _ _ _ _ _ _ _ _ _ _) (by simp) ?_)
        refine Kp (by kernel_rfl) ?_
        refine KE (KB ?_)
        refine KA (KD rfl) (Nb rfl) ?_
        refine KA (KF rfl) (Nb rfl) ?_
        refine KG (KR ?_)
        refine ⟨[_], .cons rfl .nil, fun a w' hr => ⟨b14, f, bd, rfl, ?_, hr.hp _ (by repeat (first | exact Mh _ | apply Mt)), hr.hp _ (by repeat (first | exact Mh _ | apply Mt)), hr.new (B := ⟨true, _, _, _⟩) (by repeat (first | exact Mh _ | apply Mt)) rfl, hnf, hnbd, hr.fr.below⟩⟩
        have hcv := hr.hp _ (show Item.blk b14 ⟨true, cvC V.id V.p (V.p - 3) V.b V.n V.x V.y false (blen V.n) (nby V.p) true (.pointer (some ⟨f, 0, none⟩)) (thr V), 147, (0, 0)⟩ ∈ _ from (by repeat (first | exact Mh _ | apply Mt)))
        have hl : legB V = true := by unfold legB; exact decide_eq_true (by omega)
        have ha : V.a = V.p - 3 := by omega
        rw [← ha] at hcv
        unfold opL
        rw [hl]
        exact hcv
      ·
        refine KB ?_
        refine KA (KD rfl) (Nb rfl) ?_
        refine KA (KD rfl) (Nb rfl) ?_
        refine KA (KH (v := .bool false) rfl rfl (br_f KAa hi1)) (Nb rfl) ?_
        refine KA (KD rfl) (Nb rfl) ?_
        refine KX rfl rfl (KD rfl) (Nb rfl) ?_
        refine KX rfl rfl (KH (v := .bool (decide (((V.id : Nat) : Int) = 7))) rfl rfl KAa) (Nb rfl) ?_
        refine KA (Ks rfl rfl) (Nb rfl) ?_
        refine KA (KZ rfl) (Nb rfl) ?_
        refine KA (KJ (o' := 0) Try.underlying147 rfl rfl rfl sz_62 (by decide)) (Nb rfl) ?_
        refine KA (KJ (o' := 58) Try.underlying62 rfl rfl rfl sz_4 (by decide)) (Nb rfl) ?_
        refine KK rfl (KAM rfl rfl rfl sz_4 (by first | exact KI _ | exact KS _ _ _ | rfl) (by first | exact KAC _ | exact KAL _ _ _ | exact Kc rfl Kg) (by repeat (first | exact Sh _ | apply St_)) (by simp only [KAf]; decide) (cvC_set_leg _ _ _ _ _ _ _ _ _ _ _ _ _ _) (by simp) ?_)
        refine KG ?_
        refine KE ?_
        refine Kb [22] (by kernel_rfl) ?_
        refine KC 0 rfl (by kernel_rfl) (Nb rfl) (KD rfl) ?_
        refine KC 1 rfl (by kernel_rfl) (Nb rfl) (KD rfl) ?_
        refine KC 2 rfl (by kernel_rfl) (Nb rfl) (KD rfl) ?_
        refine KC 3 rfl (by kernel_rfl) (Nb rfl) (KD rfl) ?_
        refine KC 4 rfl (by kernel_rfl) (Nb rfl) (KZ rfl) ?_
        refine KC 5 rfl (by kernel_rfl) (Nb rfl) (KJ (o' := 0) Try.underlying147 rfl rfl rfl sz_62 (by decide)) ?_
        refine KC 6 rfl (by kernel_rfl) (Nb rfl) (KJ (o' := 19) Try.underlying62 rfl rfl rfl sz_25 (by decide)) ?_
        refine LAny.take 7 rfl (by kernel_rfl) (Nb rfl) (KN rfl (by repeat (first | exact Mh _ | apply Mt)) (by exact cvC_ld_b _ _ _ _ _ _ _ _ _ _ _ _ _ _ _ _)) ?_
        refine KC 8 rfl (by kernel_rfl) (Nb rfl) (KD rfl) ?_
        refine KC 9 rfl (by kernel_rfl) (Nb rfl) (KZ rfl) ?_
        refine KC 10 rfl (by kernel_rfl) (Nb rfl) (KJ (o' := 0) Try.underlying147 rfl rfl rfl sz_62 (by decide)) ?_
        refine KC 11 rfl (by kernel_rfl) (Nb rfl) (KJ (o' := 19) Try.underlying62 rfl rfl rfl sz_25 (by decide)) ?_
        refine LAny.take 12 rfl (by kernel_rfl) (Nb rfl) (KN rfl (by repeat (first | exact Mh _ | apply Mt)) (by exact cvC_ld_b _ _ _ _ _ _ _ _ _ _ _ _ _ _ _ _)) ?_
        refine KC 14 rfl (by kernel_rfl) (Nb rfl) (KD rfl) ?_
        refine KC 15 rfl (by kernel_rfl) (Nb rfl) (KZ rfl) ?_
        refine KC 16 rfl (by kernel_rfl) (Nb rfl) (KJ (o' := 0) Try.underlying147 rfl rfl rfl sz_62 (by decide)) ?_
        refine KC 17 rfl (by kernel_rfl) (Nb rfl) (KJ (o' := 19) Try.underlying62 rfl rfl rfl sz_25 (by decide)) ?_
        refine LAny.take 18 rfl (by kernel_rfl) (Nb rfl) (KN rfl (by repeat (first | exact Mh _ | apply Mt)) (by exact cvC_ld_b _ _ _ _ _ _ _ _ _ _ _ _ _ _ _ _)) ?_
        refine Kz 13 rfl rfl (by kernel_rfl) (KO (first := []) rfl en_152 rfl (Nb rfl) (fun w hw => c_f_Add V f bd V.b V.b w (hw _ (by repeat (first | exact Mh _ | apply Mt))) hbb.2.1 (by omega) (by omega)) ?_)
        refine Kz 19 rfl rfl (by kernel_rfl) (KO (first := []) rfl en_152 rfl (Nb rfl) (fun w hw => c_f_Add V f bd ((V.b + V.b) % V.p) V.b w (hw _ (by repeat (first | exact Mh _ | apply Mt))) hbb.2.1 (Nat.mod_lt _ (by omega)) (by omega)) ?_)
        refine KC 20 rfl (by kernel_rfl) (Nb rfl) (KZ rfl) ?_
        refine KC 21 rfl (by kernel_rfl) (Nb rfl) (KJ (o' := 60) Try.underlying147 rfl rfl rfl sz_25 (by decide)) ?_
        refine KAH 22 rfl rfl (by kernel_rfl) (by kernel_rfl) (KAM rfl rfl rfl sz_25 (by first | exact KI _ | exact KS _ _ _ | rfl) (by first | exact KAC _ | exact KAL _ _ _ | exact Kc rfl Kg) (by repeat (first | exact Sh _ | apply St_)) (by simp only [KAf]; decide) (cvC_set_t3 _ _ _ _ _ _ _ _ _ _ _ _ _ _) (by simp) ?_)
        refine Kp (by kernel_rfl) ?_
        refine KE (KB ?_)
        refine KA (KD rfl) (Nb rfl) ?_
        refine KA (KF rfl) (Nb rfl) ?_
        refine KG (KR ?_)
        refine ⟨[_], .cons rfl .nil, fun a w' hr => ⟨b14, f, bd, rfl, ?_, hr.hp _ (by repeat (first | exact Mh _ | apply Mt)), hr.hp _ (by repeat (first | exact Mh _ | apply Mt)), hr.new (B := ⟨true, _, _, _⟩) (by repeat (first | exact Mh _ | apply Mt)) rfl, hnf, hnbd, hr.fr.below⟩⟩
        have hcv := hr.hp _ (show Item.blk b14 ⟨true, cvC V.id V.p (V.p - 3) V.b V.n V.x V.y false (blen V.n) (nby V.p) (decide (((V.id : Nat) : Int) = 7)) (.pointer (some ⟨f, 0, none⟩)) (thr V), 147, (0, 0)⟩ ∈ _ from (by repeat (first | exact Mh _ | apply Mt)))
        have hl : legB V = (decide (((V.id : Nat) : Int) = 7)) := by unfold legB; by_cases h7 : V.id = 7 <;> simp [h7]; omega
        have ha : V.a = V.p - 3 := by omega
        rw [← ha] at hcv
        unfold opL
        rw [hl]
        exact hcv
    ·
      refine KB ?_
      refine KA (KJ (o' := 0) Try.underlying188 rfl rfl rfl sz_9 (by decide)) (Nb rfl) ?_
      refine LOps.det (KN rfl (by repeat (first | exact Mh _ | apply Mt)) (KQ Try.underlying9 rfl (by first | rfl | exact Ku _ _ _ (by omega) | exact Kw _ (by omega) | exact Ky _ (by omega) | exact dv_m _ _ _ (by omega)))) (Nb rfl) ?_
      refine KA (KP (Det.eqs rfl rfl) (congrArg Value.bool (eq_str_f hA0))) (Nb rfl) ?_
      refine KG ?_
      refine Ki rfl ?_
      refine KB ?_
      refine KA (KD rfl) (Nb rfl) ?_
      refine KA (KJ (o' := 0) Try.underlying188 rfl rfl rfl sz_9 (by decide)) (Nb rfl) ?_
      refine LOps.det (KN rfl (by repeat (first | exact Mh _ | apply Mt)) (KQ Try.underlying9 rfl (by first | rfl | exact Ku _ _ _ (by omega) | exact Kw _ (by omega) | exact Ky _ (by omega) | exact dv_m _ _ _ (by omega)))) (Nb rfl) ?_
      refine KK rfl (KU (KO (first := []) rfl en_148 rfl (Nb rfl) (fun w hw => fhex s0 V.a w hA1) ?_))
      refine KA (KZ rfl) (Nb rfl) ?_
      refine KA (KJ (o' := 0) Try.underlying147 rfl rfl rfl sz_62 (by decide)) (Nb rfl) ?_
      refine KA (KJ (o' := 10) Try.underlying62 rfl rfl rfl sz_25 (by decide)) (Nb rfl) ?_
      refine KK rfl (KAM rfl rfl rfl sz_25 (by first | exact KI _ | exact KS _ _ _ | rfl) (by first | exact KAC _ | exact KAL _ _ _ | exact Kc rfl Kg) (by repeat (first | exact Sh _ | apply St_)) (by simp only [KAf]; decide) (cvC_set_a _ _ _ _ _ _ _ _ _ _ _ _ _ _) (by simp) ?_)
      refine KG ?_
      refine KE ?_
      refine Kb [11] (by kernel_rfl) ?_
      refine KC 0 rfl (by kernel_rfl) (Nb rfl) (KD rfl) ?_
      refine KC 1 rfl (by kernel_rfl) (Nb rfl) (KJ (o' := 3) Try.underlying188 rfl rfl rfl sz_9 (by decide)) ?_
      refine LAny.take 2 rfl (by kernel_rfl) (Nb rfl) (KN rfl (by repeat (first | exact Mh _ | apply Mt)) (KQ Try.underlying9 rfl (by first | rfl | exact Ku _ _ _ (by omega) | exact Kw _ (by omega) | exact Ky _ (by omega) | exact dv_m _ _ _ (by omega)))) ?_
      refine KC 4 rfl (by kernel_rfl) (Nb rfl) (KJ (o' := 4) Try.underlying188 rfl rfl rfl sz_9 (by decide)) ?_
      refine LAny.take 5 rfl (by kernel_rfl) (Nb rfl) (KN rfl (by repeat (first | exact Mh _ | apply Mt)) (KQ Try.underlying9 rfl (by first | rfl | exact Ku _ _ _ (by omega) | exact Kw _ (by omega) | exact Ky _ (by omega) | exact dv_m _ _ _ (by omega)))) ?_
      refine Kz 3 rfl rfl (by kernel_rfl) (KO (first := []) rfl en_148 rfl (Nb rfl) (fun w hw => fhex s3 V.x w hX) ?_)
      refine Kz 6 rfl rfl (by kernel_rfl) (KO (first := []) rfl en_148 rfl (Nb rfl) (fun w hw => fhex s4 V.y w hY) ?_)
      refine KC 7 rfl (by kernel_rfl) (Nb rfl) (KP (KAk pl_60 zr_60 rfl (fill_pt _ _)) rfl) ?_
      refine KC 8 rfl (by kernel_rfl) (Nb rfl) (KZ rfl) ?_
      refine KC 9 rfl (by kernel_rfl) (Nb rfl) (KJ (o' := 0) Try.underlying147 rfl rfl rfl sz_62 (by decide)) ?_
      refine KC 10 rfl (by kernel_rfl) (Nb rfl) (KJ (o' := 37) Try.underlying62 rfl rfl rfl sz_60 (by decide)) ?_
      refine KAH 11 rfl rfl (by kernel_rfl) (by kernel_rfl) (KAM rfl rfl rfl sz_60 (by first | exact KI _ | exact KS _ _ _ | rfl) (by first | exact KAC _ | exact KAL _ _ _ | exact Kc rfl Kg) (by repeat (first | exact Sh _ | apply St_)) (by simp only [KAf]; decide) (cvC_set_g _ _ _ _ _ _ _ _ _ _ _ _ _ _ _ _) (by simp) ?_)
      refine Kp (by kernel_rfl) ?_
      refine KE ?_
      refine Kb [18, 22] (by kernel_rfl) ?_
      refine KC 0 rfl (by kernel_rfl) (Nb rfl) (KD rfl) ?_
      refine KC 1 rfl (by kernel_rfl) (Nb rfl) (KD rfl) ?_
      refine KC 2 rfl (by kernel_rfl) (Nb rfl) (KD rfl) ?_
      refine KC 3 rfl (by kernel_rfl) (Nb rfl) (KZ rfl) ?_
      refine KC 4 rfl (by kernel_rfl) (Nb rfl) (KJ (o' := 0) Try.underlying147 rfl rfl rfl sz_62 (by decide)) ?_
      refine KC 5 rfl (by kernel_rfl) (Nb rfl) (KJ (o' := 28) Try.underlying62 rfl rfl rfl sz_25 (by decide)) ?_
      refine LAny.take 6 rfl (by kernel_rfl) (Nb rfl) (KN rfl (by repeat (first | exact Mh _ | apply Mt)) (by exact cvC_ld_n _ _ _ _ _ _ _ _ _ _ _ _ _ _ _ _)) ?_
      refine KC 8 rfl (by kernel_rfl) (Nb rfl) (KD rfl) ?_
      refine KC 9 rfl (by kernel_rfl) (Nb rfl) (KZ rfl) ?_
      refine KC 10 rfl (by kernel_rfl) (Nb rfl) (KJ (o' := 0) Try.underlying194 rfl rfl rfl sz_25 (by decide)) ?_
      refine LAny.take 11 rfl (by kernel_rfl) (Nb rfl) (KN rfl (by repeat (first | exact Mh _ | apply Mt)) (by exact LoadV.first Try.underlying25 rfl sz_25 rfl (KI _))) ?_
      refine Kz 7 rfl rfl (by kernel_rfl) (KO (first := []) rfl en_151 rfl (Nb rfl) (fun w hw => c_nat_Bits V.n hnW w) ?_)
      refine Kz 12 rfl rfl (by kernel_rfl) (KO (first := []) rfl en_151 rfl (Nb rfl) (fun w hw => c_nat_Bits V.p hpW w) ?_)
      refine KC 13 rfl (by kernel_rfl) (Nb rfl) (KH rfl rfl (KAF (b := 7) (by omega))) ?_
      refine KC 14 rfl (by kernel_rfl) (Nb rfl) (KH rfl rfl (br_quo (b := 8) (by omega) (by omega))) ?_
      refine KC 15 rfl (by kernel_rfl) (Nb rfl) (KZ rfl) ?_
      refine KC 16 rfl (by kernel_rfl) (Nb rfl) (KJ (o' := 0) Try.underlying147 rfl rfl rfl sz_62 (by decide)) ?_
      refine KC 17 rfl (by kernel_rfl) (Nb rfl) (KJ (o' := 56) Try.underlying62 rfl rfl rfl sz_3 (by decide)) ?_
      refine KAH 18 rfl rfl (by kernel_rfl) (by kernel_rfl) (KAM rfl rfl rfl sz_3 (by first | exact KI _ | exact KS _ _ _ | rfl) (by first | exact KAC _ | exact KAL _ _ _ | exact Kc rfl Kg) (by repeat (first | exact Sh _ | apply St_)) (by simp only [KAf]; decide) (cvC_set_bits _ _ _ _ _ _ _ _ _ _ _ _ _ _) (by simp) ?_)
      refine KC 19 rfl (by kernel_rfl) (Nb rfl) (KZ rfl) ?_
      refine KC 20 rfl (by kernel_rfl) (Nb rfl) (KJ (o' := 0) Try.underlying147 rfl rfl rfl sz_62 (by decide)) ?_
      refine KC 21 rfl (by kernel_rfl) (Nb rfl) (KJ (o' := 57) Try.underlying62 rfl rfl rfl sz_3 (by decide)) ?_
      refine KAH 22 rfl rfl (by kernel_rfl) (by kernel_rfl) (KAM rfl rfl rfl sz_3 (by first | exact KI _ | exact KS _ _ _ | rfl) (by first | exact KAC _ | exact KAL _ _ _ | exact Kc rfl Kg) (by repeat (first | exact Sh _ | apply St_)) (by simp only [KAf]; decide) (cvC_set_size _ _ _ _ _ _ _ _ _ _ _ _ _ _) (by simp) ?_)
      refine Kp (by kernel_rfl) ?_
      refine KE ?_
      by_cases hi1 : ((V.id : Nat) : Int) = 1
      ·
        refine KB ?_
        refine KA (KD rfl) (Nb rfl) ?_
        refine KA (KD rfl) (Nb rfl) ?_
        refine KA (KH (v := .bool true) rfl rfl (br_t KAa hi1)) (Nb rfl) ?_
        refine KA (KD rfl) (Nb rfl) ?_
        refine Kj rfl rfl rfl (Nb rfl) ?_
        refine Kj rfl rfl rfl (Nb rfl) ?_
        refine KA (Kh rfl rfl) (Nb rfl) ?_
        refine KA (KZ rfl) (Nb rfl) ?_
        refine KA (KJ (o' := 0) Try.underlying147 rfl rfl rfl sz_62 (by decide)) (Nb rfl) ?_
        refine KA (KJ (o' := 58) Try.underlying62 rfl rfl rfl sz_4 (by decide)) (Nb rfl) ?_
        refine KK rfl (KAM rfl rfl rfl sz_4 (by first | exact KI _ | exact KS _ _ _ | rfl) (by first | exact KAC _ | exact KAL _ _ _ | exact Kc rfl Kg) (by repeat (first | exact Sh _ | apply St_)) (by simp only [KAf]; decide) (cvC_set_leg _ _ _ _ _ _ _ _ _ _ _ _ _ _) (by simp) ?_)
        refine KG ?_
        refine KE ?_
        refine Kb [22] (by kernel_rfl) ?_
        refine KC 0 rfl (by kernel_rfl) (Nb rfl) (KD rfl) ?_
        refine KC 1 rfl (by kernel_rfl) (Nb rfl) (KD rfl) ?_
        refine KC 2 rfl (by kernel_rfl) (Nb rfl) (KD rfl) ?_
        refine KC 3 rfl (by kernel_rfl) (Nb rfl) (KD rfl) ?_
        refine KC 4 rfl (by kernel_rfl) (Nb rfl) (KZ rfl) ?_
        refine KC 5 rfl (by kernel_rfl) (Nb rfl) (KJ (o' := 0) Try.underlying147 rfl rfl rfl sz_62 (by decide)) ?_
        refine KC 6 rfl (by kernel_rfl) (Nb rfl) (KJ (o' := 19) Try.underlying62 rfl rfl rfl sz_25 (by decide)) ?_
        refine LAny.take 7 rfl (by kernel_rfl) (Nb rfl) (KN rfl (by repeat (first | exact Mh _ | apply Mt)) (by exact cvC_ld_b _ _ _ _ _ _ _ _ _ _ _ _ _ _ _ _)) ?_
        refine KC 8 rfl (by kernel_rfl) (Nb rfl) (KD rfl) ?_
        refine KC 9 rfl (by kernel_rfl) (Nb rfl) (KZ rfl) ?_
        refine KC 10 rfl (by kernel_rfl) (Nb rfl) (KJ (o' := 0) Try.underlying147 rfl rfl rfl sz_62 (by decide)) ?_
        refine KC 11 rfl (by kernel_rfl) (Nb rfl) (KJ (o' := 19) Try.underlying62 rfl rfl rfl sz_25 (by decide)) ?_
        refine LAny.take 12 rfl (by kernel_rfl) (Nb rfl) (KN rfl (by repeat (first | exact Mh _ | apply Mt)) (by exact cvC_ld_b _ _ _ _ _ _ _ _ _ _ _ _ _ _ _ _)) ?_
        refine KC 14 rfl (by kernel_rfl) (Nb rfl) (KD rfl) ?_
        refine KC 15 rfl (by kernel_rfl) (Nb rfl) (KZ rfl) ?_
        refine KC 16 rfl (by kernel_rfl) (Nb rfl) (KJ (o' := 0) Try.underlying147 rfl rfl rfl sz_62 (by decide)) ?_
        refine KC 17 rfl (by kernel_rfl) (Nb rfl) (KJ (o' := 19) Try.underlying62 rfl rfl rfl sz_25 (by decide)) ?_
        refine LAny.take 18 rfl (by kernel_rfl) (Nb rfl) (KN rfl (by repeat (first | exact Mh _ | apply Mt)) (by exact cvC_ld_b _ _ _ _ _ _ _ _ _ _ _ _ _ _ _ _)) ?_
        refine Kz 13 rfl rfl (by kernel_rfl) (KO (first := []) rfl en_152 rfl (Nb rfl) (fun w hw => c_f_Add V f bd V.b V.b w (hw _ (by repeat (first | exact Mh _ | apply Mt))) hbb.2.1 (by omega) (by omega)) ?_)
        refine Kz 19 rfl rfl (by kernel_rfl) (KO (first := []) rfl en_152 rfl (Nb rfl) (fun w hw => c_f_Add V f bd ((V.b + V.b) % V.p) V.b w (hw _ (by repeat (first | exact Mh _ | apply Mt))) hbb.2.1 (Nat.mod_lt _ (by omega)) (by omega)) ?_)
        refine KC 20 rfl (by kernel_rfl) (Nb rfl) (KZ rfl) ?_
        refine KC 21 rfl (by kernel_rfl) (Nb rfl) (KJ (o' := 60) Try.underlying147 rfl rfl rfl sz_25 (by decide)) ?_
        refine KAH 22 rfl rfl (by kernel_rfl) (by kernel_rfl) (KAM rfl rfl rfl sz_25 (by first | exact KI _ | exact KS _ _ _ | rfl) (by first | exact KAC _ | exact KAL _ _ _ | exact Kc rfl Kg) (by repeat (first | exact Sh _ | apply St_)) (by simp only [KAf]; decide) (cvC_set_t3 _ _ _ _ _ _ _ _ _ _ _ _ _ _) (by simp) ?_)
        refine Kp (by kernel_rfl) ?_
        refine KE (KB ?_)
        refine KA (KD rfl) (Nb rfl) ?_
        refine KA (KF rfl) (Nb rfl) ?_
        refine KG (KR ?_)
        refine ⟨[_], .cons rfl .nil, fun a w' hr => ⟨b14, f, bd, rfl, ?_, hr.hp _ (by repeat (first | exact Mh _ | apply Mt)), hr.hp _ (by repeat (first | exact Mh _ | apply Mt)), hr.new (B := ⟨true, _, _, _⟩) (by repeat (first | exact Mh _ | apply Mt)) rfl, hnf, hnbd, hr.fr.below⟩⟩
        have hcv := hr.hp _ (show Item.blk b14 ⟨true, cvC V.id V.p V.a V.b V.n V.x V.y false (blen V.n) (nby V.p) true (.pointer (some ⟨f, 0, none⟩)) (thr V), 147, (0, 0)⟩ ∈ _ from (by repeat (first | exact Mh _ | apply Mt)))
        have hl : legB V = true := by unfold legB; exact decide_eq_true (by omega)
        unfold opL
        rw [hl]
        exact hcv
      ·
        refine KB ?_
        refine KA (KD rfl) (Nb rfl) ?_
        refine KA (KD rfl) (Nb rfl) ?_
        refine KA (KH (v := .bool false) rfl rfl (br_f KAa hi1)) (Nb rfl) ?_
        refine KA (KD rfl) (Nb rfl) ?_
        refine KX rfl rfl (KD rfl) (Nb rfl) ?_
        refine KX rfl rfl (KH (v := .bool (decide (((V.id : Nat) : Int) = 7))) rfl rfl KAa) (Nb rfl) ?_
        refine KA (Ks rfl rfl) (Nb rfl) ?_
        refine KA (KZ rfl) (Nb rfl) ?_
        refine KA (KJ (o' := 0) Try.underlying147 rfl rfl rfl sz_62 (by decide)) (Nb rfl) ?_
        refine KA (KJ (o' := 58) Try.underlying62 rfl rfl rfl sz_4 (by decide)) (Nb rfl) ?_
        refine KK rfl (KAM rfl rfl rfl sz_4 (by first | exact KI _ | exact KS _ _ _ | rfl) (by first | exact KAC _ | exact KAL _ _ _ | exact Kc rfl Kg) (by repeat (first | exact Sh _ | apply St_)) (by simp only [KAf]; decide) (cvC_set_leg _ _ _ _ _ _ _ _ _ _ _ _ _ _) (by simp) ?_)
        refine KG ?_
        refine KE ?_
        refine Kb [22] (by kernel_rfl) ?_
        refine KC 0 rfl (by kernel_rfl) (Nb rfl) (KD rfl) ?_
        refine KC 1 rfl (by kernel_rfl) (Nb rfl) (KD rfl) ?_
        refine KC 2 rfl (by kernel_rfl) (Nb rfl) (KD rfl) ?_
        refine KC 3 rfl (by kernel_rfl) (Nb rfl) (KD rfl) ?_
        refine KC 4 rfl (by kernel_rfl) (Nb rfl) (KZ rfl) ?_
        refine KC 5 rfl (by kernel_rfl) (Nb rfl) (KJ (o' := 0) Try.underlying147 rfl rfl rfl sz_62 (by decide)) ?_
        refine KC 6 rfl (by kernel_rfl) (Nb rfl) (KJ (o' := 19) Try.underlying62 rfl rfl rfl sz_25 (by decide)) ?_
        refine LAny.take 7 rfl (by kernel_rfl) (Nb rfl) (KN rfl (by repeat (first | exact Mh _ | apply Mt)) (by exact cvC_ld_b _ _ _ _ _ _ _ _ _ _ _ _ _ _ _ _)) ?_
        refine KC 8 rfl (by kernel_rfl) (Nb rfl) (KD rfl) ?_
        refine KC 9 rfl (by kernel_rfl) (Nb rfl) (KZ rfl) ?_
        refine KC 10 rfl (by kernel_rfl) (Nb rfl) (KJ (o' := 0) Try.underlying147 rfl rfl rfl sz_62 (by decide)) ?_
        refine KC 11 rfl (by kernel_rfl) (Nb rfl) (KJ (o' := 19) Try.underlying62 rfl rfl rfl sz_25 (by decide)) ?_
        refine LAny.take 12 rfl (by kernel_rfl) (Nb rfl) (KN rfl (by repeat (first | exact Mh _ | apply Mt)) (by exact cvC_ld_b _ _ _ _ _ _ _ _ _ _ _ _ _ _ _ _)) ?_
        refine KC 14 rfl (by kernel_rfl) (Nb rfl) (KD rfl) ?_
        refine KC 15 rfl (by kernel_rfl) (Nb rfl) (KZ rfl) ?_
        refine KC 16 rfl (by kernel_rfl) (Nb rfl) (KJ (o' := 0) Try.underlying147 rfl rfl rfl sz_62 (by decide)) ?_
        refine KC 17 rfl (by kernel_rfl) (Nb rfl) (KJ (o' := 19) Try.underlying62 rfl rfl rfl sz_25 (by decide)) ?_
        refine LAny.take 18 rfl (by kernel_rfl) (Nb rfl) (KN rfl (by repeat (first | exact Mh _ | apply Mt)) (by exact cvC_ld_b _ _ _ _ _ _ _ _ _ _ _ _ _ _ _ _)) ?_
        refine Kz 13 rfl rfl (by kernel_rfl) (KO (first := []) rfl en_152 rfl (Nb rfl) (fun w hw => c_f_Add V f bd V.b V.b w (hw _ (by repeat (first | exact Mh _ | apply Mt))) hbb.2.1 (by omega) (by omega)) ?_)
        refine Kz 19 rfl rfl (by kernel_rfl) (KO (first := []) rfl en_152 rfl (Nb rfl) (fun w hw => c_f_Add V f bd ((V.b + V.b) % V.p) V.b w (hw _ (by repeat (first | exact Mh _ | apply Mt))) hbb.2.1 (Nat.mod_lt _ (by omega)) (by omega)) ?_)
        refine KC 20 rfl (by kernel_rfl) (Nb rfl) (KZ rfl) ?_
        refine KC 21 rfl (by kernel_rfl) (Nb rfl) (KJ (o' := 60) Try.underlying147 rfl rfl rfl sz_25 (by decide)) ?_
        refine KAH 22 rfl rfl (by kernel_rfl) (by kernel_rfl) (KAM rfl rfl rfl sz_25 (by first | exact KI _ | exact KS _ _ _ | rfl) (by first | exact KAC _ | exact KAL _ _ _ | exact Kc rfl Kg) (by repeat (first | exact Sh _ | apply St_)) (by simp only [KAf]; decide) (cvC_set_t3 _ _ _ _ _ _ _ _ _ _ _ _ _ _) (by simp) ?_)
        refine Kp (by kernel_rfl) ?_
        refine KE (KB ?_)
        refine KA (KD rfl) (Nb rfl) ?_
        refine KA (KF rfl) (Nb rfl) ?_
        refine KG (KR ?_)
        refine ⟨[_], .cons rfl .nil, fun a w' hr => ⟨b14, f, bd, rfl, ?_, hr.hp _ (by repeat (first | exact Mh _ | apply Mt)), hr.hp _ (by repeat (first | exact Mh _ | apply Mt)), hr.new (B := ⟨true, _, _, _⟩) (by repeat (first | exact Mh _ | apply Mt)) rfl, hnf, hnbd, hr.fr.below⟩⟩
        have hcv := hr.hp _ (show Item.blk b14 ⟨true, cvC V.id V.p V.a V.b V.n V.x V.y false (blen V.n) (nby V.p) (decide (((V.id : Nat) : Int) = 7)) (.pointer (some ⟨f, 0, none⟩)) (thr V), 147, (0, 0)⟩ ∈ _ from (by repeat (first | exact Mh _ | apply Mt)))
        have hl : legB V = (decide (((V.id : Nat) : Int) = 7)) := by unfold legB; by_cases h7 : V.id = 7 <;> simp [h7]; omega
        unfold opL
        rw [hl]
        exact hcv
end Go.Proofs.Ytljblbgogjieaaa
set_option linter.unusedVariables false
set_option linter.unusedSimpArgs false
set_option maxRecDepth 20000
namespace Go.Proofs.Ytljblbgogjieaaa
open Go Go.RowKit
theorem c_Num (x : Int) (w : World)  : Calls Try.prog 46 ([.int .i64 x] : List Value).toArray w (fun e w' => e = .returned (.int .i64 x) ∧ Below w.heap.size w w') := by
  refine KAA (N := 4) (rs := [.tmp 2]) [] Try.func46 rfl Try.ntmps46 Try.results46 (Nb rfl) trivial rfl ?_
  show LCode _ _ _ ⟨_, _⟩ _
  refine KE (KB ?_)
  refine KA (KF (v := .int .i64 ((0 : Nat) : Int)) rfl) (Nb rfl) ?_
  refine KG ?_
  refine KE (KB ?_)
  refine KA (KD rfl) (Nb rfl) ?_
  refine KA (KF rfl) (Nb rfl) ?_
  refine KG (KR ?_)
  refine ⟨[_], .cons rfl .nil, fun a w' hr => ⟨?_, hr.fr.below⟩⟩
  rfl
theorem one_cells9 {x : Nat} (hx : x < 18446744073709551616) : vec .u64 9 (fun j => if j = 0 then x else 0) = natL x := KAK fun i _ => by rw [limb_small hx]
theorem u64_w9 {x : Nat} (hx : x < 18446744073709551616) : x < W9 := by
  obtain ⟨k, hk⟩ : ∃ k : Nat, k = 9 := ⟨9, rfl⟩
  rw [← w9 hk]
  have h : x < 2 ^ 64 := hx
  exact Nat.lt_of_lt_of_le h (Nat.pow_le_pow_right (by decide) (by omega))
theorem c_One (x : Nat) (w : World) (hx : x < 18446744073709551616) : Calls Try.prog 55 ([.int .u64 ((x : Nat) : Int)] : List Value).toArray w (fun e w' => e = .returned (natV x) ∧ Below w.heap.size w w') := by
  refine KAA (N := 8) (rs := [.cell 2 25]) [] Try.func55 rfl Try.ntmps55 Try.results55 (Nb rfl) trivial rfl ?_
  show LCode _ _ _ ⟨_, _⟩ _
  refine KE (KB ?_)
  refine KK rfl (KU (KW (Kt zr_25) (Nb rfl) (fun b2 => ?_)))
  refine KG ?_
  refine KE (KB ?_)
  refine KK rfl (KU (KW (Kt zr_25) (Nb rfl) (fun b3 => ?_)))
  refine KG ?_
  refine KE (KB ?_)
  refine KA (KD rfl) (Nb rfl) ?_
  refine KA (KJ (o' := 0) Try.underlying25 rfl rfl rfl sz_23 (by decide)) (Nb rfl) ?_
  refine KA (Kx (i := 0) Try.underlying23 sz_22 rfl rfl (by decide)) (Nb rfl) ?_
  refine KK rfl (Kr rfl rfl rfl sz_22 (by repeat (first | exact Sh _ | apply St_)) (by first | (simp only [KM, KI, KL, Kf]; omega) | (simp; omega)) (by first | exact KAU _ _ _ _ _ | exact KAZ _ _ _ _ (by omega) | exact KAX _ _ _ _ | rfl) (by simp) ?_)
  refine KG ?_
  refine KE ?_
  refine LCode.sub (Sub.cells (b := b3) (cs' := natL x) (by repeat (first | exact Sh _ | apply St_)) (one_cells9 hx)) ?_
  refine KB ?_
  refine LOps.det (KN rfl (by repeat (first | exact Mh _ | apply Mt)) (by exact Kd Try.underlying25 rfl sz_25)) (Nb rfl) ?_
  refine KK rfl (Ke rfl rfl sz_25 (by repeat (first | exact KAC _ | exact KAY _ _ _ | exact KAN _ | exact KAL _ _ _ | exact KAe _ _ _ | exact Kg | refine Kc rfl ?_ | refine Kq ?_ ?_)) (by repeat (first | exact Sh _ | apply St_)) (by first | exact KI _ | exact KM _ _ _ | exact KL _ | exact KS _ _ _ | exact Kn _ _ _ | rfl | simp [KM, KI, KL]) ?_)
  refine KG (KR ?_)
  refine ⟨[_], .cons ⟨_, _, _, rfl, (by repeat (first | exact Mh _ | apply Mt)), by exact Kd Try.underlying25 rfl sz_25⟩ .nil, fun a w' hr => ⟨?_, hr.fr.below⟩⟩
  rfl
theorem zero_w9 : 0 < W9 := w9_pos
theorem cv13_is : cvI 13 = some cv13 := rfl
end Go.Proofs.Ytljblbgogjieaaa
set_option linter.unusedVariables false
set_option linter.unusedSimpArgs false
set_option maxRecDepth 20000
namespace Go.Proofs.Ytljblbgogjieaaa
open Go Go.RowKit
open Grp
theorem pt_ld1 (X Y : Nat) (i : Bool) (wr : Bool) (e : TypeId) (fz : Nat × Nat) : LoadV Try.prog 25 ⟨wr, ptL X Y i, e, fz⟩ 9 (natV Y) := LoadV.mid Try.underlying25 rfl sz_25 (show ptL X Y i = natL X ++ (natL Y ++ [.bool i]) from rfl) (KI _) (KI _)
theorem pt_gt (X Y : Nat) (i : Bool) : (ptL X Y i)[18]? = some (.bool i) := get_mid (A := natL X ++ natL Y) (D := []) (by simp [ptL]) (by simp [KI])
theorem eq_pt (X Y : Nat) (i : Bool) (X' Y' : Nat) (i' : Bool) (hX : X < W9) (hY : Y < W9) (hX' : X' < W9) (hY' : Y' < W9) : EqD 4 Try.prog 60 (ptV X Y i) (ptV X' Y' i') (decide (X = X') && (decide (Y = Y') && ((i == i') && true))) := by
  have d1 : ∀ A B i, ((ptL A B i).drop 0).take 9 = natL A := fun A B i => by
    rw [List.drop_zero]; unfold ptL; rw [List.take_left' (KI A)]
  have d2 : ∀ A B i, ((ptL A B i).drop 9).take 9 = natL B := fun A B i => by
    unfold ptL; rw [List.drop_left' (KI A), List.take_left' (KI B)]
  exact EqD.struct (fs := [_, _, _]) Try.underlying60 (by kernel_rfl) (EqFs.cons (by decide) (PartOf.agg Try.underlying25 rfl sz_25 (d1 X Y i)) (PartOf.agg Try.underlying25 rfl sz_25 (d1 X' Y' i')) (eq_nat X X' hX hX')
    (EqFs.cons (by decide) (PartOf.agg Try.underlying25 rfl sz_25 (d2 X Y i)) (PartOf.agg Try.underlying25 rfl sz_25 (d2 X' Y' i')) (eq_nat Y Y' hY hY')
    (EqFs.cons (by decide) (PartOf.one Try.underlying4 rfl (pt_gt X Y i)) (PartOf.one Try.underlying4 rfl (pt_gt X' Y' i')) ((EqD.bool Try.underlying4).mono (by decide)) EqFs.nil)))
theorem fill_ptI (X Y : Nat) (i : Bool) : fillL [(0, 9), (9, 9), (18, 1)] (vec .u64 9 (fun _ => 0) ++ (vec .u64 9 (fun _ => 0) ++ [Value.bool false])) [(0, natV X), (1, natV Y), (2, .bool i)] = some (ptL X Y i) := by
  refine KAT (A := []) (B := vec .u64 9 (fun _ => 0)) (D := vec .u64 9 (fun _ => 0) ++ [Value.bool false]) (cs := natL X) rfl rfl (KI _) rfl rfl (KM _ _ _) ?_
  refine KAT (A := natL X) (B := vec .u64 9 (fun _ => 0)) (D := [Value.bool false]) (cs := natL Y) rfl rfl (KI _) (by simp) (KI _) (KM _ _ _) ?_
  refine (KAT (A := natL X ++ natL Y) (B := [Value.bool false]) (D := []) (cs := [Value.bool i]) rfl rfl rfl (by simp) (by simp [KI]) rfl rfl).trans ?_
  simp [ptL]
theorem fill_ptInf : fillL [(0, 9), (9, 9), (18, 1)] (vec .u64 9 (fun _ => 0) ++ (vec .u64 9 (fun _ => 0) ++ [Value.bool false])) [(2, .bool true)] = some (ptL 0 0 true) := by
  refine (KAT (A := vec .u64 9 (fun _ => 0) ++ vec .u64 9 (fun _ => 0)) (B := [Value.bool false]) (D := []) (cs := [Value.bool true]) rfl rfl rfl (by simp) (by simp [KM]) rfl rfl).trans ?_
  simp [ptL, natL, vec_zeros 9]
section
variable (V : Cv) (hok : V.Ok) (f bd : Nat)
include hok
theorem c_F_Add (X Y : Fin V.p) (w : World) (hf : (Item.blk f ⟨false, fldL V.p bd, 194, (0, 0)⟩).holds w) : Calls Try.prog 152 ([.pointer (some ⟨f, 0, none⟩), natV X.val, natV Y.val] : List Value).toArray w (fun e w' => e = .returned (natV (X + Y).val) ∧ Below w.heap.size w w') := by
  have := c_f_Add V f bd X.val Y.val w hf hok.bounds.2.1 X.isLt Y.isLt
  rwa [← Fin.val_add] at this
theorem c_F_Mul (X Y : Fin V.p) (w : World) (hf : (Item.blk f ⟨false, fldL V.p bd, 194, (0, 0)⟩).holds w) (hbd : (Item.blk bd ⟨false, dvL V.p, 241, (0, 0)⟩).holds w) : Calls Try.prog 156 ([.pointer (some ⟨f, 0, none⟩), natV X.val, natV Y.val] : List Value).toArray w (fun e w' => e = .returned (natV (X * Y).val) ∧ Below w.heap.size w w') := by
  have hb := hok.bounds
  have hpW := w9_521 hb.2.1
  have := c_f_Mul V f bd X.val Y.val w hf hbd (by omega) hpW (Nat.lt_trans X.isLt hpW) (Nat.lt_trans Y.isLt hpW)
  rwa [← Fin.val_mul] at this
end
theorem a_val {V : Cv} (hok : V.Ok) : natV V.a = natV V.A.val := by rw [hok.A_val hok.bounds.2.2.1]
theorem b_val {V : Cv} (hok : V.Ok) : natV V.b = natV V.B.val := by rw [hok.B_val hok.bounds.2.2.2.1]
def acC (id p a b n gx gy : Nat) (inf : Bool) (bits size : Nat) (leg : Bool) : List Value := [.int .i64 ((id : Nat) : Int)] ++ (natL p ++ (natL a ++ (natL b ++ (natL n ++ (ptL gx gy inf ++ ([.int .i64 ((bits : Nat) : Int)] ++ ([.int .i64 ((size : Nat) : Int)] ++ [.bool leg])))))))
def acL (V : Cv) : List Value := acC V.id V.p V.a V.b V.n V.x V.y false (blen V.n) (nby V.p) (legB V)
theorem acC_length (id p a b n gx gy : Nat) (inf : Bool) (bits size : Nat) (leg : Bool) : (acC id p a b n gx gy inf bits size leg).length = 59 := by simp [acC, KI, KS]
theorem acL_length (V : Cv) : (acL V).length = 59 := acC_length _ _ _ _ _ _ _ _ _ _ _
theorem acC_one (id p a b n gx gy : Nat) (inf : Bool) (bits size : Nat) (leg : Bool) : AllOne (acC id p a b n gx gy inf bits size leg) := by
  unfold acC
  repeat (first | exact KAC _ | exact KAL _ _ _ | exact Kg | refine Kc rfl ?_ | refine Kq ?_ ?_)
theorem acL_one (V : Cv) : AllOne (acL V) := acC_one _ _ _ _ _ _ _ _ _ _ _
theorem ac_at_id (id p a b n gx gy : Nat) (inf : Bool) (bits size : Nat) (leg : Bool) : acC id p a b n gx gy inf bits size leg = ([]) ++ (([.int .i64 ((id : Nat) : Int)]) ++ (natL p ++ (natL a ++ (natL b ++ (natL n ++ (ptL gx gy inf ++ ([.int .i64 ((bits : Nat) : Int)] ++ ([.int .i64 ((size : Nat) : Int)] ++ ([.bool leg]))))))))) := by simp only [acC, List.append_assoc, List.append_nil, List.nil_append]
theorem ac_len_id (id p a b n gx gy : Nat) (inf : Bool) (bits size : Nat) (leg : Bool) : ([] : List Value).length = 0 := by simp [KI, KS]
theorem ac_gt_id (id p a b n gx gy : Nat) (inf : Bool) (bits size : Nat) (leg : Bool) : (acC id p a b n gx gy inf bits size leg)[0]? = some (.int .i64 ((id : Nat) : Int)) := get_mid (ac_at_id id p a b n gx gy inf bits size leg) (ac_len_id id p a b n gx gy inf bits size leg)
theorem ac_at_p (id p a b n gx gy : Nat) (inf : Bool) (bits size : Nat) (leg : Bool) : acC id p a b n gx gy inf bits size leg = ([.int .i64 ((id : Nat) : Int)]) ++ ((natL p) ++ (natL a ++ (natL b ++ (natL n ++ (ptL gx gy inf ++ ([.int .i64 ((bits : Nat) : Int)] ++ ([.int .i64 ((size : Nat) : Int)] ++ ([.bool leg])))))))) := by simp only [acC, List.append_assoc, List.append_nil, List.nil_append]
theorem ac_len_p (id p a b n gx gy : Nat) (inf : Bool) (bits size : Nat) (leg : Bool) : ([.int .i64 ((id : Nat) : Int)] : List Value).length = 1 := by simp [KI, KS]
theorem ac_ld_p (id p a b n gx gy : Nat) (inf : Bool) (bits size : Nat) (leg : Bool) (wr : Bool) (e : TypeId) (fz : Nat × Nat) : LoadV Try.prog 25 ⟨wr, acC id p a b n gx gy inf bits size leg, e, fz⟩ 1 (.agg (natL p).toArray) := LoadV.mid Try.underlying25 rfl sz_25 (ac_at_p id p a b n gx gy inf bits size leg) (ac_len_p id p a b n gx gy inf bits size leg) (by simp [KI, KS])
theorem ac_dt_p (id p a b n gx gy : Nat) (inf : Bool) (bits size : Nat) (leg : Bool) : ((acC id p a b n gx gy inf bits size leg).drop 1).take 9 = natL p := by rw [ac_at_p, List.drop_left' (ac_len_p id p a b n gx gy inf bits size leg), List.take_left' (by simp [KI, KS])]
theorem ac_at_a (id p a b n gx gy : Nat) (inf : Bool) (bits size : Nat) (leg : Bool) : acC id p a b n gx gy inf bits size leg = ([.int .i64 ((id : Nat) : Int)] ++ (natL p)) ++ ((natL a) ++ (natL b ++ (natL n ++ (ptL gx gy inf ++ ([.int .i64 ((bits : Nat) : Int)] ++ ([.int .i64 ((size : Nat) : Int)] ++ ([.bool leg]))))))) := by simp only [acC, List.append_assoc, List.append_nil, List.nil_append]
theorem ac_len_a (id p a b n gx gy : Nat) (inf : Bool) (bits size : Nat) (leg : Bool) : ([.int .i64 ((id : Nat) : Int)] ++ (natL p) : List Value).length = 10 := by simp [KI, KS]
theorem ac_ld_a (id p a b n gx gy : Nat) (inf : Bool) (bits size : Nat) (leg : Bool) (wr : Bool) (e : TypeId) (fz : Nat × Nat) : LoadV Try.prog 25 ⟨wr, acC id p a b n gx gy inf bits size leg, e, fz⟩ 10 (.agg (natL a).toArray) := LoadV.mid Try.underlying25 rfl sz_25 (ac_at_a id p a b n gx gy inf bits size leg) (ac_len_a id p a b n gx gy inf bits size leg) (by simp [KI, KS])
theorem ac_dt_a (id p a b n gx gy : Nat) (inf : Bool) (bits size : Nat) (leg : Bool) : ((acC id p a b n gx gy inf bits size leg).drop 10).take 9 = natL a := by rw [ac_at_a, List.drop_left' (ac_len_a id p a b n gx gy inf bits size leg), List.take_left' (by simp [KI, KS])]
theorem ac_at_b (id p a b n gx gy : Nat) (inf : Bool) (bits size : Nat) (leg : Bool) : acC id p a b n gx gy inf bits size leg = ([.int .i64 ((id : Nat) : Int)] ++ (natL p ++ (natL a))) ++ ((natL b) ++ (natL n ++ (ptL gx gy inf ++ ([.int .i64 ((bits : Nat) : Int)] ++ ([.int .i64 ((size : Nat) : Int)] ++ ([.bool leg])))))) := by simp only [acC, List.append_assoc, List.append_nil, List.nil_append]
theorem ac_len_b (id p a b n gx gy : Nat) (inf : Bool) (bits size : Nat) (leg : Bool) : ([.int .i64 ((id : Nat) : Int)] ++ (natL p ++ (natL a)) : List Value).length = 19 := by simp [KI, KS]
theorem ac_ld_b (id p a b n gx gy : Nat) (inf : Bool) (bits size : Nat) (leg : Bool) (wr : Bool) (e : TypeId) (fz : Nat × Nat) : LoadV Try.prog 25 ⟨wr, acC id p a b n gx gy inf bits size leg, e, fz⟩ 19 (.agg (natL b).toArray) := LoadV.mid Try.underlying25 rfl sz_25 (ac_at_b id p a b n gx gy inf bits size leg) (ac_len_b id p a b n gx gy inf bits size leg) (by simp [KI, KS])
theorem ac_dt_b (id p a b n gx gy : Nat) (inf : Bool) (bits size : Nat) (leg : Bool) : ((acC id p a b n gx gy inf bits size leg).drop 19).take 9 = natL b := by rw [ac_at_b, List.drop_left' (ac_len_b id p a b n gx gy inf bits size leg), List.take_left' (by simp [KI, KS])]
theorem ac_at_n (id p a b n gx gy : Nat) (inf : Bool) (bits size : Nat) (leg : Bool) : acC id p a b n gx gy inf bits size leg = ([.int .i64 ((id : Nat) : Int)] ++ (natL p ++ (natL a ++ (natL b)))) ++ ((natL n) ++ (ptL gx gy inf ++ ([.int .i64 ((bits : Nat) : Int)] ++ ([.int .i64 ((size : Nat) : Int)] ++ ([.bool leg]))))) := by simp only [acC, List.append_assoc, List.append_nil, List.nil_append]
theorem ac_len_n (id p a b n gx gy : Nat) (inf : Bool) (bits size : Nat) (leg : Bool) : ([.int .i64 ((id : Nat) : Int)] ++ (natL p ++ (natL a ++ (natL b))) : List Value).length = 28 := by simp [KI, KS]
theorem ac_ld_n (id p a b n gx gy : Nat) (inf : Bool) (bits size : Nat) (leg : Bool) (wr : Bool) (e : TypeId) (fz : Nat × Nat) : LoadV Try.prog 25 ⟨wr, acC id p a b n gx gy inf bits size leg, e, fz⟩ 28 (.agg (natL n).toArray) := LoadV.mid Try.underlying25 rfl sz_25 (ac_at_n id p a b n gx gy inf bits size leg) (ac_len_n id p a b n gx gy inf bits size leg) (by simp [KI, KS])
theorem ac_dt_n (id p a b n gx gy : Nat) (inf : Bool) (bits size : Nat) (leg : Bool) : ((acC id p a b n gx gy inf bits size leg).drop 28).take 9 = natL n := by rw [ac_at_n, List.drop_left' (ac_len_n id p a b n gx gy inf bits size leg), List.take_left' (by simp [KI, KS])]
theorem ac_at_g (id p a b n gx gy : Nat) (inf : Bool) (bits size : Nat) (leg : Bool) : acC id p a b n gx gy inf bits size leg = ([.int .i64 ((id : Nat) : Int)] ++ (natL p ++ (natL a ++ (natL b ++ (natL n))))) ++ ((ptL gx gy inf) ++ ([.int .i64 ((bits : Nat) : Int)] ++ ([.int .i64 ((size : Nat) : Int)] ++ ([.bool leg])))) := by simp only [acC, List.append_assoc, List.append_nil, List.nil_append]
theorem ac_len_g (id p a b n gx gy : Nat) (inf : Bool) (bits size : Nat) (leg : Bool) : ([.int .i64 ((id : Nat) : Int)] ++ (natL p ++ (natL a ++ (natL b ++ (natL n)))) : List Value).length = 37 := by simp [KI, KS]
theorem ac_ld_g (id p a b n gx gy : Nat) (inf : Bool) (bits size : Nat) (leg : Bool) (wr : Bool) (e : TypeId) (fz : Nat × Nat) : LoadV Try.prog 60 ⟨wr, acC id p a b n gx gy inf bits size leg, e, fz⟩ 37 (.agg (ptL gx gy inf).toArray) := LoadV.mid Try.underlying60 rfl sz_60 (ac_at_g id p a b n gx gy inf bits size leg) (ac_len_g id p a b n gx gy inf bits size leg) (by simp [KI, KS])
theorem ac_dt_g (id p a b n gx gy : Nat) (inf : Bool) (bits size : Nat) (leg : Bool) : ((acC id p a b n gx gy inf bits size leg).drop 37).take 19 = ptL gx gy inf := by rw [ac_at_g, List.drop_left' (ac_len_g id p a b n gx gy inf bits size leg), List.take_left' (by simp [KI, KS])]
theorem ac_at_bits (id p a b n gx gy : Nat) (inf : Bool) (bits size : Nat) (leg : Bool) : acC id p a b n gx gy inf bits size leg = ([.int .i64 ((id : Nat) : Int)] ++ (natL p ++ (natL a ++ (natL b ++ (natL n ++ (ptL gx gy inf)))))) ++ (([.int .i64 ((bits : Nat) : Int)]) ++ ([.int .i64 ((size : Nat) : Int)] ++ ([.bool leg]))) := by simp only [acC, List.append_assoc, List.append_nil, List.nil_append]
theorem ac_len_bits (id p a b n gx gy : Nat) (inf : Bool) (bits size : Nat) (leg : Bool) : ([.int .i64 ((id : Nat) : Int)] ++ (natL p ++ (natL a ++ (natL b ++ (natL n ++ (ptL gx gy inf))))) : List Value).length = 56 := by simp [KI, KS]
theorem ac_gt_bits (id p a b n gx gy : Nat) (inf : Bool) (bits size : Nat) (leg : Bool) : (acC id p a b n gx gy inf bits size leg)[56]? = some (.int .i64 ((bits : Nat) : Int)) := get_mid (ac_at_bits id p a b n gx gy inf bits size leg) (ac_len_bits id p a b n gx gy inf bits size leg)
theorem ac_at_size (id p a b n gx gy : Nat) (inf : Bool) (bits size : Nat) (leg : Bool) : acC id p a b n gx gy inf bits size leg = ([.int .i64 ((id : Nat) : Int)] ++ (natL p ++ (natL a ++ (natL b ++ (natL n ++ (ptL gx gy inf ++ ([.int .i64 ((bits : Nat) : Int)]))))))) ++ (([.int .i64 ((size : Nat) : Int)]) ++ ([.bool leg])) := by simp only [acC, List.append_assoc, List.append_nil, List.nil_append]
theorem ac_len_size (id p a b n gx gy : Nat) (inf : Bool) (bits size : Nat) (leg : Bool) : ([.int .i64 ((id : Nat) : Int)] ++ (natL p ++ (natL a ++ (natL b ++ (natL n ++ (ptL gx gy inf ++ ([.int .i64 ((bits : Nat) : Int)])))))) : List Value).length = 57 := by simp [KI, KS]
theorem ac_gt_size (id p a b n gx gy : Nat) (inf : Bool) (bits size : Nat) (leg : Bool) : (acC id p a b n gx gy inf bits size leg)[57]? = some (.int .i64 ((size : Nat) : Int)) := get_mid (ac_at_size id p a b n gx gy inf bits size leg) (ac_len_size id p a b n gx gy inf bits size leg)
theorem ac_at_leg (id p a b n gx gy : Nat) (inf : Bool) (bits size : Nat) (leg : Bool) : acC id p a b n gx gy inf bits size leg = ([.int .i64 ((id : Nat) : Int)] ++ (natL p ++ (natL a ++ (natL b ++ (natL n ++ (ptL gx gy inf ++ ([.int .i64 ((bits : Nat) : Int)] ++ ([.int .i64 ((size : Nat) : Int)])))))))) ++ (([.bool leg]) ++ ([])) := by simp only [acC, List.append_assoc, List.append_nil, List.nil_append]
theorem ac_len_leg (id p a b n gx gy : Nat) (inf : Bool) (bits size : Nat) (leg : Bool) : ([.int .i64 ((id : Nat) : Int)] ++ (natL p ++ (natL a ++ (natL b ++ (natL n ++ (ptL gx gy inf ++ ([.int .i64 ((bits : Nat) : Int)] ++ ([.int .i64 ((size : Nat) : Int)]))))))) : List Value).length = 58 := by simp [KI, KS]
theorem ac_gt_leg (id p a b n gx gy : Nat) (inf : Bool) (bits size : Nat) (leg : Bool) : (acC id p a b n gx gy inf bits size leg)[58]? = some (.bool leg) := get_mid (ac_at_leg id p a b n gx gy inf bits size leg) (ac_len_leg id p a b n gx gy inf bits size leg)
theorem ac_ld_gx (id p a b n gx gy : Nat) (inf : Bool) (bits size : Nat) (leg : Bool) (wr : Bool) (e : TypeId) (fz : Nat × Nat) : LoadV Try.prog 25 ⟨wr, acC id p a b n gx gy inf bits size leg, e, fz⟩ 37 (.agg (natL gx).toArray) := LoadV.mid (pre := [.int .i64 ((id : Nat) : Int)] ++ (natL p ++ (natL a ++ (natL b ++ (natL n))))) (post := natL gy ++ ([.bool inf] ++ ([.int .i64 ((bits : Nat) : Int)] ++ ([.int .i64 ((size : Nat) : Int)] ++ ([.bool leg]))))) Try.underlying25 rfl sz_25 (by simp only [acC, ptL, List.append_assoc, List.append_nil, List.nil_append]) (by simp [KI, KS]) (by simp [KI, KS])
theorem ac_ld_gy (id p a b n gx gy : Nat) (inf : Bool) (bits size : Nat) (leg : Bool) (wr : Bool) (e : TypeId) (fz : Nat × Nat) : LoadV Try.prog 25 ⟨wr, acC id p a b n gx gy inf bits size leg, e, fz⟩ 46 (.agg (natL gy).toArray) := LoadV.mid (pre := [.int .i64 ((id : Nat) : Int)] ++ (natL p ++ (natL a ++ (natL b ++ (natL n ++ (natL gx)))))) (post := [.bool inf] ++ ([.int .i64 ((bits : Nat) : Int)] ++ ([.int .i64 ((size : Nat) : Int)] ++ ([.bool leg])))) Try.underlying25 rfl sz_25 (by simp only [acC, ptL, List.append_assoc, List.append_nil, List.nil_append]) (by simp [KI, KS]) (by simp [KI, KS])
theorem eq_acC (id p a b n gx gy : Nat) (inf : Bool) (bits size : Nat) (leg : Bool) (hp : p < W9) (ha : a < W9) (hb : b < W9) (hn : n < W9) (hgx : gx < W9) (hgy : gy < W9) : EqD 5 Try.prog 62 (.agg (acC id p a b n gx gy inf bits size leg).toArray) (.agg (acC id p a b n gx gy inf bits size leg).toArray) true := by
  have h := EqD.struct (fs := [_, _, _, _, _, _, _, _, _]) Try.underlying62 (by kernel_rfl) (EqFs.cons (by decide) (PartOf.one Try.underlying3 rfl (ac_gt_id id p a b n gx gy inf bits size leg)) (PartOf.one Try.underlying3 rfl (ac_gt_id id p a b n gx gy inf bits size leg)) ((EqD.int Try.underlying3).mono (by decide)) (EqFs.cons (by decide) (PartOf.agg Try.underlying25 rfl sz_25 (ac_dt_p id p a b n gx gy inf bits size leg)) (PartOf.agg Try.underlying25 rfl sz_25 (ac_dt_p id p a b n gx gy inf bits size leg)) ((eq_nat p p hp hp).mono (by decide)) (EqFs.cons (by decide) (PartOf.agg Try.underlying25 rfl sz_25 (ac_dt_a id p a b n gx gy inf bits size leg)) (PartOf.agg Try.underlying25 rfl sz_25 (ac_dt_a id p a b n gx gy inf bits size leg)) ((eq_nat a a ha ha).mono (by decide)) (EqFs.cons (by decide) (PartOf.agg Try.underlying25 rfl sz_25 (ac_dt_b id p a b n gx gy inf bits size leg)) (PartOf.agg Try.underlying25 rfl sz_25 (ac_dt_b id p a b n gx gy inf bits size leg)) ((eq_nat b b hb hb).mono (by decide)) (EqFs.cons (by decide) (PartOf.agg Try.underlying25 rfl sz_25 (ac_dt_n id p a b n gx gy inf bits size leg)) (PartOf.agg Try.underlying25 rfl sz_25 (ac_dt_n id p a b n gx gy inf bits size leg)) ((eq_nat n n hn hn).mono (by decide)) (EqFs.cons (by decide) (PartOf.agg Try.underlying60 rfl sz_60 (ac_dt_g id p a b n gx gy inf bits size leg)) (PartOf.agg Try.underlying60 rfl sz_60 (ac_dt_g id p a b n gx gy inf bits size leg)) (eq_pt gx gy inf gx gy inf hgx hgy hgx hgy) (EqFs.cons (by decide) (PartOf.one Try.underlying3 rfl (ac_gt_bits id p a b n gx gy inf bits size leg)) (PartOf.one Try.underlying3 rfl (ac_gt_bits id p a b n gx gy inf bits size leg)) ((EqD.int Try.underlying3).mono (by decide)) (EqFs.cons (by decide) (PartOf.one Try.underlying3 rfl (ac_gt_size id p a b n gx gy inf bits size leg)) (PartOf.one Try.underlying3 rfl (ac_gt_size id p a b n gx gy inf bits size leg)) ((EqD.int Try.underlying3).mono (by decide)) (EqFs.cons (by decide) (PartOf.one Try.underlying4 rfl (ac_gt_leg id p a b n gx gy inf bits size leg)) (PartOf.one Try.underlying4 rfl (ac_gt_leg id p a b n gx gy inf bits size leg)) ((EqD.bool Try.underlying4).mono (by decide)) EqFs.nil)))))))))
  have e : ∀ {r : Bool}, r = true → EqD 5 Try.prog 62 (.agg (acC id p a b n gx gy inf bits size leg).toArray) (.agg (acC id p a b n gx gy inf bits size leg).toArray) r → EqD 5 Try.prog 62 (.agg (acC id p a b n gx gy inf bits size leg).toArray) (.agg (acC id p a b n gx gy inf bits size leg).toArray) true := fun e h => e ▸ h
  exact e (by simp) h
theorem op_ac (V : Cv) (f : Nat) : opL V f = acL V ++ (.pointer (some ⟨f, 0, none⟩) :: natL (thr V)) := by
  simp only [opL, cvC, acL, acC, List.append_assoc, List.cons_append, List.nil_append]
theorem op_ld_ac (V : Cv) (f : Nat) (wr : Bool) (e : TypeId) (fz : Nat × Nat) : LoadV Try.prog 62 ⟨wr, opL V f, e, fz⟩ 0 (.agg (acL V).toArray) := LoadV.first Try.underlying62 rfl sz_62 (op_ac V f) (acL_length V)
end Go.Proofs.Ytljblbgogjieaaa
set_option linter.unusedVariables false
set_option linter.unusedSimpArgs false
set_option maxRecDepth 20000
namespace Go.Proofs.Ytljblbgogjieaaa
open Go Go.RowKit
def rpL (u v : Value) (i : Bool) : List Value := [u, v, .bool i]
def rpV (u v : Value) (i : Bool) : Value := .agg (rpL u v i).toArray
theorem NFr.in {lo : Nat} {old : List Nat} {q : NV} {n : Nat} (h : ∀ k, k ∈ fpz q n → k ∈ old) : NFr lo old q n := fun k hk => .inr (h k hk)
theorem NFr.le {lo : Nat} {old old' : List Nat} {q : NV} {n : Nat} (h : NFr lo old q n) (hs : ∀ k, k ∈ old → k ∈ old') : NFr lo old' q n := fun k hk => (h k hk).imp id (hs k)
theorem c_r_Legacy (V : Cv) (w : World)  : Calls Try.prog 121 ([.int .i64 ((V.id : Nat) : Int)] : List Value).toArray w (fun e w' => e = .returned (.bool (legB V)) ∧ Below w.heap.size w w') := by
  refine KAA (N := 9) (rs := [.tmp 2]) [] Try.func121 rfl Try.ntmps121 Try.results121 (Nb rfl) trivial rfl ?_
  show LCode _ _ _ ⟨_, _⟩ _
  refine KE (KB ?_)
  refine KA (KF rfl) (Nb rfl) ?_
  refine KG ?_
  refine KE ?_
  by_cases h1 : V.id = 1
  ·
    refine KB ?_
    refine KA (KD rfl) (Nb rfl) ?_
    refine KA (KH (v := .bool true) rfl rfl (br_t (KAc (b := 1)) (h1))) (Nb rfl) ?_
    refine KA (KD rfl) (Nb rfl) ?_
    refine Kj rfl rfl rfl (Nb rfl) ?_
    refine Kj rfl rfl rfl (Nb rfl) ?_
    refine KA (Kh rfl rfl) (Nb rfl) ?_
    refine KA (KF rfl) (Nb rfl) ?_
    refine KG (KR ?_)
    refine ⟨[_], .cons rfl .nil, fun a w' hr => ⟨?_, hr.fr.below⟩⟩
    unfold legB
    rw [decide_eq_true (.inl h1)]
    rfl
  ·
    refine KB ?_
    refine KA (KD rfl) (Nb rfl) ?_
    refine KA (KH (v := .bool false) rfl rfl (br_f (KAc (b := 1)) (h1))) (Nb rfl) ?_
    refine KA (KD rfl) (Nb rfl) ?_
    refine KX rfl rfl (KD rfl) (Nb rfl) ?_
    refine KX rfl rfl (KH rfl rfl (KAc (b := 7))) (Nb rfl) ?_
    refine KA (Ks rfl rfl) (Nb rfl) ?_
    refine KA (KF rfl) (Nb rfl) ?_
    refine KG (KR ?_)
    refine ⟨[_], .cons rfl .nil, fun a w' hr => ⟨?_, hr.fr.below⟩⟩
    unfold legB
    rw [show decide (V.id = 1 ∨ V.id = 7) = decide (V.id = 7) from decide_eq_decide.2 (by omega)]
    rfl
theorem c_r_Api (Q : CQ) (V : Cv) (w : World) (hc : (crvI Q V).holds w) (hsz : V.Sz) : Calls Try.prog 60 ([.agg (crvL Q V).toArray] : List Value).toArray w (fun e w' => e = .returned (.agg (acL V).toArray) ∧ Below w.heap.size w w') := by
  refine KAA (N := 33) (rs := [.cell 2 62]) [crvI Q V] Try.func60 rfl Try.ntmps60 Try.results60 (Nb rfl) ⟨hc, trivial⟩ rfl ?_
  show LCode _ _ _ ⟨_, _⟩ _
  refine KE (KB ?_)
  refine KK rfl (KU (KW (KAJ rfl) (Nb rfl) (fun b1 => ?_)))
  refine KK rfl (KU (KW (Kt zr_62) (Nb rfl) (fun b2 => ?_)))
  refine KG ?_
  refine KE ?_
  refine Kb [30] (by kernel_rfl) ?_
  refine KC 0 rfl (by kernel_rfl) (Nb rfl) (KJ (o' := 0) Try.underlying31 rfl rfl rfl sz_3 (by decide)) ?_
  refine LAny.take 1 rfl (by kernel_rfl) (Nb rfl) (KN rfl (by repeat (first | exact Mh _ | apply Mt)) (KQ Try.underlying3 rfl (by first | rfl | exact Ku _ _ _ (by omega) | exact Kw _ (by omega) | exact Ky _ (by omega) | exact dv_m _ _ _ (by omega)))) ?_
  refine KC 2 rfl (by kernel_rfl) (Nb rfl) (KJ (o' := 1) Try.underlying31 rfl rfl rfl sz_29 (by decide)) ?_
  refine LAny.take 3 rfl (by kernel_rfl) (Nb rfl) (KN rfl (by repeat (first | exact Mh _ | apply Mt)) (KQ Try.underlying29 rfl (by first | rfl | exact Ku _ _ _ (by omega) | exact Kw _ (by omega) | exact Ky _ (by omega) | exact dv_m _ _ _ (by omega)))) ?_
  refine KC 5 rfl (by kernel_rfl) (Nb rfl) (KJ (o' := 2) Try.underlying31 rfl rfl rfl sz_29 (by decide)) ?_
  refine LAny.take 6 rfl (by kernel_rfl) (Nb rfl) (KN rfl (by repeat (first | exact Mh _ | apply Mt)) (KQ Try.underlying29 rfl (by first | rfl | exact Ku _ _ _ (by omega) | exact Kw _ (by omega) | exact Ky _ (by omega) | exact dv_m _ _ _ (by omega)))) ?_
  refine KC 8 rfl (by kernel_rfl) (Nb rfl) (KJ (o' := 3) Try.underlying31 rfl rfl rfl sz_29 (by decide)) ?_
  refine LAny.take 9 rfl (by kernel_rfl) (Nb rfl) (KN rfl (by repeat (first | exact Mh _ | apply Mt)) (KQ Try.underlying29 rfl (by first | rfl | exact Ku _ _ _ (by omega) | exact Kw _ (by omega) | exact Ky _ (by omega) | exact dv_m _ _ _ (by omega)))) ?_
  refine KC 11 rfl (by kernel_rfl) (Nb rfl) (KJ (o' := 4) Try.underlying31 rfl rfl rfl sz_29 (by decide)) ?_
  refine LAny.take 12 rfl (by kernel_rfl) (Nb rfl) (KN rfl (by repeat (first | exact Mh _ | apply Mt)) (KQ Try.underlying29 rfl (by first | rfl | exact Ku _ _ _ (by omega) | exact Kw _ (by omega) | exact Ky _ (by omega) | exact dv_m _ _ _ (by omega)))) ?_
  refine KC 14 rfl (by kernel_rfl) (Nb rfl) (KJ (o' := 5) Try.underlying31 rfl rfl rfl sz_29 (by decide)) ?_
  refine LAny.take 15 rfl (by kernel_rfl) (Nb rfl) (KN rfl (by repeat (first | exact Mh _ | apply Mt)) (KQ Try.underlying29 rfl (by first | rfl | exact Ku _ _ _ (by omega) | exact Kw _ (by omega) | exact Ky _ (by omega) | exact dv_m _ _ _ (by omega)))) ?_
  refine KC 17 rfl (by kernel_rfl) (Nb rfl) (KJ (o' := 6) Try.underlying31 rfl rfl rfl sz_29 (by decide)) ?_
  refine LAny.take 18 rfl (by kernel_rfl) (Nb rfl) (KN rfl (by repeat (first | exact Mh _ | apply Mt)) (KQ Try.underlying29 rfl (by first | rfl | exact Ku _ _ _ (by omega) | exact Kw _ (by omega) | exact Ky _ (by omega) | exact dv_m _ _ _ (by omega)))) ?_
  refine KC 21 rfl (by kernel_rfl) (Nb rfl) (KJ (o' := 4) Try.underlying31 rfl rfl rfl sz_29 (by decide)) ?_
  refine LAny.take 22 rfl (by kernel_rfl) (Nb rfl) (KN rfl (by repeat (first | exact Mh _ | apply Mt)) (KQ Try.underlying29 rfl (by first | rfl | exact Ku _ _ _ (by omega) | exact Kw _ (by omega) | exact Ky _ (by omega) | exact dv_m _ _ _ (by omega)))) ?_
  refine LAny.take 24 rfl (by kernel_rfl) (Nb rfl) (KN rfl (by repeat (first | exact Mh _ | apply Mt)) (by exact Kd Try.underlying31 rfl sz_31)) ?_
  refine KC 26 rfl (by kernel_rfl) (Nb rfl) (KJ (o' := 0) Try.underlying31 rfl rfl rfl sz_3 (by decide)) ?_
  refine LAny.take 27 rfl (by kernel_rfl) (Nb rfl) (KN rfl (by repeat (first | exact Mh _ | apply Mt)) (KQ Try.underlying3 rfl (by first | rfl | exact Ku _ _ _ (by omega) | exact Kw _ (by omega) | exact Ky _ (by omega) | exact dv_m _ _ _ (by omega)))) ?_
  refine Kz 4 rfl rfl (by kernel_rfl) (KO (first := []) rfl en_50 rfl (Nb rfl) (fun w hw => c_n_Nat Q.p V.p (D.nw V.p) w (crvI_p (hw _ (by repeat (first | exact Mh _ | apply Mt))))) ?_)
  refine Kz 7 rfl rfl (by kernel_rfl) (KO (first := []) rfl en_50 rfl (Nb rfl) (fun w hw => c_n_Nat Q.a V.a (D.nw V.a) w (crvI_a (hw _ (by repeat (first | exact Mh _ | apply Mt))))) ?_)
  refine Kz 10 rfl rfl (by kernel_rfl) (KO (first := []) rfl en_50 rfl (Nb rfl) (fun w hw => c_n_Nat Q.b V.b (D.nw V.b) w (crvI_b (hw _ (by repeat (first | exact Mh _ | apply Mt))))) ?_)
  refine Kz 13 rfl rfl (by kernel_rfl) (KO (first := []) rfl en_50 rfl (Nb rfl) (fun w hw => c_n_Nat Q.n V.n (D.nw V.n) w (crvI_n (hw _ (by repeat (first | exact Mh _ | apply Mt))))) ?_)
  refine Kz 16 rfl rfl (by kernel_rfl) (KO (first := []) rfl en_50 rfl (Nb rfl) (fun w hw => c_n_Nat Q.x V.x (D.nw V.x) w (crvI_x (hw _ (by repeat (first | exact Mh _ | apply Mt))))) ?_)
  refine Kz 19 rfl rfl (by kernel_rfl) (KO (first := []) rfl en_50 rfl (Nb rfl) (fun w hw => c_n_Nat Q.y V.y (D.nw V.y) w (crvI_y (hw _ (by repeat (first | exact Mh _ | apply Mt))))) ?_)
  refine KC 20 rfl (by kernel_rfl) (Nb rfl) (KP (KAk pl_60 zr_60 rfl (fill_pt _ _)) rfl) ?_
  refine Kz 23 rfl rfl (by kernel_rfl) (KO (first := []) rfl en_76 rfl (Nb rfl) (fun w hw => c_n_Bits Q.n V.n w (crvI_n (hw _ (by repeat (first | exact Mh _ | apply Mt)))) (by have := hsz.n; omega)) ?_)
  refine Kz 25 rfl rfl (by kernel_rfl) (KO (first := []) rfl en_68 rfl (Nb rfl) (fun w hw => c_r_Size Q V w (hw _ (by repeat (first | exact Mh _ | apply Mt))) hsz) ?_)
  refine Kz 28 rfl rfl (by kernel_rfl) (KO (first := []) rfl en_121 rfl (Nb rfl) (fun w hw => c_r_Legacy V w) ?_)
  refine KC 29 rfl (by kernel_rfl) (Nb rfl) (KAk pl_62 zr_62 rfl (((KAT (A := ([] : List Value)) (B := ([Value.int .i64 ((0 : Nat) : Int)])) (D := (vec .u64 9 (fun _ => 0) ++ (vec .u64 9 (fun _ => 0) ++ (vec .u64 9 (fun _ => 0) ++ (vec .u64 9 (fun _ => 0) ++ (vec .u64 9 (fun _ => 0) ++ (vec .u64 9 (fun _ => 0) ++ ([Value.bool false])) ++ ([Value.int .i64 ((0 : Nat) : Int)] ++ ([Value.int .i64 ((0 : Nat) : Int)] ++ ([Value.bool false]))))))))) (cs := [.int .i64 ((V.id : Nat) : Int)]) rfl rfl (by first | exact KI _ | exact KM _ _ _ | exact KL _ | exact Kf _ _ _ | rfl | (simp only [List.length_append, List.length_cons, List.length_nil, KI, KM, KL, Kf, KS, Kn])) (by first | rfl | simp only [List.append_assoc, List.nil_append, List.append_nil, List.cons_append]) (by first | exact KI _ | exact KM _ _ _ | exact KL _ | exact Kf _ _ _ | rfl | (simp only [List.length_append, List.length_cons, List.length_nil, KI, KM, KL, Kf, KS, Kn])) (by first | exact KI _ | exact KM _ _ _ | exact KL _ | exact Kf _ _ _ | rfl | (simp only [List.length_append, List.length_cons, List.length_nil, KI, KM, KL, Kf, KS, Kn])) (KAT (A := ([.int .i64 ((V.id : Nat) : Int)])) (B := (vec .u64 9 (fun _ => 0))) (D := (vec .u64 9 (fun _ => 0) ++ (vec .u64 9 (fun _ => 0) ++ (vec .u64 9 (fun _ => 0) ++ (vec .u64 9 (fun _ => 0) ++ (vec .u64 9 (fun _ => 0) ++ ([Value.bool false])) ++ ([Value.int .i64 ((0 : Nat) : Int)] ++ ([Value.int .i64 ((0 : Nat) : Int)] ++ ([Value.bool false])))))))) (cs := natL V.p) rfl rfl (by first | exact KI _ | exact KM _ _ _ | exact KL _ | exact Kf _ _ _ | rfl | (simp only [List.length_append, List.length_cons, List.length_nil, KI, KM, KL, Kf, KS, Kn])) (by first | rfl | simp only [List.append_assoc, List.nil_append, List.append_nil, List.cons_append]) (by first | exact KI _ | exact KM _ _ _ | exact KL _ | exact Kf _ _ _ | rfl | (simp only [List.length_append, List.length_cons, List.length_nil, KI, KM, KL, Kf, KS, Kn])) (by first | exact KI _ | exact KM _ _ _ | exact KL _ | exact Kf _ _ _ | rfl | (simp only [List.length_append, List.length_cons, List.length_nil, KI, KM, KL, Kf, KS, Kn])) (KAT (A := ([.int .i64 ((V.id : Nat) : Int)] ++ (natL V.p))) (B := (vec .u64 9 (fun _ => 0))) (D := (vec .u64 9 (fun _ => 0) ++ (vec .u64 9 (fun _ => 0) ++ (vec .u64 9 (fun _ => 0) ++ (vec .u64 9 (fun _ => 0) ++ ([Value.bool false])) ++ ([Value.int .i64 ((0 : Nat) : Int)] ++ ([Value.int .i64 ((0 : Nat) : Int)] ++ ([Value.bool false]))))))) (cs := natL V.a) rfl rfl (by first | exact KI _ | exact KM _ _ _ | exact KL _ | exact Kf _ _ _ | rfl | (simp only [List.length_append, List.length_cons, List.length_nil, KI, KM, KL, Kf, KS, Kn])) (by first | rfl | simp only [List.append_assoc, List.nil_append, List.append_nil, List.cons_append]) (by first | exact KI _ | exact KM _ _ _ | exact KL _ | exact Kf _ _ _ | rfl | (simp only [List.length_append, List.length_cons, List.length_nil, KI, KM, KL, Kf, KS, Kn])) (by first | exact KI _ | exact KM _ _ _ | exact KL _ | exact Kf _ _ _ | rfl | (simp only [List.length_append, List.length_cons, List.length_nil, KI, KM, KL, Kf, KS, Kn])) (KAT (A := ([.int .i64 ((V.id : Nat) : Int)] ++ (natL V.p ++ (natL V.a)))) (B := (vec .u64 9 (fun _ => 0))) (D := (vec .u64 9 (fun _ => 0) ++ (vec .u64 9 (fun _ => 0) ++ (vec .u64 9 (fun _ => 0) ++ ([Value.bool false])) ++ ([Value.int .i64 ((0 : Nat) : Int)] ++ ([Value.int .i64 ((0 : Nat) : Int)] ++ ([Value.bool false])))))) (cs := natL V.b) rfl rfl (by first | exact KI _ | exact KM _ _ _ | exact KL _ | exact Kf _ _ _ | rfl | (simp only [List.length_append, List.length_cons, List.length_nil, KI, KM, KL, Kf, KS, Kn])) (by first | rfl | simp only [List.append_assoc, List.nil_append, List.append_nil, List.cons_append]) (by first | exact KI _ | exact KM _ _ _ | exact KL _ | exact Kf _ _ _ | rfl | (simp only [List.length_append, List.length_cons, List.length_nil, KI, KM, KL, Kf, KS, Kn])) (by first | exact KI _ | exact KM _ _ _ | exact KL _ | exact Kf _ _ _ | rfl | (simp only [List.length_append, List.length_cons, List.length_nil, KI, KM, KL, Kf, KS, Kn])) (KAT (A := ([.int .i64 ((V.id : Nat) : Int)] ++ (natL V.p ++ (natL V.a ++ (natL V.b))))) (B := (vec .u64 9 (fun _ => 0))) (D := (vec .u64 9 (fun _ => 0) ++ (vec .u64 9 (fun _ => 0) ++ ([Value.bool false])) ++ ([Value.int .i64 ((0 : Nat) : Int)] ++ ([Value.int .i64 ((0 : Nat) : Int)] ++ ([Value.bool false]))))) (cs := natL V.n) rfl rfl (by first | exact KI _ | exact KM _ _ _ | exact KL _ | exact Kf _ _ _ | rfl | (simp only [List.length_append, List.length_cons, List.length_nil, KI, KM, KL, Kf, KS, Kn])) (by first | rfl | simp only [List.append_assoc, List.nil_append, List.append_nil, List.cons_append]) (by first | exact KI _ | exact KM _ _ _ | exact KL _ | exact Kf _ _ _ | rfl | (simp only [List.length_append, List.length_cons, List.length_nil, KI, KM, KL, Kf, KS, Kn])) (by first | exact KI _ | exact KM _ _ _ | exact KL _ | exact Kf _ _ _ | rfl | (simp only [List.length_append, List.length_cons, List.length_nil, KI, KM, KL, Kf, KS, Kn])) (KAT (A := ([.int .i64 ((V.id : Nat) : Int)] ++ (natL V.p ++ (natL V.a ++ (natL V.b ++ (natL V.n)))))) (B := (vec .u64 9 (fun _ => 0) ++ (vec .u64 9 (fun _ => 0) ++ ([Value.bool false])))) (D := ([Value.int .i64 ((0 : Nat) : Int)] ++ ([Value.int .i64 ((0 : Nat) : Int)] ++ ([Value.bool false])))) (cs := ptL V.x V.y false) rfl rfl (by first | exact KI _ | exact KM _ _ _ | exact KL _ | exact Kf _ _ _ | rfl | (simp only [List.length_append, List.length_cons, List.length_nil, KI, KM, KL, Kf, KS, Kn])) (by first | rfl | simp only [List.append_assoc, List.nil_append, List.append_nil, List.cons_append]) (by first | exact KI _ | exact KM _ _ _ | exact KL _ | exact Kf _ _ _ | rfl | (simp only [List.length_append, List.length_cons, List.length_nil, KI, KM, KL, Kf, KS, Kn])) (by first | exact KI _ | exact KM _ _ _ | exact KL _ | exact Kf _ _ _ | rfl | (simp only [List.length_append, List.length_cons, List.length_nil, KI, KM, KL, Kf, KS, Kn])) (KAT (A := ([.int .i64 ((V.id : Nat) : Int)] ++ (natL V.p ++ (natL V.a ++ (natL V.b ++ (natL V.n ++ (ptL V.x V.y false))))))) (B := ([Value.int .i64 ((0 : Nat) : Int)])) (D := ([Value.int .i64 ((0 : Nat) : Int)] ++ ([Value.bool false]))) (cs := [.int .i64 ((blen V.n : Nat) : Int)]) rfl rfl (by first | exact KI _ | exact KM _ _ _ | exact KL _ | exact Kf _ _ _ | rfl | (simp only [List.length_append, List.length_cons, List.length_nil, KI, KM, KL, Kf, KS, Kn])) (by first | rfl | simp only [List.append_assoc, List.nil_append, List.append_nil, List.cons_append]) (by first | exact KI _ | exact KM _ _ _ | exact KL _ | exact Kf _ _ _ | rfl | (simp only [List.length_append, List.length_cons, List.length_nil, KI, KM, KL, Kf, KS, Kn])) (by first | exact KI _ | exact KM _ _ _ | exact KL _ | exact Kf _ _ _ | rfl | (simp only [List.length_append, List.length_cons, List.length_nil, KI, KM, KL, Kf, KS, Kn])) (KAT (A := ([.int .i64 ((V.id : Nat) : Int)] ++ (natL V.p ++ (natL V.a ++ (natL V.b ++ (natL V.n ++ (ptL V.x V.y false ++ ([.int .i64 ((blen V.n : Nat) : Int)])))))))) (B := ([Value.int .i64 ((0 : Nat) : Int)])) (D := ([Value.bool false])) (cs := [.int .i64 ((nby V.p : Nat) : Int)]) rfl rfl (by first | exact KI _ | exact KM _ _ _ | exact KL _ | exact Kf _ _ _ | rfl | (simp only [List.length_append, List.length_cons, List.length_nil, KI, KM, KL, Kf, KS, Kn])) (by first | rfl | simp only [List.append_assoc, List.nil_append, List.append_nil, List.cons_append]) (by first | exact KI _ | exact KM _ _ _ | exact KL _ | exact Kf _ _ _ | rfl | (simp only [List.length_append, List.length_cons, List.length_nil, KI, KM, KL, Kf, KS, Kn])) (by first | exact KI _ | exact KM _ _ _ | exact KL _ | exact Kf _ _ _ | rfl | (simp only [List.length_append, List.length_cons, List.length_nil, KI, KM, KL, Kf, KS, Kn])) (KAT (A := ([.int .i64 ((V.id : Nat) : Int)] ++ (natL V.p ++ (natL V.a ++ (natL V.b ++ (natL V.n ++ (ptL V.x V.y false ++ ([.int .i64 ((blen V.n : Nat) : Int)] ++ ([.int .i64 ((nby V.p : Nat) : Int)]))))))))) (B := ([Value.bool false])) (D := ([] : List Value)) (cs := [.bool (legB V)]) rfl rfl (by first | exact KI _ | exact KM _ _ _ | exact KL _ | exact Kf _ _ _ | rfl | (simp only [List.length_append, List.length_cons, List.length_nil, KI, KM, KL, Kf, KS, Kn])) (by first | rfl | simp only [List.append_assoc, List.nil_append, List.append_nil, List.cons_append]) (by first | exact KI _ | exact KM _ _ _ | exact KL _ | exact Kf _ _ _ | rfl | (simp only [List.length_append, List.length_cons, List.length_nil, KI, KM, KL, Kf, KS, Kn])) (by first | exact KI _ | exact KM _ _ _ | exact KL _ | exact Kf _ _ _ | rfl | (simp only [List.length_append, List.length_cons, List.length_nil, KI, KM, KL, Kf, KS, Kn])) rfl))))))))) : fillL _ _ _ = _).trans (congrArg some (show _ = ([.int .i64 ((V.id : Nat) : Int)] ++ (natL V.p ++ (natL V.a ++ (natL V.b ++ (natL V.n ++ (ptL V.x V.y false ++ ([.int .i64 ((blen V.n : Nat) : Int)] ++ ([.int .i64 ((nby V.p : Nat) : Int)] ++ ([.bool (legB V)]))))))))) from by first | rfl | simp only [List.append_assoc, List.nil_append, List.append_nil, List.cons_append])))) ?_
  refine KAH 30 rfl rfl (by kernel_rfl) (by kernel_rfl) (Ke rfl rfl sz_62 (by exact acL_one V) (by repeat (first | exact Sh _ | apply St_)) (by exact acL_length V) ?_)
  refine Kp (by kernel_rfl) ?_
  refine KR ?_
  refine ⟨[_], .cons ⟨_, _, _, rfl, (by repeat (first | exact Mh _ | apply Mt)), by exact Kd Try.underlying62 rfl sz_62⟩ .nil, fun a w' hr => ⟨?_, hr.fr.below⟩⟩
  rfl
theorem c_r_In (X Y : Nat) (i : Bool) (w : World) (hX : X < W9) (hY : Y < W9) : Calls Try.prog 63 ([ptV X Y i] : List Value).toArray w (fun e w' => Num2R w [] X Y (fun u v => rpV u v i) e w') := by
  refine KAA (N := 12) (rs := [.cell 2 73]) [] Try.func63 rfl Try.ntmps63 Try.results63 (Nb rfl) trivial rfl ?_
  show LCode _ _ _ ⟨_, _⟩ _
  refine KE (KB ?_)
  refine KK rfl (KU (KW (KAJ rfl) (Nb rfl) (fun b1 => ?_)))
  refine KK rfl (KU (KW (Kt zr_73) (Nb rfl) (fun b2 => ?_)))
  refine KG ?_
  refine KE ?_
  refine Kb [9] (by kernel_rfl) ?_
  refine KC 0 rfl (by kernel_rfl) (Nb rfl) (KJ (o' := 0) Try.underlying60 rfl rfl rfl sz_25 (by decide)) ?_
  refine LAny.take 1 rfl (by kernel_rfl) (Nb rfl) (KN rfl (by repeat (first | exact Mh _ | apply Mt)) (by exact LoadV.first Try.underlying25 rfl sz_25 rfl (KI _))) ?_
  refine KC 3 rfl (by kernel_rfl) (Nb rfl) (KJ (o' := 9) Try.underlying60 rfl rfl rfl sz_25 (by decide)) ?_
  refine LAny.take 4 rfl (by kernel_rfl) (Nb rfl) (KN rfl (by repeat (first | exact Mh _ | apply Mt)) (by exact pt_ld1 _ _ _ _ _ _)) ?_
  refine KC 6 rfl (by kernel_rfl) (Nb rfl) (KJ (o' := 18) Try.underlying60 rfl rfl rfl sz_4 (by decide)) ?_
  refine LAny.take 7 rfl (by kernel_rfl) (Nb rfl) (KN rfl (by repeat (first | exact Mh _ | apply Mt)) (KQ Try.underlying4 rfl (by exact pt_gt _ _ _))) ?_
  refine Kz 2 rfl rfl (by kernel_rfl) (Km (first := []) rfl en_52 rfl (Nb rfl) (fun w hw hs => (c_n_From X hX w).mono fun e w' h => KAg (Old.nil _) hs h) ?_)
  rintro _ _ ⟨q1, rfl, rfl, hn1⟩
  refine Kz 5 rfl rfl (by kernel_rfl) (Km (first := []) rfl en_52 rfl (Nb rfl) (fun w hw hs => (c_n_From Y hY w).mono fun e w' h => KAg (Old.nil _) hs h) ?_)
  rintro _ _ ⟨q2, rfl, rfl, hn2⟩
  refine KC 8 rfl (by kernel_rfl) (Nb rfl) (KP (KAk pl_73 zr_73 rfl rfl) (show _ = rpV (numV q1 X) (numV q2 Y) (i) from rfl)) ?_
  refine KAH 9 rfl rfl (by kernel_rfl) (by kernel_rfl) (Ke rfl rfl sz_73 (by repeat (first | exact Kg | refine Kc rfl ?_)) (by repeat (first | exact Sh _ | apply St_)) (by rfl) ?_)
  refine Kp (by kernel_rfl) ?_
  refine KR ?_
  refine ⟨[_], .cons ⟨_, _, _, rfl, (by repeat (first | exact Mh _ | apply Mt)), by exact Kd Try.underlying73 rfl sz_73⟩ .nil, fun a w' hr => hr.num2Q (by repeat (first | exact Mh _ | apply Mt)) hn1 (by repeat (first | exact Mh _ | apply Mt)) hn2⟩
theorem c_r_right (Q : CQ) (V : Cv) (q : NV) (X : Nat) (w : World) (hc : (crvI Q V).holds w) (hok : V.Ok) (hq : (numT q X).holds w) (hX : X < V.p) : Calls Try.prog 123 ([.agg (crvL Q V).toArray, numV q X] : List Value).toArray w (fun e w' => NumR w ([]) (rightN V.p V.a V.b X) (fun v => v) e w') := by
  obtain ⟨hb5, hb521, hba, hbb, hbx, hby, hbn, hbo, hbo2, hbb1, hbn1⟩ := hok.bounds
  have hsz := hok.sz
  have hsp := hsz.p
  have hsa := hsz.a
  have hsb := hsz.b
  have hp0 : V.p ≠ 0 := by omega
  have hpp : 0 < V.p := by omega
  have hm17 : ∀ k, D.nw (k % V.p) ≤ 17 := fun k => Nat.le_trans (D.nw_mono (Nat.le_of_lt (Nat.mod_lt k hpp))) hsp
  refine KAA (N := 28) (rs := [.tmp 4]) [crvI Q V, numT q X] Try.func123 rfl Try.ntmps123 Try.results123 (Nb rfl) ⟨hc, hq, trivial⟩ rfl ?_
  show LCode _ _ _ ⟨_, _⟩ _
  refine KE (KB ?_)
  refine KK rfl (KU (KW (KAJ rfl) (Nb rfl) (fun b2 => ?_)))
  refine KA (KF rfl) (Nb rfl) ?_
  refine KG ?_
  refine KE ?_
  have hx17 : D.nw X ≤ 17 := nw_521 (Nat.lt_trans hX hb521)
  have e1 := hm17 (X * X)
  have e2 := hm17 (X * X % V.p + V.a)
  have e3 := hm17 ((X * X % V.p + V.a) % V.p * X)
  refine KB ?_
  refine KA (KD rfl) (Nb rfl) ?_
  refine KA (KD rfl) (Nb rfl) ?_
  refine KA (KJ (o' := 1) Try.underlying31 rfl rfl rfl sz_29 (by decide)) (Nb rfl) ?_
  refine LOps.det (KN rfl (by repeat (first | exact Mh _ | apply Mt)) (KQ Try.underlying29 rfl (by first | rfl | exact Ku _ _ _ (by omega) | exact Kw _ (by omega) | exact Ky _ (by omega) | exact dv_m _ _ _ (by omega)))) (Nb rfl) ?_
  refine KK rfl (KU (Km (first := []) rfl en_71 rfl (Nb rfl) (fun w hw hs => (c_n_MulMod q q Q.p (X) (X) V.p hp0 w (hw _ (by repeat (first | exact Mh _ | apply Mt))) (hw _ (by repeat (first | exact Mh _ | apply Mt))) (crvI_p (hw _ (by repeat (first | exact Mh _ | apply Mt)))) (by omega) (by omega)).mono fun e w' h => KAg (Old.nil _) hs h) ?_))
  rintro _ _ ⟨q1, rfl, rfl, hn1⟩
  refine KA (KF rfl) (Nb rfl) ?_
  refine KG ?_
  refine KE ?_
  refine Kb [] (by kernel_rfl) ?_
  refine KC 0 rfl (by kernel_rfl) (Nb rfl) (KD rfl) ?_
  refine KC 1 rfl (by kernel_rfl) (Nb rfl) (KJ (o' := 2) Try.underlying31 rfl rfl rfl sz_29 (by decide)) ?_
  refine LAny.take 2 rfl (by kernel_rfl) (Nb rfl) (KN rfl (by repeat (first | exact Mh _ | apply Mt)) (KQ Try.underlying29 rfl (by first | rfl | exact Ku _ _ _ (by omega) | exact Kw _ (by omega) | exact Ky _ (by omega) | exact dv_m _ _ _ (by omega)))) ?_
  refine KC 3 rfl (by kernel_rfl) (Nb rfl) (KJ (o' := 1) Try.underlying31 rfl rfl rfl sz_29 (by decide)) ?_
  refine LAny.take 4 rfl (by kernel_rfl) (Nb rfl) (KN rfl (by repeat (first | exact Mh _ | apply Mt)) (KQ Try.underlying29 rfl (by first | rfl | exact Ku _ _ _ (by omega) | exact Kw _ (by omega) | exact Ky _ (by omega) | exact dv_m _ _ _ (by omega)))) ?_
  refine KC 6 rfl (by kernel_rfl) (Nb rfl) (KD rfl) ?_
  refine KC 7 rfl (by kernel_rfl) (Nb rfl) (KJ (o' := 1) Try.underlying31 rfl rfl rfl sz_29 (by decide)) ?_
  refine LAny.take 8 rfl (by kernel_rfl) (Nb rfl) (KN rfl (by repeat (first | exact Mh _ | apply Mt)) (KQ Try.underlying29 rfl (by first | rfl | exact Ku _ _ _ (by omega) | exact Kw _ (by omega) | exact Ky _ (by omega) | exact dv_m _ _ _ (by omega)))) ?_
  refine Kz 5 rfl rfl (by kernel_rfl) (Km (first := []) rfl en_72 rfl (Nb rfl) (fun w hw hs => (c_n_AddMod q1 Q.a Q.p (X * X % V.p) V.a V.p w (hw _ (by repeat (first | exact Mh _ | apply Mt))) (crvI_a (hw _ (by repeat (first | exact Mh _ | apply Mt)))) (crvI_p (hw _ (by repeat (first | exact Mh _ | apply Mt)))) (by omega) (by omega) (Nat.mod_lt _ hpp) hba).mono fun e w' h => KAg (Old.nil _) hs h) ?_)
  rintro _ _ ⟨q2, rfl, rfl, hn2⟩
  refine Kz 9 rfl rfl (by kernel_rfl) (Km (first := []) rfl en_71 rfl (Nb rfl) (fun w hw hs => (c_n_MulMod q2 q Q.p ((X * X % V.p + V.a) % V.p) (X) V.p hp0 w (hw _ (by repeat (first | exact Mh _ | apply Mt))) (hw _ (by repeat (first | exact Mh _ | apply Mt))) (crvI_p (hw _ (by repeat (first | exact Mh _ | apply Mt)))) (by omega) (by omega)).mono fun e w' h => KAg (Old.nil _) hs h) ?_)
  rintro _ _ ⟨q3, rfl, rfl, hn3⟩
  refine KC 10 rfl (by kernel_rfl) (Nb rfl) (KF rfl) ?_
  refine Kp (by kernel_rfl) ?_
  refine KE (KB ?_)
  refine KA (KD rfl) (Nb rfl) ?_
  refine KA (KJ (o' := 3) Try.underlying31 rfl rfl rfl sz_29 (by decide)) (Nb rfl) ?_
  refine LOps.det (KN rfl (by repeat (first | exact Mh _ | apply Mt)) (KQ Try.underlying29 rfl (by first | rfl | exact Ku _ _ _ (by omega) | exact Kw _ (by omega) | exact Ky _ (by omega) | exact dv_m _ _ _ (by omega)))) (Nb rfl) ?_
  refine KA (KJ (o' := 1) Try.underlying31 rfl rfl rfl sz_29 (by decide)) (Nb rfl) ?_
  refine LOps.det (KN rfl (by repeat (first | exact Mh _ | apply Mt)) (KQ Try.underlying29 rfl (by first | rfl | exact Ku _ _ _ (by omega) | exact Kw _ (by omega) | exact Ky _ (by omega) | exact dv_m _ _ _ (by omega)))) (Nb rfl) ?_
  refine KK rfl (KU (Km (first := []) rfl en_72 rfl (Nb rfl) (fun w hw hs => (c_n_AddMod q3 Q.b Q.p ((X * X % V.p + V.a) % V.p * X % V.p) V.b V.p w (hw _ (by repeat (first | exact Mh _ | apply Mt))) (crvI_b (hw _ (by repeat (first | exact Mh _ | apply Mt)))) (crvI_p (hw _ (by repeat (first | exact Mh _ | apply Mt)))) (by omega) (by omega) (Nat.mod_lt _ hpp) hbb).mono fun e w' h => KAg (Old.nil _) hs h) ?_))
  rintro _ _ ⟨q4, rfl, rfl, hn4⟩
  refine KA (KF rfl) (Nb rfl) ?_
  refine KG (KR ?_)
  refine ⟨[_], .cons rfl .nil, fun a w' hr => hr.numQ (by repeat (first | exact Mh _ | apply Mt)) hn4⟩
theorem on_x {p a b X Y : Nat} (h : ¬ X < p) : onB p a b X Y false = false := by
  unfold onB; rw [if_neg (by decide), decide_eq_false h, Bool.false_and]
theorem on_yy {p a b X Y : Nat} (h : ¬ Y < p) : onB p a b X Y false = false := by
  unfold onB; rw [if_neg (by decide), decide_eq_false h, Bool.false_and, Bool.and_false]
theorem on_eq {p a b X Y : Nat} (h : X < p) (h2 : Y < p) : onB p a b X Y false = decide (Y * Y % p = rightN p a b X) := by
  unfold onB; rw [if_neg (by decide), decide_eq_true h, decide_eq_true h2, Bool.true_and, Bool.true_and]
theorem on_inf {p a b X Y : Nat} : onB p a b X Y true = (decide (X = 0) && decide (Y = 0)) := if_pos rfl
theorem c_r_On (Q : CQ) (V : Cv) (q r : NV) (X Y : Nat) (i : Bool) (w : World) (hc : (crvI Q V).holds w) (hok : V.Ok) (hq : (numT q X).holds w) (hr : (numT r Y).holds w) (hX : D.nw X ≤ 1000) (hY : D.nw Y ≤ 1000) : Calls Try.prog 62 ([.agg (crvL Q V).toArray, rpV (numV q (X)) (numV r (Y)) (i)] : List Value).toArray w (fun e w' => e = .returned (.bool (onB V.p V.a V.b X Y i)) ∧ Below w.heap.size w w') := by
  obtain ⟨hb5, hb521, hba, hbb, hbx, hby, hbn, hbo, hbo2, hbb1, hbn1⟩ := hok.bounds
  have hsz := hok.sz
  have hsp := hsz.p
  have hsa := hsz.a
  have hsb := hsz.b
  have hp0 : V.p ≠ 0 := by omega
  have hpp : 0 < V.p := by omega
  have hm17 : ∀ k, D.nw (k % V.p) ≤ 17 := fun k => Nat.le_trans (D.nw_mono (Nat.le_of_lt (Nat.mod_lt k hpp))) hsp
  refine KAA (N := 44) (rs := [.tmp 4]) [crvI Q V, numT q X, numT r Y] Try.func62 rfl Try.ntmps62 Try.results62 (Nb rfl) ⟨hc, hq, hr, trivial⟩ rfl ?_
  show LCode _ _ _ ⟨_, _⟩ _
  refine KE (KB ?_)
  refine KK rfl (KU (KW (KAJ rfl) (Nb rfl) (fun b2 => ?_)))
  refine KK rfl (KU (KW (KAJ rfl) (Nb rfl) (fun b3 => ?_)))
  refine KA (KF rfl) (Nb rfl) ?_
  refine KG ?_
  refine KE ?_
  refine KE ?_
  cases i
  ·
    refine KB ?_
    refine KA (KJ (o' := 2) Try.underlying73 rfl rfl rfl sz_4 (by decide)) (Nb rfl) ?_
    refine LOps.det (KN rfl (by repeat (first | exact Mh _ | apply Mt)) (KQ Try.underlying4 rfl (by first | rfl | exact Ku _ _ _ (by omega) | exact Kw _ (by omega) | exact Ky _ (by omega) | exact dv_m _ _ _ (by omega)))) (Nb rfl) ?_
    refine KG ?_
    refine Ki rfl ?_
    refine Ka ?_
    refine KE ?_
    refine KE ?_
    rcases (show (¬ X < V.p) ∨ (X < V.p ∧ ¬ Y < V.p) ∨ (X < V.p ∧ Y < V.p) by omega) with h1 | ⟨h1, h2⟩ | ⟨h1, h2⟩
    ·
      refine KB ?_
      refine KA (KJ (o' := 0) Try.underlying73 rfl rfl rfl sz_29 (by decide)) (Nb rfl) ?_
      refine LOps.det (KN rfl (by repeat (first | exact Mh _ | apply Mt)) (KQ Try.underlying29 rfl (by first | rfl | exact Ku _ _ _ (by omega) | exact Kw _ (by omega) | exact Ky _ (by omega) | exact dv_m _ _ _ (by omega)))) (Nb rfl) ?_
      refine KA (KJ (o' := 1) Try.underlying31 rfl rfl rfl sz_29 (by decide)) (Nb rfl) ?_
      refine LOps.det (KN rfl (by repeat (first | exact Mh _ | apply Mt)) (KQ Try.underlying29 rfl (by first | rfl | exact Ku _ _ _ (by omega) | exact Kw _ (by omega) | exact Ky _ (by omega) | exact dv_m _ _ _ (by omega)))) (Nb rfl) ?_
      refine KK rfl (KU (KO (first := []) rfl en_70 rfl (Nb rfl) (fun w hw => c_n_Cmp q Q.p X V.p w (hw _ (by repeat (first | exact Mh _ | apply Mt))) (crvI_p (hw _ (by repeat (first | exact Mh _ | apply Mt)))) (by omega)) ?_))
      refine KA (KH (v := .bool true) rfl rfl (br_t cmp_geq (Nat.le_of_not_lt h1))) (Nb rfl) ?_
      refine KA (KD rfl) (Nb rfl) ?_
      refine Kj rfl rfl rfl (Nb rfl) ?_
      refine Kj rfl rfl rfl (Nb rfl) ?_
      refine Kj rfl rfl rfl (Nb rfl) ?_
      refine Kj rfl rfl rfl (Nb rfl) ?_
      refine Kj rfl rfl rfl (Nb rfl) ?_
      refine Kj rfl rfl rfl (Nb rfl) ?_
      refine KA (Kh rfl rfl) (Nb rfl) ?_
      refine KG ?_
      refine KAD rfl ?_
      refine KE (KB ?_)
      refine KA (KF rfl) (Nb rfl) ?_
      refine KG (KR ?_)
      refine ⟨[_], .cons rfl .nil, fun a w' hr => ⟨?_, hr.fr.below⟩⟩
      rw [on_x h1]
      rfl
    ·
      refine KB ?_
      refine KA (KJ (o' := 0) Try.underlying73 rfl rfl rfl sz_29 (by decide)) (Nb rfl) ?_
      refine LOps.det (KN rfl (by repeat (first | exact Mh _ | apply Mt)) (KQ Try.underlying29 rfl (by first | rfl | exact Ku _ _ _ (by omega) | exact Kw _ (by omega) | exact Ky _ (by omega) | exact dv_m _ _ _ (by omega)))) (Nb rfl) ?_
      refine KA (KJ (o' := 1) Try.underlying31 rfl rfl rfl sz_29 (by decide)) (Nb rfl) ?_
      refine LOps.det (KN rfl (by repeat (first | exact Mh _ | apply Mt)) (KQ Try.underlying29 rfl (by first | rfl | exact Ku _ _ _ (by omega) | exact Kw _ (by omega) | exact Ky _ (by omega) | exact dv_m _ _ _ (by omega)))) (Nb rfl) ?_
      refine KK rfl (KU (KO (first := []) rfl en_70 rfl (Nb rfl) (fun w hw => c_n_Cmp q Q.p X V.p w (hw _ (by repeat (first | exact Mh _ | apply Mt))) (crvI_p (hw _ (by repeat (first | exact Mh _ | apply Mt)))) (by omega)) ?_))
      refine KA (KH (v := .bool false) rfl rfl (br_f cmp_geq (Nat.not_le_of_gt h1))) (Nb rfl) ?_
      refine KA (KD rfl) (Nb rfl) ?_
      refine KX rfl rfl (KJ (o' := 1) Try.underlying73 rfl rfl rfl sz_29 (by decide)) (Nb rfl) ?_
      refine KAW rfl rfl (KN rfl (by repeat (first | exact Mh _ | apply Mt)) (KQ Try.underlying29 rfl (by first | rfl | exact Ku _ _ _ (by omega) | exact Kw _ (by omega) | exact Ky _ (by omega) | exact dv_m _ _ _ (by omega)))) (Nb rfl) ?_
      refine KX rfl rfl (KJ (o' := 1) Try.underlying31 rfl rfl rfl sz_29 (by decide)) (Nb rfl) ?_
      refine KAW rfl rfl (KN rfl (by repeat (first | exact Mh _ | apply Mt)) (KQ Try.underlying29 rfl (by first | rfl | exact Ku _ _ _ (by omega) | exact Kw _ (by omega) | exact Ky _ (by omega) | exact dv_m _ _ _ (by omega)))) (Nb rfl) ?_
      refine LOps.stepG rfl rfl rfl (KU (KO (first := []) rfl en_70 rfl (Nb rfl) (fun w hw => c_n_Cmp r Q.p Y V.p w (hw _ (by repeat (first | exact Mh _ | apply Mt))) (crvI_p (hw _ (by repeat (first | exact Mh _ | apply Mt)))) (by omega)) ?_))
      refine KX rfl rfl (KH (v := .bool true) rfl rfl (br_t cmp_geq (Nat.le_of_not_lt h2))) (Nb rfl) ?_
      refine KA (Ks rfl rfl) (Nb rfl) ?_
      refine KG ?_
      refine KAD rfl ?_
      refine KE (KB ?_)
      refine KA (KF rfl) (Nb rfl) ?_
      refine KG (KR ?_)
      refine ⟨[_], .cons rfl .nil, fun a w' hr => ⟨?_, hr.fr.below⟩⟩
      rw [on_yy h2]
      rfl
    ·
      refine KB ?_
      refine KA (KJ (o' := 0) Try.underlying73 rfl rfl rfl sz_29 (by decide)) (Nb rfl) ?_
      refine LOps.det (KN rfl (by repeat (first | exact Mh _ | apply Mt)) (KQ Try.underlying29 rfl (by first | rfl | exact Ku _ _ _ (by omega) | exact Kw _ (by omega) | exact Ky _ (by omega) | exact dv_m _ _ _ (by omega)))) (Nb rfl) ?_
      refine KA (KJ (o' := 1) Try.underlying31 rfl rfl rfl sz_29 (by decide)) (Nb rfl) ?_
      refine LOps.det (KN rfl (by repeat (first | exact Mh _ | apply Mt)) (KQ Try.underlying29 rfl (by first | rfl | exact Ku _ _ _ (by omega) | exact Kw _ (by omega) | exact Ky _ (by omega) | exact dv_m _ _ _ (by omega)))) (Nb rfl) ?_
      refine KK rfl (KU (KO (first := []) rfl en_70 rfl (Nb rfl) (fun w hw => c_n_Cmp q Q.p X V.p w (hw _ (by repeat (first | exact Mh _ | apply Mt))) (crvI_p (hw _ (by repeat (first | exact Mh _ | apply Mt)))) (by omega)) ?_))
      refine KA (KH (v := .bool false) rfl rfl (br_f cmp_geq (Nat.not_le_of_gt h1))) (Nb rfl) ?_
      refine KA (KD rfl) (Nb rfl) ?_
      refine KX rfl rfl (KJ (o' := 1) Try.underlying73 rfl rfl rfl sz_29 (by decide)) (Nb rfl) ?_
      refine KAW rfl rfl (KN rfl (by repeat (first | exact Mh _ | apply Mt)) (KQ Try.underlying29 rfl (by first | rfl | exact Ku _ _ _ (by omega) | exact Kw _ (by omega) | exact Ky _ (by omega) | exact dv_m _ _ _ (by omega)))) (Nb rfl) ?_
      refine KX rfl rfl (KJ (o' := 1) Try.underlying31 rfl rfl rfl sz_29 (by decide)) (Nb rfl) ?_
      refine KAW rfl rfl (KN rfl (by repeat (first | exact Mh _ | apply Mt)) (KQ Try.underlying29 rfl (by first | rfl | exact Ku _ _ _ (by omega) | exact Kw _ (by omega) | exact Ky _ (by omega) | exact dv_m _ _ _ (by omega)))) (Nb rfl) ?_
      refine LOps.stepG rfl rfl rfl (KU (KO (first := []) rfl en_70 rfl (Nb rfl) (fun w hw => c_n_Cmp r Q.p Y V.p w (hw _ (by repeat (first | exact Mh _ | apply Mt))) (crvI_p (hw _ (by repeat (first | exact Mh _ | apply Mt)))) (by omega)) ?_))
      refine KX rfl rfl (KH (v := .bool false) rfl rfl (br_f cmp_geq (Nat.not_le_of_gt h2))) (Nb rfl) ?_
      refine KA (Ks rfl rfl) (Nb rfl) ?_
      refine KG ?_
      refine Ki rfl ?_
      refine Ka ?_
      refine KE ?_
      have hy17 : D.nw Y ≤ 17 := nw_521 (Nat.lt_trans h2 hb521)
      refine Kb [] (by kernel_rfl) ?_
      refine KC 0 rfl (by kernel_rfl) (Nb rfl) (KJ (o' := 1) Try.underlying73 rfl rfl rfl sz_29 (by decide)) ?_
      refine LAny.take 1 rfl (by kernel_rfl) (Nb rfl) (KN rfl (by repeat (first | exact Mh _ | apply Mt)) (KQ Try.underlying29 rfl (by first | rfl | exact Ku _ _ _ (by omega) | exact Kw _ (by omega) | exact Ky _ (by omega) | exact dv_m _ _ _ (by omega)))) ?_
      refine KC 2 rfl (by kernel_rfl) (Nb rfl) (KJ (o' := 1) Try.underlying73 rfl rfl rfl sz_29 (by decide)) ?_
      refine LAny.take 3 rfl (by kernel_rfl) (Nb rfl) (KN rfl (by repeat (first | exact Mh _ | apply Mt)) (KQ Try.underlying29 rfl (by first | rfl | exact Ku _ _ _ (by omega) | exact Kw _ (by omega) | exact Ky _ (by omega) | exact dv_m _ _ _ (by omega)))) ?_
      refine KC 4 rfl (by kernel_rfl) (Nb rfl) (KJ (o' := 1) Try.underlying31 rfl rfl rfl sz_29 (by decide)) ?_
      refine LAny.take 5 rfl (by kernel_rfl) (Nb rfl) (KN rfl (by repeat (first | exact Mh _ | apply Mt)) (KQ Try.underlying29 rfl (by first | rfl | exact Ku _ _ _ (by omega) | exact Kw _ (by omega) | exact Ky _ (by omega) | exact dv_m _ _ _ (by omega)))) ?_
      refine LAny.take 7 rfl (by kernel_rfl) (Nb rfl) (KN rfl (by repeat (first | exact Mh _ | apply Mt)) (by exact Kd Try.underlying31 rfl sz_31)) ?_
      refine KC 8 rfl (by kernel_rfl) (Nb rfl) (KJ (o' := 0) Try.underlying73 rfl rfl rfl sz_29 (by decide)) ?_
      refine LAny.take 9 rfl (by kernel_rfl) (Nb rfl) (KN rfl (by repeat (first | exact Mh _ | apply Mt)) (KQ Try.underlying29 rfl (by first | rfl | exact Ku _ _ _ (by omega) | exact Kw _ (by omega) | exact Ky _ (by omega) | exact dv_m _ _ _ (by omega)))) ?_
      refine Kz 6 rfl rfl (by kernel_rfl) (Km (first := []) rfl en_71 rfl (Nb rfl) (fun w hw hs => (c_n_MulMod r r Q.p (Y) (Y) V.p hp0 w (hw _ (by repeat (first | exact Mh _ | apply Mt))) (hw _ (by repeat (first | exact Mh _ | apply Mt))) (crvI_p (hw _ (by repeat (first | exact Mh _ | apply Mt)))) (by omega) (by omega)).mono fun e w' h => KAg (Old.nil _) hs h) ?_)
      rintro _ _ ⟨q1, rfl, rfl, hn1⟩
      refine Kz 10 rfl rfl (by kernel_rfl) (Km (first := []) rfl en_123 rfl (Nb rfl) (fun w hw hs => (c_r_right Q V q X w (hw _ (by repeat (first | exact Mh _ | apply Mt))) hok (hw _ (by repeat (first | exact Mh _ | apply Mt))) h1).mono fun e w' h => KAg (Old.nil _) hs h) ?_)
      rintro _ _ ⟨q2, rfl, rfl, hn2⟩
      refine Kz 11 rfl rfl (by kernel_rfl) (KO (first := []) rfl en_70 rfl (Nb rfl) (fun w hw => c_n_Cmp q1 q2 (Y * Y % V.p) (rightN V.p V.a V.b X) w (hw _ (by repeat (first | exact Mh _ | apply Mt))) (hw _ (by repeat (first | exact Mh _ | apply Mt))) (by have := hm17 (Y * Y); omega)) ?_)
      refine KC 12 rfl (by kernel_rfl) (Nb rfl) (KH rfl rfl cmp_eql) ?_
      refine KC 13 rfl (by kernel_rfl) (Nb rfl) (KF rfl) ?_
      refine Kp (by kernel_rfl) ?_
      refine KR ?_
      refine ⟨[_], .cons rfl .nil, fun a w' hr => ⟨?_, hr.fr.below⟩⟩
      rw [on_eq h1 h2]
      rfl
  ·
    refine KB ?_
    refine KA (KJ (o' := 2) Try.underlying73 rfl rfl rfl sz_4 (by decide)) (Nb rfl) ?_
    refine LOps.det (KN rfl (by repeat (first | exact Mh _ | apply Mt)) (KQ Try.underlying4 rfl (by first | rfl | exact Ku _ _ _ (by omega) | exact Kw _ (by omega) | exact Ky _ (by omega) | exact dv_m _ _ _ (by omega)))) (Nb rfl) ?_
    refine KG ?_
    refine KAD rfl ?_
    refine KE ?_
    by_cases hX0 : X = 0
    ·
      refine KB ?_
      refine KA (KJ (o' := 0) Try.underlying73 rfl rfl rfl sz_29 (by decide)) (Nb rfl) ?_
      refine LOps.det (KN rfl (by repeat (first | exact Mh _ | apply Mt)) (KQ Try.underlying29 rfl (by first | rfl | exact Ku _ _ _ (by omega) | exact Kw _ (by omega) | exact Ky _ (by omega) | exact dv_m _ _ _ (by omega)))) (Nb rfl) ?_
      refine KA (KAQ Try.underlying29 rfl) (Nb rfl) ?_
      refine KA (KH (v := .bool true) rfl rfl (br_t (KAc (b := 0)) (nw_eq_zero.2 hX0))) (Nb rfl) ?_
      refine KA (KD rfl) (Nb rfl) ?_
      refine KX rfl rfl (KJ (o' := 1) Try.underlying73 rfl rfl rfl sz_29 (by decide)) (Nb rfl) ?_
      refine KAW rfl rfl (KN rfl (by repeat (first | exact Mh _ | apply Mt)) (KQ Try.underlying29 rfl (by first | rfl | exact Ku _ _ _ (by omega) | exact Kw _ (by omega) | exact Ky _ (by omega) | exact dv_m _ _ _ (by omega)))) (Nb rfl) ?_
      refine KX rfl rfl (KAQ Try.underlying29 rfl) (Nb rfl) ?_
      refine KX rfl rfl (KH rfl rfl (KAc (b := 0))) (Nb rfl) ?_
      refine KA (Kh rfl rfl) (Nb rfl) ?_
      refine KA (KF rfl) (Nb rfl) ?_
      refine KG (KR ?_)
      refine ⟨[_], .cons rfl .nil, fun a w' hr => ⟨?_, hr.fr.below⟩⟩
      rw [on_inf, decide_eq_true hX0, Bool.true_and, show decide (Y = 0) = decide (D.nw Y = 0) from decide_eq_decide.2 nw_eq_zero.symm]
      rfl
    ·
      refine KB ?_
      refine KA (KJ (o' := 0) Try.underlying73 rfl rfl rfl sz_29 (by decide)) (Nb rfl) ?_
      refine LOps.det (KN rfl (by repeat (first | exact Mh _ | apply Mt)) (KQ Try.underlying29 rfl (by first | rfl | exact Ku _ _ _ (by omega) | exact Kw _ (by omega) | exact Ky _ (by omega) | exact dv_m _ _ _ (by omega)))) (Nb rfl) ?_
      refine KA (KAQ Try.underlying29 rfl) (Nb rfl) ?_
      refine KA (KH (v := .bool false) rfl rfl (br_f (KAc (b := 0)) (fun e => hX0 (nw_eq_zero.1 e)))) (Nb rfl) ?_
      refine KA (KD rfl) (Nb rfl) ?_
      refine Kj rfl rfl rfl (Nb rfl) ?_
      refine Kj rfl rfl rfl (Nb rfl) ?_
      refine Kj rfl rfl rfl (Nb rfl) ?_
      refine Kj rfl rfl rfl (Nb rfl) ?_
      refine KA (Ks rfl rfl) (Nb rfl) ?_
      refine KA (KF rfl) (Nb rfl) ?_
      refine KG (KR ?_)
      refine ⟨[_], .cons rfl .nil, fun a w' hr => ⟨?_, hr.fr.below⟩⟩
      rw [on_inf, decide_eq_false hX0, Bool.false_and]
      rfl
end Go.Proofs.Ytljblbgogjieaaa
set_option linter.unusedVariables false
set_option linter.unusedSimpArgs false
set_option maxRecDepth 20000
namespace Go.Proofs.Ytljblbgogjieaaa
open Go Go.RowKit
open Grp
def fp2 {p : Nat} (q r : NV) (P : Pt p) (l : List Nat) : List Nat := fpz q (D.nw (xv P)) ++ (fpz r (D.nw (yv P)) ++ l)
theorem NFr.two {p : Nat} {q1 r1 q2 r2 u : NV} {P P2 : Pt p} {lo n : Nat} {old : List Nat} (h : NFr lo (fp2 q1 r1 P (fp2 q2 r2 P2 [])) u n) (h1 : NFr lo old q1 (D.nw (xv P))) (h2 : NFr lo old r1 (D.nw (yv P))) (h3 : NFr lo old q2 (D.nw (xv P2))) (h4 : NFr lo old r2 (D.nw (yv P2))) : NFr lo old u n := fun k hk => by
  rcases h k hk with h | h
  · exact .inl h
  · rcases List.mem_append.1 h with h | h
    · exact h1 k h
    · rcases List.mem_append.1 h with h | h
      · exact h2 k h
      · rcases List.mem_append.1 h with h | h
        · exact h3 k h
        · rcases List.mem_append.1 h with h | h
          · exact h4 k h
          · cases h
end Go.Proofs.Ytljblbgogjieaaa
set_option linter.unusedVariables false
set_option linter.unusedSimpArgs false
set_option maxRecDepth 20000
namespace Go.Proofs.Ytljblbgogjieaaa
open Go Go.RowKit
theorem c_Right (V : Cv) (b f bd : Nat) (hok : V.Ok) (X : Fin V.p) (w : World) (hb : (Item.blk b ⟨false, opL V f, 147, (0, 0)⟩).holds w) (hf : (Item.blk f ⟨false, fldL V.p bd, 194, (0, 0)⟩).holds w) (hbd : (Item.blk bd ⟨false, dvL V.p, 241, (0, 0)⟩).holds w) : Calls Try.prog 157 ([.pointer (some ⟨b, 0, none⟩), natV X.val] : List Value).toArray w (fun e w' => e = .returned (natV ((X * X + V.A) * X + V.B).val) ∧ Below w.heap.size w w') := by
  have hbb := hok.bounds
  have hpW : V.p < W9 := w9_521 hbb.2.1
  refine KAA (N := 31) (rs := [.cell 4 25]) [.blk b ⟨false, opL V f, 147, (0, 0)⟩, .blk f ⟨false, fldL V.p bd, 194, (0, 0)⟩, .blk bd ⟨false, dvL V.p, 241, (0, 0)⟩] Try.func157 rfl Try.ntmps157 Try.results157 (Nb rfl) ⟨hb, hf, hbd, trivial⟩ rfl ?_
  show LCode _ _ _ ⟨_, _⟩ _
  refine KE (KB ?_)
  refine KK rfl (KU (KW (KAJ rfl) (Nb rfl) (fun b3 => ?_)))
  refine KK rfl (KU (KW (Kt zr_25) (Nb rfl) (fun b4 => ?_)))
  refine KG ?_
  refine KE (KB ?_)
  refine KA (KD rfl) (Nb rfl) ?_
  refine KA (KZ rfl) (Nb rfl) ?_
  refine KA (KJ (o' := 59) Try.underlying147 rfl rfl rfl sz_145 (by decide)) (Nb rfl) ?_
  refine LOps.det (KN rfl (by repeat (first | exact Mh _ | apply Mt)) (KQ Try.underlying145 rfl (by exact cvC_gt_F _ _ _ _ _ _ _ _ _ _ _ _ _))) (Nb rfl) ?_
  refine KA (KF rfl) (Nb rfl) ?_
  refine KG ?_
  refine KE ?_
  refine Kb [21] (by kernel_rfl) ?_
  refine KC 0 rfl (by kernel_rfl) (Nb rfl) (KD rfl) ?_
  refine KC 1 rfl (by kernel_rfl) (Nb rfl) (KD rfl) ?_
  refine KC 2 rfl (by kernel_rfl) (Nb rfl) (KD rfl) ?_
  refine KC 3 rfl (by kernel_rfl) (Nb rfl) (KD rfl) ?_
  refine LAny.take 4 rfl (by kernel_rfl) (Nb rfl) (KN rfl (by repeat (first | exact Mh _ | apply Mt)) (by exact Kd Try.underlying25 rfl sz_25)) ?_
  refine LAny.take 5 rfl (by kernel_rfl) (Nb rfl) (KN rfl (by repeat (first | exact Mh _ | apply Mt)) (by exact Kd Try.underlying25 rfl sz_25)) ?_
  refine KC 7 rfl (by kernel_rfl) (Nb rfl) (KD rfl) ?_
  refine KC 8 rfl (by kernel_rfl) (Nb rfl) (KZ rfl) ?_
  refine KC 9 rfl (by kernel_rfl) (Nb rfl) (KJ (o' := 0) Try.underlying147 rfl rfl rfl sz_62 (by decide)) ?_
  refine KC 10 rfl (by kernel_rfl) (Nb rfl) (KJ (o' := 10) Try.underlying62 rfl rfl rfl sz_25 (by decide)) ?_
  refine LAny.take 11 rfl (by kernel_rfl) (Nb rfl) (Det.cast (KN rfl (by repeat (first | exact Mh _ | apply Mt)) (by exact cvC_ld_a _ _ _ _ _ _ _ _ _ _ _ _ _ _ _ _)) (a_val hok)) ?_
  refine LAny.take 13 rfl (by kernel_rfl) (Nb rfl) (KN rfl (by repeat (first | exact Mh _ | apply Mt)) (by exact Kd Try.underlying25 rfl sz_25)) ?_
  refine KC 15 rfl (by kernel_rfl) (Nb rfl) (KD rfl) ?_
  refine KC 16 rfl (by kernel_rfl) (Nb rfl) (KZ rfl) ?_
  refine KC 17 rfl (by kernel_rfl) (Nb rfl) (KJ (o' := 0) Try.underlying147 rfl rfl rfl sz_62 (by decide)) ?_
  refine KC 18 rfl (by kernel_rfl) (Nb rfl) (KJ (o' := 19) Try.underlying62 rfl rfl rfl sz_25 (by decide)) ?_
  refine LAny.take 19 rfl (by kernel_rfl) (Nb rfl) (Det.cast (KN rfl (by repeat (first | exact Mh _ | apply Mt)) (by exact cvC_ld_b _ _ _ _ _ _ _ _ _ _ _ _ _ _ _ _)) (b_val hok)) ?_
  refine Kz 6 rfl rfl (by kernel_rfl) (KO (first := []) rfl en_156 rfl (Nb rfl) (fun w hw => c_F_Mul V hok f bd _ _ w (hw _ (by repeat (first | exact Mh _ | apply Mt))) (hw _ (by repeat (first | exact Mh _ | apply Mt)))) ?_)
  refine Kz 12 rfl rfl (by kernel_rfl) (KO (first := []) rfl en_152 rfl (Nb rfl) (fun w hw => c_F_Add V hok f bd _ _ w (hw _ (by repeat (first | exact Mh _ | apply Mt)))) ?_)
  refine Kz 14 rfl rfl (by kernel_rfl) (KO (first := []) rfl en_156 rfl (Nb rfl) (fun w hw => c_F_Mul V hok f bd _ _ w (hw _ (by repeat (first | exact Mh _ | apply Mt))) (hw _ (by repeat (first | exact Mh _ | apply Mt)))) ?_)
  refine Kz 20 rfl rfl (by kernel_rfl) (KO (first := []) rfl en_152 rfl (Nb rfl) (fun w hw => c_F_Add V hok f bd _ _ w (hw _ (by repeat (first | exact Mh _ | apply Mt)))) ?_)
  refine KAH 21 rfl rfl (by kernel_rfl) (by kernel_rfl) (Ke rfl rfl sz_25 (by repeat (first | exact KAC _ | exact KAY _ _ _ | exact KAN _ | exact KAL _ _ _ | exact KAe _ _ _ | exact Kg | refine Kc rfl ?_ | refine Kq ?_ ?_)) (by repeat (first | exact Sh _ | apply St_)) (by first | exact KI _ | exact KM _ _ _ | exact KL _ | exact KS _ _ _ | exact Kn _ _ _ | rfl | simp [KM, KI, KL]) ?_)
  refine Kp (by kernel_rfl) ?_
  refine KR ?_
  refine ⟨[_], .cons ⟨_, _, _, rfl, (by repeat (first | exact Mh _ | apply Mt)), by exact Kd Try.underlying25 rfl sz_25⟩ .nil, fun a w' hr => ⟨?_, hr.fr.below⟩⟩
  rfl
theorem c_HasT (V : Cv) (f bd A : Nat) (w : World) (hf : (Item.blk f ⟨false, fldL V.p bd, 194, (0, 0)⟩).holds w) (hA : A < W9) (hpW : V.p < W9) (h : A < V.p) : Calls Try.prog 155 ([.pointer (some ⟨f, 0, none⟩), natV A] : List Value).toArray w (fun e w' => e = .returned (.bool true) ∧ Below w.heap.size w w') := by
  have := c_f_Has V f bd A w hf hA hpW
  rwa [decide_eq_true h] at this
theorem c_HasF (V : Cv) (f bd A : Nat) (w : World) (hf : (Item.blk f ⟨false, fldL V.p bd, 194, (0, 0)⟩).holds w) (hA : A < W9) (hpW : V.p < W9) (h : ¬ A < V.p) : Calls Try.prog 155 ([.pointer (some ⟨f, 0, none⟩), natV A] : List Value).toArray w (fun e w' => e = .returned (.bool false) ∧ Below w.heap.size w w') := by
  have := c_f_Has V f bd A w hf hA hpW
  rwa [decide_eq_false h] at this
theorem right_val {V : Cv} (hok : V.Ok) (x : Fin V.p) : rightN V.p V.a V.b x.val = ((x * x + V.A) * x + V.B).val := by
  unfold rightN
  rw [Fin.val_add, Fin.val_mul, Fin.val_add, Fin.val_mul, hok.A_val hok.bounds.2.2.1, hok.B_val hok.bounds.2.2.2.1]
theorem on_x' {p a b X Y : Nat} (h : ¬ X < p) : onB p a b X Y false = false := by
  unfold onB; rw [if_neg (by decide), decide_eq_false h, Bool.false_and]
theorem on_yy' {p a b X Y : Nat} (h : ¬ Y < p) : onB p a b X Y false = false := by
  unfold onB; rw [if_neg (by decide), decide_eq_false h, Bool.false_and, Bool.and_false]
theorem on_fin {V : Cv} (hok : V.Ok) (x y : Fin V.p) : onB V.p V.a V.b x.val y.val false = decide ((y * y).val = ((x * x + V.A) * x + V.B).val) := by
  unfold onB
  rw [if_neg (by decide), decide_eq_true x.isLt, decide_eq_true y.isLt, Bool.true_and, Bool.true_and, right_val hok, Fin.val_mul]
theorem on_inf' {p a b X Y : Nat} : onB p a b X Y true = (decide (X = 0) && decide (Y = 0)) := if_pos rfl
theorem c_cOn (V : Cv) (b f bd : Nat) (hok : V.Ok) (X Y : Nat) (i : Bool) (w : World) (hb : (Item.blk b ⟨false, opL V f, 147, (0, 0)⟩).holds w) (hf : (Item.blk f ⟨false, fldL V.p bd, 194, (0, 0)⟩).holds w) (hbd : (Item.blk bd ⟨false, dvL V.p, 241, (0, 0)⟩).holds w) (hX : X < W9) (hY : Y < W9) : Calls Try.prog 122 ([.pointer (some ⟨b, 0, none⟩), ptV X Y i] : List Value).toArray w (fun e w' => e = .returned (.bool (onB V.p V.a V.b X Y i)) ∧ Below w.heap.size w w') := by
  have hbb := hok.bounds
  have hpW : V.p < W9 := w9_521 hbb.2.1
  refine KAA (N := 42) (rs := [.tmp 4]) [.blk b ⟨false, opL V f, 147, (0, 0)⟩, .blk f ⟨false, fldL V.p bd, 194, (0, 0)⟩, .blk bd ⟨false, dvL V.p, 241, (0, 0)⟩] Try.func122 rfl Try.ntmps122 Try.results122 (Nb rfl) ⟨hb, hf, hbd, trivial⟩ rfl ?_
  show LCode _ _ _ ⟨_, _⟩ _
  refine KE (KB ?_)
  refine KK rfl (KU (KW (KAJ rfl) (Nb rfl) (fun b3 => ?_)))
  refine KA (KF rfl) (Nb rfl) ?_
  refine KG ?_
  refine KE ?_
  refine KE ?_
  cases i
  ·
    refine KB ?_
    refine KA (KJ (o' := 18) Try.underlying60 rfl rfl rfl sz_4 (by decide)) (Nb rfl) ?_
    refine LOps.det (KN rfl (by repeat (first | exact Mh _ | apply Mt)) (KQ Try.underlying4 rfl (by exact pt_gt _ _ _))) (Nb rfl) ?_
    refine KG ?_
    refine Ki rfl ?_
    refine Ka ?_
    refine KE ?_
    rcases (show (¬ X < V.p) ∨ (X < V.p ∧ ¬ Y < V.p) ∨ (X < V.p ∧ Y < V.p) by omega) with h1 | ⟨h1, h2⟩ | ⟨h1, h2⟩
    ·
      refine Kb [] (by kernel_rfl) ?_
      refine KC 0 rfl (by kernel_rfl) (Nb rfl) (KD rfl) ?_
      refine KC 1 rfl (by kernel_rfl) (Nb rfl) (KZ rfl) ?_
      refine KC 2 rfl (by kernel_rfl) (Nb rfl) (KJ (o' := 59) Try.underlying147 rfl rfl rfl sz_145 (by decide)) ?_
      refine LAny.take 3 rfl (by kernel_rfl) (Nb rfl) (KN rfl (by repeat (first | exact Mh _ | apply Mt)) (KQ Try.underlying145 rfl (by exact cvC_gt_F _ _ _ _ _ _ _ _ _ _ _ _ _))) ?_
      refine KC 4 rfl (by kernel_rfl) (Nb rfl) (KJ (o' := 0) Try.underlying60 rfl rfl rfl sz_25 (by decide)) ?_
      refine LAny.take 5 rfl (by kernel_rfl) (Nb rfl) (KN rfl (by repeat (first | exact Mh _ | apply Mt)) (by exact LoadV.first Try.underlying25 rfl sz_25 rfl (KI _))) ?_
      refine Kz 6 rfl rfl (by kernel_rfl) (KO (first := []) rfl en_155 rfl (Nb rfl) (fun w hw => c_HasF V f bd X w (hw _ (by repeat (first | exact Mh _ | apply Mt))) hX hpW h1) ?_)
      refine KC 7 rfl (by kernel_rfl) (Nb rfl) (KD rfl) ?_
      refine Kv 8 rfl rfl rfl rfl (by kernel_rfl) (Nb rfl) ?_
      refine Kv 9 rfl rfl rfl rfl (by kernel_rfl) (Nb rfl) ?_
      refine Kv 10 rfl rfl rfl rfl (by kernel_rfl) (Nb rfl) ?_
      refine Kv 11 rfl rfl rfl rfl (by kernel_rfl) (Nb rfl) ?_
      refine Kv 12 rfl rfl rfl rfl (by kernel_rfl) (Nb rfl) ?_
      refine Kv 13 rfl rfl rfl rfl (by kernel_rfl) (Nb rfl) ?_
      refine Kv 14 rfl rfl rfl rfl (by kernel_rfl) (Nb rfl) ?_
      refine KC 15 rfl (by kernel_rfl) (Nb rfl) (Ks rfl rfl) ?_
      refine KC 16 rfl (by kernel_rfl) (Nb rfl) (KD rfl) ?_
      refine Kv 17 rfl rfl rfl rfl (by kernel_rfl) (Nb rfl) ?_
      refine Kv 18 rfl rfl rfl rfl (by kernel_rfl) (Nb rfl) ?_
      refine Kv 19 rfl rfl rfl rfl (by kernel_rfl) (Nb rfl) ?_
      refine Kv 20 rfl rfl rfl rfl (by kernel_rfl) (Nb rfl) ?_
      refine Kv 21 rfl rfl rfl rfl (by kernel_rfl) (Nb rfl) ?_
      refine Kv 22 rfl rfl rfl rfl (by kernel_rfl) (Nb rfl) ?_
      refine Kv 23 rfl rfl rfl rfl (by kernel_rfl) (Nb rfl) ?_
      refine Kv 24 rfl rfl rfl rfl (by kernel_rfl) (Nb rfl) ?_
      refine Kv 25 rfl rfl rfl rfl (by kernel_rfl) (Nb rfl) ?_
      refine Kv 26 rfl rfl rfl rfl (by kernel_rfl) (Nb rfl) ?_
      refine Kv 27 rfl rfl rfl rfl (by kernel_rfl) (Nb rfl) ?_
      refine Kv 28 rfl rfl rfl rfl (by kernel_rfl) (Nb rfl) ?_
      refine Kv 29 rfl rfl rfl rfl (by kernel_rfl) (Nb rfl) ?_
      refine Kv 30 rfl rfl rfl rfl (by kernel_rfl) (Nb rfl) ?_
      refine KC 31 rfl (by kernel_rfl) (Nb rfl) (Ks rfl rfl) ?_
      refine KC 32 rfl (by kernel_rfl) (Nb rfl) (KF rfl) ?_
      refine Kp (by kernel_rfl) ?_
      refine KR ?_
      refine ⟨[_], .cons rfl .nil, fun a w' hr => ⟨?_, hr.fr.below⟩⟩
      rw [on_x' h1]
      rfl
    ·
      refine Kb [] (by kernel_rfl) ?_
      refine KC 0 rfl (by kernel_rfl) (Nb rfl) (KD rfl) ?_
      refine KC 1 rfl (by kernel_rfl) (Nb rfl) (KZ rfl) ?_
      refine KC 2 rfl (by kernel_rfl) (Nb rfl) (KJ (o' := 59) Try.underlying147 rfl rfl rfl sz_145 (by decide)) ?_
      refine LAny.take 3 rfl (by kernel_rfl) (Nb rfl) (KN rfl (by repeat (first | exact Mh _ | apply Mt)) (KQ Try.underlying145 rfl (by exact cvC_gt_F _ _ _ _ _ _ _ _ _ _ _ _ _))) ?_
      refine KC 4 rfl (by kernel_rfl) (Nb rfl) (KJ (o' := 0) Try.underlying60 rfl rfl rfl sz_25 (by decide)) ?_
      refine LAny.take 5 rfl (by kernel_rfl) (Nb rfl) (KN rfl (by repeat (first | exact Mh _ | apply Mt)) (by exact LoadV.first Try.underlying25 rfl sz_25 rfl (KI _))) ?_
      refine Kz 6 rfl rfl (by kernel_rfl) (KO (first := []) rfl en_155 rfl (Nb rfl) (fun w hw => c_HasT V f bd X w (hw _ (by repeat (first | exact Mh _ | apply Mt))) hX hpW h1) ?_)
      refine KC 7 rfl (by kernel_rfl) (Nb rfl) (KD rfl) ?_
      refine KV 8 rfl rfl rfl (by kernel_rfl) (Nb rfl) (KD rfl) ?_
      refine KV 9 rfl rfl rfl (by kernel_rfl) (Nb rfl) (KZ rfl) ?_
      refine KV 10 rfl rfl rfl (by kernel_rfl) (Nb rfl) (KJ (o' := 59) Try.underlying147 rfl rfl rfl sz_145 (by decide)) ?_
      refine KAI 11 rfl rfl rfl (by kernel_rfl) (Nb rfl) (KN rfl (by repeat (first | exact Mh _ | apply Mt)) (KQ Try.underlying145 rfl (by exact cvC_gt_F _ _ _ _ _ _ _ _ _ _ _ _ _))) ?_
      refine KV 12 rfl rfl rfl (by kernel_rfl) (Nb rfl) (KJ (o' := 9) Try.underlying60 rfl rfl rfl sz_25 (by decide)) ?_
      refine KAI 13 rfl rfl rfl (by kernel_rfl) (Nb rfl) (KN rfl (by repeat (first | exact Mh _ | apply Mt)) (by exact pt_ld1 _ _ _ _ _ _)) ?_
      refine KAd 14 rfl rfl rfl rfl (by kernel_rfl) (KO (first := []) rfl en_155 rfl (Nb rfl) (fun w hw => c_HasF V f bd Y w (hw _ (by repeat (first | exact Mh _ | apply Mt))) hY hpW h2) ?_)
      refine KC 15 rfl (by kernel_rfl) (Nb rfl) (Kh rfl rfl) ?_
      refine KC 16 rfl (by kernel_rfl) (Nb rfl) (KD rfl) ?_
      refine Kv 17 rfl rfl rfl rfl (by kernel_rfl) (Nb rfl) ?_
      refine Kv 18 rfl rfl rfl rfl (by kernel_rfl) (Nb rfl) ?_
      refine Kv 19 rfl rfl rfl rfl (by kernel_rfl) (Nb rfl) ?_
      refine Kv 20 rfl rfl rfl rfl (by kernel_rfl) (Nb rfl) ?_
      refine Kv 21 rfl rfl rfl rfl (by kernel_rfl) (Nb rfl) ?_
      refine Kv 22 rfl rfl rfl rfl (by kernel_rfl) (Nb rfl) ?_
      refine Kv 23 rfl rfl rfl rfl (by kernel_rfl) (Nb rfl) ?_
      refine Kv 24 rfl rfl rfl rfl (by kernel_rfl) (Nb rfl) ?_
      refine Kv 25 rfl rfl rfl rfl (by kernel_rfl) (Nb rfl) ?_
      refine Kv 26 rfl rfl rfl rfl (by kernel_rfl) (Nb rfl) ?_
      refine Kv 27 rfl rfl rfl rfl (by kernel_rfl) (Nb rfl) ?_
      refine Kv 28 rfl rfl rfl rfl (by kernel_rfl) (Nb rfl) ?_
      refine Kv 29 rfl rfl rfl rfl (by kernel_rfl) (Nb rfl) ?_
      refine Kv 30 rfl rfl rfl rfl (by kernel_rfl) (Nb rfl) ?_
      refine KC 31 rfl (by kernel_rfl) (Nb rfl) (Ks rfl rfl) ?_
      refine KC 32 rfl (by kernel_rfl) (Nb rfl) (KF rfl) ?_
      refine Kp (by kernel_rfl) ?_
      refine KR ?_
      refine ⟨[_], .cons rfl .nil, fun a w' hr => ⟨?_, hr.fr.below⟩⟩
      rw [on_yy' h2]
      rfl
    ·
      obtain ⟨x, rfl⟩ : ∃ x : Fin V.p, x.val = X := ⟨⟨X, h1⟩, rfl⟩
      obtain ⟨y, rfl⟩ : ∃ y : Fin V.p, y.val = Y := ⟨⟨Y, h2⟩, rfl⟩
      refine Kb [] (by kernel_rfl) ?_
      refine KC 0 rfl (by kernel_rfl) (Nb rfl) (KD rfl) ?_
      refine KC 1 rfl (by kernel_rfl) (Nb rfl) (KZ rfl) ?_
      refine KC 2 rfl (by kernel_rfl) (Nb rfl) (KJ (o' := 59) Try.underlying147 rfl rfl rfl sz_145 (by decide)) ?_
      refine LAny.take 3 rfl (by kernel_rfl) (Nb rfl) (KN rfl (by repeat (first | exact Mh _ | apply Mt)) (KQ Try.underlying145 rfl (by exact cvC_gt_F _ _ _ _ _ _ _ _ _ _ _ _ _))) ?_
      refine KC 4 rfl (by kernel_rfl) (Nb rfl) (KJ (o' := 0) Try.underlying60 rfl rfl rfl sz_25 (by decide)) ?_
      refine LAny.take 5 rfl (by kernel_rfl) (Nb rfl) (KN rfl (by repeat (first | exact Mh _ | apply Mt)) (by exact LoadV.first Try.underlying25 rfl sz_25 rfl (KI _))) ?_
      refine Kz 6 rfl rfl (by kernel_rfl) (KO (first := []) rfl en_155 rfl (Nb rfl) (fun w hw => c_HasT V f bd x.val w (hw _ (by repeat (first | exact Mh _ | apply Mt))) (Nat.lt_trans x.isLt hpW) hpW x.isLt) ?_)
      refine KC 7 rfl (by kernel_rfl) (Nb rfl) (KD rfl) ?_
      refine KV 8 rfl rfl rfl (by kernel_rfl) (Nb rfl) (KD rfl) ?_
      refine KV 9 rfl rfl rfl (by kernel_rfl) (Nb rfl) (KZ rfl) ?_
      refine KV 10 rfl rfl rfl (by kernel_rfl) (Nb rfl) (KJ (o' := 59) Try.underlying147 rfl rfl rfl sz_145 (by decide)) ?_
      refine KAI 11 rfl rfl rfl (by kernel_rfl) (Nb rfl) (KN rfl (by repeat (first | exact Mh _ | apply Mt)) (KQ Try.underlying145 rfl (by exact cvC_gt_F _ _ _ _ _ _ _ _ _ _ _ _ _))) ?_
      refine KV 12 rfl rfl rfl (by kernel_rfl) (Nb rfl) (KJ (o' := 9) Try.underlying60 rfl rfl rfl sz_25 (by decide)) ?_
      refine KAI 13 rfl rfl rfl (by kernel_rfl) (Nb rfl) (KN rfl (by repeat (first | exact Mh _ | apply Mt)) (by exact pt_ld1 _ _ _ _ _ _)) ?_
      refine KAd 14 rfl rfl rfl rfl (by kernel_rfl) (KO (first := []) rfl en_155 rfl (Nb rfl) (fun w hw => c_HasT V f bd y.val w (hw _ (by repeat (first | exact Mh _ | apply Mt))) (Nat.lt_trans y.isLt hpW) hpW y.isLt) ?_)
      refine KC 15 rfl (by kernel_rfl) (Nb rfl) (Kh rfl rfl) ?_
      refine KC 16 rfl (by kernel_rfl) (Nb rfl) (KD rfl) ?_
      refine KV 17 rfl rfl rfl (by kernel_rfl) (Nb rfl) (KD rfl) ?_
      refine KV 18 rfl rfl rfl (by kernel_rfl) (Nb rfl) (KZ rfl) ?_
      refine KV 19 rfl rfl rfl (by kernel_rfl) (Nb rfl) (KJ (o' := 59) Try.underlying147 rfl rfl rfl sz_145 (by decide)) ?_
      refine KAI 20 rfl rfl rfl (by kernel_rfl) (Nb rfl) (KN rfl (by repeat (first | exact Mh _ | apply Mt)) (KQ Try.underlying145 rfl (by exact cvC_gt_F _ _ _ _ _ _ _ _ _ _ _ _ _))) ?_
      refine KV 21 rfl rfl rfl (by kernel_rfl) (Nb rfl) (KJ (o' := 9) Try.underlying60 rfl rfl rfl sz_25 (by decide)) ?_
      refine KAI 22 rfl rfl rfl (by kernel_rfl) (Nb rfl) (KN rfl (by repeat (first | exact Mh _ | apply Mt)) (by exact pt_ld1 _ _ _ _ _ _)) ?_
      refine KV 23 rfl rfl rfl (by kernel_rfl) (Nb rfl) (KJ (o' := 9) Try.underlying60 rfl rfl rfl sz_25 (by decide)) ?_
      refine KAI 24 rfl rfl rfl (by kernel_rfl) (Nb rfl) (KN rfl (by repeat (first | exact Mh _ | apply Mt)) (by exact pt_ld1 _ _ _ _ _ _)) ?_
      refine KV 26 rfl rfl rfl (by kernel_rfl) (Nb rfl) (KD rfl) ?_
      refine KV 27 rfl rfl rfl (by kernel_rfl) (Nb rfl) (KJ (o' := 0) Try.underlying60 rfl rfl rfl sz_25 (by decide)) ?_
      refine KAI 28 rfl rfl rfl (by kernel_rfl) (Nb rfl) (KN rfl (by repeat (first | exact Mh _ | apply Mt)) (by exact LoadV.first Try.underlying25 rfl sz_25 rfl (KI _))) ?_
      refine KAd 25 rfl rfl rfl rfl (by kernel_rfl) (KO (first := []) rfl en_156 rfl (Nb rfl) (fun w hw => c_F_Mul V hok f bd _ _ w (hw _ (by repeat (first | exact Mh _ | apply Mt))) (hw _ (by repeat (first | exact Mh _ | apply Mt)))) ?_)
      refine KAd 29 rfl rfl rfl rfl (by kernel_rfl) (KO (first := []) rfl en_157 rfl (Nb rfl) (fun w hw => c_Right V b f bd hok _ w (hw _ (by repeat (first | exact Mh _ | apply Mt))) (hw _ (by repeat (first | exact Mh _ | apply Mt))) (hw _ (by repeat (first | exact Mh _ | apply Mt)))) ?_)
      refine KV 30 rfl rfl rfl (by kernel_rfl) (Nb rfl) (Det.eqa (by kernel_rfl) (fun w => eq_nat (y * y).val ((x * x + V.A) * x + V.B).val (Nat.lt_trans (y * y).isLt hpW) (Nat.lt_trans ((x * x + V.A) * x + V.B).isLt hpW) 10000 (by decide) w) rfl rfl) ?_
      refine KC 31 rfl (by kernel_rfl) (Nb rfl) (Kh rfl rfl) ?_
      refine KC 32 rfl (by kernel_rfl) (Nb rfl) (KF rfl) ?_
      refine Kp (by kernel_rfl) ?_
      refine KR ?_
      refine ⟨[_], .cons rfl .nil, fun a w' hr => ⟨?_, hr.fr.below⟩⟩
      rw [on_fin hok]
      rfl
  ·
    refine KB ?_
    refine KA (KJ (o' := 18) Try.underlying60 rfl rfl rfl sz_4 (by decide)) (Nb rfl) ?_
    refine LOps.det (KN rfl (by repeat (first | exact Mh _ | apply Mt)) (KQ Try.underlying4 rfl (by exact pt_gt _ _ _))) (Nb rfl) ?_
    refine KG ?_
    refine KAD rfl ?_
    refine KE (KB ?_)
    refine LOps.det (KN rfl (by repeat (first | exact Mh _ | apply Mt)) (by exact Kd Try.underlying60 rfl sz_60)) (Nb rfl) ?_
    refine KA (KP (KAk pl_60 zr_60 rfl fill_ptInf) rfl) (Nb rfl) ?_
    refine KA (Det.eqa (by kernel_rfl) (fun w => eq_pt X Y true 0 0 true hX hY zero_w9 zero_w9 10000 (by decide) w) rfl rfl) (Nb rfl) ?_
    refine KA (KF rfl) (Nb rfl) ?_
    refine KG (KR ?_)
    refine ⟨[_], .cons rfl .nil, fun a w' hr => ⟨?_, hr.fr.below⟩⟩
    rw [on_inf', show (decide (X = 0) && decide (Y = 0)) = (decide (X = 0) && (decide (Y = 0) && ((true == true) && true))) by simp]
    rfl
theorem c_curveOn_none (id : Int) (X Y : Nat) (i : Bool) (w : World) (h : cvI id = none) : Calls Try.prog 61 ([.int .i64 id, ptV X Y i] : List Value).toArray w (fun e w' => e = .returned (.bool false) ∧ Below w.heap.size w w') := by
  refine KAA (N := 15) (rs := [.tmp 4]) [] Try.func61 rfl Try.ntmps61 Try.results61 (Nb rfl) trivial rfl ?_
  show LCode _ _ _ ⟨_, _⟩ _
  refine KE (KB ?_)
  refine KK rfl (KU (KW (KAJ rfl) (Nb rfl) (fun b3 => ?_)))
  refine KA (KF rfl) (Nb rfl) ?_
  refine KG ?_
  refine KE (KB ?_)
  refine KA (KD rfl) (Nb rfl) ?_
  refine KK rfl (KU (KO (first := []) rfl en_112 rfl (Nb rfl) (fun w hw => c_Open_none id w h) ?_))
  refine KA (KF rfl) (Nb rfl) ?_
  refine KG ?_
  refine KE (KB ?_)
  refine KA (KD rfl) (Nb rfl) ?_
  refine KA (KP (Det.nep Try.underlying142 rfl rfl) (show _ = Value.bool false from rfl)) (Nb rfl) ?_
  refine KA (KD rfl) (Nb rfl) ?_
  refine Kj rfl rfl rfl (Nb rfl) ?_
  refine Kj rfl rfl rfl (Nb rfl) ?_
  refine Kj rfl rfl rfl (Nb rfl) ?_
  refine KA (Ks rfl rfl) (Nb rfl) ?_
  refine KA (KF rfl) (Nb rfl) ?_
  refine KG (KR ?_)
  refine ⟨[_], .cons rfl .nil, fun a w' hr => ⟨?_, hr.fr.below⟩⟩
  rfl
theorem c_curveOn (id : Int) (V : Cv) (X Y : Nat) (i : Bool) (w : World) (h : cvI id = some V) (hX : X < W9) (hY : Y < W9) : Calls Try.prog 61 ([.int .i64 id, ptV X Y i] : List Value).toArray w (fun e w' => e = .returned (.bool (onB V.p V.a V.b X Y i)) ∧ Below w.heap.size w w') := by
  obtain ⟨hok, hid⟩ := cvI_ok h
  have hbb := hok.bounds
  have hpW : V.p < W9 := w9_521 hbb.2.1
  have hnW : V.n < W9 := w9_521 hbb.2.2.2.2.2.2.1
  have hbl := blen_w9 hnW
  have hnb : nby V.n ≤ 72 := by (unfold nby; omega)
  refine KAA (N := 15) (rs := [.tmp 4]) [] Try.func61 rfl Try.ntmps61 Try.results61 (Nb rfl) trivial rfl ?_
  show LCode _ _ _ ⟨_, _⟩ _
  refine KE (KB ?_)
  refine KK rfl (KU (KW (KAJ rfl) (Nb rfl) (fun b3 => ?_)))
  refine KA (KF rfl) (Nb rfl) ?_
  refine KG ?_
  refine KE (KB ?_)
  refine KA (KD rfl) (Nb rfl) ?_
  refine KK rfl (KU (Km (Post := fun v its => ∃ b f bd, v = .pointer (some ⟨b, 0, none⟩) ∧ its = [.blk b ⟨false, opL V f, 147, (0, 0)⟩, .blk f ⟨false, fldL V.p bd, 194, (0, 0)⟩, .blk bd ⟨false, dvL V.p, 241, (0, 0)⟩]) (first := []) rfl en_112 rfl (Nb rfl) (fun w1 hw hs => (c_Open _ V w1 h).mono fun e w' ⟨b, f, bd, h1, h2, h3, h4, h5, h6, h7, h8⟩ => ⟨_, _, ⟨b, f, bd, rfl, rfl⟩, h1, Brings.nums h8 (by intro x hx; simp at hx; rcases hx with rfl | rfl | rfl; exact h2; exact h3; exact h4) (by intro x hx; simp at hx; rcases hx with rfl | rfl | rfl <;> rfl) (by intro x hx k hk; simp at hx; rcases hx with rfl | rfl | rfl <;> simp [Item.fp] at hk <;> subst hk; exact .inl h5; exact .inl h6; exact .inl h7)⟩) ?_))
  rintro _ _ ⟨b, f, bd, rfl, rfl⟩
  refine KA (KF rfl) (Nb rfl) ?_
  refine KG ?_
  refine KE (KB ?_)
  refine KA (KD rfl) (Nb rfl) ?_
  refine KA (KP (Det.nep Try.underlying142 rfl rfl) (show _ = Value.bool true from rfl)) (Nb rfl) ?_
  refine KA (KD rfl) (Nb rfl) ?_
  refine KX rfl rfl (KD rfl) (Nb rfl) ?_
  refine KAW rfl rfl (KN rfl (by repeat (first | exact Mh _ | apply Mt)) (by exact Kd Try.underlying60 rfl sz_60)) (Nb rfl) ?_
  refine LOps.stepG rfl rfl rfl (KU (KO (first := []) rfl en_122 rfl (Nb rfl) (fun w hw => c_cOn V b f bd hok _ _ _ w (hw _ (by repeat (first | exact Mh _ | apply Mt))) (hw _ (by repeat (first | exact Mh _ | apply Mt))) (hw _ (by repeat (first | exact Mh _ | apply Mt))) hX hY) ?_))
  refine KA (Kh rfl rfl) (Nb rfl) ?_
  refine KA (KF rfl) (Nb rfl) ?_
  refine KG (KR ?_)
  refine ⟨[_], .cons rfl .nil, fun a w' hr => ⟨?_, hr.fr.below⟩⟩
  rfl
theorem ac_zero : ([Value.int .i64 ((0 : Nat) : Int)] ++ (vec .u64 9 (fun _ => 0) ++ (vec .u64 9 (fun _ => 0) ++ (vec .u64 9 (fun _ => 0) ++ (vec .u64 9 (fun _ => 0) ++ (vec .u64 9 (fun _ => 0) ++ (vec .u64 9 (fun _ => 0) ++ ([Value.bool false, Value.int .i64 ((0 : Nat) : Int), Value.int .i64 ((0 : Nat) : Int), Value.bool false]))))))) : List Value) = acC 0 0 0 0 0 0 0 false 0 0 false := by
  simp only [acC, natL, ptL, vec_zeros 9, List.append_assoc, List.cons_append, List.nil_append]
theorem ac_zeroV : Value.agg ([Value.int .i64 ((0 : Nat) : Int)] ++ (vec .u64 9 (fun _ => 0) ++ (vec .u64 9 (fun _ => 0) ++ (vec .u64 9 (fun _ => 0) ++ (vec .u64 9 (fun _ => 0) ++ (vec .u64 9 (fun _ => 0) ++ (vec .u64 9 (fun _ => 0) ++ ([Value.bool false, Value.int .i64 ((0 : Nat) : Int), Value.int .i64 ((0 : Nat) : Int), Value.bool false]))))))) : List Value).toArray = .agg (acC 0 0 0 0 0 0 0 false 0 0 false).toArray := by rw [ac_zero]
theorem c_curveGet_none (id : Int) (w : World) (h : cvI id = none) : Calls Try.prog 56 ([.int .i64 id] : List Value).toArray w (fun e w' => e = .returned (.tuple #[.agg (acC 0 0 0 0 0 0 0 false 0 0 false).toArray, .int .i64 ((1300 : Nat) : Int)]) ∧ Below w.heap.size w w') := by
  refine KAA (N := 14) (rs := [.cell 2 62, .tmp 3]) [] Try.func56 rfl Try.ntmps56 Try.results56 (Nb rfl) trivial rfl ?_
  show LCode _ _ _ ⟨_, _⟩ _
  refine KE (KB ?_)
  refine KK rfl (KU (KW (Kt zr_62) (Nb rfl) (fun b2 => ?_)))
  refine KA (KF (v := .int .i64 ((0 : Nat) : Int)) rfl) (Nb rfl) ?_
  refine KG ?_
  refine KE (KB ?_)
  refine KA (KD rfl) (Nb rfl) ?_
  refine KK rfl (KU (KO (first := []) rfl en_112 rfl (Nb rfl) (fun w hw => c_Open_none id w h) ?_))
  refine KA (KF rfl) (Nb rfl) ?_
  refine KG ?_
  refine KE ?_
  refine KE (KB ?_)
  refine KA (KD rfl) (Nb rfl) ?_
  refine KA (KP (Det.eqp Try.underlying142 rfl rfl) (show _ = Value.bool true from rfl)) (Nb rfl) ?_
  refine KG ?_
  refine KAD rfl ?_
  refine KE (KB ?_)
  refine KA (KP (KAk pl_62 zr_62 rfl rfl) (show _ = Value.agg (acC 0 0 0 0 0 0 0 false 0 0 false).toArray from ac_zeroV)) (Nb rfl) ?_
  refine KK rfl (Ke rfl rfl sz_62 (by exact acC_one _ _ _ _ _ _ _ _ _ _ _) (by repeat (first | exact Sh _ | apply St_)) (by exact acC_length _ _ _ _ _ _ _ _ _ _ _) ?_)
  refine KA (KF (v := .int .i64 ((1300 : Nat) : Int)) rfl) (Nb rfl) ?_
  refine KG (KR ?_)
  refine ⟨[_, _], .cons ⟨_, _, _, rfl, (by repeat (first | exact Mh _ | apply Mt)), by exact Kd Try.underlying62 rfl sz_62⟩ (.cons rfl .nil), fun a w' hr => ⟨?_, hr.fr.below⟩⟩
  rfl
theorem c_curveGet (id : Int) (V : Cv) (w : World) (h : cvI id = some V) : Calls Try.prog 56 ([.int .i64 id] : List Value).toArray w (fun e w' => e = .returned (.tuple #[.agg (acL V).toArray, .int .i64 ((0 : Nat) : Int)]) ∧ Below w.heap.size w w') := by
  obtain ⟨hok, hid⟩ := cvI_ok h
  have hbb := hok.bounds
  have hpW : V.p < W9 := w9_521 hbb.2.1
  have hnW : V.n < W9 := w9_521 hbb.2.2.2.2.2.2.1
  have hbl := blen_w9 hnW
  have hnb : nby V.n ≤ 72 := by (unfold nby; omega)
  refine KAA (N := 14) (rs := [.cell 2 62, .tmp 3]) [] Try.func56 rfl Try.ntmps56 Try.results56 (Nb rfl) trivial rfl ?_
  show LCode _ _ _ ⟨_, _⟩ _
  refine KE (KB ?_)
  refine KK rfl (KU (KW (Kt zr_62) (Nb rfl) (fun b2 => ?_)))
  refine KA (KF (v := .int .i64 ((0 : Nat) : Int)) rfl) (Nb rfl) ?_
  refine KG ?_
  refine KE (KB ?_)
  refine KA (KD rfl) (Nb rfl) ?_
  refine KK rfl (KU (Km (Post := fun v its => ∃ b f bd, v = .pointer (some ⟨b, 0, none⟩) ∧ its = [.blk b ⟨false, opL V f, 147, (0, 0)⟩, .blk f ⟨false, fldL V.p bd, 194, (0, 0)⟩, .blk bd ⟨false, dvL V.p, 241, (0, 0)⟩]) (first := []) rfl en_112 rfl (Nb rfl) (fun w1 hw hs => (c_Open _ V w1 h).mono fun e w' ⟨b, f, bd, h1, h2, h3, h4, h5, h6, h7, h8⟩ => ⟨_, _, ⟨b, f, bd, rfl, rfl⟩, h1, Brings.nums h8 (by intro x hx; simp at hx; rcases hx with rfl | rfl | rfl; exact h2; exact h3; exact h4) (by intro x hx; simp at hx; rcases hx with rfl | rfl | rfl <;> rfl) (by intro x hx k hk; simp at hx; rcases hx with rfl | rfl | rfl <;> simp [Item.fp] at hk <;> subst hk; exact .inl h5; exact .inl h6; exact .inl h7)⟩) ?_))
  rintro _ _ ⟨b, f, bd, rfl, rfl⟩
  refine KA (KF rfl) (Nb rfl) ?_
  refine KG ?_
  refine KE ?_
  refine KE (KB ?_)
  refine KA (KD rfl) (Nb rfl) ?_
  refine KA (KP (Det.eqp Try.underlying142 rfl rfl) (show _ = Value.bool false from rfl)) (Nb rfl) ?_
  refine KG ?_
  refine Ki rfl ?_
  refine Ka ?_
  refine KE (KB ?_)
  refine KA (KD rfl) (Nb rfl) ?_
  refine KA (KZ rfl) (Nb rfl) ?_
  refine KA (KJ (o' := 0) Try.underlying147 rfl rfl rfl sz_62 (by decide)) (Nb rfl) ?_
  refine LOps.det (KN rfl (by repeat (first | exact Mh _ | apply Mt)) (by exact op_ld_ac _ _ _ _ _)) (Nb rfl) ?_
  refine KK rfl (Ke rfl rfl sz_62 (by exact acL_one _) (by repeat (first | exact Sh _ | apply St_)) (by exact acL_length _) ?_)
  refine KA (KF (v := .int .i64 ((0 : Nat) : Int)) rfl) (Nb rfl) ?_
  refine KG (KR ?_)
  refine ⟨[_, _], .cons ⟨_, _, _, rfl, (by repeat (first | exact Mh _ | apply Mt)), by exact Kd Try.underlying62 rfl sz_62⟩ (.cons rfl .nil), fun a w' hr => ⟨?_, hr.fr.below⟩⟩
  rfl
theorem ids_more (n : Nat) (rest : List Value) : (vec .i64 n (fun i => i + 1) ++ [Value.int .i64 ((n + 1 : Nat) : Int)]) ++ rest = vec .i64 (n + 1) (fun i => i + 1) ++ rest := by
  congr 1
  simp [vec, List.range_succ]
theorem ids_one (rest : List Value) : [Value.int .i64 ((0 + 1 : Nat) : Int)] ++ rest = vec .i64 1 (fun i => i + 1) ++ rest := by
  congr 1
structure IdS where
  n : Nat
  b : Nat
  cap : Nat
  rest : List Value
theorem c_Ids  (w : World)  : Calls Try.prog 57 ([] : List Value).toArray w (fun e w' => ∃ b cap rest, e = .returned (.slice (some ⟨b, 0, none⟩) 15 cap) ∧ 15 + rest.length = cap ∧ (Item.blk b ⟨true, vec .i64 15 (fun i => i + 1) ++ rest, 3, (0, 0)⟩).holds w' ∧ w.heap.size ≤ b ∧ Below w.heap.size w w') := by
  refine KAA (N := 12) (rs := [.tmp 0]) [] Try.func57 rfl Try.ntmps57 Try.results57 (Nb rfl) trivial rfl ?_
  show LCode _ _ _ ⟨_, _⟩ _
  refine KE (KB ?_)
  refine KA (KF rfl) (Nb rfl) ?_
  refine KG ?_
  refine KE (KB ?_)
  refine KA (KF rfl) (Nb rfl) ?_
  refine KG ?_
  refine KE ?_
  refine KE (KB ?_)
  refine KA (KF (v := .int .i64 ((1 : Nat) : Int)) rfl) (Nb rfl) ?_
  refine KG ?_
  refine LCode.block ?_
  refine KAG (α := Option IdS) (fun x => match x with | none => True | some y => 1 ≤ y.n ∧ y.n ≤ 15 ∧ y.n + y.rest.length = y.cap) (fun x => match x with | none => ⟨[(1, .slice none 0 0), (2, .int .i64 ((1 : Nat) : Int))], []⟩ | some y => ⟨[(1, .slice (some ⟨y.b, 0, none⟩) y.n y.cap), (2, .int .i64 ((y.n + 1 : Nat) : Int))], [.blk y.b ⟨true, vec .i64 y.n (fun i => i + 1) ++ y.rest, 3, (0, 0)⟩]⟩) (fun x => match x with | none => 100 | some y => 15 - y.n) (none) (trivial) (KAE ⟨rfl, rfl, trivial⟩ (by repeat (first | exact Sel.nil _ | refine Sel.cons (by repeat (first | exact Ph _ | apply Pt_)) ?_))) ?_
  intro x hx
  refine KE ?_
  refine KE ?_
  rcases x with _ | ⟨n, b, cap, rest⟩
  ·
    refine KB ?_
    refine KA (KD rfl) (Nb rfl) ?_
    refine KA (KH (v := .bool true) rfl rfl (br_t (br_leq (b := 15)) (by decide))) (Nb rfl) ?_
    refine KG ?_
    refine KAD rfl ?_
    refine Ka ?_
    refine KE ?_
    refine LCode.block ?_
    refine KB ?_
    refine KA (KD rfl) (Nb rfl) ?_
    refine KA (KD rfl) (Nb rfl) ?_
    refine KK rfl (KU (KW (KAV Try.underlying65 inf_3 rfl rfl rfl rfl (by decide) rfl) (Nb rfl) (fun b9 => ?_)))
    refine KK rfl (LStepW.appendNil (news := [.int .i64 ((0 + 1 : Nat) : Int)]) rfl rfl Try.underlying65 inf_3 rfl (by repeat (first | exact Mh _ | apply Mt)) rfl (by decide) (by decide) (by decide) (Nb rfl) ?_)
    intro b1 cap1 rest1 hc1
    refine KA (KF rfl) (Nb rfl) ?_
    refine KG ?_
    refine KB ?_
    refine KA (KD rfl) (Nb rfl) ?_
    refine KA (KH rfl rfl (KAF (b := 1) (by omega))) (Nb rfl) ?_
    refine KA (KF rfl) (Nb rfl) ?_
    refine KG ?_
    exact ⟨some ⟨1, b1, cap1, rest1⟩, ⟨Nat.le_refl _, by show 1 ≤ 15; decide, hc1⟩, by show 15 - 1 < 100; decide, KAj (Sub.cells (b := b1) (cs' := vec .i64 1 (fun i => i + 1) ++ rest1) (by repeat (first | exact Sh _ | apply St_)) (ids_one _)) (KAE ⟨rfl, rfl, trivial⟩ (by repeat (first | exact Sel.nil _ | refine Sel.cons (by repeat (first | exact Ph _ | apply Pt_)) ?_)))⟩
  ·
    obtain ⟨hn1, hn15, hcap⟩ := hx
    refine KB ?_
    refine KA (KD rfl) (Nb rfl) ?_
    refine KA (KH rfl rfl (br_leq (b := 15))) (Nb rfl) ?_
    refine KG ?_
    first | refine KT rfl (fun h4 => ?_) (fun h4 => ?_) | refine KY rfl (fun h4 => ?_) (fun h4 => ?_)
    ·
      have h4 : n + 1 ≤ 15 := h4
      refine Ka ?_
      refine KE ?_
      refine LCode.block ?_
      refine KB ?_
      refine KA (KD rfl) (Nb rfl) ?_
      refine KA (KD rfl) (Nb rfl) ?_
      refine KK rfl (KU (KW (KAV Try.underlying65 inf_3 rfl rfl rfl rfl (by decide) rfl) (Nb rfl) (fun b9 => ?_)))
      refine KK rfl (LStepW.append (xs := vec .i64 n (fun i => i + 1)) (rest := rest) (news := [.int .i64 ((n + 1 : Nat) : Int)]) rfl rfl Try.underlying65 inf_3 rfl (by repeat (first | exact Pick.head _ | apply Pick.tail)) (by repeat (first | exact Mh _ | apply Mt)) (KM _ _ _) (by rw [KM]; exact hcap) rfl (Kc rfl Kg) (by omega) (by omega) (Nb rfl) ?_)
      intro b1 cap1 rest1 hc1
      refine KA (KF rfl) (Nb rfl) ?_
      refine KG ?_
      refine KB ?_
      refine KA (KD rfl) (Nb rfl) ?_
      refine KA (KH rfl rfl (KAF (b := 1) (by omega))) (Nb rfl) ?_
      refine KA (KF rfl) (Nb rfl) ?_
      refine KG ?_
      exact ⟨some ⟨n + 1, b1, cap1, rest1⟩, ⟨by show 1 ≤ n + 1; omega, by have := h4; show n + 1 ≤ 15; omega, by rw [KM] at hc1; exact hc1⟩, by have := h4; show 15 - (n + 1) < 15 - n; omega, KAj (Sub.cells (b := b1) (cs' := vec .i64 (n + 1) (fun i => i + 1) ++ rest1) (by repeat (first | exact Sh _ | apply St_)) (ids_more _ _)) (KAE ⟨rfl, rfl, trivial⟩ (by repeat (first | exact Sel.nil _ | refine Sel.cons (by repeat (first | exact Ph _ | apply Pt_)) ?_)))⟩
    ·
      have h4 : ¬ n + 1 ≤ 15 := h4
      refine KAB ?_
      refine KE (KB ?_)
      refine KA (KD rfl) (Nb rfl) ?_
      refine KA (KF rfl) (Nb rfl) ?_
      refine KG (KR ?_)
      obtain rfl : n = 15 := by have := h4; have := hn15; dsimp only at *; omega
      exact ⟨[_], .cons rfl .nil, fun a w' hr => ⟨b, cap, rest, rfl, hcap, hr.hp _ (by repeat (first | exact Mh _ | apply Mt)), hr.new (B := ⟨true, _, _, _⟩) (by repeat (first | exact Mh _ | apply Mt)) rfl, hr.fr.below⟩⟩
end Go.Proofs.Ytljblbgogjieaaa
set_option linter.unusedVariables false
set_option linter.unusedSimpArgs false
set_option maxRecDepth 20000
namespace Go.Proofs.Ytljblbgogjieaaa
open Go Go.RowKit
open Grp
def sumT (V : Cv) (T U : Fin V.p × Fin V.p × Fin V.p) : Fin V.p × Fin V.p × Fin V.p := sum3 V.A (V.B + V.B + V.B) T.1 T.2.1 T.2.2 U.1 U.2.1 U.2.2
structure RepT (V : Cv) (T : Fin V.p × Fin V.p × Fin V.p) (P : Pt V.p) : Prop where
  rep : Rep T.1 T.2.1 T.2.2 P
  on : On V.A V.B P
theorem RepT.sum {V : Cv} (hok : V.Ok) {T U : Fin V.p × Fin V.p × Fin V.p} {P R : Pt V.p} (h : RepT V T P) (k : RepT V U R) : RepT V (sumT V T U) (padd V.A P R) := ⟨hok.rep_sum h.rep k.rep h.on k.on, hok.sum h.on k.on⟩
end Go.Proofs.Ytljblbgogjieaaa
set_option linter.unusedVariables false
set_option linter.unusedSimpArgs false
set_option maxRecDepth 20000
namespace Go.Proofs.Ytljblbgogjieaaa
open Go Go.RowKit
def uidx (x : Int) : Nat := (x % 18446744073709551616).toNat
theorem uidx_eq (x : Int) : Value.int .u64 (IntKind.u64.wrap x) = Value.int .u64 ((uidx x : Nat) : Int) := by
  unfold uidx
  rw [wrap_u64, Int.toNat_of_nonneg (Int.emod_nonneg _ (by decide))]
theorem cvI_idx (x : Int) : ∃ V, cvI ((1 + uidx x % 15 : Nat) : Int) = some V := by
  rw [cvI_nat]; exact cvOf_some (by omega) (by omega)
theorem cvI_id {id : Int} {V : Cv} (h : cvI id = some V) : cvI ((V.id : Nat) : Int) = some V := by rw [(cvI_ok h).2]; exact h
end Go.Proofs.Ytljblbgogjieaaa
set_option linter.unusedVariables false
set_option linter.unusedSimpArgs false
set_option maxRecDepth 20000
namespace Go.Proofs.Ytljblbgogjieaaa
open Go Go.RowKit
open Grp
theorem c_curveOnB (id : Int) (V : Cv) (X Y : Nat) (i r : Bool) (w : World) (h : cvI id = some V) (hX : X < W9) (hY : Y < W9) (hr : onB V.p V.a V.b X Y i = r) : Calls Try.prog 61 ([.int .i64 id, ptV X Y i] : List Value).toArray w (fun e w' => e = .returned (.bool r) ∧ Below w.heap.size w w') := by
  have := c_curveOn id V X Y i w h hX hY
  rwa [hr] at this
theorem eq_nat_t {A B : Nat} (hA : A < W9) (h : A = B) : EqD 3 Try.prog 25 (natV A) (natV B) true := by
  subst h
  have := eq_nat A A hA hA
  rwa [decide_eq_true rfl] at this
theorem eq_ac {V : Cv} (hok : V.Ok) : EqD 5 Try.prog 62 (.agg (acL V).toArray) (.agg (acL V).toArray) true := by
  have hb := hok.bounds
  have k : ∀ {x : Nat}, x < V.p → x < W9 := fun h => w9_521 (Nat.lt_trans h hb.2.1)
  exact eq_acC _ _ _ _ _ _ _ _ _ _ _ (w9_521 hb.2.1) (k hb.2.2.1) (k hb.2.2.2.1) (w9_521 hb.2.2.2.2.2.2.1) (k hb.2.2.2.2.1) (k hb.2.2.2.2.2.1)
theorem eq_ac0 : EqD 5 Try.prog 62 (.agg (acC 0 0 0 0 0 0 0 false 0 0 false).toArray) (.agg (acC 0 0 0 0 0 0 0 false 0 0 false).toArray) true := eq_acC _ _ _ _ _ _ _ _ _ _ _ zero_w9 zero_w9 zero_w9 zero_w9 zero_w9 zero_w9
theorem Brings.own {w w' : World} {H : List Item} {b : Nat} {cs : List Value} {e : TypeId} (hb : Below w.heap.size w w') (h : (Item.blk b ⟨true, cs, e, (0, 0)⟩).holds w') (hn : w.heap.size ≤ b) : Brings w H [.blk b ⟨true, cs, e, (0, 0)⟩] w' :=
  ⟨hb, (by intro x hx; simp at hx; subst hx; exact h), (by intro x hx k hk; simp at hx; subst hx; simp [Item.fp] at hk; subst hk; exact .inl hn), (by intro x hx _ k hk; simp at hx; subst hx; simp [Item.fp] at hk; subst hk; exact hn), List.pairwise_singleton _ _⟩
theorem c_awake13  (w : World)  : Calls Try.prog 59 ([] : List Value).toArray w (fun e w' => e = .returned (.bool true) ∧ Below w.heap.size w w') := by
  refine KAA (N := 53) (rs := [.tmp 0]) [] Try.func59 rfl Try.ntmps59 Try.results59 (Nb rfl) trivial rfl ?_
  show LCode _ _ _ ⟨_, _⟩ _
  refine KE (KB ?_)
  refine KA (KF rfl) (Nb rfl) ?_
  refine KG ?_
  refine KE (KB ?_)
  refine KK rfl (KU (KO (first := []) rfl en_56 rfl (Nb rfl) (fun w hw => c_curveGet 13 cv13 w cv13_is) ?_))
  refine KA (KD rfl) (Nb rfl) ?_
  refine KA (Kl rfl rfl) (Nb rfl) ?_
  refine KA (Kl rfl rfl) (Nb rfl) ?_
  refine KK rfl (KU (KW (Kt zr_62) (Nb rfl) (fun b1 => ?_)))
  refine KK rfl (Ke rfl rfl sz_62 (by repeat (first | exact acL_one _ | exact acC_one _ _ _ _ _ _ _ _ _ _ _ | exact sgL_one _ _ | exact KAC _ | exact KAY _ _ _ | exact KAN _ | exact KAL _ _ _ | exact KAe _ _ _ | exact Kg | refine Kc rfl ?_ | refine Kq ?_ ?_)) (by repeat (first | exact Sh _ | apply St_)) (by first | exact acL_length _ | exact acC_length _ _ _ _ _ _ _ _ _ _ _ | exact sgL_length _ _ | exact KI _ | exact KM _ _ _ | exact KL _ | exact KS _ _ _ | exact Kn _ _ _ | rfl | simp [KM, KI, KL]) ?_)
  refine KA (KF rfl) (Nb rfl) ?_
  refine KG ?_
  refine KE (KB ?_)
  refine KK rfl (KU (KO (first := []) rfl en_56 rfl (Nb rfl) (fun w hw => c_curveGet_none 16 w rfl) ?_))
  refine KA (KD rfl) (Nb rfl) ?_
  refine KA (Kl rfl rfl) (Nb rfl) ?_
  refine KA (Kl rfl rfl) (Nb rfl) ?_
  refine KK rfl (KU (KW (Kt zr_62) (Nb rfl) (fun b3 => ?_)))
  refine KK rfl (Ke rfl rfl sz_62 (by repeat (first | exact acL_one _ | exact acC_one _ _ _ _ _ _ _ _ _ _ _ | exact sgL_one _ _ | exact KAC _ | exact KAY _ _ _ | exact KAN _ | exact KAL _ _ _ | exact KAe _ _ _ | exact Kg | refine Kc rfl ?_ | refine Kq ?_ ?_)) (by repeat (first | exact Sh _ | apply St_)) (by first | exact acL_length _ | exact acC_length _ _ _ _ _ _ _ _ _ _ _ | exact sgL_length _ _ | exact KI _ | exact KM _ _ _ | exact KL _ | exact KS _ _ _ | exact Kn _ _ _ | rfl | simp [KM, KI, KL]) ?_)
  refine KA (KF rfl) (Nb rfl) ?_
  refine KG ?_
  refine KE ?_
  refine Kb [] (by kernel_rfl) ?_
  refine KC 0 rfl (by kernel_rfl) (Nb rfl) (KD rfl) ?_
  refine Kz 1 rfl rfl (by kernel_rfl) (KO (first := []) rfl en_46 rfl (Nb rfl) (fun w hw => c_Num _ w) ?_)
  refine KC 2 rfl (by kernel_rfl) (Nb rfl) (KH (v := .bool true) rfl rfl (br_t (KAc (b := 0)) (by first | rfl | assumption | omega | (simp; done)))) ?_
  refine KC 3 rfl (by kernel_rfl) (Nb rfl) (KD rfl) ?_
  refine KV 4 rfl rfl rfl (by kernel_rfl) (Nb rfl) (KJ (o' := 1) Try.underlying62 rfl rfl rfl sz_25 (by decide)) ?_
  refine KAI 5 rfl rfl rfl (by kernel_rfl) (Nb rfl) (KN rfl (by repeat (first | exact Mh _ | apply Mt)) (by exact ac_ld_p _ _ _ _ _ _ _ _ _ _ _ _ _ _)) ?_
  refine KAd 6 rfl rfl rfl rfl (by kernel_rfl) (KO (first := []) rfl en_55 rfl (Nb rfl) (fun w hw => c_One _ w (by first | omega | decide)) ?_)
  refine KV 7 rfl rfl rfl (by kernel_rfl) (Nb rfl) (KP (Det.eqa (by kernel_rfl) (fun w => eq_nat_t (u64_w9 (by decide)) (show 251 = 251 from rfl) 10000 (by decide) w) rfl rfl) (show _ = Value.bool true by rfl)) ?_
  refine KC 8 rfl (by kernel_rfl) (Nb rfl) (Kh rfl rfl) ?_
  refine KC 9 rfl (by kernel_rfl) (Nb rfl) (KD rfl) ?_
  refine KV 10 rfl rfl rfl (by kernel_rfl) (Nb rfl) (KJ (o' := 37) Try.underlying62 rfl rfl rfl sz_60 (by decide)) ?_
  refine KV 11 rfl rfl rfl (by kernel_rfl) (Nb rfl) (KJ (o' := 37) Try.underlying60 rfl rfl rfl sz_25 (by decide)) ?_
  refine KAI 12 rfl rfl rfl (by kernel_rfl) (Nb rfl) (KN rfl (by repeat (first | exact Mh _ | apply Mt)) (by exact ac_ld_gx _ _ _ _ _ _ _ _ _ _ _ _ _ _)) ?_
  refine KAd 13 rfl rfl rfl rfl (by kernel_rfl) (KO (first := []) rfl en_55 rfl (Nb rfl) (fun w hw => c_One _ w (by first | omega | decide)) ?_)
  refine KV 14 rfl rfl rfl (by kernel_rfl) (Nb rfl) (KP (Det.eqa (by kernel_rfl) (fun w => eq_nat_t (u64_w9 (by decide)) (show 2 = 2 from rfl) 10000 (by decide) w) rfl rfl) (show _ = Value.bool true by rfl)) ?_
  refine KC 15 rfl (by kernel_rfl) (Nb rfl) (Kh rfl rfl) ?_
  refine KC 16 rfl (by kernel_rfl) (Nb rfl) (KD rfl) ?_
  refine KV 17 rfl rfl rfl (by kernel_rfl) (Nb rfl) (KJ (o' := 56) Try.underlying62 rfl rfl rfl sz_3 (by decide)) ?_
  refine KAI 18 rfl rfl rfl (by kernel_rfl) (Nb rfl) (KN rfl (by repeat (first | exact Mh _ | apply Mt)) (KQ Try.underlying3 rfl (by exact ac_gt_bits _ _ _ _ _ _ _ _ _ _ _))) ?_
  refine KV 19 rfl rfl rfl (by kernel_rfl) (Nb rfl) (KH (v := .bool true) rfl rfl (br_t (KAc (b := 8)) (by first | rfl | assumption | omega | (simp; done)))) ?_
  refine KC 20 rfl (by kernel_rfl) (Nb rfl) (Kh rfl rfl) ?_
  refine KC 21 rfl (by kernel_rfl) (Nb rfl) (KD rfl) ?_
  refine KV 22 rfl rfl rfl (by kernel_rfl) (Nb rfl) (KD rfl) ?_
  refine KAd 23 rfl rfl rfl rfl (by kernel_rfl) (KO (first := []) rfl en_46 rfl (Nb rfl) (fun w hw => c_Num _ w) ?_)
  refine KV 24 rfl rfl rfl (by kernel_rfl) (Nb rfl) (KH (v := .bool true) rfl rfl (br_t (KAc (b := 1300)) (by first | rfl | assumption | omega | (simp; done)))) ?_
  refine KC 25 rfl (by kernel_rfl) (Nb rfl) (Kh rfl rfl) ?_
  refine KC 26 rfl (by kernel_rfl) (Nb rfl) (KD rfl) ?_
  refine KV 27 rfl rfl rfl (by kernel_rfl) (Nb rfl) (KJ (o' := 37) Try.underlying62 rfl rfl rfl sz_60 (by decide)) ?_
  refine KAI 28 rfl rfl rfl (by kernel_rfl) (Nb rfl) (KN rfl (by repeat (first | exact Mh _ | apply Mt)) (by exact ac_ld_g _ _ _ _ _ _ _ _ _ _ _ _ _ _)) ?_
  refine KAd 29 rfl rfl rfl rfl (by kernel_rfl) (KO (first := []) rfl en_61 rfl (Nb rfl) (fun w hw => c_curveOnB 13 cv13 2 84 false true w cv13_is (u64_w9 (by decide)) (u64_w9 (by decide)) (by decide)) ?_)
  refine KC 30 rfl (by kernel_rfl) (Nb rfl) (Kh rfl rfl) ?_
  refine KC 31 rfl (by kernel_rfl) (Nb rfl) (KD rfl) ?_
  refine KV 32 rfl rfl rfl (by kernel_rfl) (Nb rfl) (KP (KAk pl_60 zr_60 rfl fill_ptInf) rfl) ?_
  refine KAd 33 rfl rfl rfl rfl (by kernel_rfl) (KO (first := []) rfl en_61 rfl (Nb rfl) (fun w hw => c_curveOnB 13 cv13 0 0 true true w cv13_is (u64_w9 (by decide)) (u64_w9 (by decide)) (by decide)) ?_)
  refine KC 34 rfl (by kernel_rfl) (Nb rfl) (Kh rfl rfl) ?_
  refine KC 35 rfl (by kernel_rfl) (Nb rfl) (KD rfl) ?_
  refine KAd 36 rfl rfl rfl rfl (by kernel_rfl) (Km (Post := fun v its => ∃ b cap rest, v = .slice (some ⟨b, 0, none⟩) 15 cap ∧ its = [.blk b ⟨true, vec .i64 15 (fun i => i + 1) ++ rest, 3, (0, 0)⟩] ∧ 15 + rest.length = cap) (first := []) rfl en_57 rfl (Nb rfl) (fun w1 hw hs => (c_Ids w1).mono fun e w' ⟨b, cap, rest, h1, h2, h3, h4, h5⟩ => ⟨_, _, ⟨b, cap, rest, rfl, rfl, h2⟩, h1, Brings.own h5 h3 h4⟩) ?_)
  rintro _ _ ⟨bi, capi, resti, rfl, rfl, hci⟩
  refine KV 37 rfl rfl rfl (by kernel_rfl) (Nb rfl) (KAQ Try.underlying65 rfl) ?_
  refine KV 38 rfl rfl rfl (by kernel_rfl) (Nb rfl) (KH (v := .bool true) rfl rfl (br_t (KAc (b := 15)) (by first | rfl | assumption | omega | (simp; done)))) ?_
  refine KC 39 rfl (by kernel_rfl) (Nb rfl) (Kh rfl rfl) ?_
  refine KC 40 rfl (by kernel_rfl) (Nb rfl) (KF rfl) ?_
  refine Kp (by kernel_rfl) ?_
  refine KR ?_
  refine ⟨[_], .cons rfl .nil, fun a w' hr => ⟨?_, hr.fr.below⟩⟩
  rfl
theorem c_CurveOns_none (id : Int) (X Y : Nat) (i : Bool) (w : World) (h : cvI id = none) : Calls Try.prog 8 ([.int .i64 id, ptV X Y i] : List Value).toArray w (fun e w' => e = .returned (.bool true) ∧ Below w.heap.size w w') := by
  refine KAA (N := 26) (rs := [.tmp 4]) [] Try.func8 rfl Try.ntmps8 Try.results8 (Nb rfl) trivial rfl ?_
  show LCode _ _ _ ⟨_, _⟩ _
  refine KE (KB ?_)
  refine KK rfl (KU (KW (KAJ rfl) (Nb rfl) (fun b3 => ?_)))
  refine KA (KF rfl) (Nb rfl) ?_
  refine KG ?_
  refine KE (KB ?_)
  refine KA (KD rfl) (Nb rfl) ?_
  refine KK rfl (KU (KO (first := []) rfl en_43 rfl (Nb rfl) (fun w hw => c_r_Get_none _ w h) ?_))
  refine KA (KD rfl) (Nb rfl) ?_
  refine KA (Kl rfl rfl) (Nb rfl) ?_
  refine KA (Kl rfl rfl) (Nb rfl) ?_
  refine KK rfl (KU (KW (Kt zr_31) (Nb rfl) (fun b5 => ?_)))
  refine KK rfl (Ke rfl rfl sz_31 (by repeat (first | exact acL_one _ | exact acC_one _ _ _ _ _ _ _ _ _ _ _ | exact sgL_one _ _ | exact KAC _ | exact KAY _ _ _ | exact KAN _ | exact KAL _ _ _ | exact KAe _ _ _ | exact Kg | refine Kc rfl ?_ | refine Kq ?_ ?_)) (by repeat (first | exact Sh _ | apply St_)) (by first | exact acL_length _ | exact acC_length _ _ _ _ _ _ _ _ _ _ _ | exact sgL_length _ _ | exact KI _ | exact KM _ _ _ | exact KL _ | exact KS _ _ _ | exact Kn _ _ _ | rfl | simp [KM, KI, KL]) ?_)
  refine KA (KF rfl) (Nb rfl) ?_
  refine KG ?_
  refine KE ?_
  refine Kb [] (by kernel_rfl) ?_
  refine KC 0 rfl (by kernel_rfl) (Nb rfl) (KD rfl) ?_
  refine LAny.take 1 rfl (by kernel_rfl) (Nb rfl) (KN rfl (by repeat (first | exact Mh _ | apply Mt)) (by exact Kd Try.underlying60 rfl sz_60)) ?_
  refine KC 3 rfl (by kernel_rfl) (Nb rfl) (KD rfl) ?_
  refine Kz 2 rfl rfl (by kernel_rfl) (KO (first := []) rfl en_61 rfl (Nb rfl) (fun w hw => c_curveOn_none id X Y i w h) ?_)
  refine KC 4 rfl (by kernel_rfl) (Nb rfl) (KD rfl) ?_
  refine Kv 5 rfl rfl rfl rfl (by kernel_rfl) (Nb rfl) ?_
  refine Kv 6 rfl rfl rfl rfl (by kernel_rfl) (Nb rfl) ?_
  refine Kv 7 rfl rfl rfl rfl (by kernel_rfl) (Nb rfl) ?_
  refine Kv 8 rfl rfl rfl rfl (by kernel_rfl) (Nb rfl) ?_
  refine KC 9 rfl (by kernel_rfl) (Nb rfl) (Ks rfl rfl) ?_
  refine KC 10 rfl (by kernel_rfl) (Nb rfl) (KP (Det.eqb Try.underlying4 rfl rfl) (show _ = Value.bool true by simp)) ?_
  refine KC 11 rfl (by kernel_rfl) (Nb rfl) (KD rfl) ?_
  refine KAd 12 rfl rfl rfl rfl (by kernel_rfl) (KO (first := []) rfl en_59 rfl (Nb rfl) (fun w hw => c_awake13 w) ?_)
  refine KC 13 rfl (by kernel_rfl) (Nb rfl) (Kh rfl rfl) ?_
  refine KC 14 rfl (by kernel_rfl) (Nb rfl) (KF rfl) ?_
  refine Kp (by kernel_rfl) ?_
  refine KR ?_
  refine ⟨[_], .cons rfl .nil, fun a w' hr => ⟨?_, hr.fr.below⟩⟩
  rfl
theorem c_CurveOns_some (id : Int) (V : Cv) (X Y : Nat) (i : Bool) (w : World) (h : cvI id = some V) (hX : X < W9) (hY : Y < W9) : Calls Try.prog 8 ([.int .i64 id, ptV X Y i] : List Value).toArray w (fun e w' => e = .returned (.bool true) ∧ Below w.heap.size w w') := by
  obtain ⟨hok, hid⟩ := cvI_ok h
  have hdx := nw_w9_dig hX
  have hdy := nw_w9_dig hY
  refine KAA (N := 26) (rs := [.tmp 4]) [] Try.func8 rfl Try.ntmps8 Try.results8 (Nb rfl) trivial rfl ?_
  show LCode _ _ _ ⟨_, _⟩ _
  refine KE (KB ?_)
  refine KK rfl (KU (KW (KAJ rfl) (Nb rfl) (fun b3 => ?_)))
  refine KA (KF rfl) (Nb rfl) ?_
  refine KG ?_
  refine KE (KB ?_)
  refine KA (KD rfl) (Nb rfl) ?_
  refine KK rfl (KU (Km (Post := fun v its => ∃ Q, v = .tuple #[.agg (crvL Q V).toArray, .bool true] ∧ its = [crvI Q V]) (first := []) rfl en_43 rfl (Nb rfl) (fun w1 hw hs => (c_r_Get _ V w1 h).mono fun e w' ⟨Q, h1, h2, h3, h4⟩ => ⟨_, _, ⟨Q, rfl, rfl⟩, h1, Brings.nums h4 (by intro x hx; simp at hx; subst hx; exact h2) (by intro x hx; simp at hx; subst hx; rfl) (by intro x hx k hk; simp at hx; subst hx; exact .inl (h3 k hk))⟩) ?_))
  rintro _ _ ⟨Q, rfl, rfl⟩
  refine KA (KD rfl) (Nb rfl) ?_
  refine KA (Kl rfl rfl) (Nb rfl) ?_
  refine KA (Kl rfl rfl) (Nb rfl) ?_
  refine KK rfl (KU (KW (Kt zr_31) (Nb rfl) (fun b5 => ?_)))
  refine KK rfl (Ke rfl rfl sz_31 (by repeat (first | exact acL_one _ | exact acC_one _ _ _ _ _ _ _ _ _ _ _ | exact sgL_one _ _ | exact KAC _ | exact KAY _ _ _ | exact KAN _ | exact KAL _ _ _ | exact KAe _ _ _ | exact Kg | refine Kc rfl ?_ | refine Kq ?_ ?_)) (by repeat (first | exact Sh _ | apply St_)) (by first | exact acL_length _ | exact acC_length _ _ _ _ _ _ _ _ _ _ _ | exact sgL_length _ _ | exact KI _ | exact KM _ _ _ | exact KL _ | exact KS _ _ _ | exact Kn _ _ _ | rfl | simp [KM, KI, KL]) ?_)
  refine KA (KF rfl) (Nb rfl) ?_
  refine KG ?_
  refine KE ?_
  refine Kb [] (by kernel_rfl) ?_
  refine KC 0 rfl (by kernel_rfl) (Nb rfl) (KD rfl) ?_
  refine LAny.take 1 rfl (by kernel_rfl) (Nb rfl) (KN rfl (by repeat (first | exact Mh _ | apply Mt)) (by exact Kd Try.underlying60 rfl sz_60)) ?_
  refine KC 3 rfl (by kernel_rfl) (Nb rfl) (KD rfl) ?_
  refine Kz 2 rfl rfl (by kernel_rfl) (KO (first := []) rfl en_61 rfl (Nb rfl) (fun w hw => c_curveOn id V X Y i w h hX hY) ?_)
  refine KC 4 rfl (by kernel_rfl) (Nb rfl) (KD rfl) ?_
  refine KAI 5 rfl rfl rfl (by kernel_rfl) (Nb rfl) (KN rfl (by repeat (first | exact Mh _ | apply Mt)) (by exact Kd Try.underlying31 rfl sz_31)) ?_
  refine KAI 6 rfl rfl rfl (by kernel_rfl) (Nb rfl) (KN rfl (by repeat (first | exact Mh _ | apply Mt)) (by exact Kd Try.underlying60 rfl sz_60)) ?_
  refine KAd 7 rfl rfl rfl rfl (by kernel_rfl) (Km (first := []) rfl en_63 rfl (Nb rfl) (fun w hw hs => (c_r_In X Y i w hX hY).mono fun e w' h => Num2R.q (Old.nil _) hs h) ?_)
  rintro _ _ ⟨qpa, qpb, rfl, rfl, hnpa, hnpb⟩
  refine KAd 8 rfl rfl rfl rfl (by kernel_rfl) (KO (first := []) rfl en_62 rfl (Nb rfl) (fun w hw => c_r_On Q V qpa qpb X Y i w (hw _ (by repeat (first | exact Mh _ | apply Mt))) hok (hw _ (by repeat (first | exact Mh _ | apply Mt))) (hw _ (by repeat (first | exact Mh _ | apply Mt))) (by omega) (by omega)) ?_)
  refine KC 9 rfl (by kernel_rfl) (Nb rfl) (Kh rfl rfl) ?_
  refine KC 10 rfl (by kernel_rfl) (Nb rfl) (KP (Det.eqb Try.underlying4 rfl rfl) (show _ = Value.bool true by simp)) ?_
  refine KC 11 rfl (by kernel_rfl) (Nb rfl) (KD rfl) ?_
  refine KAd 12 rfl rfl rfl rfl (by kernel_rfl) (KO (first := []) rfl en_59 rfl (Nb rfl) (fun w hw => c_awake13 w) ?_)
  refine KC 13 rfl (by kernel_rfl) (Nb rfl) (Kh rfl rfl) ?_
  refine KC 14 rfl (by kernel_rfl) (Nb rfl) (KF rfl) ?_
  refine Kp (by kernel_rfl) ?_
  refine KR ?_
  refine ⟨[_], .cons rfl .nil, fun a w' hr => ⟨?_, hr.fr.below⟩⟩
  rfl
theorem c_CurveOns (id : Int) (X Y : Nat) (i : Bool) (w : World) (hX : X < W9) (hY : Y < W9) : Calls Try.prog 8 ([.int .i64 id, ptV X Y i] : List Value).toArray w (fun e w' => e = .returned (.bool true) ∧ Below w.heap.size w w') := by
  cases h : cvI id with
  | none => exact c_CurveOns_none id X Y i w h
  | some V => exact c_CurveOns_some id V X Y i w h hX hY
end Go.Proofs.Ytljblbgogjieaaa
set_option linter.unusedVariables false
set_option linter.unusedSimpArgs false
set_option maxRecDepth 20000
namespace Go.Proofs.Ytljblbgogjieaaa
open Go Go.RowKit
open Grp
theorem leg_t {V : Cv} (h : V.id = 1) : legB V = true := by unfold legB; exact decide_eq_true (.inl h)
theorem leg_f {V : Cv} (h : V.id ≠ 1) : legB V = decide (V.id = 7) := by unfold legB; exact decide_eq_decide.2 (by omega)
theorem nums_of {id : Int} {V : Cv} (h : cvI id = some V) : discN V ≠ 0 ∧ farN V * farN V ≤ V.p * 4 := by
  unfold cvI at h
  split at h
  · exact nums_all h
  · cases h
theorem c_CurveNumbers (id : Int) (w : World)  : Calls Try.prog 10 ([.int .i64 id] : List Value).toArray w (fun e w' => e = .returned (.bool true) ∧ Below w.heap.size w w') := by
  obtain ⟨V, h⟩ := cvI_idx id
  obtain ⟨hok, hid⟩ := cvI_ok h
  have h2 := cvI_id h
  obtain ⟨hb5, hb521, hba, hbb, hbx, hby, hbn, hbo, hbo2, hbb1, hbn1⟩ := hok.bounds
  have hsz := hok.sz
  have hsp := hsz.p
  have hsa := hsz.a
  have hsb := hsz.b
  have hp0 : V.p ≠ 0 := by omega
  have hpp : 0 < V.p := by omega
  have hm17 : ∀ k, D.nw (k % V.p) ≤ 17 := fun k => Nat.le_trans (D.nw_mono (Nat.le_of_lt (Nat.mod_lt k hpp))) hsp
  have hpW : V.p < W9 := w9_521 hb521
  have hnW : V.n < W9 := w9_521 hbn
  have hxW := Nat.lt_trans hbx hpW
  have hyW := Nat.lt_trans hby hpW
  have hsn := hsz.n
  have h17 : ∀ {A : Nat}, A < V.p → D.nw A ≤ 100000 := fun h => Nat.le_trans (nw_521 (Nat.lt_trans h hb521)) (by decide)
  have hbp := blen_nw V.p
  have hbn2 := blen_nw V.n
  have hdf := nums_of h
  have hdisc : (V.a * V.a % V.p * V.a % V.p * 4 % V.p + V.b * V.b % V.p * (27 % V.p) % V.p) % V.p ≠ 0 := hdf.1
  refine KAA (N := 145) (rs := [.tmp 2]) [] Try.func10 rfl Try.ntmps10 Try.results10 (Nb rfl) trivial rfl ?_
  show LCode _ _ _ ⟨_, _⟩ _
  refine KE (KB ?_)
  refine KA (KF rfl) (Nb rfl) ?_
  refine KG ?_
  refine KE ?_
  refine KE (KB ?_)
  refine KK rfl (KU (KO (first := []) rfl en_59 rfl (Nb rfl) (fun w hw => c_awake13 w) ?_))
  refine KA (KP (Det.not rfl) (show _ = Value.bool false from rfl)) (Nb rfl) ?_
  refine KG ?_
  refine Ki rfl ?_
  refine Ka ?_
  refine KE (KB ?_)
  refine KA (KD rfl) (Nb rfl) ?_
  refine KA (KP (Det.conv Try.underlying3 Try.underlying46 rfl) (uidx_eq _)) (Nb rfl) ?_
  refine KA (KH rfl rfl (br_rem64 (b := 15) (by omega))) (Nb rfl) ?_
  refine KA (Det.convi Try.underlying46 Try.underlying3 rfl (by omega)) (Nb rfl) ?_
  refine KA (KH rfl rfl (KAF (a := 1) (by omega))) (Nb rfl) ?_
  refine KK rfl (KU (KO (first := []) rfl en_56 rfl (Nb rfl) (fun w hw => c_curveGet _ V w h) ?_))
  refine KA (KD rfl) (Nb rfl) ?_
  refine KA (Kl rfl rfl) (Nb rfl) ?_
  refine KA (Kl rfl rfl) (Nb rfl) ?_
  refine KK rfl (KU (KW (Kt zr_62) (Nb rfl) (fun b3 => ?_)))
  refine KK rfl (Ke rfl rfl sz_62 (by repeat (first | exact acL_one _ | exact acC_one _ _ _ _ _ _ _ _ _ _ _ | exact sgL_one _ _ | exact KAC _ | exact KAY _ _ _ | exact KAN _ | exact KAL _ _ _ | exact KAe _ _ _ | exact Kg | refine Kc rfl ?_ | refine Kq ?_ ?_)) (by repeat (first | exact Sh _ | apply St_)) (by first | exact acL_length _ | exact acC_length _ _ _ _ _ _ _ _ _ _ _ | exact sgL_length _ _ | exact KI _ | exact KM _ _ _ | exact KL _ | exact KS _ _ _ | exact Kn _ _ _ | rfl | simp [KM, KI, KL]) ?_)
  refine KA (KF rfl) (Nb rfl) ?_
  refine KG ?_
  refine KE ?_
  refine Kb [] (by kernel_rfl) ?_
  refine KC 0 rfl (by kernel_rfl) (Nb rfl) (KJ (o' := 1) Try.underlying62 rfl rfl rfl sz_25 (by decide)) ?_
  refine LAny.take 1 rfl (by kernel_rfl) (Nb rfl) (KN rfl (by repeat (first | exact Mh _ | apply Mt)) (by exact ac_ld_p _ _ _ _ _ _ _ _ _ _ _ _ _ _)) ?_
  refine KC 3 rfl (by kernel_rfl) (Nb rfl) (KJ (o' := 28) Try.underlying62 rfl rfl rfl sz_25 (by decide)) ?_
  refine LAny.take 4 rfl (by kernel_rfl) (Nb rfl) (KN rfl (by repeat (first | exact Mh _ | apply Mt)) (by exact ac_ld_n _ _ _ _ _ _ _ _ _ _ _ _ _ _)) ?_
  refine Kz 2 rfl rfl (by kernel_rfl) (Km (first := []) rfl en_52 rfl (Nb rfl) (fun w hw hs => (c_n_From V.p hpW w).mono fun e w' h => KAg (Old.nil _) hs h) ?_)
  rintro _ _ ⟨qp, rfl, rfl, hnp⟩
  refine Kz 5 rfl rfl (by kernel_rfl) (Km (first := []) rfl en_52 rfl (Nb rfl) (fun w hw hs => (c_n_From V.n hnW w).mono fun e w' h => KAg (Old.nil _) hs h) ?_)
  rintro _ _ ⟨qn, rfl, rfl, hnn⟩
  refine KC 6 rfl (by kernel_rfl) (Nb rfl) (KF rfl) ?_
  refine KC 7 rfl (by kernel_rfl) (Nb rfl) (KF rfl) ?_
  refine Kp (by kernel_rfl) ?_
  refine KE ?_
  refine Kb [] (by kernel_rfl) ?_
  refine KC 0 rfl (by kernel_rfl) (Nb rfl) (KJ (o' := 10) Try.underlying62 rfl rfl rfl sz_25 (by decide)) ?_
  refine LAny.take 1 rfl (by kernel_rfl) (Nb rfl) (KN rfl (by repeat (first | exact Mh _ | apply Mt)) (by exact ac_ld_a _ _ _ _ _ _ _ _ _ _ _ _ _ _)) ?_
  refine KC 3 rfl (by kernel_rfl) (Nb rfl) (KJ (o' := 19) Try.underlying62 rfl rfl rfl sz_25 (by decide)) ?_
  refine LAny.take 4 rfl (by kernel_rfl) (Nb rfl) (KN rfl (by repeat (first | exact Mh _ | apply Mt)) (by exact ac_ld_b _ _ _ _ _ _ _ _ _ _ _ _ _ _)) ?_
  refine Kz 2 rfl rfl (by kernel_rfl) (Km (first := []) rfl en_52 rfl (Nb rfl) (fun w hw hs => (c_n_From V.a (Nat.lt_trans hba hpW) w).mono fun e w' h => KAg (Old.nil _) hs h) ?_)
  rintro _ _ ⟨qa, rfl, rfl, hna⟩
  refine Kz 5 rfl rfl (by kernel_rfl) (Km (first := []) rfl en_52 rfl (Nb rfl) (fun w hw hs => (c_n_From V.b (Nat.lt_trans hbb hpW) w).mono fun e w' h => KAg (Old.nil _) hs h) ?_)
  rintro _ _ ⟨qb, rfl, rfl, hnb⟩
  refine KC 6 rfl (by kernel_rfl) (Nb rfl) (KF rfl) ?_
  refine KC 7 rfl (by kernel_rfl) (Nb rfl) (KF rfl) ?_
  refine Kp (by kernel_rfl) ?_
  refine KE ?_
  refine KE (KB ?_)
  refine KA (KD rfl) (Nb rfl) ?_
  refine KK rfl (KU (KO (first := []) rfl en_46 rfl (Nb rfl) (fun w hw => c_Num _ w) ?_))
  refine KA (KH (v := .bool false) rfl rfl (br_f (br_neq (b := 0)) (by first | exact (fun e => e rfl) | (simp; done) | omega))) (Nb rfl) ?_
  refine KA (KD rfl) (Nb rfl) ?_
  refine KX rfl rfl (KD rfl) (Nb rfl) ?_
  refine LOps.stepG rfl rfl rfl (KU (KO (first := []) rfl en_69 rfl (Nb rfl) (fun w hw => c_n_Bit qp V.p (D.nw V.p) 0 w (hw _ (by repeat (first | exact Mh _ | apply Mt))) (by decide)) ?_))
  refine KX rfl rfl (KH (v := .bool false) rfl rfl (br_f (KAc (b := 0)) (by rw [Nat.pow_zero, Nat.div_one]; omega))) (Nb rfl) ?_
  refine KA (Ks rfl rfl) (Nb rfl) ?_
  refine KA (KD rfl) (Nb rfl) ?_
  refine KX rfl rfl (KD rfl) (Nb rfl) ?_
  refine LOps.stepG rfl rfl rfl (KU (KO (first := []) rfl en_69 rfl (Nb rfl) (fun w hw => c_n_Bit qn V.n (D.nw V.n) 0 w (hw _ (by repeat (first | exact Mh _ | apply Mt))) (by decide)) ?_))
  refine KX rfl rfl (KH (v := .bool false) rfl rfl (br_f (KAc (b := 0)) (by rw [Nat.pow_zero, Nat.div_one]; omega))) (Nb rfl) ?_
  refine KA (Ks rfl rfl) (Nb rfl) ?_
  refine KA (KD rfl) (Nb rfl) ?_
  refine KX rfl rfl (KD rfl) (Nb rfl) ?_
  refine KX rfl rfl (KD rfl) (Nb rfl) ?_
  refine LOps.stepG rfl rfl rfl (KU (KO (first := []) rfl en_70 rfl (Nb rfl) (fun w hw => c_n_Cmp qa qp V.a V.p w (hw _ (by repeat (first | exact Mh _ | apply Mt))) (hw _ (by repeat (first | exact Mh _ | apply Mt))) (by omega)) ?_))
  refine KX rfl rfl (KH (v := .bool false) rfl rfl (br_f cmp_geq (Nat.not_le_of_gt hba))) (Nb rfl) ?_
  refine KA (Ks rfl rfl) (Nb rfl) ?_
  refine KA (KD rfl) (Nb rfl) ?_
  refine KX rfl rfl (KD rfl) (Nb rfl) ?_
  refine KX rfl rfl (KD rfl) (Nb rfl) ?_
  refine LOps.stepG rfl rfl rfl (KU (KO (first := []) rfl en_70 rfl (Nb rfl) (fun w hw => c_n_Cmp qb qp V.b V.p w (hw _ (by repeat (first | exact Mh _ | apply Mt))) (hw _ (by repeat (first | exact Mh _ | apply Mt))) (by omega)) ?_))
  refine KX rfl rfl (KH (v := .bool false) rfl rfl (br_f cmp_geq (Nat.not_le_of_gt hbb))) (Nb rfl) ?_
  refine KA (Ks rfl rfl) (Nb rfl) ?_
  refine KA (KD rfl) (Nb rfl) ?_
  refine KX rfl rfl (KD rfl) (Nb rfl) ?_
  refine KX rfl rfl (KAQ Try.underlying29 rfl) (Nb rfl) ?_
  refine KX rfl rfl (KH (v := .bool false) rfl rfl (br_f (KAc (b := 0)) (fun e => by have := nw_eq_zero.1 e; omega))) (Nb rfl) ?_
  refine KA (Ks rfl rfl) (Nb rfl) ?_
  refine KG ?_
  refine Ki rfl ?_
  refine Ka ?_
  refine KE (KB ?_)
  refine KA (KD rfl) (Nb rfl) ?_
  refine KA (KD rfl) (Nb rfl) ?_
  refine KA (KD rfl) (Nb rfl) ?_
  refine KK rfl (KU (Km (first := []) rfl en_71 rfl (Nb rfl) (fun w hw hs => (c_n_MulMod qa qa qp (V.a) (V.a) V.p hp0 w (hw _ (by repeat (first | exact Mh _ | apply Mt))) (hw _ (by repeat (first | exact Mh _ | apply Mt))) (hw _ (by repeat (first | exact Mh _ | apply Mt))) (h17 hba) (h17 hba)).mono fun e w' h => KAg (Old.nil _) hs h) ?_))
  rintro _ _ ⟨qaa, rfl, rfl, hnaa⟩
  refine KA (KD rfl) (Nb rfl) ?_
  refine KA (KD rfl) (Nb rfl) ?_
  refine KK rfl (KU (Km (first := []) rfl en_71 rfl (Nb rfl) (fun w hw hs => (c_n_MulMod qaa qa qp (V.a * V.a % V.p) (V.a) V.p hp0 w (hw _ (by repeat (first | exact Mh _ | apply Mt))) (hw _ (by repeat (first | exact Mh _ | apply Mt))) (hw _ (by repeat (first | exact Mh _ | apply Mt))) (h17 (Nat.mod_lt _ hpp)) (h17 hba)).mono fun e w' h => KAg (Old.nil _) hs h) ?_))
  rintro _ _ ⟨qaaa, rfl, rfl, hnaaa⟩
  refine KA (KF rfl) (Nb rfl) ?_
  refine KG ?_
  refine KE (KB ?_)
  have h17 : ∀ {A : Nat}, A < V.p → D.nw A ≤ 100000 := fun h => Nat.le_trans (nw_521 (Nat.lt_trans h hb521)) (by decide)
  have hn1 : D.nw (V.p + 1) ≤ 40 := by have := nw_add_le V.p 1; have : D.nw 1 = 1 := nw_one; omega
  refine KA (KD rfl) (Nb rfl) ?_
  refine KK rfl (KU (KW (KAV Try.underlying29 inf_56 rfl rfl rfl rfl (by decide) rfl) (Nb rfl) (fun b75 => ?_)))
  refine KA (KD rfl) (Nb rfl) ?_
  refine KK rfl (KU (Km (first := []) rfl en_71 rfl (Nb rfl) (fun w hw hs => (c_n_MulMod qaaa ⟨false, b75, 1⟩ qp (V.a * V.a % V.p * V.a % V.p) (4) V.p hp0 w (hw _ (by repeat (first | exact Mh _ | apply Mt))) (n1_blk (hw _ (by repeat (first | exact Mh _ | apply Mt))) (by decide)) (hw _ (by repeat (first | exact Mh _ | apply Mt))) (h17 (Nat.mod_lt _ hpp)) (by decide)).mono fun e w' h => KAg (Old.nil _) hs h) ?_))
  rintro _ _ ⟨qd4, rfl, rfl, hnd4⟩
  refine KA (KD rfl) (Nb rfl) ?_
  refine KA (KD rfl) (Nb rfl) ?_
  refine KA (KD rfl) (Nb rfl) ?_
  refine KK rfl (KU (Km (first := []) rfl en_71 rfl (Nb rfl) (fun w hw hs => (c_n_MulMod qb qb qp (V.b) (V.b) V.p hp0 w (hw _ (by repeat (first | exact Mh _ | apply Mt))) (hw _ (by repeat (first | exact Mh _ | apply Mt))) (hw _ (by repeat (first | exact Mh _ | apply Mt))) (h17 hbb) (h17 hbb)).mono fun e w' h => KAg (Old.nil _) hs h) ?_))
  rintro _ _ ⟨qbb, rfl, rfl, hnbb⟩
  refine KK rfl (KU (KW (KAV Try.underlying29 inf_56 rfl rfl rfl rfl (by decide) rfl) (Nb rfl) (fun b82 => ?_)))
  refine KA (KD rfl) (Nb rfl) ?_
  refine LOps.sub (Sub.cells (b := b82) (cs' := vec .u32 1 (D.limb 27)) (by repeat (first | exact Sh _ | apply St_)) (vec_one_digit (by decide))) ?_
  refine LOps.toNum (b := b82) (n := 1) (A := 27) (c := 1) (by repeat (first | exact Pick.head _ | apply Pick.tail)) (by decide) (fun hb82 => ?_)
  refine KK rfl (KU (Km (first := []) rfl en_51 rfl (Nb rfl) (fun w hw hs => (c_n_Mod ⟨false, b82, 1⟩ qp 27 V.p hp0 w (hw _ (by repeat (first | exact Mh _ | apply Mt))) (hw _ (by repeat (first | exact Mh _ | apply Mt))) (by decide)).mono fun e w' h => KAg (Old.one (x := numT ⟨false, b82, 1⟩ 27) (by repeat (first | exact Mh _ | apply Mt)) rfl) hs h) ?_))
  rintro _ _ ⟨qm27, rfl, rfl, hnm27⟩
  refine KA (KD rfl) (Nb rfl) ?_
  refine KK rfl (KU (Km (first := []) rfl en_71 rfl (Nb rfl) (fun w hw hs => (c_n_MulMod qbb qm27 qp (V.b * V.b % V.p) (27 % V.p) V.p hp0 w (hw _ (by repeat (first | exact Mh _ | apply Mt))) (hw _ (by repeat (first | exact Mh _ | apply Mt))) (hw _ (by repeat (first | exact Mh _ | apply Mt))) (h17 (Nat.mod_lt _ hpp)) (h17 (Nat.mod_lt _ hpp))).mono fun e w' h => KAg (Old.nil _) hs h) ?_))
  rintro _ _ ⟨qd27, rfl, rfl, hnd27⟩
  refine KA (KD rfl) (Nb rfl) ?_
  refine KK rfl (KU (Km (first := []) rfl en_72 rfl (Nb rfl) (fun w hw hs => (c_n_AddMod qd4 qd27 qp (V.a * V.a % V.p * V.a % V.p * 4 % V.p) (V.b * V.b % V.p * (27 % V.p) % V.p) V.p w (hw _ (by repeat (first | exact Mh _ | apply Mt))) (hw _ (by repeat (first | exact Mh _ | apply Mt))) (hw _ (by repeat (first | exact Mh _ | apply Mt))) (h17 (Nat.mod_lt _ hpp)) (h17 (Nat.mod_lt _ hpp)) (Nat.mod_lt _ hpp) (Nat.mod_lt _ hpp)).mono fun e w' h => KAg (Old.nil _) hs h) ?_))
  rintro _ _ ⟨qd, rfl, rfl, hnd⟩
  refine KA (KF rfl) (Nb rfl) ?_
  refine KG ?_
  refine KE (KB ?_)
  refine KA (KD rfl) (Nb rfl) ?_
  refine KK rfl (KU (KW (KAV Try.underlying29 inf_56 rfl rfl rfl rfl (by decide) rfl) (Nb rfl) (fun b90 => ?_)))
  refine KK rfl (KU (Km (first := []) rfl en_73 rfl (Nb rfl) (fun w hw hs => (c_n_Add qp ⟨false, b90, 1⟩ V.p 1 w (hw _ (by repeat (first | exact Mh _ | apply Mt))) (n1_blk (hw _ (by repeat (first | exact Mh _ | apply Mt))) (by decide)) (by omega) (by decide)).mono fun e w' h => KAg (Old.nil _) hs h) ?_))
  rintro _ _ ⟨qo, rfl, rfl, hno⟩
  refine KA (KF rfl) (Nb rfl) ?_
  refine KG ?_
  refine KE (KB ?_)
  refine KK rfl (KU (KW (KAV Try.underlying29 inf_56 rfl rfl rfl rfl (by decide) rfl) (Nb rfl) (fun b92 => ?_)))
  refine KA (KF rfl) (Nb rfl) ?_
  refine KG ?_
  refine KE ?_
  refine KE (KB ?_)
  refine KA (KD rfl) (Nb rfl) ?_
  refine KA (KD rfl) (Nb rfl) ?_
  refine KK rfl (KU (KO (first := []) rfl en_70 rfl (Nb rfl) (fun w hw => c_n_Cmp qo qn (V.p + 1) V.n w (hw _ (by repeat (first | exact Mh _ | apply Mt))) (hw _ (by repeat (first | exact Mh _ | apply Mt))) (by omega)) ?_))
  refine KA (KH rfl rfl cmp_geq) (Nb rfl) ?_
  refine KG ?_
  first | refine KT rfl (fun h96 => ?_) (fun h96 => ?_) | refine KY rfl (fun h96 => ?_) (fun h96 => ?_)
  ·
    have h96 : V.n ≤ V.p + 1 := h96
    have hfar : (V.p + 1 - V.n) * (V.p + 1 - V.n) ≤ V.p * 2 ^ 2 := by have := hdf.2; unfold farN at this; rw [if_pos h96] at this; exact this
    obtain ⟨F, hF⟩ : ∃ F, V.p + 1 - V.n = F := ⟨_, rfl⟩
    have hFn : D.nw F ≤ 40 := by rw [← hF]; exact Nat.le_trans (D.nw_mono (Nat.sub_le _ _)) hn1
    rw [hF] at hfar
    refine KB ?_
    refine KA (KD rfl) (Nb rfl) ?_
    refine KA (KD rfl) (Nb rfl) ?_
    refine KK rfl (KU (Km (first := []) rfl en_65 rfl (Nb rfl) (fun w hw hs => (c_n_Sub qo qn (V.p + 1) V.n w (hw _ (by repeat (first | exact Mh _ | apply Mt))) (hw _ (by repeat (first | exact Mh _ | apply Mt))) h96 (by omega)).mono fun e w' h => KAg (Old.nil _) hs h) ?_))
    rintro _ _ ⟨qf, rfl, rfl, hnf⟩
    refine KA (KF rfl) (Nb rfl) ?_
    rw [hF]
    refine KG ?_
    refine KE (KB ?_)
    refine KA (KD rfl) (Nb rfl) ?_
    refine KA (KD rfl) (Nb rfl) ?_
    refine KK rfl (KU (Km (first := []) rfl en_74 rfl (Nb rfl) (fun w hw hs => (c_n_Mul qf qf F F w (hw _ (by repeat (first | exact Mh _ | apply Mt))) (hw _ (by repeat (first | exact Mh _ | apply Mt))) (by omega) (by omega)).mono fun e w' h => KAg (Old.nil _) hs h) ?_))
    rintro _ _ ⟨qff, rfl, rfl, hnff⟩
    refine KA (KD rfl) (Nb rfl) ?_
    refine KK rfl (KU (Km (first := []) rfl en_75 rfl (Nb rfl) (fun w hw hs => (c_n_Shl qp V.p 2 w (hw _ (by repeat (first | exact Mh _ | apply Mt))) (by omega) (by decide)).mono fun e w' h => KAg (Old.nil _) hs h) ?_))
    rintro _ _ ⟨qp4, rfl, rfl, hnp4⟩
    refine KK rfl (KU (KO (first := []) rfl en_70 rfl (Nb rfl) (fun w hw => c_n_Cmp qff qp4 (F * F) (V.p * 2 ^ 2) w (hw _ (by repeat (first | exact Mh _ | apply Mt))) (hw _ (by repeat (first | exact Mh _ | apply Mt))) (by have := nw_mul_le F F; omega)) ?_))
    refine KA (KH (v := .bool true) rfl rfl (br_t cmp_leq (hfar))) (Nb rfl) ?_
    refine KA (KF rfl) (Nb rfl) ?_
    refine KG ?_
    refine KE ?_
    by_cases hi1 : V.id = 1
    ·
      refine Kb [] (by kernel_rfl) ?_
      refine KC 0 rfl (by kernel_rfl) (Nb rfl) (KD rfl) ?_
      refine KC 1 rfl (by kernel_rfl) (Nb rfl) (KAQ Try.underlying29 rfl) ?_
      refine KC 2 rfl (by kernel_rfl) (Nb rfl) (KH (v := .bool true) rfl rfl (br_t (br_gtr (b := 0)) (Nat.pos_of_ne_zero (fun e => hdisc (nw_eq_zero.1 e))))) ?_
      refine KC 3 rfl (by kernel_rfl) (Nb rfl) (KD rfl) ?_
      refine KV 4 rfl rfl rfl (by kernel_rfl) (Nb rfl) (KD rfl) ?_
      refine KC 5 rfl (by kernel_rfl) (Nb rfl) (Kh rfl rfl) ?_
      refine KC 6 rfl (by kernel_rfl) (Nb rfl) (KD rfl) ?_
      refine KV 7 rfl rfl rfl (by kernel_rfl) (Nb rfl) (KJ (o' := 56) Try.underlying62 rfl rfl rfl sz_3 (by decide)) ?_
      refine KAI 8 rfl rfl rfl (by kernel_rfl) (Nb rfl) (KN rfl (by repeat (first | exact Mh _ | apply Mt)) (KQ Try.underlying3 rfl (by exact ac_gt_bits _ _ _ _ _ _ _ _ _ _ _))) ?_
      refine KV 9 rfl rfl rfl (by kernel_rfl) (Nb rfl) (KD rfl) ?_
      refine KAd 10 rfl rfl rfl rfl (by kernel_rfl) (KO (first := []) rfl en_76 rfl (Nb rfl) (fun w hw => c_n_Bits qn V.n w (hw _ (by repeat (first | exact Mh _ | apply Mt))) (by omega)) ?_)
      refine KV 11 rfl rfl rfl (by kernel_rfl) (Nb rfl) (KH (v := .bool true) rfl rfl (br_t KAc (by first | rfl | assumption | omega | (simp; done)))) ?_
      refine KC 12 rfl (by kernel_rfl) (Nb rfl) (Kh rfl rfl) ?_
      refine KC 13 rfl (by kernel_rfl) (Nb rfl) (KD rfl) ?_
      refine KV 14 rfl rfl rfl (by kernel_rfl) (Nb rfl) (KJ (o' := 57) Try.underlying62 rfl rfl rfl sz_3 (by decide)) ?_
      refine KAI 15 rfl rfl rfl (by kernel_rfl) (Nb rfl) (KN rfl (by repeat (first | exact Mh _ | apply Mt)) (KQ Try.underlying3 rfl (by exact ac_gt_size _ _ _ _ _ _ _ _ _ _ _))) ?_
      refine KV 16 rfl rfl rfl (by kernel_rfl) (Nb rfl) (KD rfl) ?_
      refine KAd 17 rfl rfl rfl rfl (by kernel_rfl) (KO (first := []) rfl en_76 rfl (Nb rfl) (fun w hw => c_n_Bits qp V.p w (hw _ (by repeat (first | exact Mh _ | apply Mt))) (by omega)) ?_)
      refine KV 18 rfl rfl rfl (by kernel_rfl) (Nb rfl) (KH rfl rfl (KAF (b := 7) (by omega))) ?_
      refine KV 19 rfl rfl rfl (by kernel_rfl) (Nb rfl) (KH rfl rfl (br_quo (b := 8) (by omega) (by omega))) ?_
      refine KV 20 rfl rfl rfl (by kernel_rfl) (Nb rfl) (KH (v := .bool true) rfl rfl (br_t KAc (by first | rfl | assumption | omega | (simp; done)))) ?_
      refine KC 21 rfl (by kernel_rfl) (Nb rfl) (Kh rfl rfl) ?_
      refine KC 22 rfl (by kernel_rfl) (Nb rfl) (KD rfl) ?_
      refine KV 23 rfl rfl rfl (by kernel_rfl) (Nb rfl) (KJ (o' := 58) Try.underlying62 rfl rfl rfl sz_4 (by decide)) ?_
      refine KAI 24 rfl rfl rfl (by kernel_rfl) (Nb rfl) (KN rfl (by repeat (first | exact Mh _ | apply Mt)) (KQ Try.underlying4 rfl (by exact ac_gt_leg _ _ _ _ _ _ _ _ _ _ _))) ?_
      refine KV 25 rfl rfl rfl (by kernel_rfl) (Nb rfl) (KJ (o' := 0) Try.underlying62 rfl rfl rfl sz_3 (by decide)) ?_
      refine KAI 26 rfl rfl rfl (by kernel_rfl) (Nb rfl) (KN rfl (by repeat (first | exact Mh _ | apply Mt)) (KQ Try.underlying3 rfl (by exact ac_gt_id _ _ _ _ _ _ _ _ _ _ _))) ?_
      refine KV 27 rfl rfl rfl (by kernel_rfl) (Nb rfl) (KH (v := .bool true) rfl rfl (br_t (KAc (b := 1)) (hi1))) ?_
      refine KV 28 rfl rfl rfl (by kernel_rfl) (Nb rfl) (KD rfl) ?_
      refine Kv 29 rfl rfl rfl rfl (by kernel_rfl) (Nb rfl) ?_
      refine Kv 30 rfl rfl rfl rfl (by kernel_rfl) (Nb rfl) ?_
      refine Kv 31 rfl rfl rfl rfl (by kernel_rfl) (Nb rfl) ?_
      refine KV 32 rfl rfl rfl (by kernel_rfl) (Nb rfl) (Kh rfl rfl) ?_
      refine KV 33 rfl rfl rfl (by kernel_rfl) (Nb rfl) (KP (Det.eqb Try.underlying4 rfl rfl) (show _ = Value.bool true by rw [leg_t hi1]; rfl)) ?_
      refine KC 34 rfl (by kernel_rfl) (Nb rfl) (Kh rfl rfl) ?_
      refine KC 35 rfl (by kernel_rfl) (Nb rfl) (KF rfl) ?_
      refine Kp (by kernel_rfl) ?_
      refine KR ?_
      refine ⟨[_], .cons rfl .nil, fun a w' hr => ⟨?_, hr.fr.below⟩⟩
      rfl
    ·
      refine Kb [] (by kernel_rfl) ?_
      refine KC 0 rfl (by kernel_rfl) (Nb rfl) (KD rfl) ?_
      refine KC 1 rfl (by kernel_rfl) (Nb rfl) (KAQ Try.underlying29 rfl) ?_
      refine KC 2 rfl (by kernel_rfl) (Nb rfl) (KH (v := .bool true) rfl rfl (br_t (br_gtr (b := 0)) (Nat.pos_of_ne_zero (fun e => hdisc (nw_eq_zero.1 e))))) ?_
      refine KC 3 rfl (by kernel_rfl) (Nb rfl) (KD rfl) ?_
      refine KV 4 rfl rfl rfl (by kernel_rfl) (Nb rfl) (KD rfl) ?_
      refine KC 5 rfl (by kernel_rfl) (Nb rfl) (Kh rfl rfl) ?_
      refine KC 6 rfl (by kernel_rfl) (Nb rfl) (KD rfl) ?_
      refine KV 7 rfl rfl rfl (by kernel_rfl) (Nb rfl) (KJ (o' := 56) Try.underlying62 rfl rfl rfl sz_3 (by decide)) ?_
      refine KAI 8 rfl rfl rfl (by kernel_rfl) (Nb rfl) (KN rfl (by repeat (first | exact Mh _ | apply Mt)) (KQ Try.underlying3 rfl (by exact ac_gt_bits _ _ _ _ _ _ _ _ _ _ _))) ?_
      refine KV 9 rfl rfl rfl (by kernel_rfl) (Nb rfl) (KD rfl) ?_
      refine KAd 10 rfl rfl rfl rfl (by kernel_rfl) (KO (first := []) rfl en_76 rfl (Nb rfl) (fun w hw => c_n_Bits qn V.n w (hw _ (by repeat (first | exact Mh _ | apply Mt))) (by omega)) ?_)
      refine KV 11 rfl rfl rfl (by kernel_rfl) (Nb rfl) (KH (v := .bool true) rfl rfl (br_t KAc (by first | rfl | assumption | omega | (simp; done)))) ?_
      refine KC 12 rfl (by kernel_rfl) (Nb rfl) (Kh rfl rfl) ?_
      refine KC 13 rfl (by kernel_rfl) (Nb rfl) (KD rfl) ?_
      refine KV 14 rfl rfl rfl (by kernel_rfl) (Nb rfl) (KJ (o' := 57) Try.underlying62 rfl rfl rfl sz_3 (by decide)) ?_
      refine KAI 15 rfl rfl rfl (by kernel_rfl) (Nb rfl) (KN rfl (by repeat (first | exact Mh _ | apply Mt)) (KQ Try.underlying3 rfl (by exact ac_gt_size _ _ _ _ _ _ _ _ _ _ _))) ?_
      refine KV 16 rfl rfl rfl (by kernel_rfl) (Nb rfl) (KD rfl) ?_
      refine KAd 17 rfl rfl rfl rfl (by kernel_rfl) (KO (first := []) rfl en_76 rfl (Nb rfl) (fun w hw => c_n_Bits qp V.p w (hw _ (by repeat (first | exact Mh _ | apply Mt))) (by omega)) ?_)
      refine KV 18 rfl rfl rfl (by kernel_rfl) (Nb rfl) (KH rfl rfl (KAF (b := 7) (by omega))) ?_
      refine KV 19 rfl rfl rfl (by kernel_rfl) (Nb rfl) (KH rfl rfl (br_quo (b := 8) (by omega) (by omega))) ?_
      refine KV 20 rfl rfl rfl (by kernel_rfl) (Nb rfl) (KH (v := .bool true) rfl rfl (br_t KAc (by first | rfl | assumption | omega | (simp; done)))) ?_
      refine KC 21 rfl (by kernel_rfl) (Nb rfl) (Kh rfl rfl) ?_
      refine KC 22 rfl (by kernel_rfl) (Nb rfl) (KD rfl) ?_
      refine KV 23 rfl rfl rfl (by kernel_rfl) (Nb rfl) (KJ (o' := 58) Try.underlying62 rfl rfl rfl sz_4 (by decide)) ?_
      refine KAI 24 rfl rfl rfl (by kernel_rfl) (Nb rfl) (KN rfl (by repeat (first | exact Mh _ | apply Mt)) (KQ Try.underlying4 rfl (by exact ac_gt_leg _ _ _ _ _ _ _ _ _ _ _))) ?_
      refine KV 25 rfl rfl rfl (by kernel_rfl) (Nb rfl) (KJ (o' := 0) Try.underlying62 rfl rfl rfl sz_3 (by decide)) ?_
      refine KAI 26 rfl rfl rfl (by kernel_rfl) (Nb rfl) (KN rfl (by repeat (first | exact Mh _ | apply Mt)) (KQ Try.underlying3 rfl (by exact ac_gt_id _ _ _ _ _ _ _ _ _ _ _))) ?_
      refine KV 27 rfl rfl rfl (by kernel_rfl) (Nb rfl) (KH (v := .bool false) rfl rfl (br_f (KAc (b := 1)) (hi1))) ?_
      refine KV 28 rfl rfl rfl (by kernel_rfl) (Nb rfl) (KD rfl) ?_
      refine KV 29 rfl rfl rfl (by kernel_rfl) (Nb rfl) (KJ (o' := 0) Try.underlying62 rfl rfl rfl sz_3 (by decide)) ?_
      refine KAI 30 rfl rfl rfl (by kernel_rfl) (Nb rfl) (KN rfl (by repeat (first | exact Mh _ | apply Mt)) (KQ Try.underlying3 rfl (by exact ac_gt_id _ _ _ _ _ _ _ _ _ _ _))) ?_
      refine KV 31 rfl rfl rfl (by kernel_rfl) (Nb rfl) (KH rfl rfl (KAc (b := 7))) ?_
      refine KV 32 rfl rfl rfl (by kernel_rfl) (Nb rfl) (Ks rfl rfl) ?_
      refine KV 33 rfl rfl rfl (by kernel_rfl) (Nb rfl) (KP (Det.eqb Try.underlying4 rfl rfl) (show _ = Value.bool true by rw [leg_f hi1]; simp)) ?_
      refine KC 34 rfl (by kernel_rfl) (Nb rfl) (Kh rfl rfl) ?_
      refine KC 35 rfl (by kernel_rfl) (Nb rfl) (KF rfl) ?_
      refine Kp (by kernel_rfl) ?_
      refine KR ?_
      refine ⟨[_], .cons rfl .nil, fun a w' hr => ⟨?_, hr.fr.below⟩⟩
      rfl
  ·
    have h96 : ¬ V.n ≤ V.p + 1 := h96
    have hfar : (V.n - (V.p + 1)) * (V.n - (V.p + 1)) ≤ V.p * 2 ^ 2 := by have := hdf.2; unfold farN at this; rw [if_neg h96] at this; exact this
    obtain ⟨F, hF⟩ : ∃ F, V.n - (V.p + 1) = F := ⟨_, rfl⟩
    have hFn : D.nw F ≤ 40 := by rw [← hF]; exact Nat.le_trans (D.nw_mono (Nat.sub_le _ _)) (by omega)
    rw [hF] at hfar
    refine KB ?_
    refine KA (KD rfl) (Nb rfl) ?_
    refine KA (KD rfl) (Nb rfl) ?_
    refine KK rfl (KU (Km (first := []) rfl en_65 rfl (Nb rfl) (fun w hw hs => (c_n_Sub qn qo V.n (V.p + 1) w (hw _ (by repeat (first | exact Mh _ | apply Mt))) (hw _ (by repeat (first | exact Mh _ | apply Mt))) (by omega) (by omega)).mono fun e w' h => KAg (Old.nil _) hs h) ?_))
    rintro _ _ ⟨qf, rfl, rfl, hnf⟩
    refine KA (KF rfl) (Nb rfl) ?_
    rw [hF]
    refine KG ?_
    refine KE (KB ?_)
    refine KA (KD rfl) (Nb rfl) ?_
    refine KA (KD rfl) (Nb rfl) ?_
    refine KK rfl (KU (Km (first := []) rfl en_74 rfl (Nb rfl) (fun w hw hs => (c_n_Mul qf qf F F w (hw _ (by repeat (first | exact Mh _ | apply Mt))) (hw _ (by repeat (first | exact Mh _ | apply Mt))) (by omega) (by omega)).mono fun e w' h => KAg (Old.nil _) hs h) ?_))
    rintro _ _ ⟨qff, rfl, rfl, hnff⟩
    refine KA (KD rfl) (Nb rfl) ?_
    refine KK rfl (KU (Km (first := []) rfl en_75 rfl (Nb rfl) (fun w hw hs => (c_n_Shl qp V.p 2 w (hw _ (by repeat (first | exact Mh _ | apply Mt))) (by omega) (by decide)).mono fun e w' h => KAg (Old.nil _) hs h) ?_))
    rintro _ _ ⟨qp4, rfl, rfl, hnp4⟩
    refine KK rfl (KU (KO (first := []) rfl en_70 rfl (Nb rfl) (fun w hw => c_n_Cmp qff qp4 (F * F) (V.p * 2 ^ 2) w (hw _ (by repeat (first | exact Mh _ | apply Mt))) (hw _ (by repeat (first | exact Mh _ | apply Mt))) (by have := nw_mul_le F F; omega)) ?_))
    refine KA (KH (v := .bool true) rfl rfl (br_t cmp_leq (hfar))) (Nb rfl) ?_
    refine KA (KF rfl) (Nb rfl) ?_
    refine KG ?_
    refine KE ?_
    by_cases hi1 : V.id = 1
    ·
      refine Kb [] (by kernel_rfl) ?_
      refine KC 0 rfl (by kernel_rfl) (Nb rfl) (KD rfl) ?_
      refine KC 1 rfl (by kernel_rfl) (Nb rfl) (KAQ Try.underlying29 rfl) ?_
      refine KC 2 rfl (by kernel_rfl) (Nb rfl) (KH (v := .bool true) rfl rfl (br_t (br_gtr (b := 0)) (Nat.pos_of_ne_zero (fun e => hdisc (nw_eq_zero.1 e))))) ?_
      refine KC 3 rfl (by kernel_rfl) (Nb rfl) (KD rfl) ?_
      refine KV 4 rfl rfl rfl (by kernel_rfl) (Nb rfl) (KD rfl) ?_
      refine KC 5 rfl (by kernel_rfl) (Nb rfl) (Kh rfl rfl) ?_
      refine KC 6 rfl (by kernel_rfl) (Nb rfl) (KD rfl) ?_
      refine KV 7 rfl rfl rfl (by kernel_rfl) (Nb rfl) (KJ (o' := 56) Try.underlying62 rfl rfl rfl sz_3 (by decide)) ?_
      refine KAI 8 rfl rfl rfl (by kernel_rfl) (Nb rfl) (KN rfl (by repeat (first | exact Mh _ | apply Mt)) (KQ Try.underlying3 rfl (by exact ac_gt_bits _ _ _ _ _ _ _ _ _ _ _))) ?_
      refine KV 9 rfl rfl rfl (by kernel_rfl) (Nb rfl) (KD rfl) ?_
      refine KAd 10 rfl rfl rfl rfl (by kernel_rfl) (KO (first := []) rfl en_76 rfl (Nb rfl) (fun w hw => c_n_Bits qn V.n w (hw _ (by repeat (first | exact Mh _ | apply Mt))) (by omega)) ?_)
      refine KV 11 rfl rfl rfl (by kernel_rfl) (Nb rfl) (KH (v := .bool true) rfl rfl (br_t KAc (by first | rfl | assumption | omega | (simp; done)))) ?_
      refine KC 12 rfl (by kernel_rfl) (Nb rfl) (Kh rfl rfl) ?_
      refine KC 13 rfl (by kernel_rfl) (Nb rfl) (KD rfl) ?_
      refine KV 14 rfl rfl rfl (by kernel_rfl) (Nb rfl) (KJ (o' := 57) Try.underlying62 rfl rfl rfl sz_3 (by decide)) ?_
      refine KAI 15 rfl rfl rfl (by kernel_rfl) (Nb rfl) (KN rfl (by repeat (first | exact Mh _ | apply Mt)) (KQ Try.underlying3 rfl (by exact ac_gt_size _ _ _ _ _ _ _ _ _ _ _))) ?_
      refine KV 16 rfl rfl rfl (by kernel_rfl) (Nb rfl) (KD rfl) ?_
      refine KAd 17 rfl rfl rfl rfl (by kernel_rfl) (KO (first := []) rfl en_76 rfl (Nb rfl) (fun w hw => c_n_Bits qp V.p w (hw _ (by repeat (first | exact Mh _ | apply Mt))) (by omega)) ?_)
      refine KV 18 rfl rfl rfl (by kernel_rfl) (Nb rfl) (KH rfl rfl (KAF (b := 7) (by omega))) ?_
      refine KV 19 rfl rfl rfl (by kernel_rfl) (Nb rfl) (KH rfl rfl (br_quo (b := 8) (by omega) (by omega))) ?_
      refine KV 20 rfl rfl rfl (by kernel_rfl) (Nb rfl) (KH (v := .bool true) rfl rfl (br_t KAc (by first | rfl | assumption | omega | (simp; done)))) ?_
      refine KC 21 rfl (by kernel_rfl) (Nb rfl) (Kh rfl rfl) ?_
      refine KC 22 rfl (by kernel_rfl) (Nb rfl) (KD rfl) ?_
      refine KV 23 rfl rfl rfl (by kernel_rfl) (Nb rfl) (KJ (o' := 58) Try.underlying62 rfl rfl rfl sz_4 (by decide)) ?_
      refine KAI 24 rfl rfl rfl (by kernel_rfl) (Nb rfl) (KN rfl (by repeat (first | exact Mh _ | apply Mt)) (KQ Try.underlying4 rfl (by exact ac_gt_leg _ _ _ _ _ _ _ _ _ _ _))) ?_
      refine KV 25 rfl rfl rfl (by kernel_rfl) (Nb rfl) (KJ (o' := 0) Try.underlying62 rfl rfl rfl sz_3 (by decide)) ?_
      refine KAI 26 rfl rfl rfl (by kernel_rfl) (Nb rfl) (KN rfl (by repeat (first | exact Mh _ | apply Mt)) (KQ Try.underlying3 rfl (by exact ac_gt_id _ _ _ _ _ _ _ _ _ _ _))) ?_
      refine KV 27 rfl rfl rfl (by kernel_rfl) (Nb rfl) (KH (v := .bool true) rfl rfl (br_t (KAc (b := 1)) (hi1))) ?_
      refine KV 28 rfl rfl rfl (by kernel_rfl) (Nb rfl) (KD rfl) ?_
      refine Kv 29 rfl rfl rfl rfl (by kernel_rfl) (Nb rfl) ?_
      refine Kv 30 rfl rfl rfl rfl (by kernel_rfl) (Nb rfl) ?_
      refine Kv 31 rfl rfl rfl rfl (by kernel_rfl) (Nb rfl) ?_
      refine KV 32 rfl rfl rfl (by kernel_rfl) (Nb rfl) (Kh rfl rfl) ?_
      refine KV 33 rfl rfl rfl (by kernel_rfl) (Nb rfl) (KP (Det.eqb Try.underlying4 rfl rfl) (show _ = Value.bool true by rw [leg_t hi1]; rfl)) ?_
      refine KC 34 rfl (by kernel_rfl) (Nb rfl) (Kh rfl rfl) ?_
      refine KC 35 rfl (by kernel_rfl) (Nb rfl) (KF rfl) ?_
      refine Kp (by kernel_rfl) ?_
      refine KR ?_
      refine ⟨[_], .cons rfl .nil, fun a w' hr => ⟨?_, hr.fr.below⟩⟩
      rfl
    ·
      refine Kb [] (by kernel_rfl) ?_
      refine KC 0 rfl (by kernel_rfl) (Nb rfl) (KD rfl) ?_
      refine KC 1 rfl (by kernel_rfl) (Nb rfl) (KAQ Try.underlying29 rfl) ?_
      refine KC 2 rfl (by kernel_rfl) (Nb rfl) (KH (v := .bool true) rfl rfl (br_t (br_gtr (b := 0)) (Nat.pos_of_ne_zero (fun e => hdisc (nw_eq_zero.1 e))))) ?_
      refine KC 3 rfl (by kernel_rfl) (Nb rfl) (KD rfl) ?_
      refine KV 4 rfl rfl rfl (by kernel_rfl) (Nb rfl) (KD rfl) ?_
      refine KC 5 rfl (by kernel_rfl) (Nb rfl) (Kh rfl rfl) ?_
      refine KC 6 rfl (by kernel_rfl) (Nb rfl) (KD rfl) ?_
      refine KV 7 rfl rfl rfl (by kernel_rfl) (Nb rfl) (KJ (o' := 56) Try.underlying62 rfl rfl rfl sz_3 (by decide)) ?_
      refine KAI 8 rfl rfl rfl (by kernel_rfl) (Nb rfl) (KN rfl (by repeat (first | exact Mh _ | apply Mt)) (KQ Try.underlying3 rfl (by exact ac_gt_bits _ _ _ _ _ _ _ _ _ _ _))) ?_
      refine KV 9 rfl rfl rfl (by kernel_rfl) (Nb rfl) (KD rfl) ?_
      refine KAd 10 rfl rfl rfl rfl (by kernel_rfl) (KO (first := []) rfl en_76 rfl (Nb rfl) (fun w hw => c_n_Bits qn V.n w (hw _ (by repeat (first | exact Mh _ | apply Mt))) (by omega)) ?_)
      refine KV 11 rfl rfl rfl (by kernel_rfl) (Nb rfl) (KH (v := .bool true) rfl rfl (br_t KAc (by first | rfl | assumption | omega | (simp; done)))) ?_
      refine KC 12 rfl (by kernel_rfl) (Nb rfl) (Kh rfl rfl) ?_
      refine KC 13 rfl (by kernel_rfl) (Nb rfl) (KD rfl) ?_
      refine KV 14 rfl rfl rfl (by kernel_rfl) (Nb rfl) (KJ (o' := 57) Try.underlying62 rfl rfl rfl sz_3 (by decide)) ?_
      refine KAI 15 rfl rfl rfl (by kernel_rfl) (Nb rfl) (KN rfl (by repeat (first | exact Mh _ | apply Mt)) (KQ Try.underlying3 rfl (by exact ac_gt_size _ _ _ _ _ _ _ _ _ _ _))) ?_
      refine KV 16 rfl rfl rfl (by kernel_rfl) (Nb rfl) (KD rfl) ?_
      refine KAd 17 rfl rfl rfl rfl (by kernel_rfl) (KO (first := []) rfl en_76 rfl (Nb rfl) (fun w hw => c_n_Bits qp V.p w (hw _ (by repeat (first | exact Mh _ | apply Mt))) (by omega)) ?_)
      refine KV 18 rfl rfl rfl (by kernel_rfl) (Nb rfl) (KH rfl rfl (KAF (b := 7) (by omega))) ?_
      refine KV 19 rfl rfl rfl (by kernel_rfl) (Nb rfl) (KH rfl rfl (br_quo (b := 8) (by omega) (by omega))) ?_
      refine KV 20 rfl rfl rfl (by kernel_rfl) (Nb rfl) (KH (v := .bool true) rfl rfl (br_t KAc (by first | rfl | assumption | omega | (simp; done)))) ?_
      refine KC 21 rfl (by kernel_rfl) (Nb rfl) (Kh rfl rfl) ?_
      refine KC 22 rfl (by kernel_rfl) (Nb rfl) (KD rfl) ?_
      refine KV 23 rfl rfl rfl (by kernel_rfl) (Nb rfl) (KJ (o' := 58) Try.underlying62 rfl rfl rfl sz_4 (by decide)) ?_
      refine KAI 24 rfl rfl rfl (by kernel_rfl) (Nb rfl) (KN rfl (by repeat (first | exact Mh _ | apply Mt)) (KQ Try.underlying4 rfl (by exact ac_gt_leg _ _ _ _ _ _ _ _ _ _ _))) ?_
      refine KV 25 rfl rfl rfl (by kernel_rfl) (Nb rfl) (KJ (o' := 0) Try.underlying62 rfl rfl rfl sz_3 (by decide)) ?_
      refine KAI 26 rfl rfl rfl (by kernel_rfl) (Nb rfl) (KN rfl (by repeat (first | exact Mh _ | apply Mt)) (KQ Try.underlying3 rfl (by exact ac_gt_id _ _ _ _ _ _ _ _ _ _ _))) ?_
      refine KV 27 rfl rfl rfl (by kernel_rfl) (Nb rfl) (KH (v := .bool false) rfl rfl (br_f (KAc (b := 1)) (hi1))) ?_
      refine KV 28 rfl rfl rfl (by kernel_rfl) (Nb rfl) (KD rfl) ?_
      refine KV 29 rfl rfl rfl (by kernel_rfl) (Nb rfl) (KJ (o' := 0) Try.underlying62 rfl rfl rfl sz_3 (by decide)) ?_
      refine KAI 30 rfl rfl rfl (by kernel_rfl) (Nb rfl) (KN rfl (by repeat (first | exact Mh _ | apply Mt)) (KQ Try.underlying3 rfl (by exact ac_gt_id _ _ _ _ _ _ _ _ _ _ _))) ?_
      refine KV 31 rfl rfl rfl (by kernel_rfl) (Nb rfl) (KH rfl rfl (KAc (b := 7))) ?_
      refine KV 32 rfl rfl rfl (by kernel_rfl) (Nb rfl) (Ks rfl rfl) ?_
      refine KV 33 rfl rfl rfl (by kernel_rfl) (Nb rfl) (KP (Det.eqb Try.underlying4 rfl rfl) (show _ = Value.bool true by rw [leg_f hi1]; simp)) ?_
      refine KC 34 rfl (by kernel_rfl) (Nb rfl) (Kh rfl rfl) ?_
      refine KC 35 rfl (by kernel_rfl) (Nb rfl) (KF rfl) ?_
      refine Kp (by kernel_rfl) ?_
      refine KR ?_
      refine ⟨[_], .cons rfl .nil, fun a w' hr => ⟨?_, hr.fr.below⟩⟩
      rfl
end Go.Proofs.Ytljblbgogjieaaa
set_option linter.unusedVariables false
set_option linter.unusedSimpArgs false
set_option maxRecDepth 20000
namespace Go.Proofs.Ytljblbgogjieaaa
open Go Go.RowKit
open Grp
theorem pt_get_y (X Y : Nat) (b : Bool) {j : Nat} (h : j < 9) : (ptL X Y b)[j + 9]? = some (.int .u64 (limb Y j : Int)) := by
  unfold ptL
  rw [List.getElem?_append_right (by rw [KI]; omega), KI, show j + 9 - 9 = j by omega, List.getElem?_append_left (by rw [KI]; exact h)]
  exact Kw Y h
theorem pt_get_x (X Y : Nat) (b : Bool) {j : Nat} (h : j < 9) : (ptL X Y b)[j]? = some (.int .u64 (limb X j : Int)) := by
  unfold ptL
  rw [List.getElem?_append_left (by rw [KI]; exact h)]
  exact Kw X h
theorem natL_xor {Y i : Nat} : (natL Y).set (i / 64) (.int .u64 ((limb Y (i / 64) ^^^ 2 ^ (i % 64) : Nat) : Int)) = natL (Y ^^^ 2 ^ i) := by
  unfold natL
  rw [KAU]
  refine KAK fun j _ => ?_
  rw [limb_xor]
  by_cases h : j = i / 64
  · rw [if_pos h, if_pos h, h]
  · rw [if_neg h, if_neg h]
theorem pt_xor_y (X Y : Nat) (b : Bool) {i : Nat} (hi : i < 576) : (ptL X Y b).set (i / 64 + 9) (.int .u64 ((limb Y (i / 64) ^^^ 2 ^ (i % 64) : Nat) : Int)) = ptL X (Y ^^^ 2 ^ i) b := by
  unfold ptL
  rw [List.set_append_right _ _ (by rw [KI]; omega), KI, show i / 64 + 9 - 9 = i / 64 by omega, List.set_append_left _ _ (by rw [KI]; omega), natL_xor]
theorem pt_xor_x (X Y : Nat) (b : Bool) {i : Nat} (hi : i < 576) : (ptL X Y b).set (i / 64) (.int .u64 ((limb X (i / 64) ^^^ 2 ^ (i % 64) : Nat) : Int)) = ptL (X ^^^ 2 ^ i) Y b := by
  unfold ptL
  rw [List.set_append_left _ _ (by rw [KI]; omega), natL_xor]
theorem nby_pos {V : Cv} (hok : V.Ok) : 0 < nby V.p := by
  have h5 := hok.bounds.1
  have : 0 < blen V.p := by
    rcases Nat.eq_zero_or_pos (blen V.p) with h | h
    · have := lt_blen V.p
      rw [h, Nat.pow_zero] at this
      omega
    · exact h
  unfold nby; omega
theorem c_CurveOff (id : Int) (bit : Int) (y : Bool) (w : World)  : Calls Try.prog 11 ([.int .i64 id, .int .i64 bit, .bool y] : List Value).toArray w (fun e w' => e = .returned (.bool true) ∧ Below w.heap.size w w') := by
  obtain ⟨V, h⟩ := cvI_idx id
  obtain ⟨hok, hid⟩ := cvI_ok h
  have h2 := cvI_id h
  obtain ⟨hb5, hb521, hba, hbb, hbx, hby, hbn, hbo, hbo2, hbb1, hbn1⟩ := hok.bounds
  have hsz := hok.sz
  have hsp := hsz.p
  have hsa := hsz.a
  have hsb := hsz.b
  have hp0 : V.p ≠ 0 := by omega
  have hpp : 0 < V.p := by omega
  have hm17 : ∀ k, D.nw (k % V.p) ≤ 17 := fun k => Nat.le_trans (D.nw_mono (Nat.le_of_lt (Nat.mod_lt k hpp))) hsp
  have hpW : V.p < W9 := w9_521 hb521
  have hnW : V.n < W9 := w9_521 hbn
  have hxW := Nat.lt_trans hbx hpW
  have hyW := Nat.lt_trans hby hpW
  have hsn := hsz.n
  have h17 : ∀ {A : Nat}, A < V.p → D.nw A ≤ 100000 := fun h => Nat.le_trans (nw_521 (Nat.lt_trans h hb521)) (by decide)
  have hbp := blen_nw V.p
  have hnb := nby_pos hok
  have hnb2 : nby V.p ≤ 72 := by have := blen_w9 hpW; unfold nby; omega
  have hdy := nw_w9_dig hyW
  refine KAA (N := 119) (rs := [.tmp 6]) [] Try.func11 rfl Try.ntmps11 Try.results11 (Nb rfl) trivial rfl ?_
  show LCode _ _ _ ⟨_, _⟩ _
  refine KE (KB ?_)
  refine KA (KF rfl) (Nb rfl) ?_
  refine KG ?_
  refine KE ?_
  refine KE (KB ?_)
  refine KK rfl (KU (KO (first := []) rfl en_59 rfl (Nb rfl) (fun w hw => c_awake13 w) ?_))
  refine KA (KP (Det.not rfl) (show _ = Value.bool false from rfl)) (Nb rfl) ?_
  refine KG ?_
  refine Ki rfl ?_
  refine Ka ?_
  refine KE (KB ?_)
  refine KA (KD rfl) (Nb rfl) ?_
  refine KA (KP (Det.conv Try.underlying3 Try.underlying46 rfl) (uidx_eq _)) (Nb rfl) ?_
  refine KA (KH rfl rfl (br_rem64 (b := 15) (by omega))) (Nb rfl) ?_
  refine KA (Det.convi Try.underlying46 Try.underlying3 rfl (by omega)) (Nb rfl) ?_
  refine KA (KH rfl rfl (KAF (a := 1) (by omega))) (Nb rfl) ?_
  refine KK rfl (KU (KO (first := []) rfl en_56 rfl (Nb rfl) (fun w hw => c_curveGet _ V w h) ?_))
  refine KA (KD rfl) (Nb rfl) ?_
  refine KA (Kl rfl rfl) (Nb rfl) ?_
  refine KA (Kl rfl rfl) (Nb rfl) ?_
  refine KK rfl (KU (KW (Kt zr_62) (Nb rfl) (fun b7 => ?_)))
  refine KK rfl (Ke rfl rfl sz_62 (by repeat (first | exact acL_one _ | exact acC_one _ _ _ _ _ _ _ _ _ _ _ | exact sgL_one _ _ | exact KAC _ | exact KAY _ _ _ | exact KAN _ | exact KAL _ _ _ | exact KAe _ _ _ | exact Kg | refine Kc rfl ?_ | refine Kq ?_ ?_)) (by repeat (first | exact Sh _ | apply St_)) (by first | exact acL_length _ | exact acC_length _ _ _ _ _ _ _ _ _ _ _ | exact sgL_length _ _ | exact KI _ | exact KM _ _ _ | exact KL _ | exact KS _ _ _ | exact Kn _ _ _ | rfl | simp [KM, KI, KL]) ?_)
  refine KA (KF rfl) (Nb rfl) ?_
  refine KG ?_
  refine KE ?_
  obtain ⟨i, hi⟩ : ∃ i, uidx bit % (8 * nby V.p) = i := ⟨_, rfl⟩
  have hi576 : i < 576 := by have := Nat.mod_lt (uidx bit) (show 0 < 8 * nby V.p by omega); omega
  refine KB ?_
  refine KA (KD rfl) (Nb rfl) ?_
  refine KA (KP (Det.conv Try.underlying3 Try.underlying46 rfl) (uidx_eq _)) (Nb rfl) ?_
  refine KA (KJ (o' := 57) Try.underlying62 rfl rfl rfl sz_3 (by decide)) (Nb rfl) ?_
  refine LOps.det (KN rfl (by repeat (first | exact Mh _ | apply Mt)) (KQ Try.underlying3 rfl (by exact ac_gt_size _ _ _ _ _ _ _ _ _ _ _))) (Nb rfl) ?_
  refine KA (KH rfl rfl (br_mul (a := 8) (by omega))) (Nb rfl) ?_
  refine KA (KP (Det.max rfl rfl) (show _ = Value.int .i64 ((8 * nby V.p : Nat) : Int) from congrArg (Value.int .i64) (by omega))) (Nb rfl) ?_
  refine KA (KAR Try.underlying3 Try.underlying46 rfl (by omega)) (Nb rfl) ?_
  refine KA (KP (KH rfl rfl (br_rem64 (by omega))) (vi (b := i) hi)) (Nb rfl) ?_
  refine KA (Det.convi Try.underlying46 Try.underlying3 rfl (by omega)) (Nb rfl) ?_
  refine KA (KF rfl) (Nb rfl) ?_
  refine KG ?_
  refine KE (KB ?_)
  refine KA (KJ (o' := 37) Try.underlying62 rfl rfl rfl sz_60 (by decide)) (Nb rfl) ?_
  refine LOps.det (KN rfl (by repeat (first | exact Mh _ | apply Mt)) (by exact ac_ld_g _ _ _ _ _ _ _ _ _ _ _ _ _ _)) (Nb rfl) ?_
  refine KK rfl (KU (KW (Kt zr_60) (Nb rfl) (fun b10 => ?_)))
  refine KK rfl (Ke rfl rfl sz_60 (by repeat (first | exact acL_one _ | exact acC_one _ _ _ _ _ _ _ _ _ _ _ | exact sgL_one _ _ | exact KAC _ | exact KAY _ _ _ | exact KAN _ | exact KAL _ _ _ | exact KAe _ _ _ | exact Kg | refine Kc rfl ?_ | refine Kq ?_ ?_)) (by repeat (first | exact Sh _ | apply St_)) (by first | exact acL_length _ | exact acC_length _ _ _ _ _ _ _ _ _ _ _ | exact sgL_length _ _ | exact KI _ | exact KM _ _ _ | exact KL _ | exact KS _ _ _ | exact Kn _ _ _ | rfl | simp [KM, KI, KL]) ?_)
  refine KG ?_
  refine KE ?_
  refine KE ?_
  cases y
  ·
    refine KB ?_
    refine KA (KD rfl) (Nb rfl) ?_
    refine KG ?_
    refine Ki rfl ?_
    refine Kb [15] (by kernel_rfl) ?_
    refine KC 0 rfl (by kernel_rfl) (Nb rfl) (KD rfl) ?_
    refine KC 1 rfl (by kernel_rfl) (Nb rfl) (KH rfl rfl (br_quo (b := 64) (by omega) (by omega))) ?_
    refine KC 2 rfl (by kernel_rfl) (Nb rfl) (KD rfl) ?_
    refine KC 3 rfl (by kernel_rfl) (Nb rfl) (KH rfl rfl (br_quo (b := 64) (by omega) (by omega))) ?_
    refine KC 4 rfl (by kernel_rfl) (Nb rfl) (KJ (o' := 0) Try.underlying60 rfl rfl rfl sz_25 (by decide)) ?_
    refine KC 5 rfl (by kernel_rfl) (Nb rfl) (KJ (o' := 0) Try.underlying25 rfl rfl rfl sz_23 (by decide)) ?_
    refine KC 6 rfl (by kernel_rfl) (Nb rfl) (Kx Try.underlying23 sz_22 rfl rfl (by omega)) ?_
    refine LAny.take 7 rfl (by kernel_rfl) (Nb rfl) (KN rfl (by repeat (first | exact Mh _ | apply Mt)) (KQ Try.underlying22 rfl (by exact pt_get_x _ _ _ (show i / 64 < 9 by omega)))) ?_
    refine KC 8 rfl (by kernel_rfl) (Nb rfl) (KD rfl) ?_
    refine KC 9 rfl (by kernel_rfl) (Nb rfl) (KH rfl rfl (br_rem (b := 64) (by omega))) ?_
    refine KC 10 rfl (by kernel_rfl) (Nb rfl) (KP (KH rfl rfl br_shl64) (vi (b := 2 ^ (i % 64)) (by rw [Nat.one_mul]; exact Nat.mod_eq_of_lt (Nat.pow_lt_pow_right (by decide) (Nat.mod_lt _ (by decide)))))) ?_
    refine KC 11 rfl (by kernel_rfl) (Nb rfl) (KH rfl rfl (br_xor64 (limb_lt _ _) (Nat.pow_lt_pow_right (by decide) (Nat.mod_lt i (by decide))))) ?_
    refine KC 12 rfl (by kernel_rfl) (Nb rfl) (KJ (o' := 0) Try.underlying60 rfl rfl rfl sz_25 (by decide)) ?_
    refine KC 13 rfl (by kernel_rfl) (Nb rfl) (KJ (o' := 0) Try.underlying25 rfl rfl rfl sz_23 (by decide)) ?_
    refine KC 14 rfl (by kernel_rfl) (Nb rfl) (Kx Try.underlying23 sz_22 rfl rfl (by omega)) ?_
    refine KAH 15 rfl rfl (by kernel_rfl) (by kernel_rfl) (Kr rfl rfl rfl sz_22 (by repeat (first | exact Sh _ | apply St_)) (by rw [KS]; omega) (by exact pt_xor_x _ _ _ hi576) (by simp) ?_)
    refine Kp (by kernel_rfl) ?_
    refine KE ?_
    refine Kb [] (by kernel_rfl) ?_
    refine KC 0 rfl (by kernel_rfl) (Nb rfl) (KJ (o' := 37) Try.underlying62 rfl rfl rfl sz_60 (by decide)) ?_
    refine KC 1 rfl (by kernel_rfl) (Nb rfl) (KJ (o' := 46) Try.underlying60 rfl rfl rfl sz_25 (by decide)) ?_
    refine LAny.take 2 rfl (by kernel_rfl) (Nb rfl) (KN rfl (by repeat (first | exact Mh _ | apply Mt)) (by exact ac_ld_gy _ _ _ _ _ _ _ _ _ _ _ _ _ _)) ?_
    refine KC 4 rfl (by kernel_rfl) (Nb rfl) (KJ (o' := 9) Try.underlying60 rfl rfl rfl sz_25 (by decide)) ?_
    refine LAny.take 5 rfl (by kernel_rfl) (Nb rfl) (KN rfl (by repeat (first | exact Mh _ | apply Mt)) (by exact pt_ld1 _ _ _ _ _ _)) ?_
    refine Kz 3 rfl rfl (by kernel_rfl) (Km (first := []) rfl en_52 rfl (Nb rfl) (fun w hw hs => (c_n_From V.y hyW w).mono fun e w' h => KAg (Old.nil _) hs h) ?_)
    rintro _ _ ⟨qy, rfl, rfl, hny⟩
    refine Kz 6 rfl rfl (by kernel_rfl) (Km (first := []) rfl en_52 rfl (Nb rfl) (fun w hw hs => (c_n_From V.y hyW w).mono fun e w' h => KAg (Old.nil _) hs h) ?_)
    rintro _ _ ⟨qz, rfl, rfl, hnz⟩
    refine Kz 7 rfl rfl (by kernel_rfl) (Km (first := []) rfl en_73 rfl (Nb rfl) (fun w hw hs => (c_n_Add qy qz V.y V.y w (hw _ (by repeat (first | exact Mh _ | apply Mt))) (hw _ (by repeat (first | exact Mh _ | apply Mt))) (by omega) (by omega)).mono fun e w' h => KAg (Old.nil _) hs h) ?_)
    rintro _ _ ⟨qs, rfl, rfl, hns⟩
    refine KC 8 rfl (by kernel_rfl) (Nb rfl) (KF rfl) ?_
    refine Kp (by kernel_rfl) ?_
    refine KE (KB ?_)
    refine KA (KD rfl) (Nb rfl) ?_
    refine KA (KD rfl) (Nb rfl) ?_
    refine Kj rfl rfl rfl (Nb rfl) ?_
    refine Kj rfl rfl rfl (Nb rfl) ?_
    refine Kj rfl rfl rfl (Nb rfl) ?_
    refine Kj rfl rfl rfl (Nb rfl) ?_
    refine Kj rfl rfl rfl (Nb rfl) ?_
    refine Kj rfl rfl rfl (Nb rfl) ?_
    refine KA (Ks rfl rfl) (Nb rfl) ?_
    refine KA (KF rfl) (Nb rfl) ?_
    refine KG ?_
    refine KE ?_
    refine KE (KB ?_)
    refine KA (KD rfl) (Nb rfl) ?_
    refine KA (KP (Det.not rfl) (show _ = Value.bool true from rfl)) (Nb rfl) ?_
    refine KG ?_
    refine KAD rfl ?_
    refine KE (KB ?_)
    refine KA (KD rfl) (Nb rfl) ?_
    refine KK rfl (KU (KO (first := []) rfl en_46 rfl (Nb rfl) (fun w hw => c_Num _ w) ?_))
    refine KA (KH (v := .bool true) rfl rfl (br_t (KAc (b := 0)) (by first | rfl | assumption | omega | (simp; done)))) (Nb rfl) ?_
    refine KA (KD rfl) (Nb rfl) ?_
    refine KX rfl rfl (KJ (o' := 0) Try.underlying62 rfl rfl rfl sz_3 (by decide)) (Nb rfl) ?_
    refine KAW rfl rfl (KN rfl (by repeat (first | exact Mh _ | apply Mt)) (KQ Try.underlying3 rfl (by exact ac_gt_id _ _ _ _ _ _ _ _ _ _ _))) (Nb rfl) ?_
    refine KX rfl rfl (KJ (o' := 37) Try.underlying62 rfl rfl rfl sz_60 (by decide)) (Nb rfl) ?_
    refine KAW rfl rfl (KN rfl (by repeat (first | exact Mh _ | apply Mt)) (by exact ac_ld_g _ _ _ _ _ _ _ _ _ _ _ _ _ _)) (Nb rfl) ?_
    refine LOps.stepG rfl rfl rfl (KU (KO (first := []) rfl en_61 rfl (Nb rfl) (fun w hw => c_curveOnB _ V V.x V.y false true w h2 hxW hyW (hok.on_G hbx hby)) ?_))
    refine KA (Kh rfl rfl) (Nb rfl) ?_
    refine KA (KF rfl) (Nb rfl) ?_
    refine KG (KR ?_)
    refine ⟨[_], .cons rfl .nil, fun a w' hr => ⟨?_, hr.fr.below⟩⟩
    rfl
  ·
    refine KB ?_
    refine KA (KD rfl) (Nb rfl) ?_
    refine KG ?_
    refine KAD rfl ?_
    refine Kb [15] (by kernel_rfl) ?_
    refine KC 0 rfl (by kernel_rfl) (Nb rfl) (KD rfl) ?_
    refine KC 1 rfl (by kernel_rfl) (Nb rfl) (KH rfl rfl (br_quo (b := 64) (by omega) (by omega))) ?_
    refine KC 2 rfl (by kernel_rfl) (Nb rfl) (KD rfl) ?_
    refine KC 3 rfl (by kernel_rfl) (Nb rfl) (KH rfl rfl (br_quo (b := 64) (by omega) (by omega))) ?_
    refine KC 4 rfl (by kernel_rfl) (Nb rfl) (KJ (o' := 9) Try.underlying60 rfl rfl rfl sz_25 (by decide)) ?_
    refine KC 5 rfl (by kernel_rfl) (Nb rfl) (KJ (o' := 9) Try.underlying25 rfl rfl rfl sz_23 (by decide)) ?_
    refine KC 6 rfl (by kernel_rfl) (Nb rfl) (Det.indexA Try.underlying23 sz_22 rfl rfl (by omega)) ?_
    refine LAny.take 7 rfl (by kernel_rfl) (Nb rfl) (KN rfl (by repeat (first | exact Mh _ | apply Mt)) (KQ Try.underlying22 rfl (by exact pt_get_y _ _ _ (show i / 64 < 9 by omega)))) ?_
    refine KC 8 rfl (by kernel_rfl) (Nb rfl) (KD rfl) ?_
    refine KC 9 rfl (by kernel_rfl) (Nb rfl) (KH rfl rfl (br_rem (b := 64) (by omega))) ?_
    refine KC 10 rfl (by kernel_rfl) (Nb rfl) (KP (KH rfl rfl br_shl64) (vi (b := 2 ^ (i % 64)) (by rw [Nat.one_mul]; exact Nat.mod_eq_of_lt (Nat.pow_lt_pow_right (by decide) (Nat.mod_lt _ (by decide)))))) ?_
    refine KC 11 rfl (by kernel_rfl) (Nb rfl) (KH rfl rfl (br_xor64 (limb_lt _ _) (Nat.pow_lt_pow_right (by decide) (Nat.mod_lt i (by decide))))) ?_
    refine KC 12 rfl (by kernel_rfl) (Nb rfl) (KJ (o' := 9) Try.underlying60 rfl rfl rfl sz_25 (by decide)) ?_
    refine KC 13 rfl (by kernel_rfl) (Nb rfl) (KJ (o' := 9) Try.underlying25 rfl rfl rfl sz_23 (by decide)) ?_
    refine KC 14 rfl (by kernel_rfl) (Nb rfl) (Det.indexA Try.underlying23 sz_22 rfl rfl (by omega)) ?_
    refine KAH 15 rfl rfl (by kernel_rfl) (by kernel_rfl) (Kr rfl rfl rfl sz_22 (by repeat (first | exact Sh _ | apply St_)) (by rw [KS]; omega) (by exact pt_xor_y _ _ _ hi576) (by simp) ?_)
    refine Kp (by kernel_rfl) ?_
    refine KE ?_
    have hY := xor_w9 hyW hi576
    have hne := xor_pow_ne V.y i
    generalize V.y ^^^ 2 ^ i = Y at *
    have hYn := nw_w9_dig hY
    refine Kb [] (by kernel_rfl) ?_
    refine KC 0 rfl (by kernel_rfl) (Nb rfl) (KJ (o' := 37) Try.underlying62 rfl rfl rfl sz_60 (by decide)) ?_
    refine KC 1 rfl (by kernel_rfl) (Nb rfl) (KJ (o' := 46) Try.underlying60 rfl rfl rfl sz_25 (by decide)) ?_
    refine LAny.take 2 rfl (by kernel_rfl) (Nb rfl) (KN rfl (by repeat (first | exact Mh _ | apply Mt)) (by exact ac_ld_gy _ _ _ _ _ _ _ _ _ _ _ _ _ _)) ?_
    refine KC 4 rfl (by kernel_rfl) (Nb rfl) (KJ (o' := 9) Try.underlying60 rfl rfl rfl sz_25 (by decide)) ?_
    refine LAny.take 5 rfl (by kernel_rfl) (Nb rfl) (KN rfl (by repeat (first | exact Mh _ | apply Mt)) (by exact pt_ld1 _ _ _ _ _ _)) ?_
    refine Kz 3 rfl rfl (by kernel_rfl) (Km (first := []) rfl en_52 rfl (Nb rfl) (fun w hw hs => (c_n_From V.y hyW w).mono fun e w' h => KAg (Old.nil _) hs h) ?_)
    rintro _ _ ⟨qy, rfl, rfl, hny⟩
    refine Kz 6 rfl rfl (by kernel_rfl) (Km (first := []) rfl en_52 rfl (Nb rfl) (fun w hw hs => (c_n_From Y hY w).mono fun e w' h => KAg (Old.nil _) hs h) ?_)
    rintro _ _ ⟨qz, rfl, rfl, hnz⟩
    refine Kz 7 rfl rfl (by kernel_rfl) (Km (first := []) rfl en_73 rfl (Nb rfl) (fun w hw hs => (c_n_Add qy qz V.y Y w (hw _ (by repeat (first | exact Mh _ | apply Mt))) (hw _ (by repeat (first | exact Mh _ | apply Mt))) (by omega) (by omega)).mono fun e w' h => KAg (Old.nil _) hs h) ?_)
    rintro _ _ ⟨qs, rfl, rfl, hns⟩
    refine KC 8 rfl (by kernel_rfl) (Nb rfl) (KF rfl) ?_
    refine Kp (by kernel_rfl) ?_
    refine KE (KB ?_)
    refine KA (KD rfl) (Nb rfl) ?_
    refine KA (KD rfl) (Nb rfl) ?_
    refine KX rfl rfl (KD rfl) (Nb rfl) ?_
    refine KX rfl rfl (KJ (o' := 1) Try.underlying62 rfl rfl rfl sz_25 (by decide)) (Nb rfl) ?_
    refine KAW rfl rfl (KN rfl (by repeat (first | exact Mh _ | apply Mt)) (by exact ac_ld_p _ _ _ _ _ _ _ _ _ _ _ _ _ _)) (Nb rfl) ?_
    refine LOps.stepG rfl rfl rfl (KU (Km (first := []) rfl en_52 rfl (Nb rfl) (fun w hw hs => (c_n_From V.p hpW w).mono fun e w' h => KAg (Old.nil _) hs h) ?_))
    rintro _ _ ⟨qp, rfl, rfl, hnp⟩
    refine LOps.stepG rfl rfl rfl (KU (KO (first := []) rfl en_70 rfl (Nb rfl) (fun w hw => c_n_Cmp qs qp (V.y + Y) V.p w (hw _ (by repeat (first | exact Mh _ | apply Mt))) (hw _ (by repeat (first | exact Mh _ | apply Mt))) (by have := nw_add_le V.y Y; omega)) ?_))
    refine KX rfl rfl (KH rfl rfl cmp_eql) (Nb rfl) ?_
    refine KA (Kh rfl rfl) (Nb rfl) ?_
    refine KA (KF rfl) (Nb rfl) ?_
    refine KG ?_
    refine KE ?_
    refine KE (KB ?_)
    refine KA (KD rfl) (Nb rfl) ?_
    refine KA (KP (Det.not rfl) (show _ = Value.bool false from rfl)) (Nb rfl) ?_
    refine KG ?_
    refine Ki rfl ?_
    refine Ka ?_
    refine KE (KB ?_)
    refine KA (KD rfl) (Nb rfl) ?_
    refine KK rfl (KU (KO (first := []) rfl en_46 rfl (Nb rfl) (fun w hw => c_Num _ w) ?_))
    refine KA (KH (v := .bool true) rfl rfl (br_t (KAc (b := 0)) (by first | rfl | assumption | omega | (simp; done)))) (Nb rfl) ?_
    refine KA (KD rfl) (Nb rfl) ?_
    refine KX rfl rfl (KJ (o' := 0) Try.underlying62 rfl rfl rfl sz_3 (by decide)) (Nb rfl) ?_
    refine KAW rfl rfl (KN rfl (by repeat (first | exact Mh _ | apply Mt)) (KQ Try.underlying3 rfl (by exact ac_gt_id _ _ _ _ _ _ _ _ _ _ _))) (Nb rfl) ?_
    refine KAW rfl rfl (KN rfl (by repeat (first | exact Mh _ | apply Mt)) (by exact Kd Try.underlying60 rfl sz_60)) (Nb rfl) ?_
    refine LOps.stepG rfl rfl rfl (KU (KO (first := []) rfl en_61 rfl (Nb rfl) (fun w hw => c_curveOn _ V V.x Y false w h2 hxW hY) ?_))
    refine KX rfl rfl (KD rfl) (Nb rfl) ?_
    refine KX rfl rfl (KP (Det.eqb Try.underlying4 rfl rfl) (show _ = Value.bool true by rw [hok.off_y hbx hby hne]; simp)) (Nb rfl) ?_
    refine KA (Kh rfl rfl) (Nb rfl) ?_
    refine KA (KD rfl) (Nb rfl) ?_
    refine KX rfl rfl (KJ (o' := 0) Try.underlying62 rfl rfl rfl sz_3 (by decide)) (Nb rfl) ?_
    refine KAW rfl rfl (KN rfl (by repeat (first | exact Mh _ | apply Mt)) (KQ Try.underlying3 rfl (by exact ac_gt_id _ _ _ _ _ _ _ _ _ _ _))) (Nb rfl) ?_
    refine KX rfl rfl (KJ (o' := 37) Try.underlying62 rfl rfl rfl sz_60 (by decide)) (Nb rfl) ?_
    refine KX rfl rfl (KJ (o' := 37) Try.underlying60 rfl rfl rfl sz_25 (by decide)) (Nb rfl) ?_
    refine KAW rfl rfl (KN rfl (by repeat (first | exact Mh _ | apply Mt)) (by exact ac_ld_gx _ _ _ _ _ _ _ _ _ _ _ _ _ _)) (Nb rfl) ?_
    refine KX rfl rfl (KJ (o' := 37) Try.underlying62 rfl rfl rfl sz_60 (by decide)) (Nb rfl) ?_
    refine KX rfl rfl (KJ (o' := 46) Try.underlying60 rfl rfl rfl sz_25 (by decide)) (Nb rfl) ?_
    refine KAW rfl rfl (KN rfl (by repeat (first | exact Mh _ | apply Mt)) (by exact ac_ld_gy _ _ _ _ _ _ _ _ _ _ _ _ _ _)) (Nb rfl) ?_
    refine KX rfl rfl (KP (KAk pl_60 zr_60 rfl (fill_ptI _ _ _)) rfl) (Nb rfl) ?_
    refine LOps.stepG rfl rfl rfl (KU (KO (first := []) rfl en_61 rfl (Nb rfl) (fun w hw => c_curveOnB _ V V.x V.y true false w h2 hxW hyW (onB_inf (hok.on_y (hok.on_G hbx hby)).1)) ?_))
    refine KX rfl rfl (KP (Det.not rfl) (show _ = Value.bool true from rfl)) (Nb rfl) ?_
    refine KA (Kh rfl rfl) (Nb rfl) ?_
    refine KA (KF rfl) (Nb rfl) ?_
    refine KG (KR ?_)
    refine ⟨[_], .cons rfl .nil, fun a w' hr => ⟨?_, hr.fr.below⟩⟩
    rfl
theorem ac_p0 (id p a b n gx gy : Nat) (inf : Bool) (bits size : Nat) (leg : Bool) : (acC id p a b n gx gy inf bits size leg)[1]? = some (.int .u64 ((limb p 0 : Nat) : Int)) := by
  rw [ac_at_p, List.getElem?_append_right (by simp), List.getElem?_append_left (by simp [KI])]
  show (natL p)[0]? = _
  exact Kw p (by decide)
theorem ac_n0 (id p a b n gx gy : Nat) (inf : Bool) (bits size : Nat) (leg : Bool) : (acC id p a b n gx gy inf bits size leg)[28]? = some (.int .u64 ((limb n 0 : Nat) : Int)) := by
  rw [ac_at_n, List.getElem?_append_right (by simp [KI]), ac_len_n id p a b n gx gy inf bits size leg, List.getElem?_append_left (by simp [KI])]
  show (natL n)[0]? = _
  exact Kw n (by decide)
theorem limb0 {x : Nat} (h : x ≤ 255) : limb x 0 = x := by
  rw [limb_small (show x < 18446744073709551616 by omega)]; rfl
theorem cvI_tiny2 (x : Int) : ∃ V, cvI ((13 + uidx x % 3 : Nat) : Int) = some V ∧ V.p ≤ 255 ∧ V.n ≤ 255 ∧ 1 ≤ V.n ∧ cntC V.p V.a V.b 256 = V.n - 1 := by
  have h : uidx x % 3 = 0 ∨ uidx x % 3 = 1 ∨ uidx x % 3 = 2 := by omega
  rcases h with h | h | h <;> rw [h]
  · exact ⟨cv13, rfl, by decide, by decide, by decide, cnt13⟩
  · exact ⟨cv14, rfl, by decide, by decide, by decide, cnt14⟩
  · exact ⟨cv15, rfl, by decide, by decide, by decide, cnt15⟩
theorem cntC_mono (p a b : Nat) : ∀ {x y : Nat}, x ≤ y → cntC p a b x ≤ cntC p a b y := fun {x y} h => by
  induction h with
  | refl => exact Nat.le_refl _
  | step _ ih => exact Nat.le_trans ih (Nat.le_add_right _ _)
theorem c_CurveTiny (which : Int) (w : World)  : Calls Try.prog 12 ([.int .i64 which] : List Value).toArray w (fun e w' => e = .returned (.bool true) ∧ Below w.heap.size w w') := by
  obtain ⟨V, h, hp255, hn255, hn1, hcnt⟩ := cvI_tiny2 which
  obtain ⟨hok, hid⟩ := cvI_ok h
  have h2 := cvI_id h
  refine KAA (N := 72) (rs := [.tmp 2]) [] Try.func12 rfl Try.ntmps12 Try.results12 (Nb rfl) trivial rfl ?_
  show LCode _ _ _ ⟨_, _⟩ _
  refine KE (KB ?_)
  refine KA (KF rfl) (Nb rfl) ?_
  refine KG ?_
  refine KE ?_
  refine KE (KB ?_)
  refine KK rfl (KU (KO (first := []) rfl en_59 rfl (Nb rfl) (fun w hw => c_awake13 w) ?_))
  refine KA (KP (Det.not rfl) (show _ = Value.bool false from rfl)) (Nb rfl) ?_
  refine KG ?_
  refine Ki rfl ?_
  refine Ka ?_
  refine KE (KB ?_)
  refine KA (KD rfl) (Nb rfl) ?_
  refine KA (KP (Det.conv Try.underlying3 Try.underlying46 rfl) (uidx_eq _)) (Nb rfl) ?_
  refine KA (KH rfl rfl (br_rem64 (b := 3) (by omega))) (Nb rfl) ?_
  refine KA (Det.convi Try.underlying46 Try.underlying3 rfl (by omega)) (Nb rfl) ?_
  refine KA (KH rfl rfl (KAF (a := 13) (by omega))) (Nb rfl) ?_
  refine KK rfl (KU (KO (first := []) rfl en_56 rfl (Nb rfl) (fun w hw => c_curveGet _ V w h) ?_))
  refine KA (KD rfl) (Nb rfl) ?_
  refine KA (Kl rfl rfl) (Nb rfl) ?_
  refine KA (Kl rfl rfl) (Nb rfl) ?_
  refine KK rfl (KU (KW (Kt zr_62) (Nb rfl) (fun b3 => ?_)))
  refine KK rfl (Ke rfl rfl sz_62 (by repeat (first | exact acL_one _ | exact acC_one _ _ _ _ _ _ _ _ _ _ _ | exact sgL_one _ _ | exact KAC _ | exact KAY _ _ _ | exact KAN _ | exact KAL _ _ _ | exact KAe _ _ _ | exact Kg | refine Kc rfl ?_ | refine Kq ?_ ?_)) (by repeat (first | exact Sh _ | apply St_)) (by first | exact acL_length _ | exact acC_length _ _ _ _ _ _ _ _ _ _ _ | exact sgL_length _ _ | exact KI _ | exact KM _ _ _ | exact KL _ | exact KS _ _ _ | exact Kn _ _ _ | rfl | simp [KM, KI, KL]) ?_)
  refine KA (KF rfl) (Nb rfl) ?_
  refine KG ?_
  refine KE ?_
  refine KE (KB ?_)
  refine KA (KD rfl) (Nb rfl) ?_
  refine KK rfl (KU (KO (first := []) rfl en_46 rfl (Nb rfl) (fun w hw => c_Num _ w) ?_))
  refine KA (KH (v := .bool false) rfl rfl (br_f (br_neq (b := 0)) (by first | exact (fun e => e rfl) | (simp; done) | omega))) (Nb rfl) ?_
  refine KA (KD rfl) (Nb rfl) ?_
  refine KX rfl rfl (KJ (o' := 1) Try.underlying62 rfl rfl rfl sz_25 (by decide)) (Nb rfl) ?_
  refine KX rfl rfl (KJ (o' := 1) Try.underlying25 rfl rfl rfl sz_23 (by decide)) (Nb rfl) ?_
  refine KX rfl rfl (Det.indexA (i := 0) Try.underlying23 sz_22 rfl rfl (by decide)) (Nb rfl) ?_
  refine KAW rfl rfl (KN rfl (by repeat (first | exact Mh _ | apply Mt)) (KQ Try.underlying22 rfl (by exact ac_p0 _ _ _ _ _ _ _ _ _ _ _))) (Nb rfl) ?_
  refine KX rfl rfl (KH (v := .bool false) rfl rfl (br_f (br_gtr (b := 255)) (by rw [limb0 hp255]; omega))) (Nb rfl) ?_
  refine KA (Ks rfl rfl) (Nb rfl) ?_
  refine KG ?_
  refine Ki rfl ?_
  refine Ka ?_
  refine KE (KB ?_)
  refine KA (KF (v := .int .u64 ((0 : Nat) : Int)) rfl) (Nb rfl) ?_
  refine KG ?_
  refine KE ?_
  refine KE (KB ?_)
  refine KA (KF (v := .int .u64 ((0 : Nat) : Int)) rfl) (Nb rfl) ?_
  refine KG ?_
  refine LCode.block ?_
  refine KAG (α := Nat × Nat) (fun x => x.1 ≤ 256 ∧ x.2 = cntC V.p V.a V.b x.1) (fun x => ⟨[(3, .pointer (some ⟨b3, 0, none⟩)), (4, .int .i64 ((0 : Nat) : Int)), (5, .int .u64 ((x.2 : Nat) : Int)), (6, .int .u64 ((x.1 : Nat) : Int))], [.blk b3 ⟨true, acL V, 62, (0, 0)⟩]⟩) (fun x => 256 - x.1) ((0, 0)) (⟨by decide, rfl⟩) (KAE ⟨rfl, rfl, rfl, rfl, trivial⟩ (by repeat (first | exact Sel.nil _ | refine Sel.cons (by repeat (first | exact Ph _ | apply Pt_)) ?_))) ?_
  rintro x ⟨hx1, hx2⟩
  refine KE ?_
  refine KE (KB ?_)
  refine KA (KD rfl) (Nb rfl) ?_
  refine KA (KH rfl rfl (br_lss (b := 256))) (Nb rfl) ?_
  refine KG ?_
  first | refine KT rfl (fun h30 => ?_) (fun h30 => ?_) | refine KY rfl (fun h30 => ?_) (fun h30 => ?_)
  ·
    have h30 : x.1 < 256 := h30
    have hmono := cntC_mono V.p V.a V.b (show x.1 + 1 ≤ 256 by omega)
    have hun : cntC V.p V.a V.b (x.1 + 1) = cntC V.p V.a V.b x.1 + rowC V.p V.a V.b x.1 256 := rfl
    refine Ka ?_
    refine KE ?_
    refine LCode.block ?_
    refine KE (KB ?_)
    refine KA (KF (v := .int .u64 ((0 : Nat) : Int)) rfl) (Nb rfl) ?_
    refine KG ?_
    refine LCode.block ?_
    refine KAG (α := Nat × Nat) (fun z => z.1 ≤ 256 ∧ z.2 = cntC V.p V.a V.b x.1 + rowC V.p V.a V.b x.1 z.1) (fun z => ⟨[(3, .pointer (some ⟨b3, 0, none⟩)), (4, .int .i64 ((0 : Nat) : Int)), (5, .int .u64 ((z.2 : Nat) : Int)), (6, .int .u64 ((x.1 : Nat) : Int)), (7, .int .u64 ((z.1 : Nat) : Int))], [.blk b3 ⟨true, acL V, 62, (0, 0)⟩]⟩) (fun z => 256 - z.1) ((0, x.2)) (⟨Nat.zero_le _, by dsimp only; rw [hx2]; rfl⟩) (KAE ⟨rfl, rfl, rfl, rfl, rfl, trivial⟩ (by repeat (first | exact Sel.nil _ | refine Sel.cons (by repeat (first | exact Ph _ | apply Pt_)) ?_))) ?_
    rintro z ⟨hz1, hz2⟩
    have hcl := cntC_le V.p V.a V.b x.1
    refine KE ?_
    refine KE (KB ?_)
    refine KA (KD rfl) (Nb rfl) ?_
    refine KA (KH rfl rfl (br_lss (b := 256))) (Nb rfl) ?_
    refine KG ?_
    first | refine KT rfl (fun h34 => ?_) (fun h34 => ?_) | refine KY rfl (fun h34 => ?_) (fun h34 => ?_)
    ·
      have h34 : z.1 < 256 := h34
      have hrl := rowC_le V.p V.a V.b x.1 z.1
      have hun2 : rowC V.p V.a V.b x.1 (z.1 + 1) = if onB V.p V.a V.b x.1 z.1 false = true then rowC V.p V.a V.b x.1 z.1 + 1 else rowC V.p V.a V.b x.1 z.1 := rfl
      refine Ka ?_
      refine KE ?_
      refine LCode.block ?_
      refine KE ?_
      refine Kb [] (by kernel_rfl) ?_
      refine KC 0 rfl (by kernel_rfl) (Nb rfl) (KJ (o' := 0) Try.underlying62 rfl rfl rfl sz_3 (by decide)) ?_
      refine LAny.take 1 rfl (by kernel_rfl) (Nb rfl) (KN rfl (by repeat (first | exact Mh _ | apply Mt)) (KQ Try.underlying3 rfl (by exact ac_gt_id _ _ _ _ _ _ _ _ _ _ _))) ?_
      refine KC 2 rfl (by kernel_rfl) (Nb rfl) (KD rfl) ?_
      refine KC 4 rfl (by kernel_rfl) (Nb rfl) (KD rfl) ?_
      refine Kz 3 rfl rfl (by kernel_rfl) (KO (first := []) rfl en_55 rfl (Nb rfl) (fun w hw => c_One x.1 w (by omega)) ?_)
      refine Kz 5 rfl rfl (by kernel_rfl) (KO (first := []) rfl en_55 rfl (Nb rfl) (fun w hw => c_One z.1 w (by omega)) ?_)
      refine KC 6 rfl (by kernel_rfl) (Nb rfl) (KP (KAk pl_60 zr_60 rfl (fill_pt _ _)) rfl) ?_
      refine Kz 7 rfl rfl (by kernel_rfl) (KO (first := []) rfl en_61 rfl (Nb rfl) (fun w hw => c_curveOn _ V x.1 z.1 false w h2 (u64_w9 (by omega)) (u64_w9 (by omega))) ?_)
      refine Kp (by kernel_rfl) ?_
      first | refine KT rfl (fun h44 => ?_) (fun h44 => ?_) | refine KY rfl (fun h44 => ?_) (fun h44 => ?_)
      ·
        have h44 : onB V.p V.a V.b x.1 z.1 false = true := h44
        have hon := hok.on_y h44
        rw [if_pos h44] at hun2
        refine KE (KB ?_)
        refine KA (KD rfl) (Nb rfl) ?_
        refine KA (KP (KH rfl rfl (KAS (b := 1))) (vi (b := z.2 + 1) (by omega))) (Nb rfl) ?_
        refine KA (KF rfl) (Nb rfl) ?_
        refine KG ?_
        refine KE (KB ?_)
        refine KA (KD rfl) (Nb rfl) ?_
        refine KA (KJ (o' := 1) Try.underlying62 rfl rfl rfl sz_25 (by decide)) (Nb rfl) ?_
        refine KA (KJ (o' := 1) Try.underlying25 rfl rfl rfl sz_23 (by decide)) (Nb rfl) ?_
        refine KA (Det.indexA (i := 0) Try.underlying23 sz_22 rfl rfl (by decide)) (Nb rfl) ?_
        refine LOps.det (KN rfl (by repeat (first | exact Mh _ | apply Mt)) (KQ Try.underlying22 rfl (by exact ac_p0 _ _ _ _ _ _ _ _ _ _ _))) (Nb rfl) ?_
        refine KA (KH (v := .bool false) rfl rfl (br_f br_geq (by rw [limb0 hp255]; omega))) (Nb rfl) ?_
        refine KA (KD rfl) (Nb rfl) ?_
        refine KX rfl rfl (KD rfl) (Nb rfl) ?_
        refine KX rfl rfl (KJ (o' := 1) Try.underlying62 rfl rfl rfl sz_25 (by decide)) (Nb rfl) ?_
        refine KX rfl rfl (KJ (o' := 1) Try.underlying25 rfl rfl rfl sz_23 (by decide)) (Nb rfl) ?_
        refine KX rfl rfl (Det.indexA (i := 0) Try.underlying23 sz_22 rfl rfl (by decide)) (Nb rfl) ?_
        refine KAW rfl rfl (KN rfl (by repeat (first | exact Mh _ | apply Mt)) (KQ Try.underlying22 rfl (by exact ac_p0 _ _ _ _ _ _ _ _ _ _ _))) (Nb rfl) ?_
        refine KX rfl rfl (KH (v := .bool false) rfl rfl (br_f br_geq (by rw [limb0 hp255]; omega))) (Nb rfl) ?_
        refine KA (Ks rfl rfl) (Nb rfl) ?_
        refine KA (KD rfl) (Nb rfl) ?_
        refine KX rfl rfl (KD rfl) (Nb rfl) ?_
        refine KX rfl rfl (KH (v := .bool false) rfl rfl (br_f (KAc (b := 0)) (hon.1))) (Nb rfl) ?_
        refine KA (Ks rfl rfl) (Nb rfl) ?_
        refine KG ?_
        refine Ki rfl ?_
        refine Ka ?_
        refine KB ?_
        refine KA (KD rfl) (Nb rfl) ?_
        refine KA (KP (KH rfl rfl (KAS (b := 1))) (vi (b := z.1 + 1) (by omega))) (Nb rfl) ?_
        refine KA (KF rfl) (Nb rfl) ?_
        refine KG ?_
        exact ⟨(z.1 + 1, z.2 + 1), ⟨by dsimp only; omega, by dsimp only; omega⟩, by dsimp only; omega, KAE ⟨rfl, rfl, rfl, rfl, rfl, trivial⟩ (by repeat (first | exact Sel.nil _ | refine Sel.cons (by repeat (first | exact Ph _ | apply Pt_)) ?_))⟩
      ·
        have h44 : onB V.p V.a V.b x.1 z.1 false = false := h44
        rw [if_neg (by rw [h44]; decide)] at hun2
        refine Ka ?_
        refine KB ?_
        refine KA (KD rfl) (Nb rfl) ?_
        refine KA (KP (KH rfl rfl (KAS (b := 1))) (vi (b := z.1 + 1) (by omega))) (Nb rfl) ?_
        refine KA (KF rfl) (Nb rfl) ?_
        refine KG ?_
        exact ⟨(z.1 + 1, z.2), ⟨by dsimp only; omega, by dsimp only; omega⟩, by dsimp only; omega, KAE ⟨rfl, rfl, rfl, rfl, rfl, trivial⟩ (by repeat (first | exact Sel.nil _ | refine Sel.cons (by repeat (first | exact Ph _ | apply Pt_)) ?_))⟩
    ·
      have h34 : ¬ z.1 < 256 := h34
      refine KAB ?_
      refine KB ?_
      refine KA (KD rfl) (Nb rfl) ?_
      refine KA (KP (KH rfl rfl (KAS (b := 1))) (vi (b := x.1 + 1) (by omega))) (Nb rfl) ?_
      refine KA (KF rfl) (Nb rfl) ?_
      refine KG ?_
      exact ⟨(x.1 + 1, z.2), ⟨by dsimp only; omega, by dsimp only; rw [hz2, hun, show z.1 = 256 by omega]⟩, by dsimp only; omega, KAE ⟨rfl, rfl, rfl, rfl, trivial⟩ (by repeat (first | exact Sel.nil _ | refine Sel.cons (by repeat (first | exact Ph _ | apply Pt_)) ?_))⟩
  ·
    have h30 : ¬ x.1 < 256 := h30
    refine KAB ?_
    refine KE ?_
    have hx256 : x.1 = 256 := by omega
    rw [hx256, hcnt] at hx2
    refine KB ?_
    refine KA (KD rfl) (Nb rfl) ?_
    refine KA (KJ (o' := 28) Try.underlying62 rfl rfl rfl sz_25 (by decide)) (Nb rfl) ?_
    refine KA (KJ (o' := 28) Try.underlying25 rfl rfl rfl sz_23 (by decide)) (Nb rfl) ?_
    refine KA (Det.indexA (i := 0) Try.underlying23 sz_22 rfl rfl (by decide)) (Nb rfl) ?_
    refine LOps.det (KN rfl (by repeat (first | exact Mh _ | apply Mt)) (KQ Try.underlying22 rfl (by exact ac_n0 _ _ _ _ _ _ _ _ _ _ _))) (Nb rfl) ?_
    refine KA (KP (KH rfl rfl (br_sub64 (b := 1) (by decide))) (vi (b := V.n - 1) (by rw [limb0 hn255]; omega))) (Nb rfl) ?_
    refine KA (KH (v := .bool true) rfl rfl (br_t KAc (by omega))) (Nb rfl) ?_
    refine KA (KF rfl) (Nb rfl) ?_
    refine KG (KR ?_)
    refine ⟨[_], .cons rfl .nil, fun a w' hr => ⟨?_, hr.fr.below⟩⟩
    rfl
end Go.Proofs.Ytljblbgogjieaaa
set_option linter.unusedVariables false
set_option linter.unusedSimpArgs false
set_option maxRecDepth 20000
namespace Go.Proofs.Ytljblbgogjieaaa
open Go Go.RowKit
open Grp
def ivec (n : Nat) (g : Nat → Int) : List Value := (List.range n).map fun j => Value.int .i64 (g j)
theorem ivec_length (n : Nat) (g : Nat → Int) : (ivec n g).length = n := by simp [ivec]
theorem ivec_get {n i : Nat} (g : Nat → Int) (rest : List Value) (h : i < n) : (ivec n g ++ rest)[i]? = some (.int .i64 (g i)) := by
  rw [List.getElem?_append_left (by rw [ivec_length]; exact h)]
  simp [ivec, List.getElem?_range h]
theorem ivec_set {n i : Nat} (g : Nat → Int) (rest : List Value) (v : Int) (h : i < n) : (ivec n g ++ rest).set i (.int .i64 v) = ivec n (fun j => if j = i then v else g j) ++ rest := by
  rw [List.set_append_left _ _ (by rw [ivec_length]; exact h)]
  congr 1
  apply List.ext_getElem?
  intro j
  simp only [ivec, List.getElem?_set, List.getElem?_map, List.length_map, List.length_range]
  by_cases hj : j < n
  · rw [List.getElem?_range hj]
    by_cases e : i = j
    · subst e; simp [hj]
    · simp [e, Ne.symm e]
  · rw [List.getElem?_eq_none (by simp; omega)]
    simp; omega
theorem c_SpoilInts (b n c : Nat) (g : Nat → Int) (rest : List Value) (hn : n < 1000000) (w : World) (hb : (Item.blk b ⟨true, ivec n g ++ rest, 3, (0, 0)⟩).holds w) : Calls Try.prog 58 ([.slice (some ⟨b, 0, none⟩) n c] : List Value).toArray w (fun e' w' => ∃ v cs', (v = resOf [] ∧ ∃ g', cs' = ivec n g' ++ rest) ∧ e' = .returned v ∧ (Item.blk b ⟨true, cs', 3, (0, 0)⟩).holds w' ∧ Fr (fun k => k = b) w w') := by
  refine calls_w1 (N := 17) (rs := []) b (ivec n g ++ rest) 3 (0, 0) [] Try.func58 rfl Try.ntmps58 Try.results58 (Nb rfl) hb trivial rfl (by intro x hx; cases hx) ?_
  show LCode _ _ _ ⟨_, _⟩ _
  refine KE (KB ?_)
  refine KA (KF (v := .int .i64 ((0 : Nat) : Int)) rfl) (Nb rfl) ?_
  refine KG ?_
  refine LCode.block ?_
  refine KAG (α := Nat × (Nat → Int)) (fun x => x.1 ≤ n) (fun x => ⟨[(0, .slice (some ⟨b, 0, none⟩) n c), (2, .int .i64 ((x.1 : Nat) : Int))], [.blk b ⟨true, ivec n x.2 ++ rest, 3, (0, 0)⟩]⟩) (fun x => n - x.1) ((0, g)) (Nat.zero_le _) (KAE ⟨rfl, rfl, trivial⟩ (by repeat (first | exact Sel.nil _ | refine Sel.cons (by repeat (first | exact Ph _ | apply Pt_)) ?_))) ?_
  intro x hx
  refine KE ?_
  refine KE (KB ?_)
  refine KA (KD rfl) (Nb rfl) ?_
  refine KA (KD rfl) (Nb rfl) ?_
  refine KA (KAQ Try.underlying65 rfl) (Nb rfl) ?_
  refine KA (KH rfl rfl (br_lss)) (Nb rfl) ?_
  refine KG ?_
  first | refine KT rfl (fun h6 => ?_) (fun h6 => ?_) | refine KY rfl (fun h6 => ?_) (fun h6 => ?_)
  ·
    have h6 : x.1 < n := h6
    refine Ka ?_
    refine KE ?_
    refine LCode.block ?_
    refine KB ?_
    refine KA (KD rfl) (Nb rfl) ?_
    refine KA (KD rfl) (Nb rfl) ?_
    refine KA (KD rfl) (Nb rfl) ?_
    refine KA (KD rfl) (Nb rfl) ?_
    refine KA (Ko Try.underlying65 sz_3 rfl rfl (by omega)) (Nb rfl) ?_
    refine LOps.det (KN rfl (by repeat (first | exact Mh _ | apply Mt)) (KQ Try.underlying3 rfl (by exact ivec_get _ _ h6))) (Nb rfl) ?_
    refine KA (KH rfl rfl rfl) (Nb rfl) ?_
    refine KA (Ko Try.underlying65 sz_3 rfl rfl (by omega)) (Nb rfl) ?_
    refine KK rfl (Kr rfl rfl rfl sz_3 (by repeat (first | exact Sh _ | apply St_)) (by rw [List.length_append, ivec_length]; omega) (by exact ivec_set _ _ _ h6) (by simp) ?_)
    refine KG ?_
    refine KB ?_
    refine KA (KD rfl) (Nb rfl) ?_
    refine KA (KH rfl rfl (KAF (b := 1) (by omega))) (Nb rfl) ?_
    refine KA (KF rfl) (Nb rfl) ?_
    refine KG ?_
    exact ⟨(x.1 + 1, _), by dsimp only; omega, by dsimp only; omega, KAE ⟨rfl, rfl, trivial⟩ (by repeat (first | exact Sel.nil _ | refine Sel.cons (by repeat (first | exact Ph _ | apply Pt_)) ?_))⟩
  ·
    have h6 : ¬ x.1 < n := h6
    refine KAB ?_
    refine ⟨[], .nil, fun a w' hr => ⟨_, _, ⟨rfl, x.2, rfl⟩, rfl, hr.hp _ (by repeat (first | exact Mh _ | apply Mt)), hr.fr⟩⟩
theorem c_SpoilVec (b c : Nat) (rest : List Value) (w : World) (hb : (Item.blk b ⟨true, vec .i64 15 (fun i => i + 1) ++ rest, 3, (0, 0)⟩).holds w) : Calls Try.prog 58 ([.slice (some ⟨b, 0, none⟩) 15 c] : List Value).toArray w (fun e' w' => ∃ v cs', (v = resOf []) ∧ e' = .returned v ∧ (Item.blk b ⟨true, cs', 3, (0, 0)⟩).holds w' ∧ Fr (fun k => k = b) w w') :=
  (c_SpoilInts b 15 c _ rest (by decide) w hb).mono fun e' w' ⟨v, cs', h1, h2⟩ => ⟨v, cs', h1.1, h2⟩
theorem c_Curves_none (id : Int) (w : World) (h : cvI id = none) : Calls Try.prog 7 ([.int .i64 id] : List Value).toArray w (fun e w' => e = .returned (.bool true) ∧ Below w.heap.size w w') := by
  refine KAA (N := 70) (rs := [.tmp 2]) [] Try.func7 rfl Try.ntmps7 Try.results7 (Nb rfl) trivial rfl ?_
  show LCode _ _ _ ⟨_, _⟩ _
  refine KE (KB ?_)
  refine KA (KF rfl) (Nb rfl) ?_
  refine KG ?_
  refine KE (KB ?_)
  refine KA (KD rfl) (Nb rfl) ?_
  refine KK rfl (KU (KO (first := []) rfl en_56 rfl (Nb rfl) (fun w hw => c_curveGet_none id w h) ?_))
  refine KA (KD rfl) (Nb rfl) ?_
  refine KA (Kl rfl rfl) (Nb rfl) ?_
  refine KA (Kl rfl rfl) (Nb rfl) ?_
  refine KK rfl (KU (KW (Kt zr_62) (Nb rfl) (fun b3 => ?_)))
  refine KK rfl (Ke rfl rfl sz_62 (by repeat (first | exact acL_one _ | exact acC_one _ _ _ _ _ _ _ _ _ _ _ | exact sgL_one _ _ | exact KAC _ | exact KAY _ _ _ | exact KAN _ | exact KAL _ _ _ | exact KAe _ _ _ | exact Kg | refine Kc rfl ?_ | refine Kq ?_ ?_)) (by repeat (first | exact Sh _ | apply St_)) (by first | exact acL_length _ | exact acC_length _ _ _ _ _ _ _ _ _ _ _ | exact sgL_length _ _ | exact KI _ | exact KM _ _ _ | exact KL _ | exact KS _ _ _ | exact Kn _ _ _ | rfl | simp [KM, KI, KL]) ?_)
  refine KA (KF rfl) (Nb rfl) ?_
  refine KG ?_
  refine KE (KB ?_)
  refine KA (KD rfl) (Nb rfl) ?_
  refine KK rfl (KU (KO (first := []) rfl en_43 rfl (Nb rfl) (fun w hw => c_r_Get_none _ w h) ?_))
  refine KA (KD rfl) (Nb rfl) ?_
  refine KA (Kl rfl rfl) (Nb rfl) ?_
  refine KA (Kl rfl rfl) (Nb rfl) ?_
  refine KK rfl (KU (KW (Kt zr_31) (Nb rfl) (fun b5 => ?_)))
  refine KK rfl (Ke rfl rfl sz_31 (by repeat (first | exact acL_one _ | exact acC_one _ _ _ _ _ _ _ _ _ _ _ | exact sgL_one _ _ | exact KAC _ | exact KAY _ _ _ | exact KAN _ | exact KAL _ _ _ | exact KAe _ _ _ | exact Kg | refine Kc rfl ?_ | refine Kq ?_ ?_)) (by repeat (first | exact Sh _ | apply St_)) (by first | exact acL_length _ | exact acC_length _ _ _ _ _ _ _ _ _ _ _ | exact sgL_length _ _ | exact KI _ | exact KM _ _ _ | exact KL _ | exact KS _ _ _ | exact Kn _ _ _ | rfl | simp [KM, KI, KL]) ?_)
  refine KA (KF rfl) (Nb rfl) ?_
  refine KG ?_
  refine KE (KB ?_)
  refine KK rfl (KU (Km (Post := fun v its => ∃ b cap rest, v = .slice (some ⟨b, 0, none⟩) 15 cap ∧ its = [.blk b ⟨true, vec .i64 15 (fun i => i + 1) ++ rest, 3, (0, 0)⟩] ∧ 15 + rest.length = cap) (first := []) rfl en_57 rfl (Nb rfl) (fun w1 hw hs => (c_Ids w1).mono fun e w' ⟨b, cap, rest, h1, h2, h3, h4, h5⟩ => ⟨_, _, ⟨b, cap, rest, rfl, rfl, h2⟩, h1, Brings.own h5 h3 h4⟩) ?_))
  rintro _ _ ⟨bi, capi, resti, rfl, rfl, hci⟩
  refine KA (KF rfl) (Nb rfl) ?_
  refine KG ?_
  refine KE ?_
  refine KE (KB ?_)
  refine KA (KD rfl) (Nb rfl) ?_
  refine KA (KAQ Try.underlying65 rfl) (Nb rfl) ?_
  refine KA (KH (v := .bool false) rfl rfl (br_f (br_neq (b := 15)) (by first | exact (fun e => e rfl) | (simp; done) | omega))) (Nb rfl) ?_
  refine KG ?_
  refine Ki rfl ?_
  refine Ka ?_
  refine KE ?_
  refine KE (KB ?_)
  refine KA (KF (v := .int .i64 ((0 : Nat) : Int)) rfl) (Nb rfl) ?_
  refine KG ?_
  refine LCode.block ?_
  refine KAG (α := Nat) (fun x => x ≤ 15) (fun x => ⟨[(3, .pointer (some ⟨b3, 0, none⟩)), (4, .int .i64 ((1300 : Nat) : Int)), (5, .pointer (some ⟨b5, 0, none⟩)), (6, .bool false), (7, .slice (some ⟨bi, 0, none⟩) 15 capi), (8, .int .i64 ((x : Nat) : Int))], [.blk bi ⟨true, vec .i64 15 (fun i => i + 1) ++ resti, 3, (0, 0)⟩, .blk b5 ⟨true, crvZ, 31, (0, 0)⟩, .blk b3 ⟨true, acC 0 0 0 0 0 0 0 false 0 0 false, 62, (0, 0)⟩]⟩) (fun x => 15 - x) (0) (Nat.zero_le _) (KAE ⟨rfl, rfl, rfl, rfl, rfl, rfl, trivial⟩ (by repeat (first | exact Sel.nil _ | refine Sel.cons (by repeat (first | exact Ph _ | apply Pt_)) ?_))) ?_
  intro x hx
  refine KE ?_
  refine KE (KB ?_)
  refine KA (KD rfl) (Nb rfl) ?_
  refine KA (KH rfl rfl (br_lss (b := 15))) (Nb rfl) ?_
  refine KG ?_
  first | refine KT rfl (fun h24 => ?_) (fun h24 => ?_) | refine KY rfl (fun h24 => ?_) (fun h24 => ?_)
  ·
    have h24 : x < 15 := h24
    refine Ka ?_
    refine KE ?_
    refine LCode.block ?_
    refine KE (KB ?_)
    refine KA (KD rfl) (Nb rfl) ?_
    refine KA (KD rfl) (Nb rfl) ?_
    refine KA (Ko Try.underlying65 sz_3 rfl rfl (by omega)) (Nb rfl) ?_
    refine LOps.det (KN rfl (by repeat (first | exact Mh _ | apply Mt)) (KQ Try.underlying3 rfl (by exact ivec_get _ _ h24))) (Nb rfl) ?_
    refine KA (KD rfl) (Nb rfl) ?_
    refine KA (KH rfl rfl (KAF (b := 1) (by omega))) (Nb rfl) ?_
    refine KA (KH (v := .bool false) rfl rfl (br_f br_neq (by first | exact (fun e => e rfl) | (simp; done) | omega))) (Nb rfl) ?_
    refine KG ?_
    refine Ki rfl ?_
    refine Ka ?_
    refine KB ?_
    refine KA (KD rfl) (Nb rfl) ?_
    refine KA (KH rfl rfl (KAF (b := 1) (by omega))) (Nb rfl) ?_
    refine KA (KF rfl) (Nb rfl) ?_
    refine KG ?_
    exact ⟨x + 1, by omega, by omega, KAE ⟨rfl, rfl, rfl, rfl, rfl, rfl, trivial⟩ (by repeat (first | exact Sel.nil _ | refine Sel.cons (by repeat (first | exact Ph _ | apply Pt_)) ?_))⟩
  ·
    have h24 : ¬ x < 15 := h24
    refine KAB ?_
    refine KE (KB ?_)
    refine KA (KD rfl) (Nb rfl) ?_
    refine KK rfl (LStepW.callWF (Post := fun v cs' => v = resOf []) (first := []) rfl en_58 rfl (Nb rfl) (fun cs' => (by repeat (first | exact Sh _ | apply St_))) (fun w hw hap => c_SpoilVec bi capi resti w (hw _ (by repeat (first | exact Mh _ | apply Mt)))) ?_)
    rintro _ cs' rfl
    refine KG ?_
    refine KE ?_
    refine KE (KB ?_)
    refine KK rfl (KU (Km (Post := fun v its => ∃ b cap rest, v = .slice (some ⟨b, 0, none⟩) 15 cap ∧ its = [.blk b ⟨true, vec .i64 15 (fun i => i + 1) ++ rest, 3, (0, 0)⟩] ∧ 15 + rest.length = cap) (first := []) rfl en_57 rfl (Nb rfl) (fun w1 hw hs => (c_Ids w1).mono fun e w' ⟨b, cap, rest, h1, h2, h3, h4, h5⟩ => ⟨_, _, ⟨b, cap, rest, rfl, rfl, h2⟩, h1, Brings.own h5 h3 h4⟩) ?_))
    rintro _ _ ⟨bj, capj, restj, rfl, rfl, hcj⟩
    refine KA (KAQ Try.underlying65 rfl) (Nb rfl) ?_
    refine KA (KH (v := .bool false) rfl rfl (br_f (br_neq (b := 15)) (by first | exact (fun e => e rfl) | (simp; done) | omega))) (Nb rfl) ?_
    refine KA (KD rfl) (Nb rfl) ?_
    refine LOps.stepG rfl rfl rfl (KU (Km (Post := fun v its => ∃ b cap rest, v = .slice (some ⟨b, 0, none⟩) 15 cap ∧ its = [.blk b ⟨true, vec .i64 15 (fun i => i + 1) ++ rest, 3, (0, 0)⟩] ∧ 15 + rest.length = cap) (first := []) rfl en_57 rfl (Nb rfl) (fun w1 hw hs => (c_Ids w1).mono fun e w' ⟨b, cap, rest, h1, h2, h3, h4, h5⟩ => ⟨_, _, ⟨b, cap, rest, rfl, rfl, h2⟩, h1, Brings.own h5 h3 h4⟩) ?_))
    rintro _ _ ⟨bk, capk, restk, rfl, rfl, hck⟩
    refine KX rfl rfl (Ko (i := 3) Try.underlying65 sz_3 rfl rfl (by decide)) (Nb rfl) ?_
    refine KAW rfl rfl (KN rfl (by repeat (first | exact Mh _ | apply Mt)) (KQ Try.underlying3 rfl (by exact ivec_get (i := 3) _ _ (by decide)))) (Nb rfl) ?_
    refine KX rfl rfl (KH (v := .bool false) rfl rfl (br_f (br_neq (b := 4)) (by first | exact (fun e => e rfl) | (simp; done) | omega))) (Nb rfl) ?_
    refine KA (Ks rfl rfl) (Nb rfl) ?_
    refine KG ?_
    refine Ki rfl ?_
    refine Ka ?_
    refine KE ?_
    refine KE (KB ?_)
    refine KA (KD rfl) (Nb rfl) ?_
    refine KA (KP (Det.not rfl) (show _ = Value.bool true from rfl)) (Nb rfl) ?_
    refine KG ?_
    refine KAD rfl ?_
    refine KE (KB ?_)
    refine KA (KD rfl) (Nb rfl) ?_
    refine KK rfl (KU (KO (first := []) rfl en_46 rfl (Nb rfl) (fun w hw => c_Num _ w) ?_))
    refine KA (KH (v := .bool true) rfl rfl (br_t (KAc (b := 1300)) (by first | rfl | assumption | omega | (simp; done)))) (Nb rfl) ?_
    refine KA (KD rfl) (Nb rfl) ?_
    refine KAW rfl rfl (KN rfl (by repeat (first | exact Mh _ | apply Mt)) (by exact Kd Try.underlying62 rfl sz_62)) (Nb rfl) ?_
    refine KX rfl rfl (KP (KAk pl_62 zr_62 rfl rfl) (show _ = Value.agg (acC 0 0 0 0 0 0 0 false 0 0 false).toArray from ac_zeroV)) (Nb rfl) ?_
    refine KX rfl rfl (KP (Det.eqa (by kernel_rfl) (fun w => eq_ac0 10000 (by decide) w) rfl rfl) (show _ = Value.bool true by rfl)) (Nb rfl) ?_
    refine KA (Kh rfl rfl) (Nb rfl) ?_
    refine KA (KD rfl) (Nb rfl) ?_
    refine LOps.stepG rfl rfl rfl (KU (KO (first := []) rfl en_59 rfl (Nb rfl) (fun w hw => c_awake13 w) ?_))
    refine KA (Kh rfl rfl) (Nb rfl) ?_
    refine KA (KF rfl) (Nb rfl) ?_
    refine KG (KR ?_)
    refine ⟨[_], .cons rfl .nil, fun a w' hr => ⟨?_, hr.fr.below⟩⟩
    rfl
theorem c_Curves_some (id : Int) (V : Cv) (w : World) (h : cvI id = some V) : Calls Try.prog 7 ([.int .i64 id] : List Value).toArray w (fun e w' => e = .returned (.bool true) ∧ Below w.heap.size w w') := by
  obtain ⟨hok, hid⟩ := cvI_ok h
  refine KAA (N := 70) (rs := [.tmp 2]) [] Try.func7 rfl Try.ntmps7 Try.results7 (Nb rfl) trivial rfl ?_
  show LCode _ _ _ ⟨_, _⟩ _
  refine KE (KB ?_)
  refine KA (KF rfl) (Nb rfl) ?_
  refine KG ?_
  refine KE (KB ?_)
  refine KA (KD rfl) (Nb rfl) ?_
  refine KK rfl (KU (KO (first := []) rfl en_56 rfl (Nb rfl) (fun w hw => c_curveGet id V w h) ?_))
  refine KA (KD rfl) (Nb rfl) ?_
  refine KA (Kl rfl rfl) (Nb rfl) ?_
  refine KA (Kl rfl rfl) (Nb rfl) ?_
  refine KK rfl (KU (KW (Kt zr_62) (Nb rfl) (fun b3 => ?_)))
  refine KK rfl (Ke rfl rfl sz_62 (by repeat (first | exact acL_one _ | exact acC_one _ _ _ _ _ _ _ _ _ _ _ | exact sgL_one _ _ | exact KAC _ | exact KAY _ _ _ | exact KAN _ | exact KAL _ _ _ | exact KAe _ _ _ | exact Kg | refine Kc rfl ?_ | refine Kq ?_ ?_)) (by repeat (first | exact Sh _ | apply St_)) (by first | exact acL_length _ | exact acC_length _ _ _ _ _ _ _ _ _ _ _ | exact sgL_length _ _ | exact KI _ | exact KM _ _ _ | exact KL _ | exact KS _ _ _ | exact Kn _ _ _ | rfl | simp [KM, KI, KL]) ?_)
  refine KA (KF rfl) (Nb rfl) ?_
  refine KG ?_
  refine KE (KB ?_)
  refine KA (KD rfl) (Nb rfl) ?_
  refine KK rfl (KU (Km (Post := fun v its => ∃ Q, v = .tuple #[.agg (crvL Q V).toArray, .bool true] ∧ its = [crvI Q V]) (first := []) rfl en_43 rfl (Nb rfl) (fun w1 hw hs => (c_r_Get _ V w1 h).mono fun e w' ⟨Q, h1, h2, h3, h4⟩ => ⟨_, _, ⟨Q, rfl, rfl⟩, h1, Brings.nums h4 (by intro x hx; simp at hx; subst hx; exact h2) (by intro x hx; simp at hx; subst hx; rfl) (by intro x hx k hk; simp at hx; subst hx; exact .inl (h3 k hk))⟩) ?_))
  rintro _ _ ⟨Q, rfl, rfl⟩
  refine KA (KD rfl) (Nb rfl) ?_
  refine KA (Kl rfl rfl) (Nb rfl) ?_
  refine KA (Kl rfl rfl) (Nb rfl) ?_
  refine KK rfl (KU (KW (Kt zr_31) (Nb rfl) (fun b5 => ?_)))
  refine KK rfl (Ke rfl rfl sz_31 (by repeat (first | exact acL_one _ | exact acC_one _ _ _ _ _ _ _ _ _ _ _ | exact sgL_one _ _ | exact KAC _ | exact KAY _ _ _ | exact KAN _ | exact KAL _ _ _ | exact KAe _ _ _ | exact Kg | refine Kc rfl ?_ | refine Kq ?_ ?_)) (by repeat (first | exact Sh _ | apply St_)) (by first | exact acL_length _ | exact acC_length _ _ _ _ _ _ _ _ _ _ _ | exact sgL_length _ _ | exact KI _ | exact KM _ _ _ | exact KL _ | exact KS _ _ _ | exact Kn _ _ _ | rfl | simp [KM, KI, KL]) ?_)
  refine KA (KF rfl) (Nb rfl) ?_
  refine KG ?_
  refine KE (KB ?_)
  refine KK rfl (KU (Km (Post := fun v its => ∃ b cap rest, v = .slice (some ⟨b, 0, none⟩) 15 cap ∧ its = [.blk b ⟨true, vec .i64 15 (fun i => i + 1) ++ rest, 3, (0, 0)⟩] ∧ 15 + rest.length = cap) (first := []) rfl en_57 rfl (Nb rfl) (fun w1 hw hs => (c_Ids w1).mono fun e w' ⟨b, cap, rest, h1, h2, h3, h4, h5⟩ => ⟨_, _, ⟨b, cap, rest, rfl, rfl, h2⟩, h1, Brings.own h5 h3 h4⟩) ?_))
  rintro _ _ ⟨bi, capi, resti, rfl, rfl, hci⟩
  refine KA (KF rfl) (Nb rfl) ?_
  refine KG ?_
  refine KE ?_
  refine KE (KB ?_)
  refine KA (KD rfl) (Nb rfl) ?_
  refine KA (KAQ Try.underlying65 rfl) (Nb rfl) ?_
  refine KA (KH (v := .bool false) rfl rfl (br_f (br_neq (b := 15)) (by first | exact (fun e => e rfl) | (simp; done) | omega))) (Nb rfl) ?_
  refine KG ?_
  refine Ki rfl ?_
  refine Ka ?_
  refine KE ?_
  refine KE (KB ?_)
  refine KA (KF (v := .int .i64 ((0 : Nat) : Int)) rfl) (Nb rfl) ?_
  refine KG ?_
  refine LCode.block ?_
  refine KAG (α := Nat) (fun x => x ≤ 15) (fun x => ⟨[(3, .pointer (some ⟨b3, 0, none⟩)), (4, .int .i64 ((0 : Nat) : Int)), (5, .pointer (some ⟨b5, 0, none⟩)), (6, .bool true), (7, .slice (some ⟨bi, 0, none⟩) 15 capi), (8, .int .i64 ((x : Nat) : Int))], [.blk bi ⟨true, vec .i64 15 (fun i => i + 1) ++ resti, 3, (0, 0)⟩, .blk b5 ⟨true, crvL Q V, 31, (0, 0)⟩, .blk b3 ⟨true, acL V, 62, (0, 0)⟩, crvI Q V]⟩) (fun x => 15 - x) (0) (Nat.zero_le _) (KAE ⟨rfl, rfl, rfl, rfl, rfl, rfl, trivial⟩ (by repeat (first | exact Sel.nil _ | refine Sel.cons (by repeat (first | exact Ph _ | apply Pt_)) ?_))) ?_
  intro x hx
  refine KE ?_
  refine KE (KB ?_)
  refine KA (KD rfl) (Nb rfl) ?_
  refine KA (KH rfl rfl (br_lss (b := 15))) (Nb rfl) ?_
  refine KG ?_
  first | refine KT rfl (fun h24 => ?_) (fun h24 => ?_) | refine KY rfl (fun h24 => ?_) (fun h24 => ?_)
  ·
    have h24 : x < 15 := h24
    refine Ka ?_
    refine KE ?_
    refine LCode.block ?_
    refine KE (KB ?_)
    refine KA (KD rfl) (Nb rfl) ?_
    refine KA (KD rfl) (Nb rfl) ?_
    refine KA (Ko Try.underlying65 sz_3 rfl rfl (by omega)) (Nb rfl) ?_
    refine LOps.det (KN rfl (by repeat (first | exact Mh _ | apply Mt)) (KQ Try.underlying3 rfl (by exact ivec_get _ _ h24))) (Nb rfl) ?_
    refine KA (KD rfl) (Nb rfl) ?_
    refine KA (KH rfl rfl (KAF (b := 1) (by omega))) (Nb rfl) ?_
    refine KA (KH (v := .bool false) rfl rfl (br_f br_neq (by first | exact (fun e => e rfl) | (simp; done) | omega))) (Nb rfl) ?_
    refine KG ?_
    refine Ki rfl ?_
    refine Ka ?_
    refine KB ?_
    refine KA (KD rfl) (Nb rfl) ?_
    refine KA (KH rfl rfl (KAF (b := 1) (by omega))) (Nb rfl) ?_
    refine KA (KF rfl) (Nb rfl) ?_
    refine KG ?_
    exact ⟨x + 1, by omega, by omega, KAE ⟨rfl, rfl, rfl, rfl, rfl, rfl, trivial⟩ (by repeat (first | exact Sel.nil _ | refine Sel.cons (by repeat (first | exact Ph _ | apply Pt_)) ?_))⟩
  ·
    have h24 : ¬ x < 15 := h24
    refine KAB ?_
    refine KE (KB ?_)
    refine KA (KD rfl) (Nb rfl) ?_
    refine KK rfl (LStepW.callWF (Post := fun v cs' => v = resOf []) (first := []) rfl en_58 rfl (Nb rfl) (fun cs' => (by repeat (first | exact Sh _ | apply St_))) (fun w hw hap => c_SpoilVec bi capi resti w (hw _ (by repeat (first | exact Mh _ | apply Mt)))) ?_)
    rintro _ cs' rfl
    refine KG ?_
    refine KE ?_
    refine KE (KB ?_)
    refine KK rfl (KU (Km (Post := fun v its => ∃ b cap rest, v = .slice (some ⟨b, 0, none⟩) 15 cap ∧ its = [.blk b ⟨true, vec .i64 15 (fun i => i + 1) ++ rest, 3, (0, 0)⟩] ∧ 15 + rest.length = cap) (first := []) rfl en_57 rfl (Nb rfl) (fun w1 hw hs => (c_Ids w1).mono fun e w' ⟨b, cap, rest, h1, h2, h3, h4, h5⟩ => ⟨_, _, ⟨b, cap, rest, rfl, rfl, h2⟩, h1, Brings.own h5 h3 h4⟩) ?_))
    rintro _ _ ⟨bj, capj, restj, rfl, rfl, hcj⟩
    refine KA (KAQ Try.underlying65 rfl) (Nb rfl) ?_
    refine KA (KH (v := .bool false) rfl rfl (br_f (br_neq (b := 15)) (by first | exact (fun e => e rfl) | (simp; done) | omega))) (Nb rfl) ?_
    refine KA (KD rfl) (Nb rfl) ?_
    refine LOps.stepG rfl rfl rfl (KU (Km (Post := fun v its => ∃ b cap rest, v = .slice (some ⟨b, 0, none⟩) 15 cap ∧ its = [.blk b ⟨true, vec .i64 15 (fun i => i + 1) ++ rest, 3, (0, 0)⟩] ∧ 15 + rest.length = cap) (first := []) rfl en_57 rfl (Nb rfl) (fun w1 hw hs => (c_Ids w1).mono fun e w' ⟨b, cap, rest, h1, h2, h3, h4, h5⟩ => ⟨_, _, ⟨b, cap, rest, rfl, rfl, h2⟩, h1, Brings.own h5 h3 h4⟩) ?_))
    rintro _ _ ⟨bk, capk, restk, rfl, rfl, hck⟩
    refine KX rfl rfl (Ko (i := 3) Try.underlying65 sz_3 rfl rfl (by decide)) (Nb rfl) ?_
    refine KAW rfl rfl (KN rfl (by repeat (first | exact Mh _ | apply Mt)) (KQ Try.underlying3 rfl (by exact ivec_get (i := 3) _ _ (by decide)))) (Nb rfl) ?_
    refine KX rfl rfl (KH (v := .bool false) rfl rfl (br_f (br_neq (b := 4)) (by first | exact (fun e => e rfl) | (simp; done) | omega))) (Nb rfl) ?_
    refine KA (Ks rfl rfl) (Nb rfl) ?_
    refine KG ?_
    refine Ki rfl ?_
    refine Ka ?_
    refine KE ?_
    refine KE (KB ?_)
    refine KA (KD rfl) (Nb rfl) ?_
    refine KA (KP (Det.not rfl) (show _ = Value.bool false from rfl)) (Nb rfl) ?_
    refine KG ?_
    refine Ki rfl ?_
    refine Ka ?_
    refine KE ?_
    refine Kb [] (by kernel_rfl) ?_
    refine KC 0 rfl (by kernel_rfl) (Nb rfl) (KD rfl) ?_
    refine Kz 1 rfl rfl (by kernel_rfl) (KO (first := []) rfl en_46 rfl (Nb rfl) (fun w hw => c_Num _ w) ?_)
    refine KC 2 rfl (by kernel_rfl) (Nb rfl) (KH (v := .bool true) rfl rfl (br_t (KAc (b := 0)) (by first | rfl | assumption | omega | (simp; done)))) ?_
    refine KC 3 rfl (by kernel_rfl) (Nb rfl) (KD rfl) ?_
    refine KAI 4 rfl rfl rfl (by kernel_rfl) (Nb rfl) (KN rfl (by repeat (first | exact Mh _ | apply Mt)) (by exact Kd Try.underlying62 rfl sz_62)) ?_
    refine KAI 5 rfl rfl rfl (by kernel_rfl) (Nb rfl) (KN rfl (by repeat (first | exact Mh _ | apply Mt)) (by exact Kd Try.underlying31 rfl sz_31)) ?_
    refine KAd 6 rfl rfl rfl rfl (by kernel_rfl) (KO (first := []) rfl en_60 rfl (Nb rfl) (fun w hw => c_r_Api Q V w (hw _ (by repeat (first | exact Mh _ | apply Mt))) hok.sz) ?_)
    refine KV 7 rfl rfl rfl (by kernel_rfl) (Nb rfl) (KP (Det.eqa (by kernel_rfl) (fun w => eq_ac hok 10000 (by decide) w) rfl rfl) (show _ = Value.bool true by rfl)) ?_
    refine KC 8 rfl (by kernel_rfl) (Nb rfl) (Kh rfl rfl) ?_
    refine KC 9 rfl (by kernel_rfl) (Nb rfl) (KD rfl) ?_
    refine KAd 10 rfl rfl rfl rfl (by kernel_rfl) (KO (first := []) rfl en_59 rfl (Nb rfl) (fun w hw => c_awake13 w) ?_)
    refine KC 11 rfl (by kernel_rfl) (Nb rfl) (Kh rfl rfl) ?_
    refine KC 12 rfl (by kernel_rfl) (Nb rfl) (KF rfl) ?_
    refine Kp (by kernel_rfl) ?_
    refine KR ?_
    refine ⟨[_], .cons rfl .nil, fun a w' hr => ⟨?_, hr.fr.below⟩⟩
    rfl
theorem c_Curves (id : Int) (w : World) : Calls Try.prog 7 ([.int .i64 id] : List Value).toArray w (fun e w' => e = .returned (.bool true) ∧ Below w.heap.size w w') := by
  cases h : cvI id with
  | none => exact c_Curves_none id w h
  | some V => exact c_Curves_some id V w h
end Go.Proofs.Ytljblbgogjieaaa
set_option maxRecDepth 100000
namespace Go.Proofs.Ytljblbgogjieaaa
open Go
def ioChars : List Char := ([104, 97, 114, 110, 101, 115, 115, 32, 102, 51, 57, 52, 54, 98, 99, 101, 49, 54, 101, 56, 99, 51, 102, 52, 49, 56, 48, 97, 55, 101, 53, 50, 100, 97, 98, 100, 56, 55, 98, 56, 54, 57, 51, 56, 100, 57, 50, 50, 100, 99, 56, 97, 98, 97, 101, 55, 102, 48, 56, 57, 55, 57, 99, 51, 48, 57, 101, 52, 56, 98, 54, 48, 32, 99, 117, 116, 32, 97, 116, 32, 99, 117, 114, 118, 101, 116, 47, 99, 117, 114, 118, 101, 116, 108, 97, 119, 50, 51, 46, 82, 97, 119, 115, 32, 99, 117, 114, 118, 101, 116, 47, 99, 117, 114, 118, 101, 116, 108, 97, 119, 50, 51, 46, 82, 97, 119, 66, 97, 99, 107, 32, 99, 117, 114, 118, 101, 116, 47, 99, 117, 114, 118, 101, 116, 108, 97, 119, 50, 51, 46, 82, 97, 119, 76, 101, 110, 103, 116, 104, 115, 32, 99, 117, 114, 118, 101, 116, 47, 99, 117, 114, 118, 101, 116, 108, 97, 119, 50, 51, 46, 82, 97, 119, 84, 105, 110, 121, 32, 99, 117, 114, 118, 101, 116, 47, 99, 117, 114, 118, 101, 116, 108, 97, 119, 49, 51, 46, 67, 117, 114, 118, 101, 115, 32, 99, 117, 114, 118, 101, 116, 47, 99, 117, 114, 118, 101, 116, 108, 97, 119, 49, 51, 46, 67, 117, 114, 118, 101, 79, 110, 115, 32, 99, 117, 114, 118, 101, 116, 47, 99, 117, 114, 118, 101, 116, 108, 97, 119, 49, 51, 46, 67, 117, 114, 118, 101, 83, 111, 117, 110, 100, 32, 99, 117, 114, 118, 101, 116, 47, 99, 117, 114, 118, 101, 116, 108, 97, 119, 49, 51, 46, 67, 117, 114, 118, 101, 78, 117, 109, 98, 101, 114, 115, 32, 99, 117, 114, 118, 101, 116, 47, 99, 117, 114, 118, 101, 116, 108, 97, 119, 49, 51, 46, 67, 117, 114, 118, 101, 79, 102, 102, 32, 99, 117, 114, 118, 101, 116, 47, 99, 117, 114, 118, 101, 116, 108, 97, 119, 49, 51, 46, 67, 117, 114, 118, 101, 84, 105, 110, 121, 32, 99, 117, 114, 118, 101, 116, 47, 99, 117, 114, 118, 101, 116, 108, 97, 119, 50, 48, 46, 68, 117, 97, 108, 115, 32, 99, 117, 114, 118, 101, 116, 47, 99, 117, 114, 118, 101, 116, 108, 97, 119, 50, 48, 46, 68, 117, 97, 108, 84, 105, 110, 121, 32, 99, 117, 114, 118, 101, 116, 47, 99, 117, 114, 118, 101, 116, 108, 97, 119, 49, 53, 46, 80, 114, 111, 106, 115, 32, 99, 117, 114, 118, 101, 116, 47, 99, 117, 114, 118, 101, 116, 108, 97, 119, 49, 53, 46, 80, 114, 111, 106, 70, 114, 111, 109, 32, 99, 117, 114, 118, 101, 116, 47, 99, 117, 114, 118, 101, 116, 108, 97, 119, 49, 53, 46, 80, 114, 111, 106, 83, 99, 97, 108, 101, 100, 32, 99, 117, 114, 118, 101, 116, 47, 99, 117, 114, 118, 101, 116, 108, 97, 119, 49, 53, 46, 80, 114, 111, 106, 68, 111, 117, 98, 108, 101, 115, 32, 99, 117, 114, 118, 101, 116, 47, 99, 117, 114, 118, 101, 116, 108, 97, 119, 49, 53, 46, 80, 114, 111, 106, 78, 111, 110, 101, 32, 99, 117, 114, 118, 101, 116, 47, 99, 117, 114, 118, 101, 116, 108, 97, 119, 49, 53, 46, 80, 114, 111, 106, 84, 105, 110, 121, 32, 99, 117, 114, 118, 101, 116, 47, 99, 117, 114, 118, 101, 116, 108, 97, 119, 49, 52, 46, 65, 102, 102, 105, 110, 101, 115, 32, 99, 117, 114, 118, 101, 116, 47, 99, 117, 114, 118, 101, 116, 108, 97, 119, 49, 52, 46, 65, 102, 102, 105, 110, 101, 84, 105, 109, 101, 115, 32, 99, 117, 114, 118, 101, 116, 47, 99, 117, 114, 118, 101, 116, 108, 97, 119, 49, 52, 46, 65, 102, 102, 105, 110, 101, 71, 114, 111, 117, 112, 32, 99, 117, 114, 118, 101, 116, 47, 99, 117, 114, 118, 101, 116, 108, 97, 119, 49, 52, 46, 65, 102, 102, 105, 110, 101, 79, 114, 100, 101, 114, 32, 99, 117, 114, 118, 101, 116, 47, 99, 117, 114, 118, 101, 116, 108, 97, 119, 49, 52, 46, 65, 102, 102, 105, 110, 101, 76, 105, 110, 101, 32, 99, 117, 114, 118, 101, 116, 47, 99, 117, 114, 118, 101, 116, 108, 97, 119, 49, 52, 46, 65, 102, 102, 105, 110, 101, 79, 112, 112, 111, 115, 105, 116, 101, 32, 99, 117, 114, 118, 101, 116, 47, 99, 117, 114, 118, 101, 116, 108, 97, 119, 49, 52, 46, 65, 102, 102, 105, 110, 101, 84, 105, 110, 121, 32, 99, 117, 114, 118, 101, 116, 47, 99, 117, 114, 118, 101, 116, 108, 97, 119, 49, 52, 46, 65, 102, 102, 105, 110, 101, 83, 112, 108, 105, 116, 115, 32, 99, 117, 114, 118, 101, 116, 47, 99, 117, 114, 118, 101, 116, 108, 97, 119, 49, 52, 46, 65, 102, 102, 105, 110, 101, 87, 97, 108, 107, 32, 99, 117, 114, 118, 101, 116, 47, 99, 117, 114, 118, 101, 116, 108, 97, 119, 50, 48, 46, 68, 117, 97, 108, 80, 97, 114, 116, 115, 32, 99, 117, 114, 118, 101, 116, 47, 99, 117, 114, 118, 101, 116, 108, 97, 119, 49, 54, 46, 84, 97, 98, 108, 101, 83, 105, 122, 101, 115, 32, 99, 117, 114, 118, 101, 116, 47, 99, 117, 114, 118, 101, 116, 108, 97, 119, 49, 54, 46, 84, 97, 98, 108, 101, 78, 105, 108, 32, 99, 117, 114, 118, 101, 116, 47, 99, 117, 114, 118, 101, 116, 108, 97, 119, 49, 53, 46, 80, 114, 111, 106, 83, 117, 109, 115, 32, 99, 117, 114, 118, 101, 116, 47, 99, 117, 114, 118, 101, 116, 108, 97, 119, 50, 49, 46, 83, 101, 99, 49, 115, 32, 99, 117, 114, 118, 101, 116, 47, 99, 117, 114, 118, 101, 116, 108, 97, 119, 50, 49, 46, 83, 101, 99, 49, 66, 97, 99, 107, 32, 99, 117, 114, 118, 101, 116, 47, 99, 117, 114, 118, 101, 116, 108, 97, 119, 50, 49, 46, 83, 101, 99, 49, 84, 105, 110, 121, 32, 99, 117, 114, 118, 101, 116, 47, 99, 117, 114, 118, 101, 116, 108, 97, 119, 50, 49, 46, 83, 101, 99, 49, 66, 111, 116, 104, 32, 99, 117, 114, 118, 101, 116, 47, 99, 117, 114, 118, 101, 116, 108, 97, 119, 50, 49, 46, 83, 101, 99, 49, 76, 101, 110, 103, 116, 104, 115, 32, 99, 117, 114, 118, 101, 116, 47, 99, 117, 114, 118, 101, 116, 108, 97, 119, 50, 49, 46, 83, 101, 99, 49, 87, 104, 111, 108, 101, 32, 99, 117, 114, 118, 101, 116, 47, 99, 117, 114, 118, 101, 116, 108, 97, 119, 50, 49, 46, 83, 101, 99, 49, 71, 114, 101, 97, 116, 32, 99, 117, 114, 118, 101, 116, 47, 99, 117, 114, 118, 101, 116, 108, 97, 119, 49, 54, 46, 84, 97, 98, 108, 101, 115, 32, 99, 117, 114, 118, 101, 116, 47, 99, 117, 114, 118, 101, 116, 108, 97, 119, 49, 57, 46, 66, 97, 115, 101, 115] : List Nat).map Char.ofNat
theorem io_lit : Try.prog.initOrder = String.ofList ioChars := by kernel_rfl
theorem io_list : Try.prog.initOrder.toList = ioChars := by rw [io_lit, String.toList_ofList]
def cutW : List Char := ([99, 117, 116] : List Nat).map Char.ofNat
def ioRest : List (List Char) := (wordsSigns ioChars).drop 3
theorem io_words : behindMainWord (wordsSigns ioChars) = cutW :: ioRest := by kernel_rfl
theorem io_strip (r : List (List Char)) : stripLifts liftWords (cutW :: r) = ([], cutW :: r) := by kernel_rfl
theorem no_later : Try.prog.laysLater = false := by kernel_rfl
theorem no_reflect : Try.prog.bearsReflect = false := by kernel_rfl
theorem door_fits : Try.prog.doorFits [] = true := by kernel_rfl
theorem and2 {a b : Bool} (h : a = true) (k : b = true) : (a && b) = true := by rw [h, k]; rfl
theorem or_right {a b : Bool} (h : b = true) : (a || b) = true := by rw [h]; cases a <;> rfl
theorem cut_is : (cutW == "cut".toList) = true := by kernel_rfl
theorem cut_gc : (cutW == "gc".toList) = false := by kernel_rfl
theorem cut_spec : (cutW == "spec".toList) = false := by kernel_rfl
theorem cut_carried : (cutW == "carried".toList) = false := by kernel_rfl
theorem head_carried (r : List (List Char)) : ((cutW :: r).head? == some "carried".toList) = false := cut_carried
theorem enter_of (P : Program) {r : List (List Char)} (h : behindMainWord (wordsSigns P.initOrder.toList) = cutW :: r) (h1 : P.laysLater = false) (h2 : P.bearsReflect = false) (h3 : P.doorFits [] = true) : P.mayEnter = true := by
  unfold Program.mayEnter
  rw [h]
  dsimp only
  refine or_right (and2 (and2 (and2 (and2 ?_ ?_) ?_) ?_) ?_)
  · rw [io_strip]; exact cut_is
  · rw [io_strip, h1]; rfl
  · rw [io_strip, h2]; rfl
  · rw [io_strip]; rfl
  · rw [io_strip]; exact h3
theorem lifts_of (P : Program) {r : List (List Char)} (h : behindMainWord (wordsSigns P.initOrder.toList) = cutW :: r) : (false == P.liftsFinal) = true := by
  have hl : P.headLifts = [] := by
    unfold Program.headLifts
    rw [h, io_strip]
    simp only [ite_self]
  unfold Program.liftsFinal
  rw [h, hl]
  dsimp only
  rw [head_carried, Bool.false_and]
  rfl
theorem make_of (P : Program) {r : List (List Char)} (h : behindMainWord (wordsSigns P.initOrder.toList) = cutW :: r) : (P.make == some .cut) = true := by
  have : P.make = some .cut := by
    unfold Program.make
    rw [h]
    dsimp only
    rw [if_neg (by rw [cut_gc, cut_spec]; exact fun h => by cases h), if_pos (by rw [cut_is]; rfl)]
  rw [this]; rfl
theorem io_all : behindMainWord (wordsSigns Try.prog.initOrder.toList) = cutW :: ioRest := by rw [io_list, io_words]
theorem fact_enter : Try.prog.mayEnter = true := enter_of _ io_all no_later no_reflect door_fits
theorem fact_lifts : (false == Try.prog.liftsFinal) = true := lifts_of _ io_all
theorem fact_make : (Try.prog.make == some .cut) = true := make_of _ io_all
theorem fact_laid : laidOutB Try.prog = true := by kernel_rfl
theorem fact_maps : mapsRowed Try.prog = true := by kernel_rfl
theorem fact_heard : Try.prog.stopsHeard = true := by kernel_rfl
end Go.Proofs.Ytljblbgogjieaaa
