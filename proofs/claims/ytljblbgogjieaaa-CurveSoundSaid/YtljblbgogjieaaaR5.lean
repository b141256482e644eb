/- Part 5 of what the proof leans on: a symbolic execution of the model, walks of the program's functions, and the mathematics. No condition. -/
import Derived.WalkKit
import Derived.Orders
import Derived.Laws.StructEq
import Derived.WalkSpells
import Derived.OrdersHeld
import Derived.KernelRfl
import Derived.Laws.Externs
import Derived.Laws.Bits64
import Derived.Laws.MakeOwn
import Derived.Laws.BytesString
import Derived.Carry
import Derived.WideShapes
import GoSem.Claim
import Derived.Test.YtljblbgogjieaaaProg
import Derived.Laws.AppendOwn
import Derived.Test.YtljblbgogjieaaaRows
import Derived.ProofKit
import Derived.OpenShut
import Derived.Test.YtljblbgogjieaaaR4
set_option linter.unusedVariables false
set_option linter.unusedSimpArgs false
set_option maxRecDepth 20000
namespace Go.Proofs.Ytljblbgogjieaaa
open Go Go.RowKit
theorem blen_w9 {A : Nat} (h : A < W9) : blen A ≤ 576 := by
  obtain ⟨k, hk⟩ : ∃ k : Nat, k = 9 := ⟨9, rfl⟩
  have := blen_le (lt_w9_pow h k hk)
  omega
def legB (V : Cv) : Bool := decide (V.id = 1 ∨ V.id = 7)
def thr (V : Cv) : Nat := ((V.b + V.b) % V.p + V.b) % V.p
def opL (V : Cv) (f : Nat) : List Value := cvC V.id V.p V.a V.b V.n V.x V.y false (blen V.n) (nby V.p) (legB V) (.pointer (some ⟨f, 0, none⟩)) (thr V)
theorem fill_pt (X Y : Nat) : fillL [(0, 9), (9, 9), (18, 1)] (vec .u64 9 (fun _ => 0) ++ (vec .u64 9 (fun _ => 0) ++ [Value.bool false])) [(0, natV X), (1, natV Y)] = some (ptL X Y false) := by
  refine fillL_step (A := []) (B := vec .u64 9 (fun _ => 0)) (D := vec .u64 9 (fun _ => 0) ++ [Value.bool false]) (cs := natL X) rfl rfl (KJ _) rfl rfl (KM _ _ _) ?_
  refine (fillL_step (A := natL X) (B := vec .u64 9 (fun _ => 0)) (D := [Value.bool false]) (cs := natL Y) rfl rfl (KJ _) (by simp) (KJ _) (KM _ _ _) rfl).trans ?_
  simp [ptL]
theorem c_Open_none (id : Int) (w : World) (h : cvI id = none) : Calls Try.prog 112 ([.int .i64 id] : List Value).toArray w (fun e w' => e = .returned (.pointer none) ∧ Below w.heap.size w w') := by
  refine KAB (N := 130) (rs := [.tmp 2]) [] Try.func112 rfl Try.ntmps112 Try.results112 (Nb rfl) trivial rfl ?_
  show LCode _ _ _ ⟨_, _⟩ _
  refine KE (KB ?_)
  refine KA (KF rfl) (Nb rfl) ?_
  refine KG ?_
  refine KE (KB ?_)
  refine KA (KD rfl) (Nb rfl) ?_
  refine KK rfl (KY (KO (first := []) rfl en_146 rfl (Nb rfl) (fun w hw => c_f_Of_none id w h) ?_))
  refine KA (KF rfl) (Nb rfl) ?_
  refine KG ?_
  refine KE ?_
  refine KE (KB ?_)
  refine KA (KD rfl) (Nb rfl) ?_
  refine KA (KT (Det.eqp Try.underlying145 rfl rfl) (show _ = Value.bool true from rfl)) (Nb rfl) ?_
  refine KG ?_
  refine KAF rfl ?_
  refine KE (KB ?_)
  refine KA (KF rfl) (Nb rfl) ?_
  refine KG (KQ ?_)
  refine ⟨[_], .cons rfl .nil, fun a w' hr => ⟨?_, hr.fr.below⟩⟩
  rfl
theorem c_Open (id : Int) (V : Cv) (w : World) (h : cvI id = some V) : Calls Try.prog 112 ([.int .i64 id] : List Value).toArray w (fun e w' => ∃ b f bd, e = .returned (.pointer (some ⟨b, 0, none⟩)) ∧ (Item.blk b ⟨false, opL V f, 147, (0, 0)⟩).holds w' ∧ (Item.blk f ⟨false, fldL V.p bd, 194, (0, 0)⟩).holds w' ∧ (Item.blk bd ⟨false, dvL V.p, 241, (0, 0)⟩).holds w' ∧ w.heap.size ≤ b ∧ w.heap.size ≤ f ∧ w.heap.size ≤ bd ∧ Below w.heap.size w w') := by
  obtain ⟨hok, rfl⟩ := cvI_ok h
  refine KAB (N := 130) (rs := [.tmp 2]) [] Try.func112 rfl Try.ntmps112 Try.results112 (Nb rfl) trivial rfl ?_
  show LCode _ _ _ ⟨_, _⟩ _
  refine KE (KB ?_)
  refine KA (KF rfl) (Nb rfl) ?_
  refine KG ?_
  refine KE (KB ?_)
  refine KA (KD rfl) (Nb rfl) ?_
  refine KK rfl (KY (KV (Post := fun v its => ∃ f bd, v = .pointer (some ⟨f, 0, none⟩) ∧ its = [.blk f ⟨false, fldL V.p bd, 194, (0, 0)⟩, .blk bd ⟨false, dvL V.p, 241, (0, 0)⟩] ∧ w.heap.size ≤ f ∧ w.heap.size ≤ bd) (first := []) rfl en_146 rfl (Nb rfl) (fun w1 hw hs => (c_f_Of _ V w1 h).mono fun e w' ⟨f, bd, h1, h2, h3, h4, h5, h6⟩ => ⟨_, _, ⟨f, bd, rfl, rfl, Nat.le_trans hs h4, Nat.le_trans hs h5⟩, h1, Brings.nums h6 (by intro x hx; simp at hx; rcases hx with rfl | rfl; exact h2; exact h3) (by intro x hx; simp at hx; rcases hx with rfl | rfl <;> rfl) (by intro x hx k hk; simp at hx; rcases hx with rfl | rfl <;> simp [Item.fp] at hk <;> subst hk; exact .inl h4; exact .inl h5)⟩) ?_))
  rintro _ _ ⟨f, bd, rfl, rfl, hnf, hnbd⟩
  refine KA (KF rfl) (Nb rfl) ?_
  refine KG ?_
  refine KE ?_
  refine KE (KB ?_)
  refine KA (KD rfl) (Nb rfl) ?_
  refine KA (KT (Det.eqp Try.underlying145 rfl rfl) (show _ = Value.bool false from rfl)) (Nb rfl) ?_
  refine KG ?_
  refine Ku rfl ?_
  refine Ke ?_
  refine KE ?_
  have hbb := hok.bounds
  have hpW : V.p < W9 := w9_521 hbb.2.1
  have hnW : V.n < W9 := w9_521 hbb.2.2.2.2.2.2.1
  have hbln := blen_w9 hnW
  have hblp := blen_w9 hpW
  refine KB ?_
  refine KA (KD rfl) (Nb rfl) ?_
  refine KK rfl (KY (LStep.callV (first := []) rfl en_147 rfl (Nb rfl) (fun w hw => c_rows_some _ V w h) ?_))
  rintro _ ⟨s0, s1, s2, s3, s4, rfl, hrow⟩
  obtain ⟨hA, hB, hN, hX, hY⟩ := rowsB_spec hrow
  clear hrow
  refine KK rfl (KY (KS (Kp zr_188) (Nb rfl) (fun b4 => ?_)))
  refine KK rfl (Kb rfl rfl sz_188 (by repeat (first | exact Kf | refine KZ rfl ?_)) (by repeat (first | exact Sh _ | apply St_)) (by rfl) ?_)
  refine KG ?_
  refine KE (KB ?_)
  refine KA (KD rfl) (Nb rfl) ?_
  refine KA (KT (KAl pl_147 zr_147 rfl (fillF (.pointer (some ⟨f, 0, none⟩)) rfl)) rfl) (Nb rfl) ?_
  refine KK rfl (KY (KS (KAM rfl) (Nb rfl) (fun b14 => ?_)))
  refine KA (KF rfl) (Nb rfl) ?_
  refine KG ?_
  refine LCode.cut (α := Unit) (fun _ => True) (fun _ => ⟨[(0, .int .i64 ((V.id : Nat) : Int)), (3, .pointer (some ⟨f, 0, none⟩)), (4, .pointer (some ⟨b4, 0, none⟩)), (5, .pointer (some ⟨b14, 0, none⟩))], [.blk b14 ⟨true, cvC V.id V.p 0 V.b V.n 0 0 false 0 0 false (.pointer (some ⟨f, 0, none⟩)) 0, 147, (0, 0)⟩, .blk b4 ⟨true, [.string s0, .string s1, .string s2, .string s3, .string s4], 188, (0, 0)⟩, .blk f ⟨false, fldL V.p bd, 194, (0, 0)⟩, .blk bd ⟨false, dvL V.p, 241, (0, 0)⟩]⟩) ?_ ?_
  ·
    refine Kc [18, 22, 26, 30] (by kernel_rfl) ?_
    refine KC 0 rfl (by kernel_rfl) (Nb rfl) (KD rfl) ?_
    refine KC 1 rfl (by kernel_rfl) (Nb rfl) (KD rfl) ?_
    refine KC 2 rfl (by kernel_rfl) (Nb rfl) (KD rfl) ?_
    refine KC 3 rfl (by kernel_rfl) (Nb rfl) (KD rfl) ?_
    refine KC 4 rfl (by kernel_rfl) (Nb rfl) (KD rfl) ?_
    refine KC 5 rfl (by kernel_rfl) (Nb rfl) (KD rfl) ?_
    refine KC 6 rfl (by kernel_rfl) (Nb rfl) (KW rfl) ?_
    refine KC 7 rfl (by kernel_rfl) (Nb rfl) (KI (o' := 0) Try.underlying194 rfl rfl rfl sz_25 (by decide)) ?_
    refine LAny.take 8 rfl (by kernel_rfl) (Nb rfl) (KL rfl (by repeat (first | exact Mh _ | apply Mt)) (by exact LoadV.first Try.underlying25 rfl sz_25 rfl (KJ _))) ?_
    refine KC 9 rfl (by kernel_rfl) (Nb rfl) (KI (o' := 1) Try.underlying188 rfl rfl rfl sz_9 (by decide)) ?_
    refine KC 12 rfl (by kernel_rfl) (Nb rfl) (KI (o' := 2) Try.underlying188 rfl rfl rfl sz_9 (by decide)) ?_
    refine LAny.takeW [11, 14, 15, 16, 17, 18, 19, 20, 21, 22, 23, 24, 25, 26, 27, 28, 29, 30] 10 rfl (by kernel_rfl) (Nb rfl) (KL rfl (by repeat (first | exact Mh _ | apply Mt)) (KP Try.underlying9 rfl (by first | rfl | exact Kn _ _ _ (by omega) | exact Kl _ (by omega) | exact Kh _ (by omega) | exact dv_m _ _ _ (by omega)))) ?_
    refine LAny.takeW [14, 15, 16, 17, 18, 19, 20, 21, 22, 23, 24, 25, 26, 27, 28, 29, 30] 13 rfl (by kernel_rfl) (Nb rfl) (KL rfl (by repeat (first | exact Mh _ | apply Mt)) (KP Try.underlying9 rfl (by first | rfl | exact Kn _ _ _ (by omega) | exact Kl _ (by omega) | exact Kh _ (by omega) | exact dv_m _ _ _ (by omega)))) ?_
    refine Kq 11 rfl rfl (by kernel_rfl) (KO (first := []) rfl en_148 rfl (Nb rfl) (fun w hw => fhex s1 V.b w hB) ?_)
    refine Kq 14 rfl rfl (by kernel_rfl) (KO (first := []) rfl en_148 rfl (Nb rfl) (fun w hw => fhex s2 V.n w hN) ?_)
    refine KC 15 rfl (by kernel_rfl) (Nb rfl) (KW rfl) ?_
    refine KC 16 rfl (by kernel_rfl) (Nb rfl) (KI (o' := 0) Try.underlying147 rfl rfl rfl sz_62 (by decide)) ?_
    refine KC 17 rfl (by kernel_rfl) (Nb rfl) (KI (o' := 0) Try.underlying62 rfl rfl rfl sz_3 (by decide)) ?_
    refine KAA 18 rfl rfl (by kernel_rfl) (by kernel_rfl) (KAN rfl rfl rfl sz_3 (by first | exact KJ _ | exact Kd _ _ _ | rfl) (by first | exact Ky _ | exact KAK _ _ _ | exact KZ rfl Kf) (by repeat (first | exact Sh _ | apply St_)) (by simp only [KAe]; decide) (cvC_set_id _ _ _ _ _ _ _ _ _ _ _ _ _ _) (by simp) ?_)
    refine KC 19 rfl (by kernel_rfl) (Nb rfl) (KW rfl) ?_
    refine KC 20 rfl (by kernel_rfl) (Nb rfl) (KI (o' := 0) Try.underlying147 rfl rfl rfl sz_62 (by decide)) ?_
    refine KC 21 rfl (by kernel_rfl) (Nb rfl) (KI (o' := 1) Try.underlying62 rfl rfl rfl sz_25 (by decide)) ?_
    refine KAA 22 rfl rfl (by kernel_rfl) (by kernel_rfl) (KAN rfl rfl rfl sz_25 (by first | exact KJ _ | exact Kd _ _ _ | rfl) (by first | exact Ky _ | exact KAK _ _ _ | exact KZ rfl Kf) (by repeat (first | exact Sh _ | apply St_)) (by simp only [KAe]; decide) (cvC_set_p _ _ _ _ _ _ _ _ _ _ _ _ _ _) (by simp) ?_)
    refine KC 23 rfl (by kernel_rfl) (Nb rfl) (KW rfl) ?_
    refine KC 24 rfl (by kernel_rfl) (Nb rfl) (KI (o' := 0) Try.underlying147 rfl rfl rfl sz_62 (by decide)) ?_
    refine KC 25 rfl (by kernel_rfl) (Nb rfl) (KI (o' := 19) Try.underlying62 rfl rfl rfl sz_25 (by decide)) ?_
    refine KAA 26 rfl rfl (by kernel_rfl) (by kernel_rfl) (KAN rfl rfl rfl sz_25 (by first | exact KJ _ | exact Kd _ _ _ | rfl) (by first | exact Ky _ | exact KAK _ _ _ | exact KZ rfl Kf) (by repeat (first | exact Sh _ | apply St_)) (by simp only [KAe]; decide) (cvC_set_b _ _ _ _ _ _ _ _ _ _ _ _ _ _) (by simp) ?_)
    refine KC 27 rfl (by kernel_rfl) (Nb rfl) (KW rfl) ?_
    refine KC 28 rfl (by kernel_rfl) (Nb rfl) (KI (o' := 0) Try.underlying147 rfl rfl rfl sz_62 (by decide)) ?_
    refine KC 29 rfl (by kernel_rfl) (Nb rfl) (KI (o' := 28) Try.underlying62 rfl rfl rfl sz_25 (by decide)) ?_
    refine KAA 30 rfl rfl (by kernel_rfl) (by kernel_rfl) (KAN rfl rfl rfl sz_25 (by first | exact KJ _ | exact Kd _ _ _ | rfl) (by first | exact Ky _ | exact KAK _ _ _ | exact KZ rfl Kf) (by repeat (first | exact Sh _ | apply St_)) (by simp only [KAe]; decide) (cvC_set_n _ _ _ _ _ _ _ _ _ _ _ _ _ _) (by simp) ?_)
    refine Kj (by kernel_rfl) ?_
    exact ⟨(), trivial, KAE ⟨rfl, rfl, rfl, rfl, trivial⟩ (by repeat (first | exact Sel.nil _ | refine Sel.cons (by repeat (first | exact Ph _ | apply Pt_)) ?_))⟩
  ·
    rintro _ _
    refine KE ?_
    refine KE ?_
    rcases hA with ⟨hA0, hVa⟩ | ⟨hA0, hA1⟩
    ·
      refine KB ?_
      refine KA (KI (o' := 0) Try.underlying188 rfl rfl rfl sz_9 (by decide)) (Nb rfl) ?_
      refine LOps.det (KL rfl (by repeat (first | exact Mh _ | apply Mt)) (KP Try.underlying9 rfl (by first | rfl | exact Kn _ _ _ (by omega) | exact Kl _ (by omega) | exact Kh _ (by omega) | exact dv_m _ _ _ (by omega)))) (Nb rfl) ?_
      refine KA (KT (Det.eqs rfl rfl) (congrArg Value.bool (eq_str_t hA0))) (Nb rfl) ?_
      refine KG ?_
      refine KAF rfl ?_
      refine Kc [13] (by kernel_rfl) ?_
      refine KC 0 rfl (by kernel_rfl) (Nb rfl) (KD rfl) ?_
      refine KC 1 rfl (by kernel_rfl) (Nb rfl) (KD rfl) ?_
      refine KC 2 rfl (by kernel_rfl) (Nb rfl) (KW rfl) ?_
      refine KC 3 rfl (by kernel_rfl) (Nb rfl) (KI (o' := 0) Try.underlying194 rfl rfl rfl sz_25 (by decide)) ?_
      refine LAny.take 4 rfl (by kernel_rfl) (Nb rfl) (KL rfl (by repeat (first | exact Mh _ | apply Mt)) (by exact LoadV.first Try.underlying25 rfl sz_25 rfl (KJ _))) ?_
      refine Kq 5 rfl rfl (by kernel_rfl) (KO (first := []) rfl en_150 rfl (Nb rfl) (fun w hw => c_nat_Small 3 (by decide) w) ?_)
      refine Kq 6 rfl rfl (by kernel_rfl) (KO (first := []) rfl en_149 rfl (Nb rfl) (fun w hw => c_nat_SubS V.p 3 w (by omega) (by omega)) ?_)
      refine KC 7 rfl (by kernel_rfl) (Nb rfl) (KD rfl) ?_
      refine KC 8 rfl (by kernel_rfl) (Nb rfl) (Kt rfl rfl) ?_
      refine KC 9 rfl (by kernel_rfl) (Nb rfl) (Kt rfl rfl) ?_
      refine KC 10 rfl (by kernel_rfl) (Nb rfl) (KW rfl) ?_
      refine KC 11 rfl (by kernel_rfl) (Nb rfl) (KI (o' := 0) Try.underlying147 rfl rfl rfl sz_62 (by decide)) ?_
      refine KC 12 rfl (by kernel_rfl) (Nb rfl) (KI (o' := 10) Try.underlying62 rfl rfl rfl sz_25 (by decide)) ?_
      refine KAA 13 rfl rfl (by kernel_rfl) (by kernel_rfl) (KAN rfl rfl rfl sz_25 (by first | exact KJ _ | exact Kd _ _ _ | rfl) (by first | exact Ky _ | exact KAK _ _ _ | exact KZ rfl Kf) (by repeat (first | exact Sh _ | apply St_)) (by simp only [KAe]; decide) (cvC_set_a _ _ _ _ _ _ _ _ _ _ _ _ _ _) (by simp) ?_)
      refine Kj (by kernel_rfl) ?_
      refine KE ?_
      refine Kc [11] (by kernel_rfl) ?_
      refine KC 0 rfl (by kernel_rfl) (Nb rfl) (KD rfl) ?_
      refine KC 1 rfl (by kernel_rfl) (Nb rfl) (KI (o' := 3) Try.underlying188 rfl rfl rfl sz_9 (by decide)) ?_
      refine LAny.take 2 rfl (by kernel_rfl) (Nb rfl) (KL rfl (by repeat (first | exact Mh _ | apply Mt)) (KP Try.underlying9 rfl (by first | rfl | exact Kn _ _ _ (by omega) | exact Kl _ (by omega) | exact Kh _ (by omega) | exact dv_m _ _ _ (by omega)))) ?_
      refine KC 4 rfl (by kernel_rfl) (Nb rfl) (KI (o' := 4) Try.underlying188 rfl rfl rfl sz_9 (by decide)) ?_
      refine LAny.take 5 rfl (by kernel_rfl) (Nb rfl) (KL rfl (by repeat (first | exact Mh _ | apply Mt)) (KP Try.underlying9 rfl (by first | rfl | exact Kn _ _ _ (by omega) | exact Kl _ (by omega) | exact Kh _ (by omega) | exact dv_m _ _ _ (by omega)))) ?_
      refine Kq 3 rfl rfl (by kernel_rfl) (KO (first := []) rfl en_148 rfl (Nb rfl) (fun w hw => fhex s3 V.x w hX) ?_)
      refine Kq 6 rfl rfl (by kernel_rfl) (KO (first := []) rfl en_148 rfl (Nb rfl) (fun w hw => fhex s4 V.y w hY) ?_)
      refine KC 7 rfl (by kernel_rfl) (Nb rfl) (KT (KAl pl_60 zr_60 rfl (fill_pt _ _)) rfl) ?_
      refine KC 8 rfl (by kernel_rfl) (Nb rfl) (KW rfl) ?_
      refine KC 9 rfl (by kernel_rfl) (Nb rfl) (KI (o' := 0) Try.underlying147 rfl rfl rfl sz_62 (by decide)) ?_
      refine KC 10 rfl (by kernel_rfl) (Nb rfl) (KI (o' := 37) Try.underlying62 rfl rfl rfl sz_60 (by decide)) ?_
      refine KAA 11 rfl rfl (by kernel_rfl) (by kernel_rfl) (KAN rfl rfl rfl sz_60 (by first | exact KJ _ | exact Kd _ _ _ | rfl) (by first | exact Ky _ | exact KAK _ _ _ | exact KZ rfl Kf) (by repeat (first | exact Sh _ | apply St_)) (by simp only [KAe]; decide) (cvC_set_g _ _ _ _ _ _ _ _ _ _ _ _ _ _ _ _) (by simp) ?_)
      refine Kj (by kernel_rfl) ?_
      refine KE ?_
      refine Kc [18, 22] (by kernel_rfl) ?_
      refine KC 0 rfl (by kernel_rfl) (Nb rfl) (KD rfl) ?_
      refine KC 1 rfl (by kernel_rfl) (Nb rfl) (KD rfl) ?_
      refine KC 2 rfl (by kernel_rfl) (Nb rfl) (KD rfl) ?_
      refine KC 3 rfl (by kernel_rfl) (Nb rfl) (KW rfl) ?_
      refine KC 4 rfl (by kernel_rfl) (Nb rfl) (KI (o' := 0) Try.underlying147 rfl rfl rfl sz_62 (by decide)) ?_
      refine KC 5 rfl (by kernel_rfl) (Nb rfl) (KI (o' := 28) Try.underlying62 rfl rfl rfl sz_25 (by decide)) ?_
      refine LAny.take 6 rfl (by kernel_rfl) (Nb rfl) (KL rfl (by repeat (first | exact Mh _ | apply Mt)) (by exact cvC_ld_n _ _ _ _ _ _ _ _ _ _ _ _ _ _ _ _)) ?_
      refine KC 8 rfl (by kernel_rfl) (Nb rfl) (KD rfl) ?_
      refine KC 9 rfl (by kernel_rfl) (Nb rfl) (KW rfl) ?_
      refine KC 10 rfl (by kernel_rfl) (Nb rfl) (KI (o' := 0) Try.underlying194 rfl rfl rfl sz_25 (by decide)) ?_
      refine LAny.take 11 rfl (by kernel_rfl) (Nb rfl) (KL rfl (by repeat (first | exact Mh _ | apply Mt)) (by exact LoadV.first Try.underlying25 rfl sz_25 rfl (KJ _))) ?_
      refine Kq 7 rfl rfl (by kernel_rfl) (KO (first := []) rfl en_151 rfl (Nb rfl) (fun w hw => c_nat_Bits V.n hnW w) ?_)
      refine Kq 12 rfl rfl (by kernel_rfl) (KO (first := []) rfl en_151 rfl (Nb rfl) (fun w hw => c_nat_Bits V.p hpW w) ?_)
      refine KC 13 rfl (by kernel_rfl) (Nb rfl) (KH rfl rfl (KAG (b := 7) (by omega))) ?_
      refine KC 14 rfl (by kernel_rfl) (Nb rfl) (KH rfl rfl (br_quo (b := 8) (by omega) (by omega))) ?_
      refine KC 15 rfl (by kernel_rfl) (Nb rfl) (KW rfl) ?_
      refine KC 16 rfl (by kernel_rfl) (Nb rfl) (KI (o' := 0) Try.underlying147 rfl rfl rfl sz_62 (by decide)) ?_
      refine KC 17 rfl (by kernel_rfl) (Nb rfl) (KI (o' := 56) Try.underlying62 rfl rfl rfl sz_3 (by decide)) ?_
      refine KAA 18 rfl rfl (by kernel_rfl) (by kernel_rfl) (KAN rfl rfl rfl sz_3 (by first | exact KJ _ | exact Kd _ _ _ | rfl) (by first | exact Ky _ | exact KAK _ _ _ | exact KZ rfl Kf) (by repeat (first | exact Sh _ | apply St_)) (by simp only [KAe]; decide) (cvC_set_bits _ _ _ _ _ _ _ _ _ _ _ _ _ _) (by simp) ?_)
      refine KC 19 rfl (by kernel_rfl) (Nb rfl) (KW rfl) ?_
      refine KC 20 rfl (by kernel_rfl) (Nb rfl) (KI (o' := 0) Try.underlying147 rfl rfl rfl sz_62 (by decide)) ?_
      refine KC 21 rfl (by kernel_rfl) (Nb rfl) (KI (o' := 57) Try.underlying62 rfl rfl rfl sz_3 (by decide)) ?_
      refine KAA 22 rfl rfl (by kernel_rfl) (by kernel_rfl) (KAN rfl rfl rfl sz_3 (by first | exact KJ _ | exact Kd _ _ _ | rfl) (by first | exact Ky _ | exact KAK _ _ _ | exact KZ rfl Kf) (by repeat (first | exact Sh _ | apply St_)) (by simp only [KAe]; decide) (cvC_set_size _ _ _ _ _ _ _ _ _ _ _ _ _ _) (by simp) ?_)
      refine Kj (by kernel_rfl) ?_
      refine KE ?_
      by_cases hi1 : ((V.id : Nat) : Int) = 1
      ·
        refine KB ?_
        refine KA (KD rfl) (Nb rfl) ?_
        refine KA (KD rfl) (Nb rfl) ?_
        refine KA (KH (v := .bool true) rfl rfl (br_t KAc hi1)) (Nb rfl) ?_
        refine KA (KD rfl) (Nb rfl) ?_
        refine Kr rfl rfl rfl (Nb rfl) ?_
        refine Kr rfl rfl rfl (Nb rfl) ?_
        refine KA (Km rfl rfl) (Nb rfl) ?_
        refine KA (KW rfl) (Nb rfl) ?_
        refine KA (KI (o' := 0) Try.underlying147 rfl rfl rfl sz_62 (by decide)) (Nb rfl) ?_
        refine KA (KI (o' := 58) Try.underlying62 rfl rfl rfl sz_4 (by decide)) (Nb rfl) ?_
        refine KK rfl (KAN rfl rfl rfl sz_4 (by first | exact KJ _ | exact Kd _ _ _ | rfl) (by first | exact Ky _ | exact KAK _ _ _ | exact KZ rfl Kf) (by repeat (first | exact Sh _ | apply St_)) (by simp only [KAe]; decide) (cvC_set_leg _ _ _ _ _ _ _ _ _ _ _ _ _ _) (by simp) ?_)
        refine KG ?_
        refine KE ?_
        refine Kc [22] (by kernel_rfl) ?_
        refine KC 0 rfl (by kernel_rfl) (Nb rfl) (KD rfl) ?_
        refine KC 1 rfl (by kernel_rfl) (Nb rfl) (KD rfl) ?_
        refine KC 2 rfl (by kernel_rfl) (Nb rfl) (KD rfl) ?_
        refine KC 3 rfl (by kernel_rfl) (Nb rfl) (KD rfl) ?_
        refine KC 4 rfl (by kernel_rfl) (Nb rfl) (KW rfl) ?_
        refine KC 5 rfl (by kernel_rfl) (Nb rfl) (KI (o' := 0) Try.underlying147 rfl rfl rfl sz_62 (by decide)) ?_
        refine KC 6 rfl (by kernel_rfl) (Nb rfl) (KI (o' := 19) Try.underlying62 rfl rfl rfl sz_25 (by decide)) ?_
        refine LAny.take 7 rfl (by kernel_rfl) (Nb rfl) (KL rfl (by repeat (first | exact Mh _ | apply Mt)) (by exact cvC_ld_b _ _ _ _ _ _ _ _ _ _ _ _ _ _ _ _)) ?_
        refine KC 8 rfl (by kernel_rfl) (Nb rfl) (KD rfl) ?_
        refine KC 9 rfl (by kernel_rfl) (Nb rfl) (KW rfl) ?_
        refine KC 10 rfl (by kernel_rfl) (Nb rfl) (KI (o' := 0) Try.underlying147 rfl rfl rfl sz_62 (by decide)) ?_
        refine KC 11 rfl (by kernel_rfl) (Nb rfl) (KI (o' := 19) Try.underlying62 rfl rfl rfl sz_25 (by decide)) ?_
        refine LAny.take 12 rfl (by kernel_rfl) (Nb rfl) (KL rfl (by repeat (first | exact Mh _ | apply Mt)) (by exact cvC_ld_b _ _ _ _ _ _ _ _ _ _ _ _ _ _ _ _)) ?_
        refine KC 14 rfl (by kernel_rfl) (Nb rfl) (KD rfl) ?_
        refine KC 15 rfl (by kernel_rfl) (Nb rfl) (KW rfl) ?_
        refine KC 16 rfl (by kernel_rfl) (Nb rfl) (KI (o' := 0) Try.underlying147 rfl rfl rfl sz_62 (by decide)) ?_
        refine KC 17 rfl (by kernel_rfl) (Nb rfl) (KI (o' := 19) Try.underlying62 rfl rfl rfl sz_25 (by decide)) ?_
        refine LAny.take 18 rfl (by kernel_rfl) (Nb rfl) (KL rfl (by repeat (first | exact Mh _ | apply Mt)) (by exact cvC_ld_b _ _ _ _ _ _ _ _ _ _ _ _ _ _ _ _)) ?_
        refine Kq 13 rfl rfl (by kernel_rfl) (KO (first := []) rfl en_152 rfl (Nb rfl) (fun w hw => c_f_Add V f bd V.b V.b w (hw _ (by repeat (first | exact Mh _ | apply Mt))) hbb.2.1 (by omega) (by omega)) ?_)
        refine Kq 19 rfl rfl (by kernel_rfl) (KO (first := []) rfl en_152 rfl (Nb rfl) (fun w hw => c_f_Add V f bd ((V.b + V.b) % V.p) V.b w (hw _ (by repeat (first | exact Mh _ | apply Mt))) hbb.2.1 (Nat.mod_lt _ (by omega)) (by omega)) ?_)
        refine KC 20 rfl (by kernel_rfl) (Nb rfl) (KW rfl) ?_
        refine KC 21 rfl (by kernel_rfl) (Nb rfl) (KI (o' := 60) Try.underlying147 rfl rfl rfl sz_25 (by decide)) ?_
        refine KAA 22 rfl rfl (by kernel_rfl) (by kernel_rfl) (KAN rfl rfl rfl sz_25 (by first | exact KJ _ | exact Kd _ _ _ | rfl) (by first | exact Ky _ | exact KAK _ _ _ | exact KZ rfl Kf) (by repeat (first | exact Sh _ | apply St_)) (by simp only [KAe]; decide) (cvC_set_t3 _ _ _ _ _ _ _ _ _ _ _ _ _ _) (by simp) ?_)
        refine Kj (by kernel_rfl) ?_
        refine KE (KB ?_)
        refine KA (KD rfl) (Nb rfl) ?_
        refine KA (KF rfl) (Nb rfl) ?_
        refine KG (KQ ?_)
        refine ⟨[_], .cons rfl .nil, fun a w' hr => ⟨b14, f, bd, rfl, ?_, hr.hp _ (by repeat (first | exact Mh _ | apply Mt)), hr.hp _ (by repeat (first | exact Mh _ | apply Mt)), hr.new (B := ⟨true, _, _, _⟩) (by repeat (first | exact Mh _ | apply Mt)) rfl, hnf, hnbd, hr.fr.below⟩⟩
        have hcv := hr.hp _ (show Item.blk b14 ⟨true, cvC V.id V.p (V.p - 3) V.b V.n V.x V.y false (blen V.n) (nby V.p) true (.pointer (some ⟨f, 0, none⟩)) (thr V), 147, (0, 0)⟩ ∈ _ from (by repeat (first | exact Mh _ | apply Mt)))
        have hl : legB V = true := by unfold legB; exact decide_eq_true (by omega)
        have ha : V.a = V.p - 3 := by omega
        rw [← ha] at hcv
        unfold opL
        rw [hl]
        exact hcv
      ·
        refine KB ?_
        refine KA (KD rfl) (Nb rfl) ?_
        refine KA (KD rfl) (Nb rfl) ?_
        refine KA (KH (v := .bool false) rfl rfl (br_f KAc hi1)) (Nb rfl) ?_
        refine KA (KD rfl) (Nb rfl) ?_
        refine Kg rfl rfl (KD rfl) (Nb rfl) ?_
        refine Kg rfl rfl (KH (v := .bool (decide (((V.id : Nat) : Int) = 7))) rfl rfl KAc) (Nb rfl) ?_
        refine KA (KAL rfl rfl) (Nb rfl) ?_
        refine KA (KW rfl) (Nb rfl) ?_
        refine KA (KI (o' := 0) Try.underlying147 rfl rfl rfl sz_62 (by decide)) (Nb rfl) ?_
        refine KA (KI (o' := 58) Try.underlying62 rfl rfl rfl sz_4 (by decide)) (Nb rfl) ?_
        refine KK rfl (KAN rfl rfl rfl sz_4 (by first | exact KJ _ | exact Kd _ _ _ | rfl) (by first | exact Ky _ | exact KAK _ _ _ | exact KZ rfl Kf) (by repeat (first | exact Sh _ | apply St_)) (by simp only [KAe]; decide) (cvC_set_leg _ _ _ _ _ _ _ _ _ _ _ _ _ _) (by simp) ?_)
        refine KG ?_
        refine KE ?_
        refine Kc [22] (by kernel_rfl) ?_
        refine KC 0 rfl (by kernel_rfl) (Nb rfl) (KD rfl) ?_
        refine KC 1 rfl (by kernel_rfl) (Nb rfl) (KD rfl) ?_
        refine KC 2 rfl (by kernel_rfl) (Nb rfl) (KD rfl) ?_
        refine KC 3 rfl (by kernel_rfl) (Nb rfl) (KD rfl) ?_
        refine KC 4 rfl (by kernel_rfl) (Nb rfl) (KW rfl) ?_
        refine KC 5 rfl (by kernel_rfl) (Nb rfl) (KI (o' := 0) Try.underlying147 rfl rfl rfl sz_62 (by decide)) ?_
        refine KC 6 rfl (by kernel_rfl) (Nb rfl) (KI (o' := 19) Try.underlying62 rfl rfl rfl sz_25 (by decide)) ?_
        refine LAny.take 7 rfl (by kernel_rfl) (Nb rfl) (KL rfl (by repeat (first | exact Mh _ | apply Mt)) (by exact cvC_ld_b _ _ _ _ _ _ _ _ _ _ _ _ _ _ _ _)) ?_
        refine KC 8 rfl (by kernel_rfl) (Nb rfl) (KD rfl) ?_
        refine KC 9 rfl (by kernel_rfl) (Nb rfl) (KW rfl) ?_
        refine KC 10 rfl (by kernel_rfl) (Nb rfl) (KI (o' := 0) Try.underlying147 rfl rfl rfl sz_62 (by decide)) ?_
        refine KC 11 rfl (by kernel_rfl) (Nb rfl) (KI (o' := 19) Try.underlying62 rfl rfl rfl sz_25 (by decide)) ?_
        refine LAny.take 12 rfl (by kernel_rfl) (Nb rfl) (KL rfl (by repeat (first | exact Mh _ | apply Mt)) (by exact cvC_ld_b _ _ _ _ _ _ _ _ _ _ _ _ _ _ _ _)) ?_
        refine KC 14 rfl (by kernel_rfl) (Nb rfl) (KD rfl) ?_
        refine KC 15 rfl (by kernel_rfl) (Nb rfl) (KW rfl) ?_
        refine KC 16 rfl (by kernel_rfl) (Nb rfl) (KI (o' := 0) Try.underlying147 rfl rfl rfl sz_62 (by decide)) ?_
        refine KC 17 rfl (by kernel_rfl) (Nb rfl) (KI (o' := 19) Try.underlying62 rfl rfl rfl sz_25 (by decide)) ?_
        refine LAny.take 18 rfl (by kernel_rfl) (Nb rfl) (KL rfl (by repeat (first | exact Mh _ | apply Mt)) (by exact cvC_ld_b _ _ _ _ _ _ _ _ _ _ _ _ _ _ _ _)) ?_
        refine Kq 13 rfl rfl (by kernel_rfl) (KO (first := []) rfl en_152 rfl (Nb rfl) (fun w hw => c_f_Add V f bd V.b V.b w (hw _ (by repeat (first | exact Mh _ | apply Mt))) hbb.2.1 (by omega) (by omega)) ?_)
        refine Kq 19 rfl rfl (by kernel_rfl) (KO (first := []) rfl en_152 rfl (Nb rfl) (fun w hw => c_f_Add V f bd ((V.b + V.b) % V.p) V.b w (hw _ (by repeat (first | exact Mh _ | apply Mt))) hbb.2.1 (Nat.mod_lt _ (by omega)) (by omega)) ?_)
        refine KC 20 rfl (by kernel_rfl) (Nb rfl) (KW rfl) ?_
        refine KC 21 rfl (by kernel_rfl) (Nb rfl) (KI (o' := 60) Try.underlying147 rfl rfl rfl sz_25 (by decide)) ?_
        refine KAA 22 rfl rfl (by kernel_rfl) (by kernel_rfl) (KAN rfl rfl rfl sz_25 (by first | exact KJ _ | exact Kd _ _ _ | rfl) (by first | exact Ky _ | exact KAK _ _ _ | exact KZ rfl Kf) (by repeat (first | exact Sh _ | apply St_)) (by simp only [KAe]; decide) (cvC_set_t3 _ _ _ _ _ _ _ _ _ _ _ _ _ _) (by simp) ?_)
        refine Kj (by kernel_rfl) ?_
        refine KE (KB ?_)
        refine KA (KD rfl) (Nb rfl) ?_
        refine KA (KF rfl) (Nb rfl) ?_
        refine KG (KQ ?_)
        refine ⟨[_], .cons rfl .nil, fun a w' hr => ⟨b14, f, bd, rfl, ?_, hr.hp _ (by repeat (first | exact Mh _ | apply Mt)), hr.hp _ (by repeat (first | exact Mh _ | apply Mt)), hr.new (B := ⟨true, _, _, _⟩) (by repeat (first | exact Mh _ | apply Mt)) rfl, hnf, hnbd, hr.fr.below⟩⟩
        have hcv := hr.hp _ (show Item.blk b14 ⟨true, cvC V.id V.p (V.p - 3) V.b V.n V.x V.y false (blen V.n) (nby V.p) (decide (((V.id : Nat) : Int) = 7)) (.pointer (some ⟨f, 0, none⟩)) (thr V), 147, (0, 0)⟩ ∈ _ from (by repeat (first | exact Mh _ | apply Mt)))
        have hl : legB V = (decide (((V.id : Nat) : Int) = 7)) := by unfold legB; by_cases h7 : V.id = 7 <;> simp [h7]; omega
        have ha : V.a = V.p - 3 := by omega
        rw [← ha] at hcv
        unfold opL
        rw [hl]
        exact hcv
    ·
      refine KB ?_
      refine KA (KI (o' := 0) Try.underlying188 rfl rfl rfl sz_9 (by decide)) (Nb rfl) ?_
      refine LOps.det (KL rfl (by repeat (first | exact Mh _ | apply Mt)) (KP Try.underlying9 rfl (by first | rfl | exact Kn _ _ _ (by omega) | exact Kl _ (by omega) | exact Kh _ (by omega) | exact dv_m _ _ _ (by omega)))) (Nb rfl) ?_
      refine KA (KT (Det.eqs rfl rfl) (congrArg Value.bool (eq_str_f hA0))) (Nb rfl) ?_
      refine KG ?_
      refine Ku rfl ?_
      refine KB ?_
      refine KA (KD rfl) (Nb rfl) ?_
      refine KA (KI (o' := 0) Try.underlying188 rfl rfl rfl sz_9 (by decide)) (Nb rfl) ?_
      refine LOps.det (KL rfl (by repeat (first | exact Mh _ | apply Mt)) (KP Try.underlying9 rfl (by first | rfl | exact Kn _ _ _ (by omega) | exact Kl _ (by omega) | exact Kh _ (by omega) | exact dv_m _ _ _ (by omega)))) (Nb rfl) ?_
      refine KK rfl (KY (KO (first := []) rfl en_148 rfl (Nb rfl) (fun w hw => fhex s0 V.a w hA1) ?_))
      refine KA (KW rfl) (Nb rfl) ?_
      refine KA (KI (o' := 0) Try.underlying147 rfl rfl rfl sz_62 (by decide)) (Nb rfl) ?_
      refine KA (KI (o' := 10) Try.underlying62 rfl rfl rfl sz_25 (by decide)) (Nb rfl) ?_
      refine KK rfl (KAN rfl rfl rfl sz_25 (by first | exact KJ _ | exact Kd _ _ _ | rfl) (by first | exact Ky _ | exact KAK _ _ _ | exact KZ rfl Kf) (by repeat (first | exact Sh _ | apply St_)) (by simp only [KAe]; decide) (cvC_set_a _ _ _ _ _ _ _ _ _ _ _ _ _ _) (by simp) ?_)
      refine KG ?_
      refine KE ?_
      refine Kc [11] (by kernel_rfl) ?_
      refine KC 0 rfl (by kernel_rfl) (Nb rfl) (KD rfl) ?_
      refine KC 1 rfl (by kernel_rfl) (Nb rfl) (KI (o' := 3) Try.underlying188 rfl rfl rfl sz_9 (by decide)) ?_
      refine LAny.take 2 rfl (by kernel_rfl) (Nb rfl) (KL rfl (by repeat (first | exact Mh _ | apply Mt)) (KP Try.underlying9 rfl (by first | rfl | exact Kn _ _ _ (by omega) | exact Kl _ (by omega) | exact Kh _ (by omega) | exact dv_m _ _ _ (by omega)))) ?_
      refine KC 4 rfl (by kernel_rfl) (Nb rfl) (KI (o' := 4) Try.underlying188 rfl rfl rfl sz_9 (by decide)) ?_
      refine LAny.take 5 rfl (by kernel_rfl) (Nb rfl) (KL rfl (by repeat (first | exact Mh _ | apply Mt)) (KP Try.underlying9 rfl (by first | rfl | exact Kn _ _ _ (by omega) | exact Kl _ (by omega) | exact Kh _ (by omega) | exact dv_m _ _ _ (by omega)))) ?_
      refine Kq 3 rfl rfl (by kernel_rfl) (KO (first := []) rfl en_148 rfl (Nb rfl) (fun w hw => fhex s3 V.x w hX) ?_)
      refine Kq 6 rfl rfl (by kernel_rfl) (KO (first := []) rfl en_148 rfl (Nb rfl) (fun w hw => fhex s4 V.y w hY) ?_)
      refine KC 7 rfl (by kernel_rfl) (Nb rfl) (KT (KAl pl_60 zr_60 rfl (fill_pt _ _)) rfl) ?_
      refine KC 8 rfl (by kernel_rfl) (Nb rfl) (KW rfl) ?_
      refine KC 9 rfl (by kernel_rfl) (Nb rfl) (KI (o' := 0) Try.underlying147 rfl rfl rfl sz_62 (by decide)) ?_
      refine KC 10 rfl (by kernel_rfl) (Nb rfl) (KI (o' := 37) Try.underlying62 rfl rfl rfl sz_60 (by decide)) ?_
      refine KAA 11 rfl rfl (by kernel_rfl) (by kernel_rfl) (KAN rfl rfl rfl sz_60 (by first | exact KJ _ | exact Kd _ _ _ | rfl) (by first | exact Ky _ | exact KAK _ _ _ | exact KZ rfl Kf) (by repeat (first | exact Sh _ | apply St_)) (by simp only [KAe]; decide) (cvC_set_g _ _ _ _ _ _ _ _ _ _ _ _ _ _ _ _) (by simp) ?_)
      refine Kj (by kernel_rfl) ?_
      refine KE ?_
      refine Kc [18, 22] (by kernel_rfl) ?_
      refine KC 0 rfl (by kernel_rfl) (Nb rfl) (KD rfl) ?_
      refine KC 1 rfl (by kernel_rfl) (Nb rfl) (KD rfl) ?_
      refine KC 2 rfl (by kernel_rfl) (Nb rfl) (KD rfl) ?_
      refine KC 3 rfl (by kernel_rfl) (Nb rfl) (KW rfl) ?_
      refine KC 4 rfl (by kernel_rfl) (Nb rfl) (KI (o' := 0) Try.underlying147 rfl rfl rfl sz_62 (by decide)) ?_
      refine KC 5 rfl (by kernel_rfl) (Nb rfl) (KI (o' := 28) Try.underlying62 rfl rfl rfl sz_25 (by decide)) ?_
      refine LAny.take 6 rfl (by kernel_rfl) (Nb rfl) (KL rfl (by repeat (first | exact Mh _ | apply Mt)) (by exact cvC_ld_n _ _ _ _ _ _ _ _ _ _ _ _ _ _ _ _)) ?_
      refine KC 8 rfl (by kernel_rfl) (Nb rfl) (KD rfl) ?_
      refine KC 9 rfl (by kernel_rfl) (Nb rfl) (KW rfl) ?_
      refine KC 10 rfl (by kernel_rfl) (Nb rfl) (KI (o' := 0) Try.underlying194 rfl rfl rfl sz_25 (by decide)) ?_
      refine LAny.take 11 rfl (by kernel_rfl) (Nb rfl) (KL rfl (by repeat (first | exact Mh _ | apply Mt)) (by exact LoadV.first Try.underlying25 rfl sz_25 rfl (KJ _))) ?_
      refine Kq 7 rfl rfl (by kernel_rfl) (KO (first := []) rfl en_151 rfl (Nb rfl) (fun w hw => c_nat_Bits V.n hnW w) ?_)
      refine Kq 12 rfl rfl (by kernel_rfl) (KO (first := []) rfl en_151 rfl (Nb rfl) (fun w hw => c_nat_Bits V.p hpW w) ?_)
      refine KC 13 rfl (by kernel_rfl) (Nb rfl) (KH rfl rfl (KAG (b := 7) (by omega))) ?_
      refine KC 14 rfl (by kernel_rfl) (Nb rfl) (KH rfl rfl (br_quo (b := 8) (by omega) (by omega))) ?_
      refine KC 15 rfl (by kernel_rfl) (Nb rfl) (KW rfl) ?_
      refine KC 16 rfl (by kernel_rfl) (Nb rfl) (KI (o' := 0) Try.underlying147 rfl rfl rfl sz_62 (by decide)) ?_
      refine KC 17 rfl (by kernel_rfl) (Nb rfl) (KI (o' := 56) Try.underlying62 rfl rfl rfl sz_3 (by decide)) ?_
      refine KAA 18 rfl rfl (by kernel_rfl) (by kernel_rfl) (KAN rfl rfl rfl sz_3 (by first | exact KJ _ | exact Kd _ _ _ | rfl) (by first | exact Ky _ | exact KAK _ _ _ | exact KZ rfl Kf) (by repeat (first | exact Sh _ | apply St_)) (by simp only [KAe]; decide) (cvC_set_bits _ _ _ _ _ _ _ _ _ _ _ _ _ _) (by simp) ?_)
      refine KC 19 rfl (by kernel_rfl) (Nb rfl) (KW rfl) ?_
      refine KC 20 rfl (by kernel_rfl) (Nb rfl) (KI (o' := 0) Try.underlying147 rfl rfl rfl sz_62 (by decide)) ?_
      refine KC 21 rfl (by kernel_rfl) (Nb rfl) (KI (o' := 57) Try.underlying62 rfl rfl rfl sz_3 (by decide)) ?_
      refine KAA 22 rfl rfl (by kernel_rfl) (by kernel_rfl) (KAN rfl rfl rfl sz_3 (by first | exact KJ _ | exact Kd _ _ _ | rfl) (by first | exact Ky _ | exact KAK _ _ _ | exact KZ rfl Kf) (by repeat (first | exact Sh _ | apply St_)) (by simp only [KAe]; decide) (cvC_set_size _ _ _ _ _ _ _ _ _ _ _ _ _ _) (by simp) ?_)
      refine Kj (by kernel_rfl) ?_
      refine KE ?_
      by_cases hi1 : ((V.id : Nat) : Int) = 1
      ·
        refine KB ?_
        refine KA (KD rfl) (Nb rfl) ?_
        refine KA (KD rfl) (Nb rfl) ?_
        refine KA (KH (v := .bool true) rfl rfl (br_t KAc hi1)) (Nb rfl) ?_
        refine KA (KD rfl) (Nb rfl) ?_
        refine Kr rfl rfl rfl (Nb rfl) ?_
        refine Kr rfl rfl rfl (Nb rfl) ?_
        refine KA (Km rfl rfl) (Nb rfl) ?_
        refine KA (KW rfl) (Nb rfl) ?_
        refine KA (KI (o' := 0) Try.underlying147 rfl rfl rfl sz_62 (by decide)) (Nb rfl) ?_
        refine KA (KI (o' := 58) Try.underlying62 rfl rfl rfl sz_4 (by decide)) (Nb rfl) ?_
        refine KK rfl (KAN rfl rfl rfl sz_4 (by first | exact KJ _ | exact Kd _ _ _ | rfl) (by first | exact Ky _ | exact KAK _ _ _ | exact KZ rfl Kf) (by repeat (first | exact Sh _ | apply St_)) (by simp only [KAe]; decide) (cvC_set_leg _ _ _ _ _ _ _ _ _ _ _ _ _ _) (by simp) ?_)
        refine KG ?_
        refine KE ?_
        refine Kc [22] (by kernel_rfl) ?_
        refine KC 0 rfl (by kernel_rfl) (Nb rfl) (KD rfl) ?_
        refine KC 1 rfl (by kernel_rfl) (Nb rfl) (KD rfl) ?_
        refine KC 2 rfl (by kernel_rfl) (Nb rfl) (KD rfl) ?_
        refine KC 3 rfl (by kernel_rfl) (Nb rfl) (KD rfl) ?_
        refine KC 4 rfl (by kernel_rfl) (Nb rfl) (KW rfl) ?_
        refine KC 5 rfl (by kernel_rfl) (Nb rfl) (KI (o' := 0) Try.underlying147 rfl rfl rfl sz_62 (by decide)) ?_
        refine KC 6 rfl (by kernel_rfl) (Nb rfl) (KI (o' := 19) Try.underlying62 rfl rfl rfl sz_25 (by decide)) ?_
        refine LAny.take 7 rfl (by kernel_rfl) (Nb rfl) (KL rfl (by repeat (first | exact Mh _ | apply Mt)) (by exact cvC_ld_b _ _ _ _ _ _ _ _ _ _ _ _ _ _ _ _)) ?_
        refine KC 8 rfl (by kernel_rfl) (Nb rfl) (KD rfl) ?_
        refine KC 9 rfl (by kernel_rfl) (Nb rfl) (KW rfl) ?_
        refine KC 10 rfl (by kernel_rfl) (Nb rfl) (KI (o' := 0) Try.underlying147 rfl rfl rfl sz_62 (by decide)) ?_
        refine KC 11 rfl (by kernel_rfl) (Nb rfl) (KI (o' := 19) Try.underlying62 rfl rfl rfl sz_25 (by decide)) ?_
        refine LAny.take 12 rfl (by kernel_rfl) (Nb rfl) (KL rfl (by repeat (first | exact Mh _ | apply Mt)) (by exact cvC_ld_b _ _ _ _ _ _ _ _ _ _ _ _ _ _ _ _)) ?_
        refine KC 14 rfl (by kernel_rfl) (Nb rfl) (KD rfl) ?_
        refine KC 15 rfl (by kernel_rfl) (Nb rfl) (KW rfl) ?_
        refine KC 16 rfl (by kernel_rfl) (Nb rfl) (KI (o' := 0) Try.underlying147 rfl rfl rfl sz_62 (by decide)) ?_
        refine KC 17 rfl (by kernel_rfl) (Nb rfl) (KI (o' := 19) Try.underlying62 rfl rfl rfl sz_25 (by decide)) ?_
        refine LAny.take 18 rfl (by kernel_rfl) (Nb rfl) (KL rfl (by repeat (first | exact Mh _ | apply Mt)) (by exact cvC_ld_b _ _ _ _ _ _ _ _ _ _ _ _ _ _ _ _)) ?_
        refine Kq 13 rfl rfl (by kernel_rfl) (KO (first := []) rfl en_152 rfl (Nb rfl) (fun w hw => c_f_Add V f bd V.b V.b w (hw _ (by repeat (first | exact Mh _ | apply Mt))) hbb.2.1 (by omega) (by omega)) ?_)
        refine Kq 19 rfl rfl (by kernel_rfl) (KO (first := []) rfl en_152 rfl (Nb rfl) (fun w hw => c_f_Add V f bd ((V.b + V.b) % V.p) V.b w (hw _ (by repeat (first | exact Mh _ | apply Mt))) hbb.2.1 (Nat.mod_lt _ (by omega)) (by omega)) ?_)
        refine KC 20 rfl (by kernel_rfl) (Nb rfl) (KW rfl) ?_
        refine KC 21 rfl (by kernel_rfl) (Nb rfl) (KI (o' := 60) Try.underlying147 rfl rfl rfl sz_25 (by decide)) ?_
        refine KAA 22 rfl rfl (by kernel_rfl) (by kernel_rfl) (KAN rfl rfl rfl sz_25 (by first | exact KJ _ | exact Kd _ _ _ | rfl) (by first | exact Ky _ | exact KAK _ _ _ | exact KZ rfl Kf) (by repeat (first | exact Sh _ | apply St_)) (by simp only [KAe]; decide) (cvC_set_t3 _ _ _ _ _ _ _ _ _ _ _ _ _ _) (by simp) ?_)
        refine Kj (by kernel_rfl) ?_
        refine KE (KB ?_)
        refine KA (KD rfl) (Nb rfl) ?_
        refine KA (KF rfl) (Nb rfl) ?_
        refine KG (KQ ?_)
        refine ⟨[_], .cons rfl .nil, fun a w' hr => ⟨b14, f, bd, rfl, ?_, hr.hp _ (by repeat (first | exact Mh _ | apply Mt)), hr.hp _ (by repeat (first | exact Mh _ | apply Mt)), hr.new (B := ⟨true, _, _, _⟩) (by repeat (first | exact Mh _ | apply Mt)) rfl, hnf, hnbd, hr.fr.below⟩⟩
        have hcv := hr.hp _ (show Item.blk b14 ⟨true, cvC V.id V.p V.a V.b V.n V.x V.y false (blen V.n) (nby V.p) true (.pointer (some ⟨f, 0, none⟩)) (thr V), 147, (0, 0)⟩ ∈ _ from (by repeat (first | exact Mh _ | apply Mt)))
        have hl : legB V = true := by unfold legB; exact decide_eq_true (by omega)
        unfold opL
        rw [hl]
        exact hcv
      ·
        refine KB ?_
        refine KA (KD rfl) (Nb rfl) ?_
        refine KA (KD rfl) (Nb rfl) ?_
        refine KA (KH (v := .bool false) rfl rfl (br_f KAc hi1)) (Nb rfl) ?_
        refine KA (KD rfl) (Nb rfl) ?_
        refine Kg rfl rfl (KD rfl) (Nb rfl) ?_
        refine Kg rfl rfl (KH (v := .bool (decide (((V.id : Nat) : Int) = 7))) rfl rfl KAc) (Nb rfl) ?_
        refine KA (KAL rfl rfl) (Nb rfl) ?_
        refine KA (KW rfl) (Nb rfl) ?_
        refine KA (KI (o' := 0) Try.underlying147 rfl rfl rfl sz_62 (by decide)) (Nb rfl) ?_
        refine KA (KI (o' := 58) Try.underlying62 rfl rfl rfl sz_4 (by decide)) (Nb rfl) ?_
        refine KK rfl (KAN rfl rfl rfl sz_4 (by first | exact KJ _ | exact Kd _ _ _ | rfl) (by first | exact Ky _ | exact KAK _ _ _ | exact KZ rfl Kf) (by repeat (first | exact Sh _ | apply St_)) (by simp only [KAe]; decide) (cvC_set_leg _ _ _ _ _ _ _ _ _ _ _ _ _ _) (by simp) ?_)
        refine KG ?_
        refine KE ?_
        refine Kc [22] (by kernel_rfl) ?_
        refine KC 0 rfl (by kernel_rfl) (Nb rfl) (KD rfl) ?_
        refine KC 1 rfl (by kernel_rfl) (Nb rfl) (KD rfl) ?_
        refine KC 2 rfl (by kernel_rfl) (Nb rfl) (KD rfl) ?_
        refine KC 3 rfl (by kernel_rfl) (Nb rfl) (KD rfl) ?_
        refine KC 4 rfl (by kernel_rfl) (Nb rfl) (KW rfl) ?_
        refine KC 5 rfl (by kernel_rfl) (Nb rfl) (KI (o' := 0) Try.underlying147 rfl rfl rfl sz_62 (by decide)) ?_
        refine KC 6 rfl (by kernel_rfl) (Nb rfl) (KI (o' := 19) Try.underlying62 rfl rfl rfl sz_25 (by decide)) ?_
        refine LAny.take 7 rfl (by kernel_rfl) (Nb rfl) (KL rfl (by repeat (first | exact Mh _ | apply Mt)) (by exact cvC_ld_b _ _ _ _ _ _ _ _ _ _ _ _ _ _ _ _)) ?_
        refine KC 8 rfl (by kernel_rfl) (Nb rfl) (KD rfl) ?_
        refine KC 9 rfl (by kernel_rfl) (Nb rfl) (KW rfl) ?_
        refine KC 10 rfl (by kernel_rfl) (Nb rfl) (KI (o' := 0) Try.underlying147 rfl rfl rfl sz_62 (by decide)) ?_
        refine KC 11 rfl (by kernel_rfl) (Nb rfl) (KI (o' := 19) Try.underlying62 rfl rfl rfl sz_25 (by decide)) ?_
        refine LAny.take 12 rfl (by kernel_rfl) (Nb rfl) (KL rfl (by repeat (first | exact Mh _ | apply Mt)) (by exact cvC_ld_b _ _ _ _ _ _ _ _ _ _ _ _ _ _ _ _)) ?_
        refine KC 14 rfl (by kernel_rfl) (Nb rfl) (KD rfl) ?_
        refine KC 15 rfl (by kernel_rfl) (Nb rfl) (KW rfl) ?_
        refine KC 16 rfl (by kernel_rfl) (Nb rfl) (KI (o' := 0) Try.underlying147 rfl rfl rfl sz_62 (by decide)) ?_
        refine KC 17 rfl (by kernel_rfl) (Nb rfl) (KI (o' := 19) Try.underlying62 rfl rfl rfl sz_25 (by decide)) ?_
        refine LAny.take 18 rfl (by kernel_rfl) (Nb rfl) (KL rfl (by repeat (first | exact Mh _ | apply Mt)) (by exact cvC_ld_b _ _ _ _ _ _ _ _ _ _ _ _ _ _ _ _)) ?_
        refine Kq 13 rfl rfl (by kernel_rfl) (KO (first := []) rfl en_152 rfl (Nb rfl) (fun w hw => c_f_Add V f bd V.b V.b w (hw _ (by repeat (first | exact Mh _ | apply Mt))) hbb.2.1 (by omega) (by omega)) ?_)
        refine Kq 19 rfl rfl (by kernel_rfl) (KO (first := []) rfl en_152 rfl (Nb rfl) (fun w hw => c_f_Add V f bd ((V.b + V.b) % V.p) V.b w (hw _ (by repeat (first | exact Mh _ | apply Mt))) hbb.2.1 (Nat.mod_lt _ (by omega)) (by omega)) ?_)
        refine KC 20 rfl (by kernel_rfl) (Nb rfl) (KW rfl) ?_
        refine KC 21 rfl (by kernel_rfl) (Nb rfl) (KI (o' := 60) Try.underlying147 rfl rfl rfl sz_25 (by decide)) ?_
        refine KAA 22 rfl rfl (by kernel_rfl) (by kernel_rfl) (KAN rfl rfl rfl sz_25 (by first | exact KJ _ | exact Kd _ _ _ | rfl) (by first | exact Ky _ | exact KAK _ _ _ | exact KZ rfl Kf) (by repeat (first | exact Sh _ | apply St_)) (by simp only [KAe]; decide) (cvC_set_t3 _ _ _ _ _ _ _ _ _ _ _ _ _ _) (by simp) ?_)
        refine Kj (by kernel_rfl) ?_
        refine KE (KB ?_)
        refine KA (KD rfl) (Nb rfl) ?_
        refine KA (KF rfl) (Nb rfl) ?_
        refine KG (KQ ?_)
        refine ⟨[_], .cons rfl .nil, fun a w' hr => ⟨b14, f, bd, rfl, ?_, hr.hp _ (by repeat (first | exact Mh _ | apply Mt)), hr.hp _ (by repeat (first | exact Mh _ | apply Mt)), hr.new (B := ⟨true, _, _, _⟩) (by repeat (first | exact Mh _ | apply Mt)) rfl, hnf, hnbd, hr.fr.below⟩⟩
        have hcv := hr.hp _ (show Item.blk b14 ⟨true, cvC V.id V.p V.a V.b V.n V.x V.y false (blen V.n) (nby V.p) (decide (((V.id : Nat) : Int) = 7)) (.pointer (some ⟨f, 0, none⟩)) (thr V), 147, (0, 0)⟩ ∈ _ from (by repeat (first | exact Mh _ | apply Mt)))
        have hl : legB V = (decide (((V.id : Nat) : Int) = 7)) := by unfold legB; by_cases h7 : V.id = 7 <;> simp [h7]; omega
        unfold opL
        rw [hl]
        exact hcv
end Go.Proofs.Ytljblbgogjieaaa
set_option linter.unusedVariables false
set_option linter.unusedSimpArgs false
set_option maxRecDepth 20000
namespace Go.Proofs.Ytljblbgogjieaaa
open Go Go.RowKit
theorem c_Num (x : Int) (w : World)  : Calls Try.prog 46 ([.int .i64 x] : List Value).toArray w (fun e w' => e = .returned (.int .i64 x) ∧ Below w.heap.size w w') := by
  refine KAB (N := 4) (rs := [.tmp 2]) [] Try.func46 rfl Try.ntmps46 Try.results46 (Nb rfl) trivial rfl ?_
  show LCode _ _ _ ⟨_, _⟩ _
  refine KE (KB ?_)
  refine KA (KF (v := .int .i64 ((0 : Nat) : Int)) rfl) (Nb rfl) ?_
  refine KG ?_
  refine KE (KB ?_)
  refine KA (KD rfl) (Nb rfl) ?_
  refine KA (KF rfl) (Nb rfl) ?_
  refine KG (KQ ?_)
  refine ⟨[_], .cons rfl .nil, fun a w' hr => ⟨?_, hr.fr.below⟩⟩
  rfl
theorem one_cells9 {x : Nat} (hx : x < 18446744073709551616) : vec .u64 9 (fun j => if j = 0 then x else 0) = natL x := KAP fun i _ => by rw [limb_small hx]
theorem u64_w9 {x : Nat} (hx : x < 18446744073709551616) : x < W9 := by
  obtain ⟨k, hk⟩ : ∃ k : Nat, k = 9 := ⟨9, rfl⟩
  rw [← w9 hk]
  have h : x < 2 ^ 64 := hx
  exact Nat.lt_of_lt_of_le h (Nat.pow_le_pow_right (by decide) (by omega))
theorem c_One (x : Nat) (w : World) (hx : x < 18446744073709551616) : Calls Try.prog 55 ([.int .u64 ((x : Nat) : Int)] : List Value).toArray w (fun e w' => e = .returned (natV x) ∧ Below w.heap.size w w') := by
  refine KAB (N := 8) (rs := [.cell 2 25]) [] Try.func55 rfl Try.ntmps55 Try.results55 (Nb rfl) trivial rfl ?_
  show LCode _ _ _ ⟨_, _⟩ _
  refine KE (KB ?_)
  refine KK rfl (KY (KS (Kp zr_25) (Nb rfl) (fun b2 => ?_)))
  refine KG ?_
  refine KE (KB ?_)
  refine KK rfl (KY (KS (Kp zr_25) (Nb rfl) (fun b3 => ?_)))
  refine KG ?_
  refine KE (KB ?_)
  refine KA (KD rfl) (Nb rfl) ?_
  refine KA (KI (o' := 0) Try.underlying25 rfl rfl rfl sz_23 (by decide)) (Nb rfl) ?_
  refine KA (Kx (i := 0) Try.underlying23 sz_22 rfl rfl (by decide)) (Nb rfl) ?_
  refine KK rfl (Kw rfl rfl rfl sz_22 (by repeat (first | exact Sh _ | apply St_)) (by first | (simp only [KM, KJ, KN, KAI]; omega) | (simp; omega)) (by first | exact KAX _ _ _ _ _ | exact KAb _ _ _ _ (by omega) | exact KAZ _ _ _ _ | rfl) (by simp) ?_)
  refine KG ?_
  refine KE ?_
  refine LCode.sub (Sub.cells (b := b3) (cs' := natL x) (by repeat (first | exact Sh _ | apply St_)) (one_cells9 hx)) ?_
  refine KB ?_
  refine LOps.det (KL rfl (by repeat (first | exact Mh _ | apply Mt)) (by exact KR Try.underlying25 rfl sz_25)) (Nb rfl) ?_
  refine KK rfl (Kb rfl rfl sz_25 (by repeat (first | exact Ky _ | exact KAT _ _ _ | exact KAJ _ | exact KAK _ _ _ | exact KAV _ _ _ | exact Kf | refine KZ rfl ?_ | refine Ko ?_ ?_)) (by repeat (first | exact Sh _ | apply St_)) (by first | exact KJ _ | exact KM _ _ _ | exact KN _ | exact Kd _ _ _ | exact KAD _ _ _ | rfl | simp [KM, KJ, KN]) ?_)
  refine KG (KQ ?_)
  refine ⟨[_], .cons ⟨_, _, _, rfl, (by repeat (first | exact Mh _ | apply Mt)), by exact KR Try.underlying25 rfl sz_25⟩ .nil, fun a w' hr => ⟨?_, hr.fr.below⟩⟩
  rfl
theorem zero_w9 : 0 < W9 := w9_pos
theorem cv13_is : cvI 13 = some cv13 := rfl
end Go.Proofs.Ytljblbgogjieaaa
set_option linter.unusedVariables false
set_option linter.unusedSimpArgs false
set_option maxRecDepth 20000
namespace Go.Proofs.Ytljblbgogjieaaa
open Go Go.RowKit
open Grp
theorem pt_ld1 (X Y : Nat) (i : Bool) (wr : Bool) (e : TypeId) (fz : Nat × Nat) : LoadV Try.prog 25 ⟨wr, ptL X Y i, e, fz⟩ 9 (natV Y) := LoadV.mid Try.underlying25 rfl sz_25 (show ptL X Y i = natL X ++ (natL Y ++ [.bool i]) from rfl) (KJ _) (KJ _)
theorem pt_gt (X Y : Nat) (i : Bool) : (ptL X Y i)[18]? = some (.bool i) := get_mid (A := natL X ++ natL Y) (D := []) (by simp [ptL]) (by simp [KJ])
theorem eq_pt (X Y : Nat) (i : Bool) (X' Y' : Nat) (i' : Bool) (hX : X < W9) (hY : Y < W9) (hX' : X' < W9) (hY' : Y' < W9) : EqD 4 Try.prog 60 (ptV X Y i) (ptV X' Y' i') (decide (X = X') && (decide (Y = Y') && ((i == i') && true))) := by
  have d1 : ∀ A B i, ((ptL A B i).drop 0).take 9 = natL A := fun A B i => by
    rw [List.drop_zero]; unfold ptL; rw [List.take_left' (KJ A)]
  have d2 : ∀ A B i, ((ptL A B i).drop 9).take 9 = natL B := fun A B i => by
    unfold ptL; rw [List.drop_left' (KJ A), List.take_left' (KJ B)]
  exact EqD.struct (fs := [_, _, _]) Try.underlying60 (by kernel_rfl) (EqFs.cons (by decide) (PartOf.agg Try.underlying25 rfl sz_25 (d1 X Y i)) (PartOf.agg Try.underlying25 rfl sz_25 (d1 X' Y' i')) (eq_nat X X' hX hX')
    (EqFs.cons (by decide) (PartOf.agg Try.underlying25 rfl sz_25 (d2 X Y i)) (PartOf.agg Try.underlying25 rfl sz_25 (d2 X' Y' i')) (eq_nat Y Y' hY hY')
    (EqFs.cons (by decide) (PartOf.one Try.underlying4 rfl (pt_gt X Y i)) (PartOf.one Try.underlying4 rfl (pt_gt X' Y' i')) ((EqD.bool Try.underlying4).mono (by decide)) EqFs.nil)))
theorem pt_w9 {V : Cv} (hok : V.Ok) (P : Grp.Pt V.p) : xv P < W9 ∧ yv P < W9 := ⟨w9_521 (Nat.lt_trans (xv_lt P) hok.bounds.2.1), w9_521 (Nat.lt_trans (yv_lt P) hok.bounds.2.1)⟩
def ptP {p : Nat} (P : Grp.Pt p) : Value := ptV (xv P) (yv P) (iv P)
theorem eq_ptP_t {V : Cv} (hok : V.Ok) {P Q : Grp.Pt V.p} (h : P = Q) : EqD 4 Try.prog 60 (ptP P) (ptP Q) true := by
  subst h
  have := eq_pt (xv P) (yv P) (iv P) (xv P) (yv P) (iv P) (pt_w9 hok P).1 (pt_w9 hok P).2 (pt_w9 hok P).1 (pt_w9 hok P).2
  rwa [show (decide (xv P = xv P) && (decide (yv P = yv P) && ((iv P == iv P) && true))) = true by simp] at this
theorem fill_ptI (X Y : Nat) (i : Bool) : fillL [(0, 9), (9, 9), (18, 1)] (vec .u64 9 (fun _ => 0) ++ (vec .u64 9 (fun _ => 0) ++ [Value.bool false])) [(0, natV X), (1, natV Y), (2, .bool i)] = some (ptL X Y i) := by
  refine fillL_step (A := []) (B := vec .u64 9 (fun _ => 0)) (D := vec .u64 9 (fun _ => 0) ++ [Value.bool false]) (cs := natL X) rfl rfl (KJ _) rfl rfl (KM _ _ _) ?_
  refine fillL_step (A := natL X) (B := vec .u64 9 (fun _ => 0)) (D := [Value.bool false]) (cs := natL Y) rfl rfl (KJ _) (by simp) (KJ _) (KM _ _ _) ?_
  refine (fillL_step (A := natL X ++ natL Y) (B := [Value.bool false]) (D := []) (cs := [Value.bool i]) rfl rfl rfl (by simp) (by simp [KJ]) rfl rfl).trans ?_
  simp [ptL]
theorem fill_ptInf : fillL [(0, 9), (9, 9), (18, 1)] (vec .u64 9 (fun _ => 0) ++ (vec .u64 9 (fun _ => 0) ++ [Value.bool false])) [(2, .bool true)] = some (ptL 0 0 true) := by
  refine (fillL_step (A := vec .u64 9 (fun _ => 0) ++ vec .u64 9 (fun _ => 0)) (B := [Value.bool false]) (D := []) (cs := [Value.bool true]) rfl rfl rfl (by simp) (by simp [KM]) rfl rfl).trans ?_
  simp [ptL, natL, vec_zeros 9]
section
variable (V : Cv) (hok : V.Ok) (f bd : Nat)
include hok
theorem c_F_Add (X Y : Fin V.p) (w : World) (hf : (Item.blk f ⟨false, fldL V.p bd, 194, (0, 0)⟩).holds w) : Calls Try.prog 152 ([.pointer (some ⟨f, 0, none⟩), natV X.val, natV Y.val] : List Value).toArray w (fun e w' => e = .returned (natV (X + Y).val) ∧ Below w.heap.size w w') := by
  have := c_f_Add V f bd X.val Y.val w hf hok.bounds.2.1 X.isLt Y.isLt
  rwa [← Fin.val_add] at this
theorem c_F_Mul (X Y : Fin V.p) (w : World) (hf : (Item.blk f ⟨false, fldL V.p bd, 194, (0, 0)⟩).holds w) (hbd : (Item.blk bd ⟨false, dvL V.p, 241, (0, 0)⟩).holds w) : Calls Try.prog 156 ([.pointer (some ⟨f, 0, none⟩), natV X.val, natV Y.val] : List Value).toArray w (fun e w' => e = .returned (natV (X * Y).val) ∧ Below w.heap.size w w') := by
  have hb := hok.bounds
  have hpW := w9_521 hb.2.1
  have := c_f_Mul V f bd X.val Y.val w hf hbd (by omega) hpW (Nat.lt_trans X.isLt hpW) (Nat.lt_trans Y.isLt hpW)
  rwa [← Fin.val_mul] at this
end
theorem a_val {V : Cv} (hok : V.Ok) : natV V.a = natV V.A.val := by rw [hok.A_val hok.bounds.2.2.1]
theorem b_val {V : Cv} (hok : V.Ok) : natV V.b = natV V.B.val := by rw [hok.B_val hok.bounds.2.2.2.1]
def acC (id p a b n gx gy : Nat) (inf : Bool) (bits size : Nat) (leg : Bool) : List Value := [.int .i64 ((id : Nat) : Int)] ++ (natL p ++ (natL a ++ (natL b ++ (natL n ++ (ptL gx gy inf ++ ([.int .i64 ((bits : Nat) : Int)] ++ ([.int .i64 ((size : Nat) : Int)] ++ [.bool leg])))))))
def acL (V : Cv) : List Value := acC V.id V.p V.a V.b V.n V.x V.y false (blen V.n) (nby V.p) (legB V)
theorem KAg (id p a b n gx gy : Nat) (inf : Bool) (bits size : Nat) (leg : Bool) : (acC id p a b n gx gy inf bits size leg).length = 59 := by simp [acC, KJ, Kd]
theorem KAf (V : Cv) : (acL V).length = 59 := KAg _ _ _ _ _ _ _ _ _ _ _
theorem acC_one (id p a b n gx gy : Nat) (inf : Bool) (bits size : Nat) (leg : Bool) : AllOne (acC id p a b n gx gy inf bits size leg) := by
  unfold acC
  repeat (first | exact Ky _ | exact KAK _ _ _ | exact Kf | refine KZ rfl ?_ | refine Ko ?_ ?_)
theorem acL_one (V : Cv) : AllOne (acL V) := acC_one _ _ _ _ _ _ _ _ _ _ _
theorem ac_at_p (id p a b n gx gy : Nat) (inf : Bool) (bits size : Nat) (leg : Bool) : acC id p a b n gx gy inf bits size leg = ([.int .i64 ((id : Nat) : Int)]) ++ ((natL p) ++ (natL a ++ (natL b ++ (natL n ++ (ptL gx gy inf ++ ([.int .i64 ((bits : Nat) : Int)] ++ ([.int .i64 ((size : Nat) : Int)] ++ ([.bool leg])))))))) := by simp only [acC, List.append_assoc, List.append_nil, List.nil_append]
theorem ac_len_p (id p a b n gx gy : Nat) (inf : Bool) (bits size : Nat) (leg : Bool) : ([.int .i64 ((id : Nat) : Int)] : List Value).length = 1 := by simp [KJ, Kd]
theorem ac_ld_p (id p a b n gx gy : Nat) (inf : Bool) (bits size : Nat) (leg : Bool) (wr : Bool) (e : TypeId) (fz : Nat × Nat) : LoadV Try.prog 25 ⟨wr, acC id p a b n gx gy inf bits size leg, e, fz⟩ 1 (.agg (natL p).toArray) := LoadV.mid Try.underlying25 rfl sz_25 (ac_at_p id p a b n gx gy inf bits size leg) (ac_len_p id p a b n gx gy inf bits size leg) (by simp [KJ, Kd])
theorem ac_at_n (id p a b n gx gy : Nat) (inf : Bool) (bits size : Nat) (leg : Bool) : acC id p a b n gx gy inf bits size leg = ([.int .i64 ((id : Nat) : Int)] ++ (natL p ++ (natL a ++ (natL b)))) ++ ((natL n) ++ (ptL gx gy inf ++ ([.int .i64 ((bits : Nat) : Int)] ++ ([.int .i64 ((size : Nat) : Int)] ++ ([.bool leg]))))) := by simp only [acC, List.append_assoc, List.append_nil, List.nil_append]
theorem ac_len_n (id p a b n gx gy : Nat) (inf : Bool) (bits size : Nat) (leg : Bool) : ([.int .i64 ((id : Nat) : Int)] ++ (natL p ++ (natL a ++ (natL b))) : List Value).length = 28 := by simp [KJ, Kd]
theorem ac_ld_n (id p a b n gx gy : Nat) (inf : Bool) (bits size : Nat) (leg : Bool) (wr : Bool) (e : TypeId) (fz : Nat × Nat) : LoadV Try.prog 25 ⟨wr, acC id p a b n gx gy inf bits size leg, e, fz⟩ 28 (.agg (natL n).toArray) := LoadV.mid Try.underlying25 rfl sz_25 (ac_at_n id p a b n gx gy inf bits size leg) (ac_len_n id p a b n gx gy inf bits size leg) (by simp [KJ, Kd])
theorem ac_at_g (id p a b n gx gy : Nat) (inf : Bool) (bits size : Nat) (leg : Bool) : acC id p a b n gx gy inf bits size leg = ([.int .i64 ((id : Nat) : Int)] ++ (natL p ++ (natL a ++ (natL b ++ (natL n))))) ++ ((ptL gx gy inf) ++ ([.int .i64 ((bits : Nat) : Int)] ++ ([.int .i64 ((size : Nat) : Int)] ++ ([.bool leg])))) := by simp only [acC, List.append_assoc, List.append_nil, List.nil_append]
theorem ac_len_g (id p a b n gx gy : Nat) (inf : Bool) (bits size : Nat) (leg : Bool) : ([.int .i64 ((id : Nat) : Int)] ++ (natL p ++ (natL a ++ (natL b ++ (natL n)))) : List Value).length = 37 := by simp [KJ, Kd]
theorem ac_ld_g (id p a b n gx gy : Nat) (inf : Bool) (bits size : Nat) (leg : Bool) (wr : Bool) (e : TypeId) (fz : Nat × Nat) : LoadV Try.prog 60 ⟨wr, acC id p a b n gx gy inf bits size leg, e, fz⟩ 37 (.agg (ptL gx gy inf).toArray) := LoadV.mid Try.underlying60 rfl sz_60 (ac_at_g id p a b n gx gy inf bits size leg) (ac_len_g id p a b n gx gy inf bits size leg) (by simp [KJ, Kd])
theorem ac_at_bits (id p a b n gx gy : Nat) (inf : Bool) (bits size : Nat) (leg : Bool) : acC id p a b n gx gy inf bits size leg = ([.int .i64 ((id : Nat) : Int)] ++ (natL p ++ (natL a ++ (natL b ++ (natL n ++ (ptL gx gy inf)))))) ++ (([.int .i64 ((bits : Nat) : Int)]) ++ ([.int .i64 ((size : Nat) : Int)] ++ ([.bool leg]))) := by simp only [acC, List.append_assoc, List.append_nil, List.nil_append]
theorem ac_len_bits (id p a b n gx gy : Nat) (inf : Bool) (bits size : Nat) (leg : Bool) : ([.int .i64 ((id : Nat) : Int)] ++ (natL p ++ (natL a ++ (natL b ++ (natL n ++ (ptL gx gy inf))))) : List Value).length = 56 := by simp [KJ, Kd]
theorem ac_gt_bits (id p a b n gx gy : Nat) (inf : Bool) (bits size : Nat) (leg : Bool) : (acC id p a b n gx gy inf bits size leg)[56]? = some (.int .i64 ((bits : Nat) : Int)) := get_mid (ac_at_bits id p a b n gx gy inf bits size leg) (ac_len_bits id p a b n gx gy inf bits size leg)
theorem ac_at_size (id p a b n gx gy : Nat) (inf : Bool) (bits size : Nat) (leg : Bool) : acC id p a b n gx gy inf bits size leg = ([.int .i64 ((id : Nat) : Int)] ++ (natL p ++ (natL a ++ (natL b ++ (natL n ++ (ptL gx gy inf ++ ([.int .i64 ((bits : Nat) : Int)]))))))) ++ (([.int .i64 ((size : Nat) : Int)]) ++ ([.bool leg])) := by simp only [acC, List.append_assoc, List.append_nil, List.nil_append]
theorem ac_len_size (id p a b n gx gy : Nat) (inf : Bool) (bits size : Nat) (leg : Bool) : ([.int .i64 ((id : Nat) : Int)] ++ (natL p ++ (natL a ++ (natL b ++ (natL n ++ (ptL gx gy inf ++ ([.int .i64 ((bits : Nat) : Int)])))))) : List Value).length = 57 := by simp [KJ, Kd]
theorem ac_gt_size (id p a b n gx gy : Nat) (inf : Bool) (bits size : Nat) (leg : Bool) : (acC id p a b n gx gy inf bits size leg)[57]? = some (.int .i64 ((size : Nat) : Int)) := get_mid (ac_at_size id p a b n gx gy inf bits size leg) (ac_len_size id p a b n gx gy inf bits size leg)
theorem ac_ld_gx (id p a b n gx gy : Nat) (inf : Bool) (bits size : Nat) (leg : Bool) (wr : Bool) (e : TypeId) (fz : Nat × Nat) : LoadV Try.prog 25 ⟨wr, acC id p a b n gx gy inf bits size leg, e, fz⟩ 37 (.agg (natL gx).toArray) := LoadV.mid (pre := [.int .i64 ((id : Nat) : Int)] ++ (natL p ++ (natL a ++ (natL b ++ (natL n))))) (post := natL gy ++ ([.bool inf] ++ ([.int .i64 ((bits : Nat) : Int)] ++ ([.int .i64 ((size : Nat) : Int)] ++ ([.bool leg]))))) Try.underlying25 rfl sz_25 (by simp only [acC, ptL, List.append_assoc, List.append_nil, List.nil_append]) (by simp [KJ, Kd]) (by simp [KJ, Kd])
theorem ac_gt_inf (id p a b n gx gy : Nat) (inf : Bool) (bits size : Nat) (leg : Bool) : (acC id p a b n gx gy inf bits size leg)[55]? = some (.bool inf) := get_mid (A := [.int .i64 ((id : Nat) : Int)] ++ (natL p ++ (natL a ++ (natL b ++ (natL n ++ (natL gx ++ (natL gy))))))) (D := [.int .i64 ((bits : Nat) : Int)] ++ ([.int .i64 ((size : Nat) : Int)] ++ ([.bool leg]))) (by simp only [acC, ptL, List.append_assoc, List.append_nil, List.nil_append, List.cons_append]) (by simp [KJ, Kd])
theorem op_ac (V : Cv) (f : Nat) : opL V f = acL V ++ (.pointer (some ⟨f, 0, none⟩) :: natL (thr V)) := by
  simp only [opL, cvC, acL, acC, List.append_assoc, List.cons_append, List.nil_append]
theorem op_ld_ac (V : Cv) (f : Nat) (wr : Bool) (e : TypeId) (fz : Nat × Nat) : LoadV Try.prog 62 ⟨wr, opL V f, e, fz⟩ 0 (.agg (acL V).toArray) := LoadV.first Try.underlying62 rfl sz_62 (op_ac V f) (KAf V)
end Go.Proofs.Ytljblbgogjieaaa
set_option linter.unusedVariables false
set_option linter.unusedSimpArgs false
set_option maxRecDepth 20000
namespace Go.Proofs.Ytljblbgogjieaaa
open Go Go.RowKit
def rpL (u v : Value) (i : Bool) : List Value := [u, v, .bool i]
def rpV (u v : Value) (i : Bool) : Value := .agg (rpL u v i).toArray
theorem NFr.in {lo : Nat} {old : List Nat} {q : NV} {n : Nat} (h : ∀ k, k ∈ fpz q n → k ∈ old) : NFr lo old q n := fun k hk => .inr (h k hk)
theorem NFr.le {lo : Nat} {old old' : List Nat} {q : NV} {n : Nat} (h : NFr lo old q n) (hs : ∀ k, k ∈ old → k ∈ old') : NFr lo old' q n := fun k hk => (h k hk).imp id (hs k)
theorem c_r_In (X Y : Nat) (i : Bool) (w : World) (hX : X < W9) (hY : Y < W9) : Calls Try.prog 63 ([ptV X Y i] : List Value).toArray w (fun e w' => Num2R w [] X Y (fun u v => rpV u v i) e w') := by
  refine KAB (N := 12) (rs := [.cell 2 73]) [] Try.func63 rfl Try.ntmps63 Try.results63 (Nb rfl) trivial rfl ?_
  show LCode _ _ _ ⟨_, _⟩ _
  refine KE (KB ?_)
  refine KK rfl (KY (KS (KAM rfl) (Nb rfl) (fun b1 => ?_)))
  refine KK rfl (KY (KS (Kp zr_73) (Nb rfl) (fun b2 => ?_)))
  refine KG ?_
  refine KE ?_
  refine Kc [9] (by kernel_rfl) ?_
  refine KC 0 rfl (by kernel_rfl) (Nb rfl) (KI (o' := 0) Try.underlying60 rfl rfl rfl sz_25 (by decide)) ?_
  refine LAny.take 1 rfl (by kernel_rfl) (Nb rfl) (KL rfl (by repeat (first | exact Mh _ | apply Mt)) (by exact LoadV.first Try.underlying25 rfl sz_25 rfl (KJ _))) ?_
  refine KC 3 rfl (by kernel_rfl) (Nb rfl) (KI (o' := 9) Try.underlying60 rfl rfl rfl sz_25 (by decide)) ?_
  refine LAny.take 4 rfl (by kernel_rfl) (Nb rfl) (KL rfl (by repeat (first | exact Mh _ | apply Mt)) (by exact pt_ld1 _ _ _ _ _ _)) ?_
  refine KC 6 rfl (by kernel_rfl) (Nb rfl) (KI (o' := 18) Try.underlying60 rfl rfl rfl sz_4 (by decide)) ?_
  refine LAny.take 7 rfl (by kernel_rfl) (Nb rfl) (KL rfl (by repeat (first | exact Mh _ | apply Mt)) (KP Try.underlying4 rfl (by exact pt_gt _ _ _))) ?_
  refine Kq 2 rfl rfl (by kernel_rfl) (KV (first := []) rfl en_52 rfl (Nb rfl) (fun w hw hs => (c_n_From X hX w).mono fun e w' h => KAW (Old.nil _) hs h) ?_)
  rintro _ _ ⟨q1, rfl, rfl, hn1⟩
  refine Kq 5 rfl rfl (by kernel_rfl) (KV (first := []) rfl en_52 rfl (Nb rfl) (fun w hw hs => (c_n_From Y hY w).mono fun e w' h => KAW (Old.nil _) hs h) ?_)
  rintro _ _ ⟨q2, rfl, rfl, hn2⟩
  refine KC 8 rfl (by kernel_rfl) (Nb rfl) (KT (KAl pl_73 zr_73 rfl rfl) (show _ = rpV (numV q1 X) (numV q2 Y) (i) from rfl)) ?_
  refine KAA 9 rfl rfl (by kernel_rfl) (by kernel_rfl) (Kb rfl rfl sz_73 (by repeat (first | exact Kf | refine KZ rfl ?_)) (by repeat (first | exact Sh _ | apply St_)) (by rfl) ?_)
  refine Kj (by kernel_rfl) ?_
  refine KQ ?_
  refine ⟨[_], .cons ⟨_, _, _, rfl, (by repeat (first | exact Mh _ | apply Mt)), by exact KR Try.underlying73 rfl sz_73⟩ .nil, fun a w' hr => hr.num2Q (by repeat (first | exact Mh _ | apply Mt)) hn1 (by repeat (first | exact Mh _ | apply Mt)) hn2⟩
theorem c_r_Out (q r : NV) (X Y : Nat) (i : Bool) (w : World) (hq : (numT q X).holds w) (hr : (numT r Y).holds w) : Calls Try.prog 66 ([rpV (numV q (X)) (numV r (Y)) (i)] : List Value).toArray w (fun e w' => e = .returned (ptV X Y i) ∧ Below w.heap.size w w') := by
  refine KAB (N := 12) (rs := [.cell 2 60]) [numT q X, numT r Y] Try.func66 rfl Try.ntmps66 Try.results66 (Nb rfl) ⟨hq, hr, trivial⟩ rfl ?_
  show LCode _ _ _ ⟨_, _⟩ _
  refine KE (KB ?_)
  refine KK rfl (KY (KS (KAM rfl) (Nb rfl) (fun b1 => ?_)))
  refine KK rfl (KY (KS (Kp zr_60) (Nb rfl) (fun b2 => ?_)))
  refine KG ?_
  refine KE ?_
  refine Kc [9] (by kernel_rfl) ?_
  refine KC 0 rfl (by kernel_rfl) (Nb rfl) (KI (o' := 0) Try.underlying73 rfl rfl rfl sz_29 (by decide)) ?_
  refine LAny.take 1 rfl (by kernel_rfl) (Nb rfl) (KL rfl (by repeat (first | exact Mh _ | apply Mt)) (KP Try.underlying29 rfl (by first | rfl | exact Kn _ _ _ (by omega) | exact Kl _ (by omega) | exact Kh _ (by omega) | exact dv_m _ _ _ (by omega)))) ?_
  refine KC 3 rfl (by kernel_rfl) (Nb rfl) (KI (o' := 1) Try.underlying73 rfl rfl rfl sz_29 (by decide)) ?_
  refine LAny.take 4 rfl (by kernel_rfl) (Nb rfl) (KL rfl (by repeat (first | exact Mh _ | apply Mt)) (KP Try.underlying29 rfl (by first | rfl | exact Kn _ _ _ (by omega) | exact Kl _ (by omega) | exact Kh _ (by omega) | exact dv_m _ _ _ (by omega)))) ?_
  refine KC 6 rfl (by kernel_rfl) (Nb rfl) (KI (o' := 2) Try.underlying73 rfl rfl rfl sz_4 (by decide)) ?_
  refine LAny.take 7 rfl (by kernel_rfl) (Nb rfl) (KL rfl (by repeat (first | exact Mh _ | apply Mt)) (KP Try.underlying4 rfl (by first | rfl | exact Kn _ _ _ (by omega) | exact Kl _ (by omega) | exact Kh _ (by omega) | exact dv_m _ _ _ (by omega)))) ?_
  refine Kq 2 rfl rfl (by kernel_rfl) (KO (first := []) rfl en_50 rfl (Nb rfl) (fun w hw => c_n_Nat q X (D.nw X) w (hw _ (by repeat (first | exact Mh _ | apply Mt)))) ?_)
  refine Kq 5 rfl rfl (by kernel_rfl) (KO (first := []) rfl en_50 rfl (Nb rfl) (fun w hw => c_n_Nat r Y (D.nw Y) w (hw _ (by repeat (first | exact Mh _ | apply Mt)))) ?_)
  refine KC 8 rfl (by kernel_rfl) (Nb rfl) (KT (KAl pl_60 zr_60 rfl (fill_ptI _ _ _)) rfl) ?_
  refine KAA 9 rfl rfl (by kernel_rfl) (by kernel_rfl) (Kb rfl rfl sz_60 (by repeat (first | exact Ky _ | exact KAT _ _ _ | exact KAJ _ | exact KAK _ _ _ | exact KAV _ _ _ | exact Kf | refine KZ rfl ?_ | refine Ko ?_ ?_)) (by repeat (first | exact Sh _ | apply St_)) (by first | exact KJ _ | exact KM _ _ _ | exact KN _ | exact Kd _ _ _ | exact KAD _ _ _ | rfl | simp [KM, KJ, KN]) ?_)
  refine Kj (by kernel_rfl) ?_
  refine KQ ?_
  refine ⟨[_], .cons ⟨_, _, _, rfl, (by repeat (first | exact Mh _ | apply Mt)), by exact KR Try.underlying60 rfl sz_60⟩ .nil, fun a w' hr => ⟨?_, hr.fr.below⟩⟩
  rfl
end Go.Proofs.Ytljblbgogjieaaa
set_option linter.unusedVariables false
set_option linter.unusedSimpArgs false
set_option maxRecDepth 20000
namespace Go.Proofs.Ytljblbgogjieaaa
open Go Go.RowKit
open Grp
def PlusQ (V : Cv) (R : Pt V.p) (x1 y1 x2 o u : Nat) : Prop := (o < V.p ∧ u < V.p ∧ u ≠ 0) ∧ xv R = lineX V.p (o * invM u V.p % V.p) x1 x2 ∧ yv R = lineY V.p (o * invM u V.p % V.p) x1 y1 (lineX V.p (o * invM u V.p % V.p) x1 x2) ∧ iv R = false
theorem plus_chord {V : Cv} (hok : V.Ok) {x1 y1 x2 y2 : Fin V.p} (h1 : On V.A V.B (.aff x1 y1)) (h2 : On V.A V.B (.aff x2 y2)) (hne : x1.val ≠ x2.val) : PlusQ V (padd V.A (.aff x1 y1) (.aff x2 y2)) x1.val y1.val x2.val (chordO V.p y1.val y2.val) (chordU V.p x1.val x2.val) := by
  have h := add_chord (a := V.A) (b := V.B) (x1 := x1.val) (y1 := y1.val) (x2 := x2.val) (y2 := y2.val) hok.prime hok.fld x1.isLt y1.isLt x2.isLt y2.isLt (by rw [c_of_val, c_of_val]; exact h1) (by rw [c_of_val, c_of_val]; exact h2) hne
  rw [c_of_val, c_of_val, c_of_val, c_of_val] at h
  rw [h]
  have hx := lineX_lt (L := chordO V.p y1.val y2.val * invM (chordU V.p x1.val x2.val) V.p % V.p) x1.isLt x2.isLt
  refine ⟨⟨lessM_lt y2.isLt y1.isLt, lessM_lt x2.isLt x1.isLt, ?_⟩, val_c hx, val_c (lineY_lt y1.isLt), rfl⟩
  have := x1.isLt
  have := x2.isLt
  unfold chordU lessM
  split <;> omega
theorem plus_tang {V : Cv} (hok : V.Ok) {x y : Fin V.p} (h1 : On V.A V.B (.aff x y)) : PlusQ V (padd V.A (.aff x y) (.aff x y)) x.val y.val x.val (tangO V.p V.a x.val) (tangU V.p y.val) := by
  have hy : y ≠ 0 := hok.good.y_ne h1
  have h := add_tang (b := V.B) (a := V.a) (x1 := x.val) (y1 := y.val) hok.prime hok.fld x.isLt y.isLt (by rw [c_of_val, c_of_val]; exact h1) (by rw [c_of_val]; exact hy)
  rw [c_of_val, c_of_val] at h
  rw [h]
  have hx := lineX_lt (L := tangO V.p V.a x.val * invM (tangU V.p y.val) V.p % V.p) x.isLt x.isLt
  refine ⟨⟨Nat.mod_lt _ pos_p, Nat.mod_lt _ pos_p, fun e => hy (hok.fld.two _ ?_)⟩, val_c hx, val_c (lineY_lt y.isLt), rfl⟩
  exact Fin.ext (by rw [Fin.val_add]; exact e)
theorem plus_opp {V : Cv} (hok : V.Ok) {x1 y1 x2 y2 : Fin V.p} (h1 : On V.A V.B (.aff x1 y1)) (h2 : On V.A V.B (.aff x2 y2)) (hx : x1.val = x2.val) (hy : y1.val ≠ y2.val) : padd V.A (.aff x1 y1) (.aff x2 y2) = .inf :=
  add_opp hok.fld h1 h2 (Fin.ext hx) (fin_ne hy)
theorem y_pos {V : Cv} (hok : V.Ok) {x y : Fin V.p} (h1 : On V.A V.B (.aff x y)) : y.val ≠ 0 := fun e => hok.good.y_ne h1 (Fin.ext e)
theorem gcd_under {V : Cv} (hok : V.Ok) {u : Nat} (h : u < V.p) (h0 : u ≠ 0) : Nat.gcd u V.p = 1 := hok.prime.cop fun hd => h0 (Nat.eq_zero_of_dvd_of_lt hd h)
theorem neg_y {V : Cv} {x y : Fin V.p} (h : y.val ≠ 0) : yv (Pt.neg (.aff x y)) = V.p - y.val := by
  show (-y).val = _
  rw [Fin.neg_def]
  show (V.p - y.val) % V.p = _
  exact Nat.mod_eq_of_lt (by have := y.isLt; omega)
def fp2 {p : Nat} (q r : NV) (P : Pt p) (l : List Nat) : List Nat := fpz q (D.nw (xv P)) ++ (fpz r (D.nw (yv P)) ++ l)
theorem Old.pt {H : List Item} {p : Nat} {q r : NV} {P : Pt p} {l : List Nat} (h1 : numT q (xv P) ∈ H) (h2 : numT r (yv P) ∈ H) (h : Old H l) : Old H (fp2 q r P l) := .cons (x := numT q (xv P)) h1 rfl (.cons (x := numT r (yv P)) h2 rfl h)
theorem fp2_q {p : Nat} {q r : NV} {P : Pt p} {l : List Nat} (lo : Nat) : NFr lo (fp2 q r P l) q (D.nw (xv P)) := fun k hk => .inr (List.mem_append.2 (.inl hk))
theorem fp2_r {p : Nat} {q r : NV} {P : Pt p} {l : List Nat} (lo : Nat) : NFr lo (fp2 q r P l) r (D.nw (yv P)) := fun k hk => .inr (List.mem_append.2 (.inr (List.mem_append.2 (.inl hk))))
theorem fp2_t {p : Nat} {q r : NV} {P : Pt p} {l : List Nat} {lo : Nat} {u : NV} {n : Nat} (h : NFr lo l u n) : NFr lo (fp2 q r P l) u n := fun k hk => (h k hk).imp id fun h => List.mem_append.2 (.inr (List.mem_append.2 (.inr h)))
theorem NFr.two {p : Nat} {q1 r1 q2 r2 u : NV} {P P2 : Pt p} {lo n : Nat} {old : List Nat} (h : NFr lo (fp2 q1 r1 P (fp2 q2 r2 P2 [])) u n) (h1 : NFr lo old q1 (D.nw (xv P))) (h2 : NFr lo old r1 (D.nw (yv P))) (h3 : NFr lo old q2 (D.nw (xv P2))) (h4 : NFr lo old r2 (D.nw (yv P2))) : NFr lo old u n := fun k hk => by
  rcases h k hk with h | h
  · exact .inl h
  · rcases List.mem_append.1 h with h | h
    · exact h1 k h
    · rcases List.mem_append.1 h with h | h
      · exact h2 k h
      · rcases List.mem_append.1 h with h | h
        · exact h3 k h
        · rcases List.mem_append.1 h with h | h
          · exact h4 k h
          · cases h
theorem rp_nil : rpL (.slice none 0 0) (.slice none 0 0) true = rpL (numV ⟨true, 0, 0⟩ 0) (numV ⟨true, 0, 0⟩ 0) true := by
  rw [← Option.some.inj numV_nil]
theorem c_r_Neg (Q : CQ) (V : Cv) (q r : NV) (P : Grp.Pt V.p) (w : World) (hc : (crvI Q V).holds w) (hok : V.Ok) (hq : (numT q (xv P)).holds w) (hr : (numT r (yv P)).holds w) (hP : On V.A V.B P) : Calls Try.prog 67 ([.agg (crvL Q V).toArray, rpV (numV q (xv P)) (numV r (yv P)) (iv P)] : List Value).toArray w (fun e w' => Num2R w (fp2 q r P []) (xv P.neg) (yv P.neg) (fun u v => rpV u v (iv P.neg)) e w') := by
  obtain ⟨hb5, hb521, hba, hbb, hbx, hby, hbn, hbo, hbo2, hbb1, hbn1⟩ := hok.bounds
  have hsz := hok.sz
  have hsp := hsz.p
  have hsa := hsz.a
  have hsb := hsz.b
  have hp0 : V.p ≠ 0 := by omega
  have hpp : 0 < V.p := by omega
  have hm17 : ∀ k, D.nw (k % V.p) ≤ 17 := fun k => Nat.le_trans (D.nw_mono (Nat.le_of_lt (Nat.mod_lt k hpp))) hsp
  have h17 : ∀ {A : Nat}, A < V.p → D.nw A ≤ 100000 := fun h => Nat.le_trans (nw_521 (Nat.lt_trans h hb521)) (by decide)
  refine KAB (N := 22) (rs := [.cell 4 73]) [crvI Q V, numT q (xv P), numT r (yv P)] Try.func67 rfl Try.ntmps67 Try.results67 (Nb rfl) ⟨hc, hq, hr, trivial⟩ rfl ?_
  show LCode _ _ _ ⟨_, _⟩ _
  refine KE (KB ?_)
  refine KK rfl (KY (KS (KAM rfl) (Nb rfl) (fun b2 => ?_)))
  refine KK rfl (KY (KS (KAM rfl) (Nb rfl) (fun b3 => ?_)))
  refine KK rfl (KY (KS (Kp zr_73) (Nb rfl) (fun b4 => ?_)))
  refine KG ?_
  refine KE ?_
  refine KE ?_
  rcases P with _ | ⟨x, y⟩
  ·
    refine KB ?_
    refine KA (KI (o' := 2) Try.underlying73 rfl rfl rfl sz_4 (by decide)) (Nb rfl) ?_
    refine LOps.det (KL rfl (by repeat (first | exact Mh _ | apply Mt)) (KP Try.underlying4 rfl (by first | rfl | exact Kn _ _ _ (by omega) | exact Kl _ (by omega) | exact Kh _ (by omega) | exact dv_m _ _ _ (by omega)))) (Nb rfl) ?_
    refine KA (KD rfl) (Nb rfl) ?_
    refine Kr rfl rfl rfl (Nb rfl) ?_
    refine Kr rfl rfl rfl (Nb rfl) ?_
    refine Kr rfl rfl rfl (Nb rfl) ?_
    refine Kr rfl rfl rfl (Nb rfl) ?_
    refine KA (Km rfl rfl) (Nb rfl) ?_
    refine KG ?_
    refine KAF rfl ?_
    refine KE (KB ?_)
    refine LOps.det (KL rfl (by repeat (first | exact Mh _ | apply Mt)) (by exact KR Try.underlying73 rfl sz_73)) (Nb rfl) ?_
    refine KK rfl (Kb rfl rfl sz_73 (by repeat (first | exact Kf | refine KZ rfl ?_)) (by repeat (first | exact Sh _ | apply St_)) (by rfl) ?_)
    refine KG (KQ ?_)
    refine ⟨[_], .cons ⟨_, _, _, rfl, (by repeat (first | exact Mh _ | apply Mt)), by exact KR Try.underlying73 rfl sz_73⟩ .nil, fun a w' hr => hr.num2Q (by repeat (first | exact Mh _ | apply Mt)) (fp2_q _) (by repeat (first | exact Mh _ | apply Mt)) (fp2_r _)⟩
  ·
    have hy0 := y_pos hok hP
    refine KB ?_
    refine KA (KI (o' := 2) Try.underlying73 rfl rfl rfl sz_4 (by decide)) (Nb rfl) ?_
    refine LOps.det (KL rfl (by repeat (first | exact Mh _ | apply Mt)) (KP Try.underlying4 rfl (by first | rfl | exact Kn _ _ _ (by omega) | exact Kl _ (by omega) | exact Kh _ (by omega) | exact dv_m _ _ _ (by omega)))) (Nb rfl) ?_
    refine KA (KD rfl) (Nb rfl) ?_
    refine Kg rfl rfl (KI (o' := 1) Try.underlying73 rfl rfl rfl sz_29 (by decide)) (Nb rfl) ?_
    refine LOps.detG rfl rfl (KL rfl (by repeat (first | exact Mh _ | apply Mt)) (KP Try.underlying29 rfl (by first | rfl | exact Kn _ _ _ (by omega) | exact Kl _ (by omega) | exact Kh _ (by omega) | exact dv_m _ _ _ (by omega)))) (Nb rfl) ?_
    refine Kg rfl rfl (KAY Try.underlying29 rfl) (Nb rfl) ?_
    refine Kg rfl rfl (KH (v := .bool false) rfl rfl (br_f (br_eql (b := 0)) (fun e => hy0 (nw_eq_zero.1 e)))) (Nb rfl) ?_
    refine KA (KAL rfl rfl) (Nb rfl) ?_
    refine KG ?_
    refine Ku rfl ?_
    refine Ke ?_
    refine KE ?_
    refine Kc [8] (by kernel_rfl) ?_
    refine KC 0 rfl (by kernel_rfl) (Nb rfl) (KI (o' := 0) Try.underlying73 rfl rfl rfl sz_29 (by decide)) ?_
    refine LAny.take 1 rfl (by kernel_rfl) (Nb rfl) (KL rfl (by repeat (first | exact Mh _ | apply Mt)) (KP Try.underlying29 rfl (by first | rfl | exact Kn _ _ _ (by omega) | exact Kl _ (by omega) | exact Kh _ (by omega) | exact dv_m _ _ _ (by omega)))) ?_
    refine KC 2 rfl (by kernel_rfl) (Nb rfl) (KI (o' := 1) Try.underlying31 rfl rfl rfl sz_29 (by decide)) ?_
    refine LAny.take 3 rfl (by kernel_rfl) (Nb rfl) (KL rfl (by repeat (first | exact Mh _ | apply Mt)) (KP Try.underlying29 rfl (by first | rfl | exact Kn _ _ _ (by omega) | exact Kl _ (by omega) | exact Kh _ (by omega) | exact dv_m _ _ _ (by omega)))) ?_
    refine KC 4 rfl (by kernel_rfl) (Nb rfl) (KI (o' := 1) Try.underlying73 rfl rfl rfl sz_29 (by decide)) ?_
    refine LAny.take 5 rfl (by kernel_rfl) (Nb rfl) (KL rfl (by repeat (first | exact Mh _ | apply Mt)) (KP Try.underlying29 rfl (by first | rfl | exact Kn _ _ _ (by omega) | exact Kl _ (by omega) | exact Kh _ (by omega) | exact dv_m _ _ _ (by omega)))) ?_
    refine Kq 6 rfl rfl (by kernel_rfl) (KV (first := []) rfl en_65 rfl (Nb rfl) (fun w hw hs => (c_n_Sub Q.p r V.p y.val w (crvI_p (hw _ (by repeat (first | exact Mh _ | apply Mt)))) (hw _ (by repeat (first | exact Mh _ | apply Mt))) (Nat.le_of_lt y.isLt) (by omega)).mono fun e w' h => KAW (Old.nil _) hs h) ?_)
    rintro _ _ ⟨q1, rfl, rfl, hn1⟩
    refine KC 7 rfl (by kernel_rfl) (Nb rfl) (KT (KAl pl_73 zr_73 rfl rfl) (show _ = rpV (numV q x.val) (numV q1 (V.p - y.val)) (false) from rfl)) ?_
    refine KAA 8 rfl rfl (by kernel_rfl) (by kernel_rfl) (Kb rfl rfl sz_73 (by repeat (first | exact Kf | refine KZ rfl ?_)) (by repeat (first | exact Sh _ | apply St_)) (by rfl) ?_)
    refine Kj (by kernel_rfl) ?_
    refine KQ ?_
    refine ⟨[_], .cons ⟨_, _, _, rfl, (by repeat (first | exact Mh _ | apply Mt)), by exact KR Try.underlying73 rfl sz_73⟩ .nil, fun a w' hr => ?_⟩
    show Num2R w _ x.val (yv (Pt.neg (.aff x y))) (fun u v => rpV u v false) _ _
    rw [neg_y hy0]
    exact hr.num2Q (q := q) (r := q1) (by repeat (first | exact Mh _ | apply Mt)) (fp2_q (P := Pt.aff x y) _) (by repeat (first | exact Mh _ | apply Mt)) hn1.any
theorem c_r_Plus (Q : CQ) (V : Cv) (q1 r1 q2 r2 : NV) (P P2 R : Grp.Pt V.p) (w : World) (hc : (crvI Q V).holds w) (hok : V.Ok) (h1q : (numT q1 (xv P)).holds w) (h1r : (numT r1 (yv P)).holds w) (h2q : (numT q2 (xv P2)).holds w) (h2r : (numT r2 (yv P2)).holds w) (hP : On V.A V.B P) (hP2 : On V.A V.B P2) (hR : padd V.A P P2 = R) : Calls Try.prog 79 ([.agg (crvL Q V).toArray, rpV (numV q1 (xv P)) (numV r1 (yv P)) (iv P), rpV (numV q2 (xv P2)) (numV r2 (yv P2)) (iv P2)] : List Value).toArray w (fun e w' => Num2R w (fp2 q1 r1 P (fp2 q2 r2 P2 [])) (xv R) (yv R) (fun u v => rpV u v (iv R)) e w') := by
  obtain ⟨hb5, hb521, hba, hbb, hbx, hby, hbn, hbo, hbo2, hbb1, hbn1⟩ := hok.bounds
  have hsz := hok.sz
  have hsp := hsz.p
  have hsa := hsz.a
  have hsb := hsz.b
  have hp0 : V.p ≠ 0 := by omega
  have hpp : 0 < V.p := by omega
  have hm17 : ∀ k, D.nw (k % V.p) ≤ 17 := fun k => Nat.le_trans (D.nw_mono (Nat.le_of_lt (Nat.mod_lt k hpp))) hsp
  have h17 : ∀ {A : Nat}, A < V.p → D.nw A ≤ 100000 := fun h => Nat.le_trans (nw_521 (Nat.lt_trans h hb521)) (by decide)
  refine KAB (N := 127) (rs := [.cell 6 73]) [crvI Q V, numT q1 (xv P), numT r1 (yv P), numT q2 (xv P2), numT r2 (yv P2)] Try.func79 rfl Try.ntmps79 Try.results79 (Nb rfl) ⟨hc, h1q, h1r, h2q, h2r, trivial⟩ rfl ?_
  show LCode _ _ _ ⟨_, _⟩ _
  refine KE (KB ?_)
  refine KK rfl (KY (KS (KAM rfl) (Nb rfl) (fun b3 => ?_)))
  refine KK rfl (KY (KS (KAM rfl) (Nb rfl) (fun b4 => ?_)))
  refine KK rfl (KY (KS (KAM rfl) (Nb rfl) (fun b5 => ?_)))
  refine KK rfl (KY (KS (Kp zr_73) (Nb rfl) (fun b6 => ?_)))
  refine KG ?_
  refine KE ?_
  refine KE ?_
  rcases P with _ | ⟨x1, y1⟩
  ·
    have eR : P2 = R := (hok.inf_add hP2).symm.trans hR
    subst eR
    refine KB ?_
    refine KA (KI (o' := 2) Try.underlying73 rfl rfl rfl sz_4 (by decide)) (Nb rfl) ?_
    refine LOps.det (KL rfl (by repeat (first | exact Mh _ | apply Mt)) (KP Try.underlying4 rfl (by first | rfl | exact Kn _ _ _ (by omega) | exact Kl _ (by omega) | exact Kh _ (by omega) | exact dv_m _ _ _ (by omega)))) (Nb rfl) ?_
    refine KG ?_
    refine KAF rfl ?_
    refine KE (KB ?_)
    refine LOps.det (KL rfl (by repeat (first | exact Mh _ | apply Mt)) (by exact KR Try.underlying73 rfl sz_73)) (Nb rfl) ?_
    refine KK rfl (Kb rfl rfl sz_73 (by repeat (first | exact Kf | refine KZ rfl ?_)) (by repeat (first | exact Sh _ | apply St_)) (by rfl) ?_)
    refine KG (KQ ?_)
    refine ⟨[_], .cons ⟨_, _, _, rfl, (by repeat (first | exact Mh _ | apply Mt)), by exact KR Try.underlying73 rfl sz_73⟩ .nil, fun a w' hr => hr.num2Q (by repeat (first | exact Mh _ | apply Mt)) (fp2_t (fp2_q _)) (by repeat (first | exact Mh _ | apply Mt)) (fp2_t (fp2_r _))⟩
  ·
    refine KB ?_
    refine KA (KI (o' := 2) Try.underlying73 rfl rfl rfl sz_4 (by decide)) (Nb rfl) ?_
    refine LOps.det (KL rfl (by repeat (first | exact Mh _ | apply Mt)) (KP Try.underlying4 rfl (by first | rfl | exact Kn _ _ _ (by omega) | exact Kl _ (by omega) | exact Kh _ (by omega) | exact dv_m _ _ _ (by omega)))) (Nb rfl) ?_
    refine KG ?_
    refine Ku rfl ?_
    refine Ke ?_
    refine KE ?_
    refine KE ?_
    rcases P2 with _ | ⟨x2, y2⟩
    ·
      have eR : Pt.aff x1 y1 = R := (hok.add_inf hP).symm.trans hR
      subst eR
      refine KB ?_
      refine KA (KI (o' := 2) Try.underlying73 rfl rfl rfl sz_4 (by decide)) (Nb rfl) ?_
      refine LOps.det (KL rfl (by repeat (first | exact Mh _ | apply Mt)) (KP Try.underlying4 rfl (by first | rfl | exact Kn _ _ _ (by omega) | exact Kl _ (by omega) | exact Kh _ (by omega) | exact dv_m _ _ _ (by omega)))) (Nb rfl) ?_
      refine KG ?_
      refine KAF rfl ?_
      refine KE (KB ?_)
      refine LOps.det (KL rfl (by repeat (first | exact Mh _ | apply Mt)) (by exact KR Try.underlying73 rfl sz_73)) (Nb rfl) ?_
      refine KK rfl (Kb rfl rfl sz_73 (by repeat (first | exact Kf | refine KZ rfl ?_)) (by repeat (first | exact Sh _ | apply St_)) (by rfl) ?_)
      refine KG (KQ ?_)
      refine ⟨[_], .cons ⟨_, _, _, rfl, (by repeat (first | exact Mh _ | apply Mt)), by exact KR Try.underlying73 rfl sz_73⟩ .nil, fun a w' hr => hr.num2Q (by repeat (first | exact Mh _ | apply Mt)) (fp2_q _) (by repeat (first | exact Mh _ | apply Mt)) (fp2_r _)⟩
    ·
      have hy0 := y_pos hok hP
      refine KB ?_
      refine KA (KI (o' := 2) Try.underlying73 rfl rfl rfl sz_4 (by decide)) (Nb rfl) ?_
      refine LOps.det (KL rfl (by repeat (first | exact Mh _ | apply Mt)) (KP Try.underlying4 rfl (by first | rfl | exact Kn _ _ _ (by omega) | exact Kl _ (by omega) | exact Kh _ (by omega) | exact dv_m _ _ _ (by omega)))) (Nb rfl) ?_
      refine KG ?_
      refine Ku rfl ?_
      refine Ke ?_
      refine KE (KB ?_)
      refine KA (KF rfl) (Nb rfl) ?_
      refine KA (KF rfl) (Nb rfl) ?_
      refine KG ?_
      refine LCode.cut (α := Nat × Nat × NV × NV) (fun x => PlusQ V R x1.val y1.val x2.val x.1 x.2.1) (fun x => ⟨[(3, .pointer (some ⟨b3, 0, none⟩)), (4, .pointer (some ⟨b4, 0, none⟩)), (5, .pointer (some ⟨b5, 0, none⟩)), (6, .pointer (some ⟨b6, 0, none⟩)), (7, numV x.2.2.1 x.1), (8, numV x.2.2.2 x.2.1)], [.blk b6 ⟨true, [.slice none 0 0, .slice none 0 0, .bool false], 73, (0, 0)⟩, .blk b5 ⟨true, rpL (numV q2 x2.val) (numV r2 y2.val) false, 73, (0, 0)⟩, .blk b4 ⟨true, rpL (numV q1 x1.val) (numV r1 y1.val) false, 73, (0, 0)⟩, .blk b3 ⟨true, crvL Q V, 31, (0, 0)⟩, numT x.2.2.1 x.1, numT x.2.2.2 x.2.1, crvI Q V, numT q1 x1.val, numT r1 y1.val, numT q2 x2.val, numT r2 y2.val]⟩) ?_ ?_
      ·
        refine KE (KB ?_)
        refine KA (KI (o' := 0) Try.underlying73 rfl rfl rfl sz_29 (by decide)) (Nb rfl) ?_
        refine LOps.det (KL rfl (by repeat (first | exact Mh _ | apply Mt)) (KP Try.underlying29 rfl (by first | rfl | exact Kn _ _ _ (by omega) | exact Kl _ (by omega) | exact Kh _ (by omega) | exact dv_m _ _ _ (by omega)))) (Nb rfl) ?_
        refine KA (KI (o' := 0) Try.underlying73 rfl rfl rfl sz_29 (by decide)) (Nb rfl) ?_
        refine LOps.det (KL rfl (by repeat (first | exact Mh _ | apply Mt)) (KP Try.underlying29 rfl (by first | rfl | exact Kn _ _ _ (by omega) | exact Kl _ (by omega) | exact Kh _ (by omega) | exact dv_m _ _ _ (by omega)))) (Nb rfl) ?_
        refine KK rfl (KY (KO (first := []) rfl en_70 rfl (Nb rfl) (fun w hw => c_n_Cmp q1 q2 x1.val x2.val w (hw _ (by repeat (first | exact Mh _ | apply Mt))) (hw _ (by repeat (first | exact Mh _ | apply Mt))) (Nat.le_trans (h17 x1.isLt) (by decide))) ?_))
        refine KA (KH rfl rfl cmp_eql) (Nb rfl) ?_
        refine KG ?_
        first | refine KU rfl (fun hx => ?_) (fun hx => ?_) | refine KX rfl (fun hx => ?_) (fun hx => ?_)
        ·
          have hx : x1.val = x2.val := hx
          refine KE ?_
          refine KE ?_
          by_cases hy : y1.val = y2.val
          ·
            refine KB ?_
            refine KA (KI (o' := 1) Try.underlying73 rfl rfl rfl sz_29 (by decide)) (Nb rfl) ?_
            refine LOps.det (KL rfl (by repeat (first | exact Mh _ | apply Mt)) (KP Try.underlying29 rfl (by first | rfl | exact Kn _ _ _ (by omega) | exact Kl _ (by omega) | exact Kh _ (by omega) | exact dv_m _ _ _ (by omega)))) (Nb rfl) ?_
            refine KA (KI (o' := 1) Try.underlying73 rfl rfl rfl sz_29 (by decide)) (Nb rfl) ?_
            refine LOps.det (KL rfl (by repeat (first | exact Mh _ | apply Mt)) (KP Try.underlying29 rfl (by first | rfl | exact Kn _ _ _ (by omega) | exact Kl _ (by omega) | exact Kh _ (by omega) | exact dv_m _ _ _ (by omega)))) (Nb rfl) ?_
            refine KK rfl (KY (KO (first := []) rfl en_70 rfl (Nb rfl) (fun w hw => c_n_Cmp r1 r2 y1.val y2.val w (hw _ (by repeat (first | exact Mh _ | apply Mt))) (hw _ (by repeat (first | exact Mh _ | apply Mt))) (Nat.le_trans (h17 y1.isLt) (by decide))) ?_))
            refine KA (KH (v := .bool false) rfl rfl (br_f cmp_neq (fun e => e hy))) (Nb rfl) ?_
            refine KA (KD rfl) (Nb rfl) ?_
            refine Kg rfl rfl (KI (o' := 1) Try.underlying73 rfl rfl rfl sz_29 (by decide)) (Nb rfl) ?_
            refine LOps.detG rfl rfl (KL rfl (by repeat (first | exact Mh _ | apply Mt)) (KP Try.underlying29 rfl (by first | rfl | exact Kn _ _ _ (by omega) | exact Kl _ (by omega) | exact Kh _ (by omega) | exact dv_m _ _ _ (by omega)))) (Nb rfl) ?_
            refine Kg rfl rfl (KAY Try.underlying29 rfl) (Nb rfl) ?_
            refine Kg rfl rfl (KH (v := .bool false) rfl rfl (br_f (br_eql (b := 0)) (fun e => hy0 (nw_eq_zero.1 e)))) (Nb rfl) ?_
            refine KA (KAL rfl rfl) (Nb rfl) ?_
            refine KG ?_
            refine Ku rfl ?_
            refine Ke ?_
            refine KE ?_
            have ex : x1 = x2 := Fin.ext hx
            have ey : y1 = y2 := Fin.ext hy
            subst ex ey
            refine KB ?_
            refine KA (KI (o' := 0) Try.underlying73 rfl rfl rfl sz_29 (by decide)) (Nb rfl) ?_
            refine LOps.det (KL rfl (by repeat (first | exact Mh _ | apply Mt)) (KP Try.underlying29 rfl (by first | rfl | exact Kn _ _ _ (by omega) | exact Kl _ (by omega) | exact Kh _ (by omega) | exact dv_m _ _ _ (by omega)))) (Nb rfl) ?_
            refine KA (KI (o' := 0) Try.underlying73 rfl rfl rfl sz_29 (by decide)) (Nb rfl) ?_
            refine LOps.det (KL rfl (by repeat (first | exact Mh _ | apply Mt)) (KP Try.underlying29 rfl (by first | rfl | exact Kn _ _ _ (by omega) | exact Kl _ (by omega) | exact Kh _ (by omega) | exact dv_m _ _ _ (by omega)))) (Nb rfl) ?_
            refine KA (KI (o' := 1) Try.underlying31 rfl rfl rfl sz_29 (by decide)) (Nb rfl) ?_
            refine LOps.det (KL rfl (by repeat (first | exact Mh _ | apply Mt)) (KP Try.underlying29 rfl (by first | rfl | exact Kn _ _ _ (by omega) | exact Kl _ (by omega) | exact Kh _ (by omega) | exact dv_m _ _ _ (by omega)))) (Nb rfl) ?_
            refine KK rfl (KY (KV (first := []) rfl en_71 rfl (Nb rfl) (fun w hw hs => (c_n_MulMod q1 q1 Q.p (x1.val) (x1.val) V.p hp0 w (hw _ (by repeat (first | exact Mh _ | apply Mt))) (hw _ (by repeat (first | exact Mh _ | apply Mt))) (crvI_p (hw _ (by repeat (first | exact Mh _ | apply Mt)))) (h17 x1.isLt) (h17 x1.isLt)).mono fun e w' h => KAW (Old.nil _) hs h) ?_))
            rintro _ _ ⟨qt1, rfl, rfl, hnt1⟩
            refine KA (KF rfl) (Nb rfl) ?_
            refine KG ?_
            refine KE ?_
            refine Kc [] (by kernel_rfl) ?_
            refine KC 0 rfl (by kernel_rfl) (Nb rfl) (KD rfl) ?_
            refine KC 1 rfl (by kernel_rfl) (Nb rfl) (KD rfl) ?_
            refine KC 2 rfl (by kernel_rfl) (Nb rfl) (KD rfl) ?_
            refine KC 3 rfl (by kernel_rfl) (Nb rfl) (KI (o' := 1) Try.underlying31 rfl rfl rfl sz_29 (by decide)) ?_
            refine LAny.take 4 rfl (by kernel_rfl) (Nb rfl) (KL rfl (by repeat (first | exact Mh _ | apply Mt)) (KP Try.underlying29 rfl (by first | rfl | exact Kn _ _ _ (by omega) | exact Kl _ (by omega) | exact Kh _ (by omega) | exact dv_m _ _ _ (by omega)))) ?_
            refine KC 6 rfl (by kernel_rfl) (Nb rfl) (KI (o' := 1) Try.underlying31 rfl rfl rfl sz_29 (by decide)) ?_
            refine LAny.take 7 rfl (by kernel_rfl) (Nb rfl) (KL rfl (by repeat (first | exact Mh _ | apply Mt)) (KP Try.underlying29 rfl (by first | rfl | exact Kn _ _ _ (by omega) | exact Kl _ (by omega) | exact Kh _ (by omega) | exact dv_m _ _ _ (by omega)))) ?_
            refine KC 9 rfl (by kernel_rfl) (Nb rfl) (KI (o' := 2) Try.underlying31 rfl rfl rfl sz_29 (by decide)) ?_
            refine LAny.take 10 rfl (by kernel_rfl) (Nb rfl) (KL rfl (by repeat (first | exact Mh _ | apply Mt)) (KP Try.underlying29 rfl (by first | rfl | exact Kn _ _ _ (by omega) | exact Kl _ (by omega) | exact Kh _ (by omega) | exact dv_m _ _ _ (by omega)))) ?_
            refine KC 11 rfl (by kernel_rfl) (Nb rfl) (KI (o' := 1) Try.underlying31 rfl rfl rfl sz_29 (by decide)) ?_
            refine LAny.take 12 rfl (by kernel_rfl) (Nb rfl) (KL rfl (by repeat (first | exact Mh _ | apply Mt)) (KP Try.underlying29 rfl (by first | rfl | exact Kn _ _ _ (by omega) | exact Kl _ (by omega) | exact Kh _ (by omega) | exact dv_m _ _ _ (by omega)))) ?_
            refine Kq 5 rfl rfl (by kernel_rfl) (KV (first := []) rfl en_72 rfl (Nb rfl) (fun w hw hs => (c_n_AddMod qt1 qt1 Q.p (x1.val * x1.val % V.p) (x1.val * x1.val % V.p) V.p w (hw _ (by repeat (first | exact Mh _ | apply Mt))) (hw _ (by repeat (first | exact Mh _ | apply Mt))) (crvI_p (hw _ (by repeat (first | exact Mh _ | apply Mt)))) (h17 (Nat.mod_lt _ hpp)) (h17 (Nat.mod_lt _ hpp)) (Nat.mod_lt _ hpp) (Nat.mod_lt _ hpp)).mono fun e w' h => KAW (Old.nil _) hs h) ?_)
            rintro _ _ ⟨qt2, rfl, rfl, hnt2⟩
            refine Kq 8 rfl rfl (by kernel_rfl) (KV (first := []) rfl en_72 rfl (Nb rfl) (fun w hw hs => (c_n_AddMod qt1 qt2 Q.p (x1.val * x1.val % V.p) ((x1.val * x1.val % V.p + x1.val * x1.val % V.p) % V.p) V.p w (hw _ (by repeat (first | exact Mh _ | apply Mt))) (hw _ (by repeat (first | exact Mh _ | apply Mt))) (crvI_p (hw _ (by repeat (first | exact Mh _ | apply Mt)))) (h17 (Nat.mod_lt _ hpp)) (h17 (Nat.mod_lt _ hpp)) (Nat.mod_lt _ hpp) (Nat.mod_lt _ hpp)).mono fun e w' h => KAW (Old.nil _) hs h) ?_)
            rintro _ _ ⟨qt3, rfl, rfl, hnt3⟩
            refine Kq 13 rfl rfl (by kernel_rfl) (KV (first := []) rfl en_72 rfl (Nb rfl) (fun w hw hs => (c_n_AddMod qt3 Q.a Q.p ((x1.val * x1.val % V.p + (x1.val * x1.val % V.p + x1.val * x1.val % V.p) % V.p) % V.p) (V.a) V.p w (hw _ (by repeat (first | exact Mh _ | apply Mt))) (crvI_a (hw _ (by repeat (first | exact Mh _ | apply Mt)))) (crvI_p (hw _ (by repeat (first | exact Mh _ | apply Mt)))) (h17 (Nat.mod_lt _ hpp)) (h17 hba) (Nat.mod_lt _ hpp) hba).mono fun e w' h => KAW (Old.nil _) hs h) ?_)
            rintro _ _ ⟨qt4, rfl, rfl, hnt4⟩
            refine KC 14 rfl (by kernel_rfl) (Nb rfl) (KF rfl) ?_
            refine Kj (by kernel_rfl) ?_
            refine KB ?_
            refine KA (KI (o' := 1) Try.underlying73 rfl rfl rfl sz_29 (by decide)) (Nb rfl) ?_
            refine LOps.det (KL rfl (by repeat (first | exact Mh _ | apply Mt)) (KP Try.underlying29 rfl (by first | rfl | exact Kn _ _ _ (by omega) | exact Kl _ (by omega) | exact Kh _ (by omega) | exact dv_m _ _ _ (by omega)))) (Nb rfl) ?_
            refine KA (KI (o' := 1) Try.underlying73 rfl rfl rfl sz_29 (by decide)) (Nb rfl) ?_
            refine LOps.det (KL rfl (by repeat (first | exact Mh _ | apply Mt)) (KP Try.underlying29 rfl (by first | rfl | exact Kn _ _ _ (by omega) | exact Kl _ (by omega) | exact Kh _ (by omega) | exact dv_m _ _ _ (by omega)))) (Nb rfl) ?_
            refine KA (KI (o' := 1) Try.underlying31 rfl rfl rfl sz_29 (by decide)) (Nb rfl) ?_
            refine LOps.det (KL rfl (by repeat (first | exact Mh _ | apply Mt)) (KP Try.underlying29 rfl (by first | rfl | exact Kn _ _ _ (by omega) | exact Kl _ (by omega) | exact Kh _ (by omega) | exact dv_m _ _ _ (by omega)))) (Nb rfl) ?_
            refine KK rfl (KY (KV (first := []) rfl en_72 rfl (Nb rfl) (fun w hw hs => (c_n_AddMod r1 r1 Q.p (y1.val) (y1.val) V.p w (hw _ (by repeat (first | exact Mh _ | apply Mt))) (hw _ (by repeat (first | exact Mh _ | apply Mt))) (crvI_p (hw _ (by repeat (first | exact Mh _ | apply Mt)))) (h17 y1.isLt) (h17 y1.isLt) y1.isLt y1.isLt).mono fun e w' h => KAW (Old.nil _) hs h) ?_))
            rintro _ _ ⟨qt5, rfl, rfl, hnt5⟩
            refine KA (KF rfl) (Nb rfl) ?_
            refine KG ?_
            exact ⟨(tangO V.p V.a x1.val, tangU V.p y1.val, qt4, qt5), hR ▸ plus_tang hok hP, KAE ⟨rfl, rfl, rfl, rfl, rfl, rfl, trivial⟩ (by repeat (first | exact Sel.nil _ | refine Sel.cons (by repeat (first | exact Ph _ | apply Pt_)) ?_))⟩
          ·
            refine KB ?_
            refine KA (KI (o' := 1) Try.underlying73 rfl rfl rfl sz_29 (by decide)) (Nb rfl) ?_
            refine LOps.det (KL rfl (by repeat (first | exact Mh _ | apply Mt)) (KP Try.underlying29 rfl (by first | rfl | exact Kn _ _ _ (by omega) | exact Kl _ (by omega) | exact Kh _ (by omega) | exact dv_m _ _ _ (by omega)))) (Nb rfl) ?_
            refine KA (KI (o' := 1) Try.underlying73 rfl rfl rfl sz_29 (by decide)) (Nb rfl) ?_
            refine LOps.det (KL rfl (by repeat (first | exact Mh _ | apply Mt)) (KP Try.underlying29 rfl (by first | rfl | exact Kn _ _ _ (by omega) | exact Kl _ (by omega) | exact Kh _ (by omega) | exact dv_m _ _ _ (by omega)))) (Nb rfl) ?_
            refine KK rfl (KY (KO (first := []) rfl en_70 rfl (Nb rfl) (fun w hw => c_n_Cmp r1 r2 y1.val y2.val w (hw _ (by repeat (first | exact Mh _ | apply Mt))) (hw _ (by repeat (first | exact Mh _ | apply Mt))) (Nat.le_trans (h17 y1.isLt) (by decide))) ?_))
            refine KA (KH (v := .bool true) rfl rfl (br_t cmp_neq (hy))) (Nb rfl) ?_
            refine KA (KD rfl) (Nb rfl) ?_
            refine Kr rfl rfl rfl (Nb rfl) ?_
            refine Kr rfl rfl rfl (Nb rfl) ?_
            refine Kr rfl rfl rfl (Nb rfl) ?_
            refine Kr rfl rfl rfl (Nb rfl) ?_
            refine KA (Km rfl rfl) (Nb rfl) ?_
            refine KG ?_
            refine KAF rfl ?_
            refine KE ?_
            have eR : Pt.inf = R := (plus_opp hok hP hP2 hx hy).symm.trans hR
            subst eR
            refine KB ?_
            refine KA (KT (KAl pl_73 zr_73 rfl rfl) (show _ = rpV (.slice none 0 0) (.slice none 0 0) (true) from rfl)) (Nb rfl) ?_
            refine KK rfl (Kb rfl rfl sz_73 (by repeat (first | exact Kf | refine KZ rfl ?_)) (by repeat (first | exact Sh _ | apply St_)) (by rfl) ?_)
            refine KG (KQ ?_)
            refine ⟨[_], .cons ⟨_, _, _, rfl, (by repeat (first | exact Mh _ | apply Mt)), by exact KR Try.underlying73 rfl sz_73⟩ .nil, fun a w' hr => ⟨⟨true, 0, 0⟩, ⟨true, 0, 0⟩, congrArg (fun l : List Value => Ending.returned (.agg l.toArray)) rp_nil, numT_zero_holds _, nfr_zero _ _, numT_zero_holds _, nfr_zero _ _, hr.fr.below⟩⟩
        ·
          have hx : x1.val ≠ x2.val := hx
          refine KE (KB ?_)
          refine KA (KI (o' := 1) Try.underlying73 rfl rfl rfl sz_29 (by decide)) (Nb rfl) ?_
          refine LOps.det (KL rfl (by repeat (first | exact Mh _ | apply Mt)) (KP Try.underlying29 rfl (by first | rfl | exact Kn _ _ _ (by omega) | exact Kl _ (by omega) | exact Kh _ (by omega) | exact dv_m _ _ _ (by omega)))) (Nb rfl) ?_
          refine KA (KI (o' := 1) Try.underlying73 rfl rfl rfl sz_29 (by decide)) (Nb rfl) ?_
          refine LOps.det (KL rfl (by repeat (first | exact Mh _ | apply Mt)) (KP Try.underlying29 rfl (by first | rfl | exact Kn _ _ _ (by omega) | exact Kl _ (by omega) | exact Kh _ (by omega) | exact dv_m _ _ _ (by omega)))) (Nb rfl) ?_
          refine KA (KI (o' := 1) Try.underlying31 rfl rfl rfl sz_29 (by decide)) (Nb rfl) ?_
          refine LOps.det (KL rfl (by repeat (first | exact Mh _ | apply Mt)) (KP Try.underlying29 rfl (by first | rfl | exact Kn _ _ _ (by omega) | exact Kl _ (by omega) | exact Kh _ (by omega) | exact dv_m _ _ _ (by omega)))) (Nb rfl) ?_
          refine KK rfl (KY (KV (first := []) rfl en_93 rfl (Nb rfl) (fun w hw hs => (c_n_SubMod r2 r1 Q.p (y2.val) (y1.val) V.p w (hw _ (by repeat (first | exact Mh _ | apply Mt))) (hw _ (by repeat (first | exact Mh _ | apply Mt))) (crvI_p (hw _ (by repeat (first | exact Mh _ | apply Mt)))) (h17 y2.isLt) (by omega) y1.isLt).mono fun e w' h => KAW (Old.nil _) hs h) ?_))
          rintro _ _ ⟨qc1, rfl, rfl, hnc1⟩
          refine KA (KF rfl) (Nb rfl) ?_
          refine KG ?_
          refine KB ?_
          refine KA (KI (o' := 0) Try.underlying73 rfl rfl rfl sz_29 (by decide)) (Nb rfl) ?_
          refine LOps.det (KL rfl (by repeat (first | exact Mh _ | apply Mt)) (KP Try.underlying29 rfl (by first | rfl | exact Kn _ _ _ (by omega) | exact Kl _ (by omega) | exact Kh _ (by omega) | exact dv_m _ _ _ (by omega)))) (Nb rfl) ?_
          refine KA (KI (o' := 0) Try.underlying73 rfl rfl rfl sz_29 (by decide)) (Nb rfl) ?_
          refine LOps.det (KL rfl (by repeat (first | exact Mh _ | apply Mt)) (KP Try.underlying29 rfl (by first | rfl | exact Kn _ _ _ (by omega) | exact Kl _ (by omega) | exact Kh _ (by omega) | exact dv_m _ _ _ (by omega)))) (Nb rfl) ?_
          refine KA (KI (o' := 1) Try.underlying31 rfl rfl rfl sz_29 (by decide)) (Nb rfl) ?_
          refine LOps.det (KL rfl (by repeat (first | exact Mh _ | apply Mt)) (KP Try.underlying29 rfl (by first | rfl | exact Kn _ _ _ (by omega) | exact Kl _ (by omega) | exact Kh _ (by omega) | exact dv_m _ _ _ (by omega)))) (Nb rfl) ?_
          refine KK rfl (KY (KV (first := []) rfl en_93 rfl (Nb rfl) (fun w hw hs => (c_n_SubMod q2 q1 Q.p (x2.val) (x1.val) V.p w (hw _ (by repeat (first | exact Mh _ | apply Mt))) (hw _ (by repeat (first | exact Mh _ | apply Mt))) (crvI_p (hw _ (by repeat (first | exact Mh _ | apply Mt)))) (h17 x2.isLt) (by omega) x1.isLt).mono fun e w' h => KAW (Old.nil _) hs h) ?_))
          rintro _ _ ⟨qc2, rfl, rfl, hnc2⟩
          refine KA (KF rfl) (Nb rfl) ?_
          refine KG ?_
          exact ⟨(chordO V.p y1.val y2.val, chordU V.p x1.val x2.val, qc1, qc2), hR ▸ plus_chord hok hP hP2 hx, KAE ⟨rfl, rfl, rfl, rfl, rfl, rfl, trivial⟩ (by repeat (first | exact Sel.nil _ | refine Sel.cons (by repeat (first | exact Ph _ | apply Pt_)) ?_))⟩
      ·
        rintro x ⟨⟨ho, hu, hu0⟩, hx1, hx2, hx3⟩
        have hin := invM_lt (a := x.2.1) hpp
        refine KE (KB ?_)
        refine KA (KD rfl) (Nb rfl) ?_
        refine KA (KI (o' := 1) Try.underlying31 rfl rfl rfl sz_29 (by decide)) (Nb rfl) ?_
        refine LOps.det (KL rfl (by repeat (first | exact Mh _ | apply Mt)) (KP Try.underlying29 rfl (by first | rfl | exact Kn _ _ _ (by omega) | exact Kl _ (by omega) | exact Kh _ (by omega) | exact dv_m _ _ _ (by omega)))) (Nb rfl) ?_
        refine KK rfl (KY (KV (first := []) rfl en_125 rfl (Nb rfl) (fun w hw hs => (c_n_Inverse x.2.2.2 Q.p x.2.1 V.p w (hw _ (by repeat (first | exact Mh _ | apply Mt))) (crvI_p (hw _ (by repeat (first | exact Mh _ | apply Mt)))) (Nat.le_trans (h17 hu) (by decide)) (by omega) (by omega) (gcd_under hok hu hu0)).mono fun e w' h => KAW (Old.nil _) hs h) ?_))
        rintro _ _ ⟨qi, rfl, rfl, hni⟩
        refine KA (KD rfl) (Nb rfl) ?_
        refine KA (Kt rfl rfl) (Nb rfl) ?_
        refine KA (Kt rfl rfl) (Nb rfl) ?_
        refine KA (KF rfl) (Nb rfl) ?_
        refine KA (KF rfl) (Nb rfl) ?_
        refine KG ?_
        refine KE (KB ?_)
        refine KA (KD rfl) (Nb rfl) ?_
        refine KA (KD rfl) (Nb rfl) ?_
        refine KA (KI (o' := 1) Try.underlying31 rfl rfl rfl sz_29 (by decide)) (Nb rfl) ?_
        refine LOps.det (KL rfl (by repeat (first | exact Mh _ | apply Mt)) (KP Try.underlying29 rfl (by first | rfl | exact Kn _ _ _ (by omega) | exact Kl _ (by omega) | exact Kh _ (by omega) | exact dv_m _ _ _ (by omega)))) (Nb rfl) ?_
        refine KK rfl (KY (KV (first := []) rfl en_71 rfl (Nb rfl) (fun w hw hs => (c_n_MulMod x.2.2.1 qi Q.p (x.1) (invM x.2.1 V.p) V.p hp0 w (hw _ (by repeat (first | exact Mh _ | apply Mt))) (hw _ (by repeat (first | exact Mh _ | apply Mt))) (crvI_p (hw _ (by repeat (first | exact Mh _ | apply Mt)))) (h17 ho) (h17 hin)).mono fun e w' h => KAW (Old.nil _) hs h) ?_))
        rintro _ _ ⟨ql, rfl, rfl, hnl⟩
        refine KA (KF rfl) (Nb rfl) ?_
        refine KG ?_
        refine KE ?_
        have hL : x.1 * invM x.2.1 V.p % V.p < V.p := Nat.mod_lt _ hpp
        generalize x.1 * invM x.2.1 V.p % V.p = L at *
        refine Kc [] (by kernel_rfl) ?_
        refine KC 0 rfl (by kernel_rfl) (Nb rfl) (KD rfl) ?_
        refine KC 1 rfl (by kernel_rfl) (Nb rfl) (KD rfl) ?_
        refine KC 2 rfl (by kernel_rfl) (Nb rfl) (KI (o' := 1) Try.underlying31 rfl rfl rfl sz_29 (by decide)) ?_
        refine LAny.take 3 rfl (by kernel_rfl) (Nb rfl) (KL rfl (by repeat (first | exact Mh _ | apply Mt)) (KP Try.underlying29 rfl (by first | rfl | exact Kn _ _ _ (by omega) | exact Kl _ (by omega) | exact Kh _ (by omega) | exact dv_m _ _ _ (by omega)))) ?_
        refine KC 5 rfl (by kernel_rfl) (Nb rfl) (KI (o' := 0) Try.underlying73 rfl rfl rfl sz_29 (by decide)) ?_
        refine LAny.take 6 rfl (by kernel_rfl) (Nb rfl) (KL rfl (by repeat (first | exact Mh _ | apply Mt)) (KP Try.underlying29 rfl (by first | rfl | exact Kn _ _ _ (by omega) | exact Kl _ (by omega) | exact Kh _ (by omega) | exact dv_m _ _ _ (by omega)))) ?_
        refine KC 7 rfl (by kernel_rfl) (Nb rfl) (KI (o' := 1) Try.underlying31 rfl rfl rfl sz_29 (by decide)) ?_
        refine LAny.take 8 rfl (by kernel_rfl) (Nb rfl) (KL rfl (by repeat (first | exact Mh _ | apply Mt)) (KP Try.underlying29 rfl (by first | rfl | exact Kn _ _ _ (by omega) | exact Kl _ (by omega) | exact Kh _ (by omega) | exact dv_m _ _ _ (by omega)))) ?_
        refine KC 10 rfl (by kernel_rfl) (Nb rfl) (KI (o' := 0) Try.underlying73 rfl rfl rfl sz_29 (by decide)) ?_
        refine LAny.take 11 rfl (by kernel_rfl) (Nb rfl) (KL rfl (by repeat (first | exact Mh _ | apply Mt)) (KP Try.underlying29 rfl (by first | rfl | exact Kn _ _ _ (by omega) | exact Kl _ (by omega) | exact Kh _ (by omega) | exact dv_m _ _ _ (by omega)))) ?_
        refine KC 12 rfl (by kernel_rfl) (Nb rfl) (KI (o' := 1) Try.underlying31 rfl rfl rfl sz_29 (by decide)) ?_
        refine LAny.take 13 rfl (by kernel_rfl) (Nb rfl) (KL rfl (by repeat (first | exact Mh _ | apply Mt)) (KP Try.underlying29 rfl (by first | rfl | exact Kn _ _ _ (by omega) | exact Kl _ (by omega) | exact Kh _ (by omega) | exact dv_m _ _ _ (by omega)))) ?_
        refine Kq 4 rfl rfl (by kernel_rfl) (KV (first := []) rfl en_71 rfl (Nb rfl) (fun w hw hs => (c_n_MulMod ql ql Q.p (L) (L) V.p hp0 w (hw _ (by repeat (first | exact Mh _ | apply Mt))) (hw _ (by repeat (first | exact Mh _ | apply Mt))) (crvI_p (hw _ (by repeat (first | exact Mh _ | apply Mt)))) (h17 hL) (h17 hL)).mono fun e w' h => KAW (Old.nil _) hs h) ?_)
        rintro _ _ ⟨qll, rfl, rfl, hnll⟩
        refine Kq 9 rfl rfl (by kernel_rfl) (KV (first := []) rfl en_93 rfl (Nb rfl) (fun w hw hs => (c_n_SubMod qll q1 Q.p (L * L % V.p) (x1.val) V.p w (hw _ (by repeat (first | exact Mh _ | apply Mt))) (hw _ (by repeat (first | exact Mh _ | apply Mt))) (crvI_p (hw _ (by repeat (first | exact Mh _ | apply Mt)))) (h17 (Nat.mod_lt _ hpp)) (by omega) x1.isLt).mono fun e w' h => KAW (Old.nil _) hs h) ?_)
        rintro _ _ ⟨qlx, rfl, rfl, hnlx⟩
        refine Kq 14 rfl rfl (by kernel_rfl) (KV (first := []) rfl en_93 rfl (Nb rfl) (fun w hw hs => (c_n_SubMod qlx q2 Q.p (lessM (L * L % V.p) x1.val V.p) (x2.val) V.p w (hw _ (by repeat (first | exact Mh _ | apply Mt))) (hw _ (by repeat (first | exact Mh _ | apply Mt))) (crvI_p (hw _ (by repeat (first | exact Mh _ | apply Mt)))) (h17 (lessM_lt (Nat.mod_lt _ hpp) x1.isLt)) (by omega) x2.isLt).mono fun e w' h => KAW (Old.nil _) hs h) ?_)
        rintro _ _ ⟨qx, rfl, rfl, hnx⟩
        refine KC 15 rfl (by kernel_rfl) (Nb rfl) (KF rfl) ?_
        refine Kj (by kernel_rfl) ?_
        refine KE ?_
        refine Kc [] (by kernel_rfl) ?_
        refine KC 0 rfl (by kernel_rfl) (Nb rfl) (KD rfl) ?_
        refine KC 1 rfl (by kernel_rfl) (Nb rfl) (KI (o' := 0) Try.underlying73 rfl rfl rfl sz_29 (by decide)) ?_
        refine LAny.take 2 rfl (by kernel_rfl) (Nb rfl) (KL rfl (by repeat (first | exact Mh _ | apply Mt)) (KP Try.underlying29 rfl (by first | rfl | exact Kn _ _ _ (by omega) | exact Kl _ (by omega) | exact Kh _ (by omega) | exact dv_m _ _ _ (by omega)))) ?_
        refine KC 3 rfl (by kernel_rfl) (Nb rfl) (KD rfl) ?_
        refine KC 4 rfl (by kernel_rfl) (Nb rfl) (KI (o' := 1) Try.underlying31 rfl rfl rfl sz_29 (by decide)) ?_
        refine LAny.take 5 rfl (by kernel_rfl) (Nb rfl) (KL rfl (by repeat (first | exact Mh _ | apply Mt)) (KP Try.underlying29 rfl (by first | rfl | exact Kn _ _ _ (by omega) | exact Kl _ (by omega) | exact Kh _ (by omega) | exact dv_m _ _ _ (by omega)))) ?_
        refine KC 7 rfl (by kernel_rfl) (Nb rfl) (KI (o' := 1) Try.underlying31 rfl rfl rfl sz_29 (by decide)) ?_
        refine LAny.take 8 rfl (by kernel_rfl) (Nb rfl) (KL rfl (by repeat (first | exact Mh _ | apply Mt)) (KP Try.underlying29 rfl (by first | rfl | exact Kn _ _ _ (by omega) | exact Kl _ (by omega) | exact Kh _ (by omega) | exact dv_m _ _ _ (by omega)))) ?_
        refine KC 10 rfl (by kernel_rfl) (Nb rfl) (KI (o' := 1) Try.underlying73 rfl rfl rfl sz_29 (by decide)) ?_
        refine LAny.take 11 rfl (by kernel_rfl) (Nb rfl) (KL rfl (by repeat (first | exact Mh _ | apply Mt)) (KP Try.underlying29 rfl (by first | rfl | exact Kn _ _ _ (by omega) | exact Kl _ (by omega) | exact Kh _ (by omega) | exact dv_m _ _ _ (by omega)))) ?_
        refine KC 12 rfl (by kernel_rfl) (Nb rfl) (KI (o' := 1) Try.underlying31 rfl rfl rfl sz_29 (by decide)) ?_
        refine LAny.take 13 rfl (by kernel_rfl) (Nb rfl) (KL rfl (by repeat (first | exact Mh _ | apply Mt)) (KP Try.underlying29 rfl (by first | rfl | exact Kn _ _ _ (by omega) | exact Kl _ (by omega) | exact Kh _ (by omega) | exact dv_m _ _ _ (by omega)))) ?_
        refine Kq 6 rfl rfl (by kernel_rfl) (KV (first := []) rfl en_93 rfl (Nb rfl) (fun w hw hs => (c_n_SubMod q1 qx Q.p (x1.val) (lineX V.p L x1.val x2.val) V.p w (hw _ (by repeat (first | exact Mh _ | apply Mt))) (hw _ (by repeat (first | exact Mh _ | apply Mt))) (crvI_p (hw _ (by repeat (first | exact Mh _ | apply Mt)))) (h17 x1.isLt) (by omega) (lineX_lt x1.isLt x2.isLt)).mono fun e w' h => KAW (Old.nil _) hs h) ?_)
        rintro _ _ ⟨qd, rfl, rfl, hnd⟩
        refine Kq 9 rfl rfl (by kernel_rfl) (KV (first := []) rfl en_71 rfl (Nb rfl) (fun w hw hs => (c_n_MulMod ql qd Q.p (L) (lessM x1.val (lineX V.p L x1.val x2.val) V.p) V.p hp0 w (hw _ (by repeat (first | exact Mh _ | apply Mt))) (hw _ (by repeat (first | exact Mh _ | apply Mt))) (crvI_p (hw _ (by repeat (first | exact Mh _ | apply Mt)))) (h17 hL) (h17 (lessM_lt x1.isLt (lineX_lt x1.isLt x2.isLt)))).mono fun e w' h => KAW (Old.nil _) hs h) ?_)
        rintro _ _ ⟨qm, rfl, rfl, hnm⟩
        refine Kq 14 rfl rfl (by kernel_rfl) (KV (first := []) rfl en_93 rfl (Nb rfl) (fun w hw hs => (c_n_SubMod qm r1 Q.p (L * lessM x1.val (lineX V.p L x1.val x2.val) V.p % V.p) (y1.val) V.p w (hw _ (by repeat (first | exact Mh _ | apply Mt))) (hw _ (by repeat (first | exact Mh _ | apply Mt))) (crvI_p (hw _ (by repeat (first | exact Mh _ | apply Mt)))) (h17 (Nat.mod_lt _ hpp)) (by omega) y1.isLt).mono fun e w' h => KAW (Old.nil _) hs h) ?_)
        rintro _ _ ⟨qy, rfl, rfl, hny⟩
        refine KC 15 rfl (by kernel_rfl) (Nb rfl) (KF rfl) ?_
        refine Kj (by kernel_rfl) ?_
        refine KE (KB ?_)
        refine KA (KD rfl) (Nb rfl) ?_
        refine KA (KD rfl) (Nb rfl) ?_
        refine KA (KT (KAl pl_73 zr_73 rfl rfl) (show _ = rpV (numV qx (lineX V.p L x1.val x2.val)) (numV qy (lineY V.p L x1.val y1.val (lineX V.p L x1.val x2.val))) (false) from rfl)) (Nb rfl) ?_
        refine KK rfl (Kb rfl rfl sz_73 (by repeat (first | exact Kf | refine KZ rfl ?_)) (by repeat (first | exact Sh _ | apply St_)) (by rfl) ?_)
        refine KG (KQ ?_)
        refine ⟨[_], .cons ⟨_, _, _, rfl, (by repeat (first | exact Mh _ | apply Mt)), by exact KR Try.underlying73 rfl sz_73⟩ .nil, fun a w' hr => ?_⟩
        show Num2R w _ (xv R) (yv R) (fun u v => rpV u v (iv R)) _ _
        rw [hx1, hx2, hx3]
        exact hr.num2Q (q := qx) (r := qy) (by repeat (first | exact Mh _ | apply Mt)) hnx.any (by repeat (first | exact Mh _ | apply Mt)) hny.any
end Go.Proofs.Ytljblbgogjieaaa
set_option linter.unusedVariables false
set_option linter.unusedSimpArgs false
set_option maxRecDepth 20000
namespace Go.Proofs.Ytljblbgogjieaaa
open Go Go.RowKit
theorem c_Right (V : Cv) (b f bd : Nat) (hok : V.Ok) (X : Fin V.p) (w : World) (hb : (Item.blk b ⟨false, opL V f, 147, (0, 0)⟩).holds w) (hf : (Item.blk f ⟨false, fldL V.p bd, 194, (0, 0)⟩).holds w) (hbd : (Item.blk bd ⟨false, dvL V.p, 241, (0, 0)⟩).holds w) : Calls Try.prog 157 ([.pointer (some ⟨b, 0, none⟩), natV X.val] : List Value).toArray w (fun e w' => e = .returned (natV ((X * X + V.A) * X + V.B).val) ∧ Below w.heap.size w w') := by
  have hbb := hok.bounds
  have hpW : V.p < W9 := w9_521 hbb.2.1
  refine KAB (N := 31) (rs := [.cell 4 25]) [.blk b ⟨false, opL V f, 147, (0, 0)⟩, .blk f ⟨false, fldL V.p bd, 194, (0, 0)⟩, .blk bd ⟨false, dvL V.p, 241, (0, 0)⟩] Try.func157 rfl Try.ntmps157 Try.results157 (Nb rfl) ⟨hb, hf, hbd, trivial⟩ rfl ?_
  show LCode _ _ _ ⟨_, _⟩ _
  refine KE (KB ?_)
  refine KK rfl (KY (KS (KAM rfl) (Nb rfl) (fun b3 => ?_)))
  refine KK rfl (KY (KS (Kp zr_25) (Nb rfl) (fun b4 => ?_)))
  refine KG ?_
  refine KE (KB ?_)
  refine KA (KD rfl) (Nb rfl) ?_
  refine KA (KW rfl) (Nb rfl) ?_
  refine KA (KI (o' := 59) Try.underlying147 rfl rfl rfl sz_145 (by decide)) (Nb rfl) ?_
  refine LOps.det (KL rfl (by repeat (first | exact Mh _ | apply Mt)) (KP Try.underlying145 rfl (by exact cvC_gt_F _ _ _ _ _ _ _ _ _ _ _ _ _))) (Nb rfl) ?_
  refine KA (KF rfl) (Nb rfl) ?_
  refine KG ?_
  refine KE ?_
  refine Kc [21] (by kernel_rfl) ?_
  refine KC 0 rfl (by kernel_rfl) (Nb rfl) (KD rfl) ?_
  refine KC 1 rfl (by kernel_rfl) (Nb rfl) (KD rfl) ?_
  refine KC 2 rfl (by kernel_rfl) (Nb rfl) (KD rfl) ?_
  refine KC 3 rfl (by kernel_rfl) (Nb rfl) (KD rfl) ?_
  refine LAny.take 4 rfl (by kernel_rfl) (Nb rfl) (KL rfl (by repeat (first | exact Mh _ | apply Mt)) (by exact KR Try.underlying25 rfl sz_25)) ?_
  refine LAny.take 5 rfl (by kernel_rfl) (Nb rfl) (KL rfl (by repeat (first | exact Mh _ | apply Mt)) (by exact KR Try.underlying25 rfl sz_25)) ?_
  refine KC 7 rfl (by kernel_rfl) (Nb rfl) (KD rfl) ?_
  refine KC 8 rfl (by kernel_rfl) (Nb rfl) (KW rfl) ?_
  refine KC 9 rfl (by kernel_rfl) (Nb rfl) (KI (o' := 0) Try.underlying147 rfl rfl rfl sz_62 (by decide)) ?_
  refine KC 10 rfl (by kernel_rfl) (Nb rfl) (KI (o' := 10) Try.underlying62 rfl rfl rfl sz_25 (by decide)) ?_
  refine LAny.take 11 rfl (by kernel_rfl) (Nb rfl) (Det.cast (KL rfl (by repeat (first | exact Mh _ | apply Mt)) (by exact cvC_ld_a _ _ _ _ _ _ _ _ _ _ _ _ _ _ _ _)) (a_val hok)) ?_
  refine LAny.take 13 rfl (by kernel_rfl) (Nb rfl) (KL rfl (by repeat (first | exact Mh _ | apply Mt)) (by exact KR Try.underlying25 rfl sz_25)) ?_
  refine KC 15 rfl (by kernel_rfl) (Nb rfl) (KD rfl) ?_
  refine KC 16 rfl (by kernel_rfl) (Nb rfl) (KW rfl) ?_
  refine KC 17 rfl (by kernel_rfl) (Nb rfl) (KI (o' := 0) Try.underlying147 rfl rfl rfl sz_62 (by decide)) ?_
  refine KC 18 rfl (by kernel_rfl) (Nb rfl) (KI (o' := 19) Try.underlying62 rfl rfl rfl sz_25 (by decide)) ?_
  refine LAny.take 19 rfl (by kernel_rfl) (Nb rfl) (Det.cast (KL rfl (by repeat (first | exact Mh _ | apply Mt)) (by exact cvC_ld_b _ _ _ _ _ _ _ _ _ _ _ _ _ _ _ _)) (b_val hok)) ?_
  refine Kq 6 rfl rfl (by kernel_rfl) (KO (first := []) rfl en_156 rfl (Nb rfl) (fun w hw => c_F_Mul V hok f bd _ _ w (hw _ (by repeat (first | exact Mh _ | apply Mt))) (hw _ (by repeat (first | exact Mh _ | apply Mt)))) ?_)
  refine Kq 12 rfl rfl (by kernel_rfl) (KO (first := []) rfl en_152 rfl (Nb rfl) (fun w hw => c_F_Add V hok f bd _ _ w (hw _ (by repeat (first | exact Mh _ | apply Mt)))) ?_)
  refine Kq 14 rfl rfl (by kernel_rfl) (KO (first := []) rfl en_156 rfl (Nb rfl) (fun w hw => c_F_Mul V hok f bd _ _ w (hw _ (by repeat (first | exact Mh _ | apply Mt))) (hw _ (by repeat (first | exact Mh _ | apply Mt)))) ?_)
  refine Kq 20 rfl rfl (by kernel_rfl) (KO (first := []) rfl en_152 rfl (Nb rfl) (fun w hw => c_F_Add V hok f bd _ _ w (hw _ (by repeat (first | exact Mh _ | apply Mt)))) ?_)
  refine KAA 21 rfl rfl (by kernel_rfl) (by kernel_rfl) (Kb rfl rfl sz_25 (by repeat (first | exact Ky _ | exact KAT _ _ _ | exact KAJ _ | exact KAK _ _ _ | exact KAV _ _ _ | exact Kf | refine KZ rfl ?_ | refine Ko ?_ ?_)) (by repeat (first | exact Sh _ | apply St_)) (by first | exact KJ _ | exact KM _ _ _ | exact KN _ | exact Kd _ _ _ | exact KAD _ _ _ | rfl | simp [KM, KJ, KN]) ?_)
  refine Kj (by kernel_rfl) ?_
  refine KQ ?_
  refine ⟨[_], .cons ⟨_, _, _, rfl, (by repeat (first | exact Mh _ | apply Mt)), by exact KR Try.underlying25 rfl sz_25⟩ .nil, fun a w' hr => ⟨?_, hr.fr.below⟩⟩
  rfl
theorem c_HasT (V : Cv) (f bd A : Nat) (w : World) (hf : (Item.blk f ⟨false, fldL V.p bd, 194, (0, 0)⟩).holds w) (hA : A < W9) (hpW : V.p < W9) (h : A < V.p) : Calls Try.prog 155 ([.pointer (some ⟨f, 0, none⟩), natV A] : List Value).toArray w (fun e w' => e = .returned (.bool true) ∧ Below w.heap.size w w') := by
  have := c_f_Has V f bd A w hf hA hpW
  rwa [decide_eq_true h] at this
theorem c_HasF (V : Cv) (f bd A : Nat) (w : World) (hf : (Item.blk f ⟨false, fldL V.p bd, 194, (0, 0)⟩).holds w) (hA : A < W9) (hpW : V.p < W9) (h : ¬ A < V.p) : Calls Try.prog 155 ([.pointer (some ⟨f, 0, none⟩), natV A] : List Value).toArray w (fun e w' => e = .returned (.bool false) ∧ Below w.heap.size w w') := by
  have := c_f_Has V f bd A w hf hA hpW
  rwa [decide_eq_false h] at this
theorem right_val {V : Cv} (hok : V.Ok) (x : Fin V.p) : rightN V.p V.a V.b x.val = ((x * x + V.A) * x + V.B).val := by
  unfold rightN
  rw [Fin.val_add, Fin.val_mul, Fin.val_add, Fin.val_mul, hok.A_val hok.bounds.2.2.1, hok.B_val hok.bounds.2.2.2.1]
theorem on_x' {p a b X Y : Nat} (h : ¬ X < p) : onB p a b X Y false = false := by
  unfold onB; rw [if_neg (by decide), decide_eq_false h, Bool.false_and]
theorem on_yy' {p a b X Y : Nat} (h : ¬ Y < p) : onB p a b X Y false = false := by
  unfold onB; rw [if_neg (by decide), decide_eq_false h, Bool.false_and, Bool.and_false]
theorem on_fin {V : Cv} (hok : V.Ok) (x y : Fin V.p) : onB V.p V.a V.b x.val y.val false = decide ((y * y).val = ((x * x + V.A) * x + V.B).val) := by
  unfold onB
  rw [if_neg (by decide), decide_eq_true x.isLt, decide_eq_true y.isLt, Bool.true_and, Bool.true_and, right_val hok, Fin.val_mul]
theorem on_inf' {p a b X Y : Nat} : onB p a b X Y true = (decide (X = 0) && decide (Y = 0)) := if_pos rfl
theorem c_cOn (V : Cv) (b f bd : Nat) (hok : V.Ok) (X Y : Nat) (i : Bool) (w : World) (hb : (Item.blk b ⟨false, opL V f, 147, (0, 0)⟩).holds w) (hf : (Item.blk f ⟨false, fldL V.p bd, 194, (0, 0)⟩).holds w) (hbd : (Item.blk bd ⟨false, dvL V.p, 241, (0, 0)⟩).holds w) (hX : X < W9) (hY : Y < W9) : Calls Try.prog 122 ([.pointer (some ⟨b, 0, none⟩), ptV X Y i] : List Value).toArray w (fun e w' => e = .returned (.bool (onB V.p V.a V.b X Y i)) ∧ Below w.heap.size w w') := by
  have hbb := hok.bounds
  have hpW : V.p < W9 := w9_521 hbb.2.1
  refine KAB (N := 42) (rs := [.tmp 4]) [.blk b ⟨false, opL V f, 147, (0, 0)⟩, .blk f ⟨false, fldL V.p bd, 194, (0, 0)⟩, .blk bd ⟨false, dvL V.p, 241, (0, 0)⟩] Try.func122 rfl Try.ntmps122 Try.results122 (Nb rfl) ⟨hb, hf, hbd, trivial⟩ rfl ?_
  show LCode _ _ _ ⟨_, _⟩ _
  refine KE (KB ?_)
  refine KK rfl (KY (KS (KAM rfl) (Nb rfl) (fun b3 => ?_)))
  refine KA (KF rfl) (Nb rfl) ?_
  refine KG ?_
  refine KE ?_
  refine KE ?_
  cases i
  ·
    refine KB ?_
    refine KA (KI (o' := 18) Try.underlying60 rfl rfl rfl sz_4 (by decide)) (Nb rfl) ?_
    refine LOps.det (KL rfl (by repeat (first | exact Mh _ | apply Mt)) (KP Try.underlying4 rfl (by exact pt_gt _ _ _))) (Nb rfl) ?_
    refine KG ?_
    refine Ku rfl ?_
    refine Ke ?_
    refine KE ?_
    rcases (show (¬ X < V.p) ∨ (X < V.p ∧ ¬ Y < V.p) ∨ (X < V.p ∧ Y < V.p) by omega) with h1 | ⟨h1, h2⟩ | ⟨h1, h2⟩
    ·
      refine Kc [] (by kernel_rfl) ?_
      refine KC 0 rfl (by kernel_rfl) (Nb rfl) (KD rfl) ?_
      refine KC 1 rfl (by kernel_rfl) (Nb rfl) (KW rfl) ?_
      refine KC 2 rfl (by kernel_rfl) (Nb rfl) (KI (o' := 59) Try.underlying147 rfl rfl rfl sz_145 (by decide)) ?_
      refine LAny.take 3 rfl (by kernel_rfl) (Nb rfl) (KL rfl (by repeat (first | exact Mh _ | apply Mt)) (KP Try.underlying145 rfl (by exact cvC_gt_F _ _ _ _ _ _ _ _ _ _ _ _ _))) ?_
      refine KC 4 rfl (by kernel_rfl) (Nb rfl) (KI (o' := 0) Try.underlying60 rfl rfl rfl sz_25 (by decide)) ?_
      refine LAny.take 5 rfl (by kernel_rfl) (Nb rfl) (KL rfl (by repeat (first | exact Mh _ | apply Mt)) (by exact LoadV.first Try.underlying25 rfl sz_25 rfl (KJ _))) ?_
      refine Kq 6 rfl rfl (by kernel_rfl) (KO (first := []) rfl en_155 rfl (Nb rfl) (fun w hw => c_HasF V f bd X w (hw _ (by repeat (first | exact Mh _ | apply Mt))) hX hpW h1) ?_)
      refine KC 7 rfl (by kernel_rfl) (Nb rfl) (KD rfl) ?_
      refine Kz 8 rfl rfl rfl rfl (by kernel_rfl) (Nb rfl) ?_
      refine Kz 9 rfl rfl rfl rfl (by kernel_rfl) (Nb rfl) ?_
      refine Kz 10 rfl rfl rfl rfl (by kernel_rfl) (Nb rfl) ?_
      refine Kz 11 rfl rfl rfl rfl (by kernel_rfl) (Nb rfl) ?_
      refine Kz 12 rfl rfl rfl rfl (by kernel_rfl) (Nb rfl) ?_
      refine Kz 13 rfl rfl rfl rfl (by kernel_rfl) (Nb rfl) ?_
      refine Kz 14 rfl rfl rfl rfl (by kernel_rfl) (Nb rfl) ?_
      refine KC 15 rfl (by kernel_rfl) (Nb rfl) (KAL rfl rfl) ?_
      refine KC 16 rfl (by kernel_rfl) (Nb rfl) (KD rfl) ?_
      refine Kz 17 rfl rfl rfl rfl (by kernel_rfl) (Nb rfl) ?_
      refine Kz 18 rfl rfl rfl rfl (by kernel_rfl) (Nb rfl) ?_
      refine Kz 19 rfl rfl rfl rfl (by kernel_rfl) (Nb rfl) ?_
      refine Kz 20 rfl rfl rfl rfl (by kernel_rfl) (Nb rfl) ?_
      refine Kz 21 rfl rfl rfl rfl (by kernel_rfl) (Nb rfl) ?_
      refine Kz 22 rfl rfl rfl rfl (by kernel_rfl) (Nb rfl) ?_
      refine Kz 23 rfl rfl rfl rfl (by kernel_rfl) (Nb rfl) ?_
      refine Kz 24 rfl rfl rfl rfl (by kernel_rfl) (Nb rfl) ?_
      refine Kz 25 rfl rfl rfl rfl (by kernel_rfl) (Nb rfl) ?_
      refine Kz 26 rfl rfl rfl rfl (by kernel_rfl) (Nb rfl) ?_
      refine Kz 27 rfl rfl rfl rfl (by kernel_rfl) (Nb rfl) ?_
      refine Kz 28 rfl rfl rfl rfl (by kernel_rfl) (Nb rfl) ?_
      refine Kz 29 rfl rfl rfl rfl (by kernel_rfl) (Nb rfl) ?_
      refine Kz 30 rfl rfl rfl rfl (by kernel_rfl) (Nb rfl) ?_
      refine KC 31 rfl (by kernel_rfl) (Nb rfl) (KAL rfl rfl) ?_
      refine KC 32 rfl (by kernel_rfl) (Nb rfl) (KF rfl) ?_
      refine Kj (by kernel_rfl) ?_
      refine KQ ?_
      refine ⟨[_], .cons rfl .nil, fun a w' hr => ⟨?_, hr.fr.below⟩⟩
      rw [on_x' h1]
      rfl
    ·
      refine Kc [] (by kernel_rfl) ?_
      refine KC 0 rfl (by kernel_rfl) (Nb rfl) (KD rfl) ?_
      refine KC 1 rfl (by kernel_rfl) (Nb rfl) (KW rfl) ?_
      refine KC 2 rfl (by kernel_rfl) (Nb rfl) (KI (o' := 59) Try.underlying147 rfl rfl rfl sz_145 (by decide)) ?_
      refine LAny.take 3 rfl (by kernel_rfl) (Nb rfl) (KL rfl (by repeat (first | exact Mh _ | apply Mt)) (KP Try.underlying145 rfl (by exact cvC_gt_F _ _ _ _ _ _ _ _ _ _ _ _ _))) ?_
      refine KC 4 rfl (by kernel_rfl) (Nb rfl) (KI (o' := 0) Try.underlying60 rfl rfl rfl sz_25 (by decide)) ?_
      refine LAny.take 5 rfl (by kernel_rfl) (Nb rfl) (KL rfl (by repeat (first | exact Mh _ | apply Mt)) (by exact LoadV.first Try.underlying25 rfl sz_25 rfl (KJ _))) ?_
      refine Kq 6 rfl rfl (by kernel_rfl) (KO (first := []) rfl en_155 rfl (Nb rfl) (fun w hw => c_HasT V f bd X w (hw _ (by repeat (first | exact Mh _ | apply Mt))) hX hpW h1) ?_)
      refine KC 7 rfl (by kernel_rfl) (Nb rfl) (KD rfl) ?_
      refine Ka 8 rfl rfl rfl (by kernel_rfl) (Nb rfl) (KD rfl) ?_
      refine Ka 9 rfl rfl rfl (by kernel_rfl) (Nb rfl) (KW rfl) ?_
      refine Ka 10 rfl rfl rfl (by kernel_rfl) (Nb rfl) (KI (o' := 59) Try.underlying147 rfl rfl rfl sz_145 (by decide)) ?_
      refine Ki 11 rfl rfl rfl (by kernel_rfl) (Nb rfl) (KL rfl (by repeat (first | exact Mh _ | apply Mt)) (KP Try.underlying145 rfl (by exact cvC_gt_F _ _ _ _ _ _ _ _ _ _ _ _ _))) ?_
      refine Ka 12 rfl rfl rfl (by kernel_rfl) (Nb rfl) (KI (o' := 9) Try.underlying60 rfl rfl rfl sz_25 (by decide)) ?_
      refine Ki 13 rfl rfl rfl (by kernel_rfl) (Nb rfl) (KL rfl (by repeat (first | exact Mh _ | apply Mt)) (by exact pt_ld1 _ _ _ _ _ _)) ?_
      refine Ks 14 rfl rfl rfl rfl (by kernel_rfl) (KO (first := []) rfl en_155 rfl (Nb rfl) (fun w hw => c_HasF V f bd Y w (hw _ (by repeat (first | exact Mh _ | apply Mt))) hY hpW h2) ?_)
      refine KC 15 rfl (by kernel_rfl) (Nb rfl) (Km rfl rfl) ?_
      refine KC 16 rfl (by kernel_rfl) (Nb rfl) (KD rfl) ?_
      refine Kz 17 rfl rfl rfl rfl (by kernel_rfl) (Nb rfl) ?_
      refine Kz 18 rfl rfl rfl rfl (by kernel_rfl) (Nb rfl) ?_
      refine Kz 19 rfl rfl rfl rfl (by kernel_rfl) (Nb rfl) ?_
      refine Kz 20 rfl rfl rfl rfl (by kernel_rfl) (Nb rfl) ?_
      refine Kz 21 rfl rfl rfl rfl (by kernel_rfl) (Nb rfl) ?_
      refine Kz 22 rfl rfl rfl rfl (by kernel_rfl) (Nb rfl) ?_
      refine Kz 23 rfl rfl rfl rfl (by kernel_rfl) (Nb rfl) ?_
      refine Kz 24 rfl rfl rfl rfl (by kernel_rfl) (Nb rfl) ?_
      refine Kz 25 rfl rfl rfl rfl (by kernel_rfl) (Nb rfl) ?_
      refine Kz 26 rfl rfl rfl rfl (by kernel_rfl) (Nb rfl) ?_
      refine Kz 27 rfl rfl rfl rfl (by kernel_rfl) (Nb rfl) ?_
      refine Kz 28 rfl rfl rfl rfl (by kernel_rfl) (Nb rfl) ?_
      refine Kz 29 rfl rfl rfl rfl (by kernel_rfl) (Nb rfl) ?_
      refine Kz 30 rfl rfl rfl rfl (by kernel_rfl) (Nb rfl) ?_
      refine KC 31 rfl (by kernel_rfl) (Nb rfl) (KAL rfl rfl) ?_
      refine KC 32 rfl (by kernel_rfl) (Nb rfl) (KF rfl) ?_
      refine Kj (by kernel_rfl) ?_
      refine KQ ?_
      refine ⟨[_], .cons rfl .nil, fun a w' hr => ⟨?_, hr.fr.below⟩⟩
      rw [on_yy' h2]
      rfl
    ·
      obtain ⟨x, rfl⟩ : ∃ x : Fin V.p, x.val = X := ⟨⟨X, h1⟩, rfl⟩
      obtain ⟨y, rfl⟩ : ∃ y : Fin V.p, y.val = Y := ⟨⟨Y, h2⟩, rfl⟩
      refine Kc [] (by kernel_rfl) ?_
      refine KC 0 rfl (by kernel_rfl) (Nb rfl) (KD rfl) ?_
      refine KC 1 rfl (by kernel_rfl) (Nb rfl) (KW rfl) ?_
      refine KC 2 rfl (by kernel_rfl) (Nb rfl) (KI (o' := 59) Try.underlying147 rfl rfl rfl sz_145 (by decide)) ?_
      refine LAny.take 3 rfl (by kernel_rfl) (Nb rfl) (KL rfl (by repeat (first | exact Mh _ | apply Mt)) (KP Try.underlying145 rfl (by exact cvC_gt_F _ _ _ _ _ _ _ _ _ _ _ _ _))) ?_
      refine KC 4 rfl (by kernel_rfl) (Nb rfl) (KI (o' := 0) Try.underlying60 rfl rfl rfl sz_25 (by decide)) ?_
      refine LAny.take 5 rfl (by kernel_rfl) (Nb rfl) (KL rfl (by repeat (first | exact Mh _ | apply Mt)) (by exact LoadV.first Try.underlying25 rfl sz_25 rfl (KJ _))) ?_
      refine Kq 6 rfl rfl (by kernel_rfl) (KO (first := []) rfl en_155 rfl (Nb rfl) (fun w hw => c_HasT V f bd x.val w (hw _ (by repeat (first | exact Mh _ | apply Mt))) (Nat.lt_trans x.isLt hpW) hpW x.isLt) ?_)
      refine KC 7 rfl (by kernel_rfl) (Nb rfl) (KD rfl) ?_
      refine Ka 8 rfl rfl rfl (by kernel_rfl) (Nb rfl) (KD rfl) ?_
      refine Ka 9 rfl rfl rfl (by kernel_rfl) (Nb rfl) (KW rfl) ?_
      refine Ka 10 rfl rfl rfl (by kernel_rfl) (Nb rfl) (KI (o' := 59) Try.underlying147 rfl rfl rfl sz_145 (by decide)) ?_
      refine Ki 11 rfl rfl rfl (by kernel_rfl) (Nb rfl) (KL rfl (by repeat (first | exact Mh _ | apply Mt)) (KP Try.underlying145 rfl (by exact cvC_gt_F _ _ _ _ _ _ _ _ _ _ _ _ _))) ?_
      refine Ka 12 rfl rfl rfl (by kernel_rfl) (Nb rfl) (KI (o' := 9) Try.underlying60 rfl rfl rfl sz_25 (by decide)) ?_
      refine Ki 13 rfl rfl rfl (by kernel_rfl) (Nb rfl) (KL rfl (by repeat (first | exact Mh _ | apply Mt)) (by exact pt_ld1 _ _ _ _ _ _)) ?_
      refine Ks 14 rfl rfl rfl rfl (by kernel_rfl) (KO (first := []) rfl en_155 rfl (Nb rfl) (fun w hw => c_HasT V f bd y.val w (hw _ (by repeat (first | exact Mh _ | apply Mt))) (Nat.lt_trans y.isLt hpW) hpW y.isLt) ?_)
      refine KC 15 rfl (by kernel_rfl) (Nb rfl) (Km rfl rfl) ?_
      refine KC 16 rfl (by kernel_rfl) (Nb rfl) (KD rfl) ?_
      refine Ka 17 rfl rfl rfl (by kernel_rfl) (Nb rfl) (KD rfl) ?_
      refine Ka 18 rfl rfl rfl (by kernel_rfl) (Nb rfl) (KW rfl) ?_
      refine Ka 19 rfl rfl rfl (by kernel_rfl) (Nb rfl) (KI (o' := 59) Try.underlying147 rfl rfl rfl sz_145 (by decide)) ?_
      refine Ki 20 rfl rfl rfl (by kernel_rfl) (Nb rfl) (KL rfl (by repeat (first | exact Mh _ | apply Mt)) (KP Try.underlying145 rfl (by exact cvC_gt_F _ _ _ _ _ _ _ _ _ _ _ _ _))) ?_
      refine Ka 21 rfl rfl rfl (by kernel_rfl) (Nb rfl) (KI (o' := 9) Try.underlying60 rfl rfl rfl sz_25 (by decide)) ?_
      refine Ki 22 rfl rfl rfl (by kernel_rfl) (Nb rfl) (KL rfl (by repeat (first | exact Mh _ | apply Mt)) (by exact pt_ld1 _ _ _ _ _ _)) ?_
      refine Ka 23 rfl rfl rfl (by kernel_rfl) (Nb rfl) (KI (o' := 9) Try.underlying60 rfl rfl rfl sz_25 (by decide)) ?_
      refine Ki 24 rfl rfl rfl (by kernel_rfl) (Nb rfl) (KL rfl (by repeat (first | exact Mh _ | apply Mt)) (by exact pt_ld1 _ _ _ _ _ _)) ?_
      refine Ka 26 rfl rfl rfl (by kernel_rfl) (Nb rfl) (KD rfl) ?_
      refine Ka 27 rfl rfl rfl (by kernel_rfl) (Nb rfl) (KI (o' := 0) Try.underlying60 rfl rfl rfl sz_25 (by decide)) ?_
      refine Ki 28 rfl rfl rfl (by kernel_rfl) (Nb rfl) (KL rfl (by repeat (first | exact Mh _ | apply Mt)) (by exact LoadV.first Try.underlying25 rfl sz_25 rfl (KJ _))) ?_
      refine Ks 25 rfl rfl rfl rfl (by kernel_rfl) (KO (first := []) rfl en_156 rfl (Nb rfl) (fun w hw => c_F_Mul V hok f bd _ _ w (hw _ (by repeat (first | exact Mh _ | apply Mt))) (hw _ (by repeat (first | exact Mh _ | apply Mt)))) ?_)
      refine Ks 29 rfl rfl rfl rfl (by kernel_rfl) (KO (first := []) rfl en_157 rfl (Nb rfl) (fun w hw => c_Right V b f bd hok _ w (hw _ (by repeat (first | exact Mh _ | apply Mt))) (hw _ (by repeat (first | exact Mh _ | apply Mt))) (hw _ (by repeat (first | exact Mh _ | apply Mt)))) ?_)
      refine Ka 30 rfl rfl rfl (by kernel_rfl) (Nb rfl) (Det.eqa (by kernel_rfl) (fun w => eq_nat (y * y).val ((x * x + V.A) * x + V.B).val (Nat.lt_trans (y * y).isLt hpW) (Nat.lt_trans ((x * x + V.A) * x + V.B).isLt hpW) 10000 (by decide) w) rfl rfl) ?_
      refine KC 31 rfl (by kernel_rfl) (Nb rfl) (Km rfl rfl) ?_
      refine KC 32 rfl (by kernel_rfl) (Nb rfl) (KF rfl) ?_
      refine Kj (by kernel_rfl) ?_
      refine KQ ?_
      refine ⟨[_], .cons rfl .nil, fun a w' hr => ⟨?_, hr.fr.below⟩⟩
      rw [on_fin hok]
      rfl
  ·
    refine KB ?_
    refine KA (KI (o' := 18) Try.underlying60 rfl rfl rfl sz_4 (by decide)) (Nb rfl) ?_
    refine LOps.det (KL rfl (by repeat (first | exact Mh _ | apply Mt)) (KP Try.underlying4 rfl (by exact pt_gt _ _ _))) (Nb rfl) ?_
    refine KG ?_
    refine KAF rfl ?_
    refine KE (KB ?_)
    refine LOps.det (KL rfl (by repeat (first | exact Mh _ | apply Mt)) (by exact KR Try.underlying60 rfl sz_60)) (Nb rfl) ?_
    refine KA (KT (KAl pl_60 zr_60 rfl fill_ptInf) rfl) (Nb rfl) ?_
    refine KA (Det.eqa (by kernel_rfl) (fun w => eq_pt X Y true 0 0 true hX hY zero_w9 zero_w9 10000 (by decide) w) rfl rfl) (Nb rfl) ?_
    refine KA (KF rfl) (Nb rfl) ?_
    refine KG (KQ ?_)
    refine ⟨[_], .cons rfl .nil, fun a w' hr => ⟨?_, hr.fr.below⟩⟩
    rw [on_inf', show (decide (X = 0) && decide (Y = 0)) = (decide (X = 0) && (decide (Y = 0) && ((true == true) && true))) by simp]
    rfl
theorem c_curveOn (id : Int) (V : Cv) (X Y : Nat) (i : Bool) (w : World) (h : cvI id = some V) (hX : X < W9) (hY : Y < W9) : Calls Try.prog 61 ([.int .i64 id, ptV X Y i] : List Value).toArray w (fun e w' => e = .returned (.bool (onB V.p V.a V.b X Y i)) ∧ Below w.heap.size w w') := by
  obtain ⟨hok, hid⟩ := cvI_ok h
  have hbb := hok.bounds
  have hpW : V.p < W9 := w9_521 hbb.2.1
  have hnW : V.n < W9 := w9_521 hbb.2.2.2.2.2.2.1
  have hbl := blen_w9 hnW
  have hnb : nby V.n ≤ 72 := by (unfold nby; omega)
  refine KAB (N := 15) (rs := [.tmp 4]) [] Try.func61 rfl Try.ntmps61 Try.results61 (Nb rfl) trivial rfl ?_
  show LCode _ _ _ ⟨_, _⟩ _
  refine KE (KB ?_)
  refine KK rfl (KY (KS (KAM rfl) (Nb rfl) (fun b3 => ?_)))
  refine KA (KF rfl) (Nb rfl) ?_
  refine KG ?_
  refine KE (KB ?_)
  refine KA (KD rfl) (Nb rfl) ?_
  refine KK rfl (KY (KV (Post := fun v its => ∃ b f bd, v = .pointer (some ⟨b, 0, none⟩) ∧ its = [.blk b ⟨false, opL V f, 147, (0, 0)⟩, .blk f ⟨false, fldL V.p bd, 194, (0, 0)⟩, .blk bd ⟨false, dvL V.p, 241, (0, 0)⟩]) (first := []) rfl en_112 rfl (Nb rfl) (fun w1 hw hs => (c_Open _ V w1 h).mono fun e w' ⟨b, f, bd, h1, h2, h3, h4, h5, h6, h7, h8⟩ => ⟨_, _, ⟨b, f, bd, rfl, rfl⟩, h1, Brings.nums h8 (by intro x hx; simp at hx; rcases hx with rfl | rfl | rfl; exact h2; exact h3; exact h4) (by intro x hx; simp at hx; rcases hx with rfl | rfl | rfl <;> rfl) (by intro x hx k hk; simp at hx; rcases hx with rfl | rfl | rfl <;> simp [Item.fp] at hk <;> subst hk; exact .inl h5; exact .inl h6; exact .inl h7)⟩) ?_))
  rintro _ _ ⟨b, f, bd, rfl, rfl⟩
  refine KA (KF rfl) (Nb rfl) ?_
  refine KG ?_
  refine KE (KB ?_)
  refine KA (KD rfl) (Nb rfl) ?_
  refine KA (KT (Det.nep Try.underlying142 rfl rfl) (show _ = Value.bool true from rfl)) (Nb rfl) ?_
  refine KA (KD rfl) (Nb rfl) ?_
  refine Kg rfl rfl (KD rfl) (Nb rfl) ?_
  refine LOps.detG rfl rfl (KL rfl (by repeat (first | exact Mh _ | apply Mt)) (by exact KR Try.underlying60 rfl sz_60)) (Nb rfl) ?_
  refine LOps.stepG rfl rfl rfl (KY (KO (first := []) rfl en_122 rfl (Nb rfl) (fun w hw => c_cOn V b f bd hok _ _ _ w (hw _ (by repeat (first | exact Mh _ | apply Mt))) (hw _ (by repeat (first | exact Mh _ | apply Mt))) (hw _ (by repeat (first | exact Mh _ | apply Mt))) hX hY) ?_))
  refine KA (Km rfl rfl) (Nb rfl) ?_
  refine KA (KF rfl) (Nb rfl) ?_
  refine KG (KQ ?_)
  refine ⟨[_], .cons rfl .nil, fun a w' hr => ⟨?_, hr.fr.below⟩⟩
  rfl
theorem ac_zero : ([Value.int .i64 ((0 : Nat) : Int)] ++ (vec .u64 9 (fun _ => 0) ++ (vec .u64 9 (fun _ => 0) ++ (vec .u64 9 (fun _ => 0) ++ (vec .u64 9 (fun _ => 0) ++ (vec .u64 9 (fun _ => 0) ++ (vec .u64 9 (fun _ => 0) ++ ([Value.bool false, Value.int .i64 ((0 : Nat) : Int), Value.int .i64 ((0 : Nat) : Int), Value.bool false]))))))) : List Value) = acC 0 0 0 0 0 0 0 false 0 0 false := by
  simp only [acC, natL, ptL, vec_zeros 9, List.append_assoc, List.cons_append, List.nil_append]
theorem ac_zeroV : Value.agg ([Value.int .i64 ((0 : Nat) : Int)] ++ (vec .u64 9 (fun _ => 0) ++ (vec .u64 9 (fun _ => 0) ++ (vec .u64 9 (fun _ => 0) ++ (vec .u64 9 (fun _ => 0) ++ (vec .u64 9 (fun _ => 0) ++ (vec .u64 9 (fun _ => 0) ++ ([Value.bool false, Value.int .i64 ((0 : Nat) : Int), Value.int .i64 ((0 : Nat) : Int), Value.bool false]))))))) : List Value).toArray = .agg (acC 0 0 0 0 0 0 0 false 0 0 false).toArray := by rw [ac_zero]
theorem c_curveGet_none (id : Int) (w : World) (h : cvI id = none) : Calls Try.prog 56 ([.int .i64 id] : List Value).toArray w (fun e w' => e = .returned (.tuple #[.agg (acC 0 0 0 0 0 0 0 false 0 0 false).toArray, .int .i64 ((1300 : Nat) : Int)]) ∧ Below w.heap.size w w') := by
  refine KAB (N := 14) (rs := [.cell 2 62, .tmp 3]) [] Try.func56 rfl Try.ntmps56 Try.results56 (Nb rfl) trivial rfl ?_
  show LCode _ _ _ ⟨_, _⟩ _
  refine KE (KB ?_)
  refine KK rfl (KY (KS (Kp zr_62) (Nb rfl) (fun b2 => ?_)))
  refine KA (KF (v := .int .i64 ((0 : Nat) : Int)) rfl) (Nb rfl) ?_
  refine KG ?_
  refine KE (KB ?_)
  refine KA (KD rfl) (Nb rfl) ?_
  refine KK rfl (KY (KO (first := []) rfl en_112 rfl (Nb rfl) (fun w hw => c_Open_none id w h) ?_))
  refine KA (KF rfl) (Nb rfl) ?_
  refine KG ?_
  refine KE ?_
  refine KE (KB ?_)
  refine KA (KD rfl) (Nb rfl) ?_
  refine KA (KT (Det.eqp Try.underlying142 rfl rfl) (show _ = Value.bool true from rfl)) (Nb rfl) ?_
  refine KG ?_
  refine KAF rfl ?_
  refine KE (KB ?_)
  refine KA (KT (KAl pl_62 zr_62 rfl rfl) (show _ = Value.agg (acC 0 0 0 0 0 0 0 false 0 0 false).toArray from ac_zeroV)) (Nb rfl) ?_
  refine KK rfl (Kb rfl rfl sz_62 (by exact acC_one _ _ _ _ _ _ _ _ _ _ _) (by repeat (first | exact Sh _ | apply St_)) (by exact KAg _ _ _ _ _ _ _ _ _ _ _) ?_)
  refine KA (KF (v := .int .i64 ((1300 : Nat) : Int)) rfl) (Nb rfl) ?_
  refine KG (KQ ?_)
  refine ⟨[_, _], .cons ⟨_, _, _, rfl, (by repeat (first | exact Mh _ | apply Mt)), by exact KR Try.underlying62 rfl sz_62⟩ (.cons rfl .nil), fun a w' hr => ⟨?_, hr.fr.below⟩⟩
  rfl
theorem c_curveGet (id : Int) (V : Cv) (w : World) (h : cvI id = some V) : Calls Try.prog 56 ([.int .i64 id] : List Value).toArray w (fun e w' => e = .returned (.tuple #[.agg (acL V).toArray, .int .i64 ((0 : Nat) : Int)]) ∧ Below w.heap.size w w') := by
  obtain ⟨hok, hid⟩ := cvI_ok h
  have hbb := hok.bounds
  have hpW : V.p < W9 := w9_521 hbb.2.1
  have hnW : V.n < W9 := w9_521 hbb.2.2.2.2.2.2.1
  have hbl := blen_w9 hnW
  have hnb : nby V.n ≤ 72 := by (unfold nby; omega)
  refine KAB (N := 14) (rs := [.cell 2 62, .tmp 3]) [] Try.func56 rfl Try.ntmps56 Try.results56 (Nb rfl) trivial rfl ?_
  show LCode _ _ _ ⟨_, _⟩ _
  refine KE (KB ?_)
  refine KK rfl (KY (KS (Kp zr_62) (Nb rfl) (fun b2 => ?_)))
  refine KA (KF (v := .int .i64 ((0 : Nat) : Int)) rfl) (Nb rfl) ?_
  refine KG ?_
  refine KE (KB ?_)
  refine KA (KD rfl) (Nb rfl) ?_
  refine KK rfl (KY (KV (Post := fun v its => ∃ b f bd, v = .pointer (some ⟨b, 0, none⟩) ∧ its = [.blk b ⟨false, opL V f, 147, (0, 0)⟩, .blk f ⟨false, fldL V.p bd, 194, (0, 0)⟩, .blk bd ⟨false, dvL V.p, 241, (0, 0)⟩]) (first := []) rfl en_112 rfl (Nb rfl) (fun w1 hw hs => (c_Open _ V w1 h).mono fun e w' ⟨b, f, bd, h1, h2, h3, h4, h5, h6, h7, h8⟩ => ⟨_, _, ⟨b, f, bd, rfl, rfl⟩, h1, Brings.nums h8 (by intro x hx; simp at hx; rcases hx with rfl | rfl | rfl; exact h2; exact h3; exact h4) (by intro x hx; simp at hx; rcases hx with rfl | rfl | rfl <;> rfl) (by intro x hx k hk; simp at hx; rcases hx with rfl | rfl | rfl <;> simp [Item.fp] at hk <;> subst hk; exact .inl h5; exact .inl h6; exact .inl h7)⟩) ?_))
  rintro _ _ ⟨b, f, bd, rfl, rfl⟩
  refine KA (KF rfl) (Nb rfl) ?_
  refine KG ?_
  refine KE ?_
  refine KE (KB ?_)
  refine KA (KD rfl) (Nb rfl) ?_
  refine KA (KT (Det.eqp Try.underlying142 rfl rfl) (show _ = Value.bool false from rfl)) (Nb rfl) ?_
  refine KG ?_
  refine Ku rfl ?_
  refine Ke ?_
  refine KE (KB ?_)
  refine KA (KD rfl) (Nb rfl) ?_
  refine KA (KW rfl) (Nb rfl) ?_
  refine KA (KI (o' := 0) Try.underlying147 rfl rfl rfl sz_62 (by decide)) (Nb rfl) ?_
  refine LOps.det (KL rfl (by repeat (first | exact Mh _ | apply Mt)) (by exact op_ld_ac _ _ _ _ _)) (Nb rfl) ?_
  refine KK rfl (Kb rfl rfl sz_62 (by exact acL_one _) (by repeat (first | exact Sh _ | apply St_)) (by exact KAf _) ?_)
  refine KA (KF (v := .int .i64 ((0 : Nat) : Int)) rfl) (Nb rfl) ?_
  refine KG (KQ ?_)
  refine ⟨[_, _], .cons ⟨_, _, _, rfl, (by repeat (first | exact Mh _ | apply Mt)), by exact KR Try.underlying62 rfl sz_62⟩ (.cons rfl .nil), fun a w' hr => ⟨?_, hr.fr.below⟩⟩
  rfl
theorem ids_more (n : Nat) (rest : List Value) : (vec .i64 n (fun i => i + 1) ++ [Value.int .i64 ((n + 1 : Nat) : Int)]) ++ rest = vec .i64 (n + 1) (fun i => i + 1) ++ rest := by
  congr 1
  simp [vec, List.range_succ]
theorem ids_one (rest : List Value) : [Value.int .i64 ((0 + 1 : Nat) : Int)] ++ rest = vec .i64 1 (fun i => i + 1) ++ rest := by
  congr 1
structure IdS where
  n : Nat
  b : Nat
  cap : Nat
  rest : List Value
theorem c_Ids  (w : World)  : Calls Try.prog 57 ([] : List Value).toArray w (fun e w' => ∃ b cap rest, e = .returned (.slice (some ⟨b, 0, none⟩) 15 cap) ∧ 15 + rest.length = cap ∧ (Item.blk b ⟨true, vec .i64 15 (fun i => i + 1) ++ rest, 3, (0, 0)⟩).holds w' ∧ w.heap.size ≤ b ∧ Below w.heap.size w w') := by
  refine KAB (N := 12) (rs := [.tmp 0]) [] Try.func57 rfl Try.ntmps57 Try.results57 (Nb rfl) trivial rfl ?_
  show LCode _ _ _ ⟨_, _⟩ _
  refine KE (KB ?_)
  refine KA (KF rfl) (Nb rfl) ?_
  refine KG ?_
  refine KE (KB ?_)
  refine KA (KF rfl) (Nb rfl) ?_
  refine KG ?_
  refine KE ?_
  refine KE (KB ?_)
  refine KA (KF (v := .int .i64 ((1 : Nat) : Int)) rfl) (Nb rfl) ?_
  refine KG ?_
  refine LCode.block ?_
  refine KAH (α := Option IdS) (fun x => match x with | none => True | some y => 1 ≤ y.n ∧ y.n ≤ 15 ∧ y.n + y.rest.length = y.cap) (fun x => match x with | none => ⟨[(1, .slice none 0 0), (2, .int .i64 ((1 : Nat) : Int))], []⟩ | some y => ⟨[(1, .slice (some ⟨y.b, 0, none⟩) y.n y.cap), (2, .int .i64 ((y.n + 1 : Nat) : Int))], [.blk y.b ⟨true, vec .i64 y.n (fun i => i + 1) ++ y.rest, 3, (0, 0)⟩]⟩) (fun x => match x with | none => 100 | some y => 15 - y.n) (none) (trivial) (KAE ⟨rfl, rfl, trivial⟩ (by repeat (first | exact Sel.nil _ | refine Sel.cons (by repeat (first | exact Ph _ | apply Pt_)) ?_))) ?_
  intro x hx
  refine KE ?_
  refine KE ?_
  rcases x with _ | ⟨n, b, cap, rest⟩
  ·
    refine KB ?_
    refine KA (KD rfl) (Nb rfl) ?_
    refine KA (KH (v := .bool true) rfl rfl (br_t (br_leq (b := 15)) (by decide))) (Nb rfl) ?_
    refine KG ?_
    refine KAF rfl ?_
    refine Ke ?_
    refine KE ?_
    refine LCode.block ?_
    refine KB ?_
    refine KA (KD rfl) (Nb rfl) ?_
    refine KA (KD rfl) (Nb rfl) ?_
    refine KK rfl (KY (KS (KAS Try.underlying65 inf_3 rfl rfl rfl rfl (by decide) rfl) (Nb rfl) (fun b9 => ?_)))
    refine KK rfl (LStepW.appendNil (news := [.int .i64 ((0 + 1 : Nat) : Int)]) rfl rfl Try.underlying65 inf_3 rfl (by repeat (first | exact Mh _ | apply Mt)) rfl (by decide) (by decide) (by decide) (Nb rfl) ?_)
    intro b1 cap1 rest1 hc1
    refine KA (KF rfl) (Nb rfl) ?_
    refine KG ?_
    refine KB ?_
    refine KA (KD rfl) (Nb rfl) ?_
    refine KA (KH rfl rfl (KAG (b := 1) (by omega))) (Nb rfl) ?_
    refine KA (KF rfl) (Nb rfl) ?_
    refine KG ?_
    exact ⟨some ⟨1, b1, cap1, rest1⟩, ⟨Nat.le_refl _, by show 1 ≤ 15; decide, hc1⟩, by show 15 - 1 < 100; decide, KAi (Sub.cells (b := b1) (cs' := vec .i64 1 (fun i => i + 1) ++ rest1) (by repeat (first | exact Sh _ | apply St_)) (ids_one _)) (KAE ⟨rfl, rfl, trivial⟩ (by repeat (first | exact Sel.nil _ | refine Sel.cons (by repeat (first | exact Ph _ | apply Pt_)) ?_)))⟩
  ·
    obtain ⟨hn1, hn15, hcap⟩ := hx
    refine KB ?_
    refine KA (KD rfl) (Nb rfl) ?_
    refine KA (KH rfl rfl (br_leq (b := 15))) (Nb rfl) ?_
    refine KG ?_
    first | refine KU rfl (fun h4 => ?_) (fun h4 => ?_) | refine KX rfl (fun h4 => ?_) (fun h4 => ?_)
    ·
      have h4 : n + 1 ≤ 15 := h4
      refine Ke ?_
      refine KE ?_
      refine LCode.block ?_
      refine KB ?_
      refine KA (KD rfl) (Nb rfl) ?_
      refine KA (KD rfl) (Nb rfl) ?_
      refine KK rfl (KY (KS (KAS Try.underlying65 inf_3 rfl rfl rfl rfl (by decide) rfl) (Nb rfl) (fun b9 => ?_)))
      refine KK rfl (LStepW.append (xs := vec .i64 n (fun i => i + 1)) (rest := rest) (news := [.int .i64 ((n + 1 : Nat) : Int)]) rfl rfl Try.underlying65 inf_3 rfl (by repeat (first | exact Pick.head _ | apply Pick.tail)) (by repeat (first | exact Mh _ | apply Mt)) (KM _ _ _) (by rw [KM]; exact hcap) rfl (KZ rfl Kf) (by omega) (by omega) (Nb rfl) ?_)
      intro b1 cap1 rest1 hc1
      refine KA (KF rfl) (Nb rfl) ?_
      refine KG ?_
      refine KB ?_
      refine KA (KD rfl) (Nb rfl) ?_
      refine KA (KH rfl rfl (KAG (b := 1) (by omega))) (Nb rfl) ?_
      refine KA (KF rfl) (Nb rfl) ?_
      refine KG ?_
      exact ⟨some ⟨n + 1, b1, cap1, rest1⟩, ⟨by show 1 ≤ n + 1; omega, by have := h4; show n + 1 ≤ 15; omega, by rw [KM] at hc1; exact hc1⟩, by have := h4; show 15 - (n + 1) < 15 - n; omega, KAi (Sub.cells (b := b1) (cs' := vec .i64 (n + 1) (fun i => i + 1) ++ rest1) (by repeat (first | exact Sh _ | apply St_)) (ids_more _ _)) (KAE ⟨rfl, rfl, trivial⟩ (by repeat (first | exact Sel.nil _ | refine Sel.cons (by repeat (first | exact Ph _ | apply Pt_)) ?_)))⟩
    ·
      have h4 : ¬ n + 1 ≤ 15 := h4
      refine KAC ?_
      refine KE (KB ?_)
      refine KA (KD rfl) (Nb rfl) ?_
      refine KA (KF rfl) (Nb rfl) ?_
      refine KG (KQ ?_)
      obtain rfl : n = 15 := by have := h4; have := hn15; dsimp only at *; omega
      exact ⟨[_], .cons rfl .nil, fun a w' hr => ⟨b, cap, rest, rfl, hcap, hr.hp _ (by repeat (first | exact Mh _ | apply Mt)), hr.new (B := ⟨true, _, _, _⟩) (by repeat (first | exact Mh _ | apply Mt)) rfl, hr.fr.below⟩⟩
end Go.Proofs.Ytljblbgogjieaaa
set_option linter.unusedVariables false
set_option linter.unusedSimpArgs false
set_option maxRecDepth 20000
namespace Go.Proofs.Ytljblbgogjieaaa
open Go Go.RowKit
open Grp
theorem pm_top (V : Cv) (P : Pt V.p) (K : Nat) : pmul V.A P (K / 2 ^ blen K) = .inf := by rw [Nat.div_eq_of_lt (lt_blen K)]; rfl
theorem pm_T {V : Cv} (hok : V.Ok) {P : Pt V.p} (hP : On V.A V.B P) {K y : Nat} (h : K / 2 ^ y % 2 = 1) : padd V.A (padd V.A (pmul V.A P (K / 2 ^ (y + 1))) (pmul V.A P (K / 2 ^ (y + 1)))) P = pmul V.A P (K / 2 ^ y) := by
  have := pmul_bit hok.crv hP K y
  rwa [if_pos h] at this
theorem pm_F {V : Cv} (hok : V.Ok) {P : Pt V.p} (hP : On V.A V.B P) {K y : Nat} (h : ¬ K / 2 ^ y % 2 = 1) : padd V.A (pmul V.A P (K / 2 ^ (y + 1))) (pmul V.A P (K / 2 ^ (y + 1))) = pmul V.A P (K / 2 ^ y) := by
  have := pmul_bit hok.crv hP K y
  rwa [if_neg h] at this
theorem c_r_Times (Q : CQ) (V : Cv) (qk : NV) (K : Nat) (q r : NV) (P R : Pt V.p) (w : World) (hc : (crvI Q V).holds w) (hok : V.Ok) (hk : (numT qk K).holds w) (hK : D.nw K ≤ 1000) (hq : (numT q (xv P)).holds w) (hr : (numT r (yv P)).holds w) (hP : On V.A V.B P) (hR : pmul V.A P K = R) : Calls Try.prog 64 ([.agg (crvL Q V).toArray, numV qk K, rpV (numV q (xv P)) (numV r (yv P)) (iv P)] : List Value).toArray w (fun e w' => Num2R w (fp2 q r P []) (xv R) (yv R) (fun u v => rpV u v (iv R)) e w') := by
  obtain ⟨hb5, hb521, hba, hbb, hbx, hby, hbn, hbo, hbo2, hbb1, hbn1⟩ := hok.bounds
  have hsz := hok.sz
  have hsp := hsz.p
  have hsa := hsz.a
  have hsb := hsz.b
  have hp0 : V.p ≠ 0 := by omega
  have hpp : 0 < V.p := by omega
  have hm17 : ∀ k, D.nw (k % V.p) ≤ 17 := fun k => Nat.le_trans (D.nw_mono (Nat.le_of_lt (Nat.mod_lt k hpp))) hsp
  refine KAB (N := 30) (rs := [.cell 6 73]) [crvI Q V, numT qk K, numT q (xv P), numT r (yv P)] Try.func64 rfl Try.ntmps64 Try.results64 (Nb rfl) ⟨hc, hk, hq, hr, trivial⟩ rfl ?_
  show LCode _ _ _ ⟨_, _⟩ _
  refine KE (KB ?_)
  refine KK rfl (KY (KS (KAM rfl) (Nb rfl) (fun b3 => ?_)))
  refine KK rfl (KY (KS (KAM rfl) (Nb rfl) (fun b5 => ?_)))
  refine KK rfl (KY (KS (Kp zr_73) (Nb rfl) (fun b6 => ?_)))
  refine KG ?_
  refine KE (KB ?_)
  refine KA (KT (KAl pl_73 zr_73 rfl rfl) (show _ = rpV (.slice none 0 0) (.slice none 0 0) (true) from rfl)) (Nb rfl) ?_
  refine KK rfl (KY (KS (Kp zr_73) (Nb rfl) (fun b7 => ?_)))
  refine KK rfl (Kb rfl rfl sz_73 (by repeat (first | exact Kf | refine KZ rfl ?_)) (by repeat (first | exact Sh _ | apply St_)) (by rfl) ?_)
  refine KG ?_
  refine KE ?_
  refine KE ?_
  have hbk := blen_nw K
  refine LCode.zeroNum ?_
  refine LCode.zeroNum ?_
  refine KB ?_
  refine KA (KD rfl) (Nb rfl) ?_
  refine KK rfl (KY (KO (first := []) rfl en_76 rfl (Nb rfl) (fun w hw => c_n_Bits qk K w (hw _ (by repeat (first | exact Mh _ | apply Mt))) (by omega)) ?_))
  refine KA (KH (v := .int .i64 (((blen K : Nat) : Int) - 1)) rfl rfl (br_subI (by omega) (by omega))) (Nb rfl) ?_
  refine KA (KF rfl) (Nb rfl) ?_
  refine KG ?_
  refine LCode.block ?_
  refine KAH (α := Nat × NV × NV) (fun x => x.1 ≤ blen K ∧ NFr w.heap.size (fp2 q r P []) x.2.1 (D.nw (xv (pmul V.A P (K / 2 ^ x.1)))) ∧ NFr w.heap.size (fp2 q r P []) x.2.2 (D.nw (yv (pmul V.A P (K / 2 ^ x.1))))) (fun x => ⟨[(1, numV qk K), (3, .pointer (some ⟨b3, 0, none⟩)), (5, .pointer (some ⟨b5, 0, none⟩)), (6, .pointer (some ⟨b6, 0, none⟩)), (7, .pointer (some ⟨b7, 0, none⟩)), (8, .int .i64 (((x.1 : Nat) : Int) - 1))], [.blk b7 ⟨true, rpL (numV x.2.1 (xv (pmul V.A P (K / 2 ^ x.1)))) (numV x.2.2 (yv (pmul V.A P (K / 2 ^ x.1)))) (iv (pmul V.A P (K / 2 ^ x.1))), 73, (0, 0)⟩, .blk b6 ⟨true, [.slice none 0 0, .slice none 0 0, .bool false], 73, (0, 0)⟩, .blk b5 ⟨true, rpL (numV q (xv P)) (numV r (yv P)) (iv P), 73, (0, 0)⟩, .blk b3 ⟨true, crvL Q V, 31, (0, 0)⟩, numT x.2.1 (xv (pmul V.A P (K / 2 ^ x.1))), numT x.2.2 (yv (pmul V.A P (K / 2 ^ x.1))), crvI Q V, numT qk K, numT q (xv P), numT r (yv P)]⟩) (fun x => x.1) ((blen K, ⟨true, 0, 0⟩, ⟨true, 0, 0⟩)) (⟨Nat.le_refl _, by dsimp only; rw [pm_top]; exact nfr_zero _ _, by dsimp only; rw [pm_top]; exact nfr_zero _ _⟩) (by dsimp only; rw [pm_top]; exact KAi (Sub.cells (b := b7) (cs' := rpL (numV ⟨true, 0, 0⟩ (xv (Pt.inf : Pt V.p))) (numV ⟨true, 0, 0⟩ (yv (Pt.inf : Pt V.p))) (iv (Pt.inf : Pt V.p))) (by repeat (first | exact Sh _ | apply St_)) rp_nil) (KAE ⟨rfl, rfl, rfl, rfl, rfl, rfl, trivial⟩ (by repeat (first | exact Sel.nil _ | refine Sel.cons (by repeat (first | exact Ph _ | apply Pt_)) ?_)))) ?_
  rintro x ⟨hx1, hx2, hx3⟩
  refine KE ?_
  refine KE ?_
  rcases Nat.eq_zero_or_pos x.1 with h0 | h0
  ·
    refine KB ?_
    refine KA (KD rfl) (Nb rfl) ?_
    refine KA (KH (v := .bool false) rfl rfl (by rw [h0]; rfl)) (Nb rfl) ?_
    refine KG ?_
    refine Ku rfl ?_
    refine KAC ?_
    refine KE ?_
    have eR : pmul V.A P (K / 2 ^ x.1) = R := by rw [h0, Nat.pow_zero, Nat.div_one]; exact hR
    rw [eR] at hx2 hx3 ⊢
    refine KB ?_
    refine LOps.det (KL rfl (by repeat (first | exact Mh _ | apply Mt)) (by exact KR Try.underlying73 rfl sz_73)) (Nb rfl) ?_
    refine KK rfl (Kb rfl rfl sz_73 (by repeat (first | exact Kf | refine KZ rfl ?_)) (by repeat (first | exact Sh _ | apply St_)) (by rfl) ?_)
    refine KG (KQ ?_)
    refine ⟨[_], .cons ⟨_, _, _, rfl, (by repeat (first | exact Mh _ | apply Mt)), by exact KR Try.underlying73 rfl sz_73⟩ .nil, fun a w' hr => hr.num2Q (by repeat (first | exact Mh _ | apply Mt)) hx2 (by repeat (first | exact Mh _ | apply Mt)) hx3⟩
  ·
    obtain ⟨y, hy⟩ : ∃ y, x.1 = y + 1 := ⟨x.1 - 1, by omega⟩
    rw [hy] at hx2 hx3 ⊢
    refine KB ?_
    refine KA (KD rfl) (Nb rfl) ?_
    refine KA (KH (v := .bool true) rfl rfl (by simp [KAQ] <;> omega)) (Nb rfl) ?_
    refine KG ?_
    refine KAF rfl ?_
    refine Ke ?_
    refine KE ?_
    refine LCode.block ?_
    refine KE (KB ?_)
    refine LOps.det (KL rfl (by repeat (first | exact Mh _ | apply Mt)) (by exact KR Try.underlying31 rfl sz_31)) (Nb rfl) ?_
    refine LOps.det (KL rfl (by repeat (first | exact Mh _ | apply Mt)) (by exact KR Try.underlying73 rfl sz_73)) (Nb rfl) ?_
    refine LOps.det (KL rfl (by repeat (first | exact Mh _ | apply Mt)) (by exact KR Try.underlying73 rfl sz_73)) (Nb rfl) ?_
    refine KK rfl (KY (KV (first := []) rfl en_79 rfl (Nb rfl) (fun w hw hs => (c_r_Plus Q V x.2.1 x.2.2 x.2.1 x.2.2 (pmul V.A P (K / 2 ^ (y + 1))) (pmul V.A P (K / 2 ^ (y + 1))) (padd V.A (pmul V.A P (K / 2 ^ (y + 1))) (pmul V.A P (K / 2 ^ (y + 1)))) w (hw _ (by repeat (first | exact Mh _ | apply Mt))) hok (hw _ (by repeat (first | exact Mh _ | apply Mt))) (hw _ (by repeat (first | exact Mh _ | apply Mt))) (hw _ (by repeat (first | exact Mh _ | apply Mt))) (hw _ (by repeat (first | exact Mh _ | apply Mt))) (hok.mul hP _) (hok.mul hP _) rfl).mono fun e w' h => KAR (Old.pt (by repeat (first | exact Mh _ | apply Mt)) (by repeat (first | exact Mh _ | apply Mt)) (Old.pt (by repeat (first | exact Mh _ | apply Mt)) (by repeat (first | exact Mh _ | apply Mt)) (Old.nil _))) hs h) ?_))
    rintro _ _ ⟨qda, qdb, rfl, rfl, hnda, hndb⟩
    refine KK rfl (Kb rfl rfl sz_73 (by repeat (first | exact Kf | refine KZ rfl ?_)) (by repeat (first | exact Sh _ | apply St_)) (by rfl) ?_)
    refine KG ?_
    refine KE (KB ?_)
    refine KA (KD rfl) (Nb rfl) ?_
    refine KA (KD (v := .int .i64 ((y : Nat) : Int)) (by show some _ = some _; congr 2; omega)) (Nb rfl) ?_
    refine KK rfl (KY (KO (first := []) rfl en_69 rfl (Nb rfl) (fun w hw => c_n_Bit qk K (D.nw K) y w (hw _ (by repeat (first | exact Mh _ | apply Mt))) (by omega)) ?_))
    refine KA (KH rfl rfl (br_eql (b := 1))) (Nb rfl) ?_
    refine KG ?_
    first | refine KU rfl (fun hbit => ?_) (fun hbit => ?_) | refine KX rfl (fun hbit => ?_) (fun hbit => ?_)
    ·
      have hbit : K / 2 ^ y % 2 = 1 := hbit
      refine KB ?_
      refine LOps.det (KL rfl (by repeat (first | exact Mh _ | apply Mt)) (by exact KR Try.underlying31 rfl sz_31)) (Nb rfl) ?_
      refine LOps.det (KL rfl (by repeat (first | exact Mh _ | apply Mt)) (by exact KR Try.underlying73 rfl sz_73)) (Nb rfl) ?_
      refine LOps.det (KL rfl (by repeat (first | exact Mh _ | apply Mt)) (by exact KR Try.underlying73 rfl sz_73)) (Nb rfl) ?_
      refine KK rfl (KY (KV (first := []) rfl en_79 rfl (Nb rfl) (fun w hw hs => (c_r_Plus Q V qda qdb q r (padd V.A (pmul V.A P (K / 2 ^ (y + 1))) (pmul V.A P (K / 2 ^ (y + 1)))) P (pmul V.A P (K / 2 ^ y)) w (hw _ (by repeat (first | exact Mh _ | apply Mt))) hok (hw _ (by repeat (first | exact Mh _ | apply Mt))) (hw _ (by repeat (first | exact Mh _ | apply Mt))) (hw _ (by repeat (first | exact Mh _ | apply Mt))) (hw _ (by repeat (first | exact Mh _ | apply Mt))) (hok.sum (hok.mul hP _) (hok.mul hP _)) hP (pm_T hok hP hbit)).mono fun e w' h => KAR (Old.pt (by repeat (first | exact Mh _ | apply Mt)) (by repeat (first | exact Mh _ | apply Mt)) (Old.pt (by repeat (first | exact Mh _ | apply Mt)) (by repeat (first | exact Mh _ | apply Mt)) (Old.nil _))) hs h) ?_))
      rintro _ _ ⟨qea, qeb, rfl, rfl, hnea, hneb⟩
      refine KK rfl (Kb rfl rfl sz_73 (by repeat (first | exact Kf | refine KZ rfl ?_)) (by repeat (first | exact Sh _ | apply St_)) (by rfl) ?_)
      refine KG ?_
      refine KB ?_
      refine KA (KD (v := .int .i64 ((y : Nat) : Int)) (by show some _ = some _; congr 2; omega)) (Nb rfl) ?_
      refine KA (KH (v := .int .i64 (((y : Nat) : Int) - 1)) rfl rfl (br_subI (by omega) (by omega))) (Nb rfl) ?_
      refine KA (KF rfl) (Nb rfl) ?_
      refine KG ?_
      exact ⟨(y, qea, qeb), ⟨by dsimp only; omega, NFr.two hnea (NFr.two hnda hx2 hx3 hx2 hx3) (NFr.two hndb hx2 hx3 hx2 hx3) (fp2_q _) (fp2_r _), NFr.two hneb (NFr.two hnda hx2 hx3 hx2 hx3) (NFr.two hndb hx2 hx3 hx2 hx3) (fp2_q _) (fp2_r _)⟩, by dsimp only; omega, KAE ⟨rfl, rfl, rfl, rfl, rfl, rfl, trivial⟩ (by repeat (first | exact Sel.nil _ | refine Sel.cons (by repeat (first | exact Ph _ | apply Pt_)) ?_))⟩
    ·
      have hbit : ¬ K / 2 ^ y % 2 = 1 := hbit
      refine Ke ?_
      refine KB ?_
      refine KA (KD (v := .int .i64 ((y : Nat) : Int)) (by show some _ = some _; congr 2; omega)) (Nb rfl) ?_
      refine KA (KH (v := .int .i64 (((y : Nat) : Int) - 1)) rfl rfl (br_subI (by omega) (by omega))) (Nb rfl) ?_
      refine KA (KF rfl) (Nb rfl) ?_
      refine KG ?_
      rw [pm_F hok hP hbit] at hnda hndb ⊢
      exact ⟨(y, qda, qdb), ⟨by dsimp only; omega, NFr.two hnda hx2 hx3 hx2 hx3, NFr.two hndb hx2 hx3 hx2 hx3⟩, by dsimp only; omega, KAE ⟨rfl, rfl, rfl, rfl, rfl, rfl, trivial⟩ (by repeat (first | exact Sel.nil _ | refine Sel.cons (by repeat (first | exact Ph _ | apply Pt_)) ?_))⟩
def sumT (V : Cv) (T U : Fin V.p × Fin V.p × Fin V.p) : Fin V.p × Fin V.p × Fin V.p := sum3 V.A (V.B + V.B + V.B) T.1 T.2.1 T.2.2 U.1 U.2.1 U.2.2
structure RepT (V : Cv) (T : Fin V.p × Fin V.p × Fin V.p) (P : Pt V.p) : Prop where
  rep : Rep T.1 T.2.1 T.2.2 P
  on : On V.A V.B P
theorem RepT.sum {V : Cv} (hok : V.Ok) {T U : Fin V.p × Fin V.p × Fin V.p} {P R : Pt V.p} (h : RepT V T P) (k : RepT V U R) : RepT V (sumT V T U) (padd V.A P R) := ⟨hok.rep_sum h.rep k.rep h.on k.on, hok.sum h.on k.on⟩
end Go.Proofs.Ytljblbgogjieaaa
set_option linter.unusedVariables false
set_option linter.unusedSimpArgs false
set_option maxRecDepth 20000
namespace Go.Proofs.Ytljblbgogjieaaa
open Go Go.RowKit
def uidx (x : Int) : Nat := (x % 18446744073709551616).toNat
theorem uidx_eq (x : Int) : Value.int .u64 (IntKind.u64.wrap x) = Value.int .u64 ((uidx x : Nat) : Int) := by
  unfold uidx
  rw [wrap_u64, Int.toNat_of_nonneg (Int.emod_nonneg _ (by decide))]
theorem cvI_idx (x : Int) : ∃ V, cvI ((1 + uidx x % 15 : Nat) : Int) = some V := by
  rw [cvI_nat]; exact cvOf_some (by omega) (by omega)
theorem cvI_id {id : Int} {V : Cv} (h : cvI id = some V) : cvI ((V.id : Nat) : Int) = some V := by rw [(cvI_ok h).2]; exact h
end Go.Proofs.Ytljblbgogjieaaa
set_option linter.unusedVariables false
set_option linter.unusedSimpArgs false
set_option maxRecDepth 20000
namespace Go.Proofs.Ytljblbgogjieaaa
open Go Go.RowKit
open Grp
theorem c_curveOnB (id : Int) (V : Cv) (X Y : Nat) (i r : Bool) (w : World) (h : cvI id = some V) (hX : X < W9) (hY : Y < W9) (hr : onB V.p V.a V.b X Y i = r) : Calls Try.prog 61 ([.int .i64 id, ptV X Y i] : List Value).toArray w (fun e w' => e = .returned (.bool r) ∧ Below w.heap.size w w') := by
  have := c_curveOn id V X Y i w h hX hY
  rwa [hr] at this
theorem eq_nat_t {A B : Nat} (hA : A < W9) (h : A = B) : EqD 3 Try.prog 25 (natV A) (natV B) true := by
  subst h
  have := eq_nat A A hA hA
  rwa [decide_eq_true rfl] at this
theorem Brings.own {w w' : World} {H : List Item} {b : Nat} {cs : List Value} {e : TypeId} (hb : Below w.heap.size w w') (h : (Item.blk b ⟨true, cs, e, (0, 0)⟩).holds w') (hn : w.heap.size ≤ b) : Brings w H [.blk b ⟨true, cs, e, (0, 0)⟩] w' :=
  ⟨hb, (by intro x hx; simp at hx; subst hx; exact h), (by intro x hx k hk; simp at hx; subst hx; simp [Item.fp] at hk; subst hk; exact .inl hn), (by intro x hx _ k hk; simp at hx; subst hx; simp [Item.fp] at hk; subst hk; exact hn), List.pairwise_singleton _ _⟩
theorem c_awake13  (w : World)  : Calls Try.prog 59 ([] : List Value).toArray w (fun e w' => e = .returned (.bool true) ∧ Below w.heap.size w w') := by
  refine KAB (N := 53) (rs := [.tmp 0]) [] Try.func59 rfl Try.ntmps59 Try.results59 (Nb rfl) trivial rfl ?_
  show LCode _ _ _ ⟨_, _⟩ _
  refine KE (KB ?_)
  refine KA (KF rfl) (Nb rfl) ?_
  refine KG ?_
  refine KE (KB ?_)
  refine KK rfl (KY (KO (first := []) rfl en_56 rfl (Nb rfl) (fun w hw => c_curveGet 13 cv13 w cv13_is) ?_))
  refine KA (KD rfl) (Nb rfl) ?_
  refine KA (Kt rfl rfl) (Nb rfl) ?_
  refine KA (Kt rfl rfl) (Nb rfl) ?_
  refine KK rfl (KY (KS (Kp zr_62) (Nb rfl) (fun b1 => ?_)))
  refine KK rfl (Kb rfl rfl sz_62 (by repeat (first | exact acL_one _ | exact acC_one _ _ _ _ _ _ _ _ _ _ _ | exact sgL_one _ _ | exact Ky _ | exact KAT _ _ _ | exact KAJ _ | exact KAK _ _ _ | exact KAV _ _ _ | exact Kf | refine KZ rfl ?_ | refine Ko ?_ ?_)) (by repeat (first | exact Sh _ | apply St_)) (by first | exact KAf _ | exact KAg _ _ _ _ _ _ _ _ _ _ _ | exact KAk _ _ | exact KJ _ | exact KM _ _ _ | exact KN _ | exact Kd _ _ _ | exact KAD _ _ _ | rfl | simp [KM, KJ, KN]) ?_)
  refine KA (KF rfl) (Nb rfl) ?_
  refine KG ?_
  refine KE (KB ?_)
  refine KK rfl (KY (KO (first := []) rfl en_56 rfl (Nb rfl) (fun w hw => c_curveGet_none 16 w rfl) ?_))
  refine KA (KD rfl) (Nb rfl) ?_
  refine KA (Kt rfl rfl) (Nb rfl) ?_
  refine KA (Kt rfl rfl) (Nb rfl) ?_
  refine KK rfl (KY (KS (Kp zr_62) (Nb rfl) (fun b3 => ?_)))
  refine KK rfl (Kb rfl rfl sz_62 (by repeat (first | exact acL_one _ | exact acC_one _ _ _ _ _ _ _ _ _ _ _ | exact sgL_one _ _ | exact Ky _ | exact KAT _ _ _ | exact KAJ _ | exact KAK _ _ _ | exact KAV _ _ _ | exact Kf | refine KZ rfl ?_ | refine Ko ?_ ?_)) (by repeat (first | exact Sh _ | apply St_)) (by first | exact KAf _ | exact KAg _ _ _ _ _ _ _ _ _ _ _ | exact KAk _ _ | exact KJ _ | exact KM _ _ _ | exact KN _ | exact Kd _ _ _ | exact KAD _ _ _ | rfl | simp [KM, KJ, KN]) ?_)
  refine KA (KF rfl) (Nb rfl) ?_
  refine KG ?_
  refine KE ?_
  refine Kc [] (by kernel_rfl) ?_
  refine KC 0 rfl (by kernel_rfl) (Nb rfl) (KD rfl) ?_
  refine Kq 1 rfl rfl (by kernel_rfl) (KO (first := []) rfl en_46 rfl (Nb rfl) (fun w hw => c_Num _ w) ?_)
  refine KC 2 rfl (by kernel_rfl) (Nb rfl) (KH (v := .bool true) rfl rfl (br_t (br_eql (b := 0)) (by first | rfl | assumption | omega | (simp; done)))) ?_
  refine KC 3 rfl (by kernel_rfl) (Nb rfl) (KD rfl) ?_
  refine Ka 4 rfl rfl rfl (by kernel_rfl) (Nb rfl) (KI (o' := 1) Try.underlying62 rfl rfl rfl sz_25 (by decide)) ?_
  refine Ki 5 rfl rfl rfl (by kernel_rfl) (Nb rfl) (KL rfl (by repeat (first | exact Mh _ | apply Mt)) (by exact ac_ld_p _ _ _ _ _ _ _ _ _ _ _ _ _ _)) ?_
  refine Ks 6 rfl rfl rfl rfl (by kernel_rfl) (KO (first := []) rfl en_55 rfl (Nb rfl) (fun w hw => c_One _ w (by first | omega | decide)) ?_)
  refine Ka 7 rfl rfl rfl (by kernel_rfl) (Nb rfl) (KT (Det.eqa (by kernel_rfl) (fun w => eq_nat_t (u64_w9 (by decide)) (show 251 = 251 from rfl) 10000 (by decide) w) rfl rfl) (show _ = Value.bool true by rfl)) ?_
  refine KC 8 rfl (by kernel_rfl) (Nb rfl) (Km rfl rfl) ?_
  refine KC 9 rfl (by kernel_rfl) (Nb rfl) (KD rfl) ?_
  refine Ka 10 rfl rfl rfl (by kernel_rfl) (Nb rfl) (KI (o' := 37) Try.underlying62 rfl rfl rfl sz_60 (by decide)) ?_
  refine Ka 11 rfl rfl rfl (by kernel_rfl) (Nb rfl) (KI (o' := 37) Try.underlying60 rfl rfl rfl sz_25 (by decide)) ?_
  refine Ki 12 rfl rfl rfl (by kernel_rfl) (Nb rfl) (KL rfl (by repeat (first | exact Mh _ | apply Mt)) (by exact ac_ld_gx _ _ _ _ _ _ _ _ _ _ _ _ _ _)) ?_
  refine Ks 13 rfl rfl rfl rfl (by kernel_rfl) (KO (first := []) rfl en_55 rfl (Nb rfl) (fun w hw => c_One _ w (by first | omega | decide)) ?_)
  refine Ka 14 rfl rfl rfl (by kernel_rfl) (Nb rfl) (KT (Det.eqa (by kernel_rfl) (fun w => eq_nat_t (u64_w9 (by decide)) (show 2 = 2 from rfl) 10000 (by decide) w) rfl rfl) (show _ = Value.bool true by rfl)) ?_
  refine KC 15 rfl (by kernel_rfl) (Nb rfl) (Km rfl rfl) ?_
  refine KC 16 rfl (by kernel_rfl) (Nb rfl) (KD rfl) ?_
  refine Ka 17 rfl rfl rfl (by kernel_rfl) (Nb rfl) (KI (o' := 56) Try.underlying62 rfl rfl rfl sz_3 (by decide)) ?_
  refine Ki 18 rfl rfl rfl (by kernel_rfl) (Nb rfl) (KL rfl (by repeat (first | exact Mh _ | apply Mt)) (KP Try.underlying3 rfl (by exact ac_gt_bits _ _ _ _ _ _ _ _ _ _ _))) ?_
  refine Ka 19 rfl rfl rfl (by kernel_rfl) (Nb rfl) (KH (v := .bool true) rfl rfl (br_t (br_eql (b := 8)) (by first | rfl | assumption | omega | (simp; done)))) ?_
  refine KC 20 rfl (by kernel_rfl) (Nb rfl) (Km rfl rfl) ?_
  refine KC 21 rfl (by kernel_rfl) (Nb rfl) (KD rfl) ?_
  refine Ka 22 rfl rfl rfl (by kernel_rfl) (Nb rfl) (KD rfl) ?_
  refine Ks 23 rfl rfl rfl rfl (by kernel_rfl) (KO (first := []) rfl en_46 rfl (Nb rfl) (fun w hw => c_Num _ w) ?_)
  refine Ka 24 rfl rfl rfl (by kernel_rfl) (Nb rfl) (KH (v := .bool true) rfl rfl (br_t (br_eql (b := 1300)) (by first | rfl | assumption | omega | (simp; done)))) ?_
  refine KC 25 rfl (by kernel_rfl) (Nb rfl) (Km rfl rfl) ?_
  refine KC 26 rfl (by kernel_rfl) (Nb rfl) (KD rfl) ?_
  refine Ka 27 rfl rfl rfl (by kernel_rfl) (Nb rfl) (KI (o' := 37) Try.underlying62 rfl rfl rfl sz_60 (by decide)) ?_
  refine Ki 28 rfl rfl rfl (by kernel_rfl) (Nb rfl) (KL rfl (by repeat (first | exact Mh _ | apply Mt)) (by exact ac_ld_g _ _ _ _ _ _ _ _ _ _ _ _ _ _)) ?_
  refine Ks 29 rfl rfl rfl rfl (by kernel_rfl) (KO (first := []) rfl en_61 rfl (Nb rfl) (fun w hw => c_curveOnB 13 cv13 2 84 false true w cv13_is (u64_w9 (by decide)) (u64_w9 (by decide)) (by decide)) ?_)
  refine KC 30 rfl (by kernel_rfl) (Nb rfl) (Km rfl rfl) ?_
  refine KC 31 rfl (by kernel_rfl) (Nb rfl) (KD rfl) ?_
  refine Ka 32 rfl rfl rfl (by kernel_rfl) (Nb rfl) (KT (KAl pl_60 zr_60 rfl fill_ptInf) rfl) ?_
  refine Ks 33 rfl rfl rfl rfl (by kernel_rfl) (KO (first := []) rfl en_61 rfl (Nb rfl) (fun w hw => c_curveOnB 13 cv13 0 0 true true w cv13_is (u64_w9 (by decide)) (u64_w9 (by decide)) (by decide)) ?_)
  refine KC 34 rfl (by kernel_rfl) (Nb rfl) (Km rfl rfl) ?_
  refine KC 35 rfl (by kernel_rfl) (Nb rfl) (KD rfl) ?_
  refine Ks 36 rfl rfl rfl rfl (by kernel_rfl) (KV (Post := fun v its => ∃ b cap rest, v = .slice (some ⟨b, 0, none⟩) 15 cap ∧ its = [.blk b ⟨true, vec .i64 15 (fun i => i + 1) ++ rest, 3, (0, 0)⟩] ∧ 15 + rest.length = cap) (first := []) rfl en_57 rfl (Nb rfl) (fun w1 hw hs => (c_Ids w1).mono fun e w' ⟨b, cap, rest, h1, h2, h3, h4, h5⟩ => ⟨_, _, ⟨b, cap, rest, rfl, rfl, h2⟩, h1, Brings.own h5 h3 h4⟩) ?_)
  rintro _ _ ⟨bi, capi, resti, rfl, rfl, hci⟩
  refine Ka 37 rfl rfl rfl (by kernel_rfl) (Nb rfl) (KAY Try.underlying65 rfl) ?_
  refine Ka 38 rfl rfl rfl (by kernel_rfl) (Nb rfl) (KH (v := .bool true) rfl rfl (br_t (br_eql (b := 15)) (by first | rfl | assumption | omega | (simp; done)))) ?_
  refine KC 39 rfl (by kernel_rfl) (Nb rfl) (Km rfl rfl) ?_
  refine KC 40 rfl (by kernel_rfl) (Nb rfl) (KF rfl) ?_
  refine Kj (by kernel_rfl) ?_
  refine KQ ?_
  refine ⟨[_], .cons rfl .nil, fun a w' hr => ⟨?_, hr.fr.below⟩⟩
  rfl
end Go.Proofs.Ytljblbgogjieaaa
set_option linter.unusedVariables false
set_option linter.unusedSimpArgs false
set_option maxRecDepth 20000
namespace Go.Proofs.Ytljblbgogjieaaa
open Go Go.RowKit
open Grp
theorem xG {V : Cv} (hok : V.Ok) : xv V.G = V.x := val_c hok.bounds.2.2.2.2.1
theorem yG {V : Cv} (hok : V.Ok) : yv V.G = V.y := val_c hok.bounds.2.2.2.2.2.1
theorem c_r_TimesG (Q : CQ) (V : Cv) (qk : NV) (K : Nat) (q r : NV) (R : Pt V.p) (w : World) (hc : (crvI Q V).holds w) (hok : V.Ok) (hk : (numT qk K).holds w) (hK : D.nw K ≤ 1000) (hq : (numT q V.x).holds w) (hr : (numT r V.y).holds w) (hR : pmul V.A V.G K = R) :
    Calls Try.prog 64 ([.agg (crvL Q V).toArray, numV qk K, rpV (numV q V.x) (numV r V.y) false] : List Value).toArray w (fun e w' => Num2R w (fpz q (D.nw V.x) ++ (fpz r (D.nw V.y) ++ [])) (xv R) (yv R) (fun u v => rpV u v (iv R)) e w') := by
  have h := c_r_Times Q V qk K q r V.G R w hc hok hk hK (by rw [xG hok]; exact hq) (by rw [yG hok]; exact hr) hok.on hR
  unfold fp2 at h
  rw [xG hok, yG hok] at h
  exact h
theorem c_r_NegG (Q : CQ) (V : Cv) (q r : NV) (w : World) (hc : (crvI Q V).holds w) (hok : V.Ok) (hq : (numT q V.x).holds w) (hr : (numT r V.y).holds w) :
    Calls Try.prog 67 ([.agg (crvL Q V).toArray, rpV (numV q V.x) (numV r V.y) false] : List Value).toArray w (fun e w' => Num2R w (fpz q (D.nw V.x) ++ (fpz r (D.nw V.y) ++ [])) (xv V.G.neg) (yv V.G.neg) (fun u v => rpV u v (iv V.G.neg)) e w') := by
  have h := c_r_Neg Q V q r V.G w hc hok (by rw [xG hok]; exact hq) (by rw [yG hok]; exact hr) hok.on
  unfold fp2 at h
  rw [xG hok, yG hok] at h
  exact h
theorem Cv.Ok.mul_less {V : Cv} (hok : V.Ok) : pmul V.A V.G (V.n - 1) = V.G.neg := by
  have hn := hok.order.1
  have h1 : padd V.A (pmul V.A V.G (V.n - 1)) V.G = .inf := by
    rw [← pmul_succ, show V.n - 1 + 1 = V.n by omega]; exact hok.ord
  have h2 : padd V.A V.G.neg V.G = .inf := by
    rw [padd_comm hok.fld (neg_on hok.on) hok.on]; exact padd_neg hok.fld hok.on
  exact padd_cancel hok.crv (hok.mul hok.on _) (neg_on hok.on) hok.on (h1.trans h2.symm)
theorem c_CurveSound (id : Int) (w : World)  : Calls Try.prog 9 ([.int .i64 id] : List Value).toArray w (fun e w' => e = .returned (.bool true) ∧ Below w.heap.size w w') := by
  obtain ⟨V, h⟩ := cvI_idx id
  obtain ⟨hok, hid⟩ := cvI_ok h
  have h2 := cvI_id h
  obtain ⟨hb5, hb521, hba, hbb, hbx, hby, hbn, hbo, hbo2, hbb1, hbn1⟩ := hok.bounds
  have hsz := hok.sz
  have hsp := hsz.p
  have hsa := hsz.a
  have hsb := hsz.b
  have hp0 : V.p ≠ 0 := by omega
  have hpp : 0 < V.p := by omega
  have hm17 : ∀ k, D.nw (k % V.p) ≤ 17 := fun k => Nat.le_trans (D.nw_mono (Nat.le_of_lt (Nat.mod_lt k hpp))) hsp
  have hpW : V.p < W9 := w9_521 hb521
  have hnW : V.n < W9 := w9_521 hbn
  have hxW := Nat.lt_trans hbx hpW
  have hyW := Nat.lt_trans hby hpW
  have hsn := hsz.n
  have h17 : ∀ {A : Nat}, A < V.p → D.nw A ≤ 100000 := fun h => Nat.le_trans (nw_521 (Nat.lt_trans h hb521)) (by decide)
  refine KAB (N := 84) (rs := [.tmp 2]) [] Try.func9 rfl Try.ntmps9 Try.results9 (Nb rfl) trivial rfl ?_
  show LCode _ _ _ ⟨_, _⟩ _
  refine KE (KB ?_)
  refine KA (KF rfl) (Nb rfl) ?_
  refine KG ?_
  refine KE ?_
  refine KE (KB ?_)
  refine KK rfl (KY (KO (first := []) rfl en_59 rfl (Nb rfl) (fun w hw => c_awake13 w) ?_))
  refine KA (KT (Det.not rfl) (show _ = Value.bool false from rfl)) (Nb rfl) ?_
  refine KG ?_
  refine Ku rfl ?_
  refine Ke ?_
  refine KE (KB ?_)
  refine KA (KD rfl) (Nb rfl) ?_
  refine KA (KT (Det.conv Try.underlying3 Try.underlying46 rfl) (uidx_eq _)) (Nb rfl) ?_
  refine KA (KH rfl rfl (br_rem64 (b := 15) (by omega))) (Nb rfl) ?_
  refine KA (Det.convi Try.underlying46 Try.underlying3 rfl (by omega)) (Nb rfl) ?_
  refine KA (KH rfl rfl (KAG (a := 1) (by omega))) (Nb rfl) ?_
  refine KA (KF rfl) (Nb rfl) ?_
  refine KG ?_
  refine KE (KB ?_)
  refine KA (KD rfl) (Nb rfl) ?_
  refine KK rfl (KY (KO (first := []) rfl en_56 rfl (Nb rfl) (fun w hw => c_curveGet _ V w h) ?_))
  refine KA (KD rfl) (Nb rfl) ?_
  refine KA (Kt rfl rfl) (Nb rfl) ?_
  refine KA (Kt rfl rfl) (Nb rfl) ?_
  refine KK rfl (KY (KS (Kp zr_62) (Nb rfl) (fun b4 => ?_)))
  refine KK rfl (Kb rfl rfl sz_62 (by repeat (first | exact acL_one _ | exact acC_one _ _ _ _ _ _ _ _ _ _ _ | exact sgL_one _ _ | exact Ky _ | exact KAT _ _ _ | exact KAJ _ | exact KAK _ _ _ | exact KAV _ _ _ | exact Kf | refine KZ rfl ?_ | refine Ko ?_ ?_)) (by repeat (first | exact Sh _ | apply St_)) (by first | exact KAf _ | exact KAg _ _ _ _ _ _ _ _ _ _ _ | exact KAk _ _ | exact KJ _ | exact KM _ _ _ | exact KN _ | exact Kd _ _ _ | exact KAD _ _ _ | rfl | simp [KM, KJ, KN]) ?_)
  refine KA (KF rfl) (Nb rfl) ?_
  refine KG ?_
  refine KE (KB ?_)
  refine KA (KD rfl) (Nb rfl) ?_
  refine KK rfl (KY (KV (Post := fun v its => ∃ Q, v = .tuple #[.agg (crvL Q V).toArray, .bool true] ∧ its = [crvI Q V]) (first := []) rfl en_43 rfl (Nb rfl) (fun w1 hw hs => (c_r_Get _ V w1 h).mono fun e w' ⟨Q, h1, h2, h3, h4⟩ => ⟨_, _, ⟨Q, rfl, rfl⟩, h1, Brings.nums h4 (by intro x hx; simp at hx; subst hx; exact h2) (by intro x hx; simp at hx; subst hx; rfl) (by intro x hx k hk; simp at hx; subst hx; exact .inl (h3 k hk))⟩) ?_))
  rintro _ _ ⟨Q, rfl, rfl⟩
  refine KA (KD rfl) (Nb rfl) ?_
  refine KA (Kt rfl rfl) (Nb rfl) ?_
  refine KA (Kt rfl rfl) (Nb rfl) ?_
  refine KK rfl (KY (KS (Kp zr_31) (Nb rfl) (fun b6 => ?_)))
  refine KK rfl (Kb rfl rfl sz_31 (by repeat (first | exact acL_one _ | exact acC_one _ _ _ _ _ _ _ _ _ _ _ | exact sgL_one _ _ | exact Ky _ | exact KAT _ _ _ | exact KAJ _ | exact KAK _ _ _ | exact KAV _ _ _ | exact Kf | refine KZ rfl ?_ | refine Ko ?_ ?_)) (by repeat (first | exact Sh _ | apply St_)) (by first | exact KAf _ | exact KAg _ _ _ _ _ _ _ _ _ _ _ | exact KAk _ _ | exact KJ _ | exact KM _ _ _ | exact KN _ | exact Kd _ _ _ | exact KAD _ _ _ | rfl | simp [KM, KJ, KN]) ?_)
  refine KA (KF rfl) (Nb rfl) ?_
  refine KG ?_
  refine KE ?_
  refine KE (KB ?_)
  refine KA (KD rfl) (Nb rfl) ?_
  refine KK rfl (KY (KO (first := []) rfl en_46 rfl (Nb rfl) (fun w hw => c_Num _ w) ?_))
  refine KA (KH (v := .bool false) rfl rfl (br_f (br_neq (b := 0)) (by first | exact (fun e => e rfl) | (simp; done) | omega))) (Nb rfl) ?_
  refine KA (KD rfl) (Nb rfl) ?_
  refine Kg rfl rfl (KD rfl) (Nb rfl) ?_
  refine Kg rfl rfl (KT (Det.not rfl) (show _ = Value.bool false from rfl)) (Nb rfl) ?_
  refine KA (KAL rfl rfl) (Nb rfl) ?_
  refine KA (KD rfl) (Nb rfl) ?_
  refine Kg rfl rfl (KD rfl) (Nb rfl) ?_
  refine Kg rfl rfl (KI (o' := 37) Try.underlying62 rfl rfl rfl sz_60 (by decide)) (Nb rfl) ?_
  refine LOps.detG rfl rfl (KL rfl (by repeat (first | exact Mh _ | apply Mt)) (by exact ac_ld_g _ _ _ _ _ _ _ _ _ _ _ _ _ _)) (Nb rfl) ?_
  refine LOps.stepG rfl rfl rfl (KY (KO (first := []) rfl en_61 rfl (Nb rfl) (fun w hw => c_curveOnB _ V V.x V.y false true w h hxW hyW (hok.on_G hbx hby)) ?_))
  refine Kg rfl rfl (KT (Det.not rfl) (show _ = Value.bool false from rfl)) (Nb rfl) ?_
  refine KA (KAL rfl rfl) (Nb rfl) ?_
  refine KA (KD rfl) (Nb rfl) ?_
  refine Kg rfl rfl (KI (o' := 37) Try.underlying62 rfl rfl rfl sz_60 (by decide)) (Nb rfl) ?_
  refine Kg rfl rfl (KI (o' := 55) Try.underlying60 rfl rfl rfl sz_4 (by decide)) (Nb rfl) ?_
  refine LOps.detG rfl rfl (KL rfl (by repeat (first | exact Mh _ | apply Mt)) (KP Try.underlying4 rfl (by exact ac_gt_inf _ _ _ _ _ _ _ _ _ _ _))) (Nb rfl) ?_
  refine KA (KAL rfl rfl) (Nb rfl) ?_
  refine KG ?_
  refine Ku rfl ?_
  refine Ke ?_
  refine KE ?_
  refine Kc [9] (by kernel_rfl) ?_
  refine LAny.take 0 rfl (by kernel_rfl) (Nb rfl) (KL rfl (by repeat (first | exact Mh _ | apply Mt)) (by exact KR Try.underlying31 rfl sz_31)) ?_
  refine KC 1 rfl (by kernel_rfl) (Nb rfl) (KI (o' := 28) Try.underlying62 rfl rfl rfl sz_25 (by decide)) ?_
  refine LAny.take 2 rfl (by kernel_rfl) (Nb rfl) (KL rfl (by repeat (first | exact Mh _ | apply Mt)) (by exact ac_ld_n _ _ _ _ _ _ _ _ _ _ _ _ _ _)) ?_
  refine KC 4 rfl (by kernel_rfl) (Nb rfl) (KI (o' := 37) Try.underlying62 rfl rfl rfl sz_60 (by decide)) ?_
  refine LAny.take 5 rfl (by kernel_rfl) (Nb rfl) (KL rfl (by repeat (first | exact Mh _ | apply Mt)) (by exact ac_ld_g _ _ _ _ _ _ _ _ _ _ _ _ _ _)) ?_
  refine LAny.toP ?_
  refine LAnyP.start 8 rfl (.inl zr_73) (Nb rfl) rfl rfl rfl ?_
  refine LAnyP.step 3 rfl rfl rfl (Nb rfl) (by kernel_rfl) rfl (LExt.callZ (first := []) rfl en_52 rfl (fun w hw hs => (c_n_From V.n hnW w).mono fun e w' h => KAW (Old.nil _) hs h)) ?_
  rintro _ _ ⟨qn, rfl, rfl, hnn⟩
  refine LAnyP.step 6 rfl rfl rfl (Nb rfl) (by kernel_rfl) rfl (LExt.callZ (first := []) rfl en_63 rfl (fun w hw hs => (c_r_In V.x V.y false w hxW hyW).mono fun e w' h => KAR (Old.nil _) hs h)) ?_
  rintro _ _ ⟨qga, qgb, rfl, rfl, hnga, hngb⟩
  refine LAnyP.step 7 rfl rfl rfl (Nb rfl) (by kernel_rfl) rfl (LExt.callZ (first := []) rfl en_64 rfl (fun w hw hs => (c_r_TimesG Q V qn (V.n) qga qgb (.inf) w (hw _ (by repeat (first | exact Mh _ | apply Mt))) hok (hw _ (by repeat (first | exact Mh _ | apply Mt))) (by omega) (hw _ (by repeat (first | exact Mh _ | apply Mt))) (hw _ (by repeat (first | exact Mh _ | apply Mt))) (hok.ord)).mono fun e w' h => KAR (Old.cons (x := numT qga V.x) (by repeat (first | exact Mh _ | apply Mt)) rfl (Old.cons (x := numT qgb V.y) (by repeat (first | exact Mh _ | apply Mt)) rfl (Old.nil _))) hs h)) ?_
  rintro _ _ ⟨qpa, qpb, rfl, rfl, hnpa, hnpb⟩
  refine LAnyP.mat (by kernel_rfl) (fun b8 => ?_)
  refine LAnyP.toAny ?_
  refine KAA 9 rfl rfl (by kernel_rfl) (by kernel_rfl) (Kb rfl rfl sz_73 (by repeat (first | exact acL_one _ | exact acC_one _ _ _ _ _ _ _ _ _ _ _ | exact sgL_one _ _ | exact Ky _ | exact KAT _ _ _ | exact KAJ _ | exact KAK _ _ _ | exact KAV _ _ _ | exact Kf | refine KZ rfl ?_ | refine Ko ?_ ?_)) (by repeat (first | exact Sh _ | apply St_)) (by first | exact KAf _ | exact KAg _ _ _ _ _ _ _ _ _ _ _ | exact KAk _ _ | exact KJ _ | exact KM _ _ _ | exact KN _ | exact Kd _ _ _ | exact KAD _ _ _ | rfl | simp [KM, KJ, KN]) ?_)
  refine Kj (by kernel_rfl) ?_
  refine KE ?_
  have hnl : D.nw (V.n - 1) ≤ 17 := nw_521 (Nat.lt_of_le_of_lt (Nat.sub_le _ _) hbn)
  refine Kc [11] (by kernel_rfl) ?_
  refine LAny.take 0 rfl (by kernel_rfl) (Nb rfl) (KL rfl (by repeat (first | exact Mh _ | apply Mt)) (by exact KR Try.underlying31 rfl sz_31)) ?_
  refine KC 1 rfl (by kernel_rfl) (Nb rfl) (KI (o' := 28) Try.underlying62 rfl rfl rfl sz_25 (by decide)) ?_
  refine LAny.take 2 rfl (by kernel_rfl) (Nb rfl) (KL rfl (by repeat (first | exact Mh _ | apply Mt)) (by exact ac_ld_n _ _ _ _ _ _ _ _ _ _ _ _ _ _)) ?_
  refine KC 6 rfl (by kernel_rfl) (Nb rfl) (KI (o' := 37) Try.underlying62 rfl rfl rfl sz_60 (by decide)) ?_
  refine LAny.take 7 rfl (by kernel_rfl) (Nb rfl) (KL rfl (by repeat (first | exact Mh _ | apply Mt)) (by exact ac_ld_g _ _ _ _ _ _ _ _ _ _ _ _ _ _)) ?_
  refine LAny.threeX 3 4 10 rfl rfl rfl rfl rfl rfl (by kernel_rfl) (.inr (KV (first := []) rfl en_52 rfl (Nb rfl) (fun w hw hs => (c_n_From V.n hnW w).mono fun e w' h => KAW (Old.nil _) hs h) ?_)) (.inr (KS (KAS Try.underlying29 inf_56 rfl rfl rfl rfl (by decide) rfl) (Nb rfl) (fun b58 => ?_))) (.inr (KS (Kp zr_73) (Nb rfl) (fun b9 => ?_)))
  ·
    rintro _ _ ⟨qm, rfl, rfl, hnm⟩
    refine LAny.twoX 4 10 rfl rfl rfl rfl (by kernel_rfl) (.inr (KS (KAS Try.underlying29 inf_56 rfl rfl rfl rfl (by decide) rfl) (Nb rfl) (fun b58 => ?_))) (.inr (KS (Kp zr_73) (Nb rfl) (fun b9 => ?_)))
    ·
      refine LAny.twoX 5 10 rfl rfl rfl rfl (by kernel_rfl) (.inr (KV (first := []) rfl en_65 rfl (Nb rfl) (fun w hw hs => (c_n_Sub qm ⟨false, b58, 1⟩ V.n 1 w (hw _ (by repeat (first | exact Mh _ | apply Mt))) (n1_blk (hw _ (by repeat (first | exact Mh _ | apply Mt))) (by decide)) (by omega) (by omega)).mono fun e w' h => KAW (Old.nil _) hs h) ?_)) (.inr (KS (Kp zr_73) (Nb rfl) (fun b9 => ?_)))
      ·
        rintro _ _ ⟨ql, rfl, rfl, hnl⟩
        refine LAny.twoX 8 10 rfl rfl rfl rfl (by kernel_rfl) (.inr (KV (first := []) rfl en_63 rfl (Nb rfl) (fun w hw hs => (c_r_In V.x V.y false w hxW hyW).mono fun e w' h => KAR (Old.nil _) hs h) ?_)) (.inr (KS (Kp zr_73) (Nb rfl) (fun b9 => ?_)))
        ·
          rintro _ _ ⟨qfa, qfb, rfl, rfl, hnfa, hnfb⟩
          refine LAny.twoX 9 10 rfl rfl rfl rfl (by kernel_rfl) (.inr (KV (first := []) rfl en_64 rfl (Nb rfl) (fun w hw hs => (c_r_TimesG Q V ql (V.n - 1) qfa qfb (V.G.neg) w (hw _ (by repeat (first | exact Mh _ | apply Mt))) hok (hw _ (by repeat (first | exact Mh _ | apply Mt))) (by omega) (hw _ (by repeat (first | exact Mh _ | apply Mt))) (hw _ (by repeat (first | exact Mh _ | apply Mt))) (hok.mul_less)).mono fun e w' h => KAR (Old.cons (x := numT qfa V.x) (by repeat (first | exact Mh _ | apply Mt)) rfl (Old.cons (x := numT qfb V.y) (by repeat (first | exact Mh _ | apply Mt)) rfl (Old.nil _))) hs h) ?_)) (.inr (KS (Kp zr_73) (Nb rfl) (fun b9 => ?_)))
          ·
            rintro _ _ ⟨qra, qrb, rfl, rfl, hnra, hnrb⟩
            refine Kq 10 rfl rfl (by kernel_rfl) (KS (Kp zr_73) (Nb rfl) (fun b9 => ?_))
            refine KAA 11 rfl rfl (by kernel_rfl) (by kernel_rfl) (Kb rfl rfl sz_73 (by repeat (first | exact acL_one _ | exact acC_one _ _ _ _ _ _ _ _ _ _ _ | exact sgL_one _ _ | exact Ky _ | exact KAT _ _ _ | exact KAJ _ | exact KAK _ _ _ | exact KAV _ _ _ | exact Kf | refine KZ rfl ?_ | refine Ko ?_ ?_)) (by repeat (first | exact Sh _ | apply St_)) (by first | exact KAf _ | exact KAg _ _ _ _ _ _ _ _ _ _ _ | exact KAk _ _ | exact KJ _ | exact KM _ _ _ | exact KN _ | exact Kd _ _ _ | exact KAD _ _ _ | rfl | simp [KM, KJ, KN]) ?_)
            refine Kj (by kernel_rfl) ?_
            refine KE ?_
            refine Kc [] (by kernel_rfl) ?_
            refine KC 0 rfl (by kernel_rfl) (Nb rfl) (KI (o' := 2) Try.underlying73 rfl rfl rfl sz_4 (by decide)) ?_
            refine LAny.take 1 rfl (by kernel_rfl) (Nb rfl) (KL rfl (by repeat (first | exact Mh _ | apply Mt)) (KP Try.underlying4 rfl (by first | rfl | exact Kn _ _ _ (by omega) | exact Kl _ (by omega) | exact Kh _ (by omega) | exact dv_m _ _ _ (by omega)))) ?_
            refine KC 2 rfl (by kernel_rfl) (Nb rfl) (KD rfl) ?_
            refine Ki 3 rfl rfl rfl (by kernel_rfl) (Nb rfl) (KL rfl (by repeat (first | exact Mh _ | apply Mt)) (by exact KR Try.underlying73 rfl sz_73)) ?_
            refine Ki 5 rfl rfl rfl (by kernel_rfl) (Nb rfl) (KL rfl (by repeat (first | exact Mh _ | apply Mt)) (by exact KR Try.underlying31 rfl sz_31)) ?_
            refine Ka 6 rfl rfl rfl (by kernel_rfl) (Nb rfl) (KI (o' := 37) Try.underlying62 rfl rfl rfl sz_60 (by decide)) ?_
            refine Ki 7 rfl rfl rfl (by kernel_rfl) (Nb rfl) (KL rfl (by repeat (first | exact Mh _ | apply Mt)) (by exact ac_ld_g _ _ _ _ _ _ _ _ _ _ _ _ _ _)) ?_
            refine Ks 4 rfl rfl rfl rfl (by kernel_rfl) (KO (first := []) rfl en_66 rfl (Nb rfl) (fun w hw => c_r_Out qra qrb (xv (V.G.neg)) (yv (V.G.neg)) (iv (V.G.neg)) w (hw _ (by repeat (first | exact Mh _ | apply Mt))) (hw _ (by repeat (first | exact Mh _ | apply Mt)))) ?_)
            refine Ks 8 rfl rfl rfl rfl (by kernel_rfl) (KV (first := []) rfl en_63 rfl (Nb rfl) (fun w hw hs => (c_r_In V.x V.y false w hxW hyW).mono fun e w' h => KAR (Old.nil _) hs h) ?_)
            rintro _ _ ⟨qea, qeb, rfl, rfl, hnea, hneb⟩
            refine Ks 9 rfl rfl rfl rfl (by kernel_rfl) (KV (first := []) rfl en_67 rfl (Nb rfl) (fun w hw hs => (c_r_NegG Q V qea qeb w (hw _ (by repeat (first | exact Mh _ | apply Mt))) hok (hw _ (by repeat (first | exact Mh _ | apply Mt))) (hw _ (by repeat (first | exact Mh _ | apply Mt)))).mono fun e w' h => KAR (Old.cons (x := numT qea V.x) (by repeat (first | exact Mh _ | apply Mt)) rfl (Old.cons (x := numT qeb V.y) (by repeat (first | exact Mh _ | apply Mt)) rfl (Old.nil _))) hs h) ?_)
            rintro _ _ ⟨qsa, qsb, rfl, rfl, hnsa, hnsb⟩
            refine Ks 10 rfl rfl rfl rfl (by kernel_rfl) (KO (first := []) rfl en_66 rfl (Nb rfl) (fun w hw => c_r_Out qsa qsb (xv (V.G.neg)) (yv (V.G.neg)) (iv (V.G.neg)) w (hw _ (by repeat (first | exact Mh _ | apply Mt))) (hw _ (by repeat (first | exact Mh _ | apply Mt)))) ?_)
            refine Ka 11 rfl rfl rfl (by kernel_rfl) (Nb rfl) (KT (Det.eqa (by kernel_rfl) (fun w => eq_ptP_t hok (P := V.G.neg) (Q := V.G.neg) rfl 10000 (by decide) w) rfl rfl) (show _ = Value.bool true by rfl)) ?_
            refine KC 12 rfl (by kernel_rfl) (Nb rfl) (Km rfl rfl) ?_
            refine KC 13 rfl (by kernel_rfl) (Nb rfl) (KD rfl) ?_
            refine Ka 14 rfl rfl rfl (by kernel_rfl) (Nb rfl) (KI (o' := 57) Try.underlying62 rfl rfl rfl sz_3 (by decide)) ?_
            refine Ki 15 rfl rfl rfl (by kernel_rfl) (Nb rfl) (KL rfl (by repeat (first | exact Mh _ | apply Mt)) (KP Try.underlying3 rfl (by exact ac_gt_size _ _ _ _ _ _ _ _ _ _ _))) ?_
            refine Ki 16 rfl rfl rfl (by kernel_rfl) (Nb rfl) (KL rfl (by repeat (first | exact Mh _ | apply Mt)) (by exact KR Try.underlying31 rfl sz_31)) ?_
            refine Ks 17 rfl rfl rfl rfl (by kernel_rfl) (KO (first := []) rfl en_68 rfl (Nb rfl) (fun w hw => c_r_Size Q V w (hw _ (by repeat (first | exact Mh _ | apply Mt))) hsz) ?_)
            refine Ka 18 rfl rfl rfl (by kernel_rfl) (Nb rfl) (KH (v := .bool true) rfl rfl (br_t br_eql (by first | rfl | assumption | omega | (simp; done)))) ?_
            refine KC 19 rfl (by kernel_rfl) (Nb rfl) (Km rfl rfl) ?_
            refine KC 20 rfl (by kernel_rfl) (Nb rfl) (KF rfl) ?_
            refine Kj (by kernel_rfl) ?_
            refine KQ ?_
            refine ⟨[_], .cons rfl .nil, fun a w' hr => ⟨?_, hr.fr.below⟩⟩
            rfl
          ·
            refine Kq 9 rfl rfl (by kernel_rfl) (KV (first := []) rfl en_64 rfl (Nb rfl) (fun w hw hs => (c_r_TimesG Q V ql (V.n - 1) qfa qfb (V.G.neg) w (hw _ (by repeat (first | exact Mh _ | apply Mt))) hok (hw _ (by repeat (first | exact Mh _ | apply Mt))) (by omega) (hw _ (by repeat (first | exact Mh _ | apply Mt))) (hw _ (by repeat (first | exact Mh _ | apply Mt))) (hok.mul_less)).mono fun e w' h => KAR (Old.cons (x := numT qfa V.x) (by repeat (first | exact Mh _ | apply Mt)) rfl (Old.cons (x := numT qfb V.y) (by repeat (first | exact Mh _ | apply Mt)) rfl (Old.nil _))) hs h) ?_)
            rintro _ _ ⟨qra, qrb, rfl, rfl, hnra, hnrb⟩
            refine KAA 11 rfl rfl (by kernel_rfl) (by kernel_rfl) (Kb rfl rfl sz_73 (by repeat (first | exact acL_one _ | exact acC_one _ _ _ _ _ _ _ _ _ _ _ | exact sgL_one _ _ | exact Ky _ | exact KAT _ _ _ | exact KAJ _ | exact KAK _ _ _ | exact KAV _ _ _ | exact Kf | refine KZ rfl ?_ | refine Ko ?_ ?_)) (by repeat (first | exact Sh _ | apply St_)) (by first | exact KAf _ | exact KAg _ _ _ _ _ _ _ _ _ _ _ | exact KAk _ _ | exact KJ _ | exact KM _ _ _ | exact KN _ | exact Kd _ _ _ | exact KAD _ _ _ | rfl | simp [KM, KJ, KN]) ?_)
            refine Kj (by kernel_rfl) ?_
            refine KE ?_
            refine Kc [] (by kernel_rfl) ?_
            refine KC 0 rfl (by kernel_rfl) (Nb rfl) (KI (o' := 2) Try.underlying73 rfl rfl rfl sz_4 (by decide)) ?_
            refine LAny.take 1 rfl (by kernel_rfl) (Nb rfl) (KL rfl (by repeat (first | exact Mh _ | apply Mt)) (KP Try.underlying4 rfl (by first | rfl | exact Kn _ _ _ (by omega) | exact Kl _ (by omega) | exact Kh _ (by omega) | exact dv_m _ _ _ (by omega)))) ?_
            refine KC 2 rfl (by kernel_rfl) (Nb rfl) (KD rfl) ?_
            refine Ki 3 rfl rfl rfl (by kernel_rfl) (Nb rfl) (KL rfl (by repeat (first | exact Mh _ | apply Mt)) (by exact KR Try.underlying73 rfl sz_73)) ?_
            refine Ki 5 rfl rfl rfl (by kernel_rfl) (Nb rfl) (KL rfl (by repeat (first | exact Mh _ | apply Mt)) (by exact KR Try.underlying31 rfl sz_31)) ?_
            refine Ka 6 rfl rfl rfl (by kernel_rfl) (Nb rfl) (KI (o' := 37) Try.underlying62 rfl rfl rfl sz_60 (by decide)) ?_
            refine Ki 7 rfl rfl rfl (by kernel_rfl) (Nb rfl) (KL rfl (by repeat (first | exact Mh _ | apply Mt)) (by exact ac_ld_g _ _ _ _ _ _ _ _ _ _ _ _ _ _)) ?_
            refine Ks 4 rfl rfl rfl rfl (by kernel_rfl) (KO (first := []) rfl en_66 rfl (Nb rfl) (fun w hw => c_r_Out qra qrb (xv (V.G.neg)) (yv (V.G.neg)) (iv (V.G.neg)) w (hw _ (by repeat (first | exact Mh _ | apply Mt))) (hw _ (by repeat (first | exact Mh _ | apply Mt)))) ?_)
            refine Ks 8 rfl rfl rfl rfl (by kernel_rfl) (KV (first := []) rfl en_63 rfl (Nb rfl) (fun w hw hs => (c_r_In V.x V.y false w hxW hyW).mono fun e w' h => KAR (Old.nil _) hs h) ?_)
            rintro _ _ ⟨qea, qeb, rfl, rfl, hnea, hneb⟩
            refine Ks 9 rfl rfl rfl rfl (by kernel_rfl) (KV (first := []) rfl en_67 rfl (Nb rfl) (fun w hw hs => (c_r_NegG Q V qea qeb w (hw _ (by repeat (first | exact Mh _ | apply Mt))) hok (hw _ (by repeat (first | exact Mh _ | apply Mt))) (hw _ (by repeat (first | exact Mh _ | apply Mt)))).mono fun e w' h => KAR (Old.cons (x := numT qea V.x) (by repeat (first | exact Mh _ | apply Mt)) rfl (Old.cons (x := numT qeb V.y) (by repeat (first | exact Mh _ | apply Mt)) rfl (Old.nil _))) hs h) ?_)
            rintro _ _ ⟨qsa, qsb, rfl, rfl, hnsa, hnsb⟩
            refine Ks 10 rfl rfl rfl rfl (by kernel_rfl) (KO (first := []) rfl en_66 rfl (Nb rfl) (fun w hw => c_r_Out qsa qsb (xv (V.G.neg)) (yv (V.G.neg)) (iv (V.G.neg)) w (hw _ (by repeat (first | exact Mh _ | apply Mt))) (hw _ (by repeat (first | exact Mh _ | apply Mt)))) ?_)
            refine Ka 11 rfl rfl rfl (by kernel_rfl) (Nb rfl) (KT (Det.eqa (by kernel_rfl) (fun w => eq_ptP_t hok (P := V.G.neg) (Q := V.G.neg) rfl 10000 (by decide) w) rfl rfl) (show _ = Value.bool true by rfl)) ?_
            refine KC 12 rfl (by kernel_rfl) (Nb rfl) (Km rfl rfl) ?_
            refine KC 13 rfl (by kernel_rfl) (Nb rfl) (KD rfl) ?_
            refine Ka 14 rfl rfl rfl (by kernel_rfl) (Nb rfl) (KI (o' := 57) Try.underlying62 rfl rfl rfl sz_3 (by decide)) ?_
            refine Ki 15 rfl rfl rfl (by kernel_rfl) (Nb rfl) (KL rfl (by repeat (first | exact Mh _ | apply Mt)) (KP Try.underlying3 rfl (by exact ac_gt_size _ _ _ _ _ _ _ _ _ _ _))) ?_
            refine Ki 16 rfl rfl rfl (by kernel_rfl) (Nb rfl) (KL rfl (by repeat (first | exact Mh _ | apply Mt)) (by exact KR Try.underlying31 rfl sz_31)) ?_
            refine Ks 17 rfl rfl rfl rfl (by kernel_rfl) (KO (first := []) rfl en_68 rfl (Nb rfl) (fun w hw => c_r_Size Q V w (hw _ (by repeat (first | exact Mh _ | apply Mt))) hsz) ?_)
            refine Ka 18 rfl rfl rfl (by kernel_rfl) (Nb rfl) (KH (v := .bool true) rfl rfl (br_t br_eql (by first | rfl | assumption | omega | (simp; done)))) ?_
            refine KC 19 rfl (by kernel_rfl) (Nb rfl) (Km rfl rfl) ?_
            refine KC 20 rfl (by kernel_rfl) (Nb rfl) (KF rfl) ?_
            refine Kj (by kernel_rfl) ?_
            refine KQ ?_
            refine ⟨[_], .cons rfl .nil, fun a w' hr => ⟨?_, hr.fr.below⟩⟩
            rfl
        ·
          refine Kq 8 rfl rfl (by kernel_rfl) (KV (first := []) rfl en_63 rfl (Nb rfl) (fun w hw hs => (c_r_In V.x V.y false w hxW hyW).mono fun e w' h => KAR (Old.nil _) hs h) ?_)
          rintro _ _ ⟨qfa, qfb, rfl, rfl, hnfa, hnfb⟩
          refine Kq 9 rfl rfl (by kernel_rfl) (KV (first := []) rfl en_64 rfl (Nb rfl) (fun w hw hs => (c_r_TimesG Q V ql (V.n - 1) qfa qfb (V.G.neg) w (hw _ (by repeat (first | exact Mh _ | apply Mt))) hok (hw _ (by repeat (first | exact Mh _ | apply Mt))) (by omega) (hw _ (by repeat (first | exact Mh _ | apply Mt))) (hw _ (by repeat (first | exact Mh _ | apply Mt))) (hok.mul_less)).mono fun e w' h => KAR (Old.cons (x := numT qfa V.x) (by repeat (first | exact Mh _ | apply Mt)) rfl (Old.cons (x := numT qfb V.y) (by repeat (first | exact Mh _ | apply Mt)) rfl (Old.nil _))) hs h) ?_)
          rintro _ _ ⟨qra, qrb, rfl, rfl, hnra, hnrb⟩
          refine KAA 11 rfl rfl (by kernel_rfl) (by kernel_rfl) (Kb rfl rfl sz_73 (by repeat (first | exact acL_one _ | exact acC_one _ _ _ _ _ _ _ _ _ _ _ | exact sgL_one _ _ | exact Ky _ | exact KAT _ _ _ | exact KAJ _ | exact KAK _ _ _ | exact KAV _ _ _ | exact Kf | refine KZ rfl ?_ | refine Ko ?_ ?_)) (by repeat (first | exact Sh _ | apply St_)) (by first | exact KAf _ | exact KAg _ _ _ _ _ _ _ _ _ _ _ | exact KAk _ _ | exact KJ _ | exact KM _ _ _ | exact KN _ | exact Kd _ _ _ | exact KAD _ _ _ | rfl | simp [KM, KJ, KN]) ?_)
          refine Kj (by kernel_rfl) ?_
          refine KE ?_
          refine Kc [] (by kernel_rfl) ?_
          refine KC 0 rfl (by kernel_rfl) (Nb rfl) (KI (o' := 2) Try.underlying73 rfl rfl rfl sz_4 (by decide)) ?_
          refine LAny.take 1 rfl (by kernel_rfl) (Nb rfl) (KL rfl (by repeat (first | exact Mh _ | apply Mt)) (KP Try.underlying4 rfl (by first | rfl | exact Kn _ _ _ (by omega) | exact Kl _ (by omega) | exact Kh _ (by omega) | exact dv_m _ _ _ (by omega)))) ?_
          refine KC 2 rfl (by kernel_rfl) (Nb rfl) (KD rfl) ?_
          refine Ki 3 rfl rfl rfl (by kernel_rfl) (Nb rfl) (KL rfl (by repeat (first | exact Mh _ | apply Mt)) (by exact KR Try.underlying73 rfl sz_73)) ?_
          refine Ki 5 rfl rfl rfl (by kernel_rfl) (Nb rfl) (KL rfl (by repeat (first | exact Mh _ | apply Mt)) (by exact KR Try.underlying31 rfl sz_31)) ?_
          refine Ka 6 rfl rfl rfl (by kernel_rfl) (Nb rfl) (KI (o' := 37) Try.underlying62 rfl rfl rfl sz_60 (by decide)) ?_
          refine Ki 7 rfl rfl rfl (by kernel_rfl) (Nb rfl) (KL rfl (by repeat (first | exact Mh _ | apply Mt)) (by exact ac_ld_g _ _ _ _ _ _ _ _ _ _ _ _ _ _)) ?_
          refine Ks 4 rfl rfl rfl rfl (by kernel_rfl) (KO (first := []) rfl en_66 rfl (Nb rfl) (fun w hw => c_r_Out qra qrb (xv (V.G.neg)) (yv (V.G.neg)) (iv (V.G.neg)) w (hw _ (by repeat (first | exact Mh _ | apply Mt))) (hw _ (by repeat (first | exact Mh _ | apply Mt)))) ?_)
          refine Ks 8 rfl rfl rfl rfl (by kernel_rfl) (KV (first := []) rfl en_63 rfl (Nb rfl) (fun w hw hs => (c_r_In V.x V.y false w hxW hyW).mono fun e w' h => KAR (Old.nil _) hs h) ?_)
          rintro _ _ ⟨qea, qeb, rfl, rfl, hnea, hneb⟩
          refine Ks 9 rfl rfl rfl rfl (by kernel_rfl) (KV (first := []) rfl en_67 rfl (Nb rfl) (fun w hw hs => (c_r_NegG Q V qea qeb w (hw _ (by repeat (first | exact Mh _ | apply Mt))) hok (hw _ (by repeat (first | exact Mh _ | apply Mt))) (hw _ (by repeat (first | exact Mh _ | apply Mt)))).mono fun e w' h => KAR (Old.cons (x := numT qea V.x) (by repeat (first | exact Mh _ | apply Mt)) rfl (Old.cons (x := numT qeb V.y) (by repeat (first | exact Mh _ | apply Mt)) rfl (Old.nil _))) hs h) ?_)
          rintro _ _ ⟨qsa, qsb, rfl, rfl, hnsa, hnsb⟩
          refine Ks 10 rfl rfl rfl rfl (by kernel_rfl) (KO (first := []) rfl en_66 rfl (Nb rfl) (fun w hw => c_r_Out qsa qsb (xv (V.G.neg)) (yv (V.G.neg)) (iv (V.G.neg)) w (hw _ (by repeat (first | exact Mh _ | apply Mt))) (hw _ (by repeat (first | exact Mh _ | apply Mt)))) ?_)
          refine Ka 11 rfl rfl rfl (by kernel_rfl) (Nb rfl) (KT (Det.eqa (by kernel_rfl) (fun w => eq_ptP_t hok (P := V.G.neg) (Q := V.G.neg) rfl 10000 (by decide) w) rfl rfl) (show _ = Value.bool true by rfl)) ?_
          refine KC 12 rfl (by kernel_rfl) (Nb rfl) (Km rfl rfl) ?_
          refine KC 13 rfl (by kernel_rfl) (Nb rfl) (KD rfl) ?_
          refine Ka 14 rfl rfl rfl (by kernel_rfl) (Nb rfl) (KI (o' := 57) Try.underlying62 rfl rfl rfl sz_3 (by decide)) ?_
          refine Ki 15 rfl rfl rfl (by kernel_rfl) (Nb rfl) (KL rfl (by repeat (first | exact Mh _ | apply Mt)) (KP Try.underlying3 rfl (by exact ac_gt_size _ _ _ _ _ _ _ _ _ _ _))) ?_
          refine Ki 16 rfl rfl rfl (by kernel_rfl) (Nb rfl) (KL rfl (by repeat (first | exact Mh _ | apply Mt)) (by exact KR Try.underlying31 rfl sz_31)) ?_
          refine Ks 17 rfl rfl rfl rfl (by kernel_rfl) (KO (first := []) rfl en_68 rfl (Nb rfl) (fun w hw => c_r_Size Q V w (hw _ (by repeat (first | exact Mh _ | apply Mt))) hsz) ?_)
          refine Ka 18 rfl rfl rfl (by kernel_rfl) (Nb rfl) (KH (v := .bool true) rfl rfl (br_t br_eql (by first | rfl | assumption | omega | (simp; done)))) ?_
          refine KC 19 rfl (by kernel_rfl) (Nb rfl) (Km rfl rfl) ?_
          refine KC 20 rfl (by kernel_rfl) (Nb rfl) (KF rfl) ?_
          refine Kj (by kernel_rfl) ?_
          refine KQ ?_
          refine ⟨[_], .cons rfl .nil, fun a w' hr => ⟨?_, hr.fr.below⟩⟩
          rfl
      ·
        refine Kq 5 rfl rfl (by kernel_rfl) (KV (first := []) rfl en_65 rfl (Nb rfl) (fun w hw hs => (c_n_Sub qm ⟨false, b58, 1⟩ V.n 1 w (hw _ (by repeat (first | exact Mh _ | apply Mt))) (n1_blk (hw _ (by repeat (first | exact Mh _ | apply Mt))) (by decide)) (by omega) (by omega)).mono fun e w' h => KAW (Old.nil _) hs h) ?_)
        rintro _ _ ⟨ql, rfl, rfl, hnl⟩
        refine Kq 8 rfl rfl (by kernel_rfl) (KV (first := []) rfl en_63 rfl (Nb rfl) (fun w hw hs => (c_r_In V.x V.y false w hxW hyW).mono fun e w' h => KAR (Old.nil _) hs h) ?_)
        rintro _ _ ⟨qfa, qfb, rfl, rfl, hnfa, hnfb⟩
        refine Kq 9 rfl rfl (by kernel_rfl) (KV (first := []) rfl en_64 rfl (Nb rfl) (fun w hw hs => (c_r_TimesG Q V ql (V.n - 1) qfa qfb (V.G.neg) w (hw _ (by repeat (first | exact Mh _ | apply Mt))) hok (hw _ (by repeat (first | exact Mh _ | apply Mt))) (by omega) (hw _ (by repeat (first | exact Mh _ | apply Mt))) (hw _ (by repeat (first | exact Mh _ | apply Mt))) (hok.mul_less)).mono fun e w' h => KAR (Old.cons (x := numT qfa V.x) (by repeat (first | exact Mh _ | apply Mt)) rfl (Old.cons (x := numT qfb V.y) (by repeat (first | exact Mh _ | apply Mt)) rfl (Old.nil _))) hs h) ?_)
        rintro _ _ ⟨qra, qrb, rfl, rfl, hnra, hnrb⟩
        refine KAA 11 rfl rfl (by kernel_rfl) (by kernel_rfl) (Kb rfl rfl sz_73 (by repeat (first | exact acL_one _ | exact acC_one _ _ _ _ _ _ _ _ _ _ _ | exact sgL_one _ _ | exact Ky _ | exact KAT _ _ _ | exact KAJ _ | exact KAK _ _ _ | exact KAV _ _ _ | exact Kf | refine KZ rfl ?_ | refine Ko ?_ ?_)) (by repeat (first | exact Sh _ | apply St_)) (by first | exact KAf _ | exact KAg _ _ _ _ _ _ _ _ _ _ _ | exact KAk _ _ | exact KJ _ | exact KM _ _ _ | exact KN _ | exact Kd _ _ _ | exact KAD _ _ _ | rfl | simp [KM, KJ, KN]) ?_)
        refine Kj (by kernel_rfl) ?_
        refine KE ?_
        refine Kc [] (by kernel_rfl) ?_
        refine KC 0 rfl (by kernel_rfl) (Nb rfl) (KI (o' := 2) Try.underlying73 rfl rfl rfl sz_4 (by decide)) ?_
        refine LAny.take 1 rfl (by kernel_rfl) (Nb rfl) (KL rfl (by repeat (first | exact Mh _ | apply Mt)) (KP Try.underlying4 rfl (by first | rfl | exact Kn _ _ _ (by omega) | exact Kl _ (by omega) | exact Kh _ (by omega) | exact dv_m _ _ _ (by omega)))) ?_
        refine KC 2 rfl (by kernel_rfl) (Nb rfl) (KD rfl) ?_
        refine Ki 3 rfl rfl rfl (by kernel_rfl) (Nb rfl) (KL rfl (by repeat (first | exact Mh _ | apply Mt)) (by exact KR Try.underlying73 rfl sz_73)) ?_
        refine Ki 5 rfl rfl rfl (by kernel_rfl) (Nb rfl) (KL rfl (by repeat (first | exact Mh _ | apply Mt)) (by exact KR Try.underlying31 rfl sz_31)) ?_
        refine Ka 6 rfl rfl rfl (by kernel_rfl) (Nb rfl) (KI (o' := 37) Try.underlying62 rfl rfl rfl sz_60 (by decide)) ?_
        refine Ki 7 rfl rfl rfl (by kernel_rfl) (Nb rfl) (KL rfl (by repeat (first | exact Mh _ | apply Mt)) (by exact ac_ld_g _ _ _ _ _ _ _ _ _ _ _ _ _ _)) ?_
        refine Ks 4 rfl rfl rfl rfl (by kernel_rfl) (KO (first := []) rfl en_66 rfl (Nb rfl) (fun w hw => c_r_Out qra qrb (xv (V.G.neg)) (yv (V.G.neg)) (iv (V.G.neg)) w (hw _ (by repeat (first | exact Mh _ | apply Mt))) (hw _ (by repeat (first | exact Mh _ | apply Mt)))) ?_)
        refine Ks 8 rfl rfl rfl rfl (by kernel_rfl) (KV (first := []) rfl en_63 rfl (Nb rfl) (fun w hw hs => (c_r_In V.x V.y false w hxW hyW).mono fun e w' h => KAR (Old.nil _) hs h) ?_)
        rintro _ _ ⟨qea, qeb, rfl, rfl, hnea, hneb⟩
        refine Ks 9 rfl rfl rfl rfl (by kernel_rfl) (KV (first := []) rfl en_67 rfl (Nb rfl) (fun w hw hs => (c_r_NegG Q V qea qeb w (hw _ (by repeat (first | exact Mh _ | apply Mt))) hok (hw _ (by repeat (first | exact Mh _ | apply Mt))) (hw _ (by repeat (first | exact Mh _ | apply Mt)))).mono fun e w' h => KAR (Old.cons (x := numT qea V.x) (by repeat (first | exact Mh _ | apply Mt)) rfl (Old.cons (x := numT qeb V.y) (by repeat (first | exact Mh _ | apply Mt)) rfl (Old.nil _))) hs h) ?_)
        rintro _ _ ⟨qsa, qsb, rfl, rfl, hnsa, hnsb⟩
        refine Ks 10 rfl rfl rfl rfl (by kernel_rfl) (KO (first := []) rfl en_66 rfl (Nb rfl) (fun w hw => c_r_Out qsa qsb (xv (V.G.neg)) (yv (V.G.neg)) (iv (V.G.neg)) w (hw _ (by repeat (first | exact Mh _ | apply Mt))) (hw _ (by repeat (first | exact Mh _ | apply Mt)))) ?_)
        refine Ka 11 rfl rfl rfl (by kernel_rfl) (Nb rfl) (KT (Det.eqa (by kernel_rfl) (fun w => eq_ptP_t hok (P := V.G.neg) (Q := V.G.neg) rfl 10000 (by decide) w) rfl rfl) (show _ = Value.bool true by rfl)) ?_
        refine KC 12 rfl (by kernel_rfl) (Nb rfl) (Km rfl rfl) ?_
        refine KC 13 rfl (by kernel_rfl) (Nb rfl) (KD rfl) ?_
        refine Ka 14 rfl rfl rfl (by kernel_rfl) (Nb rfl) (KI (o' := 57) Try.underlying62 rfl rfl rfl sz_3 (by decide)) ?_
        refine Ki 15 rfl rfl rfl (by kernel_rfl) (Nb rfl) (KL rfl (by repeat (first | exact Mh _ | apply Mt)) (KP Try.underlying3 rfl (by exact ac_gt_size _ _ _ _ _ _ _ _ _ _ _))) ?_
        refine Ki 16 rfl rfl rfl (by kernel_rfl) (Nb rfl) (KL rfl (by repeat (first | exact Mh _ | apply Mt)) (by exact KR Try.underlying31 rfl sz_31)) ?_
        refine Ks 17 rfl rfl rfl rfl (by kernel_rfl) (KO (first := []) rfl en_68 rfl (Nb rfl) (fun w hw => c_r_Size Q V w (hw _ (by repeat (first | exact Mh _ | apply Mt))) hsz) ?_)
        refine Ka 18 rfl rfl rfl (by kernel_rfl) (Nb rfl) (KH (v := .bool true) rfl rfl (br_t br_eql (by first | rfl | assumption | omega | (simp; done)))) ?_
        refine KC 19 rfl (by kernel_rfl) (Nb rfl) (Km rfl rfl) ?_
        refine KC 20 rfl (by kernel_rfl) (Nb rfl) (KF rfl) ?_
        refine Kj (by kernel_rfl) ?_
        refine KQ ?_
        refine ⟨[_], .cons rfl .nil, fun a w' hr => ⟨?_, hr.fr.below⟩⟩
        rfl
    ·
      refine Kq 4 rfl rfl (by kernel_rfl) (KS (KAS Try.underlying29 inf_56 rfl rfl rfl rfl (by decide) rfl) (Nb rfl) (fun b58 => ?_))
      refine Kq 5 rfl rfl (by kernel_rfl) (KV (first := []) rfl en_65 rfl (Nb rfl) (fun w hw hs => (c_n_Sub qm ⟨false, b58, 1⟩ V.n 1 w (hw _ (by repeat (first | exact Mh _ | apply Mt))) (n1_blk (hw _ (by repeat (first | exact Mh _ | apply Mt))) (by decide)) (by omega) (by omega)).mono fun e w' h => KAW (Old.nil _) hs h) ?_)
      rintro _ _ ⟨ql, rfl, rfl, hnl⟩
      refine Kq 8 rfl rfl (by kernel_rfl) (KV (first := []) rfl en_63 rfl (Nb rfl) (fun w hw hs => (c_r_In V.x V.y false w hxW hyW).mono fun e w' h => KAR (Old.nil _) hs h) ?_)
      rintro _ _ ⟨qfa, qfb, rfl, rfl, hnfa, hnfb⟩
      refine Kq 9 rfl rfl (by kernel_rfl) (KV (first := []) rfl en_64 rfl (Nb rfl) (fun w hw hs => (c_r_TimesG Q V ql (V.n - 1) qfa qfb (V.G.neg) w (hw _ (by repeat (first | exact Mh _ | apply Mt))) hok (hw _ (by repeat (first | exact Mh _ | apply Mt))) (by omega) (hw _ (by repeat (first | exact Mh _ | apply Mt))) (hw _ (by repeat (first | exact Mh _ | apply Mt))) (hok.mul_less)).mono fun e w' h => KAR (Old.cons (x := numT qfa V.x) (by repeat (first | exact Mh _ | apply Mt)) rfl (Old.cons (x := numT qfb V.y) (by repeat (first | exact Mh _ | apply Mt)) rfl (Old.nil _))) hs h) ?_)
      rintro _ _ ⟨qra, qrb, rfl, rfl, hnra, hnrb⟩
      refine KAA 11 rfl rfl (by kernel_rfl) (by kernel_rfl) (Kb rfl rfl sz_73 (by repeat (first | exact acL_one _ | exact acC_one _ _ _ _ _ _ _ _ _ _ _ | exact sgL_one _ _ | exact Ky _ | exact KAT _ _ _ | exact KAJ _ | exact KAK _ _ _ | exact KAV _ _ _ | exact Kf | refine KZ rfl ?_ | refine Ko ?_ ?_)) (by repeat (first | exact Sh _ | apply St_)) (by first | exact KAf _ | exact KAg _ _ _ _ _ _ _ _ _ _ _ | exact KAk _ _ | exact KJ _ | exact KM _ _ _ | exact KN _ | exact Kd _ _ _ | exact KAD _ _ _ | rfl | simp [KM, KJ, KN]) ?_)
      refine Kj (by kernel_rfl) ?_
      refine KE ?_
      refine Kc [] (by kernel_rfl) ?_
      refine KC 0 rfl (by kernel_rfl) (Nb rfl) (KI (o' := 2) Try.underlying73 rfl rfl rfl sz_4 (by decide)) ?_
      refine LAny.take 1 rfl (by kernel_rfl) (Nb rfl) (KL rfl (by repeat (first | exact Mh _ | apply Mt)) (KP Try.underlying4 rfl (by first | rfl | exact Kn _ _ _ (by omega) | exact Kl _ (by omega) | exact Kh _ (by omega) | exact dv_m _ _ _ (by omega)))) ?_
      refine KC 2 rfl (by kernel_rfl) (Nb rfl) (KD rfl) ?_
      refine Ki 3 rfl rfl rfl (by kernel_rfl) (Nb rfl) (KL rfl (by repeat (first | exact Mh _ | apply Mt)) (by exact KR Try.underlying73 rfl sz_73)) ?_
      refine Ki 5 rfl rfl rfl (by kernel_rfl) (Nb rfl) (KL rfl (by repeat (first | exact Mh _ | apply Mt)) (by exact KR Try.underlying31 rfl sz_31)) ?_
      refine Ka 6 rfl rfl rfl (by kernel_rfl) (Nb rfl) (KI (o' := 37) Try.underlying62 rfl rfl rfl sz_60 (by decide)) ?_
      refine Ki 7 rfl rfl rfl (by kernel_rfl) (Nb rfl) (KL rfl (by repeat (first | exact Mh _ | apply Mt)) (by exact ac_ld_g _ _ _ _ _ _ _ _ _ _ _ _ _ _)) ?_
      refine Ks 4 rfl rfl rfl rfl (by kernel_rfl) (KO (first := []) rfl en_66 rfl (Nb rfl) (fun w hw => c_r_Out qra qrb (xv (V.G.neg)) (yv (V.G.neg)) (iv (V.G.neg)) w (hw _ (by repeat (first | exact Mh _ | apply Mt))) (hw _ (by repeat (first | exact Mh _ | apply Mt)))) ?_)
      refine Ks 8 rfl rfl rfl rfl (by kernel_rfl) (KV (first := []) rfl en_63 rfl (Nb rfl) (fun w hw hs => (c_r_In V.x V.y false w hxW hyW).mono fun e w' h => KAR (Old.nil _) hs h) ?_)
      rintro _ _ ⟨qea, qeb, rfl, rfl, hnea, hneb⟩
      refine Ks 9 rfl rfl rfl rfl (by kernel_rfl) (KV (first := []) rfl en_67 rfl (Nb rfl) (fun w hw hs => (c_r_NegG Q V qea qeb w (hw _ (by repeat (first | exact Mh _ | apply Mt))) hok (hw _ (by repeat (first | exact Mh _ | apply Mt))) (hw _ (by repeat (first | exact Mh _ | apply Mt)))).mono fun e w' h => KAR (Old.cons (x := numT qea V.x) (by repeat (first | exact Mh _ | apply Mt)) rfl (Old.cons (x := numT qeb V.y) (by repeat (first | exact Mh _ | apply Mt)) rfl (Old.nil _))) hs h) ?_)
      rintro _ _ ⟨qsa, qsb, rfl, rfl, hnsa, hnsb⟩
      refine Ks 10 rfl rfl rfl rfl (by kernel_rfl) (KO (first := []) rfl en_66 rfl (Nb rfl) (fun w hw => c_r_Out qsa qsb (xv (V.G.neg)) (yv (V.G.neg)) (iv (V.G.neg)) w (hw _ (by repeat (first | exact Mh _ | apply Mt))) (hw _ (by repeat (first | exact Mh _ | apply Mt)))) ?_)
      refine Ka 11 rfl rfl rfl (by kernel_rfl) (Nb rfl) (KT (Det.eqa (by kernel_rfl) (fun w => eq_ptP_t hok (P := V.G.neg) (Q := V.G.neg) rfl 10000 (by decide) w) rfl rfl) (show _ = Value.bool true by rfl)) ?_
      refine KC 12 rfl (by kernel_rfl) (Nb rfl) (Km rfl rfl) ?_
      refine KC 13 rfl (by kernel_rfl) (Nb rfl) (KD rfl) ?_
      refine Ka 14 rfl rfl rfl (by kernel_rfl) (Nb rfl) (KI (o' := 57) Try.underlying62 rfl rfl rfl sz_3 (by decide)) ?_
      refine Ki 15 rfl rfl rfl (by kernel_rfl) (Nb rfl) (KL rfl (by repeat (first | exact Mh _ | apply Mt)) (KP Try.underlying3 rfl (by exact ac_gt_size _ _ _ _ _ _ _ _ _ _ _))) ?_
      refine Ki 16 rfl rfl rfl (by kernel_rfl) (Nb rfl) (KL rfl (by repeat (first | exact Mh _ | apply Mt)) (by exact KR Try.underlying31 rfl sz_31)) ?_
      refine Ks 17 rfl rfl rfl rfl (by kernel_rfl) (KO (first := []) rfl en_68 rfl (Nb rfl) (fun w hw => c_r_Size Q V w (hw _ (by repeat (first | exact Mh _ | apply Mt))) hsz) ?_)
      refine Ka 18 rfl rfl rfl (by kernel_rfl) (Nb rfl) (KH (v := .bool true) rfl rfl (br_t br_eql (by first | rfl | assumption | omega | (simp; done)))) ?_
      refine KC 19 rfl (by kernel_rfl) (Nb rfl) (Km rfl rfl) ?_
      refine KC 20 rfl (by kernel_rfl) (Nb rfl) (KF rfl) ?_
      refine Kj (by kernel_rfl) ?_
      refine KQ ?_
      refine ⟨[_], .cons rfl .nil, fun a w' hr => ⟨?_, hr.fr.below⟩⟩
      rfl
  ·
    refine LAny.twoX 3 10 rfl rfl rfl rfl (by kernel_rfl) (.inr (KV (first := []) rfl en_52 rfl (Nb rfl) (fun w hw hs => (c_n_From V.n hnW w).mono fun e w' h => KAW (Old.nil _) hs h) ?_)) (.inr (KS (Kp zr_73) (Nb rfl) (fun b9 => ?_)))
    ·
      rintro _ _ ⟨qm, rfl, rfl, hnm⟩
      refine LAny.twoX 5 10 rfl rfl rfl rfl (by kernel_rfl) (.inr (KV (first := []) rfl en_65 rfl (Nb rfl) (fun w hw hs => (c_n_Sub qm ⟨false, b58, 1⟩ V.n 1 w (hw _ (by repeat (first | exact Mh _ | apply Mt))) (n1_blk (hw _ (by repeat (first | exact Mh _ | apply Mt))) (by decide)) (by omega) (by omega)).mono fun e w' h => KAW (Old.nil _) hs h) ?_)) (.inr (KS (Kp zr_73) (Nb rfl) (fun b9 => ?_)))
      ·
        rintro _ _ ⟨ql, rfl, rfl, hnl⟩
        refine LAny.twoX 8 10 rfl rfl rfl rfl (by kernel_rfl) (.inr (KV (first := []) rfl en_63 rfl (Nb rfl) (fun w hw hs => (c_r_In V.x V.y false w hxW hyW).mono fun e w' h => KAR (Old.nil _) hs h) ?_)) (.inr (KS (Kp zr_73) (Nb rfl) (fun b9 => ?_)))
        ·
          rintro _ _ ⟨qfa, qfb, rfl, rfl, hnfa, hnfb⟩
          refine LAny.twoX 9 10 rfl rfl rfl rfl (by kernel_rfl) (.inr (KV (first := []) rfl en_64 rfl (Nb rfl) (fun w hw hs => (c_r_TimesG Q V ql (V.n - 1) qfa qfb (V.G.neg) w (hw _ (by repeat (first | exact Mh _ | apply Mt))) hok (hw _ (by repeat (first | exact Mh _ | apply Mt))) (by omega) (hw _ (by repeat (first | exact Mh _ | apply Mt))) (hw _ (by repeat (first | exact Mh _ | apply Mt))) (hok.mul_less)).mono fun e w' h => KAR (Old.cons (x := numT qfa V.x) (by repeat (first | exact Mh _ | apply Mt)) rfl (Old.cons (x := numT qfb V.y) (by repeat (first | exact Mh _ | apply Mt)) rfl (Old.nil _))) hs h) ?_)) (.inr (KS (Kp zr_73) (Nb rfl) (fun b9 => ?_)))
          ·
            rintro _ _ ⟨qra, qrb, rfl, rfl, hnra, hnrb⟩
            refine Kq 10 rfl rfl (by kernel_rfl) (KS (Kp zr_73) (Nb rfl) (fun b9 => ?_))
            refine KAA 11 rfl rfl (by kernel_rfl) (by kernel_rfl) (Kb rfl rfl sz_73 (by repeat (first | exact acL_one _ | exact acC_one _ _ _ _ _ _ _ _ _ _ _ | exact sgL_one _ _ | exact Ky _ | exact KAT _ _ _ | exact KAJ _ | exact KAK _ _ _ | exact KAV _ _ _ | exact Kf | refine KZ rfl ?_ | refine Ko ?_ ?_)) (by repeat (first | exact Sh _ | apply St_)) (by first | exact KAf _ | exact KAg _ _ _ _ _ _ _ _ _ _ _ | exact KAk _ _ | exact KJ _ | exact KM _ _ _ | exact KN _ | exact Kd _ _ _ | exact KAD _ _ _ | rfl | simp [KM, KJ, KN]) ?_)
            refine Kj (by kernel_rfl) ?_
            refine KE ?_
            refine Kc [] (by kernel_rfl) ?_
            refine KC 0 rfl (by kernel_rfl) (Nb rfl) (KI (o' := 2) Try.underlying73 rfl rfl rfl sz_4 (by decide)) ?_
            refine LAny.take 1 rfl (by kernel_rfl) (Nb rfl) (KL rfl (by repeat (first | exact Mh _ | apply Mt)) (KP Try.underlying4 rfl (by first | rfl | exact Kn _ _ _ (by omega) | exact Kl _ (by omega) | exact Kh _ (by omega) | exact dv_m _ _ _ (by omega)))) ?_
            refine KC 2 rfl (by kernel_rfl) (Nb rfl) (KD rfl) ?_
            refine Ki 3 rfl rfl rfl (by kernel_rfl) (Nb rfl) (KL rfl (by repeat (first | exact Mh _ | apply Mt)) (by exact KR Try.underlying73 rfl sz_73)) ?_
            refine Ki 5 rfl rfl rfl (by kernel_rfl) (Nb rfl) (KL rfl (by repeat (first | exact Mh _ | apply Mt)) (by exact KR Try.underlying31 rfl sz_31)) ?_
            refine Ka 6 rfl rfl rfl (by kernel_rfl) (Nb rfl) (KI (o' := 37) Try.underlying62 rfl rfl rfl sz_60 (by decide)) ?_
            refine Ki 7 rfl rfl rfl (by kernel_rfl) (Nb rfl) (KL rfl (by repeat (first | exact Mh _ | apply Mt)) (by exact ac_ld_g _ _ _ _ _ _ _ _ _ _ _ _ _ _)) ?_
            refine Ks 4 rfl rfl rfl rfl (by kernel_rfl) (KO (first := []) rfl en_66 rfl (Nb rfl) (fun w hw => c_r_Out qra qrb (xv (V.G.neg)) (yv (V.G.neg)) (iv (V.G.neg)) w (hw _ (by repeat (first | exact Mh _ | apply Mt))) (hw _ (by repeat (first | exact Mh _ | apply Mt)))) ?_)
            refine Ks 8 rfl rfl rfl rfl (by kernel_rfl) (KV (first := []) rfl en_63 rfl (Nb rfl) (fun w hw hs => (c_r_In V.x V.y false w hxW hyW).mono fun e w' h => KAR (Old.nil _) hs h) ?_)
            rintro _ _ ⟨qea, qeb, rfl, rfl, hnea, hneb⟩
            refine Ks 9 rfl rfl rfl rfl (by kernel_rfl) (KV (first := []) rfl en_67 rfl (Nb rfl) (fun w hw hs => (c_r_NegG Q V qea qeb w (hw _ (by repeat (first | exact Mh _ | apply Mt))) hok (hw _ (by repeat (first | exact Mh _ | apply Mt))) (hw _ (by repeat (first | exact Mh _ | apply Mt)))).mono fun e w' h => KAR (Old.cons (x := numT qea V.x) (by repeat (first | exact Mh _ | apply Mt)) rfl (Old.cons (x := numT qeb V.y) (by repeat (first | exact Mh _ | apply Mt)) rfl (Old.nil _))) hs h) ?_)
            rintro _ _ ⟨qsa, qsb, rfl, rfl, hnsa, hnsb⟩
            refine Ks 10 rfl rfl rfl rfl (by kernel_rfl) (KO (first := []) rfl en_66 rfl (Nb rfl) (fun w hw => c_r_Out qsa qsb (xv (V.G.neg)) (yv (V.G.neg)) (iv (V.G.neg)) w (hw _ (by repeat (first | exact Mh _ | apply Mt))) (hw _ (by repeat (first | exact Mh _ | apply Mt)))) ?_)
            refine Ka 11 rfl rfl rfl (by kernel_rfl) (Nb rfl) (KT (Det.eqa (by kernel_rfl) (fun w => eq_ptP_t hok (P := V.G.neg) (Q := V.G.neg) rfl 10000 (by decide) w) rfl rfl) (show _ = Value.bool true by rfl)) ?_
            refine KC 12 rfl (by kernel_rfl) (Nb rfl) (Km rfl rfl) ?_
            refine KC 13 rfl (by kernel_rfl) (Nb rfl) (KD rfl) ?_
            refine Ka 14 rfl rfl rfl (by kernel_rfl) (Nb rfl) (KI (o' := 57) Try.underlying62 rfl rfl rfl sz_3 (by decide)) ?_
            refine Ki 15 rfl rfl rfl (by kernel_rfl) (Nb rfl) (KL rfl (by repeat (first | exact Mh _ | apply Mt)) (KP Try.underlying3 rfl (by exact ac_gt_size _ _ _ _ _ _ _ _ _ _ _))) ?_
            refine Ki 16 rfl rfl rfl (by kernel_rfl) (Nb rfl) (KL rfl (by repeat (first | exact Mh _ | apply Mt)) (by exact KR Try.underlying31 rfl sz_31)) ?_
            refine Ks 17 rfl rfl rfl rfl (by kernel_rfl) (KO (first := []) rfl en_68 rfl (Nb rfl) (fun w hw => c_r_Size Q V w (hw _ (by repeat (first | exact Mh _ | apply Mt))) hsz) ?_)
            refine Ka 18 rfl rfl rfl (by kernel_rfl) (Nb rfl) (KH (v := .bool true) rfl rfl (br_t br_eql (by first | rfl | assumption | omega | (simp; done)))) ?_
            refine KC 19 rfl (by kernel_rfl) (Nb rfl) (Km rfl rfl) ?_
            refine KC 20 rfl (by kernel_rfl) (Nb rfl) (KF rfl) ?_
            refine Kj (by kernel_rfl) ?_
            refine KQ ?_
            refine ⟨[_], .cons rfl .nil, fun a w' hr => ⟨?_, hr.fr.below⟩⟩
            rfl
          ·
            refine Kq 9 rfl rfl (by kernel_rfl) (KV (first := []) rfl en_64 rfl (Nb rfl) (fun w hw hs => (c_r_TimesG Q V ql (V.n - 1) qfa qfb (V.G.neg) w (hw _ (by repeat (first | exact Mh _ | apply Mt))) hok (hw _ (by repeat (first | exact Mh _ | apply Mt))) (by omega) (hw _ (by repeat (first | exact Mh _ | apply Mt))) (hw _ (by repeat (first | exact Mh _ | apply Mt))) (hok.mul_less)).mono fun e w' h => KAR (Old.cons (x := numT qfa V.x) (by repeat (first | exact Mh _ | apply Mt)) rfl (Old.cons (x := numT qfb V.y) (by repeat (first | exact Mh _ | apply Mt)) rfl (Old.nil _))) hs h) ?_)
            rintro _ _ ⟨qra, qrb, rfl, rfl, hnra, hnrb⟩
            refine KAA 11 rfl rfl (by kernel_rfl) (by kernel_rfl) (Kb rfl rfl sz_73 (by repeat (first | exact acL_one _ | exact acC_one _ _ _ _ _ _ _ _ _ _ _ | exact sgL_one _ _ | exact Ky _ | exact KAT _ _ _ | exact KAJ _ | exact KAK _ _ _ | exact KAV _ _ _ | exact Kf | refine KZ rfl ?_ | refine Ko ?_ ?_)) (by repeat (first | exact Sh _ | apply St_)) (by first | exact KAf _ | exact KAg _ _ _ _ _ _ _ _ _ _ _ | exact KAk _ _ | exact KJ _ | exact KM _ _ _ | exact KN _ | exact Kd _ _ _ | exact KAD _ _ _ | rfl | simp [KM, KJ, KN]) ?_)
            refine Kj (by kernel_rfl) ?_
            refine KE ?_
            refine Kc [] (by kernel_rfl) ?_
            refine KC 0 rfl (by kernel_rfl) (Nb rfl) (KI (o' := 2) Try.underlying73 rfl rfl rfl sz_4 (by decide)) ?_
            refine LAny.take 1 rfl (by kernel_rfl) (Nb rfl) (KL rfl (by repeat (first | exact Mh _ | apply Mt)) (KP Try.underlying4 rfl (by first | rfl | exact Kn _ _ _ (by omega) | exact Kl _ (by omega) | exact Kh _ (by omega) | exact dv_m _ _ _ (by omega)))) ?_
            refine KC 2 rfl (by kernel_rfl) (Nb rfl) (KD rfl) ?_
            refine Ki 3 rfl rfl rfl (by kernel_rfl) (Nb rfl) (KL rfl (by repeat (first | exact Mh _ | apply Mt)) (by exact KR Try.underlying73 rfl sz_73)) ?_
            refine Ki 5 rfl rfl rfl (by kernel_rfl) (Nb rfl) (KL rfl (by repeat (first | exact Mh _ | apply Mt)) (by exact KR Try.underlying31 rfl sz_31)) ?_
            refine Ka 6 rfl rfl rfl (by kernel_rfl) (Nb rfl) (KI (o' := 37) Try.underlying62 rfl rfl rfl sz_60 (by decide)) ?_
            refine Ki 7 rfl rfl rfl (by kernel_rfl) (Nb rfl) (KL rfl (by repeat (first | exact Mh _ | apply Mt)) (by exact ac_ld_g _ _ _ _ _ _ _ _ _ _ _ _ _ _)) ?_
            refine Ks 4 rfl rfl rfl rfl (by kernel_rfl) (KO (first := []) rfl en_66 rfl (Nb rfl) (fun w hw => c_r_Out qra qrb (xv (V.G.neg)) (yv (V.G.neg)) (iv (V.G.neg)) w (hw _ (by repeat (first | exact Mh _ | apply Mt))) (hw _ (by repeat (first | exact Mh _ | apply Mt)))) ?_)
            refine Ks 8 rfl rfl rfl rfl (by kernel_rfl) (KV (first := []) rfl en_63 rfl (Nb rfl) (fun w hw hs => (c_r_In V.x V.y false w hxW hyW).mono fun e w' h => KAR (Old.nil _) hs h) ?_)
            rintro _ _ ⟨qea, qeb, rfl, rfl, hnea, hneb⟩
            refine Ks 9 rfl rfl rfl rfl (by kernel_rfl) (KV (first := []) rfl en_67 rfl (Nb rfl) (fun w hw hs => (c_r_NegG Q V qea qeb w (hw _ (by repeat (first | exact Mh _ | apply Mt))) hok (hw _ (by repeat (first | exact Mh _ | apply Mt))) (hw _ (by repeat (first | exact Mh _ | apply Mt)))).mono fun e w' h => KAR (Old.cons (x := numT qea V.x) (by repeat (first | exact Mh _ | apply Mt)) rfl (Old.cons (x := numT qeb V.y) (by repeat (first | exact Mh _ | apply Mt)) rfl (Old.nil _))) hs h) ?_)
            rintro _ _ ⟨qsa, qsb, rfl, rfl, hnsa, hnsb⟩
            refine Ks 10 rfl rfl rfl rfl (by kernel_rfl) (KO (first := []) rfl en_66 rfl (Nb rfl) (fun w hw => c_r_Out qsa qsb (xv (V.G.neg)) (yv (V.G.neg)) (iv (V.G.neg)) w (hw _ (by repeat (first | exact Mh _ | apply Mt))) (hw _ (by repeat (first | exact Mh _ | apply Mt)))) ?_)
            refine Ka 11 rfl rfl rfl (by kernel_rfl) (Nb rfl) (KT (Det.eqa (by kernel_rfl) (fun w => eq_ptP_t hok (P := V.G.neg) (Q := V.G.neg) rfl 10000 (by decide) w) rfl rfl) (show _ = Value.bool true by rfl)) ?_
            refine KC 12 rfl (by kernel_rfl) (Nb rfl) (Km rfl rfl) ?_
            refine KC 13 rfl (by kernel_rfl) (Nb rfl) (KD rfl) ?_
            refine Ka 14 rfl rfl rfl (by kernel_rfl) (Nb rfl) (KI (o' := 57) Try.underlying62 rfl rfl rfl sz_3 (by decide)) ?_
            refine Ki 15 rfl rfl rfl (by kernel_rfl) (Nb rfl) (KL rfl (by repeat (first | exact Mh _ | apply Mt)) (KP Try.underlying3 rfl (by exact ac_gt_size _ _ _ _ _ _ _ _ _ _ _))) ?_
            refine Ki 16 rfl rfl rfl (by kernel_rfl) (Nb rfl) (KL rfl (by repeat (first | exact Mh _ | apply Mt)) (by exact KR Try.underlying31 rfl sz_31)) ?_
            refine Ks 17 rfl rfl rfl rfl (by kernel_rfl) (KO (first := []) rfl en_68 rfl (Nb rfl) (fun w hw => c_r_Size Q V w (hw _ (by repeat (first | exact Mh _ | apply Mt))) hsz) ?_)
            refine Ka 18 rfl rfl rfl (by kernel_rfl) (Nb rfl) (KH (v := .bool true) rfl rfl (br_t br_eql (by first | rfl | assumption | omega | (simp; done)))) ?_
            refine KC 19 rfl (by kernel_rfl) (Nb rfl) (Km rfl rfl) ?_
            refine KC 20 rfl (by kernel_rfl) (Nb rfl) (KF rfl) ?_
            refine Kj (by kernel_rfl) ?_
            refine KQ ?_
            refine ⟨[_], .cons rfl .nil, fun a w' hr => ⟨?_, hr.fr.below⟩⟩
            rfl
        ·
          refine Kq 8 rfl rfl (by kernel_rfl) (KV (first := []) rfl en_63 rfl (Nb rfl) (fun w hw hs => (c_r_In V.x V.y false w hxW hyW).mono fun e w' h => KAR (Old.nil _) hs h) ?_)
          rintro _ _ ⟨qfa, qfb, rfl, rfl, hnfa, hnfb⟩
          refine Kq 9 rfl rfl (by kernel_rfl) (KV (first := []) rfl en_64 rfl (Nb rfl) (fun w hw hs => (c_r_TimesG Q V ql (V.n - 1) qfa qfb (V.G.neg) w (hw _ (by repeat (first | exact Mh _ | apply Mt))) hok (hw _ (by repeat (first | exact Mh _ | apply Mt))) (by omega) (hw _ (by repeat (first | exact Mh _ | apply Mt))) (hw _ (by repeat (first | exact Mh _ | apply Mt))) (hok.mul_less)).mono fun e w' h => KAR (Old.cons (x := numT qfa V.x) (by repeat (first | exact Mh _ | apply Mt)) rfl (Old.cons (x := numT qfb V.y) (by repeat (first | exact Mh _ | apply Mt)) rfl (Old.nil _))) hs h) ?_)
          rintro _ _ ⟨qra, qrb, rfl, rfl, hnra, hnrb⟩
          refine KAA 11 rfl rfl (by kernel_rfl) (by kernel_rfl) (Kb rfl rfl sz_73 (by repeat (first | exact acL_one _ | exact acC_one _ _ _ _ _ _ _ _ _ _ _ | exact sgL_one _ _ | exact Ky _ | exact KAT _ _ _ | exact KAJ _ | exact KAK _ _ _ | exact KAV _ _ _ | exact Kf | refine KZ rfl ?_ | refine Ko ?_ ?_)) (by repeat (first | exact Sh _ | apply St_)) (by first | exact KAf _ | exact KAg _ _ _ _ _ _ _ _ _ _ _ | exact KAk _ _ | exact KJ _ | exact KM _ _ _ | exact KN _ | exact Kd _ _ _ | exact KAD _ _ _ | rfl | simp [KM, KJ, KN]) ?_)
          refine Kj (by kernel_rfl) ?_
          refine KE ?_
          refine Kc [] (by kernel_rfl) ?_
          refine KC 0 rfl (by kernel_rfl) (Nb rfl) (KI (o' := 2) Try.underlying73 rfl rfl rfl sz_4 (by decide)) ?_
          refine LAny.take 1 rfl (by kernel_rfl) (Nb rfl) (KL rfl (by repeat (first | exact Mh _ | apply Mt)) (KP Try.underlying4 rfl (by first | rfl | exact Kn _ _ _ (by omega) | exact Kl _ (by omega) | exact Kh _ (by omega) | exact dv_m _ _ _ (by omega)))) ?_
          refine KC 2 rfl (by kernel_rfl) (Nb rfl) (KD rfl) ?_
          refine Ki 3 rfl rfl rfl (by kernel_rfl) (Nb rfl) (KL rfl (by repeat (first | exact Mh _ | apply Mt)) (by exact KR Try.underlying73 rfl sz_73)) ?_
          refine Ki 5 rfl rfl rfl (by kernel_rfl) (Nb rfl) (KL rfl (by repeat (first | exact Mh _ | apply Mt)) (by exact KR Try.underlying31 rfl sz_31)) ?_
          refine Ka 6 rfl rfl rfl (by kernel_rfl) (Nb rfl) (KI (o' := 37) Try.underlying62 rfl rfl rfl sz_60 (by decide)) ?_
          refine Ki 7 rfl rfl rfl (by kernel_rfl) (Nb rfl) (KL rfl (by repeat (first | exact Mh _ | apply Mt)) (by exact ac_ld_g _ _ _ _ _ _ _ _ _ _ _ _ _ _)) ?_
          refine Ks 4 rfl rfl rfl rfl (by kernel_rfl) (KO (first := []) rfl en_66 rfl (Nb rfl) (fun w hw => c_r_Out qra qrb (xv (V.G.neg)) (yv (V.G.neg)) (iv (V.G.neg)) w (hw _ (by repeat (first | exact Mh _ | apply Mt))) (hw _ (by repeat (first | exact Mh _ | apply Mt)))) ?_)
          refine Ks 8 rfl rfl rfl rfl (by kernel_rfl) (KV (first := []) rfl en_63 rfl (Nb rfl) (fun w hw hs => (c_r_In V.x V.y false w hxW hyW).mono fun e w' h => KAR (Old.nil _) hs h) ?_)
          rintro _ _ ⟨qea, qeb, rfl, rfl, hnea, hneb⟩
          refine Ks 9 rfl rfl rfl rfl (by kernel_rfl) (KV (first := []) rfl en_67 rfl (Nb rfl) (fun w hw hs => (c_r_NegG Q V qea qeb w (hw _ (by repeat (first | exact Mh _ | apply Mt))) hok (hw _ (by repeat (first | exact Mh _ | apply Mt))) (hw _ (by repeat (first | exact Mh _ | apply Mt)))).mono fun e w' h => KAR (Old.cons (x := numT qea V.x) (by repeat (first | exact Mh _ | apply Mt)) rfl (Old.cons (x := numT qeb V.y) (by repeat (first | exact Mh _ | apply Mt)) rfl (Old.nil _))) hs h) ?_)
          rintro _ _ ⟨qsa, qsb, rfl, rfl, hnsa, hnsb⟩
          refine Ks 10 rfl rfl rfl rfl (by kernel_rfl) (KO (first := []) rfl en_66 rfl (Nb rfl) (fun w hw => c_r_Out qsa qsb (xv (V.G.neg)) (yv (V.G.neg)) (iv (V.G.neg)) w (hw _ (by repeat (first | exact Mh _ | apply Mt))) (hw _ (by repeat (first | exact Mh _ | apply Mt)))) ?_)
          refine Ka 11 rfl rfl rfl (by kernel_rfl) (Nb rfl) (KT (Det.eqa (by kernel_rfl) (fun w => eq_ptP_t hok (P := V.G.neg) (Q := V.G.neg) rfl 10000 (by decide) w) rfl rfl) (show _ = Value.bool true by rfl)) ?_
          refine KC 12 rfl (by kernel_rfl) (Nb rfl) (Km rfl rfl) ?_
          refine KC 13 rfl (by kernel_rfl) (Nb rfl) (KD rfl) ?_
          refine Ka 14 rfl rfl rfl (by kernel_rfl) (Nb rfl) (KI (o' := 57) Try.underlying62 rfl rfl rfl sz_3 (by decide)) ?_
          refine Ki 15 rfl rfl rfl (by kernel_rfl) (Nb rfl) (KL rfl (by repeat (first | exact Mh _ | apply Mt)) (KP Try.underlying3 rfl (by exact ac_gt_size _ _ _ _ _ _ _ _ _ _ _))) ?_
          refine Ki 16 rfl rfl rfl (by kernel_rfl) (Nb rfl) (KL rfl (by repeat (first | exact Mh _ | apply Mt)) (by exact KR Try.underlying31 rfl sz_31)) ?_
          refine Ks 17 rfl rfl rfl rfl (by kernel_rfl) (KO (first := []) rfl en_68 rfl (Nb rfl) (fun w hw => c_r_Size Q V w (hw _ (by repeat (first | exact Mh _ | apply Mt))) hsz) ?_)
          refine Ka 18 rfl rfl rfl (by kernel_rfl) (Nb rfl) (KH (v := .bool true) rfl rfl (br_t br_eql (by first | rfl | assumption | omega | (simp; done)))) ?_
          refine KC 19 rfl (by kernel_rfl) (Nb rfl) (Km rfl rfl) ?_
          refine KC 20 rfl (by kernel_rfl) (Nb rfl) (KF rfl) ?_
          refine Kj (by kernel_rfl) ?_
          refine KQ ?_
          refine ⟨[_], .cons rfl .nil, fun a w' hr => ⟨?_, hr.fr.below⟩⟩
          rfl
      ·
        refine Kq 5 rfl rfl (by kernel_rfl) (KV (first := []) rfl en_65 rfl (Nb rfl) (fun w hw hs => (c_n_Sub qm ⟨false, b58, 1⟩ V.n 1 w (hw _ (by repeat (first | exact Mh _ | apply Mt))) (n1_blk (hw _ (by repeat (first | exact Mh _ | apply Mt))) (by decide)) (by omega) (by omega)).mono fun e w' h => KAW (Old.nil _) hs h) ?_)
        rintro _ _ ⟨ql, rfl, rfl, hnl⟩
        refine Kq 8 rfl rfl (by kernel_rfl) (KV (first := []) rfl en_63 rfl (Nb rfl) (fun w hw hs => (c_r_In V.x V.y false w hxW hyW).mono fun e w' h => KAR (Old.nil _) hs h) ?_)
        rintro _ _ ⟨qfa, qfb, rfl, rfl, hnfa, hnfb⟩
        refine Kq 9 rfl rfl (by kernel_rfl) (KV (first := []) rfl en_64 rfl (Nb rfl) (fun w hw hs => (c_r_TimesG Q V ql (V.n - 1) qfa qfb (V.G.neg) w (hw _ (by repeat (first | exact Mh _ | apply Mt))) hok (hw _ (by repeat (first | exact Mh _ | apply Mt))) (by omega) (hw _ (by repeat (first | exact Mh _ | apply Mt))) (hw _ (by repeat (first | exact Mh _ | apply Mt))) (hok.mul_less)).mono fun e w' h => KAR (Old.cons (x := numT qfa V.x) (by repeat (first | exact Mh _ | apply Mt)) rfl (Old.cons (x := numT qfb V.y) (by repeat (first | exact Mh _ | apply Mt)) rfl (Old.nil _))) hs h) ?_)
        rintro _ _ ⟨qra, qrb, rfl, rfl, hnra, hnrb⟩
        refine KAA 11 rfl rfl (by kernel_rfl) (by kernel_rfl) (Kb rfl rfl sz_73 (by repeat (first | exact acL_one _ | exact acC_one _ _ _ _ _ _ _ _ _ _ _ | exact sgL_one _ _ | exact Ky _ | exact KAT _ _ _ | exact KAJ _ | exact KAK _ _ _ | exact KAV _ _ _ | exact Kf | refine KZ rfl ?_ | refine Ko ?_ ?_)) (by repeat (first | exact Sh _ | apply St_)) (by first | exact KAf _ | exact KAg _ _ _ _ _ _ _ _ _ _ _ | exact KAk _ _ | exact KJ _ | exact KM _ _ _ | exact KN _ | exact Kd _ _ _ | exact KAD _ _ _ | rfl | simp [KM, KJ, KN]) ?_)
        refine Kj (by kernel_rfl) ?_
        refine KE ?_
        refine Kc [] (by kernel_rfl) ?_
        refine KC 0 rfl (by kernel_rfl) (Nb rfl) (KI (o' := 2) Try.underlying73 rfl rfl rfl sz_4 (by decide)) ?_
        refine LAny.take 1 rfl (by kernel_rfl) (Nb rfl) (KL rfl (by repeat (first | exact Mh _ | apply Mt)) (KP Try.underlying4 rfl (by first | rfl | exact Kn _ _ _ (by omega) | exact Kl _ (by omega) | exact Kh _ (by omega) | exact dv_m _ _ _ (by omega)))) ?_
        refine KC 2 rfl (by kernel_rfl) (Nb rfl) (KD rfl) ?_
        refine Ki 3 rfl rfl rfl (by kernel_rfl) (Nb rfl) (KL rfl (by repeat (first | exact Mh _ | apply Mt)) (by exact KR Try.underlying73 rfl sz_73)) ?_
        refine Ki 5 rfl rfl rfl (by kernel_rfl) (Nb rfl) (KL rfl (by repeat (first | exact Mh _ | apply Mt)) (by exact KR Try.underlying31 rfl sz_31)) ?_
        refine Ka 6 rfl rfl rfl (by kernel_rfl) (Nb rfl) (KI (o' := 37) Try.underlying62 rfl rfl rfl sz_60 (by decide)) ?_
        refine Ki 7 rfl rfl rfl (by kernel_rfl) (Nb rfl) (KL rfl (by repeat (first | exact Mh _ | apply Mt)) (by exact ac_ld_g _ _ _ _ _ _ _ _ _ _ _ _ _ _)) ?_
        refine Ks 4 rfl rfl rfl rfl (by kernel_rfl) (KO (first := []) rfl en_66 rfl (Nb rfl) (fun w hw => c_r_Out qra qrb (xv (V.G.neg)) (yv (V.G.neg)) (iv (V.G.neg)) w (hw _ (by repeat (first | exact Mh _ | apply Mt))) (hw _ (by repeat (first | exact Mh _ | apply Mt)))) ?_)
        refine Ks 8 rfl rfl rfl rfl (by kernel_rfl) (KV (first := []) rfl en_63 rfl (Nb rfl) (fun w hw hs => (c_r_In V.x V.y false w hxW hyW).mono fun e w' h => KAR (Old.nil _) hs h) ?_)
        rintro _ _ ⟨qea, qeb, rfl, rfl, hnea, hneb⟩
        refine Ks 9 rfl rfl rfl rfl (by kernel_rfl) (KV (first := []) rfl en_67 rfl (Nb rfl) (fun w hw hs => (c_r_NegG Q V qea qeb w (hw _ (by repeat (first | exact Mh _ | apply Mt))) hok (hw _ (by repeat (first | exact Mh _ | apply Mt))) (hw _ (by repeat (first | exact Mh _ | apply Mt)))).mono fun e w' h => KAR (Old.cons (x := numT qea V.x) (by repeat (first | exact Mh _ | apply Mt)) rfl (Old.cons (x := numT qeb V.y) (by repeat (first | exact Mh _ | apply Mt)) rfl (Old.nil _))) hs h) ?_)
        rintro _ _ ⟨qsa, qsb, rfl, rfl, hnsa, hnsb⟩
        refine Ks 10 rfl rfl rfl rfl (by kernel_rfl) (KO (first := []) rfl en_66 rfl (Nb rfl) (fun w hw => c_r_Out qsa qsb (xv (V.G.neg)) (yv (V.G.neg)) (iv (V.G.neg)) w (hw _ (by repeat (first | exact Mh _ | apply Mt))) (hw _ (by repeat (first | exact Mh _ | apply Mt)))) ?_)
        refine Ka 11 rfl rfl rfl (by kernel_rfl) (Nb rfl) (KT (Det.eqa (by kernel_rfl) (fun w => eq_ptP_t hok (P := V.G.neg) (Q := V.G.neg) rfl 10000 (by decide) w) rfl rfl) (show _ = Value.bool true by rfl)) ?_
        refine KC 12 rfl (by kernel_rfl) (Nb rfl) (Km rfl rfl) ?_
        refine KC 13 rfl (by kernel_rfl) (Nb rfl) (KD rfl) ?_
        refine Ka 14 rfl rfl rfl (by kernel_rfl) (Nb rfl) (KI (o' := 57) Try.underlying62 rfl rfl rfl sz_3 (by decide)) ?_
        refine Ki 15 rfl rfl rfl (by kernel_rfl) (Nb rfl) (KL rfl (by repeat (first | exact Mh _ | apply Mt)) (KP Try.underlying3 rfl (by exact ac_gt_size _ _ _ _ _ _ _ _ _ _ _))) ?_
        refine Ki 16 rfl rfl rfl (by kernel_rfl) (Nb rfl) (KL rfl (by repeat (first | exact Mh _ | apply Mt)) (by exact KR Try.underlying31 rfl sz_31)) ?_
        refine Ks 17 rfl rfl rfl rfl (by kernel_rfl) (KO (first := []) rfl en_68 rfl (Nb rfl) (fun w hw => c_r_Size Q V w (hw _ (by repeat (first | exact Mh _ | apply Mt))) hsz) ?_)
        refine Ka 18 rfl rfl rfl (by kernel_rfl) (Nb rfl) (KH (v := .bool true) rfl rfl (br_t br_eql (by first | rfl | assumption | omega | (simp; done)))) ?_
        refine KC 19 rfl (by kernel_rfl) (Nb rfl) (Km rfl rfl) ?_
        refine KC 20 rfl (by kernel_rfl) (Nb rfl) (KF rfl) ?_
        refine Kj (by kernel_rfl) ?_
        refine KQ ?_
        refine ⟨[_], .cons rfl .nil, fun a w' hr => ⟨?_, hr.fr.below⟩⟩
        rfl
    ·
      refine Kq 3 rfl rfl (by kernel_rfl) (KV (first := []) rfl en_52 rfl (Nb rfl) (fun w hw hs => (c_n_From V.n hnW w).mono fun e w' h => KAW (Old.nil _) hs h) ?_)
      rintro _ _ ⟨qm, rfl, rfl, hnm⟩
      refine Kq 5 rfl rfl (by kernel_rfl) (KV (first := []) rfl en_65 rfl (Nb rfl) (fun w hw hs => (c_n_Sub qm ⟨false, b58, 1⟩ V.n 1 w (hw _ (by repeat (first | exact Mh _ | apply Mt))) (n1_blk (hw _ (by repeat (first | exact Mh _ | apply Mt))) (by decide)) (by omega) (by omega)).mono fun e w' h => KAW (Old.nil _) hs h) ?_)
      rintro _ _ ⟨ql, rfl, rfl, hnl⟩
      refine Kq 8 rfl rfl (by kernel_rfl) (KV (first := []) rfl en_63 rfl (Nb rfl) (fun w hw hs => (c_r_In V.x V.y false w hxW hyW).mono fun e w' h => KAR (Old.nil _) hs h) ?_)
      rintro _ _ ⟨qfa, qfb, rfl, rfl, hnfa, hnfb⟩
      refine Kq 9 rfl rfl (by kernel_rfl) (KV (first := []) rfl en_64 rfl (Nb rfl) (fun w hw hs => (c_r_TimesG Q V ql (V.n - 1) qfa qfb (V.G.neg) w (hw _ (by repeat (first | exact Mh _ | apply Mt))) hok (hw _ (by repeat (first | exact Mh _ | apply Mt))) (by omega) (hw _ (by repeat (first | exact Mh _ | apply Mt))) (hw _ (by repeat (first | exact Mh _ | apply Mt))) (hok.mul_less)).mono fun e w' h => KAR (Old.cons (x := numT qfa V.x) (by repeat (first | exact Mh _ | apply Mt)) rfl (Old.cons (x := numT qfb V.y) (by repeat (first | exact Mh _ | apply Mt)) rfl (Old.nil _))) hs h) ?_)
      rintro _ _ ⟨qra, qrb, rfl, rfl, hnra, hnrb⟩
      refine KAA 11 rfl rfl (by kernel_rfl) (by kernel_rfl) (Kb rfl rfl sz_73 (by repeat (first | exact acL_one _ | exact acC_one _ _ _ _ _ _ _ _ _ _ _ | exact sgL_one _ _ | exact Ky _ | exact KAT _ _ _ | exact KAJ _ | exact KAK _ _ _ | exact KAV _ _ _ | exact Kf | refine KZ rfl ?_ | refine Ko ?_ ?_)) (by repeat (first | exact Sh _ | apply St_)) (by first | exact KAf _ | exact KAg _ _ _ _ _ _ _ _ _ _ _ | exact KAk _ _ | exact KJ _ | exact KM _ _ _ | exact KN _ | exact Kd _ _ _ | exact KAD _ _ _ | rfl | simp [KM, KJ, KN]) ?_)
      refine Kj (by kernel_rfl) ?_
      refine KE ?_
      refine Kc [] (by kernel_rfl) ?_
      refine KC 0 rfl (by kernel_rfl) (Nb rfl) (KI (o' := 2) Try.underlying73 rfl rfl rfl sz_4 (by decide)) ?_
      refine LAny.take 1 rfl (by kernel_rfl) (Nb rfl) (KL rfl (by repeat (first | exact Mh _ | apply Mt)) (KP Try.underlying4 rfl (by first | rfl | exact Kn _ _ _ (by omega) | exact Kl _ (by omega) | exact Kh _ (by omega) | exact dv_m _ _ _ (by omega)))) ?_
      refine KC 2 rfl (by kernel_rfl) (Nb rfl) (KD rfl) ?_
      refine Ki 3 rfl rfl rfl (by kernel_rfl) (Nb rfl) (KL rfl (by repeat (first | exact Mh _ | apply Mt)) (by exact KR Try.underlying73 rfl sz_73)) ?_
      refine Ki 5 rfl rfl rfl (by kernel_rfl) (Nb rfl) (KL rfl (by repeat (first | exact Mh _ | apply Mt)) (by exact KR Try.underlying31 rfl sz_31)) ?_
      refine Ka 6 rfl rfl rfl (by kernel_rfl) (Nb rfl) (KI (o' := 37) Try.underlying62 rfl rfl rfl sz_60 (by decide)) ?_
      refine Ki 7 rfl rfl rfl (by kernel_rfl) (Nb rfl) (KL rfl (by repeat (first | exact Mh _ | apply Mt)) (by exact ac_ld_g _ _ _ _ _ _ _ _ _ _ _ _ _ _)) ?_
      refine Ks 4 rfl rfl rfl rfl (by kernel_rfl) (KO (first := []) rfl en_66 rfl (Nb rfl) (fun w hw => c_r_Out qra qrb (xv (V.G.neg)) (yv (V.G.neg)) (iv (V.G.neg)) w (hw _ (by repeat (first | exact Mh _ | apply Mt))) (hw _ (by repeat (first | exact Mh _ | apply Mt)))) ?_)
      refine Ks 8 rfl rfl rfl rfl (by kernel_rfl) (KV (first := []) rfl en_63 rfl (Nb rfl) (fun w hw hs => (c_r_In V.x V.y false w hxW hyW).mono fun e w' h => KAR (Old.nil _) hs h) ?_)
      rintro _ _ ⟨qea, qeb, rfl, rfl, hnea, hneb⟩
      refine Ks 9 rfl rfl rfl rfl (by kernel_rfl) (KV (first := []) rfl en_67 rfl (Nb rfl) (fun w hw hs => (c_r_NegG Q V qea qeb w (hw _ (by repeat (first | exact Mh _ | apply Mt))) hok (hw _ (by repeat (first | exact Mh _ | apply Mt))) (hw _ (by repeat (first | exact Mh _ | apply Mt)))).mono fun e w' h => KAR (Old.cons (x := numT qea V.x) (by repeat (first | exact Mh _ | apply Mt)) rfl (Old.cons (x := numT qeb V.y) (by repeat (first | exact Mh _ | apply Mt)) rfl (Old.nil _))) hs h) ?_)
      rintro _ _ ⟨qsa, qsb, rfl, rfl, hnsa, hnsb⟩
      refine Ks 10 rfl rfl rfl rfl (by kernel_rfl) (KO (first := []) rfl en_66 rfl (Nb rfl) (fun w hw => c_r_Out qsa qsb (xv (V.G.neg)) (yv (V.G.neg)) (iv (V.G.neg)) w (hw _ (by repeat (first | exact Mh _ | apply Mt))) (hw _ (by repeat (first | exact Mh _ | apply Mt)))) ?_)
      refine Ka 11 rfl rfl rfl (by kernel_rfl) (Nb rfl) (KT (Det.eqa (by kernel_rfl) (fun w => eq_ptP_t hok (P := V.G.neg) (Q := V.G.neg) rfl 10000 (by decide) w) rfl rfl) (show _ = Value.bool true by rfl)) ?_
      refine KC 12 rfl (by kernel_rfl) (Nb rfl) (Km rfl rfl) ?_
      refine KC 13 rfl (by kernel_rfl) (Nb rfl) (KD rfl) ?_
      refine Ka 14 rfl rfl rfl (by kernel_rfl) (Nb rfl) (KI (o' := 57) Try.underlying62 rfl rfl rfl sz_3 (by decide)) ?_
      refine Ki 15 rfl rfl rfl (by kernel_rfl) (Nb rfl) (KL rfl (by repeat (first | exact Mh _ | apply Mt)) (KP Try.underlying3 rfl (by exact ac_gt_size _ _ _ _ _ _ _ _ _ _ _))) ?_
      refine Ki 16 rfl rfl rfl (by kernel_rfl) (Nb rfl) (KL rfl (by repeat (first | exact Mh _ | apply Mt)) (by exact KR Try.underlying31 rfl sz_31)) ?_
      refine Ks 17 rfl rfl rfl rfl (by kernel_rfl) (KO (first := []) rfl en_68 rfl (Nb rfl) (fun w hw => c_r_Size Q V w (hw _ (by repeat (first | exact Mh _ | apply Mt))) hsz) ?_)
      refine Ka 18 rfl rfl rfl (by kernel_rfl) (Nb rfl) (KH (v := .bool true) rfl rfl (br_t br_eql (by first | rfl | assumption | omega | (simp; done)))) ?_
      refine KC 19 rfl (by kernel_rfl) (Nb rfl) (Km rfl rfl) ?_
      refine KC 20 rfl (by kernel_rfl) (Nb rfl) (KF rfl) ?_
      refine Kj (by kernel_rfl) ?_
      refine KQ ?_
      refine ⟨[_], .cons rfl .nil, fun a w' hr => ⟨?_, hr.fr.below⟩⟩
      rfl
  ·
    refine LAny.twoX 3 4 rfl rfl rfl rfl (by kernel_rfl) (.inr (KV (first := []) rfl en_52 rfl (Nb rfl) (fun w hw hs => (c_n_From V.n hnW w).mono fun e w' h => KAW (Old.nil _) hs h) ?_)) (.inr (KS (KAS Try.underlying29 inf_56 rfl rfl rfl rfl (by decide) rfl) (Nb rfl) (fun b58 => ?_)))
    ·
      rintro _ _ ⟨qm, rfl, rfl, hnm⟩
      refine Kq 4 rfl rfl (by kernel_rfl) (KS (KAS Try.underlying29 inf_56 rfl rfl rfl rfl (by decide) rfl) (Nb rfl) (fun b58 => ?_))
      refine Kq 5 rfl rfl (by kernel_rfl) (KV (first := []) rfl en_65 rfl (Nb rfl) (fun w hw hs => (c_n_Sub qm ⟨false, b58, 1⟩ V.n 1 w (hw _ (by repeat (first | exact Mh _ | apply Mt))) (n1_blk (hw _ (by repeat (first | exact Mh _ | apply Mt))) (by decide)) (by omega) (by omega)).mono fun e w' h => KAW (Old.nil _) hs h) ?_)
      rintro _ _ ⟨ql, rfl, rfl, hnl⟩
      refine Kq 8 rfl rfl (by kernel_rfl) (KV (first := []) rfl en_63 rfl (Nb rfl) (fun w hw hs => (c_r_In V.x V.y false w hxW hyW).mono fun e w' h => KAR (Old.nil _) hs h) ?_)
      rintro _ _ ⟨qfa, qfb, rfl, rfl, hnfa, hnfb⟩
      refine Kq 9 rfl rfl (by kernel_rfl) (KV (first := []) rfl en_64 rfl (Nb rfl) (fun w hw hs => (c_r_TimesG Q V ql (V.n - 1) qfa qfb (V.G.neg) w (hw _ (by repeat (first | exact Mh _ | apply Mt))) hok (hw _ (by repeat (first | exact Mh _ | apply Mt))) (by omega) (hw _ (by repeat (first | exact Mh _ | apply Mt))) (hw _ (by repeat (first | exact Mh _ | apply Mt))) (hok.mul_less)).mono fun e w' h => KAR (Old.cons (x := numT qfa V.x) (by repeat (first | exact Mh _ | apply Mt)) rfl (Old.cons (x := numT qfb V.y) (by repeat (first | exact Mh _ | apply Mt)) rfl (Old.nil _))) hs h) ?_)
      rintro _ _ ⟨qra, qrb, rfl, rfl, hnra, hnrb⟩
      refine KAA 11 rfl rfl (by kernel_rfl) (by kernel_rfl) (Kb rfl rfl sz_73 (by repeat (first | exact acL_one _ | exact acC_one _ _ _ _ _ _ _ _ _ _ _ | exact sgL_one _ _ | exact Ky _ | exact KAT _ _ _ | exact KAJ _ | exact KAK _ _ _ | exact KAV _ _ _ | exact Kf | refine KZ rfl ?_ | refine Ko ?_ ?_)) (by repeat (first | exact Sh _ | apply St_)) (by first | exact KAf _ | exact KAg _ _ _ _ _ _ _ _ _ _ _ | exact KAk _ _ | exact KJ _ | exact KM _ _ _ | exact KN _ | exact Kd _ _ _ | exact KAD _ _ _ | rfl | simp [KM, KJ, KN]) ?_)
      refine Kj (by kernel_rfl) ?_
      refine KE ?_
      refine Kc [] (by kernel_rfl) ?_
      refine KC 0 rfl (by kernel_rfl) (Nb rfl) (KI (o' := 2) Try.underlying73 rfl rfl rfl sz_4 (by decide)) ?_
      refine LAny.take 1 rfl (by kernel_rfl) (Nb rfl) (KL rfl (by repeat (first | exact Mh _ | apply Mt)) (KP Try.underlying4 rfl (by first | rfl | exact Kn _ _ _ (by omega) | exact Kl _ (by omega) | exact Kh _ (by omega) | exact dv_m _ _ _ (by omega)))) ?_
      refine KC 2 rfl (by kernel_rfl) (Nb rfl) (KD rfl) ?_
      refine Ki 3 rfl rfl rfl (by kernel_rfl) (Nb rfl) (KL rfl (by repeat (first | exact Mh _ | apply Mt)) (by exact KR Try.underlying73 rfl sz_73)) ?_
      refine Ki 5 rfl rfl rfl (by kernel_rfl) (Nb rfl) (KL rfl (by repeat (first | exact Mh _ | apply Mt)) (by exact KR Try.underlying31 rfl sz_31)) ?_
      refine Ka 6 rfl rfl rfl (by kernel_rfl) (Nb rfl) (KI (o' := 37) Try.underlying62 rfl rfl rfl sz_60 (by decide)) ?_
      refine Ki 7 rfl rfl rfl (by kernel_rfl) (Nb rfl) (KL rfl (by repeat (first | exact Mh _ | apply Mt)) (by exact ac_ld_g _ _ _ _ _ _ _ _ _ _ _ _ _ _)) ?_
      refine Ks 4 rfl rfl rfl rfl (by kernel_rfl) (KO (first := []) rfl en_66 rfl (Nb rfl) (fun w hw => c_r_Out qra qrb (xv (V.G.neg)) (yv (V.G.neg)) (iv (V.G.neg)) w (hw _ (by repeat (first | exact Mh _ | apply Mt))) (hw _ (by repeat (first | exact Mh _ | apply Mt)))) ?_)
      refine Ks 8 rfl rfl rfl rfl (by kernel_rfl) (KV (first := []) rfl en_63 rfl (Nb rfl) (fun w hw hs => (c_r_In V.x V.y false w hxW hyW).mono fun e w' h => KAR (Old.nil _) hs h) ?_)
      rintro _ _ ⟨qea, qeb, rfl, rfl, hnea, hneb⟩
      refine Ks 9 rfl rfl rfl rfl (by kernel_rfl) (KV (first := []) rfl en_67 rfl (Nb rfl) (fun w hw hs => (c_r_NegG Q V qea qeb w (hw _ (by repeat (first | exact Mh _ | apply Mt))) hok (hw _ (by repeat (first | exact Mh _ | apply Mt))) (hw _ (by repeat (first | exact Mh _ | apply Mt)))).mono fun e w' h => KAR (Old.cons (x := numT qea V.x) (by repeat (first | exact Mh _ | apply Mt)) rfl (Old.cons (x := numT qeb V.y) (by repeat (first | exact Mh _ | apply Mt)) rfl (Old.nil _))) hs h) ?_)
      rintro _ _ ⟨qsa, qsb, rfl, rfl, hnsa, hnsb⟩
      refine Ks 10 rfl rfl rfl rfl (by kernel_rfl) (KO (first := []) rfl en_66 rfl (Nb rfl) (fun w hw => c_r_Out qsa qsb (xv (V.G.neg)) (yv (V.G.neg)) (iv (V.G.neg)) w (hw _ (by repeat (first | exact Mh _ | apply Mt))) (hw _ (by repeat (first | exact Mh _ | apply Mt)))) ?_)
      refine Ka 11 rfl rfl rfl (by kernel_rfl) (Nb rfl) (KT (Det.eqa (by kernel_rfl) (fun w => eq_ptP_t hok (P := V.G.neg) (Q := V.G.neg) rfl 10000 (by decide) w) rfl rfl) (show _ = Value.bool true by rfl)) ?_
      refine KC 12 rfl (by kernel_rfl) (Nb rfl) (Km rfl rfl) ?_
      refine KC 13 rfl (by kernel_rfl) (Nb rfl) (KD rfl) ?_
      refine Ka 14 rfl rfl rfl (by kernel_rfl) (Nb rfl) (KI (o' := 57) Try.underlying62 rfl rfl rfl sz_3 (by decide)) ?_
      refine Ki 15 rfl rfl rfl (by kernel_rfl) (Nb rfl) (KL rfl (by repeat (first | exact Mh _ | apply Mt)) (KP Try.underlying3 rfl (by exact ac_gt_size _ _ _ _ _ _ _ _ _ _ _))) ?_
      refine Ki 16 rfl rfl rfl (by kernel_rfl) (Nb rfl) (KL rfl (by repeat (first | exact Mh _ | apply Mt)) (by exact KR Try.underlying31 rfl sz_31)) ?_
      refine Ks 17 rfl rfl rfl rfl (by kernel_rfl) (KO (first := []) rfl en_68 rfl (Nb rfl) (fun w hw => c_r_Size Q V w (hw _ (by repeat (first | exact Mh _ | apply Mt))) hsz) ?_)
      refine Ka 18 rfl rfl rfl (by kernel_rfl) (Nb rfl) (KH (v := .bool true) rfl rfl (br_t br_eql (by first | rfl | assumption | omega | (simp; done)))) ?_
      refine KC 19 rfl (by kernel_rfl) (Nb rfl) (Km rfl rfl) ?_
      refine KC 20 rfl (by kernel_rfl) (Nb rfl) (KF rfl) ?_
      refine Kj (by kernel_rfl) ?_
      refine KQ ?_
      refine ⟨[_], .cons rfl .nil, fun a w' hr => ⟨?_, hr.fr.below⟩⟩
      rfl
    ·
      refine Kq 3 rfl rfl (by kernel_rfl) (KV (first := []) rfl en_52 rfl (Nb rfl) (fun w hw hs => (c_n_From V.n hnW w).mono fun e w' h => KAW (Old.nil _) hs h) ?_)
      rintro _ _ ⟨qm, rfl, rfl, hnm⟩
      refine Kq 5 rfl rfl (by kernel_rfl) (KV (first := []) rfl en_65 rfl (Nb rfl) (fun w hw hs => (c_n_Sub qm ⟨false, b58, 1⟩ V.n 1 w (hw _ (by repeat (first | exact Mh _ | apply Mt))) (n1_blk (hw _ (by repeat (first | exact Mh _ | apply Mt))) (by decide)) (by omega) (by omega)).mono fun e w' h => KAW (Old.nil _) hs h) ?_)
      rintro _ _ ⟨ql, rfl, rfl, hnl⟩
      refine Kq 8 rfl rfl (by kernel_rfl) (KV (first := []) rfl en_63 rfl (Nb rfl) (fun w hw hs => (c_r_In V.x V.y false w hxW hyW).mono fun e w' h => KAR (Old.nil _) hs h) ?_)
      rintro _ _ ⟨qfa, qfb, rfl, rfl, hnfa, hnfb⟩
      refine Kq 9 rfl rfl (by kernel_rfl) (KV (first := []) rfl en_64 rfl (Nb rfl) (fun w hw hs => (c_r_TimesG Q V ql (V.n - 1) qfa qfb (V.G.neg) w (hw _ (by repeat (first | exact Mh _ | apply Mt))) hok (hw _ (by repeat (first | exact Mh _ | apply Mt))) (by omega) (hw _ (by repeat (first | exact Mh _ | apply Mt))) (hw _ (by repeat (first | exact Mh _ | apply Mt))) (hok.mul_less)).mono fun e w' h => KAR (Old.cons (x := numT qfa V.x) (by repeat (first | exact Mh _ | apply Mt)) rfl (Old.cons (x := numT qfb V.y) (by repeat (first | exact Mh _ | apply Mt)) rfl (Old.nil _))) hs h) ?_)
      rintro _ _ ⟨qra, qrb, rfl, rfl, hnra, hnrb⟩
      refine KAA 11 rfl rfl (by kernel_rfl) (by kernel_rfl) (Kb rfl rfl sz_73 (by repeat (first | exact acL_one _ | exact acC_one _ _ _ _ _ _ _ _ _ _ _ | exact sgL_one _ _ | exact Ky _ | exact KAT _ _ _ | exact KAJ _ | exact KAK _ _ _ | exact KAV _ _ _ | exact Kf | refine KZ rfl ?_ | refine Ko ?_ ?_)) (by repeat (first | exact Sh _ | apply St_)) (by first | exact KAf _ | exact KAg _ _ _ _ _ _ _ _ _ _ _ | exact KAk _ _ | exact KJ _ | exact KM _ _ _ | exact KN _ | exact Kd _ _ _ | exact KAD _ _ _ | rfl | simp [KM, KJ, KN]) ?_)
      refine Kj (by kernel_rfl) ?_
      refine KE ?_
      refine Kc [] (by kernel_rfl) ?_
      refine KC 0 rfl (by kernel_rfl) (Nb rfl) (KI (o' := 2) Try.underlying73 rfl rfl rfl sz_4 (by decide)) ?_
      refine LAny.take 1 rfl (by kernel_rfl) (Nb rfl) (KL rfl (by repeat (first | exact Mh _ | apply Mt)) (KP Try.underlying4 rfl (by first | rfl | exact Kn _ _ _ (by omega) | exact Kl _ (by omega) | exact Kh _ (by omega) | exact dv_m _ _ _ (by omega)))) ?_
      refine KC 2 rfl (by kernel_rfl) (Nb rfl) (KD rfl) ?_
      refine Ki 3 rfl rfl rfl (by kernel_rfl) (Nb rfl) (KL rfl (by repeat (first | exact Mh _ | apply Mt)) (by exact KR Try.underlying73 rfl sz_73)) ?_
      refine Ki 5 rfl rfl rfl (by kernel_rfl) (Nb rfl) (KL rfl (by repeat (first | exact Mh _ | apply Mt)) (by exact KR Try.underlying31 rfl sz_31)) ?_
      refine Ka 6 rfl rfl rfl (by kernel_rfl) (Nb rfl) (KI (o' := 37) Try.underlying62 rfl rfl rfl sz_60 (by decide)) ?_
      refine Ki 7 rfl rfl rfl (by kernel_rfl) (Nb rfl) (KL rfl (by repeat (first | exact Mh _ | apply Mt)) (by exact ac_ld_g _ _ _ _ _ _ _ _ _ _ _ _ _ _)) ?_
      refine Ks 4 rfl rfl rfl rfl (by kernel_rfl) (KO (first := []) rfl en_66 rfl (Nb rfl) (fun w hw => c_r_Out qra qrb (xv (V.G.neg)) (yv (V.G.neg)) (iv (V.G.neg)) w (hw _ (by repeat (first | exact Mh _ | apply Mt))) (hw _ (by repeat (first | exact Mh _ | apply Mt)))) ?_)
      refine Ks 8 rfl rfl rfl rfl (by kernel_rfl) (KV (first := []) rfl en_63 rfl (Nb rfl) (fun w hw hs => (c_r_In V.x V.y false w hxW hyW).mono fun e w' h => KAR (Old.nil _) hs h) ?_)
      rintro _ _ ⟨qea, qeb, rfl, rfl, hnea, hneb⟩
      refine Ks 9 rfl rfl rfl rfl (by kernel_rfl) (KV (first := []) rfl en_67 rfl (Nb rfl) (fun w hw hs => (c_r_NegG Q V qea qeb w (hw _ (by repeat (first | exact Mh _ | apply Mt))) hok (hw _ (by repeat (first | exact Mh _ | apply Mt))) (hw _ (by repeat (first | exact Mh _ | apply Mt)))).mono fun e w' h => KAR (Old.cons (x := numT qea V.x) (by repeat (first | exact Mh _ | apply Mt)) rfl (Old.cons (x := numT qeb V.y) (by repeat (first | exact Mh _ | apply Mt)) rfl (Old.nil _))) hs h) ?_)
      rintro _ _ ⟨qsa, qsb, rfl, rfl, hnsa, hnsb⟩
      refine Ks 10 rfl rfl rfl rfl (by kernel_rfl) (KO (first := []) rfl en_66 rfl (Nb rfl) (fun w hw => c_r_Out qsa qsb (xv (V.G.neg)) (yv (V.G.neg)) (iv (V.G.neg)) w (hw _ (by repeat (first | exact Mh _ | apply Mt))) (hw _ (by repeat (first | exact Mh _ | apply Mt)))) ?_)
      refine Ka 11 rfl rfl rfl (by kernel_rfl) (Nb rfl) (KT (Det.eqa (by kernel_rfl) (fun w => eq_ptP_t hok (P := V.G.neg) (Q := V.G.neg) rfl 10000 (by decide) w) rfl rfl) (show _ = Value.bool true by rfl)) ?_
      refine KC 12 rfl (by kernel_rfl) (Nb rfl) (Km rfl rfl) ?_
      refine KC 13 rfl (by kernel_rfl) (Nb rfl) (KD rfl) ?_
      refine Ka 14 rfl rfl rfl (by kernel_rfl) (Nb rfl) (KI (o' := 57) Try.underlying62 rfl rfl rfl sz_3 (by decide)) ?_
      refine Ki 15 rfl rfl rfl (by kernel_rfl) (Nb rfl) (KL rfl (by repeat (first | exact Mh _ | apply Mt)) (KP Try.underlying3 rfl (by exact ac_gt_size _ _ _ _ _ _ _ _ _ _ _))) ?_
      refine Ki 16 rfl rfl rfl (by kernel_rfl) (Nb rfl) (KL rfl (by repeat (first | exact Mh _ | apply Mt)) (by exact KR Try.underlying31 rfl sz_31)) ?_
      refine Ks 17 rfl rfl rfl rfl (by kernel_rfl) (KO (first := []) rfl en_68 rfl (Nb rfl) (fun w hw => c_r_Size Q V w (hw _ (by repeat (first | exact Mh _ | apply Mt))) hsz) ?_)
      refine Ka 18 rfl rfl rfl (by kernel_rfl) (Nb rfl) (KH (v := .bool true) rfl rfl (br_t br_eql (by first | rfl | assumption | omega | (simp; done)))) ?_
      refine KC 19 rfl (by kernel_rfl) (Nb rfl) (Km rfl rfl) ?_
      refine KC 20 rfl (by kernel_rfl) (Nb rfl) (KF rfl) ?_
      refine Kj (by kernel_rfl) ?_
      refine KQ ?_
      refine ⟨[_], .cons rfl .nil, fun a w' hr => ⟨?_, hr.fr.below⟩⟩
      rfl
end Go.Proofs.Ytljblbgogjieaaa
set_option maxRecDepth 100000
namespace Go.Proofs.Ytljblbgogjieaaa
open Go
def ioChars : List Char := ([104, 97, 114, 110, 101, 115, 115, 32, 102, 51, 57, 52, 54, 98, 99, 101, 49, 54, 101, 56, 99, 51, 102, 52, 49, 56, 48, 97, 55, 101, 53, 50, 100, 97, 98, 100, 56, 55, 98, 56, 54, 57, 51, 56, 100, 57, 50, 50, 100, 99, 56, 97, 98, 97, 101, 55, 102, 48, 56, 57, 55, 57, 99, 51, 48, 57, 101, 52, 56, 98, 54, 48, 32, 99, 117, 116, 32, 97, 116, 32, 99, 117, 114, 118, 101, 116, 47, 99, 117, 114, 118, 101, 116, 108, 97, 119, 50, 51, 46, 82, 97, 119, 115, 32, 99, 117, 114, 118, 101, 116, 47, 99, 117, 114, 118, 101, 116, 108, 97, 119, 50, 51, 46, 82, 97, 119, 66, 97, 99, 107, 32, 99, 117, 114, 118, 101, 116, 47, 99, 117, 114, 118, 101, 116, 108, 97, 119, 50, 51, 46, 82, 97, 119, 76, 101, 110, 103, 116, 104, 115, 32, 99, 117, 114, 118, 101, 116, 47, 99, 117, 114, 118, 101, 116, 108, 97, 119, 50, 51, 46, 82, 97, 119, 84, 105, 110, 121, 32, 99, 117, 114, 118, 101, 116, 47, 99, 117, 114, 118, 101, 116, 108, 97, 119, 49, 51, 46, 67, 117, 114, 118, 101, 115, 32, 99, 117, 114, 118, 101, 116, 47, 99, 117, 114, 118, 101, 116, 108, 97, 119, 49, 51, 46, 67, 117, 114, 118, 101, 79, 110, 115, 32, 99, 117, 114, 118, 101, 116, 47, 99, 117, 114, 118, 101, 116, 108, 97, 119, 49, 51, 46, 67, 117, 114, 118, 101, 83, 111, 117, 110, 100, 32, 99, 117, 114, 118, 101, 116, 47, 99, 117, 114, 118, 101, 116, 108, 97, 119, 49, 51, 46, 67, 117, 114, 118, 101, 78, 117, 109, 98, 101, 114, 115, 32, 99, 117, 114, 118, 101, 116, 47, 99, 117, 114, 118, 101, 116, 108, 97, 119, 49, 51, 46, 67, 117, 114, 118, 101, 79, 102, 102, 32, 99, 117, 114, 118, 101, 116, 47, 99, 117, 114, 118, 101, 116, 108, 97, 119, 49, 51, 46, 67, 117, 114, 118, 101, 84, 105, 110, 121, 32, 99, 117, 114, 118, 101, 116, 47, 99, 117, 114, 118, 101, 116, 108, 97, 119, 50, 48, 46, 68, 117, 97, 108, 115, 32, 99, 117, 114, 118, 101, 116, 47, 99, 117, 114, 118, 101, 116, 108, 97, 119, 50, 48, 46, 68, 117, 97, 108, 84, 105, 110, 121, 32, 99, 117, 114, 118, 101, 116, 47, 99, 117, 114, 118, 101, 116, 108, 97, 119, 49, 53, 46, 80, 114, 111, 106, 115, 32, 99, 117, 114, 118, 101, 116, 47, 99, 117, 114, 118, 101, 116, 108, 97, 119, 49, 53, 46, 80, 114, 111, 106, 70, 114, 111, 109, 32, 99, 117, 114, 118, 101, 116, 47, 99, 117, 114, 118, 101, 116, 108, 97, 119, 49, 53, 46, 80, 114, 111, 106, 83, 99, 97, 108, 101, 100, 32, 99, 117, 114, 118, 101, 116, 47, 99, 117, 114, 118, 101, 116, 108, 97, 119, 49, 53, 46, 80, 114, 111, 106, 68, 111, 117, 98, 108, 101, 115, 32, 99, 117, 114, 118, 101, 116, 47, 99, 117, 114, 118, 101, 116, 108, 97, 119, 49, 53, 46, 80, 114, 111, 106, 78, 111, 110, 101, 32, 99, 117, 114, 118, 101, 116, 47, 99, 117, 114, 118, 101, 116, 108, 97, 119, 49, 53, 46, 80, 114, 111, 106, 84, 105, 110, 121, 32, 99, 117, 114, 118, 101, 116, 47, 99, 117, 114, 118, 101, 116, 108, 97, 119, 49, 52, 46, 65, 102, 102, 105, 110, 101, 115, 32, 99, 117, 114, 118, 101, 116, 47, 99, 117, 114, 118, 101, 116, 108, 97, 119, 49, 52, 46, 65, 102, 102, 105, 110, 101, 84, 105, 109, 101, 115, 32, 99, 117, 114, 118, 101, 116, 47, 99, 117, 114, 118, 101, 116, 108, 97, 119, 49, 52, 46, 65, 102, 102, 105, 110, 101, 71, 114, 111, 117, 112, 32, 99, 117, 114, 118, 101, 116, 47, 99, 117, 114, 118, 101, 116, 108, 97, 119, 49, 52, 46, 65, 102, 102, 105, 110, 101, 79, 114, 100, 101, 114, 32, 99, 117, 114, 118, 101, 116, 47, 99, 117, 114, 118, 101, 116, 108, 97, 119, 49, 52, 46, 65, 102, 102, 105, 110, 101, 76, 105, 110, 101, 32, 99, 117, 114, 118, 101, 116, 47, 99, 117, 114, 118, 101, 116, 108, 97, 119, 49, 52, 46, 65, 102, 102, 105, 110, 101, 79, 112, 112, 111, 115, 105, 116, 101, 32, 99, 117, 114, 118, 101, 116, 47, 99, 117, 114, 118, 101, 116, 108, 97, 119, 49, 52, 46, 65, 102, 102, 105, 110, 101, 84, 105, 110, 121, 32, 99, 117, 114, 118, 101, 116, 47, 99, 117, 114, 118, 101, 116, 108, 97, 119, 49, 52, 46, 65, 102, 102, 105, 110, 101, 83, 112, 108, 105, 116, 115, 32, 99, 117, 114, 118, 101, 116, 47, 99, 117, 114, 118, 101, 116, 108, 97, 119, 49, 52, 46, 65, 102, 102, 105, 110, 101, 87, 97, 108, 107, 32, 99, 117, 114, 118, 101, 116, 47, 99, 117, 114, 118, 101, 116, 108, 97, 119, 50, 48, 46, 68, 117, 97, 108, 80, 97, 114, 116, 115, 32, 99, 117, 114, 118, 101, 116, 47, 99, 117, 114, 118, 101, 116, 108, 97, 119, 49, 54, 46, 84, 97, 98, 108, 101, 83, 105, 122, 101, 115, 32, 99, 117, 114, 118, 101, 116, 47, 99, 117, 114, 118, 101, 116, 108, 97, 119, 49, 54, 46, 84, 97, 98, 108, 101, 78, 105, 108, 32, 99, 117, 114, 118, 101, 116, 47, 99, 117, 114, 118, 101, 116, 108, 97, 119, 49, 53, 46, 80, 114, 111, 106, 83, 117, 109, 115, 32, 99, 117, 114, 118, 101, 116, 47, 99, 117, 114, 118, 101, 116, 108, 97, 119, 50, 49, 46, 83, 101, 99, 49, 115, 32, 99, 117, 114, 118, 101, 116, 47, 99, 117, 114, 118, 101, 116, 108, 97, 119, 50, 49, 46, 83, 101, 99, 49, 66, 97, 99, 107, 32, 99, 117, 114, 118, 101, 116, 47, 99, 117, 114, 118, 101, 116, 108, 97, 119, 50, 49, 46, 83, 101, 99, 49, 84, 105, 110, 121, 32, 99, 117, 114, 118, 101, 116, 47, 99, 117, 114, 118, 101, 116, 108, 97, 119, 50, 49, 46, 83, 101, 99, 49, 66, 111, 116, 104, 32, 99, 117, 114, 118, 101, 116, 47, 99, 117, 114, 118, 101, 116, 108, 97, 119, 50, 49, 46, 83, 101, 99, 49, 76, 101, 110, 103, 116, 104, 115, 32, 99, 117, 114, 118, 101, 116, 47, 99, 117, 114, 118, 101, 116, 108, 97, 119, 50, 49, 46, 83, 101, 99, 49, 87, 104, 111, 108, 101, 32, 99, 117, 114, 118, 101, 116, 47, 99, 117, 114, 118, 101, 116, 108, 97, 119, 50, 49, 46, 83, 101, 99, 49, 71, 114, 101, 97, 116, 32, 99, 117, 114, 118, 101, 116, 47, 99, 117, 114, 118, 101, 116, 108, 97, 119, 49, 54, 46, 84, 97, 98, 108, 101, 115, 32, 99, 117, 114, 118, 101, 116, 47, 99, 117, 114, 118, 101, 116, 108, 97, 119, 49, 57, 46, 66, 97, 115, 101, 115] : List Nat).map Char.ofNat
theorem io_lit : Try.prog.initOrder = String.ofList ioChars := by kernel_rfl
theorem io_list : Try.prog.initOrder.toList = ioChars := by rw [io_lit, String.toList_ofList]
def cutW : List Char := ([99, 117, 116] : List Nat).map Char.ofNat
def ioRest : List (List Char) := (wordsSigns ioChars).drop 3
theorem io_words : behindMainWord (wordsSigns ioChars) = cutW :: ioRest := by kernel_rfl
theorem io_strip (r : List (List Char)) : stripLifts liftWords (cutW :: r) = ([], cutW :: r) := by kernel_rfl
theorem no_later : Try.prog.laysLater = false := by kernel_rfl
theorem no_reflect : Try.prog.bearsReflect = false := by kernel_rfl
theorem door_fits : Try.prog.doorFits [] = true := by kernel_rfl
theorem and2 {a b : Bool} (h : a = true) (k : b = true) : (a && b) = true := by rw [h, k]; rfl
theorem or_right {a b : Bool} (h : b = true) : (a || b) = true := by rw [h]; cases a <;> rfl
theorem cut_is : (cutW == "cut".toList) = true := by kernel_rfl
theorem cut_gc : (cutW == "gc".toList) = false := by kernel_rfl
theorem cut_spec : (cutW == "spec".toList) = false := by kernel_rfl
theorem cut_carried : (cutW == "carried".toList) = false := by kernel_rfl
theorem head_carried (r : List (List Char)) : ((cutW :: r).head? == some "carried".toList) = false := cut_carried
theorem enter_of (P : Program) {r : List (List Char)} (h : behindMainWord (wordsSigns P.initOrder.toList) = cutW :: r) (h1 : P.laysLater = false) (h2 : P.bearsReflect = false) (h3 : P.doorFits [] = true) : P.mayEnter = true := by
  unfold Program.mayEnter
  rw [h]
  dsimp only
  refine or_right (and2 (and2 (and2 (and2 ?_ ?_) ?_) ?_) ?_)
  · rw [io_strip]; exact cut_is
  · rw [io_strip, h1]; rfl
  · rw [io_strip, h2]; rfl
  · rw [io_strip]; rfl
  · rw [io_strip]; exact h3
theorem lifts_of (P : Program) {r : List (List Char)} (h : behindMainWord (wordsSigns P.initOrder.toList) = cutW :: r) : (false == P.liftsFinal) = true := by
  have hl : P.headLifts = [] := by
    unfold Program.headLifts
    rw [h, io_strip]
    simp only [ite_self]
  unfold Program.liftsFinal
  rw [h, hl]
  dsimp only
  rw [head_carried, Bool.false_and]
  rfl
theorem make_of (P : Program) {r : List (List Char)} (h : behindMainWord (wordsSigns P.initOrder.toList) = cutW :: r) : (P.make == some .cut) = true := by
  have : P.make = some .cut := by
    unfold Program.make
    rw [h]
    dsimp only
    rw [if_neg (by rw [cut_gc, cut_spec]; exact fun h => by cases h), if_pos (by rw [cut_is]; rfl)]
  rw [this]; rfl
theorem io_all : behindMainWord (wordsSigns Try.prog.initOrder.toList) = cutW :: ioRest := by rw [io_list, io_words]
theorem fact_enter : Try.prog.mayEnter = true := enter_of _ io_all no_later no_reflect door_fits
theorem fact_lifts : (false == Try.prog.liftsFinal) = true := lifts_of _ io_all
theorem fact_make : (Try.prog.make == some .cut) = true := make_of _ io_all
theorem fact_laid : laidOutB Try.prog = true := by kernel_rfl
theorem fact_maps : mapsRowed Try.prog = true := by kernel_rfl
theorem fact_heard : Try.prog.stopsHeard = true := by kernel_rfl
end Go.Proofs.Ytljblbgogjieaaa
