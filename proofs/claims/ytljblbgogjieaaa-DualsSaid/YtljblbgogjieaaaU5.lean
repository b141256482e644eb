/- Part 5 of what the proof leans on: a symbolic execution of the model, walks of the program's functions, and the mathematics. No condition. -/
import Derived.WalkKit
import Derived.Orders
import Derived.Laws.StructEq
import Derived.WalkSpells
import Derived.OrdersHeld
import Derived.KernelRfl
import Derived.Laws.Externs
import Derived.Laws.Bits64
import Derived.Laws.MakeOwn
import Derived.Laws.BytesString
import Derived.Carry
import Derived.WideShapes
import GoSem.Claim
import Derived.Test.YtljblbgogjieaaaProg
import Derived.Laws.AppendOwn
import Derived.Test.YtljblbgogjieaaaRows
import Derived.ProofKit
import Derived.OpenShut
import Derived.Test.YtljblbgogjieaaaU4
set_option linter.unusedVariables false
set_option linter.unusedSimpArgs false
set_option maxRecDepth 20000
namespace Go.Proofs.Ytljblbgogjieaaa
open Go Go.RowKit
theorem c_Right (V:Cv) (b f bd:Nat) (hok:V.Ok) (X:Fin V.p) (w:World) (hb:(Item.blk b ⟨false,opL V f,147,(0,0)⟩).holds w) (hf:(Item.blk f ⟨false,fldL V.p bd,194,(0,0)⟩).holds w) (hbd:(Item.blk bd ⟨false,dvL V.p,241,(0,0)⟩).holds w):Calls Try.prog 157 ([.pointer (some ⟨b,0,none⟩),natV X.val]:List Value).toArray w (fun e w'=>e = .returned (natV ((X*X+V.A)*X+V.B).val)∧Below w.heap.size w w'):=by
  have hbb:=hok.bounds
  have hpW:V.p<W9:=w9_521 hbb.2.1
  refine KAC (N:=31) (rs:=[.cell 4 25]) [.blk b ⟨false,opL V f,147,(0,0)⟩,.blk f ⟨false,fldL V.p bd,194,(0,0)⟩,.blk bd ⟨false,dvL V.p,241,(0,0)⟩] Try.func157 rfl Try.ntmps157 Try.results157 (Nb rfl) ⟨hb,hf,hbd,trivial⟩ rfl ?_
  show LCode _ _ _ ⟨_,_⟩ _
  refine KE (KB ?_)
  refine KI rfl (KT (KQ (Ku rfl) (Nb rfl) (fun b3=>?_)))
  refine KI rfl (KT (KQ (Kg zr_25) (Nb rfl) (fun b4=>?_)))
  refine KG ?_
  refine KE (KB ?_)
  refine KA (KD rfl) (Nb rfl) ?_
  refine KA (Kb rfl) (Nb rfl) ?_
  refine KA (KM (o':=59) Try.underlying147 rfl rfl rfl sz_145 (by decide)) (Nb rfl) ?_
  refine LOps.det (KK rfl (by repeat (first|exact Mh _|apply Mt)) (KX Try.underlying145 rfl (by exact cvC_gt_F _ _ _ _ _ _ _ _ _ _ _ _ _))) (Nb rfl) ?_
  refine KA (KF rfl) (Nb rfl) ?_
  refine KG ?_
  refine KE ?_
  refine Ka [21] (by kernel_rfl) ?_
  refine KC 0 rfl (by kernel_rfl) (Nb rfl) (KD rfl) ?_
  refine KC 1 rfl (by kernel_rfl) (Nb rfl) (KD rfl) ?_
  refine KC 2 rfl (by kernel_rfl) (Nb rfl) (KD rfl) ?_
  refine KC 3 rfl (by kernel_rfl) (Nb rfl) (KD rfl) ?_
  refine LAny.take 4 rfl (by kernel_rfl) (Nb rfl) (KK rfl (by repeat (first|exact Mh _|apply Mt)) (by exact KO Try.underlying25 rfl sz_25)) ?_
  refine LAny.take 5 rfl (by kernel_rfl) (Nb rfl) (KK rfl (by repeat (first|exact Mh _|apply Mt)) (by exact KO Try.underlying25 rfl sz_25)) ?_
  refine KC 7 rfl (by kernel_rfl) (Nb rfl) (KD rfl) ?_
  refine KC 8 rfl (by kernel_rfl) (Nb rfl) (Kb rfl) ?_
  refine KC 9 rfl (by kernel_rfl) (Nb rfl) (KM (o':=0) Try.underlying147 rfl rfl rfl sz_62 (by decide)) ?_
  refine KC 10 rfl (by kernel_rfl) (Nb rfl) (KM (o':=10) Try.underlying62 rfl rfl rfl sz_25 (by decide)) ?_
  refine LAny.take 11 rfl (by kernel_rfl) (Nb rfl) (Det.cast (KK rfl (by repeat (first|exact Mh _|apply Mt)) (by exact cvC_ld_a _ _ _ _ _ _ _ _ _ _ _ _ _ _ _ _)) (a_val hok)) ?_
  refine LAny.take 13 rfl (by kernel_rfl) (Nb rfl) (KK rfl (by repeat (first|exact Mh _|apply Mt)) (by exact KO Try.underlying25 rfl sz_25)) ?_
  refine KC 15 rfl (by kernel_rfl) (Nb rfl) (KD rfl) ?_
  refine KC 16 rfl (by kernel_rfl) (Nb rfl) (Kb rfl) ?_
  refine KC 17 rfl (by kernel_rfl) (Nb rfl) (KM (o':=0) Try.underlying147 rfl rfl rfl sz_62 (by decide)) ?_
  refine KC 18 rfl (by kernel_rfl) (Nb rfl) (KM (o':=19) Try.underlying62 rfl rfl rfl sz_25 (by decide)) ?_
  refine LAny.take 19 rfl (by kernel_rfl) (Nb rfl) (Det.cast (KK rfl (by repeat (first|exact Mh _|apply Mt)) (by exact cvC_ld_b _ _ _ _ _ _ _ _ _ _ _ _ _ _ _ _)) (b_val hok)) ?_
  refine Kx 6 rfl rfl (by kernel_rfl) (KR (first:=[]) rfl en_156 rfl (Nb rfl) (fun w hw=>c_F_Mul V hok f bd _ _ w (hw _ (by repeat (first|exact Mh _|apply Mt))) (hw _ (by repeat (first|exact Mh _|apply Mt)))) ?_)
  refine Kx 12 rfl rfl (by kernel_rfl) (KR (first:=[]) rfl en_152 rfl (Nb rfl) (fun w hw=>c_F_Add V hok f bd _ _ w (hw _ (by repeat (first|exact Mh _|apply Mt)))) ?_)
  refine Kx 14 rfl rfl (by kernel_rfl) (KR (first:=[]) rfl en_156 rfl (Nb rfl) (fun w hw=>c_F_Mul V hok f bd _ _ w (hw _ (by repeat (first|exact Mh _|apply Mt))) (hw _ (by repeat (first|exact Mh _|apply Mt)))) ?_)
  refine Kx 20 rfl rfl (by kernel_rfl) (KR (first:=[]) rfl en_152 rfl (Nb rfl) (fun w hw=>c_F_Add V hok f bd _ _ w (hw _ (by repeat (first|exact Mh _|apply Mt)))) ?_)
  refine Ko 21 rfl rfl (by kernel_rfl) (by kernel_rfl) (KP rfl rfl sz_25 (by repeat (first|exact Kl _|exact Ky _ _ _|exact Kn _|exact Kr _ _ _|exact Kz _ _ _|exact KU|refine KS rfl ?_|refine KW ?_ ?_)) (by repeat (first|exact Sh _|apply St_)) (by first|exact KH _|exact KL _ _ _|exact KJ _|exact KV _ _ _|exact Kd _ _ _|rfl|simp [KL,KH,KJ]) ?_)
  refine Kh (by kernel_rfl) ?_
  refine KZ ?_
  refine ⟨[_],.cons ⟨_,_,_,rfl,(by repeat (first|exact Mh _|apply Mt)),by exact KO Try.underlying25 rfl sz_25⟩ .nil,fun a w' hr=>⟨?_,hr.fr.below⟩⟩
  rfl
theorem c_HasT (V:Cv) (f bd A:Nat) (w:World) (hf:(Item.blk f ⟨false,fldL V.p bd,194,(0,0)⟩).holds w) (hA:A<W9) (hpW:V.p<W9) (h:A<V.p):Calls Try.prog 155 ([.pointer (some ⟨f,0,none⟩),natV A]:List Value).toArray w (fun e w'=>e = .returned (.bool true)∧Below w.heap.size w w'):=by
  have:=c_f_Has V f bd A w hf hA hpW
  rwa [decide_eq_true h] at this
theorem c_HasF (V:Cv) (f bd A:Nat) (w:World) (hf:(Item.blk f ⟨false,fldL V.p bd,194,(0,0)⟩).holds w) (hA:A<W9) (hpW:V.p<W9) (h:¬ A<V.p):Calls Try.prog 155 ([.pointer (some ⟨f,0,none⟩),natV A]:List Value).toArray w (fun e w'=>e = .returned (.bool false)∧Below w.heap.size w w'):=by
  have:=c_f_Has V f bd A w hf hA hpW
  rwa [decide_eq_false h] at this
theorem right_val {V:Cv} (hok:V.Ok) (x:Fin V.p):rightN V.p V.a V.b x.val = ((x*x+V.A)*x+V.B).val:=by
  unfold rightN
  rw [Fin.val_add,Fin.val_mul,Fin.val_add,Fin.val_mul,hok.A_val hok.bounds.2.2.1,hok.B_val hok.bounds.2.2.2.1]
theorem on_x' {p a b X Y:Nat} (h:¬ X<p):onB p a b X Y false = false:=by
  unfold onB; rw [if_neg (by decide),decide_eq_false h,Bool.false_and]
theorem on_yy' {p a b X Y:Nat} (h:¬ Y<p):onB p a b X Y false = false:=by
  unfold onB; rw [if_neg (by decide),decide_eq_false h,Bool.false_and,Bool.and_false]
theorem on_fin {V:Cv} (hok:V.Ok) (x y:Fin V.p):onB V.p V.a V.b x.val y.val false = decide ((y*y).val = ((x*x+V.A)*x+V.B).val):=by
  unfold onB
  rw [if_neg (by decide),decide_eq_true x.isLt,decide_eq_true y.isLt,Bool.true_and,Bool.true_and,right_val hok,Fin.val_mul]
theorem on_inf' {p a b X Y:Nat}:onB p a b X Y true = (decide (X = 0) && decide (Y = 0)):=if_pos rfl
theorem c_cOn (V:Cv) (b f bd:Nat) (hok:V.Ok) (X Y:Nat) (i:Bool) (w:World) (hb:(Item.blk b ⟨false,opL V f,147,(0,0)⟩).holds w) (hf:(Item.blk f ⟨false,fldL V.p bd,194,(0,0)⟩).holds w) (hbd:(Item.blk bd ⟨false,dvL V.p,241,(0,0)⟩).holds w) (hX:X<W9) (hY:Y<W9):Calls Try.prog 122 ([.pointer (some ⟨b,0,none⟩),ptV X Y i]:List Value).toArray w (fun e w'=>e = .returned (.bool (onB V.p V.a V.b X Y i))∧Below w.heap.size w w'):=by
  have hbb:=hok.bounds
  have hpW:V.p<W9:=w9_521 hbb.2.1
  refine KAC (N:=42) (rs:=[.tmp 4]) [.blk b ⟨false,opL V f,147,(0,0)⟩,.blk f ⟨false,fldL V.p bd,194,(0,0)⟩,.blk bd ⟨false,dvL V.p,241,(0,0)⟩] Try.func122 rfl Try.ntmps122 Try.results122 (Nb rfl) ⟨hb,hf,hbd,trivial⟩ rfl ?_
  show LCode _ _ _ ⟨_,_⟩ _
  refine KE (KB ?_)
  refine KI rfl (KT (KQ (Ku rfl) (Nb rfl) (fun b3=>?_)))
  refine KA (KF rfl) (Nb rfl) ?_
  refine KG ?_
  refine KE ?_
  refine KE ?_
  cases i
  ·
    refine KB ?_
    refine KA (KM (o':=18) Try.underlying60 rfl rfl rfl sz_4 (by decide)) (Nb rfl) ?_
    refine LOps.det (KK rfl (by repeat (first|exact Mh _|apply Mt)) (KX Try.underlying4 rfl (by exact pt_gt _ _ _))) (Nb rfl) ?_
    refine KG ?_
    refine Km rfl ?_
    refine Kf ?_
    refine KE ?_
    rcases (show (¬ X<V.p)∨(X<V.p∧¬ Y<V.p)∨(X<V.p∧Y<V.p) by omega) with h1|⟨h1,h2⟩|⟨h1,h2⟩
    ·
      refine Ka [] (by kernel_rfl) ?_
      refine KC 0 rfl (by kernel_rfl) (Nb rfl) (KD rfl) ?_
      refine KC 1 rfl (by kernel_rfl) (Nb rfl) (Kb rfl) ?_
      refine KC 2 rfl (by kernel_rfl) (Nb rfl) (KM (o':=59) Try.underlying147 rfl rfl rfl sz_145 (by decide)) ?_
      refine LAny.take 3 rfl (by kernel_rfl) (Nb rfl) (KK rfl (by repeat (first|exact Mh _|apply Mt)) (KX Try.underlying145 rfl (by exact cvC_gt_F _ _ _ _ _ _ _ _ _ _ _ _ _))) ?_
      refine KC 4 rfl (by kernel_rfl) (Nb rfl) (KM (o':=0) Try.underlying60 rfl rfl rfl sz_25 (by decide)) ?_
      refine LAny.take 5 rfl (by kernel_rfl) (Nb rfl) (KK rfl (by repeat (first|exact Mh _|apply Mt)) (by exact KAW Try.underlying25 rfl sz_25 rfl (KH _))) ?_
      refine Kx 6 rfl rfl (by kernel_rfl) (KR (first:=[]) rfl en_155 rfl (Nb rfl) (fun w hw=>c_HasF V f bd X w (hw _ (by repeat (first|exact Mh _|apply Mt))) hX hpW h1) ?_)
      refine KC 7 rfl (by kernel_rfl) (Nb rfl) (KD rfl) ?_
      refine KAE 8 rfl rfl rfl rfl (by kernel_rfl) (Nb rfl) ?_
      refine KAE 9 rfl rfl rfl rfl (by kernel_rfl) (Nb rfl) ?_
      refine KAE 10 rfl rfl rfl rfl (by kernel_rfl) (Nb rfl) ?_
      refine KAE 11 rfl rfl rfl rfl (by kernel_rfl) (Nb rfl) ?_
      refine KAE 12 rfl rfl rfl rfl (by kernel_rfl) (Nb rfl) ?_
      refine KAE 13 rfl rfl rfl rfl (by kernel_rfl) (Nb rfl) ?_
      refine KAE 14 rfl rfl rfl rfl (by kernel_rfl) (Nb rfl) ?_
      refine KC 15 rfl (by kernel_rfl) (Nb rfl) (KAK rfl rfl) ?_
      refine KC 16 rfl (by kernel_rfl) (Nb rfl) (KD rfl) ?_
      refine KAE 17 rfl rfl rfl rfl (by kernel_rfl) (Nb rfl) ?_
      refine KAE 18 rfl rfl rfl rfl (by kernel_rfl) (Nb rfl) ?_
      refine KAE 19 rfl rfl rfl rfl (by kernel_rfl) (Nb rfl) ?_
      refine KAE 20 rfl rfl rfl rfl (by kernel_rfl) (Nb rfl) ?_
      refine KAE 21 rfl rfl rfl rfl (by kernel_rfl) (Nb rfl) ?_
      refine KAE 22 rfl rfl rfl rfl (by kernel_rfl) (Nb rfl) ?_
      refine KAE 23 rfl rfl rfl rfl (by kernel_rfl) (Nb rfl) ?_
      refine KAE 24 rfl rfl rfl rfl (by kernel_rfl) (Nb rfl) ?_
      refine KAE 25 rfl rfl rfl rfl (by kernel_rfl) (Nb rfl) ?_
      refine KAE 26 rfl rfl rfl rfl (by kernel_rfl) (Nb rfl) ?_
      refine KAE 27 rfl rfl rfl rfl (by kernel_rfl) (Nb rfl) ?_
      refine KAE 28 rfl rfl rfl rfl (by kernel_rfl) (Nb rfl) ?_
      refine KAE 29 rfl rfl rfl rfl (by kernel_rfl) (Nb rfl) ?_
      refine KAE 30 rfl rfl rfl rfl (by kernel_rfl) (Nb rfl) ?_
      refine KC 31 rfl (by kernel_rfl) (Nb rfl) (KAK rfl rfl) ?_
      refine KC 32 rfl (by kernel_rfl) (Nb rfl) (KF rfl) ?_
      refine Kh (by kernel_rfl) ?_
      refine KZ ?_
      refine ⟨[_],.cons rfl .nil,fun a w' hr=>⟨?_,hr.fr.below⟩⟩
      rw [on_x' h1]
      rfl
    ·
      refine Ka [] (by kernel_rfl) ?_
      refine KC 0 rfl (by kernel_rfl) (Nb rfl) (KD rfl) ?_
      refine KC 1 rfl (by kernel_rfl) (Nb rfl) (Kb rfl) ?_
      refine KC 2 rfl (by kernel_rfl) (Nb rfl) (KM (o':=59) Try.underlying147 rfl rfl rfl sz_145 (by decide)) ?_
      refine LAny.take 3 rfl (by kernel_rfl) (Nb rfl) (KK rfl (by repeat (first|exact Mh _|apply Mt)) (KX Try.underlying145 rfl (by exact cvC_gt_F _ _ _ _ _ _ _ _ _ _ _ _ _))) ?_
      refine KC 4 rfl (by kernel_rfl) (Nb rfl) (KM (o':=0) Try.underlying60 rfl rfl rfl sz_25 (by decide)) ?_
      refine LAny.take 5 rfl (by kernel_rfl) (Nb rfl) (KK rfl (by repeat (first|exact Mh _|apply Mt)) (by exact KAW Try.underlying25 rfl sz_25 rfl (KH _))) ?_
      refine Kx 6 rfl rfl (by kernel_rfl) (KR (first:=[]) rfl en_155 rfl (Nb rfl) (fun w hw=>c_HasT V f bd X w (hw _ (by repeat (first|exact Mh _|apply Mt))) hX hpW h1) ?_)
      refine KC 7 rfl (by kernel_rfl) (Nb rfl) (KD rfl) ?_
      refine KAB 8 rfl rfl rfl (by kernel_rfl) (Nb rfl) (KD rfl) ?_
      refine KAB 9 rfl rfl rfl (by kernel_rfl) (Nb rfl) (Kb rfl) ?_
      refine KAB 10 rfl rfl rfl (by kernel_rfl) (Nb rfl) (KM (o':=59) Try.underlying147 rfl rfl rfl sz_145 (by decide)) ?_
      refine KAg 11 rfl rfl rfl (by kernel_rfl) (Nb rfl) (KK rfl (by repeat (first|exact Mh _|apply Mt)) (KX Try.underlying145 rfl (by exact cvC_gt_F _ _ _ _ _ _ _ _ _ _ _ _ _))) ?_
      refine KAB 12 rfl rfl rfl (by kernel_rfl) (Nb rfl) (KM (o':=9) Try.underlying60 rfl rfl rfl sz_25 (by decide)) ?_
      refine KAg 13 rfl rfl rfl (by kernel_rfl) (Nb rfl) (KK rfl (by repeat (first|exact Mh _|apply Mt)) (by exact pt_ld1 _ _ _ _ _ _)) ?_
      refine LAny.oneG 14 rfl rfl rfl rfl (by kernel_rfl) (KR (first:=[]) rfl en_155 rfl (Nb rfl) (fun w hw=>c_HasF V f bd Y w (hw _ (by repeat (first|exact Mh _|apply Mt))) hY hpW h2) ?_)
      refine KC 15 rfl (by kernel_rfl) (Nb rfl) (KAI rfl rfl) ?_
      refine KC 16 rfl (by kernel_rfl) (Nb rfl) (KD rfl) ?_
      refine KAE 17 rfl rfl rfl rfl (by kernel_rfl) (Nb rfl) ?_
      refine KAE 18 rfl rfl rfl rfl (by kernel_rfl) (Nb rfl) ?_
      refine KAE 19 rfl rfl rfl rfl (by kernel_rfl) (Nb rfl) ?_
      refine KAE 20 rfl rfl rfl rfl (by kernel_rfl) (Nb rfl) ?_
      refine KAE 21 rfl rfl rfl rfl (by kernel_rfl) (Nb rfl) ?_
      refine KAE 22 rfl rfl rfl rfl (by kernel_rfl) (Nb rfl) ?_
      refine KAE 23 rfl rfl rfl rfl (by kernel_rfl) (Nb rfl) ?_
      refine KAE 24 rfl rfl rfl rfl (by kernel_rfl) (Nb rfl) ?_
      refine KAE 25 rfl rfl rfl rfl (by kernel_rfl) (Nb rfl) ?_
      refine KAE 26 rfl rfl rfl rfl (by kernel_rfl) (Nb rfl) ?_
      refine KAE 27 rfl rfl rfl rfl (by kernel_rfl) (Nb rfl) ?_
      refine KAE 28 rfl rfl rfl rfl (by kernel_rfl) (Nb rfl) ?_
      refine KAE 29 rfl rfl rfl rfl (by kernel_rfl) (Nb rfl) ?_
      refine KAE 30 rfl rfl rfl rfl (by kernel_rfl) (Nb rfl) ?_
      refine KC 31 rfl (by kernel_rfl) (Nb rfl) (KAK rfl rfl) ?_
      refine KC 32 rfl (by kernel_rfl) (Nb rfl) (KF rfl) ?_
      refine Kh (by kernel_rfl) ?_
      refine KZ ?_
      refine ⟨[_],.cons rfl .nil,fun a w' hr=>⟨?_,hr.fr.below⟩⟩
      rw [on_yy' h2]
      rfl
    ·
      obtain ⟨x,rfl⟩:∃ x:Fin V.p,x.val = X:=⟨⟨X,h1⟩,rfl⟩
      obtain ⟨y,rfl⟩:∃ y:Fin V.p,y.val = Y:=⟨⟨Y,h2⟩,rfl⟩
      refine Ka [] (by kernel_rfl) ?_
      refine KC 0 rfl (by kernel_rfl) (Nb rfl) (KD rfl) ?_
      refine KC 1 rfl (by kernel_rfl) (Nb rfl) (Kb rfl) ?_
      refine KC 2 rfl (by kernel_rfl) (Nb rfl) (KM (o':=59) Try.underlying147 rfl rfl rfl sz_145 (by decide)) ?_
      refine LAny.take 3 rfl (by kernel_rfl) (Nb rfl) (KK rfl (by repeat (first|exact Mh _|apply Mt)) (KX Try.underlying145 rfl (by exact cvC_gt_F _ _ _ _ _ _ _ _ _ _ _ _ _))) ?_
      refine KC 4 rfl (by kernel_rfl) (Nb rfl) (KM (o':=0) Try.underlying60 rfl rfl rfl sz_25 (by decide)) ?_
      refine LAny.take 5 rfl (by kernel_rfl) (Nb rfl) (KK rfl (by repeat (first|exact Mh _|apply Mt)) (by exact KAW Try.underlying25 rfl sz_25 rfl (KH _))) ?_
      refine Kx 6 rfl rfl (by kernel_rfl) (KR (first:=[]) rfl en_155 rfl (Nb rfl) (fun w hw=>c_HasT V f bd x.val w (hw _ (by repeat (first|exact Mh _|apply Mt))) (Nat.lt_trans x.isLt hpW) hpW x.isLt) ?_)
      refine KC 7 rfl (by kernel_rfl) (Nb rfl) (KD rfl) ?_
      refine KAB 8 rfl rfl rfl (by kernel_rfl) (Nb rfl) (KD rfl) ?_
      refine KAB 9 rfl rfl rfl (by kernel_rfl) (Nb rfl) (Kb rfl) ?_
      refine KAB 10 rfl rfl rfl (by kernel_rfl) (Nb rfl) (KM (o':=59) Try.underlying147 rfl rfl rfl sz_145 (by decide)) ?_
      refine KAg 11 rfl rfl rfl (by kernel_rfl) (Nb rfl) (KK rfl (by repeat (first|exact Mh _|apply Mt)) (KX Try.underlying145 rfl (by exact cvC_gt_F _ _ _ _ _ _ _ _ _ _ _ _ _))) ?_
      refine KAB 12 rfl rfl rfl (by kernel_rfl) (Nb rfl) (KM (o':=9) Try.underlying60 rfl rfl rfl sz_25 (by decide)) ?_
      refine KAg 13 rfl rfl rfl (by kernel_rfl) (Nb rfl) (KK rfl (by repeat (first|exact Mh _|apply Mt)) (by exact pt_ld1 _ _ _ _ _ _)) ?_
      refine LAny.oneG 14 rfl rfl rfl rfl (by kernel_rfl) (KR (first:=[]) rfl en_155 rfl (Nb rfl) (fun w hw=>c_HasT V f bd y.val w (hw _ (by repeat (first|exact Mh _|apply Mt))) (Nat.lt_trans y.isLt hpW) hpW y.isLt) ?_)
      refine KC 15 rfl (by kernel_rfl) (Nb rfl) (KAI rfl rfl) ?_
      refine KC 16 rfl (by kernel_rfl) (Nb rfl) (KD rfl) ?_
      refine KAB 17 rfl rfl rfl (by kernel_rfl) (Nb rfl) (KD rfl) ?_
      refine KAB 18 rfl rfl rfl (by kernel_rfl) (Nb rfl) (Kb rfl) ?_
      refine KAB 19 rfl rfl rfl (by kernel_rfl) (Nb rfl) (KM (o':=59) Try.underlying147 rfl rfl rfl sz_145 (by decide)) ?_
      refine KAg 20 rfl rfl rfl (by kernel_rfl) (Nb rfl) (KK rfl (by repeat (first|exact Mh _|apply Mt)) (KX Try.underlying145 rfl (by exact cvC_gt_F _ _ _ _ _ _ _ _ _ _ _ _ _))) ?_
      refine KAB 21 rfl rfl rfl (by kernel_rfl) (Nb rfl) (KM (o':=9) Try.underlying60 rfl rfl rfl sz_25 (by decide)) ?_
      refine KAg 22 rfl rfl rfl (by kernel_rfl) (Nb rfl) (KK rfl (by repeat (first|exact Mh _|apply Mt)) (by exact pt_ld1 _ _ _ _ _ _)) ?_
      refine KAB 23 rfl rfl rfl (by kernel_rfl) (Nb rfl) (KM (o':=9) Try.underlying60 rfl rfl rfl sz_25 (by decide)) ?_
      refine KAg 24 rfl rfl rfl (by kernel_rfl) (Nb rfl) (KK rfl (by repeat (first|exact Mh _|apply Mt)) (by exact pt_ld1 _ _ _ _ _ _)) ?_
      refine KAB 26 rfl rfl rfl (by kernel_rfl) (Nb rfl) (KD rfl) ?_
      refine KAB 27 rfl rfl rfl (by kernel_rfl) (Nb rfl) (KM (o':=0) Try.underlying60 rfl rfl rfl sz_25 (by decide)) ?_
      refine KAg 28 rfl rfl rfl (by kernel_rfl) (Nb rfl) (KK rfl (by repeat (first|exact Mh _|apply Mt)) (by exact KAW Try.underlying25 rfl sz_25 rfl (KH _))) ?_
      refine LAny.oneG 25 rfl rfl rfl rfl (by kernel_rfl) (KR (first:=[]) rfl en_156 rfl (Nb rfl) (fun w hw=>c_F_Mul V hok f bd _ _ w (hw _ (by repeat (first|exact Mh _|apply Mt))) (hw _ (by repeat (first|exact Mh _|apply Mt)))) ?_)
      refine LAny.oneG 29 rfl rfl rfl rfl (by kernel_rfl) (KR (first:=[]) rfl en_157 rfl (Nb rfl) (fun w hw=>c_Right V b f bd hok _ w (hw _ (by repeat (first|exact Mh _|apply Mt))) (hw _ (by repeat (first|exact Mh _|apply Mt))) (hw _ (by repeat (first|exact Mh _|apply Mt)))) ?_)
      refine KAB 30 rfl rfl rfl (by kernel_rfl) (Nb rfl) (Det.eqa (by kernel_rfl) (fun w=>eq_nat (y*y).val ((x*x+V.A)*x+V.B).val (Nat.lt_trans (y*y).isLt hpW) (Nat.lt_trans ((x*x+V.A)*x+V.B).isLt hpW) 10000 (by decide) w) rfl rfl) ?_
      refine KC 31 rfl (by kernel_rfl) (Nb rfl) (KAI rfl rfl) ?_
      refine KC 32 rfl (by kernel_rfl) (Nb rfl) (KF rfl) ?_
      refine Kh (by kernel_rfl) ?_
      refine KZ ?_
      refine ⟨[_],.cons rfl .nil,fun a w' hr=>⟨?_,hr.fr.below⟩⟩
      rw [on_fin hok]
      rfl
  ·
    refine KB ?_
    refine KA (KM (o':=18) Try.underlying60 rfl rfl rfl sz_4 (by decide)) (Nb rfl) ?_
    refine LOps.det (KK rfl (by repeat (first|exact Mh _|apply Mt)) (KX Try.underlying4 rfl (by exact pt_gt _ _ _))) (Nb rfl) ?_
    refine KG ?_
    refine Kt rfl ?_
    refine KE (KB ?_)
    refine LOps.det (KK rfl (by repeat (first|exact Mh _|apply Mt)) (by exact KO Try.underlying60 rfl sz_60)) (Nb rfl) ?_
    refine KA (KY (KAQ pl_60 zr_60 rfl fill_ptInf) rfl) (Nb rfl) ?_
    refine KA (Det.eqa (by kernel_rfl) (fun w=>eq_pt X Y true 0 0 true hX hY zero_w9 zero_w9 10000 (by decide) w) rfl rfl) (Nb rfl) ?_
    refine KA (KF rfl) (Nb rfl) ?_
    refine KG (KZ ?_)
    refine ⟨[_],.cons rfl .nil,fun a w' hr=>⟨?_,hr.fr.below⟩⟩
    rw [on_inf',show (decide (X = 0) && decide (Y = 0)) = (decide (X = 0) && (decide (Y = 0) && ((true == true) && true))) by simp]
    rfl
end Go.Proofs.Ytljblbgogjieaaa
set_option linter.unusedVariables false
set_option linter.unusedSimpArgs false
set_option maxRecDepth 20000
namespace Go.Proofs.Ytljblbgogjieaaa
open Go Go.RowKit
open Grp
def pjF {p:Nat} (T:Fin p×Fin p×Fin p):Value:=pjV T.1.val T.2.1.val T.2.2.val
def pjFL {p:Nat} (T:Fin p×Fin p×Fin p):List Value:=pjL T.1.val T.2.1.val T.2.2.val
theorem fill_pj (X Y Z:Nat):fillL [(0,9),(9,9),(18,9)] (vec .u64 9 (fun _=>0)++(vec .u64 9 (fun _=>0)++vec .u64 9 (fun _=>0))) [(0,natV X),(1,natV Y),(2,natV Z)] = some (pjL X Y Z):=by
  refine KAZ (A:=[]) (B:=vec .u64 9 (fun _=>0)) (D:=vec .u64 9 (fun _=>0)++vec .u64 9 (fun _=>0)) (cs:=natL X) rfl rfl (KH _) rfl rfl (KL _ _ _) ?_
  refine KAZ (A:=natL X) (B:=vec .u64 9 (fun _=>0)) (D:=vec .u64 9 (fun _=>0)) (cs:=natL Y) rfl rfl (KH _) (by simp) (KH _) (KL _ _ _) ?_
  refine (KAZ (A:=natL X++natL Y) (B:=vec .u64 9 (fun _=>0)) (D:=[]) (cs:=natL Z) rfl rfl (KH _) (by simp) (by simp [KH]) (KL _ _ _) rfl).trans ?_
  simp [pjL]
theorem fill_pjN (Y:Nat):fillL [(0,9),(9,9),(18,9)] (vec .u64 9 (fun _=>0)++(vec .u64 9 (fun _=>0)++vec .u64 9 (fun _=>0))) [(1,natV Y)] = some (pjL 0 Y 0):=by
  refine (KAZ (A:=vec .u64 9 (fun _=>0)) (B:=vec .u64 9 (fun _=>0)) (D:=vec .u64 9 (fun _=>0)) (cs:=natL Y) rfl rfl (KH _) rfl (KL _ _ _) (KL _ _ _) rfl).trans ?_
  simp [pjL,natL,vec_zeros 9]
theorem c_None  (w:World)  : Calls Try.prog 158 ([]:List Value).toArray w (fun e w'=>e = .returned (pjV 0 1 0)∧Below w.heap.size w w'):=by
  refine KAC (N:=3) (rs:=[.cell 0 91]) [] Try.func158 rfl Try.ntmps158 Try.results158 (Nb rfl) trivial rfl ?_
  show LCode _ _ _ ⟨_,_⟩ _
  refine KE (KB ?_)
  refine KI rfl (KT (KQ (Kg zr_91) (Nb rfl) (fun b0=>?_)))
  refine KG ?_
  refine KE (KB ?_)
  refine KI rfl (KT (KR (first:=[]) rfl en_150 rfl (Nb rfl) (fun w hw=>c_nat_Small 1 (by decide) w) ?_))
  refine KA (KY (KAQ pl_91 zr_91 rfl (fill_pjN 1)) rfl) (Nb rfl) ?_
  refine KI rfl (KP rfl rfl sz_91 (by repeat (first|exact Kl _|exact Ky _ _ _|exact Kn _|exact Kr _ _ _|exact Kz _ _ _|exact KU|refine KS rfl ?_|refine KW ?_ ?_)) (by repeat (first|exact Sh _|apply St_)) (by first|exact KH _|exact KL _ _ _|exact KJ _|exact KV _ _ _|exact Kd _ _ _|rfl|simp [KL,KH,KJ]) ?_)
  refine KG (KZ ?_)
  refine ⟨[_],.cons ⟨_,_,_,rfl,(by repeat (first|exact Mh _|apply Mt)),by exact KO Try.underlying91 rfl sz_91⟩ .nil,fun a w' hr=>⟨?_,hr.fr.below⟩⟩
  rfl
theorem c_NoneF {V:Cv} (hok:V.Ok) (w:World):Calls Try.prog 158 ([]:List Value).toArray w (fun e w'=>e = .returned (pjF (tripF (.inf:Pt V.p)))∧Below w.heap.size w w'):=by
  have h:=c_None w
  have e:pjF (tripF (.inf:Pt V.p)) = pjV 0 1 0:=by
    unfold pjF tripF
    rw [fin_one (show 1<V.p from hok.prime.1)]
    rfl
  rwa [e]
theorem c_Triple (V:Cv) (hok:V.Ok) (P:Pt V.p) (w:World)  : Calls Try.prog 129 ([ptP P]:List Value).toArray w (fun e w'=>e = .returned (pjF (tripF P))∧Below w.heap.size w w'):=by
  refine KAC (N:=12) (rs:=[.cell 2 91]) [] Try.func129 rfl Try.ntmps129 Try.results129 (Nb rfl) trivial rfl ?_
  show LCode _ _ _ ⟨_,_⟩ _
  refine KE (KB ?_)
  refine KI rfl (KT (KQ (Ku rfl) (Nb rfl) (fun b1=>?_)))
  refine KI rfl (KT (KQ (Kg zr_91) (Nb rfl) (fun b2=>?_)))
  refine KG ?_
  refine KE ?_
  refine KE ?_
  rcases P with _|⟨x,y⟩
  ·
    refine KB ?_
    refine KA (KM (o':=18) Try.underlying60 rfl rfl rfl sz_4 (by decide)) (Nb rfl) ?_
    refine LOps.det (KK rfl (by repeat (first|exact Mh _|apply Mt)) (KX Try.underlying4 rfl (by exact pt_gt _ _ _))) (Nb rfl) ?_
    refine KG ?_
    refine Kt rfl ?_
    refine KE (KB ?_)
    refine KI rfl (KT (KR (first:=[]) rfl en_158 rfl (Nb rfl) (fun w hw=>c_NoneF hok w) ?_))
    refine KI rfl (KP rfl rfl sz_91 (by repeat (first|exact Kl _|exact Ky _ _ _|exact Kn _|exact Kr _ _ _|exact Kz _ _ _|exact KU|refine KS rfl ?_|refine KW ?_ ?_)) (by repeat (first|exact Sh _|apply St_)) (by first|exact KH _|exact KL _ _ _|exact KJ _|exact KV _ _ _|exact Kd _ _ _|rfl|simp [KL,KH,KJ]) ?_)
    refine KG (KZ ?_)
    refine ⟨[_],.cons ⟨_,_,_,rfl,(by repeat (first|exact Mh _|apply Mt)),by exact KO Try.underlying91 rfl sz_91⟩ .nil,fun a w' hr=>⟨?_,hr.fr.below⟩⟩
    rfl
  ·
    refine KB ?_
    refine KA (KM (o':=18) Try.underlying60 rfl rfl rfl sz_4 (by decide)) (Nb rfl) ?_
    refine LOps.det (KK rfl (by repeat (first|exact Mh _|apply Mt)) (KX Try.underlying4 rfl (by exact pt_gt _ _ _))) (Nb rfl) ?_
    refine KG ?_
    refine Km rfl ?_
    refine Kf ?_
    refine KE ?_
    refine Ka [6] (by kernel_rfl) ?_
    refine KC 0 rfl (by kernel_rfl) (Nb rfl) (KM (o':=0) Try.underlying60 rfl rfl rfl sz_25 (by decide)) ?_
    refine LAny.take 1 rfl (by kernel_rfl) (Nb rfl) (KK rfl (by repeat (first|exact Mh _|apply Mt)) (by exact KAW Try.underlying25 rfl sz_25 rfl (KH _))) ?_
    refine KC 2 rfl (by kernel_rfl) (Nb rfl) (KM (o':=9) Try.underlying60 rfl rfl rfl sz_25 (by decide)) ?_
    refine LAny.take 3 rfl (by kernel_rfl) (Nb rfl) (KK rfl (by repeat (first|exact Mh _|apply Mt)) (by exact pt_ld1 _ _ _ _ _ _)) ?_
    refine Kx 4 rfl rfl (by kernel_rfl) (KR (first:=[]) rfl en_150 rfl (Nb rfl) (fun w hw=>c_nat_Small 1 (by decide) w) ?_)
    refine KC 5 rfl (by kernel_rfl) (Nb rfl) (KY (KAQ pl_91 zr_91 rfl (fill_pj _ _ _)) rfl) ?_
    refine Ko 6 rfl rfl (by kernel_rfl) (by kernel_rfl) (KP rfl rfl sz_91 (by repeat (first|exact Kl _|exact Ky _ _ _|exact Kn _|exact Kr _ _ _|exact Kz _ _ _|exact KU|refine KS rfl ?_|refine KW ?_ ?_)) (by repeat (first|exact Sh _|apply St_)) (by first|exact KH _|exact KL _ _ _|exact KJ _|exact KV _ _ _|exact Kd _ _ _|rfl|simp [KL,KH,KJ]) ?_)
    refine Kh (by kernel_rfl) ?_
    refine KZ ?_
    refine ⟨[_],.cons ⟨_,_,_,rfl,(by repeat (first|exact Mh _|apply Mt)),by exact KO Try.underlying91 rfl sz_91⟩ .nil,fun a w' hr=>⟨?_,hr.fr.below⟩⟩
    show _ = Ending.returned (pjV x.val y.val (1:Fin V.p).val)
    rw [fin_one (show 1<V.p from hok.prime.1)]
    rfl
theorem c_Plain (V:Cv) (b f bd:Nat) (hok:V.Ok) (X Y Z:Fin V.p) (w:World) (hb:(Item.blk b ⟨false,opL V f,147,(0,0)⟩).holds w) (hf:(Item.blk f ⟨false,fldL V.p bd,194,(0,0)⟩).holds w) (hbd:(Item.blk bd ⟨false,dvL V.p,241,(0,0)⟩).holds w):Calls Try.prog 127 ([.pointer (some ⟨b,0,none⟩),pjV X.val Y.val Z.val]:List Value).toArray w (fun e w'=>e = .returned (ptP (plainP X Y Z))∧Below w.heap.size w w'):=by
  have hbb:=hok.bounds
  have hpW:V.p<W9:=w9_521 hbb.2.1
  refine KAC (N:=35) (rs:=[.cell 4 60]) [.blk b ⟨false,opL V f,147,(0,0)⟩,.blk f ⟨false,fldL V.p bd,194,(0,0)⟩,.blk bd ⟨false,dvL V.p,241,(0,0)⟩] Try.func127 rfl Try.ntmps127 Try.results127 (Nb rfl) ⟨hb,hf,hbd,trivial⟩ rfl ?_
  show LCode _ _ _ ⟨_,_⟩ _
  refine KE (KB ?_)
  refine KI rfl (KT (KQ (Ku rfl) (Nb rfl) (fun b3=>?_)))
  refine KI rfl (KT (KQ (Kg zr_60) (Nb rfl) (fun b4=>?_)))
  refine KG ?_
  refine KE ?_
  refine KE ?_
  by_cases hz:Z = 0
  ·
    refine KB ?_
    refine KA (KM (o':=18) Try.underlying91 rfl rfl rfl sz_25 (by decide)) (Nb rfl) ?_
    refine LOps.det (KK rfl (by repeat (first|exact Mh _|apply Mt)) (by exact pj_ld2 _ _ _ _ _ _)) (Nb rfl) ?_
    refine KA (KY (KAQ pl_25 zr_25 rfl rfl) (show _ = natV 0 by unfold natV natL; rw [← vec_zeros 9])) (Nb rfl) ?_
    refine KA (KY (Det.eqa (by kernel_rfl) (fun w=>eq_nat Z.val 0 (Nat.lt_trans Z.isLt hpW) zero_w9 10000 (by decide) w) rfl rfl) (show _ = Value.bool true by rw [decide_eq_true (by rw [hz]; rfl)])) (Nb rfl) ?_
    refine KG ?_
    refine Kt rfl ?_
    refine KE (KB ?_)
    refine KA (KY (KAQ pl_60 zr_60 rfl fill_ptInf) rfl) (Nb rfl) ?_
    refine KI rfl (KP rfl rfl sz_60 (by repeat (first|exact Kl _|exact Ky _ _ _|exact Kn _|exact Kr _ _ _|exact Kz _ _ _|exact KU|refine KS rfl ?_|refine KW ?_ ?_)) (by repeat (first|exact Sh _|apply St_)) (by first|exact KH _|exact KL _ _ _|exact KJ _|exact KV _ _ _|exact Kd _ _ _|rfl|simp [KL,KH,KJ]) ?_)
    refine KG (KZ ?_)
    refine ⟨[_],.cons ⟨_,_,_,rfl,(by repeat (first|exact Mh _|apply Mt)),by exact KO Try.underlying60 rfl sz_60⟩ .nil,fun a w' hr=>⟨?_,hr.fr.below⟩⟩
    rw [hz,plain_inf]
    rfl
  ·
    refine KB ?_
    refine KA (KM (o':=18) Try.underlying91 rfl rfl rfl sz_25 (by decide)) (Nb rfl) ?_
    refine LOps.det (KK rfl (by repeat (first|exact Mh _|apply Mt)) (by exact pj_ld2 _ _ _ _ _ _)) (Nb rfl) ?_
    refine KA (KY (KAQ pl_25 zr_25 rfl rfl) (show _ = natV 0 by unfold natV natL; rw [← vec_zeros 9])) (Nb rfl) ?_
    refine KA (KY (Det.eqa (by kernel_rfl) (fun w=>eq_nat Z.val 0 (Nat.lt_trans Z.isLt hpW) zero_w9 10000 (by decide) w) rfl rfl) (show _ = Value.bool false by rw [decide_eq_false (show ¬ Z.val = 0 from fun e=>hz (Fin.ext e))])) (Nb rfl) ?_
    refine KG ?_
    refine Km rfl ?_
    refine Kf ?_
    refine KE ?_
    refine Ka [8] (by kernel_rfl) ?_
    refine KC 0 rfl (by kernel_rfl) (Nb rfl) (KD rfl) ?_
    refine KC 1 rfl (by kernel_rfl) (Nb rfl) (Kb rfl) ?_
    refine KC 2 rfl (by kernel_rfl) (Nb rfl) (KM (o':=59) Try.underlying147 rfl rfl rfl sz_145 (by decide)) ?_
    refine LAny.take 3 rfl (by kernel_rfl) (Nb rfl) (KK rfl (by repeat (first|exact Mh _|apply Mt)) (KX Try.underlying145 rfl (by exact cvC_gt_F _ _ _ _ _ _ _ _ _ _ _ _ _))) ?_
    refine KC 4 rfl (by kernel_rfl) (Nb rfl) (KM (o':=18) Try.underlying91 rfl rfl rfl sz_25 (by decide)) ?_
    refine LAny.take 5 rfl (by kernel_rfl) (Nb rfl) (KK rfl (by repeat (first|exact Mh _|apply Mt)) (by exact pj_ld2 _ _ _ _ _ _)) ?_
    refine LAny.toP ?_
    refine KAV 7 rfl (.inl zr_25) (Nb rfl) rfl rfl rfl ?_
    refine KAA 6 rfl rfl rfl (Nb rfl) (by kernel_rfl) rfl (KAM (first:=[]) rfl en_160 rfl (fun w hw=>c_F_Inv V hok f bd _ w (hw _ (by repeat (first|exact Mh _|apply Mt))))) ?_
    rintro _ _ ⟨rfl,rfl⟩
    refine KAb (by kernel_rfl) (fun b5=>?_)
    refine KAX ?_
    refine Ko 8 rfl rfl (by kernel_rfl) (by kernel_rfl) (KP rfl rfl sz_25 (by repeat (first|exact Kl _|exact Ky _ _ _|exact Kn _|exact Kr _ _ _|exact Kz _ _ _|exact KU|refine KS rfl ?_|refine KW ?_ ?_)) (by repeat (first|exact Sh _|apply St_)) (by first|exact KH _|exact KL _ _ _|exact KJ _|exact KV _ _ _|exact Kd _ _ _|rfl|simp [KL,KH,KJ]) ?_)
    refine Kh (by kernel_rfl) ?_
    refine KE ?_
    refine Ka [17] (by kernel_rfl) ?_
    refine KC 0 rfl (by kernel_rfl) (Nb rfl) (KD rfl) ?_
    refine KC 1 rfl (by kernel_rfl) (Nb rfl) (Kb rfl) ?_
    refine KC 2 rfl (by kernel_rfl) (Nb rfl) (KM (o':=59) Try.underlying147 rfl rfl rfl sz_145 (by decide)) ?_
    refine LAny.take 3 rfl (by kernel_rfl) (Nb rfl) (KK rfl (by repeat (first|exact Mh _|apply Mt)) (KX Try.underlying145 rfl (by exact cvC_gt_F _ _ _ _ _ _ _ _ _ _ _ _ _))) ?_
    refine KC 4 rfl (by kernel_rfl) (Nb rfl) (KM (o':=0) Try.underlying91 rfl rfl rfl sz_25 (by decide)) ?_
    refine LAny.take 5 rfl (by kernel_rfl) (Nb rfl) (KK rfl (by repeat (first|exact Mh _|apply Mt)) (by exact KAW Try.underlying25 rfl sz_25 rfl (KH _))) ?_
    refine LAny.take 6 rfl (by kernel_rfl) (Nb rfl) (KK rfl (by repeat (first|exact Mh _|apply Mt)) (by exact KO Try.underlying25 rfl sz_25)) ?_
    refine KC 8 rfl (by kernel_rfl) (Nb rfl) (KD rfl) ?_
    refine KC 9 rfl (by kernel_rfl) (Nb rfl) (Kb rfl) ?_
    refine KC 10 rfl (by kernel_rfl) (Nb rfl) (KM (o':=59) Try.underlying147 rfl rfl rfl sz_145 (by decide)) ?_
    refine LAny.take 11 rfl (by kernel_rfl) (Nb rfl) (KK rfl (by repeat (first|exact Mh _|apply Mt)) (KX Try.underlying145 rfl (by exact cvC_gt_F _ _ _ _ _ _ _ _ _ _ _ _ _))) ?_
    refine KC 12 rfl (by kernel_rfl) (Nb rfl) (KM (o':=9) Try.underlying91 rfl rfl rfl sz_25 (by decide)) ?_
    refine LAny.take 13 rfl (by kernel_rfl) (Nb rfl) (KK rfl (by repeat (first|exact Mh _|apply Mt)) (by exact LoadV.mid Try.underlying25 rfl sz_25 rfl (KH _) (KH _))) ?_
    refine LAny.take 14 rfl (by kernel_rfl) (Nb rfl) (KK rfl (by repeat (first|exact Mh _|apply Mt)) (by exact KO Try.underlying25 rfl sz_25)) ?_
    refine Kx 7 rfl rfl (by kernel_rfl) (KR (first:=[]) rfl en_156 rfl (Nb rfl) (fun w hw=>c_F_Mul V hok f bd _ _ w (hw _ (by repeat (first|exact Mh _|apply Mt))) (hw _ (by repeat (first|exact Mh _|apply Mt)))) ?_)
    refine Kx 15 rfl rfl (by kernel_rfl) (KR (first:=[]) rfl en_156 rfl (Nb rfl) (fun w hw=>c_F_Mul V hok f bd _ _ w (hw _ (by repeat (first|exact Mh _|apply Mt))) (hw _ (by repeat (first|exact Mh _|apply Mt)))) ?_)
    refine KC 16 rfl (by kernel_rfl) (Nb rfl) (KY (KAQ pl_60 zr_60 rfl (fill_pt _ _)) rfl) ?_
    refine Ko 17 rfl rfl (by kernel_rfl) (by kernel_rfl) (KP rfl rfl sz_60 (by repeat (first|exact Kl _|exact Ky _ _ _|exact Kn _|exact Kr _ _ _|exact Kz _ _ _|exact KU|refine KS rfl ?_|refine KW ?_ ?_)) (by repeat (first|exact Sh _|apply St_)) (by first|exact KH _|exact KL _ _ _|exact KJ _|exact KV _ _ _|exact Kd _ _ _|rfl|simp [KL,KH,KJ]) ?_)
    refine Kh (by kernel_rfl) ?_
    refine KZ ?_
    refine ⟨[_],.cons ⟨_,_,_,rfl,(by repeat (first|exact Mh _|apply Mt)),by exact KO Try.underlying60 rfl sz_60⟩ .nil,fun a w' hr=>⟨?_,hr.fr.below⟩⟩
    rw [plain_aff hz]
    rfl
theorem c_Sum (V:Cv) (b f bd:Nat) (hok:V.Ok) (X1 Y1 Z1 X2 Y2 Z2:Fin V.p) (w:World) (hb:(Item.blk b ⟨false,opL V f,147,(0,0)⟩).holds w) (hf:(Item.blk f ⟨false,fldL V.p bd,194,(0,0)⟩).holds w) (hbd:(Item.blk bd ⟨false,dvL V.p,241,(0,0)⟩).holds w):Calls Try.prog 128 ([.pointer (some ⟨b,0,none⟩),pjV X1.val Y1.val Z1.val,pjV X2.val Y2.val Z2.val]:List Value).toArray w (fun e w'=>e = .returned (pjF (sum3 V.A (V.B+V.B+V.B) X1 Y1 Z1 X2 Y2 Z2))∧Below w.heap.size w w'):=by
  have hbb:=hok.bounds
  have hpW:V.p<W9:=w9_521 hbb.2.1
  refine KAC (N:=213) (rs:=[.cell 6 91]) [.blk b ⟨false,opL V f,147,(0,0)⟩,.blk f ⟨false,fldL V.p bd,194,(0,0)⟩,.blk bd ⟨false,dvL V.p,241,(0,0)⟩] Try.func128 rfl Try.ntmps128 Try.results128 (Nb rfl) ⟨hb,hf,hbd,trivial⟩ rfl ?_
  show LCode _ _ _ ⟨_,_⟩ _
  refine KE (KB ?_)
  refine KI rfl (KT (KQ (Ku rfl) (Nb rfl) (fun b4=>?_)))
  refine KI rfl (KT (KQ (Ku rfl) (Nb rfl) (fun b5=>?_)))
  refine KI rfl (KT (KQ (Kg zr_91) (Nb rfl) (fun b6=>?_)))
  refine KG ?_
  refine KE ?_
  refine Ka [] (by kernel_rfl) ?_
  refine KC 0 rfl (by kernel_rfl) (Nb rfl) (KD rfl) ?_
  refine KC 1 rfl (by kernel_rfl) (Nb rfl) (Kb rfl) ?_
  refine KC 2 rfl (by kernel_rfl) (Nb rfl) (KM (o':=59) Try.underlying147 rfl rfl rfl sz_145 (by decide)) ?_
  refine LAny.take 3 rfl (by kernel_rfl) (Nb rfl) (KK rfl (by repeat (first|exact Mh _|apply Mt)) (KX Try.underlying145 rfl (by exact cvC_gt_F _ _ _ _ _ _ _ _ _ _ _ _ _))) ?_
  refine KC 4 rfl (by kernel_rfl) (Nb rfl) (Det.makeFunc1 rfl) ?_
  refine KC 5 rfl (by kernel_rfl) (Nb rfl) (KD rfl) ?_
  refine KC 6 rfl (by kernel_rfl) (Nb rfl) (Kb rfl) ?_
  refine KC 7 rfl (by kernel_rfl) (Nb rfl) (KM (o':=59) Try.underlying147 rfl rfl rfl sz_145 (by decide)) ?_
  refine LAny.take 8 rfl (by kernel_rfl) (Nb rfl) (KK rfl (by repeat (first|exact Mh _|apply Mt)) (KX Try.underlying145 rfl (by exact cvC_gt_F _ _ _ _ _ _ _ _ _ _ _ _ _))) ?_
  refine KC 9 rfl (by kernel_rfl) (Nb rfl) (Det.makeFunc1 rfl) ?_
  refine KC 10 rfl (by kernel_rfl) (Nb rfl) (KD rfl) ?_
  refine KC 11 rfl (by kernel_rfl) (Nb rfl) (Kb rfl) ?_
  refine KC 12 rfl (by kernel_rfl) (Nb rfl) (KM (o':=59) Try.underlying147 rfl rfl rfl sz_145 (by decide)) ?_
  refine LAny.take 13 rfl (by kernel_rfl) (Nb rfl) (KK rfl (by repeat (first|exact Mh _|apply Mt)) (KX Try.underlying145 rfl (by exact cvC_gt_F _ _ _ _ _ _ _ _ _ _ _ _ _))) ?_
  refine KC 14 rfl (by kernel_rfl) (Nb rfl) (Det.makeFunc1 rfl) ?_
  refine KC 15 rfl (by kernel_rfl) (Nb rfl) (KF rfl) ?_
  refine KC 16 rfl (by kernel_rfl) (Nb rfl) (KF rfl) ?_
  refine KC 17 rfl (by kernel_rfl) (Nb rfl) (KF rfl) ?_
  refine Kh (by kernel_rfl) ?_
  refine KE ?_
  refine Ka [21,22,23] (by kernel_rfl) ?_
  refine KC 0 rfl (by kernel_rfl) (Nb rfl) (KD rfl) ?_
  refine KC 1 rfl (by kernel_rfl) (Nb rfl) (KM (o':=0) Try.underlying91 rfl rfl rfl sz_25 (by decide)) ?_
  refine LAny.take 2 rfl (by kernel_rfl) (Nb rfl) (KK rfl (by repeat (first|exact Mh _|apply Mt)) (by exact KAW Try.underlying25 rfl sz_25 rfl (KH _))) ?_
  refine KC 3 rfl (by kernel_rfl) (Nb rfl) (KM (o':=0) Try.underlying91 rfl rfl rfl sz_25 (by decide)) ?_
  refine LAny.take 4 rfl (by kernel_rfl) (Nb rfl) (KK rfl (by repeat (first|exact Mh _|apply Mt)) (by exact KAW Try.underlying25 rfl sz_25 rfl (KH _))) ?_
  refine KC 6 rfl (by kernel_rfl) (Nb rfl) (KD rfl) ?_
  refine KC 7 rfl (by kernel_rfl) (Nb rfl) (KM (o':=9) Try.underlying91 rfl rfl rfl sz_25 (by decide)) ?_
  refine KC 9 rfl (by kernel_rfl) (Nb rfl) (KM (o':=9) Try.underlying91 rfl rfl rfl sz_25 (by decide)) ?_
  refine KC 12 rfl (by kernel_rfl) (Nb rfl) (KD rfl) ?_
  refine KC 13 rfl (by kernel_rfl) (Nb rfl) (KM (o':=18) Try.underlying91 rfl rfl rfl sz_25 (by decide)) ?_
  refine KC 15 rfl (by kernel_rfl) (Nb rfl) (KM (o':=18) Try.underlying91 rfl rfl rfl sz_25 (by decide)) ?_
  refine LAny.takeW [11,17,21,22,23] 8 rfl (by kernel_rfl) (Nb rfl) (KK rfl (by repeat (first|exact Mh _|apply Mt)) (by exact LoadV.mid Try.underlying25 rfl sz_25 rfl (KH _) (KH _))) ?_
  refine LAny.takeW [11,17,21,22,23] 10 rfl (by kernel_rfl) (Nb rfl) (KK rfl (by repeat (first|exact Mh _|apply Mt)) (by exact LoadV.mid Try.underlying25 rfl sz_25 rfl (KH _) (KH _))) ?_
  refine LAny.takeW [17,21,22,23] 14 rfl (by kernel_rfl) (Nb rfl) (KK rfl (by repeat (first|exact Mh _|apply Mt)) (by exact pj_ld2 _ _ _ _ _ _)) ?_
  refine LAny.takeW [17,21,22,23] 16 rfl (by kernel_rfl) (Nb rfl) (KK rfl (by repeat (first|exact Mh _|apply Mt)) (by exact pj_ld2 _ _ _ _ _ _)) ?_
  refine LAny.toP ?_
  refine KAV 18 rfl (.inl zr_25) (Nb rfl) rfl rfl rfl ?_
  refine KAV 19 rfl (.inl zr_25) (Nb rfl) rfl rfl rfl ?_
  refine KAV 20 rfl (.inl zr_25) (Nb rfl) rfl rfl rfl ?_
  refine KAA 5 rfl rfl rfl (Nb rfl) (by kernel_rfl) rfl (KAM (first:=[_]) rfl en_156 rfl (fun w hw=>c_F_Mul V hok f bd _ _ w (hw _ (by repeat (first|exact Mh _|apply Mt))) (hw _ (by repeat (first|exact Mh _|apply Mt))))) ?_
  rintro _ _ ⟨rfl,rfl⟩
  refine KAA 11 rfl rfl rfl (Nb rfl) (by kernel_rfl) rfl (KAM (first:=[_]) rfl en_156 rfl (fun w hw=>c_F_Mul V hok f bd _ _ w (hw _ (by repeat (first|exact Mh _|apply Mt))) (hw _ (by repeat (first|exact Mh _|apply Mt))))) ?_
  rintro _ _ ⟨rfl,rfl⟩
  refine KAA 17 rfl rfl rfl (Nb rfl) (by kernel_rfl) rfl (KAM (first:=[_]) rfl en_156 rfl (fun w hw=>c_F_Mul V hok f bd _ _ w (hw _ (by repeat (first|exact Mh _|apply Mt))) (hw _ (by repeat (first|exact Mh _|apply Mt))))) ?_
  rintro _ _ ⟨rfl,rfl⟩
  refine KAb (by kernel_rfl) (fun b12=>?_)
  refine KAb (by kernel_rfl) (fun b11=>?_)
  refine KAb (by kernel_rfl) (fun b10=>?_)
  refine KAX ?_
  refine Ko 21 rfl rfl (by kernel_rfl) (by kernel_rfl) (KP rfl rfl sz_25 (by repeat (first|exact Kl _|exact Ky _ _ _|exact Kn _|exact Kr _ _ _|exact Kz _ _ _|exact KU|refine KS rfl ?_|refine KW ?_ ?_)) (by repeat (first|exact Sh _|apply St_)) (by first|exact KH _|exact KL _ _ _|exact KJ _|exact KV _ _ _|exact Kd _ _ _|rfl|simp [KL,KH,KJ]) ?_)
  refine Ko 22 rfl rfl (by kernel_rfl) (by kernel_rfl) (KP rfl rfl sz_25 (by repeat (first|exact Kl _|exact Ky _ _ _|exact Kn _|exact Kr _ _ _|exact Kz _ _ _|exact KU|refine KS rfl ?_|refine KW ?_ ?_)) (by repeat (first|exact Sh _|apply St_)) (by first|exact KH _|exact KL _ _ _|exact KJ _|exact KV _ _ _|exact Kd _ _ _|rfl|simp [KL,KH,KJ]) ?_)
  refine Ko 23 rfl rfl (by kernel_rfl) (by kernel_rfl) (KP rfl rfl sz_25 (by repeat (first|exact Kl _|exact Ky _ _ _|exact Kn _|exact Kr _ _ _|exact Kz _ _ _|exact KU|refine KS rfl ?_|refine KW ?_ ?_)) (by repeat (first|exact Sh _|apply St_)) (by first|exact KH _|exact KL _ _ _|exact KJ _|exact KV _ _ _|exact Kd _ _ _|rfl|simp [KL,KH,KJ]) ?_)
  refine Kh (by kernel_rfl) ?_
  refine KE ?_
  refine Ka [21] (by kernel_rfl) ?_
  refine KC 0 rfl (by kernel_rfl) (Nb rfl) (KD rfl) ?_
  refine KC 1 rfl (by kernel_rfl) (Nb rfl) (KD rfl) ?_
  refine KC 2 rfl (by kernel_rfl) (Nb rfl) (KD rfl) ?_
  refine KC 3 rfl (by kernel_rfl) (Nb rfl) (KM (o':=0) Try.underlying91 rfl rfl rfl sz_25 (by decide)) ?_
  refine LAny.take 4 rfl (by kernel_rfl) (Nb rfl) (KK rfl (by repeat (first|exact Mh _|apply Mt)) (by exact KAW Try.underlying25 rfl sz_25 rfl (KH _))) ?_
  refine KC 5 rfl (by kernel_rfl) (Nb rfl) (KM (o':=9) Try.underlying91 rfl rfl rfl sz_25 (by decide)) ?_
  refine LAny.take 6 rfl (by kernel_rfl) (Nb rfl) (KK rfl (by repeat (first|exact Mh _|apply Mt)) (by exact LoadV.mid Try.underlying25 rfl sz_25 rfl (KH _) (KH _))) ?_
  refine KC 8 rfl (by kernel_rfl) (Nb rfl) (KD rfl) ?_
  refine KC 9 rfl (by kernel_rfl) (Nb rfl) (KM (o':=0) Try.underlying91 rfl rfl rfl sz_25 (by decide)) ?_
  refine LAny.take 10 rfl (by kernel_rfl) (Nb rfl) (KK rfl (by repeat (first|exact Mh _|apply Mt)) (by exact KAW Try.underlying25 rfl sz_25 rfl (KH _))) ?_
  refine KC 11 rfl (by kernel_rfl) (Nb rfl) (KM (o':=9) Try.underlying91 rfl rfl rfl sz_25 (by decide)) ?_
  refine LAny.take 12 rfl (by kernel_rfl) (Nb rfl) (KK rfl (by repeat (first|exact Mh _|apply Mt)) (by exact LoadV.mid Try.underlying25 rfl sz_25 rfl (KH _) (KH _))) ?_
  refine KC 15 rfl (by kernel_rfl) (Nb rfl) (KD rfl) ?_
  refine LAny.take 16 rfl (by kernel_rfl) (Nb rfl) (KK rfl (by repeat (first|exact Mh _|apply Mt)) (by exact KO Try.underlying25 rfl sz_25)) ?_
  refine LAny.take 17 rfl (by kernel_rfl) (Nb rfl) (KK rfl (by repeat (first|exact Mh _|apply Mt)) (by exact KO Try.underlying25 rfl sz_25)) ?_
  refine LAny.toP ?_
  refine KAV 20 rfl (.inl zr_25) (Nb rfl) rfl rfl rfl ?_
  refine KAA 7 rfl rfl rfl (Nb rfl) (by kernel_rfl) rfl (KAM (first:=[_]) rfl en_152 rfl (fun w hw=>c_F_Add V hok f bd _ _ w (hw _ (by repeat (first|exact Mh _|apply Mt))))) ?_
  rintro _ _ ⟨rfl,rfl⟩
  refine KAA 13 rfl rfl rfl (Nb rfl) (by kernel_rfl) rfl (KAM (first:=[_]) rfl en_152 rfl (fun w hw=>c_F_Add V hok f bd _ _ w (hw _ (by repeat (first|exact Mh _|apply Mt))))) ?_
  rintro _ _ ⟨rfl,rfl⟩
  refine KAA 14 rfl rfl rfl (Nb rfl) (by kernel_rfl) rfl (KAM (first:=[_]) rfl en_156 rfl (fun w hw=>c_F_Mul V hok f bd _ _ w (hw _ (by repeat (first|exact Mh _|apply Mt))) (hw _ (by repeat (first|exact Mh _|apply Mt))))) ?_
  rintro _ _ ⟨rfl,rfl⟩
  refine KAA 18 rfl rfl rfl (Nb rfl) (by kernel_rfl) rfl (KAM (first:=[_]) rfl en_152 rfl (fun w hw=>c_F_Add V hok f bd _ _ w (hw _ (by repeat (first|exact Mh _|apply Mt))))) ?_
  rintro _ _ ⟨rfl,rfl⟩
  refine KAA 19 rfl rfl rfl (Nb rfl) (by kernel_rfl) rfl (KAM (first:=[_]) rfl en_161 rfl (fun w hw=>c_F_Sub V hok f bd _ _ w (hw _ (by repeat (first|exact Mh _|apply Mt))))) ?_
  rintro _ _ ⟨rfl,rfl⟩
  refine KAb (by kernel_rfl) (fun b13=>?_)
  refine KAX ?_
  refine Ko 21 rfl rfl (by kernel_rfl) (by kernel_rfl) (KP rfl rfl sz_25 (by repeat (first|exact Kl _|exact Ky _ _ _|exact Kn _|exact Kr _ _ _|exact Kz _ _ _|exact KU|refine KS rfl ?_|refine KW ?_ ?_)) (by repeat (first|exact Sh _|apply St_)) (by first|exact KH _|exact KL _ _ _|exact KJ _|exact KV _ _ _|exact Kd _ _ _|rfl|simp [KL,KH,KJ]) ?_)
  refine Kh (by kernel_rfl) ?_
  refine KE ?_
  refine Ka [21] (by kernel_rfl) ?_
  refine KC 0 rfl (by kernel_rfl) (Nb rfl) (KD rfl) ?_
  refine KC 1 rfl (by kernel_rfl) (Nb rfl) (KD rfl) ?_
  refine KC 2 rfl (by kernel_rfl) (Nb rfl) (KD rfl) ?_
  refine KC 3 rfl (by kernel_rfl) (Nb rfl) (KM (o':=0) Try.underlying91 rfl rfl rfl sz_25 (by decide)) ?_
  refine LAny.take 4 rfl (by kernel_rfl) (Nb rfl) (KK rfl (by repeat (first|exact Mh _|apply Mt)) (by exact KAW Try.underlying25 rfl sz_25 rfl (KH _))) ?_
  refine KC 5 rfl (by kernel_rfl) (Nb rfl) (KM (o':=18) Try.underlying91 rfl rfl rfl sz_25 (by decide)) ?_
  refine LAny.take 6 rfl (by kernel_rfl) (Nb rfl) (KK rfl (by repeat (first|exact Mh _|apply Mt)) (by exact pj_ld2 _ _ _ _ _ _)) ?_
  refine KC 8 rfl (by kernel_rfl) (Nb rfl) (KD rfl) ?_
  refine KC 9 rfl (by kernel_rfl) (Nb rfl) (KM (o':=0) Try.underlying91 rfl rfl rfl sz_25 (by decide)) ?_
  refine LAny.take 10 rfl (by kernel_rfl) (Nb rfl) (KK rfl (by repeat (first|exact Mh _|apply Mt)) (by exact KAW Try.underlying25 rfl sz_25 rfl (KH _))) ?_
  refine KC 11 rfl (by kernel_rfl) (Nb rfl) (KM (o':=18) Try.underlying91 rfl rfl rfl sz_25 (by decide)) ?_
  refine LAny.take 12 rfl (by kernel_rfl) (Nb rfl) (KK rfl (by repeat (first|exact Mh _|apply Mt)) (by exact pj_ld2 _ _ _ _ _ _)) ?_
  refine KC 15 rfl (by kernel_rfl) (Nb rfl) (KD rfl) ?_
  refine LAny.take 16 rfl (by kernel_rfl) (Nb rfl) (KK rfl (by repeat (first|exact Mh _|apply Mt)) (by exact KO Try.underlying25 rfl sz_25)) ?_
  refine LAny.take 17 rfl (by kernel_rfl) (Nb rfl) (KK rfl (by repeat (first|exact Mh _|apply Mt)) (by exact KO Try.underlying25 rfl sz_25)) ?_
  refine LAny.toP ?_
  refine KAV 20 rfl (.inl zr_25) (Nb rfl) rfl rfl rfl ?_
  refine KAA 7 rfl rfl rfl (Nb rfl) (by kernel_rfl) rfl (KAM (first:=[_]) rfl en_152 rfl (fun w hw=>c_F_Add V hok f bd _ _ w (hw _ (by repeat (first|exact Mh _|apply Mt))))) ?_
  rintro _ _ ⟨rfl,rfl⟩
  refine KAA 13 rfl rfl rfl (Nb rfl) (by kernel_rfl) rfl (KAM (first:=[_]) rfl en_152 rfl (fun w hw=>c_F_Add V hok f bd _ _ w (hw _ (by repeat (first|exact Mh _|apply Mt))))) ?_
  rintro _ _ ⟨rfl,rfl⟩
  refine KAA 14 rfl rfl rfl (Nb rfl) (by kernel_rfl) rfl (KAM (first:=[_]) rfl en_156 rfl (fun w hw=>c_F_Mul V hok f bd _ _ w (hw _ (by repeat (first|exact Mh _|apply Mt))) (hw _ (by repeat (first|exact Mh _|apply Mt))))) ?_
  rintro _ _ ⟨rfl,rfl⟩
  refine KAA 18 rfl rfl rfl (Nb rfl) (by kernel_rfl) rfl (KAM (first:=[_]) rfl en_152 rfl (fun w hw=>c_F_Add V hok f bd _ _ w (hw _ (by repeat (first|exact Mh _|apply Mt))))) ?_
  rintro _ _ ⟨rfl,rfl⟩
  refine KAA 19 rfl rfl rfl (Nb rfl) (by kernel_rfl) rfl (KAM (first:=[_]) rfl en_161 rfl (fun w hw=>c_F_Sub V hok f bd _ _ w (hw _ (by repeat (first|exact Mh _|apply Mt))))) ?_
  rintro _ _ ⟨rfl,rfl⟩
  refine KAb (by kernel_rfl) (fun b14=>?_)
  refine KAX ?_
  refine Ko 21 rfl rfl (by kernel_rfl) (by kernel_rfl) (KP rfl rfl sz_25 (by repeat (first|exact Kl _|exact Ky _ _ _|exact Kn _|exact Kr _ _ _|exact Kz _ _ _|exact KU|refine KS rfl ?_|refine KW ?_ ?_)) (by repeat (first|exact Sh _|apply St_)) (by first|exact KH _|exact KL _ _ _|exact KJ _|exact KV _ _ _|exact Kd _ _ _|rfl|simp [KL,KH,KJ]) ?_)
  refine Kh (by kernel_rfl) ?_
  refine KE ?_
  refine Ka [21] (by kernel_rfl) ?_
  refine KC 0 rfl (by kernel_rfl) (Nb rfl) (KD rfl) ?_
  refine KC 1 rfl (by kernel_rfl) (Nb rfl) (KD rfl) ?_
  refine KC 2 rfl (by kernel_rfl) (Nb rfl) (KD rfl) ?_
  refine KC 3 rfl (by kernel_rfl) (Nb rfl) (KM (o':=9) Try.underlying91 rfl rfl rfl sz_25 (by decide)) ?_
  refine LAny.take 4 rfl (by kernel_rfl) (Nb rfl) (KK rfl (by repeat (first|exact Mh _|apply Mt)) (by exact LoadV.mid Try.underlying25 rfl sz_25 rfl (KH _) (KH _))) ?_
  refine KC 5 rfl (by kernel_rfl) (Nb rfl) (KM (o':=18) Try.underlying91 rfl rfl rfl sz_25 (by decide)) ?_
  refine LAny.take 6 rfl (by kernel_rfl) (Nb rfl) (KK rfl (by repeat (first|exact Mh _|apply Mt)) (by exact pj_ld2 _ _ _ _ _ _)) ?_
  refine KC 8 rfl (by kernel_rfl) (Nb rfl) (KD rfl) ?_
  refine KC 9 rfl (by kernel_rfl) (Nb rfl) (KM (o':=9) Try.underlying91 rfl rfl rfl sz_25 (by decide)) ?_
  refine LAny.take 10 rfl (by kernel_rfl) (Nb rfl) (KK rfl (by repeat (first|exact Mh _|apply Mt)) (by exact LoadV.mid Try.underlying25 rfl sz_25 rfl (KH _) (KH _))) ?_
  refine KC 11 rfl (by kernel_rfl) (Nb rfl) (KM (o':=18) Try.underlying91 rfl rfl rfl sz_25 (by decide)) ?_
  refine LAny.take 12 rfl (by kernel_rfl) (Nb rfl) (KK rfl (by repeat (first|exact Mh _|apply Mt)) (by exact pj_ld2 _ _ _ _ _ _)) ?_
  refine KC 15 rfl (by kernel_rfl) (Nb rfl) (KD rfl) ?_
  refine LAny.take 16 rfl (by kernel_rfl) (Nb rfl) (KK rfl (by repeat (first|exact Mh _|apply Mt)) (by exact KO Try.underlying25 rfl sz_25)) ?_
  refine LAny.take 17 rfl (by kernel_rfl) (Nb rfl) (KK rfl (by repeat (first|exact Mh _|apply Mt)) (by exact KO Try.underlying25 rfl sz_25)) ?_
  refine LAny.toP ?_
  refine KAV 20 rfl (.inl zr_25) (Nb rfl) rfl rfl rfl ?_
  refine KAA 7 rfl rfl rfl (Nb rfl) (by kernel_rfl) rfl (KAM (first:=[_]) rfl en_152 rfl (fun w hw=>c_F_Add V hok f bd _ _ w (hw _ (by repeat (first|exact Mh _|apply Mt))))) ?_
  rintro _ _ ⟨rfl,rfl⟩
  refine KAA 13 rfl rfl rfl (Nb rfl) (by kernel_rfl) rfl (KAM (first:=[_]) rfl en_152 rfl (fun w hw=>c_F_Add V hok f bd _ _ w (hw _ (by repeat (first|exact Mh _|apply Mt))))) ?_
  rintro _ _ ⟨rfl,rfl⟩
  refine KAA 14 rfl rfl rfl (Nb rfl) (by kernel_rfl) rfl (KAM (first:=[_]) rfl en_156 rfl (fun w hw=>c_F_Mul V hok f bd _ _ w (hw _ (by repeat (first|exact Mh _|apply Mt))) (hw _ (by repeat (first|exact Mh _|apply Mt))))) ?_
  rintro _ _ ⟨rfl,rfl⟩
  refine KAA 18 rfl rfl rfl (Nb rfl) (by kernel_rfl) rfl (KAM (first:=[_]) rfl en_152 rfl (fun w hw=>c_F_Add V hok f bd _ _ w (hw _ (by repeat (first|exact Mh _|apply Mt))))) ?_
  rintro _ _ ⟨rfl,rfl⟩
  refine KAA 19 rfl rfl rfl (Nb rfl) (by kernel_rfl) rfl (KAM (first:=[_]) rfl en_161 rfl (fun w hw=>c_F_Sub V hok f bd _ _ w (hw _ (by repeat (first|exact Mh _|apply Mt))))) ?_
  rintro _ _ ⟨rfl,rfl⟩
  refine KAb (by kernel_rfl) (fun b15=>?_)
  refine KAX ?_
  refine Ko 21 rfl rfl (by kernel_rfl) (by kernel_rfl) (KP rfl rfl sz_25 (by repeat (first|exact Kl _|exact Ky _ _ _|exact Kn _|exact Kr _ _ _|exact Kz _ _ _|exact KU|refine KS rfl ?_|refine KW ?_ ?_)) (by repeat (first|exact Sh _|apply St_)) (by first|exact KH _|exact KL _ _ _|exact KJ _|exact KV _ _ _|exact Kd _ _ _|rfl|simp [KL,KH,KJ]) ?_)
  refine Kh (by kernel_rfl) ?_
  refine KE ?_
  refine Ka [18] (by kernel_rfl) ?_
  refine KC 0 rfl (by kernel_rfl) (Nb rfl) (KD rfl) ?_
  refine KC 1 rfl (by kernel_rfl) (Nb rfl) (KD rfl) ?_
  refine KC 2 rfl (by kernel_rfl) (Nb rfl) (KD rfl) ?_
  refine KC 3 rfl (by kernel_rfl) (Nb rfl) (Kb rfl) ?_
  refine KC 4 rfl (by kernel_rfl) (Nb rfl) (KM (o':=60) Try.underlying147 rfl rfl rfl sz_25 (by decide)) ?_
  refine LAny.take 5 rfl (by kernel_rfl) (Nb rfl) (Det.cast (KK rfl (by repeat (first|exact Mh _|apply Mt)) (by exact cvC_ld_t3 _ _ _ _ _ _ _ _ _ _ _ _ _ _ _ _)) (t_val hok)) ?_
  refine LAny.take 6 rfl (by kernel_rfl) (Nb rfl) (KK rfl (by repeat (first|exact Mh _|apply Mt)) (by exact KO Try.underlying25 rfl sz_25)) ?_
  refine KC 8 rfl (by kernel_rfl) (Nb rfl) (KD rfl) ?_
  refine KC 9 rfl (by kernel_rfl) (Nb rfl) (KD rfl) ?_
  refine KC 10 rfl (by kernel_rfl) (Nb rfl) (Kb rfl) ?_
  refine KC 11 rfl (by kernel_rfl) (Nb rfl) (KM (o':=0) Try.underlying147 rfl rfl rfl sz_62 (by decide)) ?_
  refine KC 12 rfl (by kernel_rfl) (Nb rfl) (KM (o':=10) Try.underlying62 rfl rfl rfl sz_25 (by decide)) ?_
  refine LAny.take 13 rfl (by kernel_rfl) (Nb rfl) (Det.cast (KK rfl (by repeat (first|exact Mh _|apply Mt)) (by exact cvC_ld_a _ _ _ _ _ _ _ _ _ _ _ _ _ _ _ _)) (a_val hok)) ?_
  refine LAny.take 14 rfl (by kernel_rfl) (Nb rfl) (KK rfl (by repeat (first|exact Mh _|apply Mt)) (by exact KO Try.underlying25 rfl sz_25)) ?_
  refine LAny.toP ?_
  refine KAV 17 rfl (.inl zr_25) (Nb rfl) rfl rfl rfl ?_
  refine KAA 7 rfl rfl rfl (Nb rfl) (by kernel_rfl) rfl (KAM (first:=[_]) rfl en_156 rfl (fun w hw=>c_F_Mul V hok f bd _ _ w (hw _ (by repeat (first|exact Mh _|apply Mt))) (hw _ (by repeat (first|exact Mh _|apply Mt))))) ?_
  rintro _ _ ⟨rfl,rfl⟩
  refine KAA 15 rfl rfl rfl (Nb rfl) (by kernel_rfl) rfl (KAM (first:=[_]) rfl en_156 rfl (fun w hw=>c_F_Mul V hok f bd _ _ w (hw _ (by repeat (first|exact Mh _|apply Mt))) (hw _ (by repeat (first|exact Mh _|apply Mt))))) ?_
  rintro _ _ ⟨rfl,rfl⟩
  refine KAA 16 rfl rfl rfl (Nb rfl) (by kernel_rfl) rfl (KAM (first:=[_]) rfl en_152 rfl (fun w hw=>c_F_Add V hok f bd _ _ w (hw _ (by repeat (first|exact Mh _|apply Mt))))) ?_
  rintro _ _ ⟨rfl,rfl⟩
  refine KAb (by kernel_rfl) (fun b16=>?_)
  refine KAX ?_
  refine Ko 18 rfl rfl (by kernel_rfl) (by kernel_rfl) (KP rfl rfl sz_25 (by repeat (first|exact Kl _|exact Ky _ _ _|exact Kn _|exact Kr _ _ _|exact Kz _ _ _|exact KU|refine KS rfl ?_|refine KW ?_ ?_)) (by repeat (first|exact Sh _|apply St_)) (by first|exact KH _|exact KL _ _ _|exact KJ _|exact KV _ _ _|exact Kd _ _ _|rfl|simp [KL,KH,KJ]) ?_)
  refine Kh (by kernel_rfl) ?_
  refine KE (KB ?_)
  refine KA (KD rfl) (Nb rfl) ?_
  refine LOps.det (KK rfl (by repeat (first|exact Mh _|apply Mt)) (by exact KO Try.underlying25 rfl sz_25)) (Nb rfl) ?_
  refine LOps.det (KK rfl (by repeat (first|exact Mh _|apply Mt)) (by exact KO Try.underlying25 rfl sz_25)) (Nb rfl) ?_
  refine KI rfl (KT (KR (first:=[_]) rfl en_161 rfl (Nb rfl) (fun w hw=>c_F_Sub V hok f bd _ _ w (hw _ (by repeat (first|exact Mh _|apply Mt)))) ?_))
  refine KI rfl (KT (KQ (Kg zr_25) (Nb rfl) (fun b17=>?_)))
  refine KI rfl (KP rfl rfl sz_25 (by repeat (first|exact Kl _|exact Ky _ _ _|exact Kn _|exact Kr _ _ _|exact Kz _ _ _|exact KU|refine KS rfl ?_|refine KW ?_ ?_)) (by repeat (first|exact Sh _|apply St_)) (by first|exact KH _|exact KL _ _ _|exact KJ _|exact KV _ _ _|exact Kd _ _ _|rfl|simp [KL,KH,KJ]) ?_)
  refine KG ?_
  refine KE (KB ?_)
  refine KA (KD rfl) (Nb rfl) ?_
  refine LOps.det (KK rfl (by repeat (first|exact Mh _|apply Mt)) (by exact KO Try.underlying25 rfl sz_25)) (Nb rfl) ?_
  refine LOps.det (KK rfl (by repeat (first|exact Mh _|apply Mt)) (by exact KO Try.underlying25 rfl sz_25)) (Nb rfl) ?_
  refine KI rfl (KT (KR (first:=[_]) rfl en_152 rfl (Nb rfl) (fun w hw=>c_F_Add V hok f bd _ _ w (hw _ (by repeat (first|exact Mh _|apply Mt)))) ?_))
  refine KI rfl (KP rfl rfl sz_25 (by repeat (first|exact Kl _|exact Ky _ _ _|exact Kn _|exact Kr _ _ _|exact Kz _ _ _|exact KU|refine KS rfl ?_|refine KW ?_ ?_)) (by repeat (first|exact Sh _|apply St_)) (by first|exact KH _|exact KL _ _ _|exact KJ _|exact KV _ _ _|exact Kd _ _ _|rfl|simp [KL,KH,KJ]) ?_)
  refine KG ?_
  refine KE (KB ?_)
  refine KA (KD rfl) (Nb rfl) ?_
  refine LOps.det (KK rfl (by repeat (first|exact Mh _|apply Mt)) (by exact KO Try.underlying25 rfl sz_25)) (Nb rfl) ?_
  refine LOps.det (KK rfl (by repeat (first|exact Mh _|apply Mt)) (by exact KO Try.underlying25 rfl sz_25)) (Nb rfl) ?_
  refine KI rfl (KT (KR (first:=[_]) rfl en_156 rfl (Nb rfl) (fun w hw=>c_F_Mul V hok f bd _ _ w (hw _ (by repeat (first|exact Mh _|apply Mt))) (hw _ (by repeat (first|exact Mh _|apply Mt)))) ?_))
  refine KI rfl (KT (KQ (Kg zr_25) (Nb rfl) (fun b18=>?_)))
  refine KI rfl (KP rfl rfl sz_25 (by repeat (first|exact Kl _|exact Ky _ _ _|exact Kn _|exact Kr _ _ _|exact Kz _ _ _|exact KU|refine KS rfl ?_|refine KW ?_ ?_)) (by repeat (first|exact Sh _|apply St_)) (by first|exact KH _|exact KL _ _ _|exact KJ _|exact KV _ _ _|exact Kd _ _ _|rfl|simp [KL,KH,KJ]) ?_)
  refine KG ?_
  refine KE ?_
  refine Ka [7] (by kernel_rfl) ?_
  refine KC 0 rfl (by kernel_rfl) (Nb rfl) (KD rfl) ?_
  refine KC 1 rfl (by kernel_rfl) (Nb rfl) (KD rfl) ?_
  refine LAny.take 2 rfl (by kernel_rfl) (Nb rfl) (KK rfl (by repeat (first|exact Mh _|apply Mt)) (by exact KO Try.underlying25 rfl sz_25)) ?_
  refine LAny.take 3 rfl (by kernel_rfl) (Nb rfl) (KK rfl (by repeat (first|exact Mh _|apply Mt)) (by exact KO Try.underlying25 rfl sz_25)) ?_
  refine LAny.take 5 rfl (by kernel_rfl) (Nb rfl) (KK rfl (by repeat (first|exact Mh _|apply Mt)) (by exact KO Try.underlying25 rfl sz_25)) ?_
  refine Kx 4 rfl rfl (by kernel_rfl) (KR (first:=[_]) rfl en_152 rfl (Nb rfl) (fun w hw=>c_F_Add V hok f bd _ _ w (hw _ (by repeat (first|exact Mh _|apply Mt)))) ?_)
  refine Kx 6 rfl rfl (by kernel_rfl) (KR (first:=[_]) rfl en_152 rfl (Nb rfl) (fun w hw=>c_F_Add V hok f bd _ _ w (hw _ (by repeat (first|exact Mh _|apply Mt)))) ?_)
  refine Ko 7 rfl rfl (by kernel_rfl) (by kernel_rfl) (KP rfl rfl sz_25 (by repeat (first|exact Kl _|exact Ky _ _ _|exact Kn _|exact Kr _ _ _|exact Kz _ _ _|exact KU|refine KS rfl ?_|refine KW ?_ ?_)) (by repeat (first|exact Sh _|apply St_)) (by first|exact KH _|exact KL _ _ _|exact KJ _|exact KV _ _ _|exact Kd _ _ _|rfl|simp [KL,KH,KJ]) ?_)
  refine Kh (by kernel_rfl) ?_
  refine KE ?_
  refine Ka [8] (by kernel_rfl) ?_
  refine KC 0 rfl (by kernel_rfl) (Nb rfl) (KD rfl) ?_
  refine KC 1 rfl (by kernel_rfl) (Nb rfl) (KD rfl) ?_
  refine KC 2 rfl (by kernel_rfl) (Nb rfl) (Kb rfl) ?_
  refine KC 3 rfl (by kernel_rfl) (Nb rfl) (KM (o':=0) Try.underlying147 rfl rfl rfl sz_62 (by decide)) ?_
  refine KC 4 rfl (by kernel_rfl) (Nb rfl) (KM (o':=10) Try.underlying62 rfl rfl rfl sz_25 (by decide)) ?_
  refine LAny.take 5 rfl (by kernel_rfl) (Nb rfl) (Det.cast (KK rfl (by repeat (first|exact Mh _|apply Mt)) (by exact cvC_ld_a _ _ _ _ _ _ _ _ _ _ _ _ _ _ _ _)) (a_val hok)) ?_
  refine LAny.take 6 rfl (by kernel_rfl) (Nb rfl) (KK rfl (by repeat (first|exact Mh _|apply Mt)) (by exact KO Try.underlying25 rfl sz_25)) ?_
  refine Kx 7 rfl rfl (by kernel_rfl) (KR (first:=[_]) rfl en_156 rfl (Nb rfl) (fun w hw=>c_F_Mul V hok f bd _ _ w (hw _ (by repeat (first|exact Mh _|apply Mt))) (hw _ (by repeat (first|exact Mh _|apply Mt)))) ?_)
  refine Ko 8 rfl rfl (by kernel_rfl) (by kernel_rfl) (KP rfl rfl sz_25 (by repeat (first|exact Kl _|exact Ky _ _ _|exact Kn _|exact Kr _ _ _|exact Kz _ _ _|exact KU|refine KS rfl ?_|refine KW ?_ ?_)) (by repeat (first|exact Sh _|apply St_)) (by first|exact KH _|exact KL _ _ _|exact KJ _|exact KV _ _ _|exact Kd _ _ _|rfl|simp [KL,KH,KJ]) ?_)
  refine Kh (by kernel_rfl) ?_
  refine KE ?_
  refine Ka [7] (by kernel_rfl) ?_
  refine KC 0 rfl (by kernel_rfl) (Nb rfl) (KD rfl) ?_
  refine KC 1 rfl (by kernel_rfl) (Nb rfl) (KD rfl) ?_
  refine KC 2 rfl (by kernel_rfl) (Nb rfl) (Kb rfl) ?_
  refine KC 3 rfl (by kernel_rfl) (Nb rfl) (KM (o':=60) Try.underlying147 rfl rfl rfl sz_25 (by decide)) ?_
  refine LAny.take 4 rfl (by kernel_rfl) (Nb rfl) (Det.cast (KK rfl (by repeat (first|exact Mh _|apply Mt)) (by exact cvC_ld_t3 _ _ _ _ _ _ _ _ _ _ _ _ _ _ _ _)) (t_val hok)) ?_
  refine LAny.take 5 rfl (by kernel_rfl) (Nb rfl) (KK rfl (by repeat (first|exact Mh _|apply Mt)) (by exact KO Try.underlying25 rfl sz_25)) ?_
  refine Kx 6 rfl rfl (by kernel_rfl) (KR (first:=[_]) rfl en_156 rfl (Nb rfl) (fun w hw=>c_F_Mul V hok f bd _ _ w (hw _ (by repeat (first|exact Mh _|apply Mt))) (hw _ (by repeat (first|exact Mh _|apply Mt)))) ?_)
  refine Ko 7 rfl rfl (by kernel_rfl) (by kernel_rfl) (KP rfl rfl sz_25 (by repeat (first|exact Kl _|exact Ky _ _ _|exact Kn _|exact Kr _ _ _|exact Kz _ _ _|exact KU|refine KS rfl ?_|refine KW ?_ ?_)) (by repeat (first|exact Sh _|apply St_)) (by first|exact KH _|exact KL _ _ _|exact KJ _|exact KV _ _ _|exact Kd _ _ _|rfl|simp [KL,KH,KJ]) ?_)
  refine Kh (by kernel_rfl) ?_
  refine KE (KB ?_)
  refine KA (KD rfl) (Nb rfl) ?_
  refine LOps.det (KK rfl (by repeat (first|exact Mh _|apply Mt)) (by exact KO Try.underlying25 rfl sz_25)) (Nb rfl) ?_
  refine LOps.det (KK rfl (by repeat (first|exact Mh _|apply Mt)) (by exact KO Try.underlying25 rfl sz_25)) (Nb rfl) ?_
  refine KI rfl (KT (KR (first:=[_]) rfl en_152 rfl (Nb rfl) (fun w hw=>c_F_Add V hok f bd _ _ w (hw _ (by repeat (first|exact Mh _|apply Mt)))) ?_))
  refine KI rfl (KP rfl rfl sz_25 (by repeat (first|exact Kl _|exact Ky _ _ _|exact Kn _|exact Kr _ _ _|exact Kz _ _ _|exact KU|refine KS rfl ?_|refine KW ?_ ?_)) (by repeat (first|exact Sh _|apply St_)) (by first|exact KH _|exact KL _ _ _|exact KJ _|exact KV _ _ _|exact Kd _ _ _|rfl|simp [KL,KH,KJ]) ?_)
  refine KG ?_
  refine KE ?_
  refine Ka [11] (by kernel_rfl) ?_
  refine KC 0 rfl (by kernel_rfl) (Nb rfl) (KD rfl) ?_
  refine KC 1 rfl (by kernel_rfl) (Nb rfl) (KD rfl) ?_
  refine KC 2 rfl (by kernel_rfl) (Nb rfl) (Kb rfl) ?_
  refine KC 3 rfl (by kernel_rfl) (Nb rfl) (KM (o':=0) Try.underlying147 rfl rfl rfl sz_62 (by decide)) ?_
  refine KC 4 rfl (by kernel_rfl) (Nb rfl) (KM (o':=10) Try.underlying62 rfl rfl rfl sz_25 (by decide)) ?_
  refine LAny.take 5 rfl (by kernel_rfl) (Nb rfl) (Det.cast (KK rfl (by repeat (first|exact Mh _|apply Mt)) (by exact cvC_ld_a _ _ _ _ _ _ _ _ _ _ _ _ _ _ _ _)) (a_val hok)) ?_
  refine KC 6 rfl (by kernel_rfl) (Nb rfl) (KD rfl) ?_
  refine LAny.take 7 rfl (by kernel_rfl) (Nb rfl) (KK rfl (by repeat (first|exact Mh _|apply Mt)) (by exact KO Try.underlying25 rfl sz_25)) ?_
  refine LAny.take 8 rfl (by kernel_rfl) (Nb rfl) (KK rfl (by repeat (first|exact Mh _|apply Mt)) (by exact KO Try.underlying25 rfl sz_25)) ?_
  refine Kx 9 rfl rfl (by kernel_rfl) (KR (first:=[_]) rfl en_161 rfl (Nb rfl) (fun w hw=>c_F_Sub V hok f bd _ _ w (hw _ (by repeat (first|exact Mh _|apply Mt)))) ?_)
  refine Kx 10 rfl rfl (by kernel_rfl) (KR (first:=[_]) rfl en_156 rfl (Nb rfl) (fun w hw=>c_F_Mul V hok f bd _ _ w (hw _ (by repeat (first|exact Mh _|apply Mt))) (hw _ (by repeat (first|exact Mh _|apply Mt)))) ?_)
  refine Ko 11 rfl rfl (by kernel_rfl) (by kernel_rfl) (KP rfl rfl sz_25 (by repeat (first|exact Kl _|exact Ky _ _ _|exact Kn _|exact Kr _ _ _|exact Kz _ _ _|exact KU|refine KS rfl ?_|refine KW ?_ ?_)) (by repeat (first|exact Sh _|apply St_)) (by first|exact KH _|exact KL _ _ _|exact KJ _|exact KV _ _ _|exact Kd _ _ _|rfl|simp [KL,KH,KJ]) ?_)
  refine Kh (by kernel_rfl) ?_
  refine KE (KB ?_)
  refine KA (KD rfl) (Nb rfl) ?_
  refine LOps.det (KK rfl (by repeat (first|exact Mh _|apply Mt)) (by exact KO Try.underlying25 rfl sz_25)) (Nb rfl) ?_
  refine LOps.det (KK rfl (by repeat (first|exact Mh _|apply Mt)) (by exact KO Try.underlying25 rfl sz_25)) (Nb rfl) ?_
  refine KI rfl (KT (KR (first:=[_]) rfl en_152 rfl (Nb rfl) (fun w hw=>c_F_Add V hok f bd _ _ w (hw _ (by repeat (first|exact Mh _|apply Mt)))) ?_))
  refine KI rfl (KP rfl rfl sz_25 (by repeat (first|exact Kl _|exact Ky _ _ _|exact Kn _|exact Kr _ _ _|exact Kz _ _ _|exact KU|refine KS rfl ?_|refine KW ?_ ?_)) (by repeat (first|exact Sh _|apply St_)) (by first|exact KH _|exact KL _ _ _|exact KJ _|exact KV _ _ _|exact Kd _ _ _|rfl|simp [KL,KH,KJ]) ?_)
  refine KG ?_
  refine KE ?_
  refine Ka [7] (by kernel_rfl) ?_
  refine KC 0 rfl (by kernel_rfl) (Nb rfl) (KD rfl) ?_
  refine LAny.take 1 rfl (by kernel_rfl) (Nb rfl) (KK rfl (by repeat (first|exact Mh _|apply Mt)) (by exact KO Try.underlying25 rfl sz_25)) ?_
  refine KC 2 rfl (by kernel_rfl) (Nb rfl) (KD rfl) ?_
  refine LAny.take 3 rfl (by kernel_rfl) (Nb rfl) (KK rfl (by repeat (first|exact Mh _|apply Mt)) (by exact KO Try.underlying25 rfl sz_25)) ?_
  refine LAny.take 4 rfl (by kernel_rfl) (Nb rfl) (KK rfl (by repeat (first|exact Mh _|apply Mt)) (by exact KO Try.underlying25 rfl sz_25)) ?_
  refine Kx 5 rfl rfl (by kernel_rfl) (KR (first:=[_]) rfl en_156 rfl (Nb rfl) (fun w hw=>c_F_Mul V hok f bd _ _ w (hw _ (by repeat (first|exact Mh _|apply Mt))) (hw _ (by repeat (first|exact Mh _|apply Mt)))) ?_)
  refine Kx 6 rfl rfl (by kernel_rfl) (KR (first:=[_]) rfl en_152 rfl (Nb rfl) (fun w hw=>c_F_Add V hok f bd _ _ w (hw _ (by repeat (first|exact Mh _|apply Mt)))) ?_)
  refine Ko 7 rfl rfl (by kernel_rfl) (by kernel_rfl) (KP rfl rfl sz_25 (by repeat (first|exact Kl _|exact Ky _ _ _|exact Kn _|exact Kr _ _ _|exact Kz _ _ _|exact KU|refine KS rfl ?_|refine KW ?_ ?_)) (by repeat (first|exact Sh _|apply St_)) (by first|exact KH _|exact KL _ _ _|exact KJ _|exact KV _ _ _|exact Kd _ _ _|rfl|simp [KL,KH,KJ]) ?_)
  refine Kh (by kernel_rfl) ?_
  refine KE ?_
  refine Ka [10] (by kernel_rfl) ?_
  refine KC 0 rfl (by kernel_rfl) (Nb rfl) (KD rfl) ?_
  refine KC 1 rfl (by kernel_rfl) (Nb rfl) (KD rfl) ?_
  refine LAny.take 2 rfl (by kernel_rfl) (Nb rfl) (KK rfl (by repeat (first|exact Mh _|apply Mt)) (by exact KO Try.underlying25 rfl sz_25)) ?_
  refine LAny.take 3 rfl (by kernel_rfl) (Nb rfl) (KK rfl (by repeat (first|exact Mh _|apply Mt)) (by exact KO Try.underlying25 rfl sz_25)) ?_
  refine KC 5 rfl (by kernel_rfl) (Nb rfl) (KD rfl) ?_
  refine LAny.take 6 rfl (by kernel_rfl) (Nb rfl) (KK rfl (by repeat (first|exact Mh _|apply Mt)) (by exact KO Try.underlying25 rfl sz_25)) ?_
  refine LAny.take 7 rfl (by kernel_rfl) (Nb rfl) (KK rfl (by repeat (first|exact Mh _|apply Mt)) (by exact KO Try.underlying25 rfl sz_25)) ?_
  refine Kx 4 rfl rfl (by kernel_rfl) (KR (first:=[_]) rfl en_156 rfl (Nb rfl) (fun w hw=>c_F_Mul V hok f bd _ _ w (hw _ (by repeat (first|exact Mh _|apply Mt))) (hw _ (by repeat (first|exact Mh _|apply Mt)))) ?_)
  refine Kx 8 rfl rfl (by kernel_rfl) (KR (first:=[_]) rfl en_156 rfl (Nb rfl) (fun w hw=>c_F_Mul V hok f bd _ _ w (hw _ (by repeat (first|exact Mh _|apply Mt))) (hw _ (by repeat (first|exact Mh _|apply Mt)))) ?_)
  refine Kx 9 rfl rfl (by kernel_rfl) (KR (first:=[_]) rfl en_161 rfl (Nb rfl) (fun w hw=>c_F_Sub V hok f bd _ _ w (hw _ (by repeat (first|exact Mh _|apply Mt)))) ?_)
  refine Ko 10 rfl rfl (by kernel_rfl) (by kernel_rfl) (KP rfl rfl sz_25 (by repeat (first|exact Kl _|exact Ky _ _ _|exact Kn _|exact Kr _ _ _|exact Kz _ _ _|exact KU|refine KS rfl ?_|refine KW ?_ ?_)) (by repeat (first|exact Sh _|apply St_)) (by first|exact KH _|exact KL _ _ _|exact KJ _|exact KV _ _ _|exact Kd _ _ _|rfl|simp [KL,KH,KJ]) ?_)
  refine Kh (by kernel_rfl) ?_
  refine KE ?_
  refine Ka [10] (by kernel_rfl) ?_
  refine KC 0 rfl (by kernel_rfl) (Nb rfl) (KD rfl) ?_
  refine KC 1 rfl (by kernel_rfl) (Nb rfl) (KD rfl) ?_
  refine LAny.take 2 rfl (by kernel_rfl) (Nb rfl) (KK rfl (by repeat (first|exact Mh _|apply Mt)) (by exact KO Try.underlying25 rfl sz_25)) ?_
  refine LAny.take 3 rfl (by kernel_rfl) (Nb rfl) (KK rfl (by repeat (first|exact Mh _|apply Mt)) (by exact KO Try.underlying25 rfl sz_25)) ?_
  refine KC 5 rfl (by kernel_rfl) (Nb rfl) (KD rfl) ?_
  refine LAny.take 6 rfl (by kernel_rfl) (Nb rfl) (KK rfl (by repeat (first|exact Mh _|apply Mt)) (by exact KO Try.underlying25 rfl sz_25)) ?_
  refine LAny.take 7 rfl (by kernel_rfl) (Nb rfl) (KK rfl (by repeat (first|exact Mh _|apply Mt)) (by exact KO Try.underlying25 rfl sz_25)) ?_
  refine Kx 4 rfl rfl (by kernel_rfl) (KR (first:=[_]) rfl en_156 rfl (Nb rfl) (fun w hw=>c_F_Mul V hok f bd _ _ w (hw _ (by repeat (first|exact Mh _|apply Mt))) (hw _ (by repeat (first|exact Mh _|apply Mt)))) ?_)
  refine Kx 8 rfl rfl (by kernel_rfl) (KR (first:=[_]) rfl en_156 rfl (Nb rfl) (fun w hw=>c_F_Mul V hok f bd _ _ w (hw _ (by repeat (first|exact Mh _|apply Mt))) (hw _ (by repeat (first|exact Mh _|apply Mt)))) ?_)
  refine Kx 9 rfl rfl (by kernel_rfl) (KR (first:=[_]) rfl en_152 rfl (Nb rfl) (fun w hw=>c_F_Add V hok f bd _ _ w (hw _ (by repeat (first|exact Mh _|apply Mt)))) ?_)
  refine Ko 10 rfl rfl (by kernel_rfl) (by kernel_rfl) (KP rfl rfl sz_25 (by repeat (first|exact Kl _|exact Ky _ _ _|exact Kn _|exact Kr _ _ _|exact Kz _ _ _|exact KU|refine KS rfl ?_|refine KW ?_ ?_)) (by repeat (first|exact Sh _|apply St_)) (by first|exact KH _|exact KL _ _ _|exact KJ _|exact KV _ _ _|exact Kd _ _ _|rfl|simp [KL,KH,KJ]) ?_)
  refine Kh (by kernel_rfl) ?_
  refine KE (KB ?_)
  refine LOps.det (KK rfl (by repeat (first|exact Mh _|apply Mt)) (by exact KO Try.underlying25 rfl sz_25)) (Nb rfl) ?_
  refine LOps.det (KK rfl (by repeat (first|exact Mh _|apply Mt)) (by exact KO Try.underlying25 rfl sz_25)) (Nb rfl) ?_
  refine LOps.det (KK rfl (by repeat (first|exact Mh _|apply Mt)) (by exact KO Try.underlying25 rfl sz_25)) (Nb rfl) ?_
  refine KA (KY (KAQ pl_91 zr_91 rfl (fill_pj _ _ _)) rfl) (Nb rfl) ?_
  refine KI rfl (KP rfl rfl sz_91 (by repeat (first|exact Kl _|exact Ky _ _ _|exact Kn _|exact Kr _ _ _|exact Kz _ _ _|exact KU|refine KS rfl ?_|refine KW ?_ ?_)) (by repeat (first|exact Sh _|apply St_)) (by first|exact KH _|exact KL _ _ _|exact KJ _|exact KV _ _ _|exact Kd _ _ _|rfl|simp [KL,KH,KJ]) ?_)
  refine KG (KZ ?_)
  refine ⟨[_],.cons ⟨_,_,_,rfl,(by repeat (first|exact Mh _|apply Mt)),by exact KO Try.underlying91 rfl sz_91⟩ .nil,fun a w' hr=>⟨?_,hr.fr.below⟩⟩
  rfl
end Go.Proofs.Ytljblbgogjieaaa
set_option linter.unusedVariables false
set_option linter.unusedSimpArgs false
set_option maxRecDepth 20000
namespace Go.Proofs.Ytljblbgogjieaaa
open Go Go.RowKit
open Grp
theorem pm_top (V:Cv) (P:Pt V.p) (K:Nat):pmul V.A P (K/2^blen K) = .inf:=by rw [Nat.div_eq_of_lt (lt_blen K)]; rfl
theorem pm_T {V:Cv} (hok:V.Ok) {P:Pt V.p} (hP:On V.A V.B P) {K y:Nat} (h:K/2^y%2 = 1):padd V.A (padd V.A (pmul V.A P (K/2^(y+1))) (pmul V.A P (K/2^(y+1)))) P = pmul V.A P (K/2^y):=by
  have:=pmul_bit hok.crv hP K y
  rwa [if_pos h] at this
theorem pm_F {V:Cv} (hok:V.Ok) {P:Pt V.p} (hP:On V.A V.B P) {K y:Nat} (h:¬ K/2^y%2 = 1):padd V.A (pmul V.A P (K/2^(y+1))) (pmul V.A P (K/2^(y+1))) = pmul V.A P (K/2^y):=by
  have:=pmul_bit hok.crv hP K y
  rwa [if_neg h] at this
theorem c_r_Times (Q:CQ) (V:Cv) (qk:NV) (K:Nat) (q r:NV) (P R:Pt V.p) (w:World) (hc:(crvI Q V).holds w) (hok:V.Ok) (hk:(numT qk K).holds w) (hK:D.nw K≤1000) (hq:(numT q (xv P)).holds w) (hr:(numT r (yv P)).holds w) (hP:On V.A V.B P) (hR:pmul V.A P K = R):Calls Try.prog 64 ([.agg (crvL Q V).toArray,numV qk K,rpV (numV q (xv P)) (numV r (yv P)) (iv P)]:List Value).toArray w (fun e w'=>Num2R w (fp2 q r P []) (xv R) (yv R) (fun u v=>rpV u v (iv R)) e w'):=by
  obtain ⟨hb5,hb521,hba,hbb,hbx,hby,hbn,hbo,hbo2,hbb1,hbn1⟩:=hok.bounds
  have hsz:=hok.sz
  have hsp:=hsz.p
  have hsa:=hsz.a
  have hsb:=hsz.b
  have hp0:V.p≠0:=by omega
  have hpp:0<V.p:=by omega
  have hm17:∀ k,D.nw (k%V.p)≤17:=fun k=>Nat.le_trans (D.nw_mono (Nat.le_of_lt (Nat.mod_lt k hpp))) hsp
  refine KAC (N:=30) (rs:=[.cell 6 73]) [crvI Q V,numT qk K,numT q (xv P),numT r (yv P)] Try.func64 rfl Try.ntmps64 Try.results64 (Nb rfl) ⟨hc,hk,hq,hr,trivial⟩ rfl ?_
  show LCode _ _ _ ⟨_,_⟩ _
  refine KE (KB ?_)
  refine KI rfl (KT (KQ (Ku rfl) (Nb rfl) (fun b3=>?_)))
  refine KI rfl (KT (KQ (Ku rfl) (Nb rfl) (fun b5=>?_)))
  refine KI rfl (KT (KQ (Kg zr_73) (Nb rfl) (fun b6=>?_)))
  refine KG ?_
  refine KE (KB ?_)
  refine KA (KY (KAQ pl_73 zr_73 rfl rfl) (show _ = rpV (.slice none 0 0) (.slice none 0 0) (true) from rfl)) (Nb rfl) ?_
  refine KI rfl (KT (KQ (Kg zr_73) (Nb rfl) (fun b7=>?_)))
  refine KI rfl (KP rfl rfl sz_73 (by repeat (first|exact KU|refine KS rfl ?_)) (by repeat (first|exact Sh _|apply St_)) (by rfl) ?_)
  refine KG ?_
  refine KE ?_
  refine KE ?_
  have hbk:=blen_nw K
  refine LCode.zeroNum ?_
  refine LCode.zeroNum ?_
  refine KB ?_
  refine KA (KD rfl) (Nb rfl) ?_
  refine KI rfl (KT (KR (first:=[]) rfl en_76 rfl (Nb rfl) (fun w hw=>c_n_Bits qk K w (hw _ (by repeat (first|exact Mh _|apply Mt))) (by omega)) ?_))
  refine KA (KN (v:=.int .i64 (((blen K:Nat):Int)-1)) rfl rfl (br_subI (by omega) (by omega))) (Nb rfl) ?_
  refine KA (KF rfl) (Nb rfl) ?_
  refine KG ?_
  refine LCode.block ?_
  refine KAN (α:=Nat×NV×NV) (fun x=>x.1≤blen K∧NFr w.heap.size (fp2 q r P []) x.2.1 (D.nw (xv (pmul V.A P (K/2^x.1))))∧NFr w.heap.size (fp2 q r P []) x.2.2 (D.nw (yv (pmul V.A P (K/2^x.1))))) (fun x=>⟨[(1,numV qk K),(3,.pointer (some ⟨b3,0,none⟩)),(5,.pointer (some ⟨b5,0,none⟩)),(6,.pointer (some ⟨b6,0,none⟩)),(7,.pointer (some ⟨b7,0,none⟩)),(8,.int .i64 (((x.1:Nat):Int)-1))],[.blk b7 ⟨true,rpL (numV x.2.1 (xv (pmul V.A P (K/2^x.1)))) (numV x.2.2 (yv (pmul V.A P (K/2^x.1)))) (iv (pmul V.A P (K/2^x.1))),73,(0,0)⟩,.blk b6 ⟨true,[.slice none 0 0,.slice none 0 0,.bool false],73,(0,0)⟩,.blk b5 ⟨true,rpL (numV q (xv P)) (numV r (yv P)) (iv P),73,(0,0)⟩,.blk b3 ⟨true,crvL Q V,31,(0,0)⟩,numT x.2.1 (xv (pmul V.A P (K/2^x.1))),numT x.2.2 (yv (pmul V.A P (K/2^x.1))),crvI Q V,numT qk K,numT q (xv P),numT r (yv P)]⟩) (fun x=>x.1) ((blen K,⟨true,0,0⟩,⟨true,0,0⟩)) (⟨Nat.le_refl _,by dsimp only; rw [pm_top]; exact nfr_zero _ _,by dsimp only; rw [pm_top]; exact nfr_zero _ _⟩) (by dsimp only; rw [pm_top]; exact KAo (Sub.cells (b:=b7) (cs':=rpL (numV ⟨true,0,0⟩ (xv (Pt.inf:Pt V.p))) (numV ⟨true,0,0⟩ (yv (Pt.inf:Pt V.p))) (iv (Pt.inf:Pt V.p))) (by repeat (first|exact Sh _|apply St_)) rp_nil) (KAH ⟨rfl,rfl,rfl,rfl,rfl,rfl,trivial⟩ (by repeat (first|exact Sel.nil _|refine Sel.cons (by repeat (first|exact Ph _|apply Pt_)) ?_)))) ?_
  rintro x ⟨hx1,hx2,hx3⟩
  refine KE ?_
  refine KE ?_
  rcases Nat.eq_zero_or_pos x.1 with h0|h0
  ·
    refine KB ?_
    refine KA (KD rfl) (Nb rfl) ?_
    refine KA (KN (v:=.bool false) rfl rfl (by rw [h0]; rfl)) (Nb rfl) ?_
    refine KG ?_
    refine Km rfl ?_
    refine KAJ ?_
    refine KE ?_
    have eR:pmul V.A P (K/2^x.1) = R:=by rw [h0,Nat.pow_zero,Nat.div_one]; exact hR
    rw [eR] at hx2 hx3 ⊢
    refine KB ?_
    refine LOps.det (KK rfl (by repeat (first|exact Mh _|apply Mt)) (by exact KO Try.underlying73 rfl sz_73)) (Nb rfl) ?_
    refine KI rfl (KP rfl rfl sz_73 (by repeat (first|exact KU|refine KS rfl ?_)) (by repeat (first|exact Sh _|apply St_)) (by rfl) ?_)
    refine KG (KZ ?_)
    refine ⟨[_],.cons ⟨_,_,_,rfl,(by repeat (first|exact Mh _|apply Mt)),by exact KO Try.underlying73 rfl sz_73⟩ .nil,fun a w' hr=>hr.num2Q (by repeat (first|exact Mh _|apply Mt)) hx2 (by repeat (first|exact Mh _|apply Mt)) hx3⟩
  ·
    obtain ⟨y,hy⟩:∃ y,x.1 = y+1:=⟨x.1-1,by omega⟩
    rw [hy] at hx2 hx3 ⊢
    refine KB ?_
    refine KA (KD rfl) (Nb rfl) ?_
    refine KA (KN (v:=.bool true) rfl rfl (by simp [KAT] <;> omega)) (Nb rfl) ?_
    refine KG ?_
    refine Kt rfl ?_
    refine Kf ?_
    refine KE ?_
    refine LCode.block ?_
    refine KE (KB ?_)
    refine LOps.det (KK rfl (by repeat (first|exact Mh _|apply Mt)) (by exact KO Try.underlying31 rfl sz_31)) (Nb rfl) ?_
    refine LOps.det (KK rfl (by repeat (first|exact Mh _|apply Mt)) (by exact KO Try.underlying73 rfl sz_73)) (Nb rfl) ?_
    refine LOps.det (KK rfl (by repeat (first|exact Mh _|apply Mt)) (by exact KO Try.underlying73 rfl sz_73)) (Nb rfl) ?_
    refine KI rfl (KT (Kw (first:=[]) rfl en_79 rfl (Nb rfl) (fun w hw hs=>(c_r_Plus Q V x.2.1 x.2.2 x.2.1 x.2.2 (pmul V.A P (K/2^(y+1))) (pmul V.A P (K/2^(y+1))) (padd V.A (pmul V.A P (K/2^(y+1))) (pmul V.A P (K/2^(y+1)))) w (hw _ (by repeat (first|exact Mh _|apply Mt))) hok (hw _ (by repeat (first|exact Mh _|apply Mt))) (hw _ (by repeat (first|exact Mh _|apply Mt))) (hw _ (by repeat (first|exact Mh _|apply Mt))) (hw _ (by repeat (first|exact Mh _|apply Mt))) (hok.mul hP _) (hok.mul hP _) rfl).mono fun e w' h=>Num2R.q (Old.pt (by repeat (first|exact Mh _|apply Mt)) (by repeat (first|exact Mh _|apply Mt)) (Old.pt (by repeat (first|exact Mh _|apply Mt)) (by repeat (first|exact Mh _|apply Mt)) (Old.nil _))) hs h) ?_))
    rintro _ _ ⟨qda,qdb,rfl,rfl,hnda,hndb⟩
    refine KI rfl (KP rfl rfl sz_73 (by repeat (first|exact KU|refine KS rfl ?_)) (by repeat (first|exact Sh _|apply St_)) (by rfl) ?_)
    refine KG ?_
    refine KE (KB ?_)
    refine KA (KD rfl) (Nb rfl) ?_
    refine KA (KD (v:=.int .i64 ((y:Nat):Int)) (by show some _ = some _; congr 2; omega)) (Nb rfl) ?_
    refine KI rfl (KT (KR (first:=[]) rfl en_69 rfl (Nb rfl) (fun w hw=>c_n_Bit qk K (D.nw K) y w (hw _ (by repeat (first|exact Mh _|apply Mt))) (by omega)) ?_))
    refine KA (KN rfl rfl (br_eql (b:=1))) (Nb rfl) ?_
    refine KG ?_
    first|refine Kc rfl (fun hbit=>?_) (fun hbit=>?_)|refine Ke rfl (fun hbit=>?_) (fun hbit=>?_)
    ·
      have hbit:K/2^y%2 = 1:=hbit
      refine KB ?_
      refine LOps.det (KK rfl (by repeat (first|exact Mh _|apply Mt)) (by exact KO Try.underlying31 rfl sz_31)) (Nb rfl) ?_
      refine LOps.det (KK rfl (by repeat (first|exact Mh _|apply Mt)) (by exact KO Try.underlying73 rfl sz_73)) (Nb rfl) ?_
      refine LOps.det (KK rfl (by repeat (first|exact Mh _|apply Mt)) (by exact KO Try.underlying73 rfl sz_73)) (Nb rfl) ?_
      refine KI rfl (KT (Kw (first:=[]) rfl en_79 rfl (Nb rfl) (fun w hw hs=>(c_r_Plus Q V qda qdb q r (padd V.A (pmul V.A P (K/2^(y+1))) (pmul V.A P (K/2^(y+1)))) P (pmul V.A P (K/2^y)) w (hw _ (by repeat (first|exact Mh _|apply Mt))) hok (hw _ (by repeat (first|exact Mh _|apply Mt))) (hw _ (by repeat (first|exact Mh _|apply Mt))) (hw _ (by repeat (first|exact Mh _|apply Mt))) (hw _ (by repeat (first|exact Mh _|apply Mt))) (hok.sum (hok.mul hP _) (hok.mul hP _)) hP (pm_T hok hP hbit)).mono fun e w' h=>Num2R.q (Old.pt (by repeat (first|exact Mh _|apply Mt)) (by repeat (first|exact Mh _|apply Mt)) (Old.pt (by repeat (first|exact Mh _|apply Mt)) (by repeat (first|exact Mh _|apply Mt)) (Old.nil _))) hs h) ?_))
      rintro _ _ ⟨qea,qeb,rfl,rfl,hnea,hneb⟩
      refine KI rfl (KP rfl rfl sz_73 (by repeat (first|exact KU|refine KS rfl ?_)) (by repeat (first|exact Sh _|apply St_)) (by rfl) ?_)
      refine KG ?_
      refine KB ?_
      refine KA (KD (v:=.int .i64 ((y:Nat):Int)) (by show some _ = some _; congr 2; omega)) (Nb rfl) ?_
      refine KA (KN (v:=.int .i64 (((y:Nat):Int)-1)) rfl rfl (br_subI (by omega) (by omega))) (Nb rfl) ?_
      refine KA (KF rfl) (Nb rfl) ?_
      refine KG ?_
      exact ⟨(y,qea,qeb),⟨by dsimp only; omega,NFr.two hnea (NFr.two hnda hx2 hx3 hx2 hx3) (NFr.two hndb hx2 hx3 hx2 hx3) (fp2_q _) (fp2_r _),NFr.two hneb (NFr.two hnda hx2 hx3 hx2 hx3) (NFr.two hndb hx2 hx3 hx2 hx3) (fp2_q _) (fp2_r _)⟩,by dsimp only; omega,KAH ⟨rfl,rfl,rfl,rfl,rfl,rfl,trivial⟩ (by repeat (first|exact Sel.nil _|refine Sel.cons (by repeat (first|exact Ph _|apply Pt_)) ?_))⟩
    ·
      have hbit:¬ K/2^y%2 = 1:=hbit
      refine Kf ?_
      refine KB ?_
      refine KA (KD (v:=.int .i64 ((y:Nat):Int)) (by show some _ = some _; congr 2; omega)) (Nb rfl) ?_
      refine KA (KN (v:=.int .i64 (((y:Nat):Int)-1)) rfl rfl (br_subI (by omega) (by omega))) (Nb rfl) ?_
      refine KA (KF rfl) (Nb rfl) ?_
      refine KG ?_
      rw [pm_F hok hP hbit] at hnda hndb ⊢
      exact ⟨(y,qda,qdb),⟨by dsimp only; omega,NFr.two hnda hx2 hx3 hx2 hx3,NFr.two hndb hx2 hx3 hx2 hx3⟩,by dsimp only; omega,KAH ⟨rfl,rfl,rfl,rfl,rfl,rfl,trivial⟩ (by repeat (first|exact Sel.nil _|refine Sel.cons (by repeat (first|exact Ph _|apply Pt_)) ?_))⟩
def sumT (V:Cv) (T U:Fin V.p×Fin V.p×Fin V.p):Fin V.p×Fin V.p×Fin V.p:=sum3 V.A (V.B+V.B+V.B) T.1 T.2.1 T.2.2 U.1 U.2.1 U.2.2
structure RepT (V:Cv) (T:Fin V.p×Fin V.p×Fin V.p) (P:Pt V.p):Prop where
  rep:Rep T.1 T.2.1 T.2.2 P
  on:On V.A V.B P
theorem RepT.sum {V:Cv} (hok:V.Ok) {T U:Fin V.p×Fin V.p×Fin V.p} {P R:Pt V.p} (h:RepT V T P) (k:RepT V U R):RepT V (sumT V T U) (padd V.A P R):=⟨hok.rep_sum h.rep k.rep h.on k.on,hok.sum h.on k.on⟩
theorem RepT.trip {V:Cv} (hok:V.Ok) {P:Pt V.p} (hP:On V.A V.B P):RepT V (tripF P) P:=⟨hok.rep_trip P,hP⟩
theorem c_SumT (V:Cv) (b f bd:Nat) (hok:V.Ok) (T U:Fin V.p×Fin V.p×Fin V.p) (w:World) (hb:(Item.blk b ⟨false,opL V f,147,(0,0)⟩).holds w) (hf:(Item.blk f ⟨false,fldL V.p bd,194,(0,0)⟩).holds w) (hbd:(Item.blk bd ⟨false,dvL V.p,241,(0,0)⟩).holds w):Calls Try.prog 128 ([.pointer (some ⟨b,0,none⟩),pjF T,pjF U]:List Value).toArray w (fun e w'=>e = .returned (pjF (sumT V T U))∧Below w.heap.size w w') :=
  c_Sum V b f bd hok T.1 T.2.1 T.2.2 U.1 U.2.1 U.2.2 w hb hf hbd
theorem c_PlainT (V:Cv) (b f bd:Nat) (hok:V.Ok) (T:Fin V.p×Fin V.p×Fin V.p) (P:Pt V.p) (w:World) (hb:(Item.blk b ⟨false,opL V f,147,(0,0)⟩).holds w) (hf:(Item.blk f ⟨false,fldL V.p bd,194,(0,0)⟩).holds w) (hbd:(Item.blk bd ⟨false,dvL V.p,241,(0,0)⟩).holds w) (h:RepT V T P):Calls Try.prog 127 ([.pointer (some ⟨b,0,none⟩),pjF T]:List Value).toArray w (fun e w'=>e = .returned (ptP P)∧Below w.heap.size w w'):=by
  have:=c_Plain V b f bd hok T.1 T.2.1 T.2.2 w hb hf hbd
  rwa [Rep.plain hok.prime h.rep] at this
end Go.Proofs.Ytljblbgogjieaaa
set_option linter.unusedVariables false
set_option linter.unusedSimpArgs false
set_option maxRecDepth 20000
namespace Go.Proofs.Ytljblbgogjieaaa
open Go Go.RowKit
open Grp
theorem eq_pt_t {X Y:Nat} {i:Bool} (hX:X<W9) (hY:Y<W9):EqD 4 Try.prog 60 (ptV X Y i) (ptV X Y i) true:=by
  have:=eq_pt X Y i X Y i hX hY hX hY
  rwa [show (decide (X = X) && (decide (Y = Y) && ((i == i) && true))) = true by simp] at this
theorem Brings.own {w w':World} {H:List Item} {b:Nat} {cs:List Value} {e:TypeId} (hb:Below w.heap.size w w') (h:(Item.blk b ⟨true,cs,e,(0,0)⟩).holds w') (hn:w.heap.size≤b):Brings w H [.blk b ⟨true,cs,e,(0,0)⟩] w' :=
  ⟨hb,(by intro x hx; simp at hx; subst hx; exact h),(by intro x hx k hk; simp at hx; subst hx; simp [Item.fp] at hk; subst hk; exact .inl hn),(by intro x hx _ k hk; simp at hx; subst hx; simp [Item.fp] at hk; subst hk; exact hn),List.pairwise_singleton _ _⟩
end Go.Proofs.Ytljblbgogjieaaa
set_option linter.unusedVariables false
set_option linter.unusedSimpArgs false
set_option maxRecDepth 20000
namespace Go.Proofs.Ytljblbgogjieaaa
open Go Go.RowKit
open Grp
theorem xG {V:Cv} (hok:V.Ok):xv V.G = V.x:=val_c hok.bounds.2.2.2.2.1
theorem yG {V:Cv} (hok:V.Ok):yv V.G = V.y:=val_c hok.bounds.2.2.2.2.2.1
end Go.Proofs.Ytljblbgogjieaaa
set_option linter.unusedVariables false
set_option linter.unusedSimpArgs false
set_option maxRecDepth 20000
namespace Go.Proofs.Ytljblbgogjieaaa
open Go Go.RowKit
open Grp
theorem Det.indexArrN {P : Program} {C : Ctx} {st : St} {d : Option Tmp} {ty : TypeId} {pos : String} {aft : Array Edge} {g : Option (Nat × Bool)} {t : TypeId} {x y : Operand} {n s : Nat} {e : TypeId} {k : IntKind} {i : Nat} {b o : Nat} (ht : P.underlying t = some (.array n e)) (he : szOf P e = some s) (hx : evT st.T x = some (.pointer (some ⟨b, o, none⟩)))
    (hy:evT st.T y = some (.int k (i:Int))) (h1:i<n):Slots P C ⟨d,.indexAddr t x y,ty,pos,aft,g⟩ st (.pointer (some ⟨b,o+i*s,none⟩)):=by
  unfold Slots
  intro a w hr
  have hb:(0≤(i:Int)∧(i:Int)<(n:Int)):=⟨by omega,by omega⟩
  simp [execOp,hr _ _ hx,hr _ _ hy,Instr.indexAt,asIntOf,run_underlying ht,Instr.sureAddr,hb,run_sizeOf he,Addr.add,h1]
theorem g_val {V:Cv} (hok:V.Ok):Value.agg (ptL V.x V.y false).toArray = ptP V.G:=by
  unfold ptP ptV
  rw [xG hok,yG hok]
  rfl
theorem c_cOnB (V:Cv) (b f bd:Nat) (hok:V.Ok) (X Y:Nat) (i r:Bool) (w:World) (hb:(Item.blk b ⟨false,opL V f,147,(0,0)⟩).holds w) (hf:(Item.blk f ⟨false,fldL V.p bd,194,(0,0)⟩).holds w) (hbd:(Item.blk bd ⟨false,dvL V.p,241,(0,0)⟩).holds w) (hX:X<W9) (hY:Y<W9) (hr:onB V.p V.a V.b X Y i = r):Calls Try.prog 122 ([.pointer (some ⟨b,0,none⟩),ptV X Y i]:List Value).toArray w (fun e w'=>e = .returned (.bool r)∧Below w.heap.size w w'):=by
  have:=c_cOn V b f bd hok X Y i w hb hf hbd hX hY
  rwa [hr] at this
theorem c_cOnP (V:Cv) (b f bd:Nat) (hok:V.Ok) (P:Pt V.p) (w:World) (hb:(Item.blk b ⟨false,opL V f,147,(0,0)⟩).holds w) (hf:(Item.blk f ⟨false,fldL V.p bd,194,(0,0)⟩).holds w) (hbd:(Item.blk bd ⟨false,dvL V.p,241,(0,0)⟩).holds w) (hP:On V.A V.B P):Calls Try.prog 122 ([.pointer (some ⟨b,0,none⟩),ptP P]:List Value).toArray w (fun e w'=>e = .returned (.bool true)∧Below w.heap.size w w') :=
  c_cOnB V b f bd hok (xv P) (yv P) (iv P) true w hb hf hbd (pt_w9 hok P).1 (pt_w9 hok P).2 (onB_on hP)
def arr4 {p:Nat} (a b c d:Fin p×Fin p×Fin p):List Value:=pjFL a++(pjFL b++(pjFL c++pjFL d))
theorem KAY {p:Nat} (T:Fin p×Fin p×Fin p):(pjFL T).length = 27:=Kd _ _ _
theorem pjFL_one {p:Nat} (T:Fin p×Fin p×Fin p):AllOne (pjFL T):=Kz _ _ _
theorem arr4_length {p:Nat} (a b c d:Fin p×Fin p×Fin p):(arr4 a b c d).length = 108:=by simp [arr4,KAY]
theorem arr4_one {p:Nat} (a b c d:Fin p×Fin p×Fin p):AllOne (arr4 a b c d):=KW (pjFL_one _) (KW (pjFL_one _) (KW (pjFL_one _) (pjFL_one _)))
theorem fill_arr4 {p:Nat} (a b c d:Fin p×Fin p×Fin p):fillL ((List.range 4).map fun i=>(i*27,27)) (vec .u64 9 (fun _=>0)++(vec .u64 9 (fun _=>0)++(vec .u64 9 (fun _=>0)++(vec .u64 9 (fun _=>0)++(vec .u64 9 (fun _=>0)++(vec .u64 9 (fun _=>0)++(vec .u64 9 (fun _=>0)++(vec .u64 9 (fun _=>0)++(vec .u64 9 (fun _=>0)++(vec .u64 9 (fun _=>0)++(vec .u64 9 (fun _=>0)++(vec .u64 9 (fun _=>0))))))))))))) [(0,pjF a),(1,pjF b),(2,pjF c),(3,pjF d)] = some (arr4 a b c d):=by
  refine KAZ (A:=[]) (B:=vec .u64 9 (fun _=>0)++(vec .u64 9 (fun _=>0)++(vec .u64 9 (fun _=>0)))) (D:=vec .u64 9 (fun _=>0)++(vec .u64 9 (fun _=>0)++(vec .u64 9 (fun _=>0)++(vec .u64 9 (fun _=>0)++(vec .u64 9 (fun _=>0)++(vec .u64 9 (fun _=>0)++(vec .u64 9 (fun _=>0)++(vec .u64 9 (fun _=>0)++(vec .u64 9 (fun _=>0)))))))))) (cs:=pjFL a) rfl rfl (KAY _) (by simp only [List.append_assoc,List.nil_append,List.append_nil]) rfl (by simp [KL]) ?_
  refine KAZ (A:=pjFL a) (B:=vec .u64 9 (fun _=>0)++(vec .u64 9 (fun _=>0)++(vec .u64 9 (fun _=>0)))) (D:=vec .u64 9 (fun _=>0)++(vec .u64 9 (fun _=>0)++(vec .u64 9 (fun _=>0)++(vec .u64 9 (fun _=>0)++(vec .u64 9 (fun _=>0)++(vec .u64 9 (fun _=>0))))))) (cs:=pjFL b) rfl rfl (KAY _) (by simp only [List.append_assoc,List.nil_append,List.append_nil]) (KAY _) (by simp [KL]) ?_
  refine KAZ (A:=pjFL a++pjFL b) (B:=vec .u64 9 (fun _=>0)++(vec .u64 9 (fun _=>0)++(vec .u64 9 (fun _=>0)))) (D:=vec .u64 9 (fun _=>0)++(vec .u64 9 (fun _=>0)++(vec .u64 9 (fun _=>0)))) (cs:=pjFL c) rfl rfl (KAY _) (by simp only [List.append_assoc,List.nil_append,List.append_nil]) (by simp [KAY]) (by simp [KL]) ?_
  refine (KAZ (A:=pjFL a++(pjFL b++pjFL c)) (B:=vec .u64 9 (fun _=>0)++(vec .u64 9 (fun _=>0)++(vec .u64 9 (fun _=>0)))) (D:=[]) (cs:=pjFL d) rfl rfl (KAY _) (by simp only [List.append_assoc,List.nil_append,List.append_nil]) (by simp [KAY]) (by simp [KL]) rfl).trans ?_
  simp [arr4]
theorem arr4_1 {p:Nat} (a b c d:Fin p×Fin p×Fin p) (wr:Bool) (e:TypeId) (fz:Nat×Nat):LoadV Try.prog 91 ⟨wr,arr4 a b c d,e,fz⟩ 27 (pjF b):=LoadV.mid (pre:=pjFL a) (cs:=pjFL b) (post:=pjFL c++pjFL d) Try.underlying91 rfl sz_91 rfl (KAY _) (KAY _)
theorem arr4_2 {p:Nat} (a b c d:Fin p×Fin p×Fin p) (wr:Bool) (e:TypeId) (fz:Nat×Nat):LoadV Try.prog 91 ⟨wr,arr4 a b c d,e,fz⟩ 54 (pjF c):=LoadV.mid (pre:=pjFL a++pjFL b) (cs:=pjFL c) (post:=pjFL d) Try.underlying91 rfl sz_91 (by simp [arr4]) (by simp [KAY]) (KAY _)
theorem arr4_3 {p:Nat} (a b c d:Fin p×Fin p×Fin p) (wr:Bool) (e:TypeId) (fz:Nat×Nat):LoadV Try.prog 91 ⟨wr,arr4 a b c d,e,fz⟩ 81 (pjF d):=LoadV.last (pre:=pjFL a++(pjFL b++pjFL c)) (cs:=pjFL d) Try.underlying91 rfl sz_91 (by simp [arr4]) (by simp [KAY]) (KAY _)
noncomputable def dualP (V:Cv) (U W:Nat) (Q:Pt V.p):Pt V.p:=padd V.A (pmul V.A V.G U) (pmul V.A Q W)
theorem dual_step {V:Cv} (hok:V.Ok) {Q:Pt V.p} (hQ:On V.A V.B Q) {U W y bu bv:Nat} {T Tk:Fin V.p×Fin V.p×Fin V.p} (h1:U/2^y%2 = bu) (h2:W/2^y%2 = bv) (hT:RepT V T (dualP V (U/2^(y+1)) (W/2^(y+1)) Q)) (hk:RepT V Tk (dualP V bu bv Q)):RepT V (sumT V (sumT V T T) Tk) (dualP V (U/2^y) (W/2^y) Q):=by
  have:=RepT.sum hok (RepT.sum hok hT hT) hk
  subst h1 h2
  unfold dualP at *
  rwa [hok.dual_bit hok.on hQ] at this
theorem dual_zero {V:Cv} (hok:V.Ok) {Q:Pt V.p} (hQ:On V.A V.B Q) {U W y:Nat} {T:Fin V.p×Fin V.p×Fin V.p} (h1:U/2^y%2 = 0) (h2:W/2^y%2 = 0) (hT:RepT V T (dualP V (U/2^(y+1)) (W/2^(y+1)) Q)):RepT V (sumT V T T) (dualP V (U/2^y) (W/2^y) Q):=by
  have h:=RepT.sum hok hT hT
  have e:=hok.dual_bit hok.on hQ U W y
  rw [h1,h2,pmul_zero,pmul_zero,hok.add_inf (show On V.A V.B (.inf:Pt V.p) from trivial)] at e
  unfold dualP at *
  rw [hok.add_inf (hok.sum (hok.sum (hok.mul hok.on _) (hok.mul hQ _)) (hok.sum (hok.mul hok.on _) (hok.mul hQ _)))] at e
  rwa [e] at h
theorem dual_10 {V:Cv} (hok:V.Ok) {Q:Pt V.p} (hQ:On V.A V.B Q):RepT V (tripF V.G) (dualP V 1 0 Q):=by
  unfold dualP
  rw [pmul_one hok.fld hok.on,pmul_zero,hok.add_inf hok.on]
  exact RepT.trip hok hok.on
theorem dual_01 {V:Cv} (hok:V.Ok) {Q:Pt V.p} (hQ:On V.A V.B Q):RepT V (tripF Q) (dualP V 0 1 Q):=by
  unfold dualP
  rw [pmul_one hok.fld hQ,pmul_zero,hok.inf_add hQ]
  exact RepT.trip hok hQ
theorem dual_11 {V:Cv} (hok:V.Ok) {Q:Pt V.p} (hQ:On V.A V.B Q):RepT V (sumT V (tripF V.G) (tripF Q)) (dualP V 1 1 Q):=by
  unfold dualP
  rw [pmul_one hok.fld hQ,pmul_one hok.fld hok.on]
  exact RepT.sum hok (RepT.trip hok hok.on) (RepT.trip hok hQ)
theorem dual_top {V:Cv} (hok:V.Ok) {Q:Pt V.p} {U W:Nat} (hU:U<V.n) (hW:W<V.n):dualP V (U/2^blen V.n) (W/2^blen V.n) Q = .inf:=by
  have hn:=lt_blen V.n
  unfold dualP
  rw [Nat.div_eq_of_lt (Nat.lt_trans hU hn),Nat.div_eq_of_lt (Nat.lt_trans hW hn),pmul_zero,pmul_zero,hok.add_inf (show On V.A V.B (.inf:Pt V.p) from trivial)]
theorem c_dualTimes (V:Cv) (b f bd:Nat) (hok:V.Ok) (U W:Nat) (Q:Pt V.p) (hQ:On V.A V.B Q) (hU:U<V.n) (hW:W<V.n) (w:World) (hb:(Item.blk b ⟨false,opL V f,147,(0,0)⟩).holds w) (hf:(Item.blk f ⟨false,fldL V.p bd,194,(0,0)⟩).holds w) (hbd:(Item.blk bd ⟨false,dvL V.p,241,(0,0)⟩).holds w):Calls Try.prog 124 ([.pointer (some ⟨b,0,none⟩),natV U,natV W,ptP Q]:List Value).toArray w (fun e w'=>e = .returned (ptP (dualP V U W Q))∧Below w.heap.size w w'):=by
  have hbb:=hok.bounds
  have hnW:V.n<W9:=w9_521 hbb.2.2.2.2.2.2.1
  have hbl:=blen_w9 hnW
  have hU9:=Nat.lt_trans hU hnW
  have hW9:=Nat.lt_trans hW hnW
  refine KAC (N:=65) (rs:=[.cell 8 60]) [.blk b ⟨false,opL V f,147,(0,0)⟩,.blk f ⟨false,fldL V.p bd,194,(0,0)⟩,.blk bd ⟨false,dvL V.p,241,(0,0)⟩] Try.func124 rfl Try.ntmps124 Try.results124 (Nb rfl) ⟨hb,hf,hbd,trivial⟩ rfl ?_
  show LCode _ _ _ ⟨_,_⟩ _
  refine KE (KB ?_)
  refine KI rfl (KT (KQ (Ku rfl) (Nb rfl) (fun b5=>?_)))
  refine KI rfl (KT (KQ (Ku rfl) (Nb rfl) (fun b6=>?_)))
  refine KI rfl (KT (KQ (Ku rfl) (Nb rfl) (fun b7=>?_)))
  refine KI rfl (KT (KQ (Kg zr_60) (Nb rfl) (fun b8=>?_)))
  refine KG ?_
  refine KE ?_
  refine Ka [10,11] (by kernel_rfl) ?_
  refine KC 0 rfl (by kernel_rfl) (Nb rfl) (KD rfl) ?_
  refine KC 1 rfl (by kernel_rfl) (Nb rfl) (Kb rfl) ?_
  refine KC 2 rfl (by kernel_rfl) (Nb rfl) (KM (o':=0) Try.underlying147 rfl rfl rfl sz_62 (by decide)) ?_
  refine KC 3 rfl (by kernel_rfl) (Nb rfl) (KM (o':=37) Try.underlying62 rfl rfl rfl sz_60 (by decide)) ?_
  refine LAny.take 4 rfl (by kernel_rfl) (Nb rfl) (Det.cast (KK rfl (by repeat (first|exact Mh _|apply Mt)) (by exact cvC_ld_g _ _ _ _ _ _ _ _ _ _ _ _ _ _ _ _)) (g_val hok)) ?_
  refine LAny.takeW [7,10,11] 6 rfl (by kernel_rfl) (Nb rfl) (KK rfl (by repeat (first|exact Mh _|apply Mt)) (by exact KO Try.underlying60 rfl sz_60)) ?_
  refine LAny.toP ?_
  refine KAV 8 rfl (.inl zr_91) (Nb rfl) rfl rfl rfl ?_
  refine KAV 9 rfl (.inl zr_91) (Nb rfl) rfl rfl rfl ?_
  refine KAA 5 rfl rfl rfl (Nb rfl) (by kernel_rfl) rfl (KAM (first:=[]) rfl en_129 rfl (fun w hw=>c_Triple V hok V.G w)) ?_
  rintro _ _ ⟨rfl,rfl⟩
  refine KAA 7 rfl rfl rfl (Nb rfl) (by kernel_rfl) rfl (KAM (first:=[]) rfl en_129 rfl (fun w hw=>c_Triple V hok Q w)) ?_
  rintro _ _ ⟨rfl,rfl⟩
  refine KAb (by kernel_rfl) (fun b10=>?_)
  refine KAb (by kernel_rfl) (fun b9=>?_)
  refine KAX ?_
  refine Ko 10 rfl rfl (by kernel_rfl) (by kernel_rfl) (KP rfl rfl sz_91 (by exact pjFL_one _) (by repeat (first|exact Sh _|apply St_)) (by exact KAY _) ?_)
  refine Ko 11 rfl rfl (by kernel_rfl) (by kernel_rfl) (KP rfl rfl sz_91 (by exact pjFL_one _) (by repeat (first|exact Sh _|apply St_)) (by exact KAY _) ?_)
  refine Kh (by kernel_rfl) ?_
  refine KE ?_
  refine Ka [9] (by kernel_rfl) ?_
  refine LAny.take 1 rfl (by kernel_rfl) (Nb rfl) (KK rfl (by repeat (first|exact Mh _|apply Mt)) (by exact KO Try.underlying91 rfl sz_91)) ?_
  refine LAny.take 2 rfl (by kernel_rfl) (Nb rfl) (KK rfl (by repeat (first|exact Mh _|apply Mt)) (by exact KO Try.underlying91 rfl sz_91)) ?_
  refine KC 3 rfl (by kernel_rfl) (Nb rfl) (KD rfl) ?_
  refine LAny.take 4 rfl (by kernel_rfl) (Nb rfl) (KK rfl (by repeat (first|exact Mh _|apply Mt)) (by exact KO Try.underlying91 rfl sz_91)) ?_
  refine LAny.take 5 rfl (by kernel_rfl) (Nb rfl) (KK rfl (by repeat (first|exact Mh _|apply Mt)) (by exact KO Try.underlying91 rfl sz_91)) ?_
  refine LAny.toP ?_
  refine KAV 8 rfl (.inl zr_206) (Nb rfl) rfl rfl rfl ?_
  refine KAA 0 rfl rfl rfl (Nb rfl) (by kernel_rfl) rfl (KAM (first:=[]) rfl en_158 rfl (fun w hw=>c_NoneF hok w)) ?_
  rintro _ _ ⟨rfl,rfl⟩
  refine KAA 6 rfl rfl rfl (Nb rfl) (by kernel_rfl) rfl (KAM (first:=[]) rfl en_128 rfl (fun w hw=>c_SumT V b f bd hok (tripF V.G) (tripF Q) w (hw _ (by repeat (first|exact Mh _|apply Mt))) (hw _ (by repeat (first|exact Mh _|apply Mt))) (hw _ (by repeat (first|exact Mh _|apply Mt))))) ?_
  rintro _ _ ⟨rfl,rfl⟩
  refine KAU 7 rfl (by kernel_rfl) (Nb rfl) rfl (KY (KAQ pl_206 zr_206 rfl (fill_arr4 _ _ _ _)) rfl) ?_
  refine KAb (by kernel_rfl) (fun b11=>?_)
  refine KAX ?_
  refine Ko 9 rfl rfl (by kernel_rfl) (by kernel_rfl) (KP rfl rfl sz_206 (by exact arr4_one _ _ _ _) (by repeat (first|exact Sh _|apply St_)) (by exact arr4_length _ _ _ _) ?_)
  refine Kh (by kernel_rfl) ?_
  refine KE (KB ?_)
  refine KI rfl (KT (KR (first:=[]) rfl en_158 rfl (Nb rfl) (fun w hw=>c_NoneF hok w) ?_))
  refine KI rfl (KT (KQ (Kg zr_91) (Nb rfl) (fun b12=>?_)))
  refine KI rfl (KP rfl rfl sz_91 (by exact pjFL_one _) (by repeat (first|exact Sh _|apply St_)) (by exact KAY _) ?_)
  refine KG ?_
  refine KE ?_
  refine KE (KB ?_)
  refine KA (KD rfl) (Nb rfl) ?_
  refine KA (Kb rfl) (Nb rfl) ?_
  refine KA (KM (o':=0) Try.underlying147 rfl rfl rfl sz_62 (by decide)) (Nb rfl) ?_
  refine KA (KM (o':=56) Try.underlying62 rfl rfl rfl sz_3 (by decide)) (Nb rfl) ?_
  refine LOps.det (KK rfl (by repeat (first|exact Mh _|apply Mt)) (KX Try.underlying3 rfl (by exact cvC_gt_bits _ _ _ _ _ _ _ _ _ _ _ _ _))) (Nb rfl) ?_
  refine KA (KN (v:=.int .i64 (((blen V.n:Nat):Int)-1)) rfl rfl (br_subI (by omega) (by omega))) (Nb rfl) ?_
  refine KA (KF rfl) (Nb rfl) ?_
  refine KG ?_
  refine LCode.block ?_
  refine KAN (α:=Nat×(Fin V.p×Fin V.p×Fin V.p)) (fun x=>x.1≤blen V.n∧RepT V x.2 (dualP V (U/2^x.1) (W/2^x.1) Q)) (fun x=>⟨[(0,.pointer (some ⟨b,0,none⟩)),(5,.pointer (some ⟨b5,0,none⟩)),(6,.pointer (some ⟨b6,0,none⟩)),(7,.pointer (some ⟨b7,0,none⟩)),(8,.pointer (some ⟨b8,0,none⟩)),(11,.pointer (some ⟨b11,0,none⟩)),(12,.pointer (some ⟨b12,0,none⟩)),(13,.int .i64 (((x.1:Nat):Int)-1))],[.blk b12 ⟨true,pjFL x.2,91,(0,0)⟩,.blk b11 ⟨true,arr4 (tripF (.inf:Pt V.p)) (tripF V.G) (tripF Q) (sumT V (tripF V.G) (tripF Q)),206,(0,0)⟩,.blk b8 ⟨true,(vec .u64 9 (fun _=>0)++(vec .u64 9 (fun _=>0)++[Value.bool false])),60,(0,0)⟩,.blk b7 ⟨true,ptL (xv Q) (yv Q) (iv Q),60,(0,0)⟩,.blk b6 ⟨true,natL W,25,(0,0)⟩,.blk b5 ⟨true,natL U,25,(0,0)⟩,.blk b ⟨false,opL V f,147,(0,0)⟩,.blk f ⟨false,fldL V.p bd,194,(0,0)⟩,.blk bd ⟨false,dvL V.p,241,(0,0)⟩]⟩) (fun x=>x.1) ((blen V.n,tripF (.inf:Pt V.p))) (⟨Nat.le_refl _,by dsimp only; rw [dual_top hok hU hW]; exact RepT.trip hok trivial⟩) (KAH ⟨rfl,rfl,rfl,rfl,rfl,rfl,rfl,rfl,trivial⟩ (by repeat (first|exact Sel.nil _|refine Sel.cons (by repeat (first|exact Ph _|apply Pt_)) ?_))) ?_
  rintro x ⟨hx1,hx2⟩
  refine KE ?_
  refine KE ?_
  rcases Nat.eq_zero_or_pos x.1 with h0|h0
  ·
    refine KB ?_
    refine KA (KD rfl) (Nb rfl) ?_
    refine KA (KN (v:=.bool false) rfl rfl (by rw [h0]; rfl)) (Nb rfl) ?_
    refine KG ?_
    refine Km rfl ?_
    refine KAJ ?_
    refine KE ?_
    have eR:dualP V (U/2^x.1) (W/2^x.1) Q = dualP V U W Q:=by rw [h0,Nat.pow_zero,Nat.div_one,Nat.div_one]
    rw [eR] at hx2
    refine KB ?_
    refine KA (KD rfl) (Nb rfl) ?_
    refine LOps.det (KK rfl (by repeat (first|exact Mh _|apply Mt)) (by exact KO Try.underlying91 rfl sz_91)) (Nb rfl) ?_
    refine KI rfl (KT (KR (first:=[]) rfl en_127 rfl (Nb rfl) (fun w hw=>c_PlainT V b f bd hok (x.2) (dualP V U W Q) w (hw _ (by repeat (first|exact Mh _|apply Mt))) (hw _ (by repeat (first|exact Mh _|apply Mt))) (hw _ (by repeat (first|exact Mh _|apply Mt))) (hx2)) ?_))
    refine KI rfl (KP rfl rfl sz_60 (by repeat (first|exact Kl _|exact Ky _ _ _|exact Kn _|exact Kr _ _ _|exact Kz _ _ _|exact KU|refine KS rfl ?_|refine KW ?_ ?_)) (by repeat (first|exact Sh _|apply St_)) (by first|exact KH _|exact KL _ _ _|exact KJ _|exact KV _ _ _|exact Kd _ _ _|rfl|simp [KL,KH,KJ]) ?_)
    refine KG (KZ ?_)
    refine ⟨[_],.cons ⟨_,_,_,rfl,(by repeat (first|exact Mh _|apply Mt)),by exact KO Try.underlying60 rfl sz_60⟩ .nil,fun a w' hr=>⟨?_,hr.fr.below⟩⟩
    rfl
  ·
    obtain ⟨y,hy⟩:∃ y,x.1 = y+1:=⟨x.1-1,by omega⟩
    rw [hy] at hx2
    refine KB ?_
    refine KA (KD rfl) (Nb rfl) ?_
    refine KA (KN (v:=.bool true) rfl rfl (by rw [hy]; simp [KAT] <;> omega)) (Nb rfl) ?_
    refine KG ?_
    refine Kt rfl ?_
    refine Kf ?_
    refine KE ?_
    refine LCode.block ?_
    refine KE (KB ?_)
    refine KA (KD rfl) (Nb rfl) ?_
    refine LOps.det (KK rfl (by repeat (first|exact Mh _|apply Mt)) (by exact KO Try.underlying91 rfl sz_91)) (Nb rfl) ?_
    refine LOps.det (KK rfl (by repeat (first|exact Mh _|apply Mt)) (by exact KO Try.underlying91 rfl sz_91)) (Nb rfl) ?_
    refine KI rfl (KT (KR (first:=[]) rfl en_128 rfl (Nb rfl) (fun w hw=>c_SumT V b f bd hok (x.2) (x.2) w (hw _ (by repeat (first|exact Mh _|apply Mt))) (hw _ (by repeat (first|exact Mh _|apply Mt))) (hw _ (by repeat (first|exact Mh _|apply Mt)))) ?_))
    refine KI rfl (KP rfl rfl sz_91 (by exact pjFL_one _) (by repeat (first|exact Sh _|apply St_)) (by exact KAY _) ?_)
    refine KG ?_
    refine KE ?_
    refine Ka [] (by kernel_rfl) ?_
    refine LAny.take 0 rfl (by kernel_rfl) (Nb rfl) (KK rfl (by repeat (first|exact Mh _|apply Mt)) (by exact KO Try.underlying25 rfl sz_25)) ?_
    refine KC 1 rfl (by kernel_rfl) (Nb rfl) (KD (v:=.int .i64 ((y:Nat):Int)) (by show some _ = some _; congr 2; omega)) ?_
    refine LAny.take 3 rfl (by kernel_rfl) (Nb rfl) (KK rfl (by repeat (first|exact Mh _|apply Mt)) (by exact KO Try.underlying25 rfl sz_25)) ?_
    refine KC 4 rfl (by kernel_rfl) (Nb rfl) (KD (v:=.int .i64 ((y:Nat):Int)) (by show some _ = some _; congr 2; omega)) ?_
    refine Kx 2 rfl rfl (by kernel_rfl) (KR (first:=[]) rfl en_139 rfl (Nb rfl) (fun w hw=>c_nat_Bit U y hU9 (by omega) w) ?_)
    refine Kx 5 rfl rfl (by kernel_rfl) (KR (first:=[]) rfl en_139 rfl (Nb rfl) (fun w hw=>c_nat_Bit W y hW9 (by omega) w) ?_)
    refine KC 6 rfl (by kernel_rfl) (Nb rfl) (KN rfl rfl (br_mul (a:=2) (by omega))) ?_
    refine KC 7 rfl (by kernel_rfl) (Nb rfl) (KN rfl rfl (KAO (by omega))) ?_
    refine KC 8 rfl (by kernel_rfl) (Nb rfl) (KF rfl) ?_
    refine Kh (by kernel_rfl) ?_
    refine KE ?_
    rcases (show (U/2^y%2 = 0∧W/2^y%2 = 0)∨(U/2^y%2 = 1∧W/2^y%2 = 0)∨(U/2^y%2 = 0∧W/2^y%2 = 1)∨(U/2^y%2 = 1∧W/2^y%2 = 1) by omega) with ⟨k1,k2⟩|⟨k1,k2⟩|⟨k1,k2⟩|⟨k1,k2⟩
    ·
      refine KB ?_
      refine KA (KD (v:=.int .i64 ((0:Nat):Int)) (by show some _ = some _; congr 2; omega)) (Nb rfl) ?_
      refine KA (KN (v:=.bool false) rfl rfl (br_f (br_gtr (b:=0)) (by decide))) (Nb rfl) ?_
      refine KG ?_
      refine Km rfl ?_
      refine Kf ?_
      refine KB ?_
      refine KA (KD (v:=.int .i64 ((y:Nat):Int)) (by show some _ = some _; congr 2; omega)) (Nb rfl) ?_
      refine KA (KN (v:=.int .i64 (((y:Nat):Int)-1)) rfl rfl (br_subI (by omega) (by omega))) (Nb rfl) ?_
      refine KA (KF rfl) (Nb rfl) ?_
      refine KG ?_
      exact ⟨(y,sumT V x.2 x.2),⟨by dsimp only; omega,dual_zero hok hQ k1 k2 hx2⟩,by dsimp only; omega,KAH ⟨rfl,rfl,rfl,rfl,rfl,rfl,rfl,rfl,trivial⟩ (by repeat (first|exact Sel.nil _|refine Sel.cons (by repeat (first|exact Ph _|apply Pt_)) ?_))⟩
    ·
      refine KB ?_
      refine KA (KD (v:=.int .i64 ((1:Nat):Int)) (by show some _ = some _; congr 2; omega)) (Nb rfl) ?_
      refine KA (KN (v:=.bool true) rfl rfl (br_t (br_gtr (b:=0)) (by decide))) (Nb rfl) ?_
      refine KG ?_
      refine Kt rfl ?_
      refine Ka [6] (by kernel_rfl) ?_
      refine KC 0 rfl (by kernel_rfl) (Nb rfl) (KD rfl) ?_
      refine LAny.take 1 rfl (by kernel_rfl) (Nb rfl) (KK rfl (by repeat (first|exact Mh _|apply Mt)) (by exact KO Try.underlying91 rfl sz_91)) ?_
      refine KC 2 rfl (by kernel_rfl) (Nb rfl) (KD (v:=.int .i64 ((1:Nat):Int)) (by show some _ = some _; congr 2; omega)) ?_
      refine KC 3 rfl (by kernel_rfl) (Nb rfl) (Det.indexArrN Try.underlying206 sz_91 rfl rfl (by decide)) ?_
      refine LAny.take 4 rfl (by kernel_rfl) (Nb rfl) (KK rfl (by repeat (first|exact Mh _|apply Mt)) (by exact arr4_1 _ _ _ _ _ _ _)) ?_
      refine Kx 5 rfl rfl (by kernel_rfl) (KR (first:=[]) rfl en_128 rfl (Nb rfl) (fun w hw=>c_SumT V b f bd hok (sumT V x.2 x.2) (tripF V.G) w (hw _ (by repeat (first|exact Mh _|apply Mt))) (hw _ (by repeat (first|exact Mh _|apply Mt))) (hw _ (by repeat (first|exact Mh _|apply Mt)))) ?_)
      refine Ko 6 rfl rfl (by kernel_rfl) (by kernel_rfl) (KP rfl rfl sz_91 (by exact pjFL_one _) (by repeat (first|exact Sh _|apply St_)) (by exact KAY _) ?_)
      refine Kh (by kernel_rfl) ?_
      refine KB ?_
      refine KA (KD (v:=.int .i64 ((y:Nat):Int)) (by show some _ = some _; congr 2; omega)) (Nb rfl) ?_
      refine KA (KN (v:=.int .i64 (((y:Nat):Int)-1)) rfl rfl (br_subI (by omega) (by omega))) (Nb rfl) ?_
      refine KA (KF rfl) (Nb rfl) ?_
      refine KG ?_
      exact ⟨(y,sumT V (sumT V x.2 x.2) (tripF V.G)),⟨by dsimp only; omega,dual_step hok hQ k1 k2 hx2 (dual_10 hok hQ)⟩,by dsimp only; omega,KAH ⟨rfl,rfl,rfl,rfl,rfl,rfl,rfl,rfl,trivial⟩ (by repeat (first|exact Sel.nil _|refine Sel.cons (by repeat (first|exact Ph _|apply Pt_)) ?_))⟩
    ·
      refine KB ?_
      refine KA (KD (v:=.int .i64 ((2:Nat):Int)) (by show some _ = some _; congr 2; omega)) (Nb rfl) ?_
      refine KA (KN (v:=.bool true) rfl rfl (br_t (br_gtr (b:=0)) (by decide))) (Nb rfl) ?_
      refine KG ?_
      refine Kt rfl ?_
      refine Ka [6] (by kernel_rfl) ?_
      refine KC 0 rfl (by kernel_rfl) (Nb rfl) (KD rfl) ?_
      refine LAny.take 1 rfl (by kernel_rfl) (Nb rfl) (KK rfl (by repeat (first|exact Mh _|apply Mt)) (by exact KO Try.underlying91 rfl sz_91)) ?_
      refine KC 2 rfl (by kernel_rfl) (Nb rfl) (KD (v:=.int .i64 ((2:Nat):Int)) (by show some _ = some _; congr 2; omega)) ?_
      refine KC 3 rfl (by kernel_rfl) (Nb rfl) (Det.indexArrN Try.underlying206 sz_91 rfl rfl (by decide)) ?_
      refine LAny.take 4 rfl (by kernel_rfl) (Nb rfl) (KK rfl (by repeat (first|exact Mh _|apply Mt)) (by exact arr4_2 _ _ _ _ _ _ _)) ?_
      refine Kx 5 rfl rfl (by kernel_rfl) (KR (first:=[]) rfl en_128 rfl (Nb rfl) (fun w hw=>c_SumT V b f bd hok (sumT V x.2 x.2) (tripF Q) w (hw _ (by repeat (first|exact Mh _|apply Mt))) (hw _ (by repeat (first|exact Mh _|apply Mt))) (hw _ (by repeat (first|exact Mh _|apply Mt)))) ?_)
      refine Ko 6 rfl rfl (by kernel_rfl) (by kernel_rfl) (KP rfl rfl sz_91 (by exact pjFL_one _) (by repeat (first|exact Sh _|apply St_)) (by exact KAY _) ?_)
      refine Kh (by kernel_rfl) ?_
      refine KB ?_
      refine KA (KD (v:=.int .i64 ((y:Nat):Int)) (by show some _ = some _; congr 2; omega)) (Nb rfl) ?_
      refine KA (KN (v:=.int .i64 (((y:Nat):Int)-1)) rfl rfl (br_subI (by omega) (by omega))) (Nb rfl) ?_
      refine KA (KF rfl) (Nb rfl) ?_
      refine KG ?_
      exact ⟨(y,sumT V (sumT V x.2 x.2) (tripF Q)),⟨by dsimp only; omega,dual_step hok hQ k1 k2 hx2 (dual_01 hok hQ)⟩,by dsimp only; omega,KAH ⟨rfl,rfl,rfl,rfl,rfl,rfl,rfl,rfl,trivial⟩ (by repeat (first|exact Sel.nil _|refine Sel.cons (by repeat (first|exact Ph _|apply Pt_)) ?_))⟩
    ·
      refine KB ?_
      refine KA (KD (v:=.int .i64 ((3:Nat):Int)) (by show some _ = some _; congr 2; omega)) (Nb rfl) ?_
      refine KA (KN (v:=.bool true) rfl rfl (br_t (br_gtr (b:=0)) (by decide))) (Nb rfl) ?_
      refine KG ?_
      refine Kt rfl ?_
      refine Ka [6] (by kernel_rfl) ?_
      refine KC 0 rfl (by kernel_rfl) (Nb rfl) (KD rfl) ?_
      refine LAny.take 1 rfl (by kernel_rfl) (Nb rfl) (KK rfl (by repeat (first|exact Mh _|apply Mt)) (by exact KO Try.underlying91 rfl sz_91)) ?_
      refine KC 2 rfl (by kernel_rfl) (Nb rfl) (KD (v:=.int .i64 ((3:Nat):Int)) (by show some _ = some _; congr 2; omega)) ?_
      refine KC 3 rfl (by kernel_rfl) (Nb rfl) (Det.indexArrN Try.underlying206 sz_91 rfl rfl (by decide)) ?_
      refine LAny.take 4 rfl (by kernel_rfl) (Nb rfl) (KK rfl (by repeat (first|exact Mh _|apply Mt)) (by exact arr4_3 _ _ _ _ _ _ _)) ?_
      refine Kx 5 rfl rfl (by kernel_rfl) (KR (first:=[]) rfl en_128 rfl (Nb rfl) (fun w hw=>c_SumT V b f bd hok (sumT V x.2 x.2) (sumT V (tripF V.G) (tripF Q)) w (hw _ (by repeat (first|exact Mh _|apply Mt))) (hw _ (by repeat (first|exact Mh _|apply Mt))) (hw _ (by repeat (first|exact Mh _|apply Mt)))) ?_)
      refine Ko 6 rfl rfl (by kernel_rfl) (by kernel_rfl) (KP rfl rfl sz_91 (by exact pjFL_one _) (by repeat (first|exact Sh _|apply St_)) (by exact KAY _) ?_)
      refine Kh (by kernel_rfl) ?_
      refine KB ?_
      refine KA (KD (v:=.int .i64 ((y:Nat):Int)) (by show some _ = some _; congr 2; omega)) (Nb rfl) ?_
      refine KA (KN (v:=.int .i64 (((y:Nat):Int)-1)) rfl rfl (br_subI (by omega) (by omega))) (Nb rfl) ?_
      refine KA (KF rfl) (Nb rfl) ?_
      refine KG ?_
      exact ⟨(y,sumT V (sumT V x.2 x.2) (sumT V (tripF V.G) (tripF Q))),⟨by dsimp only; omega,dual_step hok hQ k1 k2 hx2 (dual_11 hok hQ)⟩,by dsimp only; omega,KAH ⟨rfl,rfl,rfl,rfl,rfl,rfl,rfl,rfl,trivial⟩ (by repeat (first|exact Sel.nil _|refine Sel.cons (by repeat (first|exact Ph _|apply Pt_)) ?_))⟩
theorem c_dualMul_none (id:Int) (U W X Y:Nat) (i:Bool) (w:World) (h:cvI id = none):Calls Try.prog 77 ([.int .i64 id,natV U,natV W,ptV X Y i]:List Value).toArray w (fun e w'=>e = .returned (.tuple #[ptV 0 0 false,.int .i64 ((2000:Nat):Int)])∧Below w.heap.size w w'):=by
  refine KAC (N:=48) (rs:=[.cell 8 60,.tmp 9]) [] Try.func77 rfl Try.ntmps77 Try.results77 (Nb rfl) trivial rfl ?_
  show LCode _ _ _ ⟨_,_⟩ _
  refine KE (KB ?_)
  refine KI rfl (KT (KQ (Ku rfl) (Nb rfl) (fun b5=>?_)))
  refine KI rfl (KT (KQ (Ku rfl) (Nb rfl) (fun b6=>?_)))
  refine KI rfl (KT (KQ (Ku rfl) (Nb rfl) (fun b7=>?_)))
  refine KI rfl (KT (KQ (Kg zr_60) (Nb rfl) (fun b8=>?_)))
  refine KA (KF (v:=.int .i64 ((0:Nat):Int)) rfl) (Nb rfl) ?_
  refine KG ?_
  refine KE (KB ?_)
  refine KA (KD rfl) (Nb rfl) ?_
  refine KI rfl (KT (KR (first:=[]) rfl en_112 rfl (Nb rfl) (fun w hw=>c_Open_none id w h) ?_))
  refine KA (KF rfl) (Nb rfl) ?_
  refine KG ?_
  refine KE ?_
  refine LCode.block ?_
  refine KE (KB ?_)
  refine KA (KD rfl) (Nb rfl) ?_
  refine KA (KY (Det.eqp Try.underlying142 rfl rfl) (show _ = Value.bool true from rfl)) (Nb rfl) ?_
  refine KA (KF rfl) (Nb rfl) ?_
  refine KG ?_
  refine Kt rfl ?_
  refine KE (KB ?_)
  refine KA (KY (KAQ pl_60 zr_60 rfl rfl) (show _ = ptV 0 0 false from pt_zero)) (Nb rfl) ?_
  refine KI rfl (KP rfl rfl sz_60 (by repeat (first|exact Kl _|exact Ky _ _ _|exact Kn _|exact Kr _ _ _|exact Kz _ _ _|exact KU|refine KS rfl ?_|refine KW ?_ ?_)) (by repeat (first|exact Sh _|apply St_)) (by first|exact KH _|exact KL _ _ _|exact KJ _|exact KV _ _ _|exact Kd _ _ _|rfl|simp [KL,KH,KJ]) ?_)
  refine KA (KF (v:=.int .i64 ((2000:Nat):Int)) rfl) (Nb rfl) ?_
  refine KG (KZ ?_)
  refine ⟨[_,_],.cons ⟨_,_,_,rfl,(by repeat (first|exact Mh _|apply Mt)),by exact KO Try.underlying60 rfl sz_60⟩ (.cons rfl .nil),fun a w' hr=>⟨?_,hr.fr.below⟩⟩
  rfl
theorem c_dualMul_off (id:Int) (V:Cv) (U W X Y:Nat) (i:Bool) (w:World) (h:cvI id = some V) (hX:X<W9) (hY:Y<W9) (ho:onB V.p V.a V.b X Y i = false):Calls Try.prog 77 ([.int .i64 id,natV U,natV W,ptV X Y i]:List Value).toArray w (fun e w'=>e = .returned (.tuple #[ptV 0 0 false,.int .i64 ((2001:Nat):Int)])∧Below w.heap.size w w'):=by
  obtain ⟨hok,hid⟩:=cvI_ok h
  have hbb:=hok.bounds
  have hpW:V.p<W9:=w9_521 hbb.2.1
  have hnW:V.n<W9:=w9_521 hbb.2.2.2.2.2.2.1
  have hbl:=blen_w9 hnW
  have hnb:nby V.n≤72:=by (unfold nby; omega)
  refine KAC (N:=48) (rs:=[.cell 8 60,.tmp 9]) [] Try.func77 rfl Try.ntmps77 Try.results77 (Nb rfl) trivial rfl ?_
  show LCode _ _ _ ⟨_,_⟩ _
  refine KE (KB ?_)
  refine KI rfl (KT (KQ (Ku rfl) (Nb rfl) (fun b5=>?_)))
  refine KI rfl (KT (KQ (Ku rfl) (Nb rfl) (fun b6=>?_)))
  refine KI rfl (KT (KQ (Ku rfl) (Nb rfl) (fun b7=>?_)))
  refine KI rfl (KT (KQ (Kg zr_60) (Nb rfl) (fun b8=>?_)))
  refine KA (KF (v:=.int .i64 ((0:Nat):Int)) rfl) (Nb rfl) ?_
  refine KG ?_
  refine KE (KB ?_)
  refine KA (KD rfl) (Nb rfl) ?_
  refine KI rfl (KT (Kw (Post:=fun v its=>∃ b f bd,v = .pointer (some ⟨b,0,none⟩)∧its = [.blk b ⟨false,opL V f,147,(0,0)⟩,.blk f ⟨false,fldL V.p bd,194,(0,0)⟩,.blk bd ⟨false,dvL V.p,241,(0,0)⟩]) (first:=[]) rfl en_112 rfl (Nb rfl) (fun w1 hw hs=>(c_Open _ V w1 h).mono fun e w' ⟨b,f,bd,h1,h2,h3,h4,h5,h6,h7,h8⟩=>⟨_,_,⟨b,f,bd,rfl,rfl⟩,h1,Brings.nums h8 (by intro x hx; simp at hx; rcases hx with rfl|rfl|rfl; exact h2; exact h3; exact h4) (by intro x hx; simp at hx; rcases hx with rfl|rfl|rfl <;> rfl) (by intro x hx k hk; simp at hx; rcases hx with rfl|rfl|rfl <;> simp [Item.fp] at hk <;> subst hk; exact .inl h5; exact .inl h6; exact .inl h7)⟩) ?_))
  rintro _ _ ⟨b,f,bd,rfl,rfl⟩
  refine KA (KF rfl) (Nb rfl) ?_
  refine KG ?_
  refine KE ?_
  refine LCode.block ?_
  refine KE (KB ?_)
  refine KA (KD rfl) (Nb rfl) ?_
  refine KA (KY (Det.eqp Try.underlying142 rfl rfl) (show _ = Value.bool false from rfl)) (Nb rfl) ?_
  refine KA (KF rfl) (Nb rfl) ?_
  refine KG ?_
  refine Km rfl ?_
  refine KE (KB ?_)
  refine KA (KD rfl) (Nb rfl) ?_
  refine LOps.det (KK rfl (by repeat (first|exact Mh _|apply Mt)) (by exact KO Try.underlying60 rfl sz_60)) (Nb rfl) ?_
  refine KI rfl (KT (KR (first:=[]) rfl en_122 rfl (Nb rfl) (fun w hw=>c_cOnB V b f bd hok (X) (Y) (i) false w (hw _ (by repeat (first|exact Mh _|apply Mt))) (hw _ (by repeat (first|exact Mh _|apply Mt))) (hw _ (by repeat (first|exact Mh _|apply Mt))) hX hY ho) ?_))
  refine KA (KY (Det.not rfl) (show _ = Value.bool true from rfl)) (Nb rfl) ?_
  refine KA (KF rfl) (Nb rfl) ?_
  refine KG ?_
  refine Kt rfl ?_
  refine KE (KB ?_)
  refine KA (KY (KAQ pl_60 zr_60 rfl rfl) (show _ = ptV 0 0 false from pt_zero)) (Nb rfl) ?_
  refine KI rfl (KP rfl rfl sz_60 (by repeat (first|exact Kl _|exact Ky _ _ _|exact Kn _|exact Kr _ _ _|exact Kz _ _ _|exact KU|refine KS rfl ?_|refine KW ?_ ?_)) (by repeat (first|exact Sh _|apply St_)) (by first|exact KH _|exact KL _ _ _|exact KJ _|exact KV _ _ _|exact Kd _ _ _|rfl|simp [KL,KH,KJ]) ?_)
  refine KA (KF (v:=.int .i64 ((2001:Nat):Int)) rfl) (Nb rfl) ?_
  refine KG (KZ ?_)
  refine ⟨[_,_],.cons ⟨_,_,_,rfl,(by repeat (first|exact Mh _|apply Mt)),by exact KO Try.underlying60 rfl sz_60⟩ (.cons rfl .nil),fun a w' hr=>⟨?_,hr.fr.below⟩⟩
  rfl
theorem c_dualMul_range (id:Int) (V:Cv) (U W:Nat) (Q:Pt V.p) (w:World) (h:cvI id = some V) (hQ:On V.A V.B Q) (hU9:U<W9) (hW9:W<W9) (hr:V.n≤U∨V.n≤W):Calls Try.prog 77 ([.int .i64 id,natV U,natV W,ptP Q]:List Value).toArray w (fun e w'=>e = .returned (.tuple #[ptV 0 0 false,.int .i64 ((2002:Nat):Int)])∧Below w.heap.size w w'):=by
  obtain ⟨hok,hid⟩:=cvI_ok h
  have hbb:=hok.bounds
  have hpW:V.p<W9:=w9_521 hbb.2.1
  have hnW:V.n<W9:=w9_521 hbb.2.2.2.2.2.2.1
  have hbl:=blen_w9 hnW
  have hnb:nby V.n≤72:=by (unfold nby; omega)
  refine KAC (N:=48) (rs:=[.cell 8 60,.tmp 9]) [] Try.func77 rfl Try.ntmps77 Try.results77 (Nb rfl) trivial rfl ?_
  show LCode _ _ _ ⟨_,_⟩ _
  refine KE (KB ?_)
  refine KI rfl (KT (KQ (Ku rfl) (Nb rfl) (fun b5=>?_)))
  refine KI rfl (KT (KQ (Ku rfl) (Nb rfl) (fun b6=>?_)))
  refine KI rfl (KT (KQ (Ku rfl) (Nb rfl) (fun b7=>?_)))
  refine KI rfl (KT (KQ (Kg zr_60) (Nb rfl) (fun b8=>?_)))
  refine KA (KF (v:=.int .i64 ((0:Nat):Int)) rfl) (Nb rfl) ?_
  refine KG ?_
  refine KE (KB ?_)
  refine KA (KD rfl) (Nb rfl) ?_
  refine KI rfl (KT (Kw (Post:=fun v its=>∃ b f bd,v = .pointer (some ⟨b,0,none⟩)∧its = [.blk b ⟨false,opL V f,147,(0,0)⟩,.blk f ⟨false,fldL V.p bd,194,(0,0)⟩,.blk bd ⟨false,dvL V.p,241,(0,0)⟩]) (first:=[]) rfl en_112 rfl (Nb rfl) (fun w1 hw hs=>(c_Open _ V w1 h).mono fun e w' ⟨b,f,bd,h1,h2,h3,h4,h5,h6,h7,h8⟩=>⟨_,_,⟨b,f,bd,rfl,rfl⟩,h1,Brings.nums h8 (by intro x hx; simp at hx; rcases hx with rfl|rfl|rfl; exact h2; exact h3; exact h4) (by intro x hx; simp at hx; rcases hx with rfl|rfl|rfl <;> rfl) (by intro x hx k hk; simp at hx; rcases hx with rfl|rfl|rfl <;> simp [Item.fp] at hk <;> subst hk; exact .inl h5; exact .inl h6; exact .inl h7)⟩) ?_))
  rintro _ _ ⟨b,f,bd,rfl,rfl⟩
  refine KA (KF rfl) (Nb rfl) ?_
  refine KG ?_
  refine KE ?_
  refine LCode.block ?_
  refine KE (KB ?_)
  refine KA (KD rfl) (Nb rfl) ?_
  refine KA (KY (Det.eqp Try.underlying142 rfl rfl) (show _ = Value.bool false from rfl)) (Nb rfl) ?_
  refine KA (KF rfl) (Nb rfl) ?_
  refine KG ?_
  refine Km rfl ?_
  refine KE (KB ?_)
  refine KA (KD rfl) (Nb rfl) ?_
  refine LOps.det (KK rfl (by repeat (first|exact Mh _|apply Mt)) (by exact KO Try.underlying60 rfl sz_60)) (Nb rfl) ?_
  refine KI rfl (KT (KR (first:=[]) rfl en_122 rfl (Nb rfl) (fun w hw=>c_cOnP V b f bd hok (Q) w (hw _ (by repeat (first|exact Mh _|apply Mt))) (hw _ (by repeat (first|exact Mh _|apply Mt))) (hw _ (by repeat (first|exact Mh _|apply Mt))) hQ) ?_))
  refine KA (KY (Det.not rfl) (show _ = Value.bool false from rfl)) (Nb rfl) ?_
  refine KA (KF rfl) (Nb rfl) ?_
  refine KG ?_
  refine Km rfl ?_
  refine KE ?_
  rcases (show V.n≤U∨(U<V.n∧V.n≤W) by omega) with h1|⟨h1,h2⟩
  ·
    refine Ka [] (by kernel_rfl) ?_
    refine LAny.take 0 rfl (by kernel_rfl) (Nb rfl) (KK rfl (by repeat (first|exact Mh _|apply Mt)) (by exact KO Try.underlying25 rfl sz_25)) ?_
    refine KC 1 rfl (by kernel_rfl) (Nb rfl) (KD rfl) ?_
    refine KC 2 rfl (by kernel_rfl) (Nb rfl) (Kb rfl) ?_
    refine KC 3 rfl (by kernel_rfl) (Nb rfl) (KM (o':=0) Try.underlying147 rfl rfl rfl sz_62 (by decide)) ?_
    refine KC 4 rfl (by kernel_rfl) (Nb rfl) (KM (o':=28) Try.underlying62 rfl rfl rfl sz_25 (by decide)) ?_
    refine LAny.take 5 rfl (by kernel_rfl) (Nb rfl) (KK rfl (by repeat (first|exact Mh _|apply Mt)) (by exact cvC_ld_n _ _ _ _ _ _ _ _ _ _ _ _ _ _ _ _)) ?_
    refine Kx 6 rfl rfl (by kernel_rfl) (KR (first:=[]) rfl en_113 rfl (Nb rfl) (fun w hw=>c_nat_Cmp U V.n hU9 hnW w) ?_)
    refine KC 7 rfl (by kernel_rfl) (Nb rfl) (KN (v:=.bool true) rfl rfl (br_t cmp_geq (h1))) ?_
    refine KC 8 rfl (by kernel_rfl) (Nb rfl) (KD rfl) ?_
    refine KAE 9 rfl rfl rfl rfl (by kernel_rfl) (Nb rfl) ?_
    refine KAE 10 rfl rfl rfl rfl (by kernel_rfl) (Nb rfl) ?_
    refine KAE 11 rfl rfl rfl rfl (by kernel_rfl) (Nb rfl) ?_
    refine KAE 12 rfl rfl rfl rfl (by kernel_rfl) (Nb rfl) ?_
    refine KAE 13 rfl rfl rfl rfl (by kernel_rfl) (Nb rfl) ?_
    refine KAE 14 rfl rfl rfl rfl (by kernel_rfl) (Nb rfl) ?_
    refine KAE 15 rfl rfl rfl rfl (by kernel_rfl) (Nb rfl) ?_
    refine KAE 16 rfl rfl rfl rfl (by kernel_rfl) (Nb rfl) ?_
    refine KC 17 rfl (by kernel_rfl) (Nb rfl) (KAI rfl rfl) ?_
    refine KC 18 rfl (by kernel_rfl) (Nb rfl) (KF rfl) ?_
    refine Kh (by kernel_rfl) ?_
    refine Kt rfl ?_
    refine KE (KB ?_)
    refine KA (KY (KAQ pl_60 zr_60 rfl rfl) (show _ = ptV 0 0 false from pt_zero)) (Nb rfl) ?_
    refine KI rfl (KP rfl rfl sz_60 (by repeat (first|exact Kl _|exact Ky _ _ _|exact Kn _|exact Kr _ _ _|exact Kz _ _ _|exact KU|refine KS rfl ?_|refine KW ?_ ?_)) (by repeat (first|exact Sh _|apply St_)) (by first|exact KH _|exact KL _ _ _|exact KJ _|exact KV _ _ _|exact Kd _ _ _|rfl|simp [KL,KH,KJ]) ?_)
    refine KA (KF (v:=.int .i64 ((2002:Nat):Int)) rfl) (Nb rfl) ?_
    refine KG (KZ ?_)
    refine ⟨[_,_],.cons ⟨_,_,_,rfl,(by repeat (first|exact Mh _|apply Mt)),by exact KO Try.underlying60 rfl sz_60⟩ (.cons rfl .nil),fun a w' hr=>⟨?_,hr.fr.below⟩⟩
    rfl
  ·
    refine Ka [] (by kernel_rfl) ?_
    refine LAny.take 0 rfl (by kernel_rfl) (Nb rfl) (KK rfl (by repeat (first|exact Mh _|apply Mt)) (by exact KO Try.underlying25 rfl sz_25)) ?_
    refine KC 1 rfl (by kernel_rfl) (Nb rfl) (KD rfl) ?_
    refine KC 2 rfl (by kernel_rfl) (Nb rfl) (Kb rfl) ?_
    refine KC 3 rfl (by kernel_rfl) (Nb rfl) (KM (o':=0) Try.underlying147 rfl rfl rfl sz_62 (by decide)) ?_
    refine KC 4 rfl (by kernel_rfl) (Nb rfl) (KM (o':=28) Try.underlying62 rfl rfl rfl sz_25 (by decide)) ?_
    refine LAny.take 5 rfl (by kernel_rfl) (Nb rfl) (KK rfl (by repeat (first|exact Mh _|apply Mt)) (by exact cvC_ld_n _ _ _ _ _ _ _ _ _ _ _ _ _ _ _ _)) ?_
    refine Kx 6 rfl rfl (by kernel_rfl) (KR (first:=[]) rfl en_113 rfl (Nb rfl) (fun w hw=>c_nat_Cmp U V.n hU9 hnW w) ?_)
    refine KC 7 rfl (by kernel_rfl) (Nb rfl) (KN (v:=.bool false) rfl rfl (br_f cmp_geq (Nat.not_le_of_gt h1))) ?_
    refine KC 8 rfl (by kernel_rfl) (Nb rfl) (KD rfl) ?_
    refine KAg 9 rfl rfl rfl (by kernel_rfl) (Nb rfl) (KK rfl (by repeat (first|exact Mh _|apply Mt)) (by exact KO Try.underlying25 rfl sz_25)) ?_
    refine KAB 10 rfl rfl rfl (by kernel_rfl) (Nb rfl) (KD rfl) ?_
    refine KAB 11 rfl rfl rfl (by kernel_rfl) (Nb rfl) (Kb rfl) ?_
    refine KAB 12 rfl rfl rfl (by kernel_rfl) (Nb rfl) (KM (o':=0) Try.underlying147 rfl rfl rfl sz_62 (by decide)) ?_
    refine KAB 13 rfl rfl rfl (by kernel_rfl) (Nb rfl) (KM (o':=28) Try.underlying62 rfl rfl rfl sz_25 (by decide)) ?_
    refine KAg 14 rfl rfl rfl (by kernel_rfl) (Nb rfl) (KK rfl (by repeat (first|exact Mh _|apply Mt)) (by exact cvC_ld_n _ _ _ _ _ _ _ _ _ _ _ _ _ _ _ _)) ?_
    refine LAny.oneG 15 rfl rfl rfl rfl (by kernel_rfl) (KR (first:=[]) rfl en_113 rfl (Nb rfl) (fun w hw=>c_nat_Cmp W V.n hW9 hnW w) ?_)
    refine KAB 16 rfl rfl rfl (by kernel_rfl) (Nb rfl) (KN (v:=.bool true) rfl rfl (br_t cmp_geq (h2))) ?_
    refine KC 17 rfl (by kernel_rfl) (Nb rfl) (KAK rfl rfl) ?_
    refine KC 18 rfl (by kernel_rfl) (Nb rfl) (KF rfl) ?_
    refine Kh (by kernel_rfl) ?_
    refine Kt rfl ?_
    refine KE (KB ?_)
    refine KA (KY (KAQ pl_60 zr_60 rfl rfl) (show _ = ptV 0 0 false from pt_zero)) (Nb rfl) ?_
    refine KI rfl (KP rfl rfl sz_60 (by repeat (first|exact Kl _|exact Ky _ _ _|exact Kn _|exact Kr _ _ _|exact Kz _ _ _|exact KU|refine KS rfl ?_|refine KW ?_ ?_)) (by repeat (first|exact Sh _|apply St_)) (by first|exact KH _|exact KL _ _ _|exact KJ _|exact KV _ _ _|exact Kd _ _ _|rfl|simp [KL,KH,KJ]) ?_)
    refine KA (KF (v:=.int .i64 ((2002:Nat):Int)) rfl) (Nb rfl) ?_
    refine KG (KZ ?_)
    refine ⟨[_,_],.cons ⟨_,_,_,rfl,(by repeat (first|exact Mh _|apply Mt)),by exact KO Try.underlying60 rfl sz_60⟩ (.cons rfl .nil),fun a w' hr=>⟨?_,hr.fr.below⟩⟩
    rfl
theorem c_dualMul (id:Int) (V:Cv) (U W:Nat) (Q:Pt V.p) (w:World) (h:cvI id = some V) (hQ:On V.A V.B Q) (hU:U<V.n) (hW:W<V.n):Calls Try.prog 77 ([.int .i64 id,natV U,natV W,ptP Q]:List Value).toArray w (fun e w'=>e = .returned (.tuple #[ptP (dualP V U W Q),.int .i64 ((0:Nat):Int)])∧Below w.heap.size w w'):=by
  obtain ⟨hok,hid⟩:=cvI_ok h
  have hbb:=hok.bounds
  have hpW:V.p<W9:=w9_521 hbb.2.1
  have hnW:V.n<W9:=w9_521 hbb.2.2.2.2.2.2.1
  have hbl:=blen_w9 hnW
  have hnb:nby V.n≤72:=by (unfold nby; omega)
  have hU9:=Nat.lt_trans hU hnW
  have hW9:=Nat.lt_trans hW hnW
  refine KAC (N:=48) (rs:=[.cell 8 60,.tmp 9]) [] Try.func77 rfl Try.ntmps77 Try.results77 (Nb rfl) trivial rfl ?_
  show LCode _ _ _ ⟨_,_⟩ _
  refine KE (KB ?_)
  refine KI rfl (KT (KQ (Ku rfl) (Nb rfl) (fun b5=>?_)))
  refine KI rfl (KT (KQ (Ku rfl) (Nb rfl) (fun b6=>?_)))
  refine KI rfl (KT (KQ (Ku rfl) (Nb rfl) (fun b7=>?_)))
  refine KI rfl (KT (KQ (Kg zr_60) (Nb rfl) (fun b8=>?_)))
  refine KA (KF (v:=.int .i64 ((0:Nat):Int)) rfl) (Nb rfl) ?_
  refine KG ?_
  refine KE (KB ?_)
  refine KA (KD rfl) (Nb rfl) ?_
  refine KI rfl (KT (Kw (Post:=fun v its=>∃ b f bd,v = .pointer (some ⟨b,0,none⟩)∧its = [.blk b ⟨false,opL V f,147,(0,0)⟩,.blk f ⟨false,fldL V.p bd,194,(0,0)⟩,.blk bd ⟨false,dvL V.p,241,(0,0)⟩]) (first:=[]) rfl en_112 rfl (Nb rfl) (fun w1 hw hs=>(c_Open _ V w1 h).mono fun e w' ⟨b,f,bd,h1,h2,h3,h4,h5,h6,h7,h8⟩=>⟨_,_,⟨b,f,bd,rfl,rfl⟩,h1,Brings.nums h8 (by intro x hx; simp at hx; rcases hx with rfl|rfl|rfl; exact h2; exact h3; exact h4) (by intro x hx; simp at hx; rcases hx with rfl|rfl|rfl <;> rfl) (by intro x hx k hk; simp at hx; rcases hx with rfl|rfl|rfl <;> simp [Item.fp] at hk <;> subst hk; exact .inl h5; exact .inl h6; exact .inl h7)⟩) ?_))
  rintro _ _ ⟨b,f,bd,rfl,rfl⟩
  refine KA (KF rfl) (Nb rfl) ?_
  refine KG ?_
  refine KE ?_
  refine LCode.block ?_
  refine KE (KB ?_)
  refine KA (KD rfl) (Nb rfl) ?_
  refine KA (KY (Det.eqp Try.underlying142 rfl rfl) (show _ = Value.bool false from rfl)) (Nb rfl) ?_
  refine KA (KF rfl) (Nb rfl) ?_
  refine KG ?_
  refine Km rfl ?_
  refine KE (KB ?_)
  refine KA (KD rfl) (Nb rfl) ?_
  refine LOps.det (KK rfl (by repeat (first|exact Mh _|apply Mt)) (by exact KO Try.underlying60 rfl sz_60)) (Nb rfl) ?_
  refine KI rfl (KT (KR (first:=[]) rfl en_122 rfl (Nb rfl) (fun w hw=>c_cOnP V b f bd hok (Q) w (hw _ (by repeat (first|exact Mh _|apply Mt))) (hw _ (by repeat (first|exact Mh _|apply Mt))) (hw _ (by repeat (first|exact Mh _|apply Mt))) hQ) ?_))
  refine KA (KY (Det.not rfl) (show _ = Value.bool false from rfl)) (Nb rfl) ?_
  refine KA (KF rfl) (Nb rfl) ?_
  refine KG ?_
  refine Km rfl ?_
  refine KE ?_
  refine Ka [] (by kernel_rfl) ?_
  refine LAny.take 0 rfl (by kernel_rfl) (Nb rfl) (KK rfl (by repeat (first|exact Mh _|apply Mt)) (by exact KO Try.underlying25 rfl sz_25)) ?_
  refine KC 1 rfl (by kernel_rfl) (Nb rfl) (KD rfl) ?_
  refine KC 2 rfl (by kernel_rfl) (Nb rfl) (Kb rfl) ?_
  refine KC 3 rfl (by kernel_rfl) (Nb rfl) (KM (o':=0) Try.underlying147 rfl rfl rfl sz_62 (by decide)) ?_
  refine KC 4 rfl (by kernel_rfl) (Nb rfl) (KM (o':=28) Try.underlying62 rfl rfl rfl sz_25 (by decide)) ?_
  refine LAny.take 5 rfl (by kernel_rfl) (Nb rfl) (KK rfl (by repeat (first|exact Mh _|apply Mt)) (by exact cvC_ld_n _ _ _ _ _ _ _ _ _ _ _ _ _ _ _ _)) ?_
  refine Kx 6 rfl rfl (by kernel_rfl) (KR (first:=[]) rfl en_113 rfl (Nb rfl) (fun w hw=>c_nat_Cmp U V.n hU9 hnW w) ?_)
  refine KC 7 rfl (by kernel_rfl) (Nb rfl) (KN (v:=.bool false) rfl rfl (br_f cmp_geq (Nat.not_le_of_gt hU))) ?_
  refine KC 8 rfl (by kernel_rfl) (Nb rfl) (KD rfl) ?_
  refine KAg 9 rfl rfl rfl (by kernel_rfl) (Nb rfl) (KK rfl (by repeat (first|exact Mh _|apply Mt)) (by exact KO Try.underlying25 rfl sz_25)) ?_
  refine KAB 10 rfl rfl rfl (by kernel_rfl) (Nb rfl) (KD rfl) ?_
  refine KAB 11 rfl rfl rfl (by kernel_rfl) (Nb rfl) (Kb rfl) ?_
  refine KAB 12 rfl rfl rfl (by kernel_rfl) (Nb rfl) (KM (o':=0) Try.underlying147 rfl rfl rfl sz_62 (by decide)) ?_
  refine KAB 13 rfl rfl rfl (by kernel_rfl) (Nb rfl) (KM (o':=28) Try.underlying62 rfl rfl rfl sz_25 (by decide)) ?_
  refine KAg 14 rfl rfl rfl (by kernel_rfl) (Nb rfl) (KK rfl (by repeat (first|exact Mh _|apply Mt)) (by exact cvC_ld_n _ _ _ _ _ _ _ _ _ _ _ _ _ _ _ _)) ?_
  refine LAny.oneG 15 rfl rfl rfl rfl (by kernel_rfl) (KR (first:=[]) rfl en_113 rfl (Nb rfl) (fun w hw=>c_nat_Cmp W V.n hW9 hnW w) ?_)
  refine KAB 16 rfl rfl rfl (by kernel_rfl) (Nb rfl) (KN (v:=.bool false) rfl rfl (br_f cmp_geq (Nat.not_le_of_gt hW))) ?_
  refine KC 17 rfl (by kernel_rfl) (Nb rfl) (KAK rfl rfl) ?_
  refine KC 18 rfl (by kernel_rfl) (Nb rfl) (KF rfl) ?_
  refine Kh (by kernel_rfl) ?_
  refine Km rfl ?_
  refine Kf ?_
  refine KE (KB ?_)
  refine KA (KD rfl) (Nb rfl) ?_
  refine LOps.det (KK rfl (by repeat (first|exact Mh _|apply Mt)) (by exact KO Try.underlying25 rfl sz_25)) (Nb rfl) ?_
  refine LOps.det (KK rfl (by repeat (first|exact Mh _|apply Mt)) (by exact KO Try.underlying25 rfl sz_25)) (Nb rfl) ?_
  refine LOps.det (KK rfl (by repeat (first|exact Mh _|apply Mt)) (by exact KO Try.underlying60 rfl sz_60)) (Nb rfl) ?_
  refine KI rfl (KT (KR (first:=[]) rfl en_124 rfl (Nb rfl) (fun w hw=>c_dualTimes V b f bd hok U W Q hQ hU hW w (hw _ (by repeat (first|exact Mh _|apply Mt))) (hw _ (by repeat (first|exact Mh _|apply Mt))) (hw _ (by repeat (first|exact Mh _|apply Mt)))) ?_))
  refine KI rfl (KP rfl rfl sz_60 (by repeat (first|exact Kl _|exact Ky _ _ _|exact Kn _|exact Kr _ _ _|exact Kz _ _ _|exact KU|refine KS rfl ?_|refine KW ?_ ?_)) (by repeat (first|exact Sh _|apply St_)) (by first|exact KH _|exact KL _ _ _|exact KJ _|exact KV _ _ _|exact Kd _ _ _|rfl|simp [KL,KH,KJ]) ?_)
  refine KA (KF (v:=.int .i64 ((0:Nat):Int)) rfl) (Nb rfl) ?_
  refine KG (KZ ?_)
  refine ⟨[_,_],.cons ⟨_,_,_,rfl,(by repeat (first|exact Mh _|apply Mt)),by exact KO Try.underlying60 rfl sz_60⟩ (.cons rfl .nil),fun a w' hr=>⟨?_,hr.fr.below⟩⟩
  rfl
end Go.Proofs.Ytljblbgogjieaaa
set_option linter.unusedVariables false
set_option linter.unusedSimpArgs false
set_option maxRecDepth 20000
namespace Go.Proofs.Ytljblbgogjieaaa
open Go Go.RowKit
open Grp
theorem c_r_GP (Q:CQ) (V:Cv) (w:World) (hc:(crvI Q V).holds w) (hok:V.Ok):Calls Try.prog 80 ([.agg (crvL Q V).toArray]:List Value).toArray w (fun e w'=>Num2R w (crvI Q V).fp (xv V.G) (yv V.G) (fun u v=>rpV u v (iv V.G)) e w'):=by
  rw [xG hok,yG hok]
  exact c_r_G Q V w hc
theorem c_r_OnB (Q:CQ) (V:Cv) (q r:NV) (X Y:Nat) (i b:Bool) (w:World) (hc:(crvI Q V).holds w) (hok:V.Ok) (hq:(numT q X).holds w) (hr:(numT r Y).holds w) (hX:D.nw X≤1000) (hY:D.nw Y≤1000) (hb:onB V.p V.a V.b X Y i = b):Calls Try.prog 62 ([.agg (crvL Q V).toArray,rpV (numV q X) (numV r Y) i]:List Value).toArray w (fun e w'=>e = .returned (.bool b)∧Below w.heap.size w w'):=by
  have:=c_r_On Q V q r X Y i w hc hok hq hr hX hY
  rwa [hb] at this
theorem c_r_OnP (Q:CQ) (V:Cv) (q r:NV) (P:Pt V.p) (w:World) (hc:(crvI Q V).holds w) (hok:V.Ok) (hq:(numT q (xv P)).holds w) (hr:(numT r (yv P)).holds w) (hP:On V.A V.B P):Calls Try.prog 62 ([.agg (crvL Q V).toArray,rpV (numV q (xv P)) (numV r (yv P)) (iv P)]:List Value).toArray w (fun e w'=>e = .returned (.bool true)∧Below w.heap.size w w') :=
  c_r_OnB Q V q r _ _ _ true w hc hok hq hr (Nat.le_trans (nw_521 (Nat.lt_trans (xv_lt P) hok.bounds.2.1)) (by decide)) (Nat.le_trans (nw_521 (Nat.lt_trans (yv_lt P) hok.bounds.2.1)) (by decide)) (onB_on hP)
theorem c_r_OutP (V:Cv) (q r:NV) (P:Pt V.p) (w:World) (hq:(numT q (xv P)).holds w) (hr:(numT r (yv P)).holds w):Calls Try.prog 66 ([rpV (numV q (xv P)) (numV r (yv P)) (iv P)]:List Value).toArray w (fun e w'=>e = .returned (ptP P)∧Below w.heap.size w w'):=c_r_Out q r (xv P) (yv P) (iv P) w hq hr
theorem c_r_InP (V:Cv) (hok:V.Ok) (P:Pt V.p) (w:World):Calls Try.prog 63 ([ptP P]:List Value).toArray w (fun e w'=>Num2R w [] (xv P) (yv P) (fun u v=>rpV u v (iv P)) e w'):=c_r_In (xv P) (yv P) (iv P) w (pt_w9 hok P).1 (pt_w9 hok P).2
theorem c_awake20  (w:World)  : Calls Try.prog 78 ([]:List Value).toArray w (fun e w'=>e = .returned (.bool true)∧Below w.heap.size w w'):=by
  obtain ⟨V,hV⟩:∃ V,V = cv13:=⟨_,rfl⟩
  have h:cvI 13 = some V:=by rw [hV]; rfl
  obtain ⟨hok,hid⟩:=cvI_ok h
  have hn13:V.n = 223:=by rw [hV]; rfl
  obtain ⟨hb5,hb521,hba,hbb,hbx,hby,hbn,hbo,hbo2,hbb1,hbn1⟩:=hok.bounds
  have hsz:=hok.sz
  have hsp:=hsz.p
  have hsa:=hsz.a
  have hsb:=hsz.b
  have hp0:V.p≠0:=by omega
  have hpp:0<V.p:=by omega
  have hm17:∀ k,D.nw (k%V.p)≤17:=fun k=>Nat.le_trans (D.nw_mono (Nat.le_of_lt (Nat.mod_lt k hpp))) hsp
  refine KAC (N:=62) (rs:=[.tmp 0]) [] Try.func78 rfl Try.ntmps78 Try.results78 (Nb rfl) trivial rfl ?_
  show LCode _ _ _ ⟨_,_⟩ _
  refine KE (KB ?_)
  refine KA (KF rfl) (Nb rfl) ?_
  refine KG ?_
  refine KE (KB ?_)
  refine KI rfl (KT (Kw (Post:=fun v its=>∃ Q,v = .tuple #[.agg (crvL Q V).toArray,.bool true]∧its = [crvI Q V]) (first:=[]) rfl en_43 rfl (Nb rfl) (fun w1 hw hs=>(c_r_Get _ V w1 h).mono fun e w' ⟨Q,h1,h2,h3,h4⟩=>⟨_,_,⟨Q,rfl,rfl⟩,h1,Brings.nums h4 (by intro x hx; simp at hx; subst hx; exact h2) (by intro x hx; simp at hx; subst hx; rfl) (by intro x hx k hk; simp at hx; subst hx; exact .inl (h3 k hk))⟩) ?_))
  rintro _ _ ⟨Q,rfl,rfl⟩
  refine KA (KD rfl) (Nb rfl) ?_
  refine KA (Ki rfl rfl) (Nb rfl) ?_
  refine KA (Ki rfl rfl) (Nb rfl) ?_
  refine KI rfl (KT (KQ (Kg zr_31) (Nb rfl) (fun b1=>?_)))
  refine KI rfl (KP rfl rfl sz_31 (by repeat (first|exact KU|refine KS rfl ?_)) (by repeat (first|exact Sh _|apply St_)) (by rfl) ?_)
  refine KA (KF rfl) (Nb rfl) ?_
  refine KG ?_
  refine KE (KB ?_)
  refine LOps.det (KK rfl (by repeat (first|exact Mh _|apply Mt)) (by exact KO Try.underlying31 rfl sz_31)) (Nb rfl) ?_
  refine KI rfl (KT (Kw (first:=[]) rfl en_80 rfl (Nb rfl) (fun w hw hs=>(c_r_GP Q V w (hw _ (by repeat (first|exact Mh _|apply Mt))) hok).mono fun e w' h=>Num2R.q (Old.one (x:=crvI Q V) (by repeat (first|exact Mh _|apply Mt)) rfl) hs h) ?_))
  rintro _ _ ⟨qga,qgb,rfl,rfl,hnga,hngb⟩
  refine KI rfl (KT (KR (first:=[]) rfl en_66 rfl (Nb rfl) (fun w hw=>c_r_OutP V qga qgb (V.G) w (hw _ (by repeat (first|exact Mh _|apply Mt))) (hw _ (by repeat (first|exact Mh _|apply Mt)))) ?_))
  refine KI rfl (KT (KQ (Kg zr_60) (Nb rfl) (fun b3=>?_)))
  refine KI rfl (KP rfl rfl sz_60 (by exact Kr _ _ _) (by repeat (first|exact Sh _|apply St_)) (by exact KV _ _ _) ?_)
  refine KG ?_
  refine KE ?_
  refine Ka [8] (by kernel_rfl) ?_
  refine LAny.take 2 rfl (by kernel_rfl) (Nb rfl) (KK rfl (by repeat (first|exact Mh _|apply Mt)) (by exact KO Try.underlying60 rfl sz_60)) ?_
  refine LAny.toP ?_
  refine KAV 7 rfl (.inl zr_60) (Nb rfl) rfl rfl rfl ?_
  refine KAA 0 rfl rfl rfl (Nb rfl) (by kernel_rfl) rfl (KAM (first:=[]) rfl en_55 rfl (fun w hw=>c_One _ w (by first|omega|decide))) ?_
  rintro _ _ ⟨rfl,rfl⟩
  refine KAA 1 rfl rfl rfl (Nb rfl) (by kernel_rfl) rfl (KAM (first:=[]) rfl en_55 rfl (fun w hw=>c_One _ w (by first|omega|decide))) ?_
  rintro _ _ ⟨rfl,rfl⟩
  refine KAA 3 rfl rfl rfl (Nb rfl) (by kernel_rfl) rfl (KAM (first:=[]) rfl en_77 rfl (fun w hw=>c_dualMul 13 V 1 1 V.G w h hok.on (by omega) (by omega))) ?_
  rintro _ _ ⟨rfl,rfl⟩
  refine KAU 4 rfl (by kernel_rfl) (Nb rfl) rfl (KD rfl) ?_
  refine KAU 5 rfl (by kernel_rfl) (Nb rfl) rfl (Ki rfl rfl) ?_
  refine KAU 6 rfl (by kernel_rfl) (Nb rfl) rfl (Ki rfl rfl) ?_
  refine KAb (by kernel_rfl) (fun b4=>?_)
  refine KAX ?_
  refine Ko 8 rfl rfl (by kernel_rfl) (by kernel_rfl) (KP rfl rfl sz_60 (by exact Kr _ _ _) (by repeat (first|exact Sh _|apply St_)) (by exact KV _ _ _) ?_)
  refine KC 9 rfl (by kernel_rfl) (Nb rfl) (KF rfl) ?_
  refine Kh (by kernel_rfl) ?_
  refine KE ?_
  refine Ka [8] (by kernel_rfl) ?_
  refine LAny.take 2 rfl (by kernel_rfl) (Nb rfl) (KK rfl (by repeat (first|exact Mh _|apply Mt)) (by exact KO Try.underlying60 rfl sz_60)) ?_
  refine LAny.toP ?_
  refine KAV 7 rfl (.inl zr_60) (Nb rfl) rfl rfl rfl ?_
  refine KAA 0 rfl rfl rfl (Nb rfl) (by kernel_rfl) rfl (KAM (first:=[]) rfl en_55 rfl (fun w hw=>c_One _ w (by first|omega|decide))) ?_
  rintro _ _ ⟨rfl,rfl⟩
  refine KAA 1 rfl rfl rfl (Nb rfl) (by kernel_rfl) rfl (KAM (first:=[]) rfl en_55 rfl (fun w hw=>c_One _ w (by first|omega|decide))) ?_
  rintro _ _ ⟨rfl,rfl⟩
  refine KAA 3 rfl rfl rfl (Nb rfl) (by kernel_rfl) rfl (KAM (first:=[]) rfl en_77 rfl (fun w hw=>c_dualMul_range 13 V 223 1 V.G w h hok.on (u64_w9 (by decide)) (u64_w9 (by decide)) (.inl (by omega)))) ?_
  rintro _ _ ⟨rfl,rfl⟩
  refine KAU 4 rfl (by kernel_rfl) (Nb rfl) rfl (KD rfl) ?_
  refine KAU 5 rfl (by kernel_rfl) (Nb rfl) rfl (Ki rfl rfl) ?_
  refine KAU 6 rfl (by kernel_rfl) (Nb rfl) rfl (Ki rfl rfl) ?_
  refine KAb (by kernel_rfl) (fun b6=>?_)
  refine KAX ?_
  refine Ko 8 rfl rfl (by kernel_rfl) (by kernel_rfl) (KP rfl rfl sz_60 (by exact Kr _ _ _) (by repeat (first|exact Sh _|apply St_)) (by exact KV _ _ _) ?_)
  refine KC 9 rfl (by kernel_rfl) (Nb rfl) (KF rfl) ?_
  refine Kh (by kernel_rfl) ?_
  refine KE ?_
  refine Ka [8] (by kernel_rfl) ?_
  refine LAny.take 2 rfl (by kernel_rfl) (Nb rfl) (KK rfl (by repeat (first|exact Mh _|apply Mt)) (by exact KO Try.underlying60 rfl sz_60)) ?_
  refine LAny.toP ?_
  refine KAV 7 rfl (.inl zr_60) (Nb rfl) rfl rfl rfl ?_
  refine KAA 0 rfl rfl rfl (Nb rfl) (by kernel_rfl) rfl (KAM (first:=[]) rfl en_55 rfl (fun w hw=>c_One _ w (by first|omega|decide))) ?_
  rintro _ _ ⟨rfl,rfl⟩
  refine KAA 1 rfl rfl rfl (Nb rfl) (by kernel_rfl) rfl (KAM (first:=[]) rfl en_55 rfl (fun w hw=>c_One _ w (by first|omega|decide))) ?_
  rintro _ _ ⟨rfl,rfl⟩
  refine KAA 3 rfl rfl rfl (Nb rfl) (by kernel_rfl) rfl (KAM (first:=[]) rfl en_77 rfl (fun w hw=>c_dualMul_none 0 1 1 (xv V.G) (yv V.G) (iv V.G) w rfl)) ?_
  rintro _ _ ⟨rfl,rfl⟩
  refine KAU 4 rfl (by kernel_rfl) (Nb rfl) rfl (KD rfl) ?_
  refine KAU 5 rfl (by kernel_rfl) (Nb rfl) rfl (Ki rfl rfl) ?_
  refine KAU 6 rfl (by kernel_rfl) (Nb rfl) rfl (Ki rfl rfl) ?_
  refine KAb (by kernel_rfl) (fun b8=>?_)
  refine KAX ?_
  refine Ko 8 rfl rfl (by kernel_rfl) (by kernel_rfl) (KP rfl rfl sz_60 (by exact Kr _ _ _) (by repeat (first|exact Sh _|apply St_)) (by exact KV _ _ _) ?_)
  refine KC 9 rfl (by kernel_rfl) (Nb rfl) (KF rfl) ?_
  refine Kh (by kernel_rfl) ?_
  refine KE ?_
  refine Ka [] (by kernel_rfl) ?_
  refine KC 0 rfl (by kernel_rfl) (Nb rfl) (KD rfl) ?_
  refine Kx 1 rfl rfl (by kernel_rfl) (KR (first:=[]) rfl en_46 rfl (Nb rfl) (fun w hw=>c_Num _ w) ?_)
  refine KC 2 rfl (by kernel_rfl) (Nb rfl) (KN (v:=.bool true) rfl rfl (br_t (br_eql (b:=0)) (by first|rfl|assumption|omega|(simp; done)))) ?_
  refine KC 3 rfl (by kernel_rfl) (Nb rfl) (KD rfl) ?_
  refine KAg 4 rfl rfl rfl (by kernel_rfl) (Nb rfl) (KK rfl (by repeat (first|exact Mh _|apply Mt)) (by exact KO Try.underlying60 rfl sz_60)) ?_
  refine KAg 5 rfl rfl rfl (by kernel_rfl) (Nb rfl) (KK rfl (by repeat (first|exact Mh _|apply Mt)) (by exact KO Try.underlying31 rfl sz_31)) ?_
  refine KAg 6 rfl rfl rfl (by kernel_rfl) (Nb rfl) (KK rfl (by repeat (first|exact Mh _|apply Mt)) (by exact KO Try.underlying31 rfl sz_31)) ?_
  refine KAg 8 rfl rfl rfl (by kernel_rfl) (Nb rfl) (KK rfl (by repeat (first|exact Mh _|apply Mt)) (by exact KO Try.underlying31 rfl sz_31)) ?_
  refine LAny.oneG 7 rfl rfl rfl rfl (by kernel_rfl) (Kw (first:=[]) rfl en_80 rfl (Nb rfl) (fun w hw hs=>(c_r_GP Q V w (hw _ (by repeat (first|exact Mh _|apply Mt))) hok).mono fun e w' h=>Num2R.q (Old.one (x:=crvI Q V) (by repeat (first|exact Mh _|apply Mt)) rfl) hs h) ?_)
  rintro _ _ ⟨qka,qkb,rfl,rfl,hnka,hnkb⟩
  refine LAny.oneG 9 rfl rfl rfl rfl (by kernel_rfl) (Kw (first:=[]) rfl en_80 rfl (Nb rfl) (fun w hw hs=>(c_r_GP Q V w (hw _ (by repeat (first|exact Mh _|apply Mt))) hok).mono fun e w' h=>Num2R.q (Old.one (x:=crvI Q V) (by repeat (first|exact Mh _|apply Mt)) rfl) hs h) ?_)
  rintro _ _ ⟨qla,qlb,rfl,rfl,hnla,hnlb⟩
  refine LAny.oneG 10 rfl rfl rfl rfl (by kernel_rfl) (Kw (first:=[]) rfl en_79 rfl (Nb rfl) (fun w hw hs=>(c_r_Plus Q V qka qkb qla qlb (V.G) (V.G) (padd V.A V.G V.G) w (hw _ (by repeat (first|exact Mh _|apply Mt))) hok (hw _ (by repeat (first|exact Mh _|apply Mt))) (hw _ (by repeat (first|exact Mh _|apply Mt))) (hw _ (by repeat (first|exact Mh _|apply Mt))) (hw _ (by repeat (first|exact Mh _|apply Mt))) (hok.on) (hok.on) (rfl)).mono fun e w' h=>Num2R.q (Old.pt (by repeat (first|exact Mh _|apply Mt)) (by repeat (first|exact Mh _|apply Mt)) (Old.pt (by repeat (first|exact Mh _|apply Mt)) (by repeat (first|exact Mh _|apply Mt)) (Old.nil _))) hs h) ?_)
  rintro _ _ ⟨qsa,qsb,rfl,rfl,hnsa,hnsb⟩
  refine LAny.oneG 11 rfl rfl rfl rfl (by kernel_rfl) (KR (first:=[]) rfl en_66 rfl (Nb rfl) (fun w hw=>c_r_OutP V qsa qsb (padd V.A V.G V.G) w (hw _ (by repeat (first|exact Mh _|apply Mt))) (hw _ (by repeat (first|exact Mh _|apply Mt)))) ?_)
  refine KAB 12 rfl rfl rfl (by kernel_rfl) (Nb rfl) (KY (Det.eqa (by kernel_rfl) (fun w=>eq_ptP_t hok (P:=dualP V 1 1 V.G) (Q:=padd V.A V.G V.G) (by unfold dualP; rw [pmul_one hok.fld hok.on]) 10000 (by decide) w) rfl rfl) (show _ = Value.bool true by rfl)) ?_
  refine KC 13 rfl (by kernel_rfl) (Nb rfl) (KAI rfl rfl) ?_
  refine KC 14 rfl (by kernel_rfl) (Nb rfl) (KD rfl) ?_
  refine KAB 15 rfl rfl rfl (by kernel_rfl) (Nb rfl) (KD rfl) ?_
  refine LAny.oneG 16 rfl rfl rfl rfl (by kernel_rfl) (KR (first:=[]) rfl en_46 rfl (Nb rfl) (fun w hw=>c_Num _ w) ?_)
  refine KAB 17 rfl rfl rfl (by kernel_rfl) (Nb rfl) (KN (v:=.bool true) rfl rfl (br_t (br_eql (b:=2002)) (by first|rfl|assumption|omega|(simp; done)))) ?_
  refine KC 18 rfl (by kernel_rfl) (Nb rfl) (KAI rfl rfl) ?_
  refine KC 19 rfl (by kernel_rfl) (Nb rfl) (KD rfl) ?_
  refine KAB 20 rfl rfl rfl (by kernel_rfl) (Nb rfl) (KD rfl) ?_
  refine LAny.oneG 21 rfl rfl rfl rfl (by kernel_rfl) (KR (first:=[]) rfl en_46 rfl (Nb rfl) (fun w hw=>c_Num _ w) ?_)
  refine KAB 22 rfl rfl rfl (by kernel_rfl) (Nb rfl) (KN (v:=.bool true) rfl rfl (br_t (br_eql (b:=2000)) (by first|rfl|assumption|omega|(simp; done)))) ?_
  refine KC 23 rfl (by kernel_rfl) (Nb rfl) (KAI rfl rfl) ?_
  refine KC 24 rfl (by kernel_rfl) (Nb rfl) (KF rfl) ?_
  refine Kh (by kernel_rfl) ?_
  refine KZ ?_
  refine ⟨[_],.cons rfl .nil,fun a w' hr=>⟨?_,hr.fr.below⟩⟩
  rfl
theorem c_Duals_none (id:Int) (U W X Y:Nat) (i:Bool) (w:World) (h:cvI id = none) (hU9:U<W9) (hW9:W<W9) (hX:X<W9) (hY:Y<W9):Calls Try.prog 13 ([.int .i64 id,natV U,natV W,ptV X Y i]:List Value).toArray w (fun e w'=>e = .returned (.bool true)∧Below w.heap.size w w'):=by
  refine KAC (N:=113) (rs:=[.tmp 8]) [] Try.func13 rfl Try.ntmps13 Try.results13 (Nb rfl) trivial rfl ?_
  show LCode _ _ _ ⟨_,_⟩ _
  refine KE (KB ?_)
  refine KI rfl (KT (KQ (Ku rfl) (Nb rfl) (fun b5=>?_)))
  refine KI rfl (KT (KQ (Ku rfl) (Nb rfl) (fun b6=>?_)))
  refine KI rfl (KT (KQ (Ku rfl) (Nb rfl) (fun b7=>?_)))
  refine KA (KF rfl) (Nb rfl) ?_
  refine KG ?_
  refine KE (KB ?_)
  refine KA (KD rfl) (Nb rfl) ?_
  refine KI rfl (KT (KR (first:=[]) rfl en_43 rfl (Nb rfl) (fun w hw=>c_r_Get_none _ w h) ?_))
  refine KA (KD rfl) (Nb rfl) ?_
  refine KA (Ki rfl rfl) (Nb rfl) ?_
  refine KA (Ki rfl rfl) (Nb rfl) ?_
  refine KI rfl (KT (KQ (Kg zr_31) (Nb rfl) (fun b9=>?_)))
  refine KI rfl (KP rfl rfl sz_31 (by repeat (first|exact KU|refine KS rfl ?_)) (by repeat (first|exact Sh _|apply St_)) (by rfl) ?_)
  refine KA (KF rfl) (Nb rfl) ?_
  refine KG ?_
  refine KE (KB ?_)
  refine KA (KD rfl) (Nb rfl) ?_
  refine LOps.det (KK rfl (by repeat (first|exact Mh _|apply Mt)) (by exact KO Try.underlying25 rfl sz_25)) (Nb rfl) ?_
  refine LOps.det (KK rfl (by repeat (first|exact Mh _|apply Mt)) (by exact KO Try.underlying25 rfl sz_25)) (Nb rfl) ?_
  refine LOps.det (KK rfl (by repeat (first|exact Mh _|apply Mt)) (by exact KO Try.underlying60 rfl sz_60)) (Nb rfl) ?_
  refine KI rfl (KT (KR (first:=[]) rfl en_77 rfl (Nb rfl) (fun w hw=>c_dualMul_none id U W X Y i w h) ?_))
  refine KA (KD rfl) (Nb rfl) ?_
  refine KA (Ki rfl rfl) (Nb rfl) ?_
  refine KA (Ki rfl rfl) (Nb rfl) ?_
  refine KI rfl (KT (KQ (Kg zr_60) (Nb rfl) (fun b11=>?_)))
  refine KI rfl (KP rfl rfl sz_60 (by exact Kr _ _ _) (by repeat (first|exact Sh _|apply St_)) (by exact KV _ _ _) ?_)
  refine KA (KF rfl) (Nb rfl) ?_
  refine KG ?_
  refine KE ?_
  refine Ka [9] (by kernel_rfl) ?_
  refine LAny.take 0 rfl (by kernel_rfl) (Nb rfl) (KK rfl (by repeat (first|exact Mh _|apply Mt)) (by exact KO Try.underlying25 rfl sz_25)) ?_
  refine LAny.take 2 rfl (by kernel_rfl) (Nb rfl) (KK rfl (by repeat (first|exact Mh _|apply Mt)) (by exact KO Try.underlying25 rfl sz_25)) ?_
  refine LAny.take 4 rfl (by kernel_rfl) (Nb rfl) (KK rfl (by repeat (first|exact Mh _|apply Mt)) (by exact KO Try.underlying60 rfl sz_60)) ?_
  refine LAny.toP ?_
  refine KAV 6 rfl (.inl zr_73) (Nb rfl) rfl rfl rfl ?_
  refine KAA 1 rfl rfl rfl (Nb rfl) (by kernel_rfl) rfl (KAm (first:=[]) rfl en_52 rfl (fun w hw hs=>(c_n_From (U) hU9 w).mono fun e w' h=>KAe (Old.nil _) hs h)) ?_
  rintro _ _ ⟨qu,rfl,rfl,hnu⟩
  refine KAA 3 rfl rfl rfl (Nb rfl) (by kernel_rfl) rfl (KAm (first:=[]) rfl en_52 rfl (fun w hw hs=>(c_n_From (W) hW9 w).mono fun e w' h=>KAe (Old.nil _) hs h)) ?_
  rintro _ _ ⟨qv,rfl,rfl,hnv⟩
  refine KAA 5 rfl rfl rfl (Nb rfl) (by kernel_rfl) rfl (KAm (first:=[]) rfl en_63 rfl (fun w hw hs=>(c_r_In X Y i w hX hY).mono fun e w' h=>Num2R.q (Old.nil _) hs h)) ?_
  rintro _ _ ⟨qpa,qpb,rfl,rfl,hnpa,hnpb⟩
  refine KAb (by kernel_rfl) (fun b15=>?_)
  refine KAX ?_
  refine KC 7 rfl (by kernel_rfl) (Nb rfl) (KF rfl) ?_
  refine KC 8 rfl (by kernel_rfl) (Nb rfl) (KF rfl) ?_
  refine Ko 9 rfl rfl (by kernel_rfl) (by kernel_rfl) (KP rfl rfl sz_73 (by repeat (first|exact KU|refine KS rfl ?_)) (by repeat (first|exact Sh _|apply St_)) (by rfl) ?_)
  refine Kh (by kernel_rfl) ?_
  refine KE ?_
  refine LCode.block ?_
  refine KE (KB ?_)
  refine KA (KD rfl) (Nb rfl) ?_
  refine KA (KY (Det.not rfl) (show _ = Value.bool true from rfl)) (Nb rfl) ?_
  refine KA (KF rfl) (Nb rfl) ?_
  refine KG ?_
  refine Kt rfl ?_
  refine KE (KB ?_)
  refine KA (KD rfl) (Nb rfl) ?_
  refine KI rfl (KT (KR (first:=[]) rfl en_46 rfl (Nb rfl) (fun w hw=>c_Num _ w) ?_))
  refine KA (KN (v:=.bool true) rfl rfl (br_t (br_eql (b:=2000)) (by first|rfl|assumption|omega|(simp; done)))) (Nb rfl) ?_
  refine KA (KD rfl) (Nb rfl) ?_
  refine KAr rfl rfl (KK rfl (by repeat (first|exact Mh _|apply Mt)) (by exact KO Try.underlying60 rfl sz_60)) (Nb rfl) ?_
  refine Kj rfl rfl (KY (KAQ pl_60 zr_60 rfl rfl) (show _ = ptV 0 0 false from pt_zero)) (Nb rfl) ?_
  refine Kj rfl rfl (KY (Det.eqa (by kernel_rfl) (fun w=>eq_pt_t zero_w9 zero_w9 10000 (by decide) w) rfl rfl) (show _ = Value.bool true by rfl)) (Nb rfl) ?_
  refine KA (KAI rfl rfl) (Nb rfl) ?_
  refine KA (KD rfl) (Nb rfl) ?_
  refine LOps.stepG rfl rfl rfl (KT (KR (first:=[]) rfl en_78 rfl (Nb rfl) (fun w hw=>c_awake20 w) ?_))
  refine KA (KAI rfl rfl) (Nb rfl) ?_
  refine KA (KF rfl) (Nb rfl) ?_
  refine KG (KZ ?_)
  refine ⟨[_],.cons rfl .nil,fun a w' hr=>⟨?_,hr.fr.below⟩⟩
  rfl
theorem c_Duals_off (id:Int) (V:Cv) (U W X Y:Nat) (i:Bool) (w:World) (h:cvI id = some V) (hU9:U<W9) (hW9:W<W9) (hX:X<W9) (hY:Y<W9) (ho:onB V.p V.a V.b X Y i = false):Calls Try.prog 13 ([.int .i64 id,natV U,natV W,ptV X Y i]:List Value).toArray w (fun e w'=>e = .returned (.bool true)∧Below w.heap.size w w'):=by
  obtain ⟨hok,hid⟩:=cvI_ok h
  have hdx:=nw_w9_dig hX
  have hdy:=nw_w9_dig hY
  refine KAC (N:=113) (rs:=[.tmp 8]) [] Try.func13 rfl Try.ntmps13 Try.results13 (Nb rfl) trivial rfl ?_
  show LCode _ _ _ ⟨_,_⟩ _
  refine KE (KB ?_)
  refine KI rfl (KT (KQ (Ku rfl) (Nb rfl) (fun b5=>?_)))
  refine KI rfl (KT (KQ (Ku rfl) (Nb rfl) (fun b6=>?_)))
  refine KI rfl (KT (KQ (Ku rfl) (Nb rfl) (fun b7=>?_)))
  refine KA (KF rfl) (Nb rfl) ?_
  refine KG ?_
  refine KE (KB ?_)
  refine KA (KD rfl) (Nb rfl) ?_
  refine KI rfl (KT (Kw (Post:=fun v its=>∃ Q,v = .tuple #[.agg (crvL Q V).toArray,.bool true]∧its = [crvI Q V]) (first:=[]) rfl en_43 rfl (Nb rfl) (fun w1 hw hs=>(c_r_Get _ V w1 h).mono fun e w' ⟨Q,h1,h2,h3,h4⟩=>⟨_,_,⟨Q,rfl,rfl⟩,h1,Brings.nums h4 (by intro x hx; simp at hx; subst hx; exact h2) (by intro x hx; simp at hx; subst hx; rfl) (by intro x hx k hk; simp at hx; subst hx; exact .inl (h3 k hk))⟩) ?_))
  rintro _ _ ⟨Q,rfl,rfl⟩
  refine KA (KD rfl) (Nb rfl) ?_
  refine KA (Ki rfl rfl) (Nb rfl) ?_
  refine KA (Ki rfl rfl) (Nb rfl) ?_
  refine KI rfl (KT (KQ (Kg zr_31) (Nb rfl) (fun b9=>?_)))
  refine KI rfl (KP rfl rfl sz_31 (by repeat (first|exact KU|refine KS rfl ?_)) (by repeat (first|exact Sh _|apply St_)) (by rfl) ?_)
  refine KA (KF rfl) (Nb rfl) ?_
  refine KG ?_
  refine KE (KB ?_)
  refine KA (KD rfl) (Nb rfl) ?_
  refine LOps.det (KK rfl (by repeat (first|exact Mh _|apply Mt)) (by exact KO Try.underlying25 rfl sz_25)) (Nb rfl) ?_
  refine LOps.det (KK rfl (by repeat (first|exact Mh _|apply Mt)) (by exact KO Try.underlying25 rfl sz_25)) (Nb rfl) ?_
  refine LOps.det (KK rfl (by repeat (first|exact Mh _|apply Mt)) (by exact KO Try.underlying60 rfl sz_60)) (Nb rfl) ?_
  refine KI rfl (KT (KR (first:=[]) rfl en_77 rfl (Nb rfl) (fun w hw=>c_dualMul_off id V U W X Y i w h hX hY ho) ?_))
  refine KA (KD rfl) (Nb rfl) ?_
  refine KA (Ki rfl rfl) (Nb rfl) ?_
  refine KA (Ki rfl rfl) (Nb rfl) ?_
  refine KI rfl (KT (KQ (Kg zr_60) (Nb rfl) (fun b11=>?_)))
  refine KI rfl (KP rfl rfl sz_60 (by exact Kr _ _ _) (by repeat (first|exact Sh _|apply St_)) (by exact KV _ _ _) ?_)
  refine KA (KF rfl) (Nb rfl) ?_
  refine KG ?_
  refine KE ?_
  refine Ka [9] (by kernel_rfl) ?_
  refine LAny.take 0 rfl (by kernel_rfl) (Nb rfl) (KK rfl (by repeat (first|exact Mh _|apply Mt)) (by exact KO Try.underlying25 rfl sz_25)) ?_
  refine LAny.take 2 rfl (by kernel_rfl) (Nb rfl) (KK rfl (by repeat (first|exact Mh _|apply Mt)) (by exact KO Try.underlying25 rfl sz_25)) ?_
  refine LAny.take 4 rfl (by kernel_rfl) (Nb rfl) (KK rfl (by repeat (first|exact Mh _|apply Mt)) (by exact KO Try.underlying60 rfl sz_60)) ?_
  refine LAny.toP ?_
  refine KAV 6 rfl (.inl zr_73) (Nb rfl) rfl rfl rfl ?_
  refine KAA 1 rfl rfl rfl (Nb rfl) (by kernel_rfl) rfl (KAm (first:=[]) rfl en_52 rfl (fun w hw hs=>(c_n_From (U) hU9 w).mono fun e w' h=>KAe (Old.nil _) hs h)) ?_
  rintro _ _ ⟨qu,rfl,rfl,hnu⟩
  refine KAA 3 rfl rfl rfl (Nb rfl) (by kernel_rfl) rfl (KAm (first:=[]) rfl en_52 rfl (fun w hw hs=>(c_n_From (W) hW9 w).mono fun e w' h=>KAe (Old.nil _) hs h)) ?_
  rintro _ _ ⟨qv,rfl,rfl,hnv⟩
  refine KAA 5 rfl rfl rfl (Nb rfl) (by kernel_rfl) rfl (KAm (first:=[]) rfl en_63 rfl (fun w hw hs=>(c_r_In X Y i w hX hY).mono fun e w' h=>Num2R.q (Old.nil _) hs h)) ?_
  rintro _ _ ⟨qpa,qpb,rfl,rfl,hnpa,hnpb⟩
  refine KAb (by kernel_rfl) (fun b15=>?_)
  refine KAX ?_
  refine KC 7 rfl (by kernel_rfl) (Nb rfl) (KF rfl) ?_
  refine KC 8 rfl (by kernel_rfl) (Nb rfl) (KF rfl) ?_
  refine Ko 9 rfl rfl (by kernel_rfl) (by kernel_rfl) (KP rfl rfl sz_73 (by repeat (first|exact KU|refine KS rfl ?_)) (by repeat (first|exact Sh _|apply St_)) (by rfl) ?_)
  refine Kh (by kernel_rfl) ?_
  refine KE ?_
  refine LCode.block ?_
  refine KE (KB ?_)
  refine KA (KD rfl) (Nb rfl) ?_
  refine KA (KY (Det.not rfl) (show _ = Value.bool false from rfl)) (Nb rfl) ?_
  refine KA (KF rfl) (Nb rfl) ?_
  refine KG ?_
  refine Km rfl ?_
  refine KE (KB ?_)
  refine LOps.det (KK rfl (by repeat (first|exact Mh _|apply Mt)) (by exact KO Try.underlying31 rfl sz_31)) (Nb rfl) ?_
  refine LOps.det (KK rfl (by repeat (first|exact Mh _|apply Mt)) (by exact KO Try.underlying73 rfl sz_73)) (Nb rfl) ?_
  refine KI rfl (KT (KR (first:=[]) rfl en_62 rfl (Nb rfl) (fun w hw=>c_r_OnB Q V qpa qpb X Y i false w (hw _ (by repeat (first|exact Mh _|apply Mt))) hok (hw _ (by repeat (first|exact Mh _|apply Mt))) (hw _ (by repeat (first|exact Mh _|apply Mt))) (by omega) (by omega) ho) ?_))
  refine KA (KY (Det.not rfl) (show _ = Value.bool true from rfl)) (Nb rfl) ?_
  refine KA (KF rfl) (Nb rfl) ?_
  refine KG ?_
  refine Kt rfl ?_
  refine KE (KB ?_)
  refine KA (KD rfl) (Nb rfl) ?_
  refine KI rfl (KT (KR (first:=[]) rfl en_46 rfl (Nb rfl) (fun w hw=>c_Num _ w) ?_))
  refine KA (KN (v:=.bool true) rfl rfl (br_t (br_eql (b:=2001)) (by first|rfl|assumption|omega|(simp; done)))) (Nb rfl) ?_
  refine KA (KD rfl) (Nb rfl) ?_
  refine KAr rfl rfl (KK rfl (by repeat (first|exact Mh _|apply Mt)) (by exact KO Try.underlying60 rfl sz_60)) (Nb rfl) ?_
  refine Kj rfl rfl (KY (KAQ pl_60 zr_60 rfl rfl) (show _ = ptV 0 0 false from pt_zero)) (Nb rfl) ?_
  refine Kj rfl rfl (KY (Det.eqa (by kernel_rfl) (fun w=>eq_pt_t zero_w9 zero_w9 10000 (by decide) w) rfl rfl) (show _ = Value.bool true by rfl)) (Nb rfl) ?_
  refine KA (KAI rfl rfl) (Nb rfl) ?_
  refine KA (KD rfl) (Nb rfl) ?_
  refine LOps.stepG rfl rfl rfl (KT (KR (first:=[]) rfl en_78 rfl (Nb rfl) (fun w hw=>c_awake20 w) ?_))
  refine KA (KAI rfl rfl) (Nb rfl) ?_
  refine KA (KF rfl) (Nb rfl) ?_
  refine KG (KZ ?_)
  refine ⟨[_],.cons rfl .nil,fun a w' hr=>⟨?_,hr.fr.below⟩⟩
  rfl
theorem c_Duals_range (id:Int) (V:Cv) (U W:Nat) (P:Pt V.p) (w:World) (h:cvI id = some V) (hU9:U<W9) (hW9:W<W9) (hP:On V.A V.B P) (hr:V.n≤U∨V.n≤W):Calls Try.prog 13 ([.int .i64 id,natV U,natV W,ptP P]:List Value).toArray w (fun e w'=>e = .returned (.bool true)∧Below w.heap.size w w'):=by
  obtain ⟨hok,hid⟩:=cvI_ok h
  have hdu:=nw_w9_dig hU9
  have hdw:=nw_w9_dig hW9
  refine KAC (N:=113) (rs:=[.tmp 8]) [] Try.func13 rfl Try.ntmps13 Try.results13 (Nb rfl) trivial rfl ?_
  show LCode _ _ _ ⟨_,_⟩ _
  refine KE (KB ?_)
  refine KI rfl (KT (KQ (Ku rfl) (Nb rfl) (fun b5=>?_)))
  refine KI rfl (KT (KQ (Ku rfl) (Nb rfl) (fun b6=>?_)))
  refine KI rfl (KT (KQ (Ku rfl) (Nb rfl) (fun b7=>?_)))
  refine KA (KF rfl) (Nb rfl) ?_
  refine KG ?_
  refine KE (KB ?_)
  refine KA (KD rfl) (Nb rfl) ?_
  refine KI rfl (KT (Kw (Post:=fun v its=>∃ Q,v = .tuple #[.agg (crvL Q V).toArray,.bool true]∧its = [crvI Q V]) (first:=[]) rfl en_43 rfl (Nb rfl) (fun w1 hw hs=>(c_r_Get _ V w1 h).mono fun e w' ⟨Q,h1,h2,h3,h4⟩=>⟨_,_,⟨Q,rfl,rfl⟩,h1,Brings.nums h4 (by intro x hx; simp at hx; subst hx; exact h2) (by intro x hx; simp at hx; subst hx; rfl) (by intro x hx k hk; simp at hx; subst hx; exact .inl (h3 k hk))⟩) ?_))
  rintro _ _ ⟨Q,rfl,rfl⟩
  refine KA (KD rfl) (Nb rfl) ?_
  refine KA (Ki rfl rfl) (Nb rfl) ?_
  refine KA (Ki rfl rfl) (Nb rfl) ?_
  refine KI rfl (KT (KQ (Kg zr_31) (Nb rfl) (fun b9=>?_)))
  refine KI rfl (KP rfl rfl sz_31 (by repeat (first|exact KU|refine KS rfl ?_)) (by repeat (first|exact Sh _|apply St_)) (by rfl) ?_)
  refine KA (KF rfl) (Nb rfl) ?_
  refine KG ?_
  refine KE (KB ?_)
  refine KA (KD rfl) (Nb rfl) ?_
  refine LOps.det (KK rfl (by repeat (first|exact Mh _|apply Mt)) (by exact KO Try.underlying25 rfl sz_25)) (Nb rfl) ?_
  refine LOps.det (KK rfl (by repeat (first|exact Mh _|apply Mt)) (by exact KO Try.underlying25 rfl sz_25)) (Nb rfl) ?_
  refine LOps.det (KK rfl (by repeat (first|exact Mh _|apply Mt)) (by exact KO Try.underlying60 rfl sz_60)) (Nb rfl) ?_
  refine KI rfl (KT (KR (first:=[]) rfl en_77 rfl (Nb rfl) (fun w hw=>c_dualMul_range id V U W P w h hP hU9 hW9 hr) ?_))
  refine KA (KD rfl) (Nb rfl) ?_
  refine KA (Ki rfl rfl) (Nb rfl) ?_
  refine KA (Ki rfl rfl) (Nb rfl) ?_
  refine KI rfl (KT (KQ (Kg zr_60) (Nb rfl) (fun b11=>?_)))
  refine KI rfl (KP rfl rfl sz_60 (by exact Kr _ _ _) (by repeat (first|exact Sh _|apply St_)) (by exact KV _ _ _) ?_)
  refine KA (KF rfl) (Nb rfl) ?_
  refine KG ?_
  refine KE ?_
  refine Ka [9] (by kernel_rfl) ?_
  refine LAny.take 0 rfl (by kernel_rfl) (Nb rfl) (KK rfl (by repeat (first|exact Mh _|apply Mt)) (by exact KO Try.underlying25 rfl sz_25)) ?_
  refine LAny.take 2 rfl (by kernel_rfl) (Nb rfl) (KK rfl (by repeat (first|exact Mh _|apply Mt)) (by exact KO Try.underlying25 rfl sz_25)) ?_
  refine LAny.take 4 rfl (by kernel_rfl) (Nb rfl) (KK rfl (by repeat (first|exact Mh _|apply Mt)) (by exact KO Try.underlying60 rfl sz_60)) ?_
  refine LAny.toP ?_
  refine KAV 6 rfl (.inl zr_73) (Nb rfl) rfl rfl rfl ?_
  refine KAA 1 rfl rfl rfl (Nb rfl) (by kernel_rfl) rfl (KAm (first:=[]) rfl en_52 rfl (fun w hw hs=>(c_n_From (U) hU9 w).mono fun e w' h=>KAe (Old.nil _) hs h)) ?_
  rintro _ _ ⟨qu,rfl,rfl,hnu⟩
  refine KAA 3 rfl rfl rfl (Nb rfl) (by kernel_rfl) rfl (KAm (first:=[]) rfl en_52 rfl (fun w hw hs=>(c_n_From (W) hW9 w).mono fun e w' h=>KAe (Old.nil _) hs h)) ?_
  rintro _ _ ⟨qv,rfl,rfl,hnv⟩
  refine KAA 5 rfl rfl rfl (Nb rfl) (by kernel_rfl) rfl (KAm (first:=[]) rfl en_63 rfl (fun w hw hs=>(c_r_InP V hok (P) w).mono fun e w' h=>Num2R.q (Old.nil _) hs h)) ?_
  rintro _ _ ⟨qpa,qpb,rfl,rfl,hnpa,hnpb⟩
  refine KAb (by kernel_rfl) (fun b15=>?_)
  refine KAX ?_
  refine KC 7 rfl (by kernel_rfl) (Nb rfl) (KF rfl) ?_
  refine KC 8 rfl (by kernel_rfl) (Nb rfl) (KF rfl) ?_
  refine Ko 9 rfl rfl (by kernel_rfl) (by kernel_rfl) (KP rfl rfl sz_73 (by repeat (first|exact KU|refine KS rfl ?_)) (by repeat (first|exact Sh _|apply St_)) (by rfl) ?_)
  refine Kh (by kernel_rfl) ?_
  refine KE ?_
  refine LCode.block ?_
  refine KE (KB ?_)
  refine KA (KD rfl) (Nb rfl) ?_
  refine KA (KY (Det.not rfl) (show _ = Value.bool false from rfl)) (Nb rfl) ?_
  refine KA (KF rfl) (Nb rfl) ?_
  refine KG ?_
  refine Km rfl ?_
  refine KE (KB ?_)
  refine LOps.det (KK rfl (by repeat (first|exact Mh _|apply Mt)) (by exact KO Try.underlying31 rfl sz_31)) (Nb rfl) ?_
  refine LOps.det (KK rfl (by repeat (first|exact Mh _|apply Mt)) (by exact KO Try.underlying73 rfl sz_73)) (Nb rfl) ?_
  refine KI rfl (KT (KR (first:=[]) rfl en_62 rfl (Nb rfl) (fun w hw=>c_r_OnP Q V qpa qpb (P) w (hw _ (by repeat (first|exact Mh _|apply Mt))) hok (hw _ (by repeat (first|exact Mh _|apply Mt))) (hw _ (by repeat (first|exact Mh _|apply Mt))) (hP)) ?_))
  refine KA (KY (Det.not rfl) (show _ = Value.bool false from rfl)) (Nb rfl) ?_
  refine KA (KF rfl) (Nb rfl) ?_
  refine KG ?_
  refine Km rfl ?_
  refine KE ?_
  rcases (show V.n≤U∨(U<V.n∧V.n≤W) by omega) with h1|⟨h1,h2⟩
  ·
    refine KB ?_
    refine KA (KD rfl) (Nb rfl) ?_
    refine KA (KM (o':=4) Try.underlying31 rfl rfl rfl sz_29 (by decide)) (Nb rfl) ?_
    refine LOps.det (KK rfl (by repeat (first|exact Mh _|apply Mt)) (KX Try.underlying29 rfl (by first|rfl|exact Ks _ _ _ (by omega)|exact Kq _ (by omega)|exact Kp _ (by omega)|exact dv_m _ _ _ (by omega)))) (Nb rfl) ?_
    refine KI rfl (KT (KR (first:=[]) rfl en_70 rfl (Nb rfl) (fun w hw=>c_n_Cmp qu Q.n U V.n w (hw _ (by repeat (first|exact Mh _|apply Mt))) (crvI_n (hw _ (by repeat (first|exact Mh _|apply Mt)))) (by omega)) ?_))
    refine KA (KN (v:=.bool true) rfl rfl (br_t cmp_geq (h1))) (Nb rfl) ?_
    refine KA (KD rfl) (Nb rfl) ?_
    refine Kv rfl rfl rfl (Nb rfl) ?_
    refine Kv rfl rfl rfl (Nb rfl) ?_
    refine Kv rfl rfl rfl (Nb rfl) ?_
    refine Kv rfl rfl rfl (Nb rfl) ?_
    refine Kv rfl rfl rfl (Nb rfl) ?_
    refine KA (KAI rfl rfl) (Nb rfl) ?_
    refine KA (KF rfl) (Nb rfl) ?_
    refine KG ?_
    refine Kt rfl ?_
    refine KE (KB ?_)
    refine KA (KD rfl) (Nb rfl) ?_
    refine KI rfl (KT (KR (first:=[]) rfl en_46 rfl (Nb rfl) (fun w hw=>c_Num _ w) ?_))
    refine KA (KN (v:=.bool true) rfl rfl (br_t (br_eql (b:=2002)) (by first|rfl|assumption|omega|(simp; done)))) (Nb rfl) ?_
    refine KA (KD rfl) (Nb rfl) ?_
    refine KAr rfl rfl (KK rfl (by repeat (first|exact Mh _|apply Mt)) (by exact KO Try.underlying60 rfl sz_60)) (Nb rfl) ?_
    refine Kj rfl rfl (KY (KAQ pl_60 zr_60 rfl rfl) (show _ = ptV 0 0 false from pt_zero)) (Nb rfl) ?_
    refine Kj rfl rfl (KY (Det.eqa (by kernel_rfl) (fun w=>eq_pt_t zero_w9 zero_w9 10000 (by decide) w) rfl rfl) (show _ = Value.bool true by rfl)) (Nb rfl) ?_
    refine KA (KAI rfl rfl) (Nb rfl) ?_
    refine KA (KD rfl) (Nb rfl) ?_
    refine LOps.stepG rfl rfl rfl (KT (KR (first:=[]) rfl en_78 rfl (Nb rfl) (fun w hw=>c_awake20 w) ?_))
    refine KA (KAI rfl rfl) (Nb rfl) ?_
    refine KA (KF rfl) (Nb rfl) ?_
    refine KG (KZ ?_)
    refine ⟨[_],.cons rfl .nil,fun a w' hr=>⟨?_,hr.fr.below⟩⟩
    rfl
  ·
    refine KB ?_
    refine KA (KD rfl) (Nb rfl) ?_
    refine KA (KM (o':=4) Try.underlying31 rfl rfl rfl sz_29 (by decide)) (Nb rfl) ?_
    refine LOps.det (KK rfl (by repeat (first|exact Mh _|apply Mt)) (KX Try.underlying29 rfl (by first|rfl|exact Ks _ _ _ (by omega)|exact Kq _ (by omega)|exact Kp _ (by omega)|exact dv_m _ _ _ (by omega)))) (Nb rfl) ?_
    refine KI rfl (KT (KR (first:=[]) rfl en_70 rfl (Nb rfl) (fun w hw=>c_n_Cmp qu Q.n U V.n w (hw _ (by repeat (first|exact Mh _|apply Mt))) (crvI_n (hw _ (by repeat (first|exact Mh _|apply Mt)))) (by omega)) ?_))
    refine KA (KN (v:=.bool false) rfl rfl (br_f cmp_geq (Nat.not_le_of_gt h1))) (Nb rfl) ?_
    refine KA (KD rfl) (Nb rfl) ?_
    refine Kj rfl rfl (KD rfl) (Nb rfl) ?_
    refine Kj rfl rfl (KM (o':=4) Try.underlying31 rfl rfl rfl sz_29 (by decide)) (Nb rfl) ?_
    refine KAr rfl rfl (KK rfl (by repeat (first|exact Mh _|apply Mt)) (KX Try.underlying29 rfl (by first|rfl|exact Ks _ _ _ (by omega)|exact Kq _ (by omega)|exact Kp _ (by omega)|exact dv_m _ _ _ (by omega)))) (Nb rfl) ?_
    refine LOps.stepG rfl rfl rfl (KT (KR (first:=[]) rfl en_70 rfl (Nb rfl) (fun w hw=>c_n_Cmp qv Q.n W V.n w (hw _ (by repeat (first|exact Mh _|apply Mt))) (crvI_n (hw _ (by repeat (first|exact Mh _|apply Mt)))) (by omega)) ?_))
    refine Kj rfl rfl (KN (v:=.bool true) rfl rfl (br_t cmp_geq (h2))) (Nb rfl) ?_
    refine KA (KAK rfl rfl) (Nb rfl) ?_
    refine KA (KF rfl) (Nb rfl) ?_
    refine KG ?_
    refine Kt rfl ?_
    refine KE (KB ?_)
    refine KA (KD rfl) (Nb rfl) ?_
    refine KI rfl (KT (KR (first:=[]) rfl en_46 rfl (Nb rfl) (fun w hw=>c_Num _ w) ?_))
    refine KA (KN (v:=.bool true) rfl rfl (br_t (br_eql (b:=2002)) (by first|rfl|assumption|omega|(simp; done)))) (Nb rfl) ?_
    refine KA (KD rfl) (Nb rfl) ?_
    refine KAr rfl rfl (KK rfl (by repeat (first|exact Mh _|apply Mt)) (by exact KO Try.underlying60 rfl sz_60)) (Nb rfl) ?_
    refine Kj rfl rfl (KY (KAQ pl_60 zr_60 rfl rfl) (show _ = ptV 0 0 false from pt_zero)) (Nb rfl) ?_
    refine Kj rfl rfl (KY (Det.eqa (by kernel_rfl) (fun w=>eq_pt_t zero_w9 zero_w9 10000 (by decide) w) rfl rfl) (show _ = Value.bool true by rfl)) (Nb rfl) ?_
    refine KA (KAI rfl rfl) (Nb rfl) ?_
    refine KA (KD rfl) (Nb rfl) ?_
    refine LOps.stepG rfl rfl rfl (KT (KR (first:=[]) rfl en_78 rfl (Nb rfl) (fun w hw=>c_awake20 w) ?_))
    refine KA (KAI rfl rfl) (Nb rfl) ?_
    refine KA (KF rfl) (Nb rfl) ?_
    refine KG (KZ ?_)
    refine ⟨[_],.cons rfl .nil,fun a w' hr=>⟨?_,hr.fr.below⟩⟩
    rfl
theorem c_Duals_ok (id:Int) (V:Cv) (U W:Nat) (P:Pt V.p) (w:World) (h:cvI id = some V) (hU9:U<W9) (hW9:W<W9) (hP:On V.A V.B P) (hU:U<V.n) (hW:W<V.n):Calls Try.prog 13 ([.int .i64 id,natV U,natV W,ptP P]:List Value).toArray w (fun e w'=>e = .returned (.bool true)∧Below w.heap.size w w'):=by
  obtain ⟨hok,hid⟩:=cvI_ok h
  have hdu:=nw_w9_dig hU9
  have hdw:=nw_w9_dig hW9
  refine KAC (N:=113) (rs:=[.tmp 8]) [] Try.func13 rfl Try.ntmps13 Try.results13 (Nb rfl) trivial rfl ?_
  show LCode _ _ _ ⟨_,_⟩ _
  refine KE (KB ?_)
  refine KI rfl (KT (KQ (Ku rfl) (Nb rfl) (fun b5=>?_)))
  refine KI rfl (KT (KQ (Ku rfl) (Nb rfl) (fun b6=>?_)))
  refine KI rfl (KT (KQ (Ku rfl) (Nb rfl) (fun b7=>?_)))
  refine KA (KF rfl) (Nb rfl) ?_
  refine KG ?_
  refine KE (KB ?_)
  refine KA (KD rfl) (Nb rfl) ?_
  refine KI rfl (KT (Kw (Post:=fun v its=>∃ Q,v = .tuple #[.agg (crvL Q V).toArray,.bool true]∧its = [crvI Q V]) (first:=[]) rfl en_43 rfl (Nb rfl) (fun w1 hw hs=>(c_r_Get _ V w1 h).mono fun e w' ⟨Q,h1,h2,h3,h4⟩=>⟨_,_,⟨Q,rfl,rfl⟩,h1,Brings.nums h4 (by intro x hx; simp at hx; subst hx; exact h2) (by intro x hx; simp at hx; subst hx; rfl) (by intro x hx k hk; simp at hx; subst hx; exact .inl (h3 k hk))⟩) ?_))
  rintro _ _ ⟨Q,rfl,rfl⟩
  refine KA (KD rfl) (Nb rfl) ?_
  refine KA (Ki rfl rfl) (Nb rfl) ?_
  refine KA (Ki rfl rfl) (Nb rfl) ?_
  refine KI rfl (KT (KQ (Kg zr_31) (Nb rfl) (fun b9=>?_)))
  refine KI rfl (KP rfl rfl sz_31 (by repeat (first|exact KU|refine KS rfl ?_)) (by repeat (first|exact Sh _|apply St_)) (by rfl) ?_)
  refine KA (KF rfl) (Nb rfl) ?_
  refine KG ?_
  refine KE (KB ?_)
  refine KA (KD rfl) (Nb rfl) ?_
  refine LOps.det (KK rfl (by repeat (first|exact Mh _|apply Mt)) (by exact KO Try.underlying25 rfl sz_25)) (Nb rfl) ?_
  refine LOps.det (KK rfl (by repeat (first|exact Mh _|apply Mt)) (by exact KO Try.underlying25 rfl sz_25)) (Nb rfl) ?_
  refine LOps.det (KK rfl (by repeat (first|exact Mh _|apply Mt)) (by exact KO Try.underlying60 rfl sz_60)) (Nb rfl) ?_
  refine KI rfl (KT (KR (first:=[]) rfl en_77 rfl (Nb rfl) (fun w hw=>c_dualMul id V U W P w h hP hU hW) ?_))
  refine KA (KD rfl) (Nb rfl) ?_
  refine KA (Ki rfl rfl) (Nb rfl) ?_
  refine KA (Ki rfl rfl) (Nb rfl) ?_
  refine KI rfl (KT (KQ (Kg zr_60) (Nb rfl) (fun b11=>?_)))
  refine KI rfl (KP rfl rfl sz_60 (by exact Kr _ _ _) (by repeat (first|exact Sh _|apply St_)) (by exact KV _ _ _) ?_)
  refine KA (KF rfl) (Nb rfl) ?_
  refine KG ?_
  refine KE ?_
  refine Ka [9] (by kernel_rfl) ?_
  refine LAny.take 0 rfl (by kernel_rfl) (Nb rfl) (KK rfl (by repeat (first|exact Mh _|apply Mt)) (by exact KO Try.underlying25 rfl sz_25)) ?_
  refine LAny.take 2 rfl (by kernel_rfl) (Nb rfl) (KK rfl (by repeat (first|exact Mh _|apply Mt)) (by exact KO Try.underlying25 rfl sz_25)) ?_
  refine LAny.take 4 rfl (by kernel_rfl) (Nb rfl) (KK rfl (by repeat (first|exact Mh _|apply Mt)) (by exact KO Try.underlying60 rfl sz_60)) ?_
  refine LAny.toP ?_
  refine KAV 6 rfl (.inl zr_73) (Nb rfl) rfl rfl rfl ?_
  refine KAA 1 rfl rfl rfl (Nb rfl) (by kernel_rfl) rfl (KAm (first:=[]) rfl en_52 rfl (fun w hw hs=>(c_n_From (U) hU9 w).mono fun e w' h=>KAe (Old.nil _) hs h)) ?_
  rintro _ _ ⟨qu,rfl,rfl,hnu⟩
  refine KAA 3 rfl rfl rfl (Nb rfl) (by kernel_rfl) rfl (KAm (first:=[]) rfl en_52 rfl (fun w hw hs=>(c_n_From (W) hW9 w).mono fun e w' h=>KAe (Old.nil _) hs h)) ?_
  rintro _ _ ⟨qv,rfl,rfl,hnv⟩
  refine KAA 5 rfl rfl rfl (Nb rfl) (by kernel_rfl) rfl (KAm (first:=[]) rfl en_63 rfl (fun w hw hs=>(c_r_InP V hok (P) w).mono fun e w' h=>Num2R.q (Old.nil _) hs h)) ?_
  rintro _ _ ⟨qpa,qpb,rfl,rfl,hnpa,hnpb⟩
  refine KAb (by kernel_rfl) (fun b15=>?_)
  refine KAX ?_
  refine KC 7 rfl (by kernel_rfl) (Nb rfl) (KF rfl) ?_
  refine KC 8 rfl (by kernel_rfl) (Nb rfl) (KF rfl) ?_
  refine Ko 9 rfl rfl (by kernel_rfl) (by kernel_rfl) (KP rfl rfl sz_73 (by repeat (first|exact KU|refine KS rfl ?_)) (by repeat (first|exact Sh _|apply St_)) (by rfl) ?_)
  refine Kh (by kernel_rfl) ?_
  refine KE ?_
  refine LCode.block ?_
  refine KE (KB ?_)
  refine KA (KD rfl) (Nb rfl) ?_
  refine KA (KY (Det.not rfl) (show _ = Value.bool false from rfl)) (Nb rfl) ?_
  refine KA (KF rfl) (Nb rfl) ?_
  refine KG ?_
  refine Km rfl ?_
  refine KE (KB ?_)
  refine LOps.det (KK rfl (by repeat (first|exact Mh _|apply Mt)) (by exact KO Try.underlying31 rfl sz_31)) (Nb rfl) ?_
  refine LOps.det (KK rfl (by repeat (first|exact Mh _|apply Mt)) (by exact KO Try.underlying73 rfl sz_73)) (Nb rfl) ?_
  refine KI rfl (KT (KR (first:=[]) rfl en_62 rfl (Nb rfl) (fun w hw=>c_r_OnP Q V qpa qpb (P) w (hw _ (by repeat (first|exact Mh _|apply Mt))) hok (hw _ (by repeat (first|exact Mh _|apply Mt))) (hw _ (by repeat (first|exact Mh _|apply Mt))) (hP)) ?_))
  refine KA (KY (Det.not rfl) (show _ = Value.bool false from rfl)) (Nb rfl) ?_
  refine KA (KF rfl) (Nb rfl) ?_
  refine KG ?_
  refine Km rfl ?_
  refine KE (KB ?_)
  refine KA (KD rfl) (Nb rfl) ?_
  refine KA (KM (o':=4) Try.underlying31 rfl rfl rfl sz_29 (by decide)) (Nb rfl) ?_
  refine LOps.det (KK rfl (by repeat (first|exact Mh _|apply Mt)) (KX Try.underlying29 rfl (by first|rfl|exact Ks _ _ _ (by omega)|exact Kq _ (by omega)|exact Kp _ (by omega)|exact dv_m _ _ _ (by omega)))) (Nb rfl) ?_
  refine KI rfl (KT (KR (first:=[]) rfl en_70 rfl (Nb rfl) (fun w hw=>c_n_Cmp qu Q.n U V.n w (hw _ (by repeat (first|exact Mh _|apply Mt))) (crvI_n (hw _ (by repeat (first|exact Mh _|apply Mt)))) (by omega)) ?_))
  refine KA (KN (v:=.bool false) rfl rfl (br_f cmp_geq (Nat.not_le_of_gt hU))) (Nb rfl) ?_
  refine KA (KD rfl) (Nb rfl) ?_
  refine Kj rfl rfl (KD rfl) (Nb rfl) ?_
  refine Kj rfl rfl (KM (o':=4) Try.underlying31 rfl rfl rfl sz_29 (by decide)) (Nb rfl) ?_
  refine KAr rfl rfl (KK rfl (by repeat (first|exact Mh _|apply Mt)) (KX Try.underlying29 rfl (by first|rfl|exact Ks _ _ _ (by omega)|exact Kq _ (by omega)|exact Kp _ (by omega)|exact dv_m _ _ _ (by omega)))) (Nb rfl) ?_
  refine LOps.stepG rfl rfl rfl (KT (KR (first:=[]) rfl en_70 rfl (Nb rfl) (fun w hw=>c_n_Cmp qv Q.n W V.n w (hw _ (by repeat (first|exact Mh _|apply Mt))) (crvI_n (hw _ (by repeat (first|exact Mh _|apply Mt)))) (by omega)) ?_))
  refine Kj rfl rfl (KN (v:=.bool false) rfl rfl (br_f cmp_geq (Nat.not_le_of_gt hW))) (Nb rfl) ?_
  refine KA (KAK rfl rfl) (Nb rfl) ?_
  refine KA (KF rfl) (Nb rfl) ?_
  refine KG ?_
  refine Km rfl ?_
  refine Kf ?_
  refine KE ?_
  refine Ka [12] (by kernel_rfl) ?_
  refine LAny.take 0 rfl (by kernel_rfl) (Nb rfl) (KK rfl (by repeat (first|exact Mh _|apply Mt)) (by exact KO Try.underlying31 rfl sz_31)) ?_
  refine LAny.take 1 rfl (by kernel_rfl) (Nb rfl) (KK rfl (by repeat (first|exact Mh _|apply Mt)) (by exact KO Try.underlying31 rfl sz_31)) ?_
  refine KC 2 rfl (by kernel_rfl) (Nb rfl) (KD rfl) ?_
  refine LAny.take 3 rfl (by kernel_rfl) (Nb rfl) (KK rfl (by repeat (first|exact Mh _|apply Mt)) (by exact KO Try.underlying31 rfl sz_31)) ?_
  refine LAny.take 6 rfl (by kernel_rfl) (Nb rfl) (KK rfl (by repeat (first|exact Mh _|apply Mt)) (by exact KO Try.underlying31 rfl sz_31)) ?_
  refine KC 7 rfl (by kernel_rfl) (Nb rfl) (KD rfl) ?_
  refine LAny.take 8 rfl (by kernel_rfl) (Nb rfl) (KK rfl (by repeat (first|exact Mh _|apply Mt)) (by exact KO Try.underlying73 rfl sz_73)) ?_
  refine LAny.toP ?_
  refine KAV 11 rfl (.inl zr_73) (Nb rfl) rfl rfl rfl ?_
  refine KAA 4 rfl rfl rfl (Nb rfl) (by kernel_rfl) rfl (KAm (first:=[]) rfl en_80 rfl (fun w hw hs=>(c_r_GP Q V w (hw _ (by repeat (first|exact Mh _|apply Mt))) hok).mono fun e w' h=>Num2R.q (Old.one (x:=crvI Q V) (by repeat (first|exact Mh _|apply Mt)) rfl) hs h)) ?_
  rintro _ _ ⟨qga,qgb,rfl,rfl,hnga,hngb⟩
  refine KAA 5 rfl rfl rfl (Nb rfl) (by kernel_rfl) rfl (KAm (first:=[]) rfl en_64 rfl (fun w hw hs=>(c_r_Times Q V qu (U) qga qgb (V.G) (pmul V.A V.G U) w (hw _ (by repeat (first|exact Mh _|apply Mt))) hok (hw _ (by repeat (first|exact Mh _|apply Mt))) (by omega) (hw _ (by repeat (first|exact Mh _|apply Mt))) (hw _ (by repeat (first|exact Mh _|apply Mt))) (hok.on) (rfl)).mono fun e w' h=>Num2R.q (Old.pt (by repeat (first|exact Mh _|apply Mt)) (by repeat (first|exact Mh _|apply Mt)) (Old.nil _)) hs h)) ?_
  rintro _ _ ⟨qsa,qsb,rfl,rfl,hnsa,hnsb⟩
  refine KAA 9 rfl rfl rfl (Nb rfl) (by kernel_rfl) rfl (KAm (first:=[]) rfl en_64 rfl (fun w hw hs=>(c_r_Times Q V qv (W) qpa qpb (P) (pmul V.A P W) w (hw _ (by repeat (first|exact Mh _|apply Mt))) hok (hw _ (by repeat (first|exact Mh _|apply Mt))) (by omega) (hw _ (by repeat (first|exact Mh _|apply Mt))) (hw _ (by repeat (first|exact Mh _|apply Mt))) (hP) (rfl)).mono fun e w' h=>Num2R.q (Old.pt (by repeat (first|exact Mh _|apply Mt)) (by repeat (first|exact Mh _|apply Mt)) (Old.nil _)) hs h)) ?_
  rintro _ _ ⟨qra,qrb,rfl,rfl,hnra,hnrb⟩
  refine KAA 10 rfl rfl rfl (Nb rfl) (by kernel_rfl) rfl (KAm (first:=[]) rfl en_79 rfl (fun w hw hs=>(c_r_Plus Q V qsa qsb qra qrb (pmul V.A V.G U) (pmul V.A P W) (dualP V U W P) w (hw _ (by repeat (first|exact Mh _|apply Mt))) hok (hw _ (by repeat (first|exact Mh _|apply Mt))) (hw _ (by repeat (first|exact Mh _|apply Mt))) (hw _ (by repeat (first|exact Mh _|apply Mt))) (hw _ (by repeat (first|exact Mh _|apply Mt))) (hok.mul hok.on _) (hok.mul hP _) (rfl)).mono fun e w' h=>Num2R.q (Old.pt (by repeat (first|exact Mh _|apply Mt)) (by repeat (first|exact Mh _|apply Mt)) (Old.pt (by repeat (first|exact Mh _|apply Mt)) (by repeat (first|exact Mh _|apply Mt)) (Old.nil _))) hs h)) ?_
  rintro _ _ ⟨qza,qzb,rfl,rfl,hnza,hnzb⟩
  refine KAb (by kernel_rfl) (fun b16=>?_)
  refine KAX ?_
  refine Ko 12 rfl rfl (by kernel_rfl) (by kernel_rfl) (KP rfl rfl sz_73 (by repeat (first|exact KU|refine KS rfl ?_)) (by repeat (first|exact Sh _|apply St_)) (by rfl) ?_)
  refine Kh (by kernel_rfl) ?_
  refine KE ?_
  refine Ka [] (by kernel_rfl) ?_
  refine KC 0 rfl (by kernel_rfl) (Nb rfl) (KD rfl) ?_
  refine Kx 1 rfl rfl (by kernel_rfl) (KR (first:=[]) rfl en_46 rfl (Nb rfl) (fun w hw=>c_Num _ w) ?_)
  refine KC 2 rfl (by kernel_rfl) (Nb rfl) (KN (v:=.bool true) rfl rfl (br_t (br_eql (b:=0)) (by first|rfl|assumption|omega|(simp; done)))) ?_
  refine KC 3 rfl (by kernel_rfl) (Nb rfl) (KD rfl) ?_
  refine KAg 4 rfl rfl rfl (by kernel_rfl) (Nb rfl) (KK rfl (by repeat (first|exact Mh _|apply Mt)) (by exact KO Try.underlying60 rfl sz_60)) ?_
  refine KAg 5 rfl rfl rfl (by kernel_rfl) (Nb rfl) (KK rfl (by repeat (first|exact Mh _|apply Mt)) (by exact KO Try.underlying73 rfl sz_73)) ?_
  refine LAny.oneG 6 rfl rfl rfl rfl (by kernel_rfl) (KR (first:=[]) rfl en_66 rfl (Nb rfl) (fun w hw=>c_r_OutP V qza qzb (dualP V U W P) w (hw _ (by repeat (first|exact Mh _|apply Mt))) (hw _ (by repeat (first|exact Mh _|apply Mt)))) ?_)
  refine KAB 7 rfl rfl rfl (by kernel_rfl) (Nb rfl) (KY (Det.eqa (by kernel_rfl) (fun w=>eq_ptP_t hok (P:=dualP V U W P) (Q:=dualP V U W P) (rfl) 10000 (by decide) w) rfl rfl) (show _ = Value.bool true by rfl)) ?_
  refine KC 8 rfl (by kernel_rfl) (Nb rfl) (KAI rfl rfl) ?_
  refine KC 9 rfl (by kernel_rfl) (Nb rfl) (KD rfl) ?_
  refine LAny.oneG 10 rfl rfl rfl rfl (by kernel_rfl) (KR (first:=[]) rfl en_78 rfl (Nb rfl) (fun w hw=>c_awake20 w) ?_)
  refine KC 11 rfl (by kernel_rfl) (Nb rfl) (KAI rfl rfl) ?_
  refine KC 12 rfl (by kernel_rfl) (Nb rfl) (KF rfl) ?_
  refine Kh (by kernel_rfl) ?_
  refine KZ ?_
  refine ⟨[_],.cons rfl .nil,fun a w' hr=>⟨?_,hr.fr.below⟩⟩
  rfl
theorem c_Duals (id:Int) (U W X Y:Nat) (i:Bool) (w:World) (hU:U<W9) (hW:W<W9) (hX:X<W9) (hY:Y<W9):Calls Try.prog 13 ([.int .i64 id,natV U,natV W,ptV X Y i]:List Value).toArray w (fun e w'=>e = .returned (.bool true)∧Below w.heap.size w w'):=by
  cases h:cvI id with
  | none=>exact c_Duals_none id U W X Y i w h hU hW hX hY
  | some V =>
    cases ho:onB V.p V.a V.b X Y i with
    | false=>exact c_Duals_off id V U W X Y i w h hU hW hX hY ho
    | true =>
      obtain ⟨P,hP,rfl,rfl,rfl⟩:=onB_pt ho
      by_cases hr:V.n≤U∨V.n≤W
      · exact c_Duals_range id V U W P w h hU hW hP hr
      · exact c_Duals_ok id V U W P w h hU hW hP (by omega) (by omega)
end Go.Proofs.Ytljblbgogjieaaa
set_option maxRecDepth 100000
namespace Go.Proofs.Ytljblbgogjieaaa
open Go
def ioChars:List Char:=([104,97,114,110,101,115,115,32,102,51,57,52,54,98,99,101,49,54,101,56,99,51,102,52,49,56,48,97,55,101,53,50,100,97,98,100,56,55,98,56,54,57,51,56,100,57,50,50,100,99,56,97,98,97,101,55,102,48,56,57,55,57,99,51,48,57,101,52,56,98,54,48,32,99,117,116,32,97,116,32,99,117,114,118,101,116,47,99,117,114,118,101,116,108,97,119,50,51,46,82,97,119,115,32,99,117,114,118,101,116,47,99,117,114,118,101,116,108,97,119,50,51,46,82,97,119,66,97,99,107,32,99,117,114,118,101,116,47,99,117,114,118,101,116,108,97,119,50,51,46,82,97,119,76,101,110,103,116,104,115,32,99,117,114,118,101,116,47,99,117,114,118,101,116,108,97,119,50,51,46,82,97,119,84,105,110,121,32,99,117,114,118,101,116,47,99,117,114,118,101,116,108,97,119,49,51,46,67,117,114,118,101,115,32,99,117,114,118,101,116,47,99,117,114,118,101,116,108,97,119,49,51,46,67,117,114,118,101,79,110,115,32,99,117,114,118,101,116,47,99,117,114,118,101,116,108,97,119,49,51,46,67,117,114,118,101,83,111,117,110,100,32,99,117,114,118,101,116,47,99,117,114,118,101,116,108,97,119,49,51,46,67,117,114,118,101,78,117,109,98,101,114,115,32,99,117,114,118,101,116,47,99,117,114,118,101,116,108,97,119,49,51,46,67,117,114,118,101,79,102,102,32,99,117,114,118,101,116,47,99,117,114,118,101,116,108,97,119,49,51,46,67,117,114,118,101,84,105,110,121,32,99,117,114,118,101,116,47,99,117,114,118,101,116,108,97,119,50,48,46,68,117,97,108,115,32,99,117,114,118,101,116,47,99,117,114,118,101,116,108,97,119,50,48,46,68,117,97,108,84,105,110,121,32,99,117,114,118,101,116,47,99,117,114,118,101,116,108,97,119,49,53,46,80,114,111,106,115,32,99,117,114,118,101,116,47,99,117,114,118,101,116,108,97,119,49,53,46,80,114,111,106,70,114,111,109,32,99,117,114,118,101,116,47,99,117,114,118,101,116,108,97,119,49,53,46,80,114,111,106,83,99,97,108,101,100,32,99,117,114,118,101,116,47,99,117,114,118,101,116,108,97,119,49,53,46,80,114,111,106,68,111,117,98,108,101,115,32,99,117,114,118,101,116,47,99,117,114,118,101,116,108,97,119,49,53,46,80,114,111,106,78,111,110,101,32,99,117,114,118,101,116,47,99,117,114,118,101,116,108,97,119,49,53,46,80,114,111,106,84,105,110,121,32,99,117,114,118,101,116,47,99,117,114,118,101,116,108,97,119,49,52,46,65,102,102,105,110,101,115,32,99,117,114,118,101,116,47,99,117,114,118,101,116,108,97,119,49,52,46,65,102,102,105,110,101,84,105,109,101,115,32,99,117,114,118,101,116,47,99,117,114,118,101,116,108,97,119,49,52,46,65,102,102,105,110,101,71,114,111,117,112,32,99,117,114,118,101,116,47,99,117,114,118,101,116,108,97,119,49,52,46,65,102,102,105,110,101,79,114,100,101,114,32,99,117,114,118,101,116,47,99,117,114,118,101,116,108,97,119,49,52,46,65,102,102,105,110,101,76,105,110,101,32,99,117,114,118,101,116,47,99,117,114,118,101,116,108,97,119,49,52,46,65,102,102,105,110,101,79,112,112,111,115,105,116,101,32,99,117,114,118,101,116,47,99,117,114,118,101,116,108,97,119,49,52,46,65,102,102,105,110,101,84,105,110,121,32,99,117,114,118,101,116,47,99,117,114,118,101,116,108,97,119,49,52,46,65,102,102,105,110,101,83,112,108,105,116,115,32,99,117,114,118,101,116,47,99,117,114,118,101,116,108,97,119,49,52,46,65,102,102,105,110,101,87,97,108,107,32,99,117,114,118,101,116,47,99,117,114,118,101,116,108,97,119,50,48,46,68,117,97,108,80,97,114,116,115,32,99,117,114,118,101,116,47,99,117,114,118,101,116,108,97,119,49,54,46,84,97,98,108,101,83,105,122,101,115,32,99,117,114,118,101,116,47,99,117,114,118,101,116,108,97,119,49,54,46,84,97,98,108,101,78,105,108,32,99,117,114,118,101,116,47,99,117,114,118,101,116,108,97,119,49,53,46,80,114,111,106,83,117,109,115,32,99,117,114,118,101,116,47,99,117,114,118,101,116,108,97,119,50,49,46,83,101,99,49,115,32,99,117,114,118,101,116,47,99,117,114,118,101,116,108,97,119,50,49,46,83,101,99,49,66,97,99,107,32,99,117,114,118,101,116,47,99,117,114,118,101,116,108,97,119,50,49,46,83,101,99,49,84,105,110,121,32,99,117,114,118,101,116,47,99,117,114,118,101,116,108,97,119,50,49,46,83,101,99,49,66,111,116,104,32,99,117,114,118,101,116,47,99,117,114,118,101,116,108,97,119,50,49,46,83,101,99,49,76,101,110,103,116,104,115,32,99,117,114,118,101,116,47,99,117,114,118,101,116,108,97,119,50,49,46,83,101,99,49,87,104,111,108,101,32,99,117,114,118,101,116,47,99,117,114,118,101,116,108,97,119,50,49,46,83,101,99,49,71,114,101,97,116,32,99,117,114,118,101,116,47,99,117,114,118,101,116,108,97,119,49,54,46,84,97,98,108,101,115,32,99,117,114,118,101,116,47,99,117,114,118,101,116,108,97,119,49,57,46,66,97,115,101,115]:List Nat).map Char.ofNat
theorem io_lit:Try.prog.initOrder = String.ofList ioChars:=by kernel_rfl
theorem io_list:Try.prog.initOrder.toList = ioChars:=by rw [io_lit,String.toList_ofList]
def cutW:List Char:=([99,117,116]:List Nat).map Char.ofNat
def ioRest:List (List Char):=(wordsSigns ioChars).drop 3
theorem io_words:behindMainWord (wordsSigns ioChars) = cutW :: ioRest:=by kernel_rfl
theorem io_strip (r:List (List Char)):stripLifts liftWords (cutW :: r) = ([],cutW :: r):=by kernel_rfl
theorem no_later:Try.prog.laysLater = false:=by kernel_rfl
theorem no_reflect:Try.prog.bearsReflect = false:=by kernel_rfl
theorem door_fits:Try.prog.doorFits [] = true:=by kernel_rfl
theorem and2 {a b:Bool} (h:a = true) (k:b = true):(a && b) = true:=by rw [h,k]; rfl
theorem or_right {a b:Bool} (h:b = true):(a || b) = true:=by rw [h]; cases a <;> rfl
theorem cut_is : (cutW == "cut".toList) = true := by kernel_rfl
theorem cut_gc : (cutW == "gc".toList) = false := by kernel_rfl
theorem cut_spec : (cutW == "spec".toList) = false := by kernel_rfl
theorem cut_carried : (cutW == "carried".toList) = false := by kernel_rfl
theorem head_carried (r : List (List Char)) : ((cutW :: r).head? == some "carried".toList) = false := cut_carried
theorem enter_of (P:Program) {r:List (List Char)} (h:behindMainWord (wordsSigns P.initOrder.toList) = cutW :: r) (h1:P.laysLater = false) (h2:P.bearsReflect = false) (h3:P.doorFits [] = true):P.mayEnter = true:=by
  unfold Program.mayEnter
  rw [h]
  dsimp only
  refine or_right (and2 (and2 (and2 (and2 ?_ ?_) ?_) ?_) ?_)
  · rw [io_strip]; exact cut_is
  · rw [io_strip,h1]; rfl
  · rw [io_strip,h2]; rfl
  · rw [io_strip]; rfl
  · rw [io_strip]; exact h3
theorem lifts_of (P:Program) {r:List (List Char)} (h:behindMainWord (wordsSigns P.initOrder.toList) = cutW :: r):(false == P.liftsFinal) = true:=by
  have hl:P.headLifts = []:=by
    unfold Program.headLifts
    rw [h,io_strip]
    simp only [ite_self]
  unfold Program.liftsFinal
  rw [h,hl]
  dsimp only
  rw [head_carried,Bool.false_and]
  rfl
theorem make_of (P:Program) {r:List (List Char)} (h:behindMainWord (wordsSigns P.initOrder.toList) = cutW :: r):(P.make == some .cut) = true:=by
  have:P.make = some .cut:=by
    unfold Program.make
    rw [h]
    dsimp only
    rw [if_neg (by rw [cut_gc,cut_spec]; exact fun h=>by cases h),if_pos (by rw [cut_is]; rfl)]
  rw [this]; rfl
theorem io_all:behindMainWord (wordsSigns Try.prog.initOrder.toList) = cutW :: ioRest:=by rw [io_list,io_words]
theorem fact_enter:Try.prog.mayEnter = true:=enter_of _ io_all no_later no_reflect door_fits
theorem fact_lifts:(false == Try.prog.liftsFinal) = true:=lifts_of _ io_all
theorem fact_make:(Try.prog.make == some .cut) = true:=make_of _ io_all
theorem fact_laid:laidOutB Try.prog = true:=by kernel_rfl
theorem fact_maps:mapsRowed Try.prog = true:=by kernel_rfl
theorem fact_heard:Try.prog.stopsHeard = true:=by kernel_rfl
end Go.Proofs.Ytljblbgogjieaaa
