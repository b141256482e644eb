/- Part 5 of what the proof leans on: a symbolic execution of the model, walks of the program's functions, and the mathematics. No condition. -/
import Derived.WalkKit
import Derived.Orders
import Derived.Laws.StructEq
import Derived.WalkSpells
import Derived.OrdersHeld
import Derived.KernelRfl
import Derived.Laws.Externs
import Derived.Laws.Bits64
import Derived.Laws.MakeOwn
import Derived.Laws.BytesString
import Derived.Carry
import Derived.WideShapes
import GoSem.Claim
import Derived.Test.YtljblbgogjieaaaProg
import Derived.Laws.AppendOwn
import Derived.Test.YtljblbgogjieaaaRows
import Derived.ProofKit
import Derived.OpenShut
import Derived.Test.YtljblbgogjieaaaT4
set_option linter.unusedVariables false
set_option linter.unusedSimpArgs false
set_option maxRecDepth 20000
namespace Go.Proofs.Ytljblbgogjieaaa
open Go Go.RowKit
theorem c_Right (V:Cv) (b f bd:Nat) (hok:V.Ok) (X:Fin V.p) (w:World) (hb:(Item.blk b ⟨false,opL V f,147,(0,0)⟩).holds w) (hf:(Item.blk f ⟨false,fldL V.p bd,194,(0,0)⟩).holds w) (hbd:(Item.blk bd ⟨false,dvL V.p,241,(0,0)⟩).holds w):Calls Try.prog 157 ([.pointer (some ⟨b,0,none⟩),natV X.val]:List Value).toArray w (fun e w'=>e = .returned (natV ((X*X+V.A)*X+V.B).val)∧Below w.heap.size w w'):=by
  have hbb:=hok.bounds
  have hpW:V.p<W9:=w9_521 hbb.2.1
  refine KAC (N:=31) (rs:=[.cell 4 25]) [.blk b ⟨false,opL V f,147,(0,0)⟩,.blk f ⟨false,fldL V.p bd,194,(0,0)⟩,.blk bd ⟨false,dvL V.p,241,(0,0)⟩] Try.func157 rfl Try.ntmps157 Try.results157 (Nb rfl) ⟨hb,hf,hbd,trivial⟩ rfl ?_
  show LCode _ _ _ ⟨_,_⟩ _
  refine KE (KB ?_)
  refine KI rfl (KS (KR (Kz rfl) (Nb rfl) (fun b3=>?_)))
  refine KI rfl (KS (KR (Kc zr_25) (Nb rfl) (fun b4=>?_)))
  refine KG ?_
  refine KE (KB ?_)
  refine KA (KC rfl) (Nb rfl) ?_
  refine KA (Kf rfl) (Nb rfl) ?_
  refine KA (KM (o':=59) Try.underlying147 rfl rfl rfl sz_145 (by decide)) (Nb rfl) ?_
  refine LOps.det (KJ rfl (by repeat (first|exact Mh _|apply Mt)) (Kb Try.underlying145 rfl (by exact cvC_gt_F _ _ _ _ _ _ _ _ _ _ _ _ _))) (Nb rfl) ?_
  refine KA (KF rfl) (Nb rfl) ?_
  refine KG ?_
  refine KE ?_
  refine Ke [21] (by kernel_rfl) ?_
  refine KD 0 rfl (by kernel_rfl) (Nb rfl) (KC rfl) ?_
  refine KD 1 rfl (by kernel_rfl) (Nb rfl) (KC rfl) ?_
  refine KD 2 rfl (by kernel_rfl) (Nb rfl) (KC rfl) ?_
  refine KD 3 rfl (by kernel_rfl) (Nb rfl) (KC rfl) ?_
  refine LAny.take 4 rfl (by kernel_rfl) (Nb rfl) (KJ rfl (by repeat (first|exact Mh _|apply Mt)) (by exact KK Try.underlying25 rfl sz_25)) ?_
  refine LAny.take 5 rfl (by kernel_rfl) (Nb rfl) (KJ rfl (by repeat (first|exact Mh _|apply Mt)) (by exact KK Try.underlying25 rfl sz_25)) ?_
  refine KD 7 rfl (by kernel_rfl) (Nb rfl) (KC rfl) ?_
  refine KD 8 rfl (by kernel_rfl) (Nb rfl) (Kf rfl) ?_
  refine KD 9 rfl (by kernel_rfl) (Nb rfl) (KM (o':=0) Try.underlying147 rfl rfl rfl sz_62 (by decide)) ?_
  refine KD 10 rfl (by kernel_rfl) (Nb rfl) (KM (o':=10) Try.underlying62 rfl rfl rfl sz_25 (by decide)) ?_
  refine LAny.take 11 rfl (by kernel_rfl) (Nb rfl) (Det.cast (KJ rfl (by repeat (first|exact Mh _|apply Mt)) (by exact cvC_ld_a _ _ _ _ _ _ _ _ _ _ _ _ _ _ _ _)) (a_val hok)) ?_
  refine LAny.take 13 rfl (by kernel_rfl) (Nb rfl) (KJ rfl (by repeat (first|exact Mh _|apply Mt)) (by exact KK Try.underlying25 rfl sz_25)) ?_
  refine KD 15 rfl (by kernel_rfl) (Nb rfl) (KC rfl) ?_
  refine KD 16 rfl (by kernel_rfl) (Nb rfl) (Kf rfl) ?_
  refine KD 17 rfl (by kernel_rfl) (Nb rfl) (KM (o':=0) Try.underlying147 rfl rfl rfl sz_62 (by decide)) ?_
  refine KD 18 rfl (by kernel_rfl) (Nb rfl) (KM (o':=19) Try.underlying62 rfl rfl rfl sz_25 (by decide)) ?_
  refine LAny.take 19 rfl (by kernel_rfl) (Nb rfl) (Det.cast (KJ rfl (by repeat (first|exact Mh _|apply Mt)) (by exact cvC_ld_b _ _ _ _ _ _ _ _ _ _ _ _ _ _ _ _)) (b_val hok)) ?_
  refine KAA 6 rfl rfl (by kernel_rfl) (KQ (first:=[]) rfl en_156 rfl (Nb rfl) (fun w hw=>KAo V hok f bd _ _ w (hw _ (by repeat (first|exact Mh _|apply Mt))) (hw _ (by repeat (first|exact Mh _|apply Mt)))) ?_)
  refine KAA 12 rfl rfl (by kernel_rfl) (KQ (first:=[]) rfl en_152 rfl (Nb rfl) (fun w hw=>c_F_Add V hok f bd _ _ w (hw _ (by repeat (first|exact Mh _|apply Mt)))) ?_)
  refine KAA 14 rfl rfl (by kernel_rfl) (KQ (first:=[]) rfl en_156 rfl (Nb rfl) (fun w hw=>KAo V hok f bd _ _ w (hw _ (by repeat (first|exact Mh _|apply Mt))) (hw _ (by repeat (first|exact Mh _|apply Mt)))) ?_)
  refine KAA 20 rfl rfl (by kernel_rfl) (KQ (first:=[]) rfl en_152 rfl (Nb rfl) (fun w hw=>c_F_Add V hok f bd _ _ w (hw _ (by repeat (first|exact Mh _|apply Mt)))) ?_)
  refine Kx 21 rfl rfl (by kernel_rfl) (by kernel_rfl) (KP rfl rfl sz_25 (by repeat (first|exact Km _|exact KAB _ _ _|exact Kn _|exact Kw _ _ _|exact Ky _ _ _|exact KX|refine KT rfl ?_|refine KZ ?_ ?_)) (by repeat (first|exact Sh _|apply St_)) (by first|exact KH _|exact KN _ _ _|exact KL _|exact KY _ _ _|exact Kd _ _ _|rfl|simp [KN,KH,KL]) ?_)
  refine Kq (by kernel_rfl) ?_
  refine Ka ?_
  refine ⟨[_],.cons ⟨_,_,_,rfl,(by repeat (first|exact Mh _|apply Mt)),by exact KK Try.underlying25 rfl sz_25⟩ .nil,fun a w' hr=>⟨?_,hr.fr.below⟩⟩
  rfl
theorem c_HasT (V:Cv) (f bd A:Nat) (w:World) (hf:(Item.blk f ⟨false,fldL V.p bd,194,(0,0)⟩).holds w) (hA:A<W9) (hpW:V.p<W9) (h:A<V.p):Calls Try.prog 155 ([.pointer (some ⟨f,0,none⟩),natV A]:List Value).toArray w (fun e w'=>e = .returned (.bool true)∧Below w.heap.size w w'):=by
  have:=c_f_Has V f bd A w hf hA hpW
  rwa [decide_eq_true h] at this
theorem c_HasF (V:Cv) (f bd A:Nat) (w:World) (hf:(Item.blk f ⟨false,fldL V.p bd,194,(0,0)⟩).holds w) (hA:A<W9) (hpW:V.p<W9) (h:¬ A<V.p):Calls Try.prog 155 ([.pointer (some ⟨f,0,none⟩),natV A]:List Value).toArray w (fun e w'=>e = .returned (.bool false)∧Below w.heap.size w w'):=by
  have:=c_f_Has V f bd A w hf hA hpW
  rwa [decide_eq_false h] at this
theorem right_val {V:Cv} (hok:V.Ok) (x:Fin V.p):rightN V.p V.a V.b x.val = ((x*x+V.A)*x+V.B).val:=by
  unfold rightN
  rw [Fin.val_add,Fin.val_mul,Fin.val_add,Fin.val_mul,hok.A_val hok.bounds.2.2.1,hok.B_val hok.bounds.2.2.2.1]
theorem on_x' {p a b X Y:Nat} (h:¬ X<p):onB p a b X Y false = false:=by
  unfold onB; rw [if_neg (by decide),decide_eq_false h,Bool.false_and]
theorem on_yy' {p a b X Y:Nat} (h:¬ Y<p):onB p a b X Y false = false:=by
  unfold onB; rw [if_neg (by decide),decide_eq_false h,Bool.false_and,Bool.and_false]
theorem on_fin {V:Cv} (hok:V.Ok) (x y:Fin V.p):onB V.p V.a V.b x.val y.val false = decide ((y*y).val = ((x*x+V.A)*x+V.B).val):=by
  unfold onB
  rw [if_neg (by decide),decide_eq_true x.isLt,decide_eq_true y.isLt,Bool.true_and,Bool.true_and,right_val hok,Fin.val_mul]
theorem on_inf' {p a b X Y:Nat}:onB p a b X Y true = (decide (X = 0) && decide (Y = 0)):=if_pos rfl
theorem c_cOn (V:Cv) (b f bd:Nat) (hok:V.Ok) (X Y:Nat) (i:Bool) (w:World) (hb:(Item.blk b ⟨false,opL V f,147,(0,0)⟩).holds w) (hf:(Item.blk f ⟨false,fldL V.p bd,194,(0,0)⟩).holds w) (hbd:(Item.blk bd ⟨false,dvL V.p,241,(0,0)⟩).holds w) (hX:X<W9) (hY:Y<W9):Calls Try.prog 122 ([.pointer (some ⟨b,0,none⟩),ptV X Y i]:List Value).toArray w (fun e w'=>e = .returned (.bool (onB V.p V.a V.b X Y i))∧Below w.heap.size w w'):=by
  have hbb:=hok.bounds
  have hpW:V.p<W9:=w9_521 hbb.2.1
  refine KAC (N:=42) (rs:=[.tmp 4]) [.blk b ⟨false,opL V f,147,(0,0)⟩,.blk f ⟨false,fldL V.p bd,194,(0,0)⟩,.blk bd ⟨false,dvL V.p,241,(0,0)⟩] Try.func122 rfl Try.ntmps122 Try.results122 (Nb rfl) ⟨hb,hf,hbd,trivial⟩ rfl ?_
  show LCode _ _ _ ⟨_,_⟩ _
  refine KE (KB ?_)
  refine KI rfl (KS (KR (Kz rfl) (Nb rfl) (fun b3=>?_)))
  refine KA (KF rfl) (Nb rfl) ?_
  refine KG ?_
  refine KE ?_
  refine KE ?_
  cases i
  ·
    refine KB ?_
    refine KA (KM (o':=18) Try.underlying60 rfl rfl rfl sz_4 (by decide)) (Nb rfl) ?_
    refine LOps.det (KJ rfl (by repeat (first|exact Mh _|apply Mt)) (Kb Try.underlying4 rfl (by exact pt_gt _ _ _))) (Nb rfl) ?_
    refine KG ?_
    refine Kj rfl ?_
    refine Kh ?_
    refine KE ?_
    rcases (show (¬ X<V.p)∨(X<V.p∧¬ Y<V.p)∨(X<V.p∧Y<V.p) by omega) with h1|⟨h1,h2⟩|⟨h1,h2⟩
    ·
      refine Ke [] (by kernel_rfl) ?_
      refine KD 0 rfl (by kernel_rfl) (Nb rfl) (KC rfl) ?_
      refine KD 1 rfl (by kernel_rfl) (Nb rfl) (Kf rfl) ?_
      refine KD 2 rfl (by kernel_rfl) (Nb rfl) (KM (o':=59) Try.underlying147 rfl rfl rfl sz_145 (by decide)) ?_
      refine LAny.take 3 rfl (by kernel_rfl) (Nb rfl) (KJ rfl (by repeat (first|exact Mh _|apply Mt)) (Kb Try.underlying145 rfl (by exact cvC_gt_F _ _ _ _ _ _ _ _ _ _ _ _ _))) ?_
      refine KD 4 rfl (by kernel_rfl) (Nb rfl) (KM (o':=0) Try.underlying60 rfl rfl rfl sz_25 (by decide)) ?_
      refine LAny.take 5 rfl (by kernel_rfl) (Nb rfl) (KJ rfl (by repeat (first|exact Mh _|apply Mt)) (by exact KAO Try.underlying25 rfl sz_25 rfl (KH _))) ?_
      refine KAA 6 rfl rfl (by kernel_rfl) (KQ (first:=[]) rfl en_155 rfl (Nb rfl) (fun w hw=>c_HasF V f bd X w (hw _ (by repeat (first|exact Mh _|apply Mt))) hX hpW h1) ?_)
      refine KD 7 rfl (by kernel_rfl) (Nb rfl) (KC rfl) ?_
      refine KAH 8 rfl rfl rfl rfl (by kernel_rfl) (Nb rfl) ?_
      refine KAH 9 rfl rfl rfl rfl (by kernel_rfl) (Nb rfl) ?_
      refine KAH 10 rfl rfl rfl rfl (by kernel_rfl) (Nb rfl) ?_
      refine KAH 11 rfl rfl rfl rfl (by kernel_rfl) (Nb rfl) ?_
      refine KAH 12 rfl rfl rfl rfl (by kernel_rfl) (Nb rfl) ?_
      refine KAH 13 rfl rfl rfl rfl (by kernel_rfl) (Nb rfl) ?_
      refine KAH 14 rfl rfl rfl rfl (by kernel_rfl) (Nb rfl) ?_
      refine KD 15 rfl (by kernel_rfl) (Nb rfl) (Ku rfl rfl) ?_
      refine KD 16 rfl (by kernel_rfl) (Nb rfl) (KC rfl) ?_
      refine KAH 17 rfl rfl rfl rfl (by kernel_rfl) (Nb rfl) ?_
      refine KAH 18 rfl rfl rfl rfl (by kernel_rfl) (Nb rfl) ?_
      refine KAH 19 rfl rfl rfl rfl (by kernel_rfl) (Nb rfl) ?_
      refine KAH 20 rfl rfl rfl rfl (by kernel_rfl) (Nb rfl) ?_
      refine KAH 21 rfl rfl rfl rfl (by kernel_rfl) (Nb rfl) ?_
      refine KAH 22 rfl rfl rfl rfl (by kernel_rfl) (Nb rfl) ?_
      refine KAH 23 rfl rfl rfl rfl (by kernel_rfl) (Nb rfl) ?_
      refine KAH 24 rfl rfl rfl rfl (by kernel_rfl) (Nb rfl) ?_
      refine KAH 25 rfl rfl rfl rfl (by kernel_rfl) (Nb rfl) ?_
      refine KAH 26 rfl rfl rfl rfl (by kernel_rfl) (Nb rfl) ?_
      refine KAH 27 rfl rfl rfl rfl (by kernel_rfl) (Nb rfl) ?_
      refine KAH 28 rfl rfl rfl rfl (by kernel_rfl) (Nb rfl) ?_
      refine KAH 29 rfl rfl rfl rfl (by kernel_rfl) (Nb rfl) ?_
      refine KAH 30 rfl rfl rfl rfl (by kernel_rfl) (Nb rfl) ?_
      refine KD 31 rfl (by kernel_rfl) (Nb rfl) (Ku rfl rfl) ?_
      refine KD 32 rfl (by kernel_rfl) (Nb rfl) (KF rfl) ?_
      refine Kq (by kernel_rfl) ?_
      refine Ka ?_
      refine ⟨[_],.cons rfl .nil,fun a w' hr=>⟨?_,hr.fr.below⟩⟩
      rw [on_x' h1]
      rfl
    ·
      refine Ke [] (by kernel_rfl) ?_
      refine KD 0 rfl (by kernel_rfl) (Nb rfl) (KC rfl) ?_
      refine KD 1 rfl (by kernel_rfl) (Nb rfl) (Kf rfl) ?_
      refine KD 2 rfl (by kernel_rfl) (Nb rfl) (KM (o':=59) Try.underlying147 rfl rfl rfl sz_145 (by decide)) ?_
      refine LAny.take 3 rfl (by kernel_rfl) (Nb rfl) (KJ rfl (by repeat (first|exact Mh _|apply Mt)) (Kb Try.underlying145 rfl (by exact cvC_gt_F _ _ _ _ _ _ _ _ _ _ _ _ _))) ?_
      refine KD 4 rfl (by kernel_rfl) (Nb rfl) (KM (o':=0) Try.underlying60 rfl rfl rfl sz_25 (by decide)) ?_
      refine LAny.take 5 rfl (by kernel_rfl) (Nb rfl) (KJ rfl (by repeat (first|exact Mh _|apply Mt)) (by exact KAO Try.underlying25 rfl sz_25 rfl (KH _))) ?_
      refine KAA 6 rfl rfl (by kernel_rfl) (KQ (first:=[]) rfl en_155 rfl (Nb rfl) (fun w hw=>c_HasT V f bd X w (hw _ (by repeat (first|exact Mh _|apply Mt))) hX hpW h1) ?_)
      refine KD 7 rfl (by kernel_rfl) (Nb rfl) (KC rfl) ?_
      refine KAD 8 rfl rfl rfl (by kernel_rfl) (Nb rfl) (KC rfl) ?_
      refine KAD 9 rfl rfl rfl (by kernel_rfl) (Nb rfl) (Kf rfl) ?_
      refine KAD 10 rfl rfl rfl (by kernel_rfl) (Nb rfl) (KM (o':=59) Try.underlying147 rfl rfl rfl sz_145 (by decide)) ?_
      refine KAV 11 rfl rfl rfl (by kernel_rfl) (Nb rfl) (KJ rfl (by repeat (first|exact Mh _|apply Mt)) (Kb Try.underlying145 rfl (by exact cvC_gt_F _ _ _ _ _ _ _ _ _ _ _ _ _))) ?_
      refine KAD 12 rfl rfl rfl (by kernel_rfl) (Nb rfl) (KM (o':=9) Try.underlying60 rfl rfl rfl sz_25 (by decide)) ?_
      refine KAV 13 rfl rfl rfl (by kernel_rfl) (Nb rfl) (KJ rfl (by repeat (first|exact Mh _|apply Mt)) (by exact pt_ld1 _ _ _ _ _ _)) ?_
      refine KAg 14 rfl rfl rfl rfl (by kernel_rfl) (KQ (first:=[]) rfl en_155 rfl (Nb rfl) (fun w hw=>c_HasF V f bd Y w (hw _ (by repeat (first|exact Mh _|apply Mt))) hY hpW h2) ?_)
      refine KD 15 rfl (by kernel_rfl) (Nb rfl) (Kt rfl rfl) ?_
      refine KD 16 rfl (by kernel_rfl) (Nb rfl) (KC rfl) ?_
      refine KAH 17 rfl rfl rfl rfl (by kernel_rfl) (Nb rfl) ?_
      refine KAH 18 rfl rfl rfl rfl (by kernel_rfl) (Nb rfl) ?_
      refine KAH 19 rfl rfl rfl rfl (by kernel_rfl) (Nb rfl) ?_
      refine KAH 20 rfl rfl rfl rfl (by kernel_rfl) (Nb rfl) ?_
      refine KAH 21 rfl rfl rfl rfl (by kernel_rfl) (Nb rfl) ?_
      refine KAH 22 rfl rfl rfl rfl (by kernel_rfl) (Nb rfl) ?_
      refine KAH 23 rfl rfl rfl rfl (by kernel_rfl) (Nb rfl) ?_
      refine KAH 24 rfl rfl rfl rfl (by kernel_rfl) (Nb rfl) ?_
      refine KAH 25 rfl rfl rfl rfl (by kernel_rfl) (Nb rfl) ?_
      refine KAH 26 rfl rfl rfl rfl (by kernel_rfl) (Nb rfl) ?_
      refine KAH 27 rfl rfl rfl rfl (by kernel_rfl) (Nb rfl) ?_
      refine KAH 28 rfl rfl rfl rfl (by kernel_rfl) (Nb rfl) ?_
      refine KAH 29 rfl rfl rfl rfl (by kernel_rfl) (Nb rfl) ?_
      refine KAH 30 rfl rfl rfl rfl (by kernel_rfl) (Nb rfl) ?_
      refine KD 31 rfl (by kernel_rfl) (Nb rfl) (Ku rfl rfl) ?_
      refine KD 32 rfl (by kernel_rfl) (Nb rfl) (KF rfl) ?_
      refine Kq (by kernel_rfl) ?_
      refine Ka ?_
      refine ⟨[_],.cons rfl .nil,fun a w' hr=>⟨?_,hr.fr.below⟩⟩
      rw [on_yy' h2]
      rfl
    ·
      obtain ⟨x,rfl⟩:∃ x:Fin V.p,x.val = X:=⟨⟨X,h1⟩,rfl⟩
      obtain ⟨y,rfl⟩:∃ y:Fin V.p,y.val = Y:=⟨⟨Y,h2⟩,rfl⟩
      refine Ke [] (by kernel_rfl) ?_
      refine KD 0 rfl (by kernel_rfl) (Nb rfl) (KC rfl) ?_
      refine KD 1 rfl (by kernel_rfl) (Nb rfl) (Kf rfl) ?_
      refine KD 2 rfl (by kernel_rfl) (Nb rfl) (KM (o':=59) Try.underlying147 rfl rfl rfl sz_145 (by decide)) ?_
      refine LAny.take 3 rfl (by kernel_rfl) (Nb rfl) (KJ rfl (by repeat (first|exact Mh _|apply Mt)) (Kb Try.underlying145 rfl (by exact cvC_gt_F _ _ _ _ _ _ _ _ _ _ _ _ _))) ?_
      refine KD 4 rfl (by kernel_rfl) (Nb rfl) (KM (o':=0) Try.underlying60 rfl rfl rfl sz_25 (by decide)) ?_
      refine LAny.take 5 rfl (by kernel_rfl) (Nb rfl) (KJ rfl (by repeat (first|exact Mh _|apply Mt)) (by exact KAO Try.underlying25 rfl sz_25 rfl (KH _))) ?_
      refine KAA 6 rfl rfl (by kernel_rfl) (KQ (first:=[]) rfl en_155 rfl (Nb rfl) (fun w hw=>c_HasT V f bd x.val w (hw _ (by repeat (first|exact Mh _|apply Mt))) (Nat.lt_trans x.isLt hpW) hpW x.isLt) ?_)
      refine KD 7 rfl (by kernel_rfl) (Nb rfl) (KC rfl) ?_
      refine KAD 8 rfl rfl rfl (by kernel_rfl) (Nb rfl) (KC rfl) ?_
      refine KAD 9 rfl rfl rfl (by kernel_rfl) (Nb rfl) (Kf rfl) ?_
      refine KAD 10 rfl rfl rfl (by kernel_rfl) (Nb rfl) (KM (o':=59) Try.underlying147 rfl rfl rfl sz_145 (by decide)) ?_
      refine KAV 11 rfl rfl rfl (by kernel_rfl) (Nb rfl) (KJ rfl (by repeat (first|exact Mh _|apply Mt)) (Kb Try.underlying145 rfl (by exact cvC_gt_F _ _ _ _ _ _ _ _ _ _ _ _ _))) ?_
      refine KAD 12 rfl rfl rfl (by kernel_rfl) (Nb rfl) (KM (o':=9) Try.underlying60 rfl rfl rfl sz_25 (by decide)) ?_
      refine KAV 13 rfl rfl rfl (by kernel_rfl) (Nb rfl) (KJ rfl (by repeat (first|exact Mh _|apply Mt)) (by exact pt_ld1 _ _ _ _ _ _)) ?_
      refine KAg 14 rfl rfl rfl rfl (by kernel_rfl) (KQ (first:=[]) rfl en_155 rfl (Nb rfl) (fun w hw=>c_HasT V f bd y.val w (hw _ (by repeat (first|exact Mh _|apply Mt))) (Nat.lt_trans y.isLt hpW) hpW y.isLt) ?_)
      refine KD 15 rfl (by kernel_rfl) (Nb rfl) (Kt rfl rfl) ?_
      refine KD 16 rfl (by kernel_rfl) (Nb rfl) (KC rfl) ?_
      refine KAD 17 rfl rfl rfl (by kernel_rfl) (Nb rfl) (KC rfl) ?_
      refine KAD 18 rfl rfl rfl (by kernel_rfl) (Nb rfl) (Kf rfl) ?_
      refine KAD 19 rfl rfl rfl (by kernel_rfl) (Nb rfl) (KM (o':=59) Try.underlying147 rfl rfl rfl sz_145 (by decide)) ?_
      refine KAV 20 rfl rfl rfl (by kernel_rfl) (Nb rfl) (KJ rfl (by repeat (first|exact Mh _|apply Mt)) (Kb Try.underlying145 rfl (by exact cvC_gt_F _ _ _ _ _ _ _ _ _ _ _ _ _))) ?_
      refine KAD 21 rfl rfl rfl (by kernel_rfl) (Nb rfl) (KM (o':=9) Try.underlying60 rfl rfl rfl sz_25 (by decide)) ?_
      refine KAV 22 rfl rfl rfl (by kernel_rfl) (Nb rfl) (KJ rfl (by repeat (first|exact Mh _|apply Mt)) (by exact pt_ld1 _ _ _ _ _ _)) ?_
      refine KAD 23 rfl rfl rfl (by kernel_rfl) (Nb rfl) (KM (o':=9) Try.underlying60 rfl rfl rfl sz_25 (by decide)) ?_
      refine KAV 24 rfl rfl rfl (by kernel_rfl) (Nb rfl) (KJ rfl (by repeat (first|exact Mh _|apply Mt)) (by exact pt_ld1 _ _ _ _ _ _)) ?_
      refine KAD 26 rfl rfl rfl (by kernel_rfl) (Nb rfl) (KC rfl) ?_
      refine KAD 27 rfl rfl rfl (by kernel_rfl) (Nb rfl) (KM (o':=0) Try.underlying60 rfl rfl rfl sz_25 (by decide)) ?_
      refine KAV 28 rfl rfl rfl (by kernel_rfl) (Nb rfl) (KJ rfl (by repeat (first|exact Mh _|apply Mt)) (by exact KAO Try.underlying25 rfl sz_25 rfl (KH _))) ?_
      refine KAg 25 rfl rfl rfl rfl (by kernel_rfl) (KQ (first:=[]) rfl en_156 rfl (Nb rfl) (fun w hw=>KAo V hok f bd _ _ w (hw _ (by repeat (first|exact Mh _|apply Mt))) (hw _ (by repeat (first|exact Mh _|apply Mt)))) ?_)
      refine KAg 29 rfl rfl rfl rfl (by kernel_rfl) (KQ (first:=[]) rfl en_157 rfl (Nb rfl) (fun w hw=>c_Right V b f bd hok _ w (hw _ (by repeat (first|exact Mh _|apply Mt))) (hw _ (by repeat (first|exact Mh _|apply Mt))) (hw _ (by repeat (first|exact Mh _|apply Mt)))) ?_)
      refine KAD 30 rfl rfl rfl (by kernel_rfl) (Nb rfl) (Det.eqa (by kernel_rfl) (fun w=>eq_nat (y*y).val ((x*x+V.A)*x+V.B).val (Nat.lt_trans (y*y).isLt hpW) (Nat.lt_trans ((x*x+V.A)*x+V.B).isLt hpW) 10000 (by decide) w) rfl rfl) ?_
      refine KD 31 rfl (by kernel_rfl) (Nb rfl) (Kt rfl rfl) ?_
      refine KD 32 rfl (by kernel_rfl) (Nb rfl) (KF rfl) ?_
      refine Kq (by kernel_rfl) ?_
      refine Ka ?_
      refine ⟨[_],.cons rfl .nil,fun a w' hr=>⟨?_,hr.fr.below⟩⟩
      rw [on_fin hok]
      rfl
  ·
    refine KB ?_
    refine KA (KM (o':=18) Try.underlying60 rfl rfl rfl sz_4 (by decide)) (Nb rfl) ?_
    refine LOps.det (KJ rfl (by repeat (first|exact Mh _|apply Mt)) (Kb Try.underlying4 rfl (by exact pt_gt _ _ _))) (Nb rfl) ?_
    refine KG ?_
    refine Ks rfl ?_
    refine KE (KB ?_)
    refine LOps.det (KJ rfl (by repeat (first|exact Mh _|apply Mt)) (by exact KK Try.underlying60 rfl sz_60)) (Nb rfl) ?_
    refine KA (KU (KAI pl_60 zr_60 rfl fill_ptInf) rfl) (Nb rfl) ?_
    refine KA (Det.eqa (by kernel_rfl) (fun w=>eq_pt X Y true 0 0 true hX hY KAb KAb 10000 (by decide) w) rfl rfl) (Nb rfl) ?_
    refine KA (KF rfl) (Nb rfl) ?_
    refine KG (Ka ?_)
    refine ⟨[_],.cons rfl .nil,fun a w' hr=>⟨?_,hr.fr.below⟩⟩
    rw [on_inf',show (decide (X = 0) && decide (Y = 0)) = (decide (X = 0) && (decide (Y = 0) && ((true == true) && true))) by simp]
    rfl
end Go.Proofs.Ytljblbgogjieaaa
set_option linter.unusedVariables false
set_option linter.unusedSimpArgs false
set_option maxRecDepth 20000
namespace Go.Proofs.Ytljblbgogjieaaa
open Go Go.RowKit
open Grp
def pjF {p:Nat} (T:Fin p×Fin p×Fin p):Value:=pjV T.1.val T.2.1.val T.2.2.val
theorem pj_zero':(vec .u64 9 (fun _=>0)++(vec .u64 9 (fun _=>0)++vec .u64 9 (fun _=>0)):List Value) = pjL 0 0 0:=by unfold pjL natL; rw [vec_zeros 9]
theorem pj_zero:Value.agg (vec .u64 9 (fun _=>0)++(vec .u64 9 (fun _=>0)++vec .u64 9 (fun _=>0)):List Value).toArray = pjV 0 0 0:=by rw [pj_zero']; rfl
theorem fill_pj (X Y Z:Nat):fillL [(0,9),(9,9),(18,9)] (vec .u64 9 (fun _=>0)++(vec .u64 9 (fun _=>0)++vec .u64 9 (fun _=>0))) [(0,natV X),(1,natV Y),(2,natV Z)] = some (pjL X Y Z):=by
  refine KAh (A:=[]) (B:=vec .u64 9 (fun _=>0)) (D:=vec .u64 9 (fun _=>0)++vec .u64 9 (fun _=>0)) (cs:=natL X) rfl rfl (KH _) rfl rfl (KN _ _ _) ?_
  refine KAh (A:=natL X) (B:=vec .u64 9 (fun _=>0)) (D:=vec .u64 9 (fun _=>0)) (cs:=natL Y) rfl rfl (KH _) (by simp) (KH _) (KN _ _ _) ?_
  refine (KAh (A:=natL X++natL Y) (B:=vec .u64 9 (fun _=>0)) (D:=[]) (cs:=natL Z) rfl rfl (KH _) (by simp) (by simp [KH]) (KN _ _ _) rfl).trans ?_
  simp [pjL]
theorem fill_pjN (Y:Nat):fillL [(0,9),(9,9),(18,9)] (vec .u64 9 (fun _=>0)++(vec .u64 9 (fun _=>0)++vec .u64 9 (fun _=>0))) [(1,natV Y)] = some (pjL 0 Y 0):=by
  refine (KAh (A:=vec .u64 9 (fun _=>0)) (B:=vec .u64 9 (fun _=>0)) (D:=vec .u64 9 (fun _=>0)) (cs:=natL Y) rfl rfl (KH _) rfl (KN _ _ _) (KN _ _ _) rfl).trans ?_
  simp [pjL,natL,vec_zeros 9]
theorem c_None  (w:World)  : Calls Try.prog 158 ([]:List Value).toArray w (fun e w'=>e = .returned (pjV 0 1 0)∧Below w.heap.size w w'):=by
  refine KAC (N:=3) (rs:=[.cell 0 91]) [] Try.func158 rfl Try.ntmps158 Try.results158 (Nb rfl) trivial rfl ?_
  show LCode _ _ _ ⟨_,_⟩ _
  refine KE (KB ?_)
  refine KI rfl (KS (KR (Kc zr_91) (Nb rfl) (fun b0=>?_)))
  refine KG ?_
  refine KE (KB ?_)
  refine KI rfl (KS (KQ (first:=[]) rfl en_150 rfl (Nb rfl) (fun w hw=>c_nat_Small 1 (by decide) w) ?_))
  refine KA (KU (KAI pl_91 zr_91 rfl (fill_pjN 1)) rfl) (Nb rfl) ?_
  refine KI rfl (KP rfl rfl sz_91 (by repeat (first|exact Km _|exact KAB _ _ _|exact Kn _|exact Kw _ _ _|exact Ky _ _ _|exact KX|refine KT rfl ?_|refine KZ ?_ ?_)) (by repeat (first|exact Sh _|apply St_)) (by first|exact KH _|exact KN _ _ _|exact KL _|exact KY _ _ _|exact Kd _ _ _|rfl|simp [KN,KH,KL]) ?_)
  refine KG (Ka ?_)
  refine ⟨[_],.cons ⟨_,_,_,rfl,(by repeat (first|exact Mh _|apply Mt)),by exact KK Try.underlying91 rfl sz_91⟩ .nil,fun a w' hr=>⟨?_,hr.fr.below⟩⟩
  rfl
theorem c_NoneF {V:Cv} (hok:V.Ok) (w:World):Calls Try.prog 158 ([]:List Value).toArray w (fun e w'=>e = .returned (pjF (tripF (.inf:Pt V.p)))∧Below w.heap.size w w'):=by
  have h:=c_None w
  have e:pjF (tripF (.inf:Pt V.p)) = pjV 0 1 0:=by
    unfold pjF tripF
    rw [fin_one (show 1<V.p from hok.prime.1)]
    rfl
  rwa [e]
theorem c_Triple (V:Cv) (hok:V.Ok) (P:Pt V.p) (w:World)  : Calls Try.prog 129 ([ptP P]:List Value).toArray w (fun e w'=>e = .returned (pjF (tripF P))∧Below w.heap.size w w'):=by
  refine KAC (N:=12) (rs:=[.cell 2 91]) [] Try.func129 rfl Try.ntmps129 Try.results129 (Nb rfl) trivial rfl ?_
  show LCode _ _ _ ⟨_,_⟩ _
  refine KE (KB ?_)
  refine KI rfl (KS (KR (Kz rfl) (Nb rfl) (fun b1=>?_)))
  refine KI rfl (KS (KR (Kc zr_91) (Nb rfl) (fun b2=>?_)))
  refine KG ?_
  refine KE ?_
  refine KE ?_
  rcases P with _|⟨x,y⟩
  ·
    refine KB ?_
    refine KA (KM (o':=18) Try.underlying60 rfl rfl rfl sz_4 (by decide)) (Nb rfl) ?_
    refine LOps.det (KJ rfl (by repeat (first|exact Mh _|apply Mt)) (Kb Try.underlying4 rfl (by exact pt_gt _ _ _))) (Nb rfl) ?_
    refine KG ?_
    refine Ks rfl ?_
    refine KE (KB ?_)
    refine KI rfl (KS (KQ (first:=[]) rfl en_158 rfl (Nb rfl) (fun w hw=>c_NoneF hok w) ?_))
    refine KI rfl (KP rfl rfl sz_91 (by repeat (first|exact Km _|exact KAB _ _ _|exact Kn _|exact Kw _ _ _|exact Ky _ _ _|exact KX|refine KT rfl ?_|refine KZ ?_ ?_)) (by repeat (first|exact Sh _|apply St_)) (by first|exact KH _|exact KN _ _ _|exact KL _|exact KY _ _ _|exact Kd _ _ _|rfl|simp [KN,KH,KL]) ?_)
    refine KG (Ka ?_)
    refine ⟨[_],.cons ⟨_,_,_,rfl,(by repeat (first|exact Mh _|apply Mt)),by exact KK Try.underlying91 rfl sz_91⟩ .nil,fun a w' hr=>⟨?_,hr.fr.below⟩⟩
    rfl
  ·
    refine KB ?_
    refine KA (KM (o':=18) Try.underlying60 rfl rfl rfl sz_4 (by decide)) (Nb rfl) ?_
    refine LOps.det (KJ rfl (by repeat (first|exact Mh _|apply Mt)) (Kb Try.underlying4 rfl (by exact pt_gt _ _ _))) (Nb rfl) ?_
    refine KG ?_
    refine Kj rfl ?_
    refine Kh ?_
    refine KE ?_
    refine Ke [6] (by kernel_rfl) ?_
    refine KD 0 rfl (by kernel_rfl) (Nb rfl) (KM (o':=0) Try.underlying60 rfl rfl rfl sz_25 (by decide)) ?_
    refine LAny.take 1 rfl (by kernel_rfl) (Nb rfl) (KJ rfl (by repeat (first|exact Mh _|apply Mt)) (by exact KAO Try.underlying25 rfl sz_25 rfl (KH _))) ?_
    refine KD 2 rfl (by kernel_rfl) (Nb rfl) (KM (o':=9) Try.underlying60 rfl rfl rfl sz_25 (by decide)) ?_
    refine LAny.take 3 rfl (by kernel_rfl) (Nb rfl) (KJ rfl (by repeat (first|exact Mh _|apply Mt)) (by exact pt_ld1 _ _ _ _ _ _)) ?_
    refine KAA 4 rfl rfl (by kernel_rfl) (KQ (first:=[]) rfl en_150 rfl (Nb rfl) (fun w hw=>c_nat_Small 1 (by decide) w) ?_)
    refine KD 5 rfl (by kernel_rfl) (Nb rfl) (KU (KAI pl_91 zr_91 rfl (fill_pj _ _ _)) rfl) ?_
    refine Kx 6 rfl rfl (by kernel_rfl) (by kernel_rfl) (KP rfl rfl sz_91 (by repeat (first|exact Km _|exact KAB _ _ _|exact Kn _|exact Kw _ _ _|exact Ky _ _ _|exact KX|refine KT rfl ?_|refine KZ ?_ ?_)) (by repeat (first|exact Sh _|apply St_)) (by first|exact KH _|exact KN _ _ _|exact KL _|exact KY _ _ _|exact Kd _ _ _|rfl|simp [KN,KH,KL]) ?_)
    refine Kq (by kernel_rfl) ?_
    refine Ka ?_
    refine ⟨[_],.cons ⟨_,_,_,rfl,(by repeat (first|exact Mh _|apply Mt)),by exact KK Try.underlying91 rfl sz_91⟩ .nil,fun a w' hr=>⟨?_,hr.fr.below⟩⟩
    show _ = Ending.returned (pjV x.val y.val (1:Fin V.p).val)
    rw [fin_one (show 1<V.p from hok.prime.1)]
    rfl
theorem c_Plain (V:Cv) (b f bd:Nat) (hok:V.Ok) (X Y Z:Fin V.p) (w:World) (hb:(Item.blk b ⟨false,opL V f,147,(0,0)⟩).holds w) (hf:(Item.blk f ⟨false,fldL V.p bd,194,(0,0)⟩).holds w) (hbd:(Item.blk bd ⟨false,dvL V.p,241,(0,0)⟩).holds w):Calls Try.prog 127 ([.pointer (some ⟨b,0,none⟩),pjV X.val Y.val Z.val]:List Value).toArray w (fun e w'=>e = .returned (ptP (plainP X Y Z))∧Below w.heap.size w w'):=by
  have hbb:=hok.bounds
  have hpW:V.p<W9:=w9_521 hbb.2.1
  refine KAC (N:=35) (rs:=[.cell 4 60]) [.blk b ⟨false,opL V f,147,(0,0)⟩,.blk f ⟨false,fldL V.p bd,194,(0,0)⟩,.blk bd ⟨false,dvL V.p,241,(0,0)⟩] Try.func127 rfl Try.ntmps127 Try.results127 (Nb rfl) ⟨hb,hf,hbd,trivial⟩ rfl ?_
  show LCode _ _ _ ⟨_,_⟩ _
  refine KE (KB ?_)
  refine KI rfl (KS (KR (Kz rfl) (Nb rfl) (fun b3=>?_)))
  refine KI rfl (KS (KR (Kc zr_60) (Nb rfl) (fun b4=>?_)))
  refine KG ?_
  refine KE ?_
  refine KE ?_
  by_cases hz:Z = 0
  ·
    refine KB ?_
    refine KA (KM (o':=18) Try.underlying91 rfl rfl rfl sz_25 (by decide)) (Nb rfl) ?_
    refine LOps.det (KJ rfl (by repeat (first|exact Mh _|apply Mt)) (by exact pj_ld2 _ _ _ _ _ _)) (Nb rfl) ?_
    refine KA (KU (KAI pl_25 zr_25 rfl rfl) (show _ = natV 0 by unfold natV natL; rw [← vec_zeros 9])) (Nb rfl) ?_
    refine KA (KU (Det.eqa (by kernel_rfl) (fun w=>eq_nat Z.val 0 (Nat.lt_trans Z.isLt hpW) KAb 10000 (by decide) w) rfl rfl) (show _ = Value.bool true by rw [decide_eq_true (by rw [hz]; rfl)])) (Nb rfl) ?_
    refine KG ?_
    refine Ks rfl ?_
    refine KE (KB ?_)
    refine KA (KU (KAI pl_60 zr_60 rfl fill_ptInf) rfl) (Nb rfl) ?_
    refine KI rfl (KP rfl rfl sz_60 (by repeat (first|exact Km _|exact KAB _ _ _|exact Kn _|exact Kw _ _ _|exact Ky _ _ _|exact KX|refine KT rfl ?_|refine KZ ?_ ?_)) (by repeat (first|exact Sh _|apply St_)) (by first|exact KH _|exact KN _ _ _|exact KL _|exact KY _ _ _|exact Kd _ _ _|rfl|simp [KN,KH,KL]) ?_)
    refine KG (Ka ?_)
    refine ⟨[_],.cons ⟨_,_,_,rfl,(by repeat (first|exact Mh _|apply Mt)),by exact KK Try.underlying60 rfl sz_60⟩ .nil,fun a w' hr=>⟨?_,hr.fr.below⟩⟩
    rw [hz,plain_inf]
    rfl
  ·
    refine KB ?_
    refine KA (KM (o':=18) Try.underlying91 rfl rfl rfl sz_25 (by decide)) (Nb rfl) ?_
    refine LOps.det (KJ rfl (by repeat (first|exact Mh _|apply Mt)) (by exact pj_ld2 _ _ _ _ _ _)) (Nb rfl) ?_
    refine KA (KU (KAI pl_25 zr_25 rfl rfl) (show _ = natV 0 by unfold natV natL; rw [← vec_zeros 9])) (Nb rfl) ?_
    refine KA (KU (Det.eqa (by kernel_rfl) (fun w=>eq_nat Z.val 0 (Nat.lt_trans Z.isLt hpW) KAb 10000 (by decide) w) rfl rfl) (show _ = Value.bool false by rw [decide_eq_false (show ¬ Z.val = 0 from fun e=>hz (Fin.ext e))])) (Nb rfl) ?_
    refine KG ?_
    refine Kj rfl ?_
    refine Kh ?_
    refine KE ?_
    refine Ke [8] (by kernel_rfl) ?_
    refine KD 0 rfl (by kernel_rfl) (Nb rfl) (KC rfl) ?_
    refine KD 1 rfl (by kernel_rfl) (Nb rfl) (Kf rfl) ?_
    refine KD 2 rfl (by kernel_rfl) (Nb rfl) (KM (o':=59) Try.underlying147 rfl rfl rfl sz_145 (by decide)) ?_
    refine LAny.take 3 rfl (by kernel_rfl) (Nb rfl) (KJ rfl (by repeat (first|exact Mh _|apply Mt)) (Kb Try.underlying145 rfl (by exact cvC_gt_F _ _ _ _ _ _ _ _ _ _ _ _ _))) ?_
    refine KD 4 rfl (by kernel_rfl) (Nb rfl) (KM (o':=18) Try.underlying91 rfl rfl rfl sz_25 (by decide)) ?_
    refine LAny.take 5 rfl (by kernel_rfl) (Nb rfl) (KJ rfl (by repeat (first|exact Mh _|apply Mt)) (by exact pj_ld2 _ _ _ _ _ _)) ?_
    refine LAny.toP ?_
    refine KAa 7 rfl (.inl zr_25) (Nb rfl) rfl rfl rfl ?_
    refine KAF 6 rfl rfl rfl (Nb rfl) (by kernel_rfl) rfl (KAM (first:=[]) rfl en_160 rfl (fun w hw=>c_F_Inv V hok f bd _ w (hw _ (by repeat (first|exact Mh _|apply Mt))))) ?_
    rintro _ _ ⟨rfl,rfl⟩
    refine KAy (by kernel_rfl) (fun b5=>?_)
    refine KAs ?_
    refine Kx 8 rfl rfl (by kernel_rfl) (by kernel_rfl) (KP rfl rfl sz_25 (by repeat (first|exact Km _|exact KAB _ _ _|exact Kn _|exact Kw _ _ _|exact Ky _ _ _|exact KX|refine KT rfl ?_|refine KZ ?_ ?_)) (by repeat (first|exact Sh _|apply St_)) (by first|exact KH _|exact KN _ _ _|exact KL _|exact KY _ _ _|exact Kd _ _ _|rfl|simp [KN,KH,KL]) ?_)
    refine Kq (by kernel_rfl) ?_
    refine KE ?_
    refine Ke [17] (by kernel_rfl) ?_
    refine KD 0 rfl (by kernel_rfl) (Nb rfl) (KC rfl) ?_
    refine KD 1 rfl (by kernel_rfl) (Nb rfl) (Kf rfl) ?_
    refine KD 2 rfl (by kernel_rfl) (Nb rfl) (KM (o':=59) Try.underlying147 rfl rfl rfl sz_145 (by decide)) ?_
    refine LAny.take 3 rfl (by kernel_rfl) (Nb rfl) (KJ rfl (by repeat (first|exact Mh _|apply Mt)) (Kb Try.underlying145 rfl (by exact cvC_gt_F _ _ _ _ _ _ _ _ _ _ _ _ _))) ?_
    refine KD 4 rfl (by kernel_rfl) (Nb rfl) (KM (o':=0) Try.underlying91 rfl rfl rfl sz_25 (by decide)) ?_
    refine LAny.take 5 rfl (by kernel_rfl) (Nb rfl) (KJ rfl (by repeat (first|exact Mh _|apply Mt)) (by exact KAO Try.underlying25 rfl sz_25 rfl (KH _))) ?_
    refine LAny.take 6 rfl (by kernel_rfl) (Nb rfl) (KJ rfl (by repeat (first|exact Mh _|apply Mt)) (by exact KK Try.underlying25 rfl sz_25)) ?_
    refine KD 8 rfl (by kernel_rfl) (Nb rfl) (KC rfl) ?_
    refine KD 9 rfl (by kernel_rfl) (Nb rfl) (Kf rfl) ?_
    refine KD 10 rfl (by kernel_rfl) (Nb rfl) (KM (o':=59) Try.underlying147 rfl rfl rfl sz_145 (by decide)) ?_
    refine LAny.take 11 rfl (by kernel_rfl) (Nb rfl) (KJ rfl (by repeat (first|exact Mh _|apply Mt)) (Kb Try.underlying145 rfl (by exact cvC_gt_F _ _ _ _ _ _ _ _ _ _ _ _ _))) ?_
    refine KD 12 rfl (by kernel_rfl) (Nb rfl) (KM (o':=9) Try.underlying91 rfl rfl rfl sz_25 (by decide)) ?_
    refine LAny.take 13 rfl (by kernel_rfl) (Nb rfl) (KJ rfl (by repeat (first|exact Mh _|apply Mt)) (by exact KAi Try.underlying25 rfl sz_25 rfl (KH _) (KH _))) ?_
    refine LAny.take 14 rfl (by kernel_rfl) (Nb rfl) (KJ rfl (by repeat (first|exact Mh _|apply Mt)) (by exact KK Try.underlying25 rfl sz_25)) ?_
    refine KAA 7 rfl rfl (by kernel_rfl) (KQ (first:=[]) rfl en_156 rfl (Nb rfl) (fun w hw=>KAo V hok f bd _ _ w (hw _ (by repeat (first|exact Mh _|apply Mt))) (hw _ (by repeat (first|exact Mh _|apply Mt)))) ?_)
    refine KAA 15 rfl rfl (by kernel_rfl) (KQ (first:=[]) rfl en_156 rfl (Nb rfl) (fun w hw=>KAo V hok f bd _ _ w (hw _ (by repeat (first|exact Mh _|apply Mt))) (hw _ (by repeat (first|exact Mh _|apply Mt)))) ?_)
    refine KD 16 rfl (by kernel_rfl) (Nb rfl) (KU (KAI pl_60 zr_60 rfl (fill_pt _ _)) rfl) ?_
    refine Kx 17 rfl rfl (by kernel_rfl) (by kernel_rfl) (KP rfl rfl sz_60 (by repeat (first|exact Km _|exact KAB _ _ _|exact Kn _|exact Kw _ _ _|exact Ky _ _ _|exact KX|refine KT rfl ?_|refine KZ ?_ ?_)) (by repeat (first|exact Sh _|apply St_)) (by first|exact KH _|exact KN _ _ _|exact KL _|exact KY _ _ _|exact Kd _ _ _|rfl|simp [KN,KH,KL]) ?_)
    refine Kq (by kernel_rfl) ?_
    refine Ka ?_
    refine ⟨[_],.cons ⟨_,_,_,rfl,(by repeat (first|exact Mh _|apply Mt)),by exact KK Try.underlying60 rfl sz_60⟩ .nil,fun a w' hr=>⟨?_,hr.fr.below⟩⟩
    rw [plain_aff hz]
    rfl
theorem c_Sum (V:Cv) (b f bd:Nat) (hok:V.Ok) (X1 Y1 Z1 X2 Y2 Z2:Fin V.p) (w:World) (hb:(Item.blk b ⟨false,opL V f,147,(0,0)⟩).holds w) (hf:(Item.blk f ⟨false,fldL V.p bd,194,(0,0)⟩).holds w) (hbd:(Item.blk bd ⟨false,dvL V.p,241,(0,0)⟩).holds w):Calls Try.prog 128 ([.pointer (some ⟨b,0,none⟩),pjV X1.val Y1.val Z1.val,pjV X2.val Y2.val Z2.val]:List Value).toArray w (fun e w'=>e = .returned (pjF (sum3 V.A (V.B+V.B+V.B) X1 Y1 Z1 X2 Y2 Z2))∧Below w.heap.size w w'):=by
  have hbb:=hok.bounds
  have hpW:V.p<W9:=w9_521 hbb.2.1
  refine KAC (N:=213) (rs:=[.cell 6 91]) [.blk b ⟨false,opL V f,147,(0,0)⟩,.blk f ⟨false,fldL V.p bd,194,(0,0)⟩,.blk bd ⟨false,dvL V.p,241,(0,0)⟩] Try.func128 rfl Try.ntmps128 Try.results128 (Nb rfl) ⟨hb,hf,hbd,trivial⟩ rfl ?_
  show LCode _ _ _ ⟨_,_⟩ _
  refine KE (KB ?_)
  refine KI rfl (KS (KR (Kz rfl) (Nb rfl) (fun b4=>?_)))
  refine KI rfl (KS (KR (Kz rfl) (Nb rfl) (fun b5=>?_)))
  refine KI rfl (KS (KR (Kc zr_91) (Nb rfl) (fun b6=>?_)))
  refine KG ?_
  refine KE ?_
  refine Ke [] (by kernel_rfl) ?_
  refine KD 0 rfl (by kernel_rfl) (Nb rfl) (KC rfl) ?_
  refine KD 1 rfl (by kernel_rfl) (Nb rfl) (Kf rfl) ?_
  refine KD 2 rfl (by kernel_rfl) (Nb rfl) (KM (o':=59) Try.underlying147 rfl rfl rfl sz_145 (by decide)) ?_
  refine LAny.take 3 rfl (by kernel_rfl) (Nb rfl) (KJ rfl (by repeat (first|exact Mh _|apply Mt)) (Kb Try.underlying145 rfl (by exact cvC_gt_F _ _ _ _ _ _ _ _ _ _ _ _ _))) ?_
  refine KD 4 rfl (by kernel_rfl) (Nb rfl) (Det.makeFunc1 rfl) ?_
  refine KD 5 rfl (by kernel_rfl) (Nb rfl) (KC rfl) ?_
  refine KD 6 rfl (by kernel_rfl) (Nb rfl) (Kf rfl) ?_
  refine KD 7 rfl (by kernel_rfl) (Nb rfl) (KM (o':=59) Try.underlying147 rfl rfl rfl sz_145 (by decide)) ?_
  refine LAny.take 8 rfl (by kernel_rfl) (Nb rfl) (KJ rfl (by repeat (first|exact Mh _|apply Mt)) (Kb Try.underlying145 rfl (by exact cvC_gt_F _ _ _ _ _ _ _ _ _ _ _ _ _))) ?_
  refine KD 9 rfl (by kernel_rfl) (Nb rfl) (Det.makeFunc1 rfl) ?_
  refine KD 10 rfl (by kernel_rfl) (Nb rfl) (KC rfl) ?_
  refine KD 11 rfl (by kernel_rfl) (Nb rfl) (Kf rfl) ?_
  refine KD 12 rfl (by kernel_rfl) (Nb rfl) (KM (o':=59) Try.underlying147 rfl rfl rfl sz_145 (by decide)) ?_
  refine LAny.take 13 rfl (by kernel_rfl) (Nb rfl) (KJ rfl (by repeat (first|exact Mh _|apply Mt)) (Kb Try.underlying145 rfl (by exact cvC_gt_F _ _ _ _ _ _ _ _ _ _ _ _ _))) ?_
  refine KD 14 rfl (by kernel_rfl) (Nb rfl) (Det.makeFunc1 rfl) ?_
  refine KD 15 rfl (by kernel_rfl) (Nb rfl) (KF rfl) ?_
  refine KD 16 rfl (by kernel_rfl) (Nb rfl) (KF rfl) ?_
  refine KD 17 rfl (by kernel_rfl) (Nb rfl) (KF rfl) ?_
  refine Kq (by kernel_rfl) ?_
  refine KE ?_
  refine Ke [21,22,23] (by kernel_rfl) ?_
  refine KD 0 rfl (by kernel_rfl) (Nb rfl) (KC rfl) ?_
  refine KD 1 rfl (by kernel_rfl) (Nb rfl) (KM (o':=0) Try.underlying91 rfl rfl rfl sz_25 (by decide)) ?_
  refine LAny.take 2 rfl (by kernel_rfl) (Nb rfl) (KJ rfl (by repeat (first|exact Mh _|apply Mt)) (by exact KAO Try.underlying25 rfl sz_25 rfl (KH _))) ?_
  refine KD 3 rfl (by kernel_rfl) (Nb rfl) (KM (o':=0) Try.underlying91 rfl rfl rfl sz_25 (by decide)) ?_
  refine LAny.take 4 rfl (by kernel_rfl) (Nb rfl) (KJ rfl (by repeat (first|exact Mh _|apply Mt)) (by exact KAO Try.underlying25 rfl sz_25 rfl (KH _))) ?_
  refine KD 6 rfl (by kernel_rfl) (Nb rfl) (KC rfl) ?_
  refine KD 7 rfl (by kernel_rfl) (Nb rfl) (KM (o':=9) Try.underlying91 rfl rfl rfl sz_25 (by decide)) ?_
  refine KD 9 rfl (by kernel_rfl) (Nb rfl) (KM (o':=9) Try.underlying91 rfl rfl rfl sz_25 (by decide)) ?_
  refine KD 12 rfl (by kernel_rfl) (Nb rfl) (KC rfl) ?_
  refine KD 13 rfl (by kernel_rfl) (Nb rfl) (KM (o':=18) Try.underlying91 rfl rfl rfl sz_25 (by decide)) ?_
  refine KD 15 rfl (by kernel_rfl) (Nb rfl) (KM (o':=18) Try.underlying91 rfl rfl rfl sz_25 (by decide)) ?_
  refine LAny.takeW [11,17,21,22,23] 8 rfl (by kernel_rfl) (Nb rfl) (KJ rfl (by repeat (first|exact Mh _|apply Mt)) (by exact KAi Try.underlying25 rfl sz_25 rfl (KH _) (KH _))) ?_
  refine LAny.takeW [11,17,21,22,23] 10 rfl (by kernel_rfl) (Nb rfl) (KJ rfl (by repeat (first|exact Mh _|apply Mt)) (by exact KAi Try.underlying25 rfl sz_25 rfl (KH _) (KH _))) ?_
  refine LAny.takeW [17,21,22,23] 14 rfl (by kernel_rfl) (Nb rfl) (KJ rfl (by repeat (first|exact Mh _|apply Mt)) (by exact pj_ld2 _ _ _ _ _ _)) ?_
  refine LAny.takeW [17,21,22,23] 16 rfl (by kernel_rfl) (Nb rfl) (KJ rfl (by repeat (first|exact Mh _|apply Mt)) (by exact pj_ld2 _ _ _ _ _ _)) ?_
  refine LAny.toP ?_
  refine KAa 18 rfl (.inl zr_25) (Nb rfl) rfl rfl rfl ?_
  refine KAa 19 rfl (.inl zr_25) (Nb rfl) rfl rfl rfl ?_
  refine KAa 20 rfl (.inl zr_25) (Nb rfl) rfl rfl rfl ?_
  refine KAF 5 rfl rfl rfl (Nb rfl) (by kernel_rfl) rfl (KAM (first:=[_]) rfl en_156 rfl (fun w hw=>KAo V hok f bd _ _ w (hw _ (by repeat (first|exact Mh _|apply Mt))) (hw _ (by repeat (first|exact Mh _|apply Mt))))) ?_
  rintro _ _ ⟨rfl,rfl⟩
  refine KAF 11 rfl rfl rfl (Nb rfl) (by kernel_rfl) rfl (KAM (first:=[_]) rfl en_156 rfl (fun w hw=>KAo V hok f bd _ _ w (hw _ (by repeat (first|exact Mh _|apply Mt))) (hw _ (by repeat (first|exact Mh _|apply Mt))))) ?_
  rintro _ _ ⟨rfl,rfl⟩
  refine KAF 17 rfl rfl rfl (Nb rfl) (by kernel_rfl) rfl (KAM (first:=[_]) rfl en_156 rfl (fun w hw=>KAo V hok f bd _ _ w (hw _ (by repeat (first|exact Mh _|apply Mt))) (hw _ (by repeat (first|exact Mh _|apply Mt))))) ?_
  rintro _ _ ⟨rfl,rfl⟩
  refine KAy (by kernel_rfl) (fun b12=>?_)
  refine KAy (by kernel_rfl) (fun b11=>?_)
  refine KAy (by kernel_rfl) (fun b10=>?_)
  refine KAs ?_
  refine Kx 21 rfl rfl (by kernel_rfl) (by kernel_rfl) (KP rfl rfl sz_25 (by repeat (first|exact Km _|exact KAB _ _ _|exact Kn _|exact Kw _ _ _|exact Ky _ _ _|exact KX|refine KT rfl ?_|refine KZ ?_ ?_)) (by repeat (first|exact Sh _|apply St_)) (by first|exact KH _|exact KN _ _ _|exact KL _|exact KY _ _ _|exact Kd _ _ _|rfl|simp [KN,KH,KL]) ?_)
  refine Kx 22 rfl rfl (by kernel_rfl) (by kernel_rfl) (KP rfl rfl sz_25 (by repeat (first|exact Km _|exact KAB _ _ _|exact Kn _|exact Kw _ _ _|exact Ky _ _ _|exact KX|refine KT rfl ?_|refine KZ ?_ ?_)) (by repeat (first|exact Sh _|apply St_)) (by first|exact KH _|exact KN _ _ _|exact KL _|exact KY _ _ _|exact Kd _ _ _|rfl|simp [KN,KH,KL]) ?_)
  refine Kx 23 rfl rfl (by kernel_rfl) (by kernel_rfl) (KP rfl rfl sz_25 (by repeat (first|exact Km _|exact KAB _ _ _|exact Kn _|exact Kw _ _ _|exact Ky _ _ _|exact KX|refine KT rfl ?_|refine KZ ?_ ?_)) (by repeat (first|exact Sh _|apply St_)) (by first|exact KH _|exact KN _ _ _|exact KL _|exact KY _ _ _|exact Kd _ _ _|rfl|simp [KN,KH,KL]) ?_)
  refine Kq (by kernel_rfl) ?_
  refine KE ?_
  refine Ke [21] (by kernel_rfl) ?_
  refine KD 0 rfl (by kernel_rfl) (Nb rfl) (KC rfl) ?_
  refine KD 1 rfl (by kernel_rfl) (Nb rfl) (KC rfl) ?_
  refine KD 2 rfl (by kernel_rfl) (Nb rfl) (KC rfl) ?_
  refine KD 3 rfl (by kernel_rfl) (Nb rfl) (KM (o':=0) Try.underlying91 rfl rfl rfl sz_25 (by decide)) ?_
  refine LAny.take 4 rfl (by kernel_rfl) (Nb rfl) (KJ rfl (by repeat (first|exact Mh _|apply Mt)) (by exact KAO Try.underlying25 rfl sz_25 rfl (KH _))) ?_
  refine KD 5 rfl (by kernel_rfl) (Nb rfl) (KM (o':=9) Try.underlying91 rfl rfl rfl sz_25 (by decide)) ?_
  refine LAny.take 6 rfl (by kernel_rfl) (Nb rfl) (KJ rfl (by repeat (first|exact Mh _|apply Mt)) (by exact KAi Try.underlying25 rfl sz_25 rfl (KH _) (KH _))) ?_
  refine KD 8 rfl (by kernel_rfl) (Nb rfl) (KC rfl) ?_
  refine KD 9 rfl (by kernel_rfl) (Nb rfl) (KM (o':=0) Try.underlying91 rfl rfl rfl sz_25 (by decide)) ?_
  refine LAny.take 10 rfl (by kernel_rfl) (Nb rfl) (KJ rfl (by repeat (first|exact Mh _|apply Mt)) (by exact KAO Try.underlying25 rfl sz_25 rfl (KH _))) ?_
  refine KD 11 rfl (by kernel_rfl) (Nb rfl) (KM (o':=9) Try.underlying91 rfl rfl rfl sz_25 (by decide)) ?_
  refine LAny.take 12 rfl (by kernel_rfl) (Nb rfl) (KJ rfl (by repeat (first|exact Mh _|apply Mt)) (by exact KAi Try.underlying25 rfl sz_25 rfl (KH _) (KH _))) ?_
  refine KD 15 rfl (by kernel_rfl) (Nb rfl) (KC rfl) ?_
  refine LAny.take 16 rfl (by kernel_rfl) (Nb rfl) (KJ rfl (by repeat (first|exact Mh _|apply Mt)) (by exact KK Try.underlying25 rfl sz_25)) ?_
  refine LAny.take 17 rfl (by kernel_rfl) (Nb rfl) (KJ rfl (by repeat (first|exact Mh _|apply Mt)) (by exact KK Try.underlying25 rfl sz_25)) ?_
  refine LAny.toP ?_
  refine KAa 20 rfl (.inl zr_25) (Nb rfl) rfl rfl rfl ?_
  refine KAF 7 rfl rfl rfl (Nb rfl) (by kernel_rfl) rfl (KAM (first:=[_]) rfl en_152 rfl (fun w hw=>c_F_Add V hok f bd _ _ w (hw _ (by repeat (first|exact Mh _|apply Mt))))) ?_
  rintro _ _ ⟨rfl,rfl⟩
  refine KAF 13 rfl rfl rfl (Nb rfl) (by kernel_rfl) rfl (KAM (first:=[_]) rfl en_152 rfl (fun w hw=>c_F_Add V hok f bd _ _ w (hw _ (by repeat (first|exact Mh _|apply Mt))))) ?_
  rintro _ _ ⟨rfl,rfl⟩
  refine KAF 14 rfl rfl rfl (Nb rfl) (by kernel_rfl) rfl (KAM (first:=[_]) rfl en_156 rfl (fun w hw=>KAo V hok f bd _ _ w (hw _ (by repeat (first|exact Mh _|apply Mt))) (hw _ (by repeat (first|exact Mh _|apply Mt))))) ?_
  rintro _ _ ⟨rfl,rfl⟩
  refine KAF 18 rfl rfl rfl (Nb rfl) (by kernel_rfl) rfl (KAM (first:=[_]) rfl en_152 rfl (fun w hw=>c_F_Add V hok f bd _ _ w (hw _ (by repeat (first|exact Mh _|apply Mt))))) ?_
  rintro _ _ ⟨rfl,rfl⟩
  refine KAF 19 rfl rfl rfl (Nb rfl) (by kernel_rfl) rfl (KAM (first:=[_]) rfl en_161 rfl (fun w hw=>c_F_Sub V hok f bd _ _ w (hw _ (by repeat (first|exact Mh _|apply Mt))))) ?_
  rintro _ _ ⟨rfl,rfl⟩
  refine KAy (by kernel_rfl) (fun b13=>?_)
  refine KAs ?_
  refine Kx 21 rfl rfl (by kernel_rfl) (by kernel_rfl) (KP rfl rfl sz_25 (by repeat (first|exact Km _|exact KAB _ _ _|exact Kn _|exact Kw _ _ _|exact Ky _ _ _|exact KX|refine KT rfl ?_|refine KZ ?_ ?_)) (by repeat (first|exact Sh _|apply St_)) (by first|exact KH _|exact KN _ _ _|exact KL _|exact KY _ _ _|exact Kd _ _ _|rfl|simp [KN,KH,KL]) ?_)
  refine Kq (by kernel_rfl) ?_
  refine KE ?_
  refine Ke [21] (by kernel_rfl) ?_
  refine KD 0 rfl (by kernel_rfl) (Nb rfl) (KC rfl) ?_
  refine KD 1 rfl (by kernel_rfl) (Nb rfl) (KC rfl) ?_
  refine KD 2 rfl (by kernel_rfl) (Nb rfl) (KC rfl) ?_
  refine KD 3 rfl (by kernel_rfl) (Nb rfl) (KM (o':=0) Try.underlying91 rfl rfl rfl sz_25 (by decide)) ?_
  refine LAny.take 4 rfl (by kernel_rfl) (Nb rfl) (KJ rfl (by repeat (first|exact Mh _|apply Mt)) (by exact KAO Try.underlying25 rfl sz_25 rfl (KH _))) ?_
  refine KD 5 rfl (by kernel_rfl) (Nb rfl) (KM (o':=18) Try.underlying91 rfl rfl rfl sz_25 (by decide)) ?_
  refine LAny.take 6 rfl (by kernel_rfl) (Nb rfl) (KJ rfl (by repeat (first|exact Mh _|apply Mt)) (by exact pj_ld2 _ _ _ _ _ _)) ?_
  refine KD 8 rfl (by kernel_rfl) (Nb rfl) (KC rfl) ?_
  refine KD 9 rfl (by kernel_rfl) (Nb rfl) (KM (o':=0) Try.underlying91 rfl rfl rfl sz_25 (by decide)) ?_
  refine LAny.take 10 rfl (by kernel_rfl) (Nb rfl) (KJ rfl (by repeat (first|exact Mh _|apply Mt)) (by exact KAO Try.underlying25 rfl sz_25 rfl (KH _))) ?_
  refine KD 11 rfl (by kernel_rfl) (Nb rfl) (KM (o':=18) Try.underlying91 rfl rfl rfl sz_25 (by decide)) ?_
  refine LAny.take 12 rfl (by kernel_rfl) (Nb rfl) (KJ rfl (by repeat (first|exact Mh _|apply Mt)) (by exact pj_ld2 _ _ _ _ _ _)) ?_
  refine KD 15 rfl (by kernel_rfl) (Nb rfl) (KC rfl) ?_
  refine LAny.take 16 rfl (by kernel_rfl) (Nb rfl) (KJ rfl (by repeat (first|exact Mh _|apply Mt)) (by exact KK Try.underlying25 rfl sz_25)) ?_
  refine LAny.take 17 rfl (by kernel_rfl) (Nb rfl) (KJ rfl (by repeat (first|exact Mh _|apply Mt)) (by exact KK Try.underlying25 rfl sz_25)) ?_
  refine LAny.toP ?_
  refine KAa 20 rfl (.inl zr_25) (Nb rfl) rfl rfl rfl ?_
  refine KAF 7 rfl rfl rfl (Nb rfl) (by kernel_rfl) rfl (KAM (first:=[_]) rfl en_152 rfl (fun w hw=>c_F_Add V hok f bd _ _ w (hw _ (by repeat (first|exact Mh _|apply Mt))))) ?_
  rintro _ _ ⟨rfl,rfl⟩
  refine KAF 13 rfl rfl rfl (Nb rfl) (by kernel_rfl) rfl (KAM (first:=[_]) rfl en_152 rfl (fun w hw=>c_F_Add V hok f bd _ _ w (hw _ (by repeat (first|exact Mh _|apply Mt))))) ?_
  rintro _ _ ⟨rfl,rfl⟩
  refine KAF 14 rfl rfl rfl (Nb rfl) (by kernel_rfl) rfl (KAM (first:=[_]) rfl en_156 rfl (fun w hw=>KAo V hok f bd _ _ w (hw _ (by repeat (first|exact Mh _|apply Mt))) (hw _ (by repeat (first|exact Mh _|apply Mt))))) ?_
  rintro _ _ ⟨rfl,rfl⟩
  refine KAF 18 rfl rfl rfl (Nb rfl) (by kernel_rfl) rfl (KAM (first:=[_]) rfl en_152 rfl (fun w hw=>c_F_Add V hok f bd _ _ w (hw _ (by repeat (first|exact Mh _|apply Mt))))) ?_
  rintro _ _ ⟨rfl,rfl⟩
  refine KAF 19 rfl rfl rfl (Nb rfl) (by kernel_rfl) rfl (KAM (first:=[_]) rfl en_161 rfl (fun w hw=>c_F_Sub V hok f bd _ _ w (hw _ (by repeat (first|exact Mh _|apply Mt))))) ?_
  rintro _ _ ⟨rfl,rfl⟩
  refine KAy (by kernel_rfl) (fun b14=>?_)
  refine KAs ?_
  refine Kx 21 rfl rfl (by kernel_rfl) (by kernel_rfl) (KP rfl rfl sz_25 (by repeat (first|exact Km _|exact KAB _ _ _|exact Kn _|exact Kw _ _ _|exact Ky _ _ _|exact KX|refine KT rfl ?_|refine KZ ?_ ?_)) (by repeat (first|exact Sh _|apply St_)) (by first|exact KH _|exact KN _ _ _|exact KL _|exact KY _ _ _|exact Kd _ _ _|rfl|simp [KN,KH,KL]) ?_)
  refine Kq (by kernel_rfl) ?_
  refine KE ?_
  refine Ke [21] (by kernel_rfl) ?_
  refine KD 0 rfl (by kernel_rfl) (Nb rfl) (KC rfl) ?_
  refine KD 1 rfl (by kernel_rfl) (Nb rfl) (KC rfl) ?_
  refine KD 2 rfl (by kernel_rfl) (Nb rfl) (KC rfl) ?_
  refine KD 3 rfl (by kernel_rfl) (Nb rfl) (KM (o':=9) Try.underlying91 rfl rfl rfl sz_25 (by decide)) ?_
  refine LAny.take 4 rfl (by kernel_rfl) (Nb rfl) (KJ rfl (by repeat (first|exact Mh _|apply Mt)) (by exact KAi Try.underlying25 rfl sz_25 rfl (KH _) (KH _))) ?_
  refine KD 5 rfl (by kernel_rfl) (Nb rfl) (KM (o':=18) Try.underlying91 rfl rfl rfl sz_25 (by decide)) ?_
  refine LAny.take 6 rfl (by kernel_rfl) (Nb rfl) (KJ rfl (by repeat (first|exact Mh _|apply Mt)) (by exact pj_ld2 _ _ _ _ _ _)) ?_
  refine KD 8 rfl (by kernel_rfl) (Nb rfl) (KC rfl) ?_
  refine KD 9 rfl (by kernel_rfl) (Nb rfl) (KM (o':=9) Try.underlying91 rfl rfl rfl sz_25 (by decide)) ?_
  refine LAny.take 10 rfl (by kernel_rfl) (Nb rfl) (KJ rfl (by repeat (first|exact Mh _|apply Mt)) (by exact KAi Try.underlying25 rfl sz_25 rfl (KH _) (KH _))) ?_
  refine KD 11 rfl (by kernel_rfl) (Nb rfl) (KM (o':=18) Try.underlying91 rfl rfl rfl sz_25 (by decide)) ?_
  refine LAny.take 12 rfl (by kernel_rfl) (Nb rfl) (KJ rfl (by repeat (first|exact Mh _|apply Mt)) (by exact pj_ld2 _ _ _ _ _ _)) ?_
  refine KD 15 rfl (by kernel_rfl) (Nb rfl) (KC rfl) ?_
  refine LAny.take 16 rfl (by kernel_rfl) (Nb rfl) (KJ rfl (by repeat (first|exact Mh _|apply Mt)) (by exact KK Try.underlying25 rfl sz_25)) ?_
  refine LAny.take 17 rfl (by kernel_rfl) (Nb rfl) (KJ rfl (by repeat (first|exact Mh _|apply Mt)) (by exact KK Try.underlying25 rfl sz_25)) ?_
  refine LAny.toP ?_
  refine KAa 20 rfl (.inl zr_25) (Nb rfl) rfl rfl rfl ?_
  refine KAF 7 rfl rfl rfl (Nb rfl) (by kernel_rfl) rfl (KAM (first:=[_]) rfl en_152 rfl (fun w hw=>c_F_Add V hok f bd _ _ w (hw _ (by repeat (first|exact Mh _|apply Mt))))) ?_
  rintro _ _ ⟨rfl,rfl⟩
  refine KAF 13 rfl rfl rfl (Nb rfl) (by kernel_rfl) rfl (KAM (first:=[_]) rfl en_152 rfl (fun w hw=>c_F_Add V hok f bd _ _ w (hw _ (by repeat (first|exact Mh _|apply Mt))))) ?_
  rintro _ _ ⟨rfl,rfl⟩
  refine KAF 14 rfl rfl rfl (Nb rfl) (by kernel_rfl) rfl (KAM (first:=[_]) rfl en_156 rfl (fun w hw=>KAo V hok f bd _ _ w (hw _ (by repeat (first|exact Mh _|apply Mt))) (hw _ (by repeat (first|exact Mh _|apply Mt))))) ?_
  rintro _ _ ⟨rfl,rfl⟩
  refine KAF 18 rfl rfl rfl (Nb rfl) (by kernel_rfl) rfl (KAM (first:=[_]) rfl en_152 rfl (fun w hw=>c_F_Add V hok f bd _ _ w (hw _ (by repeat (first|exact Mh _|apply Mt))))) ?_
  rintro _ _ ⟨rfl,rfl⟩
  refine KAF 19 rfl rfl rfl (Nb rfl) (by kernel_rfl) rfl (KAM (first:=[_]) rfl en_161 rfl (fun w hw=>c_F_Sub V hok f bd _ _ w (hw _ (by repeat (first|exact Mh _|apply Mt))))) ?_
  rintro _ _ ⟨rfl,rfl⟩
  refine KAy (by kernel_rfl) (fun b15=>?_)
  refine KAs ?_
  refine Kx 21 rfl rfl (by kernel_rfl) (by kernel_rfl) (KP rfl rfl sz_25 (by repeat (first|exact Km _|exact KAB _ _ _|exact Kn _|exact Kw _ _ _|exact Ky _ _ _|exact KX|refine KT rfl ?_|refine KZ ?_ ?_)) (by repeat (first|exact Sh _|apply St_)) (by first|exact KH _|exact KN _ _ _|exact KL _|exact KY _ _ _|exact Kd _ _ _|rfl|simp [KN,KH,KL]) ?_)
  refine Kq (by kernel_rfl) ?_
  refine KE ?_
  refine Ke [18] (by kernel_rfl) ?_
  refine KD 0 rfl (by kernel_rfl) (Nb rfl) (KC rfl) ?_
  refine KD 1 rfl (by kernel_rfl) (Nb rfl) (KC rfl) ?_
  refine KD 2 rfl (by kernel_rfl) (Nb rfl) (KC rfl) ?_
  refine KD 3 rfl (by kernel_rfl) (Nb rfl) (Kf rfl) ?_
  refine KD 4 rfl (by kernel_rfl) (Nb rfl) (KM (o':=60) Try.underlying147 rfl rfl rfl sz_25 (by decide)) ?_
  refine LAny.take 5 rfl (by kernel_rfl) (Nb rfl) (Det.cast (KJ rfl (by repeat (first|exact Mh _|apply Mt)) (by exact cvC_ld_t3 _ _ _ _ _ _ _ _ _ _ _ _ _ _ _ _)) (t_val hok)) ?_
  refine LAny.take 6 rfl (by kernel_rfl) (Nb rfl) (KJ rfl (by repeat (first|exact Mh _|apply Mt)) (by exact KK Try.underlying25 rfl sz_25)) ?_
  refine KD 8 rfl (by kernel_rfl) (Nb rfl) (KC rfl) ?_
  refine KD 9 rfl (by kernel_rfl) (Nb rfl) (KC rfl) ?_
  refine KD 10 rfl (by kernel_rfl) (Nb rfl) (Kf rfl) ?_
  refine KD 11 rfl (by kernel_rfl) (Nb rfl) (KM (o':=0) Try.underlying147 rfl rfl rfl sz_62 (by decide)) ?_
  refine KD 12 rfl (by kernel_rfl) (Nb rfl) (KM (o':=10) Try.underlying62 rfl rfl rfl sz_25 (by decide)) ?_
  refine LAny.take 13 rfl (by kernel_rfl) (Nb rfl) (Det.cast (KJ rfl (by repeat (first|exact Mh _|apply Mt)) (by exact cvC_ld_a _ _ _ _ _ _ _ _ _ _ _ _ _ _ _ _)) (a_val hok)) ?_
  refine LAny.take 14 rfl (by kernel_rfl) (Nb rfl) (KJ rfl (by repeat (first|exact Mh _|apply Mt)) (by exact KK Try.underlying25 rfl sz_25)) ?_
  refine LAny.toP ?_
  refine KAa 17 rfl (.inl zr_25) (Nb rfl) rfl rfl rfl ?_
  refine KAF 7 rfl rfl rfl (Nb rfl) (by kernel_rfl) rfl (KAM (first:=[_]) rfl en_156 rfl (fun w hw=>KAo V hok f bd _ _ w (hw _ (by repeat (first|exact Mh _|apply Mt))) (hw _ (by repeat (first|exact Mh _|apply Mt))))) ?_
  rintro _ _ ⟨rfl,rfl⟩
  refine KAF 15 rfl rfl rfl (Nb rfl) (by kernel_rfl) rfl (KAM (first:=[_]) rfl en_156 rfl (fun w hw=>KAo V hok f bd _ _ w (hw _ (by repeat (first|exact Mh _|apply Mt))) (hw _ (by repeat (first|exact Mh _|apply Mt))))) ?_
  rintro _ _ ⟨rfl,rfl⟩
  refine KAF 16 rfl rfl rfl (Nb rfl) (by kernel_rfl) rfl (KAM (first:=[_]) rfl en_152 rfl (fun w hw=>c_F_Add V hok f bd _ _ w (hw _ (by repeat (first|exact Mh _|apply Mt))))) ?_
  rintro _ _ ⟨rfl,rfl⟩
  refine KAy (by kernel_rfl) (fun b16=>?_)
  refine KAs ?_
  refine Kx 18 rfl rfl (by kernel_rfl) (by kernel_rfl) (KP rfl rfl sz_25 (by repeat (first|exact Km _|exact KAB _ _ _|exact Kn _|exact Kw _ _ _|exact Ky _ _ _|exact KX|refine KT rfl ?_|refine KZ ?_ ?_)) (by repeat (first|exact Sh _|apply St_)) (by first|exact KH _|exact KN _ _ _|exact KL _|exact KY _ _ _|exact Kd _ _ _|rfl|simp [KN,KH,KL]) ?_)
  refine Kq (by kernel_rfl) ?_
  refine KE (KB ?_)
  refine KA (KC rfl) (Nb rfl) ?_
  refine LOps.det (KJ rfl (by repeat (first|exact Mh _|apply Mt)) (by exact KK Try.underlying25 rfl sz_25)) (Nb rfl) ?_
  refine LOps.det (KJ rfl (by repeat (first|exact Mh _|apply Mt)) (by exact KK Try.underlying25 rfl sz_25)) (Nb rfl) ?_
  refine KI rfl (KS (KQ (first:=[_]) rfl en_161 rfl (Nb rfl) (fun w hw=>c_F_Sub V hok f bd _ _ w (hw _ (by repeat (first|exact Mh _|apply Mt)))) ?_))
  refine KI rfl (KS (KR (Kc zr_25) (Nb rfl) (fun b17=>?_)))
  refine KI rfl (KP rfl rfl sz_25 (by repeat (first|exact Km _|exact KAB _ _ _|exact Kn _|exact Kw _ _ _|exact Ky _ _ _|exact KX|refine KT rfl ?_|refine KZ ?_ ?_)) (by repeat (first|exact Sh _|apply St_)) (by first|exact KH _|exact KN _ _ _|exact KL _|exact KY _ _ _|exact Kd _ _ _|rfl|simp [KN,KH,KL]) ?_)
  refine KG ?_
  refine KE (KB ?_)
  refine KA (KC rfl) (Nb rfl) ?_
  refine LOps.det (KJ rfl (by repeat (first|exact Mh _|apply Mt)) (by exact KK Try.underlying25 rfl sz_25)) (Nb rfl) ?_
  refine LOps.det (KJ rfl (by repeat (first|exact Mh _|apply Mt)) (by exact KK Try.underlying25 rfl sz_25)) (Nb rfl) ?_
  refine KI rfl (KS (KQ (first:=[_]) rfl en_152 rfl (Nb rfl) (fun w hw=>c_F_Add V hok f bd _ _ w (hw _ (by repeat (first|exact Mh _|apply Mt)))) ?_))
  refine KI rfl (KP rfl rfl sz_25 (by repeat (first|exact Km _|exact KAB _ _ _|exact Kn _|exact Kw _ _ _|exact Ky _ _ _|exact KX|refine KT rfl ?_|refine KZ ?_ ?_)) (by repeat (first|exact Sh _|apply St_)) (by first|exact KH _|exact KN _ _ _|exact KL _|exact KY _ _ _|exact Kd _ _ _|rfl|simp [KN,KH,KL]) ?_)
  refine KG ?_
  refine KE (KB ?_)
  refine KA (KC rfl) (Nb rfl) ?_
  refine LOps.det (KJ rfl (by repeat (first|exact Mh _|apply Mt)) (by exact KK Try.underlying25 rfl sz_25)) (Nb rfl) ?_
  refine LOps.det (KJ rfl (by repeat (first|exact Mh _|apply Mt)) (by exact KK Try.underlying25 rfl sz_25)) (Nb rfl) ?_
  refine KI rfl (KS (KQ (first:=[_]) rfl en_156 rfl (Nb rfl) (fun w hw=>KAo V hok f bd _ _ w (hw _ (by repeat (first|exact Mh _|apply Mt))) (hw _ (by repeat (first|exact Mh _|apply Mt)))) ?_))
  refine KI rfl (KS (KR (Kc zr_25) (Nb rfl) (fun b18=>?_)))
  refine KI rfl (KP rfl rfl sz_25 (by repeat (first|exact Km _|exact KAB _ _ _|exact Kn _|exact Kw _ _ _|exact Ky _ _ _|exact KX|refine KT rfl ?_|refine KZ ?_ ?_)) (by repeat (first|exact Sh _|apply St_)) (by first|exact KH _|exact KN _ _ _|exact KL _|exact KY _ _ _|exact Kd _ _ _|rfl|simp [KN,KH,KL]) ?_)
  refine KG ?_
  refine KE ?_
  refine Ke [7] (by kernel_rfl) ?_
  refine KD 0 rfl (by kernel_rfl) (Nb rfl) (KC rfl) ?_
  refine KD 1 rfl (by kernel_rfl) (Nb rfl) (KC rfl) ?_
  refine LAny.take 2 rfl (by kernel_rfl) (Nb rfl) (KJ rfl (by repeat (first|exact Mh _|apply Mt)) (by exact KK Try.underlying25 rfl sz_25)) ?_
  refine LAny.take 3 rfl (by kernel_rfl) (Nb rfl) (KJ rfl (by repeat (first|exact Mh _|apply Mt)) (by exact KK Try.underlying25 rfl sz_25)) ?_
  refine LAny.take 5 rfl (by kernel_rfl) (Nb rfl) (KJ rfl (by repeat (first|exact Mh _|apply Mt)) (by exact KK Try.underlying25 rfl sz_25)) ?_
  refine KAA 4 rfl rfl (by kernel_rfl) (KQ (first:=[_]) rfl en_152 rfl (Nb rfl) (fun w hw=>c_F_Add V hok f bd _ _ w (hw _ (by repeat (first|exact Mh _|apply Mt)))) ?_)
  refine KAA 6 rfl rfl (by kernel_rfl) (KQ (first:=[_]) rfl en_152 rfl (Nb rfl) (fun w hw=>c_F_Add V hok f bd _ _ w (hw _ (by repeat (first|exact Mh _|apply Mt)))) ?_)
  refine Kx 7 rfl rfl (by kernel_rfl) (by kernel_rfl) (KP rfl rfl sz_25 (by repeat (first|exact Km _|exact KAB _ _ _|exact Kn _|exact Kw _ _ _|exact Ky _ _ _|exact KX|refine KT rfl ?_|refine KZ ?_ ?_)) (by repeat (first|exact Sh _|apply St_)) (by first|exact KH _|exact KN _ _ _|exact KL _|exact KY _ _ _|exact Kd _ _ _|rfl|simp [KN,KH,KL]) ?_)
  refine Kq (by kernel_rfl) ?_
  refine KE ?_
  refine Ke [8] (by kernel_rfl) ?_
  refine KD 0 rfl (by kernel_rfl) (Nb rfl) (KC rfl) ?_
  refine KD 1 rfl (by kernel_rfl) (Nb rfl) (KC rfl) ?_
  refine KD 2 rfl (by kernel_rfl) (Nb rfl) (Kf rfl) ?_
  refine KD 3 rfl (by kernel_rfl) (Nb rfl) (KM (o':=0) Try.underlying147 rfl rfl rfl sz_62 (by decide)) ?_
  refine KD 4 rfl (by kernel_rfl) (Nb rfl) (KM (o':=10) Try.underlying62 rfl rfl rfl sz_25 (by decide)) ?_
  refine LAny.take 5 rfl (by kernel_rfl) (Nb rfl) (Det.cast (KJ rfl (by repeat (first|exact Mh _|apply Mt)) (by exact cvC_ld_a _ _ _ _ _ _ _ _ _ _ _ _ _ _ _ _)) (a_val hok)) ?_
  refine LAny.take 6 rfl (by kernel_rfl) (Nb rfl) (KJ rfl (by repeat (first|exact Mh _|apply Mt)) (by exact KK Try.underlying25 rfl sz_25)) ?_
  refine KAA 7 rfl rfl (by kernel_rfl) (KQ (first:=[_]) rfl en_156 rfl (Nb rfl) (fun w hw=>KAo V hok f bd _ _ w (hw _ (by repeat (first|exact Mh _|apply Mt))) (hw _ (by repeat (first|exact Mh _|apply Mt)))) ?_)
  refine Kx 8 rfl rfl (by kernel_rfl) (by kernel_rfl) (KP rfl rfl sz_25 (by repeat (first|exact Km _|exact KAB _ _ _|exact Kn _|exact Kw _ _ _|exact Ky _ _ _|exact KX|refine KT rfl ?_|refine KZ ?_ ?_)) (by repeat (first|exact Sh _|apply St_)) (by first|exact KH _|exact KN _ _ _|exact KL _|exact KY _ _ _|exact Kd _ _ _|rfl|simp [KN,KH,KL]) ?_)
  refine Kq (by kernel_rfl) ?_
  refine KE ?_
  refine Ke [7] (by kernel_rfl) ?_
  refine KD 0 rfl (by kernel_rfl) (Nb rfl) (KC rfl) ?_
  refine KD 1 rfl (by kernel_rfl) (Nb rfl) (KC rfl) ?_
  refine KD 2 rfl (by kernel_rfl) (Nb rfl) (Kf rfl) ?_
  refine KD 3 rfl (by kernel_rfl) (Nb rfl) (KM (o':=60) Try.underlying147 rfl rfl rfl sz_25 (by decide)) ?_
  refine LAny.take 4 rfl (by kernel_rfl) (Nb rfl) (Det.cast (KJ rfl (by repeat (first|exact Mh _|apply Mt)) (by exact cvC_ld_t3 _ _ _ _ _ _ _ _ _ _ _ _ _ _ _ _)) (t_val hok)) ?_
  refine LAny.take 5 rfl (by kernel_rfl) (Nb rfl) (KJ rfl (by repeat (first|exact Mh _|apply Mt)) (by exact KK Try.underlying25 rfl sz_25)) ?_
  refine KAA 6 rfl rfl (by kernel_rfl) (KQ (first:=[_]) rfl en_156 rfl (Nb rfl) (fun w hw=>KAo V hok f bd _ _ w (hw _ (by repeat (first|exact Mh _|apply Mt))) (hw _ (by repeat (first|exact Mh _|apply Mt)))) ?_)
  refine Kx 7 rfl rfl (by kernel_rfl) (by kernel_rfl) (KP rfl rfl sz_25 (by repeat (first|exact Km _|exact KAB _ _ _|exact Kn _|exact Kw _ _ _|exact Ky _ _ _|exact KX|refine KT rfl ?_|refine KZ ?_ ?_)) (by repeat (first|exact Sh _|apply St_)) (by first|exact KH _|exact KN _ _ _|exact KL _|exact KY _ _ _|exact Kd _ _ _|rfl|simp [KN,KH,KL]) ?_)
  refine Kq (by kernel_rfl) ?_
  refine KE (KB ?_)
  refine KA (KC rfl) (Nb rfl) ?_
  refine LOps.det (KJ rfl (by repeat (first|exact Mh _|apply Mt)) (by exact KK Try.underlying25 rfl sz_25)) (Nb rfl) ?_
  refine LOps.det (KJ rfl (by repeat (first|exact Mh _|apply Mt)) (by exact KK Try.underlying25 rfl sz_25)) (Nb rfl) ?_
  refine KI rfl (KS (KQ (first:=[_]) rfl en_152 rfl (Nb rfl) (fun w hw=>c_F_Add V hok f bd _ _ w (hw _ (by repeat (first|exact Mh _|apply Mt)))) ?_))
  refine KI rfl (KP rfl rfl sz_25 (by repeat (first|exact Km _|exact KAB _ _ _|exact Kn _|exact Kw _ _ _|exact Ky _ _ _|exact KX|refine KT rfl ?_|refine KZ ?_ ?_)) (by repeat (first|exact Sh _|apply St_)) (by first|exact KH _|exact KN _ _ _|exact KL _|exact KY _ _ _|exact Kd _ _ _|rfl|simp [KN,KH,KL]) ?_)
  refine KG ?_
  refine KE ?_
  refine Ke [11] (by kernel_rfl) ?_
  refine KD 0 rfl (by kernel_rfl) (Nb rfl) (KC rfl) ?_
  refine KD 1 rfl (by kernel_rfl) (Nb rfl) (KC rfl) ?_
  refine KD 2 rfl (by kernel_rfl) (Nb rfl) (Kf rfl) ?_
  refine KD 3 rfl (by kernel_rfl) (Nb rfl) (KM (o':=0) Try.underlying147 rfl rfl rfl sz_62 (by decide)) ?_
  refine KD 4 rfl (by kernel_rfl) (Nb rfl) (KM (o':=10) Try.underlying62 rfl rfl rfl sz_25 (by decide)) ?_
  refine LAny.take 5 rfl (by kernel_rfl) (Nb rfl) (Det.cast (KJ rfl (by repeat (first|exact Mh _|apply Mt)) (by exact cvC_ld_a _ _ _ _ _ _ _ _ _ _ _ _ _ _ _ _)) (a_val hok)) ?_
  refine KD 6 rfl (by kernel_rfl) (Nb rfl) (KC rfl) ?_
  refine LAny.take 7 rfl (by kernel_rfl) (Nb rfl) (KJ rfl (by repeat (first|exact Mh _|apply Mt)) (by exact KK Try.underlying25 rfl sz_25)) ?_
  refine LAny.take 8 rfl (by kernel_rfl) (Nb rfl) (KJ rfl (by repeat (first|exact Mh _|apply Mt)) (by exact KK Try.underlying25 rfl sz_25)) ?_
  refine KAA 9 rfl rfl (by kernel_rfl) (KQ (first:=[_]) rfl en_161 rfl (Nb rfl) (fun w hw=>c_F_Sub V hok f bd _ _ w (hw _ (by repeat (first|exact Mh _|apply Mt)))) ?_)
  refine KAA 10 rfl rfl (by kernel_rfl) (KQ (first:=[_]) rfl en_156 rfl (Nb rfl) (fun w hw=>KAo V hok f bd _ _ w (hw _ (by repeat (first|exact Mh _|apply Mt))) (hw _ (by repeat (first|exact Mh _|apply Mt)))) ?_)
  refine Kx 11 rfl rfl (by kernel_rfl) (by kernel_rfl) (KP rfl rfl sz_25 (by repeat (first|exact Km _|exact KAB _ _ _|exact Kn _|exact Kw _ _ _|exact Ky _ _ _|exact KX|refine KT rfl ?_|refine KZ ?_ ?_)) (by repeat (first|exact Sh _|apply St_)) (by first|exact KH _|exact KN _ _ _|exact KL _|exact KY _ _ _|exact Kd _ _ _|rfl|simp [KN,KH,KL]) ?_)
  refine Kq (by kernel_rfl) ?_
  refine KE (KB ?_)
  refine KA (KC rfl) (Nb rfl) ?_
  refine LOps.det (KJ rfl (by repeat (first|exact Mh _|apply Mt)) (by exact KK Try.underlying25 rfl sz_25)) (Nb rfl) ?_
  refine LOps.det (KJ rfl (by repeat (first|exact Mh _|apply Mt)) (by exact KK Try.underlying25 rfl sz_25)) (Nb rfl) ?_
  refine KI rfl (KS (KQ (first:=[_]) rfl en_152 rfl (Nb rfl) (fun w hw=>c_F_Add V hok f bd _ _ w (hw _ (by repeat (first|exact Mh _|apply Mt)))) ?_))
  refine KI rfl (KP rfl rfl sz_25 (by repeat (first|exact Km _|exact KAB _ _ _|exact Kn _|exact Kw _ _ _|exact Ky _ _ _|exact KX|refine KT rfl ?_|refine KZ ?_ ?_)) (by repeat (first|exact Sh _|apply St_)) (by first|exact KH _|exact KN _ _ _|exact KL _|exact KY _ _ _|exact Kd _ _ _|rfl|simp [KN,KH,KL]) ?_)
  refine KG ?_
  refine KE ?_
  refine Ke [7] (by kernel_rfl) ?_
  refine KD 0 rfl (by kernel_rfl) (Nb rfl) (KC rfl) ?_
  refine LAny.take 1 rfl (by kernel_rfl) (Nb rfl) (KJ rfl (by repeat (first|exact Mh _|apply Mt)) (by exact KK Try.underlying25 rfl sz_25)) ?_
  refine KD 2 rfl (by kernel_rfl) (Nb rfl) (KC rfl) ?_
  refine LAny.take 3 rfl (by kernel_rfl) (Nb rfl) (KJ rfl (by repeat (first|exact Mh _|apply Mt)) (by exact KK Try.underlying25 rfl sz_25)) ?_
  refine LAny.take 4 rfl (by kernel_rfl) (Nb rfl) (KJ rfl (by repeat (first|exact Mh _|apply Mt)) (by exact KK Try.underlying25 rfl sz_25)) ?_
  refine KAA 5 rfl rfl (by kernel_rfl) (KQ (first:=[_]) rfl en_156 rfl (Nb rfl) (fun w hw=>KAo V hok f bd _ _ w (hw _ (by repeat (first|exact Mh _|apply Mt))) (hw _ (by repeat (first|exact Mh _|apply Mt)))) ?_)
  refine KAA 6 rfl rfl (by kernel_rfl) (KQ (first:=[_]) rfl en_152 rfl (Nb rfl) (fun w hw=>c_F_Add V hok f bd _ _ w (hw _ (by repeat (first|exact Mh _|apply Mt)))) ?_)
  refine Kx 7 rfl rfl (by kernel_rfl) (by kernel_rfl) (KP rfl rfl sz_25 (by repeat (first|exact Km _|exact KAB _ _ _|exact Kn _|exact Kw _ _ _|exact Ky _ _ _|exact KX|refine KT rfl ?_|refine KZ ?_ ?_)) (by repeat (first|exact Sh _|apply St_)) (by first|exact KH _|exact KN _ _ _|exact KL _|exact KY _ _ _|exact Kd _ _ _|rfl|simp [KN,KH,KL]) ?_)
  refine Kq (by kernel_rfl) ?_
  refine KE ?_
  refine Ke [10] (by kernel_rfl) ?_
  refine KD 0 rfl (by kernel_rfl) (Nb rfl) (KC rfl) ?_
  refine KD 1 rfl (by kernel_rfl) (Nb rfl) (KC rfl) ?_
  refine LAny.take 2 rfl (by kernel_rfl) (Nb rfl) (KJ rfl (by repeat (first|exact Mh _|apply Mt)) (by exact KK Try.underlying25 rfl sz_25)) ?_
  refine LAny.take 3 rfl (by kernel_rfl) (Nb rfl) (KJ rfl (by repeat (first|exact Mh _|apply Mt)) (by exact KK Try.underlying25 rfl sz_25)) ?_
  refine KD 5 rfl (by kernel_rfl) (Nb rfl) (KC rfl) ?_
  refine LAny.take 6 rfl (by kernel_rfl) (Nb rfl) (KJ rfl (by repeat (first|exact Mh _|apply Mt)) (by exact KK Try.underlying25 rfl sz_25)) ?_
  refine LAny.take 7 rfl (by kernel_rfl) (Nb rfl) (KJ rfl (by repeat (first|exact Mh _|apply Mt)) (by exact KK Try.underlying25 rfl sz_25)) ?_
  refine KAA 4 rfl rfl (by kernel_rfl) (KQ (first:=[_]) rfl en_156 rfl (Nb rfl) (fun w hw=>KAo V hok f bd _ _ w (hw _ (by repeat (first|exact Mh _|apply Mt))) (hw _ (by repeat (first|exact Mh _|apply Mt)))) ?_)
  refine KAA 8 rfl rfl (by kernel_rfl) (KQ (first:=[_]) rfl en_156 rfl (Nb rfl) (fun w hw=>KAo V hok f bd _ _ w (hw _ (by repeat (first|exact Mh _|apply Mt))) (hw _ (by repeat (first|exact Mh _|apply Mt)))) ?_)
  refine KAA 9 rfl rfl (by kernel_rfl) (KQ (first:=[_]) rfl en_161 rfl (Nb rfl) (fun w hw=>c_F_Sub V hok f bd _ _ w (hw _ (by repeat (first|exact Mh _|apply Mt)))) ?_)
  refine Kx 10 rfl rfl (by kernel_rfl) (by kernel_rfl) (KP rfl rfl sz_25 (by repeat (first|exact Km _|exact KAB _ _ _|exact Kn _|exact Kw _ _ _|exact Ky _ _ _|exact KX|refine KT rfl ?_|refine KZ ?_ ?_)) (by repeat (first|exact Sh _|apply St_)) (by first|exact KH _|exact KN _ _ _|exact KL _|exact KY _ _ _|exact Kd _ _ _|rfl|simp [KN,KH,KL]) ?_)
  refine Kq (by kernel_rfl) ?_
  refine KE ?_
  refine Ke [10] (by kernel_rfl) ?_
  refine KD 0 rfl (by kernel_rfl) (Nb rfl) (KC rfl) ?_
  refine KD 1 rfl (by kernel_rfl) (Nb rfl) (KC rfl) ?_
  refine LAny.take 2 rfl (by kernel_rfl) (Nb rfl) (KJ rfl (by repeat (first|exact Mh _|apply Mt)) (by exact KK Try.underlying25 rfl sz_25)) ?_
  refine LAny.take 3 rfl (by kernel_rfl) (Nb rfl) (KJ rfl (by repeat (first|exact Mh _|apply Mt)) (by exact KK Try.underlying25 rfl sz_25)) ?_
  refine KD 5 rfl (by kernel_rfl) (Nb rfl) (KC rfl) ?_
  refine LAny.take 6 rfl (by kernel_rfl) (Nb rfl) (KJ rfl (by repeat (first|exact Mh _|apply Mt)) (by exact KK Try.underlying25 rfl sz_25)) ?_
  refine LAny.take 7 rfl (by kernel_rfl) (Nb rfl) (KJ rfl (by repeat (first|exact Mh _|apply Mt)) (by exact KK Try.underlying25 rfl sz_25)) ?_
  refine KAA 4 rfl rfl (by kernel_rfl) (KQ (first:=[_]) rfl en_156 rfl (Nb rfl) (fun w hw=>KAo V hok f bd _ _ w (hw _ (by repeat (first|exact Mh _|apply Mt))) (hw _ (by repeat (first|exact Mh _|apply Mt)))) ?_)
  refine KAA 8 rfl rfl (by kernel_rfl) (KQ (first:=[_]) rfl en_156 rfl (Nb rfl) (fun w hw=>KAo V hok f bd _ _ w (hw _ (by repeat (first|exact Mh _|apply Mt))) (hw _ (by repeat (first|exact Mh _|apply Mt)))) ?_)
  refine KAA 9 rfl rfl (by kernel_rfl) (KQ (first:=[_]) rfl en_152 rfl (Nb rfl) (fun w hw=>c_F_Add V hok f bd _ _ w (hw _ (by repeat (first|exact Mh _|apply Mt)))) ?_)
  refine Kx 10 rfl rfl (by kernel_rfl) (by kernel_rfl) (KP rfl rfl sz_25 (by repeat (first|exact Km _|exact KAB _ _ _|exact Kn _|exact Kw _ _ _|exact Ky _ _ _|exact KX|refine KT rfl ?_|refine KZ ?_ ?_)) (by repeat (first|exact Sh _|apply St_)) (by first|exact KH _|exact KN _ _ _|exact KL _|exact KY _ _ _|exact Kd _ _ _|rfl|simp [KN,KH,KL]) ?_)
  refine Kq (by kernel_rfl) ?_
  refine KE (KB ?_)
  refine LOps.det (KJ rfl (by repeat (first|exact Mh _|apply Mt)) (by exact KK Try.underlying25 rfl sz_25)) (Nb rfl) ?_
  refine LOps.det (KJ rfl (by repeat (first|exact Mh _|apply Mt)) (by exact KK Try.underlying25 rfl sz_25)) (Nb rfl) ?_
  refine LOps.det (KJ rfl (by repeat (first|exact Mh _|apply Mt)) (by exact KK Try.underlying25 rfl sz_25)) (Nb rfl) ?_
  refine KA (KU (KAI pl_91 zr_91 rfl (fill_pj _ _ _)) rfl) (Nb rfl) ?_
  refine KI rfl (KP rfl rfl sz_91 (by repeat (first|exact Km _|exact KAB _ _ _|exact Kn _|exact Kw _ _ _|exact Ky _ _ _|exact KX|refine KT rfl ?_|refine KZ ?_ ?_)) (by repeat (first|exact Sh _|apply St_)) (by first|exact KH _|exact KN _ _ _|exact KL _|exact KY _ _ _|exact Kd _ _ _|rfl|simp [KN,KH,KL]) ?_)
  refine KG (Ka ?_)
  refine ⟨[_],.cons ⟨_,_,_,rfl,(by repeat (first|exact Mh _|apply Mt)),by exact KK Try.underlying91 rfl sz_91⟩ .nil,fun a w' hr=>⟨?_,hr.fr.below⟩⟩
  rfl
end Go.Proofs.Ytljblbgogjieaaa
set_option linter.unusedVariables false
set_option linter.unusedSimpArgs false
set_option maxRecDepth 20000
namespace Go.Proofs.Ytljblbgogjieaaa
open Go Go.RowKit
open Grp
def sumT (V:Cv) (T U:Fin V.p×Fin V.p×Fin V.p):Fin V.p×Fin V.p×Fin V.p:=sum3 V.A (V.B+V.B+V.B) T.1 T.2.1 T.2.2 U.1 U.2.1 U.2.2
structure RepT (V:Cv) (T:Fin V.p×Fin V.p×Fin V.p) (P:Pt V.p):Prop where
  rep:Rep T.1 T.2.1 T.2.2 P
  on:On V.A V.B P
theorem RepT.sum {V:Cv} (hok:V.Ok) {T U:Fin V.p×Fin V.p×Fin V.p} {P R:Pt V.p} (h:RepT V T P) (k:RepT V U R):RepT V (sumT V T U) (padd V.A P R):=⟨hok.rep_sum h.rep k.rep h.on k.on,hok.sum h.on k.on⟩
theorem RepT.trip {V:Cv} (hok:V.Ok) {P:Pt V.p} (hP:On V.A V.B P):RepT V (tripF P) P:=⟨hok.rep_trip P,hP⟩
theorem c_SumT (V:Cv) (b f bd:Nat) (hok:V.Ok) (T U:Fin V.p×Fin V.p×Fin V.p) (w:World) (hb:(Item.blk b ⟨false,opL V f,147,(0,0)⟩).holds w) (hf:(Item.blk f ⟨false,fldL V.p bd,194,(0,0)⟩).holds w) (hbd:(Item.blk bd ⟨false,dvL V.p,241,(0,0)⟩).holds w):Calls Try.prog 128 ([.pointer (some ⟨b,0,none⟩),pjF T,pjF U]:List Value).toArray w (fun e w'=>e = .returned (pjF (sumT V T U))∧Below w.heap.size w w') :=
  c_Sum V b f bd hok T.1 T.2.1 T.2.2 U.1 U.2.1 U.2.2 w hb hf hbd
theorem c_PlainT (V:Cv) (b f bd:Nat) (hok:V.Ok) (T:Fin V.p×Fin V.p×Fin V.p) (P:Pt V.p) (w:World) (hb:(Item.blk b ⟨false,opL V f,147,(0,0)⟩).holds w) (hf:(Item.blk f ⟨false,fldL V.p bd,194,(0,0)⟩).holds w) (hbd:(Item.blk bd ⟨false,dvL V.p,241,(0,0)⟩).holds w) (h:RepT V T P):Calls Try.prog 127 ([.pointer (some ⟨b,0,none⟩),pjF T]:List Value).toArray w (fun e w'=>e = .returned (ptP P)∧Below w.heap.size w w'):=by
  have:=c_Plain V b f bd hok T.1 T.2.1 T.2.2 w hb hf hbd
  rwa [Rep.plain hok.prime h.rep] at this
end Go.Proofs.Ytljblbgogjieaaa
set_option linter.unusedVariables false
set_option linter.unusedSimpArgs false
set_option maxRecDepth 20000
namespace Go.Proofs.Ytljblbgogjieaaa
open Go Go.RowKit
open Grp
theorem eq_pt_t {X Y:Nat} {i:Bool} (hX:X<W9) (hY:Y<W9):EqD 4 Try.prog 60 (ptV X Y i) (ptV X Y i) true:=by
  have:=eq_pt X Y i X Y i hX hY hX hY
  rwa [show (decide (X = X) && (decide (Y = Y) && ((i == i) && true))) = true by simp] at this
theorem Brings.own {w w':World} {H:List Item} {b:Nat} {cs:List Value} {e:TypeId} (hb:Below w.heap.size w w') (h:(Item.blk b ⟨true,cs,e,(0,0)⟩).holds w') (hn:w.heap.size≤b):Brings w H [.blk b ⟨true,cs,e,(0,0)⟩] w' :=
  ⟨hb,(by intro x hx; simp at hx; subst hx; exact h),(by intro x hx k hk; simp at hx; subst hx; simp [Item.fp] at hk; subst hk; exact .inl hn),(by intro x hx _ k hk; simp at hx; subst hx; simp [Item.fp] at hk; subst hk; exact hn),List.pairwise_singleton _ _⟩
end Go.Proofs.Ytljblbgogjieaaa
set_option linter.unusedVariables false
set_option linter.unusedSimpArgs false
set_option maxRecDepth 20000
namespace Go.Proofs.Ytljblbgogjieaaa
open Go Go.RowKit
open Grp
theorem xG {V:Cv} (hok:V.Ok):xv V.G = V.x:=val_c hok.bounds.2.2.2.2.1
theorem yG {V:Cv} (hok:V.Ok):yv V.G = V.y:=val_c hok.bounds.2.2.2.2.2.1
end Go.Proofs.Ytljblbgogjieaaa
set_option linter.unusedVariables false
set_option linter.unusedSimpArgs false
set_option maxRecDepth 20000
namespace Go.Proofs.Ytljblbgogjieaaa
open Go Go.RowKit
open Grp
theorem c_cOnB (V:Cv) (b f bd:Nat) (hok:V.Ok) (X Y:Nat) (i r:Bool) (w:World) (hb:(Item.blk b ⟨false,opL V f,147,(0,0)⟩).holds w) (hf:(Item.blk f ⟨false,fldL V.p bd,194,(0,0)⟩).holds w) (hbd:(Item.blk bd ⟨false,dvL V.p,241,(0,0)⟩).holds w) (hX:X<W9) (hY:Y<W9) (hr:onB V.p V.a V.b X Y i = r):Calls Try.prog 122 ([.pointer (some ⟨b,0,none⟩),ptV X Y i]:List Value).toArray w (fun e w'=>e = .returned (.bool r)∧Below w.heap.size w w'):=by
  have:=c_cOn V b f bd hok X Y i w hb hf hbd hX hY
  rwa [hr] at this
theorem c_cOnP (V:Cv) (b f bd:Nat) (hok:V.Ok) (P:Pt V.p) (w:World) (hb:(Item.blk b ⟨false,opL V f,147,(0,0)⟩).holds w) (hf:(Item.blk f ⟨false,fldL V.p bd,194,(0,0)⟩).holds w) (hbd:(Item.blk bd ⟨false,dvL V.p,241,(0,0)⟩).holds w) (hP:On V.A V.B P):Calls Try.prog 122 ([.pointer (some ⟨b,0,none⟩),ptP P]:List Value).toArray w (fun e w'=>e = .returned (.bool true)∧Below w.heap.size w w') :=
  c_cOnB V b f bd hok (xv P) (yv P) (iv P) true w hb hf hbd (pt_w9 hok P).1 (pt_w9 hok P).2 (onB_on hP)
end Go.Proofs.Ytljblbgogjieaaa
set_option linter.unusedVariables false
set_option linter.unusedSimpArgs false
set_option maxRecDepth 20000
namespace Go.Proofs.Ytljblbgogjieaaa
open Go Go.RowKit
open Grp
theorem eq_pj (X Y Z X' Y' Z':Nat) (hX:X<W9) (hY:Y<W9) (hZ:Z<W9) (hX':X' < W9) (hY':Y' < W9) (hZ':Z' < W9):EqD 4 Try.prog 91 (pjV X Y Z) (pjV X' Y' Z') (decide (X = X') && (decide (Y = Y') && (decide (Z = Z') && true))):=by
  have d1:∀ A B E,((pjL A B E).drop 0).take 9 = natL A:=fun A B E=>by
    rw [List.drop_zero]; unfold pjL; rw [List.take_left' (KH A)]
  have d2:∀ A B E,((pjL A B E).drop 9).take 9 = natL B:=fun A B E=>by
    unfold pjL; rw [List.drop_left' (KH A),List.take_left' (KH B)]
  have d3:∀ A B E,((pjL A B E).drop 18).take 9 = natL E:=fun A B E=>by
    unfold pjL; rw [← List.append_assoc,List.drop_left' (by simp [KH]),take_all]
  exact EqD.struct (fs:=[_,_,_]) Try.underlying91 (by kernel_rfl) (EqFs.cons (by decide) (PartOf.agg Try.underlying25 rfl sz_25 (d1 X Y Z)) (PartOf.agg Try.underlying25 rfl sz_25 (d1 X' Y' Z')) (eq_nat X X' hX hX')
    (EqFs.cons (by decide) (PartOf.agg Try.underlying25 rfl sz_25 (d2 X Y Z)) (PartOf.agg Try.underlying25 rfl sz_25 (d2 X' Y' Z')) (eq_nat Y Y' hY hY')
    (EqFs.cons (by decide) (PartOf.agg Try.underlying25 rfl sz_25 (d3 X Y Z)) (PartOf.agg Try.underlying25 rfl sz_25 (d3 X' Y' Z')) (eq_nat Z Z' hZ hZ') EqFs.nil)))
theorem eq_pj_t {X Y Z:Nat} (hX:X<W9) (hY:Y<W9) (hZ:Z<W9):EqD 4 Try.prog 91 (pjV X Y Z) (pjV X Y Z) true:=by
  have:=eq_pj X Y Z X Y Z hX hY hZ hX hY hZ
  rwa [show (decide (X = X) && (decide (Y = Y) && (decide (Z = Z) && true))) = true by simp] at this
def TrHas (V:Cv) (X Y Z:Nat):Prop:=∃ T:Fin V.p×Fin V.p×Fin V.p,T.1.val = X∧T.2.1.val = Y∧T.2.2.val = Z∧HasF V.A V.B T.1 T.2.1 T.2.2
theorem RepT.has {V:Cv} {T:Fin V.p×Fin V.p×Fin V.p} {P:Pt V.p} (h:RepT V T P):TrHas V T.1.val T.2.1.val T.2.2.val:=⟨T,rfl,rfl,rfl,Rep.has h.rep h.on⟩
theorem TrHas.rep {V:Cv} (hok:V.Ok) {X Y Z:Nat} (h:TrHas V X Y Z):∃ (T:Fin V.p×Fin V.p×Fin V.p) (P:Pt V.p),T.1.val = X∧T.2.1.val = Y∧T.2.2.val = Z∧RepT V T P:=by
  obtain ⟨T,h1,h2,h3,h4⟩:=h
  obtain ⟨h5,h6⟩:=h4.rep hok.prime hok.fld
  exact ⟨T,_,h1,h2,h3,h5,h6⟩
theorem c_hasT (V:Cv) (b f bd:Nat) (hok:V.Ok) (T:Fin V.p×Fin V.p×Fin V.p) (w:World) (hb:(Item.blk b ⟨false,opL V f,147,(0,0)⟩).holds w) (hf:(Item.blk f ⟨false,fldL V.p bd,194,(0,0)⟩).holds w) (hbd:(Item.blk bd ⟨false,dvL V.p,241,(0,0)⟩).holds w) (hT:HasF V.A V.B T.1 T.2.1 T.2.2):Calls Try.prog 159 ([.pointer (some ⟨b,0,none⟩),pjF T]:List Value).toArray w (fun e w'=>e = .returned (.bool true)∧Below w.heap.size w w'):=by
  have hbb:=hok.bounds
  have hpW:V.p<W9:=w9_521 hbb.2.1
  obtain ⟨x,y,z⟩:=T
  obtain ⟨hz,he⟩:=hT
  dsimp only at hz he
  have hz0:(decide (x.val = 0) && (decide (y.val = 0) && (decide (z.val = 0) && true))) = false:=by
    cases h0:(decide (x.val = 0) && (decide (y.val = 0) && (decide (z.val = 0) && true))) with
    | false=>rfl
    | true =>
      simp only [Bool.and_true,Bool.and_eq_true,decide_eq_true_eq] at h0
      exact absurd ⟨Fin.ext h0.1,Fin.ext h0.2.1,Fin.ext h0.2.2⟩ hz
  refine KAC (N:=90) (rs:=[.tmp 4]) [.blk b ⟨false,opL V f,147,(0,0)⟩,.blk f ⟨false,fldL V.p bd,194,(0,0)⟩,.blk bd ⟨false,dvL V.p,241,(0,0)⟩] Try.func159 rfl Try.ntmps159 Try.results159 (Nb rfl) ⟨hb,hf,hbd,trivial⟩ rfl ?_
  show LCode _ _ _ ⟨_,_⟩ _
  refine KE (KB ?_)
  refine KI rfl (KS (KR (Kz rfl) (Nb rfl) (fun b3=>?_)))
  refine KA (KF rfl) (Nb rfl) ?_
  refine KG ?_
  refine KE (KB ?_)
  refine KA (KC rfl) (Nb rfl) ?_
  refine KA (Kf rfl) (Nb rfl) ?_
  refine KA (KM (o':=59) Try.underlying147 rfl rfl rfl sz_145 (by decide)) (Nb rfl) ?_
  refine LOps.det (KJ rfl (by repeat (first|exact Mh _|apply Mt)) (Kb Try.underlying145 rfl (by exact cvC_gt_F _ _ _ _ _ _ _ _ _ _ _ _ _))) (Nb rfl) ?_
  refine KA (KF rfl) (Nb rfl) ?_
  refine KG ?_
  refine KE ?_
  refine KE (KB ?_)
  refine KA (KC rfl) (Nb rfl) ?_
  refine KA (KM (o':=0) Try.underlying91 rfl rfl rfl sz_25 (by decide)) (Nb rfl) ?_
  refine LOps.det (KJ rfl (by repeat (first|exact Mh _|apply Mt)) (by exact KAO Try.underlying25 rfl sz_25 rfl (KH _))) (Nb rfl) ?_
  refine KI rfl (KS (KQ (first:=[]) rfl en_155 rfl (Nb rfl) (fun w hw=>c_HasT V f bd x.val w (hw _ (by repeat (first|exact Mh _|apply Mt))) (Nat.lt_trans x.isLt hpW) hpW x.isLt) ?_))
  refine KA (KU (KAc rfl) (show _ = Value.bool false from rfl)) (Nb rfl) ?_
  refine KA (KC rfl) (Nb rfl) ?_
  refine KV rfl rfl (KC rfl) (Nb rfl) ?_
  refine KV rfl rfl (KM (o':=9) Try.underlying91 rfl rfl rfl sz_25 (by decide)) (Nb rfl) ?_
  refine KAN rfl rfl (KJ rfl (by repeat (first|exact Mh _|apply Mt)) (by exact KAi Try.underlying25 rfl sz_25 rfl (KH _) (KH _))) (Nb rfl) ?_
  refine KAS rfl rfl rfl (KS (KQ (first:=[]) rfl en_155 rfl (Nb rfl) (fun w hw=>c_HasT V f bd y.val w (hw _ (by repeat (first|exact Mh _|apply Mt))) (Nat.lt_trans y.isLt hpW) hpW y.isLt) ?_))
  refine KV rfl rfl (KU (KAc rfl) (show _ = Value.bool false from rfl)) (Nb rfl) ?_
  refine KA (Ku rfl rfl) (Nb rfl) ?_
  refine KA (KC rfl) (Nb rfl) ?_
  refine KV rfl rfl (KC rfl) (Nb rfl) ?_
  refine KV rfl rfl (KM (o':=18) Try.underlying91 rfl rfl rfl sz_25 (by decide)) (Nb rfl) ?_
  refine KAN rfl rfl (KJ rfl (by repeat (first|exact Mh _|apply Mt)) (by exact pj_ld2 _ _ _ _ _ _)) (Nb rfl) ?_
  refine KAS rfl rfl rfl (KS (KQ (first:=[]) rfl en_155 rfl (Nb rfl) (fun w hw=>c_HasT V f bd z.val w (hw _ (by repeat (first|exact Mh _|apply Mt))) (Nat.lt_trans z.isLt hpW) hpW z.isLt) ?_))
  refine KV rfl rfl (KU (KAc rfl) (show _ = Value.bool false from rfl)) (Nb rfl) ?_
  refine KA (Ku rfl rfl) (Nb rfl) ?_
  refine KA (KC rfl) (Nb rfl) ?_
  refine KAN rfl rfl (KJ rfl (by repeat (first|exact Mh _|apply Mt)) (by exact KK Try.underlying91 rfl sz_91)) (Nb rfl) ?_
  refine KV rfl rfl (KU (KAI pl_91 zr_91 rfl rfl) (show _ = pjV 0 0 0 from pj_zero)) (Nb rfl) ?_
  refine KV rfl rfl (KU (Det.eqa (by kernel_rfl) (fun w=>eq_pj x.val y.val z.val 0 0 0 (Nat.lt_trans x.isLt hpW) (Nat.lt_trans y.isLt hpW) (Nat.lt_trans z.isLt hpW) KAb KAb KAb 10000 (by decide) w) rfl rfl) (show _ = Value.bool false by rw [hz0])) (Nb rfl) ?_
  refine KA (Ku rfl rfl) (Nb rfl) ?_
  refine KG ?_
  refine Kj rfl ?_
  refine Kh ?_
  refine KE (KB ?_)
  refine KA (KC rfl) (Nb rfl) ?_
  refine KA (KM (o':=18) Try.underlying91 rfl rfl rfl sz_25 (by decide)) (Nb rfl) ?_
  refine LOps.det (KJ rfl (by repeat (first|exact Mh _|apply Mt)) (by exact pj_ld2 _ _ _ _ _ _)) (Nb rfl) ?_
  refine KA (KM (o':=18) Try.underlying91 rfl rfl rfl sz_25 (by decide)) (Nb rfl) ?_
  refine LOps.det (KJ rfl (by repeat (first|exact Mh _|apply Mt)) (by exact pj_ld2 _ _ _ _ _ _)) (Nb rfl) ?_
  refine KI rfl (KS (KQ (first:=[]) rfl en_156 rfl (Nb rfl) (fun w hw=>KAo V hok f bd _ _ w (hw _ (by repeat (first|exact Mh _|apply Mt))) (hw _ (by repeat (first|exact Mh _|apply Mt)))) ?_))
  refine KI rfl (KS (KR (Kc zr_25) (Nb rfl) (fun b6=>?_)))
  refine KI rfl (KP rfl rfl sz_25 (by repeat (first|exact Km _|exact KAB _ _ _|exact Kn _|exact Kw _ _ _|exact Ky _ _ _|exact KX|refine KT rfl ?_|refine KZ ?_ ?_)) (by repeat (first|exact Sh _|apply St_)) (by first|exact KH _|exact KN _ _ _|exact KL _|exact KY _ _ _|exact Kd _ _ _|rfl|simp [KN,KH,KL]) ?_)
  refine KG ?_
  refine KE ?_
  refine Ke [11] (by kernel_rfl) ?_
  refine KD 0 rfl (by kernel_rfl) (Nb rfl) (KC rfl) ?_
  refine KD 1 rfl (by kernel_rfl) (Nb rfl) (KC rfl) ?_
  refine KD 2 rfl (by kernel_rfl) (Nb rfl) (KM (o':=9) Try.underlying91 rfl rfl rfl sz_25 (by decide)) ?_
  refine LAny.take 3 rfl (by kernel_rfl) (Nb rfl) (KJ rfl (by repeat (first|exact Mh _|apply Mt)) (by exact KAi Try.underlying25 rfl sz_25 rfl (KH _) (KH _))) ?_
  refine KD 4 rfl (by kernel_rfl) (Nb rfl) (KM (o':=9) Try.underlying91 rfl rfl rfl sz_25 (by decide)) ?_
  refine LAny.take 5 rfl (by kernel_rfl) (Nb rfl) (KJ rfl (by repeat (first|exact Mh _|apply Mt)) (by exact KAi Try.underlying25 rfl sz_25 rfl (KH _) (KH _))) ?_
  refine KD 7 rfl (by kernel_rfl) (Nb rfl) (KM (o':=18) Try.underlying91 rfl rfl rfl sz_25 (by decide)) ?_
  refine LAny.take 8 rfl (by kernel_rfl) (Nb rfl) (KJ rfl (by repeat (first|exact Mh _|apply Mt)) (by exact pj_ld2 _ _ _ _ _ _)) ?_
  refine LAny.toP ?_
  refine KAa 10 rfl (.inl zr_25) (Nb rfl) rfl rfl rfl ?_
  refine KAF 6 rfl rfl rfl (Nb rfl) (by kernel_rfl) rfl (KAM (first:=[]) rfl en_156 rfl (fun w hw=>KAo V hok f bd _ _ w (hw _ (by repeat (first|exact Mh _|apply Mt))) (hw _ (by repeat (first|exact Mh _|apply Mt))))) ?_
  rintro _ _ ⟨rfl,rfl⟩
  refine KAF 9 rfl rfl rfl (Nb rfl) (by kernel_rfl) rfl (KAM (first:=[]) rfl en_156 rfl (fun w hw=>KAo V hok f bd _ _ w (hw _ (by repeat (first|exact Mh _|apply Mt))) (hw _ (by repeat (first|exact Mh _|apply Mt))))) ?_
  rintro _ _ ⟨rfl,rfl⟩
  refine KAy (by kernel_rfl) (fun b7=>?_)
  refine KAs ?_
  refine Kx 11 rfl rfl (by kernel_rfl) (by kernel_rfl) (KP rfl rfl sz_25 (by repeat (first|exact Km _|exact KAB _ _ _|exact Kn _|exact Kw _ _ _|exact Ky _ _ _|exact KX|refine KT rfl ?_|refine KZ ?_ ?_)) (by repeat (first|exact Sh _|apply St_)) (by first|exact KH _|exact KN _ _ _|exact KL _|exact KY _ _ _|exact Kd _ _ _|rfl|simp [KN,KH,KL]) ?_)
  refine Kq (by kernel_rfl) ?_
  refine KE ?_
  refine Ke [35] (by kernel_rfl) ?_
  refine KD 0 rfl (by kernel_rfl) (Nb rfl) (KC rfl) ?_
  refine KD 1 rfl (by kernel_rfl) (Nb rfl) (KC rfl) ?_
  refine KD 2 rfl (by kernel_rfl) (Nb rfl) (KC rfl) ?_
  refine KD 3 rfl (by kernel_rfl) (Nb rfl) (KC rfl) ?_
  refine KD 4 rfl (by kernel_rfl) (Nb rfl) (KM (o':=0) Try.underlying91 rfl rfl rfl sz_25 (by decide)) ?_
  refine LAny.take 5 rfl (by kernel_rfl) (Nb rfl) (KJ rfl (by repeat (first|exact Mh _|apply Mt)) (by exact KAO Try.underlying25 rfl sz_25 rfl (KH _))) ?_
  refine KD 6 rfl (by kernel_rfl) (Nb rfl) (KM (o':=0) Try.underlying91 rfl rfl rfl sz_25 (by decide)) ?_
  refine LAny.take 7 rfl (by kernel_rfl) (Nb rfl) (KJ rfl (by repeat (first|exact Mh _|apply Mt)) (by exact KAO Try.underlying25 rfl sz_25 rfl (KH _))) ?_
  refine KD 9 rfl (by kernel_rfl) (Nb rfl) (KC rfl) ?_
  refine KD 10 rfl (by kernel_rfl) (Nb rfl) (KC rfl) ?_
  refine KD 11 rfl (by kernel_rfl) (Nb rfl) (Kf rfl) ?_
  refine KD 12 rfl (by kernel_rfl) (Nb rfl) (KM (o':=0) Try.underlying147 rfl rfl rfl sz_62 (by decide)) ?_
  refine KD 13 rfl (by kernel_rfl) (Nb rfl) (KM (o':=10) Try.underlying62 rfl rfl rfl sz_25 (by decide)) ?_
  refine LAny.take 14 rfl (by kernel_rfl) (Nb rfl) (Det.cast (KJ rfl (by repeat (first|exact Mh _|apply Mt)) (by exact cvC_ld_a _ _ _ _ _ _ _ _ _ _ _ _ _ _ _ _)) (a_val hok)) ?_
  refine LAny.take 15 rfl (by kernel_rfl) (Nb rfl) (KJ rfl (by repeat (first|exact Mh _|apply Mt)) (by exact KK Try.underlying25 rfl sz_25)) ?_
  refine KD 18 rfl (by kernel_rfl) (Nb rfl) (KM (o':=0) Try.underlying91 rfl rfl rfl sz_25 (by decide)) ?_
  refine LAny.take 19 rfl (by kernel_rfl) (Nb rfl) (KJ rfl (by repeat (first|exact Mh _|apply Mt)) (by exact KAO Try.underlying25 rfl sz_25 rfl (KH _))) ?_
  refine KD 21 rfl (by kernel_rfl) (Nb rfl) (KC rfl) ?_
  refine KD 22 rfl (by kernel_rfl) (Nb rfl) (KC rfl) ?_
  refine KD 23 rfl (by kernel_rfl) (Nb rfl) (Kf rfl) ?_
  refine KD 24 rfl (by kernel_rfl) (Nb rfl) (KM (o':=0) Try.underlying147 rfl rfl rfl sz_62 (by decide)) ?_
  refine KD 25 rfl (by kernel_rfl) (Nb rfl) (KM (o':=19) Try.underlying62 rfl rfl rfl sz_25 (by decide)) ?_
  refine LAny.take 26 rfl (by kernel_rfl) (Nb rfl) (Det.cast (KJ rfl (by repeat (first|exact Mh _|apply Mt)) (by exact cvC_ld_b _ _ _ _ _ _ _ _ _ _ _ _ _ _ _ _)) (b_val hok)) ?_
  refine KD 27 rfl (by kernel_rfl) (Nb rfl) (KC rfl) ?_
  refine LAny.take 28 rfl (by kernel_rfl) (Nb rfl) (KJ rfl (by repeat (first|exact Mh _|apply Mt)) (by exact KK Try.underlying25 rfl sz_25)) ?_
  refine KD 29 rfl (by kernel_rfl) (Nb rfl) (KM (o':=18) Try.underlying91 rfl rfl rfl sz_25 (by decide)) ?_
  refine LAny.take 30 rfl (by kernel_rfl) (Nb rfl) (KJ rfl (by repeat (first|exact Mh _|apply Mt)) (by exact pj_ld2 _ _ _ _ _ _)) ?_
  refine LAny.toP ?_
  refine KAa 34 rfl (.inl zr_25) (Nb rfl) rfl rfl rfl ?_
  refine KAF 8 rfl rfl rfl (Nb rfl) (by kernel_rfl) rfl (KAM (first:=[]) rfl en_156 rfl (fun w hw=>KAo V hok f bd _ _ w (hw _ (by repeat (first|exact Mh _|apply Mt))) (hw _ (by repeat (first|exact Mh _|apply Mt))))) ?_
  rintro _ _ ⟨rfl,rfl⟩
  refine KAF 16 rfl rfl rfl (Nb rfl) (by kernel_rfl) rfl (KAM (first:=[]) rfl en_156 rfl (fun w hw=>KAo V hok f bd _ _ w (hw _ (by repeat (first|exact Mh _|apply Mt))) (hw _ (by repeat (first|exact Mh _|apply Mt))))) ?_
  rintro _ _ ⟨rfl,rfl⟩
  refine KAF 17 rfl rfl rfl (Nb rfl) (by kernel_rfl) rfl (KAM (first:=[]) rfl en_152 rfl (fun w hw=>c_F_Add V hok f bd _ _ w (hw _ (by repeat (first|exact Mh _|apply Mt))))) ?_
  rintro _ _ ⟨rfl,rfl⟩
  refine KAF 20 rfl rfl rfl (Nb rfl) (by kernel_rfl) rfl (KAM (first:=[]) rfl en_156 rfl (fun w hw=>KAo V hok f bd _ _ w (hw _ (by repeat (first|exact Mh _|apply Mt))) (hw _ (by repeat (first|exact Mh _|apply Mt))))) ?_
  rintro _ _ ⟨rfl,rfl⟩
  refine KAF 31 rfl rfl rfl (Nb rfl) (by kernel_rfl) rfl (KAM (first:=[]) rfl en_156 rfl (fun w hw=>KAo V hok f bd _ _ w (hw _ (by repeat (first|exact Mh _|apply Mt))) (hw _ (by repeat (first|exact Mh _|apply Mt))))) ?_
  rintro _ _ ⟨rfl,rfl⟩
  refine KAF 32 rfl rfl rfl (Nb rfl) (by kernel_rfl) rfl (KAM (first:=[]) rfl en_156 rfl (fun w hw=>KAo V hok f bd _ _ w (hw _ (by repeat (first|exact Mh _|apply Mt))) (hw _ (by repeat (first|exact Mh _|apply Mt))))) ?_
  rintro _ _ ⟨rfl,rfl⟩
  refine KAF 33 rfl rfl rfl (Nb rfl) (by kernel_rfl) rfl (KAM (first:=[]) rfl en_152 rfl (fun w hw=>c_F_Add V hok f bd _ _ w (hw _ (by repeat (first|exact Mh _|apply Mt))))) ?_
  rintro _ _ ⟨rfl,rfl⟩
  refine KAy (by kernel_rfl) (fun b8=>?_)
  refine KAs ?_
  refine Kx 35 rfl rfl (by kernel_rfl) (by kernel_rfl) (KP rfl rfl sz_25 (by repeat (first|exact Km _|exact KAB _ _ _|exact Kn _|exact Kw _ _ _|exact Ky _ _ _|exact KX|refine KT rfl ?_|refine KZ ?_ ?_)) (by repeat (first|exact Sh _|apply St_)) (by first|exact KH _|exact KN _ _ _|exact KL _|exact KY _ _ _|exact Kd _ _ _|rfl|simp [KN,KH,KL]) ?_)
  refine Kq (by kernel_rfl) ?_
  refine KE (KB ?_)
  refine LOps.det (KJ rfl (by repeat (first|exact Mh _|apply Mt)) (by exact KK Try.underlying25 rfl sz_25)) (Nb rfl) ?_
  refine LOps.det (KJ rfl (by repeat (first|exact Mh _|apply Mt)) (by exact KK Try.underlying25 rfl sz_25)) (Nb rfl) ?_
  refine KA (KU (Det.eqa (by kernel_rfl) (fun w=>eq_nat (y*y*z).val ((x*x+V.A*(z*z))*x+V.B*(z*z*z)).val (Nat.lt_trans (y*y*z).isLt hpW) (Nat.lt_trans ((x*x+V.A*(z*z))*x+V.B*(z*z*z)).isLt hpW) 10000 (by decide) w) rfl rfl) (show _ = Value.bool true by rw [decide_eq_true (congrArg Fin.val he)])) (Nb rfl) ?_
  refine KA (KF rfl) (Nb rfl) ?_
  refine KG (Ka ?_)
  refine ⟨[_],.cons rfl .nil,fun a w' hr=>⟨?_,hr.fr.below⟩⟩
  rfl
theorem c_hasF (V:Cv) (b f bd:Nat) (hok:V.Ok) (X Y Z:Nat) (w:World) (hb:(Item.blk b ⟨false,opL V f,147,(0,0)⟩).holds w) (hf:(Item.blk f ⟨false,fldL V.p bd,194,(0,0)⟩).holds w) (hbd:(Item.blk bd ⟨false,dvL V.p,241,(0,0)⟩).holds w) (hX:X<W9) (hY:Y<W9) (hZ:Z<W9) (hn:¬ TrHas V X Y Z):Calls Try.prog 159 ([.pointer (some ⟨b,0,none⟩),pjV X Y Z]:List Value).toArray w (fun e w'=>e = .returned (.bool false)∧Below w.heap.size w w'):=by
  have hbb:=hok.bounds
  have hpW:V.p<W9:=w9_521 hbb.2.1
  refine KAC (N:=90) (rs:=[.tmp 4]) [.blk b ⟨false,opL V f,147,(0,0)⟩,.blk f ⟨false,fldL V.p bd,194,(0,0)⟩,.blk bd ⟨false,dvL V.p,241,(0,0)⟩] Try.func159 rfl Try.ntmps159 Try.results159 (Nb rfl) ⟨hb,hf,hbd,trivial⟩ rfl ?_
  show LCode _ _ _ ⟨_,_⟩ _
  refine KE (KB ?_)
  refine KI rfl (KS (KR (Kz rfl) (Nb rfl) (fun b3=>?_)))
  refine KA (KF rfl) (Nb rfl) ?_
  refine KG ?_
  refine KE (KB ?_)
  refine KA (KC rfl) (Nb rfl) ?_
  refine KA (Kf rfl) (Nb rfl) ?_
  refine KA (KM (o':=59) Try.underlying147 rfl rfl rfl sz_145 (by decide)) (Nb rfl) ?_
  refine LOps.det (KJ rfl (by repeat (first|exact Mh _|apply Mt)) (Kb Try.underlying145 rfl (by exact cvC_gt_F _ _ _ _ _ _ _ _ _ _ _ _ _))) (Nb rfl) ?_
  refine KA (KF rfl) (Nb rfl) ?_
  refine KG ?_
  refine KE ?_
  refine KE ?_
  rcases (show (¬ X<V.p)∨(X<V.p∧¬ Y<V.p)∨(X<V.p∧Y<V.p∧¬ Z<V.p)∨((X<V.p∧Y<V.p∧Z<V.p)∧(X = 0∧Y = 0∧Z = 0))∨((X<V.p∧Y<V.p∧Z<V.p)∧¬ (X = 0∧Y = 0∧Z = 0)) by omega) with h1|⟨h1,h2⟩|⟨h1,h2,h3⟩|⟨⟨h1,h2,h3⟩,h4⟩|⟨⟨h1,h2,h3⟩,h4⟩
  ·
    refine KB ?_
    refine KA (KC rfl) (Nb rfl) ?_
    refine KA (KM (o':=0) Try.underlying91 rfl rfl rfl sz_25 (by decide)) (Nb rfl) ?_
    refine LOps.det (KJ rfl (by repeat (first|exact Mh _|apply Mt)) (by exact KAO Try.underlying25 rfl sz_25 rfl (KH _))) (Nb rfl) ?_
    refine KI rfl (KS (KQ (first:=[]) rfl en_155 rfl (Nb rfl) (fun w hw=>c_HasF V f bd X w (hw _ (by repeat (first|exact Mh _|apply Mt))) hX hpW h1) ?_))
    refine KA (KU (KAc rfl) (show _ = Value.bool true from rfl)) (Nb rfl) ?_
    refine KA (KC rfl) (Nb rfl) ?_
    refine Ki rfl rfl rfl (Nb rfl) ?_
    refine Ki rfl rfl rfl (Nb rfl) ?_
    refine Ki rfl rfl rfl (Nb rfl) ?_
    refine Ki rfl rfl rfl (Nb rfl) ?_
    refine Ki rfl rfl rfl (Nb rfl) ?_
    refine KA (Kt rfl rfl) (Nb rfl) ?_
    refine KA (KC rfl) (Nb rfl) ?_
    refine Ki rfl rfl rfl (Nb rfl) ?_
    refine Ki rfl rfl rfl (Nb rfl) ?_
    refine Ki rfl rfl rfl (Nb rfl) ?_
    refine Ki rfl rfl rfl (Nb rfl) ?_
    refine Ki rfl rfl rfl (Nb rfl) ?_
    refine KA (Kt rfl rfl) (Nb rfl) ?_
    refine KA (KC rfl) (Nb rfl) ?_
    refine Ki rfl rfl rfl (Nb rfl) ?_
    refine Ki rfl rfl rfl (Nb rfl) ?_
    refine Ki rfl rfl rfl (Nb rfl) ?_
    refine KA (Kt rfl rfl) (Nb rfl) ?_
    refine KG ?_
    refine Ks rfl ?_
    refine KE (KB ?_)
    refine KA (KF rfl) (Nb rfl) ?_
    refine KG (Ka ?_)
    refine ⟨[_],.cons rfl .nil,fun a w' hr=>⟨?_,hr.fr.below⟩⟩
    rfl
  ·
    obtain ⟨x,rfl⟩:∃ x:Fin V.p,x.val = X:=⟨⟨X,h1⟩,rfl⟩
    refine KB ?_
    refine KA (KC rfl) (Nb rfl) ?_
    refine KA (KM (o':=0) Try.underlying91 rfl rfl rfl sz_25 (by decide)) (Nb rfl) ?_
    refine LOps.det (KJ rfl (by repeat (first|exact Mh _|apply Mt)) (by exact KAO Try.underlying25 rfl sz_25 rfl (KH _))) (Nb rfl) ?_
    refine KI rfl (KS (KQ (first:=[]) rfl en_155 rfl (Nb rfl) (fun w hw=>c_HasT V f bd x.val w (hw _ (by repeat (first|exact Mh _|apply Mt))) (Nat.lt_trans x.isLt hpW) hpW x.isLt) ?_))
    refine KA (KU (KAc rfl) (show _ = Value.bool false from rfl)) (Nb rfl) ?_
    refine KA (KC rfl) (Nb rfl) ?_
    refine KV rfl rfl (KC rfl) (Nb rfl) ?_
    refine KV rfl rfl (KM (o':=9) Try.underlying91 rfl rfl rfl sz_25 (by decide)) (Nb rfl) ?_
    refine KAN rfl rfl (KJ rfl (by repeat (first|exact Mh _|apply Mt)) (by exact KAi Try.underlying25 rfl sz_25 rfl (KH _) (KH _))) (Nb rfl) ?_
    refine KAS rfl rfl rfl (KS (KQ (first:=[]) rfl en_155 rfl (Nb rfl) (fun w hw=>c_HasF V f bd Y w (hw _ (by repeat (first|exact Mh _|apply Mt))) hY hpW h2) ?_))
    refine KV rfl rfl (KU (KAc rfl) (show _ = Value.bool true from rfl)) (Nb rfl) ?_
    refine KA (Ku rfl rfl) (Nb rfl) ?_
    refine KA (KC rfl) (Nb rfl) ?_
    refine Ki rfl rfl rfl (Nb rfl) ?_
    refine Ki rfl rfl rfl (Nb rfl) ?_
    refine Ki rfl rfl rfl (Nb rfl) ?_
    refine Ki rfl rfl rfl (Nb rfl) ?_
    refine Ki rfl rfl rfl (Nb rfl) ?_
    refine KA (Kt rfl rfl) (Nb rfl) ?_
    refine KA (KC rfl) (Nb rfl) ?_
    refine Ki rfl rfl rfl (Nb rfl) ?_
    refine Ki rfl rfl rfl (Nb rfl) ?_
    refine Ki rfl rfl rfl (Nb rfl) ?_
    refine KA (Kt rfl rfl) (Nb rfl) ?_
    refine KG ?_
    refine Ks rfl ?_
    refine KE (KB ?_)
    refine KA (KF rfl) (Nb rfl) ?_
    refine KG (Ka ?_)
    refine ⟨[_],.cons rfl .nil,fun a w' hr=>⟨?_,hr.fr.below⟩⟩
    rfl
  ·
    obtain ⟨x,rfl⟩:∃ x:Fin V.p,x.val = X:=⟨⟨X,h1⟩,rfl⟩
    obtain ⟨y,rfl⟩:∃ y:Fin V.p,y.val = Y:=⟨⟨Y,h2⟩,rfl⟩
    refine KB ?_
    refine KA (KC rfl) (Nb rfl) ?_
    refine KA (KM (o':=0) Try.underlying91 rfl rfl rfl sz_25 (by decide)) (Nb rfl) ?_
    refine LOps.det (KJ rfl (by repeat (first|exact Mh _|apply Mt)) (by exact KAO Try.underlying25 rfl sz_25 rfl (KH _))) (Nb rfl) ?_
    refine KI rfl (KS (KQ (first:=[]) rfl en_155 rfl (Nb rfl) (fun w hw=>c_HasT V f bd x.val w (hw _ (by repeat (first|exact Mh _|apply Mt))) (Nat.lt_trans x.isLt hpW) hpW x.isLt) ?_))
    refine KA (KU (KAc rfl) (show _ = Value.bool false from rfl)) (Nb rfl) ?_
    refine KA (KC rfl) (Nb rfl) ?_
    refine KV rfl rfl (KC rfl) (Nb rfl) ?_
    refine KV rfl rfl (KM (o':=9) Try.underlying91 rfl rfl rfl sz_25 (by decide)) (Nb rfl) ?_
    refine KAN rfl rfl (KJ rfl (by repeat (first|exact Mh _|apply Mt)) (by exact KAi Try.underlying25 rfl sz_25 rfl (KH _) (KH _))) (Nb rfl) ?_
    refine KAS rfl rfl rfl (KS (KQ (first:=[]) rfl en_155 rfl (Nb rfl) (fun w hw=>c_HasT V f bd y.val w (hw _ (by repeat (first|exact Mh _|apply Mt))) (Nat.lt_trans y.isLt hpW) hpW y.isLt) ?_))
    refine KV rfl rfl (KU (KAc rfl) (show _ = Value.bool false from rfl)) (Nb rfl) ?_
    refine KA (Ku rfl rfl) (Nb rfl) ?_
    refine KA (KC rfl) (Nb rfl) ?_
    refine KV rfl rfl (KC rfl) (Nb rfl) ?_
    refine KV rfl rfl (KM (o':=18) Try.underlying91 rfl rfl rfl sz_25 (by decide)) (Nb rfl) ?_
    refine KAN rfl rfl (KJ rfl (by repeat (first|exact Mh _|apply Mt)) (by exact pj_ld2 _ _ _ _ _ _)) (Nb rfl) ?_
    refine KAS rfl rfl rfl (KS (KQ (first:=[]) rfl en_155 rfl (Nb rfl) (fun w hw=>c_HasF V f bd Z w (hw _ (by repeat (first|exact Mh _|apply Mt))) hZ hpW h3) ?_))
    refine KV rfl rfl (KU (KAc rfl) (show _ = Value.bool true from rfl)) (Nb rfl) ?_
    refine KA (Ku rfl rfl) (Nb rfl) ?_
    refine KA (KC rfl) (Nb rfl) ?_
    refine Ki rfl rfl rfl (Nb rfl) ?_
    refine Ki rfl rfl rfl (Nb rfl) ?_
    refine Ki rfl rfl rfl (Nb rfl) ?_
    refine KA (Kt rfl rfl) (Nb rfl) ?_
    refine KG ?_
    refine Ks rfl ?_
    refine KE (KB ?_)
    refine KA (KF rfl) (Nb rfl) ?_
    refine KG (Ka ?_)
    refine ⟨[_],.cons rfl .nil,fun a w' hr=>⟨?_,hr.fr.below⟩⟩
    rfl
  ·
    obtain ⟨x,rfl⟩:∃ x:Fin V.p,x.val = X:=⟨⟨X,h1⟩,rfl⟩
    obtain ⟨y,rfl⟩:∃ y:Fin V.p,y.val = Y:=⟨⟨Y,h2⟩,rfl⟩
    obtain ⟨z,rfl⟩:∃ z:Fin V.p,z.val = Z:=⟨⟨Z,h3⟩,rfl⟩
    refine KB ?_
    refine KA (KC rfl) (Nb rfl) ?_
    refine KA (KM (o':=0) Try.underlying91 rfl rfl rfl sz_25 (by decide)) (Nb rfl) ?_
    refine LOps.det (KJ rfl (by repeat (first|exact Mh _|apply Mt)) (by exact KAO Try.underlying25 rfl sz_25 rfl (KH _))) (Nb rfl) ?_
    refine KI rfl (KS (KQ (first:=[]) rfl en_155 rfl (Nb rfl) (fun w hw=>c_HasT V f bd x.val w (hw _ (by repeat (first|exact Mh _|apply Mt))) (Nat.lt_trans x.isLt hpW) hpW x.isLt) ?_))
    refine KA (KU (KAc rfl) (show _ = Value.bool false from rfl)) (Nb rfl) ?_
    refine KA (KC rfl) (Nb rfl) ?_
    refine KV rfl rfl (KC rfl) (Nb rfl) ?_
    refine KV rfl rfl (KM (o':=9) Try.underlying91 rfl rfl rfl sz_25 (by decide)) (Nb rfl) ?_
    refine KAN rfl rfl (KJ rfl (by repeat (first|exact Mh _|apply Mt)) (by exact KAi Try.underlying25 rfl sz_25 rfl (KH _) (KH _))) (Nb rfl) ?_
    refine KAS rfl rfl rfl (KS (KQ (first:=[]) rfl en_155 rfl (Nb rfl) (fun w hw=>c_HasT V f bd y.val w (hw _ (by repeat (first|exact Mh _|apply Mt))) (Nat.lt_trans y.isLt hpW) hpW y.isLt) ?_))
    refine KV rfl rfl (KU (KAc rfl) (show _ = Value.bool false from rfl)) (Nb rfl) ?_
    refine KA (Ku rfl rfl) (Nb rfl) ?_
    refine KA (KC rfl) (Nb rfl) ?_
    refine KV rfl rfl (KC rfl) (Nb rfl) ?_
    refine KV rfl rfl (KM (o':=18) Try.underlying91 rfl rfl rfl sz_25 (by decide)) (Nb rfl) ?_
    refine KAN rfl rfl (KJ rfl (by repeat (first|exact Mh _|apply Mt)) (by exact pj_ld2 _ _ _ _ _ _)) (Nb rfl) ?_
    refine KAS rfl rfl rfl (KS (KQ (first:=[]) rfl en_155 rfl (Nb rfl) (fun w hw=>c_HasT V f bd z.val w (hw _ (by repeat (first|exact Mh _|apply Mt))) (Nat.lt_trans z.isLt hpW) hpW z.isLt) ?_))
    refine KV rfl rfl (KU (KAc rfl) (show _ = Value.bool false from rfl)) (Nb rfl) ?_
    refine KA (Ku rfl rfl) (Nb rfl) ?_
    refine KA (KC rfl) (Nb rfl) ?_
    refine KAN rfl rfl (KJ rfl (by repeat (first|exact Mh _|apply Mt)) (by exact KK Try.underlying91 rfl sz_91)) (Nb rfl) ?_
    refine KV rfl rfl (KU (KAI pl_91 zr_91 rfl rfl) (show _ = pjV 0 0 0 from pj_zero)) (Nb rfl) ?_
    refine KV rfl rfl (KU (Det.eqa (by kernel_rfl) (fun w=>eq_pj x.val y.val z.val 0 0 0 (Nat.lt_trans x.isLt hpW) (Nat.lt_trans y.isLt hpW) (Nat.lt_trans z.isLt hpW) KAb KAb KAb 10000 (by decide) w) rfl rfl) (show _ = Value.bool true by rw [decide_eq_true h4.1,decide_eq_true h4.2.1,decide_eq_true h4.2.2]; rfl)) (Nb rfl) ?_
    refine KA (Ku rfl rfl) (Nb rfl) ?_
    refine KG ?_
    refine Ks rfl ?_
    refine KE (KB ?_)
    refine KA (KF rfl) (Nb rfl) ?_
    refine KG (Ka ?_)
    refine ⟨[_],.cons rfl .nil,fun a w' hr=>⟨?_,hr.fr.below⟩⟩
    rfl
  ·
    obtain ⟨x,rfl⟩:∃ x:Fin V.p,x.val = X:=⟨⟨X,h1⟩,rfl⟩
    obtain ⟨y,rfl⟩:∃ y:Fin V.p,y.val = Y:=⟨⟨Y,h2⟩,rfl⟩
    obtain ⟨z,rfl⟩:∃ z:Fin V.p,z.val = Z:=⟨⟨Z,h3⟩,rfl⟩
    have hz0:(decide (x.val = 0) && (decide (y.val = 0) && (decide (z.val = 0) && true))) = false:=by
      cases h0:(decide (x.val = 0) && (decide (y.val = 0) && (decide (z.val = 0) && true))) with
      | false=>rfl
      | true =>
        simp only [Bool.and_true,Bool.and_eq_true,decide_eq_true_eq] at h0
        exact absurd h0 h4
    have he:(y*y*z).val≠((x*x+V.A*(z*z))*x+V.B*(z*z*z)).val:=fun e=>hn ⟨(x,y,z),rfl,rfl,rfl,fun h=>h4 ⟨congrArg Fin.val h.1,congrArg Fin.val h.2.1,congrArg Fin.val h.2.2⟩,Fin.ext e⟩
    refine KB ?_
    refine KA (KC rfl) (Nb rfl) ?_
    refine KA (KM (o':=0) Try.underlying91 rfl rfl rfl sz_25 (by decide)) (Nb rfl) ?_
    refine LOps.det (KJ rfl (by repeat (first|exact Mh _|apply Mt)) (by exact KAO Try.underlying25 rfl sz_25 rfl (KH _))) (Nb rfl) ?_
    refine KI rfl (KS (KQ (first:=[]) rfl en_155 rfl (Nb rfl) (fun w hw=>c_HasT V f bd x.val w (hw _ (by repeat (first|exact Mh _|apply Mt))) (Nat.lt_trans x.isLt hpW) hpW x.isLt) ?_))
    refine KA (KU (KAc rfl) (show _ = Value.bool false from rfl)) (Nb rfl) ?_
    refine KA (KC rfl) (Nb rfl) ?_
    refine KV rfl rfl (KC rfl) (Nb rfl) ?_
    refine KV rfl rfl (KM (o':=9) Try.underlying91 rfl rfl rfl sz_25 (by decide)) (Nb rfl) ?_
    refine KAN rfl rfl (KJ rfl (by repeat (first|exact Mh _|apply Mt)) (by exact KAi Try.underlying25 rfl sz_25 rfl (KH _) (KH _))) (Nb rfl) ?_
    refine KAS rfl rfl rfl (KS (KQ (first:=[]) rfl en_155 rfl (Nb rfl) (fun w hw=>c_HasT V f bd y.val w (hw _ (by repeat (first|exact Mh _|apply Mt))) (Nat.lt_trans y.isLt hpW) hpW y.isLt) ?_))
    refine KV rfl rfl (KU (KAc rfl) (show _ = Value.bool false from rfl)) (Nb rfl) ?_
    refine KA (Ku rfl rfl) (Nb rfl) ?_
    refine KA (KC rfl) (Nb rfl) ?_
    refine KV rfl rfl (KC rfl) (Nb rfl) ?_
    refine KV rfl rfl (KM (o':=18) Try.underlying91 rfl rfl rfl sz_25 (by decide)) (Nb rfl) ?_
    refine KAN rfl rfl (KJ rfl (by repeat (first|exact Mh _|apply Mt)) (by exact pj_ld2 _ _ _ _ _ _)) (Nb rfl) ?_
    refine KAS rfl rfl rfl (KS (KQ (first:=[]) rfl en_155 rfl (Nb rfl) (fun w hw=>c_HasT V f bd z.val w (hw _ (by repeat (first|exact Mh _|apply Mt))) (Nat.lt_trans z.isLt hpW) hpW z.isLt) ?_))
    refine KV rfl rfl (KU (KAc rfl) (show _ = Value.bool false from rfl)) (Nb rfl) ?_
    refine KA (Ku rfl rfl) (Nb rfl) ?_
    refine KA (KC rfl) (Nb rfl) ?_
    refine KAN rfl rfl (KJ rfl (by repeat (first|exact Mh _|apply Mt)) (by exact KK Try.underlying91 rfl sz_91)) (Nb rfl) ?_
    refine KV rfl rfl (KU (KAI pl_91 zr_91 rfl rfl) (show _ = pjV 0 0 0 from pj_zero)) (Nb rfl) ?_
    refine KV rfl rfl (KU (Det.eqa (by kernel_rfl) (fun w=>eq_pj x.val y.val z.val 0 0 0 (Nat.lt_trans x.isLt hpW) (Nat.lt_trans y.isLt hpW) (Nat.lt_trans z.isLt hpW) KAb KAb KAb 10000 (by decide) w) rfl rfl) (show _ = Value.bool false by rw [hz0])) (Nb rfl) ?_
    refine KA (Ku rfl rfl) (Nb rfl) ?_
    refine KG ?_
    refine Kj rfl ?_
    refine Kh ?_
    refine KE (KB ?_)
    refine KA (KC rfl) (Nb rfl) ?_
    refine KA (KM (o':=18) Try.underlying91 rfl rfl rfl sz_25 (by decide)) (Nb rfl) ?_
    refine LOps.det (KJ rfl (by repeat (first|exact Mh _|apply Mt)) (by exact pj_ld2 _ _ _ _ _ _)) (Nb rfl) ?_
    refine KA (KM (o':=18) Try.underlying91 rfl rfl rfl sz_25 (by decide)) (Nb rfl) ?_
    refine LOps.det (KJ rfl (by repeat (first|exact Mh _|apply Mt)) (by exact pj_ld2 _ _ _ _ _ _)) (Nb rfl) ?_
    refine KI rfl (KS (KQ (first:=[]) rfl en_156 rfl (Nb rfl) (fun w hw=>KAo V hok f bd _ _ w (hw _ (by repeat (first|exact Mh _|apply Mt))) (hw _ (by repeat (first|exact Mh _|apply Mt)))) ?_))
    refine KI rfl (KS (KR (Kc zr_25) (Nb rfl) (fun b6=>?_)))
    refine KI rfl (KP rfl rfl sz_25 (by repeat (first|exact Km _|exact KAB _ _ _|exact Kn _|exact Kw _ _ _|exact Ky _ _ _|exact KX|refine KT rfl ?_|refine KZ ?_ ?_)) (by repeat (first|exact Sh _|apply St_)) (by first|exact KH _|exact KN _ _ _|exact KL _|exact KY _ _ _|exact Kd _ _ _|rfl|simp [KN,KH,KL]) ?_)
    refine KG ?_
    refine KE ?_
    refine Ke [11] (by kernel_rfl) ?_
    refine KD 0 rfl (by kernel_rfl) (Nb rfl) (KC rfl) ?_
    refine KD 1 rfl (by kernel_rfl) (Nb rfl) (KC rfl) ?_
    refine KD 2 rfl (by kernel_rfl) (Nb rfl) (KM (o':=9) Try.underlying91 rfl rfl rfl sz_25 (by decide)) ?_
    refine LAny.take 3 rfl (by kernel_rfl) (Nb rfl) (KJ rfl (by repeat (first|exact Mh _|apply Mt)) (by exact KAi Try.underlying25 rfl sz_25 rfl (KH _) (KH _))) ?_
    refine KD 4 rfl (by kernel_rfl) (Nb rfl) (KM (o':=9) Try.underlying91 rfl rfl rfl sz_25 (by decide)) ?_
    refine LAny.take 5 rfl (by kernel_rfl) (Nb rfl) (KJ rfl (by repeat (first|exact Mh _|apply Mt)) (by exact KAi Try.underlying25 rfl sz_25 rfl (KH _) (KH _))) ?_
    refine KD 7 rfl (by kernel_rfl) (Nb rfl) (KM (o':=18) Try.underlying91 rfl rfl rfl sz_25 (by decide)) ?_
    refine LAny.take 8 rfl (by kernel_rfl) (Nb rfl) (KJ rfl (by repeat (first|exact Mh _|apply Mt)) (by exact pj_ld2 _ _ _ _ _ _)) ?_
    refine LAny.toP ?_
    refine KAa 10 rfl (.inl zr_25) (Nb rfl) rfl rfl rfl ?_
    refine KAF 6 rfl rfl rfl (Nb rfl) (by kernel_rfl) rfl (KAM (first:=[]) rfl en_156 rfl (fun w hw=>KAo V hok f bd _ _ w (hw _ (by repeat (first|exact Mh _|apply Mt))) (hw _ (by repeat (first|exact Mh _|apply Mt))))) ?_
    rintro _ _ ⟨rfl,rfl⟩
    refine KAF 9 rfl rfl rfl (Nb rfl) (by kernel_rfl) rfl (KAM (first:=[]) rfl en_156 rfl (fun w hw=>KAo V hok f bd _ _ w (hw _ (by repeat (first|exact Mh _|apply Mt))) (hw _ (by repeat (first|exact Mh _|apply Mt))))) ?_
    rintro _ _ ⟨rfl,rfl⟩
    refine KAy (by kernel_rfl) (fun b7=>?_)
    refine KAs ?_
    refine Kx 11 rfl rfl (by kernel_rfl) (by kernel_rfl) (KP rfl rfl sz_25 (by repeat (first|exact Km _|exact KAB _ _ _|exact Kn _|exact Kw _ _ _|exact Ky _ _ _|exact KX|refine KT rfl ?_|refine KZ ?_ ?_)) (by repeat (first|exact Sh _|apply St_)) (by first|exact KH _|exact KN _ _ _|exact KL _|exact KY _ _ _|exact Kd _ _ _|rfl|simp [KN,KH,KL]) ?_)
    refine Kq (by kernel_rfl) ?_
    refine KE ?_
    refine Ke [35] (by kernel_rfl) ?_
    refine KD 0 rfl (by kernel_rfl) (Nb rfl) (KC rfl) ?_
    refine KD 1 rfl (by kernel_rfl) (Nb rfl) (KC rfl) ?_
    refine KD 2 rfl (by kernel_rfl) (Nb rfl) (KC rfl) ?_
    refine KD 3 rfl (by kernel_rfl) (Nb rfl) (KC rfl) ?_
    refine KD 4 rfl (by kernel_rfl) (Nb rfl) (KM (o':=0) Try.underlying91 rfl rfl rfl sz_25 (by decide)) ?_
    refine LAny.take 5 rfl (by kernel_rfl) (Nb rfl) (KJ rfl (by repeat (first|exact Mh _|apply Mt)) (by exact KAO Try.underlying25 rfl sz_25 rfl (KH _))) ?_
    refine KD 6 rfl (by kernel_rfl) (Nb rfl) (KM (o':=0) Try.underlying91 rfl rfl rfl sz_25 (by decide)) ?_
    refine LAny.take 7 rfl (by kernel_rfl) (Nb rfl) (KJ rfl (by repeat (first|exact Mh _|apply Mt)) (by exact KAO Try.underlying25 rfl sz_25 rfl (KH _))) ?_
    refine KD 9 rfl (by kernel_rfl) (Nb rfl) (KC rfl) ?_
    refine KD 10 rfl (by kernel_rfl) (Nb rfl) (KC rfl) ?_
    refine KD 11 rfl (by kernel_rfl) (Nb rfl) (Kf rfl) ?_
    refine KD 12 rfl (by kernel_rfl) (Nb rfl) (KM (o':=0) Try.underlying147 rfl rfl rfl sz_62 (by decide)) ?_
    refine KD 13 rfl (by kernel_rfl) (Nb rfl) (KM (o':=10) Try.underlying62 rfl rfl rfl sz_25 (by decide)) ?_
    refine LAny.take 14 rfl (by kernel_rfl) (Nb rfl) (Det.cast (KJ rfl (by repeat (first|exact Mh _|apply Mt)) (by exact cvC_ld_a _ _ _ _ _ _ _ _ _ _ _ _ _ _ _ _)) (a_val hok)) ?_
    refine LAny.take 15 rfl (by kernel_rfl) (Nb rfl) (KJ rfl (by repeat (first|exact Mh _|apply Mt)) (by exact KK Try.underlying25 rfl sz_25)) ?_
    refine KD 18 rfl (by kernel_rfl) (Nb rfl) (KM (o':=0) Try.underlying91 rfl rfl rfl sz_25 (by decide)) ?_
    refine LAny.take 19 rfl (by kernel_rfl) (Nb rfl) (KJ rfl (by repeat (first|exact Mh _|apply Mt)) (by exact KAO Try.underlying25 rfl sz_25 rfl (KH _))) ?_
    refine KD 21 rfl (by kernel_rfl) (Nb rfl) (KC rfl) ?_
    refine KD 22 rfl (by kernel_rfl) (Nb rfl) (KC rfl) ?_
    refine KD 23 rfl (by kernel_rfl) (Nb rfl) (Kf rfl) ?_
    refine KD 24 rfl (by kernel_rfl) (Nb rfl) (KM (o':=0) Try.underlying147 rfl rfl rfl sz_62 (by decide)) ?_
    refine KD 25 rfl (by kernel_rfl) (Nb rfl) (KM (o':=19) Try.underlying62 rfl rfl rfl sz_25 (by decide)) ?_
    refine LAny.take 26 rfl (by kernel_rfl) (Nb rfl) (Det.cast (KJ rfl (by repeat (first|exact Mh _|apply Mt)) (by exact cvC_ld_b _ _ _ _ _ _ _ _ _ _ _ _ _ _ _ _)) (b_val hok)) ?_
    refine KD 27 rfl (by kernel_rfl) (Nb rfl) (KC rfl) ?_
    refine LAny.take 28 rfl (by kernel_rfl) (Nb rfl) (KJ rfl (by repeat (first|exact Mh _|apply Mt)) (by exact KK Try.underlying25 rfl sz_25)) ?_
    refine KD 29 rfl (by kernel_rfl) (Nb rfl) (KM (o':=18) Try.underlying91 rfl rfl rfl sz_25 (by decide)) ?_
    refine LAny.take 30 rfl (by kernel_rfl) (Nb rfl) (KJ rfl (by repeat (first|exact Mh _|apply Mt)) (by exact pj_ld2 _ _ _ _ _ _)) ?_
    refine LAny.toP ?_
    refine KAa 34 rfl (.inl zr_25) (Nb rfl) rfl rfl rfl ?_
    refine KAF 8 rfl rfl rfl (Nb rfl) (by kernel_rfl) rfl (KAM (first:=[]) rfl en_156 rfl (fun w hw=>KAo V hok f bd _ _ w (hw _ (by repeat (first|exact Mh _|apply Mt))) (hw _ (by repeat (first|exact Mh _|apply Mt))))) ?_
    rintro _ _ ⟨rfl,rfl⟩
    refine KAF 16 rfl rfl rfl (Nb rfl) (by kernel_rfl) rfl (KAM (first:=[]) rfl en_156 rfl (fun w hw=>KAo V hok f bd _ _ w (hw _ (by repeat (first|exact Mh _|apply Mt))) (hw _ (by repeat (first|exact Mh _|apply Mt))))) ?_
    rintro _ _ ⟨rfl,rfl⟩
    refine KAF 17 rfl rfl rfl (Nb rfl) (by kernel_rfl) rfl (KAM (first:=[]) rfl en_152 rfl (fun w hw=>c_F_Add V hok f bd _ _ w (hw _ (by repeat (first|exact Mh _|apply Mt))))) ?_
    rintro _ _ ⟨rfl,rfl⟩
    refine KAF 20 rfl rfl rfl (Nb rfl) (by kernel_rfl) rfl (KAM (first:=[]) rfl en_156 rfl (fun w hw=>KAo V hok f bd _ _ w (hw _ (by repeat (first|exact Mh _|apply Mt))) (hw _ (by repeat (first|exact Mh _|apply Mt))))) ?_
    rintro _ _ ⟨rfl,rfl⟩
    refine KAF 31 rfl rfl rfl (Nb rfl) (by kernel_rfl) rfl (KAM (first:=[]) rfl en_156 rfl (fun w hw=>KAo V hok f bd _ _ w (hw _ (by repeat (first|exact Mh _|apply Mt))) (hw _ (by repeat (first|exact Mh _|apply Mt))))) ?_
    rintro _ _ ⟨rfl,rfl⟩
    refine KAF 32 rfl rfl rfl (Nb rfl) (by kernel_rfl) rfl (KAM (first:=[]) rfl en_156 rfl (fun w hw=>KAo V hok f bd _ _ w (hw _ (by repeat (first|exact Mh _|apply Mt))) (hw _ (by repeat (first|exact Mh _|apply Mt))))) ?_
    rintro _ _ ⟨rfl,rfl⟩
    refine KAF 33 rfl rfl rfl (Nb rfl) (by kernel_rfl) rfl (KAM (first:=[]) rfl en_152 rfl (fun w hw=>c_F_Add V hok f bd _ _ w (hw _ (by repeat (first|exact Mh _|apply Mt))))) ?_
    rintro _ _ ⟨rfl,rfl⟩
    refine KAy (by kernel_rfl) (fun b8=>?_)
    refine KAs ?_
    refine Kx 35 rfl rfl (by kernel_rfl) (by kernel_rfl) (KP rfl rfl sz_25 (by repeat (first|exact Km _|exact KAB _ _ _|exact Kn _|exact Kw _ _ _|exact Ky _ _ _|exact KX|refine KT rfl ?_|refine KZ ?_ ?_)) (by repeat (first|exact Sh _|apply St_)) (by first|exact KH _|exact KN _ _ _|exact KL _|exact KY _ _ _|exact Kd _ _ _|rfl|simp [KN,KH,KL]) ?_)
    refine Kq (by kernel_rfl) ?_
    refine KE (KB ?_)
    refine LOps.det (KJ rfl (by repeat (first|exact Mh _|apply Mt)) (by exact KK Try.underlying25 rfl sz_25)) (Nb rfl) ?_
    refine LOps.det (KJ rfl (by repeat (first|exact Mh _|apply Mt)) (by exact KK Try.underlying25 rfl sz_25)) (Nb rfl) ?_
    refine KA (KU (Det.eqa (by kernel_rfl) (fun w=>eq_nat (y*y*z).val ((x*x+V.A*(z*z))*x+V.B*(z*z*z)).val (Nat.lt_trans (y*y*z).isLt hpW) (Nat.lt_trans ((x*x+V.A*(z*z))*x+V.B*(z*z*z)).isLt hpW) 10000 (by decide) w) rfl rfl) (show _ = Value.bool false by rw [decide_eq_false he])) (Nb rfl) ?_
    refine KA (KF rfl) (Nb rfl) ?_
    refine KG (Ka ?_)
    refine ⟨[_],.cons rfl .nil,fun a w' hr=>⟨?_,hr.fr.below⟩⟩
    rfl
def trL (l:List (Nat×Nat×Nat)):List Value:=l.flatMap fun t=>pjL t.1 t.2.1 t.2.2
theorem trL_length:∀ l,(trL l).length = 27*l.length
  | []=>rfl
  | t :: l=>by
    have:=trL_length l
    unfold trL at *
    rw [List.flatMap_cons,List.length_append,Kd,this,List.length_cons]; omega
theorem trL_at (l:List (Nat×Nat×Nat)) {x:Nat} {t:Nat×Nat×Nat} (h:l[x]? = some t):trL l = trL (l.take x)++(pjL t.1 t.2.1 t.2.2++trL (l.drop (x+1))):=by
  have hx:x<l.length:=by
    rcases Nat.lt_or_ge x l.length with h'|h'
    · exact h'
    · rw [List.getElem?_eq_none h'] at h; cases h
  have e:l = l.take x++t :: l.drop (x+1):=by
    conv=>lhs; rw [← List.take_append_drop x l]
    congr 1
    rw [List.drop_eq_getElem_cons hx]
    congr 1
    rw [List.getElem?_eq_getElem hx] at h
    exact Option.some.inj h
  conv=>lhs; rw [e]
  unfold trL
  rw [List.flatMap_append,List.flatMap_cons]
theorem tr_ld (l:List (Nat×Nat×Nat)) {x:Nat} {t:Nat×Nat×Nat} (h:l[x]? = some t) (wr:Bool) (e:TypeId) (fz:Nat×Nat):LoadV Try.prog 91 ⟨wr,trL l,e,fz⟩ (0+((x:Nat):Int).toNat*27) (pjV t.1 t.2.1 t.2.2) :=
  KAi Try.underlying91 rfl sz_91 (trL_at l h) (by
    have hx:x<l.length:=by
      rcases Nat.lt_or_ge x l.length with h'|h'
      · exact h'
      · rw [List.getElem?_eq_none h'] at h; cases h
    rw [trL_length,List.length_take,Nat.min_eq_left (Nat.le_of_lt hx)]; omega) (Kd _ _ _)
theorem c_popen_none (id:Int) (sv:Value) (w:World) (h:cvI id = none):Calls Try.prog 126 ([.int .i64 id,sv]:List Value).toArray w (fun e w'=>e = .returned (.tuple #[.pointer none,.int .i64 ((1500:Nat):Int)])∧Below w.heap.size w w'):=by
  refine KAC (N:=25) (rs:=[.tmp 4,.tmp 5]) [] Try.func126 rfl Try.ntmps126 Try.results126 (Nb rfl) trivial rfl ?_
  show LCode _ _ _ ⟨_,_⟩ _
  refine KE (KB ?_)
  refine KA (KF rfl) (Nb rfl) ?_
  refine KA (KF (v:=.int .i64 ((0:Nat):Int)) rfl) (Nb rfl) ?_
  refine KG ?_
  refine KE (KB ?_)
  refine KA (KC rfl) (Nb rfl) ?_
  refine KI rfl (KS (KQ (first:=[]) rfl en_112 rfl (Nb rfl) (fun w hw=>c_Open_none id w h) ?_))
  refine KA (KF rfl) (Nb rfl) ?_
  refine KG ?_
  refine KE ?_
  refine KE (KB ?_)
  refine KA (KC rfl) (Nb rfl) ?_
  refine KA (KU (Det.eqp Try.underlying142 rfl rfl) (show _ = Value.bool true from rfl)) (Nb rfl) ?_
  refine KG ?_
  refine Ks rfl ?_
  refine KE (KB ?_)
  refine KA (KF rfl) (Nb rfl) ?_
  refine KA (KF (v:=.int .i64 ((1500:Nat):Int)) rfl) (Nb rfl) ?_
  refine KG (Ka ?_)
  refine ⟨[_,_],.cons rfl (.cons rfl .nil),fun a w' hr=>⟨?_,hr.fr.below⟩⟩
  rfl
theorem c_popen0 (id:Int) (V:Cv) (w:World) (h:cvI id = some V):Calls Try.prog 126 ([.int .i64 id,.slice none 0 0]:List Value).toArray w (fun e w'=>∃ b f bd,e = .returned (.tuple #[.pointer (some ⟨b,0,none⟩),.int .i64 ((0:Nat):Int)])∧(Item.blk b ⟨false,opL V f,147,(0,0)⟩).holds w'∧(Item.blk f ⟨false,fldL V.p bd,194,(0,0)⟩).holds w'∧(Item.blk bd ⟨false,dvL V.p,241,(0,0)⟩).holds w'∧w.heap.size≤b∧w.heap.size≤f∧w.heap.size≤bd∧Below w.heap.size w w'):=by
  obtain ⟨hok,hid⟩:=cvI_ok h
  have hbb:=hok.bounds
  have hpW:V.p<W9:=w9_521 hbb.2.1
  have hnW:V.n<W9:=w9_521 hbb.2.2.2.2.2.2.1
  have hbl:=blen_w9 hnW
  have hnb:nby V.n≤72:=by (unfold nby; omega)
  refine KAC (N:=25) (rs:=[.tmp 4,.tmp 5]) [] Try.func126 rfl Try.ntmps126 Try.results126 (Nb rfl) trivial rfl ?_
  show LCode _ _ _ ⟨_,_⟩ _
  refine KE (KB ?_)
  refine KA (KF rfl) (Nb rfl) ?_
  refine KA (KF (v:=.int .i64 ((0:Nat):Int)) rfl) (Nb rfl) ?_
  refine KG ?_
  refine KE (KB ?_)
  refine KA (KC rfl) (Nb rfl) ?_
  refine KI rfl (KS (Kp (Post:=fun v its=>∃ b f bd,v = .pointer (some ⟨b,0,none⟩)∧its = [.blk b ⟨false,opL V f,147,(0,0)⟩,.blk f ⟨false,fldL V.p bd,194,(0,0)⟩,.blk bd ⟨false,dvL V.p,241,(0,0)⟩]∧w.heap.size≤b∧w.heap.size≤f∧w.heap.size≤bd) (first:=[]) rfl en_112 rfl (Nb rfl) (fun w1 hw hs=>(c_Open _ V w1 h).mono fun e w' ⟨b,f,bd,h1,h2,h3,h4,h5,h6,h7,h8⟩=>⟨_,_,⟨b,f,bd,rfl,rfl,Nat.le_trans hs h5,Nat.le_trans hs h6,Nat.le_trans hs h7⟩,h1,KAd h8 (by intro x hx; simp at hx; rcases hx with rfl|rfl|rfl; exact h2; exact h3; exact h4) (by intro x hx; simp at hx; rcases hx with rfl|rfl|rfl <;> rfl) (by intro x hx k hk; simp at hx; rcases hx with rfl|rfl|rfl <;> simp [Item.fp] at hk <;> subst hk; exact .inl h5; exact .inl h6; exact .inl h7)⟩) ?_))
  rintro _ _ ⟨b,f,bd,rfl,rfl,hbn,hfn,hdn⟩
  refine KA (KF rfl) (Nb rfl) ?_
  refine KG ?_
  refine KE ?_
  refine KE (KB ?_)
  refine KA (KC rfl) (Nb rfl) ?_
  refine KA (KU (Det.eqp Try.underlying142 rfl rfl) (show _ = Value.bool false from rfl)) (Nb rfl) ?_
  refine KG ?_
  refine Kj rfl ?_
  refine Kh ?_
  refine KE ?_
  refine KE (KB ?_)
  refine KA (KC rfl) (Nb rfl) ?_
  refine KA (KAU Try.underlying103 rfl) (Nb rfl) ?_
  refine KA (KC (v:=.int .i64 ((0:Nat):Int)) rfl) (Nb rfl) ?_
  refine KG ?_
  refine LCode.block ?_
  refine KAR (α:=Unit) (fun x=>True) (fun x=>⟨[(6,.pointer (some ⟨b,0,none⟩)),(13,.slice none 0 0),(14,.int .i64 ((0:Nat):Int)),(15,.int .i64 ((0:Nat):Int))],[.blk b ⟨false,opL V f,147,(0,0)⟩,.blk f ⟨false,fldL V.p bd,194,(0,0)⟩,.blk bd ⟨false,dvL V.p,241,(0,0)⟩]⟩) (fun x=>0) (()) (trivial) (KAL ⟨rfl,rfl,rfl,rfl,trivial⟩ (by repeat (first|exact Sel.nil _|refine Sel.cons (by repeat (first|exact Ph _|apply Pt_)) ?_))) ?_
  intro x hx
  refine KE (KB ?_)
  refine KA (KO (v:=.bool false) rfl rfl (br_f br_lss (Nat.lt_irrefl 0))) (Nb rfl) ?_
  refine KG ?_
  refine KE ?_
  refine Kj rfl ?_
  refine KAK ?_
  refine KE (KB ?_)
  refine KA (KC rfl) (Nb rfl) ?_
  refine KA (KF rfl) (Nb rfl) ?_
  refine KA (KF (v:=.int .i64 ((0:Nat):Int)) rfl) (Nb rfl) ?_
  refine KG (Ka ?_)
  refine ⟨[_,_],.cons rfl (.cons rfl .nil),fun a w' hr=>⟨b,f,bd,rfl,hr.hp _ (by repeat (first|exact Mh _|apply Mt)),hr.hp _ (by repeat (first|exact Mh _|apply Mt)),hr.hp _ (by repeat (first|exact Mh _|apply Mt)),hbn,hfn,hdn,hr.fr.below⟩⟩
theorem c_popen (id:Int) (V:Cv) (l:List (Nat×Nat×Nat)) (bs:Nat) (w:World) (h:cvI id = some V) (hps:(Item.blk bs ⟨false,trL l,91,(0,0)⟩).holds w) (hlen:l.length<1000) (hl9:∀ t,t∈l→t.1<W9∧t.2.1<W9∧t.2.2<W9) (hall:∀ t,t∈l→TrHas V t.1 t.2.1 t.2.2):Calls Try.prog 126 ([.int .i64 id,.slice (some ⟨bs,0,none⟩) l.length l.length]:List Value).toArray w (fun e w'=>∃ b f bd,e = .returned (.tuple #[.pointer (some ⟨b,0,none⟩),.int .i64 ((0:Nat):Int)])∧(Item.blk b ⟨false,opL V f,147,(0,0)⟩).holds w'∧(Item.blk f ⟨false,fldL V.p bd,194,(0,0)⟩).holds w'∧(Item.blk bd ⟨false,dvL V.p,241,(0,0)⟩).holds w'∧w.heap.size≤b∧w.heap.size≤f∧w.heap.size≤bd∧Below w.heap.size w w'):=by
  obtain ⟨hok,hid⟩:=cvI_ok h
  have hbb:=hok.bounds
  have hpW:V.p<W9:=w9_521 hbb.2.1
  have hnW:V.n<W9:=w9_521 hbb.2.2.2.2.2.2.1
  have hbl:=blen_w9 hnW
  have hnb:nby V.n≤72:=by (unfold nby; omega)
  refine KAC (N:=25) (rs:=[.tmp 4,.tmp 5]) [.blk bs ⟨false,trL l,91,(0,0)⟩] Try.func126 rfl Try.ntmps126 Try.results126 (Nb rfl) ⟨hps,trivial⟩ rfl ?_
  show LCode _ _ _ ⟨_,_⟩ _
  refine KE (KB ?_)
  refine KA (KF rfl) (Nb rfl) ?_
  refine KA (KF (v:=.int .i64 ((0:Nat):Int)) rfl) (Nb rfl) ?_
  refine KG ?_
  refine KE (KB ?_)
  refine KA (KC rfl) (Nb rfl) ?_
  refine KI rfl (KS (Kp (Post:=fun v its=>∃ b f bd,v = .pointer (some ⟨b,0,none⟩)∧its = [.blk b ⟨false,opL V f,147,(0,0)⟩,.blk f ⟨false,fldL V.p bd,194,(0,0)⟩,.blk bd ⟨false,dvL V.p,241,(0,0)⟩]∧w.heap.size≤b∧w.heap.size≤f∧w.heap.size≤bd) (first:=[]) rfl en_112 rfl (Nb rfl) (fun w1 hw hs=>(c_Open _ V w1 h).mono fun e w' ⟨b,f,bd,h1,h2,h3,h4,h5,h6,h7,h8⟩=>⟨_,_,⟨b,f,bd,rfl,rfl,Nat.le_trans hs h5,Nat.le_trans hs h6,Nat.le_trans hs h7⟩,h1,KAd h8 (by intro x hx; simp at hx; rcases hx with rfl|rfl|rfl; exact h2; exact h3; exact h4) (by intro x hx; simp at hx; rcases hx with rfl|rfl|rfl <;> rfl) (by intro x hx k hk; simp at hx; rcases hx with rfl|rfl|rfl <;> simp [Item.fp] at hk <;> subst hk; exact .inl h5; exact .inl h6; exact .inl h7)⟩) ?_))
  rintro _ _ ⟨b,f,bd,rfl,rfl,hbn,hfn,hdn⟩
  refine KA (KF rfl) (Nb rfl) ?_
  refine KG ?_
  refine KE ?_
  refine KE (KB ?_)
  refine KA (KC rfl) (Nb rfl) ?_
  refine KA (KU (Det.eqp Try.underlying142 rfl rfl) (show _ = Value.bool false from rfl)) (Nb rfl) ?_
  refine KG ?_
  refine Kj rfl ?_
  refine Kh ?_
  refine KE ?_
  refine KE (KB ?_)
  refine KA (KC rfl) (Nb rfl) ?_
  refine KA (KAU Try.underlying103 rfl) (Nb rfl) ?_
  refine KA (KC (v:=.int .i64 ((0:Nat):Int)) rfl) (Nb rfl) ?_
  refine KG ?_
  refine LCode.block ?_
  refine KAR (α:=Nat) (fun x=>x≤l.length) (fun x=>⟨[(6,.pointer (some ⟨b,0,none⟩)),(13,.slice (some ⟨bs,0,none⟩) l.length l.length),(14,.int .i64 ((l.length:Nat):Int)),(15,.int .i64 ((x:Nat):Int))],[.blk bs ⟨false,trL l,91,(0,0)⟩,.blk b ⟨false,opL V f,147,(0,0)⟩,.blk f ⟨false,fldL V.p bd,194,(0,0)⟩,.blk bd ⟨false,dvL V.p,241,(0,0)⟩]⟩) (fun x=>l.length-x) (0) (Nat.zero_le _) (KAL ⟨rfl,rfl,rfl,rfl,trivial⟩ (by repeat (first|exact Sel.nil _|refine Sel.cons (by repeat (first|exact Ph _|apply Pt_)) ?_))) ?_
  intro x hx1
  refine KE (KB ?_)
  refine KA (KO rfl rfl (br_lss)) (Nb rfl) ?_
  refine KG ?_
  refine KE ?_
  first|refine Kg rfl (fun h16=>?_) (fun h16=>?_)|refine Kl rfl (fun h16=>?_) (fun h16=>?_)
  ·
    have h16:x<l.length:=h16
    obtain ⟨t,hlx⟩:∃ t,l[x]? = some t:=⟨_,List.getElem?_eq_getElem h16⟩
    have ht9:=hl9 t (List.mem_of_getElem? hlx)
    refine Kh ?_
    refine KE ?_
    refine LCode.block ?_
    refine KE (KB ?_)
    refine KA (Det.indexSl Try.underlying103 sz_91 rfl rfl (by omega) (by omega)) (Nb rfl) ?_
    refine LOps.det (KJ rfl (by repeat (first|exact Mh _|apply Mt)) (by exact tr_ld l hlx _ _ _)) (Nb rfl) ?_
    refine KI rfl (KS (KR (Kc zr_91) (Nb rfl) (fun b8=>?_)))
    refine KI rfl (KP rfl rfl sz_91 (by exact Ky _ _ _) (by repeat (first|exact Sh _|apply St_)) (by exact Kd _ _ _) ?_)
    refine KG ?_
    refine KE ?_
    obtain ⟨T,hT1,hT2,hT3,hT4⟩:=hall t (List.mem_of_getElem? hlx)
    obtain ⟨t1,t2,t3⟩:=t
    dsimp only at hT1 hT2 hT3
    subst hT1 hT2 hT3
    refine KB ?_
    refine KA (KC rfl) (Nb rfl) ?_
    refine LOps.det (KJ rfl (by repeat (first|exact Mh _|apply Mt)) (by exact KK Try.underlying91 rfl sz_91)) (Nb rfl) ?_
    refine KI rfl (KS (KQ (first:=[]) rfl en_159 rfl (Nb rfl) (fun w hw=>c_hasT V b f bd hok T w (hw _ (by repeat (first|exact Mh _|apply Mt))) (hw _ (by repeat (first|exact Mh _|apply Mt))) (hw _ (by repeat (first|exact Mh _|apply Mt))) hT4) ?_))
    refine KA (KU (KAc rfl) (show _ = Value.bool false from rfl)) (Nb rfl) ?_
    refine KG ?_
    refine Kj rfl ?_
    refine Kh ?_
    refine KB ?_
    refine KA (KO rfl rfl (KAQ (b:=1) (by omega))) (Nb rfl) ?_
    refine KA (KC rfl) (Nb rfl) ?_
    refine KG ?_
    exact ⟨x+1,by omega,by omega,KAL ⟨rfl,rfl,rfl,rfl,trivial⟩ (by repeat (first|exact Sel.nil _|refine Sel.cons (by repeat (first|exact Ph _|apply Pt_)) ?_))⟩
  ·
    have h16:¬ x<l.length:=h16
    refine KAK ?_
    refine KE (KB ?_)
    refine KA (KC rfl) (Nb rfl) ?_
    refine KA (KF rfl) (Nb rfl) ?_
    refine KA (KF (v:=.int .i64 ((0:Nat):Int)) rfl) (Nb rfl) ?_
    refine KG (Ka ?_)
    refine ⟨[_,_],.cons rfl (.cons rfl .nil),fun a w' hr=>⟨b,f,bd,rfl,hr.hp _ (by repeat (first|exact Mh _|apply Mt)),hr.hp _ (by repeat (first|exact Mh _|apply Mt)),hr.hp _ (by repeat (first|exact Mh _|apply Mt)),hbn,hfn,hdn,hr.fr.below⟩⟩
theorem c_popen_bad (id:Int) (V:Cv) (l:List (Nat×Nat×Nat)) (bs:Nat) (w:World) (h:cvI id = some V) (hps:(Item.blk bs ⟨false,trL l,91,(0,0)⟩).holds w) (hlen:l.length<1000) (hl9:∀ t,t∈l→t.1<W9∧t.2.1<W9∧t.2.2<W9) (hbad:∃ t,t∈l∧¬ TrHas V t.1 t.2.1 t.2.2):Calls Try.prog 126 ([.int .i64 id,.slice (some ⟨bs,0,none⟩) l.length l.length]:List Value).toArray w (fun e w'=>e = .returned (.tuple #[.pointer none,.int .i64 ((1501:Nat):Int)])∧Below w.heap.size w w'):=by
  obtain ⟨hok,hid⟩:=cvI_ok h
  have hbb:=hok.bounds
  have hpW:V.p<W9:=w9_521 hbb.2.1
  have hnW:V.n<W9:=w9_521 hbb.2.2.2.2.2.2.1
  have hbl:=blen_w9 hnW
  have hnb:nby V.n≤72:=by (unfold nby; omega)
  refine KAC (N:=25) (rs:=[.tmp 4,.tmp 5]) [.blk bs ⟨false,trL l,91,(0,0)⟩] Try.func126 rfl Try.ntmps126 Try.results126 (Nb rfl) ⟨hps,trivial⟩ rfl ?_
  show LCode _ _ _ ⟨_,_⟩ _
  refine KE (KB ?_)
  refine KA (KF rfl) (Nb rfl) ?_
  refine KA (KF (v:=.int .i64 ((0:Nat):Int)) rfl) (Nb rfl) ?_
  refine KG ?_
  refine KE (KB ?_)
  refine KA (KC rfl) (Nb rfl) ?_
  refine KI rfl (KS (Kp (Post:=fun v its=>∃ b f bd,v = .pointer (some ⟨b,0,none⟩)∧its = [.blk b ⟨false,opL V f,147,(0,0)⟩,.blk f ⟨false,fldL V.p bd,194,(0,0)⟩,.blk bd ⟨false,dvL V.p,241,(0,0)⟩]∧w.heap.size≤b∧w.heap.size≤f∧w.heap.size≤bd) (first:=[]) rfl en_112 rfl (Nb rfl) (fun w1 hw hs=>(c_Open _ V w1 h).mono fun e w' ⟨b,f,bd,h1,h2,h3,h4,h5,h6,h7,h8⟩=>⟨_,_,⟨b,f,bd,rfl,rfl,Nat.le_trans hs h5,Nat.le_trans hs h6,Nat.le_trans hs h7⟩,h1,KAd h8 (by intro x hx; simp at hx; rcases hx with rfl|rfl|rfl; exact h2; exact h3; exact h4) (by intro x hx; simp at hx; rcases hx with rfl|rfl|rfl <;> rfl) (by intro x hx k hk; simp at hx; rcases hx with rfl|rfl|rfl <;> simp [Item.fp] at hk <;> subst hk; exact .inl h5; exact .inl h6; exact .inl h7)⟩) ?_))
  rintro _ _ ⟨b,f,bd,rfl,rfl,hbn,hfn,hdn⟩
  refine KA (KF rfl) (Nb rfl) ?_
  refine KG ?_
  refine KE ?_
  refine KE (KB ?_)
  refine KA (KC rfl) (Nb rfl) ?_
  refine KA (KU (Det.eqp Try.underlying142 rfl rfl) (show _ = Value.bool false from rfl)) (Nb rfl) ?_
  refine KG ?_
  refine Kj rfl ?_
  refine Kh ?_
  refine KE ?_
  refine KE (KB ?_)
  refine KA (KC rfl) (Nb rfl) ?_
  refine KA (KAU Try.underlying103 rfl) (Nb rfl) ?_
  refine KA (KC (v:=.int .i64 ((0:Nat):Int)) rfl) (Nb rfl) ?_
  refine KG ?_
  refine LCode.block ?_
  refine KAR (α:=Nat) (fun x=>x≤l.length∧∀ y,y<x→∀ t,l[y]? = some t→TrHas V t.1 t.2.1 t.2.2) (fun x=>⟨[(6,.pointer (some ⟨b,0,none⟩)),(13,.slice (some ⟨bs,0,none⟩) l.length l.length),(14,.int .i64 ((l.length:Nat):Int)),(15,.int .i64 ((x:Nat):Int))],[.blk bs ⟨false,trL l,91,(0,0)⟩,.blk b ⟨false,opL V f,147,(0,0)⟩,.blk f ⟨false,fldL V.p bd,194,(0,0)⟩,.blk bd ⟨false,dvL V.p,241,(0,0)⟩]⟩) (fun x=>l.length-x) (0) (⟨Nat.zero_le _,fun y hy=>absurd hy (Nat.not_lt_zero _)⟩) (KAL ⟨rfl,rfl,rfl,rfl,trivial⟩ (by repeat (first|exact Sel.nil _|refine Sel.cons (by repeat (first|exact Ph _|apply Pt_)) ?_))) ?_
  rintro x ⟨hx1,hx2⟩
  refine KE (KB ?_)
  refine KA (KO rfl rfl (br_lss)) (Nb rfl) ?_
  refine KG ?_
  refine KE ?_
  first|refine Kg rfl (fun h16=>?_) (fun h16=>?_)|refine Kl rfl (fun h16=>?_) (fun h16=>?_)
  ·
    have h16:x<l.length:=h16
    obtain ⟨t,hlx⟩:∃ t,l[x]? = some t:=⟨_,List.getElem?_eq_getElem h16⟩
    have ht9:=hl9 t (List.mem_of_getElem? hlx)
    refine Kh ?_
    refine KE ?_
    refine LCode.block ?_
    refine KE (KB ?_)
    refine KA (Det.indexSl Try.underlying103 sz_91 rfl rfl (by omega) (by omega)) (Nb rfl) ?_
    refine LOps.det (KJ rfl (by repeat (first|exact Mh _|apply Mt)) (by exact tr_ld l hlx _ _ _)) (Nb rfl) ?_
    refine KI rfl (KS (KR (Kc zr_91) (Nb rfl) (fun b8=>?_)))
    refine KI rfl (KP rfl rfl sz_91 (by exact Ky _ _ _) (by repeat (first|exact Sh _|apply St_)) (by exact Kd _ _ _) ?_)
    refine KG ?_
    refine KE ?_
    by_cases hh:TrHas V t.1 t.2.1 t.2.2
    ·
      obtain ⟨T,hT1,hT2,hT3,hT4⟩:=(show TrHas V t.1 t.2.1 t.2.2 from hh)
      obtain ⟨t1,t2,t3⟩:=t
      dsimp only at hT1 hT2 hT3
      subst hT1 hT2 hT3
      refine KB ?_
      refine KA (KC rfl) (Nb rfl) ?_
      refine LOps.det (KJ rfl (by repeat (first|exact Mh _|apply Mt)) (by exact KK Try.underlying91 rfl sz_91)) (Nb rfl) ?_
      refine KI rfl (KS (KQ (first:=[]) rfl en_159 rfl (Nb rfl) (fun w hw=>c_hasT V b f bd hok T w (hw _ (by repeat (first|exact Mh _|apply Mt))) (hw _ (by repeat (first|exact Mh _|apply Mt))) (hw _ (by repeat (first|exact Mh _|apply Mt))) hT4) ?_))
      refine KA (KU (KAc rfl) (show _ = Value.bool false from rfl)) (Nb rfl) ?_
      refine KG ?_
      refine Kj rfl ?_
      refine Kh ?_
      refine KB ?_
      refine KA (KO rfl rfl (KAQ (b:=1) (by omega))) (Nb rfl) ?_
      refine KA (KC rfl) (Nb rfl) ?_
      refine KG ?_
      exact ⟨x+1,⟨by omega,fun y hy t' ht'=>by
        rcases Nat.lt_or_ge y x with h'|h'
        · exact hx2 y h' t' ht'
        · obtain rfl:y = x:=by omega
          rw [hlx] at ht'; cases ht'; exact hh⟩,by omega,KAL ⟨rfl,rfl,rfl,rfl,trivial⟩ (by repeat (first|exact Sel.nil _|refine Sel.cons (by repeat (first|exact Ph _|apply Pt_)) ?_))⟩
    ·
      refine KB ?_
      refine KA (KC rfl) (Nb rfl) ?_
      refine LOps.det (KJ rfl (by repeat (first|exact Mh _|apply Mt)) (by exact KK Try.underlying91 rfl sz_91)) (Nb rfl) ?_
      refine KI rfl (KS (KQ (first:=[]) rfl en_159 rfl (Nb rfl) (fun w hw=>c_hasF V b f bd hok t.1 t.2.1 t.2.2 w (hw _ (by repeat (first|exact Mh _|apply Mt))) (hw _ (by repeat (first|exact Mh _|apply Mt))) (hw _ (by repeat (first|exact Mh _|apply Mt))) ht9.1 ht9.2.1 ht9.2.2 hh) ?_))
      refine KA (KU (KAc rfl) (show _ = Value.bool true from rfl)) (Nb rfl) ?_
      refine KG ?_
      refine Ks rfl ?_
      refine KE (KB ?_)
      refine KA (KF rfl) (Nb rfl) ?_
      refine KA (KF (v:=.int .i64 ((1501:Nat):Int)) rfl) (Nb rfl) ?_
      refine KG (Ka ?_)
      refine ⟨[_,_],.cons rfl (.cons rfl .nil),fun a w' hr=>⟨rfl,hr.fr.below⟩⟩
  ·
    have h16:¬ x<l.length:=h16
    refine KAK ?_
    refine KE (KB ?_)
    refine KA (KC rfl) (Nb rfl) ?_
    refine KA (KF rfl) (Nb rfl) ?_
    refine KA (KF (v:=.int .i64 ((0:Nat):Int)) rfl) (Nb rfl) ?_
    refine KG (Ka ?_)
    exfalso
    obtain ⟨t,hm,hno⟩:=hbad
    obtain ⟨y,hy⟩:=List.getElem?_of_mem hm
    refine hno (hx2 y ?_ t hy)
    rcases Nat.lt_or_ge y l.length with h'|h'
    · omega
    · rw [List.getElem?_eq_none h'] at hy; cases hy
end Go.Proofs.Ytljblbgogjieaaa
set_option linter.unusedVariables false
set_option linter.unusedSimpArgs false
set_option maxRecDepth 20000
namespace Go.Proofs.Ytljblbgogjieaaa
open Go Go.RowKit
open Grp
theorem inf_pj:infOf Try.prog 91 = some (.agg ((vec .u64 9 (fun _=>0)++(vec .u64 9 (fun _=>0)++(vec .u64 9 (fun _=>0)))):List Value).toArray,27,216):=by kernel_rfl
theorem row_pj1:((Array.range (1*27)).map fun i=>(Value.agg ((vec .u64 9 (fun _=>0)++(vec .u64 9 (fun _=>0)++(vec .u64 9 (fun _=>0)))):List Value).toArray).cells[i%(Value.agg ((vec .u64 9 (fun _=>0)++(vec .u64 9 (fun _=>0)++(vec .u64 9 (fun _=>0)))):List Value).toArray).cells.size]!) = ((vec .u64 9 (fun _=>0)++(vec .u64 9 (fun _=>0)++(vec .u64 9 (fun _=>0)))):List Value).toArray:=by kernel_rfl
theorem row_pj2:((Array.range (2*27)).map fun i=>(Value.agg ((vec .u64 9 (fun _=>0)++(vec .u64 9 (fun _=>0)++(vec .u64 9 (fun _=>0)))):List Value).toArray).cells[i%(Value.agg ((vec .u64 9 (fun _=>0)++(vec .u64 9 (fun _=>0)++(vec .u64 9 (fun _=>0)))):List Value).toArray).cells.size]!) = ((vec .u64 9 (fun _=>0)++(vec .u64 9 (fun _=>0)++(vec .u64 9 (fun _=>0)++(vec .u64 9 (fun _=>0)++(vec .u64 9 (fun _=>0)++(vec .u64 9 (fun _=>0))))))):List Value).toArray:=by kernel_rfl
theorem fill_tr1 (X Y Z:Nat):fillL ((List.range 1).map fun i=>(i*27,27)) (vec .u64 9 (fun _=>0)++(vec .u64 9 (fun _=>0)++(vec .u64 9 (fun _=>0)))) [(0,pjV X Y Z)] = some (trL [(X,Y,Z)]):=by
  refine (KAh (A:=[]) (B:=(vec .u64 9 (fun _=>0)++(vec .u64 9 (fun _=>0)++(vec .u64 9 (fun _=>0))))) (D:=[]) (cs:=pjL X Y Z) rfl rfl (Kd _ _ _) (by simp) rfl (by simp [KN]) rfl).trans ?_
  simp [trL]
theorem fill_tr2 (X Y Z X' Y' Z':Nat):fillL ((List.range 2).map fun i=>(i*27,27)) (vec .u64 9 (fun _=>0)++(vec .u64 9 (fun _=>0)++(vec .u64 9 (fun _=>0)++(vec .u64 9 (fun _=>0)++(vec .u64 9 (fun _=>0)++(vec .u64 9 (fun _=>0))))))) [(0,pjV X Y Z),(1,pjV X' Y' Z')] = some (trL [(X,Y,Z),(X',Y',Z')]):=by
  refine KAh (A:=[]) (B:=(vec .u64 9 (fun _=>0)++(vec .u64 9 (fun _=>0)++(vec .u64 9 (fun _=>0))))) (D:=(vec .u64 9 (fun _=>0)++(vec .u64 9 (fun _=>0)++(vec .u64 9 (fun _=>0))))) (cs:=pjL X Y Z) rfl rfl (Kd _ _ _) (by simp only [List.append_assoc,List.nil_append]) rfl (by simp [KN]) ?_
  refine (KAh (A:=pjL X Y Z) (B:=(vec .u64 9 (fun _=>0)++(vec .u64 9 (fun _=>0)++(vec .u64 9 (fun _=>0))))) (D:=[]) (cs:=pjL X' Y' Z') rfl rfl (Kd _ _ _) (by simp only [List.append_assoc,List.nil_append,List.append_nil]) (Kd _ _ _) (by simp [KN]) rfl).trans ?_
  simp [trL]
theorem c_projTo_none (id:Int) (X Y Z:Nat) (w:World) (h:cvI id = none):Calls Try.prog 81 ([.int .i64 id,pjV X Y Z]:List Value).toArray w (fun e w'=>e = .returned (.tuple #[ptV 0 0 false,.int .i64 ((1500:Nat):Int)])∧Below w.heap.size w w'):=by
  refine KAC (N:=22) (rs:=[.cell 4 60,.tmp 5]) [] Try.func81 rfl Try.ntmps81 Try.results81 (Nb rfl) trivial rfl ?_
  show LCode _ _ _ ⟨_,_⟩ _
  refine KE (KB ?_)
  refine KI rfl (KS (KR (Kz rfl) (Nb rfl) (fun b3=>?_)))
  refine KI rfl (KS (KR (Kc zr_60) (Nb rfl) (fun b4=>?_)))
  refine KA (KF (v:=.int .i64 ((0:Nat):Int)) rfl) (Nb rfl) ?_
  refine KG ?_
  refine KE (KB ?_)
  refine KA (KC rfl) (Nb rfl) ?_
  refine LOps.det (KJ rfl (by repeat (first|exact Mh _|apply Mt)) (by exact KK Try.underlying91 rfl sz_91)) (Nb rfl) ?_
  refine KI rfl (KS (KR (Makes.row Try.underlying103 inf_pj (by decide) row_pj1 rfl (fill_tr1 _ _ _) (fun h=>by cases h)) (Nb rfl) (fun b11=>?_)))
  refine KI rfl (KS (KQ (first:=[]) rfl en_126 rfl (Nb rfl) (fun w hw=>c_popen_none id _ w h) ?_))
  refine KA (KC rfl) (Nb rfl) ?_
  refine KA (KW rfl rfl) (Nb rfl) ?_
  refine KA (KW rfl rfl) (Nb rfl) ?_
  refine KA (KF rfl) (Nb rfl) ?_
  refine KA (KF rfl) (Nb rfl) ?_
  refine KG ?_
  refine KE ?_
  refine KE (KB ?_)
  refine KA (KC rfl) (Nb rfl) ?_
  refine KA (KO (v:=.bool true) rfl rfl (br_t (br_neq (b:=0)) (by decide))) (Nb rfl) ?_
  refine KG ?_
  refine Ks rfl ?_
  refine KE (KB ?_)
  refine KA (KU (KAI pl_60 zr_60 rfl rfl) (show _ = ptV 0 0 false from pt_zero)) (Nb rfl) ?_
  refine KA (KC rfl) (Nb rfl) ?_
  refine KI rfl (KP rfl rfl sz_60 (by repeat (first|exact Km _|exact KAB _ _ _|exact Kn _|exact Kw _ _ _|exact Ky _ _ _|exact KX|refine KT rfl ?_|refine KZ ?_ ?_)) (by repeat (first|exact Sh _|apply St_)) (by first|exact KH _|exact KN _ _ _|exact KL _|exact KY _ _ _|exact Kd _ _ _|rfl|simp [KN,KH,KL]) ?_)
  refine KA (KF rfl) (Nb rfl) ?_
  refine KG (Ka ?_)
  refine ⟨[_,_],.cons ⟨_,_,_,rfl,(by repeat (first|exact Mh _|apply Mt)),by exact KK Try.underlying60 rfl sz_60⟩ (.cons rfl .nil),fun a w' hr=>⟨?_,hr.fr.below⟩⟩
  rfl
theorem c_projTo_bad (id:Int) (V:Cv) (X Y Z:Nat) (w:World) (h:cvI id = some V) (hX:X<W9) (hY:Y<W9) (hZ:Z<W9) (hn:¬ TrHas V X Y Z):Calls Try.prog 81 ([.int .i64 id,pjV X Y Z]:List Value).toArray w (fun e w'=>e = .returned (.tuple #[ptV 0 0 false,.int .i64 ((1501:Nat):Int)])∧Below w.heap.size w w'):=by
  refine KAC (N:=22) (rs:=[.cell 4 60,.tmp 5]) [] Try.func81 rfl Try.ntmps81 Try.results81 (Nb rfl) trivial rfl ?_
  show LCode _ _ _ ⟨_,_⟩ _
  refine KE (KB ?_)
  refine KI rfl (KS (KR (Kz rfl) (Nb rfl) (fun b3=>?_)))
  refine KI rfl (KS (KR (Kc zr_60) (Nb rfl) (fun b4=>?_)))
  refine KA (KF (v:=.int .i64 ((0:Nat):Int)) rfl) (Nb rfl) ?_
  refine KG ?_
  refine KE (KB ?_)
  refine KA (KC rfl) (Nb rfl) ?_
  refine LOps.det (KJ rfl (by repeat (first|exact Mh _|apply Mt)) (by exact KK Try.underlying91 rfl sz_91)) (Nb rfl) ?_
  refine KI rfl (KS (KR (Makes.row Try.underlying103 inf_pj (by decide) row_pj1 rfl (fill_tr1 _ _ _) (fun h=>by cases h)) (Nb rfl) (fun b11=>?_)))
  refine KI rfl (KS (KQ (first:=[]) rfl en_126 rfl (Nb rfl) (fun w hw=>c_popen_bad id V [(X,Y,Z)] b11 w h (show (Item.blk b11 ⟨true,_,_,_⟩).holds w from hw _ (by repeat (first|exact Mh _|apply Mt))) (show 1<1000 by decide) (by intro t ht; simp at ht; subst ht; exact ⟨hX,hY,hZ⟩) ⟨_,.head _,hn⟩) ?_))
  refine KA (KC rfl) (Nb rfl) ?_
  refine KA (KW rfl rfl) (Nb rfl) ?_
  refine KA (KW rfl rfl) (Nb rfl) ?_
  refine KA (KF rfl) (Nb rfl) ?_
  refine KA (KF rfl) (Nb rfl) ?_
  refine KG ?_
  refine KE ?_
  refine KE (KB ?_)
  refine KA (KC rfl) (Nb rfl) ?_
  refine KA (KO (v:=.bool true) rfl rfl (br_t (br_neq (b:=0)) (by decide))) (Nb rfl) ?_
  refine KG ?_
  refine Ks rfl ?_
  refine KE (KB ?_)
  refine KA (KU (KAI pl_60 zr_60 rfl rfl) (show _ = ptV 0 0 false from pt_zero)) (Nb rfl) ?_
  refine KA (KC rfl) (Nb rfl) ?_
  refine KI rfl (KP rfl rfl sz_60 (by repeat (first|exact Km _|exact KAB _ _ _|exact Kn _|exact Kw _ _ _|exact Ky _ _ _|exact KX|refine KT rfl ?_|refine KZ ?_ ?_)) (by repeat (first|exact Sh _|apply St_)) (by first|exact KH _|exact KN _ _ _|exact KL _|exact KY _ _ _|exact Kd _ _ _|rfl|simp [KN,KH,KL]) ?_)
  refine KA (KF rfl) (Nb rfl) ?_
  refine KG (Ka ?_)
  refine ⟨[_,_],.cons ⟨_,_,_,rfl,(by repeat (first|exact Mh _|apply Mt)),by exact KK Try.underlying60 rfl sz_60⟩ (.cons rfl .nil),fun a w' hr=>⟨?_,hr.fr.below⟩⟩
  rfl
theorem c_projTo (id:Int) (V:Cv) (T:Fin V.p×Fin V.p×Fin V.p) (P:Pt V.p) (w:World) (h:cvI id = some V) (hT:RepT V T P):Calls Try.prog 81 ([.int .i64 id,pjF T]:List Value).toArray w (fun e w'=>e = .returned (.tuple #[ptP P,.int .i64 ((0:Nat):Int)])∧Below w.heap.size w w'):=by
  obtain ⟨hok,hid⟩:=cvI_ok h
  have hbb:=hok.bounds
  have hpW:V.p<W9:=w9_521 hbb.2.1
  have hnW:V.n<W9:=w9_521 hbb.2.2.2.2.2.2.1
  have hbl:=blen_w9 hnW
  have hnb:nby V.n≤72:=by (unfold nby; omega)
  refine KAC (N:=22) (rs:=[.cell 4 60,.tmp 5]) [] Try.func81 rfl Try.ntmps81 Try.results81 (Nb rfl) trivial rfl ?_
  show LCode _ _ _ ⟨_,_⟩ _
  refine KE (KB ?_)
  refine KI rfl (KS (KR (Kz rfl) (Nb rfl) (fun b3=>?_)))
  refine KI rfl (KS (KR (Kc zr_60) (Nb rfl) (fun b4=>?_)))
  refine KA (KF (v:=.int .i64 ((0:Nat):Int)) rfl) (Nb rfl) ?_
  refine KG ?_
  refine KE (KB ?_)
  refine KA (KC rfl) (Nb rfl) ?_
  refine LOps.det (KJ rfl (by repeat (first|exact Mh _|apply Mt)) (by exact KK Try.underlying91 rfl sz_91)) (Nb rfl) ?_
  refine KI rfl (KS (KR (Makes.row Try.underlying103 inf_pj (by decide) row_pj1 rfl (fill_tr1 _ _ _) (fun h=>by cases h)) (Nb rfl) (fun b11=>?_)))
  refine KI rfl (KS (Kp (Post:=fun v its=>∃ b f bd,v = .tuple #[.pointer (some ⟨b,0,none⟩),.int .i64 ((0:Nat):Int)]∧its = [.blk b ⟨false,opL V f,147,(0,0)⟩,.blk f ⟨false,fldL V.p bd,194,(0,0)⟩,.blk bd ⟨false,dvL V.p,241,(0,0)⟩]) (first:=[]) rfl en_126 rfl (Nb rfl) (fun w hw hs=>(c_popen id V [(T.1.val,T.2.1.val,T.2.2.val)] b11 w h (show (Item.blk b11 ⟨true,_,_,_⟩).holds w from hw _ (by repeat (first|exact Mh _|apply Mt))) (show 1<1000 by decide) (by intro t ht; simp at ht; subst ht; exact ⟨Nat.lt_trans T.1.isLt hpW,Nat.lt_trans T.2.1.isLt hpW,Nat.lt_trans T.2.2.isLt hpW⟩) (by intro t ht; simp at ht; subst ht; exact hT.has)).mono fun e w' ⟨b,f,bd,h1,h2,h3,h4,h5,h6,h7,h8⟩=>⟨_,_,⟨b,f,bd,rfl,rfl⟩,h1,KAd h8 (by intro x hx; simp at hx; rcases hx with rfl|rfl|rfl; exact h2; exact h3; exact h4) (by intro x hx; simp at hx; rcases hx with rfl|rfl|rfl <;> rfl) (by intro x hx k hk; simp at hx; rcases hx with rfl|rfl|rfl <;> simp [Item.fp] at hk <;> subst hk; exact .inl h5; exact .inl h6; exact .inl h7)⟩) ?_))
  rintro _ _ ⟨b,f,bd,rfl,rfl⟩
  refine KA (KC rfl) (Nb rfl) ?_
  refine KA (KW rfl rfl) (Nb rfl) ?_
  refine KA (KW rfl rfl) (Nb rfl) ?_
  refine KA (KF rfl) (Nb rfl) ?_
  refine KA (KF rfl) (Nb rfl) ?_
  refine KG ?_
  refine KE ?_
  refine KE (KB ?_)
  refine KA (KC rfl) (Nb rfl) ?_
  refine KA (KO (v:=.bool false) rfl rfl (br_f (br_neq (b:=0)) (fun e=>e rfl))) (Nb rfl) ?_
  refine KG ?_
  refine Kj rfl ?_
  refine Kh ?_
  refine KE (KB ?_)
  refine KA (KC rfl) (Nb rfl) ?_
  refine LOps.det (KJ rfl (by repeat (first|exact Mh _|apply Mt)) (by exact KK Try.underlying91 rfl sz_91)) (Nb rfl) ?_
  refine KI rfl (KS (KQ (first:=[]) rfl en_127 rfl (Nb rfl) (fun w hw=>c_PlainT V b f bd hok (T) (P) w (hw _ (by repeat (first|exact Mh _|apply Mt))) (hw _ (by repeat (first|exact Mh _|apply Mt))) (hw _ (by repeat (first|exact Mh _|apply Mt))) (hT)) ?_))
  refine KI rfl (KP rfl rfl sz_60 (by repeat (first|exact Km _|exact KAB _ _ _|exact Kn _|exact Kw _ _ _|exact Ky _ _ _|exact KX|refine KT rfl ?_|refine KZ ?_ ?_)) (by repeat (first|exact Sh _|apply St_)) (by first|exact KH _|exact KN _ _ _|exact KL _|exact KY _ _ _|exact Kd _ _ _|rfl|simp [KN,KH,KL]) ?_)
  refine KA (KF (v:=.int .i64 ((0:Nat):Int)) rfl) (Nb rfl) ?_
  refine KG (Ka ?_)
  refine ⟨[_,_],.cons ⟨_,_,_,rfl,(by repeat (first|exact Mh _|apply Mt)),by exact KK Try.underlying60 rfl sz_60⟩ (.cons rfl .nil),fun a w' hr=>⟨?_,hr.fr.below⟩⟩
  rfl
theorem c_projAdd_none (id:Int) (X Y Z X' Y' Z':Nat) (w:World) (h:cvI id = none):Calls Try.prog 82 ([.int .i64 id,pjV X Y Z,pjV X' Y' Z']:List Value).toArray w (fun e w'=>e = .returned (.tuple #[pjV 0 0 0,.int .i64 ((1500:Nat):Int)])∧Below w.heap.size w w'):=by
  refine KAC (N:=26) (rs:=[.cell 6 91,.tmp 7]) [] Try.func82 rfl Try.ntmps82 Try.results82 (Nb rfl) trivial rfl ?_
  show LCode _ _ _ ⟨_,_⟩ _
  refine KE (KB ?_)
  refine KI rfl (KS (KR (Kz rfl) (Nb rfl) (fun b4=>?_)))
  refine KI rfl (KS (KR (Kz rfl) (Nb rfl) (fun b5=>?_)))
  refine KI rfl (KS (KR (Kc zr_91) (Nb rfl) (fun b6=>?_)))
  refine KA (KF (v:=.int .i64 ((0:Nat):Int)) rfl) (Nb rfl) ?_
  refine KG ?_
  refine KE (KB ?_)
  refine KA (KC rfl) (Nb rfl) ?_
  refine LOps.det (KJ rfl (by repeat (first|exact Mh _|apply Mt)) (by exact KK Try.underlying91 rfl sz_91)) (Nb rfl) ?_
  refine LOps.det (KJ rfl (by repeat (first|exact Mh _|apply Mt)) (by exact KK Try.underlying91 rfl sz_91)) (Nb rfl) ?_
  refine KI rfl (KS (KR (Makes.row Try.underlying103 inf_pj (by decide) row_pj2 rfl (fill_tr2 _ _ _ _ _ _) (fun h=>by cases h)) (Nb rfl) (fun b14=>?_)))
  refine KI rfl (KS (KQ (first:=[]) rfl en_126 rfl (Nb rfl) (fun w hw=>c_popen_none id _ w h) ?_))
  refine KA (KC rfl) (Nb rfl) ?_
  refine KA (KW rfl rfl) (Nb rfl) ?_
  refine KA (KW rfl rfl) (Nb rfl) ?_
  refine KA (KF rfl) (Nb rfl) ?_
  refine KA (KF rfl) (Nb rfl) ?_
  refine KG ?_
  refine KE ?_
  refine KE (KB ?_)
  refine KA (KC rfl) (Nb rfl) ?_
  refine KA (KO (v:=.bool true) rfl rfl (br_t (br_neq (b:=0)) (by decide))) (Nb rfl) ?_
  refine KG ?_
  refine Ks rfl ?_
  refine KE (KB ?_)
  refine KA (KU (KAI pl_91 zr_91 rfl rfl) (show _ = pjV 0 0 0 from pj_zero)) (Nb rfl) ?_
  refine KA (KC rfl) (Nb rfl) ?_
  refine KI rfl (KP rfl rfl sz_91 (by repeat (first|exact Km _|exact KAB _ _ _|exact Kn _|exact Kw _ _ _|exact Ky _ _ _|exact KX|refine KT rfl ?_|refine KZ ?_ ?_)) (by repeat (first|exact Sh _|apply St_)) (by first|exact KH _|exact KN _ _ _|exact KL _|exact KY _ _ _|exact Kd _ _ _|rfl|simp [KN,KH,KL]) ?_)
  refine KA (KF rfl) (Nb rfl) ?_
  refine KG (Ka ?_)
  refine ⟨[_,_],.cons ⟨_,_,_,rfl,(by repeat (first|exact Mh _|apply Mt)),by exact KK Try.underlying91 rfl sz_91⟩ (.cons rfl .nil),fun a w' hr=>⟨?_,hr.fr.below⟩⟩
  rfl
theorem c_projAdd_bad (id:Int) (V:Cv) (X Y Z X' Y' Z':Nat) (w:World) (h:cvI id = some V) (hX:X<W9) (hY:Y<W9) (hZ:Z<W9) (hX':X' < W9) (hY':Y' < W9) (hZ':Z' < W9) (hn:¬ TrHas V X Y Z∨¬ TrHas V X' Y' Z'):Calls Try.prog 82 ([.int .i64 id,pjV X Y Z,pjV X' Y' Z']:List Value).toArray w (fun e w'=>e = .returned (.tuple #[pjV 0 0 0,.int .i64 ((1501:Nat):Int)])∧Below w.heap.size w w'):=by
  refine KAC (N:=26) (rs:=[.cell 6 91,.tmp 7]) [] Try.func82 rfl Try.ntmps82 Try.results82 (Nb rfl) trivial rfl ?_
  show LCode _ _ _ ⟨_,_⟩ _
  refine KE (KB ?_)
  refine KI rfl (KS (KR (Kz rfl) (Nb rfl) (fun b4=>?_)))
  refine KI rfl (KS (KR (Kz rfl) (Nb rfl) (fun b5=>?_)))
  refine KI rfl (KS (KR (Kc zr_91) (Nb rfl) (fun b6=>?_)))
  refine KA (KF (v:=.int .i64 ((0:Nat):Int)) rfl) (Nb rfl) ?_
  refine KG ?_
  refine KE (KB ?_)
  refine KA (KC rfl) (Nb rfl) ?_
  refine LOps.det (KJ rfl (by repeat (first|exact Mh _|apply Mt)) (by exact KK Try.underlying91 rfl sz_91)) (Nb rfl) ?_
  refine LOps.det (KJ rfl (by repeat (first|exact Mh _|apply Mt)) (by exact KK Try.underlying91 rfl sz_91)) (Nb rfl) ?_
  refine KI rfl (KS (KR (Makes.row Try.underlying103 inf_pj (by decide) row_pj2 rfl (fill_tr2 _ _ _ _ _ _) (fun h=>by cases h)) (Nb rfl) (fun b14=>?_)))
  refine KI rfl (KS (KQ (first:=[]) rfl en_126 rfl (Nb rfl) (fun w hw=>c_popen_bad id V [(X,Y,Z),(X',Y',Z')] b14 w h (show (Item.blk b14 ⟨true,_,_,_⟩).holds w from hw _ (by repeat (first|exact Mh _|apply Mt))) (show 2<1000 by decide) (by intro t ht; simp at ht; rcases ht with rfl|rfl; exact ⟨hX,hY,hZ⟩; exact ⟨hX',hY',hZ'⟩) (hn.elim (fun hn=>⟨_,.head _,hn⟩) (fun hn=>⟨_,.tail _ (.head _),hn⟩))) ?_))
  refine KA (KC rfl) (Nb rfl) ?_
  refine KA (KW rfl rfl) (Nb rfl) ?_
  refine KA (KW rfl rfl) (Nb rfl) ?_
  refine KA (KF rfl) (Nb rfl) ?_
  refine KA (KF rfl) (Nb rfl) ?_
  refine KG ?_
  refine KE ?_
  refine KE (KB ?_)
  refine KA (KC rfl) (Nb rfl) ?_
  refine KA (KO (v:=.bool true) rfl rfl (br_t (br_neq (b:=0)) (by decide))) (Nb rfl) ?_
  refine KG ?_
  refine Ks rfl ?_
  refine KE (KB ?_)
  refine KA (KU (KAI pl_91 zr_91 rfl rfl) (show _ = pjV 0 0 0 from pj_zero)) (Nb rfl) ?_
  refine KA (KC rfl) (Nb rfl) ?_
  refine KI rfl (KP rfl rfl sz_91 (by repeat (first|exact Km _|exact KAB _ _ _|exact Kn _|exact Kw _ _ _|exact Ky _ _ _|exact KX|refine KT rfl ?_|refine KZ ?_ ?_)) (by repeat (first|exact Sh _|apply St_)) (by first|exact KH _|exact KN _ _ _|exact KL _|exact KY _ _ _|exact Kd _ _ _|rfl|simp [KN,KH,KL]) ?_)
  refine KA (KF rfl) (Nb rfl) ?_
  refine KG (Ka ?_)
  refine ⟨[_,_],.cons ⟨_,_,_,rfl,(by repeat (first|exact Mh _|apply Mt)),by exact KK Try.underlying91 rfl sz_91⟩ (.cons rfl .nil),fun a w' hr=>⟨?_,hr.fr.below⟩⟩
  rfl
theorem c_projAdd (id:Int) (V:Cv) (T U:Fin V.p×Fin V.p×Fin V.p) (P R:Pt V.p) (w:World) (h:cvI id = some V) (hT:RepT V T P) (hU:RepT V U R):Calls Try.prog 82 ([.int .i64 id,pjF T,pjF U]:List Value).toArray w (fun e w'=>e = .returned (.tuple #[pjF (sumT V T U),.int .i64 ((0:Nat):Int)])∧Below w.heap.size w w'):=by
  obtain ⟨hok,hid⟩:=cvI_ok h
  have hbb:=hok.bounds
  have hpW:V.p<W9:=w9_521 hbb.2.1
  have hnW:V.n<W9:=w9_521 hbb.2.2.2.2.2.2.1
  have hbl:=blen_w9 hnW
  have hnb:nby V.n≤72:=by (unfold nby; omega)
  refine KAC (N:=26) (rs:=[.cell 6 91,.tmp 7]) [] Try.func82 rfl Try.ntmps82 Try.results82 (Nb rfl) trivial rfl ?_
  show LCode _ _ _ ⟨_,_⟩ _
  refine KE (KB ?_)
  refine KI rfl (KS (KR (Kz rfl) (Nb rfl) (fun b4=>?_)))
  refine KI rfl (KS (KR (Kz rfl) (Nb rfl) (fun b5=>?_)))
  refine KI rfl (KS (KR (Kc zr_91) (Nb rfl) (fun b6=>?_)))
  refine KA (KF (v:=.int .i64 ((0:Nat):Int)) rfl) (Nb rfl) ?_
  refine KG ?_
  refine KE (KB ?_)
  refine KA (KC rfl) (Nb rfl) ?_
  refine LOps.det (KJ rfl (by repeat (first|exact Mh _|apply Mt)) (by exact KK Try.underlying91 rfl sz_91)) (Nb rfl) ?_
  refine LOps.det (KJ rfl (by repeat (first|exact Mh _|apply Mt)) (by exact KK Try.underlying91 rfl sz_91)) (Nb rfl) ?_
  refine KI rfl (KS (KR (Makes.row Try.underlying103 inf_pj (by decide) row_pj2 rfl (fill_tr2 _ _ _ _ _ _) (fun h=>by cases h)) (Nb rfl) (fun b14=>?_)))
  refine KI rfl (KS (Kp (Post:=fun v its=>∃ b f bd,v = .tuple #[.pointer (some ⟨b,0,none⟩),.int .i64 ((0:Nat):Int)]∧its = [.blk b ⟨false,opL V f,147,(0,0)⟩,.blk f ⟨false,fldL V.p bd,194,(0,0)⟩,.blk bd ⟨false,dvL V.p,241,(0,0)⟩]) (first:=[]) rfl en_126 rfl (Nb rfl) (fun w hw hs=>(c_popen id V [(T.1.val,T.2.1.val,T.2.2.val),(U.1.val,U.2.1.val,U.2.2.val)] b14 w h (show (Item.blk b14 ⟨true,_,_,_⟩).holds w from hw _ (by repeat (first|exact Mh _|apply Mt))) (show 2<1000 by decide) (by intro t ht; simp at ht; rcases ht with rfl|rfl; exact ⟨Nat.lt_trans T.1.isLt hpW,Nat.lt_trans T.2.1.isLt hpW,Nat.lt_trans T.2.2.isLt hpW⟩; exact ⟨Nat.lt_trans U.1.isLt hpW,Nat.lt_trans U.2.1.isLt hpW,Nat.lt_trans U.2.2.isLt hpW⟩) (by intro t ht; simp at ht; rcases ht with rfl|rfl; exact hT.has; exact hU.has)).mono fun e w' ⟨b,f,bd,h1,h2,h3,h4,h5,h6,h7,h8⟩=>⟨_,_,⟨b,f,bd,rfl,rfl⟩,h1,KAd h8 (by intro x hx; simp at hx; rcases hx with rfl|rfl|rfl; exact h2; exact h3; exact h4) (by intro x hx; simp at hx; rcases hx with rfl|rfl|rfl <;> rfl) (by intro x hx k hk; simp at hx; rcases hx with rfl|rfl|rfl <;> simp [Item.fp] at hk <;> subst hk; exact .inl h5; exact .inl h6; exact .inl h7)⟩) ?_))
  rintro _ _ ⟨b,f,bd,rfl,rfl⟩
  refine KA (KC rfl) (Nb rfl) ?_
  refine KA (KW rfl rfl) (Nb rfl) ?_
  refine KA (KW rfl rfl) (Nb rfl) ?_
  refine KA (KF rfl) (Nb rfl) ?_
  refine KA (KF rfl) (Nb rfl) ?_
  refine KG ?_
  refine KE ?_
  refine KE (KB ?_)
  refine KA (KC rfl) (Nb rfl) ?_
  refine KA (KO (v:=.bool false) rfl rfl (br_f (br_neq (b:=0)) (fun e=>e rfl))) (Nb rfl) ?_
  refine KG ?_
  refine Kj rfl ?_
  refine Kh ?_
  refine KE (KB ?_)
  refine KA (KC rfl) (Nb rfl) ?_
  refine LOps.det (KJ rfl (by repeat (first|exact Mh _|apply Mt)) (by exact KK Try.underlying91 rfl sz_91)) (Nb rfl) ?_
  refine LOps.det (KJ rfl (by repeat (first|exact Mh _|apply Mt)) (by exact KK Try.underlying91 rfl sz_91)) (Nb rfl) ?_
  refine KI rfl (KS (KQ (first:=[]) rfl en_128 rfl (Nb rfl) (fun w hw=>c_SumT V b f bd hok (T) (U) w (hw _ (by repeat (first|exact Mh _|apply Mt))) (hw _ (by repeat (first|exact Mh _|apply Mt))) (hw _ (by repeat (first|exact Mh _|apply Mt)))) ?_))
  refine KI rfl (KP rfl rfl sz_91 (by repeat (first|exact Km _|exact KAB _ _ _|exact Kn _|exact Kw _ _ _|exact Ky _ _ _|exact KX|refine KT rfl ?_|refine KZ ?_ ?_)) (by repeat (first|exact Sh _|apply St_)) (by first|exact KH _|exact KN _ _ _|exact KL _|exact KY _ _ _|exact Kd _ _ _|rfl|simp [KN,KH,KL]) ?_)
  refine KA (KF (v:=.int .i64 ((0:Nat):Int)) rfl) (Nb rfl) ?_
  refine KG (Ka ?_)
  refine ⟨[_,_],.cons ⟨_,_,_,rfl,(by repeat (first|exact Mh _|apply Mt)),by exact KK Try.underlying91 rfl sz_91⟩ (.cons rfl .nil),fun a w' hr=>⟨?_,hr.fr.below⟩⟩
  rfl
theorem c_projDouble_none (id:Int) (X Y Z:Nat) (w:World) (h:cvI id = none):Calls Try.prog 83 ([.int .i64 id,pjV X Y Z]:List Value).toArray w (fun e w'=>e = .returned (.tuple #[pjV 0 0 0,.int .i64 ((1500:Nat):Int)])∧Below w.heap.size w w'):=by
  refine KAC (N:=12) (rs:=[.cell 4 91,.tmp 5]) [] Try.func83 rfl Try.ntmps83 Try.results83 (Nb rfl) trivial rfl ?_
  show LCode _ _ _ ⟨_,_⟩ _
  refine KE (KB ?_)
  refine KI rfl (KS (KR (Kz rfl) (Nb rfl) (fun b3=>?_)))
  refine KI rfl (KS (KR (Kc zr_91) (Nb rfl) (fun b4=>?_)))
  refine KA (KF (v:=.int .i64 ((0:Nat):Int)) rfl) (Nb rfl) ?_
  refine KG ?_
  refine KE (KB ?_)
  refine KA (KC rfl) (Nb rfl) ?_
  refine LOps.det (KJ rfl (by repeat (first|exact Mh _|apply Mt)) (by exact KK Try.underlying91 rfl sz_91)) (Nb rfl) ?_
  refine LOps.det (KJ rfl (by repeat (first|exact Mh _|apply Mt)) (by exact KK Try.underlying91 rfl sz_91)) (Nb rfl) ?_
  refine KI rfl (KS (KQ (first:=[]) rfl en_82 rfl (Nb rfl) (fun w hw=>c_projAdd_none id X Y Z X Y Z w h) ?_))
  refine KA (KW rfl rfl) (Nb rfl) ?_
  refine KA (KW rfl rfl) (Nb rfl) ?_
  refine KI rfl (KP rfl rfl sz_91 (by repeat (first|exact Km _|exact KAB _ _ _|exact Kn _|exact Kw _ _ _|exact Ky _ _ _|exact KX|refine KT rfl ?_|refine KZ ?_ ?_)) (by repeat (first|exact Sh _|apply St_)) (by first|exact KH _|exact KN _ _ _|exact KL _|exact KY _ _ _|exact Kd _ _ _|rfl|simp [KN,KH,KL]) ?_)
  refine KA (KF rfl) (Nb rfl) ?_
  refine KG (Ka ?_)
  refine ⟨[_,_],.cons ⟨_,_,_,rfl,(by repeat (first|exact Mh _|apply Mt)),by exact KK Try.underlying91 rfl sz_91⟩ (.cons rfl .nil),fun a w' hr=>⟨?_,hr.fr.below⟩⟩
  rfl
theorem c_projDouble_bad (id:Int) (V:Cv) (X Y Z:Nat) (w:World) (h:cvI id = some V) (hX:X<W9) (hY:Y<W9) (hZ:Z<W9) (hn:¬ TrHas V X Y Z):Calls Try.prog 83 ([.int .i64 id,pjV X Y Z]:List Value).toArray w (fun e w'=>e = .returned (.tuple #[pjV 0 0 0,.int .i64 ((1501:Nat):Int)])∧Below w.heap.size w w'):=by
  refine KAC (N:=12) (rs:=[.cell 4 91,.tmp 5]) [] Try.func83 rfl Try.ntmps83 Try.results83 (Nb rfl) trivial rfl ?_
  show LCode _ _ _ ⟨_,_⟩ _
  refine KE (KB ?_)
  refine KI rfl (KS (KR (Kz rfl) (Nb rfl) (fun b3=>?_)))
  refine KI rfl (KS (KR (Kc zr_91) (Nb rfl) (fun b4=>?_)))
  refine KA (KF (v:=.int .i64 ((0:Nat):Int)) rfl) (Nb rfl) ?_
  refine KG ?_
  refine KE (KB ?_)
  refine KA (KC rfl) (Nb rfl) ?_
  refine LOps.det (KJ rfl (by repeat (first|exact Mh _|apply Mt)) (by exact KK Try.underlying91 rfl sz_91)) (Nb rfl) ?_
  refine LOps.det (KJ rfl (by repeat (first|exact Mh _|apply Mt)) (by exact KK Try.underlying91 rfl sz_91)) (Nb rfl) ?_
  refine KI rfl (KS (KQ (first:=[]) rfl en_82 rfl (Nb rfl) (fun w hw=>c_projAdd_bad id V X Y Z X Y Z w h hX hY hZ hX hY hZ (.inl hn)) ?_))
  refine KA (KW rfl rfl) (Nb rfl) ?_
  refine KA (KW rfl rfl) (Nb rfl) ?_
  refine KI rfl (KP rfl rfl sz_91 (by repeat (first|exact Km _|exact KAB _ _ _|exact Kn _|exact Kw _ _ _|exact Ky _ _ _|exact KX|refine KT rfl ?_|refine KZ ?_ ?_)) (by repeat (first|exact Sh _|apply St_)) (by first|exact KH _|exact KN _ _ _|exact KL _|exact KY _ _ _|exact Kd _ _ _|rfl|simp [KN,KH,KL]) ?_)
  refine KA (KF rfl) (Nb rfl) ?_
  refine KG (Ka ?_)
  refine ⟨[_,_],.cons ⟨_,_,_,rfl,(by repeat (first|exact Mh _|apply Mt)),by exact KK Try.underlying91 rfl sz_91⟩ (.cons rfl .nil),fun a w' hr=>⟨?_,hr.fr.below⟩⟩
  rfl
theorem c_projDouble (id:Int) (V:Cv) (T:Fin V.p×Fin V.p×Fin V.p) (P:Pt V.p) (w:World) (h:cvI id = some V) (hT:RepT V T P):Calls Try.prog 83 ([.int .i64 id,pjF T]:List Value).toArray w (fun e w'=>e = .returned (.tuple #[pjF (sumT V T T),.int .i64 ((0:Nat):Int)])∧Below w.heap.size w w'):=by
  refine KAC (N:=12) (rs:=[.cell 4 91,.tmp 5]) [] Try.func83 rfl Try.ntmps83 Try.results83 (Nb rfl) trivial rfl ?_
  show LCode _ _ _ ⟨_,_⟩ _
  refine KE (KB ?_)
  refine KI rfl (KS (KR (Kz rfl) (Nb rfl) (fun b3=>?_)))
  refine KI rfl (KS (KR (Kc zr_91) (Nb rfl) (fun b4=>?_)))
  refine KA (KF (v:=.int .i64 ((0:Nat):Int)) rfl) (Nb rfl) ?_
  refine KG ?_
  refine KE (KB ?_)
  refine KA (KC rfl) (Nb rfl) ?_
  refine LOps.det (KJ rfl (by repeat (first|exact Mh _|apply Mt)) (by exact KK Try.underlying91 rfl sz_91)) (Nb rfl) ?_
  refine LOps.det (KJ rfl (by repeat (first|exact Mh _|apply Mt)) (by exact KK Try.underlying91 rfl sz_91)) (Nb rfl) ?_
  refine KI rfl (KS (KQ (first:=[]) rfl en_82 rfl (Nb rfl) (fun w hw=>c_projAdd id V T T P P w h hT hT) ?_))
  refine KA (KW rfl rfl) (Nb rfl) ?_
  refine KA (KW rfl rfl) (Nb rfl) ?_
  refine KI rfl (KP rfl rfl sz_91 (by repeat (first|exact Km _|exact KAB _ _ _|exact Kn _|exact Kw _ _ _|exact Ky _ _ _|exact KX|refine KT rfl ?_|refine KZ ?_ ?_)) (by repeat (first|exact Sh _|apply St_)) (by first|exact KH _|exact KN _ _ _|exact KL _|exact KY _ _ _|exact Kd _ _ _|rfl|simp [KN,KH,KL]) ?_)
  refine KA (KF rfl) (Nb rfl) ?_
  refine KG (Ka ?_)
  refine ⟨[_,_],.cons ⟨_,_,_,rfl,(by repeat (first|exact Mh _|apply Mt)),by exact KK Try.underlying91 rfl sz_91⟩ (.cons rfl .nil),fun a w' hr=>⟨?_,hr.fr.below⟩⟩
  rfl
theorem c_projFrom_none (id:Int) (X Y:Nat) (i:Bool) (w:World) (h:cvI id = none):Calls Try.prog 86 ([.int .i64 id,ptV X Y i]:List Value).toArray w (fun e w'=>e = .returned (.tuple #[pjV 0 0 0,.int .i64 ((1500:Nat):Int)])∧Below w.heap.size w w'):=by
  refine KAC (N:=26) (rs:=[.cell 4 91,.tmp 5]) [] Try.func86 rfl Try.ntmps86 Try.results86 (Nb rfl) trivial rfl ?_
  show LCode _ _ _ ⟨_,_⟩ _
  refine KE (KB ?_)
  refine KI rfl (KS (KR (Kz rfl) (Nb rfl) (fun b3=>?_)))
  refine KI rfl (KS (KR (Kc zr_91) (Nb rfl) (fun b4=>?_)))
  refine KA (KF (v:=.int .i64 ((0:Nat):Int)) rfl) (Nb rfl) ?_
  refine KG ?_
  refine KE (KB ?_)
  refine KA (KC rfl) (Nb rfl) ?_
  refine KI rfl (KS (KQ (first:=[]) rfl en_126 rfl (Nb rfl) (fun w hw=>c_popen_none id _ w h) ?_))
  refine KA (KC rfl) (Nb rfl) ?_
  refine KA (KW rfl rfl) (Nb rfl) ?_
  refine KA (KW rfl rfl) (Nb rfl) ?_
  refine KA (KF rfl) (Nb rfl) ?_
  refine KA (KF rfl) (Nb rfl) ?_
  refine KG ?_
  refine KE ?_
  refine LCode.block ?_
  refine KE (KB ?_)
  refine KA (KC rfl) (Nb rfl) ?_
  refine KA (KO (v:=.bool true) rfl rfl (br_t (br_neq (b:=0)) (by decide))) (Nb rfl) ?_
  refine KA (KF rfl) (Nb rfl) ?_
  refine KG ?_
  refine Ks rfl ?_
  refine KE (KB ?_)
  refine KA (KU (KAI pl_91 zr_91 rfl rfl) (show _ = pjV 0 0 0 from pj_zero)) (Nb rfl) ?_
  refine KA (KC rfl) (Nb rfl) ?_
  refine KI rfl (KP rfl rfl sz_91 (by repeat (first|exact Km _|exact KAB _ _ _|exact Kn _|exact Kw _ _ _|exact Ky _ _ _|exact KX|refine KT rfl ?_|refine KZ ?_ ?_)) (by repeat (first|exact Sh _|apply St_)) (by first|exact KH _|exact KN _ _ _|exact KL _|exact KY _ _ _|exact Kd _ _ _|rfl|simp [KN,KH,KL]) ?_)
  refine KA (KF rfl) (Nb rfl) ?_
  refine KG (Ka ?_)
  refine ⟨[_,_],.cons ⟨_,_,_,rfl,(by repeat (first|exact Mh _|apply Mt)),by exact KK Try.underlying91 rfl sz_91⟩ (.cons rfl .nil),fun a w' hr=>⟨?_,hr.fr.below⟩⟩
  rfl
theorem c_projFrom_off (id:Int) (V:Cv) (X Y:Nat) (i:Bool) (w:World) (h:cvI id = some V) (hX:X<W9) (hY:Y<W9) (ho:onB V.p V.a V.b X Y i = false):Calls Try.prog 86 ([.int .i64 id,ptV X Y i]:List Value).toArray w (fun e w'=>e = .returned (.tuple #[pjV 0 0 0,.int .i64 ((1501:Nat):Int)])∧Below w.heap.size w w'):=by
  obtain ⟨hok,hid⟩:=cvI_ok h
  have hbb:=hok.bounds
  have hpW:V.p<W9:=w9_521 hbb.2.1
  have hnW:V.n<W9:=w9_521 hbb.2.2.2.2.2.2.1
  have hbl:=blen_w9 hnW
  have hnb:nby V.n≤72:=by (unfold nby; omega)
  refine KAC (N:=26) (rs:=[.cell 4 91,.tmp 5]) [] Try.func86 rfl Try.ntmps86 Try.results86 (Nb rfl) trivial rfl ?_
  show LCode _ _ _ ⟨_,_⟩ _
  refine KE (KB ?_)
  refine KI rfl (KS (KR (Kz rfl) (Nb rfl) (fun b3=>?_)))
  refine KI rfl (KS (KR (Kc zr_91) (Nb rfl) (fun b4=>?_)))
  refine KA (KF (v:=.int .i64 ((0:Nat):Int)) rfl) (Nb rfl) ?_
  refine KG ?_
  refine KE (KB ?_)
  refine KA (KC rfl) (Nb rfl) ?_
  refine KI rfl (KS (Kp (Post:=fun v its=>∃ b f bd,v = .tuple #[.pointer (some ⟨b,0,none⟩),.int .i64 ((0:Nat):Int)]∧its = [.blk b ⟨false,opL V f,147,(0,0)⟩,.blk f ⟨false,fldL V.p bd,194,(0,0)⟩,.blk bd ⟨false,dvL V.p,241,(0,0)⟩]) (first:=[]) rfl en_126 rfl (Nb rfl) (fun w hw hs=>(c_popen0 id V w h).mono fun e w' ⟨b,f,bd,h1,h2,h3,h4,h5,h6,h7,h8⟩=>⟨_,_,⟨b,f,bd,rfl,rfl⟩,h1,KAd h8 (by intro x hx; simp at hx; rcases hx with rfl|rfl|rfl; exact h2; exact h3; exact h4) (by intro x hx; simp at hx; rcases hx with rfl|rfl|rfl <;> rfl) (by intro x hx k hk; simp at hx; rcases hx with rfl|rfl|rfl <;> simp [Item.fp] at hk <;> subst hk; exact .inl h5; exact .inl h6; exact .inl h7)⟩) ?_))
  rintro _ _ ⟨b,f,bd,rfl,rfl⟩
  refine KA (KC rfl) (Nb rfl) ?_
  refine KA (KW rfl rfl) (Nb rfl) ?_
  refine KA (KW rfl rfl) (Nb rfl) ?_
  refine KA (KF rfl) (Nb rfl) ?_
  refine KA (KF rfl) (Nb rfl) ?_
  refine KG ?_
  refine KE ?_
  refine LCode.block ?_
  refine KE (KB ?_)
  refine KA (KC rfl) (Nb rfl) ?_
  refine KA (KO (v:=.bool false) rfl rfl (br_f (br_neq (b:=0)) (fun e=>e rfl))) (Nb rfl) ?_
  refine KA (KF rfl) (Nb rfl) ?_
  refine KG ?_
  refine Kj rfl ?_
  refine KE (KB ?_)
  refine KA (KC rfl) (Nb rfl) ?_
  refine LOps.det (KJ rfl (by repeat (first|exact Mh _|apply Mt)) (by exact KK Try.underlying60 rfl sz_60)) (Nb rfl) ?_
  refine KI rfl (KS (KQ (first:=[]) rfl en_122 rfl (Nb rfl) (fun w hw=>c_cOnB V b f bd hok (X) (Y) (i) false w (hw _ (by repeat (first|exact Mh _|apply Mt))) (hw _ (by repeat (first|exact Mh _|apply Mt))) (hw _ (by repeat (first|exact Mh _|apply Mt))) hX hY ho) ?_))
  refine KA (KU (KAc rfl) (show _ = Value.bool true from rfl)) (Nb rfl) ?_
  refine KA (KF rfl) (Nb rfl) ?_
  refine KG ?_
  refine Ks rfl ?_
  refine KE (KB ?_)
  refine KA (KU (KAI pl_91 zr_91 rfl rfl) (show _ = pjV 0 0 0 from pj_zero)) (Nb rfl) ?_
  refine KI rfl (KP rfl rfl sz_91 (by repeat (first|exact Km _|exact KAB _ _ _|exact Kn _|exact Kw _ _ _|exact Ky _ _ _|exact KX|refine KT rfl ?_|refine KZ ?_ ?_)) (by repeat (first|exact Sh _|apply St_)) (by first|exact KH _|exact KN _ _ _|exact KL _|exact KY _ _ _|exact Kd _ _ _|rfl|simp [KN,KH,KL]) ?_)
  refine KA (KF (v:=.int .i64 ((1501:Nat):Int)) rfl) (Nb rfl) ?_
  refine KG (Ka ?_)
  refine ⟨[_,_],.cons ⟨_,_,_,rfl,(by repeat (first|exact Mh _|apply Mt)),by exact KK Try.underlying91 rfl sz_91⟩ (.cons rfl .nil),fun a w' hr=>⟨?_,hr.fr.below⟩⟩
  rfl
theorem c_projFrom (id:Int) (V:Cv) (P:Pt V.p) (w:World) (h:cvI id = some V) (hP:On V.A V.B P):Calls Try.prog 86 ([.int .i64 id,ptP P]:List Value).toArray w (fun e w'=>e = .returned (.tuple #[pjF (tripF P),.int .i64 ((0:Nat):Int)])∧Below w.heap.size w w'):=by
  obtain ⟨hok,hid⟩:=cvI_ok h
  have hbb:=hok.bounds
  have hpW:V.p<W9:=w9_521 hbb.2.1
  have hnW:V.n<W9:=w9_521 hbb.2.2.2.2.2.2.1
  have hbl:=blen_w9 hnW
  have hnb:nby V.n≤72:=by (unfold nby; omega)
  refine KAC (N:=26) (rs:=[.cell 4 91,.tmp 5]) [] Try.func86 rfl Try.ntmps86 Try.results86 (Nb rfl) trivial rfl ?_
  show LCode _ _ _ ⟨_,_⟩ _
  refine KE (KB ?_)
  refine KI rfl (KS (KR (Kz rfl) (Nb rfl) (fun b3=>?_)))
  refine KI rfl (KS (KR (Kc zr_91) (Nb rfl) (fun b4=>?_)))
  refine KA (KF (v:=.int .i64 ((0:Nat):Int)) rfl) (Nb rfl) ?_
  refine KG ?_
  refine KE (KB ?_)
  refine KA (KC rfl) (Nb rfl) ?_
  refine KI rfl (KS (Kp (Post:=fun v its=>∃ b f bd,v = .tuple #[.pointer (some ⟨b,0,none⟩),.int .i64 ((0:Nat):Int)]∧its = [.blk b ⟨false,opL V f,147,(0,0)⟩,.blk f ⟨false,fldL V.p bd,194,(0,0)⟩,.blk bd ⟨false,dvL V.p,241,(0,0)⟩]) (first:=[]) rfl en_126 rfl (Nb rfl) (fun w hw hs=>(c_popen0 id V w h).mono fun e w' ⟨b,f,bd,h1,h2,h3,h4,h5,h6,h7,h8⟩=>⟨_,_,⟨b,f,bd,rfl,rfl⟩,h1,KAd h8 (by intro x hx; simp at hx; rcases hx with rfl|rfl|rfl; exact h2; exact h3; exact h4) (by intro x hx; simp at hx; rcases hx with rfl|rfl|rfl <;> rfl) (by intro x hx k hk; simp at hx; rcases hx with rfl|rfl|rfl <;> simp [Item.fp] at hk <;> subst hk; exact .inl h5; exact .inl h6; exact .inl h7)⟩) ?_))
  rintro _ _ ⟨b,f,bd,rfl,rfl⟩
  refine KA (KC rfl) (Nb rfl) ?_
  refine KA (KW rfl rfl) (Nb rfl) ?_
  refine KA (KW rfl rfl) (Nb rfl) ?_
  refine KA (KF rfl) (Nb rfl) ?_
  refine KA (KF rfl) (Nb rfl) ?_
  refine KG ?_
  refine KE ?_
  refine LCode.block ?_
  refine KE (KB ?_)
  refine KA (KC rfl) (Nb rfl) ?_
  refine KA (KO (v:=.bool false) rfl rfl (br_f (br_neq (b:=0)) (fun e=>e rfl))) (Nb rfl) ?_
  refine KA (KF rfl) (Nb rfl) ?_
  refine KG ?_
  refine Kj rfl ?_
  refine KE (KB ?_)
  refine KA (KC rfl) (Nb rfl) ?_
  refine LOps.det (KJ rfl (by repeat (first|exact Mh _|apply Mt)) (by exact KK Try.underlying60 rfl sz_60)) (Nb rfl) ?_
  refine KI rfl (KS (KQ (first:=[]) rfl en_122 rfl (Nb rfl) (fun w hw=>c_cOnP V b f bd hok (P) w (hw _ (by repeat (first|exact Mh _|apply Mt))) (hw _ (by repeat (first|exact Mh _|apply Mt))) (hw _ (by repeat (first|exact Mh _|apply Mt))) hP) ?_))
  refine KA (KU (KAc rfl) (show _ = Value.bool false from rfl)) (Nb rfl) ?_
  refine KA (KF rfl) (Nb rfl) ?_
  refine KG ?_
  refine Kj rfl ?_
  refine Kh ?_
  refine KE (KB ?_)
  refine LOps.det (KJ rfl (by repeat (first|exact Mh _|apply Mt)) (by exact KK Try.underlying60 rfl sz_60)) (Nb rfl) ?_
  refine KI rfl (KS (KQ (first:=[]) rfl en_129 rfl (Nb rfl) (fun w hw=>c_Triple V hok P w) ?_))
  refine KI rfl (KP rfl rfl sz_91 (by repeat (first|exact Km _|exact KAB _ _ _|exact Kn _|exact Kw _ _ _|exact Ky _ _ _|exact KX|refine KT rfl ?_|refine KZ ?_ ?_)) (by repeat (first|exact Sh _|apply St_)) (by first|exact KH _|exact KN _ _ _|exact KL _|exact KY _ _ _|exact Kd _ _ _|rfl|simp [KN,KH,KL]) ?_)
  refine KA (KF (v:=.int .i64 ((0:Nat):Int)) rfl) (Nb rfl) ?_
  refine KG (Ka ?_)
  refine ⟨[_,_],.cons ⟨_,_,_,rfl,(by repeat (first|exact Mh _|apply Mt)),by exact KK Try.underlying91 rfl sz_91⟩ (.cons rfl .nil),fun a w' hr=>⟨?_,hr.fr.below⟩⟩
  rfl
end Go.Proofs.Ytljblbgogjieaaa
set_option linter.unusedVariables false
set_option linter.unusedSimpArgs false
set_option maxRecDepth 20000
namespace Go.Proofs.Ytljblbgogjieaaa
open Go Go.RowKit
open Grp
theorem c_r_GP (Q:CQ) (V:Cv) (w:World) (hc:(crvI Q V).holds w) (hok:V.Ok):Calls Try.prog 80 ([.agg (crvL Q V).toArray]:List Value).toArray w (fun e w'=>Num2R w (crvI Q V).fp (xv V.G) (yv V.G) (fun u v=>rpV u v (iv V.G)) e w'):=by
  rw [xG hok,yG hok]
  exact c_r_G Q V w hc
theorem c_r_OnB (Q:CQ) (V:Cv) (q r:NV) (X Y:Nat) (i b:Bool) (w:World) (hc:(crvI Q V).holds w) (hok:V.Ok) (hq:(numT q X).holds w) (hr:(numT r Y).holds w) (hX:D.nw X≤1000) (hY:D.nw Y≤1000) (hb:onB V.p V.a V.b X Y i = b):Calls Try.prog 62 ([.agg (crvL Q V).toArray,rpV (numV q X) (numV r Y) i]:List Value).toArray w (fun e w'=>e = .returned (.bool b)∧Below w.heap.size w w'):=by
  have:=c_r_On Q V q r X Y i w hc hok hq hr hX hY
  rwa [hb] at this
theorem c_r_OnP (Q:CQ) (V:Cv) (q r:NV) (P:Pt V.p) (w:World) (hc:(crvI Q V).holds w) (hok:V.Ok) (hq:(numT q (xv P)).holds w) (hr:(numT r (yv P)).holds w) (hP:On V.A V.B P):Calls Try.prog 62 ([.agg (crvL Q V).toArray,rpV (numV q (xv P)) (numV r (yv P)) (iv P)]:List Value).toArray w (fun e w'=>e = .returned (.bool true)∧Below w.heap.size w w') :=
  c_r_OnB Q V q r _ _ _ true w hc hok hq hr (Nat.le_trans (nw_521 (Nat.lt_trans (xv_lt P) hok.bounds.2.1)) (by decide)) (Nat.le_trans (nw_521 (Nat.lt_trans (yv_lt P) hok.bounds.2.1)) (by decide)) (onB_on hP)
theorem c_r_OutP (V:Cv) (q r:NV) (P:Pt V.p) (w:World) (hq:(numT q (xv P)).holds w) (hr:(numT r (yv P)).holds w):Calls Try.prog 66 ([rpV (numV q (xv P)) (numV r (yv P)) (iv P)]:List Value).toArray w (fun e w'=>e = .returned (ptP P)∧Below w.heap.size w w'):=c_r_Out q r (xv P) (yv P) (iv P) w hq hr
theorem c_r_InP (V:Cv) (hok:V.Ok) (P:Pt V.p) (w:World):Calls Try.prog 63 ([ptP P]:List Value).toArray w (fun e w'=>Num2R w [] (xv P) (yv P) (fun u v=>rpV u v (iv P)) e w'):=c_r_In (xv P) (yv P) (iv P) w (pt_w9 hok P).1 (pt_w9 hok P).2
end Go.Proofs.Ytljblbgogjieaaa
set_option linter.unusedVariables false
set_option linter.unusedSimpArgs false
set_option maxRecDepth 20000
namespace Go.Proofs.Ytljblbgogjieaaa
open Go Go.RowKit
open Grp
theorem no_zero (V:Cv):¬ TrHas V 0 0 0:=fun ⟨T,h1,h2,h3,h4⟩=>h4.1 ⟨Fin.ext h1,Fin.ext h2,Fin.ext h3⟩
theorem c_awake15  (w:World)  : Calls Try.prog 84 ([]:List Value).toArray w (fun e w'=>e = .returned (.bool true)∧Below w.heap.size w w'):=by
  obtain ⟨V,hV⟩:∃ V,V = cv13:=⟨_,rfl⟩
  have h:cvI 13 = some V:=by rw [hV]; rfl
  obtain ⟨hok,hid⟩:=cvI_ok h
  have hn13:V.n = 223:=by rw [hV]; rfl
  obtain ⟨hb5,hb521,hba,hbb,hbx,hby,hbn,hbo,hbo2,hbb1,hbn1⟩:=hok.bounds
  have hsz:=hok.sz
  have hsp:=hsz.p
  have hsa:=hsz.a
  have hsb:=hsz.b
  have hp0:V.p≠0:=by omega
  have hpp:0<V.p:=by omega
  have hm17:∀ k,D.nw (k%V.p)≤17:=fun k=>Nat.le_trans (D.nw_mono (Nat.le_of_lt (Nat.mod_lt k hpp))) hsp
  refine KAC (N:=92) (rs:=[.tmp 0]) [] Try.func84 rfl Try.ntmps84 Try.results84 (Nb rfl) trivial rfl ?_
  show LCode _ _ _ ⟨_,_⟩ _
  refine KE (KB ?_)
  refine KA (KF rfl) (Nb rfl) ?_
  refine KG ?_
  refine KE (KB ?_)
  refine KI rfl (KS (Kp (Post:=fun v its=>∃ Q,v = .tuple #[.agg (crvL Q V).toArray,.bool true]∧its = [crvI Q V]) (first:=[]) rfl en_43 rfl (Nb rfl) (fun w1 hw hs=>(c_r_Get _ V w1 h).mono fun e w' ⟨Q,h1,h2,h3,h4⟩=>⟨_,_,⟨Q,rfl,rfl⟩,h1,KAd h4 (by intro x hx; simp at hx; subst hx; exact h2) (by intro x hx; simp at hx; subst hx; rfl) (by intro x hx k hk; simp at hx; subst hx; exact .inl (h3 k hk))⟩) ?_))
  rintro _ _ ⟨Q,rfl,rfl⟩
  refine KA (KC rfl) (Nb rfl) ?_
  refine KA (KW rfl rfl) (Nb rfl) ?_
  refine KA (KW rfl rfl) (Nb rfl) ?_
  refine KI rfl (KS (KR (Kc zr_31) (Nb rfl) (fun b1=>?_)))
  refine KI rfl (KP rfl rfl sz_31 (by repeat (first|exact KX|refine KT rfl ?_)) (by repeat (first|exact Sh _|apply St_)) (by rfl) ?_)
  refine KA (KF rfl) (Nb rfl) ?_
  refine KG ?_
  refine KE (KB ?_)
  refine LOps.det (KJ rfl (by repeat (first|exact Mh _|apply Mt)) (by exact KK Try.underlying31 rfl sz_31)) (Nb rfl) ?_
  refine KI rfl (KS (Kp (first:=[]) rfl en_80 rfl (Nb rfl) (fun w hw hs=>(c_r_GP Q V w (hw _ (by repeat (first|exact Mh _|apply Mt))) hok).mono fun e w' h=>Num2R.q (Old.one (x:=crvI Q V) (by repeat (first|exact Mh _|apply Mt)) rfl) hs h) ?_))
  rintro _ _ ⟨qga,qgb,rfl,rfl,hnga,hngb⟩
  refine KI rfl (KS (KQ (first:=[]) rfl en_66 rfl (Nb rfl) (fun w hw=>c_r_OutP V qga qgb (V.G) w (hw _ (by repeat (first|exact Mh _|apply Mt))) (hw _ (by repeat (first|exact Mh _|apply Mt)))) ?_))
  refine KI rfl (KS (KR (Kc zr_60) (Nb rfl) (fun b3=>?_)))
  refine KI rfl (KP rfl rfl sz_60 (by exact Kw _ _ _) (by repeat (first|exact Sh _|apply St_)) (by exact KY _ _ _) ?_)
  refine KG ?_
  refine KE (KB ?_)
  refine LOps.det (KJ rfl (by repeat (first|exact Mh _|apply Mt)) (by exact KK Try.underlying60 rfl sz_60)) (Nb rfl) ?_
  refine KI rfl (KS (KQ (first:=[]) rfl en_86 rfl (Nb rfl) (fun w hw=>c_projFrom 13 V V.G w h hok.on) ?_))
  refine KA (KC rfl) (Nb rfl) ?_
  refine KA (KW rfl rfl) (Nb rfl) ?_
  refine KA (KW rfl rfl) (Nb rfl) ?_
  refine KI rfl (KS (KR (Kc zr_91) (Nb rfl) (fun b4=>?_)))
  refine KI rfl (KP rfl rfl sz_91 (by exact Ky _ _ _) (by repeat (first|exact Sh _|apply St_)) (by exact Kd _ _ _) ?_)
  refine KA (KF rfl) (Nb rfl) ?_
  refine KG ?_
  refine KE (KB ?_)
  refine LOps.det (KJ rfl (by repeat (first|exact Mh _|apply Mt)) (by exact KK Try.underlying91 rfl sz_91)) (Nb rfl) ?_
  refine KI rfl (KS (KQ (first:=[]) rfl en_81 rfl (Nb rfl) (fun w hw=>c_projTo 13 V (tripF V.G) V.G w h (RepT.trip hok hok.on)) ?_))
  refine KA (KC rfl) (Nb rfl) ?_
  refine KA (KW rfl rfl) (Nb rfl) ?_
  refine KA (KW rfl rfl) (Nb rfl) ?_
  refine KI rfl (KS (KR (Kc zr_60) (Nb rfl) (fun b6=>?_)))
  refine KI rfl (KP rfl rfl sz_60 (by exact Kw _ _ _) (by repeat (first|exact Sh _|apply St_)) (by exact KY _ _ _) ?_)
  refine KA (KF rfl) (Nb rfl) ?_
  refine KG ?_
  refine KE (KB ?_)
  refine LOps.det (KJ rfl (by repeat (first|exact Mh _|apply Mt)) (by exact KK Try.underlying91 rfl sz_91)) (Nb rfl) ?_
  refine KI rfl (KS (KQ (first:=[]) rfl en_83 rfl (Nb rfl) (fun w hw=>c_projDouble 13 V (tripF V.G) V.G w h (RepT.trip hok hok.on)) ?_))
  refine KA (KC rfl) (Nb rfl) ?_
  refine KA (KW rfl rfl) (Nb rfl) ?_
  refine KA (KW rfl rfl) (Nb rfl) ?_
  refine KI rfl (KS (KR (Kc zr_91) (Nb rfl) (fun b8=>?_)))
  refine KI rfl (KP rfl rfl sz_91 (by exact Ky _ _ _) (by repeat (first|exact Sh _|apply St_)) (by exact Kd _ _ _) ?_)
  refine KA (KF rfl) (Nb rfl) ?_
  refine KG ?_
  refine KE (KB ?_)
  refine LOps.det (KJ rfl (by repeat (first|exact Mh _|apply Mt)) (by exact KK Try.underlying91 rfl sz_91)) (Nb rfl) ?_
  refine KI rfl (KS (KQ (first:=[]) rfl en_81 rfl (Nb rfl) (fun w hw=>c_projTo 13 V (sumT V (tripF V.G) (tripF V.G)) (padd V.A V.G V.G) w h (RepT.sum hok (RepT.trip hok hok.on) (RepT.trip hok hok.on))) ?_))
  refine KA (KC rfl) (Nb rfl) ?_
  refine KA (KW rfl rfl) (Nb rfl) ?_
  refine KA (KW rfl rfl) (Nb rfl) ?_
  refine KI rfl (KS (KR (Kc zr_60) (Nb rfl) (fun b10=>?_)))
  refine KI rfl (KP rfl rfl sz_60 (by exact Kw _ _ _) (by repeat (first|exact Sh _|apply St_)) (by exact KY _ _ _) ?_)
  refine KA (KF rfl) (Nb rfl) ?_
  refine KG ?_
  refine KE (KB ?_)
  refine KA (KU (KAI pl_91 zr_91 rfl rfl) (show _ = pjV 0 0 0 from pj_zero)) (Nb rfl) ?_
  refine KI rfl (KS (KQ (first:=[]) rfl en_81 rfl (Nb rfl) (fun w hw=>c_projTo_bad 13 V 0 0 0 w h KAb KAb KAb (no_zero V)) ?_))
  refine KA (KC rfl) (Nb rfl) ?_
  refine KA (KW rfl rfl) (Nb rfl) ?_
  refine KA (KW rfl rfl) (Nb rfl) ?_
  refine KI rfl (KS (KR (Kc zr_60) (Nb rfl) (fun b12=>?_)))
  refine KI rfl (KP rfl rfl sz_60 (by exact Kw _ _ _) (by repeat (first|exact Sh _|apply St_)) (by exact KY _ _ _) ?_)
  refine KA (KF rfl) (Nb rfl) ?_
  refine KG ?_
  refine KE (KB ?_)
  refine LOps.det (KJ rfl (by repeat (first|exact Mh _|apply Mt)) (by exact KK Try.underlying60 rfl sz_60)) (Nb rfl) ?_
  refine KI rfl (KS (KQ (first:=[]) rfl en_86 rfl (Nb rfl) (fun w hw=>c_projFrom_none 0 (xv V.G) (yv V.G) (iv V.G) w rfl) ?_))
  refine KA (KC rfl) (Nb rfl) ?_
  refine KA (KW rfl rfl) (Nb rfl) ?_
  refine KA (KW rfl rfl) (Nb rfl) ?_
  refine KI rfl (KS (KR (Kc zr_91) (Nb rfl) (fun b14=>?_)))
  refine KI rfl (KP rfl rfl sz_91 (by exact Ky _ _ _) (by repeat (first|exact Sh _|apply St_)) (by exact Kd _ _ _) ?_)
  refine KA (KF rfl) (Nb rfl) ?_
  refine KG ?_
  refine KE ?_
  refine Ke [] (by kernel_rfl) ?_
  refine KD 0 rfl (by kernel_rfl) (Nb rfl) (KC rfl) ?_
  refine KAA 1 rfl rfl (by kernel_rfl) (KQ (first:=[]) rfl en_46 rfl (Nb rfl) (fun w hw=>c_Num _ w) ?_)
  refine KD 2 rfl (by kernel_rfl) (Nb rfl) (KO (v:=.bool true) rfl rfl (br_t (KAq (b:=0)) (by first|rfl|assumption|omega|(simp; done)))) ?_
  refine KD 3 rfl (by kernel_rfl) (Nb rfl) (KC rfl) ?_
  refine KAV 4 rfl rfl rfl (by kernel_rfl) (Nb rfl) (KJ rfl (by repeat (first|exact Mh _|apply Mt)) (by exact KK Try.underlying60 rfl sz_60)) ?_
  refine KAV 5 rfl rfl rfl (by kernel_rfl) (Nb rfl) (KJ rfl (by repeat (first|exact Mh _|apply Mt)) (by exact KK Try.underlying60 rfl sz_60)) ?_
  refine KAD 6 rfl rfl rfl (by kernel_rfl) (Nb rfl) (KU (Det.eqa (by kernel_rfl) (fun w=>eq_ptP_t hok (P:=V.G) (Q:=V.G) (rfl) 10000 (by decide) w) rfl rfl) (show _ = Value.bool true by rfl)) ?_
  refine KD 7 rfl (by kernel_rfl) (Nb rfl) (Kt rfl rfl) ?_
  refine KD 8 rfl (by kernel_rfl) (Nb rfl) (KC rfl) ?_
  refine KAD 9 rfl rfl rfl (by kernel_rfl) (Nb rfl) (KC rfl) ?_
  refine KAg 10 rfl rfl rfl rfl (by kernel_rfl) (KQ (first:=[]) rfl en_46 rfl (Nb rfl) (fun w hw=>c_Num _ w) ?_)
  refine KAD 11 rfl rfl rfl (by kernel_rfl) (Nb rfl) (KO (v:=.bool true) rfl rfl (br_t (KAq (b:=0)) (by first|rfl|assumption|omega|(simp; done)))) ?_
  refine KD 12 rfl (by kernel_rfl) (Nb rfl) (Kt rfl rfl) ?_
  refine KD 13 rfl (by kernel_rfl) (Nb rfl) (KC rfl) ?_
  refine KAD 14 rfl rfl rfl (by kernel_rfl) (Nb rfl) (KC rfl) ?_
  refine KAg 15 rfl rfl rfl rfl (by kernel_rfl) (KQ (first:=[]) rfl en_46 rfl (Nb rfl) (fun w hw=>c_Num _ w) ?_)
  refine KAD 16 rfl rfl rfl (by kernel_rfl) (Nb rfl) (KO (v:=.bool true) rfl rfl (br_t (KAq (b:=0)) (by first|rfl|assumption|omega|(simp; done)))) ?_
  refine KD 17 rfl (by kernel_rfl) (Nb rfl) (Kt rfl rfl) ?_
  refine KD 18 rfl (by kernel_rfl) (Nb rfl) (KC rfl) ?_
  refine KAV 19 rfl rfl rfl (by kernel_rfl) (Nb rfl) (KJ rfl (by repeat (first|exact Mh _|apply Mt)) (by exact KK Try.underlying60 rfl sz_60)) ?_
  refine KAV 20 rfl rfl rfl (by kernel_rfl) (Nb rfl) (KJ rfl (by repeat (first|exact Mh _|apply Mt)) (by exact KK Try.underlying31 rfl sz_31)) ?_
  refine KAV 21 rfl rfl rfl (by kernel_rfl) (Nb rfl) (KJ rfl (by repeat (first|exact Mh _|apply Mt)) (by exact KK Try.underlying31 rfl sz_31)) ?_
  refine KAV 23 rfl rfl rfl (by kernel_rfl) (Nb rfl) (KJ rfl (by repeat (first|exact Mh _|apply Mt)) (by exact KK Try.underlying31 rfl sz_31)) ?_
  refine KAg 22 rfl rfl rfl rfl (by kernel_rfl) (Kp (first:=[]) rfl en_80 rfl (Nb rfl) (fun w hw hs=>(c_r_GP Q V w (hw _ (by repeat (first|exact Mh _|apply Mt))) hok).mono fun e w' h=>Num2R.q (Old.one (x:=crvI Q V) (by repeat (first|exact Mh _|apply Mt)) rfl) hs h) ?_)
  rintro _ _ ⟨qka,qkb,rfl,rfl,hnka,hnkb⟩
  refine KAg 24 rfl rfl rfl rfl (by kernel_rfl) (Kp (first:=[]) rfl en_80 rfl (Nb rfl) (fun w hw hs=>(c_r_GP Q V w (hw _ (by repeat (first|exact Mh _|apply Mt))) hok).mono fun e w' h=>Num2R.q (Old.one (x:=crvI Q V) (by repeat (first|exact Mh _|apply Mt)) rfl) hs h) ?_)
  rintro _ _ ⟨qla,qlb,rfl,rfl,hnla,hnlb⟩
  refine KAg 25 rfl rfl rfl rfl (by kernel_rfl) (Kp (first:=[]) rfl en_79 rfl (Nb rfl) (fun w hw hs=>(c_r_Plus Q V qka qkb qla qlb (V.G) (V.G) (padd V.A V.G V.G) w (hw _ (by repeat (first|exact Mh _|apply Mt))) hok (hw _ (by repeat (first|exact Mh _|apply Mt))) (hw _ (by repeat (first|exact Mh _|apply Mt))) (hw _ (by repeat (first|exact Mh _|apply Mt))) (hw _ (by repeat (first|exact Mh _|apply Mt))) (hok.on) (hok.on) (rfl)).mono fun e w' h=>Num2R.q (Old.pt (by repeat (first|exact Mh _|apply Mt)) (by repeat (first|exact Mh _|apply Mt)) (Old.pt (by repeat (first|exact Mh _|apply Mt)) (by repeat (first|exact Mh _|apply Mt)) (Old.nil _))) hs h) ?_)
  rintro _ _ ⟨qsa,qsb,rfl,rfl,hnsa,hnsb⟩
  refine KAg 26 rfl rfl rfl rfl (by kernel_rfl) (KQ (first:=[]) rfl en_66 rfl (Nb rfl) (fun w hw=>c_r_OutP V qsa qsb (padd V.A V.G V.G) w (hw _ (by repeat (first|exact Mh _|apply Mt))) (hw _ (by repeat (first|exact Mh _|apply Mt)))) ?_)
  refine KAD 27 rfl rfl rfl (by kernel_rfl) (Nb rfl) (KU (Det.eqa (by kernel_rfl) (fun w=>eq_ptP_t hok (P:=padd V.A V.G V.G) (Q:=padd V.A V.G V.G) (rfl) 10000 (by decide) w) rfl rfl) (show _ = Value.bool true by rfl)) ?_
  refine KD 28 rfl (by kernel_rfl) (Nb rfl) (Kt rfl rfl) ?_
  refine KD 29 rfl (by kernel_rfl) (Nb rfl) (KC rfl) ?_
  refine KAD 30 rfl rfl rfl (by kernel_rfl) (Nb rfl) (KC rfl) ?_
  refine KAg 31 rfl rfl rfl rfl (by kernel_rfl) (KQ (first:=[]) rfl en_46 rfl (Nb rfl) (fun w hw=>c_Num _ w) ?_)
  refine KAD 32 rfl rfl rfl (by kernel_rfl) (Nb rfl) (KO (v:=.bool true) rfl rfl (br_t (KAq (b:=1501)) (by first|rfl|assumption|omega|(simp; done)))) ?_
  refine KD 33 rfl (by kernel_rfl) (Nb rfl) (Kt rfl rfl) ?_
  refine KD 34 rfl (by kernel_rfl) (Nb rfl) (KC rfl) ?_
  refine KAD 35 rfl rfl rfl (by kernel_rfl) (Nb rfl) (KC rfl) ?_
  refine KAg 36 rfl rfl rfl rfl (by kernel_rfl) (KQ (first:=[]) rfl en_46 rfl (Nb rfl) (fun w hw=>c_Num _ w) ?_)
  refine KAD 37 rfl rfl rfl (by kernel_rfl) (Nb rfl) (KO (v:=.bool true) rfl rfl (br_t (KAq (b:=1500)) (by first|rfl|assumption|omega|(simp; done)))) ?_
  refine KD 38 rfl (by kernel_rfl) (Nb rfl) (Kt rfl rfl) ?_
  refine KD 39 rfl (by kernel_rfl) (Nb rfl) (KF rfl) ?_
  refine Kq (by kernel_rfl) ?_
  refine Ka ?_
  refine ⟨[_],.cons rfl .nil,fun a w' hr=>⟨?_,hr.fr.below⟩⟩
  rfl
theorem c_ProjFrom_none (id:Int) (X Y:Nat) (i:Bool) (w:World) (h:cvI id = none):Calls Try.prog 16 ([.int .i64 id,ptV X Y i]:List Value).toArray w (fun e w'=>e = .returned (.bool true)∧Below w.heap.size w w'):=by
  refine KAC (N:=75) (rs:=[.tmp 4]) [] Try.func16 rfl Try.ntmps16 Try.results16 (Nb rfl) trivial rfl ?_
  show LCode _ _ _ ⟨_,_⟩ _
  refine KE (KB ?_)
  refine KI rfl (KS (KR (Kz rfl) (Nb rfl) (fun b3=>?_)))
  refine KA (KF rfl) (Nb rfl) ?_
  refine KG ?_
  refine KE (KB ?_)
  refine KA (KC rfl) (Nb rfl) ?_
  refine KI rfl (KS (KQ (first:=[]) rfl en_43 rfl (Nb rfl) (fun w hw=>c_r_Get_none _ w h) ?_))
  refine KA (KC rfl) (Nb rfl) ?_
  refine KA (KW rfl rfl) (Nb rfl) ?_
  refine KA (KW rfl rfl) (Nb rfl) ?_
  refine KI rfl (KS (KR (Kc zr_31) (Nb rfl) (fun b5=>?_)))
  refine KI rfl (KP rfl rfl sz_31 (by repeat (first|exact KX|refine KT rfl ?_)) (by repeat (first|exact Sh _|apply St_)) (by rfl) ?_)
  refine KA (KF rfl) (Nb rfl) ?_
  refine KG ?_
  refine KE (KB ?_)
  refine KA (KC rfl) (Nb rfl) ?_
  refine LOps.det (KJ rfl (by repeat (first|exact Mh _|apply Mt)) (by exact KK Try.underlying60 rfl sz_60)) (Nb rfl) ?_
  refine KI rfl (KS (KQ (first:=[]) rfl en_86 rfl (Nb rfl) (fun w hw=>c_projFrom_none id X Y i w h) ?_))
  refine KA (KC rfl) (Nb rfl) ?_
  refine KA (KW rfl rfl) (Nb rfl) ?_
  refine KA (KW rfl rfl) (Nb rfl) ?_
  refine KI rfl (KS (KR (Kc zr_91) (Nb rfl) (fun b7=>?_)))
  refine KI rfl (KP rfl rfl sz_91 (by exact Ky _ _ _) (by repeat (first|exact Sh _|apply St_)) (by exact Kd _ _ _) ?_)
  refine KA (KF rfl) (Nb rfl) ?_
  refine KG ?_
  refine KE ?_
  refine LCode.block ?_
  refine KE (KB ?_)
  refine KA (KC rfl) (Nb rfl) ?_
  refine KA (KU (KAc rfl) (show _ = Value.bool true from rfl)) (Nb rfl) ?_
  refine KA (KF rfl) (Nb rfl) ?_
  refine KG ?_
  refine Ks rfl ?_
  refine KE (KB ?_)
  refine KA (KC rfl) (Nb rfl) ?_
  refine KI rfl (KS (KQ (first:=[]) rfl en_46 rfl (Nb rfl) (fun w hw=>c_Num _ w) ?_))
  refine KA (KO (v:=.bool true) rfl rfl (br_t (KAq (b:=1500)) (by first|rfl|assumption|omega|(simp; done)))) (Nb rfl) ?_
  refine KA (KC rfl) (Nb rfl) ?_
  refine KAN rfl rfl (KJ rfl (by repeat (first|exact Mh _|apply Mt)) (by exact KK Try.underlying91 rfl sz_91)) (Nb rfl) ?_
  refine KV rfl rfl (KU (KAI pl_91 zr_91 rfl rfl) (show _ = pjV 0 0 0 from pj_zero)) (Nb rfl) ?_
  refine KV rfl rfl (KU (Det.eqa (by kernel_rfl) (fun w=>eq_pj_t KAb KAb KAb 10000 (by decide) w) rfl rfl) (show _ = Value.bool true by rfl)) (Nb rfl) ?_
  refine KA (Kt rfl rfl) (Nb rfl) ?_
  refine KA (KC rfl) (Nb rfl) ?_
  refine KAS rfl rfl rfl (KS (KQ (first:=[]) rfl en_84 rfl (Nb rfl) (fun w hw=>c_awake15 w) ?_))
  refine KA (Kt rfl rfl) (Nb rfl) ?_
  refine KA (KF rfl) (Nb rfl) ?_
  refine KG (Ka ?_)
  refine ⟨[_],.cons rfl .nil,fun a w' hr=>⟨?_,hr.fr.below⟩⟩
  rfl
theorem c_ProjFrom_off (id:Int) (V:Cv) (X Y:Nat) (i:Bool) (w:World) (h:cvI id = some V) (hX:X<W9) (hY:Y<W9) (ho:onB V.p V.a V.b X Y i = false):Calls Try.prog 16 ([.int .i64 id,ptV X Y i]:List Value).toArray w (fun e w'=>e = .returned (.bool true)∧Below w.heap.size w w'):=by
  obtain ⟨hok,hid⟩:=cvI_ok h
  have hdx:=nw_w9_dig hX
  have hdy:=nw_w9_dig hY
  refine KAC (N:=75) (rs:=[.tmp 4]) [] Try.func16 rfl Try.ntmps16 Try.results16 (Nb rfl) trivial rfl ?_
  show LCode _ _ _ ⟨_,_⟩ _
  refine KE (KB ?_)
  refine KI rfl (KS (KR (Kz rfl) (Nb rfl) (fun b3=>?_)))
  refine KA (KF rfl) (Nb rfl) ?_
  refine KG ?_
  refine KE (KB ?_)
  refine KA (KC rfl) (Nb rfl) ?_
  refine KI rfl (KS (Kp (Post:=fun v its=>∃ Q,v = .tuple #[.agg (crvL Q V).toArray,.bool true]∧its = [crvI Q V]) (first:=[]) rfl en_43 rfl (Nb rfl) (fun w1 hw hs=>(c_r_Get _ V w1 h).mono fun e w' ⟨Q,h1,h2,h3,h4⟩=>⟨_,_,⟨Q,rfl,rfl⟩,h1,KAd h4 (by intro x hx; simp at hx; subst hx; exact h2) (by intro x hx; simp at hx; subst hx; rfl) (by intro x hx k hk; simp at hx; subst hx; exact .inl (h3 k hk))⟩) ?_))
  rintro _ _ ⟨Q,rfl,rfl⟩
  refine KA (KC rfl) (Nb rfl) ?_
  refine KA (KW rfl rfl) (Nb rfl) ?_
  refine KA (KW rfl rfl) (Nb rfl) ?_
  refine KI rfl (KS (KR (Kc zr_31) (Nb rfl) (fun b5=>?_)))
  refine KI rfl (KP rfl rfl sz_31 (by repeat (first|exact KX|refine KT rfl ?_)) (by repeat (first|exact Sh _|apply St_)) (by rfl) ?_)
  refine KA (KF rfl) (Nb rfl) ?_
  refine KG ?_
  refine KE (KB ?_)
  refine KA (KC rfl) (Nb rfl) ?_
  refine LOps.det (KJ rfl (by repeat (first|exact Mh _|apply Mt)) (by exact KK Try.underlying60 rfl sz_60)) (Nb rfl) ?_
  refine KI rfl (KS (KQ (first:=[]) rfl en_86 rfl (Nb rfl) (fun w hw=>c_projFrom_off id V X Y i w h hX hY ho) ?_))
  refine KA (KC rfl) (Nb rfl) ?_
  refine KA (KW rfl rfl) (Nb rfl) ?_
  refine KA (KW rfl rfl) (Nb rfl) ?_
  refine KI rfl (KS (KR (Kc zr_91) (Nb rfl) (fun b7=>?_)))
  refine KI rfl (KP rfl rfl sz_91 (by exact Ky _ _ _) (by repeat (first|exact Sh _|apply St_)) (by exact Kd _ _ _) ?_)
  refine KA (KF rfl) (Nb rfl) ?_
  refine KG ?_
  refine KE ?_
  refine LCode.block ?_
  refine KE (KB ?_)
  refine KA (KC rfl) (Nb rfl) ?_
  refine KA (KU (KAc rfl) (show _ = Value.bool false from rfl)) (Nb rfl) ?_
  refine KA (KF rfl) (Nb rfl) ?_
  refine KG ?_
  refine Kj rfl ?_
  refine KE ?_
  refine Ke [] (by kernel_rfl) ?_
  refine LAny.take 0 rfl (by kernel_rfl) (Nb rfl) (KJ rfl (by repeat (first|exact Mh _|apply Mt)) (by exact KK Try.underlying31 rfl sz_31)) ?_
  refine LAny.take 1 rfl (by kernel_rfl) (Nb rfl) (KJ rfl (by repeat (first|exact Mh _|apply Mt)) (by exact KK Try.underlying60 rfl sz_60)) ?_
  refine KAA 2 rfl rfl (by kernel_rfl) (Kp (first:=[]) rfl en_63 rfl (Nb rfl) (fun w hw hs=>(c_r_In X Y i w hX hY).mono fun e w' h=>Num2R.q (Old.nil _) hs h) ?_)
  rintro _ _ ⟨qpa,qpb,rfl,rfl,hnpa,hnpb⟩
  refine KAA 3 rfl rfl (by kernel_rfl) (KQ (first:=[]) rfl en_62 rfl (Nb rfl) (fun w hw=>c_r_OnB Q V qpa qpb X Y i false w (hw _ (by repeat (first|exact Mh _|apply Mt))) hok (hw _ (by repeat (first|exact Mh _|apply Mt))) (hw _ (by repeat (first|exact Mh _|apply Mt))) (by omega) (by omega) ho) ?_)
  refine KD 4 rfl (by kernel_rfl) (Nb rfl) (KU (KAc rfl) (show _ = Value.bool true from rfl)) ?_
  refine KD 5 rfl (by kernel_rfl) (Nb rfl) (KF rfl) ?_
  refine Kq (by kernel_rfl) ?_
  refine Ks rfl ?_
  refine KE (KB ?_)
  refine KA (KC rfl) (Nb rfl) ?_
  refine KI rfl (KS (KQ (first:=[]) rfl en_46 rfl (Nb rfl) (fun w hw=>c_Num _ w) ?_))
  refine KA (KO (v:=.bool true) rfl rfl (br_t (KAq (b:=1501)) (by first|rfl|assumption|omega|(simp; done)))) (Nb rfl) ?_
  refine KA (KC rfl) (Nb rfl) ?_
  refine KAN rfl rfl (KJ rfl (by repeat (first|exact Mh _|apply Mt)) (by exact KK Try.underlying91 rfl sz_91)) (Nb rfl) ?_
  refine KV rfl rfl (KU (KAI pl_91 zr_91 rfl rfl) (show _ = pjV 0 0 0 from pj_zero)) (Nb rfl) ?_
  refine KV rfl rfl (KU (Det.eqa (by kernel_rfl) (fun w=>eq_pj_t KAb KAb KAb 10000 (by decide) w) rfl rfl) (show _ = Value.bool true by rfl)) (Nb rfl) ?_
  refine KA (Kt rfl rfl) (Nb rfl) ?_
  refine KA (KC rfl) (Nb rfl) ?_
  refine KAS rfl rfl rfl (KS (KQ (first:=[]) rfl en_84 rfl (Nb rfl) (fun w hw=>c_awake15 w) ?_))
  refine KA (Kt rfl rfl) (Nb rfl) ?_
  refine KA (KF rfl) (Nb rfl) ?_
  refine KG (Ka ?_)
  refine ⟨[_],.cons rfl .nil,fun a w' hr=>⟨?_,hr.fr.below⟩⟩
  rfl
theorem c_ProjFrom_ok (id:Int) (V:Cv) (P:Pt V.p) (w:World) (h:cvI id = some V) (hP:On V.A V.B P):Calls Try.prog 16 ([.int .i64 id,ptP P]:List Value).toArray w (fun e w'=>e = .returned (.bool true)∧Below w.heap.size w w'):=by
  obtain ⟨hok,hid⟩:=cvI_ok h
  refine KAC (N:=75) (rs:=[.tmp 4]) [] Try.func16 rfl Try.ntmps16 Try.results16 (Nb rfl) trivial rfl ?_
  show LCode _ _ _ ⟨_,_⟩ _
  refine KE (KB ?_)
  refine KI rfl (KS (KR (Kz rfl) (Nb rfl) (fun b3=>?_)))
  refine KA (KF rfl) (Nb rfl) ?_
  refine KG ?_
  refine KE (KB ?_)
  refine KA (KC rfl) (Nb rfl) ?_
  refine KI rfl (KS (Kp (Post:=fun v its=>∃ Q,v = .tuple #[.agg (crvL Q V).toArray,.bool true]∧its = [crvI Q V]) (first:=[]) rfl en_43 rfl (Nb rfl) (fun w1 hw hs=>(c_r_Get _ V w1 h).mono fun e w' ⟨Q,h1,h2,h3,h4⟩=>⟨_,_,⟨Q,rfl,rfl⟩,h1,KAd h4 (by intro x hx; simp at hx; subst hx; exact h2) (by intro x hx; simp at hx; subst hx; rfl) (by intro x hx k hk; simp at hx; subst hx; exact .inl (h3 k hk))⟩) ?_))
  rintro _ _ ⟨Q,rfl,rfl⟩
  refine KA (KC rfl) (Nb rfl) ?_
  refine KA (KW rfl rfl) (Nb rfl) ?_
  refine KA (KW rfl rfl) (Nb rfl) ?_
  refine KI rfl (KS (KR (Kc zr_31) (Nb rfl) (fun b5=>?_)))
  refine KI rfl (KP rfl rfl sz_31 (by repeat (first|exact KX|refine KT rfl ?_)) (by repeat (first|exact Sh _|apply St_)) (by rfl) ?_)
  refine KA (KF rfl) (Nb rfl) ?_
  refine KG ?_
  refine KE (KB ?_)
  refine KA (KC rfl) (Nb rfl) ?_
  refine LOps.det (KJ rfl (by repeat (first|exact Mh _|apply Mt)) (by exact KK Try.underlying60 rfl sz_60)) (Nb rfl) ?_
  refine KI rfl (KS (KQ (first:=[]) rfl en_86 rfl (Nb rfl) (fun w hw=>c_projFrom id V P w h hP) ?_))
  refine KA (KC rfl) (Nb rfl) ?_
  refine KA (KW rfl rfl) (Nb rfl) ?_
  refine KA (KW rfl rfl) (Nb rfl) ?_
  refine KI rfl (KS (KR (Kc zr_91) (Nb rfl) (fun b7=>?_)))
  refine KI rfl (KP rfl rfl sz_91 (by exact Ky _ _ _) (by repeat (first|exact Sh _|apply St_)) (by exact Kd _ _ _) ?_)
  refine KA (KF rfl) (Nb rfl) ?_
  refine KG ?_
  refine KE ?_
  refine LCode.block ?_
  refine KE (KB ?_)
  refine KA (KC rfl) (Nb rfl) ?_
  refine KA (KU (KAc rfl) (show _ = Value.bool false from rfl)) (Nb rfl) ?_
  refine KA (KF rfl) (Nb rfl) ?_
  refine KG ?_
  refine Kj rfl ?_
  refine KE ?_
  refine Ke [] (by kernel_rfl) ?_
  refine LAny.take 0 rfl (by kernel_rfl) (Nb rfl) (KJ rfl (by repeat (first|exact Mh _|apply Mt)) (by exact KK Try.underlying31 rfl sz_31)) ?_
  refine LAny.take 1 rfl (by kernel_rfl) (Nb rfl) (KJ rfl (by repeat (first|exact Mh _|apply Mt)) (by exact KK Try.underlying60 rfl sz_60)) ?_
  refine KAA 2 rfl rfl (by kernel_rfl) (Kp (first:=[]) rfl en_63 rfl (Nb rfl) (fun w hw hs=>(c_r_InP V hok (P) w).mono fun e w' h=>Num2R.q (Old.nil _) hs h) ?_)
  rintro _ _ ⟨qpa,qpb,rfl,rfl,hnpa,hnpb⟩
  refine KAA 3 rfl rfl (by kernel_rfl) (KQ (first:=[]) rfl en_62 rfl (Nb rfl) (fun w hw=>c_r_OnP Q V qpa qpb (P) w (hw _ (by repeat (first|exact Mh _|apply Mt))) hok (hw _ (by repeat (first|exact Mh _|apply Mt))) (hw _ (by repeat (first|exact Mh _|apply Mt))) (hP)) ?_)
  refine KD 4 rfl (by kernel_rfl) (Nb rfl) (KU (KAc rfl) (show _ = Value.bool false from rfl)) ?_
  refine KD 5 rfl (by kernel_rfl) (Nb rfl) (KF rfl) ?_
  refine Kq (by kernel_rfl) ?_
  refine Kj rfl ?_
  refine Kh ?_
  refine KE (KB ?_)
  refine KA (KC rfl) (Nb rfl) ?_
  refine LOps.det (KJ rfl (by repeat (first|exact Mh _|apply Mt)) (by exact KK Try.underlying91 rfl sz_91)) (Nb rfl) ?_
  refine KI rfl (KS (KQ (first:=[]) rfl en_81 rfl (Nb rfl) (fun w hw=>c_projTo id V (tripF P) P w h (RepT.trip hok hP)) ?_))
  refine KA (KC rfl) (Nb rfl) ?_
  refine KA (KW rfl rfl) (Nb rfl) ?_
  refine KA (KW rfl rfl) (Nb rfl) ?_
  refine KI rfl (KS (KR (Kc zr_60) (Nb rfl) (fun b9=>?_)))
  refine KI rfl (KP rfl rfl sz_60 (by exact Kw _ _ _) (by repeat (first|exact Sh _|apply St_)) (by exact KY _ _ _) ?_)
  refine KA (KF rfl) (Nb rfl) ?_
  refine KG ?_
  refine KE (KB ?_)
  refine KA (KC rfl) (Nb rfl) ?_
  refine KI rfl (KS (KQ (first:=[]) rfl en_46 rfl (Nb rfl) (fun w hw=>c_Num _ w) ?_))
  refine KA (KO (v:=.bool true) rfl rfl (br_t (KAq (b:=0)) (by first|rfl|assumption|omega|(simp; done)))) (Nb rfl) ?_
  refine KA (KC rfl) (Nb rfl) ?_
  refine KV rfl rfl (KC rfl) (Nb rfl) ?_
  refine KAS rfl rfl rfl (KS (KQ (first:=[]) rfl en_46 rfl (Nb rfl) (fun w hw=>c_Num _ w) ?_))
  refine KV rfl rfl (KO (v:=.bool true) rfl rfl (br_t (KAq (b:=0)) (by first|rfl|assumption|omega|(simp; done)))) (Nb rfl) ?_
  refine KA (Kt rfl rfl) (Nb rfl) ?_
  refine KA (KC rfl) (Nb rfl) ?_
  refine KAN rfl rfl (KJ rfl (by repeat (first|exact Mh _|apply Mt)) (by exact KK Try.underlying60 rfl sz_60)) (Nb rfl) ?_
  refine KAN rfl rfl (KJ rfl (by repeat (first|exact Mh _|apply Mt)) (by exact KK Try.underlying60 rfl sz_60)) (Nb rfl) ?_
  refine KV rfl rfl (KU (Det.eqa (by kernel_rfl) (fun w=>eq_ptP_t hok (P:=P) (Q:=P) (rfl) 10000 (by decide) w) rfl rfl) (show _ = Value.bool true by rfl)) (Nb rfl) ?_
  refine KA (Kt rfl rfl) (Nb rfl) ?_
  refine KA (KC rfl) (Nb rfl) ?_
  refine KAS rfl rfl rfl (KS (KQ (first:=[]) rfl en_84 rfl (Nb rfl) (fun w hw=>c_awake15 w) ?_))
  refine KA (Kt rfl rfl) (Nb rfl) ?_
  refine KA (KF rfl) (Nb rfl) ?_
  refine KG (Ka ?_)
  refine ⟨[_],.cons rfl .nil,fun a w' hr=>⟨?_,hr.fr.below⟩⟩
  rfl
theorem c_ProjFrom (id:Int) (X Y:Nat) (i:Bool) (w:World) (hX:X<W9) (hY:Y<W9):Calls Try.prog 16 ([.int .i64 id,ptV X Y i]:List Value).toArray w (fun e w'=>e = .returned (.bool true)∧Below w.heap.size w w'):=by
  cases h:cvI id with
  | none=>exact c_ProjFrom_none id X Y i w h
  | some V =>
    cases ho:onB V.p V.a V.b X Y i with
    | false=>exact c_ProjFrom_off id V X Y i w h hX hY ho
    | true =>
      obtain ⟨P,hP,rfl,rfl,rfl⟩:=onB_pt ho
      exact c_ProjFrom_ok id V P w h hP
theorem tr_val {V:Cv} (hok:V.Ok) {T:Fin V.p×Fin V.p×Fin V.p} {P:Pt V.p} (h:RepT V T P) (hz:T.2.2≠0):T.1.val*invM T.2.2.val V.p%V.p = xv P∧T.2.1.val*invM T.2.2.val V.p%V.p = yv P∧iv P = false:=by
  have e:=Rep.plain hok.prime h.rep
  rw [plain_aff hz] at e
  subst e
  refine ⟨?_,?_,rfl⟩
  · show _ = (T.1*finv T.2.2).val
    rw [Fin.val_mul,finv_val]
  · show _ = (T.2.1*finv T.2.2).val
    rw [Fin.val_mul,finv_val]
theorem tr_inf {V:Cv} (hok:V.Ok) {T:Fin V.p×Fin V.p×Fin V.p} {P:Pt V.p} (h:RepT V T P) (hz:T.2.2 = 0):P = .inf∧T.1 = 0:=by
  have e:=Rep.plain hok.prime h.rep
  rw [hz,plain_inf] at e
  have h2:=Rep.has h.rep h.on
  rw [hz] at h2
  exact ⟨e.symm,(h2.zero hok.fld).1⟩
theorem tr_sum {V:Cv} {X Y Z:Nat} (h:¬ (X = 0∧Y = 0∧Z = 0)):¬ D.nw X+D.nw Y+D.nw Z = 0:=fun e=>h ⟨nw_eq_zero.1 (by omega),nw_eq_zero.1 (by omega),nw_eq_zero.1 (by omega)⟩
theorem tr_off {V:Cv} (hok:V.Ok) {x y z:Fin V.p} (hz:z≠0) (hn:¬ TrHas V x.val y.val z.val):onB V.p V.a V.b (x.val*invM z.val V.p%V.p) (y.val*invM z.val V.p%V.p) false = false:=by
  cases ho:onB V.p V.a V.b (x.val*invM z.val V.p%V.p) (y.val*invM z.val V.p%V.p) false with
  | false=>rfl
  | true =>
    exfalso
    have e1:x.val*invM z.val V.p%V.p = (x*finv z).val:=by rw [Fin.val_mul,finv_val]
    have e2:y.val*invM z.val V.p%V.p = (y*finv z).val:=by rw [Fin.val_mul,finv_val]
    rw [e1,e2] at ho
    obtain ⟨P,hP,h1,h2,h3⟩:=onB_pt (p:=V.p) ho
    have eP:P = .aff (x*finv z) (y*finv z):=pt_ext h1 h2 h3
    have hi:=finv_mul hok.prime hz
    have hr:Rep x y z P:=by
      have hr:=Rep.aff (Z:=z) (x*finv z) (y*finv z) hz
      have k1:x*finv z*z = x:=by
        have:x*finv z*z = x*(z*finv z):=by clear hi; grind -lia
        rw [this,hi]; grind -lia
      have k2:y*finv z*z = y:=by
        have:y*finv z*z = y*(z*finv z):=by clear hi; grind -lia
        rw [this,hi]; grind -lia
      rw [k1,k2] at hr
      rw [eP]; exact hr
    exact hn ⟨(x,y,z),rfl,rfl,rfl,Rep.has hr hP⟩
theorem c_triple (Q:CQ) (V:Cv) (T:Fin V.p×Fin V.p×Fin V.p) (P:Pt V.p) (w:World) (hc:(crvI Q V).holds w) (hok:V.Ok) (hT:RepT V T P):Calls Try.prog 85 ([.agg (crvL Q V).toArray,pjF T]:List Value).toArray w (fun e w'=>Num2R w [] (xv P) (yv P) (fun u v=>.tuple #[rpV u v (iv P),.bool true]) e w'):=by
  obtain ⟨hb5,hb521,hba,hbb,hbx,hby,hbn,hbo,hbo2,hbb1,hbn1⟩:=hok.bounds
  have hsz:=hok.sz
  have hsp:=hsz.p
  have hsa:=hsz.a
  have hsb:=hsz.b
  have hp0:V.p≠0:=by omega
  have hpp:0<V.p:=by omega
  have hm17:∀ k,D.nw (k%V.p)≤17:=fun k=>Nat.le_trans (D.nw_mono (Nat.le_of_lt (Nat.mod_lt k hpp))) hsp
  have h17:∀ {A:Nat},A<V.p→D.nw A≤100000:=fun h=>Nat.le_trans (nw_521 (Nat.lt_trans h hb521)) (by decide)
  have hpW:V.p<W9:=w9_521 hb521
  have hX:=Nat.lt_trans T.1.isLt hpW
  have hY:=Nat.lt_trans T.2.1.isLt hpW
  have hZ:=Nat.lt_trans T.2.2.isLt hpW
  have hdx:=nw_w9_dig hX
  have hdy:=nw_w9_dig hY
  have hdz:=nw_w9_dig hZ
  have hall0:¬ (T.1.val = 0∧T.2.1.val = 0∧T.2.2.val = 0):=fun e=>(Rep.has hT.rep hT.on).1 ⟨Fin.ext e.1,Fin.ext e.2.1,Fin.ext e.2.2⟩
  refine KAC (N:=81) (rs:=[.cell 4 73,.tmp 5]) [crvI Q V] Try.func85 rfl Try.ntmps85 Try.results85 (Nb rfl) ⟨hc,trivial⟩ rfl ?_
  show LCode _ _ _ ⟨_,_⟩ _
  refine KE (KB ?_)
  refine KI rfl (KS (KR (Kz rfl) (Nb rfl) (fun b2=>?_)))
  refine KI rfl (KS (KR (Kz rfl) (Nb rfl) (fun b3=>?_)))
  refine KI rfl (KS (KR (Kc zr_73) (Nb rfl) (fun b4=>?_)))
  refine KA (KF rfl) (Nb rfl) ?_
  refine KG ?_
  refine KE ?_
  refine Ke [] (by kernel_rfl) ?_
  refine KD 0 rfl (by kernel_rfl) (Nb rfl) (KM (o':=0) Try.underlying91 rfl rfl rfl sz_25 (by decide)) ?_
  refine LAny.take 1 rfl (by kernel_rfl) (Nb rfl) (KJ rfl (by repeat (first|exact Mh _|apply Mt)) (by exact KAO Try.underlying25 rfl sz_25 rfl (KH _))) ?_
  refine KD 3 rfl (by kernel_rfl) (Nb rfl) (KM (o':=9) Try.underlying91 rfl rfl rfl sz_25 (by decide)) ?_
  refine LAny.take 4 rfl (by kernel_rfl) (Nb rfl) (KJ rfl (by repeat (first|exact Mh _|apply Mt)) (by exact KAi Try.underlying25 rfl sz_25 rfl (KH _) (KH _))) ?_
  refine KD 6 rfl (by kernel_rfl) (Nb rfl) (KM (o':=18) Try.underlying91 rfl rfl rfl sz_25 (by decide)) ?_
  refine LAny.take 7 rfl (by kernel_rfl) (Nb rfl) (KJ rfl (by repeat (first|exact Mh _|apply Mt)) (by exact pj_ld2 _ _ _ _ _ _)) ?_
  refine KAA 2 rfl rfl (by kernel_rfl) (Kp (first:=[]) rfl en_52 rfl (Nb rfl) (fun w hw hs=>(c_n_From (T.1.val) hX w).mono fun e w' h=>KAf (Old.nil _) hs h) ?_)
  rintro _ _ ⟨qx,rfl,rfl,hnx⟩
  refine KAA 5 rfl rfl (by kernel_rfl) (Kp (first:=[]) rfl en_52 rfl (Nb rfl) (fun w hw hs=>(c_n_From (T.2.1.val) hY w).mono fun e w' h=>KAf (Old.nil _) hs h) ?_)
  rintro _ _ ⟨qy,rfl,rfl,hny⟩
  refine KAA 8 rfl rfl (by kernel_rfl) (Kp (first:=[]) rfl en_52 rfl (Nb rfl) (fun w hw hs=>(c_n_From (T.2.2.val) hZ w).mono fun e w' h=>KAf (Old.nil _) hs h) ?_)
  rintro _ _ ⟨qz,rfl,rfl,hnz⟩
  refine KD 9 rfl (by kernel_rfl) (Nb rfl) (KF rfl) ?_
  refine KD 10 rfl (by kernel_rfl) (Nb rfl) (KF rfl) ?_
  refine KD 11 rfl (by kernel_rfl) (Nb rfl) (KF rfl) ?_
  refine Kq (by kernel_rfl) ?_
  refine KE ?_
  refine KE (KB ?_)
  refine KA (KC rfl) (Nb rfl) ?_
  refine KA (KM (o':=1) Try.underlying31 rfl rfl rfl sz_29 (by decide)) (Nb rfl) ?_
  refine LOps.det (KJ rfl (by repeat (first|exact Mh _|apply Mt)) (Kb Try.underlying29 rfl (by first|rfl|exact Kv _ _ _ (by omega)|exact Kr _ (by omega)|exact Ko _ (by omega)|exact dv_m _ _ _ (by omega)))) (Nb rfl) ?_
  refine KI rfl (KS (KQ (first:=[]) rfl en_70 rfl (Nb rfl) (fun w hw=>KBA qx Q.p T.1.val V.p w (hw _ (by repeat (first|exact Mh _|apply Mt))) (KAt (hw _ (by repeat (first|exact Mh _|apply Mt)))) (by omega)) ?_))
  refine KA (KO (v:=.bool false) rfl rfl (br_f cmp_geq (Nat.not_le_of_gt T.1.isLt))) (Nb rfl) ?_
  refine KA (KC rfl) (Nb rfl) ?_
  refine KV rfl rfl (KC rfl) (Nb rfl) ?_
  refine KV rfl rfl (KM (o':=1) Try.underlying31 rfl rfl rfl sz_29 (by decide)) (Nb rfl) ?_
  refine KAN rfl rfl (KJ rfl (by repeat (first|exact Mh _|apply Mt)) (Kb Try.underlying29 rfl (by first|rfl|exact Kv _ _ _ (by omega)|exact Kr _ (by omega)|exact Ko _ (by omega)|exact dv_m _ _ _ (by omega)))) (Nb rfl) ?_
  refine KAS rfl rfl rfl (KS (KQ (first:=[]) rfl en_70 rfl (Nb rfl) (fun w hw=>KBA qy Q.p T.2.1.val V.p w (hw _ (by repeat (first|exact Mh _|apply Mt))) (KAt (hw _ (by repeat (first|exact Mh _|apply Mt)))) (by omega)) ?_))
  refine KV rfl rfl (KO (v:=.bool false) rfl rfl (br_f cmp_geq (Nat.not_le_of_gt T.2.1.isLt))) (Nb rfl) ?_
  refine KA (Ku rfl rfl) (Nb rfl) ?_
  refine KA (KC rfl) (Nb rfl) ?_
  refine KV rfl rfl (KC rfl) (Nb rfl) ?_
  refine KV rfl rfl (KM (o':=1) Try.underlying31 rfl rfl rfl sz_29 (by decide)) (Nb rfl) ?_
  refine KAN rfl rfl (KJ rfl (by repeat (first|exact Mh _|apply Mt)) (Kb Try.underlying29 rfl (by first|rfl|exact Kv _ _ _ (by omega)|exact Kr _ (by omega)|exact Ko _ (by omega)|exact dv_m _ _ _ (by omega)))) (Nb rfl) ?_
  refine KAS rfl rfl rfl (KS (KQ (first:=[]) rfl en_70 rfl (Nb rfl) (fun w hw=>KBA qz Q.p T.2.2.val V.p w (hw _ (by repeat (first|exact Mh _|apply Mt))) (KAt (hw _ (by repeat (first|exact Mh _|apply Mt)))) (by omega)) ?_))
  refine KV rfl rfl (KO (v:=.bool false) rfl rfl (br_f cmp_geq (Nat.not_le_of_gt T.2.2.isLt))) (Nb rfl) ?_
  refine KA (Ku rfl rfl) (Nb rfl) ?_
  refine KA (KC rfl) (Nb rfl) ?_
  refine KV rfl rfl (KC rfl) (Nb rfl) ?_
  refine KV rfl rfl (KAU Try.underlying29 rfl) (Nb rfl) ?_
  refine KV rfl rfl (KC rfl) (Nb rfl) ?_
  refine KV rfl rfl (KAU Try.underlying29 rfl) (Nb rfl) ?_
  refine KV rfl rfl (KO rfl rfl (KAQ (by omega))) (Nb rfl) ?_
  refine KV rfl rfl (KC rfl) (Nb rfl) ?_
  refine KV rfl rfl (KAU Try.underlying29 rfl) (Nb rfl) ?_
  refine KV rfl rfl (KO rfl rfl (KAQ (by omega))) (Nb rfl) ?_
  refine KV rfl rfl (KO (v:=.bool false) rfl rfl (br_f (KAq (b:=0)) (tr_sum (V:=V) hall0))) (Nb rfl) ?_
  refine KA (Ku rfl rfl) (Nb rfl) ?_
  refine KG ?_
  refine Kj rfl ?_
  refine Kh ?_
  refine KE ?_
  refine KE ?_
  by_cases hz0:T.2.2.val = 0
  ·
    obtain ⟨hPi,hx0⟩:=tr_inf hok hT (Fin.ext hz0)
    subst hPi
    refine KB ?_
    refine KA (KC rfl) (Nb rfl) ?_
    refine KA (KAU Try.underlying29 rfl) (Nb rfl) ?_
    refine KA (KO (v:=.bool true) rfl rfl (br_t (KAq (b:=0)) (nw_eq_zero.2 hz0))) (Nb rfl) ?_
    refine KG ?_
    refine Ks rfl ?_
    refine KE (KB ?_)
    refine KA (KU (KAI pl_73 zr_73 rfl rfl) (show _ = rpV (.slice none 0 0) (.slice none 0 0) (true) from rfl)) (Nb rfl) ?_
    refine KA (KC rfl) (Nb rfl) ?_
    refine KA (KAU Try.underlying29 rfl) (Nb rfl) ?_
    refine KA (KO (v:=.bool true) rfl rfl (br_t (KAq (b:=0)) (nw_eq_zero.2 (congrArg Fin.val hx0)))) (Nb rfl) ?_
    refine KI rfl (KP rfl rfl sz_73 (by repeat (first|exact KX|refine KT rfl ?_)) (by repeat (first|exact Sh _|apply St_)) (by rfl) ?_)
    refine KA (KF rfl) (Nb rfl) ?_
    refine KG (Ka ?_)
    refine ⟨[_,_],.cons ⟨_,_,_,rfl,(by repeat (first|exact Mh _|apply Mt)),by exact KK Try.underlying73 rfl sz_73⟩ (.cons rfl .nil),fun a w' hr=>⟨⟨true,0,0⟩,⟨true,0,0⟩,congrArg (fun l:List Value=>Ending.returned (.tuple #[.agg l.toArray,.bool true])) rp_nil,KAZ _,nfr_zero _ _,KAZ _,nfr_zero _ _,hr.fr.below⟩⟩
  ·
    obtain ⟨e1,e2,e3⟩:=tr_val hok hT (fin_ne0 hz0)
    have hzp:=T.2.2.isLt
    refine KB ?_
    refine KA (KC rfl) (Nb rfl) ?_
    refine KA (KAU Try.underlying29 rfl) (Nb rfl) ?_
    refine KA (KO (v:=.bool false) rfl rfl (br_f (KAq (b:=0)) (fun e=>hz0 (nw_eq_zero.1 e)))) (Nb rfl) ?_
    refine KG ?_
    refine Kj rfl ?_
    refine Kh ?_
    refine KE (KB ?_)
    refine KA (KC rfl) (Nb rfl) ?_
    refine KA (KM (o':=1) Try.underlying31 rfl rfl rfl sz_29 (by decide)) (Nb rfl) ?_
    refine LOps.det (KJ rfl (by repeat (first|exact Mh _|apply Mt)) (Kb Try.underlying29 rfl (by first|rfl|exact Kv _ _ _ (by omega)|exact Kr _ (by omega)|exact Ko _ (by omega)|exact dv_m _ _ _ (by omega)))) (Nb rfl) ?_
    refine KI rfl (KS (Kp (first:=[]) rfl en_125 rfl (Nb rfl) (fun w hw hs=>(c_n_Inverse qz Q.p (T.2.2.val) V.p w (hw _ (by repeat (first|exact Mh _|apply Mt))) (KAt (hw _ (by repeat (first|exact Mh _|apply Mt)))) (by omega) (by omega) (by omega) (hok.prime.cop (fun hd=>hz0 (Nat.eq_zero_of_dvd_of_lt hd hzp)))).mono fun e w' h=>KAf (Old.nil _) hs h) ?_))
    rintro _ _ ⟨qi,rfl,rfl,hni⟩
    refine KA (KC rfl) (Nb rfl) ?_
    refine KA (KW rfl rfl) (Nb rfl) ?_
    refine KA (KW rfl rfl) (Nb rfl) ?_
    refine KA (KF rfl) (Nb rfl) ?_
    refine KA (KF rfl) (Nb rfl) ?_
    refine KG ?_
    refine KE ?_
    refine Ke [12] (by kernel_rfl) ?_
    refine KD 0 rfl (by kernel_rfl) (Nb rfl) (KC rfl) ?_
    refine KD 1 rfl (by kernel_rfl) (Nb rfl) (KC rfl) ?_
    refine KD 2 rfl (by kernel_rfl) (Nb rfl) (KM (o':=1) Try.underlying31 rfl rfl rfl sz_29 (by decide)) ?_
    refine LAny.take 3 rfl (by kernel_rfl) (Nb rfl) (KJ rfl (by repeat (first|exact Mh _|apply Mt)) (Kb Try.underlying29 rfl (by first|rfl|exact Kv _ _ _ (by omega)|exact Kr _ (by omega)|exact Ko _ (by omega)|exact dv_m _ _ _ (by omega)))) ?_
    refine KD 5 rfl (by kernel_rfl) (Nb rfl) (KC rfl) ?_
    refine KD 6 rfl (by kernel_rfl) (Nb rfl) (KC rfl) ?_
    refine KD 7 rfl (by kernel_rfl) (Nb rfl) (KM (o':=1) Try.underlying31 rfl rfl rfl sz_29 (by decide)) ?_
    refine LAny.take 8 rfl (by kernel_rfl) (Nb rfl) (KJ rfl (by repeat (first|exact Mh _|apply Mt)) (Kb Try.underlying29 rfl (by first|rfl|exact Kv _ _ _ (by omega)|exact Kr _ (by omega)|exact Ko _ (by omega)|exact dv_m _ _ _ (by omega)))) ?_
    refine LAny.toP ?_
    refine KAa 11 rfl (.inl zr_73) (Nb rfl) rfl rfl rfl ?_
    refine KAF 4 rfl rfl rfl (Nb rfl) (by kernel_rfl) rfl (LExt.callZ (first:=[]) rfl en_71 rfl (fun w hw hs=>(c_n_MulMod qx qi Q.p (T.1.val) (invM (T.2.2.val) V.p) V.p hp0 w (hw _ (by repeat (first|exact Mh _|apply Mt))) (hw _ (by repeat (first|exact Mh _|apply Mt))) (KAt (hw _ (by repeat (first|exact Mh _|apply Mt)))) (by omega) (h17 (invM_lt hpp))).mono fun e w' h=>KAf (Old.nil _) hs h)) ?_
    rintro _ _ ⟨qu,rfl,rfl,hnu⟩
    refine KAF 9 rfl rfl rfl (Nb rfl) (by kernel_rfl) rfl (LExt.callZ (first:=[]) rfl en_71 rfl (fun w hw hs=>(c_n_MulMod qy qi Q.p (T.2.1.val) (invM (T.2.2.val) V.p) V.p hp0 w (hw _ (by repeat (first|exact Mh _|apply Mt))) (hw _ (by repeat (first|exact Mh _|apply Mt))) (KAt (hw _ (by repeat (first|exact Mh _|apply Mt)))) (by omega) (h17 (invM_lt hpp))).mono fun e w' h=>KAf (Old.nil _) hs h)) ?_
    rintro _ _ ⟨qv,rfl,rfl,hnv⟩
    refine KAm 10 rfl (by kernel_rfl) (Nb rfl) rfl (KU (KAI pl_73 zr_73 rfl rfl) (show _ = rpV (numV qu (T.1.val*invM T.2.2.val V.p%V.p)) (numV qv (T.2.1.val*invM T.2.2.val V.p%V.p)) (false) from rfl)) ?_
    refine KAy (by kernel_rfl) (fun b11=>?_)
    refine KAs ?_
    refine Kx 12 rfl rfl (by kernel_rfl) (by kernel_rfl) (KP rfl rfl sz_73 (by repeat (first|exact KX|refine KT rfl ?_)) (by repeat (first|exact Sh _|apply St_)) (by rfl) ?_)
    refine Kq (by kernel_rfl) ?_
    refine KE ?_
    rw [e1] at hnu
    rw [e2] at hnv
    rw [e1,e2]
    refine Ke [4] (by kernel_rfl) ?_
    refine LAny.take 0 rfl (by kernel_rfl) (Nb rfl) (KJ rfl (by repeat (first|exact Mh _|apply Mt)) (by exact KK Try.underlying73 rfl sz_73)) ?_
    refine LAny.takeW [3,4,5] 1 rfl (by kernel_rfl) (Nb rfl) (KJ rfl (by repeat (first|exact Mh _|apply Mt)) (by exact KK Try.underlying31 rfl sz_31)) ?_
    refine KAA 2 rfl rfl (by kernel_rfl) (LStep.det (KJ rfl (by repeat (first|exact Mh _|apply Mt)) (by exact KK Try.underlying73 rfl sz_73)) (Nb rfl) ?_)
    refine KAA 3 rfl rfl (by kernel_rfl) (KQ (first:=[]) rfl en_62 rfl (Nb rfl) (fun w hw=>c_r_OnB Q V qu qv (xv P) (yv P) false true w (hw _ (by repeat (first|exact Mh _|apply Mt))) hok (hw _ (by repeat (first|exact Mh _|apply Mt))) (hw _ (by repeat (first|exact Mh _|apply Mt))) (Nat.le_trans (nw_521 (Nat.lt_trans (xv_lt P) hb521)) (by decide)) (Nat.le_trans (nw_521 (Nat.lt_trans (yv_lt P) hb521)) (by decide)) (by rw [← e3]; exact onB_on hT.on)) ?_)
    refine Kx 4 rfl rfl (by kernel_rfl) (by kernel_rfl) (KP rfl rfl sz_73 (by repeat (first|exact KX|refine KT rfl ?_)) (by repeat (first|exact Sh _|apply St_)) (by rfl) ?_)
    refine KD 5 rfl (by kernel_rfl) (Nb rfl) (KF rfl) ?_
    refine Kq (by kernel_rfl) ?_
    refine Ka ?_
    refine ⟨[_,_],.cons ⟨_,_,_,rfl,(by repeat (first|exact Mh _|apply Mt)),by exact KK Try.underlying73 rfl sz_73⟩ (.cons rfl .nil),fun a w' hr=>?_⟩
    show Num2R w [] (xv P) (yv P) (fun u v=>.tuple #[rpV u v (iv P),.bool true]) _ _
    rw [e3]
    exact hr.num2Q (q:=qu) (r:=qv) (mk:=fun u v=>.tuple #[rpV u v false,.bool true]) (by repeat (first|exact Mh _|apply Mt)) hnu (by repeat (first|exact Mh _|apply Mt)) hnv
theorem c_triple_no (Q:CQ) (V:Cv) (X Y Z:Nat) (w:World) (hc:(crvI Q V).holds w) (hok:V.Ok) (hX:X<W9) (hY:Y<W9) (hZ:Z<W9) (hn:¬ TrHas V X Y Z):Calls Try.prog 85 ([.agg (crvL Q V).toArray,pjV X Y Z]:List Value).toArray w (fun e w'=>∃ X' Y' i,Num2R w [] X' Y' (fun u v=>.tuple #[rpV u v i,.bool false]) e w'):=by
  obtain ⟨hb5,hb521,hba,hbb,hbx,hby,hbn,hbo,hbo2,hbb1,hbn1⟩:=hok.bounds
  have hsz:=hok.sz
  have hsp:=hsz.p
  have hsa:=hsz.a
  have hsb:=hsz.b
  have hp0:V.p≠0:=by omega
  have hpp:0<V.p:=by omega
  have hm17:∀ k,D.nw (k%V.p)≤17:=fun k=>Nat.le_trans (D.nw_mono (Nat.le_of_lt (Nat.mod_lt k hpp))) hsp
  have h17:∀ {A:Nat},A<V.p→D.nw A≤100000:=fun h=>Nat.le_trans (nw_521 (Nat.lt_trans h hb521)) (by decide)
  have hpW:V.p<W9:=w9_521 hb521
  have hdx:=nw_w9_dig hX
  have hdy:=nw_w9_dig hY
  have hdz:=nw_w9_dig hZ
  refine KAC (N:=81) (rs:=[.cell 4 73,.tmp 5]) [crvI Q V] Try.func85 rfl Try.ntmps85 Try.results85 (Nb rfl) ⟨hc,trivial⟩ rfl ?_
  show LCode _ _ _ ⟨_,_⟩ _
  refine KE (KB ?_)
  refine KI rfl (KS (KR (Kz rfl) (Nb rfl) (fun b2=>?_)))
  refine KI rfl (KS (KR (Kz rfl) (Nb rfl) (fun b3=>?_)))
  refine KI rfl (KS (KR (Kc zr_73) (Nb rfl) (fun b4=>?_)))
  refine KA (KF rfl) (Nb rfl) ?_
  refine KG ?_
  refine KE ?_
  refine Ke [] (by kernel_rfl) ?_
  refine KD 0 rfl (by kernel_rfl) (Nb rfl) (KM (o':=0) Try.underlying91 rfl rfl rfl sz_25 (by decide)) ?_
  refine LAny.take 1 rfl (by kernel_rfl) (Nb rfl) (KJ rfl (by repeat (first|exact Mh _|apply Mt)) (by exact KAO Try.underlying25 rfl sz_25 rfl (KH _))) ?_
  refine KD 3 rfl (by kernel_rfl) (Nb rfl) (KM (o':=9) Try.underlying91 rfl rfl rfl sz_25 (by decide)) ?_
  refine LAny.take 4 rfl (by kernel_rfl) (Nb rfl) (KJ rfl (by repeat (first|exact Mh _|apply Mt)) (by exact KAi Try.underlying25 rfl sz_25 rfl (KH _) (KH _))) ?_
  refine KD 6 rfl (by kernel_rfl) (Nb rfl) (KM (o':=18) Try.underlying91 rfl rfl rfl sz_25 (by decide)) ?_
  refine LAny.take 7 rfl (by kernel_rfl) (Nb rfl) (KJ rfl (by repeat (first|exact Mh _|apply Mt)) (by exact pj_ld2 _ _ _ _ _ _)) ?_
  refine KAA 2 rfl rfl (by kernel_rfl) (Kp (first:=[]) rfl en_52 rfl (Nb rfl) (fun w hw hs=>(c_n_From (X) hX w).mono fun e w' h=>KAf (Old.nil _) hs h) ?_)
  rintro _ _ ⟨qx,rfl,rfl,hnx⟩
  refine KAA 5 rfl rfl (by kernel_rfl) (Kp (first:=[]) rfl en_52 rfl (Nb rfl) (fun w hw hs=>(c_n_From (Y) hY w).mono fun e w' h=>KAf (Old.nil _) hs h) ?_)
  rintro _ _ ⟨qy,rfl,rfl,hny⟩
  refine KAA 8 rfl rfl (by kernel_rfl) (Kp (first:=[]) rfl en_52 rfl (Nb rfl) (fun w hw hs=>(c_n_From (Z) hZ w).mono fun e w' h=>KAf (Old.nil _) hs h) ?_)
  rintro _ _ ⟨qz,rfl,rfl,hnz⟩
  refine KD 9 rfl (by kernel_rfl) (Nb rfl) (KF rfl) ?_
  refine KD 10 rfl (by kernel_rfl) (Nb rfl) (KF rfl) ?_
  refine KD 11 rfl (by kernel_rfl) (Nb rfl) (KF rfl) ?_
  refine Kq (by kernel_rfl) ?_
  refine KE ?_
  refine KE ?_
  rcases (show (¬ X<V.p)∨(X<V.p∧¬ Y<V.p)∨(X<V.p∧Y<V.p∧¬ Z<V.p)∨((X<V.p∧Y<V.p∧Z<V.p)∧(X = 0∧Y = 0∧Z = 0))∨((X<V.p∧Y<V.p∧Z<V.p)∧¬ (X = 0∧Y = 0∧Z = 0)∧Z = 0)∨((X<V.p∧Y<V.p∧Z<V.p)∧¬ (X = 0∧Y = 0∧Z = 0)∧Z≠0) by omega) with h1|⟨h1,h2⟩|⟨h1,h2,h3⟩|⟨⟨h1,h2,h3⟩,h4⟩|⟨⟨h1,h2,h3⟩,h4,hz0⟩|⟨⟨h1,h2,h3⟩,h4,hz0⟩
  ·
    refine KB ?_
    refine KA (KC rfl) (Nb rfl) ?_
    refine KA (KM (o':=1) Try.underlying31 rfl rfl rfl sz_29 (by decide)) (Nb rfl) ?_
    refine LOps.det (KJ rfl (by repeat (first|exact Mh _|apply Mt)) (Kb Try.underlying29 rfl (by first|rfl|exact Kv _ _ _ (by omega)|exact Kr _ (by omega)|exact Ko _ (by omega)|exact dv_m _ _ _ (by omega)))) (Nb rfl) ?_
    refine KI rfl (KS (KQ (first:=[]) rfl en_70 rfl (Nb rfl) (fun w hw=>KBA qx Q.p X V.p w (hw _ (by repeat (first|exact Mh _|apply Mt))) (KAt (hw _ (by repeat (first|exact Mh _|apply Mt)))) (by omega)) ?_))
    refine KA (KO (v:=.bool true) rfl rfl (br_t cmp_geq (Nat.le_of_not_lt h1))) (Nb rfl) ?_
    refine KA (KC rfl) (Nb rfl) ?_
    refine Ki rfl rfl rfl (Nb rfl) ?_
    refine Ki rfl rfl rfl (Nb rfl) ?_
    refine Ki rfl rfl rfl (Nb rfl) ?_
    refine Ki rfl rfl rfl (Nb rfl) ?_
    refine Ki rfl rfl rfl (Nb rfl) ?_
    refine KA (Kt rfl rfl) (Nb rfl) ?_
    refine KA (KC rfl) (Nb rfl) ?_
    refine Ki rfl rfl rfl (Nb rfl) ?_
    refine Ki rfl rfl rfl (Nb rfl) ?_
    refine Ki rfl rfl rfl (Nb rfl) ?_
    refine Ki rfl rfl rfl (Nb rfl) ?_
    refine Ki rfl rfl rfl (Nb rfl) ?_
    refine KA (Kt rfl rfl) (Nb rfl) ?_
    refine KA (KC rfl) (Nb rfl) ?_
    refine Ki rfl rfl rfl (Nb rfl) ?_
    refine Ki rfl rfl rfl (Nb rfl) ?_
    refine Ki rfl rfl rfl (Nb rfl) ?_
    refine Ki rfl rfl rfl (Nb rfl) ?_
    refine Ki rfl rfl rfl (Nb rfl) ?_
    refine Ki rfl rfl rfl (Nb rfl) ?_
    refine Ki rfl rfl rfl (Nb rfl) ?_
    refine Ki rfl rfl rfl (Nb rfl) ?_
    refine Ki rfl rfl rfl (Nb rfl) ?_
    refine KA (Kt rfl rfl) (Nb rfl) ?_
    refine KG ?_
    refine Ks rfl ?_
    refine KE (KB ?_)
    refine KA (KU (KAI pl_73 zr_73 rfl rfl) (show _ = rpV (.slice none 0 0) (.slice none 0 0) (false) from rfl)) (Nb rfl) ?_
    refine KI rfl (KP rfl rfl sz_73 (by repeat (first|exact KX|refine KT rfl ?_)) (by repeat (first|exact Sh _|apply St_)) (by rfl) ?_)
    refine KA (KF rfl) (Nb rfl) ?_
    refine KG (Ka ?_)
    refine ⟨[_,_],.cons ⟨_,_,_,rfl,(by repeat (first|exact Mh _|apply Mt)),by exact KK Try.underlying73 rfl sz_73⟩ (.cons rfl .nil),fun a w' hr=>⟨0,0,false,⟨⟨true,0,0⟩,⟨true,0,0⟩,congrArg (fun l:List Value=>Ending.returned (.tuple #[.agg l.toArray,.bool false])) (show rpL (.slice none 0 0) (.slice none 0 0) false = rpL (numV ⟨true,0,0⟩ 0) (numV ⟨true,0,0⟩ 0) false by rw [← Option.some.inj numV_nil]),KAZ _,nfr_zero _ _,KAZ _,nfr_zero _ _,hr.fr.below⟩⟩⟩
  ·
    refine KB ?_
    refine KA (KC rfl) (Nb rfl) ?_
    refine KA (KM (o':=1) Try.underlying31 rfl rfl rfl sz_29 (by decide)) (Nb rfl) ?_
    refine LOps.det (KJ rfl (by repeat (first|exact Mh _|apply Mt)) (Kb Try.underlying29 rfl (by first|rfl|exact Kv _ _ _ (by omega)|exact Kr _ (by omega)|exact Ko _ (by omega)|exact dv_m _ _ _ (by omega)))) (Nb rfl) ?_
    refine KI rfl (KS (KQ (first:=[]) rfl en_70 rfl (Nb rfl) (fun w hw=>KBA qx Q.p X V.p w (hw _ (by repeat (first|exact Mh _|apply Mt))) (KAt (hw _ (by repeat (first|exact Mh _|apply Mt)))) (by omega)) ?_))
    refine KA (KO (v:=.bool false) rfl rfl (br_f cmp_geq (Nat.not_le_of_gt h1))) (Nb rfl) ?_
    refine KA (KC rfl) (Nb rfl) ?_
    refine KV rfl rfl (KC rfl) (Nb rfl) ?_
    refine KV rfl rfl (KM (o':=1) Try.underlying31 rfl rfl rfl sz_29 (by decide)) (Nb rfl) ?_
    refine KAN rfl rfl (KJ rfl (by repeat (first|exact Mh _|apply Mt)) (Kb Try.underlying29 rfl (by first|rfl|exact Kv _ _ _ (by omega)|exact Kr _ (by omega)|exact Ko _ (by omega)|exact dv_m _ _ _ (by omega)))) (Nb rfl) ?_
    refine KAS rfl rfl rfl (KS (KQ (first:=[]) rfl en_70 rfl (Nb rfl) (fun w hw=>KBA qy Q.p Y V.p w (hw _ (by repeat (first|exact Mh _|apply Mt))) (KAt (hw _ (by repeat (first|exact Mh _|apply Mt)))) (by omega)) ?_))
    refine KV rfl rfl (KO (v:=.bool true) rfl rfl (br_t cmp_geq (Nat.le_of_not_lt h2))) (Nb rfl) ?_
    refine KA (Ku rfl rfl) (Nb rfl) ?_
    refine KA (KC rfl) (Nb rfl) ?_
    refine Ki rfl rfl rfl (Nb rfl) ?_
    refine Ki rfl rfl rfl (Nb rfl) ?_
    refine Ki rfl rfl rfl (Nb rfl) ?_
    refine Ki rfl rfl rfl (Nb rfl) ?_
    refine Ki rfl rfl rfl (Nb rfl) ?_
    refine KA (Kt rfl rfl) (Nb rfl) ?_
    refine KA (KC rfl) (Nb rfl) ?_
    refine Ki rfl rfl rfl (Nb rfl) ?_
    refine Ki rfl rfl rfl (Nb rfl) ?_
    refine Ki rfl rfl rfl (Nb rfl) ?_
    refine Ki rfl rfl rfl (Nb rfl) ?_
    refine Ki rfl rfl rfl (Nb rfl) ?_
    refine Ki rfl rfl rfl (Nb rfl) ?_
    refine Ki rfl rfl rfl (Nb rfl) ?_
    refine Ki rfl rfl rfl (Nb rfl) ?_
    refine Ki rfl rfl rfl (Nb rfl) ?_
    refine KA (Kt rfl rfl) (Nb rfl) ?_
    refine KG ?_
    refine Ks rfl ?_
    refine KE (KB ?_)
    refine KA (KU (KAI pl_73 zr_73 rfl rfl) (show _ = rpV (.slice none 0 0) (.slice none 0 0) (false) from rfl)) (Nb rfl) ?_
    refine KI rfl (KP rfl rfl sz_73 (by repeat (first|exact KX|refine KT rfl ?_)) (by repeat (first|exact Sh _|apply St_)) (by rfl) ?_)
    refine KA (KF rfl) (Nb rfl) ?_
    refine KG (Ka ?_)
    refine ⟨[_,_],.cons ⟨_,_,_,rfl,(by repeat (first|exact Mh _|apply Mt)),by exact KK Try.underlying73 rfl sz_73⟩ (.cons rfl .nil),fun a w' hr=>⟨0,0,false,⟨⟨true,0,0⟩,⟨true,0,0⟩,congrArg (fun l:List Value=>Ending.returned (.tuple #[.agg l.toArray,.bool false])) (show rpL (.slice none 0 0) (.slice none 0 0) false = rpL (numV ⟨true,0,0⟩ 0) (numV ⟨true,0,0⟩ 0) false by rw [← Option.some.inj numV_nil]),KAZ _,nfr_zero _ _,KAZ _,nfr_zero _ _,hr.fr.below⟩⟩⟩
  ·
    refine KB ?_
    refine KA (KC rfl) (Nb rfl) ?_
    refine KA (KM (o':=1) Try.underlying31 rfl rfl rfl sz_29 (by decide)) (Nb rfl) ?_
    refine LOps.det (KJ rfl (by repeat (first|exact Mh _|apply Mt)) (Kb Try.underlying29 rfl (by first|rfl|exact Kv _ _ _ (by omega)|exact Kr _ (by omega)|exact Ko _ (by omega)|exact dv_m _ _ _ (by omega)))) (Nb rfl) ?_
    refine KI rfl (KS (KQ (first:=[]) rfl en_70 rfl (Nb rfl) (fun w hw=>KBA qx Q.p X V.p w (hw _ (by repeat (first|exact Mh _|apply Mt))) (KAt (hw _ (by repeat (first|exact Mh _|apply Mt)))) (by omega)) ?_))
    refine KA (KO (v:=.bool false) rfl rfl (br_f cmp_geq (Nat.not_le_of_gt h1))) (Nb rfl) ?_
    refine KA (KC rfl) (Nb rfl) ?_
    refine KV rfl rfl (KC rfl) (Nb rfl) ?_
    refine KV rfl rfl (KM (o':=1) Try.underlying31 rfl rfl rfl sz_29 (by decide)) (Nb rfl) ?_
    refine KAN rfl rfl (KJ rfl (by repeat (first|exact Mh _|apply Mt)) (Kb Try.underlying29 rfl (by first|rfl|exact Kv _ _ _ (by omega)|exact Kr _ (by omega)|exact Ko _ (by omega)|exact dv_m _ _ _ (by omega)))) (Nb rfl) ?_
    refine KAS rfl rfl rfl (KS (KQ (first:=[]) rfl en_70 rfl (Nb rfl) (fun w hw=>KBA qy Q.p Y V.p w (hw _ (by repeat (first|exact Mh _|apply Mt))) (KAt (hw _ (by repeat (first|exact Mh _|apply Mt)))) (by omega)) ?_))
    refine KV rfl rfl (KO (v:=.bool false) rfl rfl (br_f cmp_geq (Nat.not_le_of_gt h2))) (Nb rfl) ?_
    refine KA (Ku rfl rfl) (Nb rfl) ?_
    refine KA (KC rfl) (Nb rfl) ?_
    refine KV rfl rfl (KC rfl) (Nb rfl) ?_
    refine KV rfl rfl (KM (o':=1) Try.underlying31 rfl rfl rfl sz_29 (by decide)) (Nb rfl) ?_
    refine KAN rfl rfl (KJ rfl (by repeat (first|exact Mh _|apply Mt)) (Kb Try.underlying29 rfl (by first|rfl|exact Kv _ _ _ (by omega)|exact Kr _ (by omega)|exact Ko _ (by omega)|exact dv_m _ _ _ (by omega)))) (Nb rfl) ?_
    refine KAS rfl rfl rfl (KS (KQ (first:=[]) rfl en_70 rfl (Nb rfl) (fun w hw=>KBA qz Q.p Z V.p w (hw _ (by repeat (first|exact Mh _|apply Mt))) (KAt (hw _ (by repeat (first|exact Mh _|apply Mt)))) (by omega)) ?_))
    refine KV rfl rfl (KO (v:=.bool true) rfl rfl (br_t cmp_geq (Nat.le_of_not_lt h3))) (Nb rfl) ?_
    refine KA (Ku rfl rfl) (Nb rfl) ?_
    refine KA (KC rfl) (Nb rfl) ?_
    refine Ki rfl rfl rfl (Nb rfl) ?_
    refine Ki rfl rfl rfl (Nb rfl) ?_
    refine Ki rfl rfl rfl (Nb rfl) ?_
    refine Ki rfl rfl rfl (Nb rfl) ?_
    refine Ki rfl rfl rfl (Nb rfl) ?_
    refine Ki rfl rfl rfl (Nb rfl) ?_
    refine Ki rfl rfl rfl (Nb rfl) ?_
    refine Ki rfl rfl rfl (Nb rfl) ?_
    refine Ki rfl rfl rfl (Nb rfl) ?_
    refine KA (Kt rfl rfl) (Nb rfl) ?_
    refine KG ?_
    refine Ks rfl ?_
    refine KE (KB ?_)
    refine KA (KU (KAI pl_73 zr_73 rfl rfl) (show _ = rpV (.slice none 0 0) (.slice none 0 0) (false) from rfl)) (Nb rfl) ?_
    refine KI rfl (KP rfl rfl sz_73 (by repeat (first|exact KX|refine KT rfl ?_)) (by repeat (first|exact Sh _|apply St_)) (by rfl) ?_)
    refine KA (KF rfl) (Nb rfl) ?_
    refine KG (Ka ?_)
    refine ⟨[_,_],.cons ⟨_,_,_,rfl,(by repeat (first|exact Mh _|apply Mt)),by exact KK Try.underlying73 rfl sz_73⟩ (.cons rfl .nil),fun a w' hr=>⟨0,0,false,⟨⟨true,0,0⟩,⟨true,0,0⟩,congrArg (fun l:List Value=>Ending.returned (.tuple #[.agg l.toArray,.bool false])) (show rpL (.slice none 0 0) (.slice none 0 0) false = rpL (numV ⟨true,0,0⟩ 0) (numV ⟨true,0,0⟩ 0) false by rw [← Option.some.inj numV_nil]),KAZ _,nfr_zero _ _,KAZ _,nfr_zero _ _,hr.fr.below⟩⟩⟩
  ·
    refine KB ?_
    refine KA (KC rfl) (Nb rfl) ?_
    refine KA (KM (o':=1) Try.underlying31 rfl rfl rfl sz_29 (by decide)) (Nb rfl) ?_
    refine LOps.det (KJ rfl (by repeat (first|exact Mh _|apply Mt)) (Kb Try.underlying29 rfl (by first|rfl|exact Kv _ _ _ (by omega)|exact Kr _ (by omega)|exact Ko _ (by omega)|exact dv_m _ _ _ (by omega)))) (Nb rfl) ?_
    refine KI rfl (KS (KQ (first:=[]) rfl en_70 rfl (Nb rfl) (fun w hw=>KBA qx Q.p X V.p w (hw _ (by repeat (first|exact Mh _|apply Mt))) (KAt (hw _ (by repeat (first|exact Mh _|apply Mt)))) (by omega)) ?_))
    refine KA (KO (v:=.bool false) rfl rfl (br_f cmp_geq (Nat.not_le_of_gt h1))) (Nb rfl) ?_
    refine KA (KC rfl) (Nb rfl) ?_
    refine KV rfl rfl (KC rfl) (Nb rfl) ?_
    refine KV rfl rfl (KM (o':=1) Try.underlying31 rfl rfl rfl sz_29 (by decide)) (Nb rfl) ?_
    refine KAN rfl rfl (KJ rfl (by repeat (first|exact Mh _|apply Mt)) (Kb Try.underlying29 rfl (by first|rfl|exact Kv _ _ _ (by omega)|exact Kr _ (by omega)|exact Ko _ (by omega)|exact dv_m _ _ _ (by omega)))) (Nb rfl) ?_
    refine KAS rfl rfl rfl (KS (KQ (first:=[]) rfl en_70 rfl (Nb rfl) (fun w hw=>KBA qy Q.p Y V.p w (hw _ (by repeat (first|exact Mh _|apply Mt))) (KAt (hw _ (by repeat (first|exact Mh _|apply Mt)))) (by omega)) ?_))
    refine KV rfl rfl (KO (v:=.bool false) rfl rfl (br_f cmp_geq (Nat.not_le_of_gt h2))) (Nb rfl) ?_
    refine KA (Ku rfl rfl) (Nb rfl) ?_
    refine KA (KC rfl) (Nb rfl) ?_
    refine KV rfl rfl (KC rfl) (Nb rfl) ?_
    refine KV rfl rfl (KM (o':=1) Try.underlying31 rfl rfl rfl sz_29 (by decide)) (Nb rfl) ?_
    refine KAN rfl rfl (KJ rfl (by repeat (first|exact Mh _|apply Mt)) (Kb Try.underlying29 rfl (by first|rfl|exact Kv _ _ _ (by omega)|exact Kr _ (by omega)|exact Ko _ (by omega)|exact dv_m _ _ _ (by omega)))) (Nb rfl) ?_
    refine KAS rfl rfl rfl (KS (KQ (first:=[]) rfl en_70 rfl (Nb rfl) (fun w hw=>KBA qz Q.p Z V.p w (hw _ (by repeat (first|exact Mh _|apply Mt))) (KAt (hw _ (by repeat (first|exact Mh _|apply Mt)))) (by omega)) ?_))
    refine KV rfl rfl (KO (v:=.bool false) rfl rfl (br_f cmp_geq (Nat.not_le_of_gt h3))) (Nb rfl) ?_
    refine KA (Ku rfl rfl) (Nb rfl) ?_
    refine KA (KC rfl) (Nb rfl) ?_
    refine KV rfl rfl (KC rfl) (Nb rfl) ?_
    refine KV rfl rfl (KAU Try.underlying29 rfl) (Nb rfl) ?_
    refine KV rfl rfl (KC rfl) (Nb rfl) ?_
    refine KV rfl rfl (KAU Try.underlying29 rfl) (Nb rfl) ?_
    refine KV rfl rfl (KO rfl rfl (KAQ (by omega))) (Nb rfl) ?_
    refine KV rfl rfl (KC rfl) (Nb rfl) ?_
    refine KV rfl rfl (KAU Try.underlying29 rfl) (Nb rfl) ?_
    refine KV rfl rfl (KO rfl rfl (KAQ (by omega))) (Nb rfl) ?_
    refine KV rfl rfl (KO (v:=.bool true) rfl rfl (br_t (KAq (b:=0)) (by rw [h4.1,h4.2.1,h4.2.2,nw_zero]))) (Nb rfl) ?_
    refine KA (Ku rfl rfl) (Nb rfl) ?_
    refine KG ?_
    refine Ks rfl ?_
    refine KE (KB ?_)
    refine KA (KU (KAI pl_73 zr_73 rfl rfl) (show _ = rpV (.slice none 0 0) (.slice none 0 0) (false) from rfl)) (Nb rfl) ?_
    refine KI rfl (KP rfl rfl sz_73 (by repeat (first|exact KX|refine KT rfl ?_)) (by repeat (first|exact Sh _|apply St_)) (by rfl) ?_)
    refine KA (KF rfl) (Nb rfl) ?_
    refine KG (Ka ?_)
    refine ⟨[_,_],.cons ⟨_,_,_,rfl,(by repeat (first|exact Mh _|apply Mt)),by exact KK Try.underlying73 rfl sz_73⟩ (.cons rfl .nil),fun a w' hr=>⟨0,0,false,⟨⟨true,0,0⟩,⟨true,0,0⟩,congrArg (fun l:List Value=>Ending.returned (.tuple #[.agg l.toArray,.bool false])) (show rpL (.slice none 0 0) (.slice none 0 0) false = rpL (numV ⟨true,0,0⟩ 0) (numV ⟨true,0,0⟩ 0) false by rw [← Option.some.inj numV_nil]),KAZ _,nfr_zero _ _,KAZ _,nfr_zero _ _,hr.fr.below⟩⟩⟩
  ·
    have hx0:X≠0:=fun e=>by
      by_cases hy:Y = 0
      · exact h4 ⟨e,hy,hz0⟩
      · exact hn ⟨(0,⟨Y,h2⟩,0),e.symm,rfl,hz0.symm,Rep.has (P:=(.inf:Pt V.p)) (Rep.inf (fin_ne0 hy)) trivial⟩
    refine KB ?_
    refine KA (KC rfl) (Nb rfl) ?_
    refine KA (KM (o':=1) Try.underlying31 rfl rfl rfl sz_29 (by decide)) (Nb rfl) ?_
    refine LOps.det (KJ rfl (by repeat (first|exact Mh _|apply Mt)) (Kb Try.underlying29 rfl (by first|rfl|exact Kv _ _ _ (by omega)|exact Kr _ (by omega)|exact Ko _ (by omega)|exact dv_m _ _ _ (by omega)))) (Nb rfl) ?_
    refine KI rfl (KS (KQ (first:=[]) rfl en_70 rfl (Nb rfl) (fun w hw=>KBA qx Q.p X V.p w (hw _ (by repeat (first|exact Mh _|apply Mt))) (KAt (hw _ (by repeat (first|exact Mh _|apply Mt)))) (by omega)) ?_))
    refine KA (KO (v:=.bool false) rfl rfl (br_f cmp_geq (Nat.not_le_of_gt h1))) (Nb rfl) ?_
    refine KA (KC rfl) (Nb rfl) ?_
    refine KV rfl rfl (KC rfl) (Nb rfl) ?_
    refine KV rfl rfl (KM (o':=1) Try.underlying31 rfl rfl rfl sz_29 (by decide)) (Nb rfl) ?_
    refine KAN rfl rfl (KJ rfl (by repeat (first|exact Mh _|apply Mt)) (Kb Try.underlying29 rfl (by first|rfl|exact Kv _ _ _ (by omega)|exact Kr _ (by omega)|exact Ko _ (by omega)|exact dv_m _ _ _ (by omega)))) (Nb rfl) ?_
    refine KAS rfl rfl rfl (KS (KQ (first:=[]) rfl en_70 rfl (Nb rfl) (fun w hw=>KBA qy Q.p Y V.p w (hw _ (by repeat (first|exact Mh _|apply Mt))) (KAt (hw _ (by repeat (first|exact Mh _|apply Mt)))) (by omega)) ?_))
    refine KV rfl rfl (KO (v:=.bool false) rfl rfl (br_f cmp_geq (Nat.not_le_of_gt h2))) (Nb rfl) ?_
    refine KA (Ku rfl rfl) (Nb rfl) ?_
    refine KA (KC rfl) (Nb rfl) ?_
    refine KV rfl rfl (KC rfl) (Nb rfl) ?_
    refine KV rfl rfl (KM (o':=1) Try.underlying31 rfl rfl rfl sz_29 (by decide)) (Nb rfl) ?_
    refine KAN rfl rfl (KJ rfl (by repeat (first|exact Mh _|apply Mt)) (Kb Try.underlying29 rfl (by first|rfl|exact Kv _ _ _ (by omega)|exact Kr _ (by omega)|exact Ko _ (by omega)|exact dv_m _ _ _ (by omega)))) (Nb rfl) ?_
    refine KAS rfl rfl rfl (KS (KQ (first:=[]) rfl en_70 rfl (Nb rfl) (fun w hw=>KBA qz Q.p Z V.p w (hw _ (by repeat (first|exact Mh _|apply Mt))) (KAt (hw _ (by repeat (first|exact Mh _|apply Mt)))) (by omega)) ?_))
    refine KV rfl rfl (KO (v:=.bool false) rfl rfl (br_f cmp_geq (Nat.not_le_of_gt h3))) (Nb rfl) ?_
    refine KA (Ku rfl rfl) (Nb rfl) ?_
    refine KA (KC rfl) (Nb rfl) ?_
    refine KV rfl rfl (KC rfl) (Nb rfl) ?_
    refine KV rfl rfl (KAU Try.underlying29 rfl) (Nb rfl) ?_
    refine KV rfl rfl (KC rfl) (Nb rfl) ?_
    refine KV rfl rfl (KAU Try.underlying29 rfl) (Nb rfl) ?_
    refine KV rfl rfl (KO rfl rfl (KAQ (by omega))) (Nb rfl) ?_
    refine KV rfl rfl (KC rfl) (Nb rfl) ?_
    refine KV rfl rfl (KAU Try.underlying29 rfl) (Nb rfl) ?_
    refine KV rfl rfl (KO rfl rfl (KAQ (by omega))) (Nb rfl) ?_
    refine KV rfl rfl (KO (v:=.bool false) rfl rfl (br_f (KAq (b:=0)) (tr_sum (V:=V) h4))) (Nb rfl) ?_
    refine KA (Ku rfl rfl) (Nb rfl) ?_
    refine KG ?_
    refine Kj rfl ?_
    refine Kh ?_
    refine KE ?_
    refine KE (KB ?_)
    refine KA (KC rfl) (Nb rfl) ?_
    refine KA (KAU Try.underlying29 rfl) (Nb rfl) ?_
    refine KA (KO (v:=.bool true) rfl rfl (br_t (KAq (b:=0)) (nw_eq_zero.2 hz0))) (Nb rfl) ?_
    refine KG ?_
    refine Ks rfl ?_
    refine KE (KB ?_)
    refine KA (KU (KAI pl_73 zr_73 rfl rfl) (show _ = rpV (.slice none 0 0) (.slice none 0 0) (true) from rfl)) (Nb rfl) ?_
    refine KA (KC rfl) (Nb rfl) ?_
    refine KA (KAU Try.underlying29 rfl) (Nb rfl) ?_
    refine KA (KO (v:=.bool false) rfl rfl (br_f (KAq (b:=0)) (fun e=>hx0 (nw_eq_zero.1 e)))) (Nb rfl) ?_
    refine KI rfl (KP rfl rfl sz_73 (by repeat (first|exact KX|refine KT rfl ?_)) (by repeat (first|exact Sh _|apply St_)) (by rfl) ?_)
    refine KA (KF rfl) (Nb rfl) ?_
    refine KG (Ka ?_)
    refine ⟨[_,_],.cons ⟨_,_,_,rfl,(by repeat (first|exact Mh _|apply Mt)),by exact KK Try.underlying73 rfl sz_73⟩ (.cons rfl .nil),fun a w' hr=>⟨0,0,true,⟨⟨true,0,0⟩,⟨true,0,0⟩,congrArg (fun l:List Value=>Ending.returned (.tuple #[.agg l.toArray,.bool false])) rp_nil,KAZ _,nfr_zero _ _,KAZ _,nfr_zero _ _,hr.fr.below⟩⟩⟩
  ·
    have hzp:=h3
    have hoff:onB V.p V.a V.b (X*invM Z V.p%V.p) (Y*invM Z V.p%V.p) false = false:=tr_off (x:=⟨X,h1⟩) (y:=⟨Y,h2⟩) (z:=⟨Z,h3⟩) hok (fin_ne0 hz0) hn
    refine KB ?_
    refine KA (KC rfl) (Nb rfl) ?_
    refine KA (KM (o':=1) Try.underlying31 rfl rfl rfl sz_29 (by decide)) (Nb rfl) ?_
    refine LOps.det (KJ rfl (by repeat (first|exact Mh _|apply Mt)) (Kb Try.underlying29 rfl (by first|rfl|exact Kv _ _ _ (by omega)|exact Kr _ (by omega)|exact Ko _ (by omega)|exact dv_m _ _ _ (by omega)))) (Nb rfl) ?_
    refine KI rfl (KS (KQ (first:=[]) rfl en_70 rfl (Nb rfl) (fun w hw=>KBA qx Q.p X V.p w (hw _ (by repeat (first|exact Mh _|apply Mt))) (KAt (hw _ (by repeat (first|exact Mh _|apply Mt)))) (by omega)) ?_))
    refine KA (KO (v:=.bool false) rfl rfl (br_f cmp_geq (Nat.not_le_of_gt h1))) (Nb rfl) ?_
    refine KA (KC rfl) (Nb rfl) ?_
    refine KV rfl rfl (KC rfl) (Nb rfl) ?_
    refine KV rfl rfl (KM (o':=1) Try.underlying31 rfl rfl rfl sz_29 (by decide)) (Nb rfl) ?_
    refine KAN rfl rfl (KJ rfl (by repeat (first|exact Mh _|apply Mt)) (Kb Try.underlying29 rfl (by first|rfl|exact Kv _ _ _ (by omega)|exact Kr _ (by omega)|exact Ko _ (by omega)|exact dv_m _ _ _ (by omega)))) (Nb rfl) ?_
    refine KAS rfl rfl rfl (KS (KQ (first:=[]) rfl en_70 rfl (Nb rfl) (fun w hw=>KBA qy Q.p Y V.p w (hw _ (by repeat (first|exact Mh _|apply Mt))) (KAt (hw _ (by repeat (first|exact Mh _|apply Mt)))) (by omega)) ?_))
    refine KV rfl rfl (KO (v:=.bool false) rfl rfl (br_f cmp_geq (Nat.not_le_of_gt h2))) (Nb rfl) ?_
    refine KA (Ku rfl rfl) (Nb rfl) ?_
    refine KA (KC rfl) (Nb rfl) ?_
    refine KV rfl rfl (KC rfl) (Nb rfl) ?_
    refine KV rfl rfl (KM (o':=1) Try.underlying31 rfl rfl rfl sz_29 (by decide)) (Nb rfl) ?_
    refine KAN rfl rfl (KJ rfl (by repeat (first|exact Mh _|apply Mt)) (Kb Try.underlying29 rfl (by first|rfl|exact Kv _ _ _ (by omega)|exact Kr _ (by omega)|exact Ko _ (by omega)|exact dv_m _ _ _ (by omega)))) (Nb rfl) ?_
    refine KAS rfl rfl rfl (KS (KQ (first:=[]) rfl en_70 rfl (Nb rfl) (fun w hw=>KBA qz Q.p Z V.p w (hw _ (by repeat (first|exact Mh _|apply Mt))) (KAt (hw _ (by repeat (first|exact Mh _|apply Mt)))) (by omega)) ?_))
    refine KV rfl rfl (KO (v:=.bool false) rfl rfl (br_f cmp_geq (Nat.not_le_of_gt h3))) (Nb rfl) ?_
    refine KA (Ku rfl rfl) (Nb rfl) ?_
    refine KA (KC rfl) (Nb rfl) ?_
    refine KV rfl rfl (KC rfl) (Nb rfl) ?_
    refine KV rfl rfl (KAU Try.underlying29 rfl) (Nb rfl) ?_
    refine KV rfl rfl (KC rfl) (Nb rfl) ?_
    refine KV rfl rfl (KAU Try.underlying29 rfl) (Nb rfl) ?_
    refine KV rfl rfl (KO rfl rfl (KAQ (by omega))) (Nb rfl) ?_
    refine KV rfl rfl (KC rfl) (Nb rfl) ?_
    refine KV rfl rfl (KAU Try.underlying29 rfl) (Nb rfl) ?_
    refine KV rfl rfl (KO rfl rfl (KAQ (by omega))) (Nb rfl) ?_
    refine KV rfl rfl (KO (v:=.bool false) rfl rfl (br_f (KAq (b:=0)) (tr_sum (V:=V) h4))) (Nb rfl) ?_
    refine KA (Ku rfl rfl) (Nb rfl) ?_
    refine KG ?_
    refine Kj rfl ?_
    refine Kh ?_
    refine KE ?_
    refine KE (KB ?_)
    refine KA (KC rfl) (Nb rfl) ?_
    refine KA (KAU Try.underlying29 rfl) (Nb rfl) ?_
    refine KA (KO (v:=.bool false) rfl rfl (br_f (KAq (b:=0)) (fun e=>hz0 (nw_eq_zero.1 e)))) (Nb rfl) ?_
    refine KG ?_
    refine Kj rfl ?_
    refine Kh ?_
    refine KE (KB ?_)
    refine KA (KC rfl) (Nb rfl) ?_
    refine KA (KM (o':=1) Try.underlying31 rfl rfl rfl sz_29 (by decide)) (Nb rfl) ?_
    refine LOps.det (KJ rfl (by repeat (first|exact Mh _|apply Mt)) (Kb Try.underlying29 rfl (by first|rfl|exact Kv _ _ _ (by omega)|exact Kr _ (by omega)|exact Ko _ (by omega)|exact dv_m _ _ _ (by omega)))) (Nb rfl) ?_
    refine KI rfl (KS (Kp (first:=[]) rfl en_125 rfl (Nb rfl) (fun w hw hs=>(c_n_Inverse qz Q.p (Z) V.p w (hw _ (by repeat (first|exact Mh _|apply Mt))) (KAt (hw _ (by repeat (first|exact Mh _|apply Mt)))) (by omega) (by omega) (by omega) (hok.prime.cop (fun hd=>hz0 (Nat.eq_zero_of_dvd_of_lt hd hzp)))).mono fun e w' h=>KAf (Old.nil _) hs h) ?_))
    rintro _ _ ⟨qi,rfl,rfl,hni⟩
    refine KA (KC rfl) (Nb rfl) ?_
    refine KA (KW rfl rfl) (Nb rfl) ?_
    refine KA (KW rfl rfl) (Nb rfl) ?_
    refine KA (KF rfl) (Nb rfl) ?_
    refine KA (KF rfl) (Nb rfl) ?_
    refine KG ?_
    refine KE ?_
    refine Ke [12] (by kernel_rfl) ?_
    refine KD 0 rfl (by kernel_rfl) (Nb rfl) (KC rfl) ?_
    refine KD 1 rfl (by kernel_rfl) (Nb rfl) (KC rfl) ?_
    refine KD 2 rfl (by kernel_rfl) (Nb rfl) (KM (o':=1) Try.underlying31 rfl rfl rfl sz_29 (by decide)) ?_
    refine LAny.take 3 rfl (by kernel_rfl) (Nb rfl) (KJ rfl (by repeat (first|exact Mh _|apply Mt)) (Kb Try.underlying29 rfl (by first|rfl|exact Kv _ _ _ (by omega)|exact Kr _ (by omega)|exact Ko _ (by omega)|exact dv_m _ _ _ (by omega)))) ?_
    refine KD 5 rfl (by kernel_rfl) (Nb rfl) (KC rfl) ?_
    refine KD 6 rfl (by kernel_rfl) (Nb rfl) (KC rfl) ?_
    refine KD 7 rfl (by kernel_rfl) (Nb rfl) (KM (o':=1) Try.underlying31 rfl rfl rfl sz_29 (by decide)) ?_
    refine LAny.take 8 rfl (by kernel_rfl) (Nb rfl) (KJ rfl (by repeat (first|exact Mh _|apply Mt)) (Kb Try.underlying29 rfl (by first|rfl|exact Kv _ _ _ (by omega)|exact Kr _ (by omega)|exact Ko _ (by omega)|exact dv_m _ _ _ (by omega)))) ?_
    refine LAny.toP ?_
    refine KAa 11 rfl (.inl zr_73) (Nb rfl) rfl rfl rfl ?_
    refine KAF 4 rfl rfl rfl (Nb rfl) (by kernel_rfl) rfl (LExt.callZ (first:=[]) rfl en_71 rfl (fun w hw hs=>(c_n_MulMod qx qi Q.p (X) (invM (Z) V.p) V.p hp0 w (hw _ (by repeat (first|exact Mh _|apply Mt))) (hw _ (by repeat (first|exact Mh _|apply Mt))) (KAt (hw _ (by repeat (first|exact Mh _|apply Mt)))) (by omega) (h17 (invM_lt hpp))).mono fun e w' h=>KAf (Old.nil _) hs h)) ?_
    rintro _ _ ⟨qu,rfl,rfl,hnu⟩
    refine KAF 9 rfl rfl rfl (Nb rfl) (by kernel_rfl) rfl (LExt.callZ (first:=[]) rfl en_71 rfl (fun w hw hs=>(c_n_MulMod qy qi Q.p (Y) (invM (Z) V.p) V.p hp0 w (hw _ (by repeat (first|exact Mh _|apply Mt))) (hw _ (by repeat (first|exact Mh _|apply Mt))) (KAt (hw _ (by repeat (first|exact Mh _|apply Mt)))) (by omega) (h17 (invM_lt hpp))).mono fun e w' h=>KAf (Old.nil _) hs h)) ?_
    rintro _ _ ⟨qv,rfl,rfl,hnv⟩
    refine KAm 10 rfl (by kernel_rfl) (Nb rfl) rfl (KU (KAI pl_73 zr_73 rfl rfl) (show _ = rpV (numV qu (X*invM Z V.p%V.p)) (numV qv (Y*invM Z V.p%V.p)) (false) from rfl)) ?_
    refine KAy (by kernel_rfl) (fun b11=>?_)
    refine KAs ?_
    refine Kx 12 rfl rfl (by kernel_rfl) (by kernel_rfl) (KP rfl rfl sz_73 (by repeat (first|exact KX|refine KT rfl ?_)) (by repeat (first|exact Sh _|apply St_)) (by rfl) ?_)
    refine Kq (by kernel_rfl) ?_
    refine KE ?_
    refine Ke [4] (by kernel_rfl) ?_
    refine LAny.take 0 rfl (by kernel_rfl) (Nb rfl) (KJ rfl (by repeat (first|exact Mh _|apply Mt)) (by exact KK Try.underlying73 rfl sz_73)) ?_
    refine LAny.takeW [3,4,5] 1 rfl (by kernel_rfl) (Nb rfl) (KJ rfl (by repeat (first|exact Mh _|apply Mt)) (by exact KK Try.underlying31 rfl sz_31)) ?_
    refine KAA 2 rfl rfl (by kernel_rfl) (LStep.det (KJ rfl (by repeat (first|exact Mh _|apply Mt)) (by exact KK Try.underlying73 rfl sz_73)) (Nb rfl) ?_)
    refine KAA 3 rfl rfl (by kernel_rfl) (KQ (first:=[]) rfl en_62 rfl (Nb rfl) (fun w hw=>c_r_OnB Q V qu qv (X*invM Z V.p%V.p) (Y*invM Z V.p%V.p) false false w (hw _ (by repeat (first|exact Mh _|apply Mt))) hok (hw _ (by repeat (first|exact Mh _|apply Mt))) (hw _ (by repeat (first|exact Mh _|apply Mt))) (by have:=hm17 (X*invM Z V.p); omega) (by have:=hm17 (Y*invM Z V.p); omega) hoff) ?_)
    refine Kx 4 rfl rfl (by kernel_rfl) (by kernel_rfl) (KP rfl rfl sz_73 (by repeat (first|exact KX|refine KT rfl ?_)) (by repeat (first|exact Sh _|apply St_)) (by rfl) ?_)
    refine KD 5 rfl (by kernel_rfl) (Nb rfl) (KF rfl) ?_
    refine Kq (by kernel_rfl) ?_
    refine Ka ?_
    refine ⟨[_,_],.cons ⟨_,_,_,rfl,(by repeat (first|exact Mh _|apply Mt)),by exact KK Try.underlying73 rfl sz_73⟩ (.cons rfl .nil),fun a w' hr=>⟨_,_,false,hr.num2Q (q:=qu) (r:=qv) (mk:=fun u v=>.tuple #[rpV u v false,.bool false]) (by repeat (first|exact Mh _|apply Mt)) hnu (by repeat (first|exact Mh _|apply Mt)) hnv⟩⟩
theorem c_Projs_none (id:Int) (X Y Z X' Y' Z':Nat) (w:World) (h:cvI id = none):Calls Try.prog 15 ([.int .i64 id,pjV X Y Z,pjV X' Y' Z']:List Value).toArray w (fun e w'=>e = .returned (.bool true)∧Below w.heap.size w w'):=by
  refine KAC (N:=187) (rs:=[.tmp 6]) [] Try.func15 rfl Try.ntmps15 Try.results15 (Nb rfl) trivial rfl ?_
  show LCode _ _ _ ⟨_,_⟩ _
  refine KE (KB ?_)
  refine KI rfl (KS (KR (Kz rfl) (Nb rfl) (fun b4=>?_)))
  refine KI rfl (KS (KR (Kz rfl) (Nb rfl) (fun b5=>?_)))
  refine KA (KF rfl) (Nb rfl) ?_
  refine KG ?_
  refine KE (KB ?_)
  refine KA (KC rfl) (Nb rfl) ?_
  refine KI rfl (KS (KQ (first:=[]) rfl en_43 rfl (Nb rfl) (fun w hw=>c_r_Get_none _ w h) ?_))
  refine KA (KC rfl) (Nb rfl) ?_
  refine KA (KW rfl rfl) (Nb rfl) ?_
  refine KA (KW rfl rfl) (Nb rfl) ?_
  refine KI rfl (KS (KR (Kc zr_31) (Nb rfl) (fun b7=>?_)))
  refine KI rfl (KP rfl rfl sz_31 (by repeat (first|exact KX|refine KT rfl ?_)) (by repeat (first|exact Sh _|apply St_)) (by rfl) ?_)
  refine KA (KF rfl) (Nb rfl) ?_
  refine KG ?_
  refine KE (KB ?_)
  refine KA (KC rfl) (Nb rfl) ?_
  refine LOps.det (KJ rfl (by repeat (first|exact Mh _|apply Mt)) (by exact KK Try.underlying91 rfl sz_91)) (Nb rfl) ?_
  refine KI rfl (KS (KQ (first:=[]) rfl en_81 rfl (Nb rfl) (fun w hw=>c_projTo_none id X Y Z w h) ?_))
  refine KA (KC rfl) (Nb rfl) ?_
  refine KA (KW rfl rfl) (Nb rfl) ?_
  refine KA (KW rfl rfl) (Nb rfl) ?_
  refine KI rfl (KS (KR (Kc zr_60) (Nb rfl) (fun b9=>?_)))
  refine KI rfl (KP rfl rfl sz_60 (by exact Kw _ _ _) (by repeat (first|exact Sh _|apply St_)) (by exact KY _ _ _) ?_)
  refine KA (KF rfl) (Nb rfl) ?_
  refine KG ?_
  refine KE (KB ?_)
  refine KA (KC rfl) (Nb rfl) ?_
  refine LOps.det (KJ rfl (by repeat (first|exact Mh _|apply Mt)) (by exact KK Try.underlying91 rfl sz_91)) (Nb rfl) ?_
  refine LOps.det (KJ rfl (by repeat (first|exact Mh _|apply Mt)) (by exact KK Try.underlying91 rfl sz_91)) (Nb rfl) ?_
  refine KI rfl (KS (KQ (first:=[]) rfl en_82 rfl (Nb rfl) (fun w hw=>c_projAdd_none id X Y Z X' Y' Z' w h) ?_))
  refine KA (KC rfl) (Nb rfl) ?_
  refine KA (KW rfl rfl) (Nb rfl) ?_
  refine KA (KW rfl rfl) (Nb rfl) ?_
  refine KI rfl (KS (KR (Kc zr_91) (Nb rfl) (fun b11=>?_)))
  refine KI rfl (KP rfl rfl sz_91 (by exact Ky _ _ _) (by repeat (first|exact Sh _|apply St_)) (by exact Kd _ _ _) ?_)
  refine KA (KF rfl) (Nb rfl) ?_
  refine KG ?_
  refine KE (KB ?_)
  refine KA (KC rfl) (Nb rfl) ?_
  refine LOps.det (KJ rfl (by repeat (first|exact Mh _|apply Mt)) (by exact KK Try.underlying91 rfl sz_91)) (Nb rfl) ?_
  refine KI rfl (KS (KQ (first:=[]) rfl en_83 rfl (Nb rfl) (fun w hw=>c_projDouble_none id X Y Z w h) ?_))
  refine KA (KC rfl) (Nb rfl) ?_
  refine KA (KW rfl rfl) (Nb rfl) ?_
  refine KA (KW rfl rfl) (Nb rfl) ?_
  refine KI rfl (KS (KR (Kc zr_91) (Nb rfl) (fun b13=>?_)))
  refine KI rfl (KP rfl rfl sz_91 (by exact Ky _ _ _) (by repeat (first|exact Sh _|apply St_)) (by exact Kd _ _ _) ?_)
  refine KA (KF rfl) (Nb rfl) ?_
  refine KG ?_
  refine KE ?_
  refine KE (KB ?_)
  refine KA (KC rfl) (Nb rfl) ?_
  refine KA (KU (KAc rfl) (show _ = Value.bool true from rfl)) (Nb rfl) ?_
  refine KG ?_
  refine Ks rfl ?_
  refine KE (KB ?_)
  refine KA (KC rfl) (Nb rfl) ?_
  refine KI rfl (KS (KQ (first:=[]) rfl en_46 rfl (Nb rfl) (fun w hw=>c_Num _ w) ?_))
  refine KA (KO (v:=.bool true) rfl rfl (br_t (KAq (b:=1500)) (by first|rfl|assumption|omega|(simp; done)))) (Nb rfl) ?_
  refine KA (KC rfl) (Nb rfl) ?_
  refine KV rfl rfl (KC rfl) (Nb rfl) ?_
  refine KAS rfl rfl rfl (KS (KQ (first:=[]) rfl en_46 rfl (Nb rfl) (fun w hw=>c_Num _ w) ?_))
  refine KV rfl rfl (KO (v:=.bool true) rfl rfl (br_t (KAq (b:=1500)) (by first|rfl|assumption|omega|(simp; done)))) (Nb rfl) ?_
  refine KA (Kt rfl rfl) (Nb rfl) ?_
  refine KA (KC rfl) (Nb rfl) ?_
  refine KV rfl rfl (KC rfl) (Nb rfl) ?_
  refine KAS rfl rfl rfl (KS (KQ (first:=[]) rfl en_46 rfl (Nb rfl) (fun w hw=>c_Num _ w) ?_))
  refine KV rfl rfl (KO (v:=.bool true) rfl rfl (br_t (KAq (b:=1500)) (by first|rfl|assumption|omega|(simp; done)))) (Nb rfl) ?_
  refine KA (Kt rfl rfl) (Nb rfl) ?_
  refine KA (KC rfl) (Nb rfl) ?_
  refine KAN rfl rfl (KJ rfl (by repeat (first|exact Mh _|apply Mt)) (by exact KK Try.underlying91 rfl sz_91)) (Nb rfl) ?_
  refine KV rfl rfl (KU (KAI pl_91 zr_91 rfl rfl) (show _ = pjV 0 0 0 from pj_zero)) (Nb rfl) ?_
  refine KV rfl rfl (KU (Det.eqa (by kernel_rfl) (fun w=>eq_pj_t KAb KAb KAb 10000 (by decide) w) rfl rfl) (show _ = Value.bool true by rfl)) (Nb rfl) ?_
  refine KA (Kt rfl rfl) (Nb rfl) ?_
  refine KA (KC rfl) (Nb rfl) ?_
  refine KAS rfl rfl rfl (KS (KQ (first:=[]) rfl en_84 rfl (Nb rfl) (fun w hw=>c_awake15 w) ?_))
  refine KA (Kt rfl rfl) (Nb rfl) ?_
  refine KA (KF rfl) (Nb rfl) ?_
  refine KG (Ka ?_)
  refine ⟨[_],.cons rfl .nil,fun a w' hr=>⟨?_,hr.fr.below⟩⟩
  rfl
theorem c_Projs_bb (id:Int) (V:Cv) (X Y Z X' Y' Z':Nat) (w:World) (h:cvI id = some V) (hX:X<W9) (hY:Y<W9) (hZ:Z<W9) (hX':X' < W9) (hY':Y' < W9) (hZ':Z' < W9) (hn:¬ TrHas V X Y Z) (hn':¬ TrHas V X' Y' Z'):Calls Try.prog 15 ([.int .i64 id,pjV X Y Z,pjV X' Y' Z']:List Value).toArray w (fun e w'=>e = .returned (.bool true)∧Below w.heap.size w w'):=by
  obtain ⟨hok,hid⟩:=cvI_ok h
  have hpW:V.p<W9:=w9_521 hok.bounds.2.1
  refine KAC (N:=187) (rs:=[.tmp 6]) [] Try.func15 rfl Try.ntmps15 Try.results15 (Nb rfl) trivial rfl ?_
  show LCode _ _ _ ⟨_,_⟩ _
  refine KE (KB ?_)
  refine KI rfl (KS (KR (Kz rfl) (Nb rfl) (fun b4=>?_)))
  refine KI rfl (KS (KR (Kz rfl) (Nb rfl) (fun b5=>?_)))
  refine KA (KF rfl) (Nb rfl) ?_
  refine KG ?_
  refine KE (KB ?_)
  refine KA (KC rfl) (Nb rfl) ?_
  refine KI rfl (KS (Kp (Post:=fun v its=>∃ Q,v = .tuple #[.agg (crvL Q V).toArray,.bool true]∧its = [crvI Q V]) (first:=[]) rfl en_43 rfl (Nb rfl) (fun w1 hw hs=>(c_r_Get _ V w1 h).mono fun e w' ⟨Q,h1,h2,h3,h4⟩=>⟨_,_,⟨Q,rfl,rfl⟩,h1,KAd h4 (by intro x hx; simp at hx; subst hx; exact h2) (by intro x hx; simp at hx; subst hx; rfl) (by intro x hx k hk; simp at hx; subst hx; exact .inl (h3 k hk))⟩) ?_))
  rintro _ _ ⟨Q,rfl,rfl⟩
  refine KA (KC rfl) (Nb rfl) ?_
  refine KA (KW rfl rfl) (Nb rfl) ?_
  refine KA (KW rfl rfl) (Nb rfl) ?_
  refine KI rfl (KS (KR (Kc zr_31) (Nb rfl) (fun b7=>?_)))
  refine KI rfl (KP rfl rfl sz_31 (by repeat (first|exact KX|refine KT rfl ?_)) (by repeat (first|exact Sh _|apply St_)) (by rfl) ?_)
  refine KA (KF rfl) (Nb rfl) ?_
  refine KG ?_
  refine KE (KB ?_)
  refine KA (KC rfl) (Nb rfl) ?_
  refine LOps.det (KJ rfl (by repeat (first|exact Mh _|apply Mt)) (by exact KK Try.underlying91 rfl sz_91)) (Nb rfl) ?_
  refine KI rfl (KS (KQ (first:=[]) rfl en_81 rfl (Nb rfl) (fun w hw=>c_projTo_bad id V X Y Z w h hX hY hZ hn) ?_))
  refine KA (KC rfl) (Nb rfl) ?_
  refine KA (KW rfl rfl) (Nb rfl) ?_
  refine KA (KW rfl rfl) (Nb rfl) ?_
  refine KI rfl (KS (KR (Kc zr_60) (Nb rfl) (fun b9=>?_)))
  refine KI rfl (KP rfl rfl sz_60 (by exact Kw _ _ _) (by repeat (first|exact Sh _|apply St_)) (by exact KY _ _ _) ?_)
  refine KA (KF rfl) (Nb rfl) ?_
  refine KG ?_
  refine KE (KB ?_)
  refine KA (KC rfl) (Nb rfl) ?_
  refine LOps.det (KJ rfl (by repeat (first|exact Mh _|apply Mt)) (by exact KK Try.underlying91 rfl sz_91)) (Nb rfl) ?_
  refine LOps.det (KJ rfl (by repeat (first|exact Mh _|apply Mt)) (by exact KK Try.underlying91 rfl sz_91)) (Nb rfl) ?_
  refine KI rfl (KS (KQ (first:=[]) rfl en_82 rfl (Nb rfl) (fun w hw=>c_projAdd_bad id V X Y Z X' Y' Z' w h hX hY hZ hX' hY' hZ' (.inl hn)) ?_))
  refine KA (KC rfl) (Nb rfl) ?_
  refine KA (KW rfl rfl) (Nb rfl) ?_
  refine KA (KW rfl rfl) (Nb rfl) ?_
  refine KI rfl (KS (KR (Kc zr_91) (Nb rfl) (fun b11=>?_)))
  refine KI rfl (KP rfl rfl sz_91 (by exact Ky _ _ _) (by repeat (first|exact Sh _|apply St_)) (by exact Kd _ _ _) ?_)
  refine KA (KF rfl) (Nb rfl) ?_
  refine KG ?_
  refine KE (KB ?_)
  refine KA (KC rfl) (Nb rfl) ?_
  refine LOps.det (KJ rfl (by repeat (first|exact Mh _|apply Mt)) (by exact KK Try.underlying91 rfl sz_91)) (Nb rfl) ?_
  refine KI rfl (KS (KQ (first:=[]) rfl en_83 rfl (Nb rfl) (fun w hw=>c_projDouble_bad id V X Y Z w h hX hY hZ hn) ?_))
  refine KA (KC rfl) (Nb rfl) ?_
  refine KA (KW rfl rfl) (Nb rfl) ?_
  refine KA (KW rfl rfl) (Nb rfl) ?_
  refine KI rfl (KS (KR (Kc zr_91) (Nb rfl) (fun b13=>?_)))
  refine KI rfl (KP rfl rfl sz_91 (by exact Ky _ _ _) (by repeat (first|exact Sh _|apply St_)) (by exact Kd _ _ _) ?_)
  refine KA (KF rfl) (Nb rfl) ?_
  refine KG ?_
  refine KE ?_
  refine KE (KB ?_)
  refine KA (KC rfl) (Nb rfl) ?_
  refine KA (KU (KAc rfl) (show _ = Value.bool false from rfl)) (Nb rfl) ?_
  refine KG ?_
  refine Kj rfl ?_
  refine Kh ?_
  refine KE (KB ?_)
  refine LOps.det (KJ rfl (by repeat (first|exact Mh _|apply Mt)) (by exact KK Try.underlying31 rfl sz_31)) (Nb rfl) ?_
  refine LOps.det (KJ rfl (by repeat (first|exact Mh _|apply Mt)) (by exact KK Try.underlying91 rfl sz_91)) (Nb rfl) ?_
  refine KI rfl (KS (Kp (Post:=fun v its=>∃ X' Y' i q r,v = .tuple #[rpV (numV q X') (numV r Y') i,.bool false]∧its = [numT q X',numT r Y']) (first:=[]) rfl en_85 rfl (Nb rfl) (fun w hw hs=>(c_triple_no Q V X Y Z w (hw _ (by repeat (first|exact Mh _|apply Mt))) hok hX hY hZ hn).mono fun e w' ⟨X',Y',i,q,r,h1,h2,h3,h4,h5,h6⟩=>⟨_,_,⟨X',Y',i,q,r,rfl,rfl⟩,h1,KAd h6 (by intro x hx; simp at hx; rcases hx with rfl|rfl; exact h2; exact h4) (by intro x hx; simp at hx; rcases hx with rfl|rfl <;> rfl) (by intro x hx k hk; simp at hx; rcases hx with rfl|rfl; exact .inl ((h3 k hk).elim (fun h=>h) (fun h=>by cases h)); exact .inl ((h5 k hk).elim (fun h=>h) (fun h=>by cases h)))⟩) ?_))
  rintro _ _ ⟨X1,Y1,i1,q1,r1,rfl,rfl⟩
  refine KA (KC rfl) (Nb rfl) ?_
  refine KA (KW rfl rfl) (Nb rfl) ?_
  refine KA (KW rfl rfl) (Nb rfl) ?_
  refine KI rfl (KS (KR (Kc zr_73) (Nb rfl) (fun b15=>?_)))
  refine KI rfl (KP rfl rfl sz_73 (by repeat (first|exact KX|refine KT rfl ?_)) (by repeat (first|exact Sh _|apply St_)) (by rfl) ?_)
  refine KA (KF rfl) (Nb rfl) ?_
  refine KG ?_
  refine KE (KB ?_)
  refine LOps.det (KJ rfl (by repeat (first|exact Mh _|apply Mt)) (by exact KK Try.underlying31 rfl sz_31)) (Nb rfl) ?_
  refine LOps.det (KJ rfl (by repeat (first|exact Mh _|apply Mt)) (by exact KK Try.underlying91 rfl sz_91)) (Nb rfl) ?_
  refine KI rfl (KS (Kp (Post:=fun v its=>∃ X' Y' i q r,v = .tuple #[rpV (numV q X') (numV r Y') i,.bool false]∧its = [numT q X',numT r Y']) (first:=[]) rfl en_85 rfl (Nb rfl) (fun w hw hs=>(c_triple_no Q V X' Y' Z' w (hw _ (by repeat (first|exact Mh _|apply Mt))) hok hX' hY' hZ' hn').mono fun e w' ⟨X',Y',i,q,r,h1,h2,h3,h4,h5,h6⟩=>⟨_,_,⟨X',Y',i,q,r,rfl,rfl⟩,h1,KAd h6 (by intro x hx; simp at hx; rcases hx with rfl|rfl; exact h2; exact h4) (by intro x hx; simp at hx; rcases hx with rfl|rfl <;> rfl) (by intro x hx k hk; simp at hx; rcases hx with rfl|rfl; exact .inl ((h3 k hk).elim (fun h=>h) (fun h=>by cases h)); exact .inl ((h5 k hk).elim (fun h=>h) (fun h=>by cases h)))⟩) ?_))
  rintro _ _ ⟨X2,Y2,i2,q2,r2,rfl,rfl⟩
  refine KA (KC rfl) (Nb rfl) ?_
  refine KA (KW rfl rfl) (Nb rfl) ?_
  refine KA (KW rfl rfl) (Nb rfl) ?_
  refine KI rfl (KS (KR (Kc zr_73) (Nb rfl) (fun b17=>?_)))
  refine KI rfl (KP rfl rfl sz_73 (by repeat (first|exact KX|refine KT rfl ?_)) (by repeat (first|exact Sh _|apply St_)) (by rfl) ?_)
  refine KA (KF rfl) (Nb rfl) ?_
  refine KG ?_
  refine KE ?_
  refine KE (KB ?_)
  refine KA (KC rfl) (Nb rfl) ?_
  refine KA (KU (KAc rfl) (show _ = Value.bool true from rfl)) (Nb rfl) ?_
  refine KG ?_
  refine Ks rfl ?_
  refine KE (KB ?_)
  refine KA (KC rfl) (Nb rfl) ?_
  refine KI rfl (KS (KQ (first:=[]) rfl en_46 rfl (Nb rfl) (fun w hw=>c_Num _ w) ?_))
  refine KA (KO (v:=.bool true) rfl rfl (br_t (KAq (b:=1501)) (by first|rfl|assumption|omega|(simp; done)))) (Nb rfl) ?_
  refine KA (KC rfl) (Nb rfl) ?_
  refine KV rfl rfl (KC rfl) (Nb rfl) ?_
  refine KAS rfl rfl rfl (KS (KQ (first:=[]) rfl en_46 rfl (Nb rfl) (fun w hw=>c_Num _ w) ?_))
  refine KV rfl rfl (KO (v:=.bool true) rfl rfl (br_t (KAq (b:=1501)) (by first|rfl|assumption|omega|(simp; done)))) (Nb rfl) ?_
  refine KA (Kt rfl rfl) (Nb rfl) ?_
  refine KA (KC rfl) (Nb rfl) ?_
  refine KV rfl rfl (KC rfl) (Nb rfl) ?_
  refine KAS rfl rfl rfl (KS (KQ (first:=[]) rfl en_46 rfl (Nb rfl) (fun w hw=>c_Num _ w) ?_))
  refine KV rfl rfl (KO (v:=.bool true) rfl rfl (br_t (KAq (b:=1501)) (by first|rfl|assumption|omega|(simp; done)))) (Nb rfl) ?_
  refine KA (Kt rfl rfl) (Nb rfl) ?_
  refine KA (KC rfl) (Nb rfl) ?_
  refine KAN rfl rfl (KJ rfl (by repeat (first|exact Mh _|apply Mt)) (by exact KK Try.underlying60 rfl sz_60)) (Nb rfl) ?_
  refine KV rfl rfl (KU (KAI pl_60 zr_60 rfl rfl) (show _ = ptV 0 0 false from pt_zero)) (Nb rfl) ?_
  refine KV rfl rfl (KU (Det.eqa (by kernel_rfl) (fun w=>eq_pt_t KAb KAb 10000 (by decide) w) rfl rfl) (show _ = Value.bool true by rfl)) (Nb rfl) ?_
  refine KA (Kt rfl rfl) (Nb rfl) ?_
  refine KA (KC rfl) (Nb rfl) ?_
  refine KAN rfl rfl (KJ rfl (by repeat (first|exact Mh _|apply Mt)) (by exact KK Try.underlying91 rfl sz_91)) (Nb rfl) ?_
  refine KV rfl rfl (KU (KAI pl_91 zr_91 rfl rfl) (show _ = pjV 0 0 0 from pj_zero)) (Nb rfl) ?_
  refine KV rfl rfl (KU (Det.eqa (by kernel_rfl) (fun w=>eq_pj_t KAb KAb KAb 10000 (by decide) w) rfl rfl) (show _ = Value.bool true by rfl)) (Nb rfl) ?_
  refine KA (Kt rfl rfl) (Nb rfl) ?_
  refine KA (KC rfl) (Nb rfl) ?_
  refine KAN rfl rfl (KJ rfl (by repeat (first|exact Mh _|apply Mt)) (by exact KK Try.underlying91 rfl sz_91)) (Nb rfl) ?_
  refine KV rfl rfl (KU (KAI pl_91 zr_91 rfl rfl) (show _ = pjV 0 0 0 from pj_zero)) (Nb rfl) ?_
  refine KV rfl rfl (KU (Det.eqa (by kernel_rfl) (fun w=>eq_pj_t KAb KAb KAb 10000 (by decide) w) rfl rfl) (show _ = Value.bool true by rfl)) (Nb rfl) ?_
  refine KA (Kt rfl rfl) (Nb rfl) ?_
  refine KA (KC rfl) (Nb rfl) ?_
  refine KAS rfl rfl rfl (KS (KQ (first:=[]) rfl en_84 rfl (Nb rfl) (fun w hw=>c_awake15 w) ?_))
  refine KA (Kt rfl rfl) (Nb rfl) ?_
  refine KA (KF rfl) (Nb rfl) ?_
  refine KG (Ka ?_)
  refine ⟨[_],.cons rfl .nil,fun a w' hr=>⟨?_,hr.fr.below⟩⟩
  rfl
theorem c_Projs_bo (id:Int) (V:Cv) (X Y Z:Nat) (U:Fin V.p×Fin V.p×Fin V.p) (R:Pt V.p) (w:World) (h:cvI id = some V) (hX:X<W9) (hY:Y<W9) (hZ:Z<W9) (hn:¬ TrHas V X Y Z) (hU:RepT V U R):Calls Try.prog 15 ([.int .i64 id,pjV X Y Z,pjF U]:List Value).toArray w (fun e w'=>e = .returned (.bool true)∧Below w.heap.size w w'):=by
  obtain ⟨hok,hid⟩:=cvI_ok h
  have hpW:V.p<W9:=w9_521 hok.bounds.2.1
  refine KAC (N:=187) (rs:=[.tmp 6]) [] Try.func15 rfl Try.ntmps15 Try.results15 (Nb rfl) trivial rfl ?_
  show LCode _ _ _ ⟨_,_⟩ _
  refine KE (KB ?_)
  refine KI rfl (KS (KR (Kz rfl) (Nb rfl) (fun b4=>?_)))
  refine KI rfl (KS (KR (Kz rfl) (Nb rfl) (fun b5=>?_)))
  refine KA (KF rfl) (Nb rfl) ?_
  refine KG ?_
  refine KE (KB ?_)
  refine KA (KC rfl) (Nb rfl) ?_
  refine KI rfl (KS (Kp (Post:=fun v its=>∃ Q,v = .tuple #[.agg (crvL Q V).toArray,.bool true]∧its = [crvI Q V]) (first:=[]) rfl en_43 rfl (Nb rfl) (fun w1 hw hs=>(c_r_Get _ V w1 h).mono fun e w' ⟨Q,h1,h2,h3,h4⟩=>⟨_,_,⟨Q,rfl,rfl⟩,h1,KAd h4 (by intro x hx; simp at hx; subst hx; exact h2) (by intro x hx; simp at hx; subst hx; rfl) (by intro x hx k hk; simp at hx; subst hx; exact .inl (h3 k hk))⟩) ?_))
  rintro _ _ ⟨Q,rfl,rfl⟩
  refine KA (KC rfl) (Nb rfl) ?_
  refine KA (KW rfl rfl) (Nb rfl) ?_
  refine KA (KW rfl rfl) (Nb rfl) ?_
  refine KI rfl (KS (KR (Kc zr_31) (Nb rfl) (fun b7=>?_)))
  refine KI rfl (KP rfl rfl sz_31 (by repeat (first|exact KX|refine KT rfl ?_)) (by repeat (first|exact Sh _|apply St_)) (by rfl) ?_)
  refine KA (KF rfl) (Nb rfl) ?_
  refine KG ?_
  refine KE (KB ?_)
  refine KA (KC rfl) (Nb rfl) ?_
  refine LOps.det (KJ rfl (by repeat (first|exact Mh _|apply Mt)) (by exact KK Try.underlying91 rfl sz_91)) (Nb rfl) ?_
  refine KI rfl (KS (KQ (first:=[]) rfl en_81 rfl (Nb rfl) (fun w hw=>c_projTo_bad id V X Y Z w h hX hY hZ hn) ?_))
  refine KA (KC rfl) (Nb rfl) ?_
  refine KA (KW rfl rfl) (Nb rfl) ?_
  refine KA (KW rfl rfl) (Nb rfl) ?_
  refine KI rfl (KS (KR (Kc zr_60) (Nb rfl) (fun b9=>?_)))
  refine KI rfl (KP rfl rfl sz_60 (by exact Kw _ _ _) (by repeat (first|exact Sh _|apply St_)) (by exact KY _ _ _) ?_)
  refine KA (KF rfl) (Nb rfl) ?_
  refine KG ?_
  refine KE (KB ?_)
  refine KA (KC rfl) (Nb rfl) ?_
  refine LOps.det (KJ rfl (by repeat (first|exact Mh _|apply Mt)) (by exact KK Try.underlying91 rfl sz_91)) (Nb rfl) ?_
  refine LOps.det (KJ rfl (by repeat (first|exact Mh _|apply Mt)) (by exact KK Try.underlying91 rfl sz_91)) (Nb rfl) ?_
  refine KI rfl (KS (KQ (first:=[]) rfl en_82 rfl (Nb rfl) (fun w hw=>c_projAdd_bad id V X Y Z U.1.val U.2.1.val U.2.2.val w h hX hY hZ (Nat.lt_trans U.1.isLt hpW) (Nat.lt_trans U.2.1.isLt hpW) (Nat.lt_trans U.2.2.isLt hpW) (.inl hn)) ?_))
  refine KA (KC rfl) (Nb rfl) ?_
  refine KA (KW rfl rfl) (Nb rfl) ?_
  refine KA (KW rfl rfl) (Nb rfl) ?_
  refine KI rfl (KS (KR (Kc zr_91) (Nb rfl) (fun b11=>?_)))
  refine KI rfl (KP rfl rfl sz_91 (by exact Ky _ _ _) (by repeat (first|exact Sh _|apply St_)) (by exact Kd _ _ _) ?_)
  refine KA (KF rfl) (Nb rfl) ?_
  refine KG ?_
  refine KE (KB ?_)
  refine KA (KC rfl) (Nb rfl) ?_
  refine LOps.det (KJ rfl (by repeat (first|exact Mh _|apply Mt)) (by exact KK Try.underlying91 rfl sz_91)) (Nb rfl) ?_
  refine KI rfl (KS (KQ (first:=[]) rfl en_83 rfl (Nb rfl) (fun w hw=>c_projDouble_bad id V X Y Z w h hX hY hZ hn) ?_))
  refine KA (KC rfl) (Nb rfl) ?_
  refine KA (KW rfl rfl) (Nb rfl) ?_
  refine KA (KW rfl rfl) (Nb rfl) ?_
  refine KI rfl (KS (KR (Kc zr_91) (Nb rfl) (fun b13=>?_)))
  refine KI rfl (KP rfl rfl sz_91 (by exact Ky _ _ _) (by repeat (first|exact Sh _|apply St_)) (by exact Kd _ _ _) ?_)
  refine KA (KF rfl) (Nb rfl) ?_
  refine KG ?_
  refine KE ?_
  refine KE (KB ?_)
  refine KA (KC rfl) (Nb rfl) ?_
  refine KA (KU (KAc rfl) (show _ = Value.bool false from rfl)) (Nb rfl) ?_
  refine KG ?_
  refine Kj rfl ?_
  refine Kh ?_
  refine KE (KB ?_)
  refine LOps.det (KJ rfl (by repeat (first|exact Mh _|apply Mt)) (by exact KK Try.underlying31 rfl sz_31)) (Nb rfl) ?_
  refine LOps.det (KJ rfl (by repeat (first|exact Mh _|apply Mt)) (by exact KK Try.underlying91 rfl sz_91)) (Nb rfl) ?_
  refine KI rfl (KS (Kp (Post:=fun v its=>∃ X' Y' i q r,v = .tuple #[rpV (numV q X') (numV r Y') i,.bool false]∧its = [numT q X',numT r Y']) (first:=[]) rfl en_85 rfl (Nb rfl) (fun w hw hs=>(c_triple_no Q V X Y Z w (hw _ (by repeat (first|exact Mh _|apply Mt))) hok hX hY hZ hn).mono fun e w' ⟨X',Y',i,q,r,h1,h2,h3,h4,h5,h6⟩=>⟨_,_,⟨X',Y',i,q,r,rfl,rfl⟩,h1,KAd h6 (by intro x hx; simp at hx; rcases hx with rfl|rfl; exact h2; exact h4) (by intro x hx; simp at hx; rcases hx with rfl|rfl <;> rfl) (by intro x hx k hk; simp at hx; rcases hx with rfl|rfl; exact .inl ((h3 k hk).elim (fun h=>h) (fun h=>by cases h)); exact .inl ((h5 k hk).elim (fun h=>h) (fun h=>by cases h)))⟩) ?_))
  rintro _ _ ⟨X1,Y1,i1,q1,r1,rfl,rfl⟩
  refine KA (KC rfl) (Nb rfl) ?_
  refine KA (KW rfl rfl) (Nb rfl) ?_
  refine KA (KW rfl rfl) (Nb rfl) ?_
  refine KI rfl (KS (KR (Kc zr_73) (Nb rfl) (fun b15=>?_)))
  refine KI rfl (KP rfl rfl sz_73 (by repeat (first|exact KX|refine KT rfl ?_)) (by repeat (first|exact Sh _|apply St_)) (by rfl) ?_)
  refine KA (KF rfl) (Nb rfl) ?_
  refine KG ?_
  refine KE (KB ?_)
  refine LOps.det (KJ rfl (by repeat (first|exact Mh _|apply Mt)) (by exact KK Try.underlying31 rfl sz_31)) (Nb rfl) ?_
  refine LOps.det (KJ rfl (by repeat (first|exact Mh _|apply Mt)) (by exact KK Try.underlying91 rfl sz_91)) (Nb rfl) ?_
  refine KI rfl (KS (Kp (first:=[]) rfl en_85 rfl (Nb rfl) (fun w hw hs=>(c_triple Q V (U) (R) w (hw _ (by repeat (first|exact Mh _|apply Mt))) hok (hU)).mono fun e w' h=>Num2R.q (Old.nil _) hs h) ?_))
  rintro _ _ ⟨qya,qyb,rfl,rfl,hnya,hnyb⟩
  refine KA (KC rfl) (Nb rfl) ?_
  refine KA (KW rfl rfl) (Nb rfl) ?_
  refine KA (KW rfl rfl) (Nb rfl) ?_
  refine KI rfl (KS (KR (Kc zr_73) (Nb rfl) (fun b17=>?_)))
  refine KI rfl (KP rfl rfl sz_73 (by repeat (first|exact KX|refine KT rfl ?_)) (by repeat (first|exact Sh _|apply St_)) (by rfl) ?_)
  refine KA (KF rfl) (Nb rfl) ?_
  refine KG ?_
  refine KE ?_
  refine KE (KB ?_)
  refine KA (KC rfl) (Nb rfl) ?_
  refine KA (KU (KAc rfl) (show _ = Value.bool true from rfl)) (Nb rfl) ?_
  refine KG ?_
  refine Ks rfl ?_
  refine KE (KB ?_)
  refine KA (KC rfl) (Nb rfl) ?_
  refine KI rfl (KS (KQ (first:=[]) rfl en_46 rfl (Nb rfl) (fun w hw=>c_Num _ w) ?_))
  refine KA (KO (v:=.bool true) rfl rfl (br_t (KAq (b:=1501)) (by first|rfl|assumption|omega|(simp; done)))) (Nb rfl) ?_
  refine KA (KC rfl) (Nb rfl) ?_
  refine KV rfl rfl (KC rfl) (Nb rfl) ?_
  refine KAS rfl rfl rfl (KS (KQ (first:=[]) rfl en_46 rfl (Nb rfl) (fun w hw=>c_Num _ w) ?_))
  refine KV rfl rfl (KO (v:=.bool true) rfl rfl (br_t (KAq (b:=1501)) (by first|rfl|assumption|omega|(simp; done)))) (Nb rfl) ?_
  refine KA (Kt rfl rfl) (Nb rfl) ?_
  refine KA (KC rfl) (Nb rfl) ?_
  refine KV rfl rfl (KC rfl) (Nb rfl) ?_
  refine KAS rfl rfl rfl (KS (KQ (first:=[]) rfl en_46 rfl (Nb rfl) (fun w hw=>c_Num _ w) ?_))
  refine KV rfl rfl (KO (v:=.bool true) rfl rfl (br_t (KAq (b:=1501)) (by first|rfl|assumption|omega|(simp; done)))) (Nb rfl) ?_
  refine KA (Kt rfl rfl) (Nb rfl) ?_
  refine KA (KC rfl) (Nb rfl) ?_
  refine KAN rfl rfl (KJ rfl (by repeat (first|exact Mh _|apply Mt)) (by exact KK Try.underlying60 rfl sz_60)) (Nb rfl) ?_
  refine KV rfl rfl (KU (KAI pl_60 zr_60 rfl rfl) (show _ = ptV 0 0 false from pt_zero)) (Nb rfl) ?_
  refine KV rfl rfl (KU (Det.eqa (by kernel_rfl) (fun w=>eq_pt_t KAb KAb 10000 (by decide) w) rfl rfl) (show _ = Value.bool true by rfl)) (Nb rfl) ?_
  refine KA (Kt rfl rfl) (Nb rfl) ?_
  refine KA (KC rfl) (Nb rfl) ?_
  refine KAN rfl rfl (KJ rfl (by repeat (first|exact Mh _|apply Mt)) (by exact KK Try.underlying91 rfl sz_91)) (Nb rfl) ?_
  refine KV rfl rfl (KU (KAI pl_91 zr_91 rfl rfl) (show _ = pjV 0 0 0 from pj_zero)) (Nb rfl) ?_
  refine KV rfl rfl (KU (Det.eqa (by kernel_rfl) (fun w=>eq_pj_t KAb KAb KAb 10000 (by decide) w) rfl rfl) (show _ = Value.bool true by rfl)) (Nb rfl) ?_
  refine KA (Kt rfl rfl) (Nb rfl) ?_
  refine KA (KC rfl) (Nb rfl) ?_
  refine KAN rfl rfl (KJ rfl (by repeat (first|exact Mh _|apply Mt)) (by exact KK Try.underlying91 rfl sz_91)) (Nb rfl) ?_
  refine KV rfl rfl (KU (KAI pl_91 zr_91 rfl rfl) (show _ = pjV 0 0 0 from pj_zero)) (Nb rfl) ?_
  refine KV rfl rfl (KU (Det.eqa (by kernel_rfl) (fun w=>eq_pj_t KAb KAb KAb 10000 (by decide) w) rfl rfl) (show _ = Value.bool true by rfl)) (Nb rfl) ?_
  refine KA (Kt rfl rfl) (Nb rfl) ?_
  refine KA (KC rfl) (Nb rfl) ?_
  refine KAS rfl rfl rfl (KS (KQ (first:=[]) rfl en_84 rfl (Nb rfl) (fun w hw=>c_awake15 w) ?_))
  refine KA (Kt rfl rfl) (Nb rfl) ?_
  refine KA (KF rfl) (Nb rfl) ?_
  refine KG (Ka ?_)
  refine ⟨[_],.cons rfl .nil,fun a w' hr=>⟨?_,hr.fr.below⟩⟩
  rfl
theorem c_Projs_ob (id:Int) (V:Cv) (T:Fin V.p×Fin V.p×Fin V.p) (P:Pt V.p) (X' Y' Z':Nat) (w:World) (h:cvI id = some V) (hT:RepT V T P) (hX':X' < W9) (hY':Y' < W9) (hZ':Z' < W9) (hn':¬ TrHas V X' Y' Z'):Calls Try.prog 15 ([.int .i64 id,pjF T,pjV X' Y' Z']:List Value).toArray w (fun e w'=>e = .returned (.bool true)∧Below w.heap.size w w'):=by
  obtain ⟨hok,hid⟩:=cvI_ok h
  have hpW:V.p<W9:=w9_521 hok.bounds.2.1
  refine KAC (N:=187) (rs:=[.tmp 6]) [] Try.func15 rfl Try.ntmps15 Try.results15 (Nb rfl) trivial rfl ?_
  show LCode _ _ _ ⟨_,_⟩ _
  refine KE (KB ?_)
  refine KI rfl (KS (KR (Kz rfl) (Nb rfl) (fun b4=>?_)))
  refine KI rfl (KS (KR (Kz rfl) (Nb rfl) (fun b5=>?_)))
  refine KA (KF rfl) (Nb rfl) ?_
  refine KG ?_
  refine KE (KB ?_)
  refine KA (KC rfl) (Nb rfl) ?_
  refine KI rfl (KS (Kp (Post:=fun v its=>∃ Q,v = .tuple #[.agg (crvL Q V).toArray,.bool true]∧its = [crvI Q V]) (first:=[]) rfl en_43 rfl (Nb rfl) (fun w1 hw hs=>(c_r_Get _ V w1 h).mono fun e w' ⟨Q,h1,h2,h3,h4⟩=>⟨_,_,⟨Q,rfl,rfl⟩,h1,KAd h4 (by intro x hx; simp at hx; subst hx; exact h2) (by intro x hx; simp at hx; subst hx; rfl) (by intro x hx k hk; simp at hx; subst hx; exact .inl (h3 k hk))⟩) ?_))
  rintro _ _ ⟨Q,rfl,rfl⟩
  refine KA (KC rfl) (Nb rfl) ?_
  refine KA (KW rfl rfl) (Nb rfl) ?_
  refine KA (KW rfl rfl) (Nb rfl) ?_
  refine KI rfl (KS (KR (Kc zr_31) (Nb rfl) (fun b7=>?_)))
  refine KI rfl (KP rfl rfl sz_31 (by repeat (first|exact KX|refine KT rfl ?_)) (by repeat (first|exact Sh _|apply St_)) (by rfl) ?_)
  refine KA (KF rfl) (Nb rfl) ?_
  refine KG ?_
  refine KE (KB ?_)
  refine KA (KC rfl) (Nb rfl) ?_
  refine LOps.det (KJ rfl (by repeat (first|exact Mh _|apply Mt)) (by exact KK Try.underlying91 rfl sz_91)) (Nb rfl) ?_
  refine KI rfl (KS (KQ (first:=[]) rfl en_81 rfl (Nb rfl) (fun w hw=>c_projTo id V T P w h hT) ?_))
  refine KA (KC rfl) (Nb rfl) ?_
  refine KA (KW rfl rfl) (Nb rfl) ?_
  refine KA (KW rfl rfl) (Nb rfl) ?_
  refine KI rfl (KS (KR (Kc zr_60) (Nb rfl) (fun b9=>?_)))
  refine KI rfl (KP rfl rfl sz_60 (by exact Kw _ _ _) (by repeat (first|exact Sh _|apply St_)) (by exact KY _ _ _) ?_)
  refine KA (KF rfl) (Nb rfl) ?_
  refine KG ?_
  refine KE (KB ?_)
  refine KA (KC rfl) (Nb rfl) ?_
  refine LOps.det (KJ rfl (by repeat (first|exact Mh _|apply Mt)) (by exact KK Try.underlying91 rfl sz_91)) (Nb rfl) ?_
  refine LOps.det (KJ rfl (by repeat (first|exact Mh _|apply Mt)) (by exact KK Try.underlying91 rfl sz_91)) (Nb rfl) ?_
  refine KI rfl (KS (KQ (first:=[]) rfl en_82 rfl (Nb rfl) (fun w hw=>c_projAdd_bad id V T.1.val T.2.1.val T.2.2.val X' Y' Z' w h (Nat.lt_trans T.1.isLt hpW) (Nat.lt_trans T.2.1.isLt hpW) (Nat.lt_trans T.2.2.isLt hpW) hX' hY' hZ' (.inr hn')) ?_))
  refine KA (KC rfl) (Nb rfl) ?_
  refine KA (KW rfl rfl) (Nb rfl) ?_
  refine KA (KW rfl rfl) (Nb rfl) ?_
  refine KI rfl (KS (KR (Kc zr_91) (Nb rfl) (fun b11=>?_)))
  refine KI rfl (KP rfl rfl sz_91 (by exact Ky _ _ _) (by repeat (first|exact Sh _|apply St_)) (by exact Kd _ _ _) ?_)
  refine KA (KF rfl) (Nb rfl) ?_
  refine KG ?_
  refine KE (KB ?_)
  refine KA (KC rfl) (Nb rfl) ?_
  refine LOps.det (KJ rfl (by repeat (first|exact Mh _|apply Mt)) (by exact KK Try.underlying91 rfl sz_91)) (Nb rfl) ?_
  refine KI rfl (KS (KQ (first:=[]) rfl en_83 rfl (Nb rfl) (fun w hw=>c_projDouble id V T P w h hT) ?_))
  refine KA (KC rfl) (Nb rfl) ?_
  refine KA (KW rfl rfl) (Nb rfl) ?_
  refine KA (KW rfl rfl) (Nb rfl) ?_
  refine KI rfl (KS (KR (Kc zr_91) (Nb rfl) (fun b13=>?_)))
  refine KI rfl (KP rfl rfl sz_91 (by exact Ky _ _ _) (by repeat (first|exact Sh _|apply St_)) (by exact Kd _ _ _) ?_)
  refine KA (KF rfl) (Nb rfl) ?_
  refine KG ?_
  refine KE ?_
  refine KE (KB ?_)
  refine KA (KC rfl) (Nb rfl) ?_
  refine KA (KU (KAc rfl) (show _ = Value.bool false from rfl)) (Nb rfl) ?_
  refine KG ?_
  refine Kj rfl ?_
  refine Kh ?_
  refine KE (KB ?_)
  refine LOps.det (KJ rfl (by repeat (first|exact Mh _|apply Mt)) (by exact KK Try.underlying31 rfl sz_31)) (Nb rfl) ?_
  refine LOps.det (KJ rfl (by repeat (first|exact Mh _|apply Mt)) (by exact KK Try.underlying91 rfl sz_91)) (Nb rfl) ?_
  refine KI rfl (KS (Kp (first:=[]) rfl en_85 rfl (Nb rfl) (fun w hw hs=>(c_triple Q V (T) (P) w (hw _ (by repeat (first|exact Mh _|apply Mt))) hok (hT)).mono fun e w' h=>Num2R.q (Old.nil _) hs h) ?_))
  rintro _ _ ⟨qxa,qxb,rfl,rfl,hnxa,hnxb⟩
  refine KA (KC rfl) (Nb rfl) ?_
  refine KA (KW rfl rfl) (Nb rfl) ?_
  refine KA (KW rfl rfl) (Nb rfl) ?_
  refine KI rfl (KS (KR (Kc zr_73) (Nb rfl) (fun b15=>?_)))
  refine KI rfl (KP rfl rfl sz_73 (by repeat (first|exact KX|refine KT rfl ?_)) (by repeat (first|exact Sh _|apply St_)) (by rfl) ?_)
  refine KA (KF rfl) (Nb rfl) ?_
  refine KG ?_
  refine KE (KB ?_)
  refine LOps.det (KJ rfl (by repeat (first|exact Mh _|apply Mt)) (by exact KK Try.underlying31 rfl sz_31)) (Nb rfl) ?_
  refine LOps.det (KJ rfl (by repeat (first|exact Mh _|apply Mt)) (by exact KK Try.underlying91 rfl sz_91)) (Nb rfl) ?_
  refine KI rfl (KS (Kp (Post:=fun v its=>∃ X' Y' i q r,v = .tuple #[rpV (numV q X') (numV r Y') i,.bool false]∧its = [numT q X',numT r Y']) (first:=[]) rfl en_85 rfl (Nb rfl) (fun w hw hs=>(c_triple_no Q V X' Y' Z' w (hw _ (by repeat (first|exact Mh _|apply Mt))) hok hX' hY' hZ' hn').mono fun e w' ⟨X',Y',i,q,r,h1,h2,h3,h4,h5,h6⟩=>⟨_,_,⟨X',Y',i,q,r,rfl,rfl⟩,h1,KAd h6 (by intro x hx; simp at hx; rcases hx with rfl|rfl; exact h2; exact h4) (by intro x hx; simp at hx; rcases hx with rfl|rfl <;> rfl) (by intro x hx k hk; simp at hx; rcases hx with rfl|rfl; exact .inl ((h3 k hk).elim (fun h=>h) (fun h=>by cases h)); exact .inl ((h5 k hk).elim (fun h=>h) (fun h=>by cases h)))⟩) ?_))
  rintro _ _ ⟨X2,Y2,i2,q2,r2,rfl,rfl⟩
  refine KA (KC rfl) (Nb rfl) ?_
  refine KA (KW rfl rfl) (Nb rfl) ?_
  refine KA (KW rfl rfl) (Nb rfl) ?_
  refine KI rfl (KS (KR (Kc zr_73) (Nb rfl) (fun b17=>?_)))
  refine KI rfl (KP rfl rfl sz_73 (by repeat (first|exact KX|refine KT rfl ?_)) (by repeat (first|exact Sh _|apply St_)) (by rfl) ?_)
  refine KA (KF rfl) (Nb rfl) ?_
  refine KG ?_
  refine KE ?_
  refine KE (KB ?_)
  refine KA (KC rfl) (Nb rfl) ?_
  refine KA (KU (KAc rfl) (show _ = Value.bool false from rfl)) (Nb rfl) ?_
  refine KG ?_
  refine Kj rfl ?_
  refine Kh ?_
  refine KE (KB ?_)
  refine LOps.det (KJ rfl (by repeat (first|exact Mh _|apply Mt)) (by exact KK Try.underlying31 rfl sz_31)) (Nb rfl) ?_
  refine LOps.det (KJ rfl (by repeat (first|exact Mh _|apply Mt)) (by exact KK Try.underlying91 rfl sz_91)) (Nb rfl) ?_
  refine KI rfl (KS (Kp (first:=[]) rfl en_85 rfl (Nb rfl) (fun w hw hs=>(c_triple Q V (sumT V T T) (padd V.A P P) w (hw _ (by repeat (first|exact Mh _|apply Mt))) hok (RepT.sum hok hT hT)).mono fun e w' h=>Num2R.q (Old.nil _) hs h) ?_))
  rintro _ _ ⟨qua,qub,rfl,rfl,hnua,hnub⟩
  refine KA (KC rfl) (Nb rfl) ?_
  refine KA (KW rfl rfl) (Nb rfl) ?_
  refine KA (KW rfl rfl) (Nb rfl) ?_
  refine KI rfl (KS (KR (Kc zr_73) (Nb rfl) (fun b19=>?_)))
  refine KI rfl (KP rfl rfl sz_73 (by repeat (first|exact KX|refine KT rfl ?_)) (by repeat (first|exact Sh _|apply St_)) (by rfl) ?_)
  refine KA (KF rfl) (Nb rfl) ?_
  refine KG ?_
  refine KE ?_
  refine KE ?_
  refine Ke [] (by kernel_rfl) ?_
  refine KD 0 rfl (by kernel_rfl) (Nb rfl) (KC rfl) ?_
  refine KAA 1 rfl rfl (by kernel_rfl) (KQ (first:=[]) rfl en_46 rfl (Nb rfl) (fun w hw=>c_Num _ w) ?_)
  refine KD 2 rfl (by kernel_rfl) (Nb rfl) (KO (v:=.bool false) rfl rfl (br_f (br_neq (b:=0)) (by first|exact (fun e=>e rfl)|(simp; done)|omega))) ?_
  refine KD 3 rfl (by kernel_rfl) (Nb rfl) (KC rfl) ?_
  refine KAV 4 rfl rfl rfl (by kernel_rfl) (Nb rfl) (KJ rfl (by repeat (first|exact Mh _|apply Mt)) (by exact KK Try.underlying60 rfl sz_60)) ?_
  refine KAV 5 rfl rfl rfl (by kernel_rfl) (Nb rfl) (KJ rfl (by repeat (first|exact Mh _|apply Mt)) (by exact KK Try.underlying73 rfl sz_73)) ?_
  refine KAg 6 rfl rfl rfl rfl (by kernel_rfl) (KQ (first:=[]) rfl en_66 rfl (Nb rfl) (fun w hw=>c_r_OutP V qxa qxb (P) w (hw _ (by repeat (first|exact Mh _|apply Mt))) (hw _ (by repeat (first|exact Mh _|apply Mt)))) ?_)
  refine KAD 7 rfl rfl rfl (by kernel_rfl) (Nb rfl) (KU (Det.nea (by kernel_rfl) (fun w=>eq_ptP_t hok (P:=P) (Q:=P) rfl 10000 (by decide) w) rfl rfl) (show _ = Value.bool false by rfl)) ?_
  refine KD 8 rfl (by kernel_rfl) (Nb rfl) (Ku rfl rfl) ?_
  refine KD 9 rfl (by kernel_rfl) (Nb rfl) (KC rfl) ?_
  refine KAD 10 rfl rfl rfl (by kernel_rfl) (Nb rfl) (KC rfl) ?_
  refine KAg 11 rfl rfl rfl rfl (by kernel_rfl) (KQ (first:=[]) rfl en_46 rfl (Nb rfl) (fun w hw=>c_Num _ w) ?_)
  refine KAD 12 rfl rfl rfl (by kernel_rfl) (Nb rfl) (KO (v:=.bool false) rfl rfl (br_f (br_neq (b:=0)) (by first|exact (fun e=>e rfl)|(simp; done)|omega))) ?_
  refine KD 13 rfl (by kernel_rfl) (Nb rfl) (Ku rfl rfl) ?_
  refine KD 14 rfl (by kernel_rfl) (Nb rfl) (KC rfl) ?_
  refine KAD 15 rfl rfl rfl (by kernel_rfl) (Nb rfl) (KC rfl) ?_
  refine KAD 16 rfl rfl rfl (by kernel_rfl) (Nb rfl) (KU (KAc rfl) (show _ = Value.bool false from rfl)) ?_
  refine KD 17 rfl (by kernel_rfl) (Nb rfl) (Ku rfl rfl) ?_
  refine KD 18 rfl (by kernel_rfl) (Nb rfl) (KC rfl) ?_
  refine KAV 19 rfl rfl rfl (by kernel_rfl) (Nb rfl) (KJ rfl (by repeat (first|exact Mh _|apply Mt)) (by exact KK Try.underlying73 rfl sz_73)) ?_
  refine KAV 21 rfl rfl rfl (by kernel_rfl) (Nb rfl) (KJ rfl (by repeat (first|exact Mh _|apply Mt)) (by exact KK Try.underlying31 rfl sz_31)) ?_
  refine KAV 22 rfl rfl rfl (by kernel_rfl) (Nb rfl) (KJ rfl (by repeat (first|exact Mh _|apply Mt)) (by exact KK Try.underlying73 rfl sz_73)) ?_
  refine KAV 23 rfl rfl rfl (by kernel_rfl) (Nb rfl) (KJ rfl (by repeat (first|exact Mh _|apply Mt)) (by exact KK Try.underlying73 rfl sz_73)) ?_
  refine KAg 20 rfl rfl rfl rfl (by kernel_rfl) (KQ (first:=[]) rfl en_66 rfl (Nb rfl) (fun w hw=>c_r_OutP V qua qub (padd V.A P P) w (hw _ (by repeat (first|exact Mh _|apply Mt))) (hw _ (by repeat (first|exact Mh _|apply Mt)))) ?_)
  refine KAg 24 rfl rfl rfl rfl (by kernel_rfl) (Kp (first:=[]) rfl en_79 rfl (Nb rfl) (fun w hw hs=>(c_r_Plus Q V qxa qxb qxa qxb (P) (P) (padd V.A P P) w (hw _ (by repeat (first|exact Mh _|apply Mt))) hok (hw _ (by repeat (first|exact Mh _|apply Mt))) (hw _ (by repeat (first|exact Mh _|apply Mt))) (hw _ (by repeat (first|exact Mh _|apply Mt))) (hw _ (by repeat (first|exact Mh _|apply Mt))) (hT.on) (hT.on) (rfl)).mono fun e w' h=>Num2R.q (Old.pt (by repeat (first|exact Mh _|apply Mt)) (by repeat (first|exact Mh _|apply Mt)) (Old.pt (by repeat (first|exact Mh _|apply Mt)) (by repeat (first|exact Mh _|apply Mt)) (Old.nil _))) hs h) ?_)
  rintro _ _ ⟨qda,qdb,rfl,rfl,hnda,hndb⟩
  refine KAg 25 rfl rfl rfl rfl (by kernel_rfl) (KQ (first:=[]) rfl en_66 rfl (Nb rfl) (fun w hw=>c_r_OutP V qda qdb (padd V.A P P) w (hw _ (by repeat (first|exact Mh _|apply Mt))) (hw _ (by repeat (first|exact Mh _|apply Mt)))) ?_)
  refine KAD 26 rfl rfl rfl (by kernel_rfl) (Nb rfl) (KU (Det.nea (by kernel_rfl) (fun w=>eq_ptP_t hok (P:=padd V.A P P) (Q:=padd V.A P P) rfl 10000 (by decide) w) rfl rfl) (show _ = Value.bool false by rfl)) ?_
  refine KD 27 rfl (by kernel_rfl) (Nb rfl) (Ku rfl rfl) ?_
  refine Kq (by kernel_rfl) ?_
  refine Kj rfl ?_
  refine Kh ?_
  refine KE ?_
  refine KE (KB ?_)
  refine KA (KC rfl) (Nb rfl) ?_
  refine KA (KU (KAc rfl) (show _ = Value.bool true from rfl)) (Nb rfl) ?_
  refine KG ?_
  refine Ks rfl ?_
  refine KE (KB ?_)
  refine KA (KC rfl) (Nb rfl) ?_
  refine KI rfl (KS (KQ (first:=[]) rfl en_46 rfl (Nb rfl) (fun w hw=>c_Num _ w) ?_))
  refine KA (KO (v:=.bool true) rfl rfl (br_t (KAq (b:=1501)) (by first|rfl|assumption|omega|(simp; done)))) (Nb rfl) ?_
  refine KA (KC rfl) (Nb rfl) ?_
  refine KAN rfl rfl (KJ rfl (by repeat (first|exact Mh _|apply Mt)) (by exact KK Try.underlying91 rfl sz_91)) (Nb rfl) ?_
  refine KV rfl rfl (KU (KAI pl_91 zr_91 rfl rfl) (show _ = pjV 0 0 0 from pj_zero)) (Nb rfl) ?_
  refine KV rfl rfl (KU (Det.eqa (by kernel_rfl) (fun w=>eq_pj_t KAb KAb KAb 10000 (by decide) w) rfl rfl) (show _ = Value.bool true by rfl)) (Nb rfl) ?_
  refine KA (Kt rfl rfl) (Nb rfl) ?_
  refine KA (KC rfl) (Nb rfl) ?_
  refine KAS rfl rfl rfl (KS (KQ (first:=[]) rfl en_84 rfl (Nb rfl) (fun w hw=>c_awake15 w) ?_))
  refine KA (Kt rfl rfl) (Nb rfl) ?_
  refine KA (KF rfl) (Nb rfl) ?_
  refine KG (Ka ?_)
  refine ⟨[_],.cons rfl .nil,fun a w' hr=>⟨?_,hr.fr.below⟩⟩
  rfl
theorem c_Projs_oo (id:Int) (V:Cv) (T U:Fin V.p×Fin V.p×Fin V.p) (P R:Pt V.p) (w:World) (h:cvI id = some V) (hT:RepT V T P) (hU:RepT V U R):Calls Try.prog 15 ([.int .i64 id,pjF T,pjF U]:List Value).toArray w (fun e w'=>e = .returned (.bool true)∧Below w.heap.size w w'):=by
  obtain ⟨hok,hid⟩:=cvI_ok h
  have hpW:V.p<W9:=w9_521 hok.bounds.2.1
  refine KAC (N:=187) (rs:=[.tmp 6]) [] Try.func15 rfl Try.ntmps15 Try.results15 (Nb rfl) trivial rfl ?_
  show LCode _ _ _ ⟨_,_⟩ _
  refine KE (KB ?_)
  refine KI rfl (KS (KR (Kz rfl) (Nb rfl) (fun b4=>?_)))
  refine KI rfl (KS (KR (Kz rfl) (Nb rfl) (fun b5=>?_)))
  refine KA (KF rfl) (Nb rfl) ?_
  refine KG ?_
  refine KE (KB ?_)
  refine KA (KC rfl) (Nb rfl) ?_
  refine KI rfl (KS (Kp (Post:=fun v its=>∃ Q,v = .tuple #[.agg (crvL Q V).toArray,.bool true]∧its = [crvI Q V]) (first:=[]) rfl en_43 rfl (Nb rfl) (fun w1 hw hs=>(c_r_Get _ V w1 h).mono fun e w' ⟨Q,h1,h2,h3,h4⟩=>⟨_,_,⟨Q,rfl,rfl⟩,h1,KAd h4 (by intro x hx; simp at hx; subst hx; exact h2) (by intro x hx; simp at hx; subst hx; rfl) (by intro x hx k hk; simp at hx; subst hx; exact .inl (h3 k hk))⟩) ?_))
  rintro _ _ ⟨Q,rfl,rfl⟩
  refine KA (KC rfl) (Nb rfl) ?_
  refine KA (KW rfl rfl) (Nb rfl) ?_
  refine KA (KW rfl rfl) (Nb rfl) ?_
  refine KI rfl (KS (KR (Kc zr_31) (Nb rfl) (fun b7=>?_)))
  refine KI rfl (KP rfl rfl sz_31 (by repeat (first|exact KX|refine KT rfl ?_)) (by repeat (first|exact Sh _|apply St_)) (by rfl) ?_)
  refine KA (KF rfl) (Nb rfl) ?_
  refine KG ?_
  refine KE (KB ?_)
  refine KA (KC rfl) (Nb rfl) ?_
  refine LOps.det (KJ rfl (by repeat (first|exact Mh _|apply Mt)) (by exact KK Try.underlying91 rfl sz_91)) (Nb rfl) ?_
  refine KI rfl (KS (KQ (first:=[]) rfl en_81 rfl (Nb rfl) (fun w hw=>c_projTo id V T P w h hT) ?_))
  refine KA (KC rfl) (Nb rfl) ?_
  refine KA (KW rfl rfl) (Nb rfl) ?_
  refine KA (KW rfl rfl) (Nb rfl) ?_
  refine KI rfl (KS (KR (Kc zr_60) (Nb rfl) (fun b9=>?_)))
  refine KI rfl (KP rfl rfl sz_60 (by exact Kw _ _ _) (by repeat (first|exact Sh _|apply St_)) (by exact KY _ _ _) ?_)
  refine KA (KF rfl) (Nb rfl) ?_
  refine KG ?_
  refine KE (KB ?_)
  refine KA (KC rfl) (Nb rfl) ?_
  refine LOps.det (KJ rfl (by repeat (first|exact Mh _|apply Mt)) (by exact KK Try.underlying91 rfl sz_91)) (Nb rfl) ?_
  refine LOps.det (KJ rfl (by repeat (first|exact Mh _|apply Mt)) (by exact KK Try.underlying91 rfl sz_91)) (Nb rfl) ?_
  refine KI rfl (KS (KQ (first:=[]) rfl en_82 rfl (Nb rfl) (fun w hw=>c_projAdd id V T U P R w h hT hU) ?_))
  refine KA (KC rfl) (Nb rfl) ?_
  refine KA (KW rfl rfl) (Nb rfl) ?_
  refine KA (KW rfl rfl) (Nb rfl) ?_
  refine KI rfl (KS (KR (Kc zr_91) (Nb rfl) (fun b11=>?_)))
  refine KI rfl (KP rfl rfl sz_91 (by exact Ky _ _ _) (by repeat (first|exact Sh _|apply St_)) (by exact Kd _ _ _) ?_)
  refine KA (KF rfl) (Nb rfl) ?_
  refine KG ?_
  refine KE (KB ?_)
  refine KA (KC rfl) (Nb rfl) ?_
  refine LOps.det (KJ rfl (by repeat (first|exact Mh _|apply Mt)) (by exact KK Try.underlying91 rfl sz_91)) (Nb rfl) ?_
  refine KI rfl (KS (KQ (first:=[]) rfl en_83 rfl (Nb rfl) (fun w hw=>c_projDouble id V T P w h hT) ?_))
  refine KA (KC rfl) (Nb rfl) ?_
  refine KA (KW rfl rfl) (Nb rfl) ?_
  refine KA (KW rfl rfl) (Nb rfl) ?_
  refine KI rfl (KS (KR (Kc zr_91) (Nb rfl) (fun b13=>?_)))
  refine KI rfl (KP rfl rfl sz_91 (by exact Ky _ _ _) (by repeat (first|exact Sh _|apply St_)) (by exact Kd _ _ _) ?_)
  refine KA (KF rfl) (Nb rfl) ?_
  refine KG ?_
  refine KE ?_
  refine KE (KB ?_)
  refine KA (KC rfl) (Nb rfl) ?_
  refine KA (KU (KAc rfl) (show _ = Value.bool false from rfl)) (Nb rfl) ?_
  refine KG ?_
  refine Kj rfl ?_
  refine Kh ?_
  refine KE (KB ?_)
  refine LOps.det (KJ rfl (by repeat (first|exact Mh _|apply Mt)) (by exact KK Try.underlying31 rfl sz_31)) (Nb rfl) ?_
  refine LOps.det (KJ rfl (by repeat (first|exact Mh _|apply Mt)) (by exact KK Try.underlying91 rfl sz_91)) (Nb rfl) ?_
  refine KI rfl (KS (Kp (first:=[]) rfl en_85 rfl (Nb rfl) (fun w hw hs=>(c_triple Q V (T) (P) w (hw _ (by repeat (first|exact Mh _|apply Mt))) hok (hT)).mono fun e w' h=>Num2R.q (Old.nil _) hs h) ?_))
  rintro _ _ ⟨qxa,qxb,rfl,rfl,hnxa,hnxb⟩
  refine KA (KC rfl) (Nb rfl) ?_
  refine KA (KW rfl rfl) (Nb rfl) ?_
  refine KA (KW rfl rfl) (Nb rfl) ?_
  refine KI rfl (KS (KR (Kc zr_73) (Nb rfl) (fun b15=>?_)))
  refine KI rfl (KP rfl rfl sz_73 (by repeat (first|exact KX|refine KT rfl ?_)) (by repeat (first|exact Sh _|apply St_)) (by rfl) ?_)
  refine KA (KF rfl) (Nb rfl) ?_
  refine KG ?_
  refine KE (KB ?_)
  refine LOps.det (KJ rfl (by repeat (first|exact Mh _|apply Mt)) (by exact KK Try.underlying31 rfl sz_31)) (Nb rfl) ?_
  refine LOps.det (KJ rfl (by repeat (first|exact Mh _|apply Mt)) (by exact KK Try.underlying91 rfl sz_91)) (Nb rfl) ?_
  refine KI rfl (KS (Kp (first:=[]) rfl en_85 rfl (Nb rfl) (fun w hw hs=>(c_triple Q V (U) (R) w (hw _ (by repeat (first|exact Mh _|apply Mt))) hok (hU)).mono fun e w' h=>Num2R.q (Old.nil _) hs h) ?_))
  rintro _ _ ⟨qya,qyb,rfl,rfl,hnya,hnyb⟩
  refine KA (KC rfl) (Nb rfl) ?_
  refine KA (KW rfl rfl) (Nb rfl) ?_
  refine KA (KW rfl rfl) (Nb rfl) ?_
  refine KI rfl (KS (KR (Kc zr_73) (Nb rfl) (fun b17=>?_)))
  refine KI rfl (KP rfl rfl sz_73 (by repeat (first|exact KX|refine KT rfl ?_)) (by repeat (first|exact Sh _|apply St_)) (by rfl) ?_)
  refine KA (KF rfl) (Nb rfl) ?_
  refine KG ?_
  refine KE ?_
  refine KE (KB ?_)
  refine KA (KC rfl) (Nb rfl) ?_
  refine KA (KU (KAc rfl) (show _ = Value.bool false from rfl)) (Nb rfl) ?_
  refine KG ?_
  refine Kj rfl ?_
  refine Kh ?_
  refine KE (KB ?_)
  refine LOps.det (KJ rfl (by repeat (first|exact Mh _|apply Mt)) (by exact KK Try.underlying31 rfl sz_31)) (Nb rfl) ?_
  refine LOps.det (KJ rfl (by repeat (first|exact Mh _|apply Mt)) (by exact KK Try.underlying91 rfl sz_91)) (Nb rfl) ?_
  refine KI rfl (KS (Kp (first:=[]) rfl en_85 rfl (Nb rfl) (fun w hw hs=>(c_triple Q V (sumT V T T) (padd V.A P P) w (hw _ (by repeat (first|exact Mh _|apply Mt))) hok (RepT.sum hok hT hT)).mono fun e w' h=>Num2R.q (Old.nil _) hs h) ?_))
  rintro _ _ ⟨qua,qub,rfl,rfl,hnua,hnub⟩
  refine KA (KC rfl) (Nb rfl) ?_
  refine KA (KW rfl rfl) (Nb rfl) ?_
  refine KA (KW rfl rfl) (Nb rfl) ?_
  refine KI rfl (KS (KR (Kc zr_73) (Nb rfl) (fun b19=>?_)))
  refine KI rfl (KP rfl rfl sz_73 (by repeat (first|exact KX|refine KT rfl ?_)) (by repeat (first|exact Sh _|apply St_)) (by rfl) ?_)
  refine KA (KF rfl) (Nb rfl) ?_
  refine KG ?_
  refine KE ?_
  refine KE ?_
  refine Ke [] (by kernel_rfl) ?_
  refine KD 0 rfl (by kernel_rfl) (Nb rfl) (KC rfl) ?_
  refine KAA 1 rfl rfl (by kernel_rfl) (KQ (first:=[]) rfl en_46 rfl (Nb rfl) (fun w hw=>c_Num _ w) ?_)
  refine KD 2 rfl (by kernel_rfl) (Nb rfl) (KO (v:=.bool false) rfl rfl (br_f (br_neq (b:=0)) (by first|exact (fun e=>e rfl)|(simp; done)|omega))) ?_
  refine KD 3 rfl (by kernel_rfl) (Nb rfl) (KC rfl) ?_
  refine KAV 4 rfl rfl rfl (by kernel_rfl) (Nb rfl) (KJ rfl (by repeat (first|exact Mh _|apply Mt)) (by exact KK Try.underlying60 rfl sz_60)) ?_
  refine KAV 5 rfl rfl rfl (by kernel_rfl) (Nb rfl) (KJ rfl (by repeat (first|exact Mh _|apply Mt)) (by exact KK Try.underlying73 rfl sz_73)) ?_
  refine KAg 6 rfl rfl rfl rfl (by kernel_rfl) (KQ (first:=[]) rfl en_66 rfl (Nb rfl) (fun w hw=>c_r_OutP V qxa qxb (P) w (hw _ (by repeat (first|exact Mh _|apply Mt))) (hw _ (by repeat (first|exact Mh _|apply Mt)))) ?_)
  refine KAD 7 rfl rfl rfl (by kernel_rfl) (Nb rfl) (KU (Det.nea (by kernel_rfl) (fun w=>eq_ptP_t hok (P:=P) (Q:=P) rfl 10000 (by decide) w) rfl rfl) (show _ = Value.bool false by rfl)) ?_
  refine KD 8 rfl (by kernel_rfl) (Nb rfl) (Ku rfl rfl) ?_
  refine KD 9 rfl (by kernel_rfl) (Nb rfl) (KC rfl) ?_
  refine KAD 10 rfl rfl rfl (by kernel_rfl) (Nb rfl) (KC rfl) ?_
  refine KAg 11 rfl rfl rfl rfl (by kernel_rfl) (KQ (first:=[]) rfl en_46 rfl (Nb rfl) (fun w hw=>c_Num _ w) ?_)
  refine KAD 12 rfl rfl rfl (by kernel_rfl) (Nb rfl) (KO (v:=.bool false) rfl rfl (br_f (br_neq (b:=0)) (by first|exact (fun e=>e rfl)|(simp; done)|omega))) ?_
  refine KD 13 rfl (by kernel_rfl) (Nb rfl) (Ku rfl rfl) ?_
  refine KD 14 rfl (by kernel_rfl) (Nb rfl) (KC rfl) ?_
  refine KAD 15 rfl rfl rfl (by kernel_rfl) (Nb rfl) (KC rfl) ?_
  refine KAD 16 rfl rfl rfl (by kernel_rfl) (Nb rfl) (KU (KAc rfl) (show _ = Value.bool false from rfl)) ?_
  refine KD 17 rfl (by kernel_rfl) (Nb rfl) (Ku rfl rfl) ?_
  refine KD 18 rfl (by kernel_rfl) (Nb rfl) (KC rfl) ?_
  refine KAV 19 rfl rfl rfl (by kernel_rfl) (Nb rfl) (KJ rfl (by repeat (first|exact Mh _|apply Mt)) (by exact KK Try.underlying73 rfl sz_73)) ?_
  refine KAV 21 rfl rfl rfl (by kernel_rfl) (Nb rfl) (KJ rfl (by repeat (first|exact Mh _|apply Mt)) (by exact KK Try.underlying31 rfl sz_31)) ?_
  refine KAV 22 rfl rfl rfl (by kernel_rfl) (Nb rfl) (KJ rfl (by repeat (first|exact Mh _|apply Mt)) (by exact KK Try.underlying73 rfl sz_73)) ?_
  refine KAV 23 rfl rfl rfl (by kernel_rfl) (Nb rfl) (KJ rfl (by repeat (first|exact Mh _|apply Mt)) (by exact KK Try.underlying73 rfl sz_73)) ?_
  refine KAg 20 rfl rfl rfl rfl (by kernel_rfl) (KQ (first:=[]) rfl en_66 rfl (Nb rfl) (fun w hw=>c_r_OutP V qua qub (padd V.A P P) w (hw _ (by repeat (first|exact Mh _|apply Mt))) (hw _ (by repeat (first|exact Mh _|apply Mt)))) ?_)
  refine KAg 24 rfl rfl rfl rfl (by kernel_rfl) (Kp (first:=[]) rfl en_79 rfl (Nb rfl) (fun w hw hs=>(c_r_Plus Q V qxa qxb qxa qxb (P) (P) (padd V.A P P) w (hw _ (by repeat (first|exact Mh _|apply Mt))) hok (hw _ (by repeat (first|exact Mh _|apply Mt))) (hw _ (by repeat (first|exact Mh _|apply Mt))) (hw _ (by repeat (first|exact Mh _|apply Mt))) (hw _ (by repeat (first|exact Mh _|apply Mt))) (hT.on) (hT.on) (rfl)).mono fun e w' h=>Num2R.q (Old.pt (by repeat (first|exact Mh _|apply Mt)) (by repeat (first|exact Mh _|apply Mt)) (Old.pt (by repeat (first|exact Mh _|apply Mt)) (by repeat (first|exact Mh _|apply Mt)) (Old.nil _))) hs h) ?_)
  rintro _ _ ⟨qda,qdb,rfl,rfl,hnda,hndb⟩
  refine KAg 25 rfl rfl rfl rfl (by kernel_rfl) (KQ (first:=[]) rfl en_66 rfl (Nb rfl) (fun w hw=>c_r_OutP V qda qdb (padd V.A P P) w (hw _ (by repeat (first|exact Mh _|apply Mt))) (hw _ (by repeat (first|exact Mh _|apply Mt)))) ?_)
  refine KAD 26 rfl rfl rfl (by kernel_rfl) (Nb rfl) (KU (Det.nea (by kernel_rfl) (fun w=>eq_ptP_t hok (P:=padd V.A P P) (Q:=padd V.A P P) rfl 10000 (by decide) w) rfl rfl) (show _ = Value.bool false by rfl)) ?_
  refine KD 27 rfl (by kernel_rfl) (Nb rfl) (Ku rfl rfl) ?_
  refine Kq (by kernel_rfl) ?_
  refine Kj rfl ?_
  refine Kh ?_
  refine KE ?_
  refine KE (KB ?_)
  refine KA (KC rfl) (Nb rfl) ?_
  refine KA (KU (KAc rfl) (show _ = Value.bool false from rfl)) (Nb rfl) ?_
  refine KG ?_
  refine Kj rfl ?_
  refine Kh ?_
  refine KE (KB ?_)
  refine LOps.det (KJ rfl (by repeat (first|exact Mh _|apply Mt)) (by exact KK Try.underlying31 rfl sz_31)) (Nb rfl) ?_
  refine LOps.det (KJ rfl (by repeat (first|exact Mh _|apply Mt)) (by exact KK Try.underlying91 rfl sz_91)) (Nb rfl) ?_
  refine KI rfl (KS (Kp (first:=[]) rfl en_85 rfl (Nb rfl) (fun w hw hs=>(c_triple Q V (sumT V T U) (padd V.A P R) w (hw _ (by repeat (first|exact Mh _|apply Mt))) hok (RepT.sum hok hT hU)).mono fun e w' h=>Num2R.q (Old.nil _) hs h) ?_))
  rintro _ _ ⟨qva,qvb,rfl,rfl,hnva,hnvb⟩
  refine KA (KC rfl) (Nb rfl) ?_
  refine KA (KW rfl rfl) (Nb rfl) ?_
  refine KA (KW rfl rfl) (Nb rfl) ?_
  refine KI rfl (KS (KR (Kc zr_73) (Nb rfl) (fun b21=>?_)))
  refine KI rfl (KP rfl rfl sz_73 (by repeat (first|exact KX|refine KT rfl ?_)) (by repeat (first|exact Sh _|apply St_)) (by rfl) ?_)
  refine KA (KF rfl) (Nb rfl) ?_
  refine KG ?_
  refine KE ?_
  refine Ke [] (by kernel_rfl) ?_
  refine KD 0 rfl (by kernel_rfl) (Nb rfl) (KC rfl) ?_
  refine KAA 1 rfl rfl (by kernel_rfl) (KQ (first:=[]) rfl en_46 rfl (Nb rfl) (fun w hw=>c_Num _ w) ?_)
  refine KD 2 rfl (by kernel_rfl) (Nb rfl) (KO (v:=.bool true) rfl rfl (br_t (KAq (b:=0)) (by first|rfl|assumption|omega|(simp; done)))) ?_
  refine KD 3 rfl (by kernel_rfl) (Nb rfl) (KC rfl) ?_
  refine KAD 4 rfl rfl rfl (by kernel_rfl) (Nb rfl) (KC rfl) ?_
  refine KD 5 rfl (by kernel_rfl) (Nb rfl) (Kt rfl rfl) ?_
  refine KD 6 rfl (by kernel_rfl) (Nb rfl) (KC rfl) ?_
  refine KAV 7 rfl rfl rfl (by kernel_rfl) (Nb rfl) (KJ rfl (by repeat (first|exact Mh _|apply Mt)) (by exact KK Try.underlying73 rfl sz_73)) ?_
  refine KAV 9 rfl rfl rfl (by kernel_rfl) (Nb rfl) (KJ rfl (by repeat (first|exact Mh _|apply Mt)) (by exact KK Try.underlying31 rfl sz_31)) ?_
  refine KAV 10 rfl rfl rfl (by kernel_rfl) (Nb rfl) (KJ rfl (by repeat (first|exact Mh _|apply Mt)) (by exact KK Try.underlying73 rfl sz_73)) ?_
  refine KAV 11 rfl rfl rfl (by kernel_rfl) (Nb rfl) (KJ rfl (by repeat (first|exact Mh _|apply Mt)) (by exact KK Try.underlying73 rfl sz_73)) ?_
  refine KAg 8 rfl rfl rfl rfl (by kernel_rfl) (KQ (first:=[]) rfl en_66 rfl (Nb rfl) (fun w hw=>c_r_OutP V qva qvb (padd V.A P R) w (hw _ (by repeat (first|exact Mh _|apply Mt))) (hw _ (by repeat (first|exact Mh _|apply Mt)))) ?_)
  refine KAg 12 rfl rfl rfl rfl (by kernel_rfl) (Kp (first:=[]) rfl en_79 rfl (Nb rfl) (fun w hw hs=>(c_r_Plus Q V qxa qxb qya qyb (P) (R) (padd V.A P R) w (hw _ (by repeat (first|exact Mh _|apply Mt))) hok (hw _ (by repeat (first|exact Mh _|apply Mt))) (hw _ (by repeat (first|exact Mh _|apply Mt))) (hw _ (by repeat (first|exact Mh _|apply Mt))) (hw _ (by repeat (first|exact Mh _|apply Mt))) (hT.on) (hU.on) (rfl)).mono fun e w' h=>Num2R.q (Old.pt (by repeat (first|exact Mh _|apply Mt)) (by repeat (first|exact Mh _|apply Mt)) (Old.pt (by repeat (first|exact Mh _|apply Mt)) (by repeat (first|exact Mh _|apply Mt)) (Old.nil _))) hs h) ?_)
  rintro _ _ ⟨qsa,qsb,rfl,rfl,hnsa,hnsb⟩
  refine KAg 13 rfl rfl rfl rfl (by kernel_rfl) (KQ (first:=[]) rfl en_66 rfl (Nb rfl) (fun w hw=>c_r_OutP V qsa qsb (padd V.A P R) w (hw _ (by repeat (first|exact Mh _|apply Mt))) (hw _ (by repeat (first|exact Mh _|apply Mt)))) ?_)
  refine KAD 14 rfl rfl rfl (by kernel_rfl) (Nb rfl) (KU (Det.eqa (by kernel_rfl) (fun w=>eq_ptP_t hok (P:=padd V.A P R) (Q:=padd V.A P R) (rfl) 10000 (by decide) w) rfl rfl) (show _ = Value.bool true by rfl)) ?_
  refine KD 15 rfl (by kernel_rfl) (Nb rfl) (Kt rfl rfl) ?_
  refine KD 16 rfl (by kernel_rfl) (Nb rfl) (KC rfl) ?_
  refine KAg 17 rfl rfl rfl rfl (by kernel_rfl) (KQ (first:=[]) rfl en_84 rfl (Nb rfl) (fun w hw=>c_awake15 w) ?_)
  refine KD 18 rfl (by kernel_rfl) (Nb rfl) (Kt rfl rfl) ?_
  refine KD 19 rfl (by kernel_rfl) (Nb rfl) (KF rfl) ?_
  refine Kq (by kernel_rfl) ?_
  refine Ka ?_
  refine ⟨[_],.cons rfl .nil,fun a w' hr=>⟨?_,hr.fr.below⟩⟩
  rfl
theorem c_Projs (id:Int) (X Y Z X' Y' Z':Nat) (w:World) (hX:X<W9) (hY:Y<W9) (hZ:Z<W9) (hX':X' < W9) (hY':Y' < W9) (hZ':Z' < W9):Calls Try.prog 15 ([.int .i64 id,pjV X Y Z,pjV X' Y' Z']:List Value).toArray w (fun e w'=>e = .returned (.bool true)∧Below w.heap.size w w'):=by
  cases h:cvI id with
  | none=>exact c_Projs_none id X Y Z X' Y' Z' w h
  | some V =>
    have hok:=(cvI_ok h).1
    by_cases hn:TrHas V X Y Z
    · obtain ⟨T,P,rfl,rfl,rfl,hT⟩:=hn.rep hok
      by_cases hn':TrHas V X' Y' Z'
      · obtain ⟨U,R,rfl,rfl,rfl,hU⟩:=hn'.rep hok
        exact c_Projs_oo id V T U P R w h hT hU
      · exact c_Projs_ob id V T P X' Y' Z' w h hT hX' hY' hZ' hn'
    · by_cases hn':TrHas V X' Y' Z'
      · obtain ⟨U,R,rfl,rfl,rfl,hU⟩:=hn'.rep hok
        exact c_Projs_bo id V X Y Z U R w h hX hY hZ hn hU
      · exact c_Projs_bb id V X Y Z X' Y' Z' w h hX hY hZ hX' hY' hZ' hn hn'
end Go.Proofs.Ytljblbgogjieaaa
