/- Part 5 of what the proof leans on: a symbolic execution of the model, walks of the program's functions, and the mathematics. No condition. -/
import Derived.WalkKit
import Derived.Orders
import Derived.Laws.StructEq
import Derived.WalkSpells
import Derived.OrdersHeld
import Derived.KernelRfl
import Derived.Laws.Externs
import Derived.Laws.Bits64
import Derived.Laws.MakeOwn
import Derived.Laws.BytesString
import Derived.Carry
import Derived.WideShapes
import GoSem.Claim
import Derived.Test.YtljblbgogjieaaaProg
import Derived.Laws.AppendOwn
import Derived.Test.YtljblbgogjieaaaRows
import Derived.ProofKit
import Derived.OpenShut
import Derived.Test.YtljblbgogjieaaaZ4
set_option linter.unusedVariables false
set_option linter.unusedSimpArgs false
set_option maxRecDepth 20000
namespace Go.Proofs.Ytljblbgogjieaaa
open Go Go.RowKit
theorem c_Right (V:Cv) (b f bd:Nat) (hok:V.Ok) (X:Fin V.p) (w:World) (hb:(Item.blk b ⟨false,opL V f,147,(0,0)⟩).holds w) (hf:(Item.blk f ⟨false,fldL V.p bd,194,(0,0)⟩).holds w) (hbd:(Item.blk bd ⟨false,dvL V.p,241,(0,0)⟩).holds w):Calls Try.prog 157 ([.pointer (some ⟨b,0,none⟩),natV X.val]:List Value).toArray w (fun e w'=>e = .returned (natV ((X*X+V.A)*X+V.B).val)∧Below w.heap.size w w'):=by
  have hbb:=hok.bounds
  have hpW:V.p<W9:=w9_521 hbb.2.1
  refine KAB (N:=31) (rs:=[.cell 4 25]) [.blk b ⟨false,opL V f,147,(0,0)⟩,.blk f ⟨false,fldL V.p bd,194,(0,0)⟩,.blk bd ⟨false,dvL V.p,241,(0,0)⟩] Try.func157 rfl Try.ntmps157 Try.results157 (Nb rfl) ⟨hb,hf,hbd,trivial⟩ rfl ?_
  show LCode _ _ _ ⟨_,_⟩ _
  refine KD (KB ?_)
  refine KH rfl (KS (KQ (Kn rfl) (Nb rfl) (fun b3=>?_)))
  refine KH rfl (KS (KQ (Kb zr_25) (Nb rfl) (fun b4=>?_)))
  refine KG ?_
  refine KD (KB ?_)
  refine KA (KE rfl) (Nb rfl) ?_
  refine KA (Kd rfl) (Nb rfl) ?_
  refine KA (KM (o':=59) Try.underlying147 rfl rfl rfl sz_145 (by decide)) (Nb rfl) ?_
  refine LOps.det (KK rfl (by repeat (first|exact Mh _|apply Mt)) (KY Try.underlying145 rfl (by exact cvC_gt_F _ _ _ _ _ _ _ _ _ _ _ _ _))) (Nb rfl) ?_
  refine KA (KF rfl) (Nb rfl) ?_
  refine KG ?_
  refine KD ?_
  refine Kc [21] (by kernel_rfl) ?_
  refine KC 0 rfl (by kernel_rfl) (Nb rfl) (KE rfl) ?_
  refine KC 1 rfl (by kernel_rfl) (Nb rfl) (KE rfl) ?_
  refine KC 2 rfl (by kernel_rfl) (Nb rfl) (KE rfl) ?_
  refine KC 3 rfl (by kernel_rfl) (Nb rfl) (KE rfl) ?_
  refine LAny.take 4 rfl (by kernel_rfl) (Nb rfl) (KK rfl (by repeat (first|exact Mh _|apply Mt)) (by exact KJ Try.underlying25 rfl sz_25)) ?_
  refine LAny.take 5 rfl (by kernel_rfl) (Nb rfl) (KK rfl (by repeat (first|exact Mh _|apply Mt)) (by exact KJ Try.underlying25 rfl sz_25)) ?_
  refine KC 7 rfl (by kernel_rfl) (Nb rfl) (KE rfl) ?_
  refine KC 8 rfl (by kernel_rfl) (Nb rfl) (Kd rfl) ?_
  refine KC 9 rfl (by kernel_rfl) (Nb rfl) (KM (o':=0) Try.underlying147 rfl rfl rfl sz_62 (by decide)) ?_
  refine KC 10 rfl (by kernel_rfl) (Nb rfl) (KM (o':=10) Try.underlying62 rfl rfl rfl sz_25 (by decide)) ?_
  refine LAny.take 11 rfl (by kernel_rfl) (Nb rfl) (Det.cast (KK rfl (by repeat (first|exact Mh _|apply Mt)) (by exact cvC_ld_a _ _ _ _ _ _ _ _ _ _ _ _ _ _ _ _)) (a_val hok)) ?_
  refine LAny.take 13 rfl (by kernel_rfl) (Nb rfl) (KK rfl (by repeat (first|exact Mh _|apply Mt)) (by exact KJ Try.underlying25 rfl sz_25)) ?_
  refine KC 15 rfl (by kernel_rfl) (Nb rfl) (KE rfl) ?_
  refine KC 16 rfl (by kernel_rfl) (Nb rfl) (Kd rfl) ?_
  refine KC 17 rfl (by kernel_rfl) (Nb rfl) (KM (o':=0) Try.underlying147 rfl rfl rfl sz_62 (by decide)) ?_
  refine KC 18 rfl (by kernel_rfl) (Nb rfl) (KM (o':=19) Try.underlying62 rfl rfl rfl sz_25 (by decide)) ?_
  refine LAny.take 19 rfl (by kernel_rfl) (Nb rfl) (Det.cast (KK rfl (by repeat (first|exact Mh _|apply Mt)) (by exact cvC_ld_b _ _ _ _ _ _ _ _ _ _ _ _ _ _ _ _)) (b_val hok)) ?_
  refine Kv 6 rfl rfl (by kernel_rfl) (KR (first:=[]) rfl en_156 rfl (Nb rfl) (fun w hw=>c_F_Mul V hok f bd _ _ w (hw _ (by repeat (first|exact Mh _|apply Mt))) (hw _ (by repeat (first|exact Mh _|apply Mt)))) ?_)
  refine Kv 12 rfl rfl (by kernel_rfl) (KR (first:=[]) rfl en_152 rfl (Nb rfl) (fun w hw=>c_F_Add V hok f bd _ _ w (hw _ (by repeat (first|exact Mh _|apply Mt)))) ?_)
  refine Kv 14 rfl rfl (by kernel_rfl) (KR (first:=[]) rfl en_156 rfl (Nb rfl) (fun w hw=>c_F_Mul V hok f bd _ _ w (hw _ (by repeat (first|exact Mh _|apply Mt))) (hw _ (by repeat (first|exact Mh _|apply Mt)))) ?_)
  refine Kv 20 rfl rfl (by kernel_rfl) (KR (first:=[]) rfl en_152 rfl (Nb rfl) (fun w hw=>c_F_Add V hok f bd _ _ w (hw _ (by repeat (first|exact Mh _|apply Mt)))) ?_)
  refine Ks 21 rfl rfl (by kernel_rfl) (by kernel_rfl) (KO rfl rfl sz_25 (by repeat (first|exact Kl _|exact Kz _ _ _|exact Km _|exact Ko _ _ _|exact Ky _ _ _|exact KW|refine KT rfl ?_|refine KX ?_ ?_)) (by repeat (first|exact Sh _|apply St_)) (by first|exact KI _|exact KN _ _ _|exact KL _|exact KU _ _ _|exact Ke _ _ _|rfl|simp [KN,KI,KL]) ?_)
  refine Kp (by kernel_rfl) ?_
  refine Ka ?_
  refine ⟨[_],.cons ⟨_,_,_,rfl,(by repeat (first|exact Mh _|apply Mt)),by exact KJ Try.underlying25 rfl sz_25⟩ .nil,fun a w' hr=>⟨?_,hr.fr.below⟩⟩
  rfl
theorem c_HasT (V:Cv) (f bd A:Nat) (w:World) (hf:(Item.blk f ⟨false,fldL V.p bd,194,(0,0)⟩).holds w) (hA:A<W9) (hpW:V.p<W9) (h:A<V.p):Calls Try.prog 155 ([.pointer (some ⟨f,0,none⟩),natV A]:List Value).toArray w (fun e w'=>e = .returned (.bool true)∧Below w.heap.size w w'):=by
  have:=c_f_Has V f bd A w hf hA hpW
  rwa [decide_eq_true h] at this
theorem c_HasF (V:Cv) (f bd A:Nat) (w:World) (hf:(Item.blk f ⟨false,fldL V.p bd,194,(0,0)⟩).holds w) (hA:A<W9) (hpW:V.p<W9) (h:¬ A<V.p):Calls Try.prog 155 ([.pointer (some ⟨f,0,none⟩),natV A]:List Value).toArray w (fun e w'=>e = .returned (.bool false)∧Below w.heap.size w w'):=by
  have:=c_f_Has V f bd A w hf hA hpW
  rwa [decide_eq_false h] at this
theorem right_val {V:Cv} (hok:V.Ok) (x:Fin V.p):rightN V.p V.a V.b x.val = ((x*x+V.A)*x+V.B).val:=by
  unfold rightN
  rw [Fin.val_add,Fin.val_mul,Fin.val_add,Fin.val_mul,hok.A_val hok.bounds.2.2.1,hok.B_val hok.bounds.2.2.2.1]
theorem on_x' {p a b X Y:Nat} (h:¬ X<p):onB p a b X Y false = false:=by
  unfold onB; rw [if_neg (by decide),decide_eq_false h,Bool.false_and]
theorem on_yy' {p a b X Y:Nat} (h:¬ Y<p):onB p a b X Y false = false:=by
  unfold onB; rw [if_neg (by decide),decide_eq_false h,Bool.false_and,Bool.and_false]
theorem on_fin {V:Cv} (hok:V.Ok) (x y:Fin V.p):onB V.p V.a V.b x.val y.val false = decide ((y*y).val = ((x*x+V.A)*x+V.B).val):=by
  unfold onB
  rw [if_neg (by decide),decide_eq_true x.isLt,decide_eq_true y.isLt,Bool.true_and,Bool.true_and,right_val hok,Fin.val_mul]
theorem on_inf' {p a b X Y:Nat}:onB p a b X Y true = (decide (X = 0) && decide (Y = 0)):=if_pos rfl
theorem c_cOn (V:Cv) (b f bd:Nat) (hok:V.Ok) (X Y:Nat) (i:Bool) (w:World) (hb:(Item.blk b ⟨false,opL V f,147,(0,0)⟩).holds w) (hf:(Item.blk f ⟨false,fldL V.p bd,194,(0,0)⟩).holds w) (hbd:(Item.blk bd ⟨false,dvL V.p,241,(0,0)⟩).holds w) (hX:X<W9) (hY:Y<W9):Calls Try.prog 122 ([.pointer (some ⟨b,0,none⟩),ptV X Y i]:List Value).toArray w (fun e w'=>e = .returned (.bool (onB V.p V.a V.b X Y i))∧Below w.heap.size w w'):=by
  have hbb:=hok.bounds
  have hpW:V.p<W9:=w9_521 hbb.2.1
  refine KAB (N:=42) (rs:=[.tmp 4]) [.blk b ⟨false,opL V f,147,(0,0)⟩,.blk f ⟨false,fldL V.p bd,194,(0,0)⟩,.blk bd ⟨false,dvL V.p,241,(0,0)⟩] Try.func122 rfl Try.ntmps122 Try.results122 (Nb rfl) ⟨hb,hf,hbd,trivial⟩ rfl ?_
  show LCode _ _ _ ⟨_,_⟩ _
  refine KD (KB ?_)
  refine KH rfl (KS (KQ (Kn rfl) (Nb rfl) (fun b3=>?_)))
  refine KA (KF rfl) (Nb rfl) ?_
  refine KG ?_
  refine KD ?_
  refine KD ?_
  cases i
  ·
    refine KB ?_
    refine KA (KM (o':=18) Try.underlying60 rfl rfl rfl sz_4 (by decide)) (Nb rfl) ?_
    refine LOps.det (KK rfl (by repeat (first|exact Mh _|apply Mt)) (KY Try.underlying4 rfl (by exact pt_gt _ _ _))) (Nb rfl) ?_
    refine KG ?_
    refine Ki rfl ?_
    refine Kh ?_
    refine KD ?_
    rcases (show (¬ X<V.p)∨(X<V.p∧¬ Y<V.p)∨(X<V.p∧Y<V.p) by omega) with h1|⟨h1,h2⟩|⟨h1,h2⟩
    ·
      refine Kc [] (by kernel_rfl) ?_
      refine KC 0 rfl (by kernel_rfl) (Nb rfl) (KE rfl) ?_
      refine KC 1 rfl (by kernel_rfl) (Nb rfl) (Kd rfl) ?_
      refine KC 2 rfl (by kernel_rfl) (Nb rfl) (KM (o':=59) Try.underlying147 rfl rfl rfl sz_145 (by decide)) ?_
      refine LAny.take 3 rfl (by kernel_rfl) (Nb rfl) (KK rfl (by repeat (first|exact Mh _|apply Mt)) (KY Try.underlying145 rfl (by exact cvC_gt_F _ _ _ _ _ _ _ _ _ _ _ _ _))) ?_
      refine KC 4 rfl (by kernel_rfl) (Nb rfl) (KM (o':=0) Try.underlying60 rfl rfl rfl sz_25 (by decide)) ?_
      refine LAny.take 5 rfl (by kernel_rfl) (Nb rfl) (KK rfl (by repeat (first|exact Mh _|apply Mt)) (by exact KAQ Try.underlying25 rfl sz_25 rfl (KI _))) ?_
      refine Kv 6 rfl rfl (by kernel_rfl) (KR (first:=[]) rfl en_155 rfl (Nb rfl) (fun w hw=>c_HasF V f bd X w (hw _ (by repeat (first|exact Mh _|apply Mt))) hX hpW h1) ?_)
      refine KC 7 rfl (by kernel_rfl) (Nb rfl) (KE rfl) ?_
      refine KAG 8 rfl rfl rfl rfl (by kernel_rfl) (Nb rfl) ?_
      refine KAG 9 rfl rfl rfl rfl (by kernel_rfl) (Nb rfl) ?_
      refine KAG 10 rfl rfl rfl rfl (by kernel_rfl) (Nb rfl) ?_
      refine KAG 11 rfl rfl rfl rfl (by kernel_rfl) (Nb rfl) ?_
      refine KAG 12 rfl rfl rfl rfl (by kernel_rfl) (Nb rfl) ?_
      refine KAG 13 rfl rfl rfl rfl (by kernel_rfl) (Nb rfl) ?_
      refine KAG 14 rfl rfl rfl rfl (by kernel_rfl) (Nb rfl) ?_
      refine KC 15 rfl (by kernel_rfl) (Nb rfl) (KAH rfl rfl) ?_
      refine KC 16 rfl (by kernel_rfl) (Nb rfl) (KE rfl) ?_
      refine KAG 17 rfl rfl rfl rfl (by kernel_rfl) (Nb rfl) ?_
      refine KAG 18 rfl rfl rfl rfl (by kernel_rfl) (Nb rfl) ?_
      refine KAG 19 rfl rfl rfl rfl (by kernel_rfl) (Nb rfl) ?_
      refine KAG 20 rfl rfl rfl rfl (by kernel_rfl) (Nb rfl) ?_
      refine KAG 21 rfl rfl rfl rfl (by kernel_rfl) (Nb rfl) ?_
      refine KAG 22 rfl rfl rfl rfl (by kernel_rfl) (Nb rfl) ?_
      refine KAG 23 rfl rfl rfl rfl (by kernel_rfl) (Nb rfl) ?_
      refine KAG 24 rfl rfl rfl rfl (by kernel_rfl) (Nb rfl) ?_
      refine KAG 25 rfl rfl rfl rfl (by kernel_rfl) (Nb rfl) ?_
      refine KAG 26 rfl rfl rfl rfl (by kernel_rfl) (Nb rfl) ?_
      refine KAG 27 rfl rfl rfl rfl (by kernel_rfl) (Nb rfl) ?_
      refine KAG 28 rfl rfl rfl rfl (by kernel_rfl) (Nb rfl) ?_
      refine KAG 29 rfl rfl rfl rfl (by kernel_rfl) (Nb rfl) ?_
      refine KAG 30 rfl rfl rfl rfl (by kernel_rfl) (Nb rfl) ?_
      refine KC 31 rfl (by kernel_rfl) (Nb rfl) (KAH rfl rfl) ?_
      refine KC 32 rfl (by kernel_rfl) (Nb rfl) (KF rfl) ?_
      refine Kp (by kernel_rfl) ?_
      refine Ka ?_
      refine ⟨[_],.cons rfl .nil,fun a w' hr=>⟨?_,hr.fr.below⟩⟩
      rw [on_x' h1]
      rfl
    ·
      refine Kc [] (by kernel_rfl) ?_
      refine KC 0 rfl (by kernel_rfl) (Nb rfl) (KE rfl) ?_
      refine KC 1 rfl (by kernel_rfl) (Nb rfl) (Kd rfl) ?_
      refine KC 2 rfl (by kernel_rfl) (Nb rfl) (KM (o':=59) Try.underlying147 rfl rfl rfl sz_145 (by decide)) ?_
      refine LAny.take 3 rfl (by kernel_rfl) (Nb rfl) (KK rfl (by repeat (first|exact Mh _|apply Mt)) (KY Try.underlying145 rfl (by exact cvC_gt_F _ _ _ _ _ _ _ _ _ _ _ _ _))) ?_
      refine KC 4 rfl (by kernel_rfl) (Nb rfl) (KM (o':=0) Try.underlying60 rfl rfl rfl sz_25 (by decide)) ?_
      refine LAny.take 5 rfl (by kernel_rfl) (Nb rfl) (KK rfl (by repeat (first|exact Mh _|apply Mt)) (by exact KAQ Try.underlying25 rfl sz_25 rfl (KI _))) ?_
      refine Kv 6 rfl rfl (by kernel_rfl) (KR (first:=[]) rfl en_155 rfl (Nb rfl) (fun w hw=>c_HasT V f bd X w (hw _ (by repeat (first|exact Mh _|apply Mt))) hX hpW h1) ?_)
      refine KC 7 rfl (by kernel_rfl) (Nb rfl) (KE rfl) ?_
      refine KAK 8 rfl rfl rfl (by kernel_rfl) (Nb rfl) (KE rfl) ?_
      refine KAK 9 rfl rfl rfl (by kernel_rfl) (Nb rfl) (Kd rfl) ?_
      refine KAK 10 rfl rfl rfl (by kernel_rfl) (Nb rfl) (KM (o':=59) Try.underlying147 rfl rfl rfl sz_145 (by decide)) ?_
      refine KAZ 11 rfl rfl rfl (by kernel_rfl) (Nb rfl) (KK rfl (by repeat (first|exact Mh _|apply Mt)) (KY Try.underlying145 rfl (by exact cvC_gt_F _ _ _ _ _ _ _ _ _ _ _ _ _))) ?_
      refine KAK 12 rfl rfl rfl (by kernel_rfl) (Nb rfl) (KM (o':=9) Try.underlying60 rfl rfl rfl sz_25 (by decide)) ?_
      refine KAZ 13 rfl rfl rfl (by kernel_rfl) (Nb rfl) (KK rfl (by repeat (first|exact Mh _|apply Mt)) (by exact pt_ld1 _ _ _ _ _ _)) ?_
      refine LAny.oneG 14 rfl rfl rfl rfl (by kernel_rfl) (KR (first:=[]) rfl en_155 rfl (Nb rfl) (fun w hw=>c_HasF V f bd Y w (hw _ (by repeat (first|exact Mh _|apply Mt))) hY hpW h2) ?_)
      refine KC 15 rfl (by kernel_rfl) (Nb rfl) (Kw rfl rfl) ?_
      refine KC 16 rfl (by kernel_rfl) (Nb rfl) (KE rfl) ?_
      refine KAG 17 rfl rfl rfl rfl (by kernel_rfl) (Nb rfl) ?_
      refine KAG 18 rfl rfl rfl rfl (by kernel_rfl) (Nb rfl) ?_
      refine KAG 19 rfl rfl rfl rfl (by kernel_rfl) (Nb rfl) ?_
      refine KAG 20 rfl rfl rfl rfl (by kernel_rfl) (Nb rfl) ?_
      refine KAG 21 rfl rfl rfl rfl (by kernel_rfl) (Nb rfl) ?_
      refine KAG 22 rfl rfl rfl rfl (by kernel_rfl) (Nb rfl) ?_
      refine KAG 23 rfl rfl rfl rfl (by kernel_rfl) (Nb rfl) ?_
      refine KAG 24 rfl rfl rfl rfl (by kernel_rfl) (Nb rfl) ?_
      refine KAG 25 rfl rfl rfl rfl (by kernel_rfl) (Nb rfl) ?_
      refine KAG 26 rfl rfl rfl rfl (by kernel_rfl) (Nb rfl) ?_
      refine KAG 27 rfl rfl rfl rfl (by kernel_rfl) (Nb rfl) ?_
      refine KAG 28 rfl rfl rfl rfl (by kernel_rfl) (Nb rfl) ?_
      refine KAG 29 rfl rfl rfl rfl (by kernel_rfl) (Nb rfl) ?_
      refine KAG 30 rfl rfl rfl rfl (by kernel_rfl) (Nb rfl) ?_
      refine KC 31 rfl (by kernel_rfl) (Nb rfl) (KAH rfl rfl) ?_
      refine KC 32 rfl (by kernel_rfl) (Nb rfl) (KF rfl) ?_
      refine Kp (by kernel_rfl) ?_
      refine Ka ?_
      refine ⟨[_],.cons rfl .nil,fun a w' hr=>⟨?_,hr.fr.below⟩⟩
      rw [on_yy' h2]
      rfl
    ·
      obtain ⟨x,rfl⟩:∃ x:Fin V.p,x.val = X:=⟨⟨X,h1⟩,rfl⟩
      obtain ⟨y,rfl⟩:∃ y:Fin V.p,y.val = Y:=⟨⟨Y,h2⟩,rfl⟩
      refine Kc [] (by kernel_rfl) ?_
      refine KC 0 rfl (by kernel_rfl) (Nb rfl) (KE rfl) ?_
      refine KC 1 rfl (by kernel_rfl) (Nb rfl) (Kd rfl) ?_
      refine KC 2 rfl (by kernel_rfl) (Nb rfl) (KM (o':=59) Try.underlying147 rfl rfl rfl sz_145 (by decide)) ?_
      refine LAny.take 3 rfl (by kernel_rfl) (Nb rfl) (KK rfl (by repeat (first|exact Mh _|apply Mt)) (KY Try.underlying145 rfl (by exact cvC_gt_F _ _ _ _ _ _ _ _ _ _ _ _ _))) ?_
      refine KC 4 rfl (by kernel_rfl) (Nb rfl) (KM (o':=0) Try.underlying60 rfl rfl rfl sz_25 (by decide)) ?_
      refine LAny.take 5 rfl (by kernel_rfl) (Nb rfl) (KK rfl (by repeat (first|exact Mh _|apply Mt)) (by exact KAQ Try.underlying25 rfl sz_25 rfl (KI _))) ?_
      refine Kv 6 rfl rfl (by kernel_rfl) (KR (first:=[]) rfl en_155 rfl (Nb rfl) (fun w hw=>c_HasT V f bd x.val w (hw _ (by repeat (first|exact Mh _|apply Mt))) (Nat.lt_trans x.isLt hpW) hpW x.isLt) ?_)
      refine KC 7 rfl (by kernel_rfl) (Nb rfl) (KE rfl) ?_
      refine KAK 8 rfl rfl rfl (by kernel_rfl) (Nb rfl) (KE rfl) ?_
      refine KAK 9 rfl rfl rfl (by kernel_rfl) (Nb rfl) (Kd rfl) ?_
      refine KAK 10 rfl rfl rfl (by kernel_rfl) (Nb rfl) (KM (o':=59) Try.underlying147 rfl rfl rfl sz_145 (by decide)) ?_
      refine KAZ 11 rfl rfl rfl (by kernel_rfl) (Nb rfl) (KK rfl (by repeat (first|exact Mh _|apply Mt)) (KY Try.underlying145 rfl (by exact cvC_gt_F _ _ _ _ _ _ _ _ _ _ _ _ _))) ?_
      refine KAK 12 rfl rfl rfl (by kernel_rfl) (Nb rfl) (KM (o':=9) Try.underlying60 rfl rfl rfl sz_25 (by decide)) ?_
      refine KAZ 13 rfl rfl rfl (by kernel_rfl) (Nb rfl) (KK rfl (by repeat (first|exact Mh _|apply Mt)) (by exact pt_ld1 _ _ _ _ _ _)) ?_
      refine LAny.oneG 14 rfl rfl rfl rfl (by kernel_rfl) (KR (first:=[]) rfl en_155 rfl (Nb rfl) (fun w hw=>c_HasT V f bd y.val w (hw _ (by repeat (first|exact Mh _|apply Mt))) (Nat.lt_trans y.isLt hpW) hpW y.isLt) ?_)
      refine KC 15 rfl (by kernel_rfl) (Nb rfl) (Kw rfl rfl) ?_
      refine KC 16 rfl (by kernel_rfl) (Nb rfl) (KE rfl) ?_
      refine KAK 17 rfl rfl rfl (by kernel_rfl) (Nb rfl) (KE rfl) ?_
      refine KAK 18 rfl rfl rfl (by kernel_rfl) (Nb rfl) (Kd rfl) ?_
      refine KAK 19 rfl rfl rfl (by kernel_rfl) (Nb rfl) (KM (o':=59) Try.underlying147 rfl rfl rfl sz_145 (by decide)) ?_
      refine KAZ 20 rfl rfl rfl (by kernel_rfl) (Nb rfl) (KK rfl (by repeat (first|exact Mh _|apply Mt)) (KY Try.underlying145 rfl (by exact cvC_gt_F _ _ _ _ _ _ _ _ _ _ _ _ _))) ?_
      refine KAK 21 rfl rfl rfl (by kernel_rfl) (Nb rfl) (KM (o':=9) Try.underlying60 rfl rfl rfl sz_25 (by decide)) ?_
      refine KAZ 22 rfl rfl rfl (by kernel_rfl) (Nb rfl) (KK rfl (by repeat (first|exact Mh _|apply Mt)) (by exact pt_ld1 _ _ _ _ _ _)) ?_
      refine KAK 23 rfl rfl rfl (by kernel_rfl) (Nb rfl) (KM (o':=9) Try.underlying60 rfl rfl rfl sz_25 (by decide)) ?_
      refine KAZ 24 rfl rfl rfl (by kernel_rfl) (Nb rfl) (KK rfl (by repeat (first|exact Mh _|apply Mt)) (by exact pt_ld1 _ _ _ _ _ _)) ?_
      refine KAK 26 rfl rfl rfl (by kernel_rfl) (Nb rfl) (KE rfl) ?_
      refine KAK 27 rfl rfl rfl (by kernel_rfl) (Nb rfl) (KM (o':=0) Try.underlying60 rfl rfl rfl sz_25 (by decide)) ?_
      refine KAZ 28 rfl rfl rfl (by kernel_rfl) (Nb rfl) (KK rfl (by repeat (first|exact Mh _|apply Mt)) (by exact KAQ Try.underlying25 rfl sz_25 rfl (KI _))) ?_
      refine LAny.oneG 25 rfl rfl rfl rfl (by kernel_rfl) (KR (first:=[]) rfl en_156 rfl (Nb rfl) (fun w hw=>c_F_Mul V hok f bd _ _ w (hw _ (by repeat (first|exact Mh _|apply Mt))) (hw _ (by repeat (first|exact Mh _|apply Mt)))) ?_)
      refine LAny.oneG 29 rfl rfl rfl rfl (by kernel_rfl) (KR (first:=[]) rfl en_157 rfl (Nb rfl) (fun w hw=>c_Right V b f bd hok _ w (hw _ (by repeat (first|exact Mh _|apply Mt))) (hw _ (by repeat (first|exact Mh _|apply Mt))) (hw _ (by repeat (first|exact Mh _|apply Mt)))) ?_)
      refine KAK 30 rfl rfl rfl (by kernel_rfl) (Nb rfl) (Det.eqa (by kernel_rfl) (fun w=>eq_nat (y*y).val ((x*x+V.A)*x+V.B).val (Nat.lt_trans (y*y).isLt hpW) (Nat.lt_trans ((x*x+V.A)*x+V.B).isLt hpW) 10000 (by decide) w) rfl rfl) ?_
      refine KC 31 rfl (by kernel_rfl) (Nb rfl) (Kw rfl rfl) ?_
      refine KC 32 rfl (by kernel_rfl) (Nb rfl) (KF rfl) ?_
      refine Kp (by kernel_rfl) ?_
      refine Ka ?_
      refine ⟨[_],.cons rfl .nil,fun a w' hr=>⟨?_,hr.fr.below⟩⟩
      rw [on_fin hok]
      rfl
  ·
    refine KB ?_
    refine KA (KM (o':=18) Try.underlying60 rfl rfl rfl sz_4 (by decide)) (Nb rfl) ?_
    refine LOps.det (KK rfl (by repeat (first|exact Mh _|apply Mt)) (KY Try.underlying4 rfl (by exact pt_gt _ _ _))) (Nb rfl) ?_
    refine KG ?_
    refine Kx rfl ?_
    refine KD (KB ?_)
    refine LOps.det (KK rfl (by repeat (first|exact Mh _|apply Mt)) (by exact KJ Try.underlying60 rfl sz_60)) (Nb rfl) ?_
    refine KA (KV (KAM pl_60 zr_60 rfl fill_ptInf) rfl) (Nb rfl) ?_
    refine KA (Det.eqa (by kernel_rfl) (fun w=>eq_pt X Y true 0 0 true hX hY zero_w9 zero_w9 10000 (by decide) w) rfl rfl) (Nb rfl) ?_
    refine KA (KF rfl) (Nb rfl) ?_
    refine KG (Ka ?_)
    refine ⟨[_],.cons rfl .nil,fun a w' hr=>⟨?_,hr.fr.below⟩⟩
    rw [on_inf',show (decide (X = 0) && decide (Y = 0)) = (decide (X = 0) && (decide (Y = 0) && ((true == true) && true))) by simp]
    rfl
end Go.Proofs.Ytljblbgogjieaaa
set_option linter.unusedVariables false
set_option linter.unusedSimpArgs false
set_option maxRecDepth 20000
namespace Go.Proofs.Ytljblbgogjieaaa
open Go Go.RowKit
open Grp
def pjF {p:Nat} (T:Fin p×Fin p×Fin p):Value:=pjV T.1.val T.2.1.val T.2.2.val
def pjFL {p:Nat} (T:Fin p×Fin p×Fin p):List Value:=pjL T.1.val T.2.1.val T.2.2.val
theorem fill_pj (X Y Z:Nat):fillL [(0,9),(9,9),(18,9)] (vec .u64 9 (fun _=>0)++(vec .u64 9 (fun _=>0)++vec .u64 9 (fun _=>0))) [(0,natV X),(1,natV Y),(2,natV Z)] = some (pjL X Y Z):=by
  refine KAl (A:=[]) (B:=vec .u64 9 (fun _=>0)) (D:=vec .u64 9 (fun _=>0)++vec .u64 9 (fun _=>0)) (cs:=natL X) rfl rfl (KI _) rfl rfl (KN _ _ _) ?_
  refine KAl (A:=natL X) (B:=vec .u64 9 (fun _=>0)) (D:=vec .u64 9 (fun _=>0)) (cs:=natL Y) rfl rfl (KI _) (by simp) (KI _) (KN _ _ _) ?_
  refine (KAl (A:=natL X++natL Y) (B:=vec .u64 9 (fun _=>0)) (D:=[]) (cs:=natL Z) rfl rfl (KI _) (by simp) (by simp [KI]) (KN _ _ _) rfl).trans ?_
  simp [pjL]
theorem fill_pjN (Y:Nat):fillL [(0,9),(9,9),(18,9)] (vec .u64 9 (fun _=>0)++(vec .u64 9 (fun _=>0)++vec .u64 9 (fun _=>0))) [(1,natV Y)] = some (pjL 0 Y 0):=by
  refine (KAl (A:=vec .u64 9 (fun _=>0)) (B:=vec .u64 9 (fun _=>0)) (D:=vec .u64 9 (fun _=>0)) (cs:=natL Y) rfl rfl (KI _) rfl (KN _ _ _) (KN _ _ _) rfl).trans ?_
  simp [pjL,natL,vec_zeros 9]
theorem c_None  (w:World)  : Calls Try.prog 158 ([]:List Value).toArray w (fun e w'=>e = .returned (pjV 0 1 0)∧Below w.heap.size w w'):=by
  refine KAB (N:=3) (rs:=[.cell 0 91]) [] Try.func158 rfl Try.ntmps158 Try.results158 (Nb rfl) trivial rfl ?_
  show LCode _ _ _ ⟨_,_⟩ _
  refine KD (KB ?_)
  refine KH rfl (KS (KQ (Kb zr_91) (Nb rfl) (fun b0=>?_)))
  refine KG ?_
  refine KD (KB ?_)
  refine KH rfl (KS (KR (first:=[]) rfl en_150 rfl (Nb rfl) (fun w hw=>c_nat_Small 1 (by decide) w) ?_))
  refine KA (KV (KAM pl_91 zr_91 rfl (fill_pjN 1)) rfl) (Nb rfl) ?_
  refine KH rfl (KO rfl rfl sz_91 (by repeat (first|exact Kl _|exact Kz _ _ _|exact Km _|exact Ko _ _ _|exact Ky _ _ _|exact KW|refine KT rfl ?_|refine KX ?_ ?_)) (by repeat (first|exact Sh _|apply St_)) (by first|exact KI _|exact KN _ _ _|exact KL _|exact KU _ _ _|exact Ke _ _ _|rfl|simp [KN,KI,KL]) ?_)
  refine KG (Ka ?_)
  refine ⟨[_],.cons ⟨_,_,_,rfl,(by repeat (first|exact Mh _|apply Mt)),by exact KJ Try.underlying91 rfl sz_91⟩ .nil,fun a w' hr=>⟨?_,hr.fr.below⟩⟩
  rfl
theorem c_NoneF {V:Cv} (hok:V.Ok) (w:World):Calls Try.prog 158 ([]:List Value).toArray w (fun e w'=>e = .returned (pjF (tripF (.inf:Pt V.p)))∧Below w.heap.size w w'):=by
  have h:=c_None w
  have e:pjF (tripF (.inf:Pt V.p)) = pjV 0 1 0:=by
    unfold pjF tripF
    rw [fin_one (show 1<V.p from hok.prime.1)]
    rfl
  rwa [e]
theorem c_Triple (V:Cv) (hok:V.Ok) (P:Pt V.p) (w:World)  : Calls Try.prog 129 ([ptP P]:List Value).toArray w (fun e w'=>e = .returned (pjF (tripF P))∧Below w.heap.size w w'):=by
  refine KAB (N:=12) (rs:=[.cell 2 91]) [] Try.func129 rfl Try.ntmps129 Try.results129 (Nb rfl) trivial rfl ?_
  show LCode _ _ _ ⟨_,_⟩ _
  refine KD (KB ?_)
  refine KH rfl (KS (KQ (Kn rfl) (Nb rfl) (fun b1=>?_)))
  refine KH rfl (KS (KQ (Kb zr_91) (Nb rfl) (fun b2=>?_)))
  refine KG ?_
  refine KD ?_
  refine KD ?_
  rcases P with _|⟨x,y⟩
  ·
    refine KB ?_
    refine KA (KM (o':=18) Try.underlying60 rfl rfl rfl sz_4 (by decide)) (Nb rfl) ?_
    refine LOps.det (KK rfl (by repeat (first|exact Mh _|apply Mt)) (KY Try.underlying4 rfl (by exact pt_gt _ _ _))) (Nb rfl) ?_
    refine KG ?_
    refine Kx rfl ?_
    refine KD (KB ?_)
    refine KH rfl (KS (KR (first:=[]) rfl en_158 rfl (Nb rfl) (fun w hw=>c_NoneF hok w) ?_))
    refine KH rfl (KO rfl rfl sz_91 (by repeat (first|exact Kl _|exact Kz _ _ _|exact Km _|exact Ko _ _ _|exact Ky _ _ _|exact KW|refine KT rfl ?_|refine KX ?_ ?_)) (by repeat (first|exact Sh _|apply St_)) (by first|exact KI _|exact KN _ _ _|exact KL _|exact KU _ _ _|exact Ke _ _ _|rfl|simp [KN,KI,KL]) ?_)
    refine KG (Ka ?_)
    refine ⟨[_],.cons ⟨_,_,_,rfl,(by repeat (first|exact Mh _|apply Mt)),by exact KJ Try.underlying91 rfl sz_91⟩ .nil,fun a w' hr=>⟨?_,hr.fr.below⟩⟩
    rfl
  ·
    refine KB ?_
    refine KA (KM (o':=18) Try.underlying60 rfl rfl rfl sz_4 (by decide)) (Nb rfl) ?_
    refine LOps.det (KK rfl (by repeat (first|exact Mh _|apply Mt)) (KY Try.underlying4 rfl (by exact pt_gt _ _ _))) (Nb rfl) ?_
    refine KG ?_
    refine Ki rfl ?_
    refine Kh ?_
    refine KD ?_
    refine Kc [6] (by kernel_rfl) ?_
    refine KC 0 rfl (by kernel_rfl) (Nb rfl) (KM (o':=0) Try.underlying60 rfl rfl rfl sz_25 (by decide)) ?_
    refine LAny.take 1 rfl (by kernel_rfl) (Nb rfl) (KK rfl (by repeat (first|exact Mh _|apply Mt)) (by exact KAQ Try.underlying25 rfl sz_25 rfl (KI _))) ?_
    refine KC 2 rfl (by kernel_rfl) (Nb rfl) (KM (o':=9) Try.underlying60 rfl rfl rfl sz_25 (by decide)) ?_
    refine LAny.take 3 rfl (by kernel_rfl) (Nb rfl) (KK rfl (by repeat (first|exact Mh _|apply Mt)) (by exact pt_ld1 _ _ _ _ _ _)) ?_
    refine Kv 4 rfl rfl (by kernel_rfl) (KR (first:=[]) rfl en_150 rfl (Nb rfl) (fun w hw=>c_nat_Small 1 (by decide) w) ?_)
    refine KC 5 rfl (by kernel_rfl) (Nb rfl) (KV (KAM pl_91 zr_91 rfl (fill_pj _ _ _)) rfl) ?_
    refine Ks 6 rfl rfl (by kernel_rfl) (by kernel_rfl) (KO rfl rfl sz_91 (by repeat (first|exact Kl _|exact Kz _ _ _|exact Km _|exact Ko _ _ _|exact Ky _ _ _|exact KW|refine KT rfl ?_|refine KX ?_ ?_)) (by repeat (first|exact Sh _|apply St_)) (by first|exact KI _|exact KN _ _ _|exact KL _|exact KU _ _ _|exact Ke _ _ _|rfl|simp [KN,KI,KL]) ?_)
    refine Kp (by kernel_rfl) ?_
    refine Ka ?_
    refine ⟨[_],.cons ⟨_,_,_,rfl,(by repeat (first|exact Mh _|apply Mt)),by exact KJ Try.underlying91 rfl sz_91⟩ .nil,fun a w' hr=>⟨?_,hr.fr.below⟩⟩
    show _ = Ending.returned (pjV x.val y.val (1:Fin V.p).val)
    rw [fin_one (show 1<V.p from hok.prime.1)]
    rfl
theorem c_Plain (V:Cv) (b f bd:Nat) (hok:V.Ok) (X Y Z:Fin V.p) (w:World) (hb:(Item.blk b ⟨false,opL V f,147,(0,0)⟩).holds w) (hf:(Item.blk f ⟨false,fldL V.p bd,194,(0,0)⟩).holds w) (hbd:(Item.blk bd ⟨false,dvL V.p,241,(0,0)⟩).holds w):Calls Try.prog 127 ([.pointer (some ⟨b,0,none⟩),pjV X.val Y.val Z.val]:List Value).toArray w (fun e w'=>e = .returned (ptP (plainP X Y Z))∧Below w.heap.size w w'):=by
  have hbb:=hok.bounds
  have hpW:V.p<W9:=w9_521 hbb.2.1
  refine KAB (N:=35) (rs:=[.cell 4 60]) [.blk b ⟨false,opL V f,147,(0,0)⟩,.blk f ⟨false,fldL V.p bd,194,(0,0)⟩,.blk bd ⟨false,dvL V.p,241,(0,0)⟩] Try.func127 rfl Try.ntmps127 Try.results127 (Nb rfl) ⟨hb,hf,hbd,trivial⟩ rfl ?_
  show LCode _ _ _ ⟨_,_⟩ _
  refine KD (KB ?_)
  refine KH rfl (KS (KQ (Kn rfl) (Nb rfl) (fun b3=>?_)))
  refine KH rfl (KS (KQ (Kb zr_60) (Nb rfl) (fun b4=>?_)))
  refine KG ?_
  refine KD ?_
  refine KD ?_
  by_cases hz:Z = 0
  ·
    refine KB ?_
    refine KA (KM (o':=18) Try.underlying91 rfl rfl rfl sz_25 (by decide)) (Nb rfl) ?_
    refine LOps.det (KK rfl (by repeat (first|exact Mh _|apply Mt)) (by exact pj_ld2 _ _ _ _ _ _)) (Nb rfl) ?_
    refine KA (KV (KAM pl_25 zr_25 rfl rfl) (show _ = natV 0 by unfold natV natL; rw [← vec_zeros 9])) (Nb rfl) ?_
    refine KA (KV (Det.eqa (by kernel_rfl) (fun w=>eq_nat Z.val 0 (Nat.lt_trans Z.isLt hpW) zero_w9 10000 (by decide) w) rfl rfl) (show _ = Value.bool true by rw [decide_eq_true (by rw [hz]; rfl)])) (Nb rfl) ?_
    refine KG ?_
    refine Kx rfl ?_
    refine KD (KB ?_)
    refine KA (KV (KAM pl_60 zr_60 rfl fill_ptInf) rfl) (Nb rfl) ?_
    refine KH rfl (KO rfl rfl sz_60 (by repeat (first|exact Kl _|exact Kz _ _ _|exact Km _|exact Ko _ _ _|exact Ky _ _ _|exact KW|refine KT rfl ?_|refine KX ?_ ?_)) (by repeat (first|exact Sh _|apply St_)) (by first|exact KI _|exact KN _ _ _|exact KL _|exact KU _ _ _|exact Ke _ _ _|rfl|simp [KN,KI,KL]) ?_)
    refine KG (Ka ?_)
    refine ⟨[_],.cons ⟨_,_,_,rfl,(by repeat (first|exact Mh _|apply Mt)),by exact KJ Try.underlying60 rfl sz_60⟩ .nil,fun a w' hr=>⟨?_,hr.fr.below⟩⟩
    rw [hz,plain_inf]
    rfl
  ·
    refine KB ?_
    refine KA (KM (o':=18) Try.underlying91 rfl rfl rfl sz_25 (by decide)) (Nb rfl) ?_
    refine LOps.det (KK rfl (by repeat (first|exact Mh _|apply Mt)) (by exact pj_ld2 _ _ _ _ _ _)) (Nb rfl) ?_
    refine KA (KV (KAM pl_25 zr_25 rfl rfl) (show _ = natV 0 by unfold natV natL; rw [← vec_zeros 9])) (Nb rfl) ?_
    refine KA (KV (Det.eqa (by kernel_rfl) (fun w=>eq_nat Z.val 0 (Nat.lt_trans Z.isLt hpW) zero_w9 10000 (by decide) w) rfl rfl) (show _ = Value.bool false by rw [decide_eq_false (show ¬ Z.val = 0 from fun e=>hz (Fin.ext e))])) (Nb rfl) ?_
    refine KG ?_
    refine Ki rfl ?_
    refine Kh ?_
    refine KD ?_
    refine Kc [8] (by kernel_rfl) ?_
    refine KC 0 rfl (by kernel_rfl) (Nb rfl) (KE rfl) ?_
    refine KC 1 rfl (by kernel_rfl) (Nb rfl) (Kd rfl) ?_
    refine KC 2 rfl (by kernel_rfl) (Nb rfl) (KM (o':=59) Try.underlying147 rfl rfl rfl sz_145 (by decide)) ?_
    refine LAny.take 3 rfl (by kernel_rfl) (Nb rfl) (KK rfl (by repeat (first|exact Mh _|apply Mt)) (KY Try.underlying145 rfl (by exact cvC_gt_F _ _ _ _ _ _ _ _ _ _ _ _ _))) ?_
    refine KC 4 rfl (by kernel_rfl) (Nb rfl) (KM (o':=18) Try.underlying91 rfl rfl rfl sz_25 (by decide)) ?_
    refine LAny.take 5 rfl (by kernel_rfl) (Nb rfl) (KK rfl (by repeat (first|exact Mh _|apply Mt)) (by exact pj_ld2 _ _ _ _ _ _)) ?_
    refine LAny.toP ?_
    refine KAT 7 rfl (.inl zr_25) (Nb rfl) rfl rfl rfl ?_
    refine KAD 6 rfl rfl rfl (Nb rfl) (by kernel_rfl) rfl (KAL (first:=[]) rfl en_160 rfl (fun w hw=>c_F_Inv V hok f bd _ w (hw _ (by repeat (first|exact Mh _|apply Mt))))) ?_
    rintro _ _ ⟨rfl,rfl⟩
    refine KAY (by kernel_rfl) (fun b5=>?_)
    refine KAa ?_
    refine Ks 8 rfl rfl (by kernel_rfl) (by kernel_rfl) (KO rfl rfl sz_25 (by repeat (first|exact Kl _|exact Kz _ _ _|exact Km _|exact Ko _ _ _|exact Ky _ _ _|exact KW|refine KT rfl ?_|refine KX ?_ ?_)) (by repeat (first|exact Sh _|apply St_)) (by first|exact KI _|exact KN _ _ _|exact KL _|exact KU _ _ _|exact Ke _ _ _|rfl|simp [KN,KI,KL]) ?_)
    refine Kp (by kernel_rfl) ?_
    refine KD ?_
    refine Kc [17] (by kernel_rfl) ?_
    refine KC 0 rfl (by kernel_rfl) (Nb rfl) (KE rfl) ?_
    refine KC 1 rfl (by kernel_rfl) (Nb rfl) (Kd rfl) ?_
    refine KC 2 rfl (by kernel_rfl) (Nb rfl) (KM (o':=59) Try.underlying147 rfl rfl rfl sz_145 (by decide)) ?_
    refine LAny.take 3 rfl (by kernel_rfl) (Nb rfl) (KK rfl (by repeat (first|exact Mh _|apply Mt)) (KY Try.underlying145 rfl (by exact cvC_gt_F _ _ _ _ _ _ _ _ _ _ _ _ _))) ?_
    refine KC 4 rfl (by kernel_rfl) (Nb rfl) (KM (o':=0) Try.underlying91 rfl rfl rfl sz_25 (by decide)) ?_
    refine LAny.take 5 rfl (by kernel_rfl) (Nb rfl) (KK rfl (by repeat (first|exact Mh _|apply Mt)) (by exact KAQ Try.underlying25 rfl sz_25 rfl (KI _))) ?_
    refine LAny.take 6 rfl (by kernel_rfl) (Nb rfl) (KK rfl (by repeat (first|exact Mh _|apply Mt)) (by exact KJ Try.underlying25 rfl sz_25)) ?_
    refine KC 8 rfl (by kernel_rfl) (Nb rfl) (KE rfl) ?_
    refine KC 9 rfl (by kernel_rfl) (Nb rfl) (Kd rfl) ?_
    refine KC 10 rfl (by kernel_rfl) (Nb rfl) (KM (o':=59) Try.underlying147 rfl rfl rfl sz_145 (by decide)) ?_
    refine LAny.take 11 rfl (by kernel_rfl) (Nb rfl) (KK rfl (by repeat (first|exact Mh _|apply Mt)) (KY Try.underlying145 rfl (by exact cvC_gt_F _ _ _ _ _ _ _ _ _ _ _ _ _))) ?_
    refine KC 12 rfl (by kernel_rfl) (Nb rfl) (KM (o':=9) Try.underlying91 rfl rfl rfl sz_25 (by decide)) ?_
    refine LAny.take 13 rfl (by kernel_rfl) (Nb rfl) (KK rfl (by repeat (first|exact Mh _|apply Mt)) (by exact LoadV.mid Try.underlying25 rfl sz_25 rfl (KI _) (KI _))) ?_
    refine LAny.take 14 rfl (by kernel_rfl) (Nb rfl) (KK rfl (by repeat (first|exact Mh _|apply Mt)) (by exact KJ Try.underlying25 rfl sz_25)) ?_
    refine Kv 7 rfl rfl (by kernel_rfl) (KR (first:=[]) rfl en_156 rfl (Nb rfl) (fun w hw=>c_F_Mul V hok f bd _ _ w (hw _ (by repeat (first|exact Mh _|apply Mt))) (hw _ (by repeat (first|exact Mh _|apply Mt)))) ?_)
    refine Kv 15 rfl rfl (by kernel_rfl) (KR (first:=[]) rfl en_156 rfl (Nb rfl) (fun w hw=>c_F_Mul V hok f bd _ _ w (hw _ (by repeat (first|exact Mh _|apply Mt))) (hw _ (by repeat (first|exact Mh _|apply Mt)))) ?_)
    refine KC 16 rfl (by kernel_rfl) (Nb rfl) (KV (KAM pl_60 zr_60 rfl (fill_pt _ _)) rfl) ?_
    refine Ks 17 rfl rfl (by kernel_rfl) (by kernel_rfl) (KO rfl rfl sz_60 (by repeat (first|exact Kl _|exact Kz _ _ _|exact Km _|exact Ko _ _ _|exact Ky _ _ _|exact KW|refine KT rfl ?_|refine KX ?_ ?_)) (by repeat (first|exact Sh _|apply St_)) (by first|exact KI _|exact KN _ _ _|exact KL _|exact KU _ _ _|exact Ke _ _ _|rfl|simp [KN,KI,KL]) ?_)
    refine Kp (by kernel_rfl) ?_
    refine Ka ?_
    refine ⟨[_],.cons ⟨_,_,_,rfl,(by repeat (first|exact Mh _|apply Mt)),by exact KJ Try.underlying60 rfl sz_60⟩ .nil,fun a w' hr=>⟨?_,hr.fr.below⟩⟩
    rw [plain_aff hz]
    rfl
theorem c_Sum (V:Cv) (b f bd:Nat) (hok:V.Ok) (X1 Y1 Z1 X2 Y2 Z2:Fin V.p) (w:World) (hb:(Item.blk b ⟨false,opL V f,147,(0,0)⟩).holds w) (hf:(Item.blk f ⟨false,fldL V.p bd,194,(0,0)⟩).holds w) (hbd:(Item.blk bd ⟨false,dvL V.p,241,(0,0)⟩).holds w):Calls Try.prog 128 ([.pointer (some ⟨b,0,none⟩),pjV X1.val Y1.val Z1.val,pjV X2.val Y2.val Z2.val]:List Value).toArray w (fun e w'=>e = .returned (pjF (sum3 V.A (V.B+V.B+V.B) X1 Y1 Z1 X2 Y2 Z2))∧Below w.heap.size w w'):=by
  have hbb:=hok.bounds
  have hpW:V.p<W9:=w9_521 hbb.2.1
  refine KAB (N:=213) (rs:=[.cell 6 91]) [.blk b ⟨false,opL V f,147,(0,0)⟩,.blk f ⟨false,fldL V.p bd,194,(0,0)⟩,.blk bd ⟨false,dvL V.p,241,(0,0)⟩] Try.func128 rfl Try.ntmps128 Try.results128 (Nb rfl) ⟨hb,hf,hbd,trivial⟩ rfl ?_
  show LCode _ _ _ ⟨_,_⟩ _
  refine KD (KB ?_)
  refine KH rfl (KS (KQ (Kn rfl) (Nb rfl) (fun b4=>?_)))
  refine KH rfl (KS (KQ (Kn rfl) (Nb rfl) (fun b5=>?_)))
  refine KH rfl (KS (KQ (Kb zr_91) (Nb rfl) (fun b6=>?_)))
  refine KG ?_
  refine KD ?_
  refine Kc [] (by kernel_rfl) ?_
  refine KC 0 rfl (by kernel_rfl) (Nb rfl) (KE rfl) ?_
  refine KC 1 rfl (by kernel_rfl) (Nb rfl) (Kd rfl) ?_
  refine KC 2 rfl (by kernel_rfl) (Nb rfl) (KM (o':=59) Try.underlying147 rfl rfl rfl sz_145 (by decide)) ?_
  refine LAny.take 3 rfl (by kernel_rfl) (Nb rfl) (KK rfl (by repeat (first|exact Mh _|apply Mt)) (KY Try.underlying145 rfl (by exact cvC_gt_F _ _ _ _ _ _ _ _ _ _ _ _ _))) ?_
  refine KC 4 rfl (by kernel_rfl) (Nb rfl) (Det.makeFunc1 rfl) ?_
  refine KC 5 rfl (by kernel_rfl) (Nb rfl) (KE rfl) ?_
  refine KC 6 rfl (by kernel_rfl) (Nb rfl) (Kd rfl) ?_
  refine KC 7 rfl (by kernel_rfl) (Nb rfl) (KM (o':=59) Try.underlying147 rfl rfl rfl sz_145 (by decide)) ?_
  refine LAny.take 8 rfl (by kernel_rfl) (Nb rfl) (KK rfl (by repeat (first|exact Mh _|apply Mt)) (KY Try.underlying145 rfl (by exact cvC_gt_F _ _ _ _ _ _ _ _ _ _ _ _ _))) ?_
  refine KC 9 rfl (by kernel_rfl) (Nb rfl) (Det.makeFunc1 rfl) ?_
  refine KC 10 rfl (by kernel_rfl) (Nb rfl) (KE rfl) ?_
  refine KC 11 rfl (by kernel_rfl) (Nb rfl) (Kd rfl) ?_
  refine KC 12 rfl (by kernel_rfl) (Nb rfl) (KM (o':=59) Try.underlying147 rfl rfl rfl sz_145 (by decide)) ?_
  refine LAny.take 13 rfl (by kernel_rfl) (Nb rfl) (KK rfl (by repeat (first|exact Mh _|apply Mt)) (KY Try.underlying145 rfl (by exact cvC_gt_F _ _ _ _ _ _ _ _ _ _ _ _ _))) ?_
  refine KC 14 rfl (by kernel_rfl) (Nb rfl) (Det.makeFunc1 rfl) ?_
  refine KC 15 rfl (by kernel_rfl) (Nb rfl) (KF rfl) ?_
  refine KC 16 rfl (by kernel_rfl) (Nb rfl) (KF rfl) ?_
  refine KC 17 rfl (by kernel_rfl) (Nb rfl) (KF rfl) ?_
  refine Kp (by kernel_rfl) ?_
  refine KD ?_
  refine Kc [21,22,23] (by kernel_rfl) ?_
  refine KC 0 rfl (by kernel_rfl) (Nb rfl) (KE rfl) ?_
  refine KC 1 rfl (by kernel_rfl) (Nb rfl) (KM (o':=0) Try.underlying91 rfl rfl rfl sz_25 (by decide)) ?_
  refine LAny.take 2 rfl (by kernel_rfl) (Nb rfl) (KK rfl (by repeat (first|exact Mh _|apply Mt)) (by exact KAQ Try.underlying25 rfl sz_25 rfl (KI _))) ?_
  refine KC 3 rfl (by kernel_rfl) (Nb rfl) (KM (o':=0) Try.underlying91 rfl rfl rfl sz_25 (by decide)) ?_
  refine LAny.take 4 rfl (by kernel_rfl) (Nb rfl) (KK rfl (by repeat (first|exact Mh _|apply Mt)) (by exact KAQ Try.underlying25 rfl sz_25 rfl (KI _))) ?_
  refine KC 6 rfl (by kernel_rfl) (Nb rfl) (KE rfl) ?_
  refine KC 7 rfl (by kernel_rfl) (Nb rfl) (KM (o':=9) Try.underlying91 rfl rfl rfl sz_25 (by decide)) ?_
  refine KC 9 rfl (by kernel_rfl) (Nb rfl) (KM (o':=9) Try.underlying91 rfl rfl rfl sz_25 (by decide)) ?_
  refine KC 12 rfl (by kernel_rfl) (Nb rfl) (KE rfl) ?_
  refine KC 13 rfl (by kernel_rfl) (Nb rfl) (KM (o':=18) Try.underlying91 rfl rfl rfl sz_25 (by decide)) ?_
  refine KC 15 rfl (by kernel_rfl) (Nb rfl) (KM (o':=18) Try.underlying91 rfl rfl rfl sz_25 (by decide)) ?_
  refine LAny.takeW [11,17,21,22,23] 8 rfl (by kernel_rfl) (Nb rfl) (KK rfl (by repeat (first|exact Mh _|apply Mt)) (by exact LoadV.mid Try.underlying25 rfl sz_25 rfl (KI _) (KI _))) ?_
  refine LAny.takeW [11,17,21,22,23] 10 rfl (by kernel_rfl) (Nb rfl) (KK rfl (by repeat (first|exact Mh _|apply Mt)) (by exact LoadV.mid Try.underlying25 rfl sz_25 rfl (KI _) (KI _))) ?_
  refine LAny.takeW [17,21,22,23] 14 rfl (by kernel_rfl) (Nb rfl) (KK rfl (by repeat (first|exact Mh _|apply Mt)) (by exact pj_ld2 _ _ _ _ _ _)) ?_
  refine LAny.takeW [17,21,22,23] 16 rfl (by kernel_rfl) (Nb rfl) (KK rfl (by repeat (first|exact Mh _|apply Mt)) (by exact pj_ld2 _ _ _ _ _ _)) ?_
  refine LAny.toP ?_
  refine KAT 18 rfl (.inl zr_25) (Nb rfl) rfl rfl rfl ?_
  refine KAT 19 rfl (.inl zr_25) (Nb rfl) rfl rfl rfl ?_
  refine KAT 20 rfl (.inl zr_25) (Nb rfl) rfl rfl rfl ?_
  refine KAD 5 rfl rfl rfl (Nb rfl) (by kernel_rfl) rfl (KAL (first:=[_]) rfl en_156 rfl (fun w hw=>c_F_Mul V hok f bd _ _ w (hw _ (by repeat (first|exact Mh _|apply Mt))) (hw _ (by repeat (first|exact Mh _|apply Mt))))) ?_
  rintro _ _ ⟨rfl,rfl⟩
  refine KAD 11 rfl rfl rfl (Nb rfl) (by kernel_rfl) rfl (KAL (first:=[_]) rfl en_156 rfl (fun w hw=>c_F_Mul V hok f bd _ _ w (hw _ (by repeat (first|exact Mh _|apply Mt))) (hw _ (by repeat (first|exact Mh _|apply Mt))))) ?_
  rintro _ _ ⟨rfl,rfl⟩
  refine KAD 17 rfl rfl rfl (Nb rfl) (by kernel_rfl) rfl (KAL (first:=[_]) rfl en_156 rfl (fun w hw=>c_F_Mul V hok f bd _ _ w (hw _ (by repeat (first|exact Mh _|apply Mt))) (hw _ (by repeat (first|exact Mh _|apply Mt))))) ?_
  rintro _ _ ⟨rfl,rfl⟩
  refine KAY (by kernel_rfl) (fun b12=>?_)
  refine KAY (by kernel_rfl) (fun b11=>?_)
  refine KAY (by kernel_rfl) (fun b10=>?_)
  refine KAa ?_
  refine Ks 21 rfl rfl (by kernel_rfl) (by kernel_rfl) (KO rfl rfl sz_25 (by repeat (first|exact Kl _|exact Kz _ _ _|exact Km _|exact Ko _ _ _|exact Ky _ _ _|exact KW|refine KT rfl ?_|refine KX ?_ ?_)) (by repeat (first|exact Sh _|apply St_)) (by first|exact KI _|exact KN _ _ _|exact KL _|exact KU _ _ _|exact Ke _ _ _|rfl|simp [KN,KI,KL]) ?_)
  refine Ks 22 rfl rfl (by kernel_rfl) (by kernel_rfl) (KO rfl rfl sz_25 (by repeat (first|exact Kl _|exact Kz _ _ _|exact Km _|exact Ko _ _ _|exact Ky _ _ _|exact KW|refine KT rfl ?_|refine KX ?_ ?_)) (by repeat (first|exact Sh _|apply St_)) (by first|exact KI _|exact KN _ _ _|exact KL _|exact KU _ _ _|exact Ke _ _ _|rfl|simp [KN,KI,KL]) ?_)
  refine Ks 23 rfl rfl (by kernel_rfl) (by kernel_rfl) (KO rfl rfl sz_25 (by repeat (first|exact Kl _|exact Kz _ _ _|exact Km _|exact Ko _ _ _|exact Ky _ _ _|exact KW|refine KT rfl ?_|refine KX ?_ ?_)) (by repeat (first|exact Sh _|apply St_)) (by first|exact KI _|exact KN _ _ _|exact KL _|exact KU _ _ _|exact Ke _ _ _|rfl|simp [KN,KI,KL]) ?_)
  refine Kp (by kernel_rfl) ?_
  refine KD ?_
  refine Kc [21] (by kernel_rfl) ?_
  refine KC 0 rfl (by kernel_rfl) (Nb rfl) (KE rfl) ?_
  refine KC 1 rfl (by kernel_rfl) (Nb rfl) (KE rfl) ?_
  refine KC 2 rfl (by kernel_rfl) (Nb rfl) (KE rfl) ?_
  refine KC 3 rfl (by kernel_rfl) (Nb rfl) (KM (o':=0) Try.underlying91 rfl rfl rfl sz_25 (by decide)) ?_
  refine LAny.take 4 rfl (by kernel_rfl) (Nb rfl) (KK rfl (by repeat (first|exact Mh _|apply Mt)) (by exact KAQ Try.underlying25 rfl sz_25 rfl (KI _))) ?_
  refine KC 5 rfl (by kernel_rfl) (Nb rfl) (KM (o':=9) Try.underlying91 rfl rfl rfl sz_25 (by decide)) ?_
  refine LAny.take 6 rfl (by kernel_rfl) (Nb rfl) (KK rfl (by repeat (first|exact Mh _|apply Mt)) (by exact LoadV.mid Try.underlying25 rfl sz_25 rfl (KI _) (KI _))) ?_
  refine KC 8 rfl (by kernel_rfl) (Nb rfl) (KE rfl) ?_
  refine KC 9 rfl (by kernel_rfl) (Nb rfl) (KM (o':=0) Try.underlying91 rfl rfl rfl sz_25 (by decide)) ?_
  refine LAny.take 10 rfl (by kernel_rfl) (Nb rfl) (KK rfl (by repeat (first|exact Mh _|apply Mt)) (by exact KAQ Try.underlying25 rfl sz_25 rfl (KI _))) ?_
  refine KC 11 rfl (by kernel_rfl) (Nb rfl) (KM (o':=9) Try.underlying91 rfl rfl rfl sz_25 (by decide)) ?_
  refine LAny.take 12 rfl (by kernel_rfl) (Nb rfl) (KK rfl (by repeat (first|exact Mh _|apply Mt)) (by exact LoadV.mid Try.underlying25 rfl sz_25 rfl (KI _) (KI _))) ?_
  refine KC 15 rfl (by kernel_rfl) (Nb rfl) (KE rfl) ?_
  refine LAny.take 16 rfl (by kernel_rfl) (Nb rfl) (KK rfl (by repeat (first|exact Mh _|apply Mt)) (by exact KJ Try.underlying25 rfl sz_25)) ?_
  refine LAny.take 17 rfl (by kernel_rfl) (Nb rfl) (KK rfl (by repeat (first|exact Mh _|apply Mt)) (by exact KJ Try.underlying25 rfl sz_25)) ?_
  refine LAny.toP ?_
  refine KAT 20 rfl (.inl zr_25) (Nb rfl) rfl rfl rfl ?_
  refine KAD 7 rfl rfl rfl (Nb rfl) (by kernel_rfl) rfl (KAL (first:=[_]) rfl en_152 rfl (fun w hw=>c_F_Add V hok f bd _ _ w (hw _ (by repeat (first|exact Mh _|apply Mt))))) ?_
  rintro _ _ ⟨rfl,rfl⟩
  refine KAD 13 rfl rfl rfl (Nb rfl) (by kernel_rfl) rfl (KAL (first:=[_]) rfl en_152 rfl (fun w hw=>c_F_Add V hok f bd _ _ w (hw _ (by repeat (first|exact Mh _|apply Mt))))) ?_
  rintro _ _ ⟨rfl,rfl⟩
  refine KAD 14 rfl rfl rfl (Nb rfl) (by kernel_rfl) rfl (KAL (first:=[_]) rfl en_156 rfl (fun w hw=>c_F_Mul V hok f bd _ _ w (hw _ (by repeat (first|exact Mh _|apply Mt))) (hw _ (by repeat (first|exact Mh _|apply Mt))))) ?_
  rintro _ _ ⟨rfl,rfl⟩
  refine KAD 18 rfl rfl rfl (Nb rfl) (by kernel_rfl) rfl (KAL (first:=[_]) rfl en_152 rfl (fun w hw=>c_F_Add V hok f bd _ _ w (hw _ (by repeat (first|exact Mh _|apply Mt))))) ?_
  rintro _ _ ⟨rfl,rfl⟩
  refine KAD 19 rfl rfl rfl (Nb rfl) (by kernel_rfl) rfl (KAL (first:=[_]) rfl en_161 rfl (fun w hw=>c_F_Sub V hok f bd _ _ w (hw _ (by repeat (first|exact Mh _|apply Mt))))) ?_
  rintro _ _ ⟨rfl,rfl⟩
  refine KAY (by kernel_rfl) (fun b13=>?_)
  refine KAa ?_
  refine Ks 21 rfl rfl (by kernel_rfl) (by kernel_rfl) (KO rfl rfl sz_25 (by repeat (first|exact Kl _|exact Kz _ _ _|exact Km _|exact Ko _ _ _|exact Ky _ _ _|exact KW|refine KT rfl ?_|refine KX ?_ ?_)) (by repeat (first|exact Sh _|apply St_)) (by first|exact KI _|exact KN _ _ _|exact KL _|exact KU _ _ _|exact Ke _ _ _|rfl|simp [KN,KI,KL]) ?_)
  refine Kp (by kernel_rfl) ?_
  refine KD ?_
  refine Kc [21] (by kernel_rfl) ?_
  refine KC 0 rfl (by kernel_rfl) (Nb rfl) (KE rfl) ?_
  refine KC 1 rfl (by kernel_rfl) (Nb rfl) (KE rfl) ?_
  refine KC 2 rfl (by kernel_rfl) (Nb rfl) (KE rfl) ?_
  refine KC 3 rfl (by kernel_rfl) (Nb rfl) (KM (o':=0) Try.underlying91 rfl rfl rfl sz_25 (by decide)) ?_
  refine LAny.take 4 rfl (by kernel_rfl) (Nb rfl) (KK rfl (by repeat (first|exact Mh _|apply Mt)) (by exact KAQ Try.underlying25 rfl sz_25 rfl (KI _))) ?_
  refine KC 5 rfl (by kernel_rfl) (Nb rfl) (KM (o':=18) Try.underlying91 rfl rfl rfl sz_25 (by decide)) ?_
  refine LAny.take 6 rfl (by kernel_rfl) (Nb rfl) (KK rfl (by repeat (first|exact Mh _|apply Mt)) (by exact pj_ld2 _ _ _ _ _ _)) ?_
  refine KC 8 rfl (by kernel_rfl) (Nb rfl) (KE rfl) ?_
  refine KC 9 rfl (by kernel_rfl) (Nb rfl) (KM (o':=0) Try.underlying91 rfl rfl rfl sz_25 (by decide)) ?_
  refine LAny.take 10 rfl (by kernel_rfl) (Nb rfl) (KK rfl (by repeat (first|exact Mh _|apply Mt)) (by exact KAQ Try.underlying25 rfl sz_25 rfl (KI _))) ?_
  refine KC 11 rfl (by kernel_rfl) (Nb rfl) (KM (o':=18) Try.underlying91 rfl rfl rfl sz_25 (by decide)) ?_
  refine LAny.take 12 rfl (by kernel_rfl) (Nb rfl) (KK rfl (by repeat (first|exact Mh _|apply Mt)) (by exact pj_ld2 _ _ _ _ _ _)) ?_
  refine KC 15 rfl (by kernel_rfl) (Nb rfl) (KE rfl) ?_
  refine LAny.take 16 rfl (by kernel_rfl) (Nb rfl) (KK rfl (by repeat (first|exact Mh _|apply Mt)) (by exact KJ Try.underlying25 rfl sz_25)) ?_
  refine LAny.take 17 rfl (by kernel_rfl) (Nb rfl) (KK rfl (by repeat (first|exact Mh _|apply Mt)) (by exact KJ Try.underlying25 rfl sz_25)) ?_
  refine LAny.toP ?_
  refine KAT 20 rfl (.inl zr_25) (Nb rfl) rfl rfl rfl ?_
  refine KAD 7 rfl rfl rfl (Nb rfl) (by kernel_rfl) rfl (KAL (first:=[_]) rfl en_152 rfl (fun w hw=>c_F_Add V hok f bd _ _ w (hw _ (by repeat (first|exact Mh _|apply Mt))))) ?_
  rintro _ _ ⟨rfl,rfl⟩
  refine KAD 13 rfl rfl rfl (Nb rfl) (by kernel_rfl) rfl (KAL (first:=[_]) rfl en_152 rfl (fun w hw=>c_F_Add V hok f bd _ _ w (hw _ (by repeat (first|exact Mh _|apply Mt))))) ?_
  rintro _ _ ⟨rfl,rfl⟩
  refine KAD 14 rfl rfl rfl (Nb rfl) (by kernel_rfl) rfl (KAL (first:=[_]) rfl en_156 rfl (fun w hw=>c_F_Mul V hok f bd _ _ w (hw _ (by repeat (first|exact Mh _|apply Mt))) (hw _ (by repeat (first|exact Mh _|apply Mt))))) ?_
  rintro _ _ ⟨rfl,rfl⟩
  refine KAD 18 rfl rfl rfl (Nb rfl) (by kernel_rfl) rfl (KAL (first:=[_]) rfl en_152 rfl (fun w hw=>c_F_Add V hok f bd _ _ w (hw _ (by repeat (first|exact Mh _|apply Mt))))) ?_
  rintro _ _ ⟨rfl,rfl⟩
  refine KAD 19 rfl rfl rfl (Nb rfl) (by kernel_rfl) rfl (KAL (first:=[_]) rfl en_161 rfl (fun w hw=>c_F_Sub V hok f bd _ _ w (hw _ (by repeat (first|exact Mh _|apply Mt))))) ?_
  rintro _ _ ⟨rfl,rfl⟩
  refine KAY (by kernel_rfl) (fun b14=>?_)
  refine KAa ?_
  refine Ks 21 rfl rfl (by kernel_rfl) (by kernel_rfl) (KO rfl rfl sz_25 (by repeat (first|exact Kl _|exact Kz _ _ _|exact Km _|exact Ko _ _ _|exact Ky _ _ _|exact KW|refine KT rfl ?_|refine KX ?_ ?_)) (by repeat (first|exact Sh _|apply St_)) (by first|exact KI _|exact KN _ _ _|exact KL _|exact KU _ _ _|exact Ke _ _ _|rfl|simp [KN,KI,KL]) ?_)
  refine Kp (by kernel_rfl) ?_
  refine KD ?_
  refine Kc [21] (by kernel_rfl) ?_
  refine KC 0 rfl (by kernel_rfl) (Nb rfl) (KE rfl) ?_
  refine KC 1 rfl (by kernel_rfl) (Nb rfl) (KE rfl) ?_
  refine KC 2 rfl (by kernel_rfl) (Nb rfl) (KE rfl) ?_
  refine KC 3 rfl (by kernel_rfl) (Nb rfl) (KM (o':=9) Try.underlying91 rfl rfl rfl sz_25 (by decide)) ?_
  refine LAny.take 4 rfl (by kernel_rfl) (Nb rfl) (KK rfl (by repeat (first|exact Mh _|apply Mt)) (by exact LoadV.mid Try.underlying25 rfl sz_25 rfl (KI _) (KI _))) ?_
  refine KC 5 rfl (by kernel_rfl) (Nb rfl) (KM (o':=18) Try.underlying91 rfl rfl rfl sz_25 (by decide)) ?_
  refine LAny.take 6 rfl (by kernel_rfl) (Nb rfl) (KK rfl (by repeat (first|exact Mh _|apply Mt)) (by exact pj_ld2 _ _ _ _ _ _)) ?_
  refine KC 8 rfl (by kernel_rfl) (Nb rfl) (KE rfl) ?_
  refine KC 9 rfl (by kernel_rfl) (Nb rfl) (KM (o':=9) Try.underlying91 rfl rfl rfl sz_25 (by decide)) ?_
  refine LAny.take 10 rfl (by kernel_rfl) (Nb rfl) (KK rfl (by repeat (first|exact Mh _|apply Mt)) (by exact LoadV.mid Try.underlying25 rfl sz_25 rfl (KI _) (KI _))) ?_
  refine KC 11 rfl (by kernel_rfl) (Nb rfl) (KM (o':=18) Try.underlying91 rfl rfl rfl sz_25 (by decide)) ?_
  refine LAny.take 12 rfl (by kernel_rfl) (Nb rfl) (KK rfl (by repeat (first|exact Mh _|apply Mt)) (by exact pj_ld2 _ _ _ _ _ _)) ?_
  refine KC 15 rfl (by kernel_rfl) (Nb rfl) (KE rfl) ?_
  refine LAny.take 16 rfl (by kernel_rfl) (Nb rfl) (KK rfl (by repeat (first|exact Mh _|apply Mt)) (by exact KJ Try.underlying25 rfl sz_25)) ?_
  refine LAny.take 17 rfl (by kernel_rfl) (Nb rfl) (KK rfl (by repeat (first|exact Mh _|apply Mt)) (by exact KJ Try.underlying25 rfl sz_25)) ?_
  refine LAny.toP ?_
  refine KAT 20 rfl (.inl zr_25) (Nb rfl) rfl rfl rfl ?_
  refine KAD 7 rfl rfl rfl (Nb rfl) (by kernel_rfl) rfl (KAL (first:=[_]) rfl en_152 rfl (fun w hw=>c_F_Add V hok f bd _ _ w (hw _ (by repeat (first|exact Mh _|apply Mt))))) ?_
  rintro _ _ ⟨rfl,rfl⟩
  refine KAD 13 rfl rfl rfl (Nb rfl) (by kernel_rfl) rfl (KAL (first:=[_]) rfl en_152 rfl (fun w hw=>c_F_Add V hok f bd _ _ w (hw _ (by repeat (first|exact Mh _|apply Mt))))) ?_
  rintro _ _ ⟨rfl,rfl⟩
  refine KAD 14 rfl rfl rfl (Nb rfl) (by kernel_rfl) rfl (KAL (first:=[_]) rfl en_156 rfl (fun w hw=>c_F_Mul V hok f bd _ _ w (hw _ (by repeat (first|exact Mh _|apply Mt))) (hw _ (by repeat (first|exact Mh _|apply Mt))))) ?_
  rintro _ _ ⟨rfl,rfl⟩
  refine KAD 18 rfl rfl rfl (Nb rfl) (by kernel_rfl) rfl (KAL (first:=[_]) rfl en_152 rfl (fun w hw=>c_F_Add V hok f bd _ _ w (hw _ (by repeat (first|exact Mh _|apply Mt))))) ?_
  rintro _ _ ⟨rfl,rfl⟩
  refine KAD 19 rfl rfl rfl (Nb rfl) (by kernel_rfl) rfl (KAL (first:=[_]) rfl en_161 rfl (fun w hw=>c_F_Sub V hok f bd _ _ w (hw _ (by repeat (first|exact Mh _|apply Mt))))) ?_
  rintro _ _ ⟨rfl,rfl⟩
  refine KAY (by kernel_rfl) (fun b15=>?_)
  refine KAa ?_
  refine Ks 21 rfl rfl (by kernel_rfl) (by kernel_rfl) (KO rfl rfl sz_25 (by repeat (first|exact Kl _|exact Kz _ _ _|exact Km _|exact Ko _ _ _|exact Ky _ _ _|exact KW|refine KT rfl ?_|refine KX ?_ ?_)) (by repeat (first|exact Sh _|apply St_)) (by first|exact KI _|exact KN _ _ _|exact KL _|exact KU _ _ _|exact Ke _ _ _|rfl|simp [KN,KI,KL]) ?_)
  refine Kp (by kernel_rfl) ?_
  refine KD ?_
  refine Kc [18] (by kernel_rfl) ?_
  refine KC 0 rfl (by kernel_rfl) (Nb rfl) (KE rfl) ?_
  refine KC 1 rfl (by kernel_rfl) (Nb rfl) (KE rfl) ?_
  refine KC 2 rfl (by kernel_rfl) (Nb rfl) (KE rfl) ?_
  refine KC 3 rfl (by kernel_rfl) (Nb rfl) (Kd rfl) ?_
  refine KC 4 rfl (by kernel_rfl) (Nb rfl) (KM (o':=60) Try.underlying147 rfl rfl rfl sz_25 (by decide)) ?_
  refine LAny.take 5 rfl (by kernel_rfl) (Nb rfl) (Det.cast (KK rfl (by repeat (first|exact Mh _|apply Mt)) (by exact cvC_ld_t3 _ _ _ _ _ _ _ _ _ _ _ _ _ _ _ _)) (t_val hok)) ?_
  refine LAny.take 6 rfl (by kernel_rfl) (Nb rfl) (KK rfl (by repeat (first|exact Mh _|apply Mt)) (by exact KJ Try.underlying25 rfl sz_25)) ?_
  refine KC 8 rfl (by kernel_rfl) (Nb rfl) (KE rfl) ?_
  refine KC 9 rfl (by kernel_rfl) (Nb rfl) (KE rfl) ?_
  refine KC 10 rfl (by kernel_rfl) (Nb rfl) (Kd rfl) ?_
  refine KC 11 rfl (by kernel_rfl) (Nb rfl) (KM (o':=0) Try.underlying147 rfl rfl rfl sz_62 (by decide)) ?_
  refine KC 12 rfl (by kernel_rfl) (Nb rfl) (KM (o':=10) Try.underlying62 rfl rfl rfl sz_25 (by decide)) ?_
  refine LAny.take 13 rfl (by kernel_rfl) (Nb rfl) (Det.cast (KK rfl (by repeat (first|exact Mh _|apply Mt)) (by exact cvC_ld_a _ _ _ _ _ _ _ _ _ _ _ _ _ _ _ _)) (a_val hok)) ?_
  refine LAny.take 14 rfl (by kernel_rfl) (Nb rfl) (KK rfl (by repeat (first|exact Mh _|apply Mt)) (by exact KJ Try.underlying25 rfl sz_25)) ?_
  refine LAny.toP ?_
  refine KAT 17 rfl (.inl zr_25) (Nb rfl) rfl rfl rfl ?_
  refine KAD 7 rfl rfl rfl (Nb rfl) (by kernel_rfl) rfl (KAL (first:=[_]) rfl en_156 rfl (fun w hw=>c_F_Mul V hok f bd _ _ w (hw _ (by repeat (first|exact Mh _|apply Mt))) (hw _ (by repeat (first|exact Mh _|apply Mt))))) ?_
  rintro _ _ ⟨rfl,rfl⟩
  refine KAD 15 rfl rfl rfl (Nb rfl) (by kernel_rfl) rfl (KAL (first:=[_]) rfl en_156 rfl (fun w hw=>c_F_Mul V hok f bd _ _ w (hw _ (by repeat (first|exact Mh _|apply Mt))) (hw _ (by repeat (first|exact Mh _|apply Mt))))) ?_
  rintro _ _ ⟨rfl,rfl⟩
  refine KAD 16 rfl rfl rfl (Nb rfl) (by kernel_rfl) rfl (KAL (first:=[_]) rfl en_152 rfl (fun w hw=>c_F_Add V hok f bd _ _ w (hw _ (by repeat (first|exact Mh _|apply Mt))))) ?_
  rintro _ _ ⟨rfl,rfl⟩
  refine KAY (by kernel_rfl) (fun b16=>?_)
  refine KAa ?_
  refine Ks 18 rfl rfl (by kernel_rfl) (by kernel_rfl) (KO rfl rfl sz_25 (by repeat (first|exact Kl _|exact Kz _ _ _|exact Km _|exact Ko _ _ _|exact Ky _ _ _|exact KW|refine KT rfl ?_|refine KX ?_ ?_)) (by repeat (first|exact Sh _|apply St_)) (by first|exact KI _|exact KN _ _ _|exact KL _|exact KU _ _ _|exact Ke _ _ _|rfl|simp [KN,KI,KL]) ?_)
  refine Kp (by kernel_rfl) ?_
  refine KD (KB ?_)
  refine KA (KE rfl) (Nb rfl) ?_
  refine LOps.det (KK rfl (by repeat (first|exact Mh _|apply Mt)) (by exact KJ Try.underlying25 rfl sz_25)) (Nb rfl) ?_
  refine LOps.det (KK rfl (by repeat (first|exact Mh _|apply Mt)) (by exact KJ Try.underlying25 rfl sz_25)) (Nb rfl) ?_
  refine KH rfl (KS (KR (first:=[_]) rfl en_161 rfl (Nb rfl) (fun w hw=>c_F_Sub V hok f bd _ _ w (hw _ (by repeat (first|exact Mh _|apply Mt)))) ?_))
  refine KH rfl (KS (KQ (Kb zr_25) (Nb rfl) (fun b17=>?_)))
  refine KH rfl (KO rfl rfl sz_25 (by repeat (first|exact Kl _|exact Kz _ _ _|exact Km _|exact Ko _ _ _|exact Ky _ _ _|exact KW|refine KT rfl ?_|refine KX ?_ ?_)) (by repeat (first|exact Sh _|apply St_)) (by first|exact KI _|exact KN _ _ _|exact KL _|exact KU _ _ _|exact Ke _ _ _|rfl|simp [KN,KI,KL]) ?_)
  refine KG ?_
  refine KD (KB ?_)
  refine KA (KE rfl) (Nb rfl) ?_
  refine LOps.det (KK rfl (by repeat (first|exact Mh _|apply Mt)) (by exact KJ Try.underlying25 rfl sz_25)) (Nb rfl) ?_
  refine LOps.det (KK rfl (by repeat (first|exact Mh _|apply Mt)) (by exact KJ Try.underlying25 rfl sz_25)) (Nb rfl) ?_
  refine KH rfl (KS (KR (first:=[_]) rfl en_152 rfl (Nb rfl) (fun w hw=>c_F_Add V hok f bd _ _ w (hw _ (by repeat (first|exact Mh _|apply Mt)))) ?_))
  refine KH rfl (KO rfl rfl sz_25 (by repeat (first|exact Kl _|exact Kz _ _ _|exact Km _|exact Ko _ _ _|exact Ky _ _ _|exact KW|refine KT rfl ?_|refine KX ?_ ?_)) (by repeat (first|exact Sh _|apply St_)) (by first|exact KI _|exact KN _ _ _|exact KL _|exact KU _ _ _|exact Ke _ _ _|rfl|simp [KN,KI,KL]) ?_)
  refine KG ?_
  refine KD (KB ?_)
  refine KA (KE rfl) (Nb rfl) ?_
  refine LOps.det (KK rfl (by repeat (first|exact Mh _|apply Mt)) (by exact KJ Try.underlying25 rfl sz_25)) (Nb rfl) ?_
  refine LOps.det (KK rfl (by repeat (first|exact Mh _|apply Mt)) (by exact KJ Try.underlying25 rfl sz_25)) (Nb rfl) ?_
  refine KH rfl (KS (KR (first:=[_]) rfl en_156 rfl (Nb rfl) (fun w hw=>c_F_Mul V hok f bd _ _ w (hw _ (by repeat (first|exact Mh _|apply Mt))) (hw _ (by repeat (first|exact Mh _|apply Mt)))) ?_))
  refine KH rfl (KS (KQ (Kb zr_25) (Nb rfl) (fun b18=>?_)))
  refine KH rfl (KO rfl rfl sz_25 (by repeat (first|exact Kl _|exact Kz _ _ _|exact Km _|exact Ko _ _ _|exact Ky _ _ _|exact KW|refine KT rfl ?_|refine KX ?_ ?_)) (by repeat (first|exact Sh _|apply St_)) (by first|exact KI _|exact KN _ _ _|exact KL _|exact KU _ _ _|exact Ke _ _ _|rfl|simp [KN,KI,KL]) ?_)
  refine KG ?_
  refine KD ?_
  refine Kc [7] (by kernel_rfl) ?_
  refine KC 0 rfl (by kernel_rfl) (Nb rfl) (KE rfl) ?_
  refine KC 1 rfl (by kernel_rfl) (Nb rfl) (KE rfl) ?_
  refine LAny.take 2 rfl (by kernel_rfl) (Nb rfl) (KK rfl (by repeat (first|exact Mh _|apply Mt)) (by exact KJ Try.underlying25 rfl sz_25)) ?_
  refine LAny.take 3 rfl (by kernel_rfl) (Nb rfl) (KK rfl (by repeat (first|exact Mh _|apply Mt)) (by exact KJ Try.underlying25 rfl sz_25)) ?_
  refine LAny.take 5 rfl (by kernel_rfl) (Nb rfl) (KK rfl (by repeat (first|exact Mh _|apply Mt)) (by exact KJ Try.underlying25 rfl sz_25)) ?_
  refine Kv 4 rfl rfl (by kernel_rfl) (KR (first:=[_]) rfl en_152 rfl (Nb rfl) (fun w hw=>c_F_Add V hok f bd _ _ w (hw _ (by repeat (first|exact Mh _|apply Mt)))) ?_)
  refine Kv 6 rfl rfl (by kernel_rfl) (KR (first:=[_]) rfl en_152 rfl (Nb rfl) (fun w hw=>c_F_Add V hok f bd _ _ w (hw _ (by repeat (first|exact Mh _|apply Mt)))) ?_)
  refine Ks 7 rfl rfl (by kernel_rfl) (by kernel_rfl) (KO rfl rfl sz_25 (by repeat (first|exact Kl _|exact Kz _ _ _|exact Km _|exact Ko _ _ _|exact Ky _ _ _|exact KW|refine KT rfl ?_|refine KX ?_ ?_)) (by repeat (first|exact Sh _|apply St_)) (by first|exact KI _|exact KN _ _ _|exact KL _|exact KU _ _ _|exact Ke _ _ _|rfl|simp [KN,KI,KL]) ?_)
  refine Kp (by kernel_rfl) ?_
  refine KD ?_
  refine Kc [8] (by kernel_rfl) ?_
  refine KC 0 rfl (by kernel_rfl) (Nb rfl) (KE rfl) ?_
  refine KC 1 rfl (by kernel_rfl) (Nb rfl) (KE rfl) ?_
  refine KC 2 rfl (by kernel_rfl) (Nb rfl) (Kd rfl) ?_
  refine KC 3 rfl (by kernel_rfl) (Nb rfl) (KM (o':=0) Try.underlying147 rfl rfl rfl sz_62 (by decide)) ?_
  refine KC 4 rfl (by kernel_rfl) (Nb rfl) (KM (o':=10) Try.underlying62 rfl rfl rfl sz_25 (by decide)) ?_
  refine LAny.take 5 rfl (by kernel_rfl) (Nb rfl) (Det.cast (KK rfl (by repeat (first|exact Mh _|apply Mt)) (by exact cvC_ld_a _ _ _ _ _ _ _ _ _ _ _ _ _ _ _ _)) (a_val hok)) ?_
  refine LAny.take 6 rfl (by kernel_rfl) (Nb rfl) (KK rfl (by repeat (first|exact Mh _|apply Mt)) (by exact KJ Try.underlying25 rfl sz_25)) ?_
  refine Kv 7 rfl rfl (by kernel_rfl) (KR (first:=[_]) rfl en_156 rfl (Nb rfl) (fun w hw=>c_F_Mul V hok f bd _ _ w (hw _ (by repeat (first|exact Mh _|apply Mt))) (hw _ (by repeat (first|exact Mh _|apply Mt)))) ?_)
  refine Ks 8 rfl rfl (by kernel_rfl) (by kernel_rfl) (KO rfl rfl sz_25 (by repeat (first|exact Kl _|exact Kz _ _ _|exact Km _|exact Ko _ _ _|exact Ky _ _ _|exact KW|refine KT rfl ?_|refine KX ?_ ?_)) (by repeat (first|exact Sh _|apply St_)) (by first|exact KI _|exact KN _ _ _|exact KL _|exact KU _ _ _|exact Ke _ _ _|rfl|simp [KN,KI,KL]) ?_)
  refine Kp (by kernel_rfl) ?_
  refine KD ?_
  refine Kc [7] (by kernel_rfl) ?_
  refine KC 0 rfl (by kernel_rfl) (Nb rfl) (KE rfl) ?_
  refine KC 1 rfl (by kernel_rfl) (Nb rfl) (KE rfl) ?_
  refine KC 2 rfl (by kernel_rfl) (Nb rfl) (Kd rfl) ?_
  refine KC 3 rfl (by kernel_rfl) (Nb rfl) (KM (o':=60) Try.underlying147 rfl rfl rfl sz_25 (by decide)) ?_
  refine LAny.take 4 rfl (by kernel_rfl) (Nb rfl) (Det.cast (KK rfl (by repeat (first|exact Mh _|apply Mt)) (by exact cvC_ld_t3 _ _ _ _ _ _ _ _ _ _ _ _ _ _ _ _)) (t_val hok)) ?_
  refine LAny.take 5 rfl (by kernel_rfl) (Nb rfl) (KK rfl (by repeat (first|exact Mh _|apply Mt)) (by exact KJ Try.underlying25 rfl sz_25)) ?_
  refine Kv 6 rfl rfl (by kernel_rfl) (KR (first:=[_]) rfl en_156 rfl (Nb rfl) (fun w hw=>c_F_Mul V hok f bd _ _ w (hw _ (by repeat (first|exact Mh _|apply Mt))) (hw _ (by repeat (first|exact Mh _|apply Mt)))) ?_)
  refine Ks 7 rfl rfl (by kernel_rfl) (by kernel_rfl) (KO rfl rfl sz_25 (by repeat (first|exact Kl _|exact Kz _ _ _|exact Km _|exact Ko _ _ _|exact Ky _ _ _|exact KW|refine KT rfl ?_|refine KX ?_ ?_)) (by repeat (first|exact Sh _|apply St_)) (by first|exact KI _|exact KN _ _ _|exact KL _|exact KU _ _ _|exact Ke _ _ _|rfl|simp [KN,KI,KL]) ?_)
  refine Kp (by kernel_rfl) ?_
  refine KD (KB ?_)
  refine KA (KE rfl) (Nb rfl) ?_
  refine LOps.det (KK rfl (by repeat (first|exact Mh _|apply Mt)) (by exact KJ Try.underlying25 rfl sz_25)) (Nb rfl) ?_
  refine LOps.det (KK rfl (by repeat (first|exact Mh _|apply Mt)) (by exact KJ Try.underlying25 rfl sz_25)) (Nb rfl) ?_
  refine KH rfl (KS (KR (first:=[_]) rfl en_152 rfl (Nb rfl) (fun w hw=>c_F_Add V hok f bd _ _ w (hw _ (by repeat (first|exact Mh _|apply Mt)))) ?_))
  refine KH rfl (KO rfl rfl sz_25 (by repeat (first|exact Kl _|exact Kz _ _ _|exact Km _|exact Ko _ _ _|exact Ky _ _ _|exact KW|refine KT rfl ?_|refine KX ?_ ?_)) (by repeat (first|exact Sh _|apply St_)) (by first|exact KI _|exact KN _ _ _|exact KL _|exact KU _ _ _|exact Ke _ _ _|rfl|simp [KN,KI,KL]) ?_)
  refine KG ?_
  refine KD ?_
  refine Kc [11] (by kernel_rfl) ?_
  refine KC 0 rfl (by kernel_rfl) (Nb rfl) (KE rfl) ?_
  refine KC 1 rfl (by kernel_rfl) (Nb rfl) (KE rfl) ?_
  refine KC 2 rfl (by kernel_rfl) (Nb rfl) (Kd rfl) ?_
  refine KC 3 rfl (by kernel_rfl) (Nb rfl) (KM (o':=0) Try.underlying147 rfl rfl rfl sz_62 (by decide)) ?_
  refine KC 4 rfl (by kernel_rfl) (Nb rfl) (KM (o':=10) Try.underlying62 rfl rfl rfl sz_25 (by decide)) ?_
  refine LAny.take 5 rfl (by kernel_rfl) (Nb rfl) (Det.cast (KK rfl (by repeat (first|exact Mh _|apply Mt)) (by exact cvC_ld_a _ _ _ _ _ _ _ _ _ _ _ _ _ _ _ _)) (a_val hok)) ?_
  refine KC 6 rfl (by kernel_rfl) (Nb rfl) (KE rfl) ?_
  refine LAny.take 7 rfl (by kernel_rfl) (Nb rfl) (KK rfl (by repeat (first|exact Mh _|apply Mt)) (by exact KJ Try.underlying25 rfl sz_25)) ?_
  refine LAny.take 8 rfl (by kernel_rfl) (Nb rfl) (KK rfl (by repeat (first|exact Mh _|apply Mt)) (by exact KJ Try.underlying25 rfl sz_25)) ?_
  refine Kv 9 rfl rfl (by kernel_rfl) (KR (first:=[_]) rfl en_161 rfl (Nb rfl) (fun w hw=>c_F_Sub V hok f bd _ _ w (hw _ (by repeat (first|exact Mh _|apply Mt)))) ?_)
  refine Kv 10 rfl rfl (by kernel_rfl) (KR (first:=[_]) rfl en_156 rfl (Nb rfl) (fun w hw=>c_F_Mul V hok f bd _ _ w (hw _ (by repeat (first|exact Mh _|apply Mt))) (hw _ (by repeat (first|exact Mh _|apply Mt)))) ?_)
  refine Ks 11 rfl rfl (by kernel_rfl) (by kernel_rfl) (KO rfl rfl sz_25 (by repeat (first|exact Kl _|exact Kz _ _ _|exact Km _|exact Ko _ _ _|exact Ky _ _ _|exact KW|refine KT rfl ?_|refine KX ?_ ?_)) (by repeat (first|exact Sh _|apply St_)) (by first|exact KI _|exact KN _ _ _|exact KL _|exact KU _ _ _|exact Ke _ _ _|rfl|simp [KN,KI,KL]) ?_)
  refine Kp (by kernel_rfl) ?_
  refine KD (KB ?_)
  refine KA (KE rfl) (Nb rfl) ?_
  refine LOps.det (KK rfl (by repeat (first|exact Mh _|apply Mt)) (by exact KJ Try.underlying25 rfl sz_25)) (Nb rfl) ?_
  refine LOps.det (KK rfl (by repeat (first|exact Mh _|apply Mt)) (by exact KJ Try.underlying25 rfl sz_25)) (Nb rfl) ?_
  refine KH rfl (KS (KR (first:=[_]) rfl en_152 rfl (Nb rfl) (fun w hw=>c_F_Add V hok f bd _ _ w (hw _ (by repeat (first|exact Mh _|apply Mt)))) ?_))
  refine KH rfl (KO rfl rfl sz_25 (by repeat (first|exact Kl _|exact Kz _ _ _|exact Km _|exact Ko _ _ _|exact Ky _ _ _|exact KW|refine KT rfl ?_|refine KX ?_ ?_)) (by repeat (first|exact Sh _|apply St_)) (by first|exact KI _|exact KN _ _ _|exact KL _|exact KU _ _ _|exact Ke _ _ _|rfl|simp [KN,KI,KL]) ?_)
  refine KG ?_
  refine KD ?_
  refine Kc [7] (by kernel_rfl) ?_
  refine KC 0 rfl (by kernel_rfl) (Nb rfl) (KE rfl) ?_
  refine LAny.take 1 rfl (by kernel_rfl) (Nb rfl) (KK rfl (by repeat (first|exact Mh _|apply Mt)) (by exact KJ Try.underlying25 rfl sz_25)) ?_
  refine KC 2 rfl (by kernel_rfl) (Nb rfl) (KE rfl) ?_
  refine LAny.take 3 rfl (by kernel_rfl) (Nb rfl) (KK rfl (by repeat (first|exact Mh _|apply Mt)) (by exact KJ Try.underlying25 rfl sz_25)) ?_
  refine LAny.take 4 rfl (by kernel_rfl) (Nb rfl) (KK rfl (by repeat (first|exact Mh _|apply Mt)) (by exact KJ Try.underlying25 rfl sz_25)) ?_
  refine Kv 5 rfl rfl (by kernel_rfl) (KR (first:=[_]) rfl en_156 rfl (Nb rfl) (fun w hw=>c_F_Mul V hok f bd _ _ w (hw _ (by repeat (first|exact Mh _|apply Mt))) (hw _ (by repeat (first|exact Mh _|apply Mt)))) ?_)
  refine Kv 6 rfl rfl (by kernel_rfl) (KR (first:=[_]) rfl en_152 rfl (Nb rfl) (fun w hw=>c_F_Add V hok f bd _ _ w (hw _ (by repeat (first|exact Mh _|apply Mt)))) ?_)
  refine Ks 7 rfl rfl (by kernel_rfl) (by kernel_rfl) (KO rfl rfl sz_25 (by repeat (first|exact Kl _|exact Kz _ _ _|exact Km _|exact Ko _ _ _|exact Ky _ _ _|exact KW|refine KT rfl ?_|refine KX ?_ ?_)) (by repeat (first|exact Sh _|apply St_)) (by first|exact KI _|exact KN _ _ _|exact KL _|exact KU _ _ _|exact Ke _ _ _|rfl|simp [KN,KI,KL]) ?_)
  refine Kp (by kernel_rfl) ?_
  refine KD ?_
  refine Kc [10] (by kernel_rfl) ?_
  refine KC 0 rfl (by kernel_rfl) (Nb rfl) (KE rfl) ?_
  refine KC 1 rfl (by kernel_rfl) (Nb rfl) (KE rfl) ?_
  refine LAny.take 2 rfl (by kernel_rfl) (Nb rfl) (KK rfl (by repeat (first|exact Mh _|apply Mt)) (by exact KJ Try.underlying25 rfl sz_25)) ?_
  refine LAny.take 3 rfl (by kernel_rfl) (Nb rfl) (KK rfl (by repeat (first|exact Mh _|apply Mt)) (by exact KJ Try.underlying25 rfl sz_25)) ?_
  refine KC 5 rfl (by kernel_rfl) (Nb rfl) (KE rfl) ?_
  refine LAny.take 6 rfl (by kernel_rfl) (Nb rfl) (KK rfl (by repeat (first|exact Mh _|apply Mt)) (by exact KJ Try.underlying25 rfl sz_25)) ?_
  refine LAny.take 7 rfl (by kernel_rfl) (Nb rfl) (KK rfl (by repeat (first|exact Mh _|apply Mt)) (by exact KJ Try.underlying25 rfl sz_25)) ?_
  refine Kv 4 rfl rfl (by kernel_rfl) (KR (first:=[_]) rfl en_156 rfl (Nb rfl) (fun w hw=>c_F_Mul V hok f bd _ _ w (hw _ (by repeat (first|exact Mh _|apply Mt))) (hw _ (by repeat (first|exact Mh _|apply Mt)))) ?_)
  refine Kv 8 rfl rfl (by kernel_rfl) (KR (first:=[_]) rfl en_156 rfl (Nb rfl) (fun w hw=>c_F_Mul V hok f bd _ _ w (hw _ (by repeat (first|exact Mh _|apply Mt))) (hw _ (by repeat (first|exact Mh _|apply Mt)))) ?_)
  refine Kv 9 rfl rfl (by kernel_rfl) (KR (first:=[_]) rfl en_161 rfl (Nb rfl) (fun w hw=>c_F_Sub V hok f bd _ _ w (hw _ (by repeat (first|exact Mh _|apply Mt)))) ?_)
  refine Ks 10 rfl rfl (by kernel_rfl) (by kernel_rfl) (KO rfl rfl sz_25 (by repeat (first|exact Kl _|exact Kz _ _ _|exact Km _|exact Ko _ _ _|exact Ky _ _ _|exact KW|refine KT rfl ?_|refine KX ?_ ?_)) (by repeat (first|exact Sh _|apply St_)) (by first|exact KI _|exact KN _ _ _|exact KL _|exact KU _ _ _|exact Ke _ _ _|rfl|simp [KN,KI,KL]) ?_)
  refine Kp (by kernel_rfl) ?_
  refine KD ?_
  refine Kc [10] (by kernel_rfl) ?_
  refine KC 0 rfl (by kernel_rfl) (Nb rfl) (KE rfl) ?_
  refine KC 1 rfl (by kernel_rfl) (Nb rfl) (KE rfl) ?_
  refine LAny.take 2 rfl (by kernel_rfl) (Nb rfl) (KK rfl (by repeat (first|exact Mh _|apply Mt)) (by exact KJ Try.underlying25 rfl sz_25)) ?_
  refine LAny.take 3 rfl (by kernel_rfl) (Nb rfl) (KK rfl (by repeat (first|exact Mh _|apply Mt)) (by exact KJ Try.underlying25 rfl sz_25)) ?_
  refine KC 5 rfl (by kernel_rfl) (Nb rfl) (KE rfl) ?_
  refine LAny.take 6 rfl (by kernel_rfl) (Nb rfl) (KK rfl (by repeat (first|exact Mh _|apply Mt)) (by exact KJ Try.underlying25 rfl sz_25)) ?_
  refine LAny.take 7 rfl (by kernel_rfl) (Nb rfl) (KK rfl (by repeat (first|exact Mh _|apply Mt)) (by exact KJ Try.underlying25 rfl sz_25)) ?_
  refine Kv 4 rfl rfl (by kernel_rfl) (KR (first:=[_]) rfl en_156 rfl (Nb rfl) (fun w hw=>c_F_Mul V hok f bd _ _ w (hw _ (by repeat (first|exact Mh _|apply Mt))) (hw _ (by repeat (first|exact Mh _|apply Mt)))) ?_)
  refine Kv 8 rfl rfl (by kernel_rfl) (KR (first:=[_]) rfl en_156 rfl (Nb rfl) (fun w hw=>c_F_Mul V hok f bd _ _ w (hw _ (by repeat (first|exact Mh _|apply Mt))) (hw _ (by repeat (first|exact Mh _|apply Mt)))) ?_)
  refine Kv 9 rfl rfl (by kernel_rfl) (KR (first:=[_]) rfl en_152 rfl (Nb rfl) (fun w hw=>c_F_Add V hok f bd _ _ w (hw _ (by repeat (first|exact Mh _|apply Mt)))) ?_)
  refine Ks 10 rfl rfl (by kernel_rfl) (by kernel_rfl) (KO rfl rfl sz_25 (by repeat (first|exact Kl _|exact Kz _ _ _|exact Km _|exact Ko _ _ _|exact Ky _ _ _|exact KW|refine KT rfl ?_|refine KX ?_ ?_)) (by repeat (first|exact Sh _|apply St_)) (by first|exact KI _|exact KN _ _ _|exact KL _|exact KU _ _ _|exact Ke _ _ _|rfl|simp [KN,KI,KL]) ?_)
  refine Kp (by kernel_rfl) ?_
  refine KD (KB ?_)
  refine LOps.det (KK rfl (by repeat (first|exact Mh _|apply Mt)) (by exact KJ Try.underlying25 rfl sz_25)) (Nb rfl) ?_
  refine LOps.det (KK rfl (by repeat (first|exact Mh _|apply Mt)) (by exact KJ Try.underlying25 rfl sz_25)) (Nb rfl) ?_
  refine LOps.det (KK rfl (by repeat (first|exact Mh _|apply Mt)) (by exact KJ Try.underlying25 rfl sz_25)) (Nb rfl) ?_
  refine KA (KV (KAM pl_91 zr_91 rfl (fill_pj _ _ _)) rfl) (Nb rfl) ?_
  refine KH rfl (KO rfl rfl sz_91 (by repeat (first|exact Kl _|exact Kz _ _ _|exact Km _|exact Ko _ _ _|exact Ky _ _ _|exact KW|refine KT rfl ?_|refine KX ?_ ?_)) (by repeat (first|exact Sh _|apply St_)) (by first|exact KI _|exact KN _ _ _|exact KL _|exact KU _ _ _|exact Ke _ _ _|rfl|simp [KN,KI,KL]) ?_)
  refine KG (Ka ?_)
  refine ⟨[_],.cons ⟨_,_,_,rfl,(by repeat (first|exact Mh _|apply Mt)),by exact KJ Try.underlying91 rfl sz_91⟩ .nil,fun a w' hr=>⟨?_,hr.fr.below⟩⟩
  rfl
end Go.Proofs.Ytljblbgogjieaaa
set_option linter.unusedVariables false
set_option linter.unusedSimpArgs false
set_option maxRecDepth 20000
namespace Go.Proofs.Ytljblbgogjieaaa
open Go Go.RowKit
open Grp
theorem pm_top (V:Cv) (P:Pt V.p) (K:Nat):pmul V.A P (K/2^blen K) = .inf:=by rw [Nat.div_eq_of_lt (lt_blen K)]; rfl
theorem pm_T {V:Cv} (hok:V.Ok) {P:Pt V.p} (hP:On V.A V.B P) {K y:Nat} (h:K/2^y%2 = 1):padd V.A (padd V.A (pmul V.A P (K/2^(y+1))) (pmul V.A P (K/2^(y+1)))) P = pmul V.A P (K/2^y):=by
  have:=pmul_bit hok.crv hP K y
  rwa [if_pos h] at this
theorem pm_F {V:Cv} (hok:V.Ok) {P:Pt V.p} (hP:On V.A V.B P) {K y:Nat} (h:¬ K/2^y%2 = 1):padd V.A (pmul V.A P (K/2^(y+1))) (pmul V.A P (K/2^(y+1))) = pmul V.A P (K/2^y):=by
  have:=pmul_bit hok.crv hP K y
  rwa [if_neg h] at this
theorem c_r_Times (Q:CQ) (V:Cv) (qk:NV) (K:Nat) (q r:NV) (P R:Pt V.p) (w:World) (hc:(crvI Q V).holds w) (hok:V.Ok) (hk:(numT qk K).holds w) (hK:D.nw K≤1000) (hq:(numT q (xv P)).holds w) (hr:(numT r (yv P)).holds w) (hP:On V.A V.B P) (hR:pmul V.A P K = R):Calls Try.prog 64 ([.agg (crvL Q V).toArray,numV qk K,rpV (numV q (xv P)) (numV r (yv P)) (iv P)]:List Value).toArray w (fun e w'=>Num2R w (fp2 q r P []) (xv R) (yv R) (fun u v=>rpV u v (iv R)) e w'):=by
  obtain ⟨hb5,hb521,hba,hbb,hbx,hby,hbn,hbo,hbo2,hbb1,hbn1⟩:=hok.bounds
  have hsz:=hok.sz
  have hsp:=hsz.p
  have hsa:=hsz.a
  have hsb:=hsz.b
  have hp0:V.p≠0:=by omega
  have hpp:0<V.p:=by omega
  have hm17:∀ k,D.nw (k%V.p)≤17:=fun k=>Nat.le_trans (D.nw_mono (Nat.le_of_lt (Nat.mod_lt k hpp))) hsp
  refine KAB (N:=30) (rs:=[.cell 6 73]) [crvI Q V,numT qk K,numT q (xv P),numT r (yv P)] Try.func64 rfl Try.ntmps64 Try.results64 (Nb rfl) ⟨hc,hk,hq,hr,trivial⟩ rfl ?_
  show LCode _ _ _ ⟨_,_⟩ _
  refine KD (KB ?_)
  refine KH rfl (KS (KQ (Kn rfl) (Nb rfl) (fun b3=>?_)))
  refine KH rfl (KS (KQ (Kn rfl) (Nb rfl) (fun b5=>?_)))
  refine KH rfl (KS (KQ (Kb zr_73) (Nb rfl) (fun b6=>?_)))
  refine KG ?_
  refine KD (KB ?_)
  refine KA (KV (KAM pl_73 zr_73 rfl rfl) (show _ = rpV (.slice none 0 0) (.slice none 0 0) (true) from rfl)) (Nb rfl) ?_
  refine KH rfl (KS (KQ (Kb zr_73) (Nb rfl) (fun b7=>?_)))
  refine KH rfl (KO rfl rfl sz_73 (by repeat (first|exact KW|refine KT rfl ?_)) (by repeat (first|exact Sh _|apply St_)) (by rfl) ?_)
  refine KG ?_
  refine KD ?_
  refine KD ?_
  have hbk:=blen_nw K
  refine LCode.zeroNum ?_
  refine LCode.zeroNum ?_
  refine KB ?_
  refine KA (KE rfl) (Nb rfl) ?_
  refine KH rfl (KS (KR (first:=[]) rfl en_76 rfl (Nb rfl) (fun w hw=>c_n_Bits qk K w (hw _ (by repeat (first|exact Mh _|apply Mt))) (by omega)) ?_))
  refine KA (KP (v:=.int .i64 (((blen K:Nat):Int)-1)) rfl rfl (br_subI (by omega) (by omega))) (Nb rfl) ?_
  refine KA (KF rfl) (Nb rfl) ?_
  refine KG ?_
  refine LCode.block ?_
  refine KAP (α:=Nat×NV×NV) (fun x=>x.1≤blen K∧NFr w.heap.size (fp2 q r P []) x.2.1 (D.nw (xv (pmul V.A P (K/2^x.1))))∧NFr w.heap.size (fp2 q r P []) x.2.2 (D.nw (yv (pmul V.A P (K/2^x.1))))) (fun x=>⟨[(1,numV qk K),(3,.pointer (some ⟨b3,0,none⟩)),(5,.pointer (some ⟨b5,0,none⟩)),(6,.pointer (some ⟨b6,0,none⟩)),(7,.pointer (some ⟨b7,0,none⟩)),(8,.int .i64 (((x.1:Nat):Int)-1))],[.blk b7 ⟨true,rpL (numV x.2.1 (xv (pmul V.A P (K/2^x.1)))) (numV x.2.2 (yv (pmul V.A P (K/2^x.1)))) (iv (pmul V.A P (K/2^x.1))),73,(0,0)⟩,.blk b6 ⟨true,[.slice none 0 0,.slice none 0 0,.bool false],73,(0,0)⟩,.blk b5 ⟨true,rpL (numV q (xv P)) (numV r (yv P)) (iv P),73,(0,0)⟩,.blk b3 ⟨true,crvL Q V,31,(0,0)⟩,numT x.2.1 (xv (pmul V.A P (K/2^x.1))),numT x.2.2 (yv (pmul V.A P (K/2^x.1))),crvI Q V,numT qk K,numT q (xv P),numT r (yv P)]⟩) (fun x=>x.1) ((blen K,⟨true,0,0⟩,⟨true,0,0⟩)) (⟨Nat.le_refl _,by dsimp only; rw [pm_top]; exact nfr_zero _ _,by dsimp only; rw [pm_top]; exact nfr_zero _ _⟩) (by dsimp only; rw [pm_top]; exact KAo (Sub.cells (b:=b7) (cs':=rpL (numV ⟨true,0,0⟩ (xv (Pt.inf:Pt V.p))) (numV ⟨true,0,0⟩ (yv (Pt.inf:Pt V.p))) (iv (Pt.inf:Pt V.p))) (by repeat (first|exact Sh _|apply St_)) rp_nil) (KAI ⟨rfl,rfl,rfl,rfl,rfl,rfl,trivial⟩ (by repeat (first|exact Sel.nil _|refine Sel.cons (by repeat (first|exact Ph _|apply Pt_)) ?_)))) ?_
  rintro x ⟨hx1,hx2,hx3⟩
  refine KD ?_
  refine KD ?_
  rcases Nat.eq_zero_or_pos x.1 with h0|h0
  ·
    refine KB ?_
    refine KA (KE rfl) (Nb rfl) ?_
    refine KA (KP (v:=.bool false) rfl rfl (by rw [h0]; rfl)) (Nb rfl) ?_
    refine KG ?_
    refine Ki rfl ?_
    refine KAJ ?_
    refine KD ?_
    have eR:pmul V.A P (K/2^x.1) = R:=by rw [h0,Nat.pow_zero,Nat.div_one]; exact hR
    rw [eR] at hx2 hx3 ⊢
    refine KB ?_
    refine LOps.det (KK rfl (by repeat (first|exact Mh _|apply Mt)) (by exact KJ Try.underlying73 rfl sz_73)) (Nb rfl) ?_
    refine KH rfl (KO rfl rfl sz_73 (by repeat (first|exact KW|refine KT rfl ?_)) (by repeat (first|exact Sh _|apply St_)) (by rfl) ?_)
    refine KG (Ka ?_)
    refine ⟨[_],.cons ⟨_,_,_,rfl,(by repeat (first|exact Mh _|apply Mt)),by exact KJ Try.underlying73 rfl sz_73⟩ .nil,fun a w' hr=>hr.num2Q (by repeat (first|exact Mh _|apply Mt)) hx2 (by repeat (first|exact Mh _|apply Mt)) hx3⟩
  ·
    obtain ⟨y,hy⟩:∃ y,x.1 = y+1:=⟨x.1-1,by omega⟩
    rw [hy] at hx2 hx3 ⊢
    refine KB ?_
    refine KA (KE rfl) (Nb rfl) ?_
    refine KA (KP (v:=.bool true) rfl rfl (by simp [KAX] <;> omega)) (Nb rfl) ?_
    refine KG ?_
    refine Kx rfl ?_
    refine Kh ?_
    refine KD ?_
    refine LCode.block ?_
    refine KD (KB ?_)
    refine LOps.det (KK rfl (by repeat (first|exact Mh _|apply Mt)) (by exact KJ Try.underlying31 rfl sz_31)) (Nb rfl) ?_
    refine LOps.det (KK rfl (by repeat (first|exact Mh _|apply Mt)) (by exact KJ Try.underlying73 rfl sz_73)) (Nb rfl) ?_
    refine LOps.det (KK rfl (by repeat (first|exact Mh _|apply Mt)) (by exact KJ Try.underlying73 rfl sz_73)) (Nb rfl) ?_
    refine KH rfl (KS (Ku (first:=[]) rfl en_79 rfl (Nb rfl) (fun w hw hs=>(c_r_Plus Q V x.2.1 x.2.2 x.2.1 x.2.2 (pmul V.A P (K/2^(y+1))) (pmul V.A P (K/2^(y+1))) (padd V.A (pmul V.A P (K/2^(y+1))) (pmul V.A P (K/2^(y+1)))) w (hw _ (by repeat (first|exact Mh _|apply Mt))) hok (hw _ (by repeat (first|exact Mh _|apply Mt))) (hw _ (by repeat (first|exact Mh _|apply Mt))) (hw _ (by repeat (first|exact Mh _|apply Mt))) (hw _ (by repeat (first|exact Mh _|apply Mt))) (hok.mul hP _) (hok.mul hP _) rfl).mono fun e w' h=>Num2R.q (Old.pt (by repeat (first|exact Mh _|apply Mt)) (by repeat (first|exact Mh _|apply Mt)) (Old.pt (by repeat (first|exact Mh _|apply Mt)) (by repeat (first|exact Mh _|apply Mt)) (Old.nil _))) hs h) ?_))
    rintro _ _ ⟨qda,qdb,rfl,rfl,hnda,hndb⟩
    refine KH rfl (KO rfl rfl sz_73 (by repeat (first|exact KW|refine KT rfl ?_)) (by repeat (first|exact Sh _|apply St_)) (by rfl) ?_)
    refine KG ?_
    refine KD (KB ?_)
    refine KA (KE rfl) (Nb rfl) ?_
    refine KA (KE (v:=.int .i64 ((y:Nat):Int)) (by show some _ = some _; congr 2; omega)) (Nb rfl) ?_
    refine KH rfl (KS (KR (first:=[]) rfl en_69 rfl (Nb rfl) (fun w hw=>c_n_Bit qk K (D.nw K) y w (hw _ (by repeat (first|exact Mh _|apply Mt))) (by omega)) ?_))
    refine KA (KP rfl rfl (KAq (b:=1))) (Nb rfl) ?_
    refine KG ?_
    first|refine Kg rfl (fun hbit=>?_) (fun hbit=>?_)|refine Kj rfl (fun hbit=>?_) (fun hbit=>?_)
    ·
      have hbit:K/2^y%2 = 1:=hbit
      refine KB ?_
      refine LOps.det (KK rfl (by repeat (first|exact Mh _|apply Mt)) (by exact KJ Try.underlying31 rfl sz_31)) (Nb rfl) ?_
      refine LOps.det (KK rfl (by repeat (first|exact Mh _|apply Mt)) (by exact KJ Try.underlying73 rfl sz_73)) (Nb rfl) ?_
      refine LOps.det (KK rfl (by repeat (first|exact Mh _|apply Mt)) (by exact KJ Try.underlying73 rfl sz_73)) (Nb rfl) ?_
      refine KH rfl (KS (Ku (first:=[]) rfl en_79 rfl (Nb rfl) (fun w hw hs=>(c_r_Plus Q V qda qdb q r (padd V.A (pmul V.A P (K/2^(y+1))) (pmul V.A P (K/2^(y+1)))) P (pmul V.A P (K/2^y)) w (hw _ (by repeat (first|exact Mh _|apply Mt))) hok (hw _ (by repeat (first|exact Mh _|apply Mt))) (hw _ (by repeat (first|exact Mh _|apply Mt))) (hw _ (by repeat (first|exact Mh _|apply Mt))) (hw _ (by repeat (first|exact Mh _|apply Mt))) (hok.sum (hok.mul hP _) (hok.mul hP _)) hP (pm_T hok hP hbit)).mono fun e w' h=>Num2R.q (Old.pt (by repeat (first|exact Mh _|apply Mt)) (by repeat (first|exact Mh _|apply Mt)) (Old.pt (by repeat (first|exact Mh _|apply Mt)) (by repeat (first|exact Mh _|apply Mt)) (Old.nil _))) hs h) ?_))
      rintro _ _ ⟨qea,qeb,rfl,rfl,hnea,hneb⟩
      refine KH rfl (KO rfl rfl sz_73 (by repeat (first|exact KW|refine KT rfl ?_)) (by repeat (first|exact Sh _|apply St_)) (by rfl) ?_)
      refine KG ?_
      refine KB ?_
      refine KA (KE (v:=.int .i64 ((y:Nat):Int)) (by show some _ = some _; congr 2; omega)) (Nb rfl) ?_
      refine KA (KP (v:=.int .i64 (((y:Nat):Int)-1)) rfl rfl (br_subI (by omega) (by omega))) (Nb rfl) ?_
      refine KA (KF rfl) (Nb rfl) ?_
      refine KG ?_
      exact ⟨(y,qea,qeb),⟨by dsimp only; omega,NFr.two hnea (NFr.two hnda hx2 hx3 hx2 hx3) (NFr.two hndb hx2 hx3 hx2 hx3) (fp2_q _) (fp2_r _),NFr.two hneb (NFr.two hnda hx2 hx3 hx2 hx3) (NFr.two hndb hx2 hx3 hx2 hx3) (fp2_q _) (fp2_r _)⟩,by dsimp only; omega,KAI ⟨rfl,rfl,rfl,rfl,rfl,rfl,trivial⟩ (by repeat (first|exact Sel.nil _|refine Sel.cons (by repeat (first|exact Ph _|apply Pt_)) ?_))⟩
    ·
      have hbit:¬ K/2^y%2 = 1:=hbit
      refine Kh ?_
      refine KB ?_
      refine KA (KE (v:=.int .i64 ((y:Nat):Int)) (by show some _ = some _; congr 2; omega)) (Nb rfl) ?_
      refine KA (KP (v:=.int .i64 (((y:Nat):Int)-1)) rfl rfl (br_subI (by omega) (by omega))) (Nb rfl) ?_
      refine KA (KF rfl) (Nb rfl) ?_
      refine KG ?_
      rw [pm_F hok hP hbit] at hnda hndb ⊢
      exact ⟨(y,qda,qdb),⟨by dsimp only; omega,NFr.two hnda hx2 hx3 hx2 hx3,NFr.two hndb hx2 hx3 hx2 hx3⟩,by dsimp only; omega,KAI ⟨rfl,rfl,rfl,rfl,rfl,rfl,trivial⟩ (by repeat (first|exact Sel.nil _|refine Sel.cons (by repeat (first|exact Ph _|apply Pt_)) ?_))⟩
def sumT (V:Cv) (T U:Fin V.p×Fin V.p×Fin V.p):Fin V.p×Fin V.p×Fin V.p:=sum3 V.A (V.B+V.B+V.B) T.1 T.2.1 T.2.2 U.1 U.2.1 U.2.2
structure RepT (V:Cv) (T:Fin V.p×Fin V.p×Fin V.p) (P:Pt V.p):Prop where
  rep:Rep T.1 T.2.1 T.2.2 P
  on:On V.A V.B P
theorem RepT.sum {V:Cv} (hok:V.Ok) {T U:Fin V.p×Fin V.p×Fin V.p} {P R:Pt V.p} (h:RepT V T P) (k:RepT V U R):RepT V (sumT V T U) (padd V.A P R):=⟨hok.rep_sum h.rep k.rep h.on k.on,hok.sum h.on k.on⟩
theorem RepT.trip {V:Cv} (hok:V.Ok) {P:Pt V.p} (hP:On V.A V.B P):RepT V (tripF P) P:=⟨hok.rep_trip P,hP⟩
theorem c_SumT (V:Cv) (b f bd:Nat) (hok:V.Ok) (T U:Fin V.p×Fin V.p×Fin V.p) (w:World) (hb:(Item.blk b ⟨false,opL V f,147,(0,0)⟩).holds w) (hf:(Item.blk f ⟨false,fldL V.p bd,194,(0,0)⟩).holds w) (hbd:(Item.blk bd ⟨false,dvL V.p,241,(0,0)⟩).holds w):Calls Try.prog 128 ([.pointer (some ⟨b,0,none⟩),pjF T,pjF U]:List Value).toArray w (fun e w'=>e = .returned (pjF (sumT V T U))∧Below w.heap.size w w') :=
  c_Sum V b f bd hok T.1 T.2.1 T.2.2 U.1 U.2.1 U.2.2 w hb hf hbd
theorem c_PlainT (V:Cv) (b f bd:Nat) (hok:V.Ok) (T:Fin V.p×Fin V.p×Fin V.p) (P:Pt V.p) (w:World) (hb:(Item.blk b ⟨false,opL V f,147,(0,0)⟩).holds w) (hf:(Item.blk f ⟨false,fldL V.p bd,194,(0,0)⟩).holds w) (hbd:(Item.blk bd ⟨false,dvL V.p,241,(0,0)⟩).holds w) (h:RepT V T P):Calls Try.prog 127 ([.pointer (some ⟨b,0,none⟩),pjF T]:List Value).toArray w (fun e w'=>e = .returned (ptP P)∧Below w.heap.size w w'):=by
  have:=c_Plain V b f bd hok T.1 T.2.1 T.2.2 w hb hf hbd
  rwa [Rep.plain hok.prime h.rep] at this
theorem c_cTimes (V:Cv) (b f bd:Nat) (hok:V.Ok) (K:Nat) (hK:K<W9) (T:Fin V.p×Fin V.p×Fin V.p) (P:Pt V.p) (w:World) (hb:(Item.blk b ⟨false,opL V f,147,(0,0)⟩).holds w) (hf:(Item.blk f ⟨false,fldL V.p bd,194,(0,0)⟩).holds w) (hbd:(Item.blk bd ⟨false,dvL V.p,241,(0,0)⟩).holds w) (hrep:RepT V T P):Calls Try.prog 134 ([.pointer (some ⟨b,0,none⟩),natV K,pjF T]:List Value).toArray w (fun e w'=>∃ v,(∃ U,RepT V U (pmul V.A P K)∧v = pjF U)∧e = .returned v∧Below w.heap.size w w'):=by
  have hbl:=blen_w9 hK
  refine KAB (N:=30) (rs:=[.cell 6 91]) [.blk b ⟨false,opL V f,147,(0,0)⟩,.blk f ⟨false,fldL V.p bd,194,(0,0)⟩,.blk bd ⟨false,dvL V.p,241,(0,0)⟩] Try.func134 rfl Try.ntmps134 Try.results134 (Nb rfl) ⟨hb,hf,hbd,trivial⟩ rfl ?_
  show LCode _ _ _ ⟨_,_⟩ _
  refine KD (KB ?_)
  refine KH rfl (KS (KQ (Kn rfl) (Nb rfl) (fun b4=>?_)))
  refine KH rfl (KS (KQ (Kn rfl) (Nb rfl) (fun b5=>?_)))
  refine KH rfl (KS (KQ (Kb zr_91) (Nb rfl) (fun b6=>?_)))
  refine KG ?_
  refine KD (KB ?_)
  refine KH rfl (KS (KR (first:=[]) rfl en_158 rfl (Nb rfl) (fun w hw=>c_NoneF hok w) ?_))
  refine KH rfl (KS (KQ (Kb zr_91) (Nb rfl) (fun b7=>?_)))
  refine KH rfl (KO rfl rfl sz_91 (by exact Ky _ _ _) (by repeat (first|exact Sh _|apply St_)) (by exact Ke _ _ _) ?_)
  refine KG ?_
  refine KD ?_
  refine KD (KB ?_)
  refine LOps.det (KK rfl (by repeat (first|exact Mh _|apply Mt)) (by exact KJ Try.underlying25 rfl sz_25)) (Nb rfl) ?_
  refine KH rfl (KS (KR (first:=[]) rfl en_151 rfl (Nb rfl) (fun w hw=>c_nat_Bits K hK w) ?_))
  refine KA (KP (v:=.int .i64 (((blen K:Nat):Int)-1)) rfl rfl (br_subI (by omega) (by omega))) (Nb rfl) ?_
  refine KA (KF rfl) (Nb rfl) ?_
  refine KG ?_
  refine LCode.block ?_
  refine KAP (α:=Nat×(Fin V.p×Fin V.p×Fin V.p)) (fun x=>x.1≤blen K∧RepT V x.2 (pmul V.A P (K/2^x.1))) (fun x=>⟨[(0,.pointer (some ⟨b,0,none⟩)),(4,.pointer (some ⟨b4,0,none⟩)),(5,.pointer (some ⟨b5,0,none⟩)),(6,.pointer (some ⟨b6,0,none⟩)),(7,.pointer (some ⟨b7,0,none⟩)),(8,.int .i64 (((x.1:Nat):Int)-1))],[.blk b7 ⟨true,pjFL x.2,91,(0,0)⟩,.blk b6 ⟨true,(vec .u64 9 (fun _=>0)++(vec .u64 9 (fun _=>0)++vec .u64 9 (fun _=>0))),91,(0,0)⟩,.blk b5 ⟨true,pjFL T,91,(0,0)⟩,.blk b4 ⟨true,natL K,25,(0,0)⟩,.blk b ⟨false,opL V f,147,(0,0)⟩,.blk f ⟨false,fldL V.p bd,194,(0,0)⟩,.blk bd ⟨false,dvL V.p,241,(0,0)⟩]⟩) (fun x=>x.1) ((blen K,tripF (.inf:Pt V.p))) (⟨Nat.le_refl _,by dsimp only; rw [pm_top]; exact RepT.trip hok trivial⟩) (KAI ⟨rfl,rfl,rfl,rfl,rfl,rfl,trivial⟩ (by repeat (first|exact Sel.nil _|refine Sel.cons (by repeat (first|exact Ph _|apply Pt_)) ?_))) ?_
  rintro x ⟨hx1,hx2⟩
  refine KD ?_
  refine KD ?_
  rcases Nat.eq_zero_or_pos x.1 with h0|h0
  ·
    refine KB ?_
    refine KA (KE rfl) (Nb rfl) ?_
    refine KA (KP (v:=.bool false) rfl rfl (by rw [h0]; rfl)) (Nb rfl) ?_
    refine KG ?_
    refine Ki rfl ?_
    refine KAJ ?_
    refine KD ?_
    have eR:pmul V.A P (K/2^x.1) = pmul V.A P K:=by rw [h0,Nat.pow_zero,Nat.div_one]
    rw [eR] at hx2
    refine KB ?_
    refine LOps.det (KK rfl (by repeat (first|exact Mh _|apply Mt)) (by exact KJ Try.underlying91 rfl sz_91)) (Nb rfl) ?_
    refine KH rfl (KO rfl rfl sz_91 (by exact Ky _ _ _) (by repeat (first|exact Sh _|apply St_)) (by exact Ke _ _ _) ?_)
    refine KG (Ka ?_)
    refine ⟨[_],.cons ⟨_,_,_,rfl,(by repeat (first|exact Mh _|apply Mt)),by exact KJ Try.underlying91 rfl (by have:=sz_91; exact this)⟩ .nil,fun a w' hr=>⟨_,⟨x.2,hx2,rfl⟩,rfl,hr.fr.below⟩⟩
  ·
    obtain ⟨y,hy⟩:∃ y,x.1 = y+1:=⟨x.1-1,by omega⟩
    rw [hy] at hx2
    refine KB ?_
    refine KA (KE rfl) (Nb rfl) ?_
    refine KA (KP (v:=.bool true) rfl rfl (by rw [hy]; simp [KAX] <;> omega)) (Nb rfl) ?_
    refine KG ?_
    refine Kx rfl ?_
    refine Kh ?_
    refine KD ?_
    refine LCode.block ?_
    refine KD (KB ?_)
    refine KA (KE rfl) (Nb rfl) ?_
    refine LOps.det (KK rfl (by repeat (first|exact Mh _|apply Mt)) (by exact KJ Try.underlying91 rfl sz_91)) (Nb rfl) ?_
    refine LOps.det (KK rfl (by repeat (first|exact Mh _|apply Mt)) (by exact KJ Try.underlying91 rfl sz_91)) (Nb rfl) ?_
    refine KH rfl (KS (KR (first:=[]) rfl en_128 rfl (Nb rfl) (fun w hw=>c_SumT V b f bd hok (x.2) (x.2) w (hw _ (by repeat (first|exact Mh _|apply Mt))) (hw _ (by repeat (first|exact Mh _|apply Mt))) (hw _ (by repeat (first|exact Mh _|apply Mt)))) ?_))
    refine KH rfl (KO rfl rfl sz_91 (by exact Ky _ _ _) (by repeat (first|exact Sh _|apply St_)) (by exact Ke _ _ _) ?_)
    refine KG ?_
    refine KD (KB ?_)
    refine LOps.det (KK rfl (by repeat (first|exact Mh _|apply Mt)) (by exact KJ Try.underlying25 rfl sz_25)) (Nb rfl) ?_
    refine KA (KE (v:=.int .i64 ((y:Nat):Int)) (by show some _ = some _; congr 2; omega)) (Nb rfl) ?_
    refine KH rfl (KS (KR (first:=[]) rfl en_139 rfl (Nb rfl) (fun w hw=>c_nat_Bit K y hK (by omega) w) ?_))
    refine KA (KP rfl rfl (KAq (b:=1))) (Nb rfl) ?_
    refine KG ?_
    first|refine Kg rfl (fun hbit=>?_) (fun hbit=>?_)|refine Kj rfl (fun hbit=>?_) (fun hbit=>?_)
    ·
      have hbit:K/2^y%2 = 1:=hbit
      refine KB ?_
      refine KA (KE rfl) (Nb rfl) ?_
      refine LOps.det (KK rfl (by repeat (first|exact Mh _|apply Mt)) (by exact KJ Try.underlying91 rfl sz_91)) (Nb rfl) ?_
      refine LOps.det (KK rfl (by repeat (first|exact Mh _|apply Mt)) (by exact KJ Try.underlying91 rfl sz_91)) (Nb rfl) ?_
      refine KH rfl (KS (KR (first:=[]) rfl en_128 rfl (Nb rfl) (fun w hw=>c_SumT V b f bd hok (sumT V x.2 x.2) (T) w (hw _ (by repeat (first|exact Mh _|apply Mt))) (hw _ (by repeat (first|exact Mh _|apply Mt))) (hw _ (by repeat (first|exact Mh _|apply Mt)))) ?_))
      refine KH rfl (KO rfl rfl sz_91 (by exact Ky _ _ _) (by repeat (first|exact Sh _|apply St_)) (by exact Ke _ _ _) ?_)
      refine KG ?_
      refine KB ?_
      refine KA (KE (v:=.int .i64 ((y:Nat):Int)) (by show some _ = some _; congr 2; omega)) (Nb rfl) ?_
      refine KA (KP (v:=.int .i64 (((y:Nat):Int)-1)) rfl rfl (br_subI (by omega) (by omega))) (Nb rfl) ?_
      refine KA (KF rfl) (Nb rfl) ?_
      refine KG ?_
      exact ⟨(y,sumT V (sumT V x.2 x.2) T),⟨by dsimp only; omega,by have:=RepT.sum hok (RepT.sum hok hx2 hx2) hrep; rw [pm_T hok hrep.on hbit] at this; exact this⟩,by dsimp only; omega,KAI ⟨rfl,rfl,rfl,rfl,rfl,rfl,trivial⟩ (by repeat (first|exact Sel.nil _|refine Sel.cons (by repeat (first|exact Ph _|apply Pt_)) ?_))⟩
    ·
      have hbit:¬ K/2^y%2 = 1:=hbit
      refine Kh ?_
      refine KB ?_
      refine KA (KE (v:=.int .i64 ((y:Nat):Int)) (by show some _ = some _; congr 2; omega)) (Nb rfl) ?_
      refine KA (KP (v:=.int .i64 (((y:Nat):Int)-1)) rfl rfl (br_subI (by omega) (by omega))) (Nb rfl) ?_
      refine KA (KF rfl) (Nb rfl) ?_
      refine KG ?_
      exact ⟨(y,sumT V x.2 x.2),⟨by dsimp only; omega,by have:=RepT.sum hok hx2 hx2; rw [pm_F hok hrep.on hbit] at this; exact this⟩,by dsimp only; omega,KAI ⟨rfl,rfl,rfl,rfl,rfl,rfl,trivial⟩ (by repeat (first|exact Sel.nil _|refine Sel.cons (by repeat (first|exact Ph _|apply Pt_)) ?_))⟩
end Go.Proofs.Ytljblbgogjieaaa
set_option linter.unusedVariables false
set_option linter.unusedSimpArgs false
set_option maxRecDepth 20000
namespace Go.Proofs.Ytljblbgogjieaaa
open Go Go.RowKit
def uidx (x:Int):Nat:=(x%18446744073709551616).toNat
theorem uidx_eq (x:Int):Value.int .u64 (IntKind.u64.wrap x) = Value.int .u64 ((uidx x:Nat):Int):=by
  unfold uidx
  rw [wrap_u64,Int.toNat_of_nonneg (Int.emod_nonneg _ (by decide))]
theorem cvI_idx (x:Int):∃ V,cvI ((1+uidx x%15:Nat):Int) = some V:=by
  rw [cvI_nat]; exact cvOf_some (by omega) (by omega)
theorem cvI_id {id:Int} {V:Cv} (h:cvI id = some V):cvI ((V.id:Nat):Int) = some V:=by rw [(cvI_ok h).2]; exact h
end Go.Proofs.Ytljblbgogjieaaa
set_option linter.unusedVariables false
set_option linter.unusedSimpArgs false
set_option maxRecDepth 20000
namespace Go.Proofs.Ytljblbgogjieaaa
open Go Go.RowKit
open Grp
theorem eq_pt_t {X Y:Nat} {i:Bool} (hX:X<W9) (hY:Y<W9):EqD 4 Try.prog 60 (ptV X Y i) (ptV X Y i) true:=by
  have:=eq_pt X Y i X Y i hX hY hX hY
  rwa [show (decide (X = X) && (decide (Y = Y) && ((i == i) && true))) = true by simp] at this
theorem Brings.own {w w':World} {H:List Item} {b:Nat} {cs:List Value} {e:TypeId} (hb:Below w.heap.size w w') (h:(Item.blk b ⟨true,cs,e,(0,0)⟩).holds w') (hn:w.heap.size≤b):Brings w H [.blk b ⟨true,cs,e,(0,0)⟩] w' :=
  ⟨hb,(by intro x hx; simp at hx; subst hx; exact h),(by intro x hx k hk; simp at hx; subst hx; simp [Item.fp] at hk; subst hk; exact .inl hn),(by intro x hx _ k hk; simp at hx; subst hx; simp [Item.fp] at hk; subst hk; exact hn),List.pairwise_singleton _ _⟩
end Go.Proofs.Ytljblbgogjieaaa
set_option linter.unusedVariables false
set_option linter.unusedSimpArgs false
set_option maxRecDepth 20000
namespace Go.Proofs.Ytljblbgogjieaaa
open Go Go.RowKit
open Grp
theorem xG {V:Cv} (hok:V.Ok):xv V.G = V.x:=val_c hok.bounds.2.2.2.2.1
theorem yG {V:Cv} (hok:V.Ok):yv V.G = V.y:=val_c hok.bounds.2.2.2.2.2.1
end Go.Proofs.Ytljblbgogjieaaa
set_option linter.unusedVariables false
set_option linter.unusedSimpArgs false
set_option maxRecDepth 20000
namespace Go.Proofs.Ytljblbgogjieaaa
open Go Go.RowKit
open Grp
theorem c_cOnB (V:Cv) (b f bd:Nat) (hok:V.Ok) (X Y:Nat) (i r:Bool) (w:World) (hb:(Item.blk b ⟨false,opL V f,147,(0,0)⟩).holds w) (hf:(Item.blk f ⟨false,fldL V.p bd,194,(0,0)⟩).holds w) (hbd:(Item.blk bd ⟨false,dvL V.p,241,(0,0)⟩).holds w) (hX:X<W9) (hY:Y<W9) (hr:onB V.p V.a V.b X Y i = r):Calls Try.prog 122 ([.pointer (some ⟨b,0,none⟩),ptV X Y i]:List Value).toArray w (fun e w'=>e = .returned (.bool r)∧Below w.heap.size w w'):=by
  have:=c_cOn V b f bd hok X Y i w hb hf hbd hX hY
  rwa [hr] at this
theorem c_cOnP (V:Cv) (b f bd:Nat) (hok:V.Ok) (P:Pt V.p) (w:World) (hb:(Item.blk b ⟨false,opL V f,147,(0,0)⟩).holds w) (hf:(Item.blk f ⟨false,fldL V.p bd,194,(0,0)⟩).holds w) (hbd:(Item.blk bd ⟨false,dvL V.p,241,(0,0)⟩).holds w) (hP:On V.A V.B P):Calls Try.prog 122 ([.pointer (some ⟨b,0,none⟩),ptP P]:List Value).toArray w (fun e w'=>e = .returned (.bool true)∧Below w.heap.size w w') :=
  c_cOnB V b f bd hok (xv P) (yv P) (iv P) true w hb hf hbd (pt_w9 hok P).1 (pt_w9 hok P).2 (onB_on hP)
end Go.Proofs.Ytljblbgogjieaaa
set_option linter.unusedVariables false
set_option linter.unusedSimpArgs false
set_option maxRecDepth 20000
namespace Go.Proofs.Ytljblbgogjieaaa
open Go Go.RowKit
open Grp
section
variable {P:Program} {C:Ctx} {d:Nat} {ty:TypeId} {pos:String} {aft:Array Edge} {K:St→Prop} {x:Operand} {v:Value}
theorem LStep.callK {T : List (Nat × Value)} {H : List Item} {f : FuncId} {xs : List Operand} {vs caps : List Value} {ats : Array TypeId} {g : Option (Nat × Bool)} (hf : evT T x = some (.func (.func f) #[] caps.toArray)) (he : KAO P f) (ha : evL T xs = some vs) (hd : d < C.N)
    (hc:∀ w,(∀ x,x∈H→x.holds w)→Calls P f (vs++caps).toArray w (fun e w'=>e = .returned v∧Below w.heap.size w w'))
    (h:K ⟨(d,v) :: T,H⟩):LStep P C ⟨some d,.call { callee:=.value x,args:=xs.toArray,argTypes:=ats },ty,pos,aft,g⟩ ⟨T,H⟩ K:=by
  unfold LStep; intro a w hr Qr
  obtain ⟨fn,h1,h2,h3⟩:=he
  refine wp_callee (vs:=vs++caps) ?_ (hc w hr.hp) ?_
  · have:=hr.evs ha
    simp [execOp,resolve,hr.ev hf,Deferred.ofValue,invoke,run_call h1 h2 h3,this]
  · rintro e w' ⟨rfl,hb⟩
    exact ⟨v,rfl,hb,_,h,(hr.below hb).put hd v⟩
end
theorem pt_set1 (X Y Y':Nat) (i:Bool):splice (ptL X Y i) 9 (natL Y') = ptL X Y' i:=splice_mid (A:=natL X) (B:=natL Y) (D:=[.bool i]) (by simp [ptL]) (KI _) (by rw [KI,KI]) (by simp [ptL])
theorem neg_subF {p:Nat} [NeZero p] (y:Fin p):0-y = -y:=by grind
theorem neg_zeroF {p:Nat} [NeZero p]:((0:Fin p)-0).val = 0:=by rw [show (0:Fin p)-0 = 0 by grind]; rfl
theorem c_slope (V:Cv) (b f bd:Nat) (hok:V.Ok) (l x1 y1 x2 y2:Fin V.p) (i j:Bool) (w:World) (hb:(Item.blk b ⟨false,opL V f,147,(0,0)⟩).holds w) (hf:(Item.blk f ⟨false,fldL V.p bd,194,(0,0)⟩).holds w) (hbd:(Item.blk bd ⟨false,dvL V.p,241,(0,0)⟩).holds w):Calls Try.prog 162 ([.agg ([.pointer (some ⟨b,0,none⟩)]:List Value).toArray,natV l.val,ptV x1.val y1.val i,ptV x2.val y2.val j]:List Value).toArray w (fun e w'=>e = .returned (ptV (l*l-x1-x2).val (l*(x1-(l*l-x1-x2))-y1).val false)∧Below w.heap.size w w'):=by
  have hbb:=hok.bounds
  have hpW:V.p<W9:=w9_521 hbb.2.1
  refine KAB (N:=42) (rs:=[.cell 8 60]) [.blk b ⟨false,opL V f,147,(0,0)⟩,.blk f ⟨false,fldL V.p bd,194,(0,0)⟩,.blk bd ⟨false,dvL V.p,241,(0,0)⟩] Try.func162 rfl Try.ntmps162 Try.results162 (Nb rfl) ⟨hb,hf,hbd,trivial⟩ rfl ?_
  show LCode _ _ _ ⟨_,_⟩ _
  refine KD (KB ?_)
  refine KH rfl (KS (KQ (Kn rfl) (Nb rfl) (fun b4=>?_)))
  refine KH rfl (KS (KQ (Kn rfl) (Nb rfl) (fun b5=>?_)))
  refine KH rfl (KS (KQ (Kn rfl) (Nb rfl) (fun b6=>?_)))
  refine KH rfl (KS (KQ (Kn rfl) (Nb rfl) (fun b7=>?_)))
  refine KH rfl (KS (KQ (Kb zr_60) (Nb rfl) (fun b8=>?_)))
  refine KG ?_
  refine KD (KB ?_)
  refine KA (KM (o':=0) Try.underlying169 rfl rfl rfl sz_142 (by decide)) (Nb rfl) ?_
  refine LOps.det (KK rfl (by repeat (first|exact Mh _|apply Mt)) (KY Try.underlying142 rfl (by first|rfl|exact Kt _ _ _ (by omega)|exact Kr _ (by omega)|exact Kq _ (by omega)|exact dv_m _ _ _ (by omega)))) (Nb rfl) ?_
  refine KA (Kd rfl) (Nb rfl) ?_
  refine KA (KM (o':=59) Try.underlying147 rfl rfl rfl sz_145 (by decide)) (Nb rfl) ?_
  refine LOps.det (KK rfl (by repeat (first|exact Mh _|apply Mt)) (KY Try.underlying145 rfl (by exact cvC_gt_F _ _ _ _ _ _ _ _ _ _ _ _ _))) (Nb rfl) ?_
  refine KA (KF rfl) (Nb rfl) ?_
  refine KG ?_
  refine KD ?_
  refine Kc [13] (by kernel_rfl) ?_
  refine KC 0 rfl (by kernel_rfl) (Nb rfl) (KE rfl) ?_
  refine KC 1 rfl (by kernel_rfl) (Nb rfl) (KE rfl) ?_
  refine KC 2 rfl (by kernel_rfl) (Nb rfl) (KE rfl) ?_
  refine LAny.take 3 rfl (by kernel_rfl) (Nb rfl) (KK rfl (by repeat (first|exact Mh _|apply Mt)) (by exact KJ Try.underlying25 rfl sz_25)) ?_
  refine LAny.take 4 rfl (by kernel_rfl) (Nb rfl) (KK rfl (by repeat (first|exact Mh _|apply Mt)) (by exact KJ Try.underlying25 rfl sz_25)) ?_
  refine KC 6 rfl (by kernel_rfl) (Nb rfl) (KM (o':=0) Try.underlying60 rfl rfl rfl sz_25 (by decide)) ?_
  refine LAny.take 7 rfl (by kernel_rfl) (Nb rfl) (KK rfl (by repeat (first|exact Mh _|apply Mt)) (by exact KAQ Try.underlying25 rfl sz_25 rfl (KI _))) ?_
  refine KC 9 rfl (by kernel_rfl) (Nb rfl) (KM (o':=0) Try.underlying60 rfl rfl rfl sz_25 (by decide)) ?_
  refine LAny.take 10 rfl (by kernel_rfl) (Nb rfl) (KK rfl (by repeat (first|exact Mh _|apply Mt)) (by exact KAQ Try.underlying25 rfl sz_25 rfl (KI _))) ?_
  refine LAny.toP ?_
  refine KAT 12 rfl (.inl zr_25) (Nb rfl) rfl rfl rfl ?_
  refine KAD 5 rfl rfl rfl (Nb rfl) (by kernel_rfl) rfl (KAL (first:=[]) rfl en_156 rfl (fun w hw=>c_F_Mul V hok f bd _ _ w (hw _ (by repeat (first|exact Mh _|apply Mt))) (hw _ (by repeat (first|exact Mh _|apply Mt))))) ?_
  rintro _ _ ⟨rfl,rfl⟩
  refine KAD 8 rfl rfl rfl (Nb rfl) (by kernel_rfl) rfl (KAL (first:=[]) rfl en_161 rfl (fun w hw=>c_F_Sub V hok f bd _ _ w (hw _ (by repeat (first|exact Mh _|apply Mt))))) ?_
  rintro _ _ ⟨rfl,rfl⟩
  refine KAD 11 rfl rfl rfl (Nb rfl) (by kernel_rfl) rfl (KAL (first:=[]) rfl en_161 rfl (fun w hw=>c_F_Sub V hok f bd _ _ w (hw _ (by repeat (first|exact Mh _|apply Mt))))) ?_
  rintro _ _ ⟨rfl,rfl⟩
  refine KAY (by kernel_rfl) (fun b10=>?_)
  refine KAa ?_
  refine Ks 13 rfl rfl (by kernel_rfl) (by kernel_rfl) (KO rfl rfl sz_25 (by repeat (first|exact Kl _|exact Kz _ _ _|exact Km _|exact Ko _ _ _|exact Ky _ _ _|exact KW|refine KT rfl ?_|refine KX ?_ ?_)) (by repeat (first|exact Sh _|apply St_)) (by first|exact KI _|exact KN _ _ _|exact KL _|exact KU _ _ _|exact Ke _ _ _|rfl|simp [KN,KI,KL]) ?_)
  refine Kp (by kernel_rfl) ?_
  refine KD ?_
  refine Kc [14] (by kernel_rfl) ?_
  refine LAny.take 0 rfl (by kernel_rfl) (Nb rfl) (KK rfl (by repeat (first|exact Mh _|apply Mt)) (by exact KJ Try.underlying25 rfl sz_25)) ?_
  refine KC 1 rfl (by kernel_rfl) (Nb rfl) (KE rfl) ?_
  refine KC 2 rfl (by kernel_rfl) (Nb rfl) (KE rfl) ?_
  refine LAny.take 3 rfl (by kernel_rfl) (Nb rfl) (KK rfl (by repeat (first|exact Mh _|apply Mt)) (by exact KJ Try.underlying25 rfl sz_25)) ?_
  refine KC 4 rfl (by kernel_rfl) (Nb rfl) (KE rfl) ?_
  refine KC 5 rfl (by kernel_rfl) (Nb rfl) (KM (o':=0) Try.underlying60 rfl rfl rfl sz_25 (by decide)) ?_
  refine LAny.take 6 rfl (by kernel_rfl) (Nb rfl) (KK rfl (by repeat (first|exact Mh _|apply Mt)) (by exact KAQ Try.underlying25 rfl sz_25 rfl (KI _))) ?_
  refine LAny.take 7 rfl (by kernel_rfl) (Nb rfl) (KK rfl (by repeat (first|exact Mh _|apply Mt)) (by exact KJ Try.underlying25 rfl sz_25)) ?_
  refine KC 10 rfl (by kernel_rfl) (Nb rfl) (KM (o':=9) Try.underlying60 rfl rfl rfl sz_25 (by decide)) ?_
  refine LAny.take 11 rfl (by kernel_rfl) (Nb rfl) (KK rfl (by repeat (first|exact Mh _|apply Mt)) (by exact pt_ld1 _ _ _ _ _ _)) ?_
  refine Kv 8 rfl rfl (by kernel_rfl) (KR (first:=[]) rfl en_161 rfl (Nb rfl) (fun w hw=>c_F_Sub V hok f bd _ _ w (hw _ (by repeat (first|exact Mh _|apply Mt)))) ?_)
  refine Kv 9 rfl rfl (by kernel_rfl) (KR (first:=[]) rfl en_156 rfl (Nb rfl) (fun w hw=>c_F_Mul V hok f bd _ _ w (hw _ (by repeat (first|exact Mh _|apply Mt))) (hw _ (by repeat (first|exact Mh _|apply Mt)))) ?_)
  refine Kv 12 rfl rfl (by kernel_rfl) (KR (first:=[]) rfl en_161 rfl (Nb rfl) (fun w hw=>c_F_Sub V hok f bd _ _ w (hw _ (by repeat (first|exact Mh _|apply Mt)))) ?_)
  refine KC 13 rfl (by kernel_rfl) (Nb rfl) (KV (KAM pl_60 zr_60 rfl (fill_pt _ _)) rfl) ?_
  refine Ks 14 rfl rfl (by kernel_rfl) (by kernel_rfl) (KO rfl rfl sz_60 (by repeat (first|exact Kl _|exact Kz _ _ _|exact Km _|exact Ko _ _ _|exact Ky _ _ _|exact KW|refine KT rfl ?_|refine KX ?_ ?_)) (by repeat (first|exact Sh _|apply St_)) (by first|exact KI _|exact KN _ _ _|exact KL _|exact KU _ _ _|exact Ke _ _ _|rfl|simp [KN,KI,KL]) ?_)
  refine Kp (by kernel_rfl) ?_
  refine Ka ?_
  refine ⟨[_],.cons ⟨_,_,_,rfl,(by repeat (first|exact Mh _|apply Mt)),by exact KJ Try.underlying60 rfl sz_60⟩ .nil,fun a w' hr=>⟨?_,hr.fr.below⟩⟩
  rfl
theorem c_gadd (V:Cv) (b f bd:Nat) (hok:V.Ok) (P P2 R:Pt V.p) (w:World) (hb:(Item.blk b ⟨false,opL V f,147,(0,0)⟩).holds w) (hf:(Item.blk f ⟨false,fldL V.p bd,194,(0,0)⟩).holds w) (hbd:(Item.blk bd ⟨false,dvL V.p,241,(0,0)⟩).holds w) (hP:On V.A V.B P) (hP2:On V.A V.B P2) (hR:padd V.A P P2 = R):Calls Try.prog 131 ([.agg ([.pointer (some ⟨b,0,none⟩)]:List Value).toArray,ptP P,ptP P2]:List Value).toArray w (fun e w'=>e = .returned (ptP R)∧Below w.heap.size w w'):=by
  have hbb:=hok.bounds
  have hpW:V.p<W9:=w9_521 hbb.2.1
  refine KAB (N:=96) (rs:=[.cell 6 60]) [.blk b ⟨false,opL V f,147,(0,0)⟩,.blk f ⟨false,fldL V.p bd,194,(0,0)⟩,.blk bd ⟨false,dvL V.p,241,(0,0)⟩] Try.func131 rfl Try.ntmps131 Try.results131 (Nb rfl) ⟨hb,hf,hbd,trivial⟩ rfl ?_
  show LCode _ _ _ ⟨_,_⟩ _
  refine KD (KB ?_)
  refine KH rfl (KS (KQ (Kn rfl) (Nb rfl) (fun b3=>?_)))
  refine KH rfl (KS (KQ (Kn rfl) (Nb rfl) (fun b4=>?_)))
  refine KH rfl (KS (KQ (Kn rfl) (Nb rfl) (fun b5=>?_)))
  refine KH rfl (KS (KQ (Kb zr_60) (Nb rfl) (fun b6=>?_)))
  refine KG ?_
  refine KD ?_
  rcases P with _|⟨x1,y1⟩
  ·
    have eR:=(hok.inf_add hP2).symm.trans hR
    subst eR
    refine KB ?_
    refine KA (KM (o':=0) Try.underlying169 rfl rfl rfl sz_142 (by decide)) (Nb rfl) ?_
    refine LOps.det (KK rfl (by repeat (first|exact Mh _|apply Mt)) (KY Try.underlying142 rfl (by first|rfl|exact Kt _ _ _ (by omega)|exact Kr _ (by omega)|exact Kq _ (by omega)|exact dv_m _ _ _ (by omega)))) (Nb rfl) ?_
    refine KA (Kd rfl) (Nb rfl) ?_
    refine KA (KM (o':=59) Try.underlying147 rfl rfl rfl sz_145 (by decide)) (Nb rfl) ?_
    refine LOps.det (KK rfl (by repeat (first|exact Mh _|apply Mt)) (KY Try.underlying145 rfl (by exact cvC_gt_F _ _ _ _ _ _ _ _ _ _ _ _ _))) (Nb rfl) ?_
    refine KA (KF rfl) (Nb rfl) ?_
    refine KG ?_
    refine KD ?_
    refine LCode.block ?_
    refine KD (KB ?_)
    refine KA (KM (o':=18) Try.underlying60 rfl rfl rfl sz_4 (by decide)) (Nb rfl) ?_
    refine LOps.det (KK rfl (by repeat (first|exact Mh _|apply Mt)) (KY Try.underlying4 rfl (by exact pt_gt _ _ _))) (Nb rfl) ?_
    refine KA (KF rfl) (Nb rfl) ?_
    refine KG ?_
    refine Kx rfl ?_
    refine KD (KB ?_)
    refine LOps.det (KK rfl (by repeat (first|exact Mh _|apply Mt)) (by exact KJ Try.underlying60 rfl sz_60)) (Nb rfl) ?_
    refine KH rfl (KO rfl rfl sz_60 (by repeat (first|exact Kl _|exact Kz _ _ _|exact Km _|exact Ko _ _ _|exact Ky _ _ _|exact KW|refine KT rfl ?_|refine KX ?_ ?_)) (by repeat (first|exact Sh _|apply St_)) (by first|exact KI _|exact KN _ _ _|exact KL _|exact KU _ _ _|exact Ke _ _ _|rfl|simp [KN,KI,KL]) ?_)
    refine KG (Ka ?_)
    refine ⟨[_],.cons ⟨_,_,_,rfl,(by repeat (first|exact Mh _|apply Mt)),by exact KJ Try.underlying60 rfl sz_60⟩ .nil,fun a w' hr=>⟨?_,hr.fr.below⟩⟩
    rfl
  ·
    refine KB ?_
    refine KA (KM (o':=0) Try.underlying169 rfl rfl rfl sz_142 (by decide)) (Nb rfl) ?_
    refine LOps.det (KK rfl (by repeat (first|exact Mh _|apply Mt)) (KY Try.underlying142 rfl (by first|rfl|exact Kt _ _ _ (by omega)|exact Kr _ (by omega)|exact Kq _ (by omega)|exact dv_m _ _ _ (by omega)))) (Nb rfl) ?_
    refine KA (Kd rfl) (Nb rfl) ?_
    refine KA (KM (o':=59) Try.underlying147 rfl rfl rfl sz_145 (by decide)) (Nb rfl) ?_
    refine LOps.det (KK rfl (by repeat (first|exact Mh _|apply Mt)) (KY Try.underlying145 rfl (by exact cvC_gt_F _ _ _ _ _ _ _ _ _ _ _ _ _))) (Nb rfl) ?_
    refine KA (KF rfl) (Nb rfl) ?_
    refine KG ?_
    refine KD ?_
    refine LCode.block ?_
    refine KD (KB ?_)
    refine KA (KM (o':=18) Try.underlying60 rfl rfl rfl sz_4 (by decide)) (Nb rfl) ?_
    refine LOps.det (KK rfl (by repeat (first|exact Mh _|apply Mt)) (KY Try.underlying4 rfl (by exact pt_gt _ _ _))) (Nb rfl) ?_
    refine KA (KF rfl) (Nb rfl) ?_
    refine KG ?_
    refine Ki rfl ?_
    refine KD ?_
    rcases P2 with _|⟨x2,y2⟩
    ·
      have eR:=(hok.add_inf hP).symm.trans hR
      subst eR
      refine KB ?_
      refine KA (KM (o':=18) Try.underlying60 rfl rfl rfl sz_4 (by decide)) (Nb rfl) ?_
      refine LOps.det (KK rfl (by repeat (first|exact Mh _|apply Mt)) (KY Try.underlying4 rfl (by exact pt_gt _ _ _))) (Nb rfl) ?_
      refine KA (KF rfl) (Nb rfl) ?_
      refine KG ?_
      refine Kx rfl ?_
      refine KD (KB ?_)
      refine LOps.det (KK rfl (by repeat (first|exact Mh _|apply Mt)) (by exact KJ Try.underlying60 rfl sz_60)) (Nb rfl) ?_
      refine KH rfl (KO rfl rfl sz_60 (by repeat (first|exact Kl _|exact Kz _ _ _|exact Km _|exact Ko _ _ _|exact Ky _ _ _|exact KW|refine KT rfl ?_|refine KX ?_ ?_)) (by repeat (first|exact Sh _|apply St_)) (by first|exact KI _|exact KN _ _ _|exact KL _|exact KU _ _ _|exact Ke _ _ _|rfl|simp [KN,KI,KL]) ?_)
      refine KG (Ka ?_)
      refine ⟨[_],.cons ⟨_,_,_,rfl,(by repeat (first|exact Mh _|apply Mt)),by exact KJ Try.underlying60 rfl sz_60⟩ .nil,fun a w' hr=>⟨?_,hr.fr.below⟩⟩
      rfl
    ·
      refine KB ?_
      refine KA (KM (o':=18) Try.underlying60 rfl rfl rfl sz_4 (by decide)) (Nb rfl) ?_
      refine LOps.det (KK rfl (by repeat (first|exact Mh _|apply Mt)) (KY Try.underlying4 rfl (by exact pt_gt _ _ _))) (Nb rfl) ?_
      refine KA (KF rfl) (Nb rfl) ?_
      refine KG ?_
      refine Ki rfl ?_
      refine KD ?_
      by_cases hx:x1 = x2
      ·
        refine KB ?_
        refine KA (KM (o':=0) Try.underlying60 rfl rfl rfl sz_25 (by decide)) (Nb rfl) ?_
        refine LOps.det (KK rfl (by repeat (first|exact Mh _|apply Mt)) (by exact KAQ Try.underlying25 rfl sz_25 rfl (KI _))) (Nb rfl) ?_
        refine KA (KM (o':=0) Try.underlying60 rfl rfl rfl sz_25 (by decide)) (Nb rfl) ?_
        refine LOps.det (KK rfl (by repeat (first|exact Mh _|apply Mt)) (by exact KAQ Try.underlying25 rfl sz_25 rfl (KI _))) (Nb rfl) ?_
        refine KA (KV (Det.nea (by kernel_rfl) (fun w=>eq_nat x1.val x2.val (Nat.lt_trans x1.isLt hpW) (Nat.lt_trans x2.isLt hpW) 10000 (by decide) w) rfl rfl) (show _ = Value.bool false by rw [decide_eq_true (congrArg Fin.val hx)]; rfl)) (Nb rfl) ?_
        refine KA (KF rfl) (Nb rfl) ?_
        refine KG ?_
        refine Ki rfl ?_
        refine KD ?_
        by_cases hy:y1 = y2
        ·
          have hy0:¬ y1.val = 0:=y_pos hok hP
          refine KB ?_
          refine KA (KM (o':=9) Try.underlying60 rfl rfl rfl sz_25 (by decide)) (Nb rfl) ?_
          refine LOps.det (KK rfl (by repeat (first|exact Mh _|apply Mt)) (by exact pt_ld1 _ _ _ _ _ _)) (Nb rfl) ?_
          refine KA (KM (o':=9) Try.underlying60 rfl rfl rfl sz_25 (by decide)) (Nb rfl) ?_
          refine LOps.det (KK rfl (by repeat (first|exact Mh _|apply Mt)) (by exact pt_ld1 _ _ _ _ _ _)) (Nb rfl) ?_
          refine KA (KV (Det.nea (by kernel_rfl) (fun w=>eq_nat y1.val y2.val (Nat.lt_trans y1.isLt hpW) (Nat.lt_trans y2.isLt hpW) 10000 (by decide) w) rfl rfl) (show _ = Value.bool false by rw [decide_eq_true (congrArg Fin.val hy)]; rfl)) (Nb rfl) ?_
          refine KA (KE rfl) (Nb rfl) ?_
          refine Kf rfl rfl (KM (o':=9) Try.underlying60 rfl rfl rfl sz_25 (by decide)) (Nb rfl) ?_
          refine KAU rfl rfl (KK rfl (by repeat (first|exact Mh _|apply Mt)) (by exact pt_ld1 _ _ _ _ _ _)) (Nb rfl) ?_
          refine Kf rfl rfl (KV (KAM pl_25 zr_25 rfl rfl) (show _ = natV 0 by unfold natV natL; rw [← vec_zeros 9])) (Nb rfl) ?_
          refine Kf rfl rfl (KV (Det.eqa (by kernel_rfl) (fun w=>eq_nat y1.val 0 (Nat.lt_trans y1.isLt hpW) zero_w9 10000 (by decide) w) rfl rfl) (show _ = Value.bool false by rw [decide_eq_false hy0])) (Nb rfl) ?_
          refine KA (KAH rfl rfl) (Nb rfl) ?_
          refine KA (KF rfl) (Nb rfl) ?_
          refine KG ?_
          refine Ki rfl ?_
          refine Kh ?_
          refine KD ?_
          subst hx hy
          have eR:=(add_tangF hok.prime hok.fld hP (fin_ne0 hy0)).symm.trans hR
          subst eR
          refine KB ?_
          refine KA (KE rfl) (Nb rfl) ?_
          refine KA (KM (o':=0) Try.underlying60 rfl rfl rfl sz_25 (by decide)) (Nb rfl) ?_
          refine LOps.det (KK rfl (by repeat (first|exact Mh _|apply Mt)) (by exact KAQ Try.underlying25 rfl sz_25 rfl (KI _))) (Nb rfl) ?_
          refine KA (KM (o':=0) Try.underlying60 rfl rfl rfl sz_25 (by decide)) (Nb rfl) ?_
          refine LOps.det (KK rfl (by repeat (first|exact Mh _|apply Mt)) (by exact KAQ Try.underlying25 rfl sz_25 rfl (KI _))) (Nb rfl) ?_
          refine KH rfl (KS (KR (first:=[]) rfl en_156 rfl (Nb rfl) (fun w hw=>c_F_Mul V hok f bd _ _ w (hw _ (by repeat (first|exact Mh _|apply Mt))) (hw _ (by repeat (first|exact Mh _|apply Mt)))) ?_))
          refine KH rfl (KS (KQ (Kb zr_25) (Nb rfl) (fun b8=>?_)))
          refine KH rfl (KO rfl rfl sz_25 (by repeat (first|exact Kl _|exact Kz _ _ _|exact Km _|exact Ko _ _ _|exact Ky _ _ _|exact KW|refine KT rfl ?_|refine KX ?_ ?_)) (by repeat (first|exact Sh _|apply St_)) (by first|exact KI _|exact KN _ _ _|exact KL _|exact KU _ _ _|exact Ke _ _ _|rfl|simp [KN,KI,KL]) ?_)
          refine KG ?_
          refine KD ?_
          refine Kc [29] (by kernel_rfl) ?_
          refine LAny.take 0 rfl (by kernel_rfl) (Nb rfl) (KK rfl (by repeat (first|exact Mh _|apply Mt)) (by exact KJ Try.underlying169 rfl sz_169)) ?_
          refine KC 1 rfl (by kernel_rfl) (Nb rfl) (KE rfl) ?_
          refine KC 2 rfl (by kernel_rfl) (Nb rfl) (KE rfl) ?_
          refine KC 3 rfl (by kernel_rfl) (Nb rfl) (KE rfl) ?_
          refine KC 4 rfl (by kernel_rfl) (Nb rfl) (KE rfl) ?_
          refine LAny.take 5 rfl (by kernel_rfl) (Nb rfl) (KK rfl (by repeat (first|exact Mh _|apply Mt)) (by exact KJ Try.underlying25 rfl sz_25)) ?_
          refine LAny.take 6 rfl (by kernel_rfl) (Nb rfl) (KK rfl (by repeat (first|exact Mh _|apply Mt)) (by exact KJ Try.underlying25 rfl sz_25)) ?_
          refine LAny.take 8 rfl (by kernel_rfl) (Nb rfl) (KK rfl (by repeat (first|exact Mh _|apply Mt)) (by exact KJ Try.underlying25 rfl sz_25)) ?_
          refine KC 10 rfl (by kernel_rfl) (Nb rfl) (KM (o':=0) Try.underlying169 rfl rfl rfl sz_142 (by decide)) ?_
          refine LAny.take 11 rfl (by kernel_rfl) (Nb rfl) (KK rfl (by repeat (first|exact Mh _|apply Mt)) (KY Try.underlying142 rfl (by first|rfl|exact Kt _ _ _ (by omega)|exact Kr _ (by omega)|exact Kq _ (by omega)|exact dv_m _ _ _ (by omega)))) ?_
          refine KC 12 rfl (by kernel_rfl) (Nb rfl) (Kd rfl) ?_
          refine KC 13 rfl (by kernel_rfl) (Nb rfl) (KM (o':=0) Try.underlying147 rfl rfl rfl sz_62 (by decide)) ?_
          refine KC 14 rfl (by kernel_rfl) (Nb rfl) (KM (o':=10) Try.underlying62 rfl rfl rfl sz_25 (by decide)) ?_
          refine LAny.take 15 rfl (by kernel_rfl) (Nb rfl) (Det.cast (KK rfl (by repeat (first|exact Mh _|apply Mt)) (by exact cvC_ld_a _ _ _ _ _ _ _ _ _ _ _ _ _ _ _ _)) (a_val hok)) ?_
          refine KC 17 rfl (by kernel_rfl) (Nb rfl) (KE rfl) ?_
          refine KC 18 rfl (by kernel_rfl) (Nb rfl) (KE rfl) ?_
          refine KC 19 rfl (by kernel_rfl) (Nb rfl) (KM (o':=9) Try.underlying60 rfl rfl rfl sz_25 (by decide)) ?_
          refine LAny.take 20 rfl (by kernel_rfl) (Nb rfl) (KK rfl (by repeat (first|exact Mh _|apply Mt)) (by exact pt_ld1 _ _ _ _ _ _)) ?_
          refine KC 21 rfl (by kernel_rfl) (Nb rfl) (KM (o':=9) Try.underlying60 rfl rfl rfl sz_25 (by decide)) ?_
          refine LAny.take 22 rfl (by kernel_rfl) (Nb rfl) (KK rfl (by repeat (first|exact Mh _|apply Mt)) (by exact pt_ld1 _ _ _ _ _ _)) ?_
          refine LAny.take 26 rfl (by kernel_rfl) (Nb rfl) (KK rfl (by repeat (first|exact Mh _|apply Mt)) (by exact KJ Try.underlying60 rfl sz_60)) ?_
          refine LAny.take 27 rfl (by kernel_rfl) (Nb rfl) (KK rfl (by repeat (first|exact Mh _|apply Mt)) (by exact KJ Try.underlying60 rfl sz_60)) ?_
          refine Kv 7 rfl rfl (by kernel_rfl) (KR (first:=[]) rfl en_152 rfl (Nb rfl) (fun w hw=>c_F_Add V hok f bd _ _ w (hw _ (by repeat (first|exact Mh _|apply Mt)))) ?_)
          refine Kv 9 rfl rfl (by kernel_rfl) (KR (first:=[]) rfl en_152 rfl (Nb rfl) (fun w hw=>c_F_Add V hok f bd _ _ w (hw _ (by repeat (first|exact Mh _|apply Mt)))) ?_)
          refine Kv 16 rfl rfl (by kernel_rfl) (KR (first:=[]) rfl en_152 rfl (Nb rfl) (fun w hw=>c_F_Add V hok f bd _ _ w (hw _ (by repeat (first|exact Mh _|apply Mt)))) ?_)
          refine Kv 23 rfl rfl (by kernel_rfl) (KR (first:=[]) rfl en_152 rfl (Nb rfl) (fun w hw=>c_F_Add V hok f bd _ _ w (hw _ (by repeat (first|exact Mh _|apply Mt)))) ?_)
          refine Kv 24 rfl rfl (by kernel_rfl) (KR (first:=[]) rfl en_160 rfl (Nb rfl) (fun w hw=>c_F_Inv V hok f bd _ w (hw _ (by repeat (first|exact Mh _|apply Mt)))) ?_)
          refine Kv 25 rfl rfl (by kernel_rfl) (KR (first:=[]) rfl en_156 rfl (Nb rfl) (fun w hw=>c_F_Mul V hok f bd _ _ w (hw _ (by repeat (first|exact Mh _|apply Mt))) (hw _ (by repeat (first|exact Mh _|apply Mt)))) ?_)
          refine Kv 28 rfl rfl (by kernel_rfl) (KR (first:=[]) rfl en_162 rfl (Nb rfl) (fun w hw=>c_slope V b f bd hok ((x1*x1+x1*x1+x1*x1+V.A)*finv (y1+y1)) x1 y1 x1 y1 false false w (hw _ (by repeat (first|exact Mh _|apply Mt))) (hw _ (by repeat (first|exact Mh _|apply Mt))) (hw _ (by repeat (first|exact Mh _|apply Mt)))) ?_)
          refine Ks 29 rfl rfl (by kernel_rfl) (by kernel_rfl) (KO rfl rfl sz_60 (by repeat (first|exact Kl _|exact Kz _ _ _|exact Km _|exact Ko _ _ _|exact Ky _ _ _|exact KW|refine KT rfl ?_|refine KX ?_ ?_)) (by repeat (first|exact Sh _|apply St_)) (by first|exact KI _|exact KN _ _ _|exact KL _|exact KU _ _ _|exact Ke _ _ _|rfl|simp [KN,KI,KL]) ?_)
          refine Kp (by kernel_rfl) ?_
          refine Ka ?_
          refine ⟨[_],.cons ⟨_,_,_,rfl,(by repeat (first|exact Mh _|apply Mt)),by exact KJ Try.underlying60 rfl sz_60⟩ .nil,fun a w' hr=>⟨?_,hr.fr.below⟩⟩
          rfl
        ·
          have eR:=(add_opp hok.fld hP hP2 hx hy).symm.trans hR
          subst eR
          refine KB ?_
          refine KA (KM (o':=9) Try.underlying60 rfl rfl rfl sz_25 (by decide)) (Nb rfl) ?_
          refine LOps.det (KK rfl (by repeat (first|exact Mh _|apply Mt)) (by exact pt_ld1 _ _ _ _ _ _)) (Nb rfl) ?_
          refine KA (KM (o':=9) Try.underlying60 rfl rfl rfl sz_25 (by decide)) (Nb rfl) ?_
          refine LOps.det (KK rfl (by repeat (first|exact Mh _|apply Mt)) (by exact pt_ld1 _ _ _ _ _ _)) (Nb rfl) ?_
          refine KA (KV (Det.nea (by kernel_rfl) (fun w=>eq_nat y1.val y2.val (Nat.lt_trans y1.isLt hpW) (Nat.lt_trans y2.isLt hpW) 10000 (by decide) w) rfl rfl) (show _ = Value.bool true by rw [decide_eq_false (fun e=>hy (Fin.ext e))]; rfl)) (Nb rfl) ?_
          refine KA (KE rfl) (Nb rfl) ?_
          refine KAA rfl rfl rfl (Nb rfl) ?_
          refine KAA rfl rfl rfl (Nb rfl) ?_
          refine KAA rfl rfl rfl (Nb rfl) ?_
          refine KAA rfl rfl rfl (Nb rfl) ?_
          refine KA (Kw rfl rfl) (Nb rfl) ?_
          refine KA (KF rfl) (Nb rfl) ?_
          refine KG ?_
          refine Kx rfl ?_
          refine KD (KB ?_)
          refine KA (KV (KAM pl_60 zr_60 rfl fill_ptInf) rfl) (Nb rfl) ?_
          refine KH rfl (KO rfl rfl sz_60 (by repeat (first|exact Kl _|exact Kz _ _ _|exact Km _|exact Ko _ _ _|exact Ky _ _ _|exact KW|refine KT rfl ?_|refine KX ?_ ?_)) (by repeat (first|exact Sh _|apply St_)) (by first|exact KI _|exact KN _ _ _|exact KL _|exact KU _ _ _|exact Ke _ _ _|rfl|simp [KN,KI,KL]) ?_)
          refine KG (Ka ?_)
          refine ⟨[_],.cons ⟨_,_,_,rfl,(by repeat (first|exact Mh _|apply Mt)),by exact KJ Try.underlying60 rfl sz_60⟩ .nil,fun a w' hr=>⟨?_,hr.fr.below⟩⟩
          rfl
      ·
        refine KB ?_
        refine KA (KM (o':=0) Try.underlying60 rfl rfl rfl sz_25 (by decide)) (Nb rfl) ?_
        refine LOps.det (KK rfl (by repeat (first|exact Mh _|apply Mt)) (by exact KAQ Try.underlying25 rfl sz_25 rfl (KI _))) (Nb rfl) ?_
        refine KA (KM (o':=0) Try.underlying60 rfl rfl rfl sz_25 (by decide)) (Nb rfl) ?_
        refine LOps.det (KK rfl (by repeat (first|exact Mh _|apply Mt)) (by exact KAQ Try.underlying25 rfl sz_25 rfl (KI _))) (Nb rfl) ?_
        refine KA (KV (Det.nea (by kernel_rfl) (fun w=>eq_nat x1.val x2.val (Nat.lt_trans x1.isLt hpW) (Nat.lt_trans x2.isLt hpW) 10000 (by decide) w) rfl rfl) (show _ = Value.bool true by rw [decide_eq_false (fun e=>hx (Fin.ext e))]; rfl)) (Nb rfl) ?_
        refine KA (KF rfl) (Nb rfl) ?_
        refine KG ?_
        refine Kx rfl ?_
        refine KD ?_
        have eR:=(add_chordF hok.prime hok.fld hP hP2 hx).symm.trans hR
        subst eR
        refine Kc [20] (by kernel_rfl) ?_
        refine LAny.take 0 rfl (by kernel_rfl) (Nb rfl) (KK rfl (by repeat (first|exact Mh _|apply Mt)) (by exact KJ Try.underlying169 rfl sz_169)) ?_
        refine KC 1 rfl (by kernel_rfl) (Nb rfl) (KE rfl) ?_
        refine KC 2 rfl (by kernel_rfl) (Nb rfl) (KE rfl) ?_
        refine KC 3 rfl (by kernel_rfl) (Nb rfl) (KM (o':=9) Try.underlying60 rfl rfl rfl sz_25 (by decide)) ?_
        refine LAny.take 4 rfl (by kernel_rfl) (Nb rfl) (KK rfl (by repeat (first|exact Mh _|apply Mt)) (by exact pt_ld1 _ _ _ _ _ _)) ?_
        refine KC 5 rfl (by kernel_rfl) (Nb rfl) (KM (o':=9) Try.underlying60 rfl rfl rfl sz_25 (by decide)) ?_
        refine LAny.take 6 rfl (by kernel_rfl) (Nb rfl) (KK rfl (by repeat (first|exact Mh _|apply Mt)) (by exact pt_ld1 _ _ _ _ _ _)) ?_
        refine KC 8 rfl (by kernel_rfl) (Nb rfl) (KE rfl) ?_
        refine KC 9 rfl (by kernel_rfl) (Nb rfl) (KE rfl) ?_
        refine KC 10 rfl (by kernel_rfl) (Nb rfl) (KM (o':=0) Try.underlying60 rfl rfl rfl sz_25 (by decide)) ?_
        refine LAny.take 11 rfl (by kernel_rfl) (Nb rfl) (KK rfl (by repeat (first|exact Mh _|apply Mt)) (by exact KAQ Try.underlying25 rfl sz_25 rfl (KI _))) ?_
        refine KC 12 rfl (by kernel_rfl) (Nb rfl) (KM (o':=0) Try.underlying60 rfl rfl rfl sz_25 (by decide)) ?_
        refine LAny.take 13 rfl (by kernel_rfl) (Nb rfl) (KK rfl (by repeat (first|exact Mh _|apply Mt)) (by exact KAQ Try.underlying25 rfl sz_25 rfl (KI _))) ?_
        refine LAny.take 17 rfl (by kernel_rfl) (Nb rfl) (KK rfl (by repeat (first|exact Mh _|apply Mt)) (by exact KJ Try.underlying60 rfl sz_60)) ?_
        refine LAny.take 18 rfl (by kernel_rfl) (Nb rfl) (KK rfl (by repeat (first|exact Mh _|apply Mt)) (by exact KJ Try.underlying60 rfl sz_60)) ?_
        refine Kv 7 rfl rfl (by kernel_rfl) (KR (first:=[]) rfl en_161 rfl (Nb rfl) (fun w hw=>c_F_Sub V hok f bd _ _ w (hw _ (by repeat (first|exact Mh _|apply Mt)))) ?_)
        refine Kv 14 rfl rfl (by kernel_rfl) (KR (first:=[]) rfl en_161 rfl (Nb rfl) (fun w hw=>c_F_Sub V hok f bd _ _ w (hw _ (by repeat (first|exact Mh _|apply Mt)))) ?_)
        refine Kv 15 rfl rfl (by kernel_rfl) (KR (first:=[]) rfl en_160 rfl (Nb rfl) (fun w hw=>c_F_Inv V hok f bd _ w (hw _ (by repeat (first|exact Mh _|apply Mt)))) ?_)
        refine Kv 16 rfl rfl (by kernel_rfl) (KR (first:=[]) rfl en_156 rfl (Nb rfl) (fun w hw=>c_F_Mul V hok f bd _ _ w (hw _ (by repeat (first|exact Mh _|apply Mt))) (hw _ (by repeat (first|exact Mh _|apply Mt)))) ?_)
        refine Kv 19 rfl rfl (by kernel_rfl) (KR (first:=[]) rfl en_162 rfl (Nb rfl) (fun w hw=>c_slope V b f bd hok ((y2-y1)*finv (x2-x1)) x1 y1 x2 y2 false false w (hw _ (by repeat (first|exact Mh _|apply Mt))) (hw _ (by repeat (first|exact Mh _|apply Mt))) (hw _ (by repeat (first|exact Mh _|apply Mt)))) ?_)
        refine Ks 20 rfl rfl (by kernel_rfl) (by kernel_rfl) (KO rfl rfl sz_60 (by repeat (first|exact Kl _|exact Kz _ _ _|exact Km _|exact Ko _ _ _|exact Ky _ _ _|exact KW|refine KT rfl ?_|refine KX ?_ ?_)) (by repeat (first|exact Sh _|apply St_)) (by first|exact KI _|exact KN _ _ _|exact KL _|exact KU _ _ _|exact Ke _ _ _|rfl|simp [KN,KI,KL]) ?_)
        refine Kp (by kernel_rfl) ?_
        refine Ka ?_
        refine ⟨[_],.cons ⟨_,_,_,rfl,(by repeat (first|exact Mh _|apply Mt)),by exact KJ Try.underlying60 rfl sz_60⟩ .nil,fun a w' hr=>⟨?_,hr.fr.below⟩⟩
        rfl
theorem c_gneg (V:Cv) (b f bd:Nat) (hok:V.Ok) (P:Pt V.p) (X Y:Nat) (i:Bool) (w:World) (hb:(Item.blk b ⟨false,opL V f,147,(0,0)⟩).holds w) (hf:(Item.blk f ⟨false,fldL V.p bd,194,(0,0)⟩).holds w) (hbd:(Item.blk bd ⟨false,dvL V.p,241,(0,0)⟩).holds w):Calls Try.prog 132 ([.agg ([.pointer (some ⟨b,0,none⟩)]:List Value).toArray,ptP P,ptV X Y i]:List Value).toArray w (fun e w'=>e = .returned (ptP P.neg)∧Below w.heap.size w w'):=by
  have hbb:=hok.bounds
  have hpW:V.p<W9:=w9_521 hbb.2.1
  refine KAB (N:=18) (rs:=[.cell 6 60]) [.blk b ⟨false,opL V f,147,(0,0)⟩,.blk f ⟨false,fldL V.p bd,194,(0,0)⟩,.blk bd ⟨false,dvL V.p,241,(0,0)⟩] Try.func132 rfl Try.ntmps132 Try.results132 (Nb rfl) ⟨hb,hf,hbd,trivial⟩ rfl ?_
  show LCode _ _ _ ⟨_,_⟩ _
  refine KD (KB ?_)
  refine KH rfl (KS (KQ (Kn rfl) (Nb rfl) (fun b3=>?_)))
  refine KH rfl (KS (KQ (Kn rfl) (Nb rfl) (fun b4=>?_)))
  refine KH rfl (KS (KQ (Kn rfl) (Nb rfl) (fun b5=>?_)))
  refine KH rfl (KS (KQ (Kb zr_60) (Nb rfl) (fun b6=>?_)))
  refine KG ?_
  refine KD ?_
  rcases P with _|⟨x,y⟩
  ·
    refine Kc [10] (by kernel_rfl) ?_
    refine KC 0 rfl (by kernel_rfl) (Nb rfl) (KM (o':=0) Try.underlying169 rfl rfl rfl sz_142 (by decide)) ?_
    refine LAny.take 1 rfl (by kernel_rfl) (Nb rfl) (KK rfl (by repeat (first|exact Mh _|apply Mt)) (KY Try.underlying142 rfl (by first|rfl|exact Kt _ _ _ (by omega)|exact Kr _ (by omega)|exact Kq _ (by omega)|exact dv_m _ _ _ (by omega)))) ?_
    refine KC 2 rfl (by kernel_rfl) (Nb rfl) (Kd rfl) ?_
    refine KC 3 rfl (by kernel_rfl) (Nb rfl) (KM (o':=59) Try.underlying147 rfl rfl rfl sz_145 (by decide)) ?_
    refine LAny.take 4 rfl (by kernel_rfl) (Nb rfl) (KK rfl (by repeat (first|exact Mh _|apply Mt)) (KY Try.underlying145 rfl (by exact cvC_gt_F _ _ _ _ _ _ _ _ _ _ _ _ _))) ?_
    refine KC 5 rfl (by kernel_rfl) (Nb rfl) (KV (KAM pl_25 zr_25 rfl rfl) (show _ = natV 0 by unfold natV natL; rw [← vec_zeros 9])) ?_
    refine KC 6 rfl (by kernel_rfl) (Nb rfl) (KM (o':=9) Try.underlying60 rfl rfl rfl sz_25 (by decide)) ?_
    refine LAny.take 7 rfl (by kernel_rfl) (Nb rfl) (KK rfl (by repeat (first|exact Mh _|apply Mt)) (by exact pt_ld1 _ _ _ _ _ _)) ?_
    refine Kv 8 rfl rfl (by kernel_rfl) (KR (first:=[]) rfl en_161 rfl (Nb rfl) (fun w hw=>c_F_Sub V hok f bd 0 0 w (hw _ (by repeat (first|exact Mh _|apply Mt)))) ?_)
    refine KC 9 rfl (by kernel_rfl) (Nb rfl) (KM (o':=9) Try.underlying60 rfl rfl rfl sz_25 (by decide)) ?_
    refine Ks 10 rfl rfl (by kernel_rfl) (by kernel_rfl) (KAV rfl rfl rfl sz_25 (KI _) (Kl _) (by repeat (first|exact Sh _|apply St_)) (by simp only [KU]; decide) (pt_set1 _ _ _ _) (by simp) ?_)
    refine Kp (by kernel_rfl) ?_
    refine KD (KB ?_)
    refine LOps.det (KK rfl (by repeat (first|exact Mh _|apply Mt)) (by exact KJ Try.underlying60 rfl sz_60)) (Nb rfl) ?_
    refine KH rfl (KO rfl rfl sz_60 (by repeat (first|exact Kl _|exact Kz _ _ _|exact Km _|exact Ko _ _ _|exact Ky _ _ _|exact KW|refine KT rfl ?_|refine KX ?_ ?_)) (by repeat (first|exact Sh _|apply St_)) (by first|exact KI _|exact KN _ _ _|exact KL _|exact KU _ _ _|exact Ke _ _ _|rfl|simp [KN,KI,KL]) ?_)
    refine KG (Ka ?_)
    refine ⟨[_],.cons ⟨_,_,_,rfl,(by repeat (first|exact Mh _|apply Mt)),by exact KJ Try.underlying60 rfl sz_60⟩ .nil,fun a w' hr=>⟨?_,hr.fr.below⟩⟩
    show Ending.returned (ptV 0 ((0:Fin V.p)-0).val true) = Ending.returned (ptV 0 0 true)
    rw [neg_zeroF]
  ·
    refine Kc [10] (by kernel_rfl) ?_
    refine KC 0 rfl (by kernel_rfl) (Nb rfl) (KM (o':=0) Try.underlying169 rfl rfl rfl sz_142 (by decide)) ?_
    refine LAny.take 1 rfl (by kernel_rfl) (Nb rfl) (KK rfl (by repeat (first|exact Mh _|apply Mt)) (KY Try.underlying142 rfl (by first|rfl|exact Kt _ _ _ (by omega)|exact Kr _ (by omega)|exact Kq _ (by omega)|exact dv_m _ _ _ (by omega)))) ?_
    refine KC 2 rfl (by kernel_rfl) (Nb rfl) (Kd rfl) ?_
    refine KC 3 rfl (by kernel_rfl) (Nb rfl) (KM (o':=59) Try.underlying147 rfl rfl rfl sz_145 (by decide)) ?_
    refine LAny.take 4 rfl (by kernel_rfl) (Nb rfl) (KK rfl (by repeat (first|exact Mh _|apply Mt)) (KY Try.underlying145 rfl (by exact cvC_gt_F _ _ _ _ _ _ _ _ _ _ _ _ _))) ?_
    refine KC 5 rfl (by kernel_rfl) (Nb rfl) (KV (KAM pl_25 zr_25 rfl rfl) (show _ = natV 0 by unfold natV natL; rw [← vec_zeros 9])) ?_
    refine KC 6 rfl (by kernel_rfl) (Nb rfl) (KM (o':=9) Try.underlying60 rfl rfl rfl sz_25 (by decide)) ?_
    refine LAny.take 7 rfl (by kernel_rfl) (Nb rfl) (KK rfl (by repeat (first|exact Mh _|apply Mt)) (by exact pt_ld1 _ _ _ _ _ _)) ?_
    refine Kv 8 rfl rfl (by kernel_rfl) (KR (first:=[]) rfl en_161 rfl (Nb rfl) (fun w hw=>c_F_Sub V hok f bd 0 y w (hw _ (by repeat (first|exact Mh _|apply Mt)))) ?_)
    refine KC 9 rfl (by kernel_rfl) (Nb rfl) (KM (o':=9) Try.underlying60 rfl rfl rfl sz_25 (by decide)) ?_
    refine Ks 10 rfl rfl (by kernel_rfl) (by kernel_rfl) (KAV rfl rfl rfl sz_25 (KI _) (Kl _) (by repeat (first|exact Sh _|apply St_)) (by simp only [KU]; decide) (pt_set1 _ _ _ _) (by simp) ?_)
    refine Kp (by kernel_rfl) ?_
    refine KD (KB ?_)
    refine LOps.det (KK rfl (by repeat (first|exact Mh _|apply Mt)) (by exact KJ Try.underlying60 rfl sz_60)) (Nb rfl) ?_
    refine KH rfl (KO rfl rfl sz_60 (by repeat (first|exact Kl _|exact Kz _ _ _|exact Km _|exact Ko _ _ _|exact Ky _ _ _|exact KW|refine KT rfl ?_|refine KX ?_ ?_)) (by repeat (first|exact Sh _|apply St_)) (by first|exact KI _|exact KN _ _ _|exact KL _|exact KU _ _ _|exact Ke _ _ _|rfl|simp [KN,KI,KL]) ?_)
    refine KG (Ka ?_)
    refine ⟨[_],.cons ⟨_,_,_,rfl,(by repeat (first|exact Mh _|apply Mt)),by exact KJ Try.underlying60 rfl sz_60⟩ .nil,fun a w' hr=>⟨?_,hr.fr.below⟩⟩
    show Ending.returned (ptV x.val ((0:Fin V.p)-y).val false) = Ending.returned (ptV x.val (-y).val false)
    rw [neg_subF]
theorem c_gmul (V:Cv) (b f bd:Nat) (hok:V.Ok) (K bk:Nat) (hK:K<W9) (P:Pt V.p) (X Y:Nat) (i:Bool) (w:World) (hb:(Item.blk b ⟨false,opL V f,147,(0,0)⟩).holds w) (hf:(Item.blk f ⟨false,fldL V.p bd,194,(0,0)⟩).holds w) (hbd:(Item.blk bd ⟨false,dvL V.p,241,(0,0)⟩).holds w) (hP:On V.A V.B P) (hk:(Item.blk bk ⟨false,natL K,25,(0,0)⟩).holds w):Calls Try.prog 133 ([.agg ([.pointer (some ⟨b,0,none⟩)]:List Value).toArray,ptP P,ptV X Y i,.pointer (some ⟨bk,0,none⟩)]:List Value).toArray w (fun e w'=>e = .returned (ptP (pmul V.A P K))∧Below w.heap.size w w'):=by
  have hbb:=hok.bounds
  have hpW:V.p<W9:=w9_521 hbb.2.1
  refine KAB (N:=17) (rs:=[.cell 7 60]) [.blk b ⟨false,opL V f,147,(0,0)⟩,.blk f ⟨false,fldL V.p bd,194,(0,0)⟩,.blk bd ⟨false,dvL V.p,241,(0,0)⟩,.blk bk ⟨false,natL K,25,(0,0)⟩] Try.func133 rfl Try.ntmps133 Try.results133 (Nb rfl) ⟨hb,hf,hbd,hk,trivial⟩ rfl ?_
  show LCode _ _ _ ⟨_,_⟩ _
  refine KD (KB ?_)
  refine KH rfl (KS (KQ (Kn rfl) (Nb rfl) (fun b4=>?_)))
  refine KH rfl (KS (KQ (Kn rfl) (Nb rfl) (fun b5=>?_)))
  refine KH rfl (KS (KQ (Kn rfl) (Nb rfl) (fun b6=>?_)))
  refine KH rfl (KS (KQ (Kb zr_60) (Nb rfl) (fun b7=>?_)))
  refine KG ?_
  refine KD ?_
  refine Kc [9] (by kernel_rfl) ?_
  refine KC 0 rfl (by kernel_rfl) (Nb rfl) (KM (o':=0) Try.underlying169 rfl rfl rfl sz_142 (by decide)) ?_
  refine LAny.take 1 rfl (by kernel_rfl) (Nb rfl) (KK rfl (by repeat (first|exact Mh _|apply Mt)) (KY Try.underlying142 rfl (by first|rfl|exact Kt _ _ _ (by omega)|exact Kr _ (by omega)|exact Kq _ (by omega)|exact dv_m _ _ _ (by omega)))) ?_
  refine KC 2 rfl (by kernel_rfl) (Nb rfl) (KM (o':=0) Try.underlying169 rfl rfl rfl sz_142 (by decide)) ?_
  refine LAny.take 3 rfl (by kernel_rfl) (Nb rfl) (KK rfl (by repeat (first|exact Mh _|apply Mt)) (KY Try.underlying142 rfl (by first|rfl|exact Kt _ _ _ (by omega)|exact Kr _ (by omega)|exact Kq _ (by omega)|exact dv_m _ _ _ (by omega)))) ?_
  refine LAny.take 4 rfl (by kernel_rfl) (Nb rfl) (KK rfl (by repeat (first|exact Mh _|apply Mt)) (by exact KJ Try.underlying25 rfl sz_25)) ?_
  refine LAny.take 5 rfl (by kernel_rfl) (Nb rfl) (KK rfl (by repeat (first|exact Mh _|apply Mt)) (by exact KJ Try.underlying60 rfl sz_60)) ?_
  refine Kv 6 rfl rfl (by kernel_rfl) (KR (first:=[]) rfl en_129 rfl (Nb rfl) (fun w hw=>c_Triple V hok P w) ?_)
  refine Kv 7 rfl rfl (by kernel_rfl) (LStep.callV (first:=[]) rfl en_134 rfl (Nb rfl) (fun w hw=>c_cTimes V b f bd hok K hK _ P w (hw _ (by repeat (first|exact Mh _|apply Mt))) (hw _ (by repeat (first|exact Mh _|apply Mt))) (hw _ (by repeat (first|exact Mh _|apply Mt))) (RepT.trip hok hP)) ?_)
  rintro _ ⟨U,hU,rfl⟩
  refine Kv 8 rfl rfl (by kernel_rfl) (KR (first:=[]) rfl en_127 rfl (Nb rfl) (fun w hw=>c_PlainT V b f bd hok (U) (pmul V.A P K) w (hw _ (by repeat (first|exact Mh _|apply Mt))) (hw _ (by repeat (first|exact Mh _|apply Mt))) (hw _ (by repeat (first|exact Mh _|apply Mt))) (hU)) ?_)
  refine Ks 9 rfl rfl (by kernel_rfl) (by kernel_rfl) (KO rfl rfl sz_60 (by repeat (first|exact Kl _|exact Kz _ _ _|exact Km _|exact Ko _ _ _|exact Ky _ _ _|exact KW|refine KT rfl ?_|refine KX ?_ ?_)) (by repeat (first|exact Sh _|apply St_)) (by first|exact KI _|exact KN _ _ _|exact KL _|exact KU _ _ _|exact Ke _ _ _|rfl|simp [KN,KI,KL]) ?_)
  refine Kp (by kernel_rfl) ?_
  refine Ka ?_
  refine ⟨[_],.cons ⟨_,_,_,rfl,(by repeat (first|exact Mh _|apply Mt)),by exact KJ Try.underlying60 rfl sz_60⟩ .nil,fun a w' hr=>⟨?_,hr.fr.below⟩⟩
  rfl
theorem c_do_none (id:Int) (X Y:Nat) (i:Bool) (X2 Y2:Nat) (j:Bool) (fv:Value) (w:World) (h:cvI id = none):Calls Try.prog 130 ([.int .i64 id,ptV X Y i,ptV X2 Y2 j,fv]:List Value).toArray w (fun e w'=>e = .returned (.tuple #[ptV 0 0 false,.int .i64 ((1400:Nat):Int)])∧Below w.heap.size w w'):=by
  refine KAB (N:=35) (rs:=[.cell 8 60,.tmp 9]) [] Try.func130 rfl Try.ntmps130 Try.results130 (Nb rfl) trivial rfl ?_
  show LCode _ _ _ ⟨_,_⟩ _
  refine KD (KB ?_)
  refine KH rfl (KS (KQ (Kn rfl) (Nb rfl) (fun b5=>?_)))
  refine KH rfl (KS (KQ (Kn rfl) (Nb rfl) (fun b6=>?_)))
  refine KH rfl (KS (KQ (Kb zr_60) (Nb rfl) (fun b8=>?_)))
  refine KA (KF (v:=.int .i64 ((0:Nat):Int)) rfl) (Nb rfl) ?_
  refine KG ?_
  refine KD (KB ?_)
  refine KA (KE rfl) (Nb rfl) ?_
  refine KH rfl (KS (KR (first:=[]) rfl en_112 rfl (Nb rfl) (fun w hw=>c_Open_none id w h) ?_))
  refine KA (KF rfl) (Nb rfl) ?_
  refine KG ?_
  refine KD ?_
  refine LCode.block ?_
  refine KD (KB ?_)
  refine KA (KE rfl) (Nb rfl) ?_
  refine KA (KV (Det.eqp Try.underlying142 rfl rfl) (show _ = Value.bool true from rfl)) (Nb rfl) ?_
  refine KA (KF rfl) (Nb rfl) ?_
  refine KG ?_
  refine Kx rfl ?_
  refine KD (KB ?_)
  refine KA (KV (KAM pl_60 zr_60 rfl rfl) (show _ = ptV 0 0 false from pt_zero)) (Nb rfl) ?_
  refine KH rfl (KO rfl rfl sz_60 (by repeat (first|exact Kl _|exact Kz _ _ _|exact Km _|exact Ko _ _ _|exact Ky _ _ _|exact KW|refine KT rfl ?_|refine KX ?_ ?_)) (by repeat (first|exact Sh _|apply St_)) (by first|exact KI _|exact KN _ _ _|exact KL _|exact KU _ _ _|exact Ke _ _ _|rfl|simp [KN,KI,KL]) ?_)
  refine KA (KF (v:=.int .i64 ((1400:Nat):Int)) rfl) (Nb rfl) ?_
  refine KG (Ka ?_)
  refine ⟨[_,_],.cons ⟨_,_,_,rfl,(by repeat (first|exact Mh _|apply Mt)),by exact KJ Try.underlying60 rfl sz_60⟩ (.cons rfl .nil),fun a w' hr=>⟨?_,hr.fr.below⟩⟩
  rfl
theorem c_do_off (id:Int) (V:Cv) (X Y:Nat) (i:Bool) (X2 Y2:Nat) (j:Bool) (fv:Value) (w:World) (h:cvI id = some V) (hX:X<W9) (hY:Y<W9) (ho:onB V.p V.a V.b X Y i = false):Calls Try.prog 130 ([.int .i64 id,ptV X Y i,ptV X2 Y2 j,fv]:List Value).toArray w (fun e w'=>e = .returned (.tuple #[ptV 0 0 false,.int .i64 ((1401:Nat):Int)])∧Below w.heap.size w w'):=by
  obtain ⟨hok,hid⟩:=cvI_ok h
  have hbb:=hok.bounds
  have hpW:V.p<W9:=w9_521 hbb.2.1
  have hnW:V.n<W9:=w9_521 hbb.2.2.2.2.2.2.1
  have hbl:=blen_w9 hnW
  have hnb:nby V.n≤72:=by (unfold nby; omega)
  refine KAB (N:=35) (rs:=[.cell 8 60,.tmp 9]) [] Try.func130 rfl Try.ntmps130 Try.results130 (Nb rfl) trivial rfl ?_
  show LCode _ _ _ ⟨_,_⟩ _
  refine KD (KB ?_)
  refine KH rfl (KS (KQ (Kn rfl) (Nb rfl) (fun b5=>?_)))
  refine KH rfl (KS (KQ (Kn rfl) (Nb rfl) (fun b6=>?_)))
  refine KH rfl (KS (KQ (Kb zr_60) (Nb rfl) (fun b8=>?_)))
  refine KA (KF (v:=.int .i64 ((0:Nat):Int)) rfl) (Nb rfl) ?_
  refine KG ?_
  refine KD (KB ?_)
  refine KA (KE rfl) (Nb rfl) ?_
  refine KH rfl (KS (Ku (Post:=fun v its=>∃ b f bd,v = .pointer (some ⟨b,0,none⟩)∧its = [.blk b ⟨false,opL V f,147,(0,0)⟩,.blk f ⟨false,fldL V.p bd,194,(0,0)⟩,.blk bd ⟨false,dvL V.p,241,(0,0)⟩]) (first:=[]) rfl en_112 rfl (Nb rfl) (fun w1 hw hs=>(c_Open _ V w1 h).mono fun e w' ⟨b,f,bd,h1,h2,h3,h4,h5,h6,h7,h8⟩=>⟨_,_,⟨b,f,bd,rfl,rfl⟩,h1,KAs h8 (by intro x hx; simp at hx; rcases hx with rfl|rfl|rfl; exact h2; exact h3; exact h4) (by intro x hx; simp at hx; rcases hx with rfl|rfl|rfl <;> rfl) (by intro x hx k hk; simp at hx; rcases hx with rfl|rfl|rfl <;> simp [Item.fp] at hk <;> subst hk; exact .inl h5; exact .inl h6; exact .inl h7)⟩) ?_))
  rintro _ _ ⟨b,f,bd,rfl,rfl⟩
  refine KA (KF rfl) (Nb rfl) ?_
  refine KG ?_
  refine KD ?_
  refine LCode.block ?_
  refine KD (KB ?_)
  refine KA (KE rfl) (Nb rfl) ?_
  refine KA (KV (Det.eqp Try.underlying142 rfl rfl) (show _ = Value.bool false from rfl)) (Nb rfl) ?_
  refine KA (KF rfl) (Nb rfl) ?_
  refine KG ?_
  refine Ki rfl ?_
  refine KD (KB ?_)
  refine KA (KE rfl) (Nb rfl) ?_
  refine LOps.det (KK rfl (by repeat (first|exact Mh _|apply Mt)) (by exact KJ Try.underlying60 rfl sz_60)) (Nb rfl) ?_
  refine KH rfl (KS (KR (first:=[]) rfl en_122 rfl (Nb rfl) (fun w hw=>c_cOnB V b f bd hok (X) (Y) (i) false w (hw _ (by repeat (first|exact Mh _|apply Mt))) (hw _ (by repeat (first|exact Mh _|apply Mt))) (hw _ (by repeat (first|exact Mh _|apply Mt))) hX hY ho) ?_))
  refine KA (KV (KAt rfl) (show _ = Value.bool true from rfl)) (Nb rfl) ?_
  refine KA (KE rfl) (Nb rfl) ?_
  refine KAA rfl rfl rfl (Nb rfl) ?_
  refine KAA rfl rfl rfl (Nb rfl) ?_
  refine KAA rfl rfl rfl (Nb rfl) ?_
  refine KAA rfl rfl rfl (Nb rfl) ?_
  refine KA (Kw rfl rfl) (Nb rfl) ?_
  refine KA (KF rfl) (Nb rfl) ?_
  refine KG ?_
  refine Kx rfl ?_
  refine KD (KB ?_)
  refine KA (KV (KAM pl_60 zr_60 rfl rfl) (show _ = ptV 0 0 false from pt_zero)) (Nb rfl) ?_
  refine KH rfl (KO rfl rfl sz_60 (by repeat (first|exact Kl _|exact Kz _ _ _|exact Km _|exact Ko _ _ _|exact Ky _ _ _|exact KW|refine KT rfl ?_|refine KX ?_ ?_)) (by repeat (first|exact Sh _|apply St_)) (by first|exact KI _|exact KN _ _ _|exact KL _|exact KU _ _ _|exact Ke _ _ _|rfl|simp [KN,KI,KL]) ?_)
  refine KA (KF (v:=.int .i64 ((1401:Nat):Int)) rfl) (Nb rfl) ?_
  refine KG (Ka ?_)
  refine ⟨[_,_],.cons ⟨_,_,_,rfl,(by repeat (first|exact Mh _|apply Mt)),by exact KJ Try.underlying60 rfl sz_60⟩ (.cons rfl .nil),fun a w' hr=>⟨?_,hr.fr.below⟩⟩
  rfl
theorem c_do_off2 (id:Int) (V:Cv) (P:Pt V.p) (X Y:Nat) (i:Bool) (fv:Value) (w:World) (h:cvI id = some V) (hP:On V.A V.B P) (hX:X<W9) (hY:Y<W9) (ho:onB V.p V.a V.b X Y i = false):Calls Try.prog 130 ([.int .i64 id,ptP P,ptV X Y i,fv]:List Value).toArray w (fun e w'=>e = .returned (.tuple #[ptV 0 0 false,.int .i64 ((1401:Nat):Int)])∧Below w.heap.size w w'):=by
  obtain ⟨hok,hid⟩:=cvI_ok h
  have hbb:=hok.bounds
  have hpW:V.p<W9:=w9_521 hbb.2.1
  have hnW:V.n<W9:=w9_521 hbb.2.2.2.2.2.2.1
  have hbl:=blen_w9 hnW
  have hnb:nby V.n≤72:=by (unfold nby; omega)
  refine KAB (N:=35) (rs:=[.cell 8 60,.tmp 9]) [] Try.func130 rfl Try.ntmps130 Try.results130 (Nb rfl) trivial rfl ?_
  show LCode _ _ _ ⟨_,_⟩ _
  refine KD (KB ?_)
  refine KH rfl (KS (KQ (Kn rfl) (Nb rfl) (fun b5=>?_)))
  refine KH rfl (KS (KQ (Kn rfl) (Nb rfl) (fun b6=>?_)))
  refine KH rfl (KS (KQ (Kb zr_60) (Nb rfl) (fun b8=>?_)))
  refine KA (KF (v:=.int .i64 ((0:Nat):Int)) rfl) (Nb rfl) ?_
  refine KG ?_
  refine KD (KB ?_)
  refine KA (KE rfl) (Nb rfl) ?_
  refine KH rfl (KS (Ku (Post:=fun v its=>∃ b f bd,v = .pointer (some ⟨b,0,none⟩)∧its = [.blk b ⟨false,opL V f,147,(0,0)⟩,.blk f ⟨false,fldL V.p bd,194,(0,0)⟩,.blk bd ⟨false,dvL V.p,241,(0,0)⟩]) (first:=[]) rfl en_112 rfl (Nb rfl) (fun w1 hw hs=>(c_Open _ V w1 h).mono fun e w' ⟨b,f,bd,h1,h2,h3,h4,h5,h6,h7,h8⟩=>⟨_,_,⟨b,f,bd,rfl,rfl⟩,h1,KAs h8 (by intro x hx; simp at hx; rcases hx with rfl|rfl|rfl; exact h2; exact h3; exact h4) (by intro x hx; simp at hx; rcases hx with rfl|rfl|rfl <;> rfl) (by intro x hx k hk; simp at hx; rcases hx with rfl|rfl|rfl <;> simp [Item.fp] at hk <;> subst hk; exact .inl h5; exact .inl h6; exact .inl h7)⟩) ?_))
  rintro _ _ ⟨b,f,bd,rfl,rfl⟩
  refine KA (KF rfl) (Nb rfl) ?_
  refine KG ?_
  refine KD ?_
  refine LCode.block ?_
  refine KD (KB ?_)
  refine KA (KE rfl) (Nb rfl) ?_
  refine KA (KV (Det.eqp Try.underlying142 rfl rfl) (show _ = Value.bool false from rfl)) (Nb rfl) ?_
  refine KA (KF rfl) (Nb rfl) ?_
  refine KG ?_
  refine Ki rfl ?_
  refine KD (KB ?_)
  refine KA (KE rfl) (Nb rfl) ?_
  refine LOps.det (KK rfl (by repeat (first|exact Mh _|apply Mt)) (by exact KJ Try.underlying60 rfl sz_60)) (Nb rfl) ?_
  refine KH rfl (KS (KR (first:=[]) rfl en_122 rfl (Nb rfl) (fun w hw=>c_cOnP V b f bd hok (P) w (hw _ (by repeat (first|exact Mh _|apply Mt))) (hw _ (by repeat (first|exact Mh _|apply Mt))) (hw _ (by repeat (first|exact Mh _|apply Mt))) hP) ?_))
  refine KA (KV (KAt rfl) (show _ = Value.bool false from rfl)) (Nb rfl) ?_
  refine KA (KE rfl) (Nb rfl) ?_
  refine Kf rfl rfl (KE rfl) (Nb rfl) ?_
  refine KAU rfl rfl (KK rfl (by repeat (first|exact Mh _|apply Mt)) (by exact KJ Try.underlying60 rfl sz_60)) (Nb rfl) ?_
  refine KAf rfl rfl rfl (KS (KR (first:=[]) rfl en_122 rfl (Nb rfl) (fun w hw=>c_cOnB V b f bd hok (X) (Y) (i) false w (hw _ (by repeat (first|exact Mh _|apply Mt))) (hw _ (by repeat (first|exact Mh _|apply Mt))) (hw _ (by repeat (first|exact Mh _|apply Mt))) hX hY ho) ?_))
  refine Kf rfl rfl (KV (KAt rfl) (show _ = Value.bool true from rfl)) (Nb rfl) ?_
  refine KA (KAH rfl rfl) (Nb rfl) ?_
  refine KA (KF rfl) (Nb rfl) ?_
  refine KG ?_
  refine Kx rfl ?_
  refine KD (KB ?_)
  refine KA (KV (KAM pl_60 zr_60 rfl rfl) (show _ = ptV 0 0 false from pt_zero)) (Nb rfl) ?_
  refine KH rfl (KO rfl rfl sz_60 (by repeat (first|exact Kl _|exact Kz _ _ _|exact Km _|exact Ko _ _ _|exact Ky _ _ _|exact KW|refine KT rfl ?_|refine KX ?_ ?_)) (by repeat (first|exact Sh _|apply St_)) (by first|exact KI _|exact KN _ _ _|exact KL _|exact KU _ _ _|exact Ke _ _ _|rfl|simp [KN,KI,KL]) ?_)
  refine KA (KF (v:=.int .i64 ((1401:Nat):Int)) rfl) (Nb rfl) ?_
  refine KG (Ka ?_)
  refine ⟨[_,_],.cons ⟨_,_,_,rfl,(by repeat (first|exact Mh _|apply Mt)),by exact KJ Try.underlying60 rfl sz_60⟩ (.cons rfl .nil),fun a w' hr=>⟨?_,hr.fr.below⟩⟩
  rfl
theorem c_do_ok (id:Int) (V:Cv) (P P2 R:Pt V.p) (fid:FuncId) (w:World) (h:cvI id = some V) (hP:On V.A V.B P) (hP2:On V.A V.B P2) (he:KAO Try.prog fid) (hc:∀ b f bd (w:World),(Item.blk b ⟨false,opL V f,147,(0,0)⟩).holds w→(Item.blk f ⟨false,fldL V.p bd,194,(0,0)⟩).holds w→(Item.blk bd ⟨false,dvL V.p,241,(0,0)⟩).holds w→Calls Try.prog fid ([.agg ([.pointer (some ⟨b,0,none⟩)]:List Value).toArray,ptP P,ptP P2]:List Value).toArray w (fun e w'=>e = .returned (ptP R)∧Below w.heap.size w w')):Calls Try.prog 130 ([.int .i64 id,ptP P,ptP P2,.func (.func fid) #[] #[]]:List Value).toArray w (fun e w'=>e = .returned (.tuple #[ptP R,.int .i64 ((0:Nat):Int)])∧Below w.heap.size w w'):=by
  obtain ⟨hok,hid⟩:=cvI_ok h
  have hbb:=hok.bounds
  have hpW:V.p<W9:=w9_521 hbb.2.1
  have hnW:V.n<W9:=w9_521 hbb.2.2.2.2.2.2.1
  have hbl:=blen_w9 hnW
  have hnb:nby V.n≤72:=by (unfold nby; omega)
  refine KAB (N:=35) (rs:=[.cell 8 60,.tmp 9]) [] Try.func130 rfl Try.ntmps130 Try.results130 (Nb rfl) trivial rfl ?_
  show LCode _ _ _ ⟨_,_⟩ _
  refine KD (KB ?_)
  refine KH rfl (KS (KQ (Kn rfl) (Nb rfl) (fun b5=>?_)))
  refine KH rfl (KS (KQ (Kn rfl) (Nb rfl) (fun b6=>?_)))
  refine KH rfl (KS (KQ (Kb zr_60) (Nb rfl) (fun b8=>?_)))
  refine KA (KF (v:=.int .i64 ((0:Nat):Int)) rfl) (Nb rfl) ?_
  refine KG ?_
  refine KD (KB ?_)
  refine KA (KE rfl) (Nb rfl) ?_
  refine KH rfl (KS (Ku (Post:=fun v its=>∃ b f bd,v = .pointer (some ⟨b,0,none⟩)∧its = [.blk b ⟨false,opL V f,147,(0,0)⟩,.blk f ⟨false,fldL V.p bd,194,(0,0)⟩,.blk bd ⟨false,dvL V.p,241,(0,0)⟩]) (first:=[]) rfl en_112 rfl (Nb rfl) (fun w1 hw hs=>(c_Open _ V w1 h).mono fun e w' ⟨b,f,bd,h1,h2,h3,h4,h5,h6,h7,h8⟩=>⟨_,_,⟨b,f,bd,rfl,rfl⟩,h1,KAs h8 (by intro x hx; simp at hx; rcases hx with rfl|rfl|rfl; exact h2; exact h3; exact h4) (by intro x hx; simp at hx; rcases hx with rfl|rfl|rfl <;> rfl) (by intro x hx k hk; simp at hx; rcases hx with rfl|rfl|rfl <;> simp [Item.fp] at hk <;> subst hk; exact .inl h5; exact .inl h6; exact .inl h7)⟩) ?_))
  rintro _ _ ⟨b,f,bd,rfl,rfl⟩
  refine KA (KF rfl) (Nb rfl) ?_
  refine KG ?_
  refine KD ?_
  refine LCode.block ?_
  refine KD (KB ?_)
  refine KA (KE rfl) (Nb rfl) ?_
  refine KA (KV (Det.eqp Try.underlying142 rfl rfl) (show _ = Value.bool false from rfl)) (Nb rfl) ?_
  refine KA (KF rfl) (Nb rfl) ?_
  refine KG ?_
  refine Ki rfl ?_
  refine KD (KB ?_)
  refine KA (KE rfl) (Nb rfl) ?_
  refine LOps.det (KK rfl (by repeat (first|exact Mh _|apply Mt)) (by exact KJ Try.underlying60 rfl sz_60)) (Nb rfl) ?_
  refine KH rfl (KS (KR (first:=[]) rfl en_122 rfl (Nb rfl) (fun w hw=>c_cOnP V b f bd hok (P) w (hw _ (by repeat (first|exact Mh _|apply Mt))) (hw _ (by repeat (first|exact Mh _|apply Mt))) (hw _ (by repeat (first|exact Mh _|apply Mt))) hP) ?_))
  refine KA (KV (KAt rfl) (show _ = Value.bool false from rfl)) (Nb rfl) ?_
  refine KA (KE rfl) (Nb rfl) ?_
  refine Kf rfl rfl (KE rfl) (Nb rfl) ?_
  refine KAU rfl rfl (KK rfl (by repeat (first|exact Mh _|apply Mt)) (by exact KJ Try.underlying60 rfl sz_60)) (Nb rfl) ?_
  refine KAf rfl rfl rfl (KS (KR (first:=[]) rfl en_122 rfl (Nb rfl) (fun w hw=>c_cOnP V b f bd hok (P2) w (hw _ (by repeat (first|exact Mh _|apply Mt))) (hw _ (by repeat (first|exact Mh _|apply Mt))) (hw _ (by repeat (first|exact Mh _|apply Mt))) hP2) ?_))
  refine Kf rfl rfl (KV (KAt rfl) (show _ = Value.bool false from rfl)) (Nb rfl) ?_
  refine KA (KAH rfl rfl) (Nb rfl) ?_
  refine KA (KF rfl) (Nb rfl) ?_
  refine KG ?_
  refine Ki rfl ?_
  refine Kh ?_
  refine KD (KB ?_)
  refine KA (KE rfl) (Nb rfl) ?_
  refine KA (KE rfl) (Nb rfl) ?_
  refine KA (KV (KAM pl_169 zr_169 rfl rfl) (show _ = Value.agg ([.pointer (some ⟨b,0,none⟩)]:List Value).toArray from rfl)) (Nb rfl) ?_
  refine LOps.det (KK rfl (by repeat (first|exact Mh _|apply Mt)) (by exact KJ Try.underlying60 rfl sz_60)) (Nb rfl) ?_
  refine LOps.det (KK rfl (by repeat (first|exact Mh _|apply Mt)) (by exact KJ Try.underlying60 rfl sz_60)) (Nb rfl) ?_
  refine KH rfl (KS (KR (first:=[]) rfl he rfl (Nb rfl) (fun w hw=>hc b f bd w (hw _ (by repeat (first|exact Mh _|apply Mt))) (hw _ (by repeat (first|exact Mh _|apply Mt))) (hw _ (by repeat (first|exact Mh _|apply Mt)))) ?_))
  refine KH rfl (KO rfl rfl sz_60 (by repeat (first|exact Kl _|exact Kz _ _ _|exact Km _|exact Ko _ _ _|exact Ky _ _ _|exact KW|refine KT rfl ?_|refine KX ?_ ?_)) (by repeat (first|exact Sh _|apply St_)) (by first|exact KI _|exact KN _ _ _|exact KL _|exact KU _ _ _|exact Ke _ _ _|rfl|simp [KN,KI,KL]) ?_)
  refine KA (KF (v:=.int .i64 ((0:Nat):Int)) rfl) (Nb rfl) ?_
  refine KG (Ka ?_)
  refine ⟨[_,_],.cons ⟨_,_,_,rfl,(by repeat (first|exact Mh _|apply Mt)),by exact KJ Try.underlying60 rfl sz_60⟩ (.cons rfl .nil),fun a w' hr=>⟨?_,hr.fr.below⟩⟩
  rfl
theorem c_do_okK (id:Int) (V:Cv) (P P2 R:Pt V.p) (fid:FuncId) (K bk:Nat) (w:World) (h:cvI id = some V) (hP:On V.A V.B P) (hP2:On V.A V.B P2) (he:KAO Try.prog fid) (hc:∀ b f bd (w:World),(Item.blk b ⟨false,opL V f,147,(0,0)⟩).holds w→(Item.blk f ⟨false,fldL V.p bd,194,(0,0)⟩).holds w→(Item.blk bd ⟨false,dvL V.p,241,(0,0)⟩).holds w→(Item.blk bk ⟨false,natL K,25,(0,0)⟩).holds w→Calls Try.prog fid ([.agg ([.pointer (some ⟨b,0,none⟩)]:List Value).toArray,ptP P,ptP P2,.pointer (some ⟨bk,0,none⟩)]:List Value).toArray w (fun e w'=>e = .returned (ptP R)∧Below w.heap.size w w')) (hk:(Item.blk bk ⟨false,natL K,25,(0,0)⟩).holds w):Calls Try.prog 130 ([.int .i64 id,ptP P,ptP P2,.func (.func fid) #[] #[.pointer (some ⟨bk,0,none⟩)]]:List Value).toArray w (fun e w'=>e = .returned (.tuple #[ptP R,.int .i64 ((0:Nat):Int)])∧Below w.heap.size w w'):=by
  obtain ⟨hok,hid⟩:=cvI_ok h
  have hbb:=hok.bounds
  have hpW:V.p<W9:=w9_521 hbb.2.1
  have hnW:V.n<W9:=w9_521 hbb.2.2.2.2.2.2.1
  have hbl:=blen_w9 hnW
  have hnb:nby V.n≤72:=by (unfold nby; omega)
  refine KAB (N:=35) (rs:=[.cell 8 60,.tmp 9]) [.blk bk ⟨false,natL K,25,(0,0)⟩] Try.func130 rfl Try.ntmps130 Try.results130 (Nb rfl) ⟨hk,trivial⟩ rfl ?_
  show LCode _ _ _ ⟨_,_⟩ _
  refine KD (KB ?_)
  refine KH rfl (KS (KQ (Kn rfl) (Nb rfl) (fun b5=>?_)))
  refine KH rfl (KS (KQ (Kn rfl) (Nb rfl) (fun b6=>?_)))
  refine KH rfl (KS (KQ (Kb zr_60) (Nb rfl) (fun b8=>?_)))
  refine KA (KF (v:=.int .i64 ((0:Nat):Int)) rfl) (Nb rfl) ?_
  refine KG ?_
  refine KD (KB ?_)
  refine KA (KE rfl) (Nb rfl) ?_
  refine KH rfl (KS (Ku (Post:=fun v its=>∃ b f bd,v = .pointer (some ⟨b,0,none⟩)∧its = [.blk b ⟨false,opL V f,147,(0,0)⟩,.blk f ⟨false,fldL V.p bd,194,(0,0)⟩,.blk bd ⟨false,dvL V.p,241,(0,0)⟩]) (first:=[]) rfl en_112 rfl (Nb rfl) (fun w1 hw hs=>(c_Open _ V w1 h).mono fun e w' ⟨b,f,bd,h1,h2,h3,h4,h5,h6,h7,h8⟩=>⟨_,_,⟨b,f,bd,rfl,rfl⟩,h1,KAs h8 (by intro x hx; simp at hx; rcases hx with rfl|rfl|rfl; exact h2; exact h3; exact h4) (by intro x hx; simp at hx; rcases hx with rfl|rfl|rfl <;> rfl) (by intro x hx k hk; simp at hx; rcases hx with rfl|rfl|rfl <;> simp [Item.fp] at hk <;> subst hk; exact .inl h5; exact .inl h6; exact .inl h7)⟩) ?_))
  rintro _ _ ⟨b,f,bd,rfl,rfl⟩
  refine KA (KF rfl) (Nb rfl) ?_
  refine KG ?_
  refine KD ?_
  refine LCode.block ?_
  refine KD (KB ?_)
  refine KA (KE rfl) (Nb rfl) ?_
  refine KA (KV (Det.eqp Try.underlying142 rfl rfl) (show _ = Value.bool false from rfl)) (Nb rfl) ?_
  refine KA (KF rfl) (Nb rfl) ?_
  refine KG ?_
  refine Ki rfl ?_
  refine KD (KB ?_)
  refine KA (KE rfl) (Nb rfl) ?_
  refine LOps.det (KK rfl (by repeat (first|exact Mh _|apply Mt)) (by exact KJ Try.underlying60 rfl sz_60)) (Nb rfl) ?_
  refine KH rfl (KS (KR (first:=[]) rfl en_122 rfl (Nb rfl) (fun w hw=>c_cOnP V b f bd hok (P) w (hw _ (by repeat (first|exact Mh _|apply Mt))) (hw _ (by repeat (first|exact Mh _|apply Mt))) (hw _ (by repeat (first|exact Mh _|apply Mt))) hP) ?_))
  refine KA (KV (KAt rfl) (show _ = Value.bool false from rfl)) (Nb rfl) ?_
  refine KA (KE rfl) (Nb rfl) ?_
  refine Kf rfl rfl (KE rfl) (Nb rfl) ?_
  refine KAU rfl rfl (KK rfl (by repeat (first|exact Mh _|apply Mt)) (by exact KJ Try.underlying60 rfl sz_60)) (Nb rfl) ?_
  refine KAf rfl rfl rfl (KS (KR (first:=[]) rfl en_122 rfl (Nb rfl) (fun w hw=>c_cOnP V b f bd hok (P2) w (hw _ (by repeat (first|exact Mh _|apply Mt))) (hw _ (by repeat (first|exact Mh _|apply Mt))) (hw _ (by repeat (first|exact Mh _|apply Mt))) hP2) ?_))
  refine Kf rfl rfl (KV (KAt rfl) (show _ = Value.bool false from rfl)) (Nb rfl) ?_
  refine KA (KAH rfl rfl) (Nb rfl) ?_
  refine KA (KF rfl) (Nb rfl) ?_
  refine KG ?_
  refine Ki rfl ?_
  refine Kh ?_
  refine KD (KB ?_)
  refine KA (KE rfl) (Nb rfl) ?_
  refine KA (KE rfl) (Nb rfl) ?_
  refine KA (KV (KAM pl_169 zr_169 rfl rfl) (show _ = Value.agg ([.pointer (some ⟨b,0,none⟩)]:List Value).toArray from rfl)) (Nb rfl) ?_
  refine LOps.det (KK rfl (by repeat (first|exact Mh _|apply Mt)) (by exact KJ Try.underlying60 rfl sz_60)) (Nb rfl) ?_
  refine LOps.det (KK rfl (by repeat (first|exact Mh _|apply Mt)) (by exact KJ Try.underlying60 rfl sz_60)) (Nb rfl) ?_
  refine KH rfl (KS (LStep.callK (caps:=[.pointer (some ⟨bk,0,none⟩)]) rfl he rfl (Nb rfl) (fun w hw=>hc b f bd w (hw _ (by repeat (first|exact Mh _|apply Mt))) (hw _ (by repeat (first|exact Mh _|apply Mt))) (hw _ (by repeat (first|exact Mh _|apply Mt))) (hw _ (by repeat (first|exact Mh _|apply Mt)))) ?_))
  refine KH rfl (KO rfl rfl sz_60 (by repeat (first|exact Kl _|exact Kz _ _ _|exact Km _|exact Ko _ _ _|exact Ky _ _ _|exact KW|refine KT rfl ?_|refine KX ?_ ?_)) (by repeat (first|exact Sh _|apply St_)) (by first|exact KI _|exact KN _ _ _|exact KL _|exact KU _ _ _|exact Ke _ _ _|rfl|simp [KN,KI,KL]) ?_)
  refine KA (KF (v:=.int .i64 ((0:Nat):Int)) rfl) (Nb rfl) ?_
  refine KG (Ka ?_)
  refine ⟨[_,_],.cons ⟨_,_,_,rfl,(by repeat (first|exact Mh _|apply Mt)),by exact KJ Try.underlying60 rfl sz_60⟩ (.cons rfl .nil),fun a w' hr=>⟨?_,hr.fr.below⟩⟩
  rfl
theorem c_affAdd_none (id:Int) (X Y:Nat) (i:Bool) (X2 Y2:Nat) (j:Bool) (w:World) (h:cvI id = none):Calls Try.prog 88 ([.int .i64 id,ptV X Y i,ptV X2 Y2 j]:List Value).toArray w (fun e w'=>e = .returned (.tuple #[ptV 0 0 false,.int .i64 ((1400:Nat):Int)])∧Below w.heap.size w w'):=by
  refine KAB (N:=14) (rs:=[.cell 6 60,.tmp 7]) [] Try.func88 rfl Try.ntmps88 Try.results88 (Nb rfl) trivial rfl ?_
  show LCode _ _ _ ⟨_,_⟩ _
  refine KD (KB ?_)
  refine KH rfl (KS (KQ (Kn rfl) (Nb rfl) (fun b4=>?_)))
  refine KH rfl (KS (KQ (Kn rfl) (Nb rfl) (fun b5=>?_)))
  refine KH rfl (KS (KQ (Kb zr_60) (Nb rfl) (fun b6=>?_)))
  refine KA (KF (v:=.int .i64 ((0:Nat):Int)) rfl) (Nb rfl) ?_
  refine KG ?_
  refine KD (KB ?_)
  refine KA (KE rfl) (Nb rfl) ?_
  refine LOps.det (KK rfl (by repeat (first|exact Mh _|apply Mt)) (by exact KJ Try.underlying60 rfl sz_60)) (Nb rfl) ?_
  refine LOps.det (KK rfl (by repeat (first|exact Mh _|apply Mt)) (by exact KJ Try.underlying60 rfl sz_60)) (Nb rfl) ?_
  refine KH rfl (KS (KR (first:=[]) rfl en_130 rfl (Nb rfl) (fun w hw=>c_do_none id X Y i X2 Y2 j _ w h) ?_))
  refine KA (KZ rfl rfl) (Nb rfl) ?_
  refine KA (KZ rfl rfl) (Nb rfl) ?_
  refine KH rfl (KO rfl rfl sz_60 (by repeat (first|exact Kl _|exact Kz _ _ _|exact Km _|exact Ko _ _ _|exact Ky _ _ _|exact KW|refine KT rfl ?_|refine KX ?_ ?_)) (by repeat (first|exact Sh _|apply St_)) (by first|exact KI _|exact KN _ _ _|exact KL _|exact KU _ _ _|exact Ke _ _ _|rfl|simp [KN,KI,KL]) ?_)
  refine KA (KF rfl) (Nb rfl) ?_
  refine KG (Ka ?_)
  refine ⟨[_,_],.cons ⟨_,_,_,rfl,(by repeat (first|exact Mh _|apply Mt)),by exact KJ Try.underlying60 rfl sz_60⟩ (.cons rfl .nil),fun a w' hr=>⟨?_,hr.fr.below⟩⟩
  rfl
theorem c_affAdd_off (id:Int) (V:Cv) (X Y:Nat) (i:Bool) (X2 Y2:Nat) (j:Bool) (w:World) (h:cvI id = some V) (hX:X<W9) (hY:Y<W9) (ho:onB V.p V.a V.b X Y i = false):Calls Try.prog 88 ([.int .i64 id,ptV X Y i,ptV X2 Y2 j]:List Value).toArray w (fun e w'=>e = .returned (.tuple #[ptV 0 0 false,.int .i64 ((1401:Nat):Int)])∧Below w.heap.size w w'):=by
  refine KAB (N:=14) (rs:=[.cell 6 60,.tmp 7]) [] Try.func88 rfl Try.ntmps88 Try.results88 (Nb rfl) trivial rfl ?_
  show LCode _ _ _ ⟨_,_⟩ _
  refine KD (KB ?_)
  refine KH rfl (KS (KQ (Kn rfl) (Nb rfl) (fun b4=>?_)))
  refine KH rfl (KS (KQ (Kn rfl) (Nb rfl) (fun b5=>?_)))
  refine KH rfl (KS (KQ (Kb zr_60) (Nb rfl) (fun b6=>?_)))
  refine KA (KF (v:=.int .i64 ((0:Nat):Int)) rfl) (Nb rfl) ?_
  refine KG ?_
  refine KD (KB ?_)
  refine KA (KE rfl) (Nb rfl) ?_
  refine LOps.det (KK rfl (by repeat (first|exact Mh _|apply Mt)) (by exact KJ Try.underlying60 rfl sz_60)) (Nb rfl) ?_
  refine LOps.det (KK rfl (by repeat (first|exact Mh _|apply Mt)) (by exact KJ Try.underlying60 rfl sz_60)) (Nb rfl) ?_
  refine KH rfl (KS (KR (first:=[]) rfl en_130 rfl (Nb rfl) (fun w hw=>c_do_off id V X Y i X2 Y2 j _ w h hX hY ho) ?_))
  refine KA (KZ rfl rfl) (Nb rfl) ?_
  refine KA (KZ rfl rfl) (Nb rfl) ?_
  refine KH rfl (KO rfl rfl sz_60 (by repeat (first|exact Kl _|exact Kz _ _ _|exact Km _|exact Ko _ _ _|exact Ky _ _ _|exact KW|refine KT rfl ?_|refine KX ?_ ?_)) (by repeat (first|exact Sh _|apply St_)) (by first|exact KI _|exact KN _ _ _|exact KL _|exact KU _ _ _|exact Ke _ _ _|rfl|simp [KN,KI,KL]) ?_)
  refine KA (KF rfl) (Nb rfl) ?_
  refine KG (Ka ?_)
  refine ⟨[_,_],.cons ⟨_,_,_,rfl,(by repeat (first|exact Mh _|apply Mt)),by exact KJ Try.underlying60 rfl sz_60⟩ (.cons rfl .nil),fun a w' hr=>⟨?_,hr.fr.below⟩⟩
  rfl
theorem c_affAdd_off2 (id:Int) (V:Cv) (P:Pt V.p) (X Y:Nat) (i:Bool) (w:World) (h:cvI id = some V) (hP:On V.A V.B P) (hX:X<W9) (hY:Y<W9) (ho:onB V.p V.a V.b X Y i = false):Calls Try.prog 88 ([.int .i64 id,ptP P,ptV X Y i]:List Value).toArray w (fun e w'=>e = .returned (.tuple #[ptV 0 0 false,.int .i64 ((1401:Nat):Int)])∧Below w.heap.size w w'):=by
  refine KAB (N:=14) (rs:=[.cell 6 60,.tmp 7]) [] Try.func88 rfl Try.ntmps88 Try.results88 (Nb rfl) trivial rfl ?_
  show LCode _ _ _ ⟨_,_⟩ _
  refine KD (KB ?_)
  refine KH rfl (KS (KQ (Kn rfl) (Nb rfl) (fun b4=>?_)))
  refine KH rfl (KS (KQ (Kn rfl) (Nb rfl) (fun b5=>?_)))
  refine KH rfl (KS (KQ (Kb zr_60) (Nb rfl) (fun b6=>?_)))
  refine KA (KF (v:=.int .i64 ((0:Nat):Int)) rfl) (Nb rfl) ?_
  refine KG ?_
  refine KD (KB ?_)
  refine KA (KE rfl) (Nb rfl) ?_
  refine LOps.det (KK rfl (by repeat (first|exact Mh _|apply Mt)) (by exact KJ Try.underlying60 rfl sz_60)) (Nb rfl) ?_
  refine LOps.det (KK rfl (by repeat (first|exact Mh _|apply Mt)) (by exact KJ Try.underlying60 rfl sz_60)) (Nb rfl) ?_
  refine KH rfl (KS (KR (first:=[]) rfl en_130 rfl (Nb rfl) (fun w hw=>c_do_off2 id V P X Y i _ w h hP hX hY ho) ?_))
  refine KA (KZ rfl rfl) (Nb rfl) ?_
  refine KA (KZ rfl rfl) (Nb rfl) ?_
  refine KH rfl (KO rfl rfl sz_60 (by repeat (first|exact Kl _|exact Kz _ _ _|exact Km _|exact Ko _ _ _|exact Ky _ _ _|exact KW|refine KT rfl ?_|refine KX ?_ ?_)) (by repeat (first|exact Sh _|apply St_)) (by first|exact KI _|exact KN _ _ _|exact KL _|exact KU _ _ _|exact Ke _ _ _|rfl|simp [KN,KI,KL]) ?_)
  refine KA (KF rfl) (Nb rfl) ?_
  refine KG (Ka ?_)
  refine ⟨[_,_],.cons ⟨_,_,_,rfl,(by repeat (first|exact Mh _|apply Mt)),by exact KJ Try.underlying60 rfl sz_60⟩ (.cons rfl .nil),fun a w' hr=>⟨?_,hr.fr.below⟩⟩
  rfl
theorem c_affAdd (id:Int) (V:Cv) (P P2 R:Pt V.p) (w:World) (h:cvI id = some V) (hP:On V.A V.B P) (hP2:On V.A V.B P2) (hR:padd V.A P P2 = R):Calls Try.prog 88 ([.int .i64 id,ptP P,ptP P2]:List Value).toArray w (fun e w'=>e = .returned (.tuple #[ptP R,.int .i64 ((0:Nat):Int)])∧Below w.heap.size w w'):=by
  obtain ⟨hok,hid⟩:=cvI_ok h
  refine KAB (N:=14) (rs:=[.cell 6 60,.tmp 7]) [] Try.func88 rfl Try.ntmps88 Try.results88 (Nb rfl) trivial rfl ?_
  show LCode _ _ _ ⟨_,_⟩ _
  refine KD (KB ?_)
  refine KH rfl (KS (KQ (Kn rfl) (Nb rfl) (fun b4=>?_)))
  refine KH rfl (KS (KQ (Kn rfl) (Nb rfl) (fun b5=>?_)))
  refine KH rfl (KS (KQ (Kb zr_60) (Nb rfl) (fun b6=>?_)))
  refine KA (KF (v:=.int .i64 ((0:Nat):Int)) rfl) (Nb rfl) ?_
  refine KG ?_
  refine KD (KB ?_)
  refine KA (KE rfl) (Nb rfl) ?_
  refine LOps.det (KK rfl (by repeat (first|exact Mh _|apply Mt)) (by exact KJ Try.underlying60 rfl sz_60)) (Nb rfl) ?_
  refine LOps.det (KK rfl (by repeat (first|exact Mh _|apply Mt)) (by exact KJ Try.underlying60 rfl sz_60)) (Nb rfl) ?_
  refine KH rfl (KS (KR (first:=[]) rfl en_130 rfl (Nb rfl) (fun w hw=>c_do_ok id V P P2 R 131 w h hP hP2 en_131 (fun b f bd w h1 h2 h3=>c_gadd V b f bd hok P P2 R w h1 h2 h3 hP hP2 hR)) ?_))
  refine KA (KZ rfl rfl) (Nb rfl) ?_
  refine KA (KZ rfl rfl) (Nb rfl) ?_
  refine KH rfl (KO rfl rfl sz_60 (by repeat (first|exact Kl _|exact Kz _ _ _|exact Km _|exact Ko _ _ _|exact Ky _ _ _|exact KW|refine KT rfl ?_|refine KX ?_ ?_)) (by repeat (first|exact Sh _|apply St_)) (by first|exact KI _|exact KN _ _ _|exact KL _|exact KU _ _ _|exact Ke _ _ _|rfl|simp [KN,KI,KL]) ?_)
  refine KA (KF rfl) (Nb rfl) ?_
  refine KG (Ka ?_)
  refine ⟨[_,_],.cons ⟨_,_,_,rfl,(by repeat (first|exact Mh _|apply Mt)),by exact KJ Try.underlying60 rfl sz_60⟩ (.cons rfl .nil),fun a w' hr=>⟨?_,hr.fr.below⟩⟩
  rfl
theorem c_affNeg_none (id:Int) (X Y:Nat) (i:Bool) (w:World) (h:cvI id = none):Calls Try.prog 89 ([.int .i64 id,ptV X Y i]:List Value).toArray w (fun e w'=>e = .returned (.tuple #[ptV 0 0 false,.int .i64 ((1400:Nat):Int)])∧Below w.heap.size w w'):=by
  refine KAB (N:=12) (rs:=[.cell 4 60,.tmp 5]) [] Try.func89 rfl Try.ntmps89 Try.results89 (Nb rfl) trivial rfl ?_
  show LCode _ _ _ ⟨_,_⟩ _
  refine KD (KB ?_)
  refine KH rfl (KS (KQ (Kn rfl) (Nb rfl) (fun b3=>?_)))
  refine KH rfl (KS (KQ (Kb zr_60) (Nb rfl) (fun b4=>?_)))
  refine KA (KF (v:=.int .i64 ((0:Nat):Int)) rfl) (Nb rfl) ?_
  refine KG ?_
  refine KD (KB ?_)
  refine KA (KE rfl) (Nb rfl) ?_
  refine LOps.det (KK rfl (by repeat (first|exact Mh _|apply Mt)) (by exact KJ Try.underlying60 rfl sz_60)) (Nb rfl) ?_
  refine LOps.det (KK rfl (by repeat (first|exact Mh _|apply Mt)) (by exact KJ Try.underlying60 rfl sz_60)) (Nb rfl) ?_
  refine KH rfl (KS (KR (first:=[]) rfl en_130 rfl (Nb rfl) (fun w hw=>c_do_none id X Y i X Y i _ w h) ?_))
  refine KA (KZ rfl rfl) (Nb rfl) ?_
  refine KA (KZ rfl rfl) (Nb rfl) ?_
  refine KH rfl (KO rfl rfl sz_60 (by repeat (first|exact Kl _|exact Kz _ _ _|exact Km _|exact Ko _ _ _|exact Ky _ _ _|exact KW|refine KT rfl ?_|refine KX ?_ ?_)) (by repeat (first|exact Sh _|apply St_)) (by first|exact KI _|exact KN _ _ _|exact KL _|exact KU _ _ _|exact Ke _ _ _|rfl|simp [KN,KI,KL]) ?_)
  refine KA (KF rfl) (Nb rfl) ?_
  refine KG (Ka ?_)
  refine ⟨[_,_],.cons ⟨_,_,_,rfl,(by repeat (first|exact Mh _|apply Mt)),by exact KJ Try.underlying60 rfl sz_60⟩ (.cons rfl .nil),fun a w' hr=>⟨?_,hr.fr.below⟩⟩
  rfl
theorem c_affNeg_off (id:Int) (V:Cv) (X Y:Nat) (i:Bool) (w:World) (h:cvI id = some V) (hX:X<W9) (hY:Y<W9) (ho:onB V.p V.a V.b X Y i = false):Calls Try.prog 89 ([.int .i64 id,ptV X Y i]:List Value).toArray w (fun e w'=>e = .returned (.tuple #[ptV 0 0 false,.int .i64 ((1401:Nat):Int)])∧Below w.heap.size w w'):=by
  refine KAB (N:=12) (rs:=[.cell 4 60,.tmp 5]) [] Try.func89 rfl Try.ntmps89 Try.results89 (Nb rfl) trivial rfl ?_
  show LCode _ _ _ ⟨_,_⟩ _
  refine KD (KB ?_)
  refine KH rfl (KS (KQ (Kn rfl) (Nb rfl) (fun b3=>?_)))
  refine KH rfl (KS (KQ (Kb zr_60) (Nb rfl) (fun b4=>?_)))
  refine KA (KF (v:=.int .i64 ((0:Nat):Int)) rfl) (Nb rfl) ?_
  refine KG ?_
  refine KD (KB ?_)
  refine KA (KE rfl) (Nb rfl) ?_
  refine LOps.det (KK rfl (by repeat (first|exact Mh _|apply Mt)) (by exact KJ Try.underlying60 rfl sz_60)) (Nb rfl) ?_
  refine LOps.det (KK rfl (by repeat (first|exact Mh _|apply Mt)) (by exact KJ Try.underlying60 rfl sz_60)) (Nb rfl) ?_
  refine KH rfl (KS (KR (first:=[]) rfl en_130 rfl (Nb rfl) (fun w hw=>c_do_off id V X Y i X Y i _ w h hX hY ho) ?_))
  refine KA (KZ rfl rfl) (Nb rfl) ?_
  refine KA (KZ rfl rfl) (Nb rfl) ?_
  refine KH rfl (KO rfl rfl sz_60 (by repeat (first|exact Kl _|exact Kz _ _ _|exact Km _|exact Ko _ _ _|exact Ky _ _ _|exact KW|refine KT rfl ?_|refine KX ?_ ?_)) (by repeat (first|exact Sh _|apply St_)) (by first|exact KI _|exact KN _ _ _|exact KL _|exact KU _ _ _|exact Ke _ _ _|rfl|simp [KN,KI,KL]) ?_)
  refine KA (KF rfl) (Nb rfl) ?_
  refine KG (Ka ?_)
  refine ⟨[_,_],.cons ⟨_,_,_,rfl,(by repeat (first|exact Mh _|apply Mt)),by exact KJ Try.underlying60 rfl sz_60⟩ (.cons rfl .nil),fun a w' hr=>⟨?_,hr.fr.below⟩⟩
  rfl
theorem c_affNeg (id:Int) (V:Cv) (P:Pt V.p) (w:World) (h:cvI id = some V) (hP:On V.A V.B P):Calls Try.prog 89 ([.int .i64 id,ptP P]:List Value).toArray w (fun e w'=>e = .returned (.tuple #[ptP P.neg,.int .i64 ((0:Nat):Int)])∧Below w.heap.size w w'):=by
  obtain ⟨hok,hid⟩:=cvI_ok h
  refine KAB (N:=12) (rs:=[.cell 4 60,.tmp 5]) [] Try.func89 rfl Try.ntmps89 Try.results89 (Nb rfl) trivial rfl ?_
  show LCode _ _ _ ⟨_,_⟩ _
  refine KD (KB ?_)
  refine KH rfl (KS (KQ (Kn rfl) (Nb rfl) (fun b3=>?_)))
  refine KH rfl (KS (KQ (Kb zr_60) (Nb rfl) (fun b4=>?_)))
  refine KA (KF (v:=.int .i64 ((0:Nat):Int)) rfl) (Nb rfl) ?_
  refine KG ?_
  refine KD (KB ?_)
  refine KA (KE rfl) (Nb rfl) ?_
  refine LOps.det (KK rfl (by repeat (first|exact Mh _|apply Mt)) (by exact KJ Try.underlying60 rfl sz_60)) (Nb rfl) ?_
  refine LOps.det (KK rfl (by repeat (first|exact Mh _|apply Mt)) (by exact KJ Try.underlying60 rfl sz_60)) (Nb rfl) ?_
  refine KH rfl (KS (KR (first:=[]) rfl en_130 rfl (Nb rfl) (fun w hw=>c_do_ok id V P P P.neg 132 w h hP hP en_132 (fun b f bd w h1 h2 h3=>c_gneg V b f bd hok P _ _ _ w h1 h2 h3)) ?_))
  refine KA (KZ rfl rfl) (Nb rfl) ?_
  refine KA (KZ rfl rfl) (Nb rfl) ?_
  refine KH rfl (KO rfl rfl sz_60 (by repeat (first|exact Kl _|exact Kz _ _ _|exact Km _|exact Ko _ _ _|exact Ky _ _ _|exact KW|refine KT rfl ?_|refine KX ?_ ?_)) (by repeat (first|exact Sh _|apply St_)) (by first|exact KI _|exact KN _ _ _|exact KL _|exact KU _ _ _|exact Ke _ _ _|rfl|simp [KN,KI,KL]) ?_)
  refine KA (KF rfl) (Nb rfl) ?_
  refine KG (Ka ?_)
  refine ⟨[_,_],.cons ⟨_,_,_,rfl,(by repeat (first|exact Mh _|apply Mt)),by exact KJ Try.underlying60 rfl sz_60⟩ (.cons rfl .nil),fun a w' hr=>⟨?_,hr.fr.below⟩⟩
  rfl
theorem c_affMul_none (id:Int) (K:Nat) (X Y:Nat) (i:Bool) (w:World) (h:cvI id = none):Calls Try.prog 91 ([.int .i64 id,natV K,ptV X Y i]:List Value).toArray w (fun e w'=>e = .returned (.tuple #[ptV 0 0 false,.int .i64 ((1400:Nat):Int)])∧Below w.heap.size w w'):=by
  refine KAB (N:=15) (rs:=[.cell 6 60,.tmp 7]) [] Try.func91 rfl Try.ntmps91 Try.results91 (Nb rfl) trivial rfl ?_
  show LCode _ _ _ ⟨_,_⟩ _
  refine KD (KB ?_)
  refine KH rfl (KS (KQ (Kn rfl) (Nb rfl) (fun b4=>?_)))
  refine KH rfl (KS (KQ (Kn rfl) (Nb rfl) (fun b5=>?_)))
  refine KH rfl (KS (KQ (Kb zr_60) (Nb rfl) (fun b6=>?_)))
  refine KA (KF (v:=.int .i64 ((0:Nat):Int)) rfl) (Nb rfl) ?_
  refine KG ?_
  refine KD (KB ?_)
  refine KA (KE rfl) (Nb rfl) ?_
  refine LOps.det (KK rfl (by repeat (first|exact Mh _|apply Mt)) (by exact KJ Try.underlying60 rfl sz_60)) (Nb rfl) ?_
  refine LOps.det (KK rfl (by repeat (first|exact Mh _|apply Mt)) (by exact KJ Try.underlying60 rfl sz_60)) (Nb rfl) ?_
  refine KA (Det.makeFuncC1 rfl) (Nb rfl) ?_
  refine KH rfl (KS (KR (first:=[]) rfl en_130 rfl (Nb rfl) (fun w hw=>c_do_none id X Y i X Y i _ w h) ?_))
  refine KA (KZ rfl rfl) (Nb rfl) ?_
  refine KA (KZ rfl rfl) (Nb rfl) ?_
  refine KH rfl (KO rfl rfl sz_60 (by repeat (first|exact Kl _|exact Kz _ _ _|exact Km _|exact Ko _ _ _|exact Ky _ _ _|exact KW|refine KT rfl ?_|refine KX ?_ ?_)) (by repeat (first|exact Sh _|apply St_)) (by first|exact KI _|exact KN _ _ _|exact KL _|exact KU _ _ _|exact Ke _ _ _|rfl|simp [KN,KI,KL]) ?_)
  refine KA (KF rfl) (Nb rfl) ?_
  refine KG (Ka ?_)
  refine ⟨[_,_],.cons ⟨_,_,_,rfl,(by repeat (first|exact Mh _|apply Mt)),by exact KJ Try.underlying60 rfl sz_60⟩ (.cons rfl .nil),fun a w' hr=>⟨?_,hr.fr.below⟩⟩
  rfl
theorem c_affMul_off (id:Int) (V:Cv) (K:Nat) (X Y:Nat) (i:Bool) (w:World) (h:cvI id = some V) (hX:X<W9) (hY:Y<W9) (ho:onB V.p V.a V.b X Y i = false):Calls Try.prog 91 ([.int .i64 id,natV K,ptV X Y i]:List Value).toArray w (fun e w'=>e = .returned (.tuple #[ptV 0 0 false,.int .i64 ((1401:Nat):Int)])∧Below w.heap.size w w'):=by
  refine KAB (N:=15) (rs:=[.cell 6 60,.tmp 7]) [] Try.func91 rfl Try.ntmps91 Try.results91 (Nb rfl) trivial rfl ?_
  show LCode _ _ _ ⟨_,_⟩ _
  refine KD (KB ?_)
  refine KH rfl (KS (KQ (Kn rfl) (Nb rfl) (fun b4=>?_)))
  refine KH rfl (KS (KQ (Kn rfl) (Nb rfl) (fun b5=>?_)))
  refine KH rfl (KS (KQ (Kb zr_60) (Nb rfl) (fun b6=>?_)))
  refine KA (KF (v:=.int .i64 ((0:Nat):Int)) rfl) (Nb rfl) ?_
  refine KG ?_
  refine KD (KB ?_)
  refine KA (KE rfl) (Nb rfl) ?_
  refine LOps.det (KK rfl (by repeat (first|exact Mh _|apply Mt)) (by exact KJ Try.underlying60 rfl sz_60)) (Nb rfl) ?_
  refine LOps.det (KK rfl (by repeat (first|exact Mh _|apply Mt)) (by exact KJ Try.underlying60 rfl sz_60)) (Nb rfl) ?_
  refine KA (Det.makeFuncC1 rfl) (Nb rfl) ?_
  refine KH rfl (KS (KR (first:=[]) rfl en_130 rfl (Nb rfl) (fun w hw=>c_do_off id V X Y i X Y i _ w h hX hY ho) ?_))
  refine KA (KZ rfl rfl) (Nb rfl) ?_
  refine KA (KZ rfl rfl) (Nb rfl) ?_
  refine KH rfl (KO rfl rfl sz_60 (by repeat (first|exact Kl _|exact Kz _ _ _|exact Km _|exact Ko _ _ _|exact Ky _ _ _|exact KW|refine KT rfl ?_|refine KX ?_ ?_)) (by repeat (first|exact Sh _|apply St_)) (by first|exact KI _|exact KN _ _ _|exact KL _|exact KU _ _ _|exact Ke _ _ _|rfl|simp [KN,KI,KL]) ?_)
  refine KA (KF rfl) (Nb rfl) ?_
  refine KG (Ka ?_)
  refine ⟨[_,_],.cons ⟨_,_,_,rfl,(by repeat (first|exact Mh _|apply Mt)),by exact KJ Try.underlying60 rfl sz_60⟩ (.cons rfl .nil),fun a w' hr=>⟨?_,hr.fr.below⟩⟩
  rfl
theorem c_affMul (id:Int) (V:Cv) (K:Nat) (P:Pt V.p) (w:World) (h:cvI id = some V) (hP:On V.A V.B P) (hK:K<W9):Calls Try.prog 91 ([.int .i64 id,natV K,ptP P]:List Value).toArray w (fun e w'=>e = .returned (.tuple #[ptP (pmul V.A P K),.int .i64 ((0:Nat):Int)])∧Below w.heap.size w w'):=by
  obtain ⟨hok,hid⟩:=cvI_ok h
  refine KAB (N:=15) (rs:=[.cell 6 60,.tmp 7]) [] Try.func91 rfl Try.ntmps91 Try.results91 (Nb rfl) trivial rfl ?_
  show LCode _ _ _ ⟨_,_⟩ _
  refine KD (KB ?_)
  refine KH rfl (KS (KQ (Kn rfl) (Nb rfl) (fun b4=>?_)))
  refine KH rfl (KS (KQ (Kn rfl) (Nb rfl) (fun b5=>?_)))
  refine KH rfl (KS (KQ (Kb zr_60) (Nb rfl) (fun b6=>?_)))
  refine KA (KF (v:=.int .i64 ((0:Nat):Int)) rfl) (Nb rfl) ?_
  refine KG ?_
  refine KD (KB ?_)
  refine KA (KE rfl) (Nb rfl) ?_
  refine LOps.det (KK rfl (by repeat (first|exact Mh _|apply Mt)) (by exact KJ Try.underlying60 rfl sz_60)) (Nb rfl) ?_
  refine LOps.det (KK rfl (by repeat (first|exact Mh _|apply Mt)) (by exact KJ Try.underlying60 rfl sz_60)) (Nb rfl) ?_
  refine KA (Det.makeFuncC1 rfl) (Nb rfl) ?_
  refine KH rfl (KS (KR (first:=[]) rfl en_130 rfl (Nb rfl) (fun w hw=>c_do_okK id V P P (pmul V.A P K) 133 K b4 w h hP hP en_133 (fun b f bd w h1 h2 h3 hk=>c_gmul V b f bd hok K b4 hK P _ _ _ w h1 h2 h3 hP hk) (show (Item.blk b4 ⟨true,_,_,_⟩).holds w from hw _ (by repeat (first|exact Mh _|apply Mt)))) ?_))
  refine KA (KZ rfl rfl) (Nb rfl) ?_
  refine KA (KZ rfl rfl) (Nb rfl) ?_
  refine KH rfl (KO rfl rfl sz_60 (by repeat (first|exact Kl _|exact Kz _ _ _|exact Km _|exact Ko _ _ _|exact Ky _ _ _|exact KW|refine KT rfl ?_|refine KX ?_ ?_)) (by repeat (first|exact Sh _|apply St_)) (by first|exact KI _|exact KN _ _ _|exact KL _|exact KU _ _ _|exact Ke _ _ _|rfl|simp [KN,KI,KL]) ?_)
  refine KA (KF rfl) (Nb rfl) ?_
  refine KG (Ka ?_)
  refine ⟨[_,_],.cons ⟨_,_,_,rfl,(by repeat (first|exact Mh _|apply Mt)),by exact KJ Try.underlying60 rfl sz_60⟩ (.cons rfl .nil),fun a w' hr=>⟨?_,hr.fr.below⟩⟩
  rfl
end Go.Proofs.Ytljblbgogjieaaa
set_option linter.unusedVariables false
set_option linter.unusedSimpArgs false
set_option maxRecDepth 20000
namespace Go.Proofs.Ytljblbgogjieaaa
open Go Go.RowKit
open Grp
theorem c_r_GP (Q:CQ) (V:Cv) (w:World) (hc:(crvI Q V).holds w) (hok:V.Ok):Calls Try.prog 80 ([.agg (crvL Q V).toArray]:List Value).toArray w (fun e w'=>Num2R w (crvI Q V).fp (xv V.G) (yv V.G) (fun u v=>rpV u v (iv V.G)) e w'):=by
  rw [xG hok,yG hok]
  exact c_r_G Q V w hc
theorem c_r_OnB (Q:CQ) (V:Cv) (q r:NV) (X Y:Nat) (i b:Bool) (w:World) (hc:(crvI Q V).holds w) (hok:V.Ok) (hq:(numT q X).holds w) (hr:(numT r Y).holds w) (hX:D.nw X≤1000) (hY:D.nw Y≤1000) (hb:onB V.p V.a V.b X Y i = b):Calls Try.prog 62 ([.agg (crvL Q V).toArray,rpV (numV q X) (numV r Y) i]:List Value).toArray w (fun e w'=>e = .returned (.bool b)∧Below w.heap.size w w'):=by
  have:=c_r_On Q V q r X Y i w hc hok hq hr hX hY
  rwa [hb] at this
theorem c_r_OnP (Q:CQ) (V:Cv) (q r:NV) (P:Pt V.p) (w:World) (hc:(crvI Q V).holds w) (hok:V.Ok) (hq:(numT q (xv P)).holds w) (hr:(numT r (yv P)).holds w) (hP:On V.A V.B P):Calls Try.prog 62 ([.agg (crvL Q V).toArray,rpV (numV q (xv P)) (numV r (yv P)) (iv P)]:List Value).toArray w (fun e w'=>e = .returned (.bool true)∧Below w.heap.size w w') :=
  c_r_OnB Q V q r _ _ _ true w hc hok hq hr (Nat.le_trans (nw_521 (Nat.lt_trans (xv_lt P) hok.bounds.2.1)) (by decide)) (Nat.le_trans (nw_521 (Nat.lt_trans (yv_lt P) hok.bounds.2.1)) (by decide)) (onB_on hP)
theorem c_r_OutP (V:Cv) (q r:NV) (P:Pt V.p) (w:World) (hq:(numT q (xv P)).holds w) (hr:(numT r (yv P)).holds w):Calls Try.prog 66 ([rpV (numV q (xv P)) (numV r (yv P)) (iv P)]:List Value).toArray w (fun e w'=>e = .returned (ptP P)∧Below w.heap.size w w'):=c_r_Out q r (xv P) (yv P) (iv P) w hq hr
theorem c_r_InP (V:Cv) (hok:V.Ok) (P:Pt V.p) (w:World):Calls Try.prog 63 ([ptP P]:List Value).toArray w (fun e w'=>Num2R w [] (xv P) (yv P) (fun u v=>rpV u v (iv P)) e w'):=c_r_In (xv P) (yv P) (iv P) w (pt_w9 hok P).1 (pt_w9 hok P).2
end Go.Proofs.Ytljblbgogjieaaa
set_option linter.unusedVariables false
set_option linter.unusedSimpArgs false
set_option maxRecDepth 20000
namespace Go.Proofs.Ytljblbgogjieaaa
open Go Go.RowKit
open Grp
theorem c_affMulR (id:Int) (V:Cv) (K:Nat) (P R:Pt V.p) (w:World) (h:cvI id = some V) (hP:On V.A V.B P) (hK:K<W9) (hR:pmul V.A P K = R):Calls Try.prog 91 ([.int .i64 id,natV K,ptP P]:List Value).toArray w (fun e w'=>e = .returned (.tuple #[ptP R,.int .i64 ((0:Nat):Int)])∧Below w.heap.size w w'):=hR ▸ c_affMul id V K P w h hP hK
theorem gg_ne {V:Cv} (hok:V.Ok):padd V.A V.G V.G≠V.G:=fun e=>by
  have h:=padd_cancel hok.crv hok.on (B:=.inf) trivial hok.on (e.trans (hok.inf_add hok.on).symm)
  unfold Cv.G at h; cases h
theorem two_mul {V:Cv} (hok:V.Ok) {P:Pt V.p} (hP:On V.A V.B P):padd V.A P P = pmul V.A P 2:=by
  show _ = padd V.A (padd V.A .inf P) P
  rw [hok.inf_add hP]
theorem c_awake14  (w:World)  : Calls Try.prog 90 ([]:List Value).toArray w (fun e w'=>e = .returned (.bool true)∧Below w.heap.size w w'):=by
  obtain ⟨V,hV⟩:∃ V,V = cv13:=⟨_,rfl⟩
  have h:cvI 13 = some V:=by rw [hV]; rfl
  obtain ⟨hok,hid⟩:=cvI_ok h
  have hn13:V.n = 223:=by rw [hV]; rfl
  obtain ⟨hb5,hb521,hba,hbb,hbx,hby,hbn,hbo,hbo2,hbb1,hbn1⟩:=hok.bounds
  have hsz:=hok.sz
  have hsp:=hsz.p
  have hsa:=hsz.a
  have hsb:=hsz.b
  have hp0:V.p≠0:=by omega
  have hpp:0<V.p:=by omega
  have hm17:∀ k,D.nw (k%V.p)≤17:=fun k=>Nat.le_trans (D.nw_mono (Nat.le_of_lt (Nat.mod_lt k hpp))) hsp
  have ho:onB V.p V.a V.b 1 1 false = false:=by rw [hV]; decide
  refine KAB (N:=89) (rs:=[.tmp 0]) [] Try.func90 rfl Try.ntmps90 Try.results90 (Nb rfl) trivial rfl ?_
  show LCode _ _ _ ⟨_,_⟩ _
  refine KD (KB ?_)
  refine KA (KF rfl) (Nb rfl) ?_
  refine KG ?_
  refine KD (KB ?_)
  refine KH rfl (KS (Ku (Post:=fun v its=>∃ Q,v = .tuple #[.agg (crvL Q V).toArray,.bool true]∧its = [crvI Q V]) (first:=[]) rfl en_43 rfl (Nb rfl) (fun w1 hw hs=>(c_r_Get _ V w1 h).mono fun e w' ⟨Q,h1,h2,h3,h4⟩=>⟨_,_,⟨Q,rfl,rfl⟩,h1,KAs h4 (by intro x hx; simp at hx; subst hx; exact h2) (by intro x hx; simp at hx; subst hx; rfl) (by intro x hx k hk; simp at hx; subst hx; exact .inl (h3 k hk))⟩) ?_))
  rintro _ _ ⟨Q,rfl,rfl⟩
  refine KA (KE rfl) (Nb rfl) ?_
  refine KA (KZ rfl rfl) (Nb rfl) ?_
  refine KA (KZ rfl rfl) (Nb rfl) ?_
  refine KH rfl (KS (KQ (Kb zr_31) (Nb rfl) (fun b1=>?_)))
  refine KH rfl (KO rfl rfl sz_31 (by repeat (first|exact KW|refine KT rfl ?_)) (by repeat (first|exact Sh _|apply St_)) (by rfl) ?_)
  refine KA (KF rfl) (Nb rfl) ?_
  refine KG ?_
  refine KD (KB ?_)
  refine LOps.det (KK rfl (by repeat (first|exact Mh _|apply Mt)) (by exact KJ Try.underlying31 rfl sz_31)) (Nb rfl) ?_
  refine KH rfl (KS (Ku (first:=[]) rfl en_80 rfl (Nb rfl) (fun w hw hs=>(c_r_GP Q V w (hw _ (by repeat (first|exact Mh _|apply Mt))) hok).mono fun e w' h=>Num2R.q (Old.one (x:=crvI Q V) (by repeat (first|exact Mh _|apply Mt)) rfl) hs h) ?_))
  rintro _ _ ⟨qga,qgb,rfl,rfl,hnga,hngb⟩
  refine KH rfl (KS (KR (first:=[]) rfl en_66 rfl (Nb rfl) (fun w hw=>c_r_OutP V qga qgb (V.G) w (hw _ (by repeat (first|exact Mh _|apply Mt))) (hw _ (by repeat (first|exact Mh _|apply Mt)))) ?_))
  refine KH rfl (KS (KQ (Kb zr_60) (Nb rfl) (fun b3=>?_)))
  refine KH rfl (KO rfl rfl sz_60 (by exact Ko _ _ _) (by repeat (first|exact Sh _|apply St_)) (by exact KU _ _ _) ?_)
  refine KG ?_
  refine KD (KB ?_)
  refine LOps.det (KK rfl (by repeat (first|exact Mh _|apply Mt)) (by exact KJ Try.underlying60 rfl sz_60)) (Nb rfl) ?_
  refine LOps.det (KK rfl (by repeat (first|exact Mh _|apply Mt)) (by exact KJ Try.underlying60 rfl sz_60)) (Nb rfl) ?_
  refine KH rfl (KS (KR (first:=[]) rfl en_88 rfl (Nb rfl) (fun w hw=>c_affAdd 13 V V.G V.G (padd V.A V.G V.G) w h hok.on hok.on rfl) ?_))
  refine KA (KE rfl) (Nb rfl) ?_
  refine KA (KZ rfl rfl) (Nb rfl) ?_
  refine KA (KZ rfl rfl) (Nb rfl) ?_
  refine KH rfl (KS (KQ (Kb zr_60) (Nb rfl) (fun b4=>?_)))
  refine KH rfl (KO rfl rfl sz_60 (by exact Ko _ _ _) (by repeat (first|exact Sh _|apply St_)) (by exact KU _ _ _) ?_)
  refine KA (KF rfl) (Nb rfl) ?_
  refine KG ?_
  refine KD ?_
  refine Kc [7] (by kernel_rfl) ?_
  refine LAny.take 1 rfl (by kernel_rfl) (Nb rfl) (KK rfl (by repeat (first|exact Mh _|apply Mt)) (by exact KJ Try.underlying60 rfl sz_60)) ?_
  refine LAny.toP ?_
  refine KAT 6 rfl (.inl zr_60) (Nb rfl) rfl rfl rfl ?_
  refine KAD 0 rfl rfl rfl (Nb rfl) (by kernel_rfl) rfl (KAL (first:=[]) rfl en_55 rfl (fun w hw=>c_One 2 w (by decide))) ?_
  rintro _ _ ⟨rfl,rfl⟩
  refine KAD 2 rfl rfl rfl (Nb rfl) (by kernel_rfl) rfl (KAL (first:=[]) rfl en_91 rfl (fun w hw=>c_affMul 13 V 2 V.G w h hok.on (u64_w9 (by decide)))) ?_
  rintro _ _ ⟨rfl,rfl⟩
  refine KAR 3 rfl (by kernel_rfl) (Nb rfl) rfl (KE rfl) ?_
  refine KAR 4 rfl (by kernel_rfl) (Nb rfl) rfl (KZ rfl rfl) ?_
  refine KAR 5 rfl (by kernel_rfl) (Nb rfl) rfl (KZ rfl rfl) ?_
  refine KAY (by kernel_rfl) (fun b6=>?_)
  refine KAa ?_
  refine Ks 7 rfl rfl (by kernel_rfl) (by kernel_rfl) (KO rfl rfl sz_60 (by exact Ko _ _ _) (by repeat (first|exact Sh _|apply St_)) (by exact KU _ _ _) ?_)
  refine KC 8 rfl (by kernel_rfl) (Nb rfl) (KF rfl) ?_
  refine Kp (by kernel_rfl) ?_
  refine KD ?_
  refine Kc [9] (by kernel_rfl) ?_
  refine LAny.take 0 rfl (by kernel_rfl) (Nb rfl) (KK rfl (by repeat (first|exact Mh _|apply Mt)) (by exact KJ Try.underlying60 rfl sz_60)) ?_
  refine LAny.toP ?_
  refine KAT 8 rfl (.inl zr_60) (Nb rfl) rfl rfl rfl ?_
  refine KAD 1 rfl rfl rfl (Nb rfl) (by kernel_rfl) rfl (KAL (first:=[]) rfl en_55 rfl (fun w hw=>c_One 1 w (by decide))) ?_
  rintro _ _ ⟨rfl,rfl⟩
  refine KAD 2 rfl rfl rfl (Nb rfl) (by kernel_rfl) rfl (KAL (first:=[]) rfl en_55 rfl (fun w hw=>c_One 1 w (by decide))) ?_
  rintro _ _ ⟨rfl,rfl⟩
  refine KAR 3 rfl (by kernel_rfl) (Nb rfl) rfl (KV (KAM pl_60 zr_60 rfl (fill_pt _ _)) rfl) ?_
  refine KAD 4 rfl rfl rfl (Nb rfl) (by kernel_rfl) rfl (KAL (first:=[]) rfl en_88 rfl (fun w hw=>c_affAdd_off2 13 V V.G 1 1 false w h hok.on (u64_w9 (by decide)) (u64_w9 (by decide)) ho)) ?_
  rintro _ _ ⟨rfl,rfl⟩
  refine KAR 5 rfl (by kernel_rfl) (Nb rfl) rfl (KE rfl) ?_
  refine KAR 6 rfl (by kernel_rfl) (Nb rfl) rfl (KZ rfl rfl) ?_
  refine KAR 7 rfl (by kernel_rfl) (Nb rfl) rfl (KZ rfl rfl) ?_
  refine KAY (by kernel_rfl) (fun b8=>?_)
  refine KAa ?_
  refine Ks 9 rfl rfl (by kernel_rfl) (by kernel_rfl) (KO rfl rfl sz_60 (by exact Ko _ _ _) (by repeat (first|exact Sh _|apply St_)) (by exact KU _ _ _) ?_)
  refine KC 10 rfl (by kernel_rfl) (Nb rfl) (KF rfl) ?_
  refine Kp (by kernel_rfl) ?_
  refine KD ?_
  refine Kc [7] (by kernel_rfl) ?_
  refine LAny.take 1 rfl (by kernel_rfl) (Nb rfl) (KK rfl (by repeat (first|exact Mh _|apply Mt)) (by exact KJ Try.underlying60 rfl sz_60)) ?_
  refine LAny.toP ?_
  refine KAT 6 rfl (.inl zr_60) (Nb rfl) rfl rfl rfl ?_
  refine KAD 0 rfl rfl rfl (Nb rfl) (by kernel_rfl) rfl (KAL (first:=[]) rfl en_55 rfl (fun w hw=>c_One 223 w (by decide))) ?_
  rintro _ _ ⟨rfl,rfl⟩
  refine KAD 2 rfl rfl rfl (Nb rfl) (by kernel_rfl) rfl (KAL (first:=[]) rfl en_91 rfl (fun w hw=>c_affMulR 13 V 223 V.G .inf w h hok.on (u64_w9 (by decide)) (by rw [← hn13]; exact hok.ord))) ?_
  rintro _ _ ⟨rfl,rfl⟩
  refine KAR 3 rfl (by kernel_rfl) (Nb rfl) rfl (KE rfl) ?_
  refine KAR 4 rfl (by kernel_rfl) (Nb rfl) rfl (KZ rfl rfl) ?_
  refine KAR 5 rfl (by kernel_rfl) (Nb rfl) rfl (KZ rfl rfl) ?_
  refine KAY (by kernel_rfl) (fun b10=>?_)
  refine KAa ?_
  refine Ks 7 rfl rfl (by kernel_rfl) (by kernel_rfl) (KO rfl rfl sz_60 (by exact Ko _ _ _) (by repeat (first|exact Sh _|apply St_)) (by exact KU _ _ _) ?_)
  refine KC 8 rfl (by kernel_rfl) (Nb rfl) (KF rfl) ?_
  refine Kp (by kernel_rfl) ?_
  refine KD (KB ?_)
  refine LOps.det (KK rfl (by repeat (first|exact Mh _|apply Mt)) (by exact KJ Try.underlying60 rfl sz_60)) (Nb rfl) ?_
  refine KH rfl (KS (KR (first:=[]) rfl en_89 rfl (Nb rfl) (fun w hw=>c_affNeg_none 0 (xv V.G) (yv V.G) (iv V.G) w rfl) ?_))
  refine KA (KE rfl) (Nb rfl) ?_
  refine KA (KZ rfl rfl) (Nb rfl) ?_
  refine KA (KZ rfl rfl) (Nb rfl) ?_
  refine KH rfl (KS (KQ (Kb zr_60) (Nb rfl) (fun b12=>?_)))
  refine KH rfl (KO rfl rfl sz_60 (by exact Ko _ _ _) (by repeat (first|exact Sh _|apply St_)) (by exact KU _ _ _) ?_)
  refine KA (KF rfl) (Nb rfl) ?_
  refine KG ?_
  refine KD (KB ?_)
  refine KA (KE rfl) (Nb rfl) ?_
  refine KH rfl (KS (KR (first:=[]) rfl en_46 rfl (Nb rfl) (fun w hw=>c_Num _ w) ?_))
  refine KA (KP (v:=.bool true) rfl rfl (br_t (KAq (b:=0)) (by first|rfl|assumption|omega|(simp; done)))) (Nb rfl) ?_
  refine KA (KE rfl) (Nb rfl) ?_
  refine KAU rfl rfl (KK rfl (by repeat (first|exact Mh _|apply Mt)) (by exact KJ Try.underlying60 rfl sz_60)) (Nb rfl) ?_
  refine KAU rfl rfl (KK rfl (by repeat (first|exact Mh _|apply Mt)) (by exact KJ Try.underlying60 rfl sz_60)) (Nb rfl) ?_
  refine Kf rfl rfl (KV (Det.eqa (by kernel_rfl) (fun w=>eq_ptP_t hok (P:=padd V.A V.G V.G) (Q:=pmul V.A V.G 2) (two_mul hok hok.on) 10000 (by decide) w) rfl rfl) (show _ = Value.bool true by rfl)) (Nb rfl) ?_
  refine KA (Kw rfl rfl) (Nb rfl) ?_
  refine KA (KE rfl) (Nb rfl) ?_
  refine Kf rfl rfl (KE rfl) (Nb rfl) ?_
  refine KAf rfl rfl rfl (KS (KR (first:=[]) rfl en_46 rfl (Nb rfl) (fun w hw=>c_Num _ w) ?_))
  refine Kf rfl rfl (KP (v:=.bool true) rfl rfl (br_t (KAq (b:=0)) (by first|rfl|assumption|omega|(simp; done)))) (Nb rfl) ?_
  refine KA (Kw rfl rfl) (Nb rfl) ?_
  refine KA (KE rfl) (Nb rfl) ?_
  refine KAU rfl rfl (KK rfl (by repeat (first|exact Mh _|apply Mt)) (by exact KJ Try.underlying60 rfl sz_60)) (Nb rfl) ?_
  refine KAU rfl rfl (KK rfl (by repeat (first|exact Mh _|apply Mt)) (by exact KJ Try.underlying60 rfl sz_60)) (Nb rfl) ?_
  refine Kf rfl rfl (KV (Det.nea (by kernel_rfl) (fun w=>eq_ptP_f hok (gg_ne hok) 10000 (by decide) w) rfl rfl) (show _ = Value.bool true by rfl)) (Nb rfl) ?_
  refine KA (Kw rfl rfl) (Nb rfl) ?_
  refine KA (KE rfl) (Nb rfl) ?_
  refine Kf rfl rfl (KE rfl) (Nb rfl) ?_
  refine KAf rfl rfl rfl (KS (KR (first:=[]) rfl en_46 rfl (Nb rfl) (fun w hw=>c_Num _ w) ?_))
  refine Kf rfl rfl (KP (v:=.bool true) rfl rfl (br_t (KAq (b:=1401)) (by first|rfl|assumption|omega|(simp; done)))) (Nb rfl) ?_
  refine KA (Kw rfl rfl) (Nb rfl) ?_
  refine KA (KE rfl) (Nb rfl) ?_
  refine Kf rfl rfl (KM (o':=18) Try.underlying60 rfl rfl rfl sz_4 (by decide)) (Nb rfl) ?_
  refine KAU rfl rfl (KK rfl (by repeat (first|exact Mh _|apply Mt)) (KY Try.underlying4 rfl (by exact pt_gt _ _ _))) (Nb rfl) ?_
  refine KA (Kw rfl rfl) (Nb rfl) ?_
  refine KA (KE rfl) (Nb rfl) ?_
  refine Kf rfl rfl (KE rfl) (Nb rfl) ?_
  refine KAf rfl rfl rfl (KS (KR (first:=[]) rfl en_46 rfl (Nb rfl) (fun w hw=>c_Num _ w) ?_))
  refine Kf rfl rfl (KP (v:=.bool true) rfl rfl (br_t (KAq (b:=0)) (by first|rfl|assumption|omega|(simp; done)))) (Nb rfl) ?_
  refine KA (Kw rfl rfl) (Nb rfl) ?_
  refine KA (KE rfl) (Nb rfl) ?_
  refine Kf rfl rfl (KE rfl) (Nb rfl) ?_
  refine KAf rfl rfl rfl (KS (KR (first:=[]) rfl en_46 rfl (Nb rfl) (fun w hw=>c_Num _ w) ?_))
  refine Kf rfl rfl (KP (v:=.bool true) rfl rfl (br_t (KAq (b:=1400)) (by first|rfl|assumption|omega|(simp; done)))) (Nb rfl) ?_
  refine KA (Kw rfl rfl) (Nb rfl) ?_
  refine KA (KF rfl) (Nb rfl) ?_
  refine KG (Ka ?_)
  refine ⟨[_],.cons rfl .nil,fun a w' hr=>⟨?_,hr.fr.below⟩⟩
  rfl
theorem c_Some (Q:CQ) (V:Cv) (k:Nat) (P:Pt V.p) (w:World) (hc:(crvI Q V).holds w) (hok:V.Ok) (hk:k<18446744073709551616) (hP:pmul V.A V.G k = P):Calls Try.prog 92 ([.agg (crvL Q V).toArray,.int .u64 ((k:Nat):Int)]:List Value).toArray w (fun e w'=>e = .returned (ptP P)∧Below w.heap.size w w'):=by
  have hdk:=nw_w9_dig (u64_w9 hk)
  refine KAB (N:=13) (rs:=[.cell 4 60]) [crvI Q V] Try.func92 rfl Try.ntmps92 Try.results92 (Nb rfl) ⟨hc,trivial⟩ rfl ?_
  show LCode _ _ _ ⟨_,_⟩ _
  refine KD (KB ?_)
  refine KH rfl (KS (KQ (Kn rfl) (Nb rfl) (fun b2=>?_)))
  refine KH rfl (KS (KQ (Kb zr_60) (Nb rfl) (fun b4=>?_)))
  refine KG ?_
  refine KD ?_
  refine Kc [8] (by kernel_rfl) ?_
  refine LAny.take 0 rfl (by kernel_rfl) (Nb rfl) (KK rfl (by repeat (first|exact Mh _|apply Mt)) (by exact KJ Try.underlying31 rfl sz_31)) ?_
  refine KC 1 rfl (by kernel_rfl) (Nb rfl) (KE rfl) ?_
  refine LAny.take 4 rfl (by kernel_rfl) (Nb rfl) (KK rfl (by repeat (first|exact Mh _|apply Mt)) (by exact KJ Try.underlying31 rfl sz_31)) ?_
  refine Kv 2 rfl rfl (by kernel_rfl) (KR (first:=[]) rfl en_55 rfl (Nb rfl) (fun w hw=>c_One k w hk) ?_)
  refine Kv 3 rfl rfl (by kernel_rfl) (Ku (first:=[]) rfl en_52 rfl (Nb rfl) (fun w hw hs=>(c_n_From (k) (u64_w9 hk) w).mono fun e w' h=>KAn (Old.nil _) hs h) ?_)
  rintro _ _ ⟨qk,rfl,rfl,hnk⟩
  refine Kv 5 rfl rfl (by kernel_rfl) (Ku (first:=[]) rfl en_80 rfl (Nb rfl) (fun w hw hs=>(c_r_GP Q V w (hw _ (by repeat (first|exact Mh _|apply Mt))) hok).mono fun e w' h=>Num2R.q (Old.one (x:=crvI Q V) (by repeat (first|exact Mh _|apply Mt)) rfl) hs h) ?_)
  rintro _ _ ⟨qga,qgb,rfl,rfl,hnga,hngb⟩
  refine Kv 6 rfl rfl (by kernel_rfl) (Ku (first:=[]) rfl en_64 rfl (Nb rfl) (fun w hw hs=>(c_r_Times Q V qk (k) qga qgb (V.G) (P) w (hw _ (by repeat (first|exact Mh _|apply Mt))) hok (hw _ (by repeat (first|exact Mh _|apply Mt))) (by omega) (hw _ (by repeat (first|exact Mh _|apply Mt))) (hw _ (by repeat (first|exact Mh _|apply Mt))) (hok.on) (hP)).mono fun e w' h=>Num2R.q (Old.pt (by repeat (first|exact Mh _|apply Mt)) (by repeat (first|exact Mh _|apply Mt)) (Old.nil _)) hs h) ?_)
  rintro _ _ ⟨qpa,qpb,rfl,rfl,hnpa,hnpb⟩
  refine Kv 7 rfl rfl (by kernel_rfl) (KR (first:=[]) rfl en_66 rfl (Nb rfl) (fun w hw=>c_r_OutP V qpa qpb (P) w (hw _ (by repeat (first|exact Mh _|apply Mt))) (hw _ (by repeat (first|exact Mh _|apply Mt)))) ?_)
  refine Ks 8 rfl rfl (by kernel_rfl) (by kernel_rfl) (KO rfl rfl sz_60 (by exact Ko _ _ _) (by repeat (first|exact Sh _|apply St_)) (by exact KU _ _ _) ?_)
  refine Kp (by kernel_rfl) ?_
  refine Ka ?_
  refine ⟨[_],.cons ⟨_,_,_,rfl,(by repeat (first|exact Mh _|apply Mt)),by exact KJ Try.underlying60 rfl sz_60⟩ .nil,fun a w' hr=>⟨?_,hr.fr.below⟩⟩
  rfl
theorem c_Affines_none (id:Int) (X Y:Nat) (i:Bool) (X2 Y2:Nat) (j:Bool) (w:World) (h:cvI id = none):Calls Try.prog 21 ([.int .i64 id,ptV X Y i,ptV X2 Y2 j]:List Value).toArray w (fun e w'=>e = .returned (.bool true)∧Below w.heap.size w w'):=by
  refine KAB (N:=123) (rs:=[.tmp 6]) [] Try.func21 rfl Try.ntmps21 Try.results21 (Nb rfl) trivial rfl ?_
  show LCode _ _ _ ⟨_,_⟩ _
  refine KD (KB ?_)
  refine KH rfl (KS (KQ (Kn rfl) (Nb rfl) (fun b4=>?_)))
  refine KH rfl (KS (KQ (Kn rfl) (Nb rfl) (fun b5=>?_)))
  refine KA (KF rfl) (Nb rfl) ?_
  refine KG ?_
  refine KD (KB ?_)
  refine KA (KE rfl) (Nb rfl) ?_
  refine KH rfl (KS (KR (first:=[]) rfl en_43 rfl (Nb rfl) (fun w hw=>c_r_Get_none _ w h) ?_))
  refine KA (KE rfl) (Nb rfl) ?_
  refine KA (KZ rfl rfl) (Nb rfl) ?_
  refine KA (KZ rfl rfl) (Nb rfl) ?_
  refine KH rfl (KS (KQ (Kb zr_31) (Nb rfl) (fun b7=>?_)))
  refine KH rfl (KO rfl rfl sz_31 (by repeat (first|exact KW|refine KT rfl ?_)) (by repeat (first|exact Sh _|apply St_)) (by rfl) ?_)
  refine KA (KF rfl) (Nb rfl) ?_
  refine KG ?_
  refine KD (KB ?_)
  refine KA (KE rfl) (Nb rfl) ?_
  refine LOps.det (KK rfl (by repeat (first|exact Mh _|apply Mt)) (by exact KJ Try.underlying60 rfl sz_60)) (Nb rfl) ?_
  refine LOps.det (KK rfl (by repeat (first|exact Mh _|apply Mt)) (by exact KJ Try.underlying60 rfl sz_60)) (Nb rfl) ?_
  refine KH rfl (KS (KR (first:=[]) rfl en_88 rfl (Nb rfl) (fun w hw=>c_affAdd_none id X Y i X2 Y2 j w h) ?_))
  refine KA (KE rfl) (Nb rfl) ?_
  refine KA (KZ rfl rfl) (Nb rfl) ?_
  refine KA (KZ rfl rfl) (Nb rfl) ?_
  refine KH rfl (KS (KQ (Kb zr_60) (Nb rfl) (fun b9=>?_)))
  refine KH rfl (KO rfl rfl sz_60 (by exact Ko _ _ _) (by repeat (first|exact Sh _|apply St_)) (by exact KU _ _ _) ?_)
  refine KA (KF rfl) (Nb rfl) ?_
  refine KG ?_
  refine KD (KB ?_)
  refine KA (KE rfl) (Nb rfl) ?_
  refine LOps.det (KK rfl (by repeat (first|exact Mh _|apply Mt)) (by exact KJ Try.underlying60 rfl sz_60)) (Nb rfl) ?_
  refine KH rfl (KS (KR (first:=[]) rfl en_89 rfl (Nb rfl) (fun w hw=>c_affNeg_none id X Y i w h) ?_))
  refine KA (KE rfl) (Nb rfl) ?_
  refine KA (KZ rfl rfl) (Nb rfl) ?_
  refine KA (KZ rfl rfl) (Nb rfl) ?_
  refine KH rfl (KS (KQ (Kb zr_60) (Nb rfl) (fun b11=>?_)))
  refine KH rfl (KO rfl rfl sz_60 (by exact Ko _ _ _) (by repeat (first|exact Sh _|apply St_)) (by exact KU _ _ _) ?_)
  refine KA (KF rfl) (Nb rfl) ?_
  refine KG ?_
  refine KD ?_
  refine KD (KB ?_)
  refine KA (KE rfl) (Nb rfl) ?_
  refine KA (KV (KAt rfl) (show _ = Value.bool true from rfl)) (Nb rfl) ?_
  refine KG ?_
  refine Kx rfl ?_
  refine KD (KB ?_)
  refine KA (KE rfl) (Nb rfl) ?_
  refine KH rfl (KS (KR (first:=[]) rfl en_46 rfl (Nb rfl) (fun w hw=>c_Num _ w) ?_))
  refine KA (KP (v:=.bool true) rfl rfl (br_t (KAq (b:=1400)) (by first|rfl|assumption|omega|(simp; done)))) (Nb rfl) ?_
  refine KA (KE rfl) (Nb rfl) ?_
  refine Kf rfl rfl (KE rfl) (Nb rfl) ?_
  refine KAf rfl rfl rfl (KS (KR (first:=[]) rfl en_46 rfl (Nb rfl) (fun w hw=>c_Num _ w) ?_))
  refine Kf rfl rfl (KP (v:=.bool true) rfl rfl (br_t (KAq (b:=1400)) (by first|rfl|assumption|omega|(simp; done)))) (Nb rfl) ?_
  refine KA (Kw rfl rfl) (Nb rfl) ?_
  refine KA (KE rfl) (Nb rfl) ?_
  refine KAU rfl rfl (KK rfl (by repeat (first|exact Mh _|apply Mt)) (by exact KJ Try.underlying60 rfl sz_60)) (Nb rfl) ?_
  refine Kf rfl rfl (KV (KAM pl_60 zr_60 rfl rfl) (show _ = ptV 0 0 false from pt_zero)) (Nb rfl) ?_
  refine Kf rfl rfl (KV (Det.eqa (by kernel_rfl) (fun w=>eq_pt_t zero_w9 zero_w9 10000 (by decide) w) rfl rfl) (show _ = Value.bool true by rfl)) (Nb rfl) ?_
  refine KA (Kw rfl rfl) (Nb rfl) ?_
  refine KA (KE rfl) (Nb rfl) ?_
  refine KAf rfl rfl rfl (KS (KR (first:=[]) rfl en_90 rfl (Nb rfl) (fun w hw=>c_awake14 w) ?_))
  refine KA (Kw rfl rfl) (Nb rfl) ?_
  refine KA (KF rfl) (Nb rfl) ?_
  refine KG (Ka ?_)
  refine ⟨[_],.cons rfl .nil,fun a w' hr=>⟨?_,hr.fr.below⟩⟩
  rfl
theorem c_Affines_off (id:Int) (V:Cv) (X Y:Nat) (i:Bool) (X2 Y2:Nat) (j:Bool) (w:World) (h:cvI id = some V) (hX:X<W9) (hY:Y<W9) (hX2:X2<W9) (hY2:Y2<W9) (ho:onB V.p V.a V.b X Y i = false):Calls Try.prog 21 ([.int .i64 id,ptV X Y i,ptV X2 Y2 j]:List Value).toArray w (fun e w'=>e = .returned (.bool true)∧Below w.heap.size w w'):=by
  obtain ⟨hok,hid⟩:=cvI_ok h
  have hdx:=nw_w9_dig hX
  have hdy:=nw_w9_dig hY
  refine KAB (N:=123) (rs:=[.tmp 6]) [] Try.func21 rfl Try.ntmps21 Try.results21 (Nb rfl) trivial rfl ?_
  show LCode _ _ _ ⟨_,_⟩ _
  refine KD (KB ?_)
  refine KH rfl (KS (KQ (Kn rfl) (Nb rfl) (fun b4=>?_)))
  refine KH rfl (KS (KQ (Kn rfl) (Nb rfl) (fun b5=>?_)))
  refine KA (KF rfl) (Nb rfl) ?_
  refine KG ?_
  refine KD (KB ?_)
  refine KA (KE rfl) (Nb rfl) ?_
  refine KH rfl (KS (Ku (Post:=fun v its=>∃ Q,v = .tuple #[.agg (crvL Q V).toArray,.bool true]∧its = [crvI Q V]) (first:=[]) rfl en_43 rfl (Nb rfl) (fun w1 hw hs=>(c_r_Get _ V w1 h).mono fun e w' ⟨Q,h1,h2,h3,h4⟩=>⟨_,_,⟨Q,rfl,rfl⟩,h1,KAs h4 (by intro x hx; simp at hx; subst hx; exact h2) (by intro x hx; simp at hx; subst hx; rfl) (by intro x hx k hk; simp at hx; subst hx; exact .inl (h3 k hk))⟩) ?_))
  rintro _ _ ⟨Q,rfl,rfl⟩
  refine KA (KE rfl) (Nb rfl) ?_
  refine KA (KZ rfl rfl) (Nb rfl) ?_
  refine KA (KZ rfl rfl) (Nb rfl) ?_
  refine KH rfl (KS (KQ (Kb zr_31) (Nb rfl) (fun b7=>?_)))
  refine KH rfl (KO rfl rfl sz_31 (by repeat (first|exact KW|refine KT rfl ?_)) (by repeat (first|exact Sh _|apply St_)) (by rfl) ?_)
  refine KA (KF rfl) (Nb rfl) ?_
  refine KG ?_
  refine KD (KB ?_)
  refine KA (KE rfl) (Nb rfl) ?_
  refine LOps.det (KK rfl (by repeat (first|exact Mh _|apply Mt)) (by exact KJ Try.underlying60 rfl sz_60)) (Nb rfl) ?_
  refine LOps.det (KK rfl (by repeat (first|exact Mh _|apply Mt)) (by exact KJ Try.underlying60 rfl sz_60)) (Nb rfl) ?_
  refine KH rfl (KS (KR (first:=[]) rfl en_88 rfl (Nb rfl) (fun w hw=>c_affAdd_off id V X Y i X2 Y2 j w h hX hY ho) ?_))
  refine KA (KE rfl) (Nb rfl) ?_
  refine KA (KZ rfl rfl) (Nb rfl) ?_
  refine KA (KZ rfl rfl) (Nb rfl) ?_
  refine KH rfl (KS (KQ (Kb zr_60) (Nb rfl) (fun b9=>?_)))
  refine KH rfl (KO rfl rfl sz_60 (by exact Ko _ _ _) (by repeat (first|exact Sh _|apply St_)) (by exact KU _ _ _) ?_)
  refine KA (KF rfl) (Nb rfl) ?_
  refine KG ?_
  refine KD (KB ?_)
  refine KA (KE rfl) (Nb rfl) ?_
  refine LOps.det (KK rfl (by repeat (first|exact Mh _|apply Mt)) (by exact KJ Try.underlying60 rfl sz_60)) (Nb rfl) ?_
  refine KH rfl (KS (KR (first:=[]) rfl en_89 rfl (Nb rfl) (fun w hw=>c_affNeg_off id V X Y i w h hX hY ho) ?_))
  refine KA (KE rfl) (Nb rfl) ?_
  refine KA (KZ rfl rfl) (Nb rfl) ?_
  refine KA (KZ rfl rfl) (Nb rfl) ?_
  refine KH rfl (KS (KQ (Kb zr_60) (Nb rfl) (fun b11=>?_)))
  refine KH rfl (KO rfl rfl sz_60 (by exact Ko _ _ _) (by repeat (first|exact Sh _|apply St_)) (by exact KU _ _ _) ?_)
  refine KA (KF rfl) (Nb rfl) ?_
  refine KG ?_
  refine KD ?_
  refine KD (KB ?_)
  refine KA (KE rfl) (Nb rfl) ?_
  refine KA (KV (KAt rfl) (show _ = Value.bool false from rfl)) (Nb rfl) ?_
  refine KG ?_
  refine Ki rfl ?_
  refine Kh ?_
  refine KD ?_
  refine Kc [6,7] (by kernel_rfl) ?_
  refine LAny.take 0 rfl (by kernel_rfl) (Nb rfl) (KK rfl (by repeat (first|exact Mh _|apply Mt)) (by exact KJ Try.underlying60 rfl sz_60)) ?_
  refine LAny.takeW [3,6,7] 2 rfl (by kernel_rfl) (Nb rfl) (KK rfl (by repeat (first|exact Mh _|apply Mt)) (by exact KJ Try.underlying60 rfl sz_60)) ?_
  refine LAny.toP ?_
  refine KAT 4 rfl (.inl zr_73) (Nb rfl) rfl rfl rfl ?_
  refine KAT 5 rfl (.inl zr_73) (Nb rfl) rfl rfl rfl ?_
  refine KAD 1 rfl rfl rfl (Nb rfl) (by kernel_rfl) rfl (LExt.callZ (first:=[]) rfl en_63 rfl (fun w hw hs=>(c_r_In X Y i w hX hY).mono fun e w' h=>Num2R.q (Old.nil _) hs h)) ?_
  rintro _ _ ⟨qpa,qpb,rfl,rfl,hnpa,hnpb⟩
  refine KAD 3 rfl rfl rfl (Nb rfl) (by kernel_rfl) rfl (LExt.callZ (first:=[]) rfl en_63 rfl (fun w hw hs=>(c_r_In X2 Y2 j w hX2 hY2).mono fun e w' h=>Num2R.q (Old.nil _) hs h)) ?_
  rintro _ _ ⟨qra,qrb,rfl,rfl,hnra,hnrb⟩
  refine KAY (by kernel_rfl) (fun b14=>?_)
  refine KAY (by kernel_rfl) (fun b13=>?_)
  refine KAa ?_
  refine Ks 6 rfl rfl (by kernel_rfl) (by kernel_rfl) (KO rfl rfl sz_73 (by repeat (first|exact KW|refine KT rfl ?_)) (by repeat (first|exact Sh _|apply St_)) (by rfl) ?_)
  refine Ks 7 rfl rfl (by kernel_rfl) (by kernel_rfl) (KO rfl rfl sz_73 (by repeat (first|exact KW|refine KT rfl ?_)) (by repeat (first|exact Sh _|apply St_)) (by rfl) ?_)
  refine Kp (by kernel_rfl) ?_
  refine KD (KB ?_)
  refine LOps.det (KK rfl (by repeat (first|exact Mh _|apply Mt)) (by exact KJ Try.underlying31 rfl sz_31)) (Nb rfl) ?_
  refine LOps.det (KK rfl (by repeat (first|exact Mh _|apply Mt)) (by exact KJ Try.underlying73 rfl sz_73)) (Nb rfl) ?_
  refine KH rfl (KS (KR (first:=[]) rfl en_62 rfl (Nb rfl) (fun w hw=>c_r_OnB Q V qpa qpb X Y i false w (hw _ (by repeat (first|exact Mh _|apply Mt))) hok (hw _ (by repeat (first|exact Mh _|apply Mt))) (hw _ (by repeat (first|exact Mh _|apply Mt))) (by omega) (by omega) ho) ?_))
  refine KA (KF rfl) (Nb rfl) ?_
  refine KG ?_
  refine KD ?_
  refine KD (KB ?_)
  refine KA (KE rfl) (Nb rfl) ?_
  refine KA (KV (KAt rfl) (show _ = Value.bool true from rfl)) (Nb rfl) ?_
  refine KG ?_
  refine Kx rfl ?_
  refine KD (KB ?_)
  refine KA (KE rfl) (Nb rfl) ?_
  refine KH rfl (KS (KR (first:=[]) rfl en_46 rfl (Nb rfl) (fun w hw=>c_Num _ w) ?_))
  refine KA (KP (v:=.bool true) rfl rfl (br_t (KAq (b:=1401)) (by first|rfl|assumption|omega|(simp; done)))) (Nb rfl) ?_
  refine KA (KE rfl) (Nb rfl) ?_
  refine Kf rfl rfl (KE rfl) (Nb rfl) ?_
  refine KAf rfl rfl rfl (KS (KR (first:=[]) rfl en_46 rfl (Nb rfl) (fun w hw=>c_Num _ w) ?_))
  refine Kf rfl rfl (KP (v:=.bool true) rfl rfl (br_t (KAq (b:=1401)) (by first|rfl|assumption|omega|(simp; done)))) (Nb rfl) ?_
  refine KA (Kw rfl rfl) (Nb rfl) ?_
  refine KA (KE rfl) (Nb rfl) ?_
  refine KAU rfl rfl (KK rfl (by repeat (first|exact Mh _|apply Mt)) (by exact KJ Try.underlying60 rfl sz_60)) (Nb rfl) ?_
  refine Kf rfl rfl (KV (KAM pl_60 zr_60 rfl rfl) (show _ = ptV 0 0 false from pt_zero)) (Nb rfl) ?_
  refine Kf rfl rfl (KV (Det.eqa (by kernel_rfl) (fun w=>eq_pt_t zero_w9 zero_w9 10000 (by decide) w) rfl rfl) (show _ = Value.bool true by rfl)) (Nb rfl) ?_
  refine KA (Kw rfl rfl) (Nb rfl) ?_
  refine KA (KE rfl) (Nb rfl) ?_
  refine KAU rfl rfl (KK rfl (by repeat (first|exact Mh _|apply Mt)) (by exact KJ Try.underlying60 rfl sz_60)) (Nb rfl) ?_
  refine Kf rfl rfl (KV (KAM pl_60 zr_60 rfl rfl) (show _ = ptV 0 0 false from pt_zero)) (Nb rfl) ?_
  refine Kf rfl rfl (KV (Det.eqa (by kernel_rfl) (fun w=>eq_pt_t zero_w9 zero_w9 10000 (by decide) w) rfl rfl) (show _ = Value.bool true by rfl)) (Nb rfl) ?_
  refine KA (Kw rfl rfl) (Nb rfl) ?_
  refine KA (KE rfl) (Nb rfl) ?_
  refine KAf rfl rfl rfl (KS (KR (first:=[]) rfl en_90 rfl (Nb rfl) (fun w hw=>c_awake14 w) ?_))
  refine KA (Kw rfl rfl) (Nb rfl) ?_
  refine KA (KF rfl) (Nb rfl) ?_
  refine KG (Ka ?_)
  refine ⟨[_],.cons rfl .nil,fun a w' hr=>⟨?_,hr.fr.below⟩⟩
  rfl
theorem c_Affines_off2 (id:Int) (V:Cv) (P:Pt V.p) (X Y:Nat) (i:Bool) (w:World) (h:cvI id = some V) (hP:On V.A V.B P) (hX:X<W9) (hY:Y<W9) (ho:onB V.p V.a V.b X Y i = false):Calls Try.prog 21 ([.int .i64 id,ptP P,ptV X Y i]:List Value).toArray w (fun e w'=>e = .returned (.bool true)∧Below w.heap.size w w'):=by
  obtain ⟨hok,hid⟩:=cvI_ok h
  have hdx:=nw_w9_dig hX
  have hdy:=nw_w9_dig hY
  refine KAB (N:=123) (rs:=[.tmp 6]) [] Try.func21 rfl Try.ntmps21 Try.results21 (Nb rfl) trivial rfl ?_
  show LCode _ _ _ ⟨_,_⟩ _
  refine KD (KB ?_)
  refine KH rfl (KS (KQ (Kn rfl) (Nb rfl) (fun b4=>?_)))
  refine KH rfl (KS (KQ (Kn rfl) (Nb rfl) (fun b5=>?_)))
  refine KA (KF rfl) (Nb rfl) ?_
  refine KG ?_
  refine KD (KB ?_)
  refine KA (KE rfl) (Nb rfl) ?_
  refine KH rfl (KS (Ku (Post:=fun v its=>∃ Q,v = .tuple #[.agg (crvL Q V).toArray,.bool true]∧its = [crvI Q V]) (first:=[]) rfl en_43 rfl (Nb rfl) (fun w1 hw hs=>(c_r_Get _ V w1 h).mono fun e w' ⟨Q,h1,h2,h3,h4⟩=>⟨_,_,⟨Q,rfl,rfl⟩,h1,KAs h4 (by intro x hx; simp at hx; subst hx; exact h2) (by intro x hx; simp at hx; subst hx; rfl) (by intro x hx k hk; simp at hx; subst hx; exact .inl (h3 k hk))⟩) ?_))
  rintro _ _ ⟨Q,rfl,rfl⟩
  refine KA (KE rfl) (Nb rfl) ?_
  refine KA (KZ rfl rfl) (Nb rfl) ?_
  refine KA (KZ rfl rfl) (Nb rfl) ?_
  refine KH rfl (KS (KQ (Kb zr_31) (Nb rfl) (fun b7=>?_)))
  refine KH rfl (KO rfl rfl sz_31 (by repeat (first|exact KW|refine KT rfl ?_)) (by repeat (first|exact Sh _|apply St_)) (by rfl) ?_)
  refine KA (KF rfl) (Nb rfl) ?_
  refine KG ?_
  refine KD (KB ?_)
  refine KA (KE rfl) (Nb rfl) ?_
  refine LOps.det (KK rfl (by repeat (first|exact Mh _|apply Mt)) (by exact KJ Try.underlying60 rfl sz_60)) (Nb rfl) ?_
  refine LOps.det (KK rfl (by repeat (first|exact Mh _|apply Mt)) (by exact KJ Try.underlying60 rfl sz_60)) (Nb rfl) ?_
  refine KH rfl (KS (KR (first:=[]) rfl en_88 rfl (Nb rfl) (fun w hw=>c_affAdd_off2 id V P X Y i w h hP hX hY ho) ?_))
  refine KA (KE rfl) (Nb rfl) ?_
  refine KA (KZ rfl rfl) (Nb rfl) ?_
  refine KA (KZ rfl rfl) (Nb rfl) ?_
  refine KH rfl (KS (KQ (Kb zr_60) (Nb rfl) (fun b9=>?_)))
  refine KH rfl (KO rfl rfl sz_60 (by exact Ko _ _ _) (by repeat (first|exact Sh _|apply St_)) (by exact KU _ _ _) ?_)
  refine KA (KF rfl) (Nb rfl) ?_
  refine KG ?_
  refine KD (KB ?_)
  refine KA (KE rfl) (Nb rfl) ?_
  refine LOps.det (KK rfl (by repeat (first|exact Mh _|apply Mt)) (by exact KJ Try.underlying60 rfl sz_60)) (Nb rfl) ?_
  refine KH rfl (KS (KR (first:=[]) rfl en_89 rfl (Nb rfl) (fun w hw=>c_affNeg id V P w h hP) ?_))
  refine KA (KE rfl) (Nb rfl) ?_
  refine KA (KZ rfl rfl) (Nb rfl) ?_
  refine KA (KZ rfl rfl) (Nb rfl) ?_
  refine KH rfl (KS (KQ (Kb zr_60) (Nb rfl) (fun b11=>?_)))
  refine KH rfl (KO rfl rfl sz_60 (by exact Ko _ _ _) (by repeat (first|exact Sh _|apply St_)) (by exact KU _ _ _) ?_)
  refine KA (KF rfl) (Nb rfl) ?_
  refine KG ?_
  refine KD ?_
  refine KD (KB ?_)
  refine KA (KE rfl) (Nb rfl) ?_
  refine KA (KV (KAt rfl) (show _ = Value.bool false from rfl)) (Nb rfl) ?_
  refine KG ?_
  refine Ki rfl ?_
  refine Kh ?_
  refine KD ?_
  refine Kc [6,7] (by kernel_rfl) ?_
  refine LAny.take 0 rfl (by kernel_rfl) (Nb rfl) (KK rfl (by repeat (first|exact Mh _|apply Mt)) (by exact KJ Try.underlying60 rfl sz_60)) ?_
  refine LAny.takeW [3,6,7] 2 rfl (by kernel_rfl) (Nb rfl) (KK rfl (by repeat (first|exact Mh _|apply Mt)) (by exact KJ Try.underlying60 rfl sz_60)) ?_
  refine LAny.toP ?_
  refine KAT 4 rfl (.inl zr_73) (Nb rfl) rfl rfl rfl ?_
  refine KAT 5 rfl (.inl zr_73) (Nb rfl) rfl rfl rfl ?_
  refine KAD 1 rfl rfl rfl (Nb rfl) (by kernel_rfl) rfl (LExt.callZ (first:=[]) rfl en_63 rfl (fun w hw hs=>(c_r_InP V hok (P) w).mono fun e w' h=>Num2R.q (Old.nil _) hs h)) ?_
  rintro _ _ ⟨qpa,qpb,rfl,rfl,hnpa,hnpb⟩
  refine KAD 3 rfl rfl rfl (Nb rfl) (by kernel_rfl) rfl (LExt.callZ (first:=[]) rfl en_63 rfl (fun w hw hs=>(c_r_In X Y i w hX hY).mono fun e w' h=>Num2R.q (Old.nil _) hs h)) ?_
  rintro _ _ ⟨qra,qrb,rfl,rfl,hnra,hnrb⟩
  refine KAY (by kernel_rfl) (fun b14=>?_)
  refine KAY (by kernel_rfl) (fun b13=>?_)
  refine KAa ?_
  refine Ks 6 rfl rfl (by kernel_rfl) (by kernel_rfl) (KO rfl rfl sz_73 (by repeat (first|exact KW|refine KT rfl ?_)) (by repeat (first|exact Sh _|apply St_)) (by rfl) ?_)
  refine Ks 7 rfl rfl (by kernel_rfl) (by kernel_rfl) (KO rfl rfl sz_73 (by repeat (first|exact KW|refine KT rfl ?_)) (by repeat (first|exact Sh _|apply St_)) (by rfl) ?_)
  refine Kp (by kernel_rfl) ?_
  refine KD (KB ?_)
  refine LOps.det (KK rfl (by repeat (first|exact Mh _|apply Mt)) (by exact KJ Try.underlying31 rfl sz_31)) (Nb rfl) ?_
  refine LOps.det (KK rfl (by repeat (first|exact Mh _|apply Mt)) (by exact KJ Try.underlying73 rfl sz_73)) (Nb rfl) ?_
  refine KH rfl (KS (KR (first:=[]) rfl en_62 rfl (Nb rfl) (fun w hw=>c_r_OnP Q V qpa qpb (P) w (hw _ (by repeat (first|exact Mh _|apply Mt))) hok (hw _ (by repeat (first|exact Mh _|apply Mt))) (hw _ (by repeat (first|exact Mh _|apply Mt))) (hP)) ?_))
  refine KA (KF rfl) (Nb rfl) ?_
  refine KG ?_
  refine KD ?_
  refine KD (KB ?_)
  refine KA (KE rfl) (Nb rfl) ?_
  refine KA (KV (KAt rfl) (show _ = Value.bool false from rfl)) (Nb rfl) ?_
  refine KG ?_
  refine Ki rfl ?_
  refine Kh ?_
  refine KD ?_
  refine KD ?_
  refine Kc [] (by kernel_rfl) ?_
  refine KC 0 rfl (by kernel_rfl) (Nb rfl) (KE rfl) ?_
  refine Kv 1 rfl rfl (by kernel_rfl) (KR (first:=[]) rfl en_46 rfl (Nb rfl) (fun w hw=>c_Num _ w) ?_)
  refine KC 2 rfl (by kernel_rfl) (Nb rfl) (KP (v:=.bool false) rfl rfl (br_f (br_neq (b:=0)) (by first|exact (fun e=>e rfl)|(simp; done)|omega))) ?_
  refine KC 3 rfl (by kernel_rfl) (Nb rfl) (KE rfl) ?_
  refine KAZ 4 rfl rfl rfl (by kernel_rfl) (Nb rfl) (KK rfl (by repeat (first|exact Mh _|apply Mt)) (by exact KJ Try.underlying60 rfl sz_60)) ?_
  refine KAZ 5 rfl rfl rfl (by kernel_rfl) (Nb rfl) (KK rfl (by repeat (first|exact Mh _|apply Mt)) (by exact KJ Try.underlying31 rfl sz_31)) ?_
  refine KAZ 6 rfl rfl rfl (by kernel_rfl) (Nb rfl) (KK rfl (by repeat (first|exact Mh _|apply Mt)) (by exact KJ Try.underlying73 rfl sz_73)) ?_
  refine LAny.oneG 7 rfl rfl rfl rfl (by kernel_rfl) (Ku (first:=[]) rfl en_67 rfl (Nb rfl) (fun w hw hs=>(c_r_Neg Q V qpa qpb P w (hw _ (by repeat (first|exact Mh _|apply Mt))) hok (hw _ (by repeat (first|exact Mh _|apply Mt))) (hw _ (by repeat (first|exact Mh _|apply Mt))) hP).mono fun e w' h=>Num2R.q (Old.pt (by repeat (first|exact Mh _|apply Mt)) (by repeat (first|exact Mh _|apply Mt)) (Old.nil _)) hs h) ?_)
  rintro _ _ ⟨qna,qnb,rfl,rfl,hnna,hnnb⟩
  refine LAny.oneG 8 rfl rfl rfl rfl (by kernel_rfl) (KR (first:=[]) rfl en_66 rfl (Nb rfl) (fun w hw=>c_r_OutP V qna qnb (P.neg) w (hw _ (by repeat (first|exact Mh _|apply Mt))) (hw _ (by repeat (first|exact Mh _|apply Mt)))) ?_)
  refine KAK 9 rfl rfl rfl (by kernel_rfl) (Nb rfl) (KV (Det.nea (by kernel_rfl) (fun w=>eq_ptP_t hok (P:=P.neg) (Q:=P.neg) rfl 10000 (by decide) w) rfl rfl) (show _ = Value.bool false by rfl)) ?_
  refine KC 10 rfl (by kernel_rfl) (Nb rfl) (KAH rfl rfl) ?_
  refine Kp (by kernel_rfl) ?_
  refine Ki rfl ?_
  refine Kh ?_
  refine KD ?_
  refine KD (KB ?_)
  refine LOps.det (KK rfl (by repeat (first|exact Mh _|apply Mt)) (by exact KJ Try.underlying31 rfl sz_31)) (Nb rfl) ?_
  refine LOps.det (KK rfl (by repeat (first|exact Mh _|apply Mt)) (by exact KJ Try.underlying73 rfl sz_73)) (Nb rfl) ?_
  refine KH rfl (KS (KR (first:=[]) rfl en_62 rfl (Nb rfl) (fun w hw=>c_r_OnB Q V qra qrb X Y i false w (hw _ (by repeat (first|exact Mh _|apply Mt))) hok (hw _ (by repeat (first|exact Mh _|apply Mt))) (hw _ (by repeat (first|exact Mh _|apply Mt))) (by omega) (by omega) ho) ?_))
  refine KA (KV (KAt rfl) (show _ = Value.bool true from rfl)) (Nb rfl) ?_
  refine KG ?_
  refine Kx rfl ?_
  refine KD (KB ?_)
  refine KA (KE rfl) (Nb rfl) ?_
  refine KH rfl (KS (KR (first:=[]) rfl en_46 rfl (Nb rfl) (fun w hw=>c_Num _ w) ?_))
  refine KA (KP (v:=.bool true) rfl rfl (br_t (KAq (b:=1401)) (by first|rfl|assumption|omega|(simp; done)))) (Nb rfl) ?_
  refine KA (KE rfl) (Nb rfl) ?_
  refine KAU rfl rfl (KK rfl (by repeat (first|exact Mh _|apply Mt)) (by exact KJ Try.underlying60 rfl sz_60)) (Nb rfl) ?_
  refine Kf rfl rfl (KV (KAM pl_60 zr_60 rfl rfl) (show _ = ptV 0 0 false from pt_zero)) (Nb rfl) ?_
  refine Kf rfl rfl (KV (Det.eqa (by kernel_rfl) (fun w=>eq_pt_t zero_w9 zero_w9 10000 (by decide) w) rfl rfl) (show _ = Value.bool true by rfl)) (Nb rfl) ?_
  refine KA (Kw rfl rfl) (Nb rfl) ?_
  refine KA (KE rfl) (Nb rfl) ?_
  refine KAf rfl rfl rfl (KS (KR (first:=[]) rfl en_90 rfl (Nb rfl) (fun w hw=>c_awake14 w) ?_))
  refine KA (Kw rfl rfl) (Nb rfl) ?_
  refine KA (KF rfl) (Nb rfl) ?_
  refine KG (Ka ?_)
  refine ⟨[_],.cons rfl .nil,fun a w' hr=>⟨?_,hr.fr.below⟩⟩
  rfl
theorem c_Affines_ok (id:Int) (V:Cv) (P R:Pt V.p) (w:World) (h:cvI id = some V) (hP:On V.A V.B P) (hR:On V.A V.B R):Calls Try.prog 21 ([.int .i64 id,ptP P,ptP R]:List Value).toArray w (fun e w'=>e = .returned (.bool true)∧Below w.heap.size w w'):=by
  obtain ⟨hok,hid⟩:=cvI_ok h
  refine KAB (N:=123) (rs:=[.tmp 6]) [] Try.func21 rfl Try.ntmps21 Try.results21 (Nb rfl) trivial rfl ?_
  show LCode _ _ _ ⟨_,_⟩ _
  refine KD (KB ?_)
  refine KH rfl (KS (KQ (Kn rfl) (Nb rfl) (fun b4=>?_)))
  refine KH rfl (KS (KQ (Kn rfl) (Nb rfl) (fun b5=>?_)))
  refine KA (KF rfl) (Nb rfl) ?_
  refine KG ?_
  refine KD (KB ?_)
  refine KA (KE rfl) (Nb rfl) ?_
  refine KH rfl (KS (Ku (Post:=fun v its=>∃ Q,v = .tuple #[.agg (crvL Q V).toArray,.bool true]∧its = [crvI Q V]) (first:=[]) rfl en_43 rfl (Nb rfl) (fun w1 hw hs=>(c_r_Get _ V w1 h).mono fun e w' ⟨Q,h1,h2,h3,h4⟩=>⟨_,_,⟨Q,rfl,rfl⟩,h1,KAs h4 (by intro x hx; simp at hx; subst hx; exact h2) (by intro x hx; simp at hx; subst hx; rfl) (by intro x hx k hk; simp at hx; subst hx; exact .inl (h3 k hk))⟩) ?_))
  rintro _ _ ⟨Q,rfl,rfl⟩
  refine KA (KE rfl) (Nb rfl) ?_
  refine KA (KZ rfl rfl) (Nb rfl) ?_
  refine KA (KZ rfl rfl) (Nb rfl) ?_
  refine KH rfl (KS (KQ (Kb zr_31) (Nb rfl) (fun b7=>?_)))
  refine KH rfl (KO rfl rfl sz_31 (by repeat (first|exact KW|refine KT rfl ?_)) (by repeat (first|exact Sh _|apply St_)) (by rfl) ?_)
  refine KA (KF rfl) (Nb rfl) ?_
  refine KG ?_
  refine KD (KB ?_)
  refine KA (KE rfl) (Nb rfl) ?_
  refine LOps.det (KK rfl (by repeat (first|exact Mh _|apply Mt)) (by exact KJ Try.underlying60 rfl sz_60)) (Nb rfl) ?_
  refine LOps.det (KK rfl (by repeat (first|exact Mh _|apply Mt)) (by exact KJ Try.underlying60 rfl sz_60)) (Nb rfl) ?_
  refine KH rfl (KS (KR (first:=[]) rfl en_88 rfl (Nb rfl) (fun w hw=>c_affAdd id V P R (padd V.A P R) w h hP hR rfl) ?_))
  refine KA (KE rfl) (Nb rfl) ?_
  refine KA (KZ rfl rfl) (Nb rfl) ?_
  refine KA (KZ rfl rfl) (Nb rfl) ?_
  refine KH rfl (KS (KQ (Kb zr_60) (Nb rfl) (fun b9=>?_)))
  refine KH rfl (KO rfl rfl sz_60 (by exact Ko _ _ _) (by repeat (first|exact Sh _|apply St_)) (by exact KU _ _ _) ?_)
  refine KA (KF rfl) (Nb rfl) ?_
  refine KG ?_
  refine KD (KB ?_)
  refine KA (KE rfl) (Nb rfl) ?_
  refine LOps.det (KK rfl (by repeat (first|exact Mh _|apply Mt)) (by exact KJ Try.underlying60 rfl sz_60)) (Nb rfl) ?_
  refine KH rfl (KS (KR (first:=[]) rfl en_89 rfl (Nb rfl) (fun w hw=>c_affNeg id V P w h hP) ?_))
  refine KA (KE rfl) (Nb rfl) ?_
  refine KA (KZ rfl rfl) (Nb rfl) ?_
  refine KA (KZ rfl rfl) (Nb rfl) ?_
  refine KH rfl (KS (KQ (Kb zr_60) (Nb rfl) (fun b11=>?_)))
  refine KH rfl (KO rfl rfl sz_60 (by exact Ko _ _ _) (by repeat (first|exact Sh _|apply St_)) (by exact KU _ _ _) ?_)
  refine KA (KF rfl) (Nb rfl) ?_
  refine KG ?_
  refine KD ?_
  refine KD (KB ?_)
  refine KA (KE rfl) (Nb rfl) ?_
  refine KA (KV (KAt rfl) (show _ = Value.bool false from rfl)) (Nb rfl) ?_
  refine KG ?_
  refine Ki rfl ?_
  refine Kh ?_
  refine KD ?_
  refine Kc [6,7] (by kernel_rfl) ?_
  refine LAny.take 0 rfl (by kernel_rfl) (Nb rfl) (KK rfl (by repeat (first|exact Mh _|apply Mt)) (by exact KJ Try.underlying60 rfl sz_60)) ?_
  refine LAny.takeW [3,6,7] 2 rfl (by kernel_rfl) (Nb rfl) (KK rfl (by repeat (first|exact Mh _|apply Mt)) (by exact KJ Try.underlying60 rfl sz_60)) ?_
  refine LAny.toP ?_
  refine KAT 4 rfl (.inl zr_73) (Nb rfl) rfl rfl rfl ?_
  refine KAT 5 rfl (.inl zr_73) (Nb rfl) rfl rfl rfl ?_
  refine KAD 1 rfl rfl rfl (Nb rfl) (by kernel_rfl) rfl (LExt.callZ (first:=[]) rfl en_63 rfl (fun w hw hs=>(c_r_InP V hok (P) w).mono fun e w' h=>Num2R.q (Old.nil _) hs h)) ?_
  rintro _ _ ⟨qpa,qpb,rfl,rfl,hnpa,hnpb⟩
  refine KAD 3 rfl rfl rfl (Nb rfl) (by kernel_rfl) rfl (LExt.callZ (first:=[]) rfl en_63 rfl (fun w hw hs=>(c_r_InP V hok (R) w).mono fun e w' h=>Num2R.q (Old.nil _) hs h)) ?_
  rintro _ _ ⟨qra,qrb,rfl,rfl,hnra,hnrb⟩
  refine KAY (by kernel_rfl) (fun b14=>?_)
  refine KAY (by kernel_rfl) (fun b13=>?_)
  refine KAa ?_
  refine Ks 6 rfl rfl (by kernel_rfl) (by kernel_rfl) (KO rfl rfl sz_73 (by repeat (first|exact KW|refine KT rfl ?_)) (by repeat (first|exact Sh _|apply St_)) (by rfl) ?_)
  refine Ks 7 rfl rfl (by kernel_rfl) (by kernel_rfl) (KO rfl rfl sz_73 (by repeat (first|exact KW|refine KT rfl ?_)) (by repeat (first|exact Sh _|apply St_)) (by rfl) ?_)
  refine Kp (by kernel_rfl) ?_
  refine KD (KB ?_)
  refine LOps.det (KK rfl (by repeat (first|exact Mh _|apply Mt)) (by exact KJ Try.underlying31 rfl sz_31)) (Nb rfl) ?_
  refine LOps.det (KK rfl (by repeat (first|exact Mh _|apply Mt)) (by exact KJ Try.underlying73 rfl sz_73)) (Nb rfl) ?_
  refine KH rfl (KS (KR (first:=[]) rfl en_62 rfl (Nb rfl) (fun w hw=>c_r_OnP Q V qpa qpb (P) w (hw _ (by repeat (first|exact Mh _|apply Mt))) hok (hw _ (by repeat (first|exact Mh _|apply Mt))) (hw _ (by repeat (first|exact Mh _|apply Mt))) (hP)) ?_))
  refine KA (KF rfl) (Nb rfl) ?_
  refine KG ?_
  refine KD ?_
  refine KD (KB ?_)
  refine KA (KE rfl) (Nb rfl) ?_
  refine KA (KV (KAt rfl) (show _ = Value.bool false from rfl)) (Nb rfl) ?_
  refine KG ?_
  refine Ki rfl ?_
  refine Kh ?_
  refine KD ?_
  refine KD ?_
  refine Kc [] (by kernel_rfl) ?_
  refine KC 0 rfl (by kernel_rfl) (Nb rfl) (KE rfl) ?_
  refine Kv 1 rfl rfl (by kernel_rfl) (KR (first:=[]) rfl en_46 rfl (Nb rfl) (fun w hw=>c_Num _ w) ?_)
  refine KC 2 rfl (by kernel_rfl) (Nb rfl) (KP (v:=.bool false) rfl rfl (br_f (br_neq (b:=0)) (by first|exact (fun e=>e rfl)|(simp; done)|omega))) ?_
  refine KC 3 rfl (by kernel_rfl) (Nb rfl) (KE rfl) ?_
  refine KAZ 4 rfl rfl rfl (by kernel_rfl) (Nb rfl) (KK rfl (by repeat (first|exact Mh _|apply Mt)) (by exact KJ Try.underlying60 rfl sz_60)) ?_
  refine KAZ 5 rfl rfl rfl (by kernel_rfl) (Nb rfl) (KK rfl (by repeat (first|exact Mh _|apply Mt)) (by exact KJ Try.underlying31 rfl sz_31)) ?_
  refine KAZ 6 rfl rfl rfl (by kernel_rfl) (Nb rfl) (KK rfl (by repeat (first|exact Mh _|apply Mt)) (by exact KJ Try.underlying73 rfl sz_73)) ?_
  refine LAny.oneG 7 rfl rfl rfl rfl (by kernel_rfl) (Ku (first:=[]) rfl en_67 rfl (Nb rfl) (fun w hw hs=>(c_r_Neg Q V qpa qpb P w (hw _ (by repeat (first|exact Mh _|apply Mt))) hok (hw _ (by repeat (first|exact Mh _|apply Mt))) (hw _ (by repeat (first|exact Mh _|apply Mt))) hP).mono fun e w' h=>Num2R.q (Old.pt (by repeat (first|exact Mh _|apply Mt)) (by repeat (first|exact Mh _|apply Mt)) (Old.nil _)) hs h) ?_)
  rintro _ _ ⟨qna,qnb,rfl,rfl,hnna,hnnb⟩
  refine LAny.oneG 8 rfl rfl rfl rfl (by kernel_rfl) (KR (first:=[]) rfl en_66 rfl (Nb rfl) (fun w hw=>c_r_OutP V qna qnb (P.neg) w (hw _ (by repeat (first|exact Mh _|apply Mt))) (hw _ (by repeat (first|exact Mh _|apply Mt)))) ?_)
  refine KAK 9 rfl rfl rfl (by kernel_rfl) (Nb rfl) (KV (Det.nea (by kernel_rfl) (fun w=>eq_ptP_t hok (P:=P.neg) (Q:=P.neg) rfl 10000 (by decide) w) rfl rfl) (show _ = Value.bool false by rfl)) ?_
  refine KC 10 rfl (by kernel_rfl) (Nb rfl) (KAH rfl rfl) ?_
  refine Kp (by kernel_rfl) ?_
  refine Ki rfl ?_
  refine Kh ?_
  refine KD ?_
  refine KD (KB ?_)
  refine LOps.det (KK rfl (by repeat (first|exact Mh _|apply Mt)) (by exact KJ Try.underlying31 rfl sz_31)) (Nb rfl) ?_
  refine LOps.det (KK rfl (by repeat (first|exact Mh _|apply Mt)) (by exact KJ Try.underlying73 rfl sz_73)) (Nb rfl) ?_
  refine KH rfl (KS (KR (first:=[]) rfl en_62 rfl (Nb rfl) (fun w hw=>c_r_OnP Q V qra qrb (R) w (hw _ (by repeat (first|exact Mh _|apply Mt))) hok (hw _ (by repeat (first|exact Mh _|apply Mt))) (hw _ (by repeat (first|exact Mh _|apply Mt))) (hR)) ?_))
  refine KA (KV (KAt rfl) (show _ = Value.bool false from rfl)) (Nb rfl) ?_
  refine KG ?_
  refine Ki rfl ?_
  refine Kh ?_
  refine KD ?_
  refine Kc [] (by kernel_rfl) ?_
  refine KC 0 rfl (by kernel_rfl) (Nb rfl) (KE rfl) ?_
  refine Kv 1 rfl rfl (by kernel_rfl) (KR (first:=[]) rfl en_46 rfl (Nb rfl) (fun w hw=>c_Num _ w) ?_)
  refine KC 2 rfl (by kernel_rfl) (Nb rfl) (KP (v:=.bool true) rfl rfl (br_t (KAq (b:=0)) (by first|rfl|assumption|omega|(simp; done)))) ?_
  refine KC 3 rfl (by kernel_rfl) (Nb rfl) (KE rfl) ?_
  refine KAZ 4 rfl rfl rfl (by kernel_rfl) (Nb rfl) (KK rfl (by repeat (first|exact Mh _|apply Mt)) (by exact KJ Try.underlying60 rfl sz_60)) ?_
  refine KAZ 5 rfl rfl rfl (by kernel_rfl) (Nb rfl) (KK rfl (by repeat (first|exact Mh _|apply Mt)) (by exact KJ Try.underlying31 rfl sz_31)) ?_
  refine KAZ 6 rfl rfl rfl (by kernel_rfl) (Nb rfl) (KK rfl (by repeat (first|exact Mh _|apply Mt)) (by exact KJ Try.underlying73 rfl sz_73)) ?_
  refine KAZ 7 rfl rfl rfl (by kernel_rfl) (Nb rfl) (KK rfl (by repeat (first|exact Mh _|apply Mt)) (by exact KJ Try.underlying73 rfl sz_73)) ?_
  refine LAny.oneG 8 rfl rfl rfl rfl (by kernel_rfl) (Ku (first:=[]) rfl en_79 rfl (Nb rfl) (fun w hw hs=>(c_r_Plus Q V qpa qpb qra qrb (P) (R) (padd V.A P R) w (hw _ (by repeat (first|exact Mh _|apply Mt))) hok (hw _ (by repeat (first|exact Mh _|apply Mt))) (hw _ (by repeat (first|exact Mh _|apply Mt))) (hw _ (by repeat (first|exact Mh _|apply Mt))) (hw _ (by repeat (first|exact Mh _|apply Mt))) (hP) (hR) (rfl)).mono fun e w' h=>Num2R.q (Old.pt (by repeat (first|exact Mh _|apply Mt)) (by repeat (first|exact Mh _|apply Mt)) (Old.pt (by repeat (first|exact Mh _|apply Mt)) (by repeat (first|exact Mh _|apply Mt)) (Old.nil _))) hs h) ?_)
  rintro _ _ ⟨qsa,qsb,rfl,rfl,hnsa,hnsb⟩
  refine LAny.oneG 9 rfl rfl rfl rfl (by kernel_rfl) (KR (first:=[]) rfl en_66 rfl (Nb rfl) (fun w hw=>c_r_OutP V qsa qsb (padd V.A P R) w (hw _ (by repeat (first|exact Mh _|apply Mt))) (hw _ (by repeat (first|exact Mh _|apply Mt)))) ?_)
  refine KAK 10 rfl rfl rfl (by kernel_rfl) (Nb rfl) (KV (Det.eqa (by kernel_rfl) (fun w=>eq_ptP_t hok (by first|rfl|assumption) 10000 (by decide) w) rfl rfl) (show _ = Value.bool true by rfl)) ?_
  refine KC 11 rfl (by kernel_rfl) (Nb rfl) (Kw rfl rfl) ?_
  refine KC 12 rfl (by kernel_rfl) (Nb rfl) (KE rfl) ?_
  refine LAny.oneG 13 rfl rfl rfl rfl (by kernel_rfl) (KR (first:=[]) rfl en_90 rfl (Nb rfl) (fun w hw=>c_awake14 w) ?_)
  refine KC 14 rfl (by kernel_rfl) (Nb rfl) (Kw rfl rfl) ?_
  refine KC 15 rfl (by kernel_rfl) (Nb rfl) (KF rfl) ?_
  refine Kp (by kernel_rfl) ?_
  refine Ka ?_
  refine ⟨[_],.cons rfl .nil,fun a w' hr=>⟨?_,hr.fr.below⟩⟩
  rfl
theorem c_Affines (id:Int) (X Y:Nat) (i:Bool) (X2 Y2:Nat) (j:Bool) (w:World) (hX:X<W9) (hY:Y<W9) (hX2:X2<W9) (hY2:Y2<W9):Calls Try.prog 21 ([.int .i64 id,ptV X Y i,ptV X2 Y2 j]:List Value).toArray w (fun e w'=>e = .returned (.bool true)∧Below w.heap.size w w'):=by
  cases h:cvI id with
  | none=>exact c_Affines_none id X Y i X2 Y2 j w h
  | some V =>
    cases ho:onB V.p V.a V.b X Y i with
    | false=>exact c_Affines_off id V X Y i X2 Y2 j w h hX hY hX2 hY2 ho
    | true =>
      obtain ⟨P,hP,rfl,rfl,rfl⟩:=onB_pt ho
      cases ho2:onB V.p V.a V.b X2 Y2 j with
      | false=>exact c_Affines_off2 id V P X2 Y2 j w h hP hX2 hY2 ho2
      | true =>
        obtain ⟨R,hR,rfl,rfl,rfl⟩:=onB_pt ho2
        exact c_Affines_ok id V P R w h hP hR
theorem c_AffineTimes_none (id:Int) (K X Y:Nat) (i:Bool) (w:World) (h:cvI id = none):Calls Try.prog 22 ([.int .i64 id,natV K,ptV X Y i]:List Value).toArray w (fun e w'=>e = .returned (.bool true)∧Below w.heap.size w w'):=by
  refine KAB (N:=71) (rs:=[.tmp 6]) [] Try.func22 rfl Try.ntmps22 Try.results22 (Nb rfl) trivial rfl ?_
  show LCode _ _ _ ⟨_,_⟩ _
  refine KD (KB ?_)
  refine KH rfl (KS (KQ (Kn rfl) (Nb rfl) (fun b4=>?_)))
  refine KH rfl (KS (KQ (Kn rfl) (Nb rfl) (fun b5=>?_)))
  refine KA (KF rfl) (Nb rfl) ?_
  refine KG ?_
  refine KD (KB ?_)
  refine KA (KE rfl) (Nb rfl) ?_
  refine KH rfl (KS (KR (first:=[]) rfl en_43 rfl (Nb rfl) (fun w hw=>c_r_Get_none _ w h) ?_))
  refine KA (KE rfl) (Nb rfl) ?_
  refine KA (KZ rfl rfl) (Nb rfl) ?_
  refine KA (KZ rfl rfl) (Nb rfl) ?_
  refine KH rfl (KS (KQ (Kb zr_31) (Nb rfl) (fun b7=>?_)))
  refine KH rfl (KO rfl rfl sz_31 (by repeat (first|exact KW|refine KT rfl ?_)) (by repeat (first|exact Sh _|apply St_)) (by rfl) ?_)
  refine KA (KF rfl) (Nb rfl) ?_
  refine KG ?_
  refine KD (KB ?_)
  refine KA (KE rfl) (Nb rfl) ?_
  refine LOps.det (KK rfl (by repeat (first|exact Mh _|apply Mt)) (by exact KJ Try.underlying25 rfl sz_25)) (Nb rfl) ?_
  refine LOps.det (KK rfl (by repeat (first|exact Mh _|apply Mt)) (by exact KJ Try.underlying60 rfl sz_60)) (Nb rfl) ?_
  refine KH rfl (KS (KR (first:=[]) rfl en_91 rfl (Nb rfl) (fun w hw=>c_affMul_none id K X Y i w h) ?_))
  refine KA (KE rfl) (Nb rfl) ?_
  refine KA (KZ rfl rfl) (Nb rfl) ?_
  refine KA (KZ rfl rfl) (Nb rfl) ?_
  refine KH rfl (KS (KQ (Kb zr_60) (Nb rfl) (fun b9=>?_)))
  refine KH rfl (KO rfl rfl sz_60 (by exact Ko _ _ _) (by repeat (first|exact Sh _|apply St_)) (by exact KU _ _ _) ?_)
  refine KA (KF rfl) (Nb rfl) ?_
  refine KG ?_
  refine KD ?_
  refine LCode.block ?_
  refine KD (KB ?_)
  refine KA (KE rfl) (Nb rfl) ?_
  refine KA (KV (KAt rfl) (show _ = Value.bool true from rfl)) (Nb rfl) ?_
  refine KA (KF rfl) (Nb rfl) ?_
  refine KG ?_
  refine Kx rfl ?_
  refine KD (KB ?_)
  refine KA (KE rfl) (Nb rfl) ?_
  refine KH rfl (KS (KR (first:=[]) rfl en_46 rfl (Nb rfl) (fun w hw=>c_Num _ w) ?_))
  refine KA (KP (v:=.bool true) rfl rfl (br_t (KAq (b:=1400)) (by first|rfl|assumption|omega|(simp; done)))) (Nb rfl) ?_
  refine KA (KE rfl) (Nb rfl) ?_
  refine KAU rfl rfl (KK rfl (by repeat (first|exact Mh _|apply Mt)) (by exact KJ Try.underlying60 rfl sz_60)) (Nb rfl) ?_
  refine Kf rfl rfl (KV (KAM pl_60 zr_60 rfl rfl) (show _ = ptV 0 0 false from pt_zero)) (Nb rfl) ?_
  refine Kf rfl rfl (KV (Det.eqa (by kernel_rfl) (fun w=>eq_pt_t zero_w9 zero_w9 10000 (by decide) w) rfl rfl) (show _ = Value.bool true by rfl)) (Nb rfl) ?_
  refine KA (Kw rfl rfl) (Nb rfl) ?_
  refine KA (KE rfl) (Nb rfl) ?_
  refine KAf rfl rfl rfl (KS (KR (first:=[]) rfl en_90 rfl (Nb rfl) (fun w hw=>c_awake14 w) ?_))
  refine KA (Kw rfl rfl) (Nb rfl) ?_
  refine KA (KF rfl) (Nb rfl) ?_
  refine KG (Ka ?_)
  refine ⟨[_],.cons rfl .nil,fun a w' hr=>⟨?_,hr.fr.below⟩⟩
  rfl
theorem c_AffineTimes_off (id:Int) (V:Cv) (K X Y:Nat) (i:Bool) (w:World) (h:cvI id = some V) (hX:X<W9) (hY:Y<W9) (ho:onB V.p V.a V.b X Y i = false):Calls Try.prog 22 ([.int .i64 id,natV K,ptV X Y i]:List Value).toArray w (fun e w'=>e = .returned (.bool true)∧Below w.heap.size w w'):=by
  obtain ⟨hok,hid⟩:=cvI_ok h
  have hdx:=nw_w9_dig hX
  have hdy:=nw_w9_dig hY
  refine KAB (N:=71) (rs:=[.tmp 6]) [] Try.func22 rfl Try.ntmps22 Try.results22 (Nb rfl) trivial rfl ?_
  show LCode _ _ _ ⟨_,_⟩ _
  refine KD (KB ?_)
  refine KH rfl (KS (KQ (Kn rfl) (Nb rfl) (fun b4=>?_)))
  refine KH rfl (KS (KQ (Kn rfl) (Nb rfl) (fun b5=>?_)))
  refine KA (KF rfl) (Nb rfl) ?_
  refine KG ?_
  refine KD (KB ?_)
  refine KA (KE rfl) (Nb rfl) ?_
  refine KH rfl (KS (Ku (Post:=fun v its=>∃ Q,v = .tuple #[.agg (crvL Q V).toArray,.bool true]∧its = [crvI Q V]) (first:=[]) rfl en_43 rfl (Nb rfl) (fun w1 hw hs=>(c_r_Get _ V w1 h).mono fun e w' ⟨Q,h1,h2,h3,h4⟩=>⟨_,_,⟨Q,rfl,rfl⟩,h1,KAs h4 (by intro x hx; simp at hx; subst hx; exact h2) (by intro x hx; simp at hx; subst hx; rfl) (by intro x hx k hk; simp at hx; subst hx; exact .inl (h3 k hk))⟩) ?_))
  rintro _ _ ⟨Q,rfl,rfl⟩
  refine KA (KE rfl) (Nb rfl) ?_
  refine KA (KZ rfl rfl) (Nb rfl) ?_
  refine KA (KZ rfl rfl) (Nb rfl) ?_
  refine KH rfl (KS (KQ (Kb zr_31) (Nb rfl) (fun b7=>?_)))
  refine KH rfl (KO rfl rfl sz_31 (by repeat (first|exact KW|refine KT rfl ?_)) (by repeat (first|exact Sh _|apply St_)) (by rfl) ?_)
  refine KA (KF rfl) (Nb rfl) ?_
  refine KG ?_
  refine KD (KB ?_)
  refine KA (KE rfl) (Nb rfl) ?_
  refine LOps.det (KK rfl (by repeat (first|exact Mh _|apply Mt)) (by exact KJ Try.underlying25 rfl sz_25)) (Nb rfl) ?_
  refine LOps.det (KK rfl (by repeat (first|exact Mh _|apply Mt)) (by exact KJ Try.underlying60 rfl sz_60)) (Nb rfl) ?_
  refine KH rfl (KS (KR (first:=[]) rfl en_91 rfl (Nb rfl) (fun w hw=>c_affMul_off id V K X Y i w h hX hY ho) ?_))
  refine KA (KE rfl) (Nb rfl) ?_
  refine KA (KZ rfl rfl) (Nb rfl) ?_
  refine KA (KZ rfl rfl) (Nb rfl) ?_
  refine KH rfl (KS (KQ (Kb zr_60) (Nb rfl) (fun b9=>?_)))
  refine KH rfl (KO rfl rfl sz_60 (by exact Ko _ _ _) (by repeat (first|exact Sh _|apply St_)) (by exact KU _ _ _) ?_)
  refine KA (KF rfl) (Nb rfl) ?_
  refine KG ?_
  refine KD ?_
  refine LCode.block ?_
  refine KD (KB ?_)
  refine KA (KE rfl) (Nb rfl) ?_
  refine KA (KV (KAt rfl) (show _ = Value.bool false from rfl)) (Nb rfl) ?_
  refine KA (KF rfl) (Nb rfl) ?_
  refine KG ?_
  refine Ki rfl ?_
  refine KD ?_
  refine Kc [] (by kernel_rfl) ?_
  refine LAny.take 0 rfl (by kernel_rfl) (Nb rfl) (KK rfl (by repeat (first|exact Mh _|apply Mt)) (by exact KJ Try.underlying31 rfl sz_31)) ?_
  refine LAny.take 1 rfl (by kernel_rfl) (Nb rfl) (KK rfl (by repeat (first|exact Mh _|apply Mt)) (by exact KJ Try.underlying60 rfl sz_60)) ?_
  refine Kv 2 rfl rfl (by kernel_rfl) (Ku (first:=[]) rfl en_63 rfl (Nb rfl) (fun w hw hs=>(c_r_In X Y i w hX hY).mono fun e w' h=>Num2R.q (Old.nil _) hs h) ?_)
  rintro _ _ ⟨qpa,qpb,rfl,rfl,hnpa,hnpb⟩
  refine Kv 3 rfl rfl (by kernel_rfl) (KR (first:=[]) rfl en_62 rfl (Nb rfl) (fun w hw=>c_r_OnB Q V qpa qpb X Y i false w (hw _ (by repeat (first|exact Mh _|apply Mt))) hok (hw _ (by repeat (first|exact Mh _|apply Mt))) (hw _ (by repeat (first|exact Mh _|apply Mt))) (by omega) (by omega) ho) ?_)
  refine KC 4 rfl (by kernel_rfl) (Nb rfl) (KV (KAt rfl) (show _ = Value.bool true from rfl)) ?_
  refine KC 5 rfl (by kernel_rfl) (Nb rfl) (KF rfl) ?_
  refine Kp (by kernel_rfl) ?_
  refine Kx rfl ?_
  refine KD (KB ?_)
  refine KA (KE rfl) (Nb rfl) ?_
  refine KH rfl (KS (KR (first:=[]) rfl en_46 rfl (Nb rfl) (fun w hw=>c_Num _ w) ?_))
  refine KA (KP (v:=.bool true) rfl rfl (br_t (KAq (b:=1401)) (by first|rfl|assumption|omega|(simp; done)))) (Nb rfl) ?_
  refine KA (KE rfl) (Nb rfl) ?_
  refine KAU rfl rfl (KK rfl (by repeat (first|exact Mh _|apply Mt)) (by exact KJ Try.underlying60 rfl sz_60)) (Nb rfl) ?_
  refine Kf rfl rfl (KV (KAM pl_60 zr_60 rfl rfl) (show _ = ptV 0 0 false from pt_zero)) (Nb rfl) ?_
  refine Kf rfl rfl (KV (Det.eqa (by kernel_rfl) (fun w=>eq_pt_t zero_w9 zero_w9 10000 (by decide) w) rfl rfl) (show _ = Value.bool true by rfl)) (Nb rfl) ?_
  refine KA (Kw rfl rfl) (Nb rfl) ?_
  refine KA (KE rfl) (Nb rfl) ?_
  refine KAf rfl rfl rfl (KS (KR (first:=[]) rfl en_90 rfl (Nb rfl) (fun w hw=>c_awake14 w) ?_))
  refine KA (Kw rfl rfl) (Nb rfl) ?_
  refine KA (KF rfl) (Nb rfl) ?_
  refine KG (Ka ?_)
  refine ⟨[_],.cons rfl .nil,fun a w' hr=>⟨?_,hr.fr.below⟩⟩
  rfl
theorem c_AffineTimes_ok (id:Int) (V:Cv) (K:Nat) (P:Pt V.p) (w:World) (h:cvI id = some V) (hP:On V.A V.B P) (hK:K<W9):Calls Try.prog 22 ([.int .i64 id,natV K,ptP P]:List Value).toArray w (fun e w'=>e = .returned (.bool true)∧Below w.heap.size w w'):=by
  obtain ⟨hok,hid⟩:=cvI_ok h
  have hdk:=nw_w9_dig hK
  refine KAB (N:=71) (rs:=[.tmp 6]) [] Try.func22 rfl Try.ntmps22 Try.results22 (Nb rfl) trivial rfl ?_
  show LCode _ _ _ ⟨_,_⟩ _
  refine KD (KB ?_)
  refine KH rfl (KS (KQ (Kn rfl) (Nb rfl) (fun b4=>?_)))
  refine KH rfl (KS (KQ (Kn rfl) (Nb rfl) (fun b5=>?_)))
  refine KA (KF rfl) (Nb rfl) ?_
  refine KG ?_
  refine KD (KB ?_)
  refine KA (KE rfl) (Nb rfl) ?_
  refine KH rfl (KS (Ku (Post:=fun v its=>∃ Q,v = .tuple #[.agg (crvL Q V).toArray,.bool true]∧its = [crvI Q V]) (first:=[]) rfl en_43 rfl (Nb rfl) (fun w1 hw hs=>(c_r_Get _ V w1 h).mono fun e w' ⟨Q,h1,h2,h3,h4⟩=>⟨_,_,⟨Q,rfl,rfl⟩,h1,KAs h4 (by intro x hx; simp at hx; subst hx; exact h2) (by intro x hx; simp at hx; subst hx; rfl) (by intro x hx k hk; simp at hx; subst hx; exact .inl (h3 k hk))⟩) ?_))
  rintro _ _ ⟨Q,rfl,rfl⟩
  refine KA (KE rfl) (Nb rfl) ?_
  refine KA (KZ rfl rfl) (Nb rfl) ?_
  refine KA (KZ rfl rfl) (Nb rfl) ?_
  refine KH rfl (KS (KQ (Kb zr_31) (Nb rfl) (fun b7=>?_)))
  refine KH rfl (KO rfl rfl sz_31 (by repeat (first|exact KW|refine KT rfl ?_)) (by repeat (first|exact Sh _|apply St_)) (by rfl) ?_)
  refine KA (KF rfl) (Nb rfl) ?_
  refine KG ?_
  refine KD (KB ?_)
  refine KA (KE rfl) (Nb rfl) ?_
  refine LOps.det (KK rfl (by repeat (first|exact Mh _|apply Mt)) (by exact KJ Try.underlying25 rfl sz_25)) (Nb rfl) ?_
  refine LOps.det (KK rfl (by repeat (first|exact Mh _|apply Mt)) (by exact KJ Try.underlying60 rfl sz_60)) (Nb rfl) ?_
  refine KH rfl (KS (KR (first:=[]) rfl en_91 rfl (Nb rfl) (fun w hw=>c_affMul id V K P w h hP hK) ?_))
  refine KA (KE rfl) (Nb rfl) ?_
  refine KA (KZ rfl rfl) (Nb rfl) ?_
  refine KA (KZ rfl rfl) (Nb rfl) ?_
  refine KH rfl (KS (KQ (Kb zr_60) (Nb rfl) (fun b9=>?_)))
  refine KH rfl (KO rfl rfl sz_60 (by exact Ko _ _ _) (by repeat (first|exact Sh _|apply St_)) (by exact KU _ _ _) ?_)
  refine KA (KF rfl) (Nb rfl) ?_
  refine KG ?_
  refine KD ?_
  refine LCode.block ?_
  refine KD (KB ?_)
  refine KA (KE rfl) (Nb rfl) ?_
  refine KA (KV (KAt rfl) (show _ = Value.bool false from rfl)) (Nb rfl) ?_
  refine KA (KF rfl) (Nb rfl) ?_
  refine KG ?_
  refine Ki rfl ?_
  refine KD ?_
  refine Kc [] (by kernel_rfl) ?_
  refine LAny.take 0 rfl (by kernel_rfl) (Nb rfl) (KK rfl (by repeat (first|exact Mh _|apply Mt)) (by exact KJ Try.underlying31 rfl sz_31)) ?_
  refine LAny.take 1 rfl (by kernel_rfl) (Nb rfl) (KK rfl (by repeat (first|exact Mh _|apply Mt)) (by exact KJ Try.underlying60 rfl sz_60)) ?_
  refine Kv 2 rfl rfl (by kernel_rfl) (Ku (first:=[]) rfl en_63 rfl (Nb rfl) (fun w hw hs=>(c_r_InP V hok (P) w).mono fun e w' h=>Num2R.q (Old.nil _) hs h) ?_)
  rintro _ _ ⟨qpa,qpb,rfl,rfl,hnpa,hnpb⟩
  refine Kv 3 rfl rfl (by kernel_rfl) (KR (first:=[]) rfl en_62 rfl (Nb rfl) (fun w hw=>c_r_OnP Q V qpa qpb (P) w (hw _ (by repeat (first|exact Mh _|apply Mt))) hok (hw _ (by repeat (first|exact Mh _|apply Mt))) (hw _ (by repeat (first|exact Mh _|apply Mt))) (hP)) ?_)
  refine KC 4 rfl (by kernel_rfl) (Nb rfl) (KV (KAt rfl) (show _ = Value.bool false from rfl)) ?_
  refine KC 5 rfl (by kernel_rfl) (Nb rfl) (KF rfl) ?_
  refine Kp (by kernel_rfl) ?_
  refine Ki rfl ?_
  refine Kh ?_
  refine KD ?_
  refine Kc [] (by kernel_rfl) ?_
  refine KC 0 rfl (by kernel_rfl) (Nb rfl) (KE rfl) ?_
  refine Kv 1 rfl rfl (by kernel_rfl) (KR (first:=[]) rfl en_46 rfl (Nb rfl) (fun w hw=>c_Num _ w) ?_)
  refine KC 2 rfl (by kernel_rfl) (Nb rfl) (KP (v:=.bool true) rfl rfl (br_t (KAq (b:=0)) (by first|rfl|assumption|omega|(simp; done)))) ?_
  refine KC 3 rfl (by kernel_rfl) (Nb rfl) (KE rfl) ?_
  refine KAZ 4 rfl rfl rfl (by kernel_rfl) (Nb rfl) (KK rfl (by repeat (first|exact Mh _|apply Mt)) (by exact KJ Try.underlying60 rfl sz_60)) ?_
  refine KAZ 5 rfl rfl rfl (by kernel_rfl) (Nb rfl) (KK rfl (by repeat (first|exact Mh _|apply Mt)) (by exact KJ Try.underlying31 rfl sz_31)) ?_
  refine KAZ 6 rfl rfl rfl (by kernel_rfl) (Nb rfl) (KK rfl (by repeat (first|exact Mh _|apply Mt)) (by exact KJ Try.underlying25 rfl sz_25)) ?_
  refine KAZ 8 rfl rfl rfl (by kernel_rfl) (Nb rfl) (KK rfl (by repeat (first|exact Mh _|apply Mt)) (by exact KJ Try.underlying60 rfl sz_60)) ?_
  refine LAny.oneG 7 rfl rfl rfl rfl (by kernel_rfl) (Ku (first:=[]) rfl en_52 rfl (Nb rfl) (fun w hw hs=>(c_n_From (K) hK w).mono fun e w' h=>KAn (Old.nil _) hs h) ?_)
  rintro _ _ ⟨qk,rfl,rfl,hnk⟩
  refine LAny.oneG 9 rfl rfl rfl rfl (by kernel_rfl) (Ku (first:=[]) rfl en_63 rfl (Nb rfl) (fun w hw hs=>(c_r_InP V hok (P) w).mono fun e w' h=>Num2R.q (Old.nil _) hs h) ?_)
  rintro _ _ ⟨qra,qrb,rfl,rfl,hnra,hnrb⟩
  refine LAny.oneG 10 rfl rfl rfl rfl (by kernel_rfl) (Ku (first:=[]) rfl en_64 rfl (Nb rfl) (fun w hw hs=>(c_r_Times Q V qk (K) qra qrb (P) (pmul V.A P K) w (hw _ (by repeat (first|exact Mh _|apply Mt))) hok (hw _ (by repeat (first|exact Mh _|apply Mt))) (by omega) (hw _ (by repeat (first|exact Mh _|apply Mt))) (hw _ (by repeat (first|exact Mh _|apply Mt))) (hP) (rfl)).mono fun e w' h=>Num2R.q (Old.pt (by repeat (first|exact Mh _|apply Mt)) (by repeat (first|exact Mh _|apply Mt)) (Old.nil _)) hs h) ?_)
  rintro _ _ ⟨qsa,qsb,rfl,rfl,hnsa,hnsb⟩
  refine LAny.oneG 11 rfl rfl rfl rfl (by kernel_rfl) (KR (first:=[]) rfl en_66 rfl (Nb rfl) (fun w hw=>c_r_OutP V qsa qsb (pmul V.A P K) w (hw _ (by repeat (first|exact Mh _|apply Mt))) (hw _ (by repeat (first|exact Mh _|apply Mt)))) ?_)
  refine KAK 12 rfl rfl rfl (by kernel_rfl) (Nb rfl) (KV (Det.eqa (by kernel_rfl) (fun w=>eq_ptP_t hok (P:=pmul V.A P K) (Q:=pmul V.A P K) (rfl) 10000 (by decide) w) rfl rfl) (show _ = Value.bool true by rfl)) ?_
  refine KC 13 rfl (by kernel_rfl) (Nb rfl) (Kw rfl rfl) ?_
  refine KC 14 rfl (by kernel_rfl) (Nb rfl) (KE rfl) ?_
  refine LAny.oneG 15 rfl rfl rfl rfl (by kernel_rfl) (KR (first:=[]) rfl en_90 rfl (Nb rfl) (fun w hw=>c_awake14 w) ?_)
  refine KC 16 rfl (by kernel_rfl) (Nb rfl) (Kw rfl rfl) ?_
  refine KC 17 rfl (by kernel_rfl) (Nb rfl) (KF rfl) ?_
  refine Kp (by kernel_rfl) ?_
  refine Ka ?_
  refine ⟨[_],.cons rfl .nil,fun a w' hr=>⟨?_,hr.fr.below⟩⟩
  rfl
theorem c_AffineTimes (id:Int) (K X Y:Nat) (i:Bool) (w:World) (hK:K<W9) (hX:X<W9) (hY:Y<W9):Calls Try.prog 22 ([.int .i64 id,natV K,ptV X Y i]:List Value).toArray w (fun e w'=>e = .returned (.bool true)∧Below w.heap.size w w'):=by
  cases h:cvI id with
  | none=>exact c_AffineTimes_none id K X Y i w h
  | some V =>
    cases ho:onB V.p V.a V.b X Y i with
    | false=>exact c_AffineTimes_off id V K X Y i w h hX hY ho
    | true =>
      obtain ⟨P,hP,rfl,rfl,rfl⟩:=onB_pt ho
      exact c_AffineTimes_ok id V K P w h hP hK
theorem c_AffineGroup (id:Int) (i j k:Nat) (w:World) (hi:i<18446744073709551616) (hj:j<18446744073709551616) (hk:k<18446744073709551616):Calls Try.prog 23 ([.int .i64 id,.int .u64 ((i:Nat):Int),.int .u64 ((j:Nat):Int),.int .u64 ((k:Nat):Int)]:List Value).toArray w (fun e w'=>e = .returned (.bool true)∧Below w.heap.size w w'):=by
  obtain ⟨V,h⟩:=cvI_idx id
  obtain ⟨hok,hid⟩:=cvI_ok h
  have h2:=cvI_id h
  obtain ⟨hb5,hb521,hba,hbb,hbx,hby,hbn,hbo,hbo2,hbb1,hbn1⟩:=hok.bounds
  have hsz:=hok.sz
  have hsp:=hsz.p
  have hsa:=hsz.a
  have hsb:=hsz.b
  have hp0:V.p≠0:=by omega
  have hpp:0<V.p:=by omega
  have hm17:∀ k,D.nw (k%V.p)≤17:=fun k=>Nat.le_trans (D.nw_mono (Nat.le_of_lt (Nat.mod_lt k hpp))) hsp
  have hpW:V.p<W9:=w9_521 hb521
  have hnW:V.n<W9:=w9_521 hbn
  have hxW:=Nat.lt_trans hbx hpW
  have hyW:=Nat.lt_trans hby hpW
  have hsn:=hsz.n
  have h17:∀ {A:Nat},A<V.p→D.nw A≤100000:=fun h=>Nat.le_trans (nw_521 (Nat.lt_trans h hb521)) (by decide)
  have hPq:=hok.mul hok.on (i)
  obtain ⟨P,hPe⟩:∃ P,pmul V.A V.G (i) = P:=⟨_,rfl⟩
  have hPo:On V.A V.B P:=hPe ▸ hPq
  have hRq:=hok.mul hok.on (j)
  obtain ⟨R,hRe⟩:∃ P,pmul V.A V.G (j) = P:=⟨_,rfl⟩
  have hRo:On V.A V.B R:=hRe ▸ hRq
  have hTq:=hok.mul hok.on (k)
  obtain ⟨T,hTe⟩:∃ P,pmul V.A V.G (k) = P:=⟨_,rfl⟩
  have hTo:On V.A V.B T:=hTe ▸ hTq
  refine KAB (N:=153) (rs:=[.tmp 8]) [] Try.func23 rfl Try.ntmps23 Try.results23 (Nb rfl) trivial rfl ?_
  show LCode _ _ _ ⟨_,_⟩ _
  refine KD (KB ?_)
  refine KA (KF rfl) (Nb rfl) ?_
  refine KG ?_
  refine KD ?_
  refine KD (KB ?_)
  refine KH rfl (KS (KR (first:=[]) rfl en_90 rfl (Nb rfl) (fun w hw=>c_awake14 w) ?_))
  refine KA (KV (KAt rfl) (show _ = Value.bool false from rfl)) (Nb rfl) ?_
  refine KG ?_
  refine Ki rfl ?_
  refine Kh ?_
  refine KD (KB ?_)
  refine KA (KE rfl) (Nb rfl) ?_
  refine KA (KV (Det.conv Try.underlying3 Try.underlying46 rfl) (uidx_eq _)) (Nb rfl) ?_
  refine KA (KP rfl rfl (br_rem64 (b:=15) (by omega))) (Nb rfl) ?_
  refine KA (Det.convi Try.underlying46 Try.underlying3 rfl (by omega)) (Nb rfl) ?_
  refine KA (KP rfl rfl (KAS (a:=1) (by omega))) (Nb rfl) ?_
  refine KH rfl (KS (Ku (Post:=fun v its=>∃ Q,v = .tuple #[.agg (crvL Q V).toArray,.bool true]∧its = [crvI Q V]) (first:=[]) rfl en_43 rfl (Nb rfl) (fun w1 hw hs=>(c_r_Get _ V w1 h).mono fun e w' ⟨Q,h1,h2,h3,h4⟩=>⟨_,_,⟨Q,rfl,rfl⟩,h1,KAs h4 (by intro x hx; simp at hx; subst hx; exact h2) (by intro x hx; simp at hx; subst hx; rfl) (by intro x hx k hk; simp at hx; subst hx; exact .inl (h3 k hk))⟩) ?_))
  rintro _ _ ⟨Q,rfl,rfl⟩
  refine KA (KE rfl) (Nb rfl) ?_
  refine KA (KZ rfl rfl) (Nb rfl) ?_
  refine KA (KZ rfl rfl) (Nb rfl) ?_
  refine KH rfl (KS (KQ (Kb zr_31) (Nb rfl) (fun b9=>?_)))
  refine KH rfl (KO rfl rfl sz_31 (by repeat (first|exact KW|refine KT rfl ?_)) (by repeat (first|exact Sh _|apply St_)) (by rfl) ?_)
  refine KA (KF rfl) (Nb rfl) ?_
  refine KG ?_
  refine KD ?_
  refine KD (KB ?_)
  refine KA (KE rfl) (Nb rfl) ?_
  refine KA (KV (KAt rfl) (show _ = Value.bool false from rfl)) (Nb rfl) ?_
  refine KG ?_
  refine Ki rfl ?_
  refine Kh ?_
  refine KD ?_
  refine Kc [12,13,14] (by kernel_rfl) ?_
  refine LAny.take 0 rfl (by kernel_rfl) (Nb rfl) (KK rfl (by repeat (first|exact Mh _|apply Mt)) (by exact KJ Try.underlying31 rfl sz_31)) ?_
  refine KC 1 rfl (by kernel_rfl) (Nb rfl) (KE rfl) ?_
  refine KC 4 rfl (by kernel_rfl) (Nb rfl) (KE rfl) ?_
  refine KC 7 rfl (by kernel_rfl) (Nb rfl) (KE rfl) ?_
  refine LAny.takeW [5,8,12,13,14] 3 rfl (by kernel_rfl) (Nb rfl) (KK rfl (by repeat (first|exact Mh _|apply Mt)) (by exact KJ Try.underlying31 rfl sz_31)) ?_
  refine LAny.takeW [8,12,13,14] 6 rfl (by kernel_rfl) (Nb rfl) (KK rfl (by repeat (first|exact Mh _|apply Mt)) (by exact KJ Try.underlying31 rfl sz_31)) ?_
  refine LAny.toP ?_
  refine KAT 9 rfl (.inl zr_60) (Nb rfl) rfl rfl rfl ?_
  refine KAT 10 rfl (.inl zr_60) (Nb rfl) rfl rfl rfl ?_
  refine KAT 11 rfl (.inl zr_60) (Nb rfl) rfl rfl rfl ?_
  refine KAD 2 rfl rfl rfl (Nb rfl) (by kernel_rfl) rfl (KAL (first:=[]) rfl en_92 rfl (fun w hw=>c_Some Q V (i) P w (hw _ (by repeat (first|exact Mh _|apply Mt))) hok hi hPe)) ?_
  rintro _ _ ⟨rfl,rfl⟩
  refine KAD 5 rfl rfl rfl (Nb rfl) (by kernel_rfl) rfl (KAL (first:=[]) rfl en_92 rfl (fun w hw=>c_Some Q V (j) R w (hw _ (by repeat (first|exact Mh _|apply Mt))) hok hj hRe)) ?_
  rintro _ _ ⟨rfl,rfl⟩
  refine KAD 8 rfl rfl rfl (Nb rfl) (by kernel_rfl) rfl (KAL (first:=[]) rfl en_92 rfl (fun w hw=>c_Some Q V (k) T w (hw _ (by repeat (first|exact Mh _|apply Mt))) hok hk hTe)) ?_
  rintro _ _ ⟨rfl,rfl⟩
  refine KAY (by kernel_rfl) (fun b13=>?_)
  refine KAY (by kernel_rfl) (fun b12=>?_)
  refine KAY (by kernel_rfl) (fun b11=>?_)
  refine KAa ?_
  refine Ks 12 rfl rfl (by kernel_rfl) (by kernel_rfl) (KO rfl rfl sz_60 (by exact Ko _ _ _) (by repeat (first|exact Sh _|apply St_)) (by exact KU _ _ _) ?_)
  refine Ks 13 rfl rfl (by kernel_rfl) (by kernel_rfl) (KO rfl rfl sz_60 (by exact Ko _ _ _) (by repeat (first|exact Sh _|apply St_)) (by exact KU _ _ _) ?_)
  refine Ks 14 rfl rfl (by kernel_rfl) (by kernel_rfl) (KO rfl rfl sz_60 (by exact Ko _ _ _) (by repeat (first|exact Sh _|apply St_)) (by exact KU _ _ _) ?_)
  refine Kp (by kernel_rfl) ?_
  refine KD (KB ?_)
  refine KA (KM (o':=0) Try.underlying31 rfl rfl rfl sz_3 (by decide)) (Nb rfl) ?_
  refine LOps.det (KK rfl (by repeat (first|exact Mh _|apply Mt)) (KY Try.underlying3 rfl (by first|rfl|exact Kt _ _ _ (by omega)|exact Kr _ (by omega)|exact Kq _ (by omega)|exact dv_m _ _ _ (by omega)))) (Nb rfl) ?_
  refine LOps.det (KK rfl (by repeat (first|exact Mh _|apply Mt)) (by exact KJ Try.underlying60 rfl sz_60)) (Nb rfl) ?_
  refine LOps.det (KK rfl (by repeat (first|exact Mh _|apply Mt)) (by exact KJ Try.underlying60 rfl sz_60)) (Nb rfl) ?_
  refine KH rfl (KS (KR (first:=[]) rfl en_88 rfl (Nb rfl) (fun w hw=>c_affAdd _ V (P) (R) (padd V.A (P) (R)) w h2 hPo hRo (rfl)) ?_))
  refine KA (KE rfl) (Nb rfl) ?_
  refine KA (KZ rfl rfl) (Nb rfl) ?_
  refine KA (KZ rfl rfl) (Nb rfl) ?_
  refine KH rfl (KS (KQ (Kb zr_60) (Nb rfl) (fun b14=>?_)))
  refine KH rfl (KO rfl rfl sz_60 (by exact Ko _ _ _) (by repeat (first|exact Sh _|apply St_)) (by exact KU _ _ _) ?_)
  refine KA (KF rfl) (Nb rfl) ?_
  refine KG ?_
  refine KD (KB ?_)
  refine KA (KM (o':=0) Try.underlying31 rfl rfl rfl sz_3 (by decide)) (Nb rfl) ?_
  refine LOps.det (KK rfl (by repeat (first|exact Mh _|apply Mt)) (KY Try.underlying3 rfl (by first|rfl|exact Kt _ _ _ (by omega)|exact Kr _ (by omega)|exact Kq _ (by omega)|exact dv_m _ _ _ (by omega)))) (Nb rfl) ?_
  refine LOps.det (KK rfl (by repeat (first|exact Mh _|apply Mt)) (by exact KJ Try.underlying60 rfl sz_60)) (Nb rfl) ?_
  refine LOps.det (KK rfl (by repeat (first|exact Mh _|apply Mt)) (by exact KJ Try.underlying60 rfl sz_60)) (Nb rfl) ?_
  refine KH rfl (KS (KR (first:=[]) rfl en_88 rfl (Nb rfl) (fun w hw=>c_affAdd _ V (R) (P) (padd V.A (R) (P)) w h2 hRo hPo (rfl)) ?_))
  refine KA (KE rfl) (Nb rfl) ?_
  refine KA (KZ rfl rfl) (Nb rfl) ?_
  refine KA (KZ rfl rfl) (Nb rfl) ?_
  refine KH rfl (KS (KQ (Kb zr_60) (Nb rfl) (fun b16=>?_)))
  refine KH rfl (KO rfl rfl sz_60 (by exact Ko _ _ _) (by repeat (first|exact Sh _|apply St_)) (by exact KU _ _ _) ?_)
  refine KA (KF rfl) (Nb rfl) ?_
  refine KG ?_
  refine KD (KB ?_)
  refine KA (KM (o':=0) Try.underlying31 rfl rfl rfl sz_3 (by decide)) (Nb rfl) ?_
  refine LOps.det (KK rfl (by repeat (first|exact Mh _|apply Mt)) (KY Try.underlying3 rfl (by first|rfl|exact Kt _ _ _ (by omega)|exact Kr _ (by omega)|exact Kq _ (by omega)|exact dv_m _ _ _ (by omega)))) (Nb rfl) ?_
  refine LOps.det (KK rfl (by repeat (first|exact Mh _|apply Mt)) (by exact KJ Try.underlying60 rfl sz_60)) (Nb rfl) ?_
  refine LOps.det (KK rfl (by repeat (first|exact Mh _|apply Mt)) (by exact KJ Try.underlying60 rfl sz_60)) (Nb rfl) ?_
  refine KH rfl (KS (KR (first:=[]) rfl en_88 rfl (Nb rfl) (fun w hw=>c_affAdd _ V (padd V.A (P) (R)) (T) (padd V.A (padd V.A (P) (R)) (T)) w h2 (hok.sum hPo hRo) hTo (rfl)) ?_))
  refine KA (KE rfl) (Nb rfl) ?_
  refine KA (KZ rfl rfl) (Nb rfl) ?_
  refine KA (KZ rfl rfl) (Nb rfl) ?_
  refine KH rfl (KS (KQ (Kb zr_60) (Nb rfl) (fun b18=>?_)))
  refine KH rfl (KO rfl rfl sz_60 (by exact Ko _ _ _) (by repeat (first|exact Sh _|apply St_)) (by exact KU _ _ _) ?_)
  refine KA (KF rfl) (Nb rfl) ?_
  refine KG ?_
  refine KD (KB ?_)
  refine KA (KM (o':=0) Try.underlying31 rfl rfl rfl sz_3 (by decide)) (Nb rfl) ?_
  refine LOps.det (KK rfl (by repeat (first|exact Mh _|apply Mt)) (KY Try.underlying3 rfl (by first|rfl|exact Kt _ _ _ (by omega)|exact Kr _ (by omega)|exact Kq _ (by omega)|exact dv_m _ _ _ (by omega)))) (Nb rfl) ?_
  refine LOps.det (KK rfl (by repeat (first|exact Mh _|apply Mt)) (by exact KJ Try.underlying60 rfl sz_60)) (Nb rfl) ?_
  refine LOps.det (KK rfl (by repeat (first|exact Mh _|apply Mt)) (by exact KJ Try.underlying60 rfl sz_60)) (Nb rfl) ?_
  refine KH rfl (KS (KR (first:=[]) rfl en_88 rfl (Nb rfl) (fun w hw=>c_affAdd _ V (R) (T) (padd V.A (R) (T)) w h2 hRo hTo (rfl)) ?_))
  refine KA (KE rfl) (Nb rfl) ?_
  refine KA (KZ rfl rfl) (Nb rfl) ?_
  refine KA (KZ rfl rfl) (Nb rfl) ?_
  refine KH rfl (KS (KQ (Kb zr_60) (Nb rfl) (fun b20=>?_)))
  refine KH rfl (KO rfl rfl sz_60 (by exact Ko _ _ _) (by repeat (first|exact Sh _|apply St_)) (by exact KU _ _ _) ?_)
  refine KA (KF rfl) (Nb rfl) ?_
  refine KG ?_
  refine KD (KB ?_)
  refine KA (KM (o':=0) Try.underlying31 rfl rfl rfl sz_3 (by decide)) (Nb rfl) ?_
  refine LOps.det (KK rfl (by repeat (first|exact Mh _|apply Mt)) (KY Try.underlying3 rfl (by first|rfl|exact Kt _ _ _ (by omega)|exact Kr _ (by omega)|exact Kq _ (by omega)|exact dv_m _ _ _ (by omega)))) (Nb rfl) ?_
  refine LOps.det (KK rfl (by repeat (first|exact Mh _|apply Mt)) (by exact KJ Try.underlying60 rfl sz_60)) (Nb rfl) ?_
  refine LOps.det (KK rfl (by repeat (first|exact Mh _|apply Mt)) (by exact KJ Try.underlying60 rfl sz_60)) (Nb rfl) ?_
  refine KH rfl (KS (KR (first:=[]) rfl en_88 rfl (Nb rfl) (fun w hw=>c_affAdd _ V (P) (padd V.A (R) (T)) (padd V.A (P) (padd V.A (R) (T))) w h2 hPo (hok.sum hRo hTo) (rfl)) ?_))
  refine KA (KE rfl) (Nb rfl) ?_
  refine KA (KZ rfl rfl) (Nb rfl) ?_
  refine KA (KZ rfl rfl) (Nb rfl) ?_
  refine KH rfl (KS (KQ (Kb zr_60) (Nb rfl) (fun b22=>?_)))
  refine KH rfl (KO rfl rfl sz_60 (by exact Ko _ _ _) (by repeat (first|exact Sh _|apply St_)) (by exact KU _ _ _) ?_)
  refine KA (KF rfl) (Nb rfl) ?_
  refine KG ?_
  refine KD (KB ?_)
  refine KA (KM (o':=0) Try.underlying31 rfl rfl rfl sz_3 (by decide)) (Nb rfl) ?_
  refine LOps.det (KK rfl (by repeat (first|exact Mh _|apply Mt)) (KY Try.underlying3 rfl (by first|rfl|exact Kt _ _ _ (by omega)|exact Kr _ (by omega)|exact Kq _ (by omega)|exact dv_m _ _ _ (by omega)))) (Nb rfl) ?_
  refine LOps.det (KK rfl (by repeat (first|exact Mh _|apply Mt)) (by exact KJ Try.underlying60 rfl sz_60)) (Nb rfl) ?_
  refine KH rfl (KS (KR (first:=[]) rfl en_89 rfl (Nb rfl) (fun w hw=>c_affNeg _ V (P) w h2 hPo) ?_))
  refine KA (KE rfl) (Nb rfl) ?_
  refine KA (KZ rfl rfl) (Nb rfl) ?_
  refine KA (KZ rfl rfl) (Nb rfl) ?_
  refine KH rfl (KS (KQ (Kb zr_60) (Nb rfl) (fun b24=>?_)))
  refine KH rfl (KO rfl rfl sz_60 (by exact Ko _ _ _) (by repeat (first|exact Sh _|apply St_)) (by exact KU _ _ _) ?_)
  refine KA (KF rfl) (Nb rfl) ?_
  refine KG ?_
  refine KD (KB ?_)
  refine KA (KM (o':=0) Try.underlying31 rfl rfl rfl sz_3 (by decide)) (Nb rfl) ?_
  refine LOps.det (KK rfl (by repeat (first|exact Mh _|apply Mt)) (KY Try.underlying3 rfl (by first|rfl|exact Kt _ _ _ (by omega)|exact Kr _ (by omega)|exact Kq _ (by omega)|exact dv_m _ _ _ (by omega)))) (Nb rfl) ?_
  refine LOps.det (KK rfl (by repeat (first|exact Mh _|apply Mt)) (by exact KJ Try.underlying60 rfl sz_60)) (Nb rfl) ?_
  refine LOps.det (KK rfl (by repeat (first|exact Mh _|apply Mt)) (by exact KJ Try.underlying60 rfl sz_60)) (Nb rfl) ?_
  refine KH rfl (KS (KR (first:=[]) rfl en_88 rfl (Nb rfl) (fun w hw=>c_affAdd _ V (P) (P.neg) ((.inf:Pt V.p)) w h2 hPo (neg_on hPo) (padd_neg hok.fld hPo)) ?_))
  refine KA (KE rfl) (Nb rfl) ?_
  refine KA (KZ rfl rfl) (Nb rfl) ?_
  refine KA (KZ rfl rfl) (Nb rfl) ?_
  refine KH rfl (KS (KQ (Kb zr_60) (Nb rfl) (fun b26=>?_)))
  refine KH rfl (KO rfl rfl sz_60 (by exact Ko _ _ _) (by repeat (first|exact Sh _|apply St_)) (by exact KU _ _ _) ?_)
  refine KA (KF rfl) (Nb rfl) ?_
  refine KG ?_
  refine KD (KB ?_)
  refine KA (KM (o':=0) Try.underlying31 rfl rfl rfl sz_3 (by decide)) (Nb rfl) ?_
  refine LOps.det (KK rfl (by repeat (first|exact Mh _|apply Mt)) (KY Try.underlying3 rfl (by first|rfl|exact Kt _ _ _ (by omega)|exact Kr _ (by omega)|exact Kq _ (by omega)|exact dv_m _ _ _ (by omega)))) (Nb rfl) ?_
  refine LOps.det (KK rfl (by repeat (first|exact Mh _|apply Mt)) (by exact KJ Try.underlying60 rfl sz_60)) (Nb rfl) ?_
  refine KA (KV (KAM pl_60 zr_60 rfl fill_ptInf) rfl) (Nb rfl) ?_
  refine KH rfl (KS (KR (first:=[]) rfl en_88 rfl (Nb rfl) (fun w hw=>c_affAdd _ V (P) ((.inf:Pt V.p)) (P) w h2 hPo trivial (hok.add_inf hPo)) ?_))
  refine KA (KE rfl) (Nb rfl) ?_
  refine KA (KZ rfl rfl) (Nb rfl) ?_
  refine KA (KZ rfl rfl) (Nb rfl) ?_
  refine KH rfl (KS (KQ (Kb zr_60) (Nb rfl) (fun b28=>?_)))
  refine KH rfl (KO rfl rfl sz_60 (by exact Ko _ _ _) (by repeat (first|exact Sh _|apply St_)) (by exact KU _ _ _) ?_)
  refine KA (KF rfl) (Nb rfl) ?_
  refine KG ?_
  refine KD (KB ?_)
  refine KA (KE rfl) (Nb rfl) ?_
  refine KH rfl (KS (KR (first:=[]) rfl en_46 rfl (Nb rfl) (fun w hw=>c_Num _ w) ?_))
  refine KA (KP (v:=.bool true) rfl rfl (br_t (KAq (b:=0)) (by first|rfl|assumption|omega|(simp; done)))) (Nb rfl) ?_
  refine KA (KE rfl) (Nb rfl) ?_
  refine Kf rfl rfl (KE rfl) (Nb rfl) ?_
  refine KAf rfl rfl rfl (KS (KR (first:=[]) rfl en_46 rfl (Nb rfl) (fun w hw=>c_Num _ w) ?_))
  refine Kf rfl rfl (KP (v:=.bool true) rfl rfl (br_t (KAq (b:=0)) (by first|rfl|assumption|omega|(simp; done)))) (Nb rfl) ?_
  refine KA (Kw rfl rfl) (Nb rfl) ?_
  refine KA (KE rfl) (Nb rfl) ?_
  refine Kf rfl rfl (KE rfl) (Nb rfl) ?_
  refine KAf rfl rfl rfl (KS (KR (first:=[]) rfl en_46 rfl (Nb rfl) (fun w hw=>c_Num _ w) ?_))
  refine Kf rfl rfl (KP (v:=.bool true) rfl rfl (br_t (KAq (b:=0)) (by first|rfl|assumption|omega|(simp; done)))) (Nb rfl) ?_
  refine KA (Kw rfl rfl) (Nb rfl) ?_
  refine KA (KE rfl) (Nb rfl) ?_
  refine Kf rfl rfl (KE rfl) (Nb rfl) ?_
  refine KAf rfl rfl rfl (KS (KR (first:=[]) rfl en_46 rfl (Nb rfl) (fun w hw=>c_Num _ w) ?_))
  refine Kf rfl rfl (KP (v:=.bool true) rfl rfl (br_t (KAq (b:=0)) (by first|rfl|assumption|omega|(simp; done)))) (Nb rfl) ?_
  refine KA (Kw rfl rfl) (Nb rfl) ?_
  refine KA (KE rfl) (Nb rfl) ?_
  refine KAU rfl rfl (KK rfl (by repeat (first|exact Mh _|apply Mt)) (by exact KJ Try.underlying60 rfl sz_60)) (Nb rfl) ?_
  refine KAU rfl rfl (KK rfl (by repeat (first|exact Mh _|apply Mt)) (by exact KJ Try.underlying60 rfl sz_60)) (Nb rfl) ?_
  refine Kf rfl rfl (KV (Det.eqa (by kernel_rfl) (fun w=>eq_ptP_t hok (P:=padd V.A (P) (R)) (Q:=padd V.A (R) (P)) (padd_comm hok.fld hPo hRo) 10000 (by decide) w) rfl rfl) (show _ = Value.bool true by rfl)) (Nb rfl) ?_
  refine KA (Kw rfl rfl) (Nb rfl) ?_
  refine KA (KE rfl) (Nb rfl) ?_
  refine KAU rfl rfl (KK rfl (by repeat (first|exact Mh _|apply Mt)) (by exact KJ Try.underlying60 rfl sz_60)) (Nb rfl) ?_
  refine KAU rfl rfl (KK rfl (by repeat (first|exact Mh _|apply Mt)) (by exact KJ Try.underlying60 rfl sz_60)) (Nb rfl) ?_
  refine Kf rfl rfl (KV (Det.eqa (by kernel_rfl) (fun w=>eq_ptP_t hok (P:=padd V.A (padd V.A (P) (R)) (T)) (Q:=padd V.A (P) (padd V.A (R) (T))) (padd_assoc hok.crv hPo hRo hTo) 10000 (by decide) w) rfl rfl) (show _ = Value.bool true by rfl)) (Nb rfl) ?_
  refine KA (Kw rfl rfl) (Nb rfl) ?_
  refine KA (KE rfl) (Nb rfl) ?_
  refine KAU rfl rfl (KK rfl (by repeat (first|exact Mh _|apply Mt)) (by exact KJ Try.underlying60 rfl sz_60)) (Nb rfl) ?_
  refine Kf rfl rfl (KV (KAM pl_60 zr_60 rfl fill_ptInf) rfl) (Nb rfl) ?_
  refine Kf rfl rfl (KV (Det.eqa (by kernel_rfl) (fun w=>eq_ptP_t hok (P:=(.inf:Pt V.p)) (Q:=(.inf:Pt V.p)) (rfl) 10000 (by decide) w) rfl rfl) (show _ = Value.bool true by rfl)) (Nb rfl) ?_
  refine KA (Kw rfl rfl) (Nb rfl) ?_
  refine KA (KE rfl) (Nb rfl) ?_
  refine KAU rfl rfl (KK rfl (by repeat (first|exact Mh _|apply Mt)) (by exact KJ Try.underlying60 rfl sz_60)) (Nb rfl) ?_
  refine KAU rfl rfl (KK rfl (by repeat (first|exact Mh _|apply Mt)) (by exact KJ Try.underlying60 rfl sz_60)) (Nb rfl) ?_
  refine Kf rfl rfl (KV (Det.eqa (by kernel_rfl) (fun w=>eq_ptP_t hok (P:=P) (Q:=P) (rfl) 10000 (by decide) w) rfl rfl) (show _ = Value.bool true by rfl)) (Nb rfl) ?_
  refine KA (Kw rfl rfl) (Nb rfl) ?_
  refine KA (KF rfl) (Nb rfl) ?_
  refine KG (Ka ?_)
  refine ⟨[_],.cons rfl .nil,fun a w' hr=>⟨?_,hr.fr.below⟩⟩
  rfl
theorem c_AffineOpposite (id:Int) (k d:Nat) (w:World) (hk:k<18446744073709551616) (hd:d<18446744073709551616):Calls Try.prog 26 ([.int .i64 id,.int .u64 ((k:Nat):Int),.int .u64 ((d:Nat):Int)]:List Value).toArray w (fun e w'=>e = .returned (.bool true)∧Below w.heap.size w w'):=by
  obtain ⟨V,h⟩:=cvI_idx id
  obtain ⟨hok,hid⟩:=cvI_ok h
  have h2:=cvI_id h
  obtain ⟨hb5,hb521,hba,hbb,hbx,hby,hbn,hbo,hbo2,hbb1,hbn1⟩:=hok.bounds
  have hsz:=hok.sz
  have hsp:=hsz.p
  have hsa:=hsz.a
  have hsb:=hsz.b
  have hp0:V.p≠0:=by omega
  have hpp:0<V.p:=by omega
  have hm17:∀ k,D.nw (k%V.p)≤17:=fun k=>Nat.le_trans (D.nw_mono (Nat.le_of_lt (Nat.mod_lt k hpp))) hsp
  have hpW:V.p<W9:=w9_521 hb521
  have hnW:V.n<W9:=w9_521 hbn
  have hxW:=Nat.lt_trans hbx hpW
  have hyW:=Nat.lt_trans hby hpW
  have hsn:=hsz.n
  have h17:∀ {A:Nat},A<V.p→D.nw A≤100000:=fun h=>Nat.le_trans (nw_521 (Nat.lt_trans h hb521)) (by decide)
  have hPq:=hok.mul hok.on (k)
  obtain ⟨P,hPe⟩:∃ P,pmul V.A V.G (k) = P:=⟨_,rfl⟩
  have hPo:On V.A V.B P:=hPe ▸ hPq
  refine KAB (N:=103) (rs:=[.tmp 6]) [] Try.func26 rfl Try.ntmps26 Try.results26 (Nb rfl) trivial rfl ?_
  show LCode _ _ _ ⟨_,_⟩ _
  refine KD (KB ?_)
  refine KA (KF rfl) (Nb rfl) ?_
  refine KG ?_
  refine KD ?_
  refine KD (KB ?_)
  refine KH rfl (KS (KR (first:=[]) rfl en_90 rfl (Nb rfl) (fun w hw=>c_awake14 w) ?_))
  refine KA (KV (KAt rfl) (show _ = Value.bool false from rfl)) (Nb rfl) ?_
  refine KG ?_
  refine Ki rfl ?_
  refine Kh ?_
  refine KD (KB ?_)
  refine KA (KE rfl) (Nb rfl) ?_
  refine KA (KV (Det.conv Try.underlying3 Try.underlying46 rfl) (uidx_eq _)) (Nb rfl) ?_
  refine KA (KP rfl rfl (br_rem64 (b:=15) (by omega))) (Nb rfl) ?_
  refine KA (Det.convi Try.underlying46 Try.underlying3 rfl (by omega)) (Nb rfl) ?_
  refine KA (KP rfl rfl (KAS (a:=1) (by omega))) (Nb rfl) ?_
  refine KH rfl (KS (Ku (Post:=fun v its=>∃ Q,v = .tuple #[.agg (crvL Q V).toArray,.bool true]∧its = [crvI Q V]) (first:=[]) rfl en_43 rfl (Nb rfl) (fun w1 hw hs=>(c_r_Get _ V w1 h).mono fun e w' ⟨Q,h1,h2,h3,h4⟩=>⟨_,_,⟨Q,rfl,rfl⟩,h1,KAs h4 (by intro x hx; simp at hx; subst hx; exact h2) (by intro x hx; simp at hx; subst hx; rfl) (by intro x hx k hk; simp at hx; subst hx; exact .inl (h3 k hk))⟩) ?_))
  rintro _ _ ⟨Q,rfl,rfl⟩
  refine KA (KE rfl) (Nb rfl) ?_
  refine KA (KZ rfl rfl) (Nb rfl) ?_
  refine KA (KZ rfl rfl) (Nb rfl) ?_
  refine KH rfl (KS (KQ (Kb zr_31) (Nb rfl) (fun b7=>?_)))
  refine KH rfl (KO rfl rfl sz_31 (by repeat (first|exact KW|refine KT rfl ?_)) (by repeat (first|exact Sh _|apply St_)) (by rfl) ?_)
  refine KA (KF rfl) (Nb rfl) ?_
  refine KG ?_
  refine KD ?_
  refine KD (KB ?_)
  refine KA (KE rfl) (Nb rfl) ?_
  refine KA (KV (KAt rfl) (show _ = Value.bool false from rfl)) (Nb rfl) ?_
  refine KG ?_
  refine Ki rfl ?_
  refine Kh ?_
  refine KD (KB ?_)
  refine LOps.det (KK rfl (by repeat (first|exact Mh _|apply Mt)) (by exact KJ Try.underlying31 rfl sz_31)) (Nb rfl) ?_
  refine KA (KE rfl) (Nb rfl) ?_
  refine KH rfl (KS (KR (first:=[]) rfl en_92 rfl (Nb rfl) (fun w hw=>c_Some Q V (k) P w (hw _ (by repeat (first|exact Mh _|apply Mt))) hok hk hPe) ?_))
  refine KH rfl (KS (KQ (Kb zr_60) (Nb rfl) (fun b9=>?_)))
  refine KH rfl (KO rfl rfl sz_60 (by exact Ko _ _ _) (by repeat (first|exact Sh _|apply St_)) (by exact KU _ _ _) ?_)
  refine KG ?_
  refine KD (KB ?_)
  refine KA (KM (o':=0) Try.underlying31 rfl rfl rfl sz_3 (by decide)) (Nb rfl) ?_
  refine LOps.det (KK rfl (by repeat (first|exact Mh _|apply Mt)) (KY Try.underlying3 rfl (by first|rfl|exact Kt _ _ _ (by omega)|exact Kr _ (by omega)|exact Kq _ (by omega)|exact dv_m _ _ _ (by omega)))) (Nb rfl) ?_
  refine LOps.det (KK rfl (by repeat (first|exact Mh _|apply Mt)) (by exact KJ Try.underlying60 rfl sz_60)) (Nb rfl) ?_
  refine KH rfl (KS (KR (first:=[]) rfl en_89 rfl (Nb rfl) (fun w hw=>c_affNeg _ V (P) w h2 hPo) ?_))
  refine KA (KE rfl) (Nb rfl) ?_
  refine KA (KZ rfl rfl) (Nb rfl) ?_
  refine KA (KZ rfl rfl) (Nb rfl) ?_
  refine KH rfl (KS (KQ (Kb zr_60) (Nb rfl) (fun b10=>?_)))
  refine KH rfl (KO rfl rfl sz_60 (by exact Ko _ _ _) (by repeat (first|exact Sh _|apply St_)) (by exact KU _ _ _) ?_)
  refine KA (KF rfl) (Nb rfl) ?_
  refine KG ?_
  refine KD ?_
  refine Kc [10] (by kernel_rfl) ?_
  refine KC 0 rfl (by kernel_rfl) (Nb rfl) (KM (o':=0) Try.underlying31 rfl rfl rfl sz_3 (by decide)) ?_
  refine LAny.take 1 rfl (by kernel_rfl) (Nb rfl) (KK rfl (by repeat (first|exact Mh _|apply Mt)) (KY Try.underlying3 rfl (by first|rfl|exact Kt _ _ _ (by omega)|exact Kr _ (by omega)|exact Kq _ (by omega)|exact dv_m _ _ _ (by omega)))) ?_
  refine KC 2 rfl (by kernel_rfl) (Nb rfl) (KE rfl) ?_
  refine LAny.take 4 rfl (by kernel_rfl) (Nb rfl) (KK rfl (by repeat (first|exact Mh _|apply Mt)) (by exact KJ Try.underlying60 rfl sz_60)) ?_
  refine LAny.toP ?_
  refine KAT 9 rfl (.inl zr_60) (Nb rfl) rfl rfl rfl ?_
  refine KAD 3 rfl rfl rfl (Nb rfl) (by kernel_rfl) rfl (KAL (first:=[]) rfl en_55 rfl (fun w hw=>c_One d w hd)) ?_
  rintro _ _ ⟨rfl,rfl⟩
  refine KAD 5 rfl rfl rfl (Nb rfl) (by kernel_rfl) rfl (KAL (first:=[]) rfl en_91 rfl (fun w hw=>c_affMul _ V (d) (P.neg) w h2 (neg_on hPo) (u64_w9 hd))) ?_
  rintro _ _ ⟨rfl,rfl⟩
  refine KAR 6 rfl (by kernel_rfl) (Nb rfl) rfl (KE rfl) ?_
  refine KAR 7 rfl (by kernel_rfl) (Nb rfl) rfl (KZ rfl rfl) ?_
  refine KAR 8 rfl (by kernel_rfl) (Nb rfl) rfl (KZ rfl rfl) ?_
  refine KAY (by kernel_rfl) (fun b12=>?_)
  refine KAa ?_
  refine Ks 10 rfl rfl (by kernel_rfl) (by kernel_rfl) (KO rfl rfl sz_60 (by exact Ko _ _ _) (by repeat (first|exact Sh _|apply St_)) (by exact KU _ _ _) ?_)
  refine KC 11 rfl (by kernel_rfl) (Nb rfl) (KF rfl) ?_
  refine Kp (by kernel_rfl) ?_
  refine KD ?_
  refine Kc [10] (by kernel_rfl) ?_
  refine KC 0 rfl (by kernel_rfl) (Nb rfl) (KM (o':=0) Try.underlying31 rfl rfl rfl sz_3 (by decide)) ?_
  refine LAny.take 1 rfl (by kernel_rfl) (Nb rfl) (KK rfl (by repeat (first|exact Mh _|apply Mt)) (KY Try.underlying3 rfl (by first|rfl|exact Kt _ _ _ (by omega)|exact Kr _ (by omega)|exact Kq _ (by omega)|exact dv_m _ _ _ (by omega)))) ?_
  refine KC 2 rfl (by kernel_rfl) (Nb rfl) (KE rfl) ?_
  refine LAny.take 4 rfl (by kernel_rfl) (Nb rfl) (KK rfl (by repeat (first|exact Mh _|apply Mt)) (by exact KJ Try.underlying60 rfl sz_60)) ?_
  refine LAny.toP ?_
  refine KAT 9 rfl (.inl zr_60) (Nb rfl) rfl rfl rfl ?_
  refine KAD 3 rfl rfl rfl (Nb rfl) (by kernel_rfl) rfl (KAL (first:=[]) rfl en_55 rfl (fun w hw=>c_One d w hd)) ?_
  rintro _ _ ⟨rfl,rfl⟩
  refine KAD 5 rfl rfl rfl (Nb rfl) (by kernel_rfl) rfl (KAL (first:=[]) rfl en_91 rfl (fun w hw=>c_affMul _ V (d) (P) w h2 hPo (u64_w9 hd))) ?_
  rintro _ _ ⟨rfl,rfl⟩
  refine KAR 6 rfl (by kernel_rfl) (Nb rfl) rfl (KE rfl) ?_
  refine KAR 7 rfl (by kernel_rfl) (Nb rfl) rfl (KZ rfl rfl) ?_
  refine KAR 8 rfl (by kernel_rfl) (Nb rfl) rfl (KZ rfl rfl) ?_
  refine KAY (by kernel_rfl) (fun b14=>?_)
  refine KAa ?_
  refine Ks 10 rfl rfl (by kernel_rfl) (by kernel_rfl) (KO rfl rfl sz_60 (by exact Ko _ _ _) (by repeat (first|exact Sh _|apply St_)) (by exact KU _ _ _) ?_)
  refine KC 11 rfl (by kernel_rfl) (Nb rfl) (KF rfl) ?_
  refine Kp (by kernel_rfl) ?_
  refine KD (KB ?_)
  refine KA (KM (o':=0) Try.underlying31 rfl rfl rfl sz_3 (by decide)) (Nb rfl) ?_
  refine LOps.det (KK rfl (by repeat (first|exact Mh _|apply Mt)) (KY Try.underlying3 rfl (by first|rfl|exact Kt _ _ _ (by omega)|exact Kr _ (by omega)|exact Kq _ (by omega)|exact dv_m _ _ _ (by omega)))) (Nb rfl) ?_
  refine LOps.det (KK rfl (by repeat (first|exact Mh _|apply Mt)) (by exact KJ Try.underlying60 rfl sz_60)) (Nb rfl) ?_
  refine KH rfl (KS (KR (first:=[]) rfl en_89 rfl (Nb rfl) (fun w hw=>c_affNeg _ V (pmul V.A P d) w h2 (hok.mul hPo _)) ?_))
  refine KA (KE rfl) (Nb rfl) ?_
  refine KA (KZ rfl rfl) (Nb rfl) ?_
  refine KA (KZ rfl rfl) (Nb rfl) ?_
  refine KH rfl (KS (KQ (Kb zr_60) (Nb rfl) (fun b16=>?_)))
  refine KH rfl (KO rfl rfl sz_60 (by exact Ko _ _ _) (by repeat (first|exact Sh _|apply St_)) (by exact KU _ _ _) ?_)
  refine KA (KF rfl) (Nb rfl) ?_
  refine KG ?_
  refine KD (KB ?_)
  refine KA (KM (o':=0) Try.underlying31 rfl rfl rfl sz_3 (by decide)) (Nb rfl) ?_
  refine LOps.det (KK rfl (by repeat (first|exact Mh _|apply Mt)) (KY Try.underlying3 rfl (by first|rfl|exact Kt _ _ _ (by omega)|exact Kr _ (by omega)|exact Kq _ (by omega)|exact dv_m _ _ _ (by omega)))) (Nb rfl) ?_
  refine LOps.det (KK rfl (by repeat (first|exact Mh _|apply Mt)) (by exact KJ Try.underlying60 rfl sz_60)) (Nb rfl) ?_
  refine KH rfl (KS (KR (first:=[]) rfl en_89 rfl (Nb rfl) (fun w hw=>c_affNeg _ V (P.neg) w h2 (neg_on hPo)) ?_))
  refine KA (KE rfl) (Nb rfl) ?_
  refine KA (KZ rfl rfl) (Nb rfl) ?_
  refine KA (KZ rfl rfl) (Nb rfl) ?_
  refine KH rfl (KS (KQ (Kb zr_60) (Nb rfl) (fun b18=>?_)))
  refine KH rfl (KO rfl rfl sz_60 (by exact Ko _ _ _) (by repeat (first|exact Sh _|apply St_)) (by exact KU _ _ _) ?_)
  refine KA (KF rfl) (Nb rfl) ?_
  refine KG ?_
  refine KD (KB ?_)
  refine KA (KE rfl) (Nb rfl) ?_
  refine KH rfl (KS (KR (first:=[]) rfl en_46 rfl (Nb rfl) (fun w hw=>c_Num _ w) ?_))
  refine KA (KP (v:=.bool true) rfl rfl (br_t (KAq (b:=0)) (by first|rfl|assumption|omega|(simp; done)))) (Nb rfl) ?_
  refine KA (KE rfl) (Nb rfl) ?_
  refine Kf rfl rfl (KE rfl) (Nb rfl) ?_
  refine KAf rfl rfl rfl (KS (KR (first:=[]) rfl en_46 rfl (Nb rfl) (fun w hw=>c_Num _ w) ?_))
  refine Kf rfl rfl (KP (v:=.bool true) rfl rfl (br_t (KAq (b:=0)) (by first|rfl|assumption|omega|(simp; done)))) (Nb rfl) ?_
  refine KA (Kw rfl rfl) (Nb rfl) ?_
  refine KA (KE rfl) (Nb rfl) ?_
  refine Kf rfl rfl (KE rfl) (Nb rfl) ?_
  refine KAf rfl rfl rfl (KS (KR (first:=[]) rfl en_46 rfl (Nb rfl) (fun w hw=>c_Num _ w) ?_))
  refine Kf rfl rfl (KP (v:=.bool true) rfl rfl (br_t (KAq (b:=0)) (by first|rfl|assumption|omega|(simp; done)))) (Nb rfl) ?_
  refine KA (Kw rfl rfl) (Nb rfl) ?_
  refine KA (KE rfl) (Nb rfl) ?_
  refine Kf rfl rfl (KE rfl) (Nb rfl) ?_
  refine KAf rfl rfl rfl (KS (KR (first:=[]) rfl en_46 rfl (Nb rfl) (fun w hw=>c_Num _ w) ?_))
  refine Kf rfl rfl (KP (v:=.bool true) rfl rfl (br_t (KAq (b:=0)) (by first|rfl|assumption|omega|(simp; done)))) (Nb rfl) ?_
  refine KA (Kw rfl rfl) (Nb rfl) ?_
  refine KA (KE rfl) (Nb rfl) ?_
  refine KAU rfl rfl (KK rfl (by repeat (first|exact Mh _|apply Mt)) (by exact KJ Try.underlying60 rfl sz_60)) (Nb rfl) ?_
  refine KAU rfl rfl (KK rfl (by repeat (first|exact Mh _|apply Mt)) (by exact KJ Try.underlying60 rfl sz_60)) (Nb rfl) ?_
  refine Kf rfl rfl (KV (Det.eqa (by kernel_rfl) (fun w=>eq_ptP_t hok (P:=pmul V.A P.neg d) (Q:=(pmul V.A P d).neg) (pmul_neg hok.fld hPo _) 10000 (by decide) w) rfl rfl) (show _ = Value.bool true by rfl)) (Nb rfl) ?_
  refine KA (Kw rfl rfl) (Nb rfl) ?_
  refine KA (KE rfl) (Nb rfl) ?_
  refine KAU rfl rfl (KK rfl (by repeat (first|exact Mh _|apply Mt)) (by exact KJ Try.underlying60 rfl sz_60)) (Nb rfl) ?_
  refine KAU rfl rfl (KK rfl (by repeat (first|exact Mh _|apply Mt)) (by exact KJ Try.underlying60 rfl sz_60)) (Nb rfl) ?_
  refine Kf rfl rfl (KV (Det.eqa (by kernel_rfl) (fun w=>eq_ptP_t hok (P:=P.neg.neg) (Q:=P) (Pt.neg_neg P) 10000 (by decide) w) rfl rfl) (show _ = Value.bool true by rfl)) (Nb rfl) ?_
  refine KA (Kw rfl rfl) (Nb rfl) ?_
  refine KA (KF rfl) (Nb rfl) ?_
  refine KG (Ka ?_)
  refine ⟨[_],.cons rfl .nil,fun a w' hr=>⟨?_,hr.fr.below⟩⟩
  rfl
end Go.Proofs.Ytljblbgogjieaaa
set_option maxRecDepth 100000
namespace Go.Proofs.Ytljblbgogjieaaa
open Go
def ioChars:List Char:=([104,97,114,110,101,115,115,32,102,51,57,52,54,98,99,101,49,54,101,56,99,51,102,52,49,56,48,97,55,101,53,50,100,97,98,100,56,55,98,56,54,57,51,56,100,57,50,50,100,99,56,97,98,97,101,55,102,48,56,57,55,57,99,51,48,57,101,52,56,98,54,48,32,99,117,116,32,97,116,32,99,117,114,118,101,116,47,99,117,114,118,101,116,108,97,119,50,51,46,82,97,119,115,32,99,117,114,118,101,116,47,99,117,114,118,101,116,108,97,119,50,51,46,82,97,119,66,97,99,107,32,99,117,114,118,101,116,47,99,117,114,118,101,116,108,97,119,50,51,46,82,97,119,76,101,110,103,116,104,115,32,99,117,114,118,101,116,47,99,117,114,118,101,116,108,97,119,50,51,46,82,97,119,84,105,110,121,32,99,117,114,118,101,116,47,99,117,114,118,101,116,108,97,119,49,51,46,67,117,114,118,101,115,32,99,117,114,118,101,116,47,99,117,114,118,101,116,108,97,119,49,51,46,67,117,114,118,101,79,110,115,32,99,117,114,118,101,116,47,99,117,114,118,101,116,108,97,119,49,51,46,67,117,114,118,101,83,111,117,110,100,32,99,117,114,118,101,116,47,99,117,114,118,101,116,108,97,119,49,51,46,67,117,114,118,101,78,117,109,98,101,114,115,32,99,117,114,118,101,116,47,99,117,114,118,101,116,108,97,119,49,51,46,67,117,114,118,101,79,102,102,32,99,117,114,118,101,116,47,99,117,114,118,101,116,108,97,119,49,51,46,67,117,114,118,101,84,105,110,121,32,99,117,114,118,101,116,47,99,117,114,118,101,116,108,97,119,50,48,46,68,117,97,108,115,32,99,117,114,118,101,116,47,99,117,114,118,101,116,108,97,119,50,48,46,68,117,97,108,84,105,110,121,32,99,117,114,118,101,116,47,99,117,114,118,101,116,108,97,119,49,53,46,80,114,111,106,115,32,99,117,114,118,101,116,47,99,117,114,118,101,116,108,97,119,49,53,46,80,114,111,106,70,114,111,109,32,99,117,114,118,101,116,47,99,117,114,118,101,116,108,97,119,49,53,46,80,114,111,106,83,99,97,108,101,100,32,99,117,114,118,101,116,47,99,117,114,118,101,116,108,97,119,49,53,46,80,114,111,106,68,111,117,98,108,101,115,32,99,117,114,118,101,116,47,99,117,114,118,101,116,108,97,119,49,53,46,80,114,111,106,78,111,110,101,32,99,117,114,118,101,116,47,99,117,114,118,101,116,108,97,119,49,53,46,80,114,111,106,84,105,110,121,32,99,117,114,118,101,116,47,99,117,114,118,101,116,108,97,119,49,52,46,65,102,102,105,110,101,115,32,99,117,114,118,101,116,47,99,117,114,118,101,116,108,97,119,49,52,46,65,102,102,105,110,101,84,105,109,101,115,32,99,117,114,118,101,116,47,99,117,114,118,101,116,108,97,119,49,52,46,65,102,102,105,110,101,71,114,111,117,112,32,99,117,114,118,101,116,47,99,117,114,118,101,116,108,97,119,49,52,46,65,102,102,105,110,101,79,114,100,101,114,32,99,117,114,118,101,116,47,99,117,114,118,101,116,108,97,119,49,52,46,65,102,102,105,110,101,76,105,110,101,32,99,117,114,118,101,116,47,99,117,114,118,101,116,108,97,119,49,52,46,65,102,102,105,110,101,79,112,112,111,115,105,116,101,32,99,117,114,118,101,116,47,99,117,114,118,101,116,108,97,119,49,52,46,65,102,102,105,110,101,84,105,110,121,32,99,117,114,118,101,116,47,99,117,114,118,101,116,108,97,119,49,52,46,65,102,102,105,110,101,83,112,108,105,116,115,32,99,117,114,118,101,116,47,99,117,114,118,101,116,108,97,119,49,52,46,65,102,102,105,110,101,87,97,108,107,32,99,117,114,118,101,116,47,99,117,114,118,101,116,108,97,119,50,48,46,68,117,97,108,80,97,114,116,115,32,99,117,114,118,101,116,47,99,117,114,118,101,116,108,97,119,49,54,46,84,97,98,108,101,83,105,122,101,115,32,99,117,114,118,101,116,47,99,117,114,118,101,116,108,97,119,49,54,46,84,97,98,108,101,78,105,108,32,99,117,114,118,101,116,47,99,117,114,118,101,116,108,97,119,49,53,46,80,114,111,106,83,117,109,115,32,99,117,114,118,101,116,47,99,117,114,118,101,116,108,97,119,50,49,46,83,101,99,49,115,32,99,117,114,118,101,116,47,99,117,114,118,101,116,108,97,119,50,49,46,83,101,99,49,66,97,99,107,32,99,117,114,118,101,116,47,99,117,114,118,101,116,108,97,119,50,49,46,83,101,99,49,84,105,110,121,32,99,117,114,118,101,116,47,99,117,114,118,101,116,108,97,119,50,49,46,83,101,99,49,66,111,116,104,32,99,117,114,118,101,116,47,99,117,114,118,101,116,108,97,119,50,49,46,83,101,99,49,76,101,110,103,116,104,115,32,99,117,114,118,101,116,47,99,117,114,118,101,116,108,97,119,50,49,46,83,101,99,49,87,104,111,108,101,32,99,117,114,118,101,116,47,99,117,114,118,101,116,108,97,119,50,49,46,83,101,99,49,71,114,101,97,116,32,99,117,114,118,101,116,47,99,117,114,118,101,116,108,97,119,49,54,46,84,97,98,108,101,115,32,99,117,114,118,101,116,47,99,117,114,118,101,116,108,97,119,49,57,46,66,97,115,101,115]:List Nat).map Char.ofNat
theorem io_lit:Try.prog.initOrder = String.ofList ioChars:=by kernel_rfl
theorem io_list:Try.prog.initOrder.toList = ioChars:=by rw [io_lit,String.toList_ofList]
def cutW:List Char:=([99,117,116]:List Nat).map Char.ofNat
def ioRest:List (List Char):=(wordsSigns ioChars).drop 3
theorem io_words:behindMainWord (wordsSigns ioChars) = cutW :: ioRest:=by kernel_rfl
theorem io_strip (r:List (List Char)):stripLifts liftWords (cutW :: r) = ([],cutW :: r):=by kernel_rfl
theorem no_later:Try.prog.laysLater = false:=by kernel_rfl
theorem no_reflect:Try.prog.bearsReflect = false:=by kernel_rfl
theorem door_fits:Try.prog.doorFits [] = true:=by kernel_rfl
theorem and2 {a b:Bool} (h:a = true) (k:b = true):(a && b) = true:=by rw [h,k]; rfl
theorem or_right {a b:Bool} (h:b = true):(a || b) = true:=by rw [h]; cases a <;> rfl
theorem cut_is : (cutW == "cut".toList) = true := by kernel_rfl
theorem cut_gc : (cutW == "gc".toList) = false := by kernel_rfl
theorem cut_spec : (cutW == "spec".toList) = false := by kernel_rfl
theorem cut_carried : (cutW == "carried".toList) = false := by kernel_rfl
theorem head_carried (r : List (List Char)) : ((cutW :: r).head? == some "carried".toList) = false := cut_carried
theorem enter_of (P:Program) {r:List (List Char)} (h:behindMainWord (wordsSigns P.initOrder.toList) = cutW :: r) (h1:P.laysLater = false) (h2:P.bearsReflect = false) (h3:P.doorFits [] = true):P.mayEnter = true:=by
  unfold Program.mayEnter
  rw [h]
  dsimp only
  refine or_right (and2 (and2 (and2 (and2 ?_ ?_) ?_) ?_) ?_)
  · rw [io_strip]; exact cut_is
  · rw [io_strip,h1]; rfl
  · rw [io_strip,h2]; rfl
  · rw [io_strip]; rfl
  · rw [io_strip]; exact h3
theorem lifts_of (P:Program) {r:List (List Char)} (h:behindMainWord (wordsSigns P.initOrder.toList) = cutW :: r):(false == P.liftsFinal) = true:=by
  have hl:P.headLifts = []:=by
    unfold Program.headLifts
    rw [h,io_strip]
    simp only [ite_self]
  unfold Program.liftsFinal
  rw [h,hl]
  dsimp only
  rw [head_carried,Bool.false_and]
  rfl
theorem make_of (P:Program) {r:List (List Char)} (h:behindMainWord (wordsSigns P.initOrder.toList) = cutW :: r):(P.make == some .cut) = true:=by
  have:P.make = some .cut:=by
    unfold Program.make
    rw [h]
    dsimp only
    rw [if_neg (by rw [cut_gc,cut_spec]; exact fun h=>by cases h),if_pos (by rw [cut_is]; rfl)]
  rw [this]; rfl
theorem io_all:behindMainWord (wordsSigns Try.prog.initOrder.toList) = cutW :: ioRest:=by rw [io_list,io_words]
theorem fact_enter:Try.prog.mayEnter = true:=enter_of _ io_all no_later no_reflect door_fits
theorem fact_lifts:(false == Try.prog.liftsFinal) = true:=lifts_of _ io_all
theorem fact_make:(Try.prog.make == some .cut) = true:=make_of _ io_all
theorem fact_laid:laidOutB Try.prog = true:=by kernel_rfl
theorem fact_maps:mapsRowed Try.prog = true:=by kernel_rfl
theorem fact_heard:Try.prog.stopsHeard = true:=by kernel_rfl
end Go.Proofs.Ytljblbgogjieaaa
