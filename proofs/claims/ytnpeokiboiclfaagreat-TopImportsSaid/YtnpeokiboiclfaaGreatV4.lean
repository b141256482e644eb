/- Part 4 of what the proof leans on: a symbolic execution of the model, walks of the program's functions, and the mathematics. No condition. -/
import Derived.WalkKit
import Derived.Orders
import Derived.Laws.StructEq
import Derived.WalkSpells
import Derived.OrdersHeld
import Derived.KernelRfl
import Derived.Laws.Externs
import Derived.Laws.Bits64
import Derived.Laws.MakeOwn
import Derived.Laws.BytesString
import Derived.Carry
import Derived.WideShapes
import GoSem.Claim
import Derived.Test.YtnpeokiboiclfaaGreatProg
import Derived.Deep.Upon
import Derived.Shelf.Strings.Repeat
import Derived.Ground.NamesProg
import Derived.Lib.Agree
import Derived.Shelf.Strings.Builder1
import Derived.Laws.AppendOwn
import Derived.Lib.ConvBytes
import Derived.Laws.CopyRow
import Derived.MapKept
import Derived.Test.YtnpeokiboiclfaaGreatRows
import Derived.ProofKit
import Derived.OpenShut
import Derived.SizedLaws
import Derived.ChangeMaps5
import Derived.Test.YtnpeokiboiclfaaGreatV3
set_option linter.unusedVariables false
set_option linter.unusedSimpArgs false
set_option maxRecDepth 20000
namespace Go.Proofs.YtnpeokiboiclfaaGreat
open Go Go.RowKit
theorem c_Right (V:Cv) (b f bd:Nat) (hok:V.Ok) (X:Fin V.p) (w:World) (hb:(Item.blk b ⟨false,opL V f,100,(0,0)⟩).holds w) (hf:(Item.blk f ⟨false,fldL V.p bd,165,(0,0)⟩).holds w) (hbd:(Item.blk bd ⟨false,dvL V.p,269,(0,0)⟩).holds w):CF Tryz.prog 98 [.pointer (some ⟨b,0,none⟩),natV X.val] w (natV ((X*X+V.A)*X+V.B).val):=by
  have hbb:=hok.bounds
  have hpW:V.p<W9:=KAF hbb.2.1
  refine KV (N:=31) (rs:=[.cell 4 33]) [.blk b ⟨false,opL V f,100,(0,0)⟩,.blk f ⟨false,fldL V.p bd,165,(0,0)⟩,.blk bd ⟨false,dvL V.p,269,(0,0)⟩] Tryz.func98 rfl Tryz.ntmps98 Tryz.results98 (Nb rfl) ⟨hb,hf,hbd,trivial⟩ rfl ?_
  refine KB (KA (oS (mB (fun b3=>?_))));refine oS (mk (KK zr_33) (fun b4=>?_));refine KC (KB (KA (oM ?_)));refine oP (KG rfl) (oP (KD (o':=59) u100 rfl rfl rfl sz_98 dc) (oD (dL rfl (hv:=KI u98 rfl (by exact KBP _ _ _ _ _ _ _ _ _ _ _ _ _))) ?_));refine oA (KC (KB (rD [21] ?_)));refine aM 0 ?_;refine aM 1 ?_;refine aM 2 ?_;refine aM 3 ?_;refine aD 4 rfl dNa ?_;refine aD 5 rfl dNa ?_;refine aM 7 ?_;refine aP 8 rfl (KG rfl) (aP 9 rfl (KD (o':=0) u100 rfl rfl rfl sz_53 dc) (aP 10 rfl (KD (o':=10) u53 rfl rfl rfl sz_33 dc) (aD 11 rfl (KAp (dL rfl (hv:=by exact cvC_ld_a _ _ _ _ _ _ _ _ _ _ _ _ _ _ _ _)) (a_val hok)) ?_)));refine aD 13 rfl dNa ?_;refine aM 15 ?_;refine aP 16 rfl (KG rfl) (aP 17 rfl (KD (o':=0) u100 rfl rfl rfl sz_53 dc) (aP 18 rfl (KD (o':=19) u53 rfl rfl rfl sz_33 dc) (aD 19 rfl (KAp (dL rfl (hv:=by exact KBo _ _ _ _ _ _ _ _ _ _ _ _ _ _ _ _)) (b_val hok)) ?_)))
  refine aO 6 rfl (cF rfl en_97 rfl (fun w hw=>KAm V hok f bd _ _ w (mC hw) (mC hw)) ?_);refine aO 12 rfl (cF rfl en_82 rfl (fun w hw=>KBA V hok f bd _ _ w (mC hw)) ?_);refine aO 14 rfl (cF rfl en_97 rfl (fun w hw=>KAm V hok f bd _ _ w (mC hw) (mC hw)) ?_);refine aO 20 rfl (cF rfl en_82 rfl (fun w hw=>KBA V hok f bd _ _ w (mC hw)) ?_);refine aL 21 rfl (sA rfl rfl sz_33 mO (hl:=mL) (h:=?_));refine aE (KM (eN (.cons ⟨_,_,_,rfl,mM,by exact KE u33 rfl sz_33⟩ .nil) ?_))
  rfl
theorem c_HasT (V:Cv) (f bd A:Nat) (w:World) (hf:(Item.blk f ⟨false,fldL V.p bd,165,(0,0)⟩).holds w) (hA:A<W9) (hpW:V.p<W9) (h:A<V.p):CF Tryz.prog 96 [.pointer (some ⟨f,0,none⟩),natV A] w (.bool true):=by
  have:=c_f_Has V f bd A w hf hA hpW
  rwa [decide_eq_true h] at this
theorem c_HasF (V:Cv) (f bd A:Nat) (w:World) (hf:(Item.blk f ⟨false,fldL V.p bd,165,(0,0)⟩).holds w) (hA:A<W9) (hpW:V.p<W9) (h:¬ A<V.p):CF Tryz.prog 96 [.pointer (some ⟨f,0,none⟩),natV A] w (.bool false):=by
  have:=c_f_Has V f bd A w hf hA hpW
  rwa [decide_eq_false h] at this
theorem right_val {V:Cv} (hok:V.Ok) (x:Fin V.p):rightN V.p V.a V.b x.val = ((x*x+V.A)*x+V.B).val:=by
  unfold rightN
  rw [Fin.val_add,Fin.val_mul,Fin.val_add,Fin.val_mul,hok.A_val hok.bounds.2.2.1,hok.B_val hok.bounds.2.2.2.1]
theorem on_x' {p a b X Y:Nat} (h:¬ X<p):onB p a b X Y false = false:=by
  unfold onB; rw [if_neg dc,decide_eq_false h,Bool.false_and]
theorem on_yy' {p a b X Y:Nat} (h:¬ Y<p):onB p a b X Y false = false:=by
  unfold onB; rw [if_neg dc,decide_eq_false h,Bool.false_and,Bool.and_false]
theorem on_fin {V:Cv} (hok:V.Ok) (x y:Fin V.p):onB V.p V.a V.b x.val y.val false = decide ((y*y).val = ((x*x+V.A)*x+V.B).val):=by
  unfold onB
  rw [if_neg dc,decide_eq_true x.isLt,decide_eq_true y.isLt,Bool.true_and,Bool.true_and,right_val hok,Fin.val_mul]
theorem on_inf' {p a b X Y:Nat}:onB p a b X Y true = (decide (X = 0) && decide (Y = 0)):=if_pos rfl
theorem c_cOn (V:Cv) (b f bd:Nat) (hok:V.Ok) (X Y:Nat) (i:Bool) (w:World) (hb:(Item.blk b ⟨false,opL V f,100,(0,0)⟩).holds w) (hf:(Item.blk f ⟨false,fldL V.p bd,165,(0,0)⟩).holds w) (hbd:(Item.blk bd ⟨false,dvL V.p,269,(0,0)⟩).holds w) (hX:X<W9) (hY:Y<W9):CF Tryz.prog 55 [.pointer (some ⟨b,0,none⟩),ptV X Y i] w (.bool (onB V.p V.a V.b X Y i)):=by
  have hbb:=hok.bounds
  have hpW:V.p<W9:=KAF hbb.2.1
  refine KV (N:=42) (rs:=[.tmp 4]) [.blk b ⟨false,opL V f,100,(0,0)⟩,.blk f ⟨false,fldL V.p bd,165,(0,0)⟩,.blk bd ⟨false,dvL V.p,269,(0,0)⟩] Tryz.func55 rfl Tryz.ntmps55 Tryz.results55 (Nb rfl) ⟨hb,hf,hbd,trivial⟩ rfl ?_
  refine KB (KA (oS (mB (fun b3=>?_))));refine oA (KC (KB (KB ?_)))
  cases i
  ·
   refine KA (oP (KD (o':=18) u47 rfl rfl rfl sz_4 dc) (oD (dL rfl (hv:=KI u4 rfl (by exact pt_gt _ _ _))) ?_));refine KC (KH rfl (KN (KB ?_)))
   rcases (show (¬ X<V.p)∨(X<V.p∧¬ Y<V.p)∨(X<V.p∧Y<V.p) by omega) with h1|⟨h1,h2⟩|⟨h1,h2⟩
   ·
    refine rD [] (aM 0 ?_);refine aP 1 rfl (KG rfl) (aP 2 rfl (KD (o':=59) u100 rfl rfl rfl sz_98 dc) (aD 3 rfl (dL rfl (hv:=KI u98 rfl (by exact KBP _ _ _ _ _ _ _ _ _ _ _ _ _))) ?_));refine aP 4 rfl (KD (o':=0) u47 rfl rfl rfl sz_33 dc) (aD 5 rfl (dL rfl (hv:=by exact Kf u33 rfl sz_33 rfl (KL _))) ?_);refine aO 6 rfl (cF rfl en_96 rfl (fun w hw=>c_HasF V f bd X w (mC hw) hX hpW h1) ?_);refine aM 7 ?_;refine aK 8 ?_;refine aK 9 ?_;refine aK 10 ?_;refine aK 11 ?_;refine aK 12 ?_;refine aK 13 ?_;refine aK 14 ?_;refine aP 15 rfl (KU rfl rfl) (aM 16 ?_);refine aK 17 ?_;refine aK 18 ?_;refine aK 19 ?_;refine aK 20 ?_;refine aK 21 ?_;refine aK 22 ?_;refine aK 23 ?_;refine aK 24 ?_;refine aK 25 ?_;refine aK 26 ?_;refine aK 27 ?_;refine aK 28 ?_;refine aK 29 ?_;refine aK 30 ?_;refine aP 31 rfl (KU rfl rfl) (aA 32 ?_);refine aE (KM (eN (.cons rfl .nil) ?_))
    rw [on_x' h1]
    rfl
   ·
    refine rD [] (aM 0 ?_);refine aP 1 rfl (KG rfl) (aP 2 rfl (KD (o':=59) u100 rfl rfl rfl sz_98 dc) (aD 3 rfl (dL rfl (hv:=KI u98 rfl (by exact KBP _ _ _ _ _ _ _ _ _ _ _ _ _))) ?_));refine aP 4 rfl (KD (o':=0) u47 rfl rfl rfl sz_33 dc) (aD 5 rfl (dL rfl (hv:=by exact Kf u33 rfl sz_33 rfl (KL _))) ?_);refine aO 6 rfl (cF rfl en_96 rfl (fun w hw=>c_HasT V f bd X w (mC hw) hX hpW h1) ?_);refine aM 7 ?_;refine aGM 8 ?_;refine aGP 9 rfl (KG rfl) (aGP 10 rfl (KD (o':=59) u100 rfl rfl rfl sz_98 dc) (aGD 11 rfl (dL rfl (hv:=KI u98 rfl (by exact KBP _ _ _ _ _ _ _ _ _ _ _ _ _))) ?_));refine aGP 12 rfl (KD (o':=9) u47 rfl rfl rfl sz_33 dc) (aGD 13 rfl (dL rfl (hv:=by exact KCR _ _ _ _ _ _)) ?_);refine aGO 14 rfl (cF rfl en_96 rfl (fun w hw=>c_HasF V f bd Y w (mC hw) hY hpW h2) ?_);refine aP 15 rfl (Kg rfl rfl) (aM 16 ?_)
    refine aK 17 ?_;refine aK 18 ?_;refine aK 19 ?_;refine aK 20 ?_;refine aK 21 ?_;refine aK 22 ?_;refine aK 23 ?_;refine aK 24 ?_;refine aK 25 ?_;refine aK 26 ?_;refine aK 27 ?_;refine aK 28 ?_;refine aK 29 ?_;refine aK 30 ?_;refine aP 31 rfl (KU rfl rfl) (aA 32 ?_);refine aE (KM (eN (.cons rfl .nil) ?_))
    rw [on_yy' h2]
    rfl
   obtain ⟨x,rfl⟩:∃ x:Fin V.p,x.val = X:=⟨⟨X,h1⟩,rfl⟩
   obtain ⟨y,rfl⟩:∃ y:Fin V.p,y.val = Y:=⟨⟨Y,h2⟩,rfl⟩
   refine rD [] (aM 0 ?_);refine aP 1 rfl (KG rfl) (aP 2 rfl (KD (o':=59) u100 rfl rfl rfl sz_98 dc) (aD 3 rfl (dL rfl (hv:=KI u98 rfl (by exact KBP _ _ _ _ _ _ _ _ _ _ _ _ _))) ?_));refine aP 4 rfl (KD (o':=0) u47 rfl rfl rfl sz_33 dc) (aD 5 rfl (dL rfl (hv:=by exact Kf u33 rfl sz_33 rfl (KL _))) ?_);refine aO 6 rfl (cF rfl en_96 rfl (fun w hw=>c_HasT V f bd x.val w (mC hw) (Nat.lt_trans x.isLt hpW) hpW x.isLt) ?_);refine aM 7 ?_;refine aGM 8 ?_;refine aGP 9 rfl (KG rfl) (aGP 10 rfl (KD (o':=59) u100 rfl rfl rfl sz_98 dc) (aGD 11 rfl (dL rfl (hv:=KI u98 rfl (by exact KBP _ _ _ _ _ _ _ _ _ _ _ _ _))) ?_));refine aGP 12 rfl (KD (o':=9) u47 rfl rfl rfl sz_33 dc) (aGD 13 rfl (dL rfl (hv:=by exact KCR _ _ _ _ _ _)) ?_);refine aGO 14 rfl (cF rfl en_96 rfl (fun w hw=>c_HasT V f bd y.val w (mC hw) (Nat.lt_trans y.isLt hpW) hpW y.isLt) ?_)
   refine aP 15 rfl (Kg rfl rfl) (aM 16 ?_);refine aGM 17 ?_;refine aGP 18 rfl (KG rfl) (aGP 19 rfl (KD (o':=59) u100 rfl rfl rfl sz_98 dc) (aGD 20 rfl (dL rfl (hv:=KI u98 rfl (by exact KBP _ _ _ _ _ _ _ _ _ _ _ _ _))) ?_));refine aGP 21 rfl (KD (o':=9) u47 rfl rfl rfl sz_33 dc) (aGD 22 rfl (dL rfl (hv:=by exact KCR _ _ _ _ _ _)) ?_);refine aGP 23 rfl (KD (o':=9) u47 rfl rfl rfl sz_33 dc) (aGD 24 rfl (dL rfl (hv:=by exact KCR _ _ _ _ _ _)) ?_);refine aGM 26 ?_;refine aGP 27 rfl (KD (o':=0) u47 rfl rfl rfl sz_33 dc) (aGD 28 rfl (dL rfl (hv:=by exact Kf u33 rfl sz_33 rfl (KL _))) ?_);refine aGO 25 rfl (cF rfl en_97 rfl (fun w hw=>KAm V hok f bd _ _ w (mC hw) (mC hw)) ?_);refine aGO 29 rfl (cF rfl en_98 rfl (fun w hw=>c_Right V b f bd hok _ w (mC hw) (mC hw) (mC hw)) ?_);refine aGP 30 rfl (KBw kr (fun w=>KBS (y*y).val ((x*x+V.A)*x+V.B).val (Nat.lt_trans (y*y).isLt hpW) (Nat.lt_trans ((x*x+V.A)*x+V.B).isLt hpW) 10000 dc w) rfl rfl) ?_
   refine aP 31 rfl (Kg rfl rfl) (aA 32 ?_);refine aE (KM (eN (.cons rfl .nil) ?_))
   rw [on_fin hok]
   rfl
  refine KA (oP (KD (o':=18) u47 rfl rfl rfl sz_4 dc) (oD (dL rfl (hv:=KI u4 rfl (by exact pt_gt _ _ _))) ?_));refine KC (KT rfl (KB (KA (oD dNb ?_))));refine oP (KJ (Ka pl_47 zr_47 rfl fill_ptInf) rfl) (oP (KBw kr (fun w=>eq_pt X Y true 0 0 true hX hY KBr KBr 10000 dc w) rfl rfl) ?_);refine oA (KC (KM ?_));refine eN (.cons rfl .nil) ?_
  rw [on_inf',show (decide (X = 0) && decide (Y = 0)) = (decide (X = 0) && (decide (Y = 0) && ((true == true) && true))) by simp]
  rfl
theorem c_curveGet (id:Int) (V:Cv) (w:World) (h:cvI id = some V):CF Tryz.prog 22 [.int .i64 id] w (.tuple #[.agg (acL V).toArray,.int .i64 ((0:Nat):Int)]):=by
  obtain ⟨hok,hid⟩:=KBT h
  have hbb:=hok.bounds
  have hpW:V.p<W9:=KAF hbb.2.1
  have hnW:V.n<W9:=KAF hbb.2.2.2.2.2.2.1
  have hbl:=KAn hnW
  have hnb:nby V.n≤72:=by (unfold nby; omega)
  refine KV (N:=14) (rs:=[.cell 2 53,.tmp 3]) [] Tryz.func22 rfl Tryz.ntmps22 Tryz.results22 (Nb rfl) trivial rfl ?_
  refine KB (KA (oS (mk (KK zr_53) (fun b2=>?_))));refine oP (KO (v:=.int .i64 ((0:Nat):Int)) rfl) (KC (KB (KA (oM ?_))));refine oS (oOpen h rfl rfl (fun b f bd=>?_));refine oA (KC (KB (KB (KA (oM ?_)))));refine oP (KJ (KAR u81 rfl rfl) (show _ = Value.bool false from rfl)) (KC (KH rfl (KN (KB (KA (oM ?_))))));refine oP (KG rfl) (oP (KD (o':=0) u100 rfl rfl rfl sz_53 dc) (oD (dL rfl (hv:=by exact op_ld_ac _ _ _ _ _)) ?_));refine LOps.step rfl (sA rfl rfl sz_53 (by exact acL_one _) (hl:=by exact acL_length _) (h:=?_));refine oP (KO (v:=.int .i64 ((0:Nat):Int)) rfl) (KC (KM (eN (.cons ⟨_,_,_,rfl,mM,by exact KE u53 rfl sz_53⟩ (.cons rfl .nil)) ?_)))
  rfl
open Grp
def pjF {p:Nat} (T:Fin p×Fin p×Fin p):Value:=pjV T.1.val T.2.1.val T.2.2.val
def pjFL {p:Nat} (T:Fin p×Fin p×Fin p):List Value:=pjL T.1.val T.2.1.val T.2.2.val
theorem fill_pj (X Y Z:Nat):fillL [(0,9),(9,9),(18,9)] (vec .u64 9 (fun _=>0)++(vec .u64 9 (fun _=>0)++vec .u64 9 (fun _=>0))) [(0,natV X),(1,natV Y),(2,natV Z)] = some (pjL X Y Z):=by
  refine KAL (A:=[]) (B:=vec .u64 9 (fun _=>0)) (D:=vec .u64 9 (fun _=>0)++vec .u64 9 (fun _=>0)) (cs:=natL X) rfl rfl (KL _) rfl rfl (KS _ _ _) ?_;refine KAL (A:=natL X) (B:=vec .u64 9 (fun _=>0)) (D:=vec .u64 9 (fun _=>0)) (cs:=natL Y) rfl rfl (KL _) (by simp) (KL _) (KS _ _ _) ?_;refine (KAL (A:=natL X++natL Y) (B:=vec .u64 9 (fun _=>0)) (D:=[]) (cs:=natL Z) rfl rfl (KL _) (by simp) (by simp [KL]) (KS _ _ _) rfl).trans ?_
  simp [pjL]
theorem fill_pjN (Y:Nat):fillL [(0,9),(9,9),(18,9)] (vec .u64 9 (fun _=>0)++(vec .u64 9 (fun _=>0)++vec .u64 9 (fun _=>0))) [(1,natV Y)] = some (pjL 0 Y 0):=by
  refine (KAL (A:=vec .u64 9 (fun _=>0)) (B:=vec .u64 9 (fun _=>0)) (D:=vec .u64 9 (fun _=>0)) (cs:=natL Y) rfl rfl (KL _) rfl (KS _ _ _) (KS _ _ _) rfl).trans ?_
  simp [pjL,natL,vec_zeros 9]
theorem c_None  (w:World)  : CF Tryz.prog 99 [] w (pjV 0 1 0):=by
  refine KV (N:=3) (rs:=[.cell 0 135]) [] Tryz.func99 rfl Tryz.ntmps99 Tryz.results99 (Nb rfl) trivial rfl ?_
  refine KB (KA (oS (mk (KK KDD) (fun b0=>?_))));refine KC (KB (KA (oS (cF rfl en_80 rfl (fun w hw=>KAb 1 dc w) ?_))));refine oP (KJ (Ka pl_135 KDD rfl (fill_pjN 1)) rfl) (LOps.step rfl (sA rfl rfl KAJ mO (hl:=mL) (h:=?_)));refine KC (KM (eN (.cons ⟨_,_,_,rfl,mM,by exact KE u135 rfl KAJ⟩ .nil) ?_))
  rfl
theorem c_NoneF {V:Cv} (hok:V.Ok) (w:World):CF Tryz.prog 99 [] w (pjF (tripF (.inf:Pt V.p))):=by
  have h:=c_None w
  have e:pjF (tripF (.inf:Pt V.p)) = pjV 0 1 0:=by
    unfold pjF tripF
    rw [fin_one (show 1<V.p from hok.prime.1)]
    rfl
  rwa [e]
theorem c_Triple (V:Cv) (hok:V.Ok) (P:Pt V.p) (w:World)  : CF Tryz.prog 67 [ptP P] w (pjF (tripF P)):=by
  refine KV (N:=12) (rs:=[.cell 2 135]) [] Tryz.func67 rfl Tryz.ntmps67 Tryz.results67 (Nb rfl) trivial rfl ?_
  refine KB (KA (oS (mB (fun b1=>?_))));refine oS (mk (KK KDD) (fun b2=>?_));refine KC (KB (KB ?_))
  rcases P with _|⟨x,y⟩
  ·
   refine KA (oP (KD (o':=18) u47 rfl rfl rfl sz_4 dc) (oD (dL rfl (hv:=KI u4 rfl (by exact pt_gt _ _ _))) ?_));refine KC (KT rfl (KB (KA (oS (cF rfl en_99 rfl (fun w hw=>c_NoneF hok w) ?_)))));refine LOps.step rfl (sA rfl rfl KAJ mO (hl:=mL) (h:=?_));refine KC (KM (eN (.cons ⟨_,_,_,rfl,mM,by exact KE u135 rfl KAJ⟩ .nil) ?_))
   rfl
  refine KA (oP (KD (o':=18) u47 rfl rfl rfl sz_4 dc) (oD (dL rfl (hv:=KI u4 rfl (by exact pt_gt _ _ _))) ?_));refine KC (KH rfl (KN (KB (rD [6] (aP 0 rfl (KD (o':=0) u47 rfl rfl rfl sz_33 dc) (aD 1 rfl (dL rfl (hv:=by exact Kf u33 rfl sz_33 rfl (KL _))) ?_))))));refine aP 2 rfl (KD (o':=9) u47 rfl rfl rfl sz_33 dc) (aD 3 rfl (dL rfl (hv:=by exact KCR _ _ _ _ _ _)) ?_);refine aO 4 rfl (cF rfl en_80 rfl (fun w hw=>KAb 1 dc w) ?_);refine aP 5 rfl (KJ (Ka pl_135 KDD rfl (fill_pj _ _ _)) rfl) (aL 6 rfl (sA rfl rfl KAJ mO (hl:=mL) (h:=?_)));refine aE (KM (eN (.cons ⟨_,_,_,rfl,mM,by exact KE u135 rfl KAJ⟩ .nil) ?_))
  show _ = Ending.returned (pjV x.val y.val (1:Fin V.p).val)
  rw [fin_one (show 1<V.p from hok.prime.1)]
  rfl
theorem c_Plain (V:Cv) (b f bd:Nat) (hok:V.Ok) (X Y Z:Fin V.p) (w:World) (hb:(Item.blk b ⟨false,opL V f,100,(0,0)⟩).holds w) (hf:(Item.blk f ⟨false,fldL V.p bd,165,(0,0)⟩).holds w) (hbd:(Item.blk bd ⟨false,dvL V.p,269,(0,0)⟩).holds w):CF Tryz.prog 65 [.pointer (some ⟨b,0,none⟩),pjV X.val Y.val Z.val] w (ptP (plainP X Y Z)):=by
  have hbb:=hok.bounds
  have hpW:V.p<W9:=KAF hbb.2.1
  refine KV (N:=35) (rs:=[.cell 4 47]) [.blk b ⟨false,opL V f,100,(0,0)⟩,.blk f ⟨false,fldL V.p bd,165,(0,0)⟩,.blk bd ⟨false,dvL V.p,269,(0,0)⟩] Tryz.func65 rfl Tryz.ntmps65 Tryz.results65 (Nb rfl) ⟨hb,hf,hbd,trivial⟩ rfl ?_
  refine KB (KA (oS (mB (fun b3=>?_))));refine oS (mk (KK zr_47) (fun b4=>?_));refine KC (KB (KB ?_))
  by_cases hz:Z = 0
  ·
   refine KA (oP (KD (o':=18) u135 rfl rfl rfl sz_33 dc) (oD (dL rfl (hv:=by exact pj_ld2 _ _ _ _ _ _)) ?_));refine oP (KJ (Ka pl_33 zr_33 rfl rfl) (show _ = natV 0 by unfold natV natL; rw [← vec_zeros 9])) ?_;refine oP (KJ (KBw kr (fun w=>KBS Z.val 0 (Nat.lt_trans Z.isLt hpW) KBr 10000 dc w) rfl rfl) (show _ = Value.bool true by rw [decide_eq_true (by rw [hz]; rfl)])) ?_;refine KC (KT rfl (KB (KA (oP (KJ (Ka pl_47 zr_47 rfl fill_ptInf) rfl) (LOps.step rfl (sA rfl rfl sz_47 mO (hl:=mL) (h:=?_)))))));refine KC (KM (eN (.cons ⟨_,_,_,rfl,mM,by exact KE u47 rfl sz_47⟩ .nil) ?_))
   rw [hz,plain_inf]
   rfl
  refine KA (oP (KD (o':=18) u135 rfl rfl rfl sz_33 dc) (oD (dL rfl (hv:=by exact pj_ld2 _ _ _ _ _ _)) ?_));refine oP (KJ (Ka pl_33 zr_33 rfl rfl) (show _ = natV 0 by unfold natV natL; rw [← vec_zeros 9])) ?_;refine oP (KJ (KBw kr (fun w=>KBS Z.val 0 (Nat.lt_trans Z.isLt hpW) KBr 10000 dc w) rfl rfl) (show _ = Value.bool false by rw [decide_eq_false (show ¬ Z.val = 0 from fun e=>hz (Fin.ext e))])) (KC (KH rfl (KN (KB (rD [8] (aM 0 ?_))))));refine aP 1 rfl (KG rfl) (aP 2 rfl (KD (o':=59) u100 rfl rfl rfl sz_98 dc) (aD 3 rfl (dL rfl (hv:=KI u98 rfl (by exact KBP _ _ _ _ _ _ _ _ _ _ _ _ _))) ?_));refine aP 4 rfl (KD (o':=18) u135 rfl rfl rfl sz_33 dc) (aD 5 rfl (dL rfl (hv:=by exact pj_ld2 _ _ _ _ _ _)) ?_);refine KAh ?_;refine Ks 7 rfl (.inl zr_33) (Nb rfl) rfl rfl rfl ?_;refine LAnyP.step 6 rfl rfl rfl (Nb rfl) kr rfl (Ki (first:=[]) rfl en_121 rfl (fun w hw=>c_F_Inv V hok f bd _ w (mC hw))) ?_
  rintro _ _ ⟨rfl,rfl⟩
  refine pE (fun b5=>?_);refine KAD ?_;refine aL 8 rfl (sA rfl rfl sz_33 mO (hl:=mL) (h:=?_));refine aE (KB (rD [17] (aM 0 ?_)));refine aP 1 rfl (KG rfl) (aP 2 rfl (KD (o':=59) u100 rfl rfl rfl sz_98 dc) (aD 3 rfl (dL rfl (hv:=KI u98 rfl (by exact KBP _ _ _ _ _ _ _ _ _ _ _ _ _))) ?_));refine aP 4 rfl (KD (o':=0) u135 rfl rfl rfl sz_33 dc) (aD 5 rfl (dL rfl (hv:=by exact Kf u33 rfl sz_33 rfl (KL _))) ?_);refine aD 6 rfl dNa ?_;refine aM 8 ?_;refine aP 9 rfl (KG rfl) (aP 10 rfl (KD (o':=59) u100 rfl rfl rfl sz_98 dc) (aD 11 rfl (dL rfl (hv:=KI u98 rfl (by exact KBP _ _ _ _ _ _ _ _ _ _ _ _ _))) ?_));refine aP 12 rfl (KD (o':=9) u135 rfl rfl rfl sz_33 dc) (aD 13 rfl (dL rfl (hv:=by exact KAY u33 rfl sz_33 rfl (KL _) (KL _))) ?_);refine aD 14 rfl dNa ?_
  refine aO 7 rfl (cF rfl en_97 rfl (fun w hw=>KAm V hok f bd _ _ w (mC hw) (mC hw)) ?_);refine aO 15 rfl (cF rfl en_97 rfl (fun w hw=>KAm V hok f bd _ _ w (mC hw) (mC hw)) ?_);refine aP 16 rfl (KJ (Ka pl_47 zr_47 rfl (fill_pt _ _)) rfl) (aL 17 rfl (sA rfl rfl sz_47 mO (hl:=mL) (h:=?_)));refine aE (KM (eN (.cons ⟨_,_,_,rfl,mM,by exact KE u47 rfl sz_47⟩ .nil) ?_))
  rw [plain_aff hz]
  rfl
theorem c_Sum (V:Cv) (b f bd:Nat) (hok:V.Ok) (X1 Y1 Z1 X2 Y2 Z2:Fin V.p) (w:World) (hb:(Item.blk b ⟨false,opL V f,100,(0,0)⟩).holds w) (hf:(Item.blk f ⟨false,fldL V.p bd,165,(0,0)⟩).holds w) (hbd:(Item.blk bd ⟨false,dvL V.p,269,(0,0)⟩).holds w):CF Tryz.prog 100 [.pointer (some ⟨b,0,none⟩),pjV X1.val Y1.val Z1.val,pjV X2.val Y2.val Z2.val] w (pjF (sum3 V.A (V.B+V.B+V.B) X1 Y1 Z1 X2 Y2 Z2)):=by
  have hbb:=hok.bounds
  have hpW:V.p<W9:=KAF hbb.2.1
  refine KV (N:=213) (rs:=[.cell 6 135]) [.blk b ⟨false,opL V f,100,(0,0)⟩,.blk f ⟨false,fldL V.p bd,165,(0,0)⟩,.blk bd ⟨false,dvL V.p,269,(0,0)⟩] Tryz.func100 rfl Tryz.ntmps100 Tryz.results100 (Nb rfl) ⟨hb,hf,hbd,trivial⟩ rfl ?_
  refine KB (KA (oS (mB (fun b4=>?_))));refine oS (mB (fun b5=>?_));refine oS (mk (KK KDD) (fun b6=>?_));refine KC (KB (rD [] (aM 0 ?_)));refine aP 1 rfl (KG rfl) (aP 2 rfl (KD (o':=59) u100 rfl rfl rfl sz_98 dc) (aD 3 rfl (dL rfl (hv:=KI u98 rfl (by exact KBP _ _ _ _ _ _ _ _ _ _ _ _ _))) ?_));refine aP 4 rfl (Kq rfl) (aM 5 ?_);refine aP 6 rfl (KG rfl) (aP 7 rfl (KD (o':=59) u100 rfl rfl rfl sz_98 dc) (aD 8 rfl (dL rfl (hv:=KI u98 rfl (by exact KBP _ _ _ _ _ _ _ _ _ _ _ _ _))) ?_));refine aP 9 rfl (Kq rfl) (aM 10 ?_);refine aP 11 rfl (KG rfl) (aP 12 rfl (KD (o':=59) u100 rfl rfl rfl sz_98 dc) (aD 13 rfl (dL rfl (hv:=KI u98 rfl (by exact KBP _ _ _ _ _ _ _ _ _ _ _ _ _))) ?_));refine aP 14 rfl (Kq rfl) (aA 15 ?_);refine aA 16 ?_;refine aA 17 ?_;refine aE (KB (rD [21,22,23] (aM 0 ?_)));refine aP 1 rfl (KD (o':=0) u135 rfl rfl rfl sz_33 dc) (aD 2 rfl (dL rfl (hv:=by exact Kf u33 rfl sz_33 rfl (KL _))) ?_)
  refine aP 3 rfl (KD (o':=0) u135 rfl rfl rfl sz_33 dc) (aD 4 rfl (dL rfl (hv:=by exact Kf u33 rfl sz_33 rfl (KL _))) ?_);refine aM 6 ?_;refine aP 7 rfl (KD (o':=9) u135 rfl rfl rfl sz_33 dc) (aP 9 rfl (KD (o':=9) u135 rfl rfl rfl sz_33 dc) (aM 12 ?_));refine aP 13 rfl (KD (o':=18) u135 rfl rfl rfl sz_33 dc) (aP 15 rfl (KD (o':=18) u135 rfl rfl rfl sz_33 dc) (KCK [11,17,21,22,23] 8 rfl kr (Nb rfl) (dL rfl (hv:=by exact KAY u33 rfl sz_33 rfl (KL _) (KL _))) ?_));refine KCK [11,17,21,22,23] 10 rfl kr (Nb rfl) (dL rfl (hv:=by exact KAY u33 rfl sz_33 rfl (KL _) (KL _))) ?_;refine KCK [17,21,22,23] 14 rfl kr (Nb rfl) (dL rfl (hv:=by exact pj_ld2 _ _ _ _ _ _)) ?_;refine KCK [17,21,22,23] 16 rfl kr (Nb rfl) (dL rfl (hv:=by exact pj_ld2 _ _ _ _ _ _)) ?_;refine KAh ?_;refine Ks 18 rfl (.inl zr_33) (Nb rfl) rfl rfl rfl ?_
  refine Ks 19 rfl (.inl zr_33) (Nb rfl) rfl rfl rfl ?_;refine Ks 20 rfl (.inl zr_33) (Nb rfl) rfl rfl rfl ?_;refine LAnyP.step 5 rfl rfl rfl (Nb rfl) kr rfl (Ki (first:=[_]) rfl en_97 rfl (fun w hw=>KAm V hok f bd _ _ w (mC hw) (mC hw))) ?_
  rintro _ _ ⟨rfl,rfl⟩
  refine LAnyP.step 11 rfl rfl rfl (Nb rfl) kr rfl (Ki (first:=[_]) rfl en_97 rfl (fun w hw=>KAm V hok f bd _ _ w (mC hw) (mC hw))) ?_
  rintro _ _ ⟨rfl,rfl⟩
  refine LAnyP.step 17 rfl rfl rfl (Nb rfl) kr rfl (Ki (first:=[_]) rfl en_97 rfl (fun w hw=>KAm V hok f bd _ _ w (mC hw) (mC hw))) ?_
  rintro _ _ ⟨rfl,rfl⟩
  refine pE (fun b12=>?_);refine pE (fun b11=>?_);refine pE (fun b10=>?_);refine KAD ?_;refine aL 21 rfl (sA rfl rfl sz_33 mO (hl:=mL) (h:=?_));refine aL 22 rfl (sA rfl rfl sz_33 mO (hl:=mL) (h:=?_));refine aL 23 rfl (sA rfl rfl sz_33 mO (hl:=mL) (h:=?_));refine aE (KB (rD [21] (aM 0 ?_)));refine aM 1 ?_;refine aM 2 ?_;refine aP 3 rfl (KD (o':=0) u135 rfl rfl rfl sz_33 dc) (aD 4 rfl (dL rfl (hv:=by exact Kf u33 rfl sz_33 rfl (KL _))) ?_);refine aP 5 rfl (KD (o':=9) u135 rfl rfl rfl sz_33 dc) (aD 6 rfl (dL rfl (hv:=by exact KAY u33 rfl sz_33 rfl (KL _) (KL _))) ?_);refine aM 8 ?_;refine aP 9 rfl (KD (o':=0) u135 rfl rfl rfl sz_33 dc) (aD 10 rfl (dL rfl (hv:=by exact Kf u33 rfl sz_33 rfl (KL _))) ?_);refine aP 11 rfl (KD (o':=9) u135 rfl rfl rfl sz_33 dc) (aD 12 rfl (dL rfl (hv:=by exact KAY u33 rfl sz_33 rfl (KL _) (KL _))) ?_)
  refine aM 15 ?_;refine aD 16 rfl dNa ?_;refine aD 17 rfl dNa ?_;refine KAh ?_;refine Ks 20 rfl (.inl zr_33) (Nb rfl) rfl rfl rfl ?_;refine LAnyP.step 7 rfl rfl rfl (Nb rfl) kr rfl (Ki (first:=[_]) rfl en_82 rfl (fun w hw=>KBA V hok f bd _ _ w (mC hw))) ?_
  rintro _ _ ⟨rfl,rfl⟩
  refine LAnyP.step 13 rfl rfl rfl (Nb rfl) kr rfl (Ki (first:=[_]) rfl en_82 rfl (fun w hw=>KBA V hok f bd _ _ w (mC hw))) ?_
  rintro _ _ ⟨rfl,rfl⟩
  refine LAnyP.step 14 rfl rfl rfl (Nb rfl) kr rfl (Ki (first:=[_]) rfl en_97 rfl (fun w hw=>KAm V hok f bd _ _ w (mC hw) (mC hw))) ?_
  rintro _ _ ⟨rfl,rfl⟩
  refine LAnyP.step 18 rfl rfl rfl (Nb rfl) kr rfl (Ki (first:=[_]) rfl en_82 rfl (fun w hw=>KBA V hok f bd _ _ w (mC hw))) ?_
  rintro _ _ ⟨rfl,rfl⟩
  refine LAnyP.step 19 rfl rfl rfl (Nb rfl) kr rfl (Ki (first:=[_]) rfl en_120 rfl (fun w hw=>KCm V hok f bd _ _ w (mC hw))) ?_
  rintro _ _ ⟨rfl,rfl⟩
  refine pE (fun b13=>?_);refine KAD ?_;refine aL 21 rfl (sA rfl rfl sz_33 mO (hl:=mL) (h:=?_));refine aE (KB (rD [21] (aM 0 ?_)));refine aM 1 ?_;refine aM 2 ?_;refine aP 3 rfl (KD (o':=0) u135 rfl rfl rfl sz_33 dc) (aD 4 rfl (dL rfl (hv:=by exact Kf u33 rfl sz_33 rfl (KL _))) ?_);refine aP 5 rfl (KD (o':=18) u135 rfl rfl rfl sz_33 dc) (aD 6 rfl (dL rfl (hv:=by exact pj_ld2 _ _ _ _ _ _)) ?_);refine aM 8 ?_;refine aP 9 rfl (KD (o':=0) u135 rfl rfl rfl sz_33 dc) (aD 10 rfl (dL rfl (hv:=by exact Kf u33 rfl sz_33 rfl (KL _))) ?_);refine aP 11 rfl (KD (o':=18) u135 rfl rfl rfl sz_33 dc) (aD 12 rfl (dL rfl (hv:=by exact pj_ld2 _ _ _ _ _ _)) ?_);refine aM 15 ?_;refine aD 16 rfl dNa ?_;refine aD 17 rfl dNa ?_;refine KAh ?_
  refine Ks 20 rfl (.inl zr_33) (Nb rfl) rfl rfl rfl ?_;refine LAnyP.step 7 rfl rfl rfl (Nb rfl) kr rfl (Ki (first:=[_]) rfl en_82 rfl (fun w hw=>KBA V hok f bd _ _ w (mC hw))) ?_
  rintro _ _ ⟨rfl,rfl⟩
  refine LAnyP.step 13 rfl rfl rfl (Nb rfl) kr rfl (Ki (first:=[_]) rfl en_82 rfl (fun w hw=>KBA V hok f bd _ _ w (mC hw))) ?_
  rintro _ _ ⟨rfl,rfl⟩
  refine LAnyP.step 14 rfl rfl rfl (Nb rfl) kr rfl (Ki (first:=[_]) rfl en_97 rfl (fun w hw=>KAm V hok f bd _ _ w (mC hw) (mC hw))) ?_
  rintro _ _ ⟨rfl,rfl⟩
  refine LAnyP.step 18 rfl rfl rfl (Nb rfl) kr rfl (Ki (first:=[_]) rfl en_82 rfl (fun w hw=>KBA V hok f bd _ _ w (mC hw))) ?_
  rintro _ _ ⟨rfl,rfl⟩
  refine LAnyP.step 19 rfl rfl rfl (Nb rfl) kr rfl (Ki (first:=[_]) rfl en_120 rfl (fun w hw=>KCm V hok f bd _ _ w (mC hw))) ?_
  rintro _ _ ⟨rfl,rfl⟩
  refine pE (fun b14=>?_);refine KAD ?_;refine aL 21 rfl (sA rfl rfl sz_33 mO (hl:=mL) (h:=?_));refine aE (KB (rD [21] (aM 0 ?_)));refine aM 1 ?_;refine aM 2 ?_;refine aP 3 rfl (KD (o':=9) u135 rfl rfl rfl sz_33 dc) (aD 4 rfl (dL rfl (hv:=by exact KAY u33 rfl sz_33 rfl (KL _) (KL _))) ?_);refine aP 5 rfl (KD (o':=18) u135 rfl rfl rfl sz_33 dc) (aD 6 rfl (dL rfl (hv:=by exact pj_ld2 _ _ _ _ _ _)) ?_);refine aM 8 ?_;refine aP 9 rfl (KD (o':=9) u135 rfl rfl rfl sz_33 dc) (aD 10 rfl (dL rfl (hv:=by exact KAY u33 rfl sz_33 rfl (KL _) (KL _))) ?_);refine aP 11 rfl (KD (o':=18) u135 rfl rfl rfl sz_33 dc) (aD 12 rfl (dL rfl (hv:=by exact pj_ld2 _ _ _ _ _ _)) ?_);refine aM 15 ?_;refine aD 16 rfl dNa ?_;refine aD 17 rfl dNa ?_
  refine KAh ?_;refine Ks 20 rfl (.inl zr_33) (Nb rfl) rfl rfl rfl ?_;refine LAnyP.step 7 rfl rfl rfl (Nb rfl) kr rfl (Ki (first:=[_]) rfl en_82 rfl (fun w hw=>KBA V hok f bd _ _ w (mC hw))) ?_
  rintro _ _ ⟨rfl,rfl⟩
  refine LAnyP.step 13 rfl rfl rfl (Nb rfl) kr rfl (Ki (first:=[_]) rfl en_82 rfl (fun w hw=>KBA V hok f bd _ _ w (mC hw))) ?_
  rintro _ _ ⟨rfl,rfl⟩
  refine LAnyP.step 14 rfl rfl rfl (Nb rfl) kr rfl (Ki (first:=[_]) rfl en_97 rfl (fun w hw=>KAm V hok f bd _ _ w (mC hw) (mC hw))) ?_
  rintro _ _ ⟨rfl,rfl⟩
  refine LAnyP.step 18 rfl rfl rfl (Nb rfl) kr rfl (Ki (first:=[_]) rfl en_82 rfl (fun w hw=>KBA V hok f bd _ _ w (mC hw))) ?_
  rintro _ _ ⟨rfl,rfl⟩
  refine LAnyP.step 19 rfl rfl rfl (Nb rfl) kr rfl (Ki (first:=[_]) rfl en_120 rfl (fun w hw=>KCm V hok f bd _ _ w (mC hw))) ?_
  rintro _ _ ⟨rfl,rfl⟩
  refine pE (fun b15=>?_);refine KAD ?_;refine aL 21 rfl (sA rfl rfl sz_33 mO (hl:=mL) (h:=?_));refine aE (KB (rD [18] (aM 0 ?_)));refine aM 1 ?_;refine aM 2 ?_;refine aP 3 rfl (KG rfl) (aP 4 rfl (KD (o':=60) u100 rfl rfl rfl sz_33 dc) (aD 5 rfl (KAp (dL rfl (hv:=by exact cvC_ld_t3 _ _ _ _ _ _ _ _ _ _ _ _ _ _ _ _)) (t_val hok)) ?_));refine aD 6 rfl dNa ?_;refine aM 8 ?_;refine aM 9 ?_;refine aP 10 rfl (KG rfl) (aP 11 rfl (KD (o':=0) u100 rfl rfl rfl sz_53 dc) (aP 12 rfl (KD (o':=10) u53 rfl rfl rfl sz_33 dc) (aD 13 rfl (KAp (dL rfl (hv:=by exact cvC_ld_a _ _ _ _ _ _ _ _ _ _ _ _ _ _ _ _)) (a_val hok)) ?_)));refine aD 14 rfl dNa ?_;refine KAh ?_;refine Ks 17 rfl (.inl zr_33) (Nb rfl) rfl rfl rfl ?_;refine LAnyP.step 7 rfl rfl rfl (Nb rfl) kr rfl (Ki (first:=[_]) rfl en_97 rfl (fun w hw=>KAm V hok f bd _ _ w (mC hw) (mC hw))) ?_
  rintro _ _ ⟨rfl,rfl⟩
  refine LAnyP.step 15 rfl rfl rfl (Nb rfl) kr rfl (Ki (first:=[_]) rfl en_97 rfl (fun w hw=>KAm V hok f bd _ _ w (mC hw) (mC hw))) ?_
  rintro _ _ ⟨rfl,rfl⟩
  refine LAnyP.step 16 rfl rfl rfl (Nb rfl) kr rfl (Ki (first:=[_]) rfl en_82 rfl (fun w hw=>KBA V hok f bd _ _ w (mC hw))) ?_
  rintro _ _ ⟨rfl,rfl⟩
  refine pE (fun b16=>?_);refine KAD ?_;refine aL 18 rfl (sA rfl rfl sz_33 mO (hl:=mL) (h:=?_));refine aE (KB (KA (oM ?_)));refine oD dNa ?_;refine oD dNa ?_;refine oS (Kw (first:=[_]) rfl en_120 rfl (Nb rfl) (fun w hw=>KCm V hok f bd _ _ w (mC hw)) ?_);refine oS (mk (KK zr_33) (fun b17=>?_));refine LOps.step rfl (sA rfl rfl sz_33 mO (hl:=mL) (h:=?_));refine KC (KB (KA (oM ?_)));refine oD dNa ?_;refine oD dNa ?_;refine oS (Kw (first:=[_]) rfl en_82 rfl (Nb rfl) (fun w hw=>KBA V hok f bd _ _ w (mC hw)) ?_);refine LOps.step rfl (sA rfl rfl sz_33 mO (hl:=mL) (h:=?_));refine KC (KB (KA (oM ?_)));refine oD dNa ?_;refine oD dNa ?_
  refine oS (Kw (first:=[_]) rfl en_97 rfl (Nb rfl) (fun w hw=>KAm V hok f bd _ _ w (mC hw) (mC hw)) ?_);refine oS (mk (KK zr_33) (fun b18=>?_));refine LOps.step rfl (sA rfl rfl sz_33 mO (hl:=mL) (h:=?_));refine KC (KB (rD [7] (aM 0 ?_)));refine aM 1 ?_;refine aD 2 rfl dNa ?_;refine aD 3 rfl dNa ?_;refine aD 5 rfl dNa ?_;refine aO 4 rfl (Kw (first:=[_]) rfl en_82 rfl (Nb rfl) (fun w hw=>KBA V hok f bd _ _ w (mC hw)) ?_);refine aO 6 rfl (Kw (first:=[_]) rfl en_82 rfl (Nb rfl) (fun w hw=>KBA V hok f bd _ _ w (mC hw)) ?_);refine aL 7 rfl (sA rfl rfl sz_33 mO (hl:=mL) (h:=?_));refine aE (KB (rD [8] (aM 0 ?_)));refine aM 1 ?_;refine aP 2 rfl (KG rfl) (aP 3 rfl (KD (o':=0) u100 rfl rfl rfl sz_53 dc) (aP 4 rfl (KD (o':=10) u53 rfl rfl rfl sz_33 dc) (aD 5 rfl (KAp (dL rfl (hv:=by exact cvC_ld_a _ _ _ _ _ _ _ _ _ _ _ _ _ _ _ _)) (a_val hok)) ?_)))
  refine aD 6 rfl dNa ?_;refine aO 7 rfl (Kw (first:=[_]) rfl en_97 rfl (Nb rfl) (fun w hw=>KAm V hok f bd _ _ w (mC hw) (mC hw)) ?_);refine aL 8 rfl (sA rfl rfl sz_33 mO (hl:=mL) (h:=?_));refine aE (KB (rD [7] (aM 0 ?_)));refine aM 1 ?_;refine aP 2 rfl (KG rfl) (aP 3 rfl (KD (o':=60) u100 rfl rfl rfl sz_33 dc) (aD 4 rfl (KAp (dL rfl (hv:=by exact cvC_ld_t3 _ _ _ _ _ _ _ _ _ _ _ _ _ _ _ _)) (t_val hok)) ?_));refine aD 5 rfl dNa ?_;refine aO 6 rfl (Kw (first:=[_]) rfl en_97 rfl (Nb rfl) (fun w hw=>KAm V hok f bd _ _ w (mC hw) (mC hw)) ?_);refine aL 7 rfl (sA rfl rfl sz_33 mO (hl:=mL) (h:=?_));refine aE (KB (KA (oM ?_)));refine oD dNa ?_;refine oD dNa ?_;refine oS (Kw (first:=[_]) rfl en_82 rfl (Nb rfl) (fun w hw=>KBA V hok f bd _ _ w (mC hw)) ?_)
  refine LOps.step rfl (sA rfl rfl sz_33 mO (hl:=mL) (h:=?_));refine KC (KB (rD [11] (aM 0 ?_)));refine aM 1 ?_;refine aP 2 rfl (KG rfl) (aP 3 rfl (KD (o':=0) u100 rfl rfl rfl sz_53 dc) (aP 4 rfl (KD (o':=10) u53 rfl rfl rfl sz_33 dc) (aD 5 rfl (KAp (dL rfl (hv:=by exact cvC_ld_a _ _ _ _ _ _ _ _ _ _ _ _ _ _ _ _)) (a_val hok)) ?_)));refine aM 6 ?_;refine aD 7 rfl dNa ?_;refine aD 8 rfl dNa ?_;refine aO 9 rfl (Kw (first:=[_]) rfl en_120 rfl (Nb rfl) (fun w hw=>KCm V hok f bd _ _ w (mC hw)) ?_);refine aO 10 rfl (Kw (first:=[_]) rfl en_97 rfl (Nb rfl) (fun w hw=>KAm V hok f bd _ _ w (mC hw) (mC hw)) ?_);refine aL 11 rfl (sA rfl rfl sz_33 mO (hl:=mL) (h:=?_));refine aE (KB (KA (oM ?_)));refine oD dNa ?_;refine oD dNa ?_
  refine oS (Kw (first:=[_]) rfl en_82 rfl (Nb rfl) (fun w hw=>KBA V hok f bd _ _ w (mC hw)) ?_);refine LOps.step rfl (sA rfl rfl sz_33 mO (hl:=mL) (h:=?_));refine KC (KB (rD [7] (aM 0 ?_)));refine aD 1 rfl dNa ?_;refine aM 2 ?_;refine aD 3 rfl dNa ?_;refine aD 4 rfl dNa ?_;refine aO 5 rfl (Kw (first:=[_]) rfl en_97 rfl (Nb rfl) (fun w hw=>KAm V hok f bd _ _ w (mC hw) (mC hw)) ?_);refine aO 6 rfl (Kw (first:=[_]) rfl en_82 rfl (Nb rfl) (fun w hw=>KBA V hok f bd _ _ w (mC hw)) ?_);refine aL 7 rfl (sA rfl rfl sz_33 mO (hl:=mL) (h:=?_));refine aE (KB (rD [10] (aM 0 ?_)));refine aM 1 ?_;refine aD 2 rfl dNa ?_;refine aD 3 rfl dNa ?_;refine aM 5 ?_
  refine aD 6 rfl dNa ?_;refine aD 7 rfl dNa ?_;refine aO 4 rfl (Kw (first:=[_]) rfl en_97 rfl (Nb rfl) (fun w hw=>KAm V hok f bd _ _ w (mC hw) (mC hw)) ?_);refine aO 8 rfl (Kw (first:=[_]) rfl en_97 rfl (Nb rfl) (fun w hw=>KAm V hok f bd _ _ w (mC hw) (mC hw)) ?_);refine aO 9 rfl (Kw (first:=[_]) rfl en_120 rfl (Nb rfl) (fun w hw=>KCm V hok f bd _ _ w (mC hw)) ?_);refine aL 10 rfl (sA rfl rfl sz_33 mO (hl:=mL) (h:=?_));refine aE (KB (rD [10] (aM 0 ?_)));refine aM 1 ?_;refine aD 2 rfl dNa ?_;refine aD 3 rfl dNa ?_;refine aM 5 ?_;refine aD 6 rfl dNa ?_;refine aD 7 rfl dNa ?_;refine aO 4 rfl (Kw (first:=[_]) rfl en_97 rfl (Nb rfl) (fun w hw=>KAm V hok f bd _ _ w (mC hw) (mC hw)) ?_)
  refine aO 8 rfl (Kw (first:=[_]) rfl en_97 rfl (Nb rfl) (fun w hw=>KAm V hok f bd _ _ w (mC hw) (mC hw)) ?_);refine aO 9 rfl (Kw (first:=[_]) rfl en_82 rfl (Nb rfl) (fun w hw=>KBA V hok f bd _ _ w (mC hw)) ?_);refine aL 10 rfl (sA rfl rfl sz_33 mO (hl:=mL) (h:=?_));refine aE (KB (KA (oD dNa ?_)));refine oD dNa ?_;refine oD dNa ?_;refine oP (KJ (Ka pl_135 KDD rfl (fill_pj _ _ _)) rfl) (LOps.step rfl (sA rfl rfl KAJ mO (hl:=mL) (h:=?_)));refine KC (KM (eN (.cons ⟨_,_,_,rfl,mM,by exact KE u135 rfl KAJ⟩ .nil) ?_))
  rfl
open Grp
theorem pm_top (V:Cv) (P:Pt V.p) (K:Nat):pmul V.A P (K/2^blen K) = .inf:=by rw [Nat.div_eq_of_lt (KCl K)]; rfl
theorem pm_T {V:Cv} (hok:V.Ok) {P:Pt V.p} (hP:On V.A V.B P) {K y:Nat} (h:K/2^y%2 = 1):padd V.A (padd V.A (pmul V.A P (K/2^(y+1))) (pmul V.A P (K/2^(y+1)))) P = pmul V.A P (K/2^y):=by
  have:=pmul_bit hok.crv hP K y
  rwa [if_pos h] at this
theorem pm_F {V:Cv} (hok:V.Ok) {P:Pt V.p} (hP:On V.A V.B P) {K y:Nat} (h:¬ K/2^y%2 = 1):padd V.A (pmul V.A P (K/2^(y+1))) (pmul V.A P (K/2^(y+1))) = pmul V.A P (K/2^y):=by
  have:=pmul_bit hok.crv hP K y
  rwa [if_neg h] at this
def sumT (V:Cv) (T U:Fin V.p×Fin V.p×Fin V.p):Fin V.p×Fin V.p×Fin V.p:=sum3 V.A (V.B+V.B+V.B) T.1 T.2.1 T.2.2 U.1 U.2.1 U.2.2
structure RepT (V:Cv) (T:Fin V.p×Fin V.p×Fin V.p) (P:Pt V.p):Prop where
  rep:Rep T.1 T.2.1 T.2.2 P
  on:On V.A V.B P
theorem RepT.sum {V:Cv} (hok:V.Ok) {T U:Fin V.p×Fin V.p×Fin V.p} {P R:Pt V.p} (h:RepT V T P) (k:RepT V U R):RepT V (sumT V T U) (padd V.A P R):=⟨hok.rep_sum h.rep k.rep h.on k.on,hok.sum h.on k.on⟩
theorem KBU {V:Cv} (hok:V.Ok) {P:Pt V.p} (hP:On V.A V.B P):RepT V (tripF P) P:=⟨hok.rep_trip P,hP⟩
theorem c_SumT (V:Cv) (b f bd:Nat) (hok:V.Ok) (T U:Fin V.p×Fin V.p×Fin V.p) (w:World) (hb:(Item.blk b ⟨false,opL V f,100,(0,0)⟩).holds w) (hf:(Item.blk f ⟨false,fldL V.p bd,165,(0,0)⟩).holds w) (hbd:(Item.blk bd ⟨false,dvL V.p,269,(0,0)⟩).holds w):CF Tryz.prog 100 [.pointer (some ⟨b,0,none⟩),pjF T,pjF U] w (pjF (sumT V T U)) :=
  c_Sum V b f bd hok T.1 T.2.1 T.2.2 U.1 U.2.1 U.2.2 w hb hf hbd
theorem c_PlainT (V:Cv) (b f bd:Nat) (hok:V.Ok) (T:Fin V.p×Fin V.p×Fin V.p) (P:Pt V.p) (w:World) (hb:(Item.blk b ⟨false,opL V f,100,(0,0)⟩).holds w) (hf:(Item.blk f ⟨false,fldL V.p bd,165,(0,0)⟩).holds w) (hbd:(Item.blk bd ⟨false,dvL V.p,269,(0,0)⟩).holds w) (h:RepT V T P):CF Tryz.prog 65 [.pointer (some ⟨b,0,none⟩),pjF T] w (ptP P):=by
  have:=c_Plain V b f bd hok T.1 T.2.1 T.2.2 w hb hf hbd
  rwa [Rep.plain hok.prime h.rep] at this
theorem c_cTimes (V:Cv) (b f bd:Nat) (hok:V.Ok) (K:Nat) (hK:K<W9) (T:Fin V.p×Fin V.p×Fin V.p) (P:Pt V.p) (w:World) (hb:(Item.blk b ⟨false,opL V f,100,(0,0)⟩).holds w) (hf:(Item.blk f ⟨false,fldL V.p bd,165,(0,0)⟩).holds w) (hbd:(Item.blk bd ⟨false,dvL V.p,269,(0,0)⟩).holds w) (hrep:RepT V T P):Calls Tryz.prog 66 ([.pointer (some ⟨b,0,none⟩),natV K,pjF T]:List Value).toArray w (fun e w'=>∃ v,(∃ U,RepT V U (pmul V.A P K)∧v = pjF U)∧e = .returned v∧Below w.heap.size w w'):=by
  have hbl:=KAn hK
  refine KV (N:=30) (rs:=[.cell 6 135]) [.blk b ⟨false,opL V f,100,(0,0)⟩,.blk f ⟨false,fldL V.p bd,165,(0,0)⟩,.blk bd ⟨false,dvL V.p,269,(0,0)⟩] Tryz.func66 rfl Tryz.ntmps66 Tryz.results66 (Nb rfl) ⟨hb,hf,hbd,trivial⟩ rfl ?_
  refine KB (KA (oS (mB (fun b4=>?_))));refine oS (mB (fun b5=>?_));refine oS (mk (KK KDD) (fun b6=>?_));refine KC (KB (KA (oS (cF rfl en_99 rfl (fun w hw=>c_NoneF hok w) ?_))));refine oS (mk (KK KDD) (fun b7=>?_));refine LOps.step rfl (sA rfl rfl KAJ (by exact pjL_one _ _ _) (hl:=by exact KBn _ _ _) (h:=?_));refine KC (KB (KB (KA (oD dNa ?_))));refine oS (cF rfl en_81 rfl (fun w hw=>KBq K hK w) ?_);refine oP (KF (v:=.int .i64 (((blen K:Nat):Int)-1)) rfl rfl (KCO om om)) (oA (KC (LCode.block ?_)));refine Kc (α:=Nat×(Fin V.p×Fin V.p×Fin V.p)) (fun x=>x.1≤blen K∧RepT V x.2 (pmul V.A P (K/2^x.1))) (fun x=>⟨[(0,.pointer (some ⟨b,0,none⟩)),(4,.pointer (some ⟨b4,0,none⟩)),(5,.pointer (some ⟨b5,0,none⟩)),(6,.pointer (some ⟨b6,0,none⟩)),(7,.pointer (some ⟨b7,0,none⟩)),(8,.int .i64 (((x.1:Nat):Int)-1))],[.blk b7 ⟨true,pjFL x.2,135,(0,0)⟩,.blk b6 ⟨true,(vec .u64 9 (fun _=>0)++(vec .u64 9 (fun _=>0)++vec .u64 9 (fun _=>0))),135,(0,0)⟩,.blk b5 ⟨true,pjFL T,135,(0,0)⟩,.blk b4 ⟨true,natL K,33,(0,0)⟩,.blk b ⟨false,opL V f,100,(0,0)⟩,.blk f ⟨false,fldL V.p bd,165,(0,0)⟩,.blk bd ⟨false,dvL V.p,269,(0,0)⟩]⟩) (fun x=>x.1) ((blen K,tripF (.inf:Pt V.p))) (⟨Nat.le_refl _,by dsimp only; rw [pm_top]; exact KBU hok trivial⟩) (KY ⟨rfl,rfl,rfl,rfl,rfl,rfl,trivial⟩ mS) ?_
  rintro x ⟨hx1,hx2⟩
  refine KB (KB ?_)
  rcases Nat.eq_zero_or_pos x.1 with h0|h0
  ·
   refine KA (oM ?_);refine oP (KF (v:=.bool false) rfl rfl (by rw [h0]; rfl)) ?_;refine KC (KH rfl (KZ (KB ?_)))
   have eR:pmul V.A P (K/2^x.1) = pmul V.A P K:=by rw [h0,Nat.pow_zero,Nat.div_one]
   rw [eR] at hx2
   refine KA (oD (dL rfl (hv:=by exact KE u135 rfl KAJ)) ?_);refine LOps.step rfl (sA rfl rfl KAJ (by exact pjL_one _ _ _) (hl:=by exact KBn _ _ _) (h:=?_));refine KC (KM ?_);refine ⟨[_],.cons ⟨_,_,_,rfl,mM,by exact KE u135 rfl (by have:=KAJ; exact this)⟩ .nil,fun a w' hr=>⟨_,⟨x.2,hx2,rfl⟩,rfl,hr.fr.below⟩⟩
  obtain ⟨y,hy⟩:∃ y,x.1 = y+1:=⟨x.1-1,by omega⟩
  rw [hy] at hx2
  refine KA (oM ?_);refine oP (KF (v:=.bool true) rfl rfl (by rw [hy]; simp [Ko] <;> omega)) ?_;refine KC (KT rfl (KN (KB (LCode.block (KB (KA (oM ?_)))))));refine oD (dL rfl (hv:=by exact KE u135 rfl KAJ)) ?_;refine oD (dL rfl (hv:=by exact KE u135 rfl KAJ)) ?_;refine oS (cF rfl en_100 rfl (fun w hw=>c_SumT V b f bd hok (x.2) (x.2) w (mC hw) (mC hw) (mC hw)) ?_);refine LOps.step rfl (sA rfl rfl KAJ (by exact pjL_one _ _ _) (hl:=by exact KBn _ _ _) (h:=?_));refine KC (KB (KA (oD dNa ?_)));refine oP (Kd (v:=.int .i64 ((y:Nat):Int)) (by show some _ = some _; congr 2; omega)) ?_;refine oS (cF rfl en_57 rfl (fun w hw=>c_nat_Bit K y hK om w) ?_);refine oP (KF rfl rfl (KAG (b:=1))) (KC ?_)
  first|refine KQ rfl (fun hbit=>?_) (fun hbit=>?_)|refine KR rfl (fun hbit=>?_) (fun hbit=>?_)
  ·
   have hbit:K/2^y%2 = 1:=hbit
   refine KA (oM ?_);refine oD (dL rfl (hv:=by exact KE u135 rfl KAJ)) ?_;refine oD (dL rfl (hv:=by exact KE u135 rfl KAJ)) ?_;refine oS (cF rfl en_100 rfl (fun w hw=>c_SumT V b f bd hok (sumT V x.2 x.2) (T) w (mC hw) (mC hw) (mC hw)) ?_);refine LOps.step rfl (sA rfl rfl KAJ (by exact pjL_one _ _ _) (hl:=by exact KBn _ _ _) (h:=?_));refine KC (KA ?_);refine oP (Kd (v:=.int .i64 ((y:Nat):Int)) (by show some _ = some _; congr 2; omega)) ?_;refine oP (KF (v:=.int .i64 (((y:Nat):Int)-1)) rfl rfl (KCO om om)) (oA (KC ?_))
   exact ⟨(y,sumT V (sumT V x.2 x.2) T),⟨by dsimp only; omega,by have:=RepT.sum hok (RepT.sum hok hx2 hx2) hrep; rw [pm_T hok hrep.on hbit] at this; exact this⟩,by dsimp only; omega,KY ⟨rfl,rfl,rfl,rfl,rfl,rfl,trivial⟩ mS⟩
  have hbit:¬ K/2^y%2 = 1:=hbit
  refine KN (KA ?_);refine oP (Kd (v:=.int .i64 ((y:Nat):Int)) (by show some _ = some _; congr 2; omega)) ?_;refine oP (KF (v:=.int .i64 (((y:Nat):Int)-1)) rfl rfl (KCO om om)) (oA (KC ?_))
  exact ⟨(y,sumT V x.2 x.2),⟨by dsimp only; omega,by have:=RepT.sum hok hx2 hx2; rw [pm_F hok hrep.on hbit] at this; exact this⟩,by dsimp only; omega,KY ⟨rfl,rfl,rfl,rfl,rfl,rfl,trivial⟩ mS⟩
open Grp
theorem c_one  (w:World)  : CF Tryz.prog 159 [] w (natV 1):=by
  refine KV (N:=2) (rs:=[.cell 0 33]) [] Tryz.func159 rfl Tryz.ntmps159 Tryz.results159 (Nb rfl) trivial rfl ?_
  refine KB (KA (oS (mk (KK zr_33) (fun b0=>?_))));refine KC (KB (KA (oS (cF rfl en_80 rfl (fun w hw=>KAb 1 dc w) ?_))));refine LOps.step rfl (sA rfl rfl sz_33 mO (hl:=mL) (h:=?_));refine KC (KM (eN (.cons ⟨_,_,_,rfl,mM,by exact KE u33 rfl sz_33⟩ .nil) ?_))
  rfl
open Grp
theorem Brings.own {w w':World} {H:List Item} {b:Nat} {cs:List Value} {e:TypeId} (hb:Below w.heap.size w w') (h:(Item.blk b ⟨true,cs,e,(0,0)⟩).holds w') (hn:w.heap.size≤b):Brings w H [.blk b ⟨true,cs,e,(0,0)⟩] w' :=
  ⟨hb,(by intro x hx; simp at hx; subst hx; exact h),(by intro x hx k hk; simp at hx; subst hx; simp [Item.fp] at hk; subst hk; exact .inl hn),(by intro x hx _ k hk; simp at hx; subst hx; simp [Item.fp] at hk; subst hk; exact hn),List.pairwise_singleton _ _⟩
open Grp
theorem xG {V:Cv} (hok:V.Ok):xv V.G = V.x:=val_c hok.bounds.2.2.2.2.1
theorem yG {V:Cv} (hok:V.Ok):yv V.G = V.y:=val_c hok.bounds.2.2.2.2.2.1
open Grp
theorem Det.indexArrN {P : Program} {C : Ctx} {st : St} {d : Option Tmp} {ty : TypeId} {pos : String} {aft : Array Edge} {g : Option (Nat × Bool)} {t : TypeId} {x y : Operand} {n s : Nat} {e : TypeId} {k : IntKind} {i : Nat} {b o : Nat} (ht : P.underlying t = some (.array n e)) (he : szOf P e = some s) (hx : evT st.T x = some (.pointer (some ⟨b, o, none⟩)))
    (hy:evT st.T y = some (.int k (i:Int))) (h1:i<n):Slots P C ⟨d,.indexAddr t x y,ty,pos,aft,g⟩ st (.pointer (some ⟨b,o+i*s,none⟩)):=by
  unfold Slots
  intro a w hr
  have hb:(0≤(i:Int)∧(i:Int)<(n:Int)):=⟨by omega,by omega⟩
  simp [execOp,hr _ _ hx,hr _ _ hy,Instr.indexAt,asIntOf,run_underlying ht,Instr.sureAddr,hb,KAr he,Addr.add,h1]
theorem g_val {V:Cv} (hok:V.Ok):Value.agg (ptL V.x V.y false).toArray = ptP V.G:=by
  unfold ptP ptV
  rw [xG hok,yG hok]
  rfl
theorem c_cOnB (V:Cv) (b f bd:Nat) (hok:V.Ok) (X Y:Nat) (i r:Bool) (w:World) (hb:(Item.blk b ⟨false,opL V f,100,(0,0)⟩).holds w) (hf:(Item.blk f ⟨false,fldL V.p bd,165,(0,0)⟩).holds w) (hbd:(Item.blk bd ⟨false,dvL V.p,269,(0,0)⟩).holds w) (hX:X<W9) (hY:Y<W9) (hr:onB V.p V.a V.b X Y i = r):CF Tryz.prog 55 [.pointer (some ⟨b,0,none⟩),ptV X Y i] w (.bool r):=by
  have:=c_cOn V b f bd hok X Y i w hb hf hbd hX hY
  rwa [hr] at this
theorem c_cOnP (V:Cv) (b f bd:Nat) (hok:V.Ok) (P:Pt V.p) (w:World) (hb:(Item.blk b ⟨false,opL V f,100,(0,0)⟩).holds w) (hf:(Item.blk f ⟨false,fldL V.p bd,165,(0,0)⟩).holds w) (hbd:(Item.blk bd ⟨false,dvL V.p,269,(0,0)⟩).holds w) (hP:On V.A V.B P):CF Tryz.prog 55 [.pointer (some ⟨b,0,none⟩),ptP P] w (.bool true) :=
  c_cOnB V b f bd hok (xv P) (yv P) (iv P) true w hb hf hbd (pt_w9 hok P).1 (pt_w9 hok P).2 (onB_on hP)
theorem Kx {p:Nat} (T:Fin p×Fin p×Fin p):(pjFL T).length = 27:=KBn _ _ _
theorem KBC {p:Nat} (T:Fin p×Fin p×Fin p):KBM (pjFL T):=pjL_one _ _ _
def arr4 {p:Nat} (a b c d:Fin p×Fin p×Fin p):List Value:=pjFL a++(pjFL b++(pjFL c++pjFL d))
theorem arr4_length {p:Nat} (a b c d:Fin p×Fin p×Fin p):(arr4 a b c d).length = 108:=by simp [arr4,Kx]
theorem arr4_one {p:Nat} (a b c d:Fin p×Fin p×Fin p):KBM (arr4 a b c d):=KAS (KBC _) (KAS (KBC _) (KAS (KBC _) (KBC _)))
theorem fill_arr4 {p:Nat} (a b c d:Fin p×Fin p×Fin p):fillL ((List.range 4).map fun i=>(i*27,27)) (vec .u64 9 (fun _=>0)++(vec .u64 9 (fun _=>0)++(vec .u64 9 (fun _=>0)++(vec .u64 9 (fun _=>0)++(vec .u64 9 (fun _=>0)++(vec .u64 9 (fun _=>0)++(vec .u64 9 (fun _=>0)++(vec .u64 9 (fun _=>0)++(vec .u64 9 (fun _=>0)++(vec .u64 9 (fun _=>0)++(vec .u64 9 (fun _=>0)++(vec .u64 9 (fun _=>0))))))))))))) [(0,pjF a),(1,pjF b),(2,pjF c),(3,pjF d)] = some (arr4 a b c d):=by
  refine KAL (A:=[]) (B:=vec .u64 9 (fun _=>0)++(vec .u64 9 (fun _=>0)++(vec .u64 9 (fun _=>0)))) (D:=vec .u64 9 (fun _=>0)++(vec .u64 9 (fun _=>0)++(vec .u64 9 (fun _=>0)++(vec .u64 9 (fun _=>0)++(vec .u64 9 (fun _=>0)++(vec .u64 9 (fun _=>0)++(vec .u64 9 (fun _=>0)++(vec .u64 9 (fun _=>0)++(vec .u64 9 (fun _=>0)))))))))) (cs:=pjFL a) rfl rfl (Kx _) (by simp only [List.append_assoc,List.nil_append,List.append_nil]) rfl (by simp [KS]) ?_;refine KAL (A:=pjFL a) (B:=vec .u64 9 (fun _=>0)++(vec .u64 9 (fun _=>0)++(vec .u64 9 (fun _=>0)))) (D:=vec .u64 9 (fun _=>0)++(vec .u64 9 (fun _=>0)++(vec .u64 9 (fun _=>0)++(vec .u64 9 (fun _=>0)++(vec .u64 9 (fun _=>0)++(vec .u64 9 (fun _=>0))))))) (cs:=pjFL b) rfl rfl (Kx _) (by simp only [List.append_assoc,List.nil_append,List.append_nil]) (Kx _) (by simp [KS]) ?_;refine KAL (A:=pjFL a++pjFL b) (B:=vec .u64 9 (fun _=>0)++(vec .u64 9 (fun _=>0)++(vec .u64 9 (fun _=>0)))) (D:=vec .u64 9 (fun _=>0)++(vec .u64 9 (fun _=>0)++(vec .u64 9 (fun _=>0)))) (cs:=pjFL c) rfl rfl (Kx _) (by simp only [List.append_assoc,List.nil_append,List.append_nil]) (by simp [Kx]) (by simp [KS]) ?_
  refine (KAL (A:=pjFL a++(pjFL b++pjFL c)) (B:=vec .u64 9 (fun _=>0)++(vec .u64 9 (fun _=>0)++(vec .u64 9 (fun _=>0)))) (D:=[]) (cs:=pjFL d) rfl rfl (Kx _) (by simp only [List.append_assoc,List.nil_append,List.append_nil]) (by simp [Kx]) (by simp [KS]) rfl).trans ?_
  simp [arr4]
theorem arr4_1 {p:Nat} (a b c d:Fin p×Fin p×Fin p) (wr:Bool) (e:TypeId) (fz:Nat×Nat):LoadV Tryz.prog 135 ⟨wr,arr4 a b c d,e,fz⟩ 27 (pjF b):=KAY (pre:=pjFL a) (cs:=pjFL b) (post:=pjFL c++pjFL d) u135 rfl KAJ rfl (Kx _) (Kx _)
theorem arr4_2 {p:Nat} (a b c d:Fin p×Fin p×Fin p) (wr:Bool) (e:TypeId) (fz:Nat×Nat):LoadV Tryz.prog 135 ⟨wr,arr4 a b c d,e,fz⟩ 54 (pjF c):=KAY (pre:=pjFL a++pjFL b) (cs:=pjFL c) (post:=pjFL d) u135 rfl KAJ (by simp [arr4]) (by simp [Kx]) (Kx _)
theorem arr4_3 {p:Nat} (a b c d:Fin p×Fin p×Fin p) (wr:Bool) (e:TypeId) (fz:Nat×Nat):LoadV Tryz.prog 135 ⟨wr,arr4 a b c d,e,fz⟩ 81 (pjF d):=LoadV.last (pre:=pjFL a++(pjFL b++pjFL c)) (cs:=pjFL d) u135 rfl KAJ (by simp [arr4]) (by simp [Kx]) (Kx _)
noncomputable def dualP (V:Cv) (U W:Nat) (Q:Pt V.p):Pt V.p:=padd V.A (pmul V.A V.G U) (pmul V.A Q W)
theorem dual_step {V:Cv} (hok:V.Ok) {Q:Pt V.p} (hQ:On V.A V.B Q) {U W y bu bv:Nat} {T Tk:Fin V.p×Fin V.p×Fin V.p} (h1:U/2^y%2 = bu) (h2:W/2^y%2 = bv) (hT:RepT V T (dualP V (U/2^(y+1)) (W/2^(y+1)) Q)) (hk:RepT V Tk (dualP V bu bv Q)):RepT V (sumT V (sumT V T T) Tk) (dualP V (U/2^y) (W/2^y) Q):=by
  have:=RepT.sum hok (RepT.sum hok hT hT) hk
  subst h1 h2
  unfold dualP at *
  rwa [hok.dual_bit hok.on hQ] at this
theorem dual_zero {V:Cv} (hok:V.Ok) {Q:Pt V.p} (hQ:On V.A V.B Q) {U W y:Nat} {T:Fin V.p×Fin V.p×Fin V.p} (h1:U/2^y%2 = 0) (h2:W/2^y%2 = 0) (hT:RepT V T (dualP V (U/2^(y+1)) (W/2^(y+1)) Q)):RepT V (sumT V T T) (dualP V (U/2^y) (W/2^y) Q):=by
  have h:=RepT.sum hok hT hT
  have e:=hok.dual_bit hok.on hQ U W y
  rw [h1,h2,KDN,KDN,hok.add_inf (show On V.A V.B (.inf:Pt V.p) from trivial)] at e
  unfold dualP at *
  rw [hok.add_inf (hok.sum (hok.sum (hok.mul hok.on _) (hok.mul hQ _)) (hok.sum (hok.mul hok.on _) (hok.mul hQ _)))] at e
  rwa [e] at h
theorem dual_10 {V:Cv} (hok:V.Ok) {Q:Pt V.p} (hQ:On V.A V.B Q):RepT V (tripF V.G) (dualP V 1 0 Q):=by
  unfold dualP
  rw [pmul_one hok.fld hok.on,KDN,hok.add_inf hok.on]
  exact KBU hok hok.on
theorem dual_01 {V:Cv} (hok:V.Ok) {Q:Pt V.p} (hQ:On V.A V.B Q):RepT V (tripF Q) (dualP V 0 1 Q):=by
  unfold dualP
  rw [pmul_one hok.fld hQ,KDN,hok.inf_add hQ]
  exact KBU hok hQ
theorem dual_11 {V:Cv} (hok:V.Ok) {Q:Pt V.p} (hQ:On V.A V.B Q):RepT V (sumT V (tripF V.G) (tripF Q)) (dualP V 1 1 Q):=by
  unfold dualP
  rw [pmul_one hok.fld hQ,pmul_one hok.fld hok.on]
  exact RepT.sum hok (KBU hok hok.on) (KBU hok hQ)
theorem dual_top {V:Cv} (hok:V.Ok) {Q:Pt V.p} {U W:Nat} (hU:U<V.n) (hW:W<V.n):dualP V (U/2^blen V.n) (W/2^blen V.n) Q = .inf:=by
  have hn:=KCl V.n
  unfold dualP
  rw [Nat.div_eq_of_lt (Nat.lt_trans hU hn),Nat.div_eq_of_lt (Nat.lt_trans hW hn),KDN,KDN,hok.add_inf (show On V.A V.B (.inf:Pt V.p) from trivial)]
theorem c_dualTimes (V:Cv) (b f bd:Nat) (hok:V.Ok) (U W:Nat) (Q:Pt V.p) (hQ:On V.A V.B Q) (hU:U<V.n) (hW:W<V.n) (w:World) (hb:(Item.blk b ⟨false,opL V f,100,(0,0)⟩).holds w) (hf:(Item.blk f ⟨false,fldL V.p bd,165,(0,0)⟩).holds w) (hbd:(Item.blk bd ⟨false,dvL V.p,269,(0,0)⟩).holds w):CF Tryz.prog 56 [.pointer (some ⟨b,0,none⟩),natV U,natV W,ptP Q] w (ptP (dualP V U W Q)):=by
  have hbb:=hok.bounds
  have hnW:V.n<W9:=KAF hbb.2.2.2.2.2.2.1
  have hbl:=KAn hnW
  have hU9:=Nat.lt_trans hU hnW
  have hW9:=Nat.lt_trans hW hnW
  refine KV (N:=65) (rs:=[.cell 8 47]) [.blk b ⟨false,opL V f,100,(0,0)⟩,.blk f ⟨false,fldL V.p bd,165,(0,0)⟩,.blk bd ⟨false,dvL V.p,269,(0,0)⟩] Tryz.func56 rfl Tryz.ntmps56 Tryz.results56 (Nb rfl) ⟨hb,hf,hbd,trivial⟩ rfl ?_
  refine KB (KA (oS (mB (fun b5=>?_))));refine oS (mB (fun b6=>?_));refine oS (mB (fun b7=>?_));refine oS (mk (KK zr_47) (fun b8=>?_));refine KC (KB (rD [10,11] (aM 0 ?_)));refine aP 1 rfl (KG rfl) (aP 2 rfl (KD (o':=0) u100 rfl rfl rfl sz_53 dc) (aP 3 rfl (KD (o':=37) u53 rfl rfl rfl sz_47 dc) (aD 4 rfl (KAp (dL rfl (hv:=by exact cvC_ld_g _ _ _ _ _ _ _ _ _ _ _ _ _ _ _ _)) (g_val hok)) ?_)));refine KCK [7,10,11] 6 rfl kr (Nb rfl) dNb ?_;refine KAh ?_;refine Ks 8 rfl (.inl KDD) (Nb rfl) rfl rfl rfl ?_;refine Ks 9 rfl (.inl KDD) (Nb rfl) rfl rfl rfl ?_;refine LAnyP.step 5 rfl rfl rfl (Nb rfl) kr rfl (Ki (first:=[]) rfl en_67 rfl (fun w hw=>c_Triple V hok V.G w)) ?_
  rintro _ _ ⟨rfl,rfl⟩
  refine LAnyP.step 7 rfl rfl rfl (Nb rfl) kr rfl (Ki (first:=[]) rfl en_67 rfl (fun w hw=>c_Triple V hok Q w)) ?_
  rintro _ _ ⟨rfl,rfl⟩
  refine pE (fun b10=>?_);refine pE (fun b9=>?_);refine KAD ?_;refine aL 10 rfl (sA rfl rfl KAJ (by exact KBC _) (hl:=by exact Kx _) (h:=?_));refine aL 11 rfl (sA rfl rfl KAJ (by exact KBC _) (hl:=by exact Kx _) (h:=?_));refine aE (KB (rD [9] (aD 1 rfl (dL rfl (hv:=by exact KE u135 rfl KAJ)) ?_)));refine aD 2 rfl (dL rfl (hv:=by exact KE u135 rfl KAJ)) ?_;refine aM 3 ?_;refine aD 4 rfl (dL rfl (hv:=by exact KE u135 rfl KAJ)) ?_;refine aD 5 rfl (dL rfl (hv:=by exact KE u135 rfl KAJ)) ?_;refine KAh ?_;refine Ks 8 rfl (.inl zr_183) (Nb rfl) rfl rfl rfl ?_;refine LAnyP.step 0 rfl rfl rfl (Nb rfl) kr rfl (Ki (first:=[]) rfl en_99 rfl (fun w hw=>c_NoneF hok w)) ?_
  rintro _ _ ⟨rfl,rfl⟩
  refine LAnyP.step 6 rfl rfl rfl (Nb rfl) kr rfl (Ki (first:=[]) rfl en_100 rfl (fun w hw=>c_SumT V b f bd hok (tripF V.G) (tripF Q) w (mC hw) (mC hw) (mC hw))) ?_
  rintro _ _ ⟨rfl,rfl⟩
  refine pP 7 rfl (KJ (Ka pl_183 zr_183 rfl (fill_arr4 _ _ _ _)) rfl) (pE (fun b11=>?_));refine KAD ?_;refine aL 9 rfl (sA rfl rfl sz_183 (by exact arr4_one _ _ _ _) (hl:=by exact arr4_length _ _ _ _) (h:=?_));refine aE (KB (KA (oS (cF rfl en_99 rfl (fun w hw=>c_NoneF hok w) ?_))));refine oS (mk (KK KDD) (fun b12=>?_));refine LOps.step rfl (sA rfl rfl KAJ (by exact KBC _) (hl:=by exact Kx _) (h:=?_));refine KC (KB (KB (KA (oM ?_))));refine oP (KG rfl) (oP (KD (o':=0) u100 rfl rfl rfl sz_53 dc) (oP (KD (o':=56) u53 rfl rfl rfl sz_3 dc) (oD (dL rfl (hv:=KI u3 rfl (by exact KCy _ _ _ _ _ _ _ _ _ _ _ _ _))) ?_)));refine oP (KF (v:=.int .i64 (((blen V.n:Nat):Int)-1)) rfl rfl (KCO om om)) (oA (KC (LCode.block ?_)));refine Kc (α:=Nat×(Fin V.p×Fin V.p×Fin V.p)) (fun x=>x.1≤blen V.n∧RepT V x.2 (dualP V (U/2^x.1) (W/2^x.1) Q)) (fun x=>⟨[(0,.pointer (some ⟨b,0,none⟩)),(5,.pointer (some ⟨b5,0,none⟩)),(6,.pointer (some ⟨b6,0,none⟩)),(7,.pointer (some ⟨b7,0,none⟩)),(8,.pointer (some ⟨b8,0,none⟩)),(11,.pointer (some ⟨b11,0,none⟩)),(12,.pointer (some ⟨b12,0,none⟩)),(13,.int .i64 (((x.1:Nat):Int)-1))],[.blk b12 ⟨true,pjFL x.2,135,(0,0)⟩,.blk b11 ⟨true,arr4 (tripF (.inf:Pt V.p)) (tripF V.G) (tripF Q) (sumT V (tripF V.G) (tripF Q)),183,(0,0)⟩,.blk b8 ⟨true,(vec .u64 9 (fun _=>0)++(vec .u64 9 (fun _=>0)++[Value.bool false])),47,(0,0)⟩,.blk b7 ⟨true,ptL (xv Q) (yv Q) (iv Q),47,(0,0)⟩,.blk b6 ⟨true,natL W,33,(0,0)⟩,.blk b5 ⟨true,natL U,33,(0,0)⟩,.blk b ⟨false,opL V f,100,(0,0)⟩,.blk f ⟨false,fldL V.p bd,165,(0,0)⟩,.blk bd ⟨false,dvL V.p,269,(0,0)⟩]⟩) (fun x=>x.1) ((blen V.n,tripF (.inf:Pt V.p))) (⟨Nat.le_refl _,by dsimp only; rw [dual_top hok hU hW]; exact KBU hok trivial⟩) (KY ⟨rfl,rfl,rfl,rfl,rfl,rfl,rfl,rfl,trivial⟩ mS) ?_
  rintro x ⟨hx1,hx2⟩
  refine KB (KB ?_)
  rcases Nat.eq_zero_or_pos x.1 with h0|h0
  ·
   refine KA (oM ?_);refine oP (KF (v:=.bool false) rfl rfl (by rw [h0]; rfl)) ?_;refine KC (KH rfl (KZ (KB ?_)))
   have eR:dualP V (U/2^x.1) (W/2^x.1) Q = dualP V U W Q:=by rw [h0,Nat.pow_zero,Nat.div_one,Nat.div_one]
   rw [eR] at hx2
   refine KA (oM ?_);refine oD (dL rfl (hv:=by exact KE u135 rfl KAJ)) ?_;refine oS (cF rfl en_65 rfl (fun w hw=>c_PlainT V b f bd hok (x.2) (dualP V U W Q) w (mC hw) (mC hw) (mC hw) (hx2)) ?_);refine LOps.step rfl (sA rfl rfl sz_47 mO (hl:=mL) (h:=?_));refine KC (KM (eN (.cons ⟨_,_,_,rfl,mM,by exact KE u47 rfl sz_47⟩ .nil) ?_))
   rfl
  obtain ⟨y,hy⟩:∃ y,x.1 = y+1:=⟨x.1-1,by omega⟩
  rw [hy] at hx2
  refine KA (oM ?_);refine oP (KF (v:=.bool true) rfl rfl (by rw [hy]; simp [Ko] <;> omega)) ?_;refine KC (KT rfl (KN (KB (LCode.block (KB (KA (oM ?_)))))));refine oD (dL rfl (hv:=by exact KE u135 rfl KAJ)) ?_;refine oD (dL rfl (hv:=by exact KE u135 rfl KAJ)) ?_;refine oS (cF rfl en_100 rfl (fun w hw=>c_SumT V b f bd hok (x.2) (x.2) w (mC hw) (mC hw) (mC hw)) ?_);refine LOps.step rfl (sA rfl rfl KAJ (by exact KBC _) (hl:=by exact Kx _) (h:=?_));refine KC (KB (rD [] (aD 0 rfl dNa ?_)));refine aP 1 rfl (Kd (v:=.int .i64 ((y:Nat):Int)) (by show some _ = some _; congr 2; omega)) ?_;refine aD 3 rfl dNa ?_;refine aP 4 rfl (Kd (v:=.int .i64 ((y:Nat):Int)) (by show some _ = some _; congr 2; omega)) ?_;refine aO 2 rfl (cF rfl en_57 rfl (fun w hw=>c_nat_Bit U y hU9 om w) ?_)
  refine aO 5 rfl (cF rfl en_57 rfl (fun w hw=>c_nat_Bit W y hW9 om w) ?_);refine aP 6 rfl (KF rfl rfl (KCJ (a:=2) om)) (aP 7 rfl (KF rfl rfl (Kj om)) (aA 8 ?_));refine aE (KB ?_)
  rcases (show (U/2^y%2 = 0∧W/2^y%2 = 0)∨(U/2^y%2 = 1∧W/2^y%2 = 0)∨(U/2^y%2 = 0∧W/2^y%2 = 1)∨(U/2^y%2 = 1∧W/2^y%2 = 1) by omega) with ⟨k1,k2⟩|⟨k1,k2⟩|⟨k1,k2⟩|⟨k1,k2⟩
  ·
   refine KA ?_;refine oP (Kd (v:=.int .i64 ((0:Nat):Int)) (by show some _ = some _; congr 2; omega)) ?_;refine oP (KF (v:=.bool false) rfl rfl (br_f (KAV (b:=0)) dc)) (KC (KH rfl (KN (KA ?_))));refine oP (Kd (v:=.int .i64 ((y:Nat):Int)) (by show some _ = some _; congr 2; omega)) ?_;refine oP (KF (v:=.int .i64 (((y:Nat):Int)-1)) rfl rfl (KCO om om)) (oA (KC ?_))
   exact ⟨(y,sumT V x.2 x.2),⟨by dsimp only; omega,dual_zero hok hQ k1 k2 hx2⟩,by dsimp only; omega,KY ⟨rfl,rfl,rfl,rfl,rfl,rfl,rfl,rfl,trivial⟩ mS⟩
  ·
   refine KA ?_;refine oP (Kd (v:=.int .i64 ((1:Nat):Int)) (by show some _ = some _; congr 2; omega)) ?_;refine oP (KF (v:=.bool true) rfl rfl (br_t (KAV (b:=0)) dc)) (KC (KT rfl (rD [6] (aM 0 ?_))));refine aD 1 rfl (dL rfl (hv:=by exact KE u135 rfl KAJ)) ?_;refine aP 2 rfl (Kd (v:=.int .i64 ((1:Nat):Int)) (by show some _ = some _; congr 2; omega)) ?_;refine aP 3 rfl (Det.indexArrN u183 KAJ rfl rfl dc) (aD 4 rfl (dL rfl (hv:=by exact arr4_1 _ _ _ _ _ _ _)) ?_);refine aO 5 rfl (cF rfl en_100 rfl (fun w hw=>c_SumT V b f bd hok (sumT V x.2 x.2) (tripF V.G) w (mC hw) (mC hw) (mC hw)) ?_);refine aL 6 rfl (sA rfl rfl KAJ (by exact KBC _) (hl:=by exact Kx _) (h:=?_));refine aE (KA ?_);refine oP (Kd (v:=.int .i64 ((y:Nat):Int)) (by show some _ = some _; congr 2; omega)) ?_;refine oP (KF (v:=.int .i64 (((y:Nat):Int)-1)) rfl rfl (KCO om om)) (oA (KC ?_))
   exact ⟨(y,sumT V (sumT V x.2 x.2) (tripF V.G)),⟨by dsimp only; omega,dual_step hok hQ k1 k2 hx2 (dual_10 hok hQ)⟩,by dsimp only; omega,KY ⟨rfl,rfl,rfl,rfl,rfl,rfl,rfl,rfl,trivial⟩ mS⟩
  ·
   refine KA ?_;refine oP (Kd (v:=.int .i64 ((2:Nat):Int)) (by show some _ = some _; congr 2; omega)) ?_;refine oP (KF (v:=.bool true) rfl rfl (br_t (KAV (b:=0)) dc)) (KC (KT rfl (rD [6] (aM 0 ?_))));refine aD 1 rfl (dL rfl (hv:=by exact KE u135 rfl KAJ)) ?_;refine aP 2 rfl (Kd (v:=.int .i64 ((2:Nat):Int)) (by show some _ = some _; congr 2; omega)) ?_;refine aP 3 rfl (Det.indexArrN u183 KAJ rfl rfl dc) (aD 4 rfl (dL rfl (hv:=by exact arr4_2 _ _ _ _ _ _ _)) ?_);refine aO 5 rfl (cF rfl en_100 rfl (fun w hw=>c_SumT V b f bd hok (sumT V x.2 x.2) (tripF Q) w (mC hw) (mC hw) (mC hw)) ?_);refine aL 6 rfl (sA rfl rfl KAJ (by exact KBC _) (hl:=by exact Kx _) (h:=?_));refine aE (KA ?_);refine oP (Kd (v:=.int .i64 ((y:Nat):Int)) (by show some _ = some _; congr 2; omega)) ?_;refine oP (KF (v:=.int .i64 (((y:Nat):Int)-1)) rfl rfl (KCO om om)) (oA (KC ?_))
   exact ⟨(y,sumT V (sumT V x.2 x.2) (tripF Q)),⟨by dsimp only; omega,dual_step hok hQ k1 k2 hx2 (dual_01 hok hQ)⟩,by dsimp only; omega,KY ⟨rfl,rfl,rfl,rfl,rfl,rfl,rfl,rfl,trivial⟩ mS⟩
  refine KA ?_;refine oP (Kd (v:=.int .i64 ((3:Nat):Int)) (by show some _ = some _; congr 2; omega)) ?_;refine oP (KF (v:=.bool true) rfl rfl (br_t (KAV (b:=0)) dc)) (KC (KT rfl (rD [6] (aM 0 ?_))));refine aD 1 rfl (dL rfl (hv:=by exact KE u135 rfl KAJ)) ?_;refine aP 2 rfl (Kd (v:=.int .i64 ((3:Nat):Int)) (by show some _ = some _; congr 2; omega)) ?_;refine aP 3 rfl (Det.indexArrN u183 KAJ rfl rfl dc) (aD 4 rfl (dL rfl (hv:=by exact arr4_3 _ _ _ _ _ _ _)) ?_);refine aO 5 rfl (cF rfl en_100 rfl (fun w hw=>c_SumT V b f bd hok (sumT V x.2 x.2) (sumT V (tripF V.G) (tripF Q)) w (mC hw) (mC hw) (mC hw)) ?_);refine aL 6 rfl (sA rfl rfl KAJ (by exact KBC _) (hl:=by exact Kx _) (h:=?_));refine aE (KA ?_);refine oP (Kd (v:=.int .i64 ((y:Nat):Int)) (by show some _ = some _; congr 2; omega)) ?_;refine oP (KF (v:=.int .i64 (((y:Nat):Int)-1)) rfl rfl (KCO om om)) (oA (KC ?_))
  exact ⟨(y,sumT V (sumT V x.2 x.2) (sumT V (tripF V.G) (tripF Q))),⟨by dsimp only; omega,dual_step hok hQ k1 k2 hx2 (dual_11 hok hQ)⟩,by dsimp only; omega,KY ⟨rfl,rfl,rfl,rfl,rfl,rfl,rfl,rfl,trivial⟩ mS⟩


open Grp
open Grp


open Grp
def pfx (x:Nat):ByteArray:=strOf ((List.range 1).map fun i=>UInt8.ofNat ((fun _=>x) i))
def coB (V:Cv) (X:Nat):ByteArray:=strOf (Kv (nby V.p) X)
def putS (V:Cv) (X Y:Nat) (sh:Bool):ByteArray:=if sh then pfx (2+Y%2)++coB V X else pfx 4++coB V X++coB V Y
theorem on_lt {V:Cv} {X Y:Nat} (h:onB V.p V.a V.b X Y false = true):X<V.p∧Y<V.p:=by
  unfold onB at h
  rw [if_neg dc] at h
  simp only [Bool.and_eq_true,decide_eq_true_eq] at h
  exact ⟨h.1,h.2.1⟩
theorem c_cOnV (v:Bool) (V:Cv) (b f bd:Nat) (hok:V.Ok) (X Y:Nat) (i:Bool) (w:World) (hb:(Item.blk b ⟨false,opL V f,100,(0,0)⟩).holds w) (hf:(Item.blk f ⟨false,fldL V.p bd,165,(0,0)⟩).holds w) (hbd:(Item.blk bd ⟨false,dvL V.p,269,(0,0)⟩).holds w) (hX:X<W9) (hY:Y<W9) (h:onB V.p V.a V.b X Y i = v):CF Tryz.prog 55 [.pointer (some ⟨b,0,none⟩),ptV X Y i] w (.bool v):=h ▸ c_cOn V b f bd hok X Y i w hb hf hbd hX hY
def b0 (s:ByteArray):Nat:=(s.data.toList.getD 0 0).toNat
def getX (V:Cv) (s:ByteArray):Nat:=beVal (s.extract 1 (1+nby V.p)).data.toList
def getY (V:Cv) (s:ByteArray):Nat:=beVal (s.extract (1+nby V.p) s.size).data.toList
theorem ext_ext (s:ByteArray) (k:Nat) (h:1+k≤s.size):(s.extract 1 s.size).extract 0 k = s.extract 1 (1+k):=by
  rw [ByteArray.extract_extract]
  congr 1; omega
theorem ext_ext2 (s:ByteArray) (k:Nat) (h:1+k≤s.size):(s.extract 1 s.size).extract k (s.extract 1 s.size).size = s.extract (1+k) s.size:=by
  rw [ByteArray.extract_extract,ext_size _ _ _ (Nat.le_refl _)]
  congr 1; omega
theorem ptX_set0 (X Y X':Nat) (i:Bool):KAa (ptL X Y i) 0 (natL X') = ptL X' Y i:=KAl (A:=[]) (B:=natL X) (D:=natL Y++[.bool i]) (by simp [ptL]) rfl (by rw [KL,KL]) (by simp [ptL])
theorem ptX_set9 (X Y Y':Nat) (i:Bool):KAa (ptL X Y i) 9 (natL Y') = ptL X Y' i:=KAl (A:=natL X) (B:=natL Y) (D:=[.bool i]) (by simp [ptL]) (KL _) (by rw [KL,KL]) (by simp [ptL])
theorem ptX_zero:(vec .u64 9 (fun _=>0)++(vec .u64 9 (fun _=>0)++[Value.bool false]):List Value) = ptL 0 0 false:=by
  unfold ptL natL; rw [vec_zeros 9]
theorem c_nat_OfX (X:Nat) (s:ByteArray) (w:World) (h:s.size≤72) (hX:beVal s.data.toList = X):CF Tryz.prog 49 [.string s] w (.tuple #[natV X,.int .i64 ((0:Nat):Int)]):=hX ▸ c_nat_OfOK s w h
theorem emp_f {s:ByteArray} (h:s.size≠0):(s.toList == (⟨#[]⟩:ByteArray).toList) = false:=by
  cases h1:(s.toList == (⟨#[]⟩:ByteArray).toList) with
  | false=>rfl
  | true =>
    rw [eq_str,decide_eq_true_eq] at h1
    have h2:s.data.size = 0:=by rw [← Array.length_toList,h1]; rfl
    exact absurd h2 h
theorem c_s_Get4 (id:Int) (V:Cv) (s:ByteArray) (X Y:Nat) (w:World) (h:cvI id = some V) (hsz:s.size = 1+2*nby V.p) (hb:b0 s = 4) (hX:beVal (s.extract 1 (1+nby V.p)).data.toList = X) (hY:beVal (s.extract (1+nby V.p) s.size).data.toList = Y) (hXw:X<W9) (hYw:Y<W9) (hl:onB V.p V.a V.b X Y false = true):CF Tryz.prog 29 [.int .i64 id,.string s] w (.tuple #[ptV X Y false,.int .i64 ((0:Nat):Int)]):=by
  obtain ⟨hok,hid⟩:=KBT h
  have hbb:=hok.bounds
  have hpW:V.p<W9:=KAF hbb.2.1
  have hnW:V.n<W9:=KAF hbb.2.2.2.2.2.2.1
  have hbl:=KAn hnW
  have hnb:nby V.n≤72:=by (unfold nby; omega)
  have hnp:nby V.p≤72:=by have:=KAn (KAF hbb.2.1); (unfold nby; omega)
  have hs0:s.size≠0:=by omega
  refine KV (N:=102) (rs:=[.cell 4 47,.tmp 5]) [] Tryz.func29 rfl Tryz.ntmps29 Tryz.results29 (Nb rfl) trivial rfl ?_
  refine KB (KA (oS (mk (KK zr_47) (fun b4=>?_))));refine oP (KO (v:=.int .i64 ((0:Nat):Int)) rfl) (KC (KB (KA (oM ?_))));refine oS (oOpen h rfl rfl (fun b f bd=>?_));refine oA (KC (KB (KB (KA (oM ?_)))));refine oP (KJ (KAR u81 rfl rfl) (show _ = Value.bool false from rfl)) (KC (KH rfl (KN (KB (KB (KA (oM ?_)))))));refine oP (KJ (Det.eqs rfl rfl) (congrArg Value.bool (emp_f hs0))) (KC (KH rfl (KN (KB (rD [] (aM 0 ?_))))));refine aP 1 rfl (KJ (KAI u9 rfl rfl om om) (show _ = .int .u8 ((4:Nat):Int) from congrArg (fun n:Nat=>Value.int .u8 ((n:Nat):Int)) hb)) (aP 2 rfl (KBL u5 u3 rfl om) (aM 3 ?_));refine aP 4 rfl (KJ (Det.slStrL u9 rfl rfl om om) (show _ = Value.string (s.extract 1 s.size) from rfl)) (aA 5 ?_);refine aA 6 ?_;refine aE (KB (KA (oS (mk (KK zr_47) (fun b9=>?_)))));refine KC (KB (KA (oA (KC (KB (LCode.block (KB ?_)))))))
  have hrs:(s.extract 1 s.size).size = s.size-1:=by rw [ext_size _ _ _ (Nat.le_refl _)]
  refine KA (oM ?_);refine oP (KF (v:=.bool false) rfl rfl (br_f (KAG (b:=2)) dc)) (oM ?_);refine oGM ?_;refine oGP (KF (v:=.bool false) rfl rfl (br_f (KAG (b:=3)) dc)) (oP (KU rfl rfl) (oM ?_));refine oK (oK (oK (oK (oK (oK (oK (oK (oP (KU rfl rfl) (oA (KC ?_))))))))));refine KH rfl (KB (KA (oM ?_)));refine oP (KF (v:=.bool true) rfl rfl (br_t (KAG (b:=4)) (rfl))) (oM ?_);refine oGM ?_;refine oGP (KAU u9 rfl) (oGM ?_);refine oGP (KG rfl) (oGP (KD (o':=0) u100 rfl rfl rfl sz_53 dc) (oGP (KD (o':=57) u53 rfl rfl rfl sz_3 dc) (Kz rfl rfl (dL rfl (hv:=KI u3 rfl (by exact cvC_gt_size _ _ _ _ _ _ _ _ _ _ _ _ _))) (Nb rfl) ?_)));refine oGP (KF rfl rfl (KCJ (a:=2) om)) (oGP (KF (v:=.bool true) rfl rfl (br_t KAG (om))) (oP (Kg rfl rfl) (oA (KC ?_))));refine KT rfl (KB (LCode.sub (Sub.cells (b:=b9) (cs':=ptL 0 0 false) mT ptX_zero) ?_));refine KA (oM (oM ?_))
  refine oP (KG rfl) (oP (KD (o':=0) u100 rfl rfl rfl sz_53 dc) (oP (KD (o':=57) u53 rfl rfl rfl sz_3 dc) (oD (dL rfl (hv:=KI u3 rfl (by exact cvC_gt_size _ _ _ _ _ _ _ _ _ _ _ _ _))) ?_)));refine oP (KJ (Det.slStrH u9 rfl rfl om om) (show _ = Value.string (s.extract 1 (1+nby V.p)) from by rw [Int.toNat_natCast,ext_ext s _ om])) ?_;refine oS (cF rfl en_49 rfl (fun w hw=>c_nat_OfX X (s.extract 1 (1+nby V.p)) w (by rw [ext_size _ _ _ om]; omega) hX) ?_);refine oM ?_;refine oX ?_;refine oX ?_;refine oP (KD (o':=0) u47 rfl rfl rfl sz_33 dc) ?_;refine LOps.step rfl (Kp rfl rfl rfl sz_33 (KL _) (KAE _) mT (by simp only [Kb]; decide) (ptX_set0 _ _ _ _) (by simp) ?_);refine KC (KB (KA (oM (oM ?_))));refine oP (KG rfl) (oP (KD (o':=0) u100 rfl rfl rfl sz_53 dc) (oP (KD (o':=57) u53 rfl rfl rfl sz_3 dc) (oD (dL rfl (hv:=KI u3 rfl (by exact cvC_gt_size _ _ _ _ _ _ _ _ _ _ _ _ _))) ?_)))
  refine oP (KJ (Det.slStrL u9 rfl rfl om om) (show _ = Value.string (s.extract (1+nby V.p) s.size) from by rw [Int.toNat_natCast,ext_ext2 s _ om])) ?_;refine oS (cF rfl en_49 rfl (fun w hw=>c_nat_OfX Y (s.extract (1+nby V.p) s.size) w (by rw [ext_size _ _ _ (Nat.le_refl _)]; omega) hY) ?_);refine oM ?_;refine oX ?_;refine oX ?_;refine oP (KD (o':=9) u47 rfl rfl rfl sz_33 dc) ?_;refine LOps.step rfl (Kp rfl rfl rfl sz_33 (KL _) (KAE _) mT (by simp only [Kb]; decide) (ptX_set9 _ _ _ _) (by simp) ?_);refine KC (KA (oM ?_));refine oD dNb ?_;refine oS (cF rfl en_55 rfl (fun w hw=>c_cOnV true V b f bd hok X Y false w (mC hw) (mC hw) (mC hw) hXw hYw hl) ?_);refine oA (KC (KB (KB (KA (oM ?_)))));refine oP (KJ (KAH rfl) (show _ = Value.bool false from rfl)) (KC (KH rfl (KN (KB (KA (oD dNb ?_))))))
  refine LOps.step rfl (sA rfl rfl sz_47 (by exact KAN _ _ _) (hl:=by exact Kb _ _ _) (h:=?_));refine oP (KO (v:=.int .i64 ((0:Nat):Int)) rfl) (KC (KM (eN (.cons ⟨_,_,_,rfl,mM,by exact KE u47 rfl sz_47⟩ (.cons rfl .nil)) ?_)))
  skip
  rfl

theorem nbp_72 {V:Cv} (hok:V.Ok):nby V.p≤72:=by have:=KAn (KAF hok.bounds.2.1); (unfold nby; omega)
end Go.Proofs.YtnpeokiboiclfaaGreat
set_option linter.unusedVariables false
set_option linter.unusedSimpArgs false
set_option maxRecDepth 20000
namespace Go.Proofs.YtnpeokiboiclfaaGreat
open Go Go.RowKit
theorem Rel.setOwn {C : Ctx} {st : St} {a : Act} {w w' : World} (h : Rel C st a w) {x x' : Item} {R : List Item} (hp : Pick x st.H R) (hx : x.wr = true) (hx' : x'.holds w')
    (hnew:∀ k,k∈x'.fp→w.heap.size≤k∨k∈x.fp) (hf:Fr (fun k=>k∈x.fp) w w'):Rel C ⟨st.T,x' :: R⟩ a w':=by
  have hpm:=hp.perm
  have hdist:(x :: R).Pairwise Apart:=(hpm.pairwise_iff (fun h=>Apart.symm h)).1 h.dist
  obtain ⟨hXR,hR⟩:=List.pairwise_cons.1 hdist
  have inR:∀ y,y∈R→y∈st.H:=fun y hy=>hpm.mem_iff.2 (.tail _ hy)
  have inX:x∈st.H:=hpm.mem_iff.2 (.head _)
  refine ⟨h.size,h.defers,h.tm,fun y hy=>?_,fun y hy hw k hk=>?_,?_,?_⟩
  · rcases List.mem_cons.1 hy with rfl|hy
    · exact hx'
    · have hold:=h.hp y (inR y hy)
      exact KAj hold (fun k hk=>hf.block k (Item.lt hold k hk) (fun hkx=>hXR y hy (.inl hx) k hkx hk)) hf.size
  · rcases List.mem_cons.1 hy with rfl|hy
    · rcases hnew k hk with h1|h1
      · exact .inl (Nat.le_trans h.fr.size h1)
      · exact h.own x inX hx k h1
    · exact h.own y (inR y hy) hw k hk
  · refine List.pairwise_cons.2 ⟨fun y hy _ k hk hk'=>?_,hR⟩
    rcases hnew k hk with h1|h1
    · have:=Item.lt (h.hp y (inR y hy)) k hk'
      omega
    · exact hXR y hy (.inl hx) k h1 hk'
  · refine ⟨hf.os.trans h.fr.os,hf.tape.trans h.fr.tape,hf.output.trans h.fr.output,Nat.le_trans h.fr.size hf.size,fun k hk1 hk2=>?_⟩
    refine (hf.block k (Nat.lt_of_lt_of_le hk1 h.fr.size) (fun hkx=>?_)).trans (h.fr.block k hk1 hk2)
    rcases h.own x inX hx k hkx with h1|h1
    · omega
    · exact hk2 h1
abbrev TrRow:=Option (Nat×Nat×List Value)
def trV (b:Option Nat):Value:=.pointer (b.map fun b=>⟨b,0,none⟩)
def evsL (l:List Nat):List Value:=l.flatMap fun k=>[.int .i64 ((2:Nat):Int),.int .i64 ((k:Nat):Int)]
theorem evsL_length (l:List Nat):(evsL l).length = l.length*2:=by
  induction l with
  | nil=>rfl
  | cons k l ih =>
    show ([Value.int .i64 ((2:Nat):Int),.int .i64 ((k:Nat):Int)]++evsL l).length = _
    rw [List.length_append,ih,List.length_cons]; show 2+l.length*2 = (l.length+1)*2; omega
theorem evsL_snoc (l:List Nat) (k:Nat):evsL (l++[k]) = evsL l++[.int .i64 ((2:Nat):Int),.int .i64 ((k:Nat):Int)]:=by simp [evsL]
def trSl (r:TrRow) (n:Nat):Value:=match r with
  | none=>.slice none 0 0
  | some r=>.slice (some ⟨r.1,0,none⟩) n r.2.1
def trFp (b:Option Nat) (r:TrRow):List Nat:=match b with
  | none=>[]
  | some b=>match r with
    | none=>[b]
    | some r=>[b,r.1]
def trP (b:Option Nat) (r:TrRow) (l:List Nat) (w:World):Prop:=match b with
  | none=>True
  | some b=>w.heap[b]? = some (.cells [trSl r l.length].toArray 224 (0,0))∧match r with
    | none=>l = []
    | some r=>w.heap[r.1]? = some (.cells (evsL l++r.2.2).toArray 313 (0,0))∧(evsL l).length+r.2.2.length = r.2.1*2∧r.1≠b
def trI (b:Option Nat) (r:TrRow) (l:List Nat):Item:=.own (trFp b r) (trP b r l)
theorem trI_P {b:Option Nat} {r:TrRow} {l:List Nat} {w:World} (h:(trI b r l).holds w):trP b r l w:=h.2 w (KCa _ _)
theorem trI_of {b:Option Nat} {r:TrRow} {l:List Nat} {w:World} (h:trP b r l w):(trI b r l).holds w:=by
  rcases b with _|b
  · exact ⟨fun k hk=>(by cases hk),fun _ _=>trivial⟩
  · rcases r with _|r
    · obtain ⟨h1,h2⟩:=h
      refine ⟨fun k hk=>?_,fun w' ha=>⟨(ha b (.head _)).trans h1,h2⟩⟩
      have:k = b:=by simpa [trFp] using hk
      subst this; exact KCf h1
    · obtain ⟨h1,h2,h3,h4⟩:=h
      refine ⟨fun k hk=>?_,fun w' ha=>⟨(ha b (.head _)).trans h1,(ha r.1 (.tail _ (.head _))).trans h2,h3,h4⟩⟩
      have:k = b∨k = r.1:=by simpa [trFp] using hk
      rcases this with rfl|rfl
      · exact KCf h1
      · exact KCf h2
theorem trI_nil (l:List Nat) (w:World):(trI none none l).holds w:=trI_of trivial
def Out (b:Option Nat) (r:TrRow) (x:Item):Prop:=∀ k,k∈trFp b r→k ∉ x.fp
theorem Out.nil (r:TrRow) (x:Item):Out none r x:=fun k hk=>by cases hk
def Outs (b:Option Nat) (r:TrRow):List Item→Prop
  | []=>True
  | x :: t=>Out b r x∧Outs b r t
theorem Outs.mem {b:Option Nat} {r:TrRow} {H:List Item} (h:Outs b r H):∀ x,x∈H→Out b r x:=by
  induction H with
  | nil=>intro x hx; cases hx
  | cons y t ih =>
    intro x hx
    rcases List.mem_cons.1 hx with rfl|hx
    · exact h.1
    · exact ih h.2 x hx
def TrR (w:World) (b:Option Nat) (r:TrRow) (l:List Nat) (v:Value) (e:Ending) (w':World):Prop :=
  ∃ r',e = .returned v∧(trI b r' l).holds w'∧(∀ k,k∈trFp b r'→w.heap.size≤k∨k∈trFp b r)∧Fr (fun k=>k∈trFp b r) w w'
theorem TrR.nil {w:World} {r:TrRow} {l:List Nat} {v:Value} {e:Ending} {w':World} (h:TrR w none r l v e w'):e = .returned v∧Below w.heap.size w w':=by
  obtain ⟨_,h1,_,_,h2⟩:=h
  exact ⟨h1,h2.os,h2.tape,h2.output,h2.size,fun k hk=>h2.block k hk (fun hk'=>by cases hk')⟩
theorem TrR.same {w:World} {b:Option Nat} {r:TrRow} {l:List Nat} {v:Value} {e:Ending} {w':World} (h:(trI b r l).holds w) (he:e = .returned v) (hb:Below w.heap.size w w'):TrR w b r l v e w' :=
  ⟨r,he,KAj h (fun k hk=>hb.block k (Item.lt h k hk)) hb.size,fun k hk=>.inr hk,hb.os,hb.tape,hb.output,hb.size,fun k hk _=>hb.block k hk⟩
section
variable {P:Program} {C:Ctx} {ty:TypeId} {pos:String} {aft:Array Edge} {d:Nat} {K:St→Prop} {x:Operand} {v:Value}
theorem KAw {T : List (Nat × Value)} {H R : List Item} {f : FuncId} {xs : List Operand} {vs first : List Value} {ats : Array TypeId} {g : Option (Nat × Bool)} {b : Option Nat} {r : TrRow} {l l' : List Nat} (hf : evT T x = some (.func (.func f) first.toArray #[])) (he : KX P f) (ha : evL T xs = some vs) (hd : d < C.N)
    (hp:Pick (trI b r l) H R)
    (hc:∀ w,(∀ x,x∈H→x.holds w)→(∀ y,y∈R→Out b r y)→Calls P f (first++vs).toArray w (TrR w b r l' v))
    (h:∀ r',K ⟨(d,v) :: T,trI b r' l' :: R⟩):KAQ P C ⟨some d,.call { callee:=.value x,args:=xs.toArray,argTypes:=ats },ty,pos,aft,g⟩ ⟨T,H⟩ K:=by
  unfold KAQ
  intro a w hr Qr
  obtain ⟨fn,h1,h2,h3⟩:=he
  have hdist:(trI b r l :: R).Pairwise Apart:=(hp.perm.pairwise_iff (fun h=>Apart.symm h)).1 hr.dist
  refine wp_callee (vs:=first++vs) ?_ (hc w hr.hp (fun y hy k hk=>(List.pairwise_cons.1 hdist).1 y hy (.inl rfl) k hk)) ?_
  · have:=hr.evs ha
    simp [execOp,resolve,hr.ev hf,Deferred.ofValue,invoke,run_call h1 h2 h3,this]
  · rintro e' w' ⟨r',rfl,hits,hnew,hfr⟩
    exact ⟨v,rfl,_,h r',(hr.setOwn hp rfl hits hnew hfr).put hd v⟩
end
theorem calls_tr {P : Program} {f : FuncId} {fn : Func} {c : Code} {vs : List Value} {w : World} (b : Option Nat) (r : TrRow) (l : List Nat) (H : List Item) {rs : List ResultVar} {N : Nat} {R : Ending → World → Prop} (hf : P.funcs[f]? = some fn) (hb : fn.body = some c) (hn : fn.ntmps = N) (hs : fn.results = rs.toArray)
    (hlen:vs.length≤N) (h0:(trI b r l).holds w) (hH:Hold w H) (hro:H.all (fun x=>!x.wr) = true) (hne:Outs b r H)
    (h:LCode P ⟨w,fun k=>k∈trFp b r,N⟩ c ⟨argT 0 vs,trI b r l :: H⟩ (LEnd P ⟨w,fun k=>k∈trFp b r,N⟩ rs fun v _ w'=>R (.returned v) w')):Calls P f vs.toArray w R:=by
  have hr:∀ x,x∈H→x.wr = false:=by
    intro x hx
    have:=List.all_eq_true.1 hro x hx
    simpa using this
  refine KDR hf hb hn hs hlen ?_ ?_ ?_ h
  · intro x hx
    rcases List.mem_cons.1 hx with rfl|hx
    · exact h0
    · exact hH.mem x hx
  · intro x hx hw k hk
    rcases List.mem_cons.1 hx with rfl|hx
    · exact hk
    · rw [hr x hx] at hw; cases hw
  · exact List.pairwise_cons.2 ⟨fun y hy _ k hk hk'=>hne.mem y hy k hk hk',List.pairwise_of_forall_mem_list (fun x hx y hy hw=>(by rw [hr x hx,hr y hy] at hw; rcases hw with hw|hw <;> cases hw))⟩
theorem Rel.tr {w:World} {b:Option Nat} {r r':TrRow} {l:List Nat} {N:Nat} {st:St} {a:Act} {w':World} {v:Value} (h:Rel ⟨w,fun k=>k∈trFp b r,N⟩ st a w') (hm:trI b r' l∈st.H):TrR w b r l v (.returned v) w' :=
  ⟨r',rfl,h.hp _ hm,fun k hk=>h.own _ hm rfl k hk,h.fr⟩
theorem calls_wM {P : Program} {f : FuncId} {fn : Func} {c : Code} {vs : List Value} {w : World} (X : List Item) (W : Nat → Prop) {rs : List ResultVar} {N : Nat} {R : Ending → World → Prop} (hf : P.funcs[f]? = some fn) (hb : fn.body = some c) (hn : fn.ntmps = N) (hs : fn.results = rs.toArray)
    (hlen:vs.length≤N) (hX:Hold w X) (hd:X.Pairwise Apart) (hW:∀ x,x∈X→x.wr = true→∀ k,k∈x.fp→W k)
    (h:LCode P ⟨w,W,N⟩ c ⟨argT 0 vs,X⟩ (LEnd P ⟨w,W,N⟩ rs fun v _ w'=>R (.returned v) w')):Calls P f vs.toArray w R :=
  KDR hf hb hn hs hlen hX.mem hW hd h
theorem apart_two {H:List Item} (h:H.Pairwise Apart) {b c:Nat} {B D:Blk} (hx:Item.blk b B∈H) (hy:Item.blk c D∈H) (hw:B.wr = true) (hne:B.elem≠D.elem):c≠b:=by
  rintro rfl
  have hne':Item.blk c B≠Item.blk c D:=fun e=>by injection e with _ e; exact hne (congrArg Blk.elem e)
  have key:∀ (l:List Item),l.Pairwise Apart→Item.blk c B∈l→Item.blk c D∈l→False:=by
    intro l hl h1 h2
    induction l with
    | nil=>cases h1
    | cons q l ih =>
      obtain ⟨g1,g2⟩:=List.pairwise_cons.1 hl
      rcases List.mem_cons.1 h1 with e1|k1 <;> rcases List.mem_cons.1 h2 with e2|k2
      · exact hne' (e1.trans e2.symm)
      · subst e1; exact g1 (.blk c D) k2 (.inl hw) c (.head _) (.head _)
      · subst e2; exact g1 (.blk c B) k1 (.inr hw) c (.head _) (.head _)
      · exact ih g2 k1 k2
  exact key H h hx hy
section
variable {P:Program} {C:Ctx} {ty:TypeId} {pos:String} {aft:Array Edge} {d:Nat} {K:St→Prop} {x y:Operand} {t e:TypeId}
theorem LStepW.appendSM {s : Nat} {T : List (Nat × Value)} {H H0 : List Item} {b a0 c0 n cap m bytes : Nat} {zv : Value} {xs rest news cs more : List Value} {wr : Bool} {ea : TypeId} {fz : Nat × Nat} {g : Option (Nat × Bool)} (hx : evT T x = some (.slice (some ⟨b, 0, none⟩) n cap)) (hy : evT T y = some (.slice (some ⟨a0, 0, none⟩) m c0))
    (ht:P.underlying t = some (.slice e)) (hi:infOf P e = some (zv,s,bytes)) (hz0:zv.cells.size = s) (hp:Pick (.blk b ⟨true,xs++rest,e,(0,0)⟩) H H0) (hm:Item.blk a0 ⟨wr,cs,ea,fz⟩∈H0) (hcs:cs = news++more) (hxl:xs.length = n*s) (hcl:xs.length+rest.length = cap*s) (hml:news.length = m*s) (ho:KBM news)
    (hn:(n+m)*bytes≤140737488355328) (hn2:n+m≤1000000000) (hd:d<C.N)
    (h:∀ b' cap' rest',xs.length+news.length+rest'.length = cap'*s→K ⟨(d,.slice (some ⟨b',0,none⟩) (n+m) cap') :: T,.blk b' ⟨true,(xs++news)++rest',e,(0,0)⟩ :: H0⟩):KAQ P C ⟨some d,.call { callee:=.builtin .append,args:=#[x,y],argTypes:=#[t,t] },ty,pos,aft,g⟩ ⟨T,H⟩ K:=by
  unfold KAQ
  intro a w hr Qr
  obtain ⟨i,hi1,hi3,hi2,hi4⟩:=inf_spec hi
  have hpm:=hp.perm
  have hin:Item.blk b ⟨true,xs++rest,e,(0,0)⟩∈H:=hpm.mem_iff.2 (.head _)
  have hb:w.heap[b]? = some (.cells (xs++rest).toArray e (0,0)):=hr.hp _ hin
  have ha:w.heap[a0]? = some (.cells cs.toArray ea fz):=hr.hp _ (hpm.mem_iff.2 (.tail _ hm))
  subst hcs
  have hpos:=hr.own _ hin rfl b (by simp [Item.fp])
  have hdd:(Item.blk b ⟨true,xs++rest,e,(0,0)⟩ :: H0).Pairwise Apart:=(List.Perm.pairwise_iff (fun h=>Apart.symm h) hpm).1 hr.dist
  obtain ⟨hd1,hd2⟩:=List.pairwise_cons.1 hdd
  have hmm:∀ x,x∈H0→x∈H:=fun x hx=>hpm.mem_iff.2 (.tail _ hx)
  have hnews:∀ j u,news[j]? = some u→w.cell? ((⟨a0,0,none⟩:Addr).add j) = some u:=fun j u hj=>by
    have hadd:(⟨a0,0,none⟩:Addr).add j = ⟨a0,0+j,none⟩:=by unfold Addr.add; split <;> simp_all
    rw [hadd,cellOf ha,Nat.zero_add,List.getElem?_append_left (by rcases Nat.lt_or_ge j news.length with h'|h'; exact h'; rw [List.getElem?_eq_none h'] at hj; cases hj)]; exact hj
  have hsel:Rel C ⟨T,H0⟩ a w:=⟨hr.size,hr.defers,hr.tm,fun x hx=>hr.hp x (hmm x hx),fun x hx=>hr.own x (hmm x hx),hd2,hr.fr⟩
  unfold Oper.wp
  by_cases hroom:n+m≤cap
  · have hrr:=run_append_room (P:=P) w t ty e i ht hi1 b n cap (xs++rest).toArray hb ⟨a0,0,none⟩ m c0 news (by rw [hi2]; exact hml) hnews (fun u hu=>by have:=ho u hu; cases u <;> simp_all [one,Value.oneCell']) hroom (by have hs2:=Nat.mul_le_mul_right s hroom; rw [Nat.add_mul] at hs2; simp [hi2]; omega)
    rw [KCU (hr.ev hx) (hr.ev hy) hrr]
    have e1:((xs++rest).toArray.toList.take (n*i.size)++news++(xs++rest).toArray.toList.drop (n*i.size+news.length)) = (xs++news)++rest.drop (m*s):=by
      rw [hi2,hml,← hxl]
      simp
    rw [e1]
    have hK:=h b cap (rest.drop (m*s)) (by have hs2:=Nat.mul_le_mul_right s hroom; rw [Nat.add_mul] at hs2; simp; omega)
    refine ⟨_,hK,?_⟩
    have hnew:(w.setRow b ((xs++news)++rest.drop (m*s)).toArray).heap[b]? = some (.cells ((xs++news)++rest.drop (m*s)).toArray e (0,0)):=setRow_heap w b _ _ e _ hb
    have hoth:∀ k,k≠b→(w.setRow b ((xs++news)++rest.drop (m*s)).toArray).heap[k]? = w.heap[k]?:=fun k hk=>setRow_other w b k _ hk
    have hr2:Rel C ⟨T,.blk b ⟨true,xs++rest,e,(0,0)⟩ :: H0⟩ a w:=⟨hr.size,hr.defers,hr.tm,fun x hx=>hr.hp x (hpm.mem_iff.2 hx),fun x hx=>hr.own x (hpm.mem_iff.2 hx),hdd,hr.fr⟩
    exact (hr2.setBlk (B':=⟨true,(xs++news)++rest.drop (m*s),e,(0,0)⟩) (SetAt.head _) rfl hnew hoth (by simp [World.setRow]) rfl rfl rfl).put hd _
  · have hrr := run_append_grow (P := P) w t ty e i zv ht hi1 hi3 ⟨b, 0, none⟩ n cap xs (by rw [hi2]; exact hxl) (fun j u hj => by
      have hadd:(⟨b,0,none⟩:Addr).add j = ⟨b,0+j,none⟩:=by unfold Addr.add; split <;> simp_all
      rw [hadd,cellOf hb,Nat.zero_add]
      rcases Nat.lt_or_ge j xs.length with h'|h'
      · rw [List.getElem?_append_left h']; exact hj
      · rw [List.getElem?_eq_none h'] at hj; cases hj) ⟨a0,0,none⟩ m c0 news (by rw [hi2]; exact hml) hnews om om (growslice_fits om (by rw [hi4]; exact hn))
    rw [KCU (hr.ev hx) (hr.ev hy) hrr]
    have hge:=grownCap_ge w (n+m) cap e
    have hK:=h w.heap.size (grownCap w (n+m) cap e) (Builtin.zeroCells zv.cells (grownCap w (n+m) cap e-(n+m))).toList (by
      have hzz:=size_zeroCells zv.cells (grownCap w (n+m) cap e-(n+m))
      rw [hz0] at hzz
      rw [← Array.length_toList,Nat.sub_mul,Nat.add_mul] at hzz
      have hs2:=Nat.mul_le_mul_right s hge
      rw [Nat.add_mul] at hs2
      omega)
    refine ⟨_,hK,?_⟩
    have hal:=hsel.drew.alloc ((xs++news)++(Builtin.zeroCells zv.cells (grownCap w (n+m) cap e-(n+m))).toList) e
    have hcs:((xs++news)++(Builtin.zeroCells zv.cells (grownCap w (n+m) cap e-(n+m))).toList).toArray = xs.toArray++news.toArray++Builtin.zeroCells zv.cells (grownCap w (n+m) cap e-(n+m)):=by
      apply Array.ext'
      simp
    rw [hcs] at hal
    exact hal.put hd _
theorem KDJ {s : Nat} {T : List (Nat × Value)} {H H0 : List Item} {b a0 c0 n cap m bytes : Nat} {zv : Value} {xs rest news : List Value} {wr : Bool} {ea : TypeId} {fz : Nat × Nat} {g : Option (Nat × Bool)} (hx : evT T x = some (.slice (some ⟨b, 0, none⟩) n cap)) (hy : evT T y = some (.slice (some ⟨a0, 0, none⟩) m c0))
    (ht:P.underlying t = some (.slice e)) (hi:infOf P e = some (zv,s,bytes)) (hz0:zv.cells.size = s) (hp:Pick (.blk b ⟨true,xs++rest,e,(0,0)⟩) H H0) (hm:Item.blk a0 ⟨wr,news,ea,fz⟩∈H0) (hxl:xs.length = n*s) (hcl:xs.length+rest.length = cap*s) (hml:news.length = m*s) (ho:KBM news)
    (hn:(n+m)*bytes≤140737488355328) (hn2:n+m≤1000000000) (hd:d<C.N)
    (h:∀ b' cap' rest',xs.length+news.length+rest'.length = cap'*s→K ⟨(d,.slice (some ⟨b',0,none⟩) (n+m) cap') :: T,.blk b' ⟨true,(xs++news)++rest',e,(0,0)⟩ :: H0⟩):KAQ P C ⟨some d,.call { callee:=.builtin .append,args:=#[x,y],argTypes:=#[t,t] },ty,pos,aft,g⟩ ⟨T,H⟩ K :=
  LStepW.appendSM (cs:=news) (more:=[]) hx hy ht hi hz0 hp hm (List.append_nil _).symm hxl hcl hml ho hn hn2 hd h
theorem KCX {s : Nat} {T : List (Nat × Value)} {H : List Item} {a0 c0 m bytes : Nat} {zv : Value} {news : List Value} {wr : Bool} {ea : TypeId} {fz : Nat × Nat} {g : Option (Nat × Bool)} (hx : evT T x = some (.slice none 0 0)) (hy : evT T y = some (.slice (some ⟨a0, 0, none⟩) m c0))
    (ht:P.underlying t = some (.slice e)) (hi:infOf P e = some (zv,s,bytes)) (hz0:zv.cells.size = s) (hm:Item.blk a0 ⟨wr,news,ea,fz⟩∈H) (hml:news.length = m*s) (h0:0<m)
    (hn:m*bytes≤140737488355328) (hn2:m≤1000000000) (hd:d<C.N)
    (h:∀ b' cap' rest',news.length+rest'.length = cap'*s→K ⟨(d,.slice (some ⟨b',0,none⟩) m cap') :: T,.blk b' ⟨true,news++rest',e,(0,0)⟩ :: H⟩):KAQ P C ⟨some d,.call { callee:=.builtin .append,args:=#[x,y],argTypes:=#[t,t] },ty,pos,aft,g⟩ ⟨T,H⟩ K:=by
  unfold KAQ
  intro a w hr Qr
  obtain ⟨i,hi1,hi3,hi2,hi4⟩:=inf_spec hi
  have ha:w.heap[a0]? = some (.cells news.toArray ea fz):=hr.hp _ hm
  have hnews:∀ j u,news[j]? = some u→w.cell? ((⟨a0,0,none⟩:Addr).add j) = some u:=fun j u hj=>by
    have hadd:(⟨a0,0,none⟩:Addr).add j = ⟨a0,0+j,none⟩:=by unfold Addr.add; split <;> simp_all
    rw [hadd,cellOf ha,Nat.zero_add]; exact hj
  unfold Oper.wp
  have hrr:=run_append_nil (P:=P) w t ty e i zv ht hi1 hi3 ⟨a0,0,none⟩ m c0 news (by rw [hi2]; exact hml) hnews h0 om (by rw [hi4]; omega)
  rw [KCU (hr.ev hx) (hr.ev hy) hrr]
  have hge:=grownCap_ge w m 0 e
  have hK:=h w.heap.size (grownCap w m 0 e) (Builtin.zeroCells zv.cells (grownCap w m 0 e-m)).toList (by
    have hzz:=size_zeroCells zv.cells (grownCap w m 0 e-m)
    rw [hz0] at hzz
    rw [← Array.length_toList,Nat.sub_mul] at hzz
    have hs2:=Nat.mul_le_mul_right s hge
    omega)
  refine ⟨_,hK,?_⟩
  have hal:=hr.drew.alloc (news++(Builtin.zeroCells zv.cells (grownCap w m 0 e-m)).toList) e
  have hcs:(news++(Builtin.zeroCells zv.cells (grownCap w m 0 e-m)).toList).toArray = news.toArray++Builtin.zeroCells zv.cells (grownCap w m 0 e-m):=by
    apply Array.ext'
    simp
  rw [hcs] at hal
  exact hal.put hd _
end
end Go.Proofs.YtnpeokiboiclfaaGreat
set_option linter.unusedVariables false
set_option linter.unusedSimpArgs false
set_option maxRecDepth 20000
namespace Go.Proofs.YtnpeokiboiclfaaGreat
open Go Go.RowKit
theorem inf_ev:infOf Tryz.prog 313 = some (.agg ([.int .i64 ((0:Nat):Int),.int .i64 ((0:Nat):Int)]:List Value).toArray,2,16):=kr
theorem fill_ev (k:Nat):fillL ((List.range 1).map fun i=>(i*2,2)) [Value.int .i64 ((0:Nat):Int),.int .i64 ((0:Nat):Int)] [(0,.agg ([.int .i64 ((2:Nat):Int),.int .i64 ((k:Nat):Int)]:List Value).toArray)] = some [.int .i64 ((2:Nat):Int),.int .i64 ((k:Nat):Int)]:=fillL_whole rfl rfl
theorem row_ev:((Array.range (1*2)).map fun i=>(Value.agg ([.int .i64 ((0:Nat):Int),.int .i64 ((0:Nat):Int)]:List Value).toArray).cells[i%(Value.agg ([.int .i64 ((0:Nat):Int),.int .i64 ((0:Nat):Int)]:List Value).toArray).cells.size]!) = ([.int .i64 ((0:Nat):Int),.int .i64 ((0:Nat):Int)]:List Value).toArray:=kr
theorem c_trNew  (w:World)  : Calls Tryz.prog 101 ([]:List Value).toArray w (fun e w'=>∃ v its,(∃ b,v = trV (some b)∧its = [trI (some b) none []])∧e = .returned v∧Brings w [] its w'):=by
  refine KV (N:=3) (rs:=[.tmp 0]) [] Tryz.func101 rfl Tryz.ntmps101 Tryz.results101 (Nb rfl) trivial rfl ?_
  refine KB (KA (oA (KC (KB (KA ?_)))));refine oP (Ka pl_224 zr_224 rfl rfl) (oS (mB (fun b2=>?_)));refine oA (KC (KM ?_))
  exact ⟨[_],.cons rfl .nil,fun a w' hr=>⟨_,_,⟨b2,rfl,rfl⟩,rfl,hr.fr.below,fun x hx=>by
    obtain rfl:x = _:=by simpa using hx
    exact trI_of ⟨hr.hp (.blk b2 ⟨true,[.slice none 0 0],224,(0,0)⟩) mM,rfl⟩,fun x hx k hk=>by
    obtain rfl:x = _:=by simpa using hx
    obtain rfl:k = b2:=by simpa [trI,trFp,Item.fp] using hk
    exact .inl (hr.new (B:=⟨true,_,_,_⟩) mM rfl),fun x hx _ k hk=>by
    obtain rfl:x = _:=by simpa using hx
    obtain rfl:k = b2:=by simpa [trI,trFp,Item.fp] using hk
    exact hr.new (B:=⟨true,_,_,_⟩) mM rfl,List.pairwise_singleton _ _⟩⟩
theorem c_trIndex0 (k:Nat) (w:World)  : CF Tryz.prog 183 [trV none,.int .i64 ((k:Nat):Int)] w (.int .i64 ((1:Nat):Int)):=by
  refine KV (N:=18) (rs:=[.tmp 4]) [] Tryz.func183 rfl Tryz.ntmps183 Tryz.results183 (Nb rfl) trivial rfl ?_
  refine KB (KA (oP (KO (v:=.int .i64 ((0:Nat):Int)) rfl) (KC (KB (KB (KA (oM ?_)))))));refine oP (KJ (KAR u86 rfl rfl) (show _ = Value.bool true from rfl)) (KC (KT rfl (KB (KA (oP (KO (v:=.int .i64 ((1:Nat):Int)) rfl) (KC (KM (eN (.cons rfl .nil) ?_))))))))
  rfl
theorem c_trIndex1 (b k:Nat) (w:World) (hb:trP (some b) none [] w):Calls Tryz.prog 183 ([trV (some b),.int .i64 ((k:Nat):Int)]:List Value).toArray w (fun e w'=>TrR w (some b) none [k] (.int .i64 ((0:Nat):Int)) e w'):=by
  refine calls_wM (N:=18) (rs:=[.tmp 4]) [.blk b ⟨true,[.slice none 0 0],224,(0,0)⟩] (fun j=>j∈trFp (some b) none) Tryz.func183 rfl Tryz.ntmps183 Tryz.results183 (Nb rfl) ⟨hb.1,trivial⟩ (List.pairwise_singleton _ _) (fun x hx _ j hj=>by
    obtain rfl:x = _:=by simpa using hx
    exact hj) ?_
  refine KB (KA (oP (KO (v:=.int .i64 ((0:Nat):Int)) rfl) (KC (KB (KB (KA (oM ?_)))))));refine oP (KJ (KAR u86 rfl rfl) (show _ = Value.bool false from rfl)) (KC (KH rfl (KN (KB (KA (oM (oM ?_)))))));refine oP (KG rfl) (oP (KD (o':=0) u224 rfl rfl rfl sz_222 dc) (oD (dL rfl (hv:=KI u222 rfl gL)) ?_));refine oM ?_;refine oP (KJ (Ka pl_313 zr_313 rfl rfl) (show _ = Value.agg ([.int .i64 ((2:Nat):Int),.int .i64 ((k:Nat):Int)]:List Value).toArray from rfl)) (oS (mk (KCA (vs:=[(0,.agg ([.int .i64 ((2:Nat):Int),.int .i64 ((k:Nat):Int)]:List Value).toArray)]) u222 inf_ev dc row_ev rfl (fill_ev k) (fun h=>by cases h)) (fun b14=>?_)));refine LOps.step rfl (KCX (s:=2) (news:=[.int .i64 ((2:Nat):Int),.int .i64 ((k:Nat):Int)]) rfl rfl u222 inf_ev rfl mM rfl dc dc dc (Nb rfl) ?_)
  intro b1 cap1 rest1 hc1
  refine oP (KG rfl) (oP (KD (o':=0) u224 rfl rfl rfl sz_222 dc) (LOps.step rfl (KW rfl rfl rfl sz_222 mT lT sT (by simp) ?_)));refine KC (KB (KA (oP (KO (v:=.int .i64 ((0:Nat):Int)) rfl) (KC (KM (⟨[_],.cons rfl .nil,fun a w' hr=>?_⟩))))))
  have g1:=hr.hp (Item.blk b ⟨true,[.slice (some ⟨b1,0,none⟩) 1 cap1],224,(0,0)⟩) mM
  have g2:=hr.hp (Item.blk b1 ⟨true,[.int .i64 ((2:Nat):Int),.int .i64 ((k:Nat):Int)]++rest1,313,(0,0)⟩) mM
  have o1:=hr.own (Item.blk b ⟨true,[.slice (some ⟨b1,0,none⟩) 1 cap1],224,(0,0)⟩) mM rfl
  have o2:=hr.own (Item.blk b1 ⟨true,[.int .i64 ((2:Nat):Int),.int .i64 ((k:Nat):Int)]++rest1,313,(0,0)⟩) mM rfl
  have hap:b1≠b:=apart_two hr.dist (b:=b) (B:=⟨true,[.slice (some ⟨b1,0,none⟩) 1 cap1],224,(0,0)⟩) (c:=b1) (D:=⟨true,[.int .i64 ((2:Nat):Int),.int .i64 ((k:Nat):Int)]++rest1,313,(0,0)⟩) mM mM rfl (fun e=>absurd (show (224:Nat) = 313 from e) dc)
  exact ⟨some (b1,cap1,rest1),rfl,trI_of ⟨g1,g2,hc1,hap⟩,fun j hj=>(by
    have hj':j = b∨j = b1:=by simpa [trFp] using hj
    rcases hj' with rfl|rfl
    · exact o1 j (.head _)
    · exact o2 j (.head _)),hr.fr⟩
theorem c_trIndex2 (b r cap:Nat) (rest:List Value) (l:List Nat) (k:Nat) (w:World) (hb:trP (some b) (some (r,cap,rest)) l w) (hl:l.length≤100000000):Calls Tryz.prog 183 ([trV (some b),.int .i64 ((k:Nat):Int)]:List Value).toArray w (fun e w'=>TrR w (some b) (some (r,cap,rest)) (l++[k]) (.int .i64 ((0:Nat):Int)) e w'):=by
  refine calls_wM (N:=18) (rs:=[.tmp 4]) [.blk b ⟨true,[.slice (some ⟨r,0,none⟩) l.length cap],224,(0,0)⟩,.blk r ⟨true,evsL l++rest,313,(0,0)⟩] (fun j=>j∈trFp (some b) (some (r,cap,rest))) Tryz.func183 rfl Tryz.ntmps183 Tryz.results183 (Nb rfl) ⟨hb.1,hb.2.1,trivial⟩ (List.pairwise_cons.2 ⟨fun y hy _ j hj hj'=>by
    obtain rfl:y = _:=by simpa using hy
    obtain rfl:j = b:=by simpa [Item.fp] using hj
    exact hb.2.2.2 (by simpa [Item.fp] using hj':j = r).symm,List.pairwise_singleton _ _⟩) (fun x hx _ j hj=>by
    rcases List.mem_cons.1 hx with rfl|hx
    · obtain rfl:j = b:=by simpa [Item.fp] using hj
      exact .head _
    · obtain rfl:x = _:=by simpa using hx
      obtain rfl:j = r:=by simpa [Item.fp] using hj
      exact .tail _ (.head _)) ?_
  refine KB (KA (oP (KO (v:=.int .i64 ((0:Nat):Int)) rfl) (KC (KB (KB (KA (oM ?_)))))));refine oP (KJ (KAR u86 rfl rfl) (show _ = Value.bool false from rfl)) (KC (KH rfl (KN (KB (KA (oM (oM ?_)))))));refine oP (KG rfl) (oP (KD (o':=0) u224 rfl rfl rfl sz_222 dc) (oD (dL rfl (hv:=KI u222 rfl gL)) ?_));refine oM ?_;refine oP (KJ (Ka pl_313 zr_313 rfl rfl) (show _ = Value.agg ([.int .i64 ((2:Nat):Int),.int .i64 ((k:Nat):Int)]:List Value).toArray from rfl)) (oS (mk (KCA (vs:=[(0,.agg ([.int .i64 ((2:Nat):Int),.int .i64 ((k:Nat):Int)]:List Value).toArray)]) u222 inf_ev dc row_ev rfl (fill_ev k) (fun h=>by cases h)) (fun b14=>?_)));refine LOps.step rfl (KDJ (s:=2) (m:=1) (xs:=evsL l) (rest:=rest) (news:=[.int .i64 ((2:Nat):Int),.int .i64 ((k:Nat):Int)]) rfl rfl u222 inf_ev rfl mP mM (evsL_length l) (by have:=hb.2.2.1; exact this) rfl (Kl rfl (Kl rfl Ku)) om om (Nb rfl) ?_)
  intro b1 cap1 rest1 hc1
  refine oP (KG rfl) (oP (KD (o':=0) u224 rfl rfl rfl sz_222 dc) (LOps.step rfl (KW rfl rfl rfl sz_222 mT lT sT (by simp) ?_)));refine KC (KB (KA (oP (KO (v:=.int .i64 ((0:Nat):Int)) rfl) (KC (KM ?_)))))
  have hc2:(evsL (l++[k])).length+rest1.length = cap1*2:=by rw [evsL_snoc,List.length_append]; exact hc1
  have hsl:(l++[k]).length = l.length+1:=by simp
  refine ⟨[_],.cons rfl .nil,fun a w' hr=>?_⟩
  have g1:=hr.hp (Item.blk b ⟨true,[.slice (some ⟨b1,0,none⟩) (l.length+1) cap1],224,(0,0)⟩) mM
  have g2:=hr.hp (Item.blk b1 ⟨true,(evsL l++[.int .i64 ((2:Nat):Int),.int .i64 ((k:Nat):Int)])++rest1,313,(0,0)⟩) mM
  have o1:=hr.own (Item.blk b ⟨true,[.slice (some ⟨b1,0,none⟩) (l.length+1) cap1],224,(0,0)⟩) mM rfl
  have o2:=hr.own (Item.blk b1 ⟨true,(evsL l++[.int .i64 ((2:Nat):Int),.int .i64 ((k:Nat):Int)])++rest1,313,(0,0)⟩) mM rfl
  have hap:b1≠b:=apart_two hr.dist (b:=b) (B:=⟨true,[.slice (some ⟨b1,0,none⟩) (l.length+1) cap1],224,(0,0)⟩) (c:=b1) (D:=⟨true,(evsL l++[.int .i64 ((2:Nat):Int),.int .i64 ((k:Nat):Int)])++rest1,313,(0,0)⟩) mM mM rfl (fun e=>absurd (show (224:Nat) = 313 from e) dc)
  rw [← evsL_snoc] at g2
  rw [← hsl] at g1
  exact ⟨some (b1,cap1,rest1),rfl,trI_of ⟨g1,g2,hc2,hap⟩,fun j hj=>(by
    have hj':j = b∨j = b1:=by simpa [trFp] using hj
    rcases hj' with rfl|rfl
    · exact o1 j (.head _)
    · exact o2 j (.head _)),hr.fr⟩
def trE (b:Option Nat):Int:=match b with
  | none=>1
  | some _=>0
theorem c_trIndex (b:Option Nat) (r:TrRow) (l:List Nat) (k:Nat) (w:World) (h:(trI b r l).holds w) (hl:l.length≤100000000):Calls Tryz.prog 183 ([trV b,.int .i64 ((k:Nat):Int)]:List Value).toArray w (TrR w b r (l++[k]) (.int .i64 (trE b))):=by
  rcases b with _|b
  · exact (c_trIndex0 k w).mono fun e w' ⟨h1,h2⟩=>TrR.same (trI_of trivial) h1 h2
  · have hp:=trI_P h
    rcases r with _|⟨r,cap,rest⟩
    · obtain rfl:=hp.2
      exact c_trIndex1 b k w hp
    · exact c_trIndex2 b r cap rest l k w hp hl
theorem neg64 {x:Nat} (h0:x≠0) (hx:x<18446744073709551616):Value.int .u64 (IntKind.u64.wrap (0-(x:Int))) = .int .u64 ((18446744073709551616-x:Nat):Int):=by
  rw [KDE,show (0-(x:Int))%18446744073709551616 = ((18446744073709551616-x:Nat):Int) by omega]
theorem cpl64 {y:Nat} (hy:y<18446744073709551616):Value.int .u64 (IntKind.u64.wrap (BitVec.ofInt IntKind.u64.bits IntKind.u64.max ^^^ BitVec.ofInt IntKind.u64.bits (y:Int)).toNat) = .int .u64 ((18446744073709551615-y:Nat):Int):=by
  have e3:(BitVec.ofInt IntKind.u64.bits IntKind.u64.max ^^^ BitVec.ofInt IntKind.u64.bits (y:Int)).toNat = 18446744073709551615-y:=by
    show (BitVec.ofInt 64 18446744073709551615 ^^^ BitVec.ofInt 64 (y:Int)).toNat = _
    rw [show BitVec.ofInt 64 18446744073709551615 = BitVec.allOnes 64 by decide,BitVec.ofInt_natCast,BitVec.allOnes_xor,BitVec.toNat_not,BitVec.toNat_ofNat,Nat.mod_eq_of_lt (show y<2^64 from hy)]
  rw [e3,KAP,Nat.mod_eq_of_lt om]
theorem or_top {x:Nat} (h0:x≠0) (hx:x<18446744073709551616):9223372036854775808≤x ||| (18446744073709551616-x):=by
  have h1:=(Nat.left_le_or:x≤x ||| (18446744073709551616-x))
  have h2:=(Nat.right_le_or:18446744073709551616-x≤x ||| (18446744073709551616-x))
  omega
theorem xor_zero {a b:Nat}:a ^^^ b = 0↔a = b:=by
  constructor
  · intro h
    have:=congrArg (· ^^^ b) h
    simpa [Nat.xor_assoc] using this
  · rintro rfl; exact Nat.xor_self _
theorem c_spread (b:Nat) (w:World) (hb:b≤1):CF Tryz.prog 224 [.int .u64 ((b:Nat):Int)] w (.int .u64 ((if b = 0 then 0 else 18446744073709551615:Nat):Int)):=by
  refine KV (N:=6) (rs:=[.tmp 2]) [] Tryz.func224 rfl Tryz.ntmps224 Tryz.results224 (Nb rfl) trivial rfl ?_
  refine KB (KA (oP (KO (v:=.int .u64 ((0:Nat):Int)) rfl) (KC (KB ?_))))
  rcases (show b = 0∨b = 1 by omega) with rfl|rfl
  ·
   refine KA (oM ?_);refine oP (KF rfl rfl (KBJ (b:=1) dc dc)) (oP (Det.neg rfl) (oA (KC (KM ?_))));refine eN (.cons rfl .nil) ?_
   rfl
  refine KA (oM ?_);refine oP (KF rfl rfl (KBJ (b:=1) dc dc)) (oP (Det.neg rfl) (oA (KC (KM ?_))));refine eN (.cons rfl .nil) ?_
  rfl
theorem c_mZero (x:Nat) (w:World) (hx:x<18446744073709551616):CF Tryz.prog 207 [.int .u64 ((x:Nat):Int)] w (.int .u64 ((if x = 0 then 18446744073709551615 else 0:Nat):Int)):=by
  refine KV (N:=10) (rs:=[.tmp 2]) [] Tryz.func207 rfl Tryz.ntmps207 Tryz.results207 (Nb rfl) trivial rfl ?_
  refine KB (KA (oP (KO (v:=.int .u64 ((0:Nat):Int)) rfl) (KC (KB ?_))))
  by_cases h0:x = 0
  ·
   subst h0
   refine KA (oM (oM ?_));refine oP (Det.neg rfl) (oP (KF rfl rfl (KCP (b:=0) dc dc)) (oP (Det.cpl rfl rfl) (oP (KF (v:=.int .u64 ((1:Nat):Int)) rfl rfl kr) (oS (cF rfl en_224 rfl (fun w hw=>c_spread 1 w dc) ?_)))));refine oA (KC (KM ?_));refine ⟨[_],.cons rfl .nil,fun a w' hr=>⟨rfl,hr.fr.below⟩⟩
  have ht:=or_top h0 hx
  have hlt:x ||| (18446744073709551616-x)<18446744073709551616:=Nat.or_lt_two_pow (n:=64) hx om
  refine KA (oM (oM ?_));refine oP (KJ (Det.neg rfl) (neg64 h0 hx)) (oP (KF rfl rfl (KCP hx om)) (oP (KJ (Det.cpl rfl rfl) (cpl64 hlt)) (oP (KJ (KF rfl rfl (KAg (b:=63) om)) (vi (b:=0) (Nat.div_eq_of_lt om))) (oS (cF rfl en_224 rfl (fun w hw=>c_spread 0 w dc) ?_)))));refine oA (KC (KM ?_));refine eN (.cons rfl .nil) ?_
  rw [if_neg h0]
  rfl
theorem c_mEqual (a b:Nat) (w:World) (ha:a<18446744073709551616) (hb:b<18446744073709551616):CF Tryz.prog 184 [.int .u64 ((a:Nat):Int),.int .u64 ((b:Nat):Int)] w (.int .u64 ((if a = b then 18446744073709551615 else 0:Nat):Int)):=by
  refine KV (N:=9) (rs:=[.tmp 4]) [] Tryz.func184 rfl Tryz.ntmps184 Tryz.results184 (Nb rfl) trivial rfl ?_
  refine KB (KA (oP (KO (v:=.int .u64 ((0:Nat):Int)) rfl) (KC (KB (KA (oM (oM ?_)))))));refine oP (KF rfl rfl (br_xor64 ha hb)) (oS (cF rfl en_207 rfl (fun w hw=>c_mZero (a ^^^ b) w (Nat.xor_lt_two_pow (n:=64) ha hb)) ?_));refine oA (KC (KM ?_));refine ⟨[_],.cons rfl .nil,fun a_ w' hr=>⟨?_,hr.fr.below⟩⟩
  show Ending.returned (.int .u64 ((if a ^^^ b = 0 then 18446744073709551615 else 0:Nat):Int)) = _
  by_cases h:a = b
  · rw [if_pos h,if_pos (xor_zero.2 h)]
  · rw [if_neg h,if_neg (fun e=>h (xor_zero.1 e))]
theorem andNot_0 {b:Nat} (hb:b<18446744073709551616):Ko .andNot .u64 (b:Int) .u64 ((0:Nat):Int) = some (.int .u64 (b:Int)):=by
  simp only [Ko,if_true]
  have e:(BitVec.ofInt 64 (b:Int) &&& ~~~BitVec.ofInt 64 0).toNat = b:=by
    rw [show ~~~BitVec.ofInt 64 0 = BitVec.allOnes 64 by decide,BitVec.and_allOnes,BitVec.ofInt_natCast,BitVec.toNat_ofNat,Nat.mod_eq_of_lt (show b<2^64 from hb)]
  show some (Value.int .u64 (IntKind.u64.wrap ((BitVec.ofInt 64 (b:Int) &&& ~~~BitVec.ofInt 64 0).toNat:Int))) = _
  rw [e,KAP,Nat.mod_eq_of_lt hb]
theorem andNot_m {b:Nat}:Ko .andNot .u64 (b:Int) .u64 ((18446744073709551615:Nat):Int) = some (.int .u64 ((0:Nat):Int)):=by
  simp only [Ko,if_true]
  have e:(BitVec.ofInt 64 (b:Int) &&& ~~~BitVec.ofInt 64 18446744073709551615).toNat = 0:=by
    rw [show ~~~BitVec.ofInt 64 18446744073709551615 = 0#64 by decide,BitVec.and_zero]; rfl
  show some (Value.int .u64 (IntKind.u64.wrap ((BitVec.ofInt 64 (b:Int) &&& ~~~BitVec.ofInt 64 18446744073709551615).toNat:Int))) = _
  rw [e]; rfl
theorem and_max {a:Nat} (ha:a<18446744073709551616):a &&& 18446744073709551615 = a:=by
  rw [show 18446744073709551615 = 2^64-1 from rfl,Nat.and_two_pow_sub_one_eq_mod]
  exact Nat.mod_eq_of_lt ha
theorem c_word (m a b:Nat) (w:World) (hm:m = 0∨m = 18446744073709551615) (ha:a<18446744073709551616) (hb:b<18446744073709551616):CF Tryz.prog 209 [.agg ([.int .u64 ((m:Nat):Int)]:List Value).toArray,.int .u64 ((a:Nat):Int),.int .u64 ((b:Nat):Int)] w (.int .u64 ((if m = 0 then b else a:Nat):Int)):=by
  refine KV (N:=16) (rs:=[.tmp 6]) [] Tryz.func209 rfl Tryz.ntmps209 Tryz.results209 (Nb rfl) trivial rfl ?_
  refine KB (KA (oS (mB (fun b3=>?_))));refine oP (KO (v:=.int .u64 ((0:Nat):Int)) rfl) (KC (KB ?_))
  rcases hm with rfl|rfl
  ·
   refine KA (oM ?_);refine oP (KD (o':=0) u317 rfl rfl rfl sz_30 dc) (oD (dL rfl (hv:=KI u30 rfl gL)) ?_);refine oP (KJ (KF rfl rfl (KBJ (b:=0) ha dc)) (vi (b:=0) (Nat.and_zero _))) (oM ?_);refine oP (KD (o':=0) u317 rfl rfl rfl sz_30 dc) (oD (dL rfl (hv:=KI u30 rfl gL)) ?_);refine oP (KF rfl rfl (andNot_0 hb)) (oP (KJ (KF rfl rfl (KCP (a:=0) dc hb)) (vi (b:=b) (Nat.zero_or _))) (oA (KC (KM ?_))));refine eN (.cons rfl .nil) ?_
   rfl
  refine KA (oM ?_);refine oP (KD (o':=0) u317 rfl rfl rfl sz_30 dc) (oD (dL rfl (hv:=KI u30 rfl gL)) ?_);refine oP (KJ (KF rfl rfl (KBJ (b:=18446744073709551615) ha dc)) (vi (b:=a) (and_max ha))) (oM ?_);refine oP (KD (o':=0) u317 rfl rfl rfl sz_30 dc) (oD (dL rfl (hv:=KI u30 rfl gL)) ?_);refine oP (KF rfl rfl andNot_m) (oP (KJ (KF rfl rfl (KCP (b:=0) ha dc)) (vi (b:=a) (Nat.or_zero _))) (oA (KC (KM ?_))));refine eN (.cons rfl .nil) ?_
  rfl
theorem c_wordL (m A B R x:Nat) (w:World) (hm:m = 0∨m = 18446744073709551615) (hR:R = if m = 0 then B else A):CF Tryz.prog 209 [.agg ([.int .u64 ((m:Nat):Int)]:List Value).toArray,.int .u64 ((limb A x:Nat):Int),.int .u64 ((limb B x:Nat):Int)] w (.int .u64 ((limb R x:Nat):Int)):=by
  have h:=c_word m (limb A x) (limb B x) w hm (limb_lt _ _) (limb_lt _ _)
  rw [show limb R x = if m = 0 then limb B x else limb A x by rw [hR]; split <;> rfl]
  exact h
theorem mix_get {R A x:Nat} (h:x<9):(vec .u64 9 (fun k=>if k<x then limb R k else limb A k))[x]? = some (.int .u64 ((limb A x:Nat):Int)):=by
  rw [Kh _ _ _ h,if_neg (Nat.lt_irrefl x)]
theorem mix_step (R A x:Nat):vec .u64 9 (fun j=>if j = x then limb R x else (if j<x then limb R j else limb A j)) = vec .u64 9 (fun k=>if k<x+1 then limb R k else limb A k):=Km fun k _=>by
  by_cases e:k = x
  · subst e; rw [if_pos rfl,if_pos (Nat.lt_succ_self _)]
  · rw [if_neg e]
    by_cases l:k<x
    · rw [if_pos l,if_pos om]
    · rw [if_neg l,if_neg om]
theorem c_mNat (m A B R:Nat) (w:World) (hm:m = 0∨m = 18446744073709551615) (hR:R = if m = 0 then B else A):CF Tryz.prog 208 [.func (.func 209) #[.agg ([.int .u64 ((m:Nat):Int)]:List Value).toArray] #[],natV A,natV B] w (natV R):=by
  refine KV (N:=26) (rs:=[.cell 6 33]) [] Tryz.func208 rfl Tryz.ntmps208 Tryz.results208 (Nb rfl) trivial rfl ?_
  refine KB (KA (oS (mB (fun b4=>?_))));refine oS (mB (fun b5=>?_));refine oS (mk (KK zr_33) (fun b6=>?_));refine KC (KB (KB (KA (oP (Kd (v:=.int .i64 ((0:Nat):Int)) rfl) (KC (LCode.block (Kc (α:=Nat) (fun x=>x≤9) (fun x=>⟨[(0,.func (.func 209) #[.agg ([.int .u64 ((m:Nat):Int)]:List Value).toArray] #[]),(4,.pointer (some ⟨b4,0,none⟩)),(5,.pointer (some ⟨b5,0,none⟩)),(6,.pointer (some ⟨b6,0,none⟩)),(8,.int .i64 ((x:Nat):Int))],[.blk b6 ⟨true,vec .u64 9 (fun _=>0),33,(0,0)⟩,.blk b5 ⟨true,natL B,33,(0,0)⟩,.blk b4 ⟨true,vec .u64 9 (fun k=>if k<x then limb R k else limb A k),33,(0,0)⟩]⟩) (fun x=>9-x) (0) (Nat.zero_le _) (KAB (Sub.cells (b:=b4) (cs':=vec .u64 9 (fun k=>if k<0 then limb R k else limb A k)) mT (Km fun k _=>(if_neg (Nat.not_lt_zero k)).symm)) (KY ⟨rfl,rfl,rfl,rfl,rfl,trivial⟩ mS)) ?_)))))))
  intro x hx
  refine KB (KA (oP (KF rfl rfl (Kr (b:=9))) (KC (KB ?_))))
  first|refine KQ rfl (fun h9=>?_) (fun h9=>?_)|refine KR rfl (fun h9=>?_) (fun h9=>?_)
  ·
   have h9:x<9:=h9
   refine KN (KB (LCode.block (KB (KA (oM (oA (KC (rD [13] ?_))))))));refine aM 0 ?_;refine aM 1 ?_;refine aM 2 ?_;refine aP 3 rfl (KD (o':=0) u33 rfl rfl rfl sz_31 dc) (aP 4 rfl (KP u31 sz_30 rfl rfl om) (aD 5 rfl (dL rfl (hv:=KI u30 rfl (by exact mix_get om))) ?_));refine aM 6 ?_;refine aP 7 rfl (KD (o':=0) u33 rfl rfl rfl sz_31 dc) (aP 8 rfl (KP u31 sz_30 rfl rfl om) (aD 9 rfl (dL rfl (hv:=KI u30 rfl gL)) ?_));refine aP 11 rfl (KD (o':=0) u33 rfl rfl rfl sz_31 dc) (aO 10 rfl (Kw (first:=[.agg ([.int .u64 ((m:Nat):Int)]:List Value).toArray]) rfl en_209 rfl (Nb rfl) (fun w hw=>c_wordL m A B R x w hm hR) ?_));refine aP 12 rfl (KP u31 sz_30 rfl rfl om) (aL 13 rfl (KW rfl rfl rfl sz_30 mT lT sT (by simp) ?_));refine aE (KA (oP (KF rfl rfl (Kj (b:=1) om)) (oM (KC ?_))));refine ⟨x+1,by omega,by omega,KAB (Sub.cells (b:=b4) (cs':=vec .u64 9 (fun k=>if k<x+1 then limb R k else limb A k)) mT (mix_step R A x)) (KY ⟨rfl,rfl,rfl,rfl,rfl,trivial⟩ mS)⟩
  have h9:¬ x<9:=h9
  refine KZ (KB ?_)
  obtain rfl:x = 9:=by omega
  refine LCode.sub (Sub.cells (b:=b4) (cs':=natL R) mT (Km fun k hk=>by rw [if_pos hk])) ?_;refine KA (oD dNa ?_);refine LOps.step rfl (sA rfl rfl sz_33 mO (hl:=mL) (h:=?_));refine KC (KM (eN (.cons ⟨_,_,_,rfl,mM,by exact KE u33 rfl sz_33⟩ .nil) ?_))
  rfl
theorem c_mSelect (m A B R:Nat) (w:World) (hm:m = 0∨m = 18446744073709551615) (hR:R = if m = 0 then B else A):CF Tryz.prog 185 [.int .u64 ((m:Nat):Int),natV A,natV B] w (natV R):=by
  refine KV (N:=13) (rs:=[.cell 6 33]) [] Tryz.func185 rfl Tryz.ntmps185 Tryz.results185 (Nb rfl) trivial rfl ?_
  refine KB (KA (oS (mB (fun b4=>?_))));refine oS (mB (fun b5=>?_));refine oS (mk (KK zr_33) (fun b6=>?_));refine KC (KB (KA (oM ?_)));refine oP (KJ (Ka pl_317 zr_317 rfl rfl) (show _ = Value.agg ([.int .u64 ((m:Nat):Int)]:List Value).toArray from rfl)) (oP (Kq rfl) (oD dNa ?_));refine oD dNa ?_;refine oS (cF rfl en_208 rfl (fun w hw=>c_mNat m A B R w hm hR) ?_);refine LOps.step rfl (sA rfl rfl sz_33 mO (hl:=mL) (h:=?_));refine KC (KM (eN (.cons ⟨_,_,_,rfl,mM,by exact KE u33 rfl sz_33⟩ .nil) ?_))
  rfl
end Go.Proofs.YtnpeokiboiclfaaGreat
set_option linter.unusedVariables false
set_option linter.unusedSimpArgs false
set_option maxRecDepth 20000
namespace Go.Proofs.YtnpeokiboiclfaaGreat
open Go Go.RowKit
open Grp
section
variable {P:Program} {C:Ctx} {d:Nat} {ty:TypeId} {pos:String} {aft:Array Edge} {K:St→Prop} {x:Operand} {v:Value}
theorem LStep.callK {T : List (Nat × Value)} {H : List Item} {f : FuncId} {xs : List Operand} {vs caps : List Value} {ats : Array TypeId} {g : Option (Nat × Bool)} (hf : evT T x = some (.func (.func f) #[] caps.toArray)) (he : KX P f) (ha : evL T xs = some vs) (hd : d < C.N)
    (hc:∀ w,(∀ x,x∈H→x.holds w)→Calls P f (vs++caps).toArray w (fun e w'=>e = .returned v∧Below w.heap.size w w'))
    (h:K ⟨(d,v) :: T,H⟩):LStep P C ⟨some d,.call { callee:=.value x,args:=xs.toArray,argTypes:=ats },ty,pos,aft,g⟩ ⟨T,H⟩ K:=by
  unfold LStep; intro a w hr Qr
  obtain ⟨fn,h1,h2,h3⟩:=he
  refine wp_callee (vs:=vs++caps) ?_ (hc w hr.hp) ?_
  · have:=hr.evs ha
    simp [execOp,resolve,hr.ev hf,Deferred.ofValue,invoke,run_call h1 h2 h3,this]
  · rintro e w' ⟨rfl,hb⟩
    exact ⟨v,rfl,hb,_,h,(hr.below hb).put hd v⟩
end
theorem c_slope (V:Cv) (b f bd:Nat) (hok:V.Ok) (l x1 y1 x2 y2:Fin V.p) (i j:Bool) (w:World) (hb:(Item.blk b ⟨false,opL V f,100,(0,0)⟩).holds w) (hf:(Item.blk f ⟨false,fldL V.p bd,165,(0,0)⟩).holds w) (hbd:(Item.blk bd ⟨false,dvL V.p,269,(0,0)⟩).holds w):CF Tryz.prog 236 [.agg ([.pointer (some ⟨b,0,none⟩)]:List Value).toArray,natV l.val,ptV x1.val y1.val i,ptV x2.val y2.val j] w (ptV (l*l-x1-x2).val (l*(x1-(l*l-x1-x2))-y1).val false):=by
  have hbb:=hok.bounds
  have hpW:V.p<W9:=KAF hbb.2.1
  refine KV (N:=42) (rs:=[.cell 8 47]) [.blk b ⟨false,opL V f,100,(0,0)⟩,.blk f ⟨false,fldL V.p bd,165,(0,0)⟩,.blk bd ⟨false,dvL V.p,269,(0,0)⟩] Tryz.func236 rfl Tryz.ntmps236 Tryz.results236 (Nb rfl) ⟨hb,hf,hbd,trivial⟩ rfl ?_
  refine KB (KA (oS (mB (fun b4=>?_))));refine oS (mB (fun b5=>?_));refine oS (mB (fun b6=>?_));refine oS (mB (fun b7=>?_));refine oS (mk (KK zr_47) (fun b8=>?_));refine KC (KB (KA (oP (KD (o':=0) u132 rfl rfl rfl sz_81 dc) (oD (dL rfl (hv:=KI u81 rfl gL)) ?_))));refine oP (KG rfl) (oP (KD (o':=59) u100 rfl rfl rfl sz_98 dc) (oD (dL rfl (hv:=KI u98 rfl (by exact KBP _ _ _ _ _ _ _ _ _ _ _ _ _))) ?_));refine oA (KC (KB (rD [13] ?_)));refine aM 0 ?_;refine aM 1 ?_;refine aM 2 ?_;refine aD 3 rfl dNa ?_;refine aD 4 rfl dNa ?_;refine aP 6 rfl (KD (o':=0) u47 rfl rfl rfl sz_33 dc) (aD 7 rfl (dL rfl (hv:=by exact Kf u33 rfl sz_33 rfl (KL _))) ?_);refine aP 9 rfl (KD (o':=0) u47 rfl rfl rfl sz_33 dc) (aD 10 rfl (dL rfl (hv:=by exact Kf u33 rfl sz_33 rfl (KL _))) ?_)
  refine KAh ?_;refine Ks 12 rfl (.inl zr_33) (Nb rfl) rfl rfl rfl ?_;refine LAnyP.step 5 rfl rfl rfl (Nb rfl) kr rfl (Ki (first:=[]) rfl en_97 rfl (fun w hw=>KAm V hok f bd _ _ w (mC hw) (mC hw))) ?_
  rintro _ _ ⟨rfl,rfl⟩
  refine LAnyP.step 8 rfl rfl rfl (Nb rfl) kr rfl (Ki (first:=[]) rfl en_120 rfl (fun w hw=>KCm V hok f bd _ _ w (mC hw))) ?_
  rintro _ _ ⟨rfl,rfl⟩
  refine LAnyP.step 11 rfl rfl rfl (Nb rfl) kr rfl (Ki (first:=[]) rfl en_120 rfl (fun w hw=>KCm V hok f bd _ _ w (mC hw))) ?_
  rintro _ _ ⟨rfl,rfl⟩
  refine pE (fun b10=>?_);refine KAD ?_;refine aL 13 rfl (sA rfl rfl sz_33 mO (hl:=mL) (h:=?_));refine aE (KB (rD [14] (aD 0 rfl dNa ?_)));refine aM 1 ?_;refine aM 2 ?_;refine aD 3 rfl dNa ?_;refine aM 4 ?_;refine aP 5 rfl (KD (o':=0) u47 rfl rfl rfl sz_33 dc) (aD 6 rfl (dL rfl (hv:=by exact Kf u33 rfl sz_33 rfl (KL _))) ?_);refine aD 7 rfl dNa ?_;refine aP 10 rfl (KD (o':=9) u47 rfl rfl rfl sz_33 dc) (aD 11 rfl (dL rfl (hv:=by exact KCR _ _ _ _ _ _)) ?_);refine aO 8 rfl (cF rfl en_120 rfl (fun w hw=>KCm V hok f bd _ _ w (mC hw)) ?_);refine aO 9 rfl (cF rfl en_97 rfl (fun w hw=>KAm V hok f bd _ _ w (mC hw) (mC hw)) ?_);refine aO 12 rfl (cF rfl en_120 rfl (fun w hw=>KCm V hok f bd _ _ w (mC hw)) ?_)
  refine aP 13 rfl (KJ (Ka pl_47 zr_47 rfl (fill_pt _ _)) rfl) (aL 14 rfl (sA rfl rfl sz_47 mO (hl:=mL) (h:=?_)));refine aE (KM (eN (.cons ⟨_,_,_,rfl,mM,by exact KE u47 rfl sz_47⟩ .nil) ?_))
  rfl
theorem c_gadd (V:Cv) (b f bd:Nat) (hok:V.Ok) (P P2 R:Pt V.p) (w:World) (hb:(Item.blk b ⟨false,opL V f,100,(0,0)⟩).holds w) (hf:(Item.blk f ⟨false,fldL V.p bd,165,(0,0)⟩).holds w) (hbd:(Item.blk bd ⟨false,dvL V.p,269,(0,0)⟩).holds w) (hP:On V.A V.B P) (hP2:On V.A V.B P2) (hR:padd V.A P P2 = R):CF Tryz.prog 235 [.agg ([.pointer (some ⟨b,0,none⟩)]:List Value).toArray,ptP P,ptP P2] w (ptP R):=by
  have hbb:=hok.bounds
  have hpW:V.p<W9:=KAF hbb.2.1
  refine KV (N:=96) (rs:=[.cell 6 47]) [.blk b ⟨false,opL V f,100,(0,0)⟩,.blk f ⟨false,fldL V.p bd,165,(0,0)⟩,.blk bd ⟨false,dvL V.p,269,(0,0)⟩] Tryz.func235 rfl Tryz.ntmps235 Tryz.results235 (Nb rfl) ⟨hb,hf,hbd,trivial⟩ rfl ?_
  refine KB (KA (oS (mB (fun b3=>?_))));refine oS (mB (fun b4=>?_));refine oS (mB (fun b5=>?_));refine oS (mk (KK zr_47) (fun b6=>?_));refine KC (KB ?_)
  rcases P with _|⟨x1,y1⟩
  ·
   have eR:=(hok.inf_add hP2).symm.trans hR
   subst eR
   refine KA (oP (KD (o':=0) u132 rfl rfl rfl sz_81 dc) (oD (dL rfl (hv:=KI u81 rfl gL)) ?_));refine oP (KG rfl) (oP (KD (o':=59) u100 rfl rfl rfl sz_98 dc) (oD (dL rfl (hv:=KI u98 rfl (by exact KBP _ _ _ _ _ _ _ _ _ _ _ _ _))) ?_));refine oA (KC (KB (LCode.block (KB (KA ?_)))));refine oP (KD (o':=18) u47 rfl rfl rfl sz_4 dc) (oD (dL rfl (hv:=KI u4 rfl (by exact pt_gt _ _ _))) ?_);refine oA (KC ?_);refine KT rfl (KB (KA (oD dNb ?_)));refine LOps.step rfl (sA rfl rfl sz_47 mO (hl:=mL) (h:=?_));refine KC (KM (eN (.cons ⟨_,_,_,rfl,mM,by exact KE u47 rfl sz_47⟩ .nil) ?_))
   rfl
  refine KA (oP (KD (o':=0) u132 rfl rfl rfl sz_81 dc) (oD (dL rfl (hv:=KI u81 rfl gL)) ?_));refine oP (KG rfl) (oP (KD (o':=59) u100 rfl rfl rfl sz_98 dc) (oD (dL rfl (hv:=KI u98 rfl (by exact KBP _ _ _ _ _ _ _ _ _ _ _ _ _))) ?_));refine oA (KC (KB (LCode.block (KB (KA ?_)))));refine oP (KD (o':=18) u47 rfl rfl rfl sz_4 dc) (oD (dL rfl (hv:=KI u4 rfl (by exact pt_gt _ _ _))) ?_);refine oA (KC ?_);refine KH rfl (KB ?_)
  rcases P2 with _|⟨x2,y2⟩
  ·
   have eR:=(hok.add_inf hP).symm.trans hR
   subst eR
   refine KA (oP (KD (o':=18) u47 rfl rfl rfl sz_4 dc) (oD (dL rfl (hv:=KI u4 rfl (by exact pt_gt _ _ _))) ?_));refine oA (KC ?_);refine KT rfl (KB (KA (oD dNb ?_)));refine LOps.step rfl (sA rfl rfl sz_47 mO (hl:=mL) (h:=?_));refine KC (KM (eN (.cons ⟨_,_,_,rfl,mM,by exact KE u47 rfl sz_47⟩ .nil) ?_))
   rfl
  refine KA (oP (KD (o':=18) u47 rfl rfl rfl sz_4 dc) (oD (dL rfl (hv:=KI u4 rfl (by exact pt_gt _ _ _))) ?_));refine oA (KC ?_);refine KH rfl (KB ?_)
  by_cases hx:x1 = x2
  ·
   refine KA (oP (KD (o':=0) u47 rfl rfl rfl sz_33 dc) (oD (dL rfl (hv:=by exact Kf u33 rfl sz_33 rfl (KL _))) ?_));refine oP (KD (o':=0) u47 rfl rfl rfl sz_33 dc) (oD (dL rfl (hv:=by exact Kf u33 rfl sz_33 rfl (KL _))) ?_);refine oP (KJ (KBv kr (fun w=>KBS x1.val x2.val (Nat.lt_trans x1.isLt hpW) (Nat.lt_trans x2.isLt hpW) 10000 dc w) rfl rfl) (show _ = Value.bool false by rw [decide_eq_true (congrArg Fin.val hx)]; rfl)) ?_;refine oA (KC ?_);refine KH rfl (KB ?_)
   by_cases hy:y1 = y2
   ·
    have hy0:¬ y1.val = 0:=y_pos hok hP
    refine KA (oP (KD (o':=9) u47 rfl rfl rfl sz_33 dc) (oD (dL rfl (hv:=by exact KCR _ _ _ _ _ _)) ?_));refine oP (KD (o':=9) u47 rfl rfl rfl sz_33 dc) (oD (dL rfl (hv:=by exact KCR _ _ _ _ _ _)) ?_);refine oP (KJ (KBv kr (fun w=>KBS y1.val y2.val (Nat.lt_trans y1.isLt hpW) (Nat.lt_trans y2.isLt hpW) 10000 dc w) rfl rfl) (show _ = Value.bool false by rw [decide_eq_true (congrArg Fin.val hy)]; rfl)) ?_;refine oM ?_;refine oGP (KD (o':=9) u47 rfl rfl rfl sz_33 dc) (Kz rfl rfl (dL rfl (hv:=by exact KCR _ _ _ _ _ _)) (Nb rfl) ?_);refine oGP (KJ (Ka pl_33 zr_33 rfl rfl) (show _ = natV 0 by unfold natV natL; rw [← vec_zeros 9])) ?_;refine oGP (KJ (KBw kr (fun w=>KBS y1.val 0 (Nat.lt_trans y1.isLt hpW) KBr 10000 dc w) rfl rfl) (show _ = Value.bool false by rw [decide_eq_false hy0])) (oP (KU rfl rfl) (oA (KC ?_)));refine KH rfl (KN (KB ?_))
    subst hx hy
    have eR:=(add_tangF hok.prime hok.fld hP (fin_ne0 hy0)).symm.trans hR
    subst eR
    refine KA (oM ?_);refine oP (KD (o':=0) u47 rfl rfl rfl sz_33 dc) (oD (dL rfl (hv:=by exact Kf u33 rfl sz_33 rfl (KL _))) ?_);refine oP (KD (o':=0) u47 rfl rfl rfl sz_33 dc) (oD (dL rfl (hv:=by exact Kf u33 rfl sz_33 rfl (KL _))) ?_);refine oS (cF rfl en_97 rfl (fun w hw=>KAm V hok f bd _ _ w (mC hw) (mC hw)) ?_);refine oS (mk (KK zr_33) (fun b8=>?_));refine LOps.step rfl (sA rfl rfl sz_33 mO (hl:=mL) (h:=?_));refine KC (KB (rD [29] (aD 0 rfl (dL rfl (hv:=by exact KE u132 rfl sz_132)) ?_)));refine aM 1 ?_;refine aM 2 ?_;refine aM 3 ?_;refine aM 4 ?_;refine aD 5 rfl dNa ?_;refine aD 6 rfl dNa ?_;refine aD 8 rfl dNa ?_;refine aP 10 rfl (KD (o':=0) u132 rfl rfl rfl sz_81 dc) (aD 11 rfl (dL rfl (hv:=KI u81 rfl gL)) ?_)
    refine aP 12 rfl (KG rfl) (aP 13 rfl (KD (o':=0) u100 rfl rfl rfl sz_53 dc) (aP 14 rfl (KD (o':=10) u53 rfl rfl rfl sz_33 dc) (aD 15 rfl (KAp (dL rfl (hv:=by exact cvC_ld_a _ _ _ _ _ _ _ _ _ _ _ _ _ _ _ _)) (a_val hok)) ?_)));refine aM 17 ?_;refine aM 18 ?_;refine aP 19 rfl (KD (o':=9) u47 rfl rfl rfl sz_33 dc) (aD 20 rfl (dL rfl (hv:=by exact KCR _ _ _ _ _ _)) ?_);refine aP 21 rfl (KD (o':=9) u47 rfl rfl rfl sz_33 dc) (aD 22 rfl (dL rfl (hv:=by exact KCR _ _ _ _ _ _)) ?_);refine aD 26 rfl dNb ?_;refine aD 27 rfl dNb ?_;refine aO 7 rfl (cF rfl en_82 rfl (fun w hw=>KBA V hok f bd _ _ w (mC hw)) ?_);refine aO 9 rfl (cF rfl en_82 rfl (fun w hw=>KBA V hok f bd _ _ w (mC hw)) ?_);refine aO 16 rfl (cF rfl en_82 rfl (fun w hw=>KBA V hok f bd _ _ w (mC hw)) ?_)
    refine aO 23 rfl (cF rfl en_82 rfl (fun w hw=>KBA V hok f bd _ _ w (mC hw)) ?_);refine aO 24 rfl (cF rfl en_121 rfl (fun w hw=>c_F_Inv V hok f bd _ w (mC hw)) ?_);refine aO 25 rfl (cF rfl en_97 rfl (fun w hw=>KAm V hok f bd _ _ w (mC hw) (mC hw)) ?_);refine aO 28 rfl (cF rfl en_236 rfl (fun w hw=>c_slope V b f bd hok ((x1*x1+x1*x1+x1*x1+V.A)*finv (y1+y1)) x1 y1 x1 y1 false false w (mC hw) (mC hw) (mC hw)) ?_);refine aL 29 rfl (sA rfl rfl sz_47 mO (hl:=mL) (h:=?_));refine aE (KM (eN (.cons ⟨_,_,_,rfl,mM,by exact KE u47 rfl sz_47⟩ .nil) ?_))
    rfl
   have eR:=(add_opp hok.fld hP hP2 hx hy).symm.trans hR
   subst eR
   refine KA (oP (KD (o':=9) u47 rfl rfl rfl sz_33 dc) (oD (dL rfl (hv:=by exact KCR _ _ _ _ _ _)) ?_));refine oP (KD (o':=9) u47 rfl rfl rfl sz_33 dc) (oD (dL rfl (hv:=by exact KCR _ _ _ _ _ _)) ?_);refine oP (KJ (KBv kr (fun w=>KBS y1.val y2.val (Nat.lt_trans y1.isLt hpW) (Nat.lt_trans y2.isLt hpW) 10000 dc w) rfl rfl) (show _ = Value.bool true by rw [decide_eq_false (fun e=>hy (Fin.ext e))]; rfl)) ?_;refine oM ?_;refine oK (oK (oK (oK (oP (Kg rfl rfl) (oA (KC ?_))))));refine KT rfl (KB (KA (oP (KJ (Ka pl_47 zr_47 rfl fill_ptInf) rfl) (LOps.step rfl (sA rfl rfl sz_47 mO (hl:=mL) (h:=?_))))));refine KC (KM (eN (.cons ⟨_,_,_,rfl,mM,by exact KE u47 rfl sz_47⟩ .nil) ?_))
   rfl
  refine KA (oP (KD (o':=0) u47 rfl rfl rfl sz_33 dc) (oD (dL rfl (hv:=by exact Kf u33 rfl sz_33 rfl (KL _))) ?_));refine oP (KD (o':=0) u47 rfl rfl rfl sz_33 dc) (oD (dL rfl (hv:=by exact Kf u33 rfl sz_33 rfl (KL _))) ?_);refine oP (KJ (KBv kr (fun w=>KBS x1.val x2.val (Nat.lt_trans x1.isLt hpW) (Nat.lt_trans x2.isLt hpW) 10000 dc w) rfl rfl) (show _ = Value.bool true by rw [decide_eq_false (fun e=>hx (Fin.ext e))]; rfl)) ?_;refine oA (KC ?_);refine KT rfl (KB ?_)
  have eR:=(add_chordF hok.prime hok.fld hP hP2 hx).symm.trans hR
  subst eR
  refine rD [20] (aD 0 rfl (dL rfl (hv:=by exact KE u132 rfl sz_132)) ?_);refine aM 1 ?_;refine aM 2 ?_;refine aP 3 rfl (KD (o':=9) u47 rfl rfl rfl sz_33 dc) (aD 4 rfl (dL rfl (hv:=by exact KCR _ _ _ _ _ _)) ?_);refine aP 5 rfl (KD (o':=9) u47 rfl rfl rfl sz_33 dc) (aD 6 rfl (dL rfl (hv:=by exact KCR _ _ _ _ _ _)) ?_);refine aM 8 ?_;refine aM 9 ?_;refine aP 10 rfl (KD (o':=0) u47 rfl rfl rfl sz_33 dc) (aD 11 rfl (dL rfl (hv:=by exact Kf u33 rfl sz_33 rfl (KL _))) ?_);refine aP 12 rfl (KD (o':=0) u47 rfl rfl rfl sz_33 dc) (aD 13 rfl (dL rfl (hv:=by exact Kf u33 rfl sz_33 rfl (KL _))) ?_);refine aD 17 rfl dNb ?_;refine aD 18 rfl dNb ?_;refine aO 7 rfl (cF rfl en_120 rfl (fun w hw=>KCm V hok f bd _ _ w (mC hw)) ?_)
  refine aO 14 rfl (cF rfl en_120 rfl (fun w hw=>KCm V hok f bd _ _ w (mC hw)) ?_);refine aO 15 rfl (cF rfl en_121 rfl (fun w hw=>c_F_Inv V hok f bd _ w (mC hw)) ?_);refine aO 16 rfl (cF rfl en_97 rfl (fun w hw=>KAm V hok f bd _ _ w (mC hw) (mC hw)) ?_);refine aO 19 rfl (cF rfl en_236 rfl (fun w hw=>c_slope V b f bd hok ((y2-y1)*finv (x2-x1)) x1 y1 x2 y2 false false w (mC hw) (mC hw) (mC hw)) ?_);refine aL 20 rfl (sA rfl rfl sz_47 mO (hl:=mL) (h:=?_));refine aE (KM (eN (.cons ⟨_,_,_,rfl,mM,by exact KE u47 rfl sz_47⟩ .nil) ?_))
  rfl
theorem c_gmul (V:Cv) (b f bd:Nat) (hok:V.Ok) (K bk:Nat) (hK:K<W9) (P:Pt V.p) (X Y:Nat) (i:Bool) (w:World) (hb:(Item.blk b ⟨false,opL V f,100,(0,0)⟩).holds w) (hf:(Item.blk f ⟨false,fldL V.p bd,165,(0,0)⟩).holds w) (hbd:(Item.blk bd ⟨false,dvL V.p,269,(0,0)⟩).holds w) (hP:On V.A V.B P) (hk:(Item.blk bk ⟨false,natL K,33,(0,0)⟩).holds w):CF Tryz.prog 64 [.agg ([.pointer (some ⟨b,0,none⟩)]:List Value).toArray,ptP P,ptV X Y i,.pointer (some ⟨bk,0,none⟩)] w (ptP (pmul V.A P K)):=by
  have hbb:=hok.bounds
  have hpW:V.p<W9:=KAF hbb.2.1
  refine KV (N:=17) (rs:=[.cell 7 47]) [.blk b ⟨false,opL V f,100,(0,0)⟩,.blk f ⟨false,fldL V.p bd,165,(0,0)⟩,.blk bd ⟨false,dvL V.p,269,(0,0)⟩,.blk bk ⟨false,natL K,33,(0,0)⟩] Tryz.func64 rfl Tryz.ntmps64 Tryz.results64 (Nb rfl) ⟨hb,hf,hbd,hk,trivial⟩ rfl ?_
  refine KB (KA (oS (mB (fun b4=>?_))));refine oS (mB (fun b5=>?_));refine oS (mB (fun b6=>?_));refine oS (mk (KK zr_47) (fun b7=>?_));refine KC (KB (rD [9] (aP 0 rfl (KD (o':=0) u132 rfl rfl rfl sz_81 dc) (aD 1 rfl (dL rfl (hv:=KI u81 rfl gL)) ?_))));refine aP 2 rfl (KD (o':=0) u132 rfl rfl rfl sz_81 dc) (aD 3 rfl (dL rfl (hv:=KI u81 rfl gL)) ?_);refine aD 4 rfl dNa ?_;refine aD 5 rfl dNb ?_;refine aO 6 rfl (cF rfl en_67 rfl (fun w hw=>c_Triple V hok P w) ?_);refine aO 7 rfl (LStep.callV (first:=[]) rfl en_66 rfl (Nb rfl) (fun w hw=>c_cTimes V b f bd hok K hK _ P w (mC hw) (mC hw) (mC hw) (KBU hok hP)) ?_)
  rintro _ ⟨U,hU,rfl⟩
  refine aO 8 rfl (cF rfl en_65 rfl (fun w hw=>c_PlainT V b f bd hok (U) (pmul V.A P K) w (mC hw) (mC hw) (mC hw) (hU)) ?_);refine aL 9 rfl (sA rfl rfl sz_47 mO (hl:=mL) (h:=?_));refine aE (KM (eN (.cons ⟨_,_,_,rfl,mM,by exact KE u47 rfl sz_47⟩ .nil) ?_))
  rfl
theorem c_do_ok (id:Int) (V:Cv) (P P2 R:Pt V.p) (fid:FuncId) (w:World) (h:cvI id = some V) (hP:On V.A V.B P) (hP2:On V.A V.B P2) (he:KX Tryz.prog fid) (hc:∀ b f bd (w:World),(Item.blk b ⟨false,opL V f,100,(0,0)⟩).holds w→(Item.blk f ⟨false,fldL V.p bd,165,(0,0)⟩).holds w→(Item.blk bd ⟨false,dvL V.p,269,(0,0)⟩).holds w→Calls Tryz.prog fid ([.agg ([.pointer (some ⟨b,0,none⟩)]:List Value).toArray,ptP P,ptP P2]:List Value).toArray w (fun e w'=>e = .returned (ptP R)∧Below w.heap.size w w')):CF Tryz.prog 63 [.int .i64 id,ptP P,ptP P2,.func (.func fid) #[] #[]] w (.tuple #[ptP R,.int .i64 ((0:Nat):Int)]):=by
  obtain ⟨hok,hid⟩:=KBT h
  have hbb:=hok.bounds
  have hpW:V.p<W9:=KAF hbb.2.1
  have hnW:V.n<W9:=KAF hbb.2.2.2.2.2.2.1
  have hbl:=KAn hnW
  have hnb:nby V.n≤72:=by (unfold nby; omega)
  refine KV (N:=35) (rs:=[.cell 8 47,.tmp 9]) [] Tryz.func63 rfl Tryz.ntmps63 Tryz.results63 (Nb rfl) trivial rfl ?_
  refine KB (KA (oS (mB (fun b5=>?_))));refine oS (mB (fun b6=>?_));refine oS (mk (KK zr_47) (fun b8=>?_));refine oP (KO (v:=.int .i64 ((0:Nat):Int)) rfl) (KC (KB (KA (oM ?_))));refine oS (oOpen h rfl rfl (fun b f bd=>?_));refine oA (KC (KB (LCode.block (KB (KA (oM ?_))))));refine oP (KJ (KAR u81 rfl rfl) (show _ = Value.bool false from rfl)) (oA (KC ?_));refine KH rfl (KB (KA (oM ?_)));refine oD dNb ?_;refine oS (cF rfl en_55 rfl (fun w hw=>c_cOnP V b f bd hok (P) w (mC hw) (mC hw) (mC hw) hP) ?_);refine oP (KJ (KAH rfl) (show _ = Value.bool false from rfl)) (oM ?_);refine oGM ?_;refine Kz rfl rfl dNb (Nb rfl) ?_;refine oGS (cF rfl en_55 rfl (fun w hw=>c_cOnP V b f bd hok (P2) w (mC hw) (mC hw) (mC hw) hP2) ?_);refine oGP (KJ (KAH rfl) (show _ = Value.bool false from rfl)) (oP (KU rfl rfl) (oA (KC ?_)))
  refine KH rfl (KN (KB (KA (oM (oM ?_)))));refine oP (KJ (Ka pl_132 zr_132 rfl rfl) (show _ = Value.agg ([.pointer (some ⟨b,0,none⟩)]:List Value).toArray from rfl)) (oD dNb ?_);refine oD dNb ?_;refine oS (cF rfl he rfl (fun w hw=>hc b f bd w (mC hw) (mC hw) (mC hw)) ?_);refine LOps.step rfl (sA rfl rfl sz_47 mO (hl:=mL) (h:=?_));refine oP (KO (v:=.int .i64 ((0:Nat):Int)) rfl) (KC (KM (eN (.cons ⟨_,_,_,rfl,mM,by exact KE u47 rfl sz_47⟩ (.cons rfl .nil)) ?_)))
  rfl
theorem c_do_okK (id:Int) (V:Cv) (P P2 R:Pt V.p) (fid:FuncId) (K bk:Nat) (w:World) (h:cvI id = some V) (hP:On V.A V.B P) (hP2:On V.A V.B P2) (he:KX Tryz.prog fid) (hc:∀ b f bd (w:World),(Item.blk b ⟨false,opL V f,100,(0,0)⟩).holds w→(Item.blk f ⟨false,fldL V.p bd,165,(0,0)⟩).holds w→(Item.blk bd ⟨false,dvL V.p,269,(0,0)⟩).holds w→(Item.blk bk ⟨false,natL K,33,(0,0)⟩).holds w→Calls Tryz.prog fid ([.agg ([.pointer (some ⟨b,0,none⟩)]:List Value).toArray,ptP P,ptP P2,.pointer (some ⟨bk,0,none⟩)]:List Value).toArray w (fun e w'=>e = .returned (ptP R)∧Below w.heap.size w w')) (hk:(Item.blk bk ⟨false,natL K,33,(0,0)⟩).holds w):CF Tryz.prog 63 [.int .i64 id,ptP P,ptP P2,.func (.func fid) #[] #[.pointer (some ⟨bk,0,none⟩)]] w (.tuple #[ptP R,.int .i64 ((0:Nat):Int)]):=by
  obtain ⟨hok,hid⟩:=KBT h
  have hbb:=hok.bounds
  have hpW:V.p<W9:=KAF hbb.2.1
  have hnW:V.n<W9:=KAF hbb.2.2.2.2.2.2.1
  have hbl:=KAn hnW
  have hnb:nby V.n≤72:=by (unfold nby; omega)
  refine KV (N:=35) (rs:=[.cell 8 47,.tmp 9]) [.blk bk ⟨false,natL K,33,(0,0)⟩] Tryz.func63 rfl Tryz.ntmps63 Tryz.results63 (Nb rfl) ⟨hk,trivial⟩ rfl ?_
  refine KB (KA (oS (mB (fun b5=>?_))));refine oS (mB (fun b6=>?_));refine oS (mk (KK zr_47) (fun b8=>?_));refine oP (KO (v:=.int .i64 ((0:Nat):Int)) rfl) (KC (KB (KA (oM ?_))));refine oS (oOpen h rfl rfl (fun b f bd=>?_));refine oA (KC (KB (LCode.block (KB (KA (oM ?_))))));refine oP (KJ (KAR u81 rfl rfl) (show _ = Value.bool false from rfl)) (oA (KC ?_));refine KH rfl (KB (KA (oM ?_)));refine oD dNb ?_;refine oS (cF rfl en_55 rfl (fun w hw=>c_cOnP V b f bd hok (P) w (mC hw) (mC hw) (mC hw) hP) ?_);refine oP (KJ (KAH rfl) (show _ = Value.bool false from rfl)) (oM ?_);refine oGM ?_;refine Kz rfl rfl dNb (Nb rfl) ?_;refine oGS (cF rfl en_55 rfl (fun w hw=>c_cOnP V b f bd hok (P2) w (mC hw) (mC hw) (mC hw) hP2) ?_);refine oGP (KJ (KAH rfl) (show _ = Value.bool false from rfl)) (oP (KU rfl rfl) (oA (KC ?_)))
  refine KH rfl (KN (KB (KA (oM (oM ?_)))));refine oP (KJ (Ka pl_132 zr_132 rfl rfl) (show _ = Value.agg ([.pointer (some ⟨b,0,none⟩)]:List Value).toArray from rfl)) (oD dNb ?_);refine oD dNb ?_;refine oS (LStep.callK (caps:=[.pointer (some ⟨bk,0,none⟩)]) rfl he rfl (Nb rfl) (fun w hw=>hc b f bd w (mC hw) (mC hw) (mC hw) (mC hw)) ?_);refine LOps.step rfl (sA rfl rfl sz_47 mO (hl:=mL) (h:=?_));refine oP (KO (v:=.int .i64 ((0:Nat):Int)) rfl) (KC (KM (eN (.cons ⟨_,_,_,rfl,mM,by exact KE u47 rfl sz_47⟩ (.cons rfl .nil)) ?_)))
  rfl
theorem c_affAdd (id:Int) (V:Cv) (P P2 R:Pt V.p) (w:World) (h:cvI id = some V) (hP:On V.A V.B P) (hP2:On V.A V.B P2) (hR:padd V.A P P2 = R):CF Tryz.prog 229 [.int .i64 id,ptP P,ptP P2] w (.tuple #[ptP R,.int .i64 ((0:Nat):Int)]):=by
  obtain ⟨hok,hid⟩:=KBT h
  refine KV (N:=14) (rs:=[.cell 6 47,.tmp 7]) [] Tryz.func229 rfl Tryz.ntmps229 Tryz.results229 (Nb rfl) trivial rfl ?_
  refine KB (KA (oS (mB (fun b4=>?_))));refine oS (mB (fun b5=>?_));refine oS (mk (KK zr_47) (fun b6=>?_));refine oP (KO (v:=.int .i64 ((0:Nat):Int)) rfl) (KC (KB (KA (oM ?_))));refine oD dNb ?_;refine oD dNb ?_;refine oS (cF rfl en_63 rfl (fun w hw=>c_do_ok id V P P2 R 235 w h hP hP2 en_235 (fun b f bd w h1 h2 h3=>c_gadd V b f bd hok P P2 R w h1 h2 h3 hP hP2 hR)) ?_);refine oX ?_;refine oX ?_;refine LOps.step rfl (sA rfl rfl sz_47 mO (hl:=mL) (h:=?_));refine oA (KC (KM ?_));refine eN (.cons ⟨_,_,_,rfl,mM,by exact KE u47 rfl sz_47⟩ (.cons rfl .nil)) ?_
  rfl
theorem c_affMul (id:Int) (V:Cv) (K:Nat) (P:Pt V.p) (w:World) (h:cvI id = some V) (hP:On V.A V.B P) (hK:K<W9):CF Tryz.prog 30 [.int .i64 id,natV K,ptP P] w (.tuple #[ptP (pmul V.A P K),.int .i64 ((0:Nat):Int)]):=by
  obtain ⟨hok,hid⟩:=KBT h
  refine KV (N:=15) (rs:=[.cell 6 47,.tmp 7]) [] Tryz.func30 rfl Tryz.ntmps30 Tryz.results30 (Nb rfl) trivial rfl ?_
  refine KB (KA (oS (mB (fun b4=>?_))));refine oS (mB (fun b5=>?_));refine oS (mk (KK zr_47) (fun b6=>?_));refine oP (KO (v:=.int .i64 ((0:Nat):Int)) rfl) (KC (KB (KA (oM ?_))));refine oD dNb ?_;refine oD dNb ?_;refine oP (Det.makeFuncC1 rfl) (oS (cF rfl en_63 rfl (fun w hw=>c_do_okK id V P P (pmul V.A P K) 64 K b4 w h hP hP en_64 (fun b f bd w h1 h2 h3 hk=>c_gmul V b f bd hok K b4 hK P _ _ _ w h1 h2 h3 hP hk) (show (Item.blk b4 ⟨true,_,_,_⟩).holds w from hw _ mM)) ?_));refine oX ?_;refine oX ?_;refine LOps.step rfl (sA rfl rfl sz_47 mO (hl:=mL) (h:=?_));refine oA (KC (KM ?_));refine eN (.cons ⟨_,_,_,rfl,mM,by exact KE u47 rfl sz_47⟩ (.cons rfl .nil)) ?_
  rfl
end Go.Proofs.YtnpeokiboiclfaaGreat
set_option linter.unusedVariables false
set_option linter.unusedSimpArgs false
set_option maxRecDepth 20000
namespace Go.Proofs.YtnpeokiboiclfaaGreat
open Go Go.RowKit
open Grp
def ptPL {p:Nat} (P:Pt p):List Value:=ptL (xv P) (yv P) (iv P)
theorem KCE {p:Nat} (P:Pt p):(ptPL P).length = 19:=Kb _ _ _
theorem ptPL_one {p:Nat} (P:Pt p):KBM (ptPL P):=KAN _ _ _
def tabL {p:Nat} (E:Nat→Pt p):Nat→List Value
  | 0=>[]
  | n+1=>tabL E n++ptPL (E n)
theorem KCS {p:Nat} (E:Nat→Pt p):∀ n,(tabL E n).length = n*19
  | 0=>rfl
  | n+1=>by show (tabL E n++ptPL (E n)).length = _; rw [List.length_append,KCS E n,KCE]; omega
theorem tabL_at {p:Nat} (E:Nat→Pt p) {k:Nat}:∀ {n},k<n→∃ post,tabL E n = tabL E k++(ptPL (E k)++post)
  | 0,h=>by omega
  | n+1,h=>by
    by_cases e:k = n
    · subst e; exact ⟨[],by rw [List.append_nil]; rfl⟩
    · obtain ⟨post,hp⟩:=tabL_at E (show k<n by omega)
      exact ⟨post++ptPL (E n),by show tabL E n++ptPL (E n) = _; rw [hp]; simp only [List.append_assoc]⟩
theorem tab_load {p:Nat} {wr:Bool} {e:TypeId} {fz:Nat×Nat} (E:Nat→Pt p) {k n:Nat} (h:k<n) (rest:List Value):LoadV Tryz.prog 47 ⟨wr,tabL E n++rest,e,fz⟩ (0+k*19) (ptP (E k)):=by
  obtain ⟨post,hp⟩:=tabL_at E h
  exact KAY (pre:=tabL E k) (cs:=ptPL (E k)) (post:=post++rest) u47 rfl sz_47 (by show tabL E n++rest = _; rw [hp]; simp only [List.append_assoc]) (by rw [KCS]; omega) (KCE _)
theorem inf_pt:infOf Tryz.prog 47 = some (.agg (vec .u64 9 (fun _=>0)++(vec .u64 9 (fun _=>0)++[Value.bool false]):List Value).toArray,19,152):=kr
theorem fill_ptR {p:Nat} (P:Pt p):fillL ((List.range 1).map fun i=>(i*19,19)) (vec .u64 9 (fun _=>0)++(vec .u64 9 (fun _=>0)++[Value.bool false])) [(0,.agg (ptPL P).toArray)] = some (ptPL P):=fillL_whole (by simp [KS]) (KCE P)
theorem row_pt:((Array.range (1*19)).map fun i=>(Value.agg (vec .u64 9 (fun _=>0)++(vec .u64 9 (fun _=>0)++[Value.bool false]):List Value).toArray).cells[i%(Value.agg (vec .u64 9 (fun _=>0)++(vec .u64 9 (fun _=>0)++[Value.bool false]):List Value).toArray).cells.size]!) = (vec .u64 9 (fun _=>0)++(vec .u64 9 (fun _=>0)++[Value.bool false]):List Value).toArray:=kr
noncomputable abbrev mulE (V:Cv) (P:Pt V.p):Nat→Pt V.p:=fun j=>pmul V.A P j
structure TabS (p:Nat) where
  k:Nat
  T:Fin p×Fin p×Fin p
  br:Nat
  cap:Nat
  rest:List Value
theorem Brings.two {w w':World} {b c:Nat} {B D:Blk} (hb:Below w.heap.size w w') (h1:(Item.blk b B).holds w') (h2:(Item.blk c D).holds w') (n1:w.heap.size≤b) (n2:w.heap.size≤c) (hne:c≠b):Brings w [] [.blk b B,.blk c D] w':=by
  have key:∀ x,x∈[Item.blk b B,.blk c D]→∀ k,k∈x.fp→w.heap.size≤k:=fun x hx k hk=>by
    rcases List.mem_cons.1 hx with rfl|hx
    · obtain rfl:k = b:=by simpa [Item.fp] using hk
      exact n1
    · obtain rfl:x = _:=by simpa using hx
      obtain rfl:k = c:=by simpa [Item.fp] using hk
      exact n2
  refine ⟨hb,fun x hx=>?_,fun x hx k hk=>.inl (key x hx k hk),fun x hx _=>key x hx,List.pairwise_cons.2 ⟨fun y hy _ k hk hk'=>?_,List.pairwise_singleton _ _⟩⟩
  · rcases List.mem_cons.1 hx with rfl|hx
    · exact h1
    · obtain rfl:x = _:=by simpa using hx
      exact h2
  · obtain rfl:y = _:=by simpa using hy
    obtain rfl:k = b:=by simpa [Item.fp] using hk
    exact hne (by simpa [Item.fp] using hk':k = c).symm
theorem bringsC {P:Program} {f:FuncId} {a:Array Value} {w:World} {Q:Value→List Item→Prop} (h:Calls P f a w (fun e w'=>∃ v its,Q v its∧e = .returned v∧Brings w [] its w')) (H:List Item):Calls P f a w (fun e w'=>∃ v its,Q v its∧e = .returned v∧Brings w H its w') :=
  h.mono fun e w' ⟨v,its,h1,h2,h3⟩=>⟨v,its,h1,h2,h3.more (fun x hx=>by cases hx)⟩
theorem c_tabOf (V:Cv) (b f bd:Nat) (hok:V.Ok) (P:Pt V.p) (hP:On V.A V.B P) (n:Nat) (hn0:1≤n) (hn:n≤16) (w:World) (hb:(Item.blk b ⟨false,opL V f,100,(0,0)⟩).holds w) (hf:(Item.blk f ⟨false,fldL V.p bd,165,(0,0)⟩).holds w) (hbd:(Item.blk bd ⟨false,dvL V.p,269,(0,0)⟩).holds w):Calls Tryz.prog 88 ([.pointer (some ⟨b,0,none⟩),ptP P,.int .i64 ((n:Nat):Int)]:List Value).toArray w (fun e w'=>∃ v its,(fun v its=>∃ bt br cap rest,v = .pointer (some ⟨bt,0,none⟩)∧its = [.blk bt ⟨true,[.slice (some ⟨br,0,none⟩) n cap],220,(0,0)⟩,.blk br ⟨true,tabL (mulE V P) n++rest,47,(0,0)⟩]) v its∧e = .returned v∧Brings w [] its w'):=by
  refine KV (N:=36) (rs:=[.tmp 6]) [.blk b ⟨false,opL V f,100,(0,0)⟩,.blk f ⟨false,fldL V.p bd,165,(0,0)⟩,.blk bd ⟨false,dvL V.p,269,(0,0)⟩] Tryz.func88 rfl Tryz.ntmps88 Tryz.results88 (Nb rfl) ⟨hb,hf,hbd,trivial⟩ rfl ?_
  refine KB (KA (oS (mB (fun b4=>?_))));refine oA (KC (KB (KA ?_)));refine oP (Ka pl_220 zr_220 rfl rfl) (oS (mB (fun b11=>?_)));refine oA (KC (KB (KA ?_)));refine oD dNb ?_;refine oS (cF rfl en_67 rfl (fun w hw=>c_Triple V hok P w) ?_);refine oS (cF rfl en_99 rfl (fun w hw=>c_NoneF hok w) ?_);refine oS (mk (KK KDD) (fun b8=>?_));refine oS (mk (KK KDD) (fun b9=>?_));refine LOps.step rfl (sA rfl rfl KAJ (by exact KBC _) (hl:=by exact Kx _) (h:=?_));refine LOps.step rfl (sA rfl rfl KAJ (by exact KBC _) (hl:=by exact Kx _) (h:=?_));refine KC (KB (KB (KA (oM ?_))));refine oP (Kd (v:=.int .i64 ((0:Nat):Int)) rfl) (KC (LCode.block (Kc (α:=Option (TabS V.p)) (fun x=>match x with|none=>True|some y=>1≤y.k∧y.k≤n∧RepT V y.T (pmul V.A P y.k)∧(tabL (mulE V P) y.k).length+y.rest.length = y.cap*19) (fun x=>match x with|none=>⟨[(0,.pointer (some ⟨b,0,none⟩)),(7,.pointer (some ⟨b11,0,none⟩)),(8,.pointer (some ⟨b8,0,none⟩)),(9,.pointer (some ⟨b9,0,none⟩)),(15,.int .i64 ((n:Nat):Int)),(16,.int .i64 ((0:Nat):Int))],[.blk b11 ⟨true,[.slice none 0 0],220,(0,0)⟩,.blk b9 ⟨true,pjFL (tripF (.inf:Pt V.p)),135,(0,0)⟩,.blk b8 ⟨true,pjFL (tripF P),135,(0,0)⟩,.blk b ⟨false,opL V f,100,(0,0)⟩,.blk f ⟨false,fldL V.p bd,165,(0,0)⟩,.blk bd ⟨false,dvL V.p,269,(0,0)⟩]⟩|some y=>⟨[(0,.pointer (some ⟨b,0,none⟩)),(7,.pointer (some ⟨b11,0,none⟩)),(8,.pointer (some ⟨b8,0,none⟩)),(9,.pointer (some ⟨b9,0,none⟩)),(15,.int .i64 ((n:Nat):Int)),(16,.int .i64 ((y.k:Nat):Int))],[.blk b11 ⟨true,[.slice (some ⟨y.br,0,none⟩) y.k y.cap],220,(0,0)⟩,.blk y.br ⟨true,tabL (mulE V P) y.k++y.rest,47,(0,0)⟩,.blk b9 ⟨true,pjFL y.T,135,(0,0)⟩,.blk b8 ⟨true,pjFL (tripF P),135,(0,0)⟩,.blk b ⟨false,opL V f,100,(0,0)⟩,.blk f ⟨false,fldL V.p bd,165,(0,0)⟩,.blk bd ⟨false,dvL V.p,269,(0,0)⟩]⟩) (fun x=>match x with|none=>n+1|some y=>n-y.k) (none) (trivial) (KY ⟨rfl,rfl,rfl,rfl,rfl,rfl,trivial⟩ mS) ?_)))
  intro x hx
  refine KB ?_
  rcases x with _|⟨k,T,br,cap,rest⟩
  ·
   refine KA (oP (KF (v:=.bool true) rfl rfl (br_t Kr om)) (KC (KB (KT rfl (KN (KB (LCode.block (KB (rD [9,12] (aM 0 ?_))))))))));refine aM 1 ?_;refine aP 2 rfl (KG rfl) (aP 3 rfl (KD (o':=0) u220 rfl rfl rfl sz_218 dc) (aD 4 rfl (dL rfl (hv:=KI u218 rfl gL)) ?_));refine aM 5 ?_;refine aO 6 rfl (LStep.det (dL rfl (hv:=by exact KE u135 rfl KAJ)) (Nb rfl) ?_);refine aO 7 rfl (cF rfl en_65 rfl (fun w hw=>c_PlainT V b f bd hok (tripF (.inf:Pt V.p)) (mulE V P 0) w (mC hw) (mC hw) (mC hw) (KBU hok trivial)) ?_);refine aO 8 rfl (mk (KCA (vs:=[(0,.agg (ptPL (mulE V P 0)).toArray)]) u218 inf_pt dc row_pt rfl (fill_ptR (mulE V P 0)) (fun h=>by cases h)) (fun b26=>?_));refine aL 9 rfl (KCX (s:=19) (news:=ptPL (mulE V P 0)) rfl rfl u218 inf_pt rfl mM (KCE _) dc dc dc (Nb rfl) ?_)
   intro b1 cap1 rest1 hc1
   refine aP 10 rfl (KG rfl) (aP 11 rfl (KD (o':=0) u220 rfl rfl rfl sz_218 dc) (aL 12 rfl (KW rfl rfl rfl sz_218 mT lT sT (by simp) ?_)));refine aE (KA (oM ?_));refine oD (dL rfl (hv:=by exact KE u135 rfl KAJ)) ?_;refine oD (dL rfl (hv:=by exact KE u135 rfl KAJ)) ?_;refine oS (cF rfl en_100 rfl (fun w hw=>c_SumT V b f bd hok (tripF (.inf:Pt V.p)) (tripF P) w (mC hw) (mC hw) (mC hw)) ?_);refine LOps.step rfl (sA rfl rfl KAJ (by exact KBC _) (hl:=by exact Kx _) (h:=?_));refine KC (KA (oP (KF rfl rfl (Kj (b:=1) om)) (oM (KC ?_))))
   exact ⟨some ⟨0+1,sumT V (tripF (.inf:Pt V.p)) (tripF P),b1,cap1,rest1⟩,⟨Nat.le_add_left _ _,by show 0+1≤n; omega,RepT.sum hok (KBU hok trivial) (KBU hok hP),by rw [KCE] at hc1; show (tabL (mulE V P) (0+1)).length+rest1.length = cap1*19; rw [KCS]; omega⟩,by show n-(0+1)<n+1; omega,KAB (Sub.cells (b:=b1) (cs':=tabL (mulE V P) (0+1)++rest1) mT (by rfl)) (KY ⟨rfl,rfl,rfl,rfl,rfl,rfl,trivial⟩ mS)⟩
  obtain ⟨hk1,hkn,hT,hcap⟩:=hx
  dsimp only at hk1 hkn hT hcap
  refine KA (oP (KF rfl rfl (Kr)) (KC (KB ?_)))
  first|refine KQ rfl (fun h17=>?_) (fun h17=>?_)|refine KR rfl (fun h17=>?_) (fun h17=>?_)
  ·
   have h17:k<n:=h17
   refine KN (KB (LCode.block (KB (rD [9,12] (aM 0 ?_)))));refine aM 1 ?_;refine aP 2 rfl (KG rfl) (aP 3 rfl (KD (o':=0) u220 rfl rfl rfl sz_218 dc) (aD 4 rfl (dL rfl (hv:=KI u218 rfl gL)) ?_));refine aM 5 ?_;refine aO 6 rfl (LStep.det (dL rfl (hv:=by exact KE u135 rfl KAJ)) (Nb rfl) ?_);refine aO 7 rfl (cF rfl en_65 rfl (fun w hw=>c_PlainT V b f bd hok (T) (mulE V P k) w (mC hw) (mC hw) (mC hw) (hT)) ?_);refine aO 8 rfl (mk (KCA (vs:=[(0,.agg (ptPL (mulE V P k)).toArray)]) u218 inf_pt dc row_pt rfl (fill_ptR (mulE V P k)) (fun h=>by cases h)) (fun b26=>?_));refine aL 9 rfl (KDJ (s:=19) (m:=1) (xs:=tabL (mulE V P) k) (rest:=rest) (news:=ptPL (mulE V P k)) rfl rfl u218 inf_pt rfl mP mM (KCS _ _) hcap (KCE _) (ptPL_one _) om om (Nb rfl) ?_)
   intro b1 cap1 rest1 hc1
   refine aP 10 rfl (KG rfl) (aP 11 rfl (KD (o':=0) u220 rfl rfl rfl sz_218 dc) (aL 12 rfl (KW rfl rfl rfl sz_218 mT lT sT (by simp) ?_)));refine aE (KA (oM ?_));refine oD (dL rfl (hv:=by exact KE u135 rfl KAJ)) ?_;refine oD (dL rfl (hv:=by exact KE u135 rfl KAJ)) ?_;refine oS (cF rfl en_100 rfl (fun w hw=>c_SumT V b f bd hok (T) (tripF P) w (mC hw) (mC hw) (mC hw)) ?_);refine LOps.step rfl (sA rfl rfl KAJ (by exact KBC _) (hl:=by exact Kx _) (h:=?_));refine KC (KA (oP (KF rfl rfl (Kj (b:=1) om)) (oM (KC ?_))))
   exact ⟨some ⟨k+1,sumT V T (tripF P),b1,cap1,rest1⟩,⟨Nat.le_add_left _ _,by show k+1≤n; omega,RepT.sum hok hT (KBU hok hP),by rw [KCS,KCE] at hc1; show (tabL (mulE V P) (k+1)).length+rest1.length = cap1*19; rw [KCS]; omega⟩,by show n-(k+1)<n-k; omega,KAB (Sub.cells (b:=b1) (cs':=tabL (mulE V P) (k+1)++rest1) mT (by rfl)) (KY ⟨rfl,rfl,rfl,rfl,rfl,rfl,trivial⟩ mS)⟩
  have h17:¬ k<n:=h17
  refine KZ (KB (KA (oM (oA (KC (KM ?_))))))
  obtain rfl:k = n:=by omega
  exact ⟨[_],.cons rfl .nil,fun a w' hr=>⟨_,_,⟨b11,br,cap,rest,rfl,rfl⟩,rfl,Brings.two hr.fr.below (hr.hp (.blk b11 ⟨true,_,_,_⟩) mM) (hr.hp (.blk br ⟨true,_,_,_⟩) mM) (hr.new (b:=b11) (B:=⟨true,_,_,_⟩) mM rfl) (hr.new (b:=br) (B:=⟨true,_,_,_⟩) mM rfl) (apart_two hr.dist (b:=b11) (B:=⟨true,_,220,_⟩) (c:=br) (D:=⟨true,_,47,_⟩) mM mM rfl (fun e=>absurd (show (220:Nat) = 47 from e) dc))⟩⟩
def pk (i A:Nat):Nat→Nat
  | 0=>0
  | k+1=>if k = i then A else pk i A k
theorem pk_low {i A:Nat}:∀ {k},k≤i→pk i A k = 0
  | 0,_=>rfl
  | k+1,h=>by
    show (if k = i then A else pk i A k) = 0
    rw [if_neg om]; exact pk_low om
theorem pk_last {i A:Nat}:∀ {k},i<k→pk i A k = A
  | 0,h=>by omega
  | k+1,h=>by
    show (if k = i then A else pk i A k) = A
    by_cases e:k = i
    · rw [if_pos e]
    · rw [if_neg e]; exact pk_last om
theorem pk_m (i k:Nat):(if k = i then 18446744073709551615 else 0) = 0∨(if k = i then 18446744073709551615 else 0) = 18446744073709551615:=by
  by_cases e:k = i
  · exact .inr (if_pos e)
  · exact .inl (if_neg e)
theorem pk_next (F:Nat→Nat) (i k:Nat):pk i (F i) (k+1) = if (if k = i then 18446744073709551615 else 0) = 0 then pk i (F i) k else F k:=by
  show (if k = i then F i else pk i (F i) k) = _
  by_cases e:k = i
  · rw [if_pos e,if_pos e,if_neg dc,e]
  · rw [if_neg e,if_neg e,if_pos rfl]
theorem pk_or {i A z k:Nat} (hz:k = i→z = A) (h1:z≤1):pk i A k ||| (z &&& if k = i then 18446744073709551615 else 0) = pk i A (k+1):=by
  show _ = (if k = i then A else pk i A k)
  by_cases e:k = i
  · rw [if_pos e,if_pos e,pk_low om,Nat.zero_or,and_max om]; exact hz e
  · rw [if_neg e,if_neg e,Nat.and_zero,Nat.or_zero]
theorem pk_lt {i A:Nat} (h:A≤1):∀ k,pk i A k≤1
  | 0=>Nat.zero_le _
  | k+1=>by
    show (if k = i then A else pk i A k)≤1
    split
    · exact h
    · exact pk_lt h k
def ib {p:Nat} (P:Pt p):Nat:=if iv P = true then 1 else 0
theorem ib_le {p:Nat} (P:Pt p):ib P≤1:=by unfold ib; split <;> omega
theorem ib_eq {p:Nat} (P:Pt p):decide (ib P = 1) = iv P:=by unfold ib; cases iv P <;> rfl
section
variable {P:Program} {C:Ctx} {d:Option Tmp} {ty:TypeId} {pos:String} {aft:Array Edge} {g:Option (Nat×Bool)} {st:St} {x y:Operand} {t e:TypeId}
theorem Det.indexSN {s i : Nat} {k : IntKind} {b o l c : Nat} (ht : P.underlying t = some (.slice e)) (he : szOf P e = some s) (hx : evT st.T x = some (.slice (some ⟨b, o, none⟩) l c)) (hy : evT st.T y = some (.int k (i : Int))) (h1 : i < l) :
    Slots P C ⟨d,.indexAddr t x y,ty,pos,aft,g⟩ st (.pointer (some ⟨b,o+i*s,none⟩)):=by
  have:=KDB (P:=P) (C:=C) (d:=d) (ty:=ty) (pos:=pos) (aft:=aft) (g:=g) (st:=st) ht he hx hy om om
  rwa [Int.toNat_natCast] at this
end
theorem pt_zeroK (i A B:Nat):(vec .u64 9 (fun _=>0)++(vec .u64 9 (fun _=>0)++[Value.bool false]):List Value) = ptL (pk i A 0) (pk i B 0) false:=by
  show _ = ptL 0 0 false
  unfold ptL natL; rw [vec_zeros 9]
theorem pt_setY (X Y Y':Nat) (i:Bool):KAa (ptL X Y i) 9 (natL Y') = ptL X Y' i:=KAl (A:=natL X) (B:=natL Y) (D:=[.bool i]) (by simp [ptL]) (KL _) (by rw [KL,KL]) (by simp [ptL])
theorem pt_set0 (X Y X':Nat) (i:Bool):KAa (ptL X Y i) 0 (natL X') = ptL X' Y i:=KAl (A:=[]) (B:=natL X) (D:=natL Y++[.bool i]) (by simp [ptL]) rfl (by rw [KL,KL]) (by simp [ptL])
theorem pt_set2 (X Y:Nat) (i j:Bool):(ptL X Y i).set 18 (.bool j) = ptL X Y j:=by
  unfold ptL
  rw [List.set_append_right _ _ (by rw [KL]; decide),KL,List.set_append_right _ _ (by rw [KL]; decide),KL]; rfl
theorem c_tabPick (b:Option Nat) (r:TrRow) (l:List Nat) (bt br cap:Nat) (rest:List Value) {wr1 wr2:Bool} (V:Cv) (hok:V.Ok) (E:Nat→Pt V.p) (n i:Nat) (hi:i<n) (hn:n≤16) (w:World) (h0:(trI b r l).holds w) (h1:(Item.blk bt ⟨wr1,[.slice (some ⟨br,0,none⟩) n cap],220,(0,0)⟩).holds w) (h2:(Item.blk br ⟨wr2,tabL (E) n++rest,47,(0,0)⟩).holds w) (n1:Out b r (Item.blk bt ⟨wr1,[.slice (some ⟨br,0,none⟩) n cap],220,(0,0)⟩)) (n2:Out b r (Item.blk br ⟨wr2,tabL (E) n++rest,47,(0,0)⟩)) (hl:l.length≤90000000):Calls Tryz.prog 142 ([.pointer (some ⟨bt,0,none⟩),trV b,.int .i64 ((i:Nat):Int)]:List Value).toArray w (fun e w'=>TrR w b r (l++List.range n) (.tuple #[ptP (E i),.int .i64 ((0:Nat):Int)]) e w'):=by
  refine calls_tr (N:=75) (rs:=[.cell 6 47,.tmp 7]) b r l [.blk bt ⟨false,[.slice (some ⟨br,0,none⟩) n cap],220,(0,0)⟩,.blk br ⟨false,tabL (E) n++rest,47,(0,0)⟩] Tryz.func142 rfl Tryz.ntmps142 Tryz.results142 (Nb rfl) h0 ⟨h1,h2,trivial⟩ rfl ⟨n1,n2,trivial⟩ ?_
  refine KB (KA (oS (mk (KK zr_47) (fun b6=>?_))));refine oP (KO (v:=.int .i64 ((0:Nat):Int)) rfl) (KC (KB (LCode.block (KB (KA (oM ?_))))));refine oP (KJ (KAR u177 rfl rfl) (show _ = Value.bool false from rfl)) (oA (KC ?_));refine KH rfl (KB (KA (oM ?_)));refine oP (KF (v:=.bool false) rfl rfl (br_f (Kr (b:=0)) (Nat.not_lt_zero _))) (oM ?_);refine oGM ?_;refine oGM ?_;refine oGP (KG rfl) (oGP (KD (o':=0) u220 rfl rfl rfl sz_218 dc) (Kz rfl rfl (dL rfl (hv:=KI u218 rfl gL)) (Nb rfl) ?_));refine oGP (KBF u218 rfl) (oGP (KF (v:=.bool false) rfl rfl (br_f KBD om)) (oP (KU rfl rfl) (oA (KC ?_))));refine KH rfl (KN (KB (KA (oS (mk (KK zr_47) (fun b8=>?_))))));refine KC (KB (KA (oP (KO (v:=.int .u64 ((0:Nat):Int)) rfl) (KC (KB (KB (KA (oM ?_))))))));refine oP (KG rfl) (oP (KD (o':=0) u220 rfl rfl rfl sz_218 dc) (oD (dL rfl (hv:=KI u218 rfl gL)) ?_))
  refine oP (KBF u218 rfl) (oP (Kd (v:=.int .i64 ((0:Nat):Int)) rfl) (KC (LCode.block ?_)));refine Kc (α:=Nat×TrRow) (fun x=>x.1≤n) (fun x=>⟨[(0,.pointer (some ⟨bt,0,none⟩)),(1,trV b),(2,.int .i64 ((i:Nat):Int)),(6,.pointer (some ⟨b6,0,none⟩)),(8,.pointer (some ⟨b8,0,none⟩)),(9,.int .u64 ((pk i (ib (E i)) x.1:Nat):Int)),(34,.slice (some ⟨br,0,none⟩) n cap),(35,.int .i64 ((n:Nat):Int)),(36,.int .i64 ((x.1:Nat):Int))],[trI b x.2 (l++List.range x.1),.blk b8 ⟨true,ptL (pk i (xv (E i)) x.1) (pk i (yv (E i)) x.1) false,47,(0,0)⟩,.blk b6 ⟨true,vec .u64 9 (fun _=>0)++(vec .u64 9 (fun _=>0)++[Value.bool false]),47,(0,0)⟩,.blk bt ⟨false,[.slice (some ⟨br,0,none⟩) n cap],220,(0,0)⟩,.blk br ⟨false,tabL (E) n++rest,47,(0,0)⟩]⟩) (fun x=>n-x.1) ((0,r)) (Nat.zero_le _) (KAB (Sub.cells (b:=b8) (cs':=ptL (pk i (xv (E i)) 0) (pk i (yv (E i)) 0) false) mT (pt_zeroK _ _ _)) (by dsimp only [List.range_zero]; rw [List.append_nil]; exact KY ⟨rfl,rfl,rfl,rfl,rfl,rfl,rfl,rfl,rfl,trivial⟩ mS)) ?_
  intro x hx
  refine KB (KA (oP (KF rfl rfl (Kr)) (KC (KB ?_))))
  first|refine KQ rfl (fun h37=>?_) (fun h37=>?_)|refine KR rfl (fun h37=>?_) (fun h37=>?_)
  ·
   have h37:x.1<n:=h37
   refine KN (KB (LCode.block (KB (KA (oM ?_)))));refine oP (Det.indexSN u218 sz_47 rfl rfl om) (oD (dL rfl (hv:=by exact tab_load E h37 rest)) ?_);refine oS (mk (KK zr_47) (fun b11=>?_));refine oA ?_;refine LOps.step rfl (sA rfl rfl sz_47 (by exact KAN _ _ _) (hl:=by exact Kb _ _ _) (h:=?_));refine KC (KB (KA (oM (oM ?_))));refine LOps.step rfl (KAw (first:=[]) (r:=x.2) (l:=l++List.range x.1) (l':=l++List.range (x.1+1)) rfl en_183 rfl (Nb rfl) mP (fun w hw hn=>by rw [List.range_succ,← List.append_assoc]; exact c_trIndex b x.2 _ x.1 w (mC hw) (by rw [List.length_append,List.length_range]; omega)) ?_)
   intro r1
   refine KC (KB (KA (oM ?_)));refine oP (KBc u3 u30 rfl (by first|omega|exact Nat.lt_trans (D.limb_lt _ _) dc)) ?_;refine oM ?_;refine oP (KBc u3 u30 rfl (by first|omega|exact Nat.lt_trans (D.limb_lt _ _) dc)) ?_;refine oS (cF rfl en_184 rfl (fun w hw=>c_mEqual x.1 i w om om) ?_);refine oA (KC (KB (rD [13,15] ?_)));refine aM 0 ?_;refine aP 1 rfl (KD (o':=0) u47 rfl rfl rfl sz_33 dc) (aD 2 rfl (dL rfl (hv:=by exact Kf u33 rfl sz_33 rfl (KL _))) ?_);refine aP 3 rfl (KD (o':=0) u47 rfl rfl rfl sz_33 dc) (aD 4 rfl (dL rfl (hv:=by exact Kf u33 rfl sz_33 rfl (KL _))) ?_);refine aM 6 ?_;refine aP 7 rfl (KD (o':=9) u47 rfl rfl rfl sz_33 dc) (aP 9 rfl (KD (o':=9) u47 rfl rfl rfl sz_33 dc) (aD 10 rfl (dL rfl (hv:=by exact KCR _ _ _ _ _ _)) ?_));refine KCK [11,13,14,15] 8 rfl kr (Nb rfl) (dL rfl (hv:=by exact KCR _ _ _ _ _ _)) ?_
   refine aO 5 rfl (cF rfl en_185 rfl (fun w hw=>c_mSelect (if x.1 = i then 18446744073709551615 else 0) (xv (E x.1)) (pk i (xv (E i)) x.1) (pk i (xv (E i)) (x.1+1)) w (pk_m _ _) (pk_next (fun j=>xv (E j)) i x.1)) ?_);refine aP 12 rfl (KD (o':=0) u47 rfl rfl rfl sz_33 dc) (aO 11 rfl (cF rfl en_185 rfl (fun w hw=>c_mSelect (if x.1 = i then 18446744073709551615 else 0) (yv (E x.1)) (pk i (yv (E i)) x.1) (pk i (yv (E i)) (x.1+1)) w (pk_m _ _) (pk_next (fun j=>yv (E j)) i x.1)) ?_));refine aL 13 rfl (Kp rfl rfl rfl sz_33 (KL _) (KAE _) mT (by simp only [Kb]; decide) (pt_set0 _ _ _ _) (by simp) ?_);refine aP 14 rfl (KD (o':=9) u47 rfl rfl rfl sz_33 dc) ?_;refine aL 15 rfl (Kp rfl rfl rfl sz_33 (KL _) (KAE _) mT (by simp only [Kb]; decide) (pt_setY _ _ _ _) (by simp) ?_);refine aE (KB (KA (oP (KO (v:=.int .u64 ((0:Nat):Int)) rfl) (KC (KB (KB ?_))))))
   cases hiv:iv (E x.1)
   ·
    refine KA (oP (KD (o':=18) u47 rfl rfl rfl sz_4 dc) (oD (dL rfl (hv:=KI u4 rfl (by exact pt_gt _ _ _))) ?_));refine KC (KH rfl (KN (KA (oM (oM (oM ?_))))));refine oP (KF rfl rfl (KBJ (a:=0) (b:=(if x.1 = i then 18446744073709551615 else 0)) dc (by split <;> decide))) ?_;refine oP (KJ (KF rfl rfl (KCP (a:=pk i (ib (E i)) x.1) (b:=0 &&& (if x.1 = i then 18446744073709551615 else 0)) (Nat.lt_of_le_of_lt (pk_lt (ib_le _) _) dc) (Nat.lt_of_le_of_lt Nat.and_le_left dc))) (vi (b:=pk i (ib (E i)) (x.1+1)) (pk_or (fun e=>by rw [← e]; unfold ib; rw [hiv]; rfl) dc))) ?_;refine oA (KC (KA ?_));refine oP (KF rfl rfl (Kj (b:=1) om)) (oM (KC ?_))
    exact ⟨(x.1+1,r1),by dsimp only; omega,by dsimp only; omega,KY ⟨rfl,rfl,rfl,rfl,rfl,rfl,rfl,rfl,rfl,trivial⟩ mS⟩
   refine KA (oP (KD (o':=18) u47 rfl rfl rfl sz_4 dc) (oD (dL rfl (hv:=KI u4 rfl (by exact pt_gt _ _ _))) ?_));refine KC (KT rfl (KA (oP (KO (v:=.int .u64 ((1:Nat):Int)) rfl) (KC (KA (oM (oM (oM ?_))))))));refine oP (KF rfl rfl (KBJ (a:=1) (b:=(if x.1 = i then 18446744073709551615 else 0)) dc (by split <;> decide))) ?_;refine oP (KJ (KF rfl rfl (KCP (a:=pk i (ib (E i)) x.1) (b:=1 &&& (if x.1 = i then 18446744073709551615 else 0)) (Nat.lt_of_le_of_lt (pk_lt (ib_le _) _) dc) (Nat.lt_of_le_of_lt Nat.and_le_left dc))) (vi (b:=pk i (ib (E i)) (x.1+1)) (pk_or (fun e=>by rw [← e]; unfold ib; rw [hiv]; rfl) dc))) ?_;refine oA (KC (KA ?_));refine oP (KF rfl rfl (Kj (b:=1) om)) (oM (KC ?_))
   exact ⟨(x.1+1,r1),by dsimp only; omega,by dsimp only; omega,KY ⟨rfl,rfl,rfl,rfl,rfl,rfl,rfl,rfl,rfl,trivial⟩ mS⟩
  have h37:¬ x.1<n:=h37
  refine KZ (KB ?_)
  have hx1n:x.1 = n:=by omega
  rw [hx1n,pk_last hi,pk_last hi,pk_last hi]
  refine KA (oM ?_);refine oP (KJ (KF rfl rfl (KAG (b:=1))) (congrArg Value.bool (ib_eq (E i)))) (oP (KD (o':=18) u47 rfl rfl rfl sz_4 dc) ?_);refine LOps.step rfl (KW rfl rfl rfl sz_4 mT (by rw [Kb]; decide) (by exact pt_set2 _ _ _ _) (by simp) ?_);refine KC (KB (KA (oD dNb ?_)));refine LOps.step rfl (sA rfl rfl sz_47 (by exact KAN _ _ _) (hl:=by exact Kb _ _ _) (h:=?_));refine oP (KO (v:=.int .i64 ((0:Nat):Int)) rfl) (KC (KM ?_))
  exact ⟨[_,_],.cons ⟨_,_,_,rfl,mM,by exact KE u47 rfl sz_47⟩ (.cons rfl .nil),fun a w' hr=>hr.tr mM⟩
end Go.Proofs.YtnpeokiboiclfaaGreat
set_option linter.unusedVariables false
set_option linter.unusedSimpArgs false
set_option maxRecDepth 20000
namespace Go.Proofs.YtnpeokiboiclfaaGreat
open Go Go.RowKit
open Grp
def dg (K m i:Nat):Nat:=K/2^((m-1-i)*4)%16
theorem dg_lt (K m i:Nat):dg K m i<16:=Nat.mod_lt _ dc
theorem and15 (A:Nat):limb A 0 &&& 15 = A%16:=by
  rw [show 15 = 2^4-1 from rfl,Nat.and_two_pow_sub_one_eq_mod]
  unfold limb
  rw [Nat.mul_zero,Nat.pow_zero,Nat.div_one,show (2:Nat)^4 = 16 from rfl]
  omega
theorem vec_snoc {k:IntKind} {f:Nat→Nat} {n x:Nat} (h:x = f n) (rest:List Value):(vec k n f++[Value.int k ((x:Nat):Int)])++rest = vec k (n+1) f++rest:=by
  subst h
  congr 1
  simp [vec,List.range_succ]
theorem vec_first {k:IntKind} {f:Nat→Nat} {x:Nat} (h:x = f 0) (rest:List Value):[Value.int k ((x:Nat):Int)]++rest = vec k (0+1) f++rest:=by
  subst h; rfl
structure DigS where
  j:Nat
  bd:Nat
  cap:Nat
  rest:List Value
theorem dig_cases (x:Option DigS) (m:Nat):x = none∨(∃ j bd cap rest,x = some ⟨j,bd,cap,rest⟩∧j<m)∨(∃ j bd cap rest,x = some ⟨j,bd,cap,rest⟩∧m≤j):=by
  rcases x with _|⟨j,bd,cap,rest⟩
  · exact .inl rfl
  · rcases Nat.lt_or_ge j m with h|h
    · exact .inr (.inl ⟨j,bd,cap,rest,rfl,h⟩)
    · exact .inr (.inr ⟨j,bd,cap,rest,rfl,h⟩)
theorem Brings.one {w w':World} {b:Nat} {B:Blk} (hb:Below w.heap.size w w') (h1:(Item.blk b B).holds w') (n1:w.heap.size≤b):Brings w [] [.blk b B] w':=by
  have key:∀ x,x∈[Item.blk b B]→∀ k,k∈x.fp→w.heap.size≤k:=fun x hx k hk=>by
    obtain rfl:x = _:=by simpa using hx
    obtain rfl:k = b:=by simpa [Item.fp] using hk
    exact n1
  exact ⟨hb, fun x hx => (by obtain rfl : x = _ := by simpa using hx
                             exact h1),fun x hx k hk=>.inl (key x hx k hk),fun x hx _=>key x hx,List.pairwise_singleton _ _⟩
theorem c_wide4  (w:World)  : CF Tryz.prog 182 [.int .i64 ((4:Nat):Int)] w (.bool true):=by
  refine KV (N:=9) (rs:=[.tmp 2]) [] Tryz.func182 rfl Tryz.ntmps182 Tryz.results182 (Nb rfl) trivial rfl ?_
  refine KB (KA (oA (KC (KB (KA (oM ?_))))));refine oP (KF (v:=.bool true) rfl rfl (br_t (KBD (b:=1)) dc)) (oM ?_);refine oGM ?_;refine oGP (KF (v:=.bool true) rfl rfl (br_t (br_leq (b:=6)) dc)) (oP (Kg rfl rfl) (oA (KC (KM ?_))));refine eN (.cons rfl .nil) ?_
  rfl
theorem c_Digits (K B m:Nat) (hK:K<W9) (hB:1≤B) (hB2:B≤576) (hKB:blen K≤B) (hm:(B+3)/4 = m) (w:World)  : Calls Tryz.prog 141 ([natV K,.int .i64 ((B:Nat):Int),.int .i64 ((4:Nat):Int)]:List Value).toArray w (fun e w'=>∃ v its,(fun v its=>∃ bd cap rest,v = .tuple #[.slice (some ⟨bd,0,none⟩) m cap,.int .i64 ((0:Nat):Int)]∧its = [.blk bd ⟨true,vec .i64 (m) (dg K m)++rest,3,(0,0)⟩]) v its∧e = .returned v∧Brings w [] its w'):=by
  refine KV (N:=61) (rs:=[.tmp 6,.tmp 7]) [] Tryz.func141 rfl Tryz.ntmps141 Tryz.results141 (Nb rfl) trivial rfl ?_
  refine KB (KA (oS (mB (fun b3=>?_))));refine oA ?_;refine oP (KO (v:=.int .i64 ((0:Nat):Int)) rfl) (KC (KB (KB (KA (oM ?_)))));refine oS (cF rfl en_182 rfl (fun w hw=>c_wide4 w) ?_);refine oP (KJ (KAH rfl) (show _ = Value.bool false from rfl)) (oM ?_);refine oGM ?_;refine oGP (KF (v:=.bool false) rfl rfl (br_f (Kr (b:=1)) om)) (oP (KU rfl rfl) (oM ?_));refine oGM ?_;refine oGP (KF (v:=.bool false) rfl rfl (br_f (KAV (b:=576)) om)) (oP (KU rfl rfl) (oM ?_));refine Kz rfl rfl dNa (Nb rfl) ?_;refine oGS (cF rfl en_81 rfl (fun w hw=>KBq K hK w) ?_);refine oGM ?_;refine oGP (KF (v:=.bool false) rfl rfl (br_f KAV om)) (oP (KU rfl rfl) (KC (KH rfl (KN (KB (KA (oA (KC (KB (KB (KA (oM (oM ?_)))))))))))));refine oP (KF rfl rfl (Kj om)) (oP (KF rfl rfl (KAX (b:=1) om om)) (oM ?_));refine oP (KJ (KF rfl rfl (KCp (b:=4) om om)) (vi (b:=m) om)) (oP (KF (v:=.int .i64 (((m:Nat):Int)-1)) rfl rfl (KCO om om)) (oA (KC (LCode.block ?_))))
  refine Kc (α:=Option DigS) (fun x=>match x with|none=>True|some y=>1≤y.j∧y.j≤m∧y.j+y.rest.length = y.cap) (fun x=>match x with|none=>⟨[(1,.int .i64 ((B:Nat):Int)),(2,.int .i64 ((4:Nat):Int)),(3,.pointer (some ⟨b3,0,none⟩)),(8,.slice none 0 0),(9,.int .i64 (((m:Nat):Int)-1))],[.blk b3 ⟨true,natL K,33,(0,0)⟩]⟩|some y=>⟨[(1,.int .i64 ((B:Nat):Int)),(2,.int .i64 ((4:Nat):Int)),(3,.pointer (some ⟨b3,0,none⟩)),(8,.slice (some ⟨y.bd,0,none⟩) y.j y.cap),(9,.int .i64 (((m-y.j:Nat):Int)-1))],[.blk y.bd ⟨true,vec .i64 (y.j) (dg K m)++y.rest,3,(0,0)⟩,.blk b3 ⟨true,natL K,33,(0,0)⟩]⟩) (fun x=>match x with|none=>m+1|some y=>m-y.j) (none) (trivial) (KY ⟨rfl,rfl,rfl,rfl,rfl,trivial⟩ mS) ?_
  intro x hx
  refine KB (KB ?_)
  rcases dig_cases x m with rfl|⟨j,bd,cap,rest,rfl,hjm⟩|⟨j,bd,cap,rest,rfl,hjm⟩
  ·
   obtain ⟨z,hz⟩:∃ z,m = z+1:=⟨m-1,by omega⟩
   refine KA (oM ?_);refine oP (KF (v:=.bool true) rfl rfl (by simp [Ko]; omega)) ?_;refine KC (KT rfl (KN (KB (LCode.block (KB (KA (oD dNa ?_)))))));refine oP (Kd (v:=.int .i64 ((z:Nat):Int)) (by show some _ = some _; congr 2; omega)) ?_;refine oM ?_;refine oP (KF rfl rfl (KCJ om)) (oP (KJ (Det.min rfl rfl) (show _ = Value.int .i64 ((z*4:Nat):Int) by rw [if_neg om])) (oS (cF rfl en_83 rfl (fun w hw=>c_nat_Shr K (z*4) hK om w) ?_)));refine oM ?_;refine oX ?_;refine oX ?_;refine oS (mk (KK zr_33) (fun b10=>?_));refine LOps.step rfl (sA rfl rfl sz_33 mO (hl:=mL) (h:=?_));refine oA (KC (rD [10] ?_));refine aM 0 ?_;refine aP 1 rfl (KD (o':=0) u33 rfl rfl rfl sz_31 dc) (aP 2 rfl (KP (i:=0) u31 sz_30 rfl rfl dc) (aM 4 ?_));refine aP 5 rfl (KJ (KF rfl rfl (KCD (a:=1) (b:=4))) (vi (b:=16) dc)) (aP 6 rfl (KJ (KF rfl rfl (KBQ (a:=16) (b:=1) dc)) (vi (b:=15) dc)) (aO 3 rfl (LStep.det (dL rfl (hv:=KI u30 rfl (by exact KAW _ dc))) (Nb rfl) ?_)))
   refine aP 7 rfl (KJ (KF rfl rfl (KBJ (b:=15) (limb_lt _ _) dc)) (vi (b:=K/2^(z*4)%16) (and15 _))) (aP 8 rfl (KBL u30 u3 rfl om) (aO 9 rfl (mk (KAK u76 inf_3 rfl rfl rfl rfl dc rfl) (fun b58=>?_))));refine aL 10 rfl (LStepW.appendNil (news:=[.int .i64 ((K/2^(z*4)%16:Nat):Int)]) rfl rfl u76 inf_3 rfl mM rfl dc dc dc (Nb rfl) ?_)
   intro b1 cap1 rest1 hc1
   refine aA 11 ?_;refine aE (KA ?_);refine oP (Kd (v:=.int .i64 ((z:Nat):Int)) (by show some _ = some _; congr 2; omega)) ?_;refine oP (KF (v:=.int .i64 (((z:Nat):Int)-1)) rfl rfl (KCO om om)) (oA (KC ?_))
   obtain rfl:m-(0+1) = z:=by omega
   exact ⟨some ⟨0+1,b1,cap1,rest1⟩,⟨Nat.le_refl _,by show 0+1≤m; omega,by show 0+1+rest1.length = cap1; have h1:=hc1; simp at h1; omega⟩,by show m-(0+1)<m+1; omega,KAB (Sub.cells (b:=b1) (cs':=vec .i64 (0+1) (dg K m)++rest1) mT (vec_first rfl _)) (KY ⟨rfl,rfl,rfl,rfl,rfl,trivial⟩ mS)⟩
  ·
   obtain ⟨hj1,hjn,hcap⟩:=hx
   dsimp only at hj1 hjn hcap
   dsimp only
   obtain ⟨z,hz⟩:∃ z,m-j = z+1:=⟨m-j-1,by omega⟩
   refine KA (oM ?_);refine oP (KF (v:=.bool true) rfl rfl (by simp [Ko]; omega)) ?_;refine KC (KT rfl (KN (KB (LCode.block (KB (KA (oD dNa ?_)))))));refine oP (Kd (v:=.int .i64 ((z:Nat):Int)) (by show some _ = some _; congr 2; omega)) ?_;refine oM ?_;refine oP (KF rfl rfl (KCJ om)) (oP (KJ (Det.min rfl rfl) (show _ = Value.int .i64 ((z*4:Nat):Int) by rw [if_neg om])) (oS (cF rfl en_83 rfl (fun w hw=>c_nat_Shr K (z*4) hK om w) ?_)));refine oM ?_;refine oX ?_;refine oX ?_;refine oS (mk (KK zr_33) (fun b10=>?_));refine LOps.step rfl (sA rfl rfl sz_33 mO (hl:=mL) (h:=?_));refine oA (KC (rD [10] ?_));refine aM 0 ?_;refine aP 1 rfl (KD (o':=0) u33 rfl rfl rfl sz_31 dc) (aP 2 rfl (KP (i:=0) u31 sz_30 rfl rfl dc) (aM 4 ?_));refine aP 5 rfl (KJ (KF rfl rfl (KCD (a:=1) (b:=4))) (vi (b:=16) dc)) (aP 6 rfl (KJ (KF rfl rfl (KBQ (a:=16) (b:=1) dc)) (vi (b:=15) dc)) (aO 3 rfl (LStep.det (dL rfl (hv:=KI u30 rfl (by exact KAW _ dc))) (Nb rfl) ?_)))
   refine aP 7 rfl (KJ (KF rfl rfl (KBJ (b:=15) (limb_lt _ _) dc)) (vi (b:=K/2^(z*4)%16) (and15 _))) (aP 8 rfl (KBL u30 u3 rfl om) (aO 9 rfl (mk (KAK u76 inf_3 rfl rfl rfl rfl dc rfl) (fun b58=>?_))));refine aL 10 rfl (LStepW.append (xs:=vec .i64 j (dg K m)) (rest:=rest) (news:=[.int .i64 ((K/2^(z*4)%16:Nat):Int)]) rfl rfl u76 inf_3 rfl mP mM (KS _ _ _) (by rw [KS]; exact hcap) rfl (Kl rfl Ku) om om (Nb rfl) ?_)
   intro b1 cap1 rest1 hc1
   refine aA 11 ?_;refine aE (KA ?_);refine oP (Kd (v:=.int .i64 ((z:Nat):Int)) (by show some _ = some _; congr 2; omega)) ?_;refine oP (KF (v:=.int .i64 (((z:Nat):Int)-1)) rfl rfl (KCO om om)) (oA (KC ?_))
   obtain rfl:m-(j+1) = z:=by omega
   exact ⟨some ⟨j+1,b1,cap1,rest1⟩,⟨by show 1≤j+1; omega,by show j+1≤m; omega,by show j+1+rest1.length = cap1; have h1:=hc1; rw [KS] at h1; exact h1⟩,by show m-(j+1)<m-j; omega,KAB (Sub.cells (b:=b1) (cs':=vec .i64 (j+1) (dg K m)++rest1) mT (vec_snoc (by unfold dg; rw [show m-1-j = m-(j+1) by omega]) _)) (KY ⟨rfl,rfl,rfl,rfl,rfl,trivial⟩ mS)⟩
  obtain ⟨hj1,hjn,hcap⟩:=hx
  dsimp only at hj1 hjn hcap
  dsimp only
  refine KA (oM ?_);refine oP (KF (v:=.bool false) rfl rfl (by simp [Ko]; omega)) ?_;refine KC (KH rfl (KZ (KB (KA (oM (oA ?_))))));refine oP (KO (v:=.int .i64 ((0:Nat):Int)) rfl) (KC (KM ?_))
  obtain rfl:j = m:=by omega
  exact ⟨[_,_],.cons rfl (.cons rfl .nil),fun a w' hr=>⟨_,_,⟨bd,cap,rest,rfl,rfl⟩,rfl,Brings.one hr.fr.below (hr.hp (.blk bd ⟨true,_,_,_⟩) mM) (hr.new (b:=bd) (B:=⟨true,_,_,_⟩) mM rfl)⟩⟩
def evN:Nat→List Nat
  | 0=>[]
  | n+1=>evN n++List.range 16
theorem KCt:∀ n,(evN n).length = n*16
  | 0=>rfl
  | n+1=>by show (evN n++List.range 16).length = _; rw [List.length_append,KCt n,List.length_range]; omega
structure MulS (p:Nat) where
  i:Nat
  T:Fin p×Fin p×Fin p
  r:TrRow
theorem mul_top {V:Cv} (hok:V.Ok) {P:Pt V.p} {K m:Nat} (hK:K<V.n) (hm:(blen V.n+3)/4 = m):RepT V (tripF (.inf:Pt V.p)) (pmul V.A P (K/2^((m-0)*4))):=by
  have h1:=KCl V.n
  have h2:2^blen V.n≤2^((m-0)*4):=Nat.pow_le_pow_right dc om
  rw [Nat.div_eq_of_lt (Nat.lt_of_lt_of_le (Nat.lt_trans hK h1) h2)]
  exact KBU hok trivial
theorem mul_twice {V:Cv} (hok:V.Ok) {P:Pt V.p} (hP:On V.A V.B P) {q j:Nat} {T:Fin V.p×Fin V.p×Fin V.p} (h:RepT V T (pmul V.A P (q*2^j))):RepT V (sumT V T T) (pmul V.A P (q*2^(j+1))):=by
  have:=RepT.sum hok h h
  rwa [← pmul_add hok.crv hP,← Nat.mul_two,Nat.mul_assoc,← Nat.pow_succ] at this
theorem mul_digit {V:Cv} (hok:V.Ok) {P:Pt V.p} (hP:On V.A V.B P) {K m i:Nat} (hi:i<m) {T:Fin V.p×Fin V.p×Fin V.p} (h:RepT V T (pmul V.A P (K/2^((m-i)*4)*2^4))):RepT V (sumT V T (tripF (mulE V P (dg K m i)))) (pmul V.A P (K/2^((m-(i+1))*4))):=by
  have:=RepT.sum hok h (KBU hok (hok.mul hP (dg K m i)))
  rw [← pmul_add hok.crv hP] at this
  have e:K/2^((m-i)*4)*2^4+dg K m i = K/2^((m-(i+1))*4):=by
    unfold dg
    rw [show m-1-i = m-(i+1) by omega,show (m-i)*4 = (m-(i+1))*4+4 by omega,Nat.pow_add,← Nat.div_div_eq_div_mul,show (2:Nat)^4 = 16 from rfl]
    generalize K/2^((m-(i+1))*4) = N
    omega
  rwa [e] at this
theorem mul_all {V:Cv} {P:Pt V.p} {K m i:Nat} {T:Fin V.p×Fin V.p×Fin V.p} (hi:i = m) (h:RepT V T (pmul V.A P (K/2^((m-i)*4)))):RepT V T (pmul V.A P K):=by
  subst hi
  rwa [Nat.sub_self,Nat.zero_mul,Nat.pow_zero,Nat.div_one] at h
theorem dig_get {K m i:Nat} {rest:List Value} (h:i<m):(vec .i64 m (dg K m)++rest)[i+0]? = some (.int .i64 ((dg K m i:Nat):Int)):=by
  rw [Nat.add_zero,List.getElem?_append_left (by rw [KS]; exact h)]
  exact Kh _ _ _ h
theorem c_mTimes (tb:Option Nat) (tr:TrRow) (l:List Nat) (V:Cv) (b f bd:Nat) (hok:V.Ok) (K m:Nat) (P:Pt V.p) (bt br cap:Nat) (rest:List Value) {wr1 wr2:Bool} (hP:On V.A V.B P) (hK:K<V.n) (hm:(blen V.n+3)/4 = m) (w:World) (h0:(trI tb tr l).holds w) (hl:l.length≤80000000) (hb:(Item.blk b ⟨false,opL V f,100,(0,0)⟩).holds w) (hf:(Item.blk f ⟨false,fldL V.p bd,165,(0,0)⟩).holds w) (hbd:(Item.blk bd ⟨false,dvL V.p,269,(0,0)⟩).holds w) (h1:(Item.blk bt ⟨wr1,[.slice (some ⟨br,0,none⟩) 16 cap],220,(0,0)⟩).holds w) (h2:(Item.blk br ⟨wr2,tabL (mulE V (P)) 16++rest,47,(0,0)⟩).holds w) (o0:Out tb tr (Item.blk b ⟨false,opL V f,100,(0,0)⟩)) (o1:Out tb tr (Item.blk f ⟨false,fldL V.p bd,165,(0,0)⟩)) (o2:Out tb tr (Item.blk bd ⟨false,dvL V.p,269,(0,0)⟩)) (n1:Out tb tr (Item.blk bt ⟨wr1,[.slice (some ⟨br,0,none⟩) 16 cap],220,(0,0)⟩)) (n2:Out tb tr (Item.blk br ⟨wr2,tabL (mulE V (P)) 16++rest,47,(0,0)⟩)):Calls Tryz.prog 87 ([trV tb,.pointer (some ⟨b,0,none⟩),natV K,.pointer (some ⟨bt,0,none⟩)]:List Value).toArray w (fun e w'=>TrR w tb tr (l++evN m) (ptP (pmul V.A P K)) e w'):=by
  have hbb:=hok.bounds
  have hnW:V.n<W9:=KAF hbb.2.2.2.2.2.2.1
  have hbl:=KAn hnW
  have hK9:=Nat.lt_trans hK hnW
  have hkb:blen K≤blen V.n:=KBE (Nat.lt_trans hK (KCl _))
  have hbl1:1≤blen V.n:=Nat.pos_of_ne_zero (KCz om)
  refine calls_tr (N:=56) (rs:=[.cell 8 47]) tb tr l [.blk b ⟨false,opL V f,100,(0,0)⟩,.blk f ⟨false,fldL V.p bd,165,(0,0)⟩,.blk bd ⟨false,dvL V.p,269,(0,0)⟩,.blk bt ⟨false,[.slice (some ⟨br,0,none⟩) 16 cap],220,(0,0)⟩,.blk br ⟨false,tabL (mulE V (P)) 16++rest,47,(0,0)⟩] Tryz.func87 rfl Tryz.ntmps87 Tryz.results87 (Nb rfl) h0 ⟨hb,hf,hbd,h1,h2,trivial⟩ rfl ⟨o0,o1,o2,n1,n2,trivial⟩ ?_
  refine KB (KA (oS (mB (fun b6=>?_))));refine oS (mk (KK zr_47) (fun b8=>?_));refine KC (KB (rD [] (aD 0 rfl dNa ?_)));refine aM 1 ?_;refine aP 2 rfl (KG rfl) (aP 3 rfl (KD (o':=0) u100 rfl rfl rfl sz_53 dc) (aP 4 rfl (KD (o':=56) u53 rfl rfl rfl sz_3 dc) (aD 5 rfl (dL rfl (hv:=KI u3 rfl (by exact KCy _ _ _ _ _ _ _ _ _ _ _ _ _))) ?_)));refine aO 6 rfl (cC rfl en_141 rfl (fun w hw=>bringsC (c_Digits K (blen V.n) m hK9 hbl1 om hkb hm w) _) ?_)
  rintro _ _ ⟨ds,dcap,drest,rfl,rfl⟩
  refine aM 7 ?_;refine aP 8 rfl (Det.extract rfl rfl) (aP 9 rfl (Det.extract rfl rfl) (aA 10 ?_));refine aA 11 ?_;refine aE (KB (KA (oS (cF rfl en_99 rfl (fun w hw=>c_NoneF hok w) ?_))));refine oS (mk (KK KDD) (fun b11=>?_));refine LOps.step rfl (sA rfl rfl KAJ (by exact KBC _) (hl:=by exact Kx _) (h:=?_));refine KC (KB (KB (KA (oM ?_))));refine oP (KBF u76 rfl) (oP (Kd (v:=.int .i64 ((0:Nat):Int)) rfl) (KC (LCode.block ?_)));refine Kc (α:=MulS V.p) (fun x=>x.i≤m∧RepT V x.T (pmul V.A P (K/2^((m-x.i)*4)))) (fun x=>⟨[(0,trV tb),(1,.pointer (some ⟨b,0,none⟩)),(3,.pointer (some ⟨bt,0,none⟩)),(8,.pointer (some ⟨b8,0,none⟩)),(11,.pointer (some ⟨b11,0,none⟩)),(27,.slice (some ⟨ds,0,none⟩) m dcap),(28,.int .i64 ((m:Nat):Int)),(29,.int .i64 ((x.i:Nat):Int))],[trI tb (x.r) (l++evN x.i),.blk b11 ⟨true,pjFL x.T,135,(0,0)⟩,.blk b8 ⟨true,vec .u64 9 (fun _=>0)++(vec .u64 9 (fun _=>0)++[Value.bool false]),47,(0,0)⟩,.blk ds ⟨true,vec .i64 (m) (dg K m)++drest,3,(0,0)⟩,.blk b ⟨false,opL V f,100,(0,0)⟩,.blk f ⟨false,fldL V.p bd,165,(0,0)⟩,.blk bd ⟨false,dvL V.p,269,(0,0)⟩,.blk bt ⟨false,[.slice (some ⟨br,0,none⟩) 16 cap],220,(0,0)⟩,.blk br ⟨false,tabL (mulE V (P)) 16++rest,47,(0,0)⟩]⟩) (fun x=>m-x.i) (⟨0,tripF (.inf:Pt V.p),tr⟩) (⟨Nat.zero_le _,mul_top hok hK hm⟩) (by dsimp only [evN]; rw [List.append_nil]; exact KY ⟨rfl,rfl,rfl,rfl,rfl,rfl,rfl,rfl,trivial⟩ mS) ?_
  rintro x ⟨hx1,hx2⟩
  refine KB (KA (oP (KF rfl rfl (Kr)) (KC (KB ?_))))
  first|refine KQ rfl (fun h30=>?_) (fun h30=>?_)|refine KR rfl (fun h30=>?_) (fun h30=>?_)
  ·
   have h30:x.i<m:=h30
   refine KN (KB (LCode.block (KB (KA (oP (Det.indexS u76 sz_3 rfl rfl om) (oD (dL rfl (hv:=KI u3 rfl (by exact dig_get om))) ?_))))));refine oA (KC (KB (KB (KA ?_))));refine oP (Kd (v:=.int .i64 ((0:Nat):Int)) rfl) (KC (LCode.block ?_));refine Kc (α:=Nat×(Fin V.p×Fin V.p×Fin V.p)) (fun y=>y.1≤4∧RepT V y.2 (pmul V.A P (K/2^((m-x.i)*4)*2^y.1))) (fun y=>⟨[(13,.int .i64 ((dg K m x.i:Nat):Int)),(33,.int .i64 ((y.1:Nat):Int)),(0,trV tb),(1,.pointer (some ⟨b,0,none⟩)),(3,.pointer (some ⟨bt,0,none⟩)),(8,.pointer (some ⟨b8,0,none⟩)),(11,.pointer (some ⟨b11,0,none⟩)),(27,.slice (some ⟨ds,0,none⟩) m dcap),(28,.int .i64 ((m:Nat):Int)),(29,.int .i64 ((x.i:Nat):Int))],[trI tb (x.r) (l++evN x.i),.blk b11 ⟨true,pjFL y.2,135,(0,0)⟩,.blk b8 ⟨true,vec .u64 9 (fun _=>0)++(vec .u64 9 (fun _=>0)++[Value.bool false]),47,(0,0)⟩,.blk ds ⟨true,vec .i64 (m) (dg K m)++drest,3,(0,0)⟩,.blk b ⟨false,opL V f,100,(0,0)⟩,.blk f ⟨false,fldL V.p bd,165,(0,0)⟩,.blk bd ⟨false,dvL V.p,269,(0,0)⟩,.blk bt ⟨false,[.slice (some ⟨br,0,none⟩) 16 cap],220,(0,0)⟩,.blk br ⟨false,tabL (mulE V (P)) 16++rest,47,(0,0)⟩]⟩) (fun y=>4-y.1) ((0,x.T)) (⟨Nat.zero_le _,by dsimp only; rw [Nat.pow_zero,Nat.mul_one]; exact hx2⟩) (KY ⟨rfl,rfl,rfl,rfl,rfl,rfl,rfl,rfl,rfl,rfl,trivial⟩ mS) ?_
   rintro y ⟨hy1,hy2⟩
   refine KB (KA (oP (KF rfl rfl (Kr (b:=4))) (KC (KB ?_))))
   first|refine KQ rfl (fun h34=>?_) (fun h34=>?_)|refine KR rfl (fun h34=>?_) (fun h34=>?_)
   ·
    have h34:y.1<4:=h34
    refine KN (KB (LCode.block (KA (oM ?_))));refine oD (dL rfl (hv:=by exact KE u135 rfl KAJ)) ?_;refine oD (dL rfl (hv:=by exact KE u135 rfl KAJ)) ?_;refine oS (cF rfl en_100 rfl (fun w hw=>c_SumT V b f bd hok (y.2) (y.2) w (mC hw) (mC hw) (mC hw)) ?_);refine LOps.step rfl (sA rfl rfl KAJ (by exact KBC _) (hl:=by exact Kx _) (h:=?_));refine KC (KA (oP (KF rfl rfl (Kj (b:=1) om)) (oM (KC ?_))))
    exact ⟨(y.1+1,sumT V y.2 y.2),⟨by dsimp only; omega,mul_twice hok hP hy2⟩,by dsimp only; omega,KY ⟨rfl,rfl,rfl,rfl,rfl,rfl,rfl,rfl,rfl,rfl,trivial⟩ mS⟩
   have h34:¬ y.1<4:=h34
   refine KZ (KB ?_)
   obtain ⟨j,T⟩:=y
   obtain rfl:j = 4:=by omega
   refine KA (oM (oM (oM ?_)));refine LOps.step rfl (KAw (first:=[]) (r:=x.r) (l:=l++evN x.i) (l':=l++evN (x.i+1)) rfl en_142 rfl (Nb rfl) mP (fun w hw hn=>by rw [show l++evN (x.i+1) = (l++evN x.i)++List.range 16 from (List.append_assoc _ _ _).symm]; exact c_tabPick tb x.r _ bt br cap rest V hok (mulE V (P)) 16 (dg K m x.i) (dg_lt _ _ _) dc w (mC hw) (mC hw) (mC hw) (hn _ mM) (hn _ mM) (by rw [List.length_append,KCt]; omega)) ?_)
   intro r1
   refine oM ?_;refine oX ?_;refine oX ?_;refine oS (mk (KK zr_47) (fun b14=>?_));refine LOps.step rfl (sA rfl rfl sz_47 mO (hl:=by exact Kb _ _ _) (h:=?_));refine oA (KC (rD [5] ?_));refine aM 0 ?_;refine aD 1 rfl (dL rfl (hv:=by exact KE u135 rfl KAJ)) ?_;refine aD 2 rfl dNb ?_;refine aO 3 rfl (cF rfl en_67 rfl (fun w hw=>c_Triple V hok (mulE V (P) (dg K m x.i)) w) ?_);refine aO 4 rfl (cF rfl en_100 rfl (fun w hw=>c_SumT V b f bd hok (T) (tripF (mulE V (P) (dg K m x.i))) w (mC hw) (mC hw) (mC hw)) ?_);refine aL 5 rfl (sA rfl rfl KAJ (by exact KBC _) (hl:=by exact Kx _) (h:=?_));refine aE (KA (oP (KF rfl rfl (Kj (b:=1) om)) (oM (KC ?_))))
   exact ⟨⟨x.i+1,sumT V T (tripF (mulE V (P) (dg K m x.i))),r1⟩,⟨by dsimp only; omega,mul_digit hok hP h30 hy2⟩,by dsimp only; omega,KY ⟨rfl,rfl,rfl,rfl,rfl,rfl,rfl,rfl,trivial⟩ mS⟩
  have h30:¬ x.i<m:=h30
  refine KZ (KB ?_)
  have hxm:x.i = m:=by omega
  refine KA (oM ?_);refine oD (dL rfl (hv:=by exact KE u135 rfl KAJ)) ?_;refine oS (cF rfl en_65 rfl (fun w hw=>c_PlainT V b f bd hok (x.T) (pmul V.A P K) w (mC hw) (mC hw) (mC hw) (mul_all hxm hx2)) ?_);refine LOps.step rfl (sA rfl rfl sz_47 mO (hl:=by simp [Kb,KS]) (h:=?_));refine KC (KM ?_)
  exact ⟨[_],.cons ⟨_,_,_,rfl,mM,by exact KE u47 rfl sz_47⟩ .nil,fun a w' hr=>by
    have hq:=hr.tr (v:=ptP (pmul V.A P K)) (r':=x.r) (l:=l++evN x.i) mM
    rwa [hxm] at hq⟩
open Grp
theorem c_mMul (tb:Option Nat) (tr:TrRow) (l:List Nat) (id:Int) (V:Cv) (K:Nat) (P:Pt V.p) (m:Nat) (hm:(blen V.n+3)/4 = m) (w:World) (h:cvI id = some V) (hP:On V.A V.B P) (hK:K<V.n) (h0:(trI tb tr l).holds w) (hl:l.length≤80000000):Calls Tryz.prog 58 ([trV tb,.int .i64 id,natV K,ptP P]:List Value).toArray w (fun e w'=>TrR w tb tr (l++evN m) (.tuple #[ptP (pmul V.A P K),.int .i64 ((0:Nat):Int)]) e w'):=by
  obtain ⟨hok,hid⟩:=KBT h
  have hbb:=hok.bounds
  have hpW:V.p<W9:=KAF hbb.2.1
  have hnW:V.n<W9:=KAF hbb.2.2.2.2.2.2.1
  have hbl:=KAn hnW
  have hnb:nby V.n≤72:=by (unfold nby; omega)
  refine calls_tr (N:=40) (rs:=[.cell 8 47,.tmp 9]) tb tr l [] Tryz.func58 rfl Tryz.ntmps58 Tryz.results58 (Nb rfl) h0 trivial rfl trivial ?_
  refine KB (KA (oS (mB (fun b6=>?_))));refine oS (mB (fun b7=>?_));refine oS (mk (KK zr_47) (fun b8=>?_));refine oP (KO (v:=.int .i64 ((0:Nat):Int)) rfl) (KC (KB (KA (oM ?_))));refine oS (oOpen h rfl rfl (fun b f bd=>?_));refine oA (KC (KB (LCode.block (KB (KA (oM ?_))))));refine oP (KJ (KAR u81 rfl rfl) (show _ = Value.bool false from rfl)) (oA (KC ?_));refine KH rfl (KB (KA (oM ?_)));refine oD dNb ?_;refine oS (cF rfl en_55 rfl (fun w hw=>c_cOnP V b f bd hok (P) w (mC hw) (mC hw) (mC hw) hP) ?_);refine oP (KJ (KAH rfl) (show _ = Value.bool false from rfl)) (oA (KC ?_));refine KH rfl (KB (rD [] (aD 0 rfl dNa ?_)));refine aM 1 ?_;refine aP 2 rfl (KG rfl) (aP 3 rfl (KD (o':=0) u100 rfl rfl rfl sz_53 dc) (aP 4 rfl (KD (o':=28) u53 rfl rfl rfl sz_33 dc) (aD 5 rfl (dL rfl (hv:=by exact KBY _ _ _ _ _ _ _ _ _ _ _ _ _ _ _ _)) ?_)))
  refine aO 6 rfl (cF rfl en_46 rfl (fun w hw=>KBZ K V.n (Nat.lt_trans hK hnW) hnW w) ?_);refine aP 7 rfl (KF (v:=.bool false) rfl rfl (br_f cmp_geq (Nat.not_le_of_gt hK))) (aA 8 ?_);refine aE (KH rfl (KN (KB (rD [6,7] (aM 0 ?_)))));refine aM 1 ?_;refine aD 2 rfl dNa ?_;refine aM 3 ?_;refine aO 4 rfl (LStep.det dNb (Nb rfl) ?_);refine aO 5 rfl (cC rfl en_88 rfl (fun w hw=>bringsC (c_tabOf V b f bd hok (P) hP 16 dc dc w (mC hw) (mC hw) (mC hw)) _) ?_)
  rintro _ _ ⟨bt,br,cap,rest,rfl,rfl⟩
  refine aL 6 rfl (KAw (first:=[]) (r:=tr) (l:=l) (l':=l++evN m) rfl en_87 rfl (Nb rfl) mP (fun w hw hn=>c_mTimes tb tr l V b f bd hok K m (P) bt br cap rest hP hK hm w (mC hw) hl (mC hw) (mC hw) (mC hw) (mC hw) (mC hw) (hn _ mM) (hn _ mM) (hn _ mM) (hn _ mM) (hn _ mM)) ?_)
  intro r1
  refine aL 7 rfl (sA rfl rfl sz_47 (by exact KAN _ _ _) (hl:=by simp [Kb,KS]) (h:=?_));refine aP 8 rfl (KO (v:=.int .i64 ((0:Nat):Int)) rfl) (aE (KM ?_))
  exact ⟨[_,_],.cons ⟨_,_,_,rfl,mM,by exact KE u47 rfl sz_47⟩ (.cons rfl .nil),fun a w' hr=>hr.tr mM⟩
theorem c_bTimes (tb:Option Nat) (tr:TrRow) (l:List Nat) (V:Cv) (b f bd:Nat) (hok:V.Ok) (K:Nat) (hK:K<V.n) (m:Nat) (hm:(blen V.n+3)/4 = m) (w:World) (h0:(trI tb tr l).holds w) (hl:l.length≤80000000) (hb:(Item.blk b ⟨false,opL V f,100,(0,0)⟩).holds w) (hf:(Item.blk f ⟨false,fldL V.p bd,165,(0,0)⟩).holds w) (hbd:(Item.blk bd ⟨false,dvL V.p,269,(0,0)⟩).holds w) (o0:Out tb tr (Item.blk b ⟨false,opL V f,100,(0,0)⟩)) (o1:Out tb tr (Item.blk f ⟨false,fldL V.p bd,165,(0,0)⟩)) (o2:Out tb tr (Item.blk bd ⟨false,dvL V.p,269,(0,0)⟩)):Calls Tryz.prog 42 ([trV tb,.pointer (some ⟨b,0,none⟩),natV K]:List Value).toArray w (fun e w'=>TrR w tb tr (l++evN m) (ptP (pmul V.A V.G K)) e w'):=by
  refine calls_tr (N:=18) (rs:=[.cell 6 47]) tb tr l [.blk b ⟨false,opL V f,100,(0,0)⟩,.blk f ⟨false,fldL V.p bd,165,(0,0)⟩,.blk bd ⟨false,dvL V.p,269,(0,0)⟩] Tryz.func42 rfl Tryz.ntmps42 Tryz.results42 (Nb rfl) h0 ⟨hb,hf,hbd,trivial⟩ rfl ⟨o0,o1,o2,trivial⟩ ?_
  refine KB (KA (oS (mB (fun b5=>?_))));refine oS (mk (KK zr_47) (fun b6=>?_));refine KC (KB (rD [10,11] (aM 0 ?_)));refine aM 1 ?_;refine aD 2 rfl dNa ?_;refine aM 3 ?_;refine aM 4 ?_;refine aP 5 rfl (KG rfl) (aP 6 rfl (KD (o':=0) u100 rfl rfl rfl sz_53 dc) (aP 7 rfl (KD (o':=37) u53 rfl rfl rfl sz_47 dc) (aO 8 rfl (LStep.det (KAp (dL rfl (hv:=by exact cvC_ld_g _ _ _ _ _ _ _ _ _ _ _ _ _ _ _ _)) (g_val hok)) (Nb rfl) ?_))));refine aO 9 rfl (cC rfl en_88 rfl (fun w hw=>bringsC (c_tabOf V b f bd hok (V.G) hok.on 16 dc dc w (mC hw) (mC hw) (mC hw)) _) ?_)
  rintro _ _ ⟨bt,br,cap,rest,rfl,rfl⟩
  refine aL 10 rfl (KAw (first:=[]) (r:=tr) (l:=l) (l':=l++evN m) rfl en_87 rfl (Nb rfl) mP (fun w hw hn=>c_mTimes tb tr l V b f bd hok K m (V.G) bt br cap rest hok.on hK hm w (mC hw) hl (mC hw) (mC hw) (mC hw) (mC hw) (mC hw) (hn _ mM) (hn _ mM) (hn _ mM) (hn _ mM) (hn _ mM)) ?_)
  intro r1
  refine aL 11 rfl (sA rfl rfl sz_47 (by exact KAN _ _ _) (hl:=by simp [Kb,KS]) (h:=?_));refine aE (KM ?_)
  exact ⟨[_],.cons ⟨_,_,_,rfl,mM,by exact KE u47 rfl sz_47⟩ .nil,fun a w' hr=>hr.tr mM⟩
theorem c_bMul (tb:Option Nat) (tr:TrRow) (l:List Nat) (id:Int) (V:Cv) (K:Nat) (m:Nat) (hm:(blen V.n+3)/4 = m) (w:World) (h:cvI id = some V) (hK:K<V.n) (h0:(trI tb tr l).holds w) (hl:l.length≤80000000):Calls Tryz.prog 24 ([trV tb,.int .i64 id,natV K]:List Value).toArray w (fun e w'=>TrR w tb tr (l++evN m) (.tuple #[ptP (pmul V.A V.G K),.int .i64 ((0:Nat):Int)]) e w'):=by
  obtain ⟨hok,hid⟩:=KBT h
  have hbb:=hok.bounds
  have hpW:V.p<W9:=KAF hbb.2.1
  have hnW:V.n<W9:=KAF hbb.2.2.2.2.2.2.1
  have hbl:=KAn hnW
  have hnb:nby V.n≤72:=by (unfold nby; omega)
  refine calls_tr (N:=29) (rs:=[.cell 6 47,.tmp 7]) tb tr l [] Tryz.func24 rfl Tryz.ntmps24 Tryz.results24 (Nb rfl) h0 trivial rfl trivial ?_
  refine KB (KA (oS (mB (fun b5=>?_))));refine oS (mk (KK zr_47) (fun b6=>?_));refine oP (KO (v:=.int .i64 ((0:Nat):Int)) rfl) (KC (KB (KA (oM ?_))));refine oS (oOpen h rfl rfl (fun b f bd=>?_));refine oA (KC (KB (LCode.block (KB (KA (oM ?_))))));refine oP (KJ (KAR u81 rfl rfl) (show _ = Value.bool false from rfl)) (oA (KC ?_));refine KH rfl (KB (rD [] (aD 0 rfl dNa ?_)));refine aM 1 ?_;refine aP 2 rfl (KG rfl) (aP 3 rfl (KD (o':=0) u100 rfl rfl rfl sz_53 dc) (aP 4 rfl (KD (o':=28) u53 rfl rfl rfl sz_33 dc) (aD 5 rfl (dL rfl (hv:=by exact KBY _ _ _ _ _ _ _ _ _ _ _ _ _ _ _ _)) ?_)));refine aO 6 rfl (cF rfl en_46 rfl (fun w hw=>KBZ K V.n (Nat.lt_trans hK hnW) hnW w) ?_);refine aP 7 rfl (KF (v:=.bool false) rfl rfl (br_f cmp_geq (Nat.not_le_of_gt hK))) (aA 8 ?_);refine aE (KH rfl (KN (KB (KA (oM (oM ?_))))))
  refine oD dNa ?_;refine LOps.step rfl (KAw (first:=[]) (r:=tr) (l:=l) (l':=l++evN m) rfl en_42 rfl (Nb rfl) mP (fun w hw hn=>c_bTimes tb tr l V b f bd hok K hK m hm w (mC hw) hl (mC hw) (mC hw) (mC hw) (hn _ mM) (hn _ mM) (hn _ mM)) ?_)
  intro r1
  refine LOps.step rfl (sA rfl rfl sz_47 (by exact KAN _ _ _) (hl:=by simp [Kb,KS]) (h:=?_));refine oP (KO (v:=.int .i64 ((0:Nat):Int)) rfl) (KC (KM ?_))
  exact ⟨[_,_],.cons ⟨_,_,_,rfl,mM,by exact KE u47 rfl sz_47⟩ (.cons rfl .nil),fun a w' hr=>hr.tr mM⟩
theorem c_bMulN (id:Int) (V:Cv) (K:Nat) (R:Pt V.p) (w:World) (h:cvI id = some V) (hK:K<V.n) (hR:pmul V.A V.G K = R):CF Tryz.prog 24 [.pointer none,.int .i64 id,natV K] w (.tuple #[ptP R,.int .i64 ((0:Nat):Int)]) :=
  hR ▸ (c_bMul none none [] id V K _ rfl w h hK (trI_nil _ _) (Nat.zero_le _)).mono fun e w' h=>TrR.nil h


open Grp
theorem getX_l (V:Cv) (s:ByteArray):getX V s = beVal ((s.data.toList.take (1+nby V.p)).drop 1):=by unfold getX; rw [ext_data]
theorem getY_l (V:Cv) (s:ByteArray):getY V s = beVal (s.data.toList.drop (1+nby V.p)):=by
  unfold getY; rw [ext_data]
  rw [show s.size = s.data.toList.length by rw [Array.length_toList]; rfl,List.take_length]
theorem size_l (s:ByteArray):s.size = s.data.toList.length:=by rw [Array.length_toList]; rfl
open Grp
theorem p_pow {V:Cv} {X:Nat} (h:X<V.p):X<256^nby V.p:=by
  have h1:=KCl V.p
  have h2:2^blen V.p≤2^(8*nby V.p):=Nat.pow_le_pow_right dc (by unfold nby; omega)
  rw [Nat.pow_mul] at h2
  exact Nat.lt_trans h (Nat.lt_of_lt_of_le h1 h2)
theorem pfx_l (x:Nat):(pfx x).data.toList = [UInt8.ofNat x]:=rfl
theorem coB_l (V:Cv) (X:Nat):(coB V X).data.toList = Kv (nby V.p) X:=by unfold coB strOf; rfl
theorem putS_l (V:Cv) (X Y:Nat):(putS V X Y false).data.toList = 4 :: (Kv (nby V.p) X++Kv (nby V.p) Y):=by
  unfold putS; rw [if_neg dc,ByteArray.toList_data_append,ByteArray.toList_data_append,pfx_l,coB_l,coB_l]; rfl
open Grp
open Grp
theorem c_cKeyT (V:Cv) (b f X:Nat) (w:World) (hb:(Item.blk b ⟨false,opL V f,100,(0,0)⟩).holds w) (hX:X<W9) (hnW:V.n<W9) (h0:X≠0) (hn:X<V.n):CF Tryz.prog 38 [.pointer (some ⟨b,0,none⟩),natV X] w (.bool true):=by
  refine KV (N:=18) (rs:=[.tmp 4]) [.blk b ⟨false,opL V f,100,(0,0)⟩] Tryz.func38 rfl Tryz.ntmps38 Tryz.results38 (Nb rfl) ⟨hb,trivial⟩ rfl ?_
  refine KB (KA (oS (mB (fun b3=>?_))));refine oA (KC (KB (rD [] ?_)));refine aD 0 rfl dNa ?_;refine aP 1 rfl (KJ (Ka pl_33 zr_33 rfl rfl) (show _ = natV 0 by unfold natV natL; rw [← vec_zeros 9])) ?_;refine aP 2 rfl (KJ (KBv kr (fun w=>KBS X 0 hX KBr 10000 dc w) rfl rfl) (show _ = Value.bool true by rw [decide_eq_false h0]; rfl)) ?_;refine aM 3 ?_;refine aGD 4 rfl dNa ?_;refine aGM 5 ?_;refine aGP 6 rfl (KG rfl) (aGP 7 rfl (KD (o':=0) u100 rfl rfl rfl sz_53 dc) (aGP 8 rfl (KD (o':=28) u53 rfl rfl rfl sz_33 dc) (aGD 9 rfl (dL rfl (hv:=by exact KBY _ _ _ _ _ _ _ _ _ _ _ _ _ _ _ _)) ?_)));refine aGO 10 rfl (cF rfl en_46 rfl (fun w hw=>KBZ X V.n hX hnW w) ?_);refine aGP 11 rfl (KF (v:=.bool true) rfl rfl (br_t cmp_lt (hn))) (aP 12 rfl (Kg rfl rfl) (aA 13 ?_));refine aE (KM (eN (.cons rfl .nil) ?_))
  rfl
theorem c_cKeyZ (V:Cv) (b f:Nat) (w:World) (hb:(Item.blk b ⟨false,opL V f,100,(0,0)⟩).holds w):CF Tryz.prog 38 [.pointer (some ⟨b,0,none⟩),natV 0] w (.bool false):=by
  refine KV (N:=18) (rs:=[.tmp 4]) [.blk b ⟨false,opL V f,100,(0,0)⟩] Tryz.func38 rfl Tryz.ntmps38 Tryz.results38 (Nb rfl) ⟨hb,trivial⟩ rfl ?_
  refine KB (KA (oS (mB (fun b3=>?_))));refine oA (KC (KB (rD [] ?_)));refine aD 0 rfl dNa ?_;refine aP 1 rfl (KJ (Ka pl_33 zr_33 rfl rfl) (show _ = natV 0 by unfold natV natL; rw [← vec_zeros 9])) ?_;refine aP 2 rfl (KJ (KBv kr (fun w=>KBS 0 0 KBr KBr 10000 dc w) rfl rfl) (show _ = Value.bool false by rw [decide_eq_true rfl]; rfl)) ?_;refine aM 3 ?_;refine aK 4 ?_;refine aK 5 ?_;refine aK 6 ?_;refine aK 7 ?_;refine aK 8 ?_;refine aK 9 ?_;refine aK 10 ?_;refine aK 11 ?_;refine aP 12 rfl (KU rfl rfl) (aA 13 ?_);refine aE (KM (eN (.cons rfl .nil) ?_))
  rfl
theorem c_cKeyF (V:Cv) (b f X:Nat) (w:World) (hb:(Item.blk b ⟨false,opL V f,100,(0,0)⟩).holds w) (hX:X<W9) (hnW:V.n<W9) (h0:X≠0) (hn:V.n≤X):CF Tryz.prog 38 [.pointer (some ⟨b,0,none⟩),natV X] w (.bool false):=by
  refine KV (N:=18) (rs:=[.tmp 4]) [.blk b ⟨false,opL V f,100,(0,0)⟩] Tryz.func38 rfl Tryz.ntmps38 Tryz.results38 (Nb rfl) ⟨hb,trivial⟩ rfl ?_
  refine KB (KA (oS (mB (fun b3=>?_))));refine oA (KC (KB (rD [] ?_)));refine aD 0 rfl dNa ?_;refine aP 1 rfl (KJ (Ka pl_33 zr_33 rfl rfl) (show _ = natV 0 by unfold natV natL; rw [← vec_zeros 9])) ?_;refine aP 2 rfl (KJ (KBv kr (fun w=>KBS X 0 hX KBr 10000 dc w) rfl rfl) (show _ = Value.bool true by rw [decide_eq_false h0]; rfl)) ?_;refine aM 3 ?_;refine aGD 4 rfl dNa ?_;refine aGM 5 ?_;refine aGP 6 rfl (KG rfl) (aGP 7 rfl (KD (o':=0) u100 rfl rfl rfl sz_53 dc) (aGP 8 rfl (KD (o':=28) u53 rfl rfl rfl sz_33 dc) (aGD 9 rfl (dL rfl (hv:=by exact KBY _ _ _ _ _ _ _ _ _ _ _ _ _ _ _ _)) ?_)));refine aGO 10 rfl (cF rfl en_46 rfl (fun w hw=>KBZ X V.n hX hnW w) ?_);refine aGP 11 rfl (KF (v:=.bool false) rfl rfl (br_f cmp_lt (Nat.not_lt_of_le hn))) (aP 12 rfl (Kg rfl rfl) (aA 13 ?_))
  refine aE (KM (eN (.cons rfl .nil) ?_))
  rfl
theorem c_kCheckT (id:Int) (V:Cv) (K:Nat) (w:World) (h:cvI id = some V) (h0:K≠0) (hn:K<V.n):CF Tryz.prog 54 [.int .i64 id,natV K] w (.int .i64 ((0:Nat):Int)):=by
  obtain ⟨hok,hid⟩:=KBT h
  have hbb:=hok.bounds
  have hpW:V.p<W9:=KAF hbb.2.1
  have hnW:V.n<W9:=KAF hbb.2.2.2.2.2.2.1
  have hbl:=KAn hnW
  have hnb:nby V.n≤72:=by (unfold nby; omega)
  refine KV (N:=16) (rs:=[.tmp 4]) [] Tryz.func54 rfl Tryz.ntmps54 Tryz.results54 (Nb rfl) trivial rfl ?_
  refine KB (KA (oS (mB (fun b3=>?_))));refine oP (KO (v:=.int .i64 ((0:Nat):Int)) rfl) (KC (KB (KA (oM ?_))));refine oS (oOpen h rfl rfl (fun b f bd=>?_));refine oA (KC (KB (LCode.block (KB (KA (oM ?_))))));refine oP (KJ (KAR u81 rfl rfl) (show _ = Value.bool false from rfl)) (oA (KC ?_));refine KH rfl (KB (KA (oM ?_)));refine oD dNa ?_;refine oS (cF rfl en_38 rfl (fun w hw=>c_cKeyT V b f K w (mC hw) (Nat.lt_trans hn hnW) hnW h0 hn) ?_);refine oP (KJ (KAH rfl) (show _ = Value.bool false from rfl)) (oA (KC ?_));refine KH rfl (KN (KB (KA (oP (KO (v:=.int .i64 ((0:Nat):Int)) rfl) (KC (KM (eN (.cons rfl .nil) ?_)))))))
  rfl
open Grp
def GetC (id:Int) (s:ByteArray) (X Y:Nat):Prop:=∀ w:World,CF Tryz.prog 29 [.int .i64 id,.string s] w (.tuple #[ptV X Y false,.int .i64 ((0:Nat):Int)])
theorem c_get4 {V:Cv} (hok:V.Ok) {X Y:Nat} (ho:onB V.p V.a V.b X Y false = true) {id:Int} (h:cvI id = some V):GetC id (putS V X Y false) X Y:=by
  intro w
  obtain ⟨hX,hY⟩:=on_lt ho
  have hpW:V.p<W9:=KAF hok.bounds.2.1
  have eX:beVal (Kv (nby V.p) X) = X:=by rw [beVal_bytes,Nat.mod_eq_of_lt (p_pow hX)]
  have eY:beVal (Kv (nby V.p) Y) = Y:=by rw [beVal_bytes,Nat.mod_eq_of_lt (p_pow hY)]
  have hs:=putS_l V X Y
  have hl:(Kv (nby V.p) X).length = nby V.p:=KBz _ _
  refine c_s_Get4 id V _ X Y w h ?_ ?_ ?_ ?_ (Nat.lt_trans hX hpW) (Nat.lt_trans hY hpW) ho
  · rw [size_l,hs,List.length_cons,List.length_append,KBz,KBz]; omega
  · unfold b0; rw [hs]; rfl
  · have:=getX_l V (putS V X Y false)
    unfold getX at this
    rw [this,hs,Nat.add_comm,List.take_succ_cons,List.drop_succ_cons,List.drop_zero,List.take_left' hl,eX]
  · have:=getY_l V (putS V X Y false)
    unfold getY at this
    rw [this,hs,Nat.add_comm,List.drop_succ_cons,List.drop_left' hl,eY]
theorem c_eSharedG (tb:Option Nat) (tr:TrRow) (l:List Nat) (id:Int) (V:Cv) (K:Nat) (s:ByteArray) (x y:Fin V.p) (m:Nat) (hm:(blen V.n+3)/4 = m) (w:World) (h:cvI id = some V) (hk0:K≠0) (hn:K<V.n) (hg:GetC id s x.val y.val) (hP:On V.A V.B (.aff x y)) (h0:(trI tb tr l).holds w) (hl:l.length≤80000000):Calls Tryz.prog 26 ([trV tb,.int .i64 id,natV K,.string s]:List Value).toArray w (fun e w'=>TrR w tb tr (l++evN m) (.tuple #[.string (coB V (xv (pmul V.A (.aff x y:Pt V.p) K))),.int .i64 ((0:Nat):Int)]) e w'):=by
  obtain ⟨hok,hid⟩:=KBT h
  have hbb:=hok.bounds
  have hpW:V.p<W9:=KAF hbb.2.1
  have hnW:V.n<W9:=KAF hbb.2.2.2.2.2.2.1
  have hbl:=KAn hnW
  have hnb:nby V.n≤72:=by (unfold nby; omega)
  have hnp:=nbp_72 hok
  refine calls_tr (N:=55) (rs:=[.tmp 8,.tmp 9]) tb tr l [] Tryz.func26 rfl Tryz.ntmps26 Tryz.results26 (Nb rfl) h0 trivial rfl trivial ?_
  refine KB (KA (oS (mB (fun b6=>?_))));refine oA ?_;refine oP (KO (v:=.int .i64 ((0:Nat):Int)) rfl) (KC (KB (KA (oM ?_))));refine oS (oOpen h rfl rfl (fun b f bd=>?_));refine oA (KC (KB (LCode.block (KB (KA (oM ?_))))));refine oP (KJ (KAR u81 rfl rfl) (show _ = Value.bool false from rfl)) (oA (KC ?_));refine KH rfl (KB (KA (oM ?_)));refine oD dNa ?_;refine oS (cF rfl en_54 rfl (fun w hw=>c_kCheckT id V K w h hk0 hn) ?_);refine oP (KF (v:=.bool false) rfl rfl (br_f (KAe (b:=0)) dc)) (oA (KC ?_));refine KH rfl (KN (KB (KA (oM (oM ?_)))));refine oS (cF rfl en_29 rfl (fun w hw=>hg w) ?_);refine oM ?_;refine oX ?_;refine oX ?_;refine oS (mk (KK zr_47) (fun b11=>?_));refine LOps.step rfl (sA rfl rfl sz_47 (by exact KAN _ _ _) (hl:=by simp [Kb,KS]) (h:=?_));refine oA (KC (KB (KB (KA (oM ?_)))));refine oP (KF (v:=.bool false) rfl rfl (br_f (KAe (b:=0)) dc)) (KC (KH rfl (KN (KB (KA (oM (oM ?_)))))))
  refine oD dNa ?_;refine oD dNb ?_;refine LOps.step rfl (KAw (first:=[]) (r:=tr) (l:=l) (l':=l++evN m) rfl en_58 rfl (Nb rfl) mP (fun w hw hn0=>c_mMul tb tr l id V K (.aff x y) m hm w h hP hn (mC hw) hl) ?_)
  intro r1
  refine oM ?_;refine oX ?_;refine oX ?_;refine oS (mk (KK zr_47) (fun b13=>?_));refine LOps.step rfl (sA rfl rfl sz_47 (by exact KAN _ _ _) (hl:=by simp [Kb,KS]) (h:=?_));refine oA (KC (KB (rD [] ?_)));refine aP 0 rfl (KD (o':=0) u47 rfl rfl rfl sz_33 dc) (aD 1 rfl (dL rfl (hv:=by exact Kf u33 rfl sz_33 rfl (KL _))) ?_);refine aM 2 ?_;refine aP 3 rfl (KG rfl) (aP 4 rfl (KD (o':=0) u100 rfl rfl rfl sz_53 dc) (aP 5 rfl (KD (o':=57) u53 rfl rfl rfl sz_3 dc) (aD 6 rfl (dL rfl (hv:=KI u3 rfl (by exact cvC_gt_size _ _ _ _ _ _ _ _ _ _ _ _ _))) ?_)));refine aO 7 rfl (cF rfl en_47 rfl (fun w hw=>KBp (xv (pmul V.A (.aff x y:Pt V.p) K)) (nby V.p) w (Nat.lt_trans (xv_lt _) hpW) hnp (nby_le (xv_lt _))) ?_);refine aM 8 ?_;refine aP 9 rfl (Det.extract rfl rfl) (aP 10 rfl (Det.extract rfl rfl) (aA 11 ?_));refine aA 12 ?_;refine aE (KB (KA (oM (oA ?_))))
  refine oP (KO (v:=.int .i64 ((0:Nat):Int)) rfl) (KC (KM ?_))
  exact ⟨[_,_],.cons rfl (.cons rfl .nil),fun a w' hr=>hr.tr mM⟩
theorem c_eSharedGN (R:ByteArray) (id:Int) (V:Cv) (K:Nat) (s:ByteArray) (x y:Fin V.p) (w:World) (h:cvI id = some V) (h0:K≠0) (hn:K<V.n) (hg:GetC id s x.val y.val) (hP:On V.A V.B (.aff x y)) (hR:coB V (xv (pmul V.A (.aff x y:Pt V.p) K)) = R):CF Tryz.prog 26 [.pointer none,.int .i64 id,natV K,.string s] w (.tuple #[.string R,.int .i64 ((0:Nat):Int)]) :=
  hR ▸ (c_eSharedG none none [] id V K s x y _ rfl w h h0 hn hg hP (trI_nil _ _) (Nat.zero_le _)).mono fun e w' h=>TrR.nil h
end Go.Proofs.YtnpeokiboiclfaaGreat
set_option linter.unusedVariables false
set_option linter.unusedSimpArgs false
namespace Go.Proofs.YtnpeokiboiclfaaGreat
open Go Go.RowKit
def byF (s:ByteArray) (i:Nat):Nat:=(s.data.toList.getD i 0).toNat
theorem Rel.allocF {C : Ctx} {st : St} {a : Act} {w : World} (h : Rel C st a w) (cs : List Value) (e : TypeId) (fz : Nat × Nat) :
    Rel C ⟨st.T,.blk w.heap.size ⟨true,cs,e,fz⟩ :: st.H⟩ a (w.alloc (.cells cs.toArray e fz)):=by
  refine ⟨h.size,h.defers,h.tm,?_,?_,?_,?_⟩
  · intro x hx
    rcases List.mem_cons.1 hx with rfl|hx
    · exact heap_alloc_new _ _
    · exact holds_alloc (h.hp x hx) _
  · intro x hx hw k hk
    rcases List.mem_cons.1 hx with rfl|hx
    · simp [Item.fp] at hk; subst hk; exact .inl h.fr.size
    · exact h.own x hx hw k hk
  · refine List.pairwise_cons.2 ⟨fun y hy _ k hk hk'=>?_,h.dist⟩
    simp [Item.fp] at hk; subst hk
    exact Nat.lt_irrefl _ (Item.lt (h.hp y hy) _ hk')
  · exact ⟨h.fr.os,h.fr.tape,h.fr.output,by have:=h.fr.size; simp; omega,fun k hk hw=>(Below.heap_alloc _ _ _ (Nat.lt_of_lt_of_le hk h.fr.size)).trans (h.fr.block k hk hw)⟩
section
variable {P:Program} {C:Ctx} {ty:TypeId} {pos:String} {aft:Array Edge} {d:Nat} {K:St→Prop} {x:Operand} {t e sr:TypeId}
theorem LStepW.toBytes {T : List (Nat × Value)} {H : List Item} {s : ByteArray} {g : Option (Nat × Bool)} {u : TypeDesc} (hx : evT T x = some (.string s)) (hs : P.underlying sr = some u) (ht : P.underlying t = some (.slice e)) (he : P.underlying e = some (.int .u8)) (hd : d < C.N)
    (h:∀ b cap rest n,s.size+List.length rest = n→K ⟨(d,.slice (some ⟨b,0,none⟩) s.size cap) :: T,.blk b ⟨true,vec .u8 s.size (byF s)++rest,e,(n,n+1)⟩ :: H⟩):KAQ P C ⟨some d,.convert sr t x,ty,pos,aft,g⟩ ⟨T,H⟩ K:=by
  unfold KAQ
  intro a w hr Qr
  unfold Oper.wp
  have hrun:=Go.Lib.run_convert_string_bytes (P:=P) w sr t e s hs ht he
  have hl:(Go.Lib.bytesCells w e s).toList = vec .u8 s.size (byF s)++List.replicate (grownCap w s.size 0 e-s.size) (Value.int .u8 0):=by
    unfold Go.Lib.bytesCells vec byF
    rw [Array.toList_append,Array.toList_replicate]
    congr 1
    rw [Array.toList_map]
    apply List.ext_getElem
    · simp
    · intro i h1 h2
      simp at h1
      simp [List.getD,h1]
  have hw:Go.Lib.bytesWorld w e s = w.drew.alloc (.cells (Go.Lib.bytesCells w e s) e ((Go.Lib.bytesCells w e s).size,(Go.Lib.bytesCells w e s).size+1)):=by
    have hm:∀ (a:Array Obj) (x:Obj) (f:Obj→Obj),(a.push x).modify a.size f = a.push (f x):=by
      intro a x f
      apply Array.ext
      · simp
      · intro i h1 h2
        simp only [Array.getElem_modify,Array.getElem_push]
        by_cases h:a.size = i
        · subst h
          simp
        · have hi:i<a.size:=by simp at h1; omega
          simp [h,hi]
    unfold Go.Lib.bytesWorld World.freeze
    rw [if_neg (by decide)]
    show ({ w.drew.alloc (.cells (Go.Lib.bytesCells w e s) e) with heap:=(w.heap.push (.cells (Go.Lib.bytesCells w e s) e)).modify w.heap.size _ }:World) = _
    rw [hm]
    rfl
  have hex:(execOp a.eval ⟨some d,.convert sr t x,ty,pos,aft,g⟩).run P w = .ok (.value (.slice (some ⟨w.heap.size,0,none⟩) s.size (grownCap w s.size 0 e))) (Go.Lib.bytesWorld w e s):=by
    simp [execOp,hr.ev hx,hrun]
  rw [hex]
  have hK:=h w.heap.size (grownCap w s.size 0 e) (List.replicate (grownCap w s.size 0 e-s.size) (Value.int .u8 0)) (Go.Lib.bytesCells w e s).size (by
    rw [← Array.length_toList,hl,List.length_append,KS])
  refine ⟨_,hK,?_⟩
  have hal:=hr.drew.allocF (vec .u8 s.size (byF s)++List.replicate (grownCap w s.size 0 e-s.size) (Value.int .u8 0)) e ((Go.Lib.bytesCells w e s).size,(Go.Lib.bytesCells w e s).size+1)
  have e1:(vec .u8 s.size (byF s)++List.replicate (grownCap w s.size 0 e-s.size) (Value.int .u8 0)).toArray = Go.Lib.bytesCells w e s:=by
    apply Array.ext'
    exact hl.symm
  rw [e1] at hal
  rw [hw]
  exact hal.put hd _
end
end Go.Proofs.YtnpeokiboiclfaaGreat
set_option linter.unusedVariables false
set_option linter.unusedSimpArgs false
set_option maxRecDepth 20000
namespace Go.Proofs.YtnpeokiboiclfaaGreat
open Go Go.RowKit
theorem KBX {k:Nat} (hk:k = 1∨k = 2∨k = 3∨k = 4) (x:List Nat):(hashL k x).length = hsize k:=by
  rcases hk with rfl|rfl|rfl|rfl <;> exact Hp.sum_length _ _ dc
def padL (l:List Nat) (x:Nat):List Nat:=l.map fun b=>xorM 256 b x
def padB (s:ByteArray) (x:Nat):ByteArray:=toS (padL (ofS s) x)
def keyA (k:Nat) (key:ByteArray):ByteArray:=if hblk k<key.size then toS (hashL k (ofS key)) else key
def keyB (k:Nat) (key:ByteArray):ByteArray:=keyA k key++toS (List.replicate (hblk k-(keyA k key).size) 0)
def macS (k:Nat) (key:ByteArray):ShS:=(hp k).write (hinit k) (ofS (padB (keyB k key) 54))
def hmacB (k:Nat) (key msg:ByteArray):ByteArray:=toS (hashL k (ofS (padB (keyB k key) 92++toS (hsum k ((hp k).write (macS k key) (ofS msg))))))
theorem KDO (s:ByteArray) (x:Nat):(padB s x).size = s.size:=by unfold padB padL; rw [KAC,List.length_map,KAy]
theorem KCI {k:Nat} (hk:k = 1∨k = 2∨k = 3∨k = 4) (key msg:ByteArray):(hmacB k key msg).size = hsize k:=by unfold hmacB; rw [KAC,KBX hk]
theorem keyA_size {k:Nat} (hk:k = 1∨k = 2∨k = 3∨k = 4) (key:ByteArray):(keyA k key).size≤hblk k:=by
  unfold keyA
  split
  · rw [KAC,KBX hk]; rcases hk with rfl|rfl|rfl|rfl <;> decide
  · omega
theorem hblk_le (k:Nat):hblk k≤128:=by unfold hblk; split <;> decide
theorem KBx {k:Nat} (hk:k = 1∨k = 2∨k = 3∨k = 4) (key:ByteArray):(keyB k key).size = hblk k:=by
  have:=keyA_size hk key
  unfold keyB
  rw [ByteArray.size_append,KAC,List.length_replicate]; omega
theorem byF_nth (s:ByteArray) (i:Nat):byF s i = (ofS s).getD i 0:=by
  unfold byF ofS
  simp only [List.getD,List.getElem?_map]
  cases s.data.toList[i]? <;> rfl
theorem pad_str (s:ByteArray) (x:Nat):strOf ((List.range s.size).map fun i=>UInt8.ofNat (if i<s.size then xorM 256 (byF s i) x else byF s i)) = padB s x:=by
  unfold padB padL toS
  congr 1
  rw [List.map_map]
  apply List.ext_getElem
  · simp [KAy]
  · intro i h1 h2
    simp at h1
    have h3:i<(ofS s).length:=by rw [KAy]; exact h1
    simp [h1,byF_nth,List.getD,h3]
theorem pad_next (s:ByteArray) (x y:Nat) {rest:List Value} (hy:y<s.size):(vec .u8 s.size (fun j=>if j<y then xorM 256 (byF s j) x else byF s j)++rest).set y (.int .u8 ((xorM 256 (byF s y) x:Nat):Int)) = vec .u8 s.size (fun j=>if j<(y+1) then xorM 256 (byF s j) x else byF s j)++rest:=by
  rw [set_front (by rw [KS]; exact hy),vec_set]
  congr 1
  apply Km
  intro j _
  by_cases h1:j = y
  · rw [if_pos h1,if_pos om,h1]
  · rw [if_neg h1]
    by_cases h2:j<y
    · rw [if_pos h2,if_pos om]
    · rw [if_neg h2,if_neg om]
theorem pad_get (s:ByteArray) (x y:Nat) {rest:List Value} (hy:y<s.size):(vec .u8 s.size (fun j=>if j<y then xorM 256 (byF s j) x else byF s j)++rest)[y]? = some (.int .u8 ((byF s y:Nat):Int)):=by
  rw [List.getElem?_append_left (by rw [KS]; exact hy),Kh _ _ _ hy,if_neg (Nat.lt_irrefl y)]
theorem pad_start (s:ByteArray) (x:Nat) {rest:List Value}:vec .u8 s.size (byF s)++rest = vec .u8 s.size (fun j=>if j<0 then xorM 256 (byF s j) x else byF s j)++rest:=by
  congr 1
theorem pad_take (s:ByteArray) (x:Nat) {rest:List Value} (i:Nat):((vec .u8 s.size (fun j=>if j<i then xorM 256 (byF s j) x else byF s j)++rest).drop 0).take s.size = vec .u8 s.size (fun j=>if j<i then xorM 256 (byF s j) x else byF s j):=by
  rw [List.drop_zero,List.take_left' (KS _ _ _)]
theorem c_pad (s:ByteArray) (x:Nat) (hs:s.size<1000000) (w:World)  : CF Tryz.prog 193 [.string s,.int .u8 ((x:Nat):Int)] w (.string (padB s x)):=by
  refine KV (N:=24) (rs:=[.tmp 4]) [] Tryz.func193 rfl Tryz.ntmps193 Tryz.results193 (Nb rfl) trivial rfl ?_
  refine KB (KA (oA (KC (KB (KA (oM ?_))))));refine LOps.step rfl (LStepW.toBytes rfl u9 u70 u5 (Nb rfl) ?_)
  intro b cap rest n hn
  rw [pad_start s x]
  refine oA (KC (KB (KB (KA (oM ?_)))));refine oP (KBF u70 rfl) (oP (Kd (v:=.int .i64 ((0:Nat):Int)) rfl) (KC (LCode.block (Kc (α:=Nat) (fun y=>y≤s.size) (fun y=>⟨[(1,.int .u8 ((x:Nat):Int)),(5,.slice (some ⟨b,0,none⟩) s.size cap),(10,.int .i64 ((s.size:Nat):Int)),(11,.int .i64 ((y:Nat):Int))],[.blk b ⟨true,vec .u8 s.size (fun j=>if j<y then xorM 256 (byF s j) x else byF s j)++rest,5,(n,n+1)⟩]⟩) (fun y=>s.size-y) (0) (Nat.zero_le _) (KY ⟨rfl,rfl,rfl,rfl,trivial⟩ mS) ?_))))
  intro y hy
  refine KB (KA (oP (KF rfl rfl (Kr)) (KC (KB ?_))))
  first|refine KQ rfl (fun h12=>?_) (fun h12=>?_)|refine KR rfl (fun h12=>?_) (fun h12=>?_)
  ·
   have h12:y<s.size:=h12
   refine KN (KB (LCode.block (KB (KA (oM (oA (KC (KA (oM (oM ?_))))))))));refine oP (Kt u70 sz_5 rfl rfl om) (oD (dL rfl (hv:=KI u5 rfl (by exact pad_get s x y h12))) ?_);refine oM ?_;refine oP (KF rfl rfl (br_xor8m)) (oP (Kt u70 sz_5 rfl rfl om) ?_);refine LOps.step rfl (KW rfl rfl rfl sz_5 mT (by rw [List.length_append,KS]; omega) (pad_next s x y h12) (by dsimp only; omega) ?_);refine KC (KA (oP (KF rfl rfl (Kj (b:=1) om)) (oM (KC ?_))))
   exact ⟨y+1,by omega,by omega,KY ⟨rfl,rfl,rfl,rfl,trivial⟩ mS⟩
  have h12:¬ y<s.size:=h12
  obtain rfl:y = s.size:=by omega
  refine KZ (KB (KA (oM ?_)));refine oD (KAx u70 u5 u9 rfl mM (pad_take s x _)) ?_;refine oA (KC (KM ?_));refine eN (.cons rfl .nil) ?_
  rw [← pad_str]
  rfl
theorem c_mNew256 (k:Nat) (hk:k = 1∨k = 2) (key:ByteArray) (hkey:key.size≤140737488351232) (w:World) (hH:∀ x,x∈([]++[]:List Item)→x.holds w) (hd:([]++[]:List Item).Pairwise Apart)  : Calls Tryz.prog 165 ([.int .i64 ((k:Nat):Int),.string key]:List Value).toArray w (fun e w'=>∃ (u:Value) (x':Item) (y':Item),(∃ mb r,∃ m:Nat×Nat×Nat×Nat×Nat,u = .tuple #[.pointer (some ⟨mb,0,none⟩),.int .i64 ((0:Nat):Int)]∧x' = .blk mb ⟨true,[.int .i64 ((k:Nat):Int),.string (padB (keyB k key) 92),.pointer (some ⟨m.1,0,none⟩)],295,(0,0)⟩∧y' = KBt m (hbits k) r (p256.write (hinit k) (ofS (padB (keyB k key) 54))))∧e = .returned u∧Outcome w [] [x',y'] w'):=by
  refine KAA [] (N:=45) (rs:=[.tmp 4,.tmp 5]) Tryz.func165 rfl Tryz.ntmps165 Tryz.results165 (Nb rfl) hH hd rfl rfl ?_
  refine KB (KA (oA ?_));refine oP (KO (v:=.int .i64 ((0:Nat):Int)) rfl) (KC (KB (KA (oM ?_))));refine LOps.step rfl (Ke (first:=[]) (caps:=[]) (X:=[]) (RO:=[]) rfl en_135 rfl (Nb rfl) sR wK (fun w hH hd=>c_hNew256 k hk w hH hd) ?_)
  rintro _ _ ⟨m,rfl,rfl⟩
  refine oM ?_;refine oX ?_;refine oX ?_;refine oA (oA (KC (KB (KB (KA (oM ?_))))));refine oP (KF (v:=.bool false) rfl rfl (br_f (KAe (b:=0)) dc)) (KC (KH rfl (KN (KB (KA (oM ?_))))));refine oS (cF rfl en_192 rfl (fun w hw=>c_hBlock k om w) ?_);refine oA (KC ?_);refine KBm (α:=ByteArray) (fun x=>x = keyA k key) (fun x=>⟨[(0,.int .i64 ((k:Nat):Int)),(1,.string x),(6,.pointer (some ⟨m.1,0,none⟩)),(8,.int .i64 ((hblk k:Nat):Int))],[KBt m (hbits k) none (hinit k)]⟩) ?_ ?_
  ·
   refine KB (KA (oM ?_));refine oP (KAU u9 rfl) (oM ?_);refine oP (KF rfl rfl (KAV)) (KC ?_)
   first|refine KQ rfl (fun h21=>?_) (fun h21=>?_)|refine KR rfl (fun h21=>?_) (fun h21=>?_)
   ·
    have h21:hblk k<key.size:=h21
    have hx:toS (hashL k (ofS key)) = keyA k key:=(if_pos h21).symm
    refine KA (oM (oM ?_));refine oS (cF rfl en_85 rfl (fun w hw=>c_hOf k om key hkey w) ?_);refine oM ?_;refine oX ?_;refine oX ?_;refine oA (KC ?_)
    exact ⟨_,hx,KY ⟨rfl,rfl,rfl,rfl,trivial⟩ mS⟩
   have h21:¬ hblk k<key.size:=h21
   have hx:key = keyA k key:=(if_neg h21).symm
   refine KN ?_
   exact ⟨_,hx,KY ⟨rfl,rfl,rfl,rfl,trivial⟩ mS⟩
  rintro x hx
  have hxs:x.size≤hblk k:=hx ▸ keyA_size om key
  have hb8:=hblk_le k
  refine KB (KA (oM (oM (oM ?_))));refine oP (KAU u9 rfl) (oP (KF rfl rfl (KAX om om)) (oS (cF rfl en_33 rfl (fun w hw=>c_Repeat 0 _ w om) ?_)));refine oP (KAZ rfl rfl (by rw [KAC,List.length_replicate]; omega)) ?_
  rw [show x++toS (List.replicate (hblk k-x.size) (UInt8.toNat 0)) = keyB k key by rw [hx]; rfl]
  refine oA (KC (KB (KA (oM (oM ?_)))));refine oS (cF rfl en_193 rfl (fun w hw=>c_pad _ _ (by rw [KBx om]; omega) w) ?_);refine LOps.step rfl (Ke (first:=[]) (caps:=[]) rfl en_136 rfl (Nb rfl) sR wK (fun w hH hd=>c_stWrite256 m (hbits k) none (hinit k) (padB (keyB k key) 54) (Nat.zero_le _) (by rw [KDO,KBx om]; omega) w hH hd) ?_)
  rintro _ _ ⟨r1,rfl,rfl⟩
  refine KC (KB (KA (oM (oM ?_))));refine oS (cF rfl en_193 rfl (fun w hw=>c_pad _ _ (by rw [KBx om]; omega) w) ?_);refine oM ?_;refine oP (Ka pl_295 zr_295 rfl (fT (r':=([.int .i64 ((k:Nat):Int)]++([Value.string (padB (keyB k key) 92)]++([Value.pointer (some ⟨m.1,0,none⟩)])))) (fS (A:=([]:List Value)) (B:=([Value.int .i64 ((0:Nat):Int)])) (D:=([Value.string ⟨#[]⟩]++([Value.pointer none]))) (cs:=[.int .i64 ((k:Nat):Int)]) (fS (A:=([.int .i64 ((k:Nat):Int)])) (B:=([Value.string ⟨#[]⟩])) (D:=([Value.pointer none])) (cs:=[Value.string (padB (keyB k key) 92)]) (fS (A:=([.int .i64 ((k:Nat):Int)]++([Value.string (padB (keyB k key) 92)]))) (B:=([Value.pointer none])) (D:=([]:List Value)) (cs:=[Value.pointer (some ⟨m.1,0,none⟩)]) rfl))))) ?_;refine oS (mB (fun b44=>?_));refine oA ?_;refine oP (KO (v:=.int .i64 ((0:Nat):Int)) rfl) (KC (KM (⟨[_,_],.cons rfl (.cons rfl .nil),fun a w' hr=>⟨_,_,_,⟨b44,r1,m,rfl,rfl,rfl⟩,rfl,hr.out mS rfl⟩⟩)))
theorem c_mWrite256 (m:Nat×Nat×Nat×Nat×Nat) (k mb sz:Nat) (r:BsRow) (s:ShS) (key x:ByteArray) (hrl:s.rest.length≤64) (hs:x.size≤140737488351232) (w:World) (hH:∀ x,x∈([KBt m sz r s]++[.blk mb ⟨false,[.int .i64 ((k:Nat):Int),.string (padB (keyB k key) 92),.pointer (some ⟨m.1,0,none⟩)],295,(0,0)⟩]:List Item)→x.holds w) (hd:([KBt m sz r s]++[.blk mb ⟨false,[.int .i64 ((k:Nat):Int),.string (padB (keyB k key) 92),.pointer (some ⟨m.1,0,none⟩)],295,(0,0)⟩]:List Item).Pairwise Apart)  : Calls Tryz.prog 166 ([.pointer (some ⟨mb,0,none⟩),.string x]:List Value).toArray w (fun e w'=>∃ (u:Value) (x':Item),(∃ r',u = .int .i64 ((0:Nat):Int)∧x' = KBt m sz r' (p256.write s (ofS x)))∧e = .returned u∧Outcome w [KBt m sz r s] [x'] w'):=by
  refine KAA [KBt m sz r s,.blk mb ⟨false,[.int .i64 ((k:Nat):Int),.string (padB (keyB k key) 92),.pointer (some ⟨m.1,0,none⟩)],295,(0,0)⟩] (N:=13) (rs:=[.tmp 4]) Tryz.func166 rfl Tryz.ntmps166 Tryz.results166 (Nb rfl) hH hd rfl rfl ?_
  refine KB (KA (oP (KO (v:=.int .i64 ((0:Nat):Int)) rfl) (KC (KB (KB (KA (oM ?_)))))));refine oP (KAR u246 rfl rfl) (KC (KH rfl (KN (KB (KA (oM ?_))))));refine oP (KG rfl) (oP (KD (o':=2) u295 rfl rfl rfl sz_207 dc) (oD (dL rfl (hv:=KI u207 rfl gL)) ?_));refine oM ?_;refine LOps.step rfl (Ke (first:=[]) (caps:=[]) rfl en_136 rfl (Nb rfl) sR wK (fun w hH hd=>c_stWrite256 m sz r s x hrl hs w hH hd) ?_)
  rintro _ _ ⟨r2,rfl,rfl⟩
  refine oA (KC (KM ?_));refine ⟨[_],.cons rfl .nil,fun a w' hr=>⟨_,_,⟨r2,rfl,rfl⟩,rfl,hr.out mS rfl⟩⟩
theorem c_mSum256 (m:Nat×Nat×Nat×Nat×Nat) (k:Nat) (hk:k = 1∨k = 2) (mb:Nat) (r:BsRow) (s:ShS) (key:ByteArray) (hrl:s.rest.length<64) (w:World) (h1:(Item.blk mb ⟨false,[.int .i64 ((k:Nat):Int),.string (padB (keyB k key) 92),.pointer (some ⟨m.1,0,none⟩)],295,(0,0)⟩).holds w) (hS:(strR256 m (hbits k) r s).holds w):CF Tryz.prog 167 [.pointer (some ⟨mb,0,none⟩)] w (.string (toS (hashL k (ofS (padB (keyB k key) 92++(toS (p256.sum s (hbits k/8)))))))):=by
  have hsz:(toS (p256.sum s (hbits k/8))).size = hsize k:=by rw [KAC,Hp.sum_length _ _ (by rcases hk with rfl|rfl <;> decide)]; rcases hk with rfl|rfl <;> rfl
  have hb8:=hblk_le k
  have hs8:hsize k≤64:=by rcases hk with rfl|rfl <;> decide
  refine KV (N:=26) (rs:=[.tmp 2]) [.blk mb ⟨false,[.int .i64 ((k:Nat):Int),.string (padB (keyB k key) 92),.pointer (some ⟨m.1,0,none⟩)],295,(0,0)⟩,strR256 m (hbits k) r s] Tryz.func167 rfl Tryz.ntmps167 Tryz.results167 (Nb rfl) ⟨h1,hS,trivial⟩ rfl ?_
  refine KB (KA (oA (KC (KB (KB (KA (oM ?_)))))));refine oP (KAR u246 rfl rfl) (KC (KH rfl (KN (KB (rD [] (aM 0 ?_))))));refine aP 1 rfl (KG rfl) (aP 2 rfl (KD (o':=0) u295 rfl rfl rfl sz_3 dc) (aD 3 rfl (dL rfl (hv:=KI u3 rfl gL)) ?_));refine aM 4 ?_;refine aP 5 rfl (KG rfl) (aP 6 rfl (KD (o':=1) u295 rfl rfl rfl sz_9 dc) (aD 7 rfl (dL rfl (hv:=KI u9 rfl gL)) ?_));refine aM 8 ?_;refine aP 9 rfl (KG rfl) (aP 10 rfl (KD (o':=2) u295 rfl rfl rfl sz_207 dc) (aD 11 rfl (dL rfl (hv:=KI u207 rfl gL)) ?_));refine aO 12 rfl (cF rfl en_137 rfl (fun w hw=>c_stSum256 m (hbits k) r s hrl (by rcases hk with rfl|rfl <;> decide) (by rcases hk with rfl|rfl <;> decide) w (mC hw)) ?_);refine aP 13 rfl (KAZ rfl rfl (by rw [KDO,KBx om,hsz]; omega)) ?_;refine aO 14 rfl (cF rfl en_85 rfl (fun w hw=>c_hOf k om _ (by rw [ByteArray.size_append,KDO,KBx om,hsz]; omega) w) ?_)
  refine aM 15 ?_;refine aP 16 rfl (Det.extract rfl rfl) (aP 17 rfl (Det.extract rfl rfl) (aA 18 ?_));refine aA 19 ?_;refine aE (KB (KA (oM (oA (KC (KM ?_))))));refine eN (.cons rfl .nil) ?_
  rfl
theorem c_mOf256 (k:Nat) (hk:k = 1∨k = 2) (key x:ByteArray) (hkey:key.size≤140737488351232) (hx:x.size≤140737488351232) (w:World)  : CF Tryz.prog 127 [.int .i64 ((k:Nat):Int),.string key,.string x] w (.tuple #[.string (hmacB k key x),.int .i64 ((0:Nat):Int)]):=by
  have hpk:hp k = p256:=by rcases hk with rfl|rfl <;> rfl
  refine KV (N:=24) (rs:=[.tmp 6,.tmp 7]) [] Tryz.func127 rfl Tryz.ntmps127 Tryz.results127 (Nb rfl) trivial rfl ?_
  refine KB (KA (oA ?_));refine oP (KO (v:=.int .i64 ((0:Nat):Int)) rfl) (KC (KB (KA (oM (oM ?_)))));refine LOps.step rfl (Ky (first:=[]) (caps:=[]) (X:=[]) (RO:=[]) rfl en_165 rfl (Nb rfl) sR wK (fun w hH hd=>c_mNew256 k hk key hkey w hH hd) ?_)
  rintro _ _ _ ⟨mb,r1,m,rfl,rfl,rfl⟩
  refine oM ?_;refine oX ?_;refine oX ?_;refine oA (oA (KC (KB (KB (KA (oM ?_))))));refine oP (KF (v:=.bool false) rfl rfl (br_f (KAe (b:=0)) dc)) (KC (KH rfl (KN (KB (KA (oM (oM ?_)))))));refine LOps.step rfl (Ke (first:=[]) (caps:=[]) rfl en_166 rfl (Nb rfl) sR wK (fun w hH hd=>c_mWrite256 m k mb (hbits k) r1 (p256.write (hinit k) (ofS (padB (keyB k key) 54))) key x (Nat.le_of_lt (p256.write_rest _ _ dc)) hx w hH hd) ?_)
  rintro _ _ ⟨r2,rfl,rfl⟩
  refine KC (KB (KA (oM ?_)));refine oS (cF rfl en_167 rfl (fun w hw=>c_mSum256 m k hk mb r2 (p256.write (p256.write (hinit k) (ofS (padB (keyB k key) 54))) (ofS x)) key (p256.write_rest _ _ dc) w (show (Item.blk mb ⟨false,_,_,_⟩).holds w from hw (.blk mb ⟨true,_,_,_⟩) mM) (show (strR256 m (hbits k) r2 (p256.write (p256.write (hinit k) (ofS (padB (keyB k key) 54))) (ofS x))).holds w from hw (KBt m (hbits k) r2 (p256.write (p256.write (hinit k) (ofS (padB (keyB k key) 54))) (ofS x))) mM)) ?_);refine oA ?_;refine oP (KO (v:=.int .i64 ((0:Nat):Int)) rfl) (KC (KM (eN (.cons rfl (.cons rfl .nil)) ?_)))
  unfold hmacB hsum macS
  rw [hpk]
  rfl
theorem c_mNew512 (k:Nat) (hk:k = 3∨k = 4) (key:ByteArray) (hkey:key.size≤140737488351232) (w:World) (hH:∀ x,x∈([]++[]:List Item)→x.holds w) (hd:([]++[]:List Item).Pairwise Apart)  : Calls Tryz.prog 165 ([.int .i64 ((k:Nat):Int),.string key]:List Value).toArray w (fun e w'=>∃ (u:Value) (x':Item) (y':Item),(∃ mb r,∃ m:Nat×Nat×Nat×Nat×Nat,u = .tuple #[.pointer (some ⟨mb,0,none⟩),.int .i64 ((0:Nat):Int)]∧x' = .blk mb ⟨true,[.int .i64 ((k:Nat):Int),.string (padB (keyB k key) 92),.pointer (some ⟨m.1,0,none⟩)],295,(0,0)⟩∧y' = KBs m (hbits k) r (p512.write (hinit k) (ofS (padB (keyB k key) 54))))∧e = .returned u∧Outcome w [] [x',y'] w'):=by
  refine KAA [] (N:=45) (rs:=[.tmp 4,.tmp 5]) Tryz.func165 rfl Tryz.ntmps165 Tryz.results165 (Nb rfl) hH hd rfl rfl ?_
  refine KB (KA (oA ?_));refine oP (KO (v:=.int .i64 ((0:Nat):Int)) rfl) (KC (KB (KA (oM ?_))));refine LOps.step rfl (Ke (first:=[]) (caps:=[]) (X:=[]) (RO:=[]) rfl en_135 rfl (Nb rfl) sR wK (fun w hH hd=>c_hNew512 k hk w hH hd) ?_)
  rintro _ _ ⟨m,rfl,rfl⟩
  refine oM ?_;refine oX ?_;refine oX ?_;refine oA (oA (KC (KB (KB (KA (oM ?_))))));refine oP (KF (v:=.bool false) rfl rfl (br_f (KAe (b:=0)) dc)) (KC (KH rfl (KN (KB (KA (oM ?_))))));refine oS (cF rfl en_192 rfl (fun w hw=>c_hBlock k om w) ?_);refine oA (KC ?_);refine KBm (α:=ByteArray) (fun x=>x = keyA k key) (fun x=>⟨[(0,.int .i64 ((k:Nat):Int)),(1,.string x),(6,.pointer (some ⟨m.1,0,none⟩)),(8,.int .i64 ((hblk k:Nat):Int))],[KBs m (hbits k) none (hinit k)]⟩) ?_ ?_
  ·
   refine KB (KA (oM ?_));refine oP (KAU u9 rfl) (oM ?_);refine oP (KF rfl rfl (KAV)) (KC ?_)
   first|refine KQ rfl (fun h21=>?_) (fun h21=>?_)|refine KR rfl (fun h21=>?_) (fun h21=>?_)
   ·
    have h21:hblk k<key.size:=h21
    have hx:toS (hashL k (ofS key)) = keyA k key:=(if_pos h21).symm
    refine KA (oM (oM ?_));refine oS (cF rfl en_85 rfl (fun w hw=>c_hOf k om key hkey w) ?_);refine oM ?_;refine oX ?_;refine oX ?_;refine oA (KC ?_)
    exact ⟨_,hx,KY ⟨rfl,rfl,rfl,rfl,trivial⟩ mS⟩
   have h21:¬ hblk k<key.size:=h21
   have hx:key = keyA k key:=(if_neg h21).symm
   refine KN ?_
   exact ⟨_,hx,KY ⟨rfl,rfl,rfl,rfl,trivial⟩ mS⟩
  rintro x hx
  have hxs:x.size≤hblk k:=hx ▸ keyA_size om key
  have hb8:=hblk_le k
  refine KB (KA (oM (oM (oM ?_))));refine oP (KAU u9 rfl) (oP (KF rfl rfl (KAX om om)) (oS (cF rfl en_33 rfl (fun w hw=>c_Repeat 0 _ w om) ?_)));refine oP (KAZ rfl rfl (by rw [KAC,List.length_replicate]; omega)) ?_
  rw [show x++toS (List.replicate (hblk k-x.size) (UInt8.toNat 0)) = keyB k key by rw [hx]; rfl]
  refine oA (KC (KB (KA (oM (oM ?_)))));refine oS (cF rfl en_193 rfl (fun w hw=>c_pad _ _ (by rw [KBx om]; omega) w) ?_);refine LOps.step rfl (Ke (first:=[]) (caps:=[]) rfl en_136 rfl (Nb rfl) sR wK (fun w hH hd=>c_stWrite512 m (hbits k) none (hinit k) (padB (keyB k key) 54) (Nat.zero_le _) (by rw [KDO,KBx om]; omega) w hH hd) ?_)
  rintro _ _ ⟨r1,rfl,rfl⟩
  refine KC (KB (KA (oM (oM ?_))));refine oS (cF rfl en_193 rfl (fun w hw=>c_pad _ _ (by rw [KBx om]; omega) w) ?_);refine oM ?_;refine oP (Ka pl_295 zr_295 rfl (fT (r':=([.int .i64 ((k:Nat):Int)]++([Value.string (padB (keyB k key) 92)]++([Value.pointer (some ⟨m.1,0,none⟩)])))) (fS (A:=([]:List Value)) (B:=([Value.int .i64 ((0:Nat):Int)])) (D:=([Value.string ⟨#[]⟩]++([Value.pointer none]))) (cs:=[.int .i64 ((k:Nat):Int)]) (fS (A:=([.int .i64 ((k:Nat):Int)])) (B:=([Value.string ⟨#[]⟩])) (D:=([Value.pointer none])) (cs:=[Value.string (padB (keyB k key) 92)]) (fS (A:=([.int .i64 ((k:Nat):Int)]++([Value.string (padB (keyB k key) 92)]))) (B:=([Value.pointer none])) (D:=([]:List Value)) (cs:=[Value.pointer (some ⟨m.1,0,none⟩)]) rfl))))) ?_;refine oS (mB (fun b44=>?_));refine oA ?_;refine oP (KO (v:=.int .i64 ((0:Nat):Int)) rfl) (KC (KM (⟨[_,_],.cons rfl (.cons rfl .nil),fun a w' hr=>⟨_,_,_,⟨b44,r1,m,rfl,rfl,rfl⟩,rfl,hr.out mS rfl⟩⟩)))
theorem c_mWrite512 (m:Nat×Nat×Nat×Nat×Nat) (k mb sz:Nat) (r:BsRow) (s:ShS) (key x:ByteArray) (hrl:s.rest.length≤128) (hs:x.size≤140737488351232) (w:World) (hH:∀ x,x∈([KBs m sz r s]++[.blk mb ⟨false,[.int .i64 ((k:Nat):Int),.string (padB (keyB k key) 92),.pointer (some ⟨m.1,0,none⟩)],295,(0,0)⟩]:List Item)→x.holds w) (hd:([KBs m sz r s]++[.blk mb ⟨false,[.int .i64 ((k:Nat):Int),.string (padB (keyB k key) 92),.pointer (some ⟨m.1,0,none⟩)],295,(0,0)⟩]:List Item).Pairwise Apart)  : Calls Tryz.prog 166 ([.pointer (some ⟨mb,0,none⟩),.string x]:List Value).toArray w (fun e w'=>∃ (u:Value) (x':Item),(∃ r',u = .int .i64 ((0:Nat):Int)∧x' = KBs m sz r' (p512.write s (ofS x)))∧e = .returned u∧Outcome w [KBs m sz r s] [x'] w'):=by
  refine KAA [KBs m sz r s,.blk mb ⟨false,[.int .i64 ((k:Nat):Int),.string (padB (keyB k key) 92),.pointer (some ⟨m.1,0,none⟩)],295,(0,0)⟩] (N:=13) (rs:=[.tmp 4]) Tryz.func166 rfl Tryz.ntmps166 Tryz.results166 (Nb rfl) hH hd rfl rfl ?_
  refine KB (KA (oP (KO (v:=.int .i64 ((0:Nat):Int)) rfl) (KC (KB (KB (KA (oM ?_)))))));refine oP (KAR u246 rfl rfl) (KC (KH rfl (KN (KB (KA (oM ?_))))));refine oP (KG rfl) (oP (KD (o':=2) u295 rfl rfl rfl sz_207 dc) (oD (dL rfl (hv:=KI u207 rfl gL)) ?_));refine oM ?_;refine LOps.step rfl (Ke (first:=[]) (caps:=[]) rfl en_136 rfl (Nb rfl) sR wK (fun w hH hd=>c_stWrite512 m sz r s x hrl hs w hH hd) ?_)
  rintro _ _ ⟨r2,rfl,rfl⟩
  refine oA (KC (KM ?_));refine ⟨[_],.cons rfl .nil,fun a w' hr=>⟨_,_,⟨r2,rfl,rfl⟩,rfl,hr.out mS rfl⟩⟩
theorem c_mSum512 (m:Nat×Nat×Nat×Nat×Nat) (k:Nat) (hk:k = 3∨k = 4) (mb:Nat) (r:BsRow) (s:ShS) (key:ByteArray) (hrl:s.rest.length<128) (w:World) (h1:(Item.blk mb ⟨false,[.int .i64 ((k:Nat):Int),.string (padB (keyB k key) 92),.pointer (some ⟨m.1,0,none⟩)],295,(0,0)⟩).holds w) (hS:(strR512 m (hbits k) r s).holds w):CF Tryz.prog 167 [.pointer (some ⟨mb,0,none⟩)] w (.string (toS (hashL k (ofS (padB (keyB k key) 92++(toS (p512.sum s (hbits k/8)))))))):=by
  have hsz:(toS (p512.sum s (hbits k/8))).size = hsize k:=by rw [KAC,Hp.sum_length _ _ (by rcases hk with rfl|rfl <;> decide)]; rcases hk with rfl|rfl <;> rfl
  have hb8:=hblk_le k
  have hs8:hsize k≤64:=by rcases hk with rfl|rfl <;> decide
  refine KV (N:=26) (rs:=[.tmp 2]) [.blk mb ⟨false,[.int .i64 ((k:Nat):Int),.string (padB (keyB k key) 92),.pointer (some ⟨m.1,0,none⟩)],295,(0,0)⟩,strR512 m (hbits k) r s] Tryz.func167 rfl Tryz.ntmps167 Tryz.results167 (Nb rfl) ⟨h1,hS,trivial⟩ rfl ?_
  refine KB (KA (oA (KC (KB (KB (KA (oM ?_)))))));refine oP (KAR u246 rfl rfl) (KC (KH rfl (KN (KB (rD [] (aM 0 ?_))))));refine aP 1 rfl (KG rfl) (aP 2 rfl (KD (o':=0) u295 rfl rfl rfl sz_3 dc) (aD 3 rfl (dL rfl (hv:=KI u3 rfl gL)) ?_));refine aM 4 ?_;refine aP 5 rfl (KG rfl) (aP 6 rfl (KD (o':=1) u295 rfl rfl rfl sz_9 dc) (aD 7 rfl (dL rfl (hv:=KI u9 rfl gL)) ?_));refine aM 8 ?_;refine aP 9 rfl (KG rfl) (aP 10 rfl (KD (o':=2) u295 rfl rfl rfl sz_207 dc) (aD 11 rfl (dL rfl (hv:=KI u207 rfl gL)) ?_));refine aO 12 rfl (cF rfl en_137 rfl (fun w hw=>c_stSum512 m (hbits k) r s hrl (by rcases hk with rfl|rfl <;> decide) (by rcases hk with rfl|rfl <;> decide) w (mC hw)) ?_);refine aP 13 rfl (KAZ rfl rfl (by rw [KDO,KBx om,hsz]; omega)) ?_;refine aO 14 rfl (cF rfl en_85 rfl (fun w hw=>c_hOf k om _ (by rw [ByteArray.size_append,KDO,KBx om,hsz]; omega) w) ?_)
  refine aM 15 ?_;refine aP 16 rfl (Det.extract rfl rfl) (aP 17 rfl (Det.extract rfl rfl) (aA 18 ?_));refine aA 19 ?_;refine aE (KB (KA (oM (oA (KC (KM ?_))))));refine eN (.cons rfl .nil) ?_
  rfl
theorem c_mOf512 (k:Nat) (hk:k = 3∨k = 4) (key x:ByteArray) (hkey:key.size≤140737488351232) (hx:x.size≤140737488351232) (w:World)  : CF Tryz.prog 127 [.int .i64 ((k:Nat):Int),.string key,.string x] w (.tuple #[.string (hmacB k key x),.int .i64 ((0:Nat):Int)]):=by
  have hpk:hp k = p512:=by rcases hk with rfl|rfl <;> rfl
  refine KV (N:=24) (rs:=[.tmp 6,.tmp 7]) [] Tryz.func127 rfl Tryz.ntmps127 Tryz.results127 (Nb rfl) trivial rfl ?_
  refine KB (KA (oA ?_));refine oP (KO (v:=.int .i64 ((0:Nat):Int)) rfl) (KC (KB (KA (oM (oM ?_)))));refine LOps.step rfl (Ky (first:=[]) (caps:=[]) (X:=[]) (RO:=[]) rfl en_165 rfl (Nb rfl) sR wK (fun w hH hd=>c_mNew512 k hk key hkey w hH hd) ?_)
  rintro _ _ _ ⟨mb,r1,m,rfl,rfl,rfl⟩
  refine oM ?_;refine oX ?_;refine oX ?_;refine oA (oA (KC (KB (KB (KA (oM ?_))))));refine oP (KF (v:=.bool false) rfl rfl (br_f (KAe (b:=0)) dc)) (KC (KH rfl (KN (KB (KA (oM (oM ?_)))))));refine LOps.step rfl (Ke (first:=[]) (caps:=[]) rfl en_166 rfl (Nb rfl) sR wK (fun w hH hd=>c_mWrite512 m k mb (hbits k) r1 (p512.write (hinit k) (ofS (padB (keyB k key) 54))) key x (Nat.le_of_lt (p512.write_rest _ _ dc)) hx w hH hd) ?_)
  rintro _ _ ⟨r2,rfl,rfl⟩
  refine KC (KB (KA (oM ?_)));refine oS (cF rfl en_167 rfl (fun w hw=>c_mSum512 m k hk mb r2 (p512.write (p512.write (hinit k) (ofS (padB (keyB k key) 54))) (ofS x)) key (p512.write_rest _ _ dc) w (show (Item.blk mb ⟨false,_,_,_⟩).holds w from hw (.blk mb ⟨true,_,_,_⟩) mM) (show (strR512 m (hbits k) r2 (p512.write (p512.write (hinit k) (ofS (padB (keyB k key) 54))) (ofS x))).holds w from hw (KBs m (hbits k) r2 (p512.write (p512.write (hinit k) (ofS (padB (keyB k key) 54))) (ofS x))) mM)) ?_);refine oA ?_;refine oP (KO (v:=.int .i64 ((0:Nat):Int)) rfl) (KC (KM (eN (.cons rfl (.cons rfl .nil)) ?_)))
  unfold hmacB hsum macS
  rw [hpk]
  rfl
theorem c_mOf (k:Nat) (hk:k = 1∨k = 2∨k = 3∨k = 4) (key x:ByteArray) (hkey:key.size≤140737488351232) (hx:x.size≤140737488351232) (w:World):CF Tryz.prog 127 [.int .i64 ((k:Nat):Int),.string key,.string x] w (.tuple #[.string (hmacB k key x),.int .i64 ((0:Nat):Int)]):=by
  rcases hk with hk|hk|hk|hk
  · exact c_mOf256 k (.inl hk) key x hkey hx w
  · exact c_mOf256 k (.inr hk) key x hkey hx w
  · exact c_mOf512 k (.inl hk) key x hkey hx w
  · exact c_mOf512 k (.inr hk) key x hkey hx w
def gnL (k:Nat) (K V:ByteArray) (n:Nat):List Value:=[.int .i64 (k:Int),.string K,.string V,.int .i64 (n:Int)]
def updI (k:Nat) (s:ByteArray) (z:ByteArray×ByteArray):Nat→ByteArray×ByteArray
  | 0=>z
  | i+1 =>
    let K:=hmacB k (updI k s z i).1 ((updI k s z i).2++toS [i%256]++s)
    (K,hmacB k K (updI k s z i).2)
def upd (k:Nat) (s:ByteArray) (z:ByteArray×ByteArray):ByteArray×ByteArray:=updI k s z (if s.data.toList = [] then 1 else 2)
def genI (k:Nat) (K V:ByteArray):Nat→ByteArray×ByteArray
  | 0=>(V,⟨#[]⟩)
  | i+1=>(hmacB k K (genI k K V i).1,(genI k K V i).2++hmacB k K (genI k K V i).1)
def genQ (k size:Nat):Nat:=(size+hsize k-1)/hsize k
def genB (k:Nat) (K V:ByteArray) (size:Nat):ByteArray:=(genI k K V (genQ k size)).2.extract 0 size
def genS (k:Nat) (K V:ByteArray) (size:Nat):ByteArray×ByteArray:=upd k ⟨#[]⟩ (K,(genI k K V (genQ k size)).1)
theorem upd_cases {x:Nat} (h:x<2) (p:Prop):x = 0∨(x = 1∧p)∨(x = 1∧¬ p):=by
  rcases (show x = 0∨x = 1 by omega) with e|e
  · exact .inl e
  · by_cases hp:p
    · exact .inr (.inl ⟨e,hp⟩)
    · exact .inr (.inr ⟨e,hp⟩)
theorem KCM {k:Nat} (hk:k = 1∨k = 2∨k = 3∨k = 4):28≤hsize k∧hsize k≤64:=by rcases hk with rfl|rfl|rfl|rfl <;> decide
theorem updI_size {k:Nat} (hk:k = 1∨k = 2∨k = 3∨k = 4) (s:ByteArray) {z:ByteArray×ByteArray} (h1:z.1.size≤64) (h2:z.2.size≤64):∀ i,(updI k s z i).1.size≤64∧(updI k s z i).2.size≤64
  | 0=>⟨h1,h2⟩
  | i+1=>by
    have:=KCM hk
    show (hmacB _ _ _).size≤64∧(hmacB _ _ _).size≤64
    rw [KCI hk,KCI hk]; omega
theorem upd_size {k:Nat} (hk:k = 1∨k = 2∨k = 3∨k = 4) (s:ByteArray) {z:ByteArray×ByteArray} (h1:z.1.size≤64) (h2:z.2.size≤64):(upd k s z).1.size≤64∧(upd k s z).2.size≤64:=updI_size hk s h1 h2 _
theorem genI_size {k:Nat} (hk:k = 1∨k = 2∨k = 3∨k = 4) (K:ByteArray) {V:ByteArray} (h:V.size≤64):∀ i,(genI k K V i).1.size≤64∧(genI k K V i).2.size = i*hsize k
  | 0=>⟨h,by rw [Nat.zero_mul]; rfl⟩
  | i+1=>by
    have h1:=KCM hk
    have h2:=(genI_size hk K h i).2
    show (hmacB _ _ _).size≤64∧(_++hmacB _ _ _:ByteArray).size = _
    rw [ByteArray.size_append,KCI hk,h2,Nat.succ_mul]; omega
theorem genQ_mul {k:Nat} (hk:k = 1∨k = 2∨k = 3∨k = 4) (size:Nat):size≤genQ k size*hsize k∧(0<genQ k size→(genQ k size-1)*hsize k<size):=by
  have hp:=(KCM hk).1
  unfold genQ
  have h1:=Nat.div_add_mod (size+hsize k-1) (hsize k)
  have h2:=Nat.mod_lt (size+hsize k-1) (show 0<hsize k by omega)
  rw [Nat.mul_comm] at h1
  generalize (size+hsize k-1)/hsize k = q at *
  refine ⟨by omega,fun hq=>?_⟩
  obtain ⟨p,rfl⟩:∃ p,q = p+1:=⟨q-1,by omega⟩
  rw [Nat.add_sub_cancel]
  rw [Nat.succ_mul] at h1
  omega
theorem genB_size {k:Nat} (hk:k = 1∨k = 2∨k = 3∨k = 4) (K:ByteArray) {V:ByteArray} (h:V.size≤64) (size:Nat):(genB k K V size).size = size:=by
  unfold genB
  rw [ByteArray.size_extract,(genI_size hk K h _).2]
  have:=(genQ_mul hk size).1
  omega
theorem KBy {k:Nat} (hk:k = 1∨k = 2∨k = 3∨k = 4) (K:ByteArray) {V:ByteArray} (h1:K.size≤64) (h:V.size≤64) (size:Nat):(genS k K V size).1.size≤64∧(genS k K V size).2.size≤64:=upd_size hk _ h1 (genI_size hk K h _).1
theorem c_dmac (k:Nat) (hk:k = 1∨k = 2∨k = 3∨k = 4) (d n:Nat) (K V s:ByteArray) (hK:K.size≤64) (hs:s.size≤10000) (w:World) (h1:(Item.blk d ⟨false,gnL k K V (n),79,(0,0)⟩).holds w):CF Tryz.prog 75 [.pointer (some ⟨d,0,none⟩),.string s] w (.string (hmacB k K s)):=by
  refine KV (N:=21) (rs:=[.tmp 4]) [.blk d ⟨false,gnL k K V (n),79,(0,0)⟩] Tryz.func75 rfl Tryz.ntmps75 Tryz.results75 (Nb rfl) ⟨h1,trivial⟩ rfl ?_
  refine KB (KA (oA (KC (KB (rD [] ?_)))));refine aM 0 ?_;refine aP 1 rfl (KG rfl) (aP 2 rfl (KD (o':=0) u79 rfl rfl rfl sz_3 dc) (aD 3 rfl (dL rfl (hv:=KI u3 rfl gL)) ?_));refine aM 4 ?_;refine aP 5 rfl (KG rfl) (aP 6 rfl (KD (o':=1) u79 rfl rfl rfl sz_9 dc) (aD 7 rfl (dL rfl (hv:=KI u9 rfl gL)) ?_));refine aM 8 ?_;refine aO 9 rfl (cF rfl en_127 rfl (fun w hw=>c_mOf k hk K s om om w) ?_);refine aM 10 ?_;refine aP 11 rfl (Det.extract rfl rfl) (aP 12 rfl (Det.extract rfl rfl) (aA 13 ?_));refine aA 14 ?_;refine aE (KB (KA (oM (oA (KC (KM ?_))))));refine eN (.cons rfl .nil) ?_
  rfl
theorem c_dupd (k:Nat) (hk:k = 1∨k = 2∨k = 3∨k = 4) (d n:Nat) (K V s:ByteArray) (hK:K.size≤64) (hV:V.size≤64) (hs:s.size≤9000) (w:World) (hH:∀ x,x∈([.blk d ⟨true,gnL k K V (n),79,(0,0)⟩]++[]:List Item)→x.holds w) (hd:([.blk d ⟨true,gnL k K V (n),79,(0,0)⟩]++[]:List Item).Pairwise Apart)  : Calls Tryz.prog 34 ([.pointer (some ⟨d,0,none⟩),.string s]:List Value).toArray w (fun e w'=>∃ (u:Value) (x':Item),(u = .tuple #[]∧x' = .blk d ⟨true,gnL k (upd k s (K,V)).1 (upd k s (K,V)).2 (n),79,(0,0)⟩)∧e = .returned u∧Outcome w [.blk d ⟨true,gnL k K V (n),79,(0,0)⟩] [x'] w'):=by
  have hsz:=updI_size hk s (z:=(K,V)) hK hV
  have hs8:=KCM hk
  refine KAA [.blk d ⟨true,gnL k K V (n),79,(0,0)⟩] (N:=43) (rs:=[]) Tryz.func34 rfl Tryz.ntmps34 Tryz.results34 (Nb rfl) hH hd rfl rfl ?_
  refine KB (KA (oM ?_));refine oP (Kq rfl) (oA (KC (KB (KA ?_))));refine oP (Kd (v:=.int .i64 ((0:Nat):Int)) rfl) (KC (LCode.block (Kc (α:=Nat) (fun x=>x≤2∧(s.data.toList = []→x≤1)) (fun x=>⟨[(0,.pointer (some ⟨d,0,none⟩)),(1,.string s),(4,.func (.func 75) #[.pointer (some ⟨d,0,none⟩)] #[]),(8,.int .i64 ((x:Nat):Int))],[.blk d ⟨true,gnL k (updI k s (K,V) x).1 (updI k s (K,V) x).2 (n),79,(0,0)⟩]⟩) (fun x=>2-x) (0) (⟨by decide,fun _=>by decide⟩) (KY ⟨rfl,rfl,rfl,rfl,trivial⟩ mS) ?_)))
  rintro x ⟨hx,hx2⟩
  refine KB (KA (oP (KF rfl rfl (Kr (b:=2))) (KC (KB ?_))))
  first|refine KQ rfl (fun h9=>?_) (fun h9=>?_)|refine KR rfl (fun h9=>?_) (fun h9=>?_)
  ·
   have h9:x<2:=h9
   refine KN (KB (LCode.block (KB (KA (oM (oA (KC (KB (KB ?_)))))))))
   rcases upd_cases h9 (s.data.toList = []) with rfl|⟨rfl,he⟩|⟨rfl,hne⟩
   ·
    refine KA (oM ?_);refine oP (KF (v:=.bool false) rfl rfl (br_f (KAG (b:=1)) dc)) (oM ?_);refine oK (oK (oP (KU rfl rfl) (KC (KH rfl (KN (KB (rD [16] (aM 0 ?_))))))));refine aM 1 ?_;refine aM 2 ?_;refine aP 3 rfl (KG rfl) (aP 4 rfl (KD (o':=2) u79 rfl rfl rfl sz_9 dc) (aD 5 rfl (dL rfl (hv:=KI u9 rfl gL)) ?_));refine aM 6 ?_;refine aP 7 rfl (KAM u3 u5 rfl) (aM 11 ?_);refine aO 8 rfl (mk (KAK u70 inf_5 rfl rfl rfl rfl dc rfl) (fun b25=>?_));refine aD 9 rfl (KAp (KAx (f:=fun _=>0%256) u70 u5 u9 rfl mM rfl) (show _ = Value.string (toS [0%256]) from rfl)) ?_;refine aP 10 rfl (KAZ rfl rfl (by rw [KAC]; have:=(hsz 0).2; simp only [List.length_cons,List.length_nil]; omega)) ?_;refine aP 12 rfl (KAZ rfl rfl (by rw [ByteArray.size_append,KAC]; have:=(hsz 0).2; simp only [List.length_cons,List.length_nil]; omega)) ?_
    refine aO 13 rfl (Kw (first:=[_]) rfl en_75 rfl (Nb rfl) (fun w hw=>c_dmac k hk d n (updI k s (K,V) 0).1 (updI k s (K,V) 0).2 _ (hsz 0).1 (by have:=(hsz 0).2; first|omega|(simp only [ByteArray.size_append,KAC,List.length_cons,List.length_nil]; omega)) w (show (Item.blk d ⟨false,gnL k (updI k s (K,V) 0).1 (updI k s (K,V) 0).2 (n),79,(0,0)⟩).holds w from hw (.blk d ⟨true,gnL k (updI k s (K,V) 0).1 (updI k s (K,V) 0).2 (n),79,(0,0)⟩) mM)) ?_);refine aP 14 rfl (KG rfl) (aP 15 rfl (KD (o':=1) u79 rfl rfl rfl sz_9 dc) ?_);refine aL 16 rfl (KW rfl rfl rfl sz_9 mT (by show 1<4; decide) (show (gnL _ _ _ _).set 1 _ = gnL _ _ _ _ from rfl) (by simp) ?_);refine aE (KA (oM (oM (oM ?_))));refine oP (KG rfl) (oP (KD (o':=2) u79 rfl rfl rfl sz_9 dc) (oD (dL rfl (hv:=KI u9 rfl gL)) ?_));refine oS (Kw (first:=[_]) rfl en_75 rfl (Nb rfl) (fun w hw=>c_dmac k hk d n (hmacB k (updI k s (K,V) 0).1 ((updI k s (K,V) 0).2++toS [0%256]++s)) (updI k s (K,V) 0).2 _ (by rw [KCI hk]; omega) (by have:=(hsz 0).2; first|omega|(simp only [ByteArray.size_append,KAC,List.length_cons,List.length_nil]; omega)) w (show (Item.blk d ⟨false,gnL k (hmacB k (updI k s (K,V) 0).1 ((updI k s (K,V) 0).2++toS [0%256]++s)) (updI k s (K,V) 0).2 (n),79,(0,0)⟩).holds w from hw (.blk d ⟨true,gnL k (hmacB k (updI k s (K,V) 0).1 ((updI k s (K,V) 0).2++toS [0%256]++s)) (updI k s (K,V) 0).2 (n),79,(0,0)⟩) mM)) ?_)
    refine oP (KG rfl) (oP (KD (o':=2) u79 rfl rfl rfl sz_9 dc) ?_);refine LOps.step rfl (KW rfl rfl rfl sz_9 mT (by show 2<4; decide) (show (gnL _ _ _ _).set 2 _ = gnL _ _ _ _ from rfl) (by simp) ?_);refine KC (KA (oP (KF rfl rfl (Kj (b:=1) om)) (oM (KC ?_))))
    exact ⟨1,⟨by decide,fun he=>Nat.le_refl _⟩,by decide,KY ⟨rfl,rfl,rfl,rfl,trivial⟩ mS⟩
   ·
    refine KA (oM ?_);refine oP (KF (v:=.bool true) rfl rfl (br_t (KAG (b:=1)) (rfl))) (oM ?_);refine oGM ?_;refine oGP (KJ (Det.eqs rfl rfl) (congrArg Value.bool (eq_str_t (he)))) (oP (Kg rfl rfl) (KC (KT rfl (KM ?_))))
    have e1:upd k s (K,V) = (updI k s (K,V) 1):=by unfold upd; rw [if_pos he]
    rw [e1]
    refine ⟨[],.nil,fun a w' hr=>⟨_,_,⟨rfl,rfl⟩,rfl,hr.out mS rfl⟩⟩
   refine KA (oM ?_);refine oP (KF (v:=.bool true) rfl rfl (br_t (KAG (b:=1)) (rfl))) (oM ?_);refine oGM ?_;refine oGP (KJ (Det.eqs rfl rfl) (congrArg Value.bool (eq_str_f (hne)))) (oP (Kg rfl rfl) (KC (KH rfl (KN (KB (rD [16] (aM 0 ?_)))))));refine aM 1 ?_;refine aM 2 ?_;refine aP 3 rfl (KG rfl) (aP 4 rfl (KD (o':=2) u79 rfl rfl rfl sz_9 dc) (aD 5 rfl (dL rfl (hv:=KI u9 rfl gL)) ?_));refine aM 6 ?_;refine aP 7 rfl (KAM u3 u5 rfl) (aM 11 ?_);refine aO 8 rfl (mk (KAK u70 inf_5 rfl rfl rfl rfl dc rfl) (fun b25=>?_));refine aD 9 rfl (KAp (KAx (f:=fun _=>1%256) u70 u5 u9 rfl mM rfl) (show _ = Value.string (toS [1%256]) from rfl)) ?_;refine aP 10 rfl (KAZ rfl rfl (by rw [KAC]; have:=(hsz 1).2; simp only [List.length_cons,List.length_nil]; omega)) ?_;refine aP 12 rfl (KAZ rfl rfl (by rw [ByteArray.size_append,KAC]; have:=(hsz 1).2; simp only [List.length_cons,List.length_nil]; omega)) ?_
   refine aO 13 rfl (Kw (first:=[_]) rfl en_75 rfl (Nb rfl) (fun w hw=>c_dmac k hk d n (updI k s (K,V) 1).1 (updI k s (K,V) 1).2 _ (hsz 1).1 (by have:=(hsz 1).2; first|omega|(simp only [ByteArray.size_append,KAC,List.length_cons,List.length_nil]; omega)) w (show (Item.blk d ⟨false,gnL k (updI k s (K,V) 1).1 (updI k s (K,V) 1).2 (n),79,(0,0)⟩).holds w from hw (.blk d ⟨true,gnL k (updI k s (K,V) 1).1 (updI k s (K,V) 1).2 (n),79,(0,0)⟩) mM)) ?_);refine aP 14 rfl (KG rfl) (aP 15 rfl (KD (o':=1) u79 rfl rfl rfl sz_9 dc) ?_);refine aL 16 rfl (KW rfl rfl rfl sz_9 mT (by show 1<4; decide) (show (gnL _ _ _ _).set 1 _ = gnL _ _ _ _ from rfl) (by simp) ?_);refine aE (KA (oM (oM (oM ?_))));refine oP (KG rfl) (oP (KD (o':=2) u79 rfl rfl rfl sz_9 dc) (oD (dL rfl (hv:=KI u9 rfl gL)) ?_));refine oS (Kw (first:=[_]) rfl en_75 rfl (Nb rfl) (fun w hw=>c_dmac k hk d n (hmacB k (updI k s (K,V) 1).1 ((updI k s (K,V) 1).2++toS [1%256]++s)) (updI k s (K,V) 1).2 _ (by rw [KCI hk]; omega) (by have:=(hsz 1).2; first|omega|(simp only [ByteArray.size_append,KAC,List.length_cons,List.length_nil]; omega)) w (show (Item.blk d ⟨false,gnL k (hmacB k (updI k s (K,V) 1).1 ((updI k s (K,V) 1).2++toS [1%256]++s)) (updI k s (K,V) 1).2 (n),79,(0,0)⟩).holds w from hw (.blk d ⟨true,gnL k (hmacB k (updI k s (K,V) 1).1 ((updI k s (K,V) 1).2++toS [1%256]++s)) (updI k s (K,V) 1).2 (n),79,(0,0)⟩) mM)) ?_)
   refine oP (KG rfl) (oP (KD (o':=2) u79 rfl rfl rfl sz_9 dc) ?_);refine LOps.step rfl (KW rfl rfl rfl sz_9 mT (by show 2<4; decide) (show (gnL _ _ _ _).set 2 _ = gnL _ _ _ _ from rfl) (by simp) ?_);refine KC (KA (oP (KF rfl rfl (Kj (b:=1) om)) (oM (KC ?_))))
   exact ⟨2,⟨by decide,fun he=>absurd he hne⟩,by decide,KY ⟨rfl,rfl,rfl,rfl,trivial⟩ mS⟩
  have h9:¬ x<2:=h9
  obtain rfl:x = 2:=by omega
  have hne:¬ s.data.toList = []:=fun he=>by have:=hx2 he; omega
  refine KZ ?_
  have e1:upd k s (K,V) = (updI k s (K,V) 2):=by unfold upd; rw [if_neg hne]
  rw [e1]
  refine ⟨[],.nil,fun a w' hr=>⟨_,_,⟨rfl,rfl⟩,rfl,hr.out mS rfl⟩⟩
theorem c_dgen (k:Nat) (hk:k = 1∨k = 2∨k = 3∨k = 4) (d n:Nat) (K V:ByteArray) (hK:K.size≤64) (hV:V.size≤64) (size:Nat) (hsize1:size≤256) (hn:n≤64) (w:World) (hH:∀ x,x∈([.blk d ⟨true,gnL k K V (n),79,(0,0)⟩]++[]:List Item)→x.holds w) (hd:([.blk d ⟨true,gnL k K V (n),79,(0,0)⟩]++[]:List Item).Pairwise Apart)  : Calls Tryz.prog 36 ([.pointer (some ⟨d,0,none⟩),.int .i64 ((size:Nat):Int),.string ⟨#[]⟩]:List Value).toArray w (fun e w'=>∃ (u:Value) (x':Item),(u = .tuple #[.string (genB k K V size),.int .i64 ((0:Nat):Int)]∧x' = .blk d ⟨true,gnL k (genS k K V size).1 (genS k K V size).2 (n+1),79,(0,0)⟩)∧e = .returned u∧Outcome w [.blk d ⟨true,gnL k K V (n),79,(0,0)⟩] [x'] w'):=by
  have hg:=genI_size hk K hV
  have hs8:=KCM hk
  have hq:=genQ_mul hk size
  refine KAA [.blk d ⟨true,gnL k K V (n),79,(0,0)⟩] (N:=67) (rs:=[.tmp 6,.tmp 7]) Tryz.func36 rfl Tryz.ntmps36 Tryz.results36 (Nb rfl) hH hd rfl rfl ?_
  refine KB (KA (oA ?_));refine oP (KO (v:=.int .i64 ((0:Nat):Int)) rfl) (KC (KB (LCode.block (KB (KA (oM ?_))))));refine oP (KAR u24 rfl rfl) (oA (KC ?_));refine KH rfl (KB (KA (oM ?_)));refine oP (KF (v:=.bool false) rfl rfl (br_f (Kr (b:=0)) om)) (oM ?_);refine oGM ?_;refine oGP (KF (v:=.bool false) rfl rfl (br_f (KAV (b:=256)) om)) (oP (KU rfl rfl) (oM ?_));refine oGM ?_;refine oGP (KAU u9 rfl) (oGP (KF (v:=.bool false) rfl rfl (br_f (KAV (b:=256)) dc)) (oP (KU rfl rfl) (oA (KC ?_))));refine KH rfl (KB (KA (oM ?_)));refine oP (KG rfl) (oP (KD (o':=3) u79 rfl rfl rfl sz_3 dc) (oD (dL rfl (hv:=KI u3 rfl gL)) ?_));refine oP (KF (v:=.bool false) rfl rfl (br_f (KAV (b:=64)) om)) (oA (KC ?_));refine KH rfl (KN (KB (KB (KA (oM ?_)))));refine oP (KJ (Det.nes rfl rfl) (congrArg (fun b:Bool=>Value.bool (!b)) (eq_str_t (rfl)))) ?_;refine KC (KH rfl (KN (KB (KA (oA (KC (KB (LCode.block ?_))))))))
  refine Kc (α:=Nat) (fun x=>x≤genQ k size) (fun x=>⟨[(0,.pointer (some ⟨d,0,none⟩)),(1,.int .i64 ((size:Nat):Int)),(2,.string ⟨#[]⟩),(8,.string (genI k K V x).2)],[.blk d ⟨true,gnL k K (genI k K V x).1 (n),79,(0,0)⟩]⟩) (fun x=>genQ k size-x) (0) (Nat.zero_le _) (KY ⟨rfl,rfl,rfl,rfl,trivial⟩ mS) ?_
  intro x hx
  refine KB (KB (KA (oM ?_)));refine oP (KAU u9 rfl) (oM ?_);refine oP (KF rfl rfl (Kr)) (KC ?_)
  first|refine KQ rfl (fun h38=>?_) (fun h38=>?_)|refine KR rfl (fun h38=>?_) (fun h38=>?_)
  ·
   have h38:(genI k K V x).2.size<size:=h38
   rw [(hg x).2] at h38
   have hxq:x+1≤genQ k size:=by
     rcases Nat.lt_or_ge x (genQ k size) with h|h
     · exact h
     · exact absurd (Nat.le_trans hq.1 (Nat.mul_le_mul_right _ h)) om
   refine KN (LCode.block (KB (KA (oM (oM (oM ?_))))));refine oP (KG rfl) (oP (KD (o':=2) u79 rfl rfl rfl sz_9 dc) (oD (dL rfl (hv:=KI u9 rfl gL)) ?_));refine oS (cF rfl en_75 rfl (fun w hw=>c_dmac k hk d n K (genI k K V x).1 _ hK (by have:=(hg x).1; omega) w (show (Item.blk d ⟨false,gnL k K (genI k K V x).1 (n),79,(0,0)⟩).holds w from hw (.blk d ⟨true,gnL k K (genI k K V x).1 (n),79,(0,0)⟩) mM)) ?_);refine oP (KG rfl) (oP (KD (o':=2) u79 rfl rfl rfl sz_9 dc) ?_);refine LOps.step rfl (KW rfl rfl rfl sz_9 mT (by show 2<4; decide) (show (gnL _ _ _ _).set 2 _ = gnL _ _ _ _ from rfl) (by simp) ?_);refine KC (KA (oM (oM ?_)));refine oP (KG rfl) (oP (KD (o':=2) u79 rfl rfl rfl sz_9 dc) (oD (dL rfl (hv:=KI u9 rfl gL)) ?_));refine oP (KAZ rfl rfl (by have h1:=(hg x).2; rw [KCI hk,h1]; omega)) ?_;refine oA (KC ?_)
   exact ⟨x+1,hxq,by omega,KY ⟨rfl,rfl,rfl,rfl,trivial⟩ mS⟩
  have h38:¬ (genI k K V x).2.size<size:=h38
  rw [(hg x).2] at h38
  obtain rfl:x = genQ k size:=by
    rcases Nat.lt_or_ge x (genQ k size) with h|h
    · have h0:=hq.2 om
      have:=Nat.mul_le_mul_right (hsize k) (show x≤genQ k size-1 by omega)
      omega
    · omega
  refine KZ (KB (KA (oM (oM ?_))));refine LOps.step rfl (Ke (first:=[]) (caps:=[]) rfl en_34 rfl (Nb rfl) sR wK (fun w hH hd=>c_dupd k hk d n K (genI k K V (genQ k size)).1 ⟨#[]⟩ hK (hg _).1 dc w hH hd) ?_)
  rintro _ _ ⟨rfl,rfl⟩
  refine KC (KB (KA (oM ?_)));refine oP (KG rfl) (oP (KD (o':=3) u79 rfl rfl rfl sz_3 dc) (oD (dL rfl (hv:=KI u3 rfl gL)) ?_));refine oP (KF rfl rfl (Kj (b:=1) om)) (oP (KG rfl) (oP (KD (o':=3) u79 rfl rfl rfl sz_3 dc) ?_));refine LOps.step rfl (KW rfl rfl rfl sz_3 mT (by show 3<4; decide) (show (gnL _ _ _ _).set 3 _ = gnL _ _ _ _ from rfl) (by simp) ?_);refine KC (KB (KA (oM (oM ?_))));refine oP (Det.slStrH u9 rfl rfl om (by rw [(hg _).2]; exact Int.ofNat_le.2 hq.1)) ?_;refine oA ?_;refine oP (KO (v:=.int .i64 ((0:Nat):Int)) rfl) (KC (KM (⟨[_,_],.cons rfl (.cons rfl .nil),fun a w' hr=>⟨_,_,⟨rfl,rfl⟩,rfl,hr.out mS rfl⟩⟩)))
theorem c_dgenX (k:Nat) (hk:k = 1∨k = 2∨k = 3∨k = 4) (d n:Nat) (K V:ByteArray) (size:Nat) (hsize1:size≤256) (hn:64<n) (w:World) (hH:∀ x,x∈([.blk d ⟨true,gnL k K V (n),79,(0,0)⟩]++[]:List Item)→x.holds w) (hd:([.blk d ⟨true,gnL k K V (n),79,(0,0)⟩]++[]:List Item).Pairwise Apart)  : Calls Tryz.prog 36 ([.pointer (some ⟨d,0,none⟩),.int .i64 ((size:Nat):Int),.string ⟨#[]⟩]:List Value).toArray w (fun e w'=>∃ (u:Value) (x':Item),(u = .tuple #[.string ⟨#[]⟩,.int .i64 ((1103:Nat):Int)]∧x' = .blk d ⟨true,gnL k K V (n),79,(0,0)⟩)∧e = .returned u∧Outcome w [.blk d ⟨true,gnL k K V (n),79,(0,0)⟩] [x'] w'):=by
  refine KAA [.blk d ⟨true,gnL k K V (n),79,(0,0)⟩] (N:=67) (rs:=[.tmp 6,.tmp 7]) Tryz.func36 rfl Tryz.ntmps36 Tryz.results36 (Nb rfl) hH hd rfl rfl ?_
  refine KB (KA (oA ?_));refine oP (KO (v:=.int .i64 ((0:Nat):Int)) rfl) (KC (KB (LCode.block (KB (KA (oM ?_))))));refine oP (KAR u24 rfl rfl) (oA (KC ?_));refine KH rfl (KB (KA (oM ?_)));refine oP (KF (v:=.bool false) rfl rfl (br_f (Kr (b:=0)) om)) (oM ?_);refine oGM ?_;refine oGP (KF (v:=.bool false) rfl rfl (br_f (KAV (b:=256)) om)) (oP (KU rfl rfl) (oM ?_));refine oGM ?_;refine oGP (KAU u9 rfl) (oGP (KF (v:=.bool false) rfl rfl (br_f (KAV (b:=256)) dc)) (oP (KU rfl rfl) (oA (KC ?_))));refine KH rfl (KB (KA (oM ?_)));refine oP (KG rfl) (oP (KD (o':=3) u79 rfl rfl rfl sz_3 dc) (oD (dL rfl (hv:=KI u3 rfl gL)) ?_));refine oP (KF (v:=.bool true) rfl rfl (br_t (KAV (b:=64)) om)) (oA (KC ?_));refine KT rfl (KB (KA (oA ?_)));refine oP (KO (v:=.int .i64 ((1103:Nat):Int)) rfl) (KC (KM (⟨[_,_],.cons rfl (.cons rfl .nil),fun a w' hr=>⟨_,_,⟨rfl,rfl⟩,rfl,hr.out mS rfl⟩⟩)))
theorem c_dmay (k:Nat) (hk:k = 1∨k = 2∨k = 3∨k = 4) (mb:Nat) (et s1 s2:ByteArray) (he1:hsize k/2≤et.size) (he2:et.size≤256) (h1:s1.size≤256) (h2:s2.size≤256) (w:World) (hm:(Item.blk mb ⟨false,[.string s1,.string s2],9,(0,0)⟩).holds w):CF Tryz.prog 32 [.int .i64 ((k:Nat):Int),.string et,.slice (some ⟨mb,0,none⟩) 2 2] w (.int .i64 ((0:Nat):Int)):=by
  have hs8:=KCM hk
  refine KV (N:=30) (rs:=[.tmp 6]) [.blk mb ⟨false,[.string s1,.string s2],9,(0,0)⟩] Tryz.func32 rfl Tryz.ntmps32 Tryz.results32 (Nb rfl) ⟨hm,trivial⟩ rfl ?_
  refine KB (KA (oP (KO (v:=.int .i64 ((0:Nat):Int)) rfl) (KC (KB (KB (KA (oM ?_)))))));refine oP (KAU u9 rfl) (oM ?_);refine oS (cF rfl en_31 rfl (fun w hw=>c_hSize k hk w) ?_);refine oP (KF rfl rfl (KCp (b:=2) om om)) (oP (KF (v:=.bool false) rfl rfl (br_f Kr om)) (oM ?_));refine oGM ?_;refine oGP (KAU u9 rfl) (oGP (KF (v:=.bool false) rfl rfl (br_f (KAV (b:=256)) om)) (oP (KU rfl rfl) (KC (KH rfl (KN (KB (KB (KA (oM ?_)))))))));refine oP (KBF u143 rfl) (oP (Kd (v:=.int .i64 ((0:Nat):Int)) rfl) (KC (LCode.block (Kc (α:=Nat) (fun x=>x≤2) (fun x=>⟨[(20,.slice (some ⟨mb,0,none⟩) 2 2),(21,.int .i64 ((2:Nat):Int)),(22,.int .i64 ((x:Nat):Int))],[.blk mb ⟨false,[.string s1,.string s2],9,(0,0)⟩]⟩) (fun x=>2-x) (0) (Nat.zero_le _) (KY ⟨rfl,rfl,rfl,trivial⟩ mS) ?_))))
  intro x hx
  refine KB (KA (oP (KF rfl rfl (Kr)) (KC (KB ?_))))
  first|refine KQ rfl (fun h23=>?_) (fun h23=>?_)|refine KR rfl (fun h23=>?_) (fun h23=>?_)
  ·
   refine KN (KB (LCode.block (KB ?_)))
   obtain ⟨sv,hsv,sx⟩:∃ sv:ByteArray,sv.size≤256∧([.string s1,.string s2]:List Value)[x]? = some (.string sv):=by
     rcases (show x = 0∨x = 1 by omega) with rfl|rfl
     · exact ⟨s1,h1,rfl⟩
     · exact ⟨s2,h2,rfl⟩
   refine KA (oP (Kt u143 sz_9 rfl rfl om) (oD (dL rfl (hv:=KI u9 rfl (by exact sx))) ?_));refine oA (KC (KB (KA (oM ?_))));refine oP (KAU u9 rfl) (oP (KF (v:=.bool false) rfl rfl (br_f (KAV (b:=256)) om)) (KC (KH rfl (KN (KA (oP (KF rfl rfl (Kj (b:=1) om)) (oM (KC ?_))))))))
   exact ⟨x+1,by omega,by omega,KY ⟨rfl,rfl,rfl,trivial⟩ mS⟩
  refine KZ (KB (KA (oP (KO (v:=.int .i64 ((0:Nat):Int)) rfl) (KC (KM (eN (.cons rfl .nil) ?_))))))
  rfl
theorem c_dNew (k:Nat) (hk:k = 1∨k = 2∨k = 3∨k = 4) (et s1 s2:ByteArray) (he1:hsize k/2≤et.size) (he2:et.size≤256) (h1:s1.size≤256) (h2:s2.size≤256) (w:World) (hH:∀ x,x∈([]++[]:List Item)→x.holds w) (hd:([]++[]:List Item).Pairwise Apart)  : Calls Tryz.prog 11 ([.int .i64 ((k:Nat):Int),.string et,.string s1,.string s2]:List Value).toArray w (fun e w'=>∃ (u:Value) (x':Item),(∃ d,u = .tuple #[.pointer (some ⟨d,0,none⟩),.int .i64 ((0:Nat):Int)]∧x' = .blk d ⟨true,gnL k (upd k (et++s1++s2) (toS (List.replicate (hsize k) 0),toS (List.replicate (hsize k) 1))).1 (upd k (et++s1++s2) (toS (List.replicate (hsize k) 0),toS (List.replicate (hsize k) 1))).2 (1),79,(0,0)⟩)∧e = .returned u∧Outcome w [] [x'] w'):=by
  have hs8:=KCM hk
  refine KAA [] (N:=41) (rs:=[.tmp 8,.tmp 9]) Tryz.func11 rfl Tryz.ntmps11 Tryz.results11 (Nb rfl) hH hd rfl rfl ?_
  refine KB (KA (oA ?_));refine oP (KO (v:=.int .i64 ((0:Nat):Int)) rfl) (KC (KB (KA (oM ?_))));refine oS (cF rfl en_31 rfl (fun w hw=>c_hSize k hk w) ?_);refine oA (KC (KB (KB (KA (oM ?_)))));refine oP (KF (v:=.bool false) rfl rfl (br_f (KAG (b:=0)) om)) (KC (KH rfl (KN (KB (KB (KA (oM (oM (oM (oM ?_))))))))));refine oS (mk (KAK u143 inf_9 rfl rfl rfl rfl dc rfl) (fun b21=>?_));refine oS (cF rfl en_32 rfl (fun w hw=>c_dmay k hk b21 et s1 s2 he1 he2 h1 h2 w (show (Item.blk b21 ⟨false,[.string s1,.string s2],9,(0,0)⟩).holds w from hw (.blk b21 ⟨true,[.string s1,.string s2],9,(0,0)⟩) mM)) ?_);refine oA (KC (KB (KA (oM ?_))));refine oP (KF (v:=.bool false) rfl rfl (br_f (KAe (b:=0)) dc)) (KC (KH rfl (KN (KB (KA (oM (oM ?_)))))));refine oS (cF rfl en_33 rfl (fun w hw=>c_Repeat 0 _ w om) ?_);refine oM ?_;refine oS (cF rfl en_33 rfl (fun w hw=>c_Repeat 1 _ w om) ?_);refine oP (Ka pl_79 zr_79 rfl (fT (r':=([.int .i64 ((k:Nat):Int)]++([Value.string (toS (List.replicate (hsize k) (UInt8.toNat 0)))]++([Value.string (toS (List.replicate (hsize k) (UInt8.toNat 1)))]++([.int .i64 ((1:Nat):Int)]))))) (fS (A:=([]:List Value)) (B:=([Value.int .i64 ((0:Nat):Int)])) (D:=([Value.string ⟨#[]⟩]++([Value.string ⟨#[]⟩]++([Value.int .i64 ((0:Nat):Int)])))) (cs:=[.int .i64 ((k:Nat):Int)]) (fS (A:=([.int .i64 ((k:Nat):Int)])) (B:=([Value.string ⟨#[]⟩])) (D:=([Value.string ⟨#[]⟩]++([Value.int .i64 ((0:Nat):Int)]))) (cs:=[Value.string (toS (List.replicate (hsize k) (UInt8.toNat 0)))]) (fS (A:=([.int .i64 ((k:Nat):Int)]++([Value.string (toS (List.replicate (hsize k) (UInt8.toNat 0)))]))) (B:=([Value.string ⟨#[]⟩])) (D:=([Value.int .i64 ((0:Nat):Int)])) (cs:=[Value.string (toS (List.replicate (hsize k) (UInt8.toNat 1)))]) (fS (A:=([.int .i64 ((k:Nat):Int)]++([Value.string (toS (List.replicate (hsize k) (UInt8.toNat 0)))]++([Value.string (toS (List.replicate (hsize k) (UInt8.toNat 1)))])))) (B:=([Value.int .i64 ((0:Nat):Int)])) (D:=([]:List Value)) (cs:=[.int .i64 ((1:Nat):Int)]) rfl)))))) ?_
  refine oS (mB (fun b32=>?_));refine oA (KC (KB (KA (oM (oM (oM ?_))))));refine oP (KAZ rfl rfl om) (oM ?_);refine oP (KAZ rfl rfl (by rw [ByteArray.size_append]; omega)) ?_;refine LOps.step rfl (Ke (first:=[]) (caps:=[]) rfl en_34 rfl (Nb rfl) sR wK (fun w hH hd=>c_dupd k hk b32 1 _ _ _ (by rw [KAC,List.length_replicate]; omega) (by rw [KAC,List.length_replicate]; omega) (by simp only [ByteArray.size_append]; omega) w hH hd) ?_)
  rintro _ _ ⟨rfl,rfl⟩
  refine KC (KB (KA (oM (oA ?_))));refine oP (KO (v:=.int .i64 ((0:Nat):Int)) rfl) (KC (KM (⟨[_,_],.cons rfl (.cons rfl .nil),fun a w' hr=>⟨_,_,⟨b32,rfl,rfl⟩,rfl,hr.out mS rfl⟩⟩)))
end Go.Proofs.YtnpeokiboiclfaaGreat
set_option linter.unusedVariables false
set_option linter.unusedSimpArgs false
namespace Go.Proofs.YtnpeokiboiclfaaGreat
open Go Go.RowKit
section
variable {P:Program} {C:Ctx} {ty:TypeId} {pos:String} {aft:Array Edge} {d:Nat} {K:St→Prop} {x y:Operand} {t t2 e:TypeId}
theorem LStepW.copy {T : List (Nat × Value)} {H H' : List Item} {q o dl dc sb so sl sc : Nat} {cs0 cs cs' : List Value} {te : TypeId} {Bs : Blk} {g : Option (Nat × Bool)} (hx : evT T x = some (.slice (some ⟨q, o, none⟩) dl dc)) (hy : evT T y = some (.slice (some ⟨sb, so, none⟩) sl sc)) (ht : P.underlying t = some (.slice e)) (he : szOf P e = some 1)
    (hs:SetAt q ⟨true,cs0,te,(0,0)⟩ ⟨true,cs',te,(0,0)⟩ H H') (hm:Item.blk sb Bs∈H) (hn:cs.length = Nat.min sl dl) (hsrc:∀ j v,cs[j]? = some v→Bs.cells[so+j]? = some v) (hfit:o+cs.length≤cs0.length) (h1:KBM cs) (hc:KAa cs0 o cs = cs') (hd:d<C.N)
    (h:K ⟨(d,.int .i64 (cs.length:Int)) :: T,H'⟩):KAQ P C ⟨some d,.call { callee:=.builtin .copy,args:=#[x,y],argTypes:=#[t,t2] },ty,pos,aft,g⟩ ⟨T,H⟩ K:=by
  unfold KAQ
  intro a w hr Qr
  have hb:w.heap[q]? = some (.cells cs0.toArray te (0,0)):=hr.hp _ hs.mem
  have ha:w.heap[sb]? = some (.cells Bs.cells.toArray Bs.elem Bs.frz):=hr.hp _ hm
  have hrun:=run_copy_row (P:=P) w t t2 ty e q o dl dc ⟨sb,so,none⟩ sl sc cs0.toArray te cs ht he hb hn (fun j v hj=>by
    rw [cell_at ha,List.getElem?_toArray]; exact hsrc j v hj) (by simpa using hfit) (fun v hv=>one_cell' (h1 v hv))
  unfold Oper.wp
  have hex:(execOp a.eval ⟨some d,.call { callee:=.builtin .copy,args:=#[x,y],argTypes:=#[t,t2] },ty,pos,aft,g⟩).run P w = .ok (.value (goInt cs.length)) (w.setRow q (cs0.toArray.toList.take o++cs++cs0.toArray.toList.drop (o+cs.length)).toArray):=by
    have:#[x,y].map a.eval = #[.slice (some ⟨q,o,none⟩) dl dc,.slice (some ⟨sb,so,none⟩) sl sc]:=by simp [hr.ev hx,hr.ev hy]
    simp [execOp,resolve,this,invoke,builtin,hrun]
  rw [hex]
  have e1:cs0.toArray.toList.take o++cs++cs0.toArray.toList.drop (o+cs.length) = cs':=by rw [← hc]; rfl
  rw [e1]
  have hnew:(w.setRow q cs'.toArray).heap[q]? = some (.cells cs'.toArray te (0,0)):=setRow_heap w q _ _ te _ hb
  have hoth:∀ k,k≠q→(w.setRow q cs'.toArray).heap[k]? = w.heap[k]?:=fun k hk=>setRow_other w q k _ hk
  exact ⟨_,h,(hr.setBlk (B':=⟨true,cs',te,(0,0)⟩) hs rfl hnew hoth (by simp [World.setRow]) rfl rfl rfl).put hd _⟩
theorem Det.slArrL {dd : Option Tmp} {g : Option (Nat × Bool)} {st : St} {z : Operand} {n b o k m : Nat} {kk : IntKind} (ht : P.underlying t = some (.array n e)) (he : szOf P e = some m) (hx : evT st.T x = some (.pointer (some ⟨b, o, none⟩))) (hz : evT st.T z = some (.int kk (k : Int))) (h1 : k < n) :
    Slots P C ⟨dd,.slice t x (some z) none none,ty,pos,aft,g⟩ st (.slice (some ⟨b,o+k*m,none⟩) (n-k) (n-k)):=by
  unfold Slots
  intro a w hr
  have h0:(0:Int)≤(k:Int):=Int.natCast_nonneg k
  have h1':((k:Int)≤(n:Int)):=by omega
  have h2:¬ n = k:=by omega
  simp [execOp,hr _ _ hx,hr _ _ hz,Instr.sliceAt,run_underlying ht,Instr.sureAddr,Instr.sliceBounds,run_sliceBound,h0,h1',KAr he,Addr.add,h2]
end
abbrev WB:Nat:=18446744073709551616
theorem round_fin {X c n : Nat} (hV : X + c * 2 ^ (64 * n) < 2 ^ (64 * (n + 2))) (j : Nat) :
    (if j = n+1 then (limb (setl X n ((limb X n+c)%WB)) (n+1)+(limb X n+c)/WB)%WB else limb (setl X n ((limb X n+c)%WB)) j) = limb (X+c*2^(64*n)) j:=by
  have h1:=setl_eq X n ((limb X n+c)%WB)
  have hdm:=Nat.div_add_mod (limb X n+c) WB
  generalize hX1:setl X n ((limb X n+c)%WB) = X1 at *
  generalize hs:(limb X n+c)%WB = s at *
  generalize hq:(limb X n+c)/WB = q at *
  have hK:2^(64*(n+1)) = WB*2^(64*n):=by rw [show 64*(n+1) = 64+64*n by omega,Nat.pow_add]
  have hK2:2^(64*(n+2)) = WB*2^(64*(n+1)):=by rw [show 64*(n+2) = 64+64*(n+1) by omega,Nat.pow_add]
  generalize hKn:2^(64*n) = Kn at *
  have e1:X+c*Kn = X1+q*2^(64*(n+1)):=by
    rw [hK]
    have e2:(WB*q+s)*Kn = (limb X n+c)*Kn:=by rw [hdm]
    have e3:q*(WB*Kn) = WB*q*Kn:=by rw [← Nat.mul_assoc,Nat.mul_comm q WB]
    rw [Nat.add_mul,Nat.add_mul] at e2
    rw [e3]
    omega
  have hlt:limb X1 (n+1)+q<WB:=by
    rcases Nat.lt_or_ge (limb X1 (n+1)+q) WB with h|h
    · exact h
    · exfalso
      have h2:=limb_mul_le X1 (n+1)
      have h3:=Nat.mul_le_mul_right (2^(64*(n+1))) h
      rw [Nat.add_mul] at h3
      omega
  rw [e1,limb_addl X1 q (n+1) j hlt]
  by_cases h:j = n+1
  · rw [if_pos h,if_pos h,Nat.mod_eq_of_lt hlt]
  · rw [if_neg h,if_neg h]
def MtInv (m a b i T:Nat):Prop:=T<2*m∧∃ q,T*2^(64*i) = a%2^(64*i)*b+q*m
theorem MtInv.zero {m a b:Nat} (hm:0<m):MtInv m a b 0 0:=⟨by omega,0,by simp [Nat.mod_one]⟩
theorem mt_div {m less T:Nat} (hl:(less*m+1)%WB = 0):(T+T*less%WB*m)%WB = 0:=by
  have h1:(T+T*less%WB*m)%WB = (T*(less*m+1))%WB:=by
    rw [Nat.mul_add,Nat.mul_one,Nat.add_comm (T*(less*m)),Nat.add_mod,Nat.mod_mul_mod,← Nat.add_mod,Nat.mul_assoc]
  rw [h1,Nat.mul_mod,hl,Nat.mul_zero,Nat.zero_mod]
theorem mt_low {m less T b a:Nat} (hl:(less*m+1)%WB = 0):(T+a*b+limb (T+a*b) 0*less%WB*m)%WB = 0:=by
  have h:limb (T+a*b) 0 = (T+a*b)%WB:=by unfold limb; rw [Nat.mul_zero,Nat.pow_zero,Nat.div_one]
  rw [h,Nat.mod_mul_mod]
  exact mt_div hl
theorem mt_bound {m T b x q:Nat} (hT:T<2*m) (hb:b<m) (hx:x<WB) (hq:q<WB):T+x*b+q*m<2*m*WB:=by
  have h1:x*b≤(WB-1)*m:=Nat.mul_le_mul (by omega) (Nat.le_of_lt hb)
  have h2:q*m≤(WB-1)*m:=Nat.mul_le_mul_right _ (by omega)
  have h3:(WB-1)*m = WB*m-m:=by rw [Nat.sub_mul,Nat.one_mul]
  have h4:m≤WB*m:=Nat.le_mul_of_pos_left _ (by decide)
  have h5:2*m*WB = WB*m+WB*m:=by rw [Nat.mul_comm (2*m),← Nat.mul_assoc,Nat.mul_comm WB 2,Nat.mul_assoc]; omega
  omega
theorem MtInv.step {m less a b i T : Nat} (h : MtInv m a b i T) (hb : b < m) (hl : (less * m + 1) % WB = 0) :
    MtInv m a b (i+1) ((T+limb a i*b+limb (T+limb a i*b) 0*less%WB*m)/WB):=by
  obtain ⟨h1,q,h2⟩:=h
  have hlow:=mt_low (T:=T) (b:=b) (a:=limb a i) hl
  have hbd:=mt_bound (x:=limb a i) (q:=limb (T+limb a i*b) 0*less%WB) h1 hb (limb_lt a i) (Nat.mod_lt _ (by decide))
  generalize hq:limb (T+limb a i*b) 0*less%WB = q2 at *
  have hdm:=Nat.div_add_mod (T+limb a i*b+q2*m) WB
  rw [hlow,Nat.add_zero] at hdm
  generalize hT:(T+limb a i*b+q2*m)/WB = T2 at *
  refine ⟨?_,q+q2*2^(64*i),?_⟩
  · rcases Nat.lt_or_ge T2 (2*m) with h|h
    · exact h
    · exfalso
      have:=Nat.mul_le_mul_right WB h
      rw [Nat.mul_comm T2] at this
      omega
  · have hK:2^(64*(i+1)) = WB*2^(64*i):=by rw [show 64*(i+1) = 64+64*i by omega,Nat.pow_add]
    have e1:T2*2^(64*(i+1)) = (T+limb a i*b+q2*m)*2^(64*i):=by rw [hK,← Nat.mul_assoc,Nat.mul_comm T2,hdm]
    rw [e1,mod_succ_limb,Nat.add_mul,Nat.add_mul,h2,Nat.add_mul,Nat.add_mul]
    have e2:limb a i*b*2^(64*i) = limb a i*2^(64*i)*b:=by rw [Nat.mul_assoc,Nat.mul_comm b,← Nat.mul_assoc]
    have e3:q2*m*2^(64*i) = q2*2^(64*i)*m:=by rw [Nat.mul_assoc,Nat.mul_comm m,← Nat.mul_assoc]
    rw [e2,e3]
    have e4:2^(64*i)*limb a i*b = limb a i*2^(64*i)*b:=by rw [Nat.mul_comm (2^(64*i))]
    omega
theorem odd_cop {m k:Nat} (h:m%2 = 1):Nat.Coprime m (2^k):=by
  refine Nat.Coprime.pow_right k ?_
  have h2:=Nat.gcd_dvd_left m 2
  have h3:=Nat.gcd_dvd_right m 2
  show Nat.gcd m 2 = 1
  have h4:=Nat.le_of_dvd (by decide) h3
  rcases (show Nat.gcd m 2 = 0∨Nat.gcd m 2 = 1∨Nat.gcd m 2 = 2 by omega) with e|e|e
  · rw [e] at h3; obtain ⟨c,hc⟩:=h3; omega
  · exact e
  · rw [e] at h2; obtain ⟨c,hc⟩:=h2; omega
theorem MtInv.done {m a b n T r:Nat} (h:MtInv m a b n T) (ho:m%2 = 1) (ha:a<2^(64*n)) (hr:r<m) (he:r*2^(64*n)%m = a*b%m):T = r∨T = r+m:=by
  obtain ⟨h1,q,h2⟩:=h
  rw [Nat.mod_eq_of_lt ha] at h2
  have hc:=odd_cop (k:=64*n) ho
  generalize 2^(64*n) = K at *
  have e1:T*K%m = r*K%m:=by rw [h2,Nat.add_mul_mod_self_right,he]
  have key:∀ x y,x≤y→x*K%m = y*K%m→m ∣ y-x:=by
    intro x y hxy hm
    have h3:m ∣ y*K-x*K:=Nat.dvd_of_mod_eq_zero (Nat.sub_mod_eq_zero_of_mod_eq hm.symm)
    rw [← Nat.sub_mul] at h3
    exact hc.dvd_of_dvd_mul_right h3
  rcases Nat.le_total r T with h4|h4
  · obtain ⟨c,hc2⟩:=key r T h4 e1.symm
    have:c<2:=by
      rcases Nat.lt_or_ge c 2 with h5|h5
      · exact h5
      · have:=Nat.mul_le_mul_left m h5
        omega
    rcases (show c = 0∨c = 1 by omega) with rfl|rfl
    · left; omega
    · right; omega
  · obtain ⟨c,hc2⟩:=key T r h4 e1
    rcases Nat.eq_zero_or_pos c with rfl|h5
    · left; omega
    · have:=Nat.mul_le_mul_left m h5
      omega
theorem limb_cut {n D j:Nat}:limb (D%2^(64*n)) j = if j<n then limb D j else 0:=by
  by_cases h:j<n
  · rw [if_pos h]
    obtain ⟨k,rfl⟩:∃ k,n = j+1+k:=⟨n-(j+1),by omega⟩
    unfold limb
    have e:2^(64*(j+1+k)) = 2^(64*j)*(WB*2^(64*k)):=by rw [show 64*(j+1+k) = 64*j+(64+64*k) by omega,Nat.pow_add,Nat.pow_add]
    rw [e,Nat.mod_mul_right_div_self,Nat.mod_mul_right_mod]
  · rw [if_neg h]
    exact limb_high (Nat.mod_lt _ (pow64_pos n)) (by omega)
def mtN (m x:Nat):Nat:=x*((2+(WB-m*x%WB))%WB)%WB
theorem mtN_step {m x k:Nat} (h:m*x%2^k = 1) (hk:2*k≤64) (h0:0<k):m*mtN m x%2^(2*k) = 1:=by
  have hd:2^(2*k) ∣ WB:=⟨2^(64-2*k),by rw [← Nat.pow_add,show 2*k+(64-2*k) = 64 by omega]⟩
  have hK2:2^(2*k) = 2^k*2^k:=by rw [← Nat.pow_add,Nat.two_mul]
  have hK1:2≤2^k:=by
    have:=Nat.pow_le_pow_right (n:=2) (by decide) h0
    simpa using this
  have hdm:=Nat.div_add_mod (m*x) (2^k)
  have hdw:=Nat.div_add_mod (m*x) WB
  rw [h] at hdm
  have hlt:=Nat.mod_lt (m*x) (show 0<WB by decide)
  have e0:m*mtN m x%2^(2*k) = m*x*(2+(WB-m*x%WB))%2^(2*k):=by
    unfold mtN
    generalize 2+(WB-m*x%WB) = s
    rw [Nat.mul_mod,Nat.mod_mod_of_dvd _ hd,Nat.mul_mod x,Nat.mod_mod_of_dvd _ hd,← Nat.mul_mod x,← Nat.mul_mod m,Nat.mul_assoc]
  rw [e0]
  generalize hA:m*x = A at *
  generalize hr:A%WB = r at *
  generalize hc:A/WB = c at *
  generalize ht:A/2^k = u at *
  generalize hK:2^k = K at *
  have e1:A*(2+(WB-r))+K*K*(u*u) = 1+A*(c+1)*WB:=by
    have e2:(2+(WB-r))+A = 2+(c+1)*WB:=by
      rw [Nat.add_mul,Nat.one_mul,Nat.mul_comm c]; omega
    have e3:A*(2+(WB-r))+A*A = A*2+A*(c+1)*WB:=by rw [← Nat.mul_add,e2,Nat.mul_add,Nat.mul_assoc]
    have e4:A*A+1 = A*2+K*K*(u*u):=by
      rw [← hdm]
      simp only [Nat.add_mul,Nat.mul_add,Nat.one_mul,Nat.mul_one]
      have:K*u*(K*u) = K*K*(u*u):=by rw [Nat.mul_assoc,Nat.mul_left_comm u,← Nat.mul_assoc]
      omega
    omega
  have e5:(A*(2+(WB-r))+K*K*(u*u))%(K*K) = 1%(K*K):=by
    rw [e1]
    obtain ⟨z,hz⟩:=hd
    rw [hK2] at hz
    rw [hz,Nat.mul_left_comm,Nat.add_mul_mod_self_left]
  rw [Nat.add_mul_mod_self_left] at e5
  rw [hK2,e5]
  exact Nat.mod_eq_of_lt (Nat.lt_of_lt_of_le (by decide:1<2*2) (Nat.mul_le_mul hK1 hK1))
theorem mt_start {m:Nat} (h:m%2 = 1):m*m%2^3 = 1:=by
  rw [Nat.mul_mod]
  have:m%2^3<8:=Nat.mod_lt _ (by decide)
  have h2:m%2^3%2 = 1:=by rw [Nat.mod_mod_of_dvd _ (by decide)]; exact h
  generalize m%2^3 = z at *
  rcases (show z = 1∨z = 3∨z = 5∨z = 7 by omega) with rfl|rfl|rfl|rfl <;> rfl
def mtI (m:Nat):Nat→Nat
  | 0=>m
  | i+1=>mtN m (mtI m i)
theorem mt_weak {a k j:Nat} (h:a%2^k = 1) (hj:j≤k) (h0:0<j):a%2^j = 1:=by
  have hd:2^j ∣ 2^k:=Nat.pow_dvd_pow 2 hj
  have:=congrArg (·%2^j) h
  simp only [Nat.mod_mod_of_dvd _ hd] at this
  rw [this]
  have h2:=Nat.pow_le_pow_right (n:=2) (by decide) h0
  exact Nat.mod_eq_of_lt (Nat.lt_of_lt_of_le (by decide:1<2^1) h2)
theorem mtI_five {m:Nat} (h:m%2 = 1):m*mtI m 5%WB = 1:=by
  have h0:m*mtI m 0%2^3 = 1:=mt_start h
  have h1:m*mtI m 1%2^(2*3) = 1:=mtN_step h0 (by decide) (by decide)
  have h2:m*mtI m 2%2^(2*(2*3)) = 1:=mtN_step h1 (by decide) (by decide)
  have h3:m*mtI m 3%2^(2*(2*(2*3))) = 1:=mtN_step h2 (by decide) (by decide)
  have h4:m*mtI m 4%2^(2*(2*(2*(2*3)))) = 1:=mtN_step h3 (by decide) (by decide)
  exact mtN_step (k:=32) (mt_weak h4 (by decide) (by decide)) (by decide) (by decide)
theorem mtN_lt (m x:Nat):mtN m x<WB:=Nat.mod_lt _ (by decide)
def mtL0 (m:Nat):Nat:=(WB-mtI (limb m 0) 5)%WB
theorem limb_zero (m:Nat):limb m 0 = m%WB:=by unfold limb; rw [Nat.mul_zero,Nat.pow_zero,Nat.div_one]
theorem mtL0_spec {m:Nat} (h:m%2 = 1):(mtL0 m*m+1)%WB = 0:=by
  have h0:limb m 0%2 = 1:=by rw [limb_zero,Nat.mod_mod_of_dvd _ (by decide)]; exact h
  have h5:=mtI_five h0
  have hx:mtI (limb m 0) 5<WB:=mtN_lt _ _
  unfold mtL0
  generalize mtI (limb m 0) 5 = x at *
  rw [limb_zero,Nat.mod_mul_mod] at h5
  have e1:((WB-x)%WB*m+1)%WB = ((WB-x)*m+1)%WB:=by rw [Nat.add_mod,Nat.mod_mul_mod,← Nat.add_mod]
  rw [e1]
  have e2:(WB-x)*m+m*x = WB*m:=by rw [Nat.mul_comm m x,← Nat.add_mul]; congr 1; omega
  have hdm:=Nat.div_add_mod (m*x) WB
  rw [h5] at hdm
  have e3:(WB-x)*m+1+WB*(m*x/WB) = WB*m:=by omega
  have e4:((WB-x)*m+1+WB*(m*x/WB))%WB = 0:=by rw [e3,Nat.mul_mod_right]
  rwa [Nat.add_mul_mod_self_left] at e4
def mtL (m n less rr:Nat):List Value:=natL m++([.int .i64 (n:Int),.int .u64 (less:Int)]++natL rr)
theorem KCH (m n less rr:Nat):(mtL m n less rr).length = 20:=by simp [mtL,KL]
theorem mtL_m (m n less rr:Nat) {i:Nat} (h:i<9):(mtL m n less rr)[i]? = some (.int .u64 (limb m i:Int)):=by
  unfold mtL
  rw [List.getElem?_append_left (by rw [KL]; exact h),KAW _ h]
theorem mtL_n (m n less rr:Nat):(mtL m n less rr)[9]? = some (.int .i64 (n:Int)):=by
  unfold mtL
  rw [List.getElem?_append_right (by rw [KL]; decide),KL]; rfl
theorem mtL_l (m n less rr:Nat):(mtL m n less rr)[10]? = some (.int .u64 (less:Int)):=by
  unfold mtL
  rw [List.getElem?_append_right (by rw [KL]; decide),KL]; rfl
theorem mtL_ms (m n less rr:Nat):((mtL m n less rr).drop 0).take 9 = natL m:=by
  unfold mtL
  rw [List.drop_zero,List.take_left' (KL _)]
theorem mtL_rr (m n less rr:Nat):((mtL m n less rr).drop 11).take 9 = natL rr:=by
  unfold mtL
  rw [← List.append_assoc,List.drop_left' (by simp [KL]),List.take_of_length_le (by rw [KL]; exact Nat.le_refl _)]
theorem Det.indexSK {P : Program} {C : Ctx} {st : St} {d : Option Tmp} {ty : TypeId} {pos : String} {aft : Array Edge} {g : Option (Nat × Bool)} {x y : Operand} {t e : TypeId} {s i : Nat} {k : IntKind} {b o l c : Nat} (ht : P.underlying t = some (.slice e)) (he : szOf P e = some s) (hx : evT st.T x = some (.slice (some ⟨b, o, none⟩) l c)) (hy : evT st.T y = some (.int k (i : Int))) (h1 : i < l) :
    Slots P C ⟨d,.indexAddr t x y,ty,pos,aft,g⟩ st (.pointer (some ⟨b,o+i*s,none⟩)):=by
  have:=KDB (P:=P) (C:=C) (d:=d) (ty:=ty) (pos:=pos) (aft:=aft) (g:=g) (st:=st) ht he hx hy (by omega) (by omega)
  rwa [Int.toNat_natCast] at this
def natsL (l:List Nat):List Value:=l.flatMap natL
theorem natsL_length (l:List Nat):(natsL l).length = l.length*9:=by
  induction l with
  | nil=>rfl
  | cons a l ih=>show (natL a++natsL l).length = _; rw [List.length_append,KL,ih,List.length_cons]; omega
theorem natsL_at:∀ (l:List Nat) (i:Nat),i<l.length→((natsL l).drop (0+i*9)).take 9 = natL (l.getD i 0)
  | [],i,h=>by cases h
  | a :: l,0,_=>by
    show ((natL a++natsL l).drop (0+0*9)).take 9 = natL a
    rw [Nat.zero_mul,Nat.add_zero,List.drop_zero,List.take_left' (KL a)]
  | a :: l,i+1,h=>by
    have:=natsL_at l i (by simpa using h)
    show ((natL a++natsL l).drop (0+(i+1)*9)).take 9 = natL (l.getD i 0)
    rw [show 0+(i+1)*9 = 9+(0+i*9) by omega,← List.drop_drop,List.drop_left' (KL a)]
    exact this
theorem rnd_parts {p x c : Nat} (hx : x < 18446744073709551616) (hc : c < 18446744073709551616) (h : p + x + c < 18446744073709551616 * 18446744073709551616) :
    (x+(p%18446744073709551616+c+0)%18446744073709551616+0)%18446744073709551616 = (p+x+c)%18446744073709551616∧((p/18446744073709551616+(p%18446744073709551616+c+0)/18446744073709551616)%18446744073709551616+(x+(p%18446744073709551616+c+0)%18446744073709551616+0)/18446744073709551616)%18446744073709551616 = (p+x+c)/18446744073709551616:=by
  have h1:=row_parts (p:=p) (x:=c) (c:=x) hc hx (by rw [Nat.add_right_comm]; exact h)
  have e:x+(p%18446744073709551616+c+0)%18446744073709551616+0 = (p%18446744073709551616+c+0)%18446744073709551616+x+0:=by omega
  have e2:p+x+c = p+c+x:=by omega
  have h2:(p+c+x)/18446744073709551616<18446744073709551616:=Nat.div_lt_of_lt_mul (by rw [← e2]; exact h)
  rw [e,e2]
  exact ⟨h1.1,h1.2⟩
theorem rnd_step {X c T B k a t : Nat} (h : X + c * 2 ^ (64 * k) = T + a * (B % 2 ^ (64 * k))) (ht : t = a * limb B k + limb X k + c) :
    setl X k (t%WB)+t/WB*2^(64*(k+1)) = T+a*(B%2^(64*(k+1))):=by
  have:=row_step (X:=X) (c:=c) (P:=T) (B:=B) (i:=0) (k:=k) (a:=a) (t:=t) (by rw [Nat.zero_add,Nat.mul_zero,Nat.pow_zero,Nat.mul_one]; exact h) rfl (by rw [Nat.zero_add]; exact ht)
  rw [Nat.zero_add,Nat.zero_add,Nat.mul_zero,Nat.pow_zero,Nat.mul_one] at this
  exact this
theorem limb_down (T j:Nat):limb (T/WB) j = limb T (j+1):=by
  unfold limb
  rw [Nat.div_div_eq_div_mul,show 64*(j+1) = 64+64*j by omega,Nat.pow_add]
theorem mt_room {m n V:Nat} (hm:m<2^(64*n)) (h:V<2*m*WB):V<2^(64*(n+2)):=by
  have hK:2^(64*(n+2)) = WB*WB*2^(64*n):=by rw [show 64*(n+2) = 64+64+64*n by omega,Nat.pow_add,Nat.pow_add]
  rw [hK]
  generalize 2^(64*n) = K at *
  have h1:2*m*WB≤WB*K*WB:=Nat.mul_le_mul_right _ (Nat.mul_le_mul (by decide) (Nat.le_of_lt hm))
  have h2:WB*K*WB = WB*WB*K:=by rw [Nat.mul_assoc,Nat.mul_comm K,← Nat.mul_assoc]
  omega
theorem pow_le_w9 {n:Nat} (h:n≤9):2^(64*n)≤W9:=by
  rw [Nat.pow_mul]
  exact Nat.pow_le_pow_right (n:=18446744073709551616) (by decide) h
theorem mt_end {m n T r : Nat} (hT : T = r ∨ T = r + m) (hr : r < m) (hm : m < 2 ^ (64 * n)) (hm9 : m < W9) (hn : n ≤ 9) :
    (¬ limb T n = 0∧dif (T%2^(64*n)) m%2^(64*n) = r)∨(limb T n = 0∧¬ T%2^(64*n)<m∧dif (T%2^(64*n)) m%2^(64*n) = r)∨(limb T n = 0∧T%2^(64*n)<m∧T%2^(64*n) = r):=by
  have hA9:T%2^(64*n)<W9:=Nat.lt_of_lt_of_le (Nat.mod_lt _ (pow64_pos n)) (pow_le_w9 hn)
  have hd:=dif_mod (T%2^(64*n)) m n hA9 hm9 hn
  rw [Nat.mod_mod] at hd
  have key:T = r+m→dif (T%2^(64*n)) m%2^(64*n) = r:=by
    intro h
    generalize dif (T%2^(64*n)) m = D at *
    rw [h,Nat.add_comm r] at hd
    generalize 2^(64*n) = K at *
    have h1:=Nat.div_add_mod (m+D) K
    have h2:=Nat.div_add_mod (m+r) K
    rw [hd] at h1
    have h3:(D+K*((m+r)/K))%K = (r+K*((m+D)/K))%K:=by congr 1; omega
    rw [Nat.add_mul_mod_self_left,Nat.add_mul_mod_self_left] at h3
    rw [h3,Nat.mod_eq_of_lt (by omega)]
  have hlT:T<2^(64*n)→limb T n = 0:=fun h=>limb_high h (Nat.le_refl _)
  rcases Nat.lt_or_ge T (2^(64*n)) with h|h
  · rw [Nat.mod_eq_of_lt h] at key ⊢
    rcases Nat.lt_or_ge T m with h2|h2
    · exact .inr (.inr ⟨hlT h,h2,by omega⟩)
    · exact .inr (.inl ⟨hlT h,by omega,key (by omega)⟩)
  · left
    refine ⟨?_,key (by omega)⟩
    unfold limb
    have h1:T/2^(64*n) = 1:=by
      have h2:T<2*2^(64*n):=by omega
      have h3:=(Nat.div_lt_iff_lt_mul (pow64_pos n)).2 h2
      have h4:=(Nat.le_div_iff_mul_le (pow64_pos n)).2 (show 1*2^(64*n)≤T by omega)
      omega
    rw [h1]; decide
structure MtOk (m n ls:Nat):Prop where
  odd:m%2 = 1
  three:3≤m
  lt9:m<W9
  ltn:m<2^(64*n)
  n9:n≤9
  less:(ls*m+1)%18446744073709551616 = 0
abbrev mtR (n:Nat):Nat:=2^(64*n)
theorem mt_to {m n a:Nat}:(a*mtR n%m)*mtR n%m = a*(mtR n*mtR n%m)%m:=by
  rw [Nat.mod_mul_mod,Nat.mul_mod_mod,Nat.mul_assoc]
theorem mt_mul {m n a b:Nat}:(a*b%m)*mtR n%m = (a*mtR n%m)*b%m:=by
  rw [Nat.mod_mul_mod,Nat.mod_mul_mod,Nat.mul_right_comm]
theorem copy_down {T n:Nat} (hn:n≤9) (h:T<2^(64*(n+2))) (j:Nat) (hj:j<11):(if j = 10 then 0 else if j<10 then limb T (j+1) else limb T 10) = limb (T/WB) j:=by
  rw [limb_down]
  by_cases h1:j = 10
  · rw [if_pos h1,h1]
    exact (limb_high h (by omega)).symm
  · rw [if_neg h1,if_pos (by omega)]
theorem splice_down (T:Nat):KAa (vec .u64 11 (limb T)) 0 (vec .u64 10 (fun j=>limb T (j+1))) = vec .u64 11 (fun j=>if j<10 then limb T (j+1) else limb T 10):=by
  unfold KAa
  rw [List.take_zero,List.nil_append,KS,Nat.zero_add]
  generalize limb T = f
  rfl
theorem splice_up {T n:Nat} (hn:n≤9):KAa (vec .u64 9 (fun _=>0)) 0 (vec .u64 n (limb T)) = natL (T%2^(64*n)):=by
  unfold KAa
  rw [List.take_zero,List.nil_append,KS,Nat.zero_add]
  apply List.ext_getElem
  · simp [KS,KL]; omega
  · intro i h1 h2
    have hi:i<9:=by rw [KL] at h2; exact h2
    have e2:(natL (T%2^(64*n)))[i] = .int .u64 (limb (T%2^(64*n)) i:Int):=by
      have:=KAW (T%2^(64*n)) hi
      rw [List.getElem?_eq_getElem h2] at this
      exact Option.some.inj this
    refine Eq.trans ?_ e2.symm
    rw [limb_cut]
    by_cases h:i<n
    · rw [if_pos h,List.getElem_append_left (by rw [KS]; exact h)]
      simp [vec]
    · rw [if_neg h,List.getElem_append_right (by rw [KS]; omega)]
      simp [vec]
theorem limb_up1 (r j:Nat):limb (r*WB) j = if j = 0 then 0 else limb r (j-1):=by
  by_cases h:j = 0
  · subst h; rw [if_pos rfl,limb_zero,Nat.mul_mod_left]
  · rw [if_neg h]
    obtain ⟨i,rfl⟩:∃ i,j = i+1:=⟨j-1,by omega⟩
    rw [← limb_down,Nat.mul_div_cancel _ (by decide)]; rfl
theorem wide_up {r:Nat} (hr:r<W9):KAa (vec .u64 18 (fun _=>0)) 1 (natL r) = wideL (r*WB):=by
  have e:wideL (r*WB) = vec .u64 1 (fun _=>0)++(natL r++vec .u64 8 (fun _=>0)):=by
    unfold wideL natL
    have h0:∀ j,10≤j→limb (r*WB) j = 0:=fun j hj=>by
      rw [limb_up1,if_neg (by omega)]
      exact limb_high (KBI hr 9 rfl) (by omega)
    apply List.ext_getElem
    · simp [KS]
    · intro i h1 h2
      have hi:i<18:=by simpa [KS] using h1
      rcases Nat.lt_or_ge i 1 with h|h
      · rw [List.getElem_append_left (by rw [KS]; exact h)]
        have:i = 0:=by omega
        subst this
        simp [vec,limb_up1]
      · rw [List.getElem_append_right (by rw [KS]; exact h)]
        rcases Nat.lt_or_ge i 10 with h3|h3
        · rw [List.getElem_append_left (by simp [KS]; omega)]
          simp only [vec,List.getElem_map,List.getElem_range,List.length_map,List.length_range]
          rw [limb_up1,if_neg (by omega)]
        · rw [List.getElem_append_right (by simp [KS]; omega)]
          simp only [vec,List.getElem_map,List.getElem_range]
          rw [h0 i h3]
  have hl:=KL r
  rw [e]
  generalize natL r = z at *
  unfold KAa
  rw [hl]
  exact List.append_assoc (vec .u64 1 (fun _=>0)) z (vec .u64 8 (fun _=>0))
theorem two_app {a b:Value} (z:List Value):[a]++([b]++z) = [a,b]++z:=rfl
theorem mtL_build (m n:Nat):natL m++([Value.int .i64 (n:Int)]++([Value.int .u64 ((0:Nat):Int)]++vec .u64 9 (fun _=>0))) = mtL m n 0 0:=by
  have e:vec .u64 9 (fun _=>0) = natL 0:=vec_zeros 9
  rw [e]
  exact congrArg (natL m++·) (two_app (natL 0))
theorem mtI5_lt (m:Nat):mtI m 5<18446744073709551616:=mtN_lt m (mtI m 4)
theorem mtL0_neg (m:Nat):IntKind.u64.wrap (0-((mtI (limb m 0) 5:Nat):Int)) = ((mtL0 m:Nat):Int):=by
  have hx:=mtI5_lt (limb m 0)
  unfold mtL0
  generalize mtI (limb m 0) 5 = x at *
  rw [Int.zero_sub,KDE]
  show _ = (((18446744073709551616-x)%18446744073709551616:Nat):Int)
  omega
theorem two_set {a b v:Value} (z:List Value):([a,b]++z).set 1 v = [a,v]++z:=rfl
theorem mtL_setl (m n less rr y:Nat):(mtL m n less rr).set 10 (.int .u64 (y:Int)) = mtL m n y rr:=by
  unfold mtL
  rw [List.set_append_right _ _ (by rw [KL]; decide),KL]
  exact congrArg (natL m++·) (two_set (natL rr))
theorem mtL_setr (m n less rr y:Nat):KAa (mtL m n less rr) 11 (natL y) = mtL m n less y :=
  KAl (A:=natL m++[.int .i64 (n:Int),.int .u64 (less:Int)]) (B:=natL rr) (D:=[]) (by simp [mtL]) (by simp [KL]) (by rw [KL,KL]) (by simp [mtL])
theorem mtR_step (m i:Nat):mtR i%m*WB%m = mtR (i+1)%m:=by
  have e:mtR i*WB = mtR (i+1):=by
    unfold mtR
    rw [show 64*(i+1) = 64*i+64 by omega,Nat.pow_add]
  rw [Nat.mod_mul_mod,e]
theorem mtOk_of {m:Nat} (ho:m%2 = 1) (h3:3≤m) (h9:m<W9):MtOk m (nw m) (mtL0 m):=⟨ho,h3,h9,lt_nw m,nw_w9 h9,mtL0_spec ho⟩
end Go.Proofs.YtnpeokiboiclfaaGreat
