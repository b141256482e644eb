/- Part 4 of what the proof leans on: a symbolic execution of the model, walks of the program's functions, and the mathematics. No condition. -/
import Derived.WalkKit
import Derived.Orders
import Derived.Laws.StructEq
import Derived.WalkSpells
import Derived.OrdersHeld
import Derived.KernelRfl
import Derived.Laws.Externs
import Derived.Laws.Bits64
import Derived.Laws.MakeOwn
import Derived.Laws.BytesString
import Derived.Carry
import Derived.WideShapes
import GoSem.Claim
import Derived.Test.YtnpeokiboiclfaaGreatProg
import Derived.Deep.Upon
import Derived.Shelf.Strings.Repeat
import Derived.Ground.NamesProg
import Derived.Lib.Agree
import Derived.Shelf.Strings.Builder1
import Derived.Laws.AppendOwn
import Derived.Lib.ConvBytes
import Derived.Laws.CopyRow
import Derived.MapKept
import Derived.Test.YtnpeokiboiclfaaGreatRows
import Derived.ProofKit
import Derived.OpenShut
import Derived.SizedLaws
import Derived.ChangeMaps5
import Derived.Test.YtnpeokiboiclfaaGreatU3
set_option linter.unusedVariables false
set_option linter.unusedSimpArgs false
set_option maxRecDepth 20000
namespace Go.Proofs.YtnpeokiboiclfaaGreat
open Go Go.RowKit
open Grp
def pjF {p:Nat} (T:Fin p×Fin p×Fin p):Value:=pjV T.1.val T.2.1.val T.2.2.val
def pjFL {p:Nat} (T:Fin p×Fin p×Fin p):List Value:=pjL T.1.val T.2.1.val T.2.2.val
theorem fill_pj (X Y Z:Nat):fillL [(0,9),(9,9),(18,9)] (vec .u64 9 (fun _=>0)++(vec .u64 9 (fun _=>0)++vec .u64 9 (fun _=>0))) [(0,natV X),(1,natV Y),(2,natV Z)] = some (pjL X Y Z):=by
  refine KAK (A:=[]) (B:=vec .u64 9 (fun _=>0)) (D:=vec .u64 9 (fun _=>0)++vec .u64 9 (fun _=>0)) (cs:=natL X) rfl rfl (KL _) rfl rfl (KU _ _ _) ?_;refine KAK (A:=natL X) (B:=vec .u64 9 (fun _=>0)) (D:=vec .u64 9 (fun _=>0)) (cs:=natL Y) rfl rfl (KL _) (by simp) (KL _) (KU _ _ _) ?_;refine (KAK (A:=natL X++natL Y) (B:=vec .u64 9 (fun _=>0)) (D:=[]) (cs:=natL Z) rfl rfl (KL _) (by simp) (by simp [KL]) (KU _ _ _) rfl).trans ?_
  simp [pjL]
theorem fill_pjN (Y:Nat):fillL [(0,9),(9,9),(18,9)] (vec .u64 9 (fun _=>0)++(vec .u64 9 (fun _=>0)++vec .u64 9 (fun _=>0))) [(1,natV Y)] = some (pjL 0 Y 0):=by
  refine (KAK (A:=vec .u64 9 (fun _=>0)) (B:=vec .u64 9 (fun _=>0)) (D:=vec .u64 9 (fun _=>0)) (cs:=natL Y) rfl rfl (KL _) rfl (KU _ _ _) (KU _ _ _) rfl).trans ?_
  simp [pjL,natL,vec_zeros 9]
theorem c_None  (w:World)  : CF Tryz.prog 99 [] w (pjV 0 1 0):=by
  refine KV (N:=3) (rs:=[.cell 0 135]) [] Tryz.func99 rfl Tryz.ntmps99 Tryz.results99 (Nb rfl) trivial rfl ?_
  refine KB (KA (oS (mk (KK KDK) (fun b0=>?_))));refine KC (KB (KA (oS (cF rfl en_80 rfl (fun w hw=>KAV 1 dc w) ?_))));refine oP (KI (KW pl_135 KDK rfl (fill_pjN 1)) rfl) (oT rfl rfl KAM ?_);refine KC (KM (eN (.cons ⟨_,_,_,rfl,mM,by exact KD u135 rfl KAM⟩ .nil) ?_))
  rfl
theorem c_NoneF {V:Cv} (hok:V.Ok) (w:World):CF Tryz.prog 99 [] w (pjF (tripF (.inf:Pt V.p))):=by
  have h:=c_None w
  have e:pjF (tripF (.inf:Pt V.p)) = pjV 0 1 0:=by
    unfold pjF tripF
    rw [fin_one (show 1<V.p from hok.prime.1)]
    rfl
  rwa [e]
theorem c_Triple (V:Cv) (hok:V.Ok) (P:Pt V.p) (w:World)  : CF Tryz.prog 67 [ptP P] w (pjF (tripF P)):=by
  refine KV (N:=12) (rs:=[.cell 2 135]) [] Tryz.func67 rfl Tryz.ntmps67 Tryz.results67 (Nb rfl) trivial rfl ?_
  refine KB (KA (oS (mB (fun b1=>?_))));refine oS (mk (KK KDK) (fun b2=>?_));refine KC (KB (KB ?_))
  rcases P with _|⟨x,y⟩
  ·
   refine KA (oP (KE (o':=18) u47 rfl rfl rfl sz_4 dc) (oD (dL rfl (hv:=KJ u4 rfl (by exact pt_gt _ _ _))) ?_));refine KC (KS rfl (KB (KA (oS (cF rfl en_99 rfl (fun w hw=>c_NoneF hok w) ?_)))));refine oT rfl rfl KAM ?_;refine KC (KM (eN (.cons ⟨_,_,_,rfl,mM,by exact KD u135 rfl KAM⟩ .nil) ?_))
   rfl
  refine KA (oP (KE (o':=18) u47 rfl rfl rfl sz_4 dc) (oD (dL rfl (hv:=KJ u4 rfl (by exact pt_gt _ _ _))) ?_));refine KC (KG rfl (KN (KB (rD [6] (aP 0 rfl (KE (o':=0) u47 rfl rfl rfl sz_33 dc) (aD 1 rfl (dL rfl (hv:=by exact Kh u33 rfl sz_33 rfl (KL _))) ?_))))));refine aP 2 rfl (KE (o':=9) u47 rfl rfl rfl sz_33 dc) (aD 3 rfl (dL rfl (hv:=by exact KCY _ _ _ _ _ _)) ?_);refine aO 4 rfl (cF rfl en_80 rfl (fun w hw=>KAV 1 dc w) ?_);refine aP 5 rfl (KI (KW pl_135 KDK rfl (fill_pj _ _ _)) rfl) (aL 6 rfl (sA rfl rfl KAM mO (hl:=mL) (h:=?_)));refine aE (KM (eN (.cons ⟨_,_,_,rfl,mM,by exact KD u135 rfl KAM⟩ .nil) ?_))
  show _ = Ending.returned (pjV x.val y.val (1:Fin V.p).val)
  rw [fin_one (show 1<V.p from hok.prime.1)]
  rfl
theorem c_Plain (V:Cv) (b f bd:Nat) (hok:V.Ok) (X Y Z:Fin V.p) (w:World) (hb:(Item.blk b ⟨false,opL V f,100,(0,0)⟩).holds w) (hf:(Item.blk f ⟨false,fldL V.p bd,165,(0,0)⟩).holds w) (hbd:(Item.blk bd ⟨false,dvL V.p,269,(0,0)⟩).holds w):CF Tryz.prog 65 [Pz b,pjV X.val Y.val Z.val] w (ptP (plainP X Y Z)):=by
  have hbb:=hok.bounds
  have hpW:V.p<W9:=Ku hbb.2.1
  refine KV (N:=35) (rs:=[.cell 4 47]) [.blk b ⟨false,opL V f,100,(0,0)⟩,.blk f ⟨false,fldL V.p bd,165,(0,0)⟩,.blk bd ⟨false,dvL V.p,269,(0,0)⟩] Tryz.func65 rfl Tryz.ntmps65 Tryz.results65 (Nb rfl) ⟨hb,hf,hbd,trivial⟩ rfl ?_
  refine KB (KA (oS (mB (fun b3=>?_))));refine oS (mk (KK zr_47) (fun b4=>?_));refine KC (KB (KB ?_))
  by_cases hz:Z = 0
  ·
   refine KA (oP (KE (o':=18) u135 rfl rfl rfl sz_33 dc) (oD (dL rfl (hv:=by exact pj_ld2 _ _ _ _ _ _)) ?_));refine oP (KI (KW pl_33 zr_33 rfl rfl) (show _ = natV 0 by unfold natV natL; rw [← vec_zeros 9])) ?_;refine oP (KI (KBv kr (fun w=>KBG Z.val 0 (Nat.lt_trans Z.isLt hpW) KBk 10000 dc w) rfl rfl) (show _ = Value.bool true by rw [decide_eq_true (by rw [hz]; rfl)])) ?_;refine KC (KS rfl (KB (KA (oP (KI (KW pl_47 zr_47 rfl fill_ptInf) rfl) (oT rfl rfl sz_47 ?_)))));refine KC (KM (eN (.cons ⟨_,_,_,rfl,mM,by exact KD u47 rfl sz_47⟩ .nil) ?_))
   rw [hz,plain_inf]
   rfl
  refine KA (oP (KE (o':=18) u135 rfl rfl rfl sz_33 dc) (oD (dL rfl (hv:=by exact pj_ld2 _ _ _ _ _ _)) ?_));refine oP (KI (KW pl_33 zr_33 rfl rfl) (show _ = natV 0 by unfold natV natL; rw [← vec_zeros 9])) ?_;refine oP (KI (KBv kr (fun w=>KBG Z.val 0 (Nat.lt_trans Z.isLt hpW) KBk 10000 dc w) rfl rfl) (show _ = Value.bool false by rw [decide_eq_false (show ¬ Z.val = 0 from fun e=>hz (Fin.ext e))])) (KC (KG rfl (KN (KB (rD [8] (aM 0 ?_))))));refine aP 1 rfl (KF rfl) (aP 2 rfl (KE (o':=59) u100 rfl rfl rfl sz_98 dc) (aD 3 rfl (dL rfl (hv:=KJ u98 rfl (by exact KAr _ _ _ _ _ _ _ _ _ _ _ _ _))) ?_));refine aP 4 rfl (KE (o':=18) u135 rfl rfl rfl sz_33 dc) (aD 5 rfl (dL rfl (hv:=by exact pj_ld2 _ _ _ _ _ _)) ?_);refine KAR ?_;refine Ko 7 rfl (.inl zr_33) (Nb rfl) rfl rfl rfl ?_;refine LAnyP.step 6 rfl rfl rfl (Nb rfl) kr rfl (Kf (first:=[]) rfl en_121 rfl (fun w hw=>c_F_Inv V hok f bd _ w (mC hw))) ?_
  rintro _ _ ⟨rfl,rfl⟩
  refine pE (fun b5=>?_);refine Kw ?_;refine aL 8 rfl (sA rfl rfl sz_33 mO (hl:=mL) (h:=?_));refine aE (KB (rD [17] (aM 0 ?_)));refine aP 1 rfl (KF rfl) (aP 2 rfl (KE (o':=59) u100 rfl rfl rfl sz_98 dc) (aD 3 rfl (dL rfl (hv:=KJ u98 rfl (by exact KAr _ _ _ _ _ _ _ _ _ _ _ _ _))) ?_));refine aP 4 rfl (KE (o':=0) u135 rfl rfl rfl sz_33 dc) (aD 5 rfl (dL rfl (hv:=by exact Kh u33 rfl sz_33 rfl (KL _))) ?_);refine aD 6 rfl dNa ?_;refine aM 8 ?_;refine aP 9 rfl (KF rfl) (aP 10 rfl (KE (o':=59) u100 rfl rfl rfl sz_98 dc) (aD 11 rfl (dL rfl (hv:=KJ u98 rfl (by exact KAr _ _ _ _ _ _ _ _ _ _ _ _ _))) ?_));refine aP 12 rfl (KE (o':=9) u135 rfl rfl rfl sz_33 dc) (aD 13 rfl (dL rfl (hv:=by exact KAh u33 rfl sz_33 rfl (KL _) (KL _))) ?_);refine aD 14 rfl dNa ?_
  refine aO 7 rfl (cF rfl en_97 rfl (fun w hw=>KAd V hok f bd _ _ w (mC hw) (mC hw)) ?_);refine aO 15 rfl (cF rfl en_97 rfl (fun w hw=>KAd V hok f bd _ _ w (mC hw) (mC hw)) ?_);refine aP 16 rfl (KI (KW pl_47 zr_47 rfl (fill_pt _ _)) rfl) (aL 17 rfl (sA rfl rfl sz_47 mO (hl:=mL) (h:=?_)));refine aE (KM (eN (.cons ⟨_,_,_,rfl,mM,by exact KD u47 rfl sz_47⟩ .nil) ?_))
  rw [plain_aff hz]
  rfl
theorem c_Sum (V:Cv) (b f bd:Nat) (hok:V.Ok) (X1 Y1 Z1 X2 Y2 Z2:Fin V.p) (w:World) (hb:(Item.blk b ⟨false,opL V f,100,(0,0)⟩).holds w) (hf:(Item.blk f ⟨false,fldL V.p bd,165,(0,0)⟩).holds w) (hbd:(Item.blk bd ⟨false,dvL V.p,269,(0,0)⟩).holds w):CF Tryz.prog 100 [Pz b,pjV X1.val Y1.val Z1.val,pjV X2.val Y2.val Z2.val] w (pjF (sum3 V.A (V.B+V.B+V.B) X1 Y1 Z1 X2 Y2 Z2)):=by
  have hbb:=hok.bounds
  have hpW:V.p<W9:=Ku hbb.2.1
  refine KV (N:=213) (rs:=[.cell 6 135]) [.blk b ⟨false,opL V f,100,(0,0)⟩,.blk f ⟨false,fldL V.p bd,165,(0,0)⟩,.blk bd ⟨false,dvL V.p,269,(0,0)⟩] Tryz.func100 rfl Tryz.ntmps100 Tryz.results100 (Nb rfl) ⟨hb,hf,hbd,trivial⟩ rfl ?_
  refine KB (KA (oS (mB (fun b4=>?_))));refine oS (mB (fun b5=>?_));refine oS (mk (KK KDK) (fun b6=>?_));refine KC (KB (rD [] (aM 0 ?_)));refine aP 1 rfl (KF rfl) (aP 2 rfl (KE (o':=59) u100 rfl rfl rfl sz_98 dc) (aD 3 rfl (dL rfl (hv:=KJ u98 rfl (by exact KAr _ _ _ _ _ _ _ _ _ _ _ _ _))) ?_));refine aP 4 rfl (Kx rfl) (aM 5 ?_);refine aP 6 rfl (KF rfl) (aP 7 rfl (KE (o':=59) u100 rfl rfl rfl sz_98 dc) (aD 8 rfl (dL rfl (hv:=KJ u98 rfl (by exact KAr _ _ _ _ _ _ _ _ _ _ _ _ _))) ?_));refine aP 9 rfl (Kx rfl) (aM 10 ?_);refine aP 11 rfl (KF rfl) (aP 12 rfl (KE (o':=59) u100 rfl rfl rfl sz_98 dc) (aD 13 rfl (dL rfl (hv:=KJ u98 rfl (by exact KAr _ _ _ _ _ _ _ _ _ _ _ _ _))) ?_));refine aP 14 rfl (Kx rfl) (aA 15 ?_);refine aA 16 ?_;refine aA 17 ?_;refine aE (KB (rD [21,22,23] (aM 0 ?_)));refine aP 1 rfl (KE (o':=0) u135 rfl rfl rfl sz_33 dc) (aD 2 rfl (dL rfl (hv:=by exact Kh u33 rfl sz_33 rfl (KL _))) ?_)
  refine aP 3 rfl (KE (o':=0) u135 rfl rfl rfl sz_33 dc) (aD 4 rfl (dL rfl (hv:=by exact Kh u33 rfl sz_33 rfl (KL _))) ?_);refine aM 6 ?_;refine aP 7 rfl (KE (o':=9) u135 rfl rfl rfl sz_33 dc) (aP 9 rfl (KE (o':=9) u135 rfl rfl rfl sz_33 dc) (aM 12 ?_));refine aP 13 rfl (KE (o':=18) u135 rfl rfl rfl sz_33 dc) (aP 15 rfl (KE (o':=18) u135 rfl rfl rfl sz_33 dc) (KAp [11,17,21,22,23] 8 rfl kr (Nb rfl) (dL rfl (hv:=by exact KAh u33 rfl sz_33 rfl (KL _) (KL _))) ?_));refine KAp [11,17,21,22,23] 10 rfl kr (Nb rfl) (dL rfl (hv:=by exact KAh u33 rfl sz_33 rfl (KL _) (KL _))) ?_;refine KAp [17,21,22,23] 14 rfl kr (Nb rfl) (dL rfl (hv:=by exact pj_ld2 _ _ _ _ _ _)) ?_;refine KAp [17,21,22,23] 16 rfl kr (Nb rfl) (dL rfl (hv:=by exact pj_ld2 _ _ _ _ _ _)) ?_;refine KAR ?_;refine Ko 18 rfl (.inl zr_33) (Nb rfl) rfl rfl rfl ?_
  refine Ko 19 rfl (.inl zr_33) (Nb rfl) rfl rfl rfl ?_;refine Ko 20 rfl (.inl zr_33) (Nb rfl) rfl rfl rfl ?_;refine LAnyP.step 5 rfl rfl rfl (Nb rfl) kr rfl (Kf (first:=[_]) rfl en_97 rfl (fun w hw=>KAd V hok f bd _ _ w (mC hw) (mC hw))) ?_
  rintro _ _ ⟨rfl,rfl⟩
  refine LAnyP.step 11 rfl rfl rfl (Nb rfl) kr rfl (Kf (first:=[_]) rfl en_97 rfl (fun w hw=>KAd V hok f bd _ _ w (mC hw) (mC hw))) ?_
  rintro _ _ ⟨rfl,rfl⟩
  refine LAnyP.step 17 rfl rfl rfl (Nb rfl) kr rfl (Kf (first:=[_]) rfl en_97 rfl (fun w hw=>KAd V hok f bd _ _ w (mC hw) (mC hw))) ?_
  rintro _ _ ⟨rfl,rfl⟩
  refine pE (fun b12=>?_);refine pE (fun b11=>?_);refine pE (fun b10=>?_);refine Kw ?_;refine aL 21 rfl (sA rfl rfl sz_33 mO (hl:=mL) (h:=?_));refine aL 22 rfl (sA rfl rfl sz_33 mO (hl:=mL) (h:=?_));refine aL 23 rfl (sA rfl rfl sz_33 mO (hl:=mL) (h:=?_));refine aE (KB (rD [21] (aM 0 ?_)));refine aM 1 ?_;refine aM 2 ?_;refine aP 3 rfl (KE (o':=0) u135 rfl rfl rfl sz_33 dc) (aD 4 rfl (dL rfl (hv:=by exact Kh u33 rfl sz_33 rfl (KL _))) ?_);refine aP 5 rfl (KE (o':=9) u135 rfl rfl rfl sz_33 dc) (aD 6 rfl (dL rfl (hv:=by exact KAh u33 rfl sz_33 rfl (KL _) (KL _))) ?_);refine aM 8 ?_;refine aP 9 rfl (KE (o':=0) u135 rfl rfl rfl sz_33 dc) (aD 10 rfl (dL rfl (hv:=by exact Kh u33 rfl sz_33 rfl (KL _))) ?_);refine aP 11 rfl (KE (o':=9) u135 rfl rfl rfl sz_33 dc) (aD 12 rfl (dL rfl (hv:=by exact KAh u33 rfl sz_33 rfl (KL _) (KL _))) ?_)
  refine aM 15 ?_;refine aD 16 rfl dNa ?_;refine aD 17 rfl dNa ?_;refine KAR ?_;refine Ko 20 rfl (.inl zr_33) (Nb rfl) rfl rfl rfl ?_;refine LAnyP.step 7 rfl rfl rfl (Nb rfl) kr rfl (Kf (first:=[_]) rfl en_82 rfl (fun w hw=>KBH V hok f bd _ _ w (mC hw))) ?_
  rintro _ _ ⟨rfl,rfl⟩
  refine LAnyP.step 13 rfl rfl rfl (Nb rfl) kr rfl (Kf (first:=[_]) rfl en_82 rfl (fun w hw=>KBH V hok f bd _ _ w (mC hw))) ?_
  rintro _ _ ⟨rfl,rfl⟩
  refine LAnyP.step 14 rfl rfl rfl (Nb rfl) kr rfl (Kf (first:=[_]) rfl en_97 rfl (fun w hw=>KAd V hok f bd _ _ w (mC hw) (mC hw))) ?_
  rintro _ _ ⟨rfl,rfl⟩
  refine LAnyP.step 18 rfl rfl rfl (Nb rfl) kr rfl (Kf (first:=[_]) rfl en_82 rfl (fun w hw=>KBH V hok f bd _ _ w (mC hw))) ?_
  rintro _ _ ⟨rfl,rfl⟩
  refine LAnyP.step 19 rfl rfl rfl (Nb rfl) kr rfl (Kf (first:=[_]) rfl KDC rfl (fun w hw=>KCd V hok f bd _ _ w (mC hw))) ?_
  rintro _ _ ⟨rfl,rfl⟩
  refine pE (fun b13=>?_);refine Kw ?_;refine aL 21 rfl (sA rfl rfl sz_33 mO (hl:=mL) (h:=?_));refine aE (KB (rD [21] (aM 0 ?_)));refine aM 1 ?_;refine aM 2 ?_;refine aP 3 rfl (KE (o':=0) u135 rfl rfl rfl sz_33 dc) (aD 4 rfl (dL rfl (hv:=by exact Kh u33 rfl sz_33 rfl (KL _))) ?_);refine aP 5 rfl (KE (o':=18) u135 rfl rfl rfl sz_33 dc) (aD 6 rfl (dL rfl (hv:=by exact pj_ld2 _ _ _ _ _ _)) ?_);refine aM 8 ?_;refine aP 9 rfl (KE (o':=0) u135 rfl rfl rfl sz_33 dc) (aD 10 rfl (dL rfl (hv:=by exact Kh u33 rfl sz_33 rfl (KL _))) ?_);refine aP 11 rfl (KE (o':=18) u135 rfl rfl rfl sz_33 dc) (aD 12 rfl (dL rfl (hv:=by exact pj_ld2 _ _ _ _ _ _)) ?_);refine aM 15 ?_;refine aD 16 rfl dNa ?_;refine aD 17 rfl dNa ?_;refine KAR ?_
  refine Ko 20 rfl (.inl zr_33) (Nb rfl) rfl rfl rfl ?_;refine LAnyP.step 7 rfl rfl rfl (Nb rfl) kr rfl (Kf (first:=[_]) rfl en_82 rfl (fun w hw=>KBH V hok f bd _ _ w (mC hw))) ?_
  rintro _ _ ⟨rfl,rfl⟩
  refine LAnyP.step 13 rfl rfl rfl (Nb rfl) kr rfl (Kf (first:=[_]) rfl en_82 rfl (fun w hw=>KBH V hok f bd _ _ w (mC hw))) ?_
  rintro _ _ ⟨rfl,rfl⟩
  refine LAnyP.step 14 rfl rfl rfl (Nb rfl) kr rfl (Kf (first:=[_]) rfl en_97 rfl (fun w hw=>KAd V hok f bd _ _ w (mC hw) (mC hw))) ?_
  rintro _ _ ⟨rfl,rfl⟩
  refine LAnyP.step 18 rfl rfl rfl (Nb rfl) kr rfl (Kf (first:=[_]) rfl en_82 rfl (fun w hw=>KBH V hok f bd _ _ w (mC hw))) ?_
  rintro _ _ ⟨rfl,rfl⟩
  refine LAnyP.step 19 rfl rfl rfl (Nb rfl) kr rfl (Kf (first:=[_]) rfl KDC rfl (fun w hw=>KCd V hok f bd _ _ w (mC hw))) ?_
  rintro _ _ ⟨rfl,rfl⟩
  refine pE (fun b14=>?_);refine Kw ?_;refine aL 21 rfl (sA rfl rfl sz_33 mO (hl:=mL) (h:=?_));refine aE (KB (rD [21] (aM 0 ?_)));refine aM 1 ?_;refine aM 2 ?_;refine aP 3 rfl (KE (o':=9) u135 rfl rfl rfl sz_33 dc) (aD 4 rfl (dL rfl (hv:=by exact KAh u33 rfl sz_33 rfl (KL _) (KL _))) ?_);refine aP 5 rfl (KE (o':=18) u135 rfl rfl rfl sz_33 dc) (aD 6 rfl (dL rfl (hv:=by exact pj_ld2 _ _ _ _ _ _)) ?_);refine aM 8 ?_;refine aP 9 rfl (KE (o':=9) u135 rfl rfl rfl sz_33 dc) (aD 10 rfl (dL rfl (hv:=by exact KAh u33 rfl sz_33 rfl (KL _) (KL _))) ?_);refine aP 11 rfl (KE (o':=18) u135 rfl rfl rfl sz_33 dc) (aD 12 rfl (dL rfl (hv:=by exact pj_ld2 _ _ _ _ _ _)) ?_);refine aM 15 ?_;refine aD 16 rfl dNa ?_;refine aD 17 rfl dNa ?_
  refine KAR ?_;refine Ko 20 rfl (.inl zr_33) (Nb rfl) rfl rfl rfl ?_;refine LAnyP.step 7 rfl rfl rfl (Nb rfl) kr rfl (Kf (first:=[_]) rfl en_82 rfl (fun w hw=>KBH V hok f bd _ _ w (mC hw))) ?_
  rintro _ _ ⟨rfl,rfl⟩
  refine LAnyP.step 13 rfl rfl rfl (Nb rfl) kr rfl (Kf (first:=[_]) rfl en_82 rfl (fun w hw=>KBH V hok f bd _ _ w (mC hw))) ?_
  rintro _ _ ⟨rfl,rfl⟩
  refine LAnyP.step 14 rfl rfl rfl (Nb rfl) kr rfl (Kf (first:=[_]) rfl en_97 rfl (fun w hw=>KAd V hok f bd _ _ w (mC hw) (mC hw))) ?_
  rintro _ _ ⟨rfl,rfl⟩
  refine LAnyP.step 18 rfl rfl rfl (Nb rfl) kr rfl (Kf (first:=[_]) rfl en_82 rfl (fun w hw=>KBH V hok f bd _ _ w (mC hw))) ?_
  rintro _ _ ⟨rfl,rfl⟩
  refine LAnyP.step 19 rfl rfl rfl (Nb rfl) kr rfl (Kf (first:=[_]) rfl KDC rfl (fun w hw=>KCd V hok f bd _ _ w (mC hw))) ?_
  rintro _ _ ⟨rfl,rfl⟩
  refine pE (fun b15=>?_);refine Kw ?_;refine aL 21 rfl (sA rfl rfl sz_33 mO (hl:=mL) (h:=?_));refine aE (KB (rD [18] (aM 0 ?_)));refine aM 1 ?_;refine aM 2 ?_;refine aP 3 rfl (KF rfl) (aP 4 rfl (KE (o':=60) u100 rfl rfl rfl sz_33 dc) (aD 5 rfl (KAw (dL rfl (hv:=by exact cvC_ld_t3 _ _ _ _ _ _ _ _ _ _ _ _ _ _ _ _)) (t_val hok)) ?_));refine aD 6 rfl dNa ?_;refine aM 8 ?_;refine aM 9 ?_;refine aP 10 rfl (KF rfl) (aP 11 rfl (KE (o':=0) u100 rfl rfl rfl sz_53 dc) (aP 12 rfl (KE (o':=10) u53 rfl rfl rfl sz_33 dc) (aD 13 rfl (KAw (dL rfl (hv:=by exact cvC_ld_a _ _ _ _ _ _ _ _ _ _ _ _ _ _ _ _)) (a_val hok)) ?_)));refine aD 14 rfl dNa ?_;refine KAR ?_;refine Ko 17 rfl (.inl zr_33) (Nb rfl) rfl rfl rfl ?_;refine LAnyP.step 7 rfl rfl rfl (Nb rfl) kr rfl (Kf (first:=[_]) rfl en_97 rfl (fun w hw=>KAd V hok f bd _ _ w (mC hw) (mC hw))) ?_
  rintro _ _ ⟨rfl,rfl⟩
  refine LAnyP.step 15 rfl rfl rfl (Nb rfl) kr rfl (Kf (first:=[_]) rfl en_97 rfl (fun w hw=>KAd V hok f bd _ _ w (mC hw) (mC hw))) ?_
  rintro _ _ ⟨rfl,rfl⟩
  refine LAnyP.step 16 rfl rfl rfl (Nb rfl) kr rfl (Kf (first:=[_]) rfl en_82 rfl (fun w hw=>KBH V hok f bd _ _ w (mC hw))) ?_
  rintro _ _ ⟨rfl,rfl⟩
  refine pE (fun b16=>?_);refine Kw ?_;refine aL 18 rfl (sA rfl rfl sz_33 mO (hl:=mL) (h:=?_));refine aE (KB (KA (oM ?_)));refine oD dNa ?_;refine oD dNa ?_;refine oS (Kz (first:=[_]) rfl KDC rfl (Nb rfl) (fun w hw=>KCd V hok f bd _ _ w (mC hw)) ?_);refine oS (mk (KK zr_33) (fun b17=>?_));refine oT rfl rfl sz_33 ?_;refine KC (KB (KA (oM ?_)));refine oD dNa ?_;refine oD dNa ?_;refine oS (Kz (first:=[_]) rfl en_82 rfl (Nb rfl) (fun w hw=>KBH V hok f bd _ _ w (mC hw)) ?_);refine oT rfl rfl sz_33 ?_;refine KC (KB (KA (oM ?_)));refine oD dNa ?_;refine oD dNa ?_;refine oS (Kz (first:=[_]) rfl en_97 rfl (Nb rfl) (fun w hw=>KAd V hok f bd _ _ w (mC hw) (mC hw)) ?_)
  refine oS (mk (KK zr_33) (fun b18=>?_));refine oT rfl rfl sz_33 ?_;refine KC (KB (rD [7] (aM 0 ?_)));refine aM 1 ?_;refine aD 2 rfl dNa ?_;refine aD 3 rfl dNa ?_;refine aD 5 rfl dNa ?_;refine aO 4 rfl (Kz (first:=[_]) rfl en_82 rfl (Nb rfl) (fun w hw=>KBH V hok f bd _ _ w (mC hw)) ?_);refine aO 6 rfl (Kz (first:=[_]) rfl en_82 rfl (Nb rfl) (fun w hw=>KBH V hok f bd _ _ w (mC hw)) ?_);refine aL 7 rfl (sA rfl rfl sz_33 mO (hl:=mL) (h:=?_));refine aE (KB (rD [8] (aM 0 ?_)));refine aM 1 ?_;refine aP 2 rfl (KF rfl) (aP 3 rfl (KE (o':=0) u100 rfl rfl rfl sz_53 dc) (aP 4 rfl (KE (o':=10) u53 rfl rfl rfl sz_33 dc) (aD 5 rfl (KAw (dL rfl (hv:=by exact cvC_ld_a _ _ _ _ _ _ _ _ _ _ _ _ _ _ _ _)) (a_val hok)) ?_)));refine aD 6 rfl dNa ?_
  refine aO 7 rfl (Kz (first:=[_]) rfl en_97 rfl (Nb rfl) (fun w hw=>KAd V hok f bd _ _ w (mC hw) (mC hw)) ?_);refine aL 8 rfl (sA rfl rfl sz_33 mO (hl:=mL) (h:=?_));refine aE (KB (rD [7] (aM 0 ?_)));refine aM 1 ?_;refine aP 2 rfl (KF rfl) (aP 3 rfl (KE (o':=60) u100 rfl rfl rfl sz_33 dc) (aD 4 rfl (KAw (dL rfl (hv:=by exact cvC_ld_t3 _ _ _ _ _ _ _ _ _ _ _ _ _ _ _ _)) (t_val hok)) ?_));refine aD 5 rfl dNa ?_;refine aO 6 rfl (Kz (first:=[_]) rfl en_97 rfl (Nb rfl) (fun w hw=>KAd V hok f bd _ _ w (mC hw) (mC hw)) ?_);refine aL 7 rfl (sA rfl rfl sz_33 mO (hl:=mL) (h:=?_));refine aE (KB (KA (oM ?_)));refine oD dNa ?_;refine oD dNa ?_;refine oS (Kz (first:=[_]) rfl en_82 rfl (Nb rfl) (fun w hw=>KBH V hok f bd _ _ w (mC hw)) ?_);refine oT rfl rfl sz_33 ?_
  refine KC (KB (rD [11] (aM 0 ?_)));refine aM 1 ?_;refine aP 2 rfl (KF rfl) (aP 3 rfl (KE (o':=0) u100 rfl rfl rfl sz_53 dc) (aP 4 rfl (KE (o':=10) u53 rfl rfl rfl sz_33 dc) (aD 5 rfl (KAw (dL rfl (hv:=by exact cvC_ld_a _ _ _ _ _ _ _ _ _ _ _ _ _ _ _ _)) (a_val hok)) ?_)));refine aM 6 ?_;refine aD 7 rfl dNa ?_;refine aD 8 rfl dNa ?_;refine aO 9 rfl (Kz (first:=[_]) rfl KDC rfl (Nb rfl) (fun w hw=>KCd V hok f bd _ _ w (mC hw)) ?_);refine aO 10 rfl (Kz (first:=[_]) rfl en_97 rfl (Nb rfl) (fun w hw=>KAd V hok f bd _ _ w (mC hw) (mC hw)) ?_);refine aL 11 rfl (sA rfl rfl sz_33 mO (hl:=mL) (h:=?_));refine aE (KB (KA (oM ?_)));refine oD dNa ?_;refine oD dNa ?_;refine oS (Kz (first:=[_]) rfl en_82 rfl (Nb rfl) (fun w hw=>KBH V hok f bd _ _ w (mC hw)) ?_)
  refine oT rfl rfl sz_33 ?_;refine KC (KB (rD [7] (aM 0 ?_)));refine aD 1 rfl dNa ?_;refine aM 2 ?_;refine aD 3 rfl dNa ?_;refine aD 4 rfl dNa ?_;refine aO 5 rfl (Kz (first:=[_]) rfl en_97 rfl (Nb rfl) (fun w hw=>KAd V hok f bd _ _ w (mC hw) (mC hw)) ?_);refine aO 6 rfl (Kz (first:=[_]) rfl en_82 rfl (Nb rfl) (fun w hw=>KBH V hok f bd _ _ w (mC hw)) ?_);refine aL 7 rfl (sA rfl rfl sz_33 mO (hl:=mL) (h:=?_));refine aE (KB (rD [10] (aM 0 ?_)));refine aM 1 ?_;refine aD 2 rfl dNa ?_;refine aD 3 rfl dNa ?_;refine aM 5 ?_;refine aD 6 rfl dNa ?_;refine aD 7 rfl dNa ?_
  refine aO 4 rfl (Kz (first:=[_]) rfl en_97 rfl (Nb rfl) (fun w hw=>KAd V hok f bd _ _ w (mC hw) (mC hw)) ?_);refine aO 8 rfl (Kz (first:=[_]) rfl en_97 rfl (Nb rfl) (fun w hw=>KAd V hok f bd _ _ w (mC hw) (mC hw)) ?_);refine aO 9 rfl (Kz (first:=[_]) rfl KDC rfl (Nb rfl) (fun w hw=>KCd V hok f bd _ _ w (mC hw)) ?_);refine aL 10 rfl (sA rfl rfl sz_33 mO (hl:=mL) (h:=?_));refine aE (KB (rD [10] (aM 0 ?_)));refine aM 1 ?_;refine aD 2 rfl dNa ?_;refine aD 3 rfl dNa ?_;refine aM 5 ?_;refine aD 6 rfl dNa ?_;refine aD 7 rfl dNa ?_;refine aO 4 rfl (Kz (first:=[_]) rfl en_97 rfl (Nb rfl) (fun w hw=>KAd V hok f bd _ _ w (mC hw) (mC hw)) ?_);refine aO 8 rfl (Kz (first:=[_]) rfl en_97 rfl (Nb rfl) (fun w hw=>KAd V hok f bd _ _ w (mC hw) (mC hw)) ?_)
  refine aO 9 rfl (Kz (first:=[_]) rfl en_82 rfl (Nb rfl) (fun w hw=>KBH V hok f bd _ _ w (mC hw)) ?_);refine aL 10 rfl (sA rfl rfl sz_33 mO (hl:=mL) (h:=?_));refine aE (KB (KA (oD dNa ?_)));refine oD dNa ?_;refine oD dNa ?_;refine oP (KI (KW pl_135 KDK rfl (fill_pj _ _ _)) rfl) (oT rfl rfl KAM ?_);refine KC (KM (eN (.cons ⟨_,_,_,rfl,mM,by exact KD u135 rfl KAM⟩ .nil) ?_))
  rfl
open Grp
theorem pm_top (V:Cv) (P:Pt V.p) (K:Nat):pmul V.A P (K/2^blen K) = .inf:=by rw [Nat.div_eq_of_lt (KCS K)]; rfl
theorem pm_T {V:Cv} (hok:V.Ok) {P:Pt V.p} (hP:On V.A V.B P) {K y:Nat} (h:K/2^y%2 = 1):padd V.A (padd V.A (pmul V.A P (K/2^(y+1))) (pmul V.A P (K/2^(y+1)))) P = pmul V.A P (K/2^y):=by
  have:=pmul_bit hok.crv hP K y
  rwa [if_pos h] at this
theorem pm_F {V:Cv} (hok:V.Ok) {P:Pt V.p} (hP:On V.A V.B P) {K y:Nat} (h:¬ K/2^y%2 = 1):padd V.A (pmul V.A P (K/2^(y+1))) (pmul V.A P (K/2^(y+1))) = pmul V.A P (K/2^y):=by
  have:=pmul_bit hok.crv hP K y
  rwa [if_neg h] at this
def sumT (V:Cv) (T U:Fin V.p×Fin V.p×Fin V.p):Fin V.p×Fin V.p×Fin V.p:=sum3 V.A (V.B+V.B+V.B) T.1 T.2.1 T.2.2 U.1 U.2.1 U.2.2
structure RepT (V:Cv) (T:Fin V.p×Fin V.p×Fin V.p) (P:Pt V.p):Prop where
  rep:Rep T.1 T.2.1 T.2.2 P
  on:On V.A V.B P
theorem RepT.sum {V:Cv} (hok:V.Ok) {T U:Fin V.p×Fin V.p×Fin V.p} {P R:Pt V.p} (h:RepT V T P) (k:RepT V U R):RepT V (sumT V T U) (padd V.A P R):=⟨hok.rep_sum h.rep k.rep h.on k.on,hok.sum h.on k.on⟩
theorem KBX {V:Cv} (hok:V.Ok) {P:Pt V.p} (hP:On V.A V.B P):RepT V (tripF P) P:=⟨hok.rep_trip P,hP⟩
theorem c_SumT (V:Cv) (b f bd:Nat) (hok:V.Ok) (T U:Fin V.p×Fin V.p×Fin V.p) (w:World) (hb:(Item.blk b ⟨false,opL V f,100,(0,0)⟩).holds w) (hf:(Item.blk f ⟨false,fldL V.p bd,165,(0,0)⟩).holds w) (hbd:(Item.blk bd ⟨false,dvL V.p,269,(0,0)⟩).holds w):CF Tryz.prog 100 [Pz b,pjF T,pjF U] w (pjF (sumT V T U)) :=
  c_Sum V b f bd hok T.1 T.2.1 T.2.2 U.1 U.2.1 U.2.2 w hb hf hbd
theorem c_PlainT (V:Cv) (b f bd:Nat) (hok:V.Ok) (T:Fin V.p×Fin V.p×Fin V.p) (P:Pt V.p) (w:World) (hb:(Item.blk b ⟨false,opL V f,100,(0,0)⟩).holds w) (hf:(Item.blk f ⟨false,fldL V.p bd,165,(0,0)⟩).holds w) (hbd:(Item.blk bd ⟨false,dvL V.p,269,(0,0)⟩).holds w) (h:RepT V T P):CF Tryz.prog 65 [Pz b,pjF T] w (ptP P):=by
  have:=c_Plain V b f bd hok T.1 T.2.1 T.2.2 w hb hf hbd
  rwa [Rep.plain hok.prime h.rep] at this
theorem c_cTimes (V:Cv) (b f bd:Nat) (hok:V.Ok) (K:Nat) (hK:K<W9) (T:Fin V.p×Fin V.p×Fin V.p) (P:Pt V.p) (w:World) (hb:(Item.blk b ⟨false,opL V f,100,(0,0)⟩).holds w) (hf:(Item.blk f ⟨false,fldL V.p bd,165,(0,0)⟩).holds w) (hbd:(Item.blk bd ⟨false,dvL V.p,269,(0,0)⟩).holds w) (hrep:RepT V T P):Calls Tryz.prog 66 ([Pz b,natV K,pjF T]:List Value).toArray w (fun e w'=>∃ v,(∃ U,RepT V U (pmul V.A P K)∧v = pjF U)∧e = .returned v∧Below w.heap.size w w'):=by
  have hbl:=KAP hK
  refine KV (N:=30) (rs:=[.cell 6 135]) [.blk b ⟨false,opL V f,100,(0,0)⟩,.blk f ⟨false,fldL V.p bd,165,(0,0)⟩,.blk bd ⟨false,dvL V.p,269,(0,0)⟩] Tryz.func66 rfl Tryz.ntmps66 Tryz.results66 (Nb rfl) ⟨hb,hf,hbd,trivial⟩ rfl ?_
  refine KB (KA (oS (mB (fun b4=>?_))));refine oS (mB (fun b5=>?_));refine oS (mk (KK KDK) (fun b6=>?_));refine KC (KB (KA (oS (cF rfl en_99 rfl (fun w hw=>c_NoneF hok w) ?_))));refine oS (mk (KK KDK) (fun b7=>?_));refine LOps.step rfl (sA rfl rfl KAM (by exact pjL_one _ _ _) (hl:=by exact KBw _ _ _) (h:=?_));refine KC (KB (KB (KA (oD dNa ?_))));refine oS (cF rfl en_81 rfl (fun w hw=>KBg K hK w) ?_);refine oP (KH (v:=.int .i64 (((blen K:Nat):Int)-1)) rfl rfl (KBr om om)) (oA (KC (LCode.block ?_)));refine Kd (α:=Nat×(Fin V.p×Fin V.p×Fin V.p)) (fun x=>x.1≤blen K∧RepT V x.2 (pmul V.A P (K/2^x.1))) (fun x=>⟨[(0,Pz b),(4,Pz b4),(5,Pz b5),(6,Pz b6),(7,Pz b7),(8,.int .i64 (((x.1:Nat):Int)-1))],[.blk b7 ⟨true,pjFL x.2,135,(0,0)⟩,.blk b6 ⟨true,(vec .u64 9 (fun _=>0)++(vec .u64 9 (fun _=>0)++vec .u64 9 (fun _=>0))),135,(0,0)⟩,.blk b5 ⟨true,pjFL T,135,(0,0)⟩,.blk b4 ⟨true,natL K,33,(0,0)⟩,.blk b ⟨false,opL V f,100,(0,0)⟩,.blk f ⟨false,fldL V.p bd,165,(0,0)⟩,.blk bd ⟨false,dvL V.p,269,(0,0)⟩]⟩) (fun x=>x.1) ((blen K,tripF (.inf:Pt V.p))) (⟨Nat.le_refl _,by dsimp only; rw [pm_top]; exact KBX hok trivial⟩) (Ka ⟨rfl,rfl,rfl,rfl,rfl,rfl,trivial⟩ mS) ?_
  rintro x ⟨hx1,hx2⟩
  refine KB (KB ?_)
  rcases Nat.eq_zero_or_pos x.1 with h0|h0
  ·
   refine KA (oM ?_);refine oP (KH (v:=.bool false) rfl rfl (by rw [h0]; rfl)) ?_;refine KC (KG rfl (Kb (KB ?_)))
   have eR:pmul V.A P (K/2^x.1) = pmul V.A P K:=by rw [h0,Nat.pow_zero,Nat.div_one]
   rw [eR] at hx2
   refine KA (oD (dL rfl (hv:=by exact KD u135 rfl KAM)) ?_);refine LOps.step rfl (sA rfl rfl KAM (by exact pjL_one _ _ _) (hl:=by exact KBw _ _ _) (h:=?_));refine KC (KM ?_);refine ⟨[_],.cons ⟨_,_,_,rfl,mM,by exact KD u135 rfl (by have:=KAM; exact this)⟩ .nil,fun a w' hr=>⟨_,⟨x.2,hx2,rfl⟩,rfl,hr.fr.below⟩⟩
  obtain ⟨y,hy⟩:∃ y,x.1 = y+1:=⟨x.1-1,by omega⟩
  rw [hy] at hx2
  refine KA (oM ?_);refine oP (KH (v:=.bool true) rfl rfl (by rw [hy]; simp [Kq] <;> omega)) ?_;refine KC (KS rfl (KN (KB (LCode.block (KB (KA (oM ?_)))))));refine oD (dL rfl (hv:=by exact KD u135 rfl KAM)) ?_;refine oD (dL rfl (hv:=by exact KD u135 rfl KAM)) ?_;refine oS (cF rfl en_100 rfl (fun w hw=>c_SumT V b f bd hok (x.2) (x.2) w (mC hw) (mC hw) (mC hw)) ?_);refine LOps.step rfl (sA rfl rfl KAM (by exact pjL_one _ _ _) (hl:=by exact KBw _ _ _) (h:=?_));refine KC (KB (KA (oD dNa ?_)));refine oP (Kg (v:=Iz y) (by show some _ = some _; congr 2; omega)) ?_;refine oS (cF rfl en_57 rfl (fun w hw=>KDE K y hK om w) ?_);refine oP (KH rfl rfl (Kt (b:=1))) (KC ?_)
  first|refine KQ rfl (fun hbit=>?_) (fun hbit=>?_)|refine KT rfl (fun hbit=>?_) (fun hbit=>?_)
  ·
   have hbit:K/2^y%2 = 1:=hbit
   refine KA (oM ?_);refine oD (dL rfl (hv:=by exact KD u135 rfl KAM)) ?_;refine oD (dL rfl (hv:=by exact KD u135 rfl KAM)) ?_;refine oS (cF rfl en_100 rfl (fun w hw=>c_SumT V b f bd hok (sumT V x.2 x.2) (T) w (mC hw) (mC hw) (mC hw)) ?_);refine LOps.step rfl (sA rfl rfl KAM (by exact pjL_one _ _ _) (hl:=by exact KBw _ _ _) (h:=?_));refine KC (KA ?_);refine oP (Kg (v:=Iz y) (by show some _ = some _; congr 2; omega)) ?_;refine oP (KH (v:=.int .i64 (((y:Nat):Int)-1)) rfl rfl (KBr om om)) (oA (KC ?_))
   exact ⟨(y,sumT V (sumT V x.2 x.2) T),⟨by dsimp only; omega,by have:=RepT.sum hok (RepT.sum hok hx2 hx2) hrep; rw [pm_T hok hrep.on hbit] at this; exact this⟩,by dsimp only; omega,Ka ⟨rfl,rfl,rfl,rfl,rfl,rfl,trivial⟩ mS⟩
  have hbit:¬ K/2^y%2 = 1:=hbit
  refine KN (KA ?_);refine oP (Kg (v:=Iz y) (by show some _ = some _; congr 2; omega)) ?_;refine oP (KH (v:=.int .i64 (((y:Nat):Int)-1)) rfl rfl (KBr om om)) (oA (KC ?_))
  exact ⟨(y,sumT V x.2 x.2),⟨by dsimp only; omega,by have:=RepT.sum hok hx2 hx2; rw [pm_F hok hrep.on hbit] at this; exact this⟩,by dsimp only; omega,Ka ⟨rfl,rfl,rfl,rfl,rfl,rfl,trivial⟩ mS⟩
open Grp
theorem fpow_val {p:Nat} [NeZero p] (x:Fin p):∀ e,(fpow x e).val = x.val^e%p
  | 0=>rfl
  | e+1=>by
    show (fpow x e*x).val = _
    rw [Fin.val_mul,fpow_val x e,Nat.pow_succ,Nat.mul_mod,Nat.mod_mod,← Nat.mul_mod]
def sqN (p a:Nat):Option Nat:=(List.range p).find? fun r=>Nat.beq (r*r%p) a && Nat.beq (r%2) 0
theorem sqN_some {p a r:Nat} (h:sqN p a = some r):r<p∧r*r%p = a∧r%2 = 0:=by
  unfold sqN at h
  have h1:=List.find?_some h
  have h2:=List.mem_of_find?_eq_some h
  simp only [Bool.and_eq_true] at h1
  exact ⟨List.mem_range.1 h2,Nat.eq_of_beq_eq_true h1.1,Nat.eq_of_beq_eq_true h1.2⟩
theorem sqN_none {p a:Nat} (h:sqN p a = none) {r:Nat} (hr:r<p) (h1:r*r%p = a):r%2 = 1:=by
  unfold sqN at h
  have h2:=List.find?_eq_none.1 h r (List.mem_range.2 hr)
  rcases Nat.mod_two_eq_zero_or_one r with h3|h3
  · exact absurd (by rw [h1,h3]; simp) h2
  · exact h3
theorem fin_neg_val {p:Nat} [NeZero p] (x:Fin p) (h:x.val≠0):(0-x).val = p-x.val:=by
  have:=x.isLt
  rw [Fin.sub_def]
  show (p-x.val+(0:Fin p).val)%p = _
  rw [Fin.val_zero,Nat.add_zero,Nat.mod_eq_of_lt om]
theorem neg_sq {p:Nat} [NeZero p] (x:Fin p):(0-x)*(0-x) = x*x:=by grind -lia
def evenR {p:Nat} [NeZero p] (x:Fin p):Fin p:=if x.val%2 = 1 then 0-x else x
theorem evenR_sq {p:Nat} [NeZero p] (x:Fin p):evenR x*evenR x = x*x:=by
  unfold evenR; split
  · exact neg_sq x
  · rfl
theorem evenR_even {p:Nat} [NeZero p] (hodd:p%2 = 1) (x:Fin p):(evenR x).val%2 = 0:=by
  unfold evenR; split
  · rename_i h
    have:=x.isLt
    rw [fin_neg_val x om]; omega
  · omega
theorem sqN_eq {p:Nat} [NeZero p] (hf:Fld p) (hodd:p%2 = 1) (x:Fin p):sqN p (x*x).val = some (evenR x).val:=by
  cases h:sqN p (x*x).val with
  | none =>
    have h1:=sqN_none h (evenR x).isLt (by rw [← Fin.val_mul,evenR_sq])
    have h2:=evenR_even hodd x
    omega
  | some r =>
    obtain ⟨h1,h2,h3⟩:=sqN_some h
    have e:(⟨r,h1⟩:Fin p) = evenR x:=even_root hf hodd (by rw [evenR_sq]; exact Fin.ext (by rw [Fin.val_mul]; exact h2)) h3 (evenR_even hodd x)
    rw [← e]
theorem p_odd {V:Cv} (hok:V.Ok):V.p%2 = 1:=by
  exact hok.bounds.2.2.2.2.2.2.2.1
theorem Cv.Ok.zbounds {V:Cv} (h:V.Ok):2≤V.z∧V.z<V.p:=by
  have cs:=h.cs
  simp only [Bool.and_eq_true] at cs
  exact ⟨Nb cs.1.1.1.1.1.1.1.2,Nb cs.1.1.1.1.1.1.2⟩
theorem sqN_no {V:Cv} (hok:V.Ok) {a:Fin V.p} (h0:a≠0) (h:fpow a ((V.p-1)/2)≠1):sqN V.p a.val = none:=by
  cases h1:sqN V.p a.val with
  | none=>rfl
  | some r =>
    obtain ⟨h2,h3,h4⟩:=sqN_some h1
    have hb:=hok.bounds
    have hod:=p_odd hok
    have e:a = (⟨r,h2⟩:Fin V.p)*⟨r,h2⟩:=Fin.ext (by rw [Fin.val_mul]; exact h3.symm)
    refine absurd ?_ h
    have hr:(⟨r,h2⟩:Fin V.p)≠0:=fun e0=>h0 (by rw [e,e0]; grind -lia)
    have:=fermat hok.fld om hr
    rw [show V.p-1 = (V.p-1)/2+(V.p-1)/2 by omega,fpow_add,← mul_fpow,← e] at this
    exact this
theorem sqN_zero {p:Nat} (hp:0<p):sqN p 0 = some 0:=by
  unfold sqN
  obtain ⟨n,rfl⟩:∃ n,p = n+1:=⟨p-1,by omega⟩
  rw [List.range_succ_eq_map,List.find?_cons]
  simp
theorem two_lt {k m B:Nat} (h:2^k*m = B) (hm:0<m) (hB:B<W9):k<576:=by
  refine Nat.lt_of_not_le fun hk=>?_
  obtain ⟨q,hq⟩:∃ q:Nat,q = 9:=⟨9,rfl⟩
  have h1:2^(64*q)≤2^k:=Nat.pow_le_pow_right dc om
  have h2:2^k*1≤2^k*m:=Nat.mul_le_mul_left _ hm
  rw [w9 hq] at h1
  omega
theorem val_one {V:Cv} (hok:V.Ok):(1:Fin V.p).val = 1:=by
  have:=hok.bounds
  show 1%V.p = 1
  exact Nat.mod_eq_of_lt om
theorem ne_iff1 {V:Cv} (hok:V.Ok) {x:Fin V.p}:x.val = 1↔x = 1:=⟨fun h=>Fin.ext (h.trans (val_one hok).symm),fun h=>h ▸ val_one hok⟩
theorem fpow_succ2 {p:Nat} [NeZero p] (x:Fin p) (k:Nat):fpow x (2^k)*fpow x (2^k) = fpow x (2^(k+1)):=by rw [← fpow_add,← Nat.mul_two,← Nat.pow_succ]
theorem c_F_Pow (V:Cv) (hok:V.Ok) (bd:Nat) (X:Fin V.p) (E:Nat) (w:World) (hbd:(Item.blk bd ⟨false,dvL V.p,269,(0,0)⟩).holds w) (hE:E<W9):CF Tryz.prog 160 [.agg [Pz bd].toArray,natV X.val,natV E] w (natV (fpow X E).val):=by
  have hb:=hok.bounds
  have hpW:=Ku hb.2.1
  have:=c_Pow V.p X.val E bd om hpW w hbd (Nat.lt_trans X.isLt hpW) hE
  rwa [← fpow_val] at this
theorem c_one  (w:World)  : CF Tryz.prog 159 [] w (natV 1):=by
  refine KV (N:=2) (rs:=[.cell 0 33]) [] Tryz.func159 rfl Tryz.ntmps159 Tryz.results159 (Nb rfl) trivial rfl ?_
  refine KB (KA (oS (mk (KK zr_33) (fun b0=>?_))));refine KC (KB (KA (oS (cF rfl en_80 rfl (fun w hw=>KAV 1 dc w) ?_))));refine oT rfl rfl sz_33 ?_;refine KC (KM (eN (.cons ⟨_,_,_,rfl,mM,by exact KD u33 rfl sz_33⟩ .nil) ?_))
  rfl
theorem c_half (A:Nat) (hA:A<W9) (w:World)  : CF Tryz.prog 161 [natV A] w (natV (A/2)):=by
  refine KV (N:=11) (rs:=[.cell 2 33]) [] Tryz.func161 rfl Tryz.ntmps161 Tryz.results161 (Nb rfl) trivial rfl ?_
  refine KB (KA (oS (mB (fun b1=>?_))));refine oS (mk (KK zr_33) (fun b2=>?_));refine KC (KB (KA (oD dNa ?_)));refine oS (cF rfl en_83 rfl (fun w hw=>c_nat_Shr A 1 hA dc w) ?_);refine oM ?_;refine oX ?_;refine oX ?_;refine oS (mk (KK zr_33) (fun b3=>?_));refine oT rfl rfl sz_33 ?_;refine oA (KC (KB (KA ?_)));refine oD dNa ?_;refine oT rfl rfl sz_33 ?_;refine KC (KM (eN (.cons ⟨_,_,_,rfl,mM,by exact KD u33 rfl sz_33⟩ .nil) ?_))
  rw [Nat.pow_one]
  rfl
theorem c_f_AddS (V:Cv) (f bd z:Nat) (w:World) (hf:(Item.blk f ⟨false,fldL V.p bd,165,(0,0)⟩).holds w) (hok:V.Ok) (hz:z+1<V.p):CF Tryz.prog 82 [Pz f,natV z,natV 1] w (natV (z+1)):=by
  have:=KDT V f bd z 1 w hf hok.bounds.2.1 om om
  rwa [Nat.mod_eq_of_lt hz] at this
theorem c_F_PowN (V:Cv) (hok:V.Ok) (bd z:Nat) (E:Nat) (w:World) (hbd:(Item.blk bd ⟨false,dvL V.p,269,(0,0)⟩).holds w) (hE:E<W9) (hz:z<V.p):CF Tryz.prog 160 [.agg [Pz bd].toArray,natV z,natV E] w (natV (fpow (c V.p z) E).val):=by
  have:=c_F_Pow V hok bd (c V.p z) E w hbd hE
  rwa [show (c V.p z).val = z from Nat.mod_eq_of_lt hz] at this
theorem neg_one_val {p:Nat} [NeZero p] (h:2≤p):(-1:Fin p).val = p-1:=by
  have h1:(-1:Fin p) = 0-1:=by grind -lia
  have h2:(1:Fin p).val = 1:=by show 1%p = 1; exact Nat.mod_eq_of_lt om
  rw [h1,fin_neg_val 1 om,h2]
theorem fpow_cval {p:Nat} [NeZero p] (z E:Nat):(fpow (c p z) E).val = z^E%p:=by
  rw [← c_pow]; rfl
theorem half_of {p o s:Nat} (h:o*2^s = p-1) (hp:p%2 = 1) (h2:2≤p) (ho:o%2 = 1):0<s∧o*2^(s-1) = (p-1)/2:=by
  cases s with
  | zero=>rw [Nat.pow_zero,Nat.mul_one] at h; omega
  | succ k =>
    rw [Nat.pow_succ,← Nat.mul_assoc] at h
    refine ⟨Nat.succ_pos k,?_⟩
    show o*2^k = _
    omega
theorem c_root (V:Cv) (f bd:Nat) (hok:V.Ok) (a:Fin V.p) (w:World) (hf:(Item.blk f ⟨false,fldL V.p bd,165,(0,0)⟩).holds w) (hbd:(Item.blk bd ⟨false,dvL V.p,269,(0,0)⟩).holds w) (ha:fpow a ((V.p-1)/2) = 1):Calls Tryz.prog 162 ([Pz f,natV a.val]:List Value).toArray w (fun e w'=>∃ v,(∃ x:Fin V.p,x*x = a∧v = natV x.val)∧e = .returned v∧Below w.heap.size w w'):=by
  have hbb:=hok.bounds
  have hpW:V.p<W9:=Ku hbb.2.1
  have hz:=hok.zbounds
  refine KV (N:=118) (rs:=[.cell 4 33]) [.blk f ⟨false,fldL V.p bd,165,(0,0)⟩,.blk bd ⟨false,dvL V.p,269,(0,0)⟩] Tryz.func162 rfl Tryz.ntmps162 Tryz.results162 (Nb rfl) ⟨hf,hbd,trivial⟩ rfl ?_
  refine KB (KA (oS (mB (fun b3=>?_))));refine oS (mk (KK zr_33) (fun b4=>?_));refine KC (KB (rD [10] (aM 0 ?_)));refine aP 1 rfl (KF rfl) (aP 2 rfl (KE (o':=0) u165 rfl rfl rfl sz_33 dc) (aD 3 rfl (dL rfl (hv:=by exact Kh u33 rfl sz_33 rfl (KL _))) ?_));refine KAR ?_;refine Ko 9 rfl (.inl zr_33) (Nb rfl) rfl rfl rfl ?_;refine LAnyP.step 4 rfl rfl rfl (Nb rfl) kr rfl (Kf (first:=[]) rfl en_159 rfl (fun w hw=>c_one w)) ?_
  rintro _ _ ⟨rfl,rfl⟩
  refine LAnyP.step 5 rfl rfl rfl (Nb rfl) kr rfl (Kf (first:=[]) rfl en_79 rfl (fun w hw=>KCx V.p 1 w hpW om)) ?_
  rintro _ _ ⟨rfl,rfl⟩
  refine pM 6 ?_;refine pP 7 rfl (Det.extract rfl rfl) (pP 8 rfl (Det.extract rfl rfl) (pE (fun b5=>?_)));refine Kw ?_;refine aL 10 rfl (sA rfl rfl sz_33 mO (hl:=mL) (h:=?_));refine aA 11 ?_;refine aE (KB (KA (oD dNa ?_)));refine oS (mk (KK zr_33) (fun b7=>?_));refine oT rfl rfl sz_33 ?_;refine oP (KO (v:=Iz 0) rfl) (KC (KB (LCode.block ?_)));refine Kd (α:=Nat×Nat) (fun x=>x.1*2^x.2 = V.p-1∧0<x.1) (fun x=>⟨[(0,Pz f),(3,Pz b3),(4,Pz b4),(5,Pz b5),(7,Pz b7),(8,Iz x.2)],[.blk b7 ⟨true,natL x.1,33,(0,0)⟩,.blk b5 ⟨true,natL (V.p-1),33,(0,0)⟩,.blk b4 ⟨true,vec .u64 9 (fun _=>0),33,(0,0)⟩,.blk b3 ⟨true,natL a.val,33,(0,0)⟩,.blk f ⟨false,fldL V.p bd,165,(0,0)⟩,.blk bd ⟨false,dvL V.p,269,(0,0)⟩]⟩) (fun x=>x.1) ((V.p-1,0)) (⟨by dsimp only; omega,by dsimp only; omega⟩) (Ka ⟨rfl,rfl,rfl,rfl,rfl,rfl,trivial⟩ mS) ?_
  rintro o ⟨ho1,ho2⟩
  refine KB (KB ?_)
  have ho3:o.1≤V.p-1:=by
    have h2:o.1*1≤o.1*2^o.2:=Nat.mul_le_mul_left _ Nat.one_le_two_pow
    omega
  have ho4:o.2<576:=two_lt ((Nat.mul_comm _ _).trans ho1) ho2 om
  refine KA (oD dNa ?_);refine oS (cF rfl en_57 rfl (fun w hw=>KDE o.1 0 om dc w) ?_);refine oP (KH rfl rfl (Kt (b:=0))) (KC ?_)
  first|refine KQ rfl (fun h30=>?_) (fun h30=>?_)|refine KT rfl (fun h30=>?_) (fun h30=>?_)
  ·
   have h30:o.1/2^0%2 = 0:=h30
   rw [Nat.pow_zero,Nat.div_one] at h30
   refine KN (LCode.block (KA (oD dNa ?_)));refine oS (cF rfl en_161 rfl (fun w hw=>c_half o.1 om w) ?_);refine oM ?_;refine oP (KH rfl rfl (Kj (b:=1) om)) (oT rfl rfl sz_33 ?_);refine oA (KC ?_)
   exact ⟨(o.1/2,o.2+1),⟨by dsimp only; rw [Nat.pow_succ,Nat.mul_comm (2^o.2) 2,← Nat.mul_assoc,show o.1/2*2 = o.1 by omega]; exact ho1,by dsimp only; omega⟩,by dsimp only; omega,Ka ⟨rfl,rfl,rfl,rfl,rfl,rfl,trivial⟩ mS⟩
  have h30:¬ o.1/2^0%2 = 0:=h30
  rw [Nat.pow_zero,Nat.div_one] at h30
  refine Kb (KB (KA (oS (cF rfl en_80 rfl (fun w hw=>KAV 2 dc w) ?_))));refine oS (mk (KK zr_33) (fun b9=>?_));refine oT rfl rfl sz_33 ?_;refine KC (KB (LCode.block (Kd (α:=Nat) (fun x=>2≤x∧x≤V.z) (fun x=>⟨[(0,Pz f),(3,Pz b3),(4,Pz b4),(5,Pz b5),(7,Pz b7),(8,Iz o.2),(9,Pz b9)],[.blk b9 ⟨true,natL x,33,(0,0)⟩,.blk b7 ⟨true,natL o.1,33,(0,0)⟩,.blk b5 ⟨true,natL (V.p-1),33,(0,0)⟩,.blk b4 ⟨true,vec .u64 9 (fun _=>0),33,(0,0)⟩,.blk b3 ⟨true,natL a.val,33,(0,0)⟩,.blk f ⟨false,fldL V.p bd,165,(0,0)⟩,.blk bd ⟨false,dvL V.p,269,(0,0)⟩]⟩) (fun x=>V.z-x) (2) (⟨Nat.le_refl _,hz.1⟩) (Ka ⟨rfl,rfl,rfl,rfl,rfl,rfl,rfl,trivial⟩ mS) ?_)))
  rintro z ⟨hz1,hz2⟩
  refine KB (KB (rD [] (aM 0 ?_)));refine aP 1 rfl (KF rfl) (aP 2 rfl (KE (o':=9) u165 rfl rfl rfl KBn dc) (aD 3 rfl (dL rfl (hv:=by exact LoadV.last u163 rfl KBn rfl (KL _) rfl)) ?_));refine aD 4 rfl dNa ?_;refine aD 5 rfl dNa ?_;refine aD 8 rfl dNa ?_;refine aO 6 rfl (cF rfl en_161 rfl (fun w hw=>c_half (V.p-1) om w) ?_);refine aO 7 rfl (cF rfl en_160 rfl (fun w hw=>c_Pow V.p z ((V.p-1)/2) bd om hpW w (mC hw) om om) ?_);refine aP 9 rfl (KBd kr (fun w=>KBG (z^((V.p-1)/2)%V.p) (V.p-1) (Nat.lt_trans (Nat.mod_lt _ om) hpW) om 10000 dc w) rfl rfl) ?_;refine aE ?_
  first|refine KQ rfl (fun h45=>?_) (fun h45=>?_)|refine KT rfl (fun h45=>?_) (fun h45=>?_)
  ·
   have h45:z^((V.p-1)/2)%V.p≠V.p-1:=by simpa using h45
   refine KN (LCode.block ?_)
   have hzz:z≠V.z:=fun h=>h45 (by have:=congrArg Fin.val hok.none; rw [fpow_cval,neg_one_val om] at this; rw [h]; exact this)
   refine rD [4] (aM 0 ?_);refine aD 1 rfl dNa ?_;refine aO 2 rfl (cF rfl en_159 rfl (fun w hw=>c_one w) ?_);refine aO 3 rfl (cF rfl en_82 rfl (fun w hw=>c_f_AddS V f bd z w (mC hw) hok om) ?_);refine aL 4 rfl (sA rfl rfl sz_33 mO (hl:=mL) (h:=?_));refine aE ?_
   exact ⟨z+1,⟨by omega,by omega⟩,by omega,Ka ⟨rfl,rfl,rfl,rfl,rfl,rfl,rfl,trivial⟩ mS⟩
  have h45:z^((V.p-1)/2)%V.p = V.p-1:=by simpa using h45
  refine Kb (KB ?_)
  have hz3:fpow (c V.p z) ((V.p-1)/2) = -1:=Fin.ext (by rw [fpow_cval,neg_one_val om]; exact h45)
  obtain ⟨hs1,hs2⟩:=half_of ho1 (p_odd hok) om om
  refine rD [7] (aD 0 rfl dNa ?_);refine KAR ?_;refine Ko 6 rfl (.inl zr_33) (Nb rfl) rfl rfl rfl ?_;refine LAnyP.step 1 rfl rfl rfl (Nb rfl) kr rfl (Kf (first:=[]) rfl en_159 rfl (fun w hw=>c_one w)) ?_
  rintro _ _ ⟨rfl,rfl⟩
  refine LAnyP.step 2 rfl rfl rfl (Nb rfl) kr rfl (Kf (first:=[]) rfl en_91 rfl (fun w hw=>c_nat_AddS o.1 1 w om)) ?_
  rintro _ _ ⟨rfl,rfl⟩
  refine pM 3 ?_;refine pP 4 rfl (Det.extract rfl rfl) (pP 5 rfl (Det.extract rfl rfl) (pE (fun b10=>?_)));refine Kw ?_;refine aL 7 rfl (sA rfl rfl sz_33 mO (hl:=mL) (h:=?_));refine aA 8 ?_;refine aE (KB (rD [25,26,27] (aM 0 ?_)));refine aP 1 rfl (KF rfl) (aP 2 rfl (KE (o':=9) u165 rfl rfl rfl KBn dc) (aD 3 rfl (dL rfl (hv:=by exact LoadV.last u163 rfl KBn rfl (KL _) rfl)) ?_));refine aD 4 rfl dNa ?_;refine aD 5 rfl dNa ?_;refine aM 7 ?_;refine aP 8 rfl (KF rfl) (aP 9 rfl (KE (o':=9) u165 rfl rfl rfl KBn dc) (aM 15 ?_));refine aP 16 rfl (KF rfl) (aP 17 rfl (KE (o':=9) u165 rfl rfl rfl KBn dc) (KAp [14,21,25,26,27] 10 rfl kr (Nb rfl) (dL rfl (hv:=by exact LoadV.last u163 rfl KBn rfl (KL _) rfl)) ?_));refine KAp [14,21,25,26,27] 11 rfl kr (Nb rfl) dNa ?_
  refine KAp [13,14,21,25,26,27] 12 rfl kr (Nb rfl) dNa ?_;refine KAp [21,25,26,27] 18 rfl kr (Nb rfl) (dL rfl (hv:=by exact LoadV.last u163 rfl KBn rfl (KL _) rfl)) ?_;refine KAp [21,25,26,27] 19 rfl kr (Nb rfl) dNa ?_;refine KAp [21,25,26,27] 20 rfl kr (Nb rfl) dNa ?_;refine KAR ?_;refine Ko 22 rfl (.inl zr_33) (Nb rfl) rfl rfl rfl ?_;refine Ko 23 rfl (.inl zr_33) (Nb rfl) rfl rfl rfl ?_;refine Ko 24 rfl (.inl zr_33) (Nb rfl) rfl rfl rfl ?_;refine LAnyP.step 6 rfl rfl rfl (Nb rfl) kr rfl (Kf (first:=[]) rfl en_160 rfl (fun w hw=>c_F_PowN V hok bd z o.1 w (mC hw) om om)) ?_
  rintro _ _ ⟨rfl,rfl⟩
  refine LAnyP.step 13 rfl rfl rfl (Nb rfl) kr rfl (Kf (first:=[]) rfl en_161 rfl (fun w hw=>c_half (o.1+1) om w)) ?_
  rintro _ _ ⟨rfl,rfl⟩
  refine LAnyP.step 14 rfl rfl rfl (Nb rfl) kr rfl (Kf (first:=[]) rfl en_160 rfl (fun w hw=>c_F_Pow V hok bd a ((o.1+1)/2) w (mC hw) om)) ?_
  rintro _ _ ⟨rfl,rfl⟩
  refine LAnyP.step 21 rfl rfl rfl (Nb rfl) kr rfl (Kf (first:=[]) rfl en_160 rfl (fun w hw=>c_F_Pow V hok bd a o.1 w (mC hw) om)) ?_
  rintro _ _ ⟨rfl,rfl⟩
  refine pE (fun b14=>?_);refine pE (fun b13=>?_);refine pE (fun b12=>?_);refine Kw ?_;refine aL 25 rfl (sA rfl rfl sz_33 mO (hl:=mL) (h:=?_));refine aL 26 rfl (sA rfl rfl sz_33 mO (hl:=mL) (h:=?_));refine aL 27 rfl (sA rfl rfl sz_33 mO (hl:=mL) (h:=?_));refine aE (KB (LCode.block ?_));refine Kd (α:=Fin V.p×Fin V.p×Fin V.p×Nat) (fun x=>TS a x.1 x.2.1 x.2.2.1 x.2.2.2∧x.2.2.2<576) (fun x=>⟨[(0,Pz f),(4,Pz b4),(8,Iz x.2.2.2),(12,Pz b12),(13,Pz b13),(14,Pz b14)],[.blk b12 ⟨true,natL x.2.1.val,33,(0,0)⟩,.blk b13 ⟨true,natL x.1.val,33,(0,0)⟩,.blk b14 ⟨true,natL x.2.2.1.val,33,(0,0)⟩,.blk b4 ⟨true,vec .u64 9 (fun _=>0),33,(0,0)⟩,.blk f ⟨false,fldL V.p bd,165,(0,0)⟩,.blk bd ⟨false,dvL V.p,269,(0,0)⟩]⟩) (fun x=>x.2.2.2) ((fpow a ((o.1+1)/2),fpow (c V.p z) o.1,fpow a o.1,o.2)) (⟨TS.init hs1 om (by rw [hs2]; exact hz3) (by rw [hs2]; exact ha),ho4⟩) (Ka ⟨rfl,rfl,rfl,rfl,rfl,rfl,trivial⟩ mS) ?_
  rintro y ⟨hy1,hy2⟩
  refine KB (KB (rD [] (aD 0 rfl dNa ?_)));refine aO 1 rfl (cF rfl en_159 rfl (fun w hw=>c_one w) ?_);refine aP 2 rfl (KBd kr (fun w=>KBG y.2.2.1.val 1 (Nat.lt_trans y.2.2.1.isLt hpW) one_w9 10000 dc w) rfl rfl) ?_;refine aE ?_
  first|refine KQ rfl (fun h80=>?_) (fun h80=>?_)|refine KT rfl (fun h80=>?_) (fun h80=>?_)
  ·
   have h80:y.2.2.1≠1:=fun h=>by simp [(ne_iff1 hok).2 h] at h80
   refine KN (LCode.block (KB (KA (oP (KO (v:=Iz 0) rfl) (KC (KB (KB (KA (oD dNa ?_)))))))));refine oS (mk (KK zr_33) (fun b16=>?_));refine oT rfl rfl sz_33 ?_;refine KC (LCode.block (Kd (α:=Nat×Nat) (fun x=>∀ j,j<x.1→fpow y.2.2.1 (2^j)≠1) (fun x=>⟨[(0,Pz f),(4,Pz b4),(8,Iz y.2.2.2),(12,Pz b12),(13,Pz b13),(14,Pz b14),(15,Iz x.1),(16,Pz x.2)],[.blk x.2 ⟨true,natL (fpow y.2.2.1 (2^x.1)).val,33,(0,0)⟩,.blk b12 ⟨true,natL y.2.1.val,33,(0,0)⟩,.blk b13 ⟨true,natL y.1.val,33,(0,0)⟩,.blk b14 ⟨true,natL y.2.2.1.val,33,(0,0)⟩,.blk b4 ⟨true,vec .u64 9 (fun _=>0),33,(0,0)⟩,.blk f ⟨false,fldL V.p bd,165,(0,0)⟩,.blk bd ⟨false,dvL V.p,269,(0,0)⟩]⟩) (fun x=>y.2.2.2-x.1) ((0,b16)) (fun j hj=>absurd hj (Nat.not_lt_zero _)) (KAD (Sub.cells (b:=b16) (cs':=natL (fpow y.2.2.1 (2^0)).val) mT (by rw [Nat.pow_zero,fpow_one])) (Ka ⟨rfl,rfl,rfl,rfl,rfl,rfl,rfl,rfl,trivial⟩ mS)) ?_))
   rintro k hk
   refine KB (KB ?_)
   have hkm0:=TS.less hok.fld.dom hy1 hk
   refine rD [] (aD 0 rfl dNa ?_);refine aO 1 rfl (cF rfl en_159 rfl (fun w hw=>c_one w) ?_);refine aP 2 rfl (KBd kr (fun w=>KBG (fpow y.2.2.1 (2^k.1)).val 1 (Nat.lt_trans (fpow y.2.2.1 (2^k.1)).isLt hpW) one_w9 10000 dc w) rfl rfl) ?_;refine aE ?_
   first|refine KQ rfl (fun h84=>?_) (fun h84=>?_)|refine KT rfl (fun h84=>?_) (fun h84=>?_)
   ·
    have h84:fpow y.2.2.1 (2^k.1)≠1:=fun h=>by simp [(ne_iff1 hok).2 h] at h84
    refine KN (KB (LCode.block (KA (oM ?_))));refine oP (KH rfl rfl (Kj (b:=1) om)) (oA (KC (KB (KB (KA ?_)))));refine oD dNa ?_;refine KC (KA (oS (mk (KK zr_33) (fun b16=>?_))));refine oT rfl rfl sz_33 ?_;refine KC (KA (oM ?_));refine oD dNa ?_;refine oD dNa ?_;refine oS (cF rfl en_97 rfl (fun w hw=>KAd V hok f bd _ _ w (mC hw) (mC hw)) ?_);refine oT rfl rfl sz_33 ?_;refine KC ?_
    have hk':∀ j,j<k.1+1→fpow y.2.2.1 (2^j)≠1:=fun j hj=>by
      rcases Nat.lt_or_eq_of_le (Nat.le_of_lt_succ hj) with h|rfl
      · exact hk j h
      · exact h84
    have hkm:=TS.less hok.fld.dom hy1 hk'
    exact ⟨(k.1+1,b16),hk',by dsimp only; omega,KAD (Sub.cells (b:=b16) (cs':=natL (fpow y.2.2.1 (2^(k.1+1))).val) mT (by rw [fpow_succ2])) (Ka ⟨rfl,rfl,rfl,rfl,rfl,rfl,rfl,rfl,trivial⟩ mS)⟩
   have h84:fpow y.2.2.1 (2^k.1) = 1:=(ne_iff1 hok).1 (by simpa using h84)
   refine Kb (KB ?_)
   obtain ⟨hn1,hn2,-⟩:=TS.next hok.fld.dom hy1 h80 hk h84
   refine KA (oD dNa ?_);refine oS (mk (KK zr_33) (fun b17=>?_));refine oT rfl rfl sz_33 ?_;refine KC (KB (KB (KA (oM (oM ?_)))));refine oP (KH (v:=Iz ((y.2.2.2-k.1))) rfl rfl ((KBr om om).trans (by congr 2; omega))) ?_;refine oP (KH (v:=Iz ((y.2.2.2-k.1-1))) rfl rfl ((KBr om om).trans (by congr 2; omega))) ?_;refine oP (Kg (v:=Iz 0) rfl) (KC (LCode.block (Kd (α:=Nat) (fun x=>x≤y.2.2.2-k.1-1) (fun x=>⟨[(0,Pz f),(4,Pz b4),(8,Iz y.2.2.2),(12,Pz b12),(13,Pz b13),(14,Pz b14),(15,Iz k.1),(17,Pz b17),(96,Iz ((y.2.2.2-k.1-1))),(97,Iz x)],[.blk b17 ⟨true,natL (fpow y.2.1 (2^x)).val,33,(0,0)⟩,.blk b12 ⟨true,natL y.2.1.val,33,(0,0)⟩,.blk b13 ⟨true,natL y.1.val,33,(0,0)⟩,.blk b14 ⟨true,natL y.2.2.1.val,33,(0,0)⟩,.blk b4 ⟨true,vec .u64 9 (fun _=>0),33,(0,0)⟩,.blk f ⟨false,fldL V.p bd,165,(0,0)⟩,.blk bd ⟨false,dvL V.p,269,(0,0)⟩]⟩) (fun x=>y.2.2.2-k.1-1-x) (0) (Nat.zero_le _) (KAD (Sub.cells (b:=b17) (cs':=natL (fpow y.2.1 (2^0)).val) mT (by rw [Nat.pow_zero,fpow_one])) (Ka ⟨rfl,rfl,rfl,rfl,rfl,rfl,rfl,rfl,rfl,rfl,trivial⟩ mS)) ?_)))
   rintro i hi
   refine KB (KA (oP (KH rfl rfl (Ky)) (KC (KB ?_))))
   first|refine KQ rfl (fun h98=>?_) (fun h98=>?_)|refine KT rfl (fun h98=>?_) (fun h98=>?_)
   ·
    refine KN (KB (LCode.block (KA (oM ?_))));refine oD dNa ?_;refine oD dNa ?_;refine oS (cF rfl en_97 rfl (fun w hw=>KAd V hok f bd _ _ w (mC hw) (mC hw)) ?_);refine oT rfl rfl sz_33 ?_;refine KC (KA (oP (KH rfl rfl (Kj (b:=1) om)) (oM (KC ?_))))
    exact ⟨i+1,by omega,by omega,KAD (Sub.cells (b:=b17) (cs':=natL (fpow y.2.1 (2^(i+1))).val) mT (by rw [fpow_succ2])) (Ka ⟨rfl,rfl,rfl,rfl,rfl,rfl,rfl,rfl,rfl,rfl,trivial⟩ mS)⟩
   refine Kb (KB ?_)
   obtain rfl:i = y.2.2.2-k.1-1:=by omega
   refine rD [8,9] (aM 0 ?_);refine aD 1 rfl dNa ?_;refine aD 2 rfl dNa ?_;refine aM 4 ?_;refine KAp [7,8,9] 5 rfl kr (Nb rfl) dNa ?_;refine KAp [7,8,9] 6 rfl kr (Nb rfl) dNa ?_;refine aO 3 rfl (cF rfl en_97 rfl (fun w hw=>KAd V hok f bd _ _ w (mC hw) (mC hw)) ?_);refine aO 7 rfl (cF rfl en_97 rfl (fun w hw=>KAd V hok f bd _ _ w (mC hw) (mC hw)) ?_);refine aL 8 rfl (sA rfl rfl sz_33 mO (hl:=mL) (h:=?_));refine aL 9 rfl (sA rfl rfl sz_33 mO (hl:=mL) (h:=?_));refine aE (KA (oM ?_));refine oD dNa ?_;refine oD dNa ?_;refine oS (cF rfl en_97 rfl (fun w hw=>KAd V hok f bd _ _ w (mC hw) (mC hw)) ?_)
   refine oM ?_;refine oT rfl rfl sz_33 ?_;refine oA (KC ?_)
   obtain ⟨hn1,hn2,hn3⟩:=TS.next hok.fld.dom hy1 h80 hk h84
   exact ⟨(y.1*(fpow y.2.1 (2^(y.2.2.2-k.1-1))),(fpow y.2.1 (2^(y.2.2.2-k.1-1)))*(fpow y.2.1 (2^(y.2.2.2-k.1-1))),y.2.2.1*((fpow y.2.1 (2^(y.2.2.2-k.1-1)))*(fpow y.2.1 (2^(y.2.2.2-k.1-1)))),k.1),⟨hn3,by dsimp only; omega⟩,by dsimp only; omega,Ka ⟨rfl,rfl,rfl,rfl,rfl,rfl,trivial⟩ mS⟩
  have h80:y.2.2.1 = 1:=(ne_iff1 hok).1 (by simpa using h80)
  refine Kb (KB (KA (oD dNa ?_)));refine oT rfl rfl sz_33 ?_;refine KC (KM (⟨[_],.cons ⟨_,_,_,rfl,mM,by exact KD u33 rfl sz_33⟩ .nil,fun a w' hr=>⟨_,⟨y.1,hy1.done h80,rfl⟩,rfl,hr.fr.below⟩⟩))
def sqV (p a:Nat):Value:=match sqN p a with
  | some r=>.tuple #[natV r,.bool true]
  | none=>.tuple #[natV 0,.bool false]
theorem sqV_some {p a r:Nat} (h:sqN p a = some r):sqV p a = .tuple #[natV r,.bool true]:=by unfold sqV; rw [h]
theorem sqV_none {p a:Nat} (h:sqN p a = none):sqV p a = .tuple #[natV 0,.bool false]:=by unfold sqV; rw [h]
theorem c_F_Sqrt (V:Cv) (f bd:Nat) (hok:V.Ok) (a:Fin V.p) (w:World) (hf:(Item.blk f ⟨false,fldL V.p bd,165,(0,0)⟩).holds w) (hbd:(Item.blk bd ⟨false,dvL V.p,269,(0,0)⟩).holds w):CF Tryz.prog 119 [Pz f,natV a.val] w (sqV V.p a.val):=by
  have hbb:=hok.bounds
  have hpW:V.p<W9:=Ku hbb.2.1
  refine KV (N:=44) (rs:=[.cell 4 33,.tmp 5]) [.blk f ⟨false,fldL V.p bd,165,(0,0)⟩,.blk bd ⟨false,dvL V.p,269,(0,0)⟩] Tryz.func119 rfl Tryz.ntmps119 Tryz.results119 (Nb rfl) ⟨hf,hbd,trivial⟩ rfl ?_
  refine KB (KA (oS (mB (fun b3=>?_))));refine oS (mk (KK zr_33) (fun b4=>?_));refine oA (KC (KB (KB (KA ?_))));refine oD dNa ?_;refine oP (KI (KW pl_33 zr_33 rfl rfl) (show _ = natV 0 by unfold natV natL; rw [← vec_zeros 9])) ?_;refine oP (KBv kr (fun w=>KBG a.val 0 (Nat.lt_trans a.isLt hpW) KBk 10000 dc w) rfl rfl) ?_;refine KC ?_
  first|refine KQ rfl (fun h11=>?_) (fun h11=>?_)|refine KT rfl (fun h11=>?_) (fun h11=>?_)
  ·
   have h11:a.val = 0:=by simpa using h11
   refine KB (KA (oD dNa ?_));refine oT rfl rfl sz_33 ?_;refine oA (KC (KM ?_));refine eN (.cons ⟨_,_,_,rfl,mM,by exact KD u33 rfl sz_33⟩ (.cons rfl .nil)) ?_
   rw [h11,sqV_some (sqN_zero om)]
   rfl
  have h11:a≠0:=fun h=>by rw [h] at h11; simp at h11
  refine KN (KB (rD [10] (aM 0 ?_)));refine aP 1 rfl (KF rfl) (aP 2 rfl (KE (o':=0) u165 rfl rfl rfl sz_33 dc) (aD 3 rfl (dL rfl (hv:=by exact Kh u33 rfl sz_33 rfl (KL _))) ?_));refine KAR ?_;refine Ko 9 rfl (.inl zr_33) (Nb rfl) rfl rfl rfl ?_;refine LAnyP.step 4 rfl rfl rfl (Nb rfl) kr rfl (Kf (first:=[]) rfl en_159 rfl (fun w hw=>c_one w)) ?_
  rintro _ _ ⟨rfl,rfl⟩
  refine LAnyP.step 5 rfl rfl rfl (Nb rfl) kr rfl (Kf (first:=[]) rfl en_79 rfl (fun w hw=>KCx V.p 1 w hpW om)) ?_
  rintro _ _ ⟨rfl,rfl⟩
  refine pM 6 ?_;refine pP 7 rfl (Det.extract rfl rfl) (pP 8 rfl (Det.extract rfl rfl) (pE (fun b6=>?_)));refine Kw ?_;refine aL 10 rfl (sA rfl rfl sz_33 mO (hl:=mL) (h:=?_));refine aA 11 ?_;refine aE (KB (KB (rD [] (aM 0 ?_))));refine aP 1 rfl (KF rfl) (aP 2 rfl (KE (o':=9) u165 rfl rfl rfl KBn dc) (aD 3 rfl (dL rfl (hv:=by exact LoadV.last u163 rfl KBn rfl (KL _) rfl)) ?_));refine aD 4 rfl dNa ?_;refine aD 5 rfl dNa ?_;refine aO 6 rfl (cF rfl en_161 rfl (fun w hw=>c_half (V.p-1) om w) ?_);refine aO 7 rfl (cF rfl en_160 rfl (fun w hw=>c_F_Pow V hok bd a ((V.p-1)/2) w (mC hw) om) ?_);refine aO 8 rfl (cF rfl en_159 rfl (fun w hw=>c_one w) ?_);refine aP 9 rfl (KBd kr (fun w=>KBG (fpow a ((V.p-1)/2)).val 1 (Nat.lt_trans (fpow a ((V.p-1)/2)).isLt hpW) one_w9 10000 dc w) rfl rfl) ?_
  refine aE ?_
  first|refine KQ rfl (fun h31=>?_) (fun h31=>?_)|refine KT rfl (fun h31=>?_) (fun h31=>?_)
  ·
   have h31:fpow a ((V.p-1)/2)≠1:=fun h=>by simp [(ne_iff1 hok).2 h] at h31
   refine KB (KA ?_);refine oP (KI (KW pl_33 zr_33 rfl rfl) (show _ = natV 0 by unfold natV natL; rw [← vec_zeros 9])) ?_;refine oT rfl rfl sz_33 ?_;refine oA (KC (KM ?_));refine eN (.cons ⟨_,_,_,rfl,mM,by exact KD u33 rfl sz_33⟩ (.cons rfl .nil)) ?_
   rw [sqV_none (sqN_no hok h11 h31)]
   rfl
  have h31:fpow a ((V.p-1)/2) = 1:=(ne_iff1 hok).1 (by simpa using h31)
  refine KN (KB (KA (oM ?_)));refine oD dNa ?_;refine oS (KDG (first:=[]) rfl en_162 rfl (Nb rfl) (fun w hw=>c_root V f bd hok a w (mC hw) (mC hw) h31) ?_)
  rintro _ ⟨x,hx,rfl⟩
  refine oS (mk (KK zr_33) (fun b8=>?_));refine oT rfl rfl sz_33 ?_;refine KC (KB (KB (KA (oD dNa ?_))));refine oS (cF rfl en_57 rfl (fun w hw=>KDE x.val 0 (Nat.lt_trans x.isLt hpW) dc w) ?_);refine oP (KH rfl rfl (Kt (b:=1))) (KC ?_)
  first|refine KQ rfl (fun h38=>?_) (fun h38=>?_)|refine KT rfl (fun h38=>?_) (fun h38=>?_)
  ·
   have h38:x.val/2^0%2 = 1:=h38
   rw [Nat.pow_zero,Nat.div_one] at h38
   refine KA (oM ?_);refine oP (KI (KW pl_33 zr_33 rfl rfl) (show _ = natV 0 by unfold natV natL; rw [← vec_zeros 9])) ?_;refine oD dNa ?_;refine oS (cF rfl KDC rfl (fun w hw=>KCd V hok f bd 0 x w (mC hw)) ?_);refine oT rfl rfl sz_33 ?_;refine KC (KB (KA (oD dNa ?_)));refine oT rfl rfl sz_33 ?_;refine oA (KC (KM ?_));refine eN (.cons ⟨_,_,_,rfl,mM,by exact KD u33 rfl sz_33⟩ (.cons rfl .nil)) ?_
   rw [← hx,sqV_some (sqN_eq hok.fld (p_odd hok) x),evenR,if_pos h38]
   rfl
  have h38:¬ x.val/2^0%2 = 1:=h38
  rw [Nat.pow_zero,Nat.div_one] at h38
  refine KN (KB (KA (oD dNa ?_)));refine oT rfl rfl sz_33 ?_;refine oA (KC (KM ?_));refine eN (.cons ⟨_,_,_,rfl,mM,by exact KD u33 rfl sz_33⟩ (.cons rfl .nil)) ?_
  rw [← hx,sqV_some (sqN_eq hok.fld (p_odd hok) x),evenR,if_neg h38]
  rfl
open Grp
theorem Brings.own {w w':World} {H:List Item} {b:Nat} {cs:List Value} {e:TypeId} (hb:Below w.heap.size w w') (h:(Item.blk b ⟨true,cs,e,(0,0)⟩).holds w') (hn:w.heap.size≤b):Brings w H [.blk b ⟨true,cs,e,(0,0)⟩] w' :=
  ⟨hb,(by intro x hx; simp at hx; subst hx; exact h),(by intro x hx k hk; simp at hx; subst hx; simp [Item.fp] at hk; subst hk; exact .inl hn),(by intro x hx _ k hk; simp at hx; subst hx; simp [Item.fp] at hk; subst hk; exact hn),List.pairwise_singleton _ _⟩
open Grp
theorem xG {V:Cv} (hok:V.Ok):xv V.G = V.x:=val_c hok.bounds.2.2.2.2.1
theorem yG {V:Cv} (hok:V.Ok):yv V.G = V.y:=val_c hok.bounds.2.2.2.2.2.1
open Grp
theorem Det.indexArrN {P : Program} {C : Ctx} {st : St} {d : Option Tmp} {ty : TypeId} {pos : String} {aft : Array Edge} {g : Option (Nat × Bool)} {t : TypeId} {x y : Operand} {n s : Nat} {e : TypeId} {k : IntKind} {i : Nat} {b o : Nat} (ht : P.underlying t = some (.array n e)) (he : szOf P e = some s) (hx : evT st.T x = some (.pointer (some ⟨b, o, none⟩)))
    (hy:evT st.T y = some (.int k (i:Int))) (h1:i<n):Slots P C ⟨d,.indexAddr t x y,ty,pos,aft,g⟩ st (.pointer (some ⟨b,o+i*s,none⟩)):=by
  unfold Slots
  intro a w hr
  have hb:(0≤(i:Int)∧(i:Int)<(n:Int)):=⟨by omega,by omega⟩
  simp [execOp,hr _ _ hx,hr _ _ hy,Instr.indexAt,asIntOf,run_underlying ht,Instr.sureAddr,hb,KAv he,Addr.add,h1]
theorem g_val {V:Cv} (hok:V.Ok):Value.agg (ptL V.x V.y false).toArray = ptP V.G:=by
  unfold ptP ptV
  rw [xG hok,yG hok]
  rfl
theorem c_cOnB (V:Cv) (b f bd:Nat) (hok:V.Ok) (X Y:Nat) (i r:Bool) (w:World) (hb:(Item.blk b ⟨false,opL V f,100,(0,0)⟩).holds w) (hf:(Item.blk f ⟨false,fldL V.p bd,165,(0,0)⟩).holds w) (hbd:(Item.blk bd ⟨false,dvL V.p,269,(0,0)⟩).holds w) (hX:X<W9) (hY:Y<W9) (hr:onB V.p V.a V.b X Y i = r):CF Tryz.prog 55 [Pz b,ptV X Y i] w (.bool r):=by
  have:=c_cOn V b f bd hok X Y i w hb hf hbd hX hY
  rwa [hr] at this
theorem c_cOnP (V:Cv) (b f bd:Nat) (hok:V.Ok) (P:Pt V.p) (w:World) (hb:(Item.blk b ⟨false,opL V f,100,(0,0)⟩).holds w) (hf:(Item.blk f ⟨false,fldL V.p bd,165,(0,0)⟩).holds w) (hbd:(Item.blk bd ⟨false,dvL V.p,269,(0,0)⟩).holds w) (hP:On V.A V.B P):CF Tryz.prog 55 [Pz b,ptP P] w (.bool true) :=
  c_cOnB V b f bd hok (xv P) (yv P) (iv P) true w hb hf hbd (pt_w9 hok P).1 (pt_w9 hok P).2 (onB_on hP)
theorem KAC {p:Nat} (T:Fin p×Fin p×Fin p):(pjFL T).length = 27:=KBw _ _ _
theorem KBI {p:Nat} (T:Fin p×Fin p×Fin p):KBP (pjFL T):=pjL_one _ _ _
def arr4 {p:Nat} (a b c d:Fin p×Fin p×Fin p):List Value:=pjFL a++(pjFL b++(pjFL c++pjFL d))
theorem arr4_length {p:Nat} (a b c d:Fin p×Fin p×Fin p):(arr4 a b c d).length = 108:=by simp [arr4,KAC]
theorem arr4_one {p:Nat} (a b c d:Fin p×Fin p×Fin p):KBP (arr4 a b c d):=KAX (KBI _) (KAX (KBI _) (KAX (KBI _) (KBI _)))
theorem fill_arr4 {p:Nat} (a b c d:Fin p×Fin p×Fin p):fillL ((List.range 4).map fun i=>(i*27,27)) (vec .u64 9 (fun _=>0)++(vec .u64 9 (fun _=>0)++(vec .u64 9 (fun _=>0)++(vec .u64 9 (fun _=>0)++(vec .u64 9 (fun _=>0)++(vec .u64 9 (fun _=>0)++(vec .u64 9 (fun _=>0)++(vec .u64 9 (fun _=>0)++(vec .u64 9 (fun _=>0)++(vec .u64 9 (fun _=>0)++(vec .u64 9 (fun _=>0)++(vec .u64 9 (fun _=>0))))))))))))) [(0,pjF a),(1,pjF b),(2,pjF c),(3,pjF d)] = some (arr4 a b c d):=by
  refine KAK (A:=[]) (B:=vec .u64 9 (fun _=>0)++(vec .u64 9 (fun _=>0)++(vec .u64 9 (fun _=>0)))) (D:=vec .u64 9 (fun _=>0)++(vec .u64 9 (fun _=>0)++(vec .u64 9 (fun _=>0)++(vec .u64 9 (fun _=>0)++(vec .u64 9 (fun _=>0)++(vec .u64 9 (fun _=>0)++(vec .u64 9 (fun _=>0)++(vec .u64 9 (fun _=>0)++(vec .u64 9 (fun _=>0)))))))))) (cs:=pjFL a) rfl rfl (KAC _) (by simp only [List.append_assoc,List.nil_append,List.append_nil]) rfl (by simp [KU]) ?_;refine KAK (A:=pjFL a) (B:=vec .u64 9 (fun _=>0)++(vec .u64 9 (fun _=>0)++(vec .u64 9 (fun _=>0)))) (D:=vec .u64 9 (fun _=>0)++(vec .u64 9 (fun _=>0)++(vec .u64 9 (fun _=>0)++(vec .u64 9 (fun _=>0)++(vec .u64 9 (fun _=>0)++(vec .u64 9 (fun _=>0))))))) (cs:=pjFL b) rfl rfl (KAC _) (by simp only [List.append_assoc,List.nil_append,List.append_nil]) (KAC _) (by simp [KU]) ?_;refine KAK (A:=pjFL a++pjFL b) (B:=vec .u64 9 (fun _=>0)++(vec .u64 9 (fun _=>0)++(vec .u64 9 (fun _=>0)))) (D:=vec .u64 9 (fun _=>0)++(vec .u64 9 (fun _=>0)++(vec .u64 9 (fun _=>0)))) (cs:=pjFL c) rfl rfl (KAC _) (by simp only [List.append_assoc,List.nil_append,List.append_nil]) (by simp [KAC]) (by simp [KU]) ?_
  refine (KAK (A:=pjFL a++(pjFL b++pjFL c)) (B:=vec .u64 9 (fun _=>0)++(vec .u64 9 (fun _=>0)++(vec .u64 9 (fun _=>0)))) (D:=[]) (cs:=pjFL d) rfl rfl (KAC _) (by simp only [List.append_assoc,List.nil_append,List.append_nil]) (by simp [KAC]) (by simp [KU]) rfl).trans ?_
  simp [arr4]
theorem arr4_1 {p:Nat} (a b c d:Fin p×Fin p×Fin p) (wr:Bool) (e:TypeId) (fz:Nat×Nat):LoadV Tryz.prog 135 ⟨wr,arr4 a b c d,e,fz⟩ 27 (pjF b):=KAh (pre:=pjFL a) (cs:=pjFL b) (post:=pjFL c++pjFL d) u135 rfl KAM rfl (KAC _) (KAC _)
theorem arr4_2 {p:Nat} (a b c d:Fin p×Fin p×Fin p) (wr:Bool) (e:TypeId) (fz:Nat×Nat):LoadV Tryz.prog 135 ⟨wr,arr4 a b c d,e,fz⟩ 54 (pjF c):=KAh (pre:=pjFL a++pjFL b) (cs:=pjFL c) (post:=pjFL d) u135 rfl KAM (by simp [arr4]) (by simp [KAC]) (KAC _)
theorem arr4_3 {p:Nat} (a b c d:Fin p×Fin p×Fin p) (wr:Bool) (e:TypeId) (fz:Nat×Nat):LoadV Tryz.prog 135 ⟨wr,arr4 a b c d,e,fz⟩ 81 (pjF d):=LoadV.last (pre:=pjFL a++(pjFL b++pjFL c)) (cs:=pjFL d) u135 rfl KAM (by simp [arr4]) (by simp [KAC]) (KAC _)
noncomputable def dualP (V:Cv) (U W:Nat) (Q:Pt V.p):Pt V.p:=padd V.A (pmul V.A V.G U) (pmul V.A Q W)
theorem dual_step {V:Cv} (hok:V.Ok) {Q:Pt V.p} (hQ:On V.A V.B Q) {U W y bu bv:Nat} {T Tk:Fin V.p×Fin V.p×Fin V.p} (h1:U/2^y%2 = bu) (h2:W/2^y%2 = bv) (hT:RepT V T (dualP V (U/2^(y+1)) (W/2^(y+1)) Q)) (hk:RepT V Tk (dualP V bu bv Q)):RepT V (sumT V (sumT V T T) Tk) (dualP V (U/2^y) (W/2^y) Q):=by
  have:=RepT.sum hok (RepT.sum hok hT hT) hk
  subst h1 h2
  unfold dualP at *
  rwa [hok.dual_bit hok.on hQ] at this
theorem dual_zero {V:Cv} (hok:V.Ok) {Q:Pt V.p} (hQ:On V.A V.B Q) {U W y:Nat} {T:Fin V.p×Fin V.p×Fin V.p} (h1:U/2^y%2 = 0) (h2:W/2^y%2 = 0) (hT:RepT V T (dualP V (U/2^(y+1)) (W/2^(y+1)) Q)):RepT V (sumT V T T) (dualP V (U/2^y) (W/2^y) Q):=by
  have h:=RepT.sum hok hT hT
  have e:=hok.dual_bit hok.on hQ U W y
  rw [h1,h2,KDY,KDY,hok.add_inf (show On V.A V.B (.inf:Pt V.p) from trivial)] at e
  unfold dualP at *
  rw [hok.add_inf (hok.sum (hok.sum (hok.mul hok.on _) (hok.mul hQ _)) (hok.sum (hok.mul hok.on _) (hok.mul hQ _)))] at e
  rwa [e] at h
theorem dual_10 {V:Cv} (hok:V.Ok) {Q:Pt V.p} (hQ:On V.A V.B Q):RepT V (tripF V.G) (dualP V 1 0 Q):=by
  unfold dualP
  rw [pmul_one hok.fld hok.on,KDY,hok.add_inf hok.on]
  exact KBX hok hok.on
theorem dual_01 {V:Cv} (hok:V.Ok) {Q:Pt V.p} (hQ:On V.A V.B Q):RepT V (tripF Q) (dualP V 0 1 Q):=by
  unfold dualP
  rw [pmul_one hok.fld hQ,KDY,hok.inf_add hQ]
  exact KBX hok hQ
theorem dual_11 {V:Cv} (hok:V.Ok) {Q:Pt V.p} (hQ:On V.A V.B Q):RepT V (sumT V (tripF V.G) (tripF Q)) (dualP V 1 1 Q):=by
  unfold dualP
  rw [pmul_one hok.fld hQ,pmul_one hok.fld hok.on]
  exact RepT.sum hok (KBX hok hok.on) (KBX hok hQ)
theorem dual_top {V:Cv} (hok:V.Ok) {Q:Pt V.p} {U W:Nat} (hU:U<V.n) (hW:W<V.n):dualP V (U/2^blen V.n) (W/2^blen V.n) Q = .inf:=by
  have hn:=KCS V.n
  unfold dualP
  rw [Nat.div_eq_of_lt (Nat.lt_trans hU hn),Nat.div_eq_of_lt (Nat.lt_trans hW hn),KDY,KDY,hok.add_inf (show On V.A V.B (.inf:Pt V.p) from trivial)]
theorem c_dualTimes (V:Cv) (b f bd:Nat) (hok:V.Ok) (U W:Nat) (Q:Pt V.p) (hQ:On V.A V.B Q) (hU:U<V.n) (hW:W<V.n) (w:World) (hb:(Item.blk b ⟨false,opL V f,100,(0,0)⟩).holds w) (hf:(Item.blk f ⟨false,fldL V.p bd,165,(0,0)⟩).holds w) (hbd:(Item.blk bd ⟨false,dvL V.p,269,(0,0)⟩).holds w):CF Tryz.prog 56 [Pz b,natV U,natV W,ptP Q] w (ptP (dualP V U W Q)):=by
  have hbb:=hok.bounds
  have hnW:V.n<W9:=Ku hbb.2.2.2.2.2.2.1
  have hbl:=KAP hnW
  have hU9:=Nat.lt_trans hU hnW
  have hW9:=Nat.lt_trans hW hnW
  refine KV (N:=65) (rs:=[.cell 8 47]) [.blk b ⟨false,opL V f,100,(0,0)⟩,.blk f ⟨false,fldL V.p bd,165,(0,0)⟩,.blk bd ⟨false,dvL V.p,269,(0,0)⟩] Tryz.func56 rfl Tryz.ntmps56 Tryz.results56 (Nb rfl) ⟨hb,hf,hbd,trivial⟩ rfl ?_
  refine KB (KA (oS (mB (fun b5=>?_))));refine oS (mB (fun b6=>?_));refine oS (mB (fun b7=>?_));refine oS (mk (KK zr_47) (fun b8=>?_));refine KC (KB (rD [10,11] (aM 0 ?_)));refine aP 1 rfl (KF rfl) (aP 2 rfl (KE (o':=0) u100 rfl rfl rfl sz_53 dc) (aP 3 rfl (KE (o':=37) u53 rfl rfl rfl sz_47 dc) (aD 4 rfl (KAw (dL rfl (hv:=by exact cvC_ld_g _ _ _ _ _ _ _ _ _ _ _ _ _ _ _ _)) (g_val hok)) ?_)));refine KAp [7,10,11] 6 rfl kr (Nb rfl) dNb ?_;refine KAR ?_;refine Ko 8 rfl (.inl KDK) (Nb rfl) rfl rfl rfl ?_;refine Ko 9 rfl (.inl KDK) (Nb rfl) rfl rfl rfl ?_;refine LAnyP.step 5 rfl rfl rfl (Nb rfl) kr rfl (Kf (first:=[]) rfl en_67 rfl (fun w hw=>c_Triple V hok V.G w)) ?_
  rintro _ _ ⟨rfl,rfl⟩
  refine LAnyP.step 7 rfl rfl rfl (Nb rfl) kr rfl (Kf (first:=[]) rfl en_67 rfl (fun w hw=>c_Triple V hok Q w)) ?_
  rintro _ _ ⟨rfl,rfl⟩
  refine pE (fun b10=>?_);refine pE (fun b9=>?_);refine Kw ?_;refine aL 10 rfl (sA rfl rfl KAM (by exact KBI _) (hl:=by exact KAC _) (h:=?_));refine aL 11 rfl (sA rfl rfl KAM (by exact KBI _) (hl:=by exact KAC _) (h:=?_));refine aE (KB (rD [9] (aD 1 rfl (dL rfl (hv:=by exact KD u135 rfl KAM)) ?_)));refine aD 2 rfl (dL rfl (hv:=by exact KD u135 rfl KAM)) ?_;refine aM 3 ?_;refine aD 4 rfl (dL rfl (hv:=by exact KD u135 rfl KAM)) ?_;refine aD 5 rfl (dL rfl (hv:=by exact KD u135 rfl KAM)) ?_;refine KAR ?_;refine Ko 8 rfl (.inl zr_183) (Nb rfl) rfl rfl rfl ?_;refine LAnyP.step 0 rfl rfl rfl (Nb rfl) kr rfl (Kf (first:=[]) rfl en_99 rfl (fun w hw=>c_NoneF hok w)) ?_
  rintro _ _ ⟨rfl,rfl⟩
  refine LAnyP.step 6 rfl rfl rfl (Nb rfl) kr rfl (Kf (first:=[]) rfl en_100 rfl (fun w hw=>c_SumT V b f bd hok (tripF V.G) (tripF Q) w (mC hw) (mC hw) (mC hw))) ?_
  rintro _ _ ⟨rfl,rfl⟩
  refine pP 7 rfl (KI (KW pl_183 zr_183 rfl (fill_arr4 _ _ _ _)) rfl) (pE (fun b11=>?_));refine Kw ?_;refine aL 9 rfl (sA rfl rfl sz_183 (by exact arr4_one _ _ _ _) (hl:=by exact arr4_length _ _ _ _) (h:=?_));refine aE (KB (KA (oS (cF rfl en_99 rfl (fun w hw=>c_NoneF hok w) ?_))));refine oS (mk (KK KDK) (fun b12=>?_));refine LOps.step rfl (sA rfl rfl KAM (by exact KBI _) (hl:=by exact KAC _) (h:=?_));refine KC (KB (KB (KA (oM ?_))));refine oP (KF rfl) (oP (KE (o':=0) u100 rfl rfl rfl sz_53 dc) (oP (KE (o':=56) u53 rfl rfl rfl sz_3 dc) (oD (dL rfl (hv:=KJ u3 rfl (by exact KDD _ _ _ _ _ _ _ _ _ _ _ _ _))) ?_)));refine oP (KH (v:=.int .i64 (((blen V.n:Nat):Int)-1)) rfl rfl (KBr om om)) (oA (KC (LCode.block ?_)));refine Kd (α:=Nat×(Fin V.p×Fin V.p×Fin V.p)) (fun x=>x.1≤blen V.n∧RepT V x.2 (dualP V (U/2^x.1) (W/2^x.1) Q)) (fun x=>⟨[(0,Pz b),(5,Pz b5),(6,Pz b6),(7,Pz b7),(8,Pz b8),(11,Pz b11),(12,Pz b12),(13,.int .i64 (((x.1:Nat):Int)-1))],[.blk b12 ⟨true,pjFL x.2,135,(0,0)⟩,.blk b11 ⟨true,arr4 (tripF (.inf:Pt V.p)) (tripF V.G) (tripF Q) (sumT V (tripF V.G) (tripF Q)),183,(0,0)⟩,.blk b8 ⟨true,(vec .u64 9 (fun _=>0)++(vec .u64 9 (fun _=>0)++[Value.bool false])),47,(0,0)⟩,.blk b7 ⟨true,ptL (xv Q) (yv Q) (iv Q),47,(0,0)⟩,.blk b6 ⟨true,natL W,33,(0,0)⟩,.blk b5 ⟨true,natL U,33,(0,0)⟩,.blk b ⟨false,opL V f,100,(0,0)⟩,.blk f ⟨false,fldL V.p bd,165,(0,0)⟩,.blk bd ⟨false,dvL V.p,269,(0,0)⟩]⟩) (fun x=>x.1) ((blen V.n,tripF (.inf:Pt V.p))) (⟨Nat.le_refl _,by dsimp only; rw [dual_top hok hU hW]; exact KBX hok trivial⟩) (Ka ⟨rfl,rfl,rfl,rfl,rfl,rfl,rfl,rfl,trivial⟩ mS) ?_
  rintro x ⟨hx1,hx2⟩
  refine KB (KB ?_)
  rcases Nat.eq_zero_or_pos x.1 with h0|h0
  ·
   refine KA (oM ?_);refine oP (KH (v:=.bool false) rfl rfl (by rw [h0]; rfl)) ?_;refine KC (KG rfl (Kb (KB ?_)))
   have eR:dualP V (U/2^x.1) (W/2^x.1) Q = dualP V U W Q:=by rw [h0,Nat.pow_zero,Nat.div_one,Nat.div_one]
   rw [eR] at hx2
   refine KA (oM ?_);refine oD (dL rfl (hv:=by exact KD u135 rfl KAM)) ?_;refine oS (cF rfl en_65 rfl (fun w hw=>c_PlainT V b f bd hok (x.2) (dualP V U W Q) w (mC hw) (mC hw) (mC hw) (hx2)) ?_);refine oT rfl rfl sz_47 ?_;refine KC (KM (eN (.cons ⟨_,_,_,rfl,mM,by exact KD u47 rfl sz_47⟩ .nil) ?_))
   rfl
  obtain ⟨y,hy⟩:∃ y,x.1 = y+1:=⟨x.1-1,by omega⟩
  rw [hy] at hx2
  refine KA (oM ?_);refine oP (KH (v:=.bool true) rfl rfl (by rw [hy]; simp [Kq] <;> omega)) ?_;refine KC (KS rfl (KN (KB (LCode.block (KB (KA (oM ?_)))))));refine oD (dL rfl (hv:=by exact KD u135 rfl KAM)) ?_;refine oD (dL rfl (hv:=by exact KD u135 rfl KAM)) ?_;refine oS (cF rfl en_100 rfl (fun w hw=>c_SumT V b f bd hok (x.2) (x.2) w (mC hw) (mC hw) (mC hw)) ?_);refine LOps.step rfl (sA rfl rfl KAM (by exact KBI _) (hl:=by exact KAC _) (h:=?_));refine KC (KB (rD [] (aD 0 rfl dNa ?_)));refine aP 1 rfl (Kg (v:=Iz y) (by show some _ = some _; congr 2; omega)) ?_;refine aD 3 rfl dNa ?_;refine aP 4 rfl (Kg (v:=Iz y) (by show some _ = some _; congr 2; omega)) ?_;refine aO 2 rfl (cF rfl en_57 rfl (fun w hw=>KDE U y hU9 om w) ?_);refine aO 5 rfl (cF rfl en_57 rfl (fun w hw=>KDE W y hW9 om w) ?_)
  refine aP 6 rfl (KH rfl rfl (KBz (a:=2) om)) (aP 7 rfl (KH rfl rfl (Kj om)) (aA 8 ?_));refine aE (KB ?_)
  rcases (show (U/2^y%2 = 0∧W/2^y%2 = 0)∨(U/2^y%2 = 1∧W/2^y%2 = 0)∨(U/2^y%2 = 0∧W/2^y%2 = 1)∨(U/2^y%2 = 1∧W/2^y%2 = 1) by omega) with ⟨k1,k2⟩|⟨k1,k2⟩|⟨k1,k2⟩|⟨k1,k2⟩
  ·
   refine KA ?_;refine oP (Kg (v:=Iz 0) (by show some _ = some _; congr 2; omega)) ?_;refine oP (bF rfl rfl (KAZ (b:=0)) dc) (KC (KG rfl (KN (KA ?_))));refine oP (Kg (v:=Iz y) (by show some _ = some _; congr 2; omega)) ?_;refine oP (KH (v:=.int .i64 (((y:Nat):Int)-1)) rfl rfl (KBr om om)) (oA (KC ?_))
   exact ⟨(y,sumT V x.2 x.2),⟨by dsimp only; omega,dual_zero hok hQ k1 k2 hx2⟩,by dsimp only; omega,Ka ⟨rfl,rfl,rfl,rfl,rfl,rfl,rfl,rfl,trivial⟩ mS⟩
  ·
   refine KA ?_;refine oP (Kg (v:=Iz 1) (by show some _ = some _; congr 2; omega)) ?_;refine oP (bT rfl rfl (KAZ (b:=0)) dc) (KC (KS rfl (rD [6] (aM 0 ?_))));refine aD 1 rfl (dL rfl (hv:=by exact KD u135 rfl KAM)) ?_;refine aP 2 rfl (Kg (v:=Iz 1) (by show some _ = some _; congr 2; omega)) ?_;refine aP 3 rfl (Det.indexArrN u183 KAM rfl rfl dc) (aD 4 rfl (dL rfl (hv:=by exact arr4_1 _ _ _ _ _ _ _)) ?_);refine aO 5 rfl (cF rfl en_100 rfl (fun w hw=>c_SumT V b f bd hok (sumT V x.2 x.2) (tripF V.G) w (mC hw) (mC hw) (mC hw)) ?_);refine aL 6 rfl (sA rfl rfl KAM (by exact KBI _) (hl:=by exact KAC _) (h:=?_));refine aE (KA ?_);refine oP (Kg (v:=Iz y) (by show some _ = some _; congr 2; omega)) ?_;refine oP (KH (v:=.int .i64 (((y:Nat):Int)-1)) rfl rfl (KBr om om)) (oA (KC ?_))
   exact ⟨(y,sumT V (sumT V x.2 x.2) (tripF V.G)),⟨by dsimp only; omega,dual_step hok hQ k1 k2 hx2 (dual_10 hok hQ)⟩,by dsimp only; omega,Ka ⟨rfl,rfl,rfl,rfl,rfl,rfl,rfl,rfl,trivial⟩ mS⟩
  ·
   refine KA ?_;refine oP (Kg (v:=Iz 2) (by show some _ = some _; congr 2; omega)) ?_;refine oP (bT rfl rfl (KAZ (b:=0)) dc) (KC (KS rfl (rD [6] (aM 0 ?_))));refine aD 1 rfl (dL rfl (hv:=by exact KD u135 rfl KAM)) ?_;refine aP 2 rfl (Kg (v:=Iz 2) (by show some _ = some _; congr 2; omega)) ?_;refine aP 3 rfl (Det.indexArrN u183 KAM rfl rfl dc) (aD 4 rfl (dL rfl (hv:=by exact arr4_2 _ _ _ _ _ _ _)) ?_);refine aO 5 rfl (cF rfl en_100 rfl (fun w hw=>c_SumT V b f bd hok (sumT V x.2 x.2) (tripF Q) w (mC hw) (mC hw) (mC hw)) ?_);refine aL 6 rfl (sA rfl rfl KAM (by exact KBI _) (hl:=by exact KAC _) (h:=?_));refine aE (KA ?_);refine oP (Kg (v:=Iz y) (by show some _ = some _; congr 2; omega)) ?_;refine oP (KH (v:=.int .i64 (((y:Nat):Int)-1)) rfl rfl (KBr om om)) (oA (KC ?_))
   exact ⟨(y,sumT V (sumT V x.2 x.2) (tripF Q)),⟨by dsimp only; omega,dual_step hok hQ k1 k2 hx2 (dual_01 hok hQ)⟩,by dsimp only; omega,Ka ⟨rfl,rfl,rfl,rfl,rfl,rfl,rfl,rfl,trivial⟩ mS⟩
  refine KA ?_;refine oP (Kg (v:=Iz 3) (by show some _ = some _; congr 2; omega)) ?_;refine oP (bT rfl rfl (KAZ (b:=0)) dc) (KC (KS rfl (rD [6] (aM 0 ?_))));refine aD 1 rfl (dL rfl (hv:=by exact KD u135 rfl KAM)) ?_;refine aP 2 rfl (Kg (v:=Iz 3) (by show some _ = some _; congr 2; omega)) ?_;refine aP 3 rfl (Det.indexArrN u183 KAM rfl rfl dc) (aD 4 rfl (dL rfl (hv:=by exact arr4_3 _ _ _ _ _ _ _)) ?_);refine aO 5 rfl (cF rfl en_100 rfl (fun w hw=>c_SumT V b f bd hok (sumT V x.2 x.2) (sumT V (tripF V.G) (tripF Q)) w (mC hw) (mC hw) (mC hw)) ?_);refine aL 6 rfl (sA rfl rfl KAM (by exact KBI _) (hl:=by exact KAC _) (h:=?_));refine aE (KA ?_);refine oP (Kg (v:=Iz y) (by show some _ = some _; congr 2; omega)) ?_;refine oP (KH (v:=.int .i64 (((y:Nat):Int)-1)) rfl rfl (KBr om om)) (oA (KC ?_))
  exact ⟨(y,sumT V (sumT V x.2 x.2) (sumT V (tripF V.G) (tripF Q))),⟨by dsimp only; omega,dual_step hok hQ k1 k2 hx2 (dual_11 hok hQ)⟩,by dsimp only; omega,Ka ⟨rfl,rfl,rfl,rfl,rfl,rfl,rfl,rfl,trivial⟩ mS⟩


open Grp
open Grp


open Grp
def pfx (x:Nat):ByteArray:=strOf ((List.range 1).map fun i=>UInt8.ofNat ((fun _=>x) i))
def coB (V:Cv) (X:Nat):ByteArray:=strOf (KAF (nby V.p) X)
def putS (V:Cv) (X Y:Nat) (sh:Bool):ByteArray:=if sh then pfx (2+Y%2)++coB V X else pfx 4++coB V X++coB V Y
theorem on_lt {V:Cv} {X Y:Nat} (h:onB V.p V.a V.b X Y false = true):X<V.p∧Y<V.p:=by
  unfold onB at h
  rw [if_neg dc] at h
  simp only [Bool.and_eq_true,decide_eq_true_eq] at h
  exact ⟨h.1,h.2.1⟩
theorem c_cOnV (v:Bool) (V:Cv) (b f bd:Nat) (hok:V.Ok) (X Y:Nat) (i:Bool) (w:World) (hb:(Item.blk b ⟨false,opL V f,100,(0,0)⟩).holds w) (hf:(Item.blk f ⟨false,fldL V.p bd,165,(0,0)⟩).holds w) (hbd:(Item.blk bd ⟨false,dvL V.p,269,(0,0)⟩).holds w) (hX:X<W9) (hY:Y<W9) (h:onB V.p V.a V.b X Y i = v):CF Tryz.prog 55 [Pz b,ptV X Y i] w (.bool v):=h ▸ c_cOn V b f bd hok X Y i w hb hf hbd hX hY
def liftT (V:Cv) (X odd:Nat):Nat×Nat×Bool:=if X<V.p then (match sqN V.p (KDM V.p V.a V.b X) with
  | none=>(0,0,false)
  | some r=>if odd = 0 then (X,r,true) else if r = 0 then (X,0,false) else (X,V.p-r,true)) else (0,0,false)
theorem lift_far {V:Cv} {X odd:Nat} (h:¬ X<V.p):liftT V X odd = (0,0,false):=if_neg h
theorem lift_no {V:Cv} {X odd:Nat} (h:X<V.p) (h1:sqN V.p (KDM V.p V.a V.b X) = none):liftT V X odd = (0,0,false):=by unfold liftT; rw [if_pos h,h1]
theorem lift_even {V:Cv} {X r:Nat} (h:X<V.p) (h1:sqN V.p (KDM V.p V.a V.b X) = some r):liftT V X 0 = (X,r,true):=by unfold liftT; rw [if_pos h,h1]; rfl
theorem lift_zero {V:Cv} {X:Nat} (h:X<V.p) (h1:sqN V.p (KDM V.p V.a V.b X) = some 0):liftT V X 1 = (X,0,false):=by unfold liftT; rw [if_pos h,h1]; rfl
theorem lift_odd {V:Cv} {X r:Nat} (h:X<V.p) (h1:sqN V.p (KDM V.p V.a V.b X) = some r) (h0:r≠0):liftT V X 1 = (X,V.p-r,true):=by unfold liftT; rw [if_pos h,h1]; simp [h0]
theorem c_RightN (R X:Nat) (V:Cv) (b f bd:Nat) (hok:V.Ok) (w:World) (hb:(Item.blk b ⟨false,opL V f,100,(0,0)⟩).holds w) (hf:(Item.blk f ⟨false,fldL V.p bd,165,(0,0)⟩).holds w) (hbd:(Item.blk bd ⟨false,dvL V.p,269,(0,0)⟩).holds w) (hX:X<V.p) (hR:KDM V.p V.a V.b X = R):CF Tryz.prog 98 [Pz b,natV X] w (natV R):=by
  have h1:=c_Right V b f bd hok ⟨X,hX⟩ w hb hf hbd
  rw [← right_val hok] at h1
  rw [← hR]
  exact h1
theorem right_ltV {V:Cv} (hok:V.Ok) (X:Nat):KDM V.p V.a V.b X<V.p:=Nat.mod_lt _ (by have:=hok.bounds; omega)
theorem c_F_SqrtN (V:Cv) (f bd:Nat) (hok:V.Ok) (R:Nat) (w:World) (hf:(Item.blk f ⟨false,fldL V.p bd,165,(0,0)⟩).holds w) (hbd:(Item.blk bd ⟨false,dvL V.p,269,(0,0)⟩).holds w) (hR:R<V.p) (h:sqN V.p R = none):CF Tryz.prog 119 [Pz f,natV R] w (.tuple #[natV 0,.bool false]):=by
  have h1:=c_F_Sqrt V f bd hok ⟨R,hR⟩ w hf hbd
  rw [sqV_none h] at h1
  exact h1
theorem c_F_SqrtS (r:Nat) (V:Cv) (f bd:Nat) (hok:V.Ok) (R:Nat) (w:World) (hf:(Item.blk f ⟨false,fldL V.p bd,165,(0,0)⟩).holds w) (hbd:(Item.blk bd ⟨false,dvL V.p,269,(0,0)⟩).holds w) (hR:R<V.p) (h:sqN V.p R = some r):CF Tryz.prog 119 [Pz f,natV R] w (.tuple #[natV r,.bool true]):=by
  have h1:=c_F_Sqrt V f bd hok ⟨R,hR⟩ w hf hbd
  rw [sqV_some h] at h1
  exact h1
theorem c_bit0 (v A:Nat) (w:World) (hA:A<W9) (h:A%2 = v):CF Tryz.prog 57 [natV A,.int .i64 0] w (Iz v):=by
  have h1:=KDE A 0 hA dc w
  rw [Nat.pow_zero,Nat.div_one,h] at h1
  exact h1
theorem c_f_neg (V:Cv) (hok:V.Ok) (f bd r:Nat) (w:World) (hf:(Item.blk f ⟨false,fldL V.p bd,165,(0,0)⟩).holds w) (h0:r≠0) (h:r<V.p):CF Tryz.prog 120 [Pz f,natV 0,natV r] w (natV (V.p-r)):=by
  have h1:=c_f_Sub V f bd 0 r w hf hok.bounds.2.1 om h
  rwa [Nat.zero_add,Nat.mod_eq_of_lt om] at h1
theorem c_f_neg0 (V:Cv) (hok:V.Ok) (f bd:Nat) (w:World) (hf:(Item.blk f ⟨false,fldL V.p bd,165,(0,0)⟩).holds w):CF Tryz.prog 120 [Pz f,natV 0,natV 0] w (natV 0):=by
  have hb:=hok.bounds
  have h1:=c_f_Sub V f bd 0 0 w hf hb.2.1 om om
  rwa [Nat.zero_add,Nat.sub_zero,Nat.mod_self] at h1
theorem fill_ptI2 (X Y:Nat):fillL [(0,9),(9,9),(18,1)] (vec .u64 9 (fun _=>0)++(vec .u64 9 (fun _=>0)++[Value.bool false])) [(0,natV X),(1,natV Y)] = some (ptL X Y false):=by
  refine KAK (A:=[]) (B:=vec .u64 9 (fun _=>0)) (D:=vec .u64 9 (fun _=>0)++[Value.bool false]) (cs:=natL X) rfl rfl (KL _) rfl rfl (KU _ _ _) ?_;refine (KAK (A:=natL X) (B:=vec .u64 9 (fun _=>0)) (D:=[Value.bool false]) (cs:=natL Y) rfl rfl (KL _) (by simp) (KL _) (KU _ _ _) rfl).trans ?_
  simp [ptL]
theorem c_lift (V:Cv) (b f bd:Nat) (hok:V.Ok) (X odd:Nat) (w:World) (hb:(Item.blk b ⟨false,opL V f,100,(0,0)⟩).holds w) (hf:(Item.blk f ⟨false,fldL V.p bd,165,(0,0)⟩).holds w) (hbd:(Item.blk bd ⟨false,dvL V.p,269,(0,0)⟩).holds w) (hX:X<W9) (hodd:odd≤1):CF Tryz.prog 62 [Pz b,natV X,Iz odd] w (.tuple #[ptV (liftT V X odd).1 (liftT V X odd).2.1 false,.bool (liftT V X odd).2.2]):=by
  have hbb:=hok.bounds
  have hpW:V.p<W9:=Ku hbb.2.1
  have hpo:=p_odd hok
  refine KV (N:=50) (rs:=[.cell 6 47,.tmp 7]) [.blk b ⟨false,opL V f,100,(0,0)⟩,.blk f ⟨false,fldL V.p bd,165,(0,0)⟩,.blk bd ⟨false,dvL V.p,269,(0,0)⟩] Tryz.func62 rfl Tryz.ntmps62 Tryz.results62 (Nb rfl) ⟨hb,hf,hbd,trivial⟩ rfl ?_
  refine KB (KA (oS (mB (fun b4=>?_))));refine oS (mk (KK zr_47) (fun b6=>?_));refine oA (KC (KB (KB ?_)))
  rcases (show (¬ X<V.p)∨X<V.p by omega) with h1|hXp
  ·
   refine rD [] (aM 0 ?_);refine aP 1 rfl (KF rfl) (aP 2 rfl (KE (o':=59) u100 rfl rfl rfl sz_98 dc) (aD 3 rfl (dL rfl (hv:=KJ u98 rfl (by exact KAr _ _ _ _ _ _ _ _ _ _ _ _ _))) ?_));refine aD 4 rfl dNa ?_;refine aO 5 rfl (cF rfl en_96 rfl (fun w hw=>c_HasF V f bd X w (mC hw) hX hpW h1) ?_);refine aP 6 rfl (KI (KAE rfl) (show _ = Value.bool true from rfl)) (aE (KS rfl (KB (KA (oP (KI (KW pl_47 zr_47 rfl rfl) KDR) (LOps.step rfl (sA rfl rfl sz_47 (by exact KAB _ _ _) (hl:=by exact KX _ _ _) (h:=?_))))))));refine oA (KC (KM ?_));refine eN (.cons ⟨_,_,_,rfl,mM,by exact KD u47 rfl sz_47⟩ (.cons rfl .nil)) ?_
   rw [lift_far h1]
   rfl
  refine rD [] (aM 0 ?_);refine aP 1 rfl (KF rfl) (aP 2 rfl (KE (o':=59) u100 rfl rfl rfl sz_98 dc) (aD 3 rfl (dL rfl (hv:=KJ u98 rfl (by exact KAr _ _ _ _ _ _ _ _ _ _ _ _ _))) ?_));refine aD 4 rfl dNa ?_;refine aO 5 rfl (cF rfl en_96 rfl (fun w hw=>c_HasT V f bd X w (mC hw) hX hpW hXp) ?_);refine aP 6 rfl (KI (KAE rfl) (show _ = Value.bool false from rfl)) (aE (KG rfl (KN (KB ?_))))
  obtain ⟨R,hR⟩:∃ R,KDM V.p V.a V.b X = R:=⟨_,rfl⟩
  have hRp:R<V.p:=hR ▸ right_ltV hok X
  rcases h1:sqN V.p R with _|r
  ·
   refine rD [12] (aM 0 ?_);refine aP 1 rfl (KF rfl) (aP 2 rfl (KE (o':=59) u100 rfl rfl rfl sz_98 dc) (aD 3 rfl (dL rfl (hv:=KJ u98 rfl (by exact KAr _ _ _ _ _ _ _ _ _ _ _ _ _))) ?_));refine aM 4 ?_;refine aD 5 rfl dNa ?_;refine KAR ?_;refine Ko 11 rfl (.inl zr_33) (Nb rfl) rfl rfl rfl ?_;refine LAnyP.step 6 rfl rfl rfl (Nb rfl) kr rfl (Kf (first:=[]) rfl en_98 rfl (fun w hw=>c_RightN R X V b f bd hok w (mC hw) (mC hw) (mC hw) hXp hR)) ?_
   rintro _ _ ⟨rfl,rfl⟩
   refine LAnyP.step 7 rfl rfl rfl (Nb rfl) kr rfl (Kf (first:=[]) rfl en_119 rfl (fun w hw=>c_F_SqrtN V f bd hok R w (mC hw) (mC hw) hRp h1)) ?_
   rintro _ _ ⟨rfl,rfl⟩
   refine pM 8 ?_;refine pP 9 rfl (Det.extract rfl rfl) (pP 10 rfl (Det.extract rfl rfl) (pE (fun b8=>?_)));refine Kw ?_;refine aL 12 rfl (sA rfl rfl sz_33 (by exact Kv _) (hl:=by exact KL _) (h:=?_));refine aA 13 ?_;refine aE (KB (KB (KA (oM ?_))));refine oP (KI (KAE rfl) (show _ = Value.bool true from rfl)) (KC (KS rfl (KB (KA (oP (KI (KW pl_47 zr_47 rfl rfl) KDR) (LOps.step rfl (sA rfl rfl sz_47 (by exact KAB _ _ _) (hl:=by exact KX _ _ _) (h:=?_))))))));refine oA (KC (KM ?_));refine eN (.cons ⟨_,_,_,rfl,mM,by exact KD u47 rfl sz_47⟩ (.cons rfl .nil)) ?_
   rw [← hR] at h1
   rw [lift_no hXp h1]
   rfl
  refine rD [12] (aM 0 ?_);refine aP 1 rfl (KF rfl) (aP 2 rfl (KE (o':=59) u100 rfl rfl rfl sz_98 dc) (aD 3 rfl (dL rfl (hv:=KJ u98 rfl (by exact KAr _ _ _ _ _ _ _ _ _ _ _ _ _))) ?_));refine aM 4 ?_;refine aD 5 rfl dNa ?_;refine KAR ?_;refine Ko 11 rfl (.inl zr_33) (Nb rfl) rfl rfl rfl ?_;refine LAnyP.step 6 rfl rfl rfl (Nb rfl) kr rfl (Kf (first:=[]) rfl en_98 rfl (fun w hw=>c_RightN R X V b f bd hok w (mC hw) (mC hw) (mC hw) hXp hR)) ?_
  rintro _ _ ⟨rfl,rfl⟩
  refine LAnyP.step 7 rfl rfl rfl (Nb rfl) kr rfl (Kf (first:=[]) rfl en_119 rfl (fun w hw=>c_F_SqrtS r V f bd hok R w (mC hw) (mC hw) hRp h1)) ?_
  rintro _ _ ⟨rfl,rfl⟩
  refine pM 8 ?_;refine pP 9 rfl (Det.extract rfl rfl) (pP 10 rfl (Det.extract rfl rfl) (pE (fun b8=>?_)));refine Kw ?_;refine aL 12 rfl (sA rfl rfl sz_33 (by exact Kv _) (hl:=by exact KL _) (h:=?_));refine aA 13 ?_;refine aE (KB (KB (KA (oM ?_))));refine oP (KI (KAE rfl) (show _ = Value.bool false from rfl)) (KC (KG rfl (KN (KB (KB ?_)))))
  obtain ⟨hr1,hr2,hr3⟩:=sqN_some h1
  rcases (show odd = 0∨(odd = 1∧r = 0)∨(odd = 1∧r≠0) by omega) with rfl|⟨rfl,rfl⟩|⟨rfl,hr0⟩
  ·
   refine KA (oD dNa ?_);refine oS (cF rfl en_57 rfl (fun w hw=>c_bit0 0 r w om hr3) ?_);refine oM ?_;refine oP (KH (v:=.bool false) rfl rfl (by rfl)) (KC (KG rfl (KN (KB (rD [7] (aD 0 rfl dNa ?_))))));refine aD 1 rfl dNa ?_;refine aP 2 rfl (KI (KW pl_47 zr_47 rfl (fill_ptI2 _ _)) rfl) (aM 5 ?_);refine aO 3 rfl (LStep.det dNa (Nb rfl) ?_);refine aO 4 rfl (cF rfl en_57 rfl (fun w hw=>c_bit0 0 r w om hr3) ?_);refine aP 6 rfl (KH (v:=.bool true) rfl rfl (by rfl)) (aL 7 rfl (sA rfl rfl sz_47 (by exact KAB _ _ _) (hl:=by exact KX _ _ _) (h:=?_)));refine aA 8 ?_;refine aE (KM (eN (.cons ⟨_,_,_,rfl,mM,by exact KD u47 rfl sz_47⟩ (.cons rfl .nil)) ?_))
   rw [← hR] at h1
   rw [lift_even hXp h1]
   rfl
  ·
   refine KA (oD dNa ?_);refine oS (cF rfl en_57 rfl (fun w hw=>c_bit0 0 0 w om rfl) ?_);refine oM ?_;refine oP (KH (v:=.bool true) rfl rfl (by rfl)) (KC (KS rfl (rD [7] (aM 0 ?_))));refine aP 1 rfl (KF rfl) (aP 2 rfl (KE (o':=59) u100 rfl rfl rfl sz_98 dc) (aD 3 rfl (dL rfl (hv:=KJ u98 rfl (by exact KAr _ _ _ _ _ _ _ _ _ _ _ _ _))) ?_));refine aP 4 rfl (KI (KW pl_33 zr_33 rfl rfl) (show _ = natV 0 by unfold natV natL; rw [← vec_zeros 9])) ?_;refine aD 5 rfl dNa ?_;refine aO 6 rfl (cF rfl KDC rfl (fun w hw=>c_f_neg0 V hok f bd w (mC hw)) ?_);refine aL 7 rfl (sA rfl rfl sz_33 (by exact Kv _) (hl:=by exact KL _) (h:=?_));refine aE (KB (rD [7] (aD 0 rfl dNa ?_)));refine aD 1 rfl dNa ?_
   refine aP 2 rfl (KI (KW pl_47 zr_47 rfl (fill_ptI2 _ _)) rfl) (aM 5 ?_);refine aO 3 rfl (LStep.det dNa (Nb rfl) ?_);refine aO 4 rfl (cF rfl en_57 rfl (fun w hw=>c_bit0 0 0 w om rfl) ?_);refine aP 6 rfl (KH (v:=.bool false) rfl rfl (by rfl)) (aL 7 rfl (sA rfl rfl sz_47 (by exact KAB _ _ _) (hl:=by exact KX _ _ _) (h:=?_)));refine aA 8 ?_;refine aE (KM (eN (.cons ⟨_,_,_,rfl,mM,by exact KD u47 rfl sz_47⟩ (.cons rfl .nil)) ?_))
   rw [← hR] at h1
   rw [lift_zero hXp h1]
   rfl
  refine KA (oD dNa ?_);refine oS (cF rfl en_57 rfl (fun w hw=>c_bit0 0 r w om hr3) ?_);refine oM ?_;refine oP (KH (v:=.bool true) rfl rfl (by rfl)) (KC (KS rfl (rD [7] (aM 0 ?_))));refine aP 1 rfl (KF rfl) (aP 2 rfl (KE (o':=59) u100 rfl rfl rfl sz_98 dc) (aD 3 rfl (dL rfl (hv:=KJ u98 rfl (by exact KAr _ _ _ _ _ _ _ _ _ _ _ _ _))) ?_));refine aP 4 rfl (KI (KW pl_33 zr_33 rfl rfl) (show _ = natV 0 by unfold natV natL; rw [← vec_zeros 9])) ?_;refine aD 5 rfl dNa ?_;refine aO 6 rfl (cF rfl KDC rfl (fun w hw=>c_f_neg V hok f bd r w (mC hw) hr0 hr1) ?_);refine aL 7 rfl (sA rfl rfl sz_33 (by exact Kv _) (hl:=by exact KL _) (h:=?_));refine aE (KB (rD [7] (aD 0 rfl dNa ?_)));refine aD 1 rfl dNa ?_
  refine aP 2 rfl (KI (KW pl_47 zr_47 rfl (fill_ptI2 _ _)) rfl) (aM 5 ?_);refine aO 3 rfl (LStep.det dNa (Nb rfl) ?_);refine aO 4 rfl (cF rfl en_57 rfl (fun w hw=>c_bit0 1 (V.p-r) w om om) ?_);refine aP 6 rfl (KH (v:=.bool true) rfl rfl (by rfl)) (aL 7 rfl (sA rfl rfl sz_47 (by exact KAB _ _ _) (hl:=by exact KX _ _ _) (h:=?_)));refine aA 8 ?_;refine aE (KM (eN (.cons ⟨_,_,_,rfl,mM,by exact KD u47 rfl sz_47⟩ (.cons rfl .nil)) ?_))
  rw [← hR] at h1
  rw [lift_odd hXp h1 hr0]
  rfl
def b0 (s:ByteArray):Nat:=(s.data.toList.getD 0 0).toNat
theorem b0_lt (s:ByteArray):b0 s<256:=UInt8.toNat_lt _
def getX (V:Cv) (s:ByteArray):Nat:=beVal (s.extract 1 (1+nby V.p)).data.toList
def getY (V:Cv) (s:ByteArray):Nat:=beVal (s.extract (1+nby V.p) s.size).data.toList
def getT (V:Cv) (s:ByteArray):Nat×Nat×Nat :=
  if s.size = 1+nby V.p∧(b0 s = 2∨b0 s = 3) then (if (liftT V (getX V s) (b0 s-2)).2.2 = true then ((liftT V (getX V s) (b0 s-2)).1,(liftT V (getX V s) (b0 s-2)).2.1,0) else (0,0,2101))
  else if s.size = 1+2*nby V.p∧b0 s = 4 then (if onB V.p V.a V.b (getX V s) (getY V s) false = true then (getX V s,getY V s,0) else (0,0,2101))
  else (0,0,2102)
def getV (V:Cv) (s:ByteArray):Value:=.tuple #[ptV (getT V s).1 (getT V s).2.1 false,Iz ((getT V s).2.2)]
theorem KCr {V:Cv} {s:ByteArray} {X Y e:Nat} (h:getT V s = (X,Y,e)):getV V s = .tuple #[ptV X Y false,Iz e]:=by unfold getV; rw [h]
theorem get_form {V:Cv} {s:ByteArray} (h1:¬ (s.size = 1+nby V.p∧(b0 s = 2∨b0 s = 3))) (h2:¬ (s.size = 1+2*nby V.p∧b0 s = 4)):getT V s = (0,0,2102):=by unfold getT; rw [if_neg h1,if_neg h2]
theorem get_short {V:Cv} {s:ByteArray} {o X Y:Nat} (h1:s.size = 1+nby V.p) (ho:b0 s = 2+o) (ho1:o≤1) (h:liftT V (getX V s) o = (X,Y,true)):getT V s = (X,Y,0):=by
  unfold getT
  rw [if_pos ⟨h1,by omega⟩,ho,Nat.add_sub_cancel_left,h]; rfl
theorem get_shortF {V:Cv} {s:ByteArray} {o X Y:Nat} (h1:s.size = 1+nby V.p) (ho:b0 s = 2+o) (ho1:o≤1) (h:liftT V (getX V s) o = (X,Y,false)):getT V s = (0,0,2101):=by
  unfold getT
  rw [if_pos ⟨h1,by omega⟩,ho,Nat.add_sub_cancel_left,h]; rfl
theorem get_long {V:Cv} {s:ByteArray} (h1:s.size = 1+2*nby V.p) (hb:b0 s = 4) (h:onB V.p V.a V.b (getX V s) (getY V s) false = true):getT V s = (getX V s,getY V s,0):=by
  unfold getT
  rw [if_neg om,if_pos ⟨h1,hb⟩,if_pos h]
theorem get_longF {V:Cv} {s:ByteArray} (h1:s.size = 1+2*nby V.p) (hb:b0 s = 4) (h:onB V.p V.a V.b (getX V s) (getY V s) false = false):getT V s = (0,0,2101):=by
  unfold getT
  rw [if_neg om,if_pos ⟨h1,hb⟩,if_neg (by rw [h]; decide)]
theorem ext_ext (s:ByteArray) (k:Nat) (h:1+k≤s.size):(s.extract 1 s.size).extract 0 k = s.extract 1 (1+k):=by
  rw [ByteArray.extract_extract]
  congr 1; omega
theorem ext_ext2 (s:ByteArray) (k:Nat) (h:1+k≤s.size):(s.extract 1 s.size).extract k (s.extract 1 s.size).size = s.extract (1+k) s.size:=by
  rw [ByteArray.extract_extract,KAm _ _ _ (Nat.le_refl _)]
  congr 1; omega
theorem ptX_set0 (X Y X':Nat) (i:Bool):KAc (ptL X Y i) 0 (natL X') = ptL X' Y i:=KAg (A:=[]) (B:=natL X) (D:=natL Y++[.bool i]) (by simp [ptL]) rfl (by rw [KL,KL]) (by simp [ptL])
theorem ptX_set9 (X Y Y':Nat) (i:Bool):KAc (ptL X Y i) 9 (natL Y') = ptL X Y' i:=KAg (A:=natL X) (B:=natL Y) (D:=[.bool i]) (by simp [ptL]) (KL _) (by rw [KL,KL]) (by simp [ptL])
theorem ptX_zero:(vec .u64 9 (fun _=>0)++(vec .u64 9 (fun _=>0)++[Value.bool false]):List Value) = ptL 0 0 false:=by
  unfold ptL natL; rw [vec_zeros 9]
theorem KCp (X:Nat) (s:ByteArray) (w:World) (h:s.size≤72) (hX:beVal s.data.toList = X):CF Tryz.prog 49 [.string s] w (.tuple #[natV X,Iz 0]):=hX ▸ KCQ s w h
theorem c_liftX (Z:Nat×Nat×Bool) (V:Cv) (b f bd:Nat) (hok:V.Ok) (X odd:Nat) (w:World) (hb:(Item.blk b ⟨false,opL V f,100,(0,0)⟩).holds w) (hf:(Item.blk f ⟨false,fldL V.p bd,165,(0,0)⟩).holds w) (hbd:(Item.blk bd ⟨false,dvL V.p,269,(0,0)⟩).holds w) (hX:X<W9) (hodd:odd≤1) (hZ:liftT V X odd = Z):CF Tryz.prog 62 [Pz b,natV X,Iz odd] w (.tuple #[ptV Z.1 Z.2.1 false,.bool Z.2.2]):=by
  subst hZ; exact c_lift V b f bd hok X odd w hb hf hbd hX hodd
theorem emp_t:((⟨#[]⟩:ByteArray).toList == (⟨#[]⟩:ByteArray).toList) = true:=by simp
theorem emp_f {s:ByteArray} (h:s.size≠0):(s.toList == (⟨#[]⟩:ByteArray).toList) = false:=by
  cases h1:(s.toList == (⟨#[]⟩:ByteArray).toList) with
  | false=>rfl
  | true =>
    rw [eq_str,decide_eq_true_eq] at h1
    have h2:s.data.size = 0:=by rw [← Array.length_toList,h1]; rfl
    exact absurd h2 h
theorem c_s_Get_emp (id:Int) (V:Cv) (w:World) (h:cvI id = some V):CF Tryz.prog 29 [.int .i64 id,.string ⟨#[]⟩] w (.tuple #[ptV 0 0 false,Iz 2102]):=by
  obtain ⟨hok,hid⟩:=KAz h
  have hbb:=hok.bounds
  have hpW:V.p<W9:=Ku hbb.2.1
  have hnW:V.n<W9:=Ku hbb.2.2.2.2.2.2.1
  have hbl:=KAP hnW
  have hnb:nby V.n≤72:=by (unfold nby; omega)
  have hnp:nby V.p≤72:=by have:=KAP (Ku hbb.2.1); (unfold nby; omega)
  refine KV (N:=102) (rs:=[.cell 4 47,.tmp 5]) [] Tryz.func29 rfl Tryz.ntmps29 Tryz.results29 (Nb rfl) trivial rfl ?_
  refine KB (KA (oS (mk (KK zr_47) (fun b4=>?_))));refine oP (KO (v:=Iz 0) rfl) (KC (KB (KA (oM ?_))));refine oS (oOpen h rfl rfl (fun b f bd=>?_));refine oA (KC (KB (KB (KA (oM ?_)))));refine oP (KI (KAH u81 rfl rfl) (show _ = Value.bool false from rfl)) (KC (KG rfl (KN (KB (KB (KA (oM ?_)))))));refine oP (KI (KCD rfl rfl) (congrArg Value.bool (emp_t))) (KC (KS rfl (KB (KA (oP (KI (KW pl_47 zr_47 rfl rfl) KDR) (LOps.step rfl (sA rfl rfl sz_47 (by exact KAB _ _ _) (hl:=by exact KX _ _ _) (h:=?_))))))));refine oP (KO (v:=Iz 2102) rfl) (KC (KM (eN (.cons ⟨_,_,_,rfl,mM,by exact KD u47 rfl sz_47⟩ (.cons rfl .nil)) ?_)))
  skip
  rfl
theorem c_s_Get_s0 (id:Int) (V:Cv) (s:ByteArray) (X X' Y':Nat) (ok:Bool) (w:World) (h:cvI id = some V) (hsz:s.size = 1+nby V.p) (hb:b0 s = 2) (hX:beVal (s.extract 1 s.size).data.toList = X) (hXw:X<W9) (hl:liftT V X 0 = (X',Y',ok)):CF Tryz.prog 29 [.int .i64 id,.string s] w (getV V s):=by
  obtain ⟨hok,hid⟩:=KAz h
  have hbb:=hok.bounds
  have hpW:V.p<W9:=Ku hbb.2.1
  have hnW:V.n<W9:=Ku hbb.2.2.2.2.2.2.1
  have hbl:=KAP hnW
  have hnb:nby V.n≤72:=by (unfold nby; omega)
  have hnp:nby V.p≤72:=by have:=KAP (Ku hbb.2.1); (unfold nby; omega)
  have hs0:s.size≠0:=by omega
  refine KV (N:=102) (rs:=[.cell 4 47,.tmp 5]) [] Tryz.func29 rfl Tryz.ntmps29 Tryz.results29 (Nb rfl) trivial rfl ?_
  refine KB (KA (oS (mk (KK zr_47) (fun b4=>?_))));refine oP (KO (v:=Iz 0) rfl) (KC (KB (KA (oM ?_))));refine oS (oOpen h rfl rfl (fun b f bd=>?_));refine oA (KC (KB (KB (KA (oM ?_)))));refine oP (KI (KAH u81 rfl rfl) (show _ = Value.bool false from rfl)) (KC (KG rfl (KN (KB (KB (KA (oM ?_)))))));refine oP (KI (KCD rfl rfl) (congrArg Value.bool (emp_f hs0))) (KC (KG rfl (KN (KB (rD [] (aM 0 ?_))))));refine aP 1 rfl (KI (Ks u9 rfl rfl om om) (show _ = .int .u8 ((2:Nat):Int) from congrArg (fun n:Nat=>Value.int .u8 ((n:Nat):Int)) hb)) (aP 2 rfl (KAe u5 u3 rfl om) (aM 3 ?_));refine aP 4 rfl (KI (KBF u9 rfl rfl om om) (show _ = Value.string (s.extract 1 s.size) from rfl)) (aA 5 ?_);refine aA 6 ?_;refine aE (KB (KA (oS (mk (KK zr_47) (fun b9=>?_)))));refine KC (KB (KA (oA (KC (KB (LCode.block (KB ?_)))))))
  have hrs:(s.extract 1 s.size).size = nby V.p:=by rw [KAm _ _ _ (Nat.le_refl _)]; omega
  refine KA (oM ?_);refine oP (bT rfl rfl (Kt (b:=2)) (rfl)) (oM ?_);refine oK (oK (oP (Ke rfl rfl) (oM ?_)));refine oGM ?_;refine oGP (KAI u9 rfl) (oGM ?_);refine oGP (KF rfl) (oGP (KE (o':=0) u100 rfl rfl rfl sz_53 dc) (oGP (KE (o':=57) u53 rfl rfl rfl sz_3 dc) (Km rfl rfl (dL rfl (hv:=KJ u3 rfl (by exact KAy _ _ _ _ _ _ _ _ _ _ _ _ _))) (Nb rfl) ?_)));refine oGP (bT rfl rfl Kt (hrs)) (oP (Ke rfl rfl) (oA (KC ?_)));refine KS rfl (KB ?_)
  cases ok
  ·
   refine KA (oM ?_);refine oS (cF rfl en_49 rfl (fun w hw=>KCp X (s.extract 1 s.size) w om hX) ?_);refine oM ?_;refine oX ?_;refine oX ?_;refine oS (mk (KK zr_33) (fun b11=>?_));refine LOps.step rfl (sA rfl rfl sz_33 (by exact Kv _) (hl:=by exact KL _) (h:=?_));refine oA (KC (KA (oM ?_)));refine oD dNa ?_;refine oM ?_;refine oP (KH (v:=Iz 0) rfl rfl (by rfl)) (oS (cF rfl en_62 rfl (fun w hw=>c_liftX (X',Y',false) V b f bd hok X 0 w (mC hw) (mC hw) (mC hw) hXw dc hl) ?_));refine oM ?_;refine oX ?_;refine oX ?_;refine LOps.step rfl (sA rfl rfl sz_47 (by exact KAB _ _ _) (hl:=by exact KX _ _ _) (h:=?_));refine oA (KC (KB (KB (KA (oM ?_)))));refine oP (KI (KAE rfl) (show _ = Value.bool true from rfl)) (KC (KS rfl (KB (KA (oP (KI (KW pl_47 zr_47 rfl rfl) KDR) (LOps.step rfl (sA rfl rfl sz_47 (by exact KAB _ _ _) (hl:=by exact KX _ _ _) (h:=?_))))))))
   refine oP (KO (v:=Iz 2101) rfl) (KC (KM (eN (.cons ⟨_,_,_,rfl,mM,by exact KD u47 rfl sz_47⟩ (.cons rfl .nil)) ?_)))
   have hg:getX V s = X:=by unfold getX; rw [← hsz]; exact hX
   rw [← hg] at hl
   rw [KCr (get_shortF hsz hb dc hl)]
   rfl
  refine KA (oM ?_);refine oS (cF rfl en_49 rfl (fun w hw=>KCp X (s.extract 1 s.size) w om hX) ?_);refine oM ?_;refine oX ?_;refine oX ?_;refine oS (mk (KK zr_33) (fun b11=>?_));refine LOps.step rfl (sA rfl rfl sz_33 (by exact Kv _) (hl:=by exact KL _) (h:=?_));refine oA (KC (KA (oM ?_)));refine oD dNa ?_;refine oM ?_;refine oP (KH (v:=Iz 0) rfl rfl (by rfl)) (oS (cF rfl en_62 rfl (fun w hw=>c_liftX (X',Y',true) V b f bd hok X 0 w (mC hw) (mC hw) (mC hw) hXw dc hl) ?_));refine oM ?_;refine oX ?_;refine oX ?_;refine LOps.step rfl (sA rfl rfl sz_47 (by exact KAB _ _ _) (hl:=by exact KX _ _ _) (h:=?_));refine oA (KC (KB (KB (KA (oM ?_)))));refine oP (KI (KAE rfl) (show _ = Value.bool false from rfl)) (KC (KG rfl (KN (KB (KA (oD dNb ?_))))));refine LOps.step rfl (sA rfl rfl sz_47 (by exact KAB _ _ _) (hl:=by exact KX _ _ _) (h:=?_))
  refine oP (KO (v:=Iz 0) rfl) (KC (KM (eN (.cons ⟨_,_,_,rfl,mM,by exact KD u47 rfl sz_47⟩ (.cons rfl .nil)) ?_)))
  have hg:getX V s = X:=by unfold getX; rw [← hsz]; exact hX
  rw [← hg] at hl
  rw [KCr (get_short hsz hb dc hl)]
  rfl
theorem c_s_Get_s1 (id:Int) (V:Cv) (s:ByteArray) (X X' Y':Nat) (ok:Bool) (w:World) (h:cvI id = some V) (hsz:s.size = 1+nby V.p) (hb:b0 s = 3) (hX:beVal (s.extract 1 s.size).data.toList = X) (hXw:X<W9) (hl:liftT V X 1 = (X',Y',ok)):CF Tryz.prog 29 [.int .i64 id,.string s] w (getV V s):=by
  obtain ⟨hok,hid⟩:=KAz h
  have hbb:=hok.bounds
  have hpW:V.p<W9:=Ku hbb.2.1
  have hnW:V.n<W9:=Ku hbb.2.2.2.2.2.2.1
  have hbl:=KAP hnW
  have hnb:nby V.n≤72:=by (unfold nby; omega)
  have hnp:nby V.p≤72:=by have:=KAP (Ku hbb.2.1); (unfold nby; omega)
  have hs0:s.size≠0:=by omega
  refine KV (N:=102) (rs:=[.cell 4 47,.tmp 5]) [] Tryz.func29 rfl Tryz.ntmps29 Tryz.results29 (Nb rfl) trivial rfl ?_
  refine KB (KA (oS (mk (KK zr_47) (fun b4=>?_))));refine oP (KO (v:=Iz 0) rfl) (KC (KB (KA (oM ?_))));refine oS (oOpen h rfl rfl (fun b f bd=>?_));refine oA (KC (KB (KB (KA (oM ?_)))));refine oP (KI (KAH u81 rfl rfl) (show _ = Value.bool false from rfl)) (KC (KG rfl (KN (KB (KB (KA (oM ?_)))))));refine oP (KI (KCD rfl rfl) (congrArg Value.bool (emp_f hs0))) (KC (KG rfl (KN (KB (rD [] (aM 0 ?_))))));refine aP 1 rfl (KI (Ks u9 rfl rfl om om) (show _ = .int .u8 ((3:Nat):Int) from congrArg (fun n:Nat=>Value.int .u8 ((n:Nat):Int)) hb)) (aP 2 rfl (KAe u5 u3 rfl om) (aM 3 ?_));refine aP 4 rfl (KI (KBF u9 rfl rfl om om) (show _ = Value.string (s.extract 1 s.size) from rfl)) (aA 5 ?_);refine aA 6 ?_;refine aE (KB (KA (oS (mk (KK zr_47) (fun b9=>?_)))));refine KC (KB (KA (oA (KC (KB (LCode.block (KB ?_)))))))
  have hrs:(s.extract 1 s.size).size = nby V.p:=by rw [KAm _ _ _ (Nat.le_refl _)]; omega
  refine KA (oM ?_);refine oP (bF rfl rfl (Kt (b:=2)) dc) (oM ?_);refine oGM ?_;refine oGP (bT rfl rfl (Kt (b:=3)) (rfl)) (oP (KR rfl rfl) (oM ?_));refine oGM ?_;refine oGP (KAI u9 rfl) (oGM ?_);refine oGP (KF rfl) (oGP (KE (o':=0) u100 rfl rfl rfl sz_53 dc) (oGP (KE (o':=57) u53 rfl rfl rfl sz_3 dc) (Km rfl rfl (dL rfl (hv:=KJ u3 rfl (by exact KAy _ _ _ _ _ _ _ _ _ _ _ _ _))) (Nb rfl) ?_)));refine oGP (bT rfl rfl Kt (hrs)) (oP (Ke rfl rfl) (oA (KC ?_)));refine KS rfl (KB ?_)
  cases ok
  ·
   refine KA (oM ?_);refine oS (cF rfl en_49 rfl (fun w hw=>KCp X (s.extract 1 s.size) w om hX) ?_);refine oM ?_;refine oX ?_;refine oX ?_;refine oS (mk (KK zr_33) (fun b11=>?_));refine LOps.step rfl (sA rfl rfl sz_33 (by exact Kv _) (hl:=by exact KL _) (h:=?_));refine oA (KC (KA (oM ?_)));refine oD dNa ?_;refine oM ?_;refine oP (KH (v:=Iz 1) rfl rfl (by rfl)) (oS (cF rfl en_62 rfl (fun w hw=>c_liftX (X',Y',false) V b f bd hok X 1 w (mC hw) (mC hw) (mC hw) hXw dc hl) ?_));refine oM ?_;refine oX ?_;refine oX ?_;refine LOps.step rfl (sA rfl rfl sz_47 (by exact KAB _ _ _) (hl:=by exact KX _ _ _) (h:=?_));refine oA (KC (KB (KB (KA (oM ?_)))));refine oP (KI (KAE rfl) (show _ = Value.bool true from rfl)) (KC (KS rfl (KB (KA (oP (KI (KW pl_47 zr_47 rfl rfl) KDR) (LOps.step rfl (sA rfl rfl sz_47 (by exact KAB _ _ _) (hl:=by exact KX _ _ _) (h:=?_))))))))
   refine oP (KO (v:=Iz 2101) rfl) (KC (KM (eN (.cons ⟨_,_,_,rfl,mM,by exact KD u47 rfl sz_47⟩ (.cons rfl .nil)) ?_)))
   have hg:getX V s = X:=by unfold getX; rw [← hsz]; exact hX
   rw [← hg] at hl
   rw [KCr (get_shortF hsz hb dc hl)]
   rfl
  refine KA (oM ?_);refine oS (cF rfl en_49 rfl (fun w hw=>KCp X (s.extract 1 s.size) w om hX) ?_);refine oM ?_;refine oX ?_;refine oX ?_;refine oS (mk (KK zr_33) (fun b11=>?_));refine LOps.step rfl (sA rfl rfl sz_33 (by exact Kv _) (hl:=by exact KL _) (h:=?_));refine oA (KC (KA (oM ?_)));refine oD dNa ?_;refine oM ?_;refine oP (KH (v:=Iz 1) rfl rfl (by rfl)) (oS (cF rfl en_62 rfl (fun w hw=>c_liftX (X',Y',true) V b f bd hok X 1 w (mC hw) (mC hw) (mC hw) hXw dc hl) ?_));refine oM ?_;refine oX ?_;refine oX ?_;refine LOps.step rfl (sA rfl rfl sz_47 (by exact KAB _ _ _) (hl:=by exact KX _ _ _) (h:=?_));refine oA (KC (KB (KB (KA (oM ?_)))));refine oP (KI (KAE rfl) (show _ = Value.bool false from rfl)) (KC (KG rfl (KN (KB (KA (oD dNb ?_))))));refine LOps.step rfl (sA rfl rfl sz_47 (by exact KAB _ _ _) (hl:=by exact KX _ _ _) (h:=?_))
  refine oP (KO (v:=Iz 0) rfl) (KC (KM (eN (.cons ⟨_,_,_,rfl,mM,by exact KD u47 rfl sz_47⟩ (.cons rfl .nil)) ?_)))
  have hg:getX V s = X:=by unfold getX; rw [← hsz]; exact hX
  rw [← hg] at hl
  rw [KCr (get_short hsz hb dc hl)]
  rfl
theorem c_s_Get_f2 (id:Int) (V:Cv) (s:ByteArray) (w:World) (h:cvI id = some V) (hs0:s.size≠0) (hs:s.size<9223372036854775808) (hb:b0 s = 2) (hsz:s.size≠1+nby V.p):CF Tryz.prog 29 [.int .i64 id,.string s] w (.tuple #[ptV 0 0 false,Iz 2102]):=by
  obtain ⟨hok,hid⟩:=KAz h
  have hbb:=hok.bounds
  have hpW:V.p<W9:=Ku hbb.2.1
  have hnW:V.n<W9:=Ku hbb.2.2.2.2.2.2.1
  have hbl:=KAP hnW
  have hnb:nby V.n≤72:=by (unfold nby; omega)
  have hnp:nby V.p≤72:=by have:=KAP (Ku hbb.2.1); (unfold nby; omega)
  have hb256:=b0_lt s
  refine KV (N:=102) (rs:=[.cell 4 47,.tmp 5]) [] Tryz.func29 rfl Tryz.ntmps29 Tryz.results29 (Nb rfl) trivial rfl ?_
  refine KB (KA (oS (mk (KK zr_47) (fun b4=>?_))));refine oP (KO (v:=Iz 0) rfl) (KC (KB (KA (oM ?_))));refine oS (oOpen h rfl rfl (fun b f bd=>?_));refine oA (KC (KB (KB (KA (oM ?_)))));refine oP (KI (KAH u81 rfl rfl) (show _ = Value.bool false from rfl)) (KC (KG rfl (KN (KB (KB (KA (oM ?_)))))));refine oP (KI (KCD rfl rfl) (congrArg Value.bool (emp_f hs0))) (KC (KG rfl (KN (KB (rD [] (aM 0 ?_))))));refine aP 1 rfl (KI (Ks u9 rfl rfl om om) (show _ = .int .u8 ((2:Nat):Int) from congrArg (fun n:Nat=>Value.int .u8 ((n:Nat):Int)) hb)) (aP 2 rfl (KAe u5 u3 rfl om) (aM 3 ?_));refine aP 4 rfl (KI (KBF u9 rfl rfl om om) (show _ = Value.string (s.extract 1 s.size) from rfl)) (aA 5 ?_);refine aA 6 ?_;refine aE (KB (KA (oS (mk (KK zr_47) (fun b9=>?_)))));refine KC (KB (KA (oA (KC (KB (LCode.block (KB ?_)))))))
  have hrs:(s.extract 1 s.size).size = s.size-1:=by rw [KAm _ _ _ (Nat.le_refl _)]
  refine KA (oM ?_);refine oP (bT rfl rfl (Kt (b:=2)) (rfl)) (oM ?_);refine oK (oK (oP (Ke rfl rfl) (oM ?_)));refine oGM ?_;refine oGP (KAI u9 rfl) (oGM ?_);refine oGP (KF rfl) (oGP (KE (o':=0) u100 rfl rfl rfl sz_53 dc) (oGP (KE (o':=57) u53 rfl rfl rfl sz_3 dc) (Km rfl rfl (dL rfl (hv:=KJ u3 rfl (by exact KAy _ _ _ _ _ _ _ _ _ _ _ _ _))) (Nb rfl) ?_)));refine oGP (bF rfl rfl Kt (om)) (oP (Ke rfl rfl) (oA (KC ?_)));refine KG rfl (KB (KA (oM ?_)));refine oP (bF rfl rfl (Kt (b:=4)) dc) (oM ?_);refine oK (oK (oK (oK (oK (oK (oK (oK (oK (oP (KR rfl rfl) (oA (KC ?_)))))))))));refine KG rfl (KB (KA (oP (KI (KW pl_47 zr_47 rfl rfl) KDR) (LOps.step rfl (sA rfl rfl sz_47 (by exact KAB _ _ _) (hl:=by exact KX _ _ _) (h:=?_))))));refine oP (KO (v:=Iz 2102) rfl) (KC (KM (eN (.cons ⟨_,_,_,rfl,mM,by exact KD u47 rfl sz_47⟩ (.cons rfl .nil)) ?_)))
  skip
  rfl
theorem c_s_Get_f3 (id:Int) (V:Cv) (s:ByteArray) (w:World) (h:cvI id = some V) (hs0:s.size≠0) (hs:s.size<9223372036854775808) (hb:b0 s = 3) (hsz:s.size≠1+nby V.p):CF Tryz.prog 29 [.int .i64 id,.string s] w (.tuple #[ptV 0 0 false,Iz 2102]):=by
  obtain ⟨hok,hid⟩:=KAz h
  have hbb:=hok.bounds
  have hpW:V.p<W9:=Ku hbb.2.1
  have hnW:V.n<W9:=Ku hbb.2.2.2.2.2.2.1
  have hbl:=KAP hnW
  have hnb:nby V.n≤72:=by (unfold nby; omega)
  have hnp:nby V.p≤72:=by have:=KAP (Ku hbb.2.1); (unfold nby; omega)
  have hb256:=b0_lt s
  refine KV (N:=102) (rs:=[.cell 4 47,.tmp 5]) [] Tryz.func29 rfl Tryz.ntmps29 Tryz.results29 (Nb rfl) trivial rfl ?_
  refine KB (KA (oS (mk (KK zr_47) (fun b4=>?_))));refine oP (KO (v:=Iz 0) rfl) (KC (KB (KA (oM ?_))));refine oS (oOpen h rfl rfl (fun b f bd=>?_));refine oA (KC (KB (KB (KA (oM ?_)))));refine oP (KI (KAH u81 rfl rfl) (show _ = Value.bool false from rfl)) (KC (KG rfl (KN (KB (KB (KA (oM ?_)))))));refine oP (KI (KCD rfl rfl) (congrArg Value.bool (emp_f hs0))) (KC (KG rfl (KN (KB (rD [] (aM 0 ?_))))));refine aP 1 rfl (KI (Ks u9 rfl rfl om om) (show _ = .int .u8 ((3:Nat):Int) from congrArg (fun n:Nat=>Value.int .u8 ((n:Nat):Int)) hb)) (aP 2 rfl (KAe u5 u3 rfl om) (aM 3 ?_));refine aP 4 rfl (KI (KBF u9 rfl rfl om om) (show _ = Value.string (s.extract 1 s.size) from rfl)) (aA 5 ?_);refine aA 6 ?_;refine aE (KB (KA (oS (mk (KK zr_47) (fun b9=>?_)))));refine KC (KB (KA (oA (KC (KB (LCode.block (KB ?_)))))))
  have hrs:(s.extract 1 s.size).size = s.size-1:=by rw [KAm _ _ _ (Nat.le_refl _)]
  refine KA (oM ?_);refine oP (bF rfl rfl (Kt (b:=2)) dc) (oM ?_);refine oGM ?_;refine oGP (bT rfl rfl (Kt (b:=3)) (rfl)) (oP (KR rfl rfl) (oM ?_));refine oGM ?_;refine oGP (KAI u9 rfl) (oGM ?_);refine oGP (KF rfl) (oGP (KE (o':=0) u100 rfl rfl rfl sz_53 dc) (oGP (KE (o':=57) u53 rfl rfl rfl sz_3 dc) (Km rfl rfl (dL rfl (hv:=KJ u3 rfl (by exact KAy _ _ _ _ _ _ _ _ _ _ _ _ _))) (Nb rfl) ?_)));refine oGP (bF rfl rfl Kt (om)) (oP (Ke rfl rfl) (oA (KC ?_)));refine KG rfl (KB (KA (oM ?_)));refine oP (bF rfl rfl (Kt (b:=4)) dc) (oM ?_);refine oK (oK (oK (oK (oK (oK (oK (oK (oK (oP (KR rfl rfl) (oA (KC ?_)))))))))));refine KG rfl (KB (KA (oP (KI (KW pl_47 zr_47 rfl rfl) KDR) (LOps.step rfl (sA rfl rfl sz_47 (by exact KAB _ _ _) (hl:=by exact KX _ _ _) (h:=?_))))));refine oP (KO (v:=Iz 2102) rfl) (KC (KM (eN (.cons ⟨_,_,_,rfl,mM,by exact KD u47 rfl sz_47⟩ (.cons rfl .nil)) ?_)))
  skip
  rfl
theorem c_s_Get_f4 (id:Int) (V:Cv) (s:ByteArray) (w:World) (h:cvI id = some V) (hs0:s.size≠0) (hs:s.size<9223372036854775808) (hb:b0 s = 4) (hsz:s.size≠1+2*nby V.p):CF Tryz.prog 29 [.int .i64 id,.string s] w (.tuple #[ptV 0 0 false,Iz 2102]):=by
  obtain ⟨hok,hid⟩:=KAz h
  have hbb:=hok.bounds
  have hpW:V.p<W9:=Ku hbb.2.1
  have hnW:V.n<W9:=Ku hbb.2.2.2.2.2.2.1
  have hbl:=KAP hnW
  have hnb:nby V.n≤72:=by (unfold nby; omega)
  have hnp:nby V.p≤72:=by have:=KAP (Ku hbb.2.1); (unfold nby; omega)
  have hb256:=b0_lt s
  refine KV (N:=102) (rs:=[.cell 4 47,.tmp 5]) [] Tryz.func29 rfl Tryz.ntmps29 Tryz.results29 (Nb rfl) trivial rfl ?_
  refine KB (KA (oS (mk (KK zr_47) (fun b4=>?_))));refine oP (KO (v:=Iz 0) rfl) (KC (KB (KA (oM ?_))));refine oS (oOpen h rfl rfl (fun b f bd=>?_));refine oA (KC (KB (KB (KA (oM ?_)))));refine oP (KI (KAH u81 rfl rfl) (show _ = Value.bool false from rfl)) (KC (KG rfl (KN (KB (KB (KA (oM ?_)))))));refine oP (KI (KCD rfl rfl) (congrArg Value.bool (emp_f hs0))) (KC (KG rfl (KN (KB (rD [] (aM 0 ?_))))));refine aP 1 rfl (KI (Ks u9 rfl rfl om om) (show _ = .int .u8 ((4:Nat):Int) from congrArg (fun n:Nat=>Value.int .u8 ((n:Nat):Int)) hb)) (aP 2 rfl (KAe u5 u3 rfl om) (aM 3 ?_));refine aP 4 rfl (KI (KBF u9 rfl rfl om om) (show _ = Value.string (s.extract 1 s.size) from rfl)) (aA 5 ?_);refine aA 6 ?_;refine aE (KB (KA (oS (mk (KK zr_47) (fun b9=>?_)))));refine KC (KB (KA (oA (KC (KB (LCode.block (KB ?_)))))))
  have hrs:(s.extract 1 s.size).size = s.size-1:=by rw [KAm _ _ _ (Nat.le_refl _)]
  refine KA (oM ?_);refine oP (bF rfl rfl (Kt (b:=2)) dc) (oM ?_);refine oGM ?_;refine oGP (bF rfl rfl (Kt (b:=3)) dc) (oP (KR rfl rfl) (oM ?_));refine oK (oK (oK (oK (oK (oK (oK (oK (oP (KR rfl rfl) (oA (KC ?_))))))))));refine KG rfl (KB (KA (oM ?_)));refine oP (bT rfl rfl (Kt (b:=4)) (rfl)) (oM ?_);refine oGM ?_;refine oGP (KAI u9 rfl) (oGM ?_);refine oGP (KF rfl) (oGP (KE (o':=0) u100 rfl rfl rfl sz_53 dc) (oGP (KE (o':=57) u53 rfl rfl rfl sz_3 dc) (Km rfl rfl (dL rfl (hv:=KJ u3 rfl (by exact KAy _ _ _ _ _ _ _ _ _ _ _ _ _))) (Nb rfl) ?_)));refine oGP (KH rfl rfl (KBz (a:=2) om)) (oGP (bF rfl rfl Kt (om)) (oP (Ke rfl rfl) (oA (KC ?_))));refine KG rfl (KB (KA (oP (KI (KW pl_47 zr_47 rfl rfl) KDR) (LOps.step rfl (sA rfl rfl sz_47 (by exact KAB _ _ _) (hl:=by exact KX _ _ _) (h:=?_))))));refine oP (KO (v:=Iz 2102) rfl) (KC (KM (eN (.cons ⟨_,_,_,rfl,mM,by exact KD u47 rfl sz_47⟩ (.cons rfl .nil)) ?_)))
  skip
  rfl
theorem c_s_Get_fo (id:Int) (V:Cv) (s:ByteArray) (w:World) (h:cvI id = some V) (hs0:s.size≠0) (hs:s.size<9223372036854775808) (hb2:b0 s≠2) (hb3:b0 s≠3) (hb4:b0 s≠4):CF Tryz.prog 29 [.int .i64 id,.string s] w (.tuple #[ptV 0 0 false,Iz 2102]):=by
  obtain ⟨hok,hid⟩:=KAz h
  have hbb:=hok.bounds
  have hpW:V.p<W9:=Ku hbb.2.1
  have hnW:V.n<W9:=Ku hbb.2.2.2.2.2.2.1
  have hbl:=KAP hnW
  have hnb:nby V.n≤72:=by (unfold nby; omega)
  have hnp:nby V.p≤72:=by have:=KAP (Ku hbb.2.1); (unfold nby; omega)
  have hb256:=b0_lt s
  refine KV (N:=102) (rs:=[.cell 4 47,.tmp 5]) [] Tryz.func29 rfl Tryz.ntmps29 Tryz.results29 (Nb rfl) trivial rfl ?_
  refine KB (KA (oS (mk (KK zr_47) (fun b4=>?_))));refine oP (KO (v:=Iz 0) rfl) (KC (KB (KA (oM ?_))));refine oS (oOpen h rfl rfl (fun b f bd=>?_));refine oA (KC (KB (KB (KA (oM ?_)))));refine oP (KI (KAH u81 rfl rfl) (show _ = Value.bool false from rfl)) (KC (KG rfl (KN (KB (KB (KA (oM ?_)))))));refine oP (KI (KCD rfl rfl) (congrArg Value.bool (emp_f hs0))) (KC (KG rfl (KN (KB (rD [] (aM 0 ?_))))));refine aP 1 rfl (KI (Ks u9 rfl rfl om om) (show _ = .int .u8 (((b0 s):Nat):Int) from congrArg (fun n:Nat=>Value.int .u8 ((n:Nat):Int)) rfl)) (aP 2 rfl (KAe u5 u3 rfl om) (aM 3 ?_));refine aP 4 rfl (KI (KBF u9 rfl rfl om om) (show _ = Value.string (s.extract 1 s.size) from rfl)) (aA 5 ?_);refine aA 6 ?_;refine aE (KB (KA (oS (mk (KK zr_47) (fun b9=>?_)))));refine KC (KB (KA (oA (KC (KB (LCode.block (KB ?_)))))))
  have hrs:(s.extract 1 s.size).size = s.size-1:=by rw [KAm _ _ _ (Nat.le_refl _)]
  refine KA (oM ?_);refine oP (bF rfl rfl (Kt (b:=2)) (om)) (oM ?_);refine oGM ?_;refine oGP (bF rfl rfl (Kt (b:=3)) (om)) (oP (KR rfl rfl) (oM ?_));refine oK (oK (oK (oK (oK (oK (oK (oK (oP (KR rfl rfl) (oA (KC ?_))))))))));refine KG rfl (KB (KA (oM ?_)));refine oP (bF rfl rfl (Kt (b:=4)) (om)) (oM ?_);refine oK (oK (oK (oK (oK (oK (oK (oK (oK (oP (KR rfl rfl) (oA (KC ?_)))))))))));refine KG rfl (KB (KA (oP (KI (KW pl_47 zr_47 rfl rfl) KDR) (LOps.step rfl (sA rfl rfl sz_47 (by exact KAB _ _ _) (hl:=by exact KX _ _ _) (h:=?_))))));refine oP (KO (v:=Iz 2102) rfl) (KC (KM (eN (.cons ⟨_,_,_,rfl,mM,by exact KD u47 rfl sz_47⟩ (.cons rfl .nil)) ?_)))
  skip
  rfl
theorem c_s_Get_l (id:Int) (V:Cv) (s:ByteArray) (X Y:Nat) (ok:Bool) (w:World) (h:cvI id = some V) (hsz:s.size = 1+2*nby V.p) (hb:b0 s = 4) (hX:beVal (s.extract 1 (1+nby V.p)).data.toList = X) (hY:beVal (s.extract (1+nby V.p) s.size).data.toList = Y) (hXw:X<W9) (hYw:Y<W9) (hl:onB V.p V.a V.b X Y false = ok):CF Tryz.prog 29 [.int .i64 id,.string s] w (getV V s):=by
  obtain ⟨hok,hid⟩:=KAz h
  have hbb:=hok.bounds
  have hpW:V.p<W9:=Ku hbb.2.1
  have hnW:V.n<W9:=Ku hbb.2.2.2.2.2.2.1
  have hbl:=KAP hnW
  have hnb:nby V.n≤72:=by (unfold nby; omega)
  have hnp:nby V.p≤72:=by have:=KAP (Ku hbb.2.1); (unfold nby; omega)
  have hs0:s.size≠0:=by omega
  refine KV (N:=102) (rs:=[.cell 4 47,.tmp 5]) [] Tryz.func29 rfl Tryz.ntmps29 Tryz.results29 (Nb rfl) trivial rfl ?_
  refine KB (KA (oS (mk (KK zr_47) (fun b4=>?_))));refine oP (KO (v:=Iz 0) rfl) (KC (KB (KA (oM ?_))));refine oS (oOpen h rfl rfl (fun b f bd=>?_));refine oA (KC (KB (KB (KA (oM ?_)))));refine oP (KI (KAH u81 rfl rfl) (show _ = Value.bool false from rfl)) (KC (KG rfl (KN (KB (KB (KA (oM ?_)))))));refine oP (KI (KCD rfl rfl) (congrArg Value.bool (emp_f hs0))) (KC (KG rfl (KN (KB (rD [] (aM 0 ?_))))));refine aP 1 rfl (KI (Ks u9 rfl rfl om om) (show _ = .int .u8 ((4:Nat):Int) from congrArg (fun n:Nat=>Value.int .u8 ((n:Nat):Int)) hb)) (aP 2 rfl (KAe u5 u3 rfl om) (aM 3 ?_));refine aP 4 rfl (KI (KBF u9 rfl rfl om om) (show _ = Value.string (s.extract 1 s.size) from rfl)) (aA 5 ?_);refine aA 6 ?_;refine aE (KB (KA (oS (mk (KK zr_47) (fun b9=>?_)))));refine KC (KB (KA (oA (KC (KB (LCode.block (KB ?_)))))))
  have hrs:(s.extract 1 s.size).size = s.size-1:=by rw [KAm _ _ _ (Nat.le_refl _)]
  refine KA (oM ?_);refine oP (bF rfl rfl (Kt (b:=2)) dc) (oM ?_);refine oGM ?_;refine oGP (bF rfl rfl (Kt (b:=3)) dc) (oP (KR rfl rfl) (oM ?_));refine oK (oK (oK (oK (oK (oK (oK (oK (oP (KR rfl rfl) (oA (KC ?_))))))))));refine KG rfl (KB (KA (oM ?_)));refine oP (bT rfl rfl (Kt (b:=4)) (rfl)) (oM ?_);refine oGM ?_;refine oGP (KAI u9 rfl) (oGM ?_);refine oGP (KF rfl) (oGP (KE (o':=0) u100 rfl rfl rfl sz_53 dc) (oGP (KE (o':=57) u53 rfl rfl rfl sz_3 dc) (Km rfl rfl (dL rfl (hv:=KJ u3 rfl (by exact KAy _ _ _ _ _ _ _ _ _ _ _ _ _))) (Nb rfl) ?_)));refine oGP (KH rfl rfl (KBz (a:=2) om)) (oGP (bT rfl rfl Kt (om)) (oP (Ke rfl rfl) (oA (KC ?_))));refine KS rfl (KB (LCode.sub (Sub.cells (b:=b9) (cs':=ptL 0 0 false) mT ptX_zero) ?_));refine KA (oM (oM ?_));refine oP (KF rfl) (oP (KE (o':=0) u100 rfl rfl rfl sz_53 dc) (oP (KE (o':=57) u53 rfl rfl rfl sz_3 dc) (oD (dL rfl (hv:=KJ u3 rfl (by exact KAy _ _ _ _ _ _ _ _ _ _ _ _ _))) ?_)))
  refine oP (KI (KCh u9 rfl rfl om om) (show _ = Value.string (s.extract 1 (1+nby V.p)) from by rw [Int.toNat_natCast,ext_ext s _ om])) ?_;refine oS (cF rfl en_49 rfl (fun w hw=>KCp X (s.extract 1 (1+nby V.p)) w (by rw [KAm _ _ _ om]; omega) hX) ?_);refine oM ?_;refine oX ?_;refine oX ?_;refine oP (KE (o':=0) u47 rfl rfl rfl sz_33 dc) ?_;refine LOps.step rfl (Kl rfl rfl rfl sz_33 (KL _) (Kv _) mT (by simp only [KX]; decide) (ptX_set0 _ _ _ _) (by simp) ?_);refine KC (KB (KA (oM (oM ?_))));refine oP (KF rfl) (oP (KE (o':=0) u100 rfl rfl rfl sz_53 dc) (oP (KE (o':=57) u53 rfl rfl rfl sz_3 dc) (oD (dL rfl (hv:=KJ u3 rfl (by exact KAy _ _ _ _ _ _ _ _ _ _ _ _ _))) ?_)));refine oP (KI (KBF u9 rfl rfl om om) (show _ = Value.string (s.extract (1+nby V.p) s.size) from by rw [Int.toNat_natCast,ext_ext2 s _ om])) ?_
  refine oS (cF rfl en_49 rfl (fun w hw=>KCp Y (s.extract (1+nby V.p) s.size) w (by rw [KAm _ _ _ (Nat.le_refl _)]; omega) hY) ?_);refine oM ?_;refine oX ?_;refine oX ?_;refine oP (KE (o':=9) u47 rfl rfl rfl sz_33 dc) ?_;refine LOps.step rfl (Kl rfl rfl rfl sz_33 (KL _) (Kv _) mT (by simp only [KX]; decide) (ptX_set9 _ _ _ _) (by simp) ?_);refine KC ?_
  cases ok
  ·
   refine KA (oM ?_);refine oD dNb ?_;refine oS (cF rfl en_55 rfl (fun w hw=>c_cOnV false V b f bd hok X Y false w (mC hw) (mC hw) (mC hw) hXw hYw hl) ?_);refine oA (KC (KB (KB (KA (oM ?_)))));refine oP (KI (KAE rfl) (show _ = Value.bool true from rfl)) (KC (KS rfl (KB (KA (oP (KI (KW pl_47 zr_47 rfl rfl) KDR) (LOps.step rfl (sA rfl rfl sz_47 (by exact KAB _ _ _) (hl:=by exact KX _ _ _) (h:=?_))))))));refine oP (KO (v:=Iz 2101) rfl) (KC (KM (eN (.cons ⟨_,_,_,rfl,mM,by exact KD u47 rfl sz_47⟩ (.cons rfl .nil)) ?_)))
   subst hX hY
   rw [KCr (get_longF hsz hb hl)]
   rfl
  refine KA (oM ?_);refine oD dNb ?_;refine oS (cF rfl en_55 rfl (fun w hw=>c_cOnV true V b f bd hok X Y false w (mC hw) (mC hw) (mC hw) hXw hYw hl) ?_);refine oA (KC (KB (KB (KA (oM ?_)))));refine oP (KI (KAE rfl) (show _ = Value.bool false from rfl)) (KC (KG rfl (KN (KB (KA (oD dNb ?_))))));refine LOps.step rfl (sA rfl rfl sz_47 (by exact KAB _ _ _) (hl:=by exact KX _ _ _) (h:=?_));refine oP (KO (v:=Iz 0) rfl) (KC (KM (eN (.cons ⟨_,_,_,rfl,mM,by exact KD u47 rfl sz_47⟩ (.cons rfl .nil)) ?_)))
  subst hX hY
  rw [KCr (get_long hsz hb hl)]
  unfold getX getY
  rfl
theorem c_s_Get4 (id:Int) (V:Cv) (s:ByteArray) (X Y:Nat) (w:World) (h:cvI id = some V) (hsz:s.size = 1+2*nby V.p) (hb:b0 s = 4) (hX:beVal (s.extract 1 (1+nby V.p)).data.toList = X) (hY:beVal (s.extract (1+nby V.p) s.size).data.toList = Y) (hXw:X<W9) (hYw:Y<W9) (hl:onB V.p V.a V.b X Y false = true):CF Tryz.prog 29 [.int .i64 id,.string s] w (.tuple #[ptV X Y false,Iz 0]):=by
  obtain ⟨hok,hid⟩:=KAz h
  have hbb:=hok.bounds
  have hpW:V.p<W9:=Ku hbb.2.1
  have hnW:V.n<W9:=Ku hbb.2.2.2.2.2.2.1
  have hbl:=KAP hnW
  have hnb:nby V.n≤72:=by (unfold nby; omega)
  have hnp:nby V.p≤72:=by have:=KAP (Ku hbb.2.1); (unfold nby; omega)
  have hs0:s.size≠0:=by omega
  refine KV (N:=102) (rs:=[.cell 4 47,.tmp 5]) [] Tryz.func29 rfl Tryz.ntmps29 Tryz.results29 (Nb rfl) trivial rfl ?_
  refine KB (KA (oS (mk (KK zr_47) (fun b4=>?_))));refine oP (KO (v:=Iz 0) rfl) (KC (KB (KA (oM ?_))));refine oS (oOpen h rfl rfl (fun b f bd=>?_));refine oA (KC (KB (KB (KA (oM ?_)))));refine oP (KI (KAH u81 rfl rfl) (show _ = Value.bool false from rfl)) (KC (KG rfl (KN (KB (KB (KA (oM ?_)))))));refine oP (KI (KCD rfl rfl) (congrArg Value.bool (emp_f hs0))) (KC (KG rfl (KN (KB (rD [] (aM 0 ?_))))));refine aP 1 rfl (KI (Ks u9 rfl rfl om om) (show _ = .int .u8 ((4:Nat):Int) from congrArg (fun n:Nat=>Value.int .u8 ((n:Nat):Int)) hb)) (aP 2 rfl (KAe u5 u3 rfl om) (aM 3 ?_));refine aP 4 rfl (KI (KBF u9 rfl rfl om om) (show _ = Value.string (s.extract 1 s.size) from rfl)) (aA 5 ?_);refine aA 6 ?_;refine aE (KB (KA (oS (mk (KK zr_47) (fun b9=>?_)))));refine KC (KB (KA (oA (KC (KB (LCode.block (KB ?_)))))))
  have hrs:(s.extract 1 s.size).size = s.size-1:=by rw [KAm _ _ _ (Nat.le_refl _)]
  refine KA (oM ?_);refine oP (bF rfl rfl (Kt (b:=2)) dc) (oM ?_);refine oGM ?_;refine oGP (bF rfl rfl (Kt (b:=3)) dc) (oP (KR rfl rfl) (oM ?_));refine oK (oK (oK (oK (oK (oK (oK (oK (oP (KR rfl rfl) (oA (KC ?_))))))))));refine KG rfl (KB (KA (oM ?_)));refine oP (bT rfl rfl (Kt (b:=4)) (rfl)) (oM ?_);refine oGM ?_;refine oGP (KAI u9 rfl) (oGM ?_);refine oGP (KF rfl) (oGP (KE (o':=0) u100 rfl rfl rfl sz_53 dc) (oGP (KE (o':=57) u53 rfl rfl rfl sz_3 dc) (Km rfl rfl (dL rfl (hv:=KJ u3 rfl (by exact KAy _ _ _ _ _ _ _ _ _ _ _ _ _))) (Nb rfl) ?_)));refine oGP (KH rfl rfl (KBz (a:=2) om)) (oGP (bT rfl rfl Kt (om)) (oP (Ke rfl rfl) (oA (KC ?_))));refine KS rfl (KB (LCode.sub (Sub.cells (b:=b9) (cs':=ptL 0 0 false) mT ptX_zero) ?_));refine KA (oM (oM ?_));refine oP (KF rfl) (oP (KE (o':=0) u100 rfl rfl rfl sz_53 dc) (oP (KE (o':=57) u53 rfl rfl rfl sz_3 dc) (oD (dL rfl (hv:=KJ u3 rfl (by exact KAy _ _ _ _ _ _ _ _ _ _ _ _ _))) ?_)))
  refine oP (KI (KCh u9 rfl rfl om om) (show _ = Value.string (s.extract 1 (1+nby V.p)) from by rw [Int.toNat_natCast,ext_ext s _ om])) ?_;refine oS (cF rfl en_49 rfl (fun w hw=>KCp X (s.extract 1 (1+nby V.p)) w (by rw [KAm _ _ _ om]; omega) hX) ?_);refine oM ?_;refine oX ?_;refine oX ?_;refine oP (KE (o':=0) u47 rfl rfl rfl sz_33 dc) ?_;refine LOps.step rfl (Kl rfl rfl rfl sz_33 (KL _) (Kv _) mT (by simp only [KX]; decide) (ptX_set0 _ _ _ _) (by simp) ?_);refine KC (KB (KA (oM (oM ?_))));refine oP (KF rfl) (oP (KE (o':=0) u100 rfl rfl rfl sz_53 dc) (oP (KE (o':=57) u53 rfl rfl rfl sz_3 dc) (oD (dL rfl (hv:=KJ u3 rfl (by exact KAy _ _ _ _ _ _ _ _ _ _ _ _ _))) ?_)));refine oP (KI (KBF u9 rfl rfl om om) (show _ = Value.string (s.extract (1+nby V.p) s.size) from by rw [Int.toNat_natCast,ext_ext2 s _ om])) ?_
  refine oS (cF rfl en_49 rfl (fun w hw=>KCp Y (s.extract (1+nby V.p) s.size) w (by rw [KAm _ _ _ (Nat.le_refl _)]; omega) hY) ?_);refine oM ?_;refine oX ?_;refine oX ?_;refine oP (KE (o':=9) u47 rfl rfl rfl sz_33 dc) ?_;refine LOps.step rfl (Kl rfl rfl rfl sz_33 (KL _) (Kv _) mT (by simp only [KX]; decide) (ptX_set9 _ _ _ _) (by simp) ?_);refine KC (KA (oM ?_));refine oD dNb ?_;refine oS (cF rfl en_55 rfl (fun w hw=>c_cOnV true V b f bd hok X Y false w (mC hw) (mC hw) (mC hw) hXw hYw hl) ?_);refine oA (KC (KB (KB (KA (oM ?_)))));refine oP (KI (KAE rfl) (show _ = Value.bool false from rfl)) (KC (KG rfl (KN (KB (KA (oD dNb ?_))))));refine LOps.step rfl (sA rfl rfl sz_47 (by exact KAB _ _ _) (hl:=by exact KX _ _ _) (h:=?_));refine oP (KO (v:=Iz 0) rfl) (KC (KM (eN (.cons ⟨_,_,_,rfl,mM,by exact KD u47 rfl sz_47⟩ (.cons rfl .nil)) ?_)))
  skip
  rfl
theorem nby_posV {V:Cv} (hok:V.Ok):1≤nby V.p:=by
  have hb:=hok.bounds
  have:=KCS V.p
  unfold nby
  rcases Nat.eq_zero_or_pos (blen V.p) with h|h
  · rw [h] at this; omega
  · omega
theorem getX_w9 {V:Cv} (hnb:nby V.p≤72) {s:ByteArray} (h:1+nby V.p≤s.size):getX V s<W9:=KCV (by show (s.extract 1 (1+nby V.p)).size≤72; rw [KAm _ _ _ h]; omega)
theorem getY_w9 {V:Cv} (hnb:nby V.p≤72) {s:ByteArray} (h:s.size = 1+2*nby V.p):getY V s<W9:=KCV (by show (s.extract (1+nby V.p) s.size).size≤72; rw [KAm _ _ _ (Nat.le_refl _)]; omega)
theorem nbp_72 {V:Cv} (hok:V.Ok):nby V.p≤72:=by have:=KAP (Ku hok.bounds.2.1); (unfold nby; omega)
theorem c_s_Get (id:Int) (V:Cv) (s:ByteArray) (w:World) (h:cvI id = some V) (hs:s.size<9223372036854775808):CF Tryz.prog 29 [.int .i64 id,.string s] w (getV V s):=by
  obtain ⟨hok,-⟩:=KAz h
  have hnb:=nbp_72 hok
  have hk1:=nby_posV hok
  by_cases h0:s.size = 0
  · have e : s = ⟨#[]⟩ := by
      obtain ⟨d⟩:=s
      have h1:d.size = 0:=h0
      rw [Array.size_eq_zero_iff.1 h1]
    rw [KCr (get_form om om),e]
    exact c_s_Get_emp id V w h
  · by_cases h2:b0 s = 2
    · by_cases h1:s.size = 1+nby V.p
      · have hx:beVal (s.extract 1 s.size).data.toList = getX V s:=by unfold getX; rw [← h1]
        exact c_s_Get_s0 id V s (getX V s) (liftT V (getX V s) 0).1 (liftT V (getX V s) 0).2.1 (liftT V (getX V s) 0).2.2 w h h1 h2 hx (getX_w9 hnb om) rfl
      · rw [KCr (get_form om om)]
        exact c_s_Get_f2 id V s w h h0 hs h2 h1
    · by_cases h3:b0 s = 3
      · by_cases h1:s.size = 1+nby V.p
        · have hx:beVal (s.extract 1 s.size).data.toList = getX V s:=by unfold getX; rw [← h1]
          exact c_s_Get_s1 id V s (getX V s) (liftT V (getX V s) 1).1 (liftT V (getX V s) 1).2.1 (liftT V (getX V s) 1).2.2 w h h1 h3 hx (getX_w9 hnb om) rfl
        · rw [KCr (get_form om om)]
          exact c_s_Get_f3 id V s w h h0 hs h3 h1
      · by_cases h4:b0 s = 4
        · by_cases h1:s.size = 1+2*nby V.p
          · exact c_s_Get_l id V s (getX V s) (getY V s) _ w h h1 h4 rfl rfl (getX_w9 hnb om) (getY_w9 hnb h1) rfl
          · rw [KCr (get_form om om)]
            exact c_s_Get_f4 id V s w h h0 hs h4 h1
        · rw [KCr (get_form om om)]
          exact c_s_Get_fo id V s w h h0 hs h2 h3 h4
end Go.Proofs.YtnpeokiboiclfaaGreat
set_option linter.unusedVariables false
set_option linter.unusedSimpArgs false
set_option maxRecDepth 20000
namespace Go.Proofs.YtnpeokiboiclfaaGreat
open Go Go.RowKit
theorem Rel.setOwn {C : Ctx} {st : St} {a : Act} {w w' : World} (h : Rel C st a w) {x x' : Item} {R : List Item} (hp : Pick x st.H R) (hx : x.wr = true) (hx' : x'.holds w')
    (hnew:∀ k,k∈x'.fp→w.heap.size≤k∨k∈x.fp) (hf:Fr (fun k=>k∈x.fp) w w'):Rel C ⟨st.T,x' :: R⟩ a w':=by
  have hpm:=hp.perm
  have hdist:(x :: R).Pairwise Apart:=(hpm.pairwise_iff (fun h=>Apart.symm h)).1 h.dist
  obtain ⟨hXR,hR⟩:=List.pairwise_cons.1 hdist
  have inR:∀ y,y∈R→y∈st.H:=fun y hy=>hpm.mem_iff.2 (.tail _ hy)
  have inX:x∈st.H:=hpm.mem_iff.2 (.head _)
  refine ⟨h.size,h.defers,h.tm,fun y hy=>?_,fun y hy hw k hk=>?_,?_,?_⟩
  · rcases List.mem_cons.1 hy with rfl|hy
    · exact hx'
    · have hold:=h.hp y (inR y hy)
      exact KAq hold (fun k hk=>hf.block k (Item.lt hold k hk) (fun hkx=>hXR y hy (.inl hx) k hkx hk)) hf.size
  · rcases List.mem_cons.1 hy with rfl|hy
    · rcases hnew k hk with h1|h1
      · exact .inl (Nat.le_trans h.fr.size h1)
      · exact h.own x inX hx k h1
    · exact h.own y (inR y hy) hw k hk
  · refine List.pairwise_cons.2 ⟨fun y hy _ k hk hk'=>?_,hR⟩
    rcases hnew k hk with h1|h1
    · have:=Item.lt (h.hp y (inR y hy)) k hk'
      omega
    · exact hXR y hy (.inl hx) k h1 hk'
  · refine ⟨hf.os.trans h.fr.os,hf.tape.trans h.fr.tape,hf.output.trans h.fr.output,Nat.le_trans h.fr.size hf.size,fun k hk1 hk2=>?_⟩
    refine (hf.block k (Nat.lt_of_lt_of_le hk1 h.fr.size) (fun hkx=>?_)).trans (h.fr.block k hk1 hk2)
    rcases h.own x inX hx k hkx with h1|h1
    · omega
    · exact hk2 h1
abbrev TrRow:=Option (Nat×Nat×List Value)
def trV (b:Option Nat):Value:=.pointer (b.map fun b=>⟨b,0,none⟩)
def evsL (l:List Nat):List Value:=l.flatMap fun k=>[Iz 2,Iz k]
theorem evsL_length (l:List Nat):(evsL l).length = l.length*2:=by
  induction l with
  | nil=>rfl
  | cons k l ih =>
    show ([Iz 2,Iz k]++evsL l).length = _
    rw [List.length_append,ih,List.length_cons]; show 2+l.length*2 = (l.length+1)*2; omega
theorem evsL_snoc (l:List Nat) (k:Nat):evsL (l++[k]) = evsL l++[Iz 2,Iz k]:=by simp [evsL]
def trSl (r:TrRow) (n:Nat):Value:=match r with
  | none=>.slice none 0 0
  | some r=>.slice (some ⟨r.1,0,none⟩) n r.2.1
def trFp (b:Option Nat) (r:TrRow):List Nat:=match b with
  | none=>[]
  | some b=>match r with
    | none=>[b]
    | some r=>[b,r.1]
def trP (b:Option Nat) (r:TrRow) (l:List Nat) (w:World):Prop:=match b with
  | none=>True
  | some b=>w.heap[b]? = some (.cells [trSl r l.length].toArray 224 (0,0))∧match r with
    | none=>l = []
    | some r=>w.heap[r.1]? = some (.cells (evsL l++r.2.2).toArray 313 (0,0))∧(evsL l).length+r.2.2.length = r.2.1*2∧r.1≠b
def trI (b:Option Nat) (r:TrRow) (l:List Nat):Item:=.own (trFp b r) (trP b r l)
theorem trI_P {b:Option Nat} {r:TrRow} {l:List Nat} {w:World} (h:(trI b r l).holds w):trP b r l w:=h.2 w (KCz _ _)
theorem trI_of {b:Option Nat} {r:TrRow} {l:List Nat} {w:World} (h:trP b r l w):(trI b r l).holds w:=by
  rcases b with _|b
  · exact ⟨fun k hk=>(by cases hk),fun _ _=>trivial⟩
  · rcases r with _|r
    · obtain ⟨h1,h2⟩:=h
      refine ⟨fun k hk=>?_,fun w' ha=>⟨(ha b (.head _)).trans h1,h2⟩⟩
      have:k = b:=by simpa [trFp] using hk
      subst this; exact KDB h1
    · obtain ⟨h1,h2,h3,h4⟩:=h
      refine ⟨fun k hk=>?_,fun w' ha=>⟨(ha b (.head _)).trans h1,(ha r.1 (.tail _ (.head _))).trans h2,h3,h4⟩⟩
      have:k = b∨k = r.1:=by simpa [trFp] using hk
      rcases this with rfl|rfl
      · exact KDB h1
      · exact KDB h2
theorem trI_nil (l:List Nat) (w:World):(trI none none l).holds w:=trI_of trivial
def Out (b:Option Nat) (r:TrRow) (x:Item):Prop:=∀ k,k∈trFp b r→k ∉ x.fp
theorem Out.nil (r:TrRow) (x:Item):Out none r x:=fun k hk=>by cases hk
def Outs (b:Option Nat) (r:TrRow):List Item→Prop
  | []=>True
  | x :: t=>Out b r x∧Outs b r t
theorem Outs.mem {b:Option Nat} {r:TrRow} {H:List Item} (h:Outs b r H):∀ x,x∈H→Out b r x:=by
  induction H with
  | nil=>intro x hx; cases hx
  | cons y t ih =>
    intro x hx
    rcases List.mem_cons.1 hx with rfl|hx
    · exact h.1
    · exact ih h.2 x hx
def TrR (w:World) (b:Option Nat) (r:TrRow) (l:List Nat) (v:Value) (e:Ending) (w':World):Prop :=
  ∃ r',e = .returned v∧(trI b r' l).holds w'∧(∀ k,k∈trFp b r'→w.heap.size≤k∨k∈trFp b r)∧Fr (fun k=>k∈trFp b r) w w'
theorem TrR.nil {w:World} {r:TrRow} {l:List Nat} {v:Value} {e:Ending} {w':World} (h:TrR w none r l v e w'):e = .returned v∧Below w.heap.size w w':=by
  obtain ⟨_,h1,_,_,h2⟩:=h
  exact ⟨h1,h2.os,h2.tape,h2.output,h2.size,fun k hk=>h2.block k hk (fun hk'=>by cases hk')⟩
theorem TrR.same {w:World} {b:Option Nat} {r:TrRow} {l:List Nat} {v:Value} {e:Ending} {w':World} (h:(trI b r l).holds w) (he:e = .returned v) (hb:Below w.heap.size w w'):TrR w b r l v e w' :=
  ⟨r,he,KAq h (fun k hk=>hb.block k (Item.lt h k hk)) hb.size,fun k hk=>.inr hk,hb.os,hb.tape,hb.output,hb.size,fun k hk _=>hb.block k hk⟩
section
variable {P:Program} {C:Ctx} {ty:TypeId} {pos:String} {aft:Array Edge} {d:Nat} {K:St→Prop} {x:Operand} {v:Value}
theorem KBu {T : List (Nat × Value)} {H R : List Item} {f : FuncId} {xs : List Operand} {vs first : List Value} {ats : Array TypeId} {g : Option (Nat × Bool)} {b : Option Nat} {r : TrRow} {l l' : List Nat} (hf : evT T x = some (.func (.func f) first.toArray #[])) (he : KZ P f) (ha : evL T xs = some vs) (hd : d < C.N)
    (hp:Pick (trI b r l) H R)
    (hc:∀ w,(∀ x,x∈H→x.holds w)→(∀ y,y∈R→Out b r y)→Calls P f (first++vs).toArray w (TrR w b r l' v))
    (h:∀ r',K ⟨(d,v) :: T,trI b r' l' :: R⟩):KAa P C ⟨some d,.call { callee:=.value x,args:=xs.toArray,argTypes:=ats },ty,pos,aft,g⟩ ⟨T,H⟩ K:=by
  unfold KAa
  intro a w hr Qr
  obtain ⟨fn,h1,h2,h3⟩:=he
  have hdist:(trI b r l :: R).Pairwise Apart:=(hp.perm.pairwise_iff (fun h=>Apart.symm h)).1 hr.dist
  refine wp_callee (vs:=first++vs) ?_ (hc w hr.hp (fun y hy k hk=>(List.pairwise_cons.1 hdist).1 y hy (.inl rfl) k hk)) ?_
  · have:=hr.evs ha
    simp [execOp,resolve,hr.ev hf,Deferred.ofValue,invoke,run_call h1 h2 h3,this]
  · rintro e' w' ⟨r',rfl,hits,hnew,hfr⟩
    exact ⟨v,rfl,_,h r',(hr.setOwn hp rfl hits hnew hfr).put hd v⟩
end
theorem calls_tr {P : Program} {f : FuncId} {fn : Func} {c : Code} {vs : List Value} {w : World} (b : Option Nat) (r : TrRow) (l : List Nat) (H : List Item) {rs : List ResultVar} {N : Nat} {R : Ending → World → Prop} (hf : P.funcs[f]? = some fn) (hb : fn.body = some c) (hn : fn.ntmps = N) (hs : fn.results = rs.toArray)
    (hlen:vs.length≤N) (h0:(trI b r l).holds w) (hH:Hold w H) (hro:H.all (fun x=>!x.wr) = true) (hne:Outs b r H)
    (h:LCode P ⟨w,fun k=>k∈trFp b r,N⟩ c ⟨argT 0 vs,trI b r l :: H⟩ (LEnd P ⟨w,fun k=>k∈trFp b r,N⟩ rs fun v _ w'=>R (.returned v) w')):Calls P f vs.toArray w R:=by
  have hr:∀ x,x∈H→x.wr = false:=by
    intro x hx
    have:=List.all_eq_true.1 hro x hx
    simpa using this
  refine KDd hf hb hn hs hlen ?_ ?_ ?_ h
  · intro x hx
    rcases List.mem_cons.1 hx with rfl|hx
    · exact h0
    · exact hH.mem x hx
  · intro x hx hw k hk
    rcases List.mem_cons.1 hx with rfl|hx
    · exact hk
    · rw [hr x hx] at hw; cases hw
  · exact List.pairwise_cons.2 ⟨fun y hy _ k hk hk'=>hne.mem y hy k hk hk',List.pairwise_of_forall_mem_list (fun x hx y hy hw=>(by rw [hr x hx,hr y hy] at hw; rcases hw with hw|hw <;> cases hw))⟩
theorem Rel.tr {w:World} {b:Option Nat} {r r':TrRow} {l:List Nat} {N:Nat} {st:St} {a:Act} {w':World} {v:Value} (h:Rel ⟨w,fun k=>k∈trFp b r,N⟩ st a w') (hm:trI b r' l∈st.H):TrR w b r l v (.returned v) w' :=
  ⟨r',rfl,h.hp _ hm,fun k hk=>h.own _ hm rfl k hk,h.fr⟩
theorem calls_wM {P : Program} {f : FuncId} {fn : Func} {c : Code} {vs : List Value} {w : World} (X : List Item) (W : Nat → Prop) {rs : List ResultVar} {N : Nat} {R : Ending → World → Prop} (hf : P.funcs[f]? = some fn) (hb : fn.body = some c) (hn : fn.ntmps = N) (hs : fn.results = rs.toArray)
    (hlen:vs.length≤N) (hX:Hold w X) (hd:X.Pairwise Apart) (hW:∀ x,x∈X→x.wr = true→∀ k,k∈x.fp→W k)
    (h:LCode P ⟨w,W,N⟩ c ⟨argT 0 vs,X⟩ (LEnd P ⟨w,W,N⟩ rs fun v _ w'=>R (.returned v) w')):Calls P f vs.toArray w R :=
  KDd hf hb hn hs hlen hX.mem hW hd h
theorem apart_two {H:List Item} (h:H.Pairwise Apart) {b c:Nat} {B D:Blk} (hx:Item.blk b B∈H) (hy:Item.blk c D∈H) (hw:B.wr = true) (hne:B.elem≠D.elem):c≠b:=by
  rintro rfl
  have hne':Item.blk c B≠Item.blk c D:=fun e=>by injection e with _ e; exact hne (congrArg Blk.elem e)
  have key:∀ (l:List Item),l.Pairwise Apart→Item.blk c B∈l→Item.blk c D∈l→False:=by
    intro l hl h1 h2
    induction l with
    | nil=>cases h1
    | cons q l ih =>
      obtain ⟨g1,g2⟩:=List.pairwise_cons.1 hl
      rcases List.mem_cons.1 h1 with e1|k1 <;> rcases List.mem_cons.1 h2 with e2|k2
      · exact hne' (e1.trans e2.symm)
      · subst e1; exact g1 (.blk c D) k2 (.inl hw) c (.head _) (.head _)
      · subst e2; exact g1 (.blk c B) k1 (.inr hw) c (.head _) (.head _)
      · exact ih g2 k1 k2
  exact key H h hx hy
section
variable {P:Program} {C:Ctx} {ty:TypeId} {pos:String} {aft:Array Edge} {d:Nat} {K:St→Prop} {x y:Operand} {t e:TypeId}
theorem LStepW.appendSM {s : Nat} {T : List (Nat × Value)} {H H0 : List Item} {b a0 c0 n cap m bytes : Nat} {zv : Value} {xs rest news cs more : List Value} {wr : Bool} {ea : TypeId} {fz : Nat × Nat} {g : Option (Nat × Bool)} (hx : evT T x = some (.slice (some ⟨b, 0, none⟩) n cap)) (hy : evT T y = some (.slice (some ⟨a0, 0, none⟩) m c0))
    (ht:P.underlying t = some (.slice e)) (hi:infOf P e = some (zv,s,bytes)) (hz0:zv.cells.size = s) (hp:Pick (.blk b ⟨true,xs++rest,e,(0,0)⟩) H H0) (hm:Item.blk a0 ⟨wr,cs,ea,fz⟩∈H0) (hcs:cs = news++more) (hxl:xs.length = n*s) (hcl:xs.length+rest.length = cap*s) (hml:news.length = m*s) (ho:KBP news)
    (hn:(n+m)*bytes≤140737488355328) (hn2:n+m≤1000000000) (hd:d<C.N)
    (h:∀ b' cap' rest',xs.length+news.length+rest'.length = cap'*s→K ⟨(d,.slice (some ⟨b',0,none⟩) (n+m) cap') :: T,.blk b' ⟨true,(xs++news)++rest',e,(0,0)⟩ :: H0⟩):KAa P C ⟨some d,.call { callee:=.builtin .append,args:=#[x,y],argTypes:=#[t,t] },ty,pos,aft,g⟩ ⟨T,H⟩ K:=by
  unfold KAa
  intro a w hr Qr
  obtain ⟨i,hi1,hi3,hi2,hi4⟩:=inf_spec hi
  have hpm:=hp.perm
  have hin:Item.blk b ⟨true,xs++rest,e,(0,0)⟩∈H:=hpm.mem_iff.2 (.head _)
  have hb:w.heap[b]? = some (.cells (xs++rest).toArray e (0,0)):=hr.hp _ hin
  have ha:w.heap[a0]? = some (.cells cs.toArray ea fz):=hr.hp _ (hpm.mem_iff.2 (.tail _ hm))
  subst hcs
  have hpos:=hr.own _ hin rfl b (by simp [Item.fp])
  have hdd:(Item.blk b ⟨true,xs++rest,e,(0,0)⟩ :: H0).Pairwise Apart:=(List.Perm.pairwise_iff (fun h=>Apart.symm h) hpm).1 hr.dist
  obtain ⟨hd1,hd2⟩:=List.pairwise_cons.1 hdd
  have hmm:∀ x,x∈H0→x∈H:=fun x hx=>hpm.mem_iff.2 (.tail _ hx)
  have hnews:∀ j u,news[j]? = some u→w.cell? ((⟨a0,0,none⟩:Addr).add j) = some u:=fun j u hj=>by
    have hadd:(⟨a0,0,none⟩:Addr).add j = ⟨a0,0+j,none⟩:=by unfold Addr.add; split <;> simp_all
    rw [hadd,cellOf ha,Nat.zero_add,List.getElem?_append_left (by rcases Nat.lt_or_ge j news.length with h'|h'; exact h'; rw [List.getElem?_eq_none h'] at hj; cases hj)]; exact hj
  have hsel:Rel C ⟨T,H0⟩ a w:=⟨hr.size,hr.defers,hr.tm,fun x hx=>hr.hp x (hmm x hx),fun x hx=>hr.own x (hmm x hx),hd2,hr.fr⟩
  unfold Oper.wp
  by_cases hroom:n+m≤cap
  · have hrr:=run_append_room (P:=P) w t ty e i ht hi1 b n cap (xs++rest).toArray hb ⟨a0,0,none⟩ m c0 news (by rw [hi2]; exact hml) hnews (fun u hu=>by have:=ho u hu; cases u <;> simp_all [one,Value.oneCell']) hroom (by have hs2:=Nat.mul_le_mul_right s hroom; rw [Nat.add_mul] at hs2; simp [hi2]; omega)
    rw [KCb (hr.ev hx) (hr.ev hy) hrr]
    have e1:((xs++rest).toArray.toList.take (n*i.size)++news++(xs++rest).toArray.toList.drop (n*i.size+news.length)) = (xs++news)++rest.drop (m*s):=by
      rw [hi2,hml,← hxl]
      simp
    rw [e1]
    have hK:=h b cap (rest.drop (m*s)) (by have hs2:=Nat.mul_le_mul_right s hroom; rw [Nat.add_mul] at hs2; simp; omega)
    refine ⟨_,hK,?_⟩
    have hnew:(w.setRow b ((xs++news)++rest.drop (m*s)).toArray).heap[b]? = some (.cells ((xs++news)++rest.drop (m*s)).toArray e (0,0)):=setRow_heap w b _ _ e _ hb
    have hoth:∀ k,k≠b→(w.setRow b ((xs++news)++rest.drop (m*s)).toArray).heap[k]? = w.heap[k]?:=fun k hk=>setRow_other w b k _ hk
    have hr2:Rel C ⟨T,.blk b ⟨true,xs++rest,e,(0,0)⟩ :: H0⟩ a w:=⟨hr.size,hr.defers,hr.tm,fun x hx=>hr.hp x (hpm.mem_iff.2 hx),fun x hx=>hr.own x (hpm.mem_iff.2 hx),hdd,hr.fr⟩
    exact (hr2.setBlk (B':=⟨true,(xs++news)++rest.drop (m*s),e,(0,0)⟩) (SetAt.head _) rfl hnew hoth (by simp [World.setRow]) rfl rfl rfl).put hd _
  · have hrr := run_append_grow (P := P) w t ty e i zv ht hi1 hi3 ⟨b, 0, none⟩ n cap xs (by rw [hi2]; exact hxl) (fun j u hj => by
      have hadd:(⟨b,0,none⟩:Addr).add j = ⟨b,0+j,none⟩:=by unfold Addr.add; split <;> simp_all
      rw [hadd,cellOf hb,Nat.zero_add]
      rcases Nat.lt_or_ge j xs.length with h'|h'
      · rw [List.getElem?_append_left h']; exact hj
      · rw [List.getElem?_eq_none h'] at hj; cases hj) ⟨a0,0,none⟩ m c0 news (by rw [hi2]; exact hml) hnews om om (growslice_fits om (by rw [hi4]; exact hn))
    rw [KCb (hr.ev hx) (hr.ev hy) hrr]
    have hge:=grownCap_ge w (n+m) cap e
    have hK:=h w.heap.size (grownCap w (n+m) cap e) (Builtin.zeroCells zv.cells (grownCap w (n+m) cap e-(n+m))).toList (by
      have hzz:=size_zeroCells zv.cells (grownCap w (n+m) cap e-(n+m))
      rw [hz0] at hzz
      rw [← Array.length_toList,Nat.sub_mul,Nat.add_mul] at hzz
      have hs2:=Nat.mul_le_mul_right s hge
      rw [Nat.add_mul] at hs2
      omega)
    refine ⟨_,hK,?_⟩
    have hal:=hsel.drew.alloc ((xs++news)++(Builtin.zeroCells zv.cells (grownCap w (n+m) cap e-(n+m))).toList) e
    have hcs:((xs++news)++(Builtin.zeroCells zv.cells (grownCap w (n+m) cap e-(n+m))).toList).toArray = xs.toArray++news.toArray++Builtin.zeroCells zv.cells (grownCap w (n+m) cap e-(n+m)):=by
      apply Array.ext'
      simp
    rw [hcs] at hal
    exact hal.put hd _
theorem KDU {s : Nat} {T : List (Nat × Value)} {H H0 : List Item} {b a0 c0 n cap m bytes : Nat} {zv : Value} {xs rest news : List Value} {wr : Bool} {ea : TypeId} {fz : Nat × Nat} {g : Option (Nat × Bool)} (hx : evT T x = some (.slice (some ⟨b, 0, none⟩) n cap)) (hy : evT T y = some (.slice (some ⟨a0, 0, none⟩) m c0))
    (ht:P.underlying t = some (.slice e)) (hi:infOf P e = some (zv,s,bytes)) (hz0:zv.cells.size = s) (hp:Pick (.blk b ⟨true,xs++rest,e,(0,0)⟩) H H0) (hm:Item.blk a0 ⟨wr,news,ea,fz⟩∈H0) (hxl:xs.length = n*s) (hcl:xs.length+rest.length = cap*s) (hml:news.length = m*s) (ho:KBP news)
    (hn:(n+m)*bytes≤140737488355328) (hn2:n+m≤1000000000) (hd:d<C.N)
    (h:∀ b' cap' rest',xs.length+news.length+rest'.length = cap'*s→K ⟨(d,.slice (some ⟨b',0,none⟩) (n+m) cap') :: T,.blk b' ⟨true,(xs++news)++rest',e,(0,0)⟩ :: H0⟩):KAa P C ⟨some d,.call { callee:=.builtin .append,args:=#[x,y],argTypes:=#[t,t] },ty,pos,aft,g⟩ ⟨T,H⟩ K :=
  LStepW.appendSM (cs:=news) (more:=[]) hx hy ht hi hz0 hp hm (List.append_nil _).symm hxl hcl hml ho hn hn2 hd h
theorem KCf {s : Nat} {T : List (Nat × Value)} {H : List Item} {a0 c0 m bytes : Nat} {zv : Value} {news : List Value} {wr : Bool} {ea : TypeId} {fz : Nat × Nat} {g : Option (Nat × Bool)} (hx : evT T x = some (.slice none 0 0)) (hy : evT T y = some (.slice (some ⟨a0, 0, none⟩) m c0))
    (ht:P.underlying t = some (.slice e)) (hi:infOf P e = some (zv,s,bytes)) (hz0:zv.cells.size = s) (hm:Item.blk a0 ⟨wr,news,ea,fz⟩∈H) (hml:news.length = m*s) (h0:0<m)
    (hn:m*bytes≤140737488355328) (hn2:m≤1000000000) (hd:d<C.N)
    (h:∀ b' cap' rest',news.length+rest'.length = cap'*s→K ⟨(d,.slice (some ⟨b',0,none⟩) m cap') :: T,.blk b' ⟨true,news++rest',e,(0,0)⟩ :: H⟩):KAa P C ⟨some d,.call { callee:=.builtin .append,args:=#[x,y],argTypes:=#[t,t] },ty,pos,aft,g⟩ ⟨T,H⟩ K:=by
  unfold KAa
  intro a w hr Qr
  obtain ⟨i,hi1,hi3,hi2,hi4⟩:=inf_spec hi
  have ha:w.heap[a0]? = some (.cells news.toArray ea fz):=hr.hp _ hm
  have hnews:∀ j u,news[j]? = some u→w.cell? ((⟨a0,0,none⟩:Addr).add j) = some u:=fun j u hj=>by
    have hadd:(⟨a0,0,none⟩:Addr).add j = ⟨a0,0+j,none⟩:=by unfold Addr.add; split <;> simp_all
    rw [hadd,cellOf ha,Nat.zero_add]; exact hj
  unfold Oper.wp
  have hrr:=run_append_nil (P:=P) w t ty e i zv ht hi1 hi3 ⟨a0,0,none⟩ m c0 news (by rw [hi2]; exact hml) hnews h0 om (by rw [hi4]; omega)
  rw [KCb (hr.ev hx) (hr.ev hy) hrr]
  have hge:=grownCap_ge w m 0 e
  have hK:=h w.heap.size (grownCap w m 0 e) (Builtin.zeroCells zv.cells (grownCap w m 0 e-m)).toList (by
    have hzz:=size_zeroCells zv.cells (grownCap w m 0 e-m)
    rw [hz0] at hzz
    rw [← Array.length_toList,Nat.sub_mul] at hzz
    have hs2:=Nat.mul_le_mul_right s hge
    omega)
  refine ⟨_,hK,?_⟩
  have hal:=hr.drew.alloc (news++(Builtin.zeroCells zv.cells (grownCap w m 0 e-m)).toList) e
  have hcs:(news++(Builtin.zeroCells zv.cells (grownCap w m 0 e-m)).toList).toArray = news.toArray++Builtin.zeroCells zv.cells (grownCap w m 0 e-m):=by
    apply Array.ext'
    simp
  rw [hcs] at hal
  exact hal.put hd _
end
end Go.Proofs.YtnpeokiboiclfaaGreat
set_option linter.unusedVariables false
set_option linter.unusedSimpArgs false
set_option maxRecDepth 20000
namespace Go.Proofs.YtnpeokiboiclfaaGreat
open Go Go.RowKit
theorem inf_ev:infOf Tryz.prog 313 = some (.agg ([Iz 0,Iz 0]:List Value).toArray,2,16):=kr
theorem fill_ev (k:Nat):fillL ((List.range 1).map fun i=>(i*2,2)) [Iz 0,Iz 0] [(0,.agg ([Iz 2,Iz k]:List Value).toArray)] = some [Iz 2,Iz k]:=fillL_whole rfl rfl
theorem row_ev:((Array.range (1*2)).map fun i=>(Value.agg ([Iz 0,Iz 0]:List Value).toArray).cells[i%(Value.agg ([Iz 0,Iz 0]:List Value).toArray).cells.size]!) = ([Iz 0,Iz 0]:List Value).toArray:=kr
theorem c_trNew  (w:World)  : Calls Tryz.prog 101 ([]:List Value).toArray w (fun e w'=>∃ v its,(∃ b,v = trV (some b)∧its = [trI (some b) none []])∧e = .returned v∧Brings w [] its w'):=by
  refine KV (N:=3) (rs:=[.tmp 0]) [] Tryz.func101 rfl Tryz.ntmps101 Tryz.results101 (Nb rfl) trivial rfl ?_
  refine KB (KA (oA (KC (KB (KA ?_)))));refine oP (KW pl_224 zr_224 rfl rfl) (oS (mB (fun b2=>?_)));refine oA (KC (KM ?_))
  exact ⟨[_],.cons rfl .nil,fun a w' hr=>⟨_,_,⟨b2,rfl,rfl⟩,rfl,hr.fr.below,fun x hx=>by
    obtain rfl:x = _:=by simpa using hx
    exact trI_of ⟨hr.hp (.blk b2 ⟨true,[.slice none 0 0],224,(0,0)⟩) mM,rfl⟩,fun x hx k hk=>by
    obtain rfl:x = _:=by simpa using hx
    obtain rfl:k = b2:=by simpa [trI,trFp,Item.fp] using hk
    exact .inl (hr.new (B:=⟨true,_,_,_⟩) mM rfl),fun x hx _ k hk=>by
    obtain rfl:x = _:=by simpa using hx
    obtain rfl:k = b2:=by simpa [trI,trFp,Item.fp] using hk
    exact hr.new (B:=⟨true,_,_,_⟩) mM rfl,List.pairwise_singleton _ _⟩⟩
theorem c_trIndex0 (k:Nat) (w:World)  : CF Tryz.prog 183 [trV none,Iz k] w (Iz 1):=by
  refine KV (N:=18) (rs:=[.tmp 4]) [] Tryz.func183 rfl Tryz.ntmps183 Tryz.results183 (Nb rfl) trivial rfl ?_
  refine KB (KA (oP (KO (v:=Iz 0) rfl) (KC (KB (KB (KA (oM ?_)))))));refine oP (KI (KAH u86 rfl rfl) (show _ = Value.bool true from rfl)) (KC (KS rfl (KB (KA (oP (KO (v:=Iz 1) rfl) (KC (KM (eN (.cons rfl .nil) ?_))))))))
  rfl
theorem c_trIndex1 (b k:Nat) (w:World) (hb:trP (some b) none [] w):Calls Tryz.prog 183 ([trV (some b),Iz k]:List Value).toArray w (fun e w'=>TrR w (some b) none [k] (Iz 0) e w'):=by
  refine calls_wM (N:=18) (rs:=[.tmp 4]) [.blk b ⟨true,[.slice none 0 0],224,(0,0)⟩] (fun j=>j∈trFp (some b) none) Tryz.func183 rfl Tryz.ntmps183 Tryz.results183 (Nb rfl) ⟨hb.1,trivial⟩ (List.pairwise_singleton _ _) (fun x hx _ j hj=>by
    obtain rfl:x = _:=by simpa using hx
    exact hj) ?_
  refine KB (KA (oP (KO (v:=Iz 0) rfl) (KC (KB (KB (KA (oM ?_)))))));refine oP (KI (KAH u86 rfl rfl) (show _ = Value.bool false from rfl)) (KC (KG rfl (KN (KB (KA (oM (oM ?_)))))));refine oP (KF rfl) (oP (KE (o':=0) u224 rfl rfl rfl sz_222 dc) (oD (dL rfl (hv:=KJ u222 rfl gL)) ?_));refine oM ?_;refine oP (KI (KW pl_313 zr_313 rfl rfl) (show _ = Value.agg ([Iz 2,Iz k]:List Value).toArray from rfl)) (oS (mk (KCH (vs:=[(0,.agg ([Iz 2,Iz k]:List Value).toArray)]) u222 inf_ev dc row_ev rfl (fill_ev k) (fun h=>by cases h)) (fun b14=>?_)));refine LOps.step rfl (KCf (s:=2) (news:=[Iz 2,Iz k]) rfl rfl u222 inf_ev rfl mM rfl dc dc dc (Nb rfl) ?_)
  intro b1 cap1 rest1 hc1
  refine oP (KF rfl) (oP (KE (o':=0) u224 rfl rfl rfl sz_222 dc) (LOps.step rfl (KY rfl rfl rfl sz_222 mT lT sT (by simp) ?_)));refine KC (KB (KA (oP (KO (v:=Iz 0) rfl) (KC (KM (⟨[_],.cons rfl .nil,fun a w' hr=>?_⟩))))))
  have g1:=hr.hp (Item.blk b ⟨true,[.slice (some ⟨b1,0,none⟩) 1 cap1],224,(0,0)⟩) mM
  have g2:=hr.hp (Item.blk b1 ⟨true,[Iz 2,Iz k]++rest1,313,(0,0)⟩) mM
  have o1:=hr.own (Item.blk b ⟨true,[.slice (some ⟨b1,0,none⟩) 1 cap1],224,(0,0)⟩) mM rfl
  have o2:=hr.own (Item.blk b1 ⟨true,[Iz 2,Iz k]++rest1,313,(0,0)⟩) mM rfl
  have hap:b1≠b:=apart_two hr.dist (b:=b) (B:=⟨true,[.slice (some ⟨b1,0,none⟩) 1 cap1],224,(0,0)⟩) (c:=b1) (D:=⟨true,[Iz 2,Iz k]++rest1,313,(0,0)⟩) mM mM rfl (fun e=>absurd (show (224:Nat) = 313 from e) dc)
  exact ⟨some (b1,cap1,rest1),rfl,trI_of ⟨g1,g2,hc1,hap⟩,fun j hj=>(by
    have hj':j = b∨j = b1:=by simpa [trFp] using hj
    rcases hj' with rfl|rfl
    · exact o1 j (.head _)
    · exact o2 j (.head _)),hr.fr⟩
theorem c_trIndex2 (b r cap:Nat) (rest:List Value) (l:List Nat) (k:Nat) (w:World) (hb:trP (some b) (some (r,cap,rest)) l w) (hl:l.length≤100000000):Calls Tryz.prog 183 ([trV (some b),Iz k]:List Value).toArray w (fun e w'=>TrR w (some b) (some (r,cap,rest)) (l++[k]) (Iz 0) e w'):=by
  refine calls_wM (N:=18) (rs:=[.tmp 4]) [.blk b ⟨true,[.slice (some ⟨r,0,none⟩) l.length cap],224,(0,0)⟩,.blk r ⟨true,evsL l++rest,313,(0,0)⟩] (fun j=>j∈trFp (some b) (some (r,cap,rest))) Tryz.func183 rfl Tryz.ntmps183 Tryz.results183 (Nb rfl) ⟨hb.1,hb.2.1,trivial⟩ (List.pairwise_cons.2 ⟨fun y hy _ j hj hj'=>by
    obtain rfl:y = _:=by simpa using hy
    obtain rfl:j = b:=by simpa [Item.fp] using hj
    exact hb.2.2.2 (by simpa [Item.fp] using hj':j = r).symm,List.pairwise_singleton _ _⟩) (fun x hx _ j hj=>by
    rcases List.mem_cons.1 hx with rfl|hx
    · obtain rfl:j = b:=by simpa [Item.fp] using hj
      exact .head _
    · obtain rfl:x = _:=by simpa using hx
      obtain rfl:j = r:=by simpa [Item.fp] using hj
      exact .tail _ (.head _)) ?_
  refine KB (KA (oP (KO (v:=Iz 0) rfl) (KC (KB (KB (KA (oM ?_)))))));refine oP (KI (KAH u86 rfl rfl) (show _ = Value.bool false from rfl)) (KC (KG rfl (KN (KB (KA (oM (oM ?_)))))));refine oP (KF rfl) (oP (KE (o':=0) u224 rfl rfl rfl sz_222 dc) (oD (dL rfl (hv:=KJ u222 rfl gL)) ?_));refine oM ?_;refine oP (KI (KW pl_313 zr_313 rfl rfl) (show _ = Value.agg ([Iz 2,Iz k]:List Value).toArray from rfl)) (oS (mk (KCH (vs:=[(0,.agg ([Iz 2,Iz k]:List Value).toArray)]) u222 inf_ev dc row_ev rfl (fill_ev k) (fun h=>by cases h)) (fun b14=>?_)));refine LOps.step rfl (KDU (s:=2) (m:=1) (xs:=evsL l) (rest:=rest) (news:=[Iz 2,Iz k]) rfl rfl u222 inf_ev rfl mP mM (evsL_length l) (by have:=hb.2.2.1; exact this) rfl (Kp rfl (Kp rfl KAA)) om om (Nb rfl) ?_)
  intro b1 cap1 rest1 hc1
  refine oP (KF rfl) (oP (KE (o':=0) u224 rfl rfl rfl sz_222 dc) (LOps.step rfl (KY rfl rfl rfl sz_222 mT lT sT (by simp) ?_)));refine KC (KB (KA (oP (KO (v:=Iz 0) rfl) (KC (KM ?_)))))
  have hc2:(evsL (l++[k])).length+rest1.length = cap1*2:=by rw [evsL_snoc,List.length_append]; exact hc1
  have hsl:(l++[k]).length = l.length+1:=by simp
  refine ⟨[_],.cons rfl .nil,fun a w' hr=>?_⟩
  have g1:=hr.hp (Item.blk b ⟨true,[.slice (some ⟨b1,0,none⟩) (l.length+1) cap1],224,(0,0)⟩) mM
  have g2:=hr.hp (Item.blk b1 ⟨true,(evsL l++[Iz 2,Iz k])++rest1,313,(0,0)⟩) mM
  have o1:=hr.own (Item.blk b ⟨true,[.slice (some ⟨b1,0,none⟩) (l.length+1) cap1],224,(0,0)⟩) mM rfl
  have o2:=hr.own (Item.blk b1 ⟨true,(evsL l++[Iz 2,Iz k])++rest1,313,(0,0)⟩) mM rfl
  have hap:b1≠b:=apart_two hr.dist (b:=b) (B:=⟨true,[.slice (some ⟨b1,0,none⟩) (l.length+1) cap1],224,(0,0)⟩) (c:=b1) (D:=⟨true,(evsL l++[Iz 2,Iz k])++rest1,313,(0,0)⟩) mM mM rfl (fun e=>absurd (show (224:Nat) = 313 from e) dc)
  rw [← evsL_snoc] at g2
  rw [← hsl] at g1
  exact ⟨some (b1,cap1,rest1),rfl,trI_of ⟨g1,g2,hc2,hap⟩,fun j hj=>(by
    have hj':j = b∨j = b1:=by simpa [trFp] using hj
    rcases hj' with rfl|rfl
    · exact o1 j (.head _)
    · exact o2 j (.head _)),hr.fr⟩
def trE (b:Option Nat):Int:=match b with
  | none=>1
  | some _=>0
theorem c_trIndex (b:Option Nat) (r:TrRow) (l:List Nat) (k:Nat) (w:World) (h:(trI b r l).holds w) (hl:l.length≤100000000):Calls Tryz.prog 183 ([trV b,Iz k]:List Value).toArray w (TrR w b r (l++[k]) (.int .i64 (trE b))):=by
  rcases b with _|b
  · exact (c_trIndex0 k w).mono fun e w' ⟨h1,h2⟩=>TrR.same (trI_of trivial) h1 h2
  · have hp:=trI_P h
    rcases r with _|⟨r,cap,rest⟩
    · obtain rfl:=hp.2
      exact c_trIndex1 b k w hp
    · exact c_trIndex2 b r cap rest l k w hp hl
theorem neg64 {x:Nat} (h0:x≠0) (hx:x<18446744073709551616):Value.int .u64 (IntKind.u64.wrap (0-(x:Int))) = .int .u64 ((18446744073709551616-x:Nat):Int):=by
  rw [KDL,show (0-(x:Int))%18446744073709551616 = ((18446744073709551616-x:Nat):Int) by omega]
theorem cpl64 {y:Nat} (hy:y<18446744073709551616):Value.int .u64 (IntKind.u64.wrap (BitVec.ofInt IntKind.u64.bits IntKind.u64.max ^^^ BitVec.ofInt IntKind.u64.bits (y:Int)).toNat) = .int .u64 ((18446744073709551615-y:Nat):Int):=by
  have e3:(BitVec.ofInt IntKind.u64.bits IntKind.u64.max ^^^ BitVec.ofInt IntKind.u64.bits (y:Int)).toNat = 18446744073709551615-y:=by
    show (BitVec.ofInt 64 18446744073709551615 ^^^ BitVec.ofInt 64 (y:Int)).toNat = _
    rw [show BitVec.ofInt 64 18446744073709551615 = BitVec.allOnes 64 by decide,BitVec.ofInt_natCast,BitVec.allOnes_xor,BitVec.toNat_not,BitVec.toNat_ofNat,Nat.mod_eq_of_lt (show y<2^64 from hy)]
  rw [e3,KAU,Nat.mod_eq_of_lt om]
theorem or_top {x:Nat} (h0:x≠0) (hx:x<18446744073709551616):9223372036854775808≤x ||| (18446744073709551616-x):=by
  have h1:=(Nat.left_le_or:x≤x ||| (18446744073709551616-x))
  have h2:=(Nat.right_le_or:18446744073709551616-x≤x ||| (18446744073709551616-x))
  omega
theorem xor_zero {a b:Nat}:a ^^^ b = 0↔a = b:=by
  constructor
  · intro h
    have:=congrArg (· ^^^ b) h
    simpa [Nat.xor_assoc] using this
  · rintro rfl; exact Nat.xor_self _
theorem c_spread (b:Nat) (w:World) (hb:b≤1):CF Tryz.prog 224 [.int .u64 ((b:Nat):Int)] w (.int .u64 ((if b = 0 then 0 else 18446744073709551615:Nat):Int)):=by
  refine KV (N:=6) (rs:=[.tmp 2]) [] Tryz.func224 rfl Tryz.ntmps224 Tryz.results224 (Nb rfl) trivial rfl ?_
  refine KB (KA (oP (KO (v:=.int .u64 ((0:Nat):Int)) rfl) (KC (KB ?_))))
  rcases (show b = 0∨b = 1 by omega) with rfl|rfl
  ·
   refine KA (oM ?_);refine oP (KH rfl rfl (KBN (b:=1) dc dc)) (oP (Det.neg rfl) (oA (KC (KM ?_))));refine eN (.cons rfl .nil) ?_
   rfl
  refine KA (oM ?_);refine oP (KH rfl rfl (KBN (b:=1) dc dc)) (oP (Det.neg rfl) (oA (KC (KM ?_))));refine eN (.cons rfl .nil) ?_
  rfl
theorem c_mZero (x:Nat) (w:World) (hx:x<18446744073709551616):CF Tryz.prog 207 [.int .u64 ((x:Nat):Int)] w (.int .u64 ((if x = 0 then 18446744073709551615 else 0:Nat):Int)):=by
  refine KV (N:=10) (rs:=[.tmp 2]) [] Tryz.func207 rfl Tryz.ntmps207 Tryz.results207 (Nb rfl) trivial rfl ?_
  refine KB (KA (oP (KO (v:=.int .u64 ((0:Nat):Int)) rfl) (KC (KB ?_))))
  by_cases h0:x = 0
  ·
   subst h0
   refine KA (oM (oM ?_));refine oP (Det.neg rfl) (oP (KH rfl rfl (KCU (b:=0) dc dc)) (oP (Det.cpl rfl rfl) (oP (KH (v:=.int .u64 ((1:Nat):Int)) rfl rfl kr) (oS (cF rfl en_224 rfl (fun w hw=>c_spread 1 w dc) ?_)))));refine oA (KC (KM ?_));refine ⟨[_],.cons rfl .nil,fun a w' hr=>⟨rfl,hr.fr.below⟩⟩
  have ht:=or_top h0 hx
  have hlt:x ||| (18446744073709551616-x)<18446744073709551616:=Nat.or_lt_two_pow (n:=64) hx om
  refine KA (oM (oM ?_));refine oP (KI (Det.neg rfl) (neg64 h0 hx)) (oP (KH rfl rfl (KCU hx om)) (oP (KI (Det.cpl rfl rfl) (cpl64 hlt)) (oP (KI (KH rfl rfl (KAn (b:=63) om)) (vi (b:=0) (Nat.div_eq_of_lt om))) (oS (cF rfl en_224 rfl (fun w hw=>c_spread 0 w dc) ?_)))));refine oA (KC (KM ?_));refine eN (.cons rfl .nil) ?_
  rw [if_neg h0]
  rfl
theorem c_mEqual (a b:Nat) (w:World) (ha:a<18446744073709551616) (hb:b<18446744073709551616):CF Tryz.prog 184 [.int .u64 ((a:Nat):Int),.int .u64 ((b:Nat):Int)] w (.int .u64 ((if a = b then 18446744073709551615 else 0:Nat):Int)):=by
  refine KV (N:=9) (rs:=[.tmp 4]) [] Tryz.func184 rfl Tryz.ntmps184 Tryz.results184 (Nb rfl) trivial rfl ?_
  refine KB (KA (oP (KO (v:=.int .u64 ((0:Nat):Int)) rfl) (KC (KB (KA (oM (oM ?_)))))));refine oP (KH rfl rfl (br_xor64 ha hb)) (oS (cF rfl en_207 rfl (fun w hw=>c_mZero (a ^^^ b) w (Nat.xor_lt_two_pow (n:=64) ha hb)) ?_));refine oA (KC (KM ?_));refine ⟨[_],.cons rfl .nil,fun a_ w' hr=>⟨?_,hr.fr.below⟩⟩
  show Ending.returned (.int .u64 ((if a ^^^ b = 0 then 18446744073709551615 else 0:Nat):Int)) = _
  by_cases h:a = b
  · rw [if_pos h,if_pos (xor_zero.2 h)]
  · rw [if_neg h,if_neg (fun e=>h (xor_zero.1 e))]
theorem andNot_0 {b:Nat} (hb:b<18446744073709551616):Kq .andNot .u64 (b:Int) .u64 ((0:Nat):Int) = some (.int .u64 (b:Int)):=by
  simp only [Kq,if_true]
  have e:(BitVec.ofInt 64 (b:Int) &&& ~~~BitVec.ofInt 64 0).toNat = b:=by
    rw [show ~~~BitVec.ofInt 64 0 = BitVec.allOnes 64 by decide,BitVec.and_allOnes,BitVec.ofInt_natCast,BitVec.toNat_ofNat,Nat.mod_eq_of_lt (show b<2^64 from hb)]
  show some (Value.int .u64 (IntKind.u64.wrap ((BitVec.ofInt 64 (b:Int) &&& ~~~BitVec.ofInt 64 0).toNat:Int))) = _
  rw [e,KAU,Nat.mod_eq_of_lt hb]
theorem andNot_m {b:Nat}:Kq .andNot .u64 (b:Int) .u64 ((18446744073709551615:Nat):Int) = some (.int .u64 ((0:Nat):Int)):=by
  simp only [Kq,if_true]
  have e:(BitVec.ofInt 64 (b:Int) &&& ~~~BitVec.ofInt 64 18446744073709551615).toNat = 0:=by
    rw [show ~~~BitVec.ofInt 64 18446744073709551615 = 0#64 by decide,BitVec.and_zero]; rfl
  show some (Value.int .u64 (IntKind.u64.wrap ((BitVec.ofInt 64 (b:Int) &&& ~~~BitVec.ofInt 64 18446744073709551615).toNat:Int))) = _
  rw [e]; rfl
theorem and_max {a:Nat} (ha:a<18446744073709551616):a &&& 18446744073709551615 = a:=by
  rw [show 18446744073709551615 = 2^64-1 from rfl,Nat.and_two_pow_sub_one_eq_mod]
  exact Nat.mod_eq_of_lt ha
theorem c_word (m a b:Nat) (w:World) (hm:m = 0∨m = 18446744073709551615) (ha:a<18446744073709551616) (hb:b<18446744073709551616):CF Tryz.prog 209 [.agg ([.int .u64 ((m:Nat):Int)]:List Value).toArray,.int .u64 ((a:Nat):Int),.int .u64 ((b:Nat):Int)] w (.int .u64 ((if m = 0 then b else a:Nat):Int)):=by
  refine KV (N:=16) (rs:=[.tmp 6]) [] Tryz.func209 rfl Tryz.ntmps209 Tryz.results209 (Nb rfl) trivial rfl ?_
  refine KB (KA (oS (mB (fun b3=>?_))));refine oP (KO (v:=.int .u64 ((0:Nat):Int)) rfl) (KC (KB ?_))
  rcases hm with rfl|rfl
  ·
   refine KA (oM ?_);refine oP (KE (o':=0) u317 rfl rfl rfl sz_30 dc) (oD (dL rfl (hv:=KJ u30 rfl gL)) ?_);refine oP (KI (KH rfl rfl (KBN (b:=0) ha dc)) (vi (b:=0) (Nat.and_zero _))) (oM ?_);refine oP (KE (o':=0) u317 rfl rfl rfl sz_30 dc) (oD (dL rfl (hv:=KJ u30 rfl gL)) ?_);refine oP (KH rfl rfl (andNot_0 hb)) (oP (KI (KH rfl rfl (KCU (a:=0) dc hb)) (vi (b:=b) (Nat.zero_or _))) (oA (KC (KM ?_))));refine eN (.cons rfl .nil) ?_
   rfl
  refine KA (oM ?_);refine oP (KE (o':=0) u317 rfl rfl rfl sz_30 dc) (oD (dL rfl (hv:=KJ u30 rfl gL)) ?_);refine oP (KI (KH rfl rfl (KBN (b:=18446744073709551615) ha dc)) (vi (b:=a) (and_max ha))) (oM ?_);refine oP (KE (o':=0) u317 rfl rfl rfl sz_30 dc) (oD (dL rfl (hv:=KJ u30 rfl gL)) ?_);refine oP (KH rfl rfl andNot_m) (oP (KI (KH rfl rfl (KCU (b:=0) ha dc)) (vi (b:=a) (Nat.or_zero _))) (oA (KC (KM ?_))));refine eN (.cons rfl .nil) ?_
  rfl
theorem c_wordL (m A B R x:Nat) (w:World) (hm:m = 0∨m = 18446744073709551615) (hR:R = if m = 0 then B else A):CF Tryz.prog 209 [.agg ([.int .u64 ((m:Nat):Int)]:List Value).toArray,.int .u64 ((limb A x:Nat):Int),.int .u64 ((limb B x:Nat):Int)] w (.int .u64 ((limb R x:Nat):Int)):=by
  have h:=c_word m (limb A x) (limb B x) w hm (limb_lt _ _) (limb_lt _ _)
  rw [show limb R x = if m = 0 then limb B x else limb A x by rw [hR]; split <;> rfl]
  exact h
theorem mix_get {R A x:Nat} (h:x<9):(vec .u64 9 (fun k=>if k<x then limb R k else limb A k))[x]? = some (.int .u64 ((limb A x:Nat):Int)):=by
  rw [Ki _ _ _ h,if_neg (Nat.lt_irrefl x)]
theorem mix_step (R A x:Nat):vec .u64 9 (fun j=>if j = x then limb R x else (if j<x then limb R j else limb A j)) = vec .u64 9 (fun k=>if k<x+1 then limb R k else limb A k):=Kr fun k _=>by
  by_cases e:k = x
  · subst e; rw [if_pos rfl,if_pos (Nat.lt_succ_self _)]
  · rw [if_neg e]
    by_cases l:k<x
    · rw [if_pos l,if_pos om]
    · rw [if_neg l,if_neg om]
theorem c_mNat (m A B R:Nat) (w:World) (hm:m = 0∨m = 18446744073709551615) (hR:R = if m = 0 then B else A):CF Tryz.prog 208 [.func (.func 209) #[.agg ([.int .u64 ((m:Nat):Int)]:List Value).toArray] #[],natV A,natV B] w (natV R):=by
  refine KV (N:=26) (rs:=[.cell 6 33]) [] Tryz.func208 rfl Tryz.ntmps208 Tryz.results208 (Nb rfl) trivial rfl ?_
  refine KB (KA (oS (mB (fun b4=>?_))));refine oS (mB (fun b5=>?_));refine oS (mk (KK zr_33) (fun b6=>?_));refine KC (KB (KB (KA (oP (Kg (v:=Iz 0) rfl) (KC (LCode.block (Kd (α:=Nat) (fun x=>x≤9) (fun x=>⟨[(0,.func (.func 209) #[.agg ([.int .u64 ((m:Nat):Int)]:List Value).toArray] #[]),(4,Pz b4),(5,Pz b5),(6,Pz b6),(8,Iz x)],[.blk b6 ⟨true,vec .u64 9 (fun _=>0),33,(0,0)⟩,.blk b5 ⟨true,natL B,33,(0,0)⟩,.blk b4 ⟨true,vec .u64 9 (fun k=>if k<x then limb R k else limb A k),33,(0,0)⟩]⟩) (fun x=>9-x) (0) (Nat.zero_le _) (KAD (Sub.cells (b:=b4) (cs':=vec .u64 9 (fun k=>if k<0 then limb R k else limb A k)) mT (Kr fun k _=>(if_neg (Nat.not_lt_zero k)).symm)) (Ka ⟨rfl,rfl,rfl,rfl,rfl,trivial⟩ mS)) ?_)))))))
  intro x hx
  refine KB (KA (oP (KH rfl rfl (Ky (b:=9))) (KC (KB ?_))))
  first|refine KQ rfl (fun h9=>?_) (fun h9=>?_)|refine KT rfl (fun h9=>?_) (fun h9=>?_)
  ·
   have h9:x<9:=h9
   refine KN (KB (LCode.block (KB (KA (oM (oA (KC (rD [13] ?_))))))));refine aM 0 ?_;refine aM 1 ?_;refine aM 2 ?_;refine aP 3 rfl (KE (o':=0) u33 rfl rfl rfl sz_31 dc) (aP 4 rfl (KP u31 sz_30 rfl rfl om) (aD 5 rfl (dL rfl (hv:=KJ u30 rfl (by exact mix_get om))) ?_));refine aM 6 ?_;refine aP 7 rfl (KE (o':=0) u33 rfl rfl rfl sz_31 dc) (aP 8 rfl (KP u31 sz_30 rfl rfl om) (aD 9 rfl (dL rfl (hv:=KJ u30 rfl gL)) ?_));refine aP 11 rfl (KE (o':=0) u33 rfl rfl rfl sz_31 dc) (aO 10 rfl (Kz (first:=[.agg ([.int .u64 ((m:Nat):Int)]:List Value).toArray]) rfl en_209 rfl (Nb rfl) (fun w hw=>c_wordL m A B R x w hm hR) ?_));refine aP 12 rfl (KP u31 sz_30 rfl rfl om) (aL 13 rfl (KY rfl rfl rfl sz_30 mT lT sT (by simp) ?_));refine aE (KA (oP (KH rfl rfl (Kj (b:=1) om)) (oM (KC ?_))));refine ⟨x+1,by omega,by omega,KAD (Sub.cells (b:=b4) (cs':=vec .u64 9 (fun k=>if k<x+1 then limb R k else limb A k)) mT (mix_step R A x)) (Ka ⟨rfl,rfl,rfl,rfl,rfl,trivial⟩ mS)⟩
  have h9:¬ x<9:=h9
  refine Kb (KB ?_)
  obtain rfl:x = 9:=by omega
  refine LCode.sub (Sub.cells (b:=b4) (cs':=natL R) mT (Kr fun k hk=>by rw [if_pos hk])) ?_;refine KA (oD dNa ?_);refine oT rfl rfl sz_33 ?_;refine KC (KM (eN (.cons ⟨_,_,_,rfl,mM,by exact KD u33 rfl sz_33⟩ .nil) ?_))
  rfl
theorem c_mSelect (m A B R:Nat) (w:World) (hm:m = 0∨m = 18446744073709551615) (hR:R = if m = 0 then B else A):CF Tryz.prog 185 [.int .u64 ((m:Nat):Int),natV A,natV B] w (natV R):=by
  refine KV (N:=13) (rs:=[.cell 6 33]) [] Tryz.func185 rfl Tryz.ntmps185 Tryz.results185 (Nb rfl) trivial rfl ?_
  refine KB (KA (oS (mB (fun b4=>?_))));refine oS (mB (fun b5=>?_));refine oS (mk (KK zr_33) (fun b6=>?_));refine KC (KB (KA (oM ?_)));refine oP (KI (KW pl_317 zr_317 rfl rfl) (show _ = Value.agg ([.int .u64 ((m:Nat):Int)]:List Value).toArray from rfl)) (oP (Kx rfl) (oD dNa ?_));refine oD dNa ?_;refine oS (cF rfl en_208 rfl (fun w hw=>c_mNat m A B R w hm hR) ?_);refine oT rfl rfl sz_33 ?_;refine KC (KM (eN (.cons ⟨_,_,_,rfl,mM,by exact KD u33 rfl sz_33⟩ .nil) ?_))
  rfl
end Go.Proofs.YtnpeokiboiclfaaGreat
set_option linter.unusedVariables false
set_option linter.unusedSimpArgs false
set_option maxRecDepth 20000
namespace Go.Proofs.YtnpeokiboiclfaaGreat
open Go Go.RowKit
open Grp
section
variable {P:Program} {C:Ctx} {d:Nat} {ty:TypeId} {pos:String} {aft:Array Edge} {K:St→Prop} {x:Operand} {v:Value}
theorem LStep.callK {T : List (Nat × Value)} {H : List Item} {f : FuncId} {xs : List Operand} {vs caps : List Value} {ats : Array TypeId} {g : Option (Nat × Bool)} (hf : evT T x = some (.func (.func f) #[] caps.toArray)) (he : KZ P f) (ha : evL T xs = some vs) (hd : d < C.N)
    (hc:∀ w,(∀ x,x∈H→x.holds w)→Calls P f (vs++caps).toArray w (fun e w'=>e = .returned v∧Below w.heap.size w w'))
    (h:K ⟨(d,v) :: T,H⟩):LStep P C ⟨some d,.call { callee:=.value x,args:=xs.toArray,argTypes:=ats },ty,pos,aft,g⟩ ⟨T,H⟩ K:=by
  unfold LStep; intro a w hr Qr
  obtain ⟨fn,h1,h2,h3⟩:=he
  refine wp_callee (vs:=vs++caps) ?_ (hc w hr.hp) ?_
  · have:=hr.evs ha
    simp [execOp,resolve,hr.ev hf,Deferred.ofValue,invoke,run_call h1 h2 h3,this]
  · rintro e w' ⟨rfl,hb⟩
    exact ⟨v,rfl,hb,_,h,(hr.below hb).put hd v⟩
end
theorem c_slope (V:Cv) (b f bd:Nat) (hok:V.Ok) (l x1 y1 x2 y2:Fin V.p) (i j:Bool) (w:World) (hb:(Item.blk b ⟨false,opL V f,100,(0,0)⟩).holds w) (hf:(Item.blk f ⟨false,fldL V.p bd,165,(0,0)⟩).holds w) (hbd:(Item.blk bd ⟨false,dvL V.p,269,(0,0)⟩).holds w):CF Tryz.prog 236 [.agg ([Pz b]:List Value).toArray,natV l.val,ptV x1.val y1.val i,ptV x2.val y2.val j] w (ptV (l*l-x1-x2).val (l*(x1-(l*l-x1-x2))-y1).val false):=by
  have hbb:=hok.bounds
  have hpW:V.p<W9:=Ku hbb.2.1
  refine KV (N:=42) (rs:=[.cell 8 47]) [.blk b ⟨false,opL V f,100,(0,0)⟩,.blk f ⟨false,fldL V.p bd,165,(0,0)⟩,.blk bd ⟨false,dvL V.p,269,(0,0)⟩] Tryz.func236 rfl Tryz.ntmps236 Tryz.results236 (Nb rfl) ⟨hb,hf,hbd,trivial⟩ rfl ?_
  refine KB (KA (oS (mB (fun b4=>?_))));refine oS (mB (fun b5=>?_));refine oS (mB (fun b6=>?_));refine oS (mB (fun b7=>?_));refine oS (mk (KK zr_47) (fun b8=>?_));refine KC (KB (KA (oP (KE (o':=0) u132 rfl rfl rfl sz_81 dc) (oD (dL rfl (hv:=KJ u81 rfl gL)) ?_))));refine oP (KF rfl) (oP (KE (o':=59) u100 rfl rfl rfl sz_98 dc) (oD (dL rfl (hv:=KJ u98 rfl (by exact KAr _ _ _ _ _ _ _ _ _ _ _ _ _))) ?_));refine oA (KC (KB (rD [13] ?_)));refine aM 0 ?_;refine aM 1 ?_;refine aM 2 ?_;refine aD 3 rfl dNa ?_;refine aD 4 rfl dNa ?_;refine aP 6 rfl (KE (o':=0) u47 rfl rfl rfl sz_33 dc) (aD 7 rfl (dL rfl (hv:=by exact Kh u33 rfl sz_33 rfl (KL _))) ?_);refine aP 9 rfl (KE (o':=0) u47 rfl rfl rfl sz_33 dc) (aD 10 rfl (dL rfl (hv:=by exact Kh u33 rfl sz_33 rfl (KL _))) ?_)
  refine KAR ?_;refine Ko 12 rfl (.inl zr_33) (Nb rfl) rfl rfl rfl ?_;refine LAnyP.step 5 rfl rfl rfl (Nb rfl) kr rfl (Kf (first:=[]) rfl en_97 rfl (fun w hw=>KAd V hok f bd _ _ w (mC hw) (mC hw))) ?_
  rintro _ _ ⟨rfl,rfl⟩
  refine LAnyP.step 8 rfl rfl rfl (Nb rfl) kr rfl (Kf (first:=[]) rfl KDC rfl (fun w hw=>KCd V hok f bd _ _ w (mC hw))) ?_
  rintro _ _ ⟨rfl,rfl⟩
  refine LAnyP.step 11 rfl rfl rfl (Nb rfl) kr rfl (Kf (first:=[]) rfl KDC rfl (fun w hw=>KCd V hok f bd _ _ w (mC hw))) ?_
  rintro _ _ ⟨rfl,rfl⟩
  refine pE (fun b10=>?_);refine Kw ?_;refine aL 13 rfl (sA rfl rfl sz_33 mO (hl:=mL) (h:=?_));refine aE (KB (rD [14] (aD 0 rfl dNa ?_)));refine aM 1 ?_;refine aM 2 ?_;refine aD 3 rfl dNa ?_;refine aM 4 ?_;refine aP 5 rfl (KE (o':=0) u47 rfl rfl rfl sz_33 dc) (aD 6 rfl (dL rfl (hv:=by exact Kh u33 rfl sz_33 rfl (KL _))) ?_);refine aD 7 rfl dNa ?_;refine aP 10 rfl (KE (o':=9) u47 rfl rfl rfl sz_33 dc) (aD 11 rfl (dL rfl (hv:=by exact KCY _ _ _ _ _ _)) ?_);refine aO 8 rfl (cF rfl KDC rfl (fun w hw=>KCd V hok f bd _ _ w (mC hw)) ?_);refine aO 9 rfl (cF rfl en_97 rfl (fun w hw=>KAd V hok f bd _ _ w (mC hw) (mC hw)) ?_);refine aO 12 rfl (cF rfl KDC rfl (fun w hw=>KCd V hok f bd _ _ w (mC hw)) ?_);refine aP 13 rfl (KI (KW pl_47 zr_47 rfl (fill_pt _ _)) rfl) (aL 14 rfl (sA rfl rfl sz_47 mO (hl:=mL) (h:=?_)))
  refine aE (KM (eN (.cons ⟨_,_,_,rfl,mM,by exact KD u47 rfl sz_47⟩ .nil) ?_))
  rfl
theorem c_gadd (V:Cv) (b f bd:Nat) (hok:V.Ok) (P P2 R:Pt V.p) (w:World) (hb:(Item.blk b ⟨false,opL V f,100,(0,0)⟩).holds w) (hf:(Item.blk f ⟨false,fldL V.p bd,165,(0,0)⟩).holds w) (hbd:(Item.blk bd ⟨false,dvL V.p,269,(0,0)⟩).holds w) (hP:On V.A V.B P) (hP2:On V.A V.B P2) (hR:padd V.A P P2 = R):CF Tryz.prog 235 [.agg ([Pz b]:List Value).toArray,ptP P,ptP P2] w (ptP R):=by
  have hbb:=hok.bounds
  have hpW:V.p<W9:=Ku hbb.2.1
  refine KV (N:=96) (rs:=[.cell 6 47]) [.blk b ⟨false,opL V f,100,(0,0)⟩,.blk f ⟨false,fldL V.p bd,165,(0,0)⟩,.blk bd ⟨false,dvL V.p,269,(0,0)⟩] Tryz.func235 rfl Tryz.ntmps235 Tryz.results235 (Nb rfl) ⟨hb,hf,hbd,trivial⟩ rfl ?_
  refine KB (KA (oS (mB (fun b3=>?_))));refine oS (mB (fun b4=>?_));refine oS (mB (fun b5=>?_));refine oS (mk (KK zr_47) (fun b6=>?_));refine KC (KB ?_)
  rcases P with _|⟨x1,y1⟩
  ·
   have eR:=(hok.inf_add hP2).symm.trans hR
   subst eR
   refine KA (oP (KE (o':=0) u132 rfl rfl rfl sz_81 dc) (oD (dL rfl (hv:=KJ u81 rfl gL)) ?_));refine oP (KF rfl) (oP (KE (o':=59) u100 rfl rfl rfl sz_98 dc) (oD (dL rfl (hv:=KJ u98 rfl (by exact KAr _ _ _ _ _ _ _ _ _ _ _ _ _))) ?_));refine oA (KC (KB (LCode.block (KB (KA ?_)))));refine oP (KE (o':=18) u47 rfl rfl rfl sz_4 dc) (oD (dL rfl (hv:=KJ u4 rfl (by exact pt_gt _ _ _))) ?_);refine oA (KC ?_);refine KS rfl (KB (KA (oD dNb ?_)));refine oT rfl rfl sz_47 ?_;refine KC (KM (eN (.cons ⟨_,_,_,rfl,mM,by exact KD u47 rfl sz_47⟩ .nil) ?_))
   rfl
  refine KA (oP (KE (o':=0) u132 rfl rfl rfl sz_81 dc) (oD (dL rfl (hv:=KJ u81 rfl gL)) ?_));refine oP (KF rfl) (oP (KE (o':=59) u100 rfl rfl rfl sz_98 dc) (oD (dL rfl (hv:=KJ u98 rfl (by exact KAr _ _ _ _ _ _ _ _ _ _ _ _ _))) ?_));refine oA (KC (KB (LCode.block (KB (KA ?_)))));refine oP (KE (o':=18) u47 rfl rfl rfl sz_4 dc) (oD (dL rfl (hv:=KJ u4 rfl (by exact pt_gt _ _ _))) ?_);refine oA (KC ?_);refine KG rfl (KB ?_)
  rcases P2 with _|⟨x2,y2⟩
  ·
   have eR:=(hok.add_inf hP).symm.trans hR
   subst eR
   refine KA (oP (KE (o':=18) u47 rfl rfl rfl sz_4 dc) (oD (dL rfl (hv:=KJ u4 rfl (by exact pt_gt _ _ _))) ?_));refine oA (KC ?_);refine KS rfl (KB (KA (oD dNb ?_)));refine oT rfl rfl sz_47 ?_;refine KC (KM (eN (.cons ⟨_,_,_,rfl,mM,by exact KD u47 rfl sz_47⟩ .nil) ?_))
   rfl
  refine KA (oP (KE (o':=18) u47 rfl rfl rfl sz_4 dc) (oD (dL rfl (hv:=KJ u4 rfl (by exact pt_gt _ _ _))) ?_));refine oA (KC ?_);refine KG rfl (KB ?_)
  by_cases hx:x1 = x2
  ·
   refine KA (oP (KE (o':=0) u47 rfl rfl rfl sz_33 dc) (oD (dL rfl (hv:=by exact Kh u33 rfl sz_33 rfl (KL _))) ?_));refine oP (KE (o':=0) u47 rfl rfl rfl sz_33 dc) (oD (dL rfl (hv:=by exact Kh u33 rfl sz_33 rfl (KL _))) ?_);refine oP (KI (KBd kr (fun w=>KBG x1.val x2.val (Nat.lt_trans x1.isLt hpW) (Nat.lt_trans x2.isLt hpW) 10000 dc w) rfl rfl) (show _ = Value.bool false by rw [decide_eq_true (congrArg Fin.val hx)]; rfl)) ?_;refine oA (KC ?_);refine KG rfl (KB ?_)
   by_cases hy:y1 = y2
   ·
    have hy0:¬ y1.val = 0:=y_pos hok hP
    refine KA (oP (KE (o':=9) u47 rfl rfl rfl sz_33 dc) (oD (dL rfl (hv:=by exact KCY _ _ _ _ _ _)) ?_));refine oP (KE (o':=9) u47 rfl rfl rfl sz_33 dc) (oD (dL rfl (hv:=by exact KCY _ _ _ _ _ _)) ?_);refine oP (KI (KBd kr (fun w=>KBG y1.val y2.val (Nat.lt_trans y1.isLt hpW) (Nat.lt_trans y2.isLt hpW) 10000 dc w) rfl rfl) (show _ = Value.bool false by rw [decide_eq_true (congrArg Fin.val hy)]; rfl)) ?_;refine oM ?_;refine oGP (KE (o':=9) u47 rfl rfl rfl sz_33 dc) (Km rfl rfl (dL rfl (hv:=by exact KCY _ _ _ _ _ _)) (Nb rfl) ?_);refine oGP (KI (KW pl_33 zr_33 rfl rfl) (show _ = natV 0 by unfold natV natL; rw [← vec_zeros 9])) ?_;refine oGP (KI (KBv kr (fun w=>KBG y1.val 0 (Nat.lt_trans y1.isLt hpW) KBk 10000 dc w) rfl rfl) (show _ = Value.bool false by rw [decide_eq_false hy0])) (oP (KR rfl rfl) (oA (KC ?_)));refine KG rfl (KN (KB ?_))
    subst hx hy
    have eR:=(add_tangF hok.prime hok.fld hP (fin_ne0 hy0)).symm.trans hR
    subst eR
    refine KA (oM ?_);refine oP (KE (o':=0) u47 rfl rfl rfl sz_33 dc) (oD (dL rfl (hv:=by exact Kh u33 rfl sz_33 rfl (KL _))) ?_);refine oP (KE (o':=0) u47 rfl rfl rfl sz_33 dc) (oD (dL rfl (hv:=by exact Kh u33 rfl sz_33 rfl (KL _))) ?_);refine oS (cF rfl en_97 rfl (fun w hw=>KAd V hok f bd _ _ w (mC hw) (mC hw)) ?_);refine oS (mk (KK zr_33) (fun b8=>?_));refine oT rfl rfl sz_33 ?_;refine KC (KB (rD [29] (aD 0 rfl (dL rfl (hv:=by exact KD u132 rfl sz_132)) ?_)));refine aM 1 ?_;refine aM 2 ?_;refine aM 3 ?_;refine aM 4 ?_;refine aD 5 rfl dNa ?_;refine aD 6 rfl dNa ?_;refine aD 8 rfl dNa ?_;refine aP 10 rfl (KE (o':=0) u132 rfl rfl rfl sz_81 dc) (aD 11 rfl (dL rfl (hv:=KJ u81 rfl gL)) ?_)
    refine aP 12 rfl (KF rfl) (aP 13 rfl (KE (o':=0) u100 rfl rfl rfl sz_53 dc) (aP 14 rfl (KE (o':=10) u53 rfl rfl rfl sz_33 dc) (aD 15 rfl (KAw (dL rfl (hv:=by exact cvC_ld_a _ _ _ _ _ _ _ _ _ _ _ _ _ _ _ _)) (a_val hok)) ?_)));refine aM 17 ?_;refine aM 18 ?_;refine aP 19 rfl (KE (o':=9) u47 rfl rfl rfl sz_33 dc) (aD 20 rfl (dL rfl (hv:=by exact KCY _ _ _ _ _ _)) ?_);refine aP 21 rfl (KE (o':=9) u47 rfl rfl rfl sz_33 dc) (aD 22 rfl (dL rfl (hv:=by exact KCY _ _ _ _ _ _)) ?_);refine aD 26 rfl dNb ?_;refine aD 27 rfl dNb ?_;refine aO 7 rfl (cF rfl en_82 rfl (fun w hw=>KBH V hok f bd _ _ w (mC hw)) ?_);refine aO 9 rfl (cF rfl en_82 rfl (fun w hw=>KBH V hok f bd _ _ w (mC hw)) ?_);refine aO 16 rfl (cF rfl en_82 rfl (fun w hw=>KBH V hok f bd _ _ w (mC hw)) ?_)
    refine aO 23 rfl (cF rfl en_82 rfl (fun w hw=>KBH V hok f bd _ _ w (mC hw)) ?_);refine aO 24 rfl (cF rfl en_121 rfl (fun w hw=>c_F_Inv V hok f bd _ w (mC hw)) ?_);refine aO 25 rfl (cF rfl en_97 rfl (fun w hw=>KAd V hok f bd _ _ w (mC hw) (mC hw)) ?_);refine aO 28 rfl (cF rfl en_236 rfl (fun w hw=>c_slope V b f bd hok ((x1*x1+x1*x1+x1*x1+V.A)*finv (y1+y1)) x1 y1 x1 y1 false false w (mC hw) (mC hw) (mC hw)) ?_);refine aL 29 rfl (sA rfl rfl sz_47 mO (hl:=mL) (h:=?_));refine aE (KM (eN (.cons ⟨_,_,_,rfl,mM,by exact KD u47 rfl sz_47⟩ .nil) ?_))
    rfl
   have eR:=(add_opp hok.fld hP hP2 hx hy).symm.trans hR
   subst eR
   refine KA (oP (KE (o':=9) u47 rfl rfl rfl sz_33 dc) (oD (dL rfl (hv:=by exact KCY _ _ _ _ _ _)) ?_));refine oP (KE (o':=9) u47 rfl rfl rfl sz_33 dc) (oD (dL rfl (hv:=by exact KCY _ _ _ _ _ _)) ?_);refine oP (KI (KBd kr (fun w=>KBG y1.val y2.val (Nat.lt_trans y1.isLt hpW) (Nat.lt_trans y2.isLt hpW) 10000 dc w) rfl rfl) (show _ = Value.bool true by rw [decide_eq_false (fun e=>hy (Fin.ext e))]; rfl)) ?_;refine oM ?_;refine oK (oK (oK (oK (oP (Ke rfl rfl) (oA (KC ?_))))));refine KS rfl (KB (KA (oP (KI (KW pl_47 zr_47 rfl fill_ptInf) rfl) (oT rfl rfl sz_47 ?_))));refine KC (KM (eN (.cons ⟨_,_,_,rfl,mM,by exact KD u47 rfl sz_47⟩ .nil) ?_))
   rfl
  refine KA (oP (KE (o':=0) u47 rfl rfl rfl sz_33 dc) (oD (dL rfl (hv:=by exact Kh u33 rfl sz_33 rfl (KL _))) ?_));refine oP (KE (o':=0) u47 rfl rfl rfl sz_33 dc) (oD (dL rfl (hv:=by exact Kh u33 rfl sz_33 rfl (KL _))) ?_);refine oP (KI (KBd kr (fun w=>KBG x1.val x2.val (Nat.lt_trans x1.isLt hpW) (Nat.lt_trans x2.isLt hpW) 10000 dc w) rfl rfl) (show _ = Value.bool true by rw [decide_eq_false (fun e=>hx (Fin.ext e))]; rfl)) ?_;refine oA (KC ?_);refine KS rfl (KB ?_)
  have eR:=(add_chordF hok.prime hok.fld hP hP2 hx).symm.trans hR
  subst eR
  refine rD [20] (aD 0 rfl (dL rfl (hv:=by exact KD u132 rfl sz_132)) ?_);refine aM 1 ?_;refine aM 2 ?_;refine aP 3 rfl (KE (o':=9) u47 rfl rfl rfl sz_33 dc) (aD 4 rfl (dL rfl (hv:=by exact KCY _ _ _ _ _ _)) ?_);refine aP 5 rfl (KE (o':=9) u47 rfl rfl rfl sz_33 dc) (aD 6 rfl (dL rfl (hv:=by exact KCY _ _ _ _ _ _)) ?_);refine aM 8 ?_;refine aM 9 ?_;refine aP 10 rfl (KE (o':=0) u47 rfl rfl rfl sz_33 dc) (aD 11 rfl (dL rfl (hv:=by exact Kh u33 rfl sz_33 rfl (KL _))) ?_);refine aP 12 rfl (KE (o':=0) u47 rfl rfl rfl sz_33 dc) (aD 13 rfl (dL rfl (hv:=by exact Kh u33 rfl sz_33 rfl (KL _))) ?_);refine aD 17 rfl dNb ?_;refine aD 18 rfl dNb ?_;refine aO 7 rfl (cF rfl KDC rfl (fun w hw=>KCd V hok f bd _ _ w (mC hw)) ?_)
  refine aO 14 rfl (cF rfl KDC rfl (fun w hw=>KCd V hok f bd _ _ w (mC hw)) ?_);refine aO 15 rfl (cF rfl en_121 rfl (fun w hw=>c_F_Inv V hok f bd _ w (mC hw)) ?_);refine aO 16 rfl (cF rfl en_97 rfl (fun w hw=>KAd V hok f bd _ _ w (mC hw) (mC hw)) ?_);refine aO 19 rfl (cF rfl en_236 rfl (fun w hw=>c_slope V b f bd hok ((y2-y1)*finv (x2-x1)) x1 y1 x2 y2 false false w (mC hw) (mC hw) (mC hw)) ?_);refine aL 20 rfl (sA rfl rfl sz_47 mO (hl:=mL) (h:=?_));refine aE (KM (eN (.cons ⟨_,_,_,rfl,mM,by exact KD u47 rfl sz_47⟩ .nil) ?_))
  rfl
theorem c_gmul (V:Cv) (b f bd:Nat) (hok:V.Ok) (K bk:Nat) (hK:K<W9) (P:Pt V.p) (X Y:Nat) (i:Bool) (w:World) (hb:(Item.blk b ⟨false,opL V f,100,(0,0)⟩).holds w) (hf:(Item.blk f ⟨false,fldL V.p bd,165,(0,0)⟩).holds w) (hbd:(Item.blk bd ⟨false,dvL V.p,269,(0,0)⟩).holds w) (hP:On V.A V.B P) (hk:(Item.blk bk ⟨false,natL K,33,(0,0)⟩).holds w):CF Tryz.prog 64 [.agg ([Pz b]:List Value).toArray,ptP P,ptV X Y i,Pz bk] w (ptP (pmul V.A P K)):=by
  have hbb:=hok.bounds
  have hpW:V.p<W9:=Ku hbb.2.1
  refine KV (N:=17) (rs:=[.cell 7 47]) [.blk b ⟨false,opL V f,100,(0,0)⟩,.blk f ⟨false,fldL V.p bd,165,(0,0)⟩,.blk bd ⟨false,dvL V.p,269,(0,0)⟩,.blk bk ⟨false,natL K,33,(0,0)⟩] Tryz.func64 rfl Tryz.ntmps64 Tryz.results64 (Nb rfl) ⟨hb,hf,hbd,hk,trivial⟩ rfl ?_
  refine KB (KA (oS (mB (fun b4=>?_))));refine oS (mB (fun b5=>?_));refine oS (mB (fun b6=>?_));refine oS (mk (KK zr_47) (fun b7=>?_));refine KC (KB (rD [9] (aP 0 rfl (KE (o':=0) u132 rfl rfl rfl sz_81 dc) (aD 1 rfl (dL rfl (hv:=KJ u81 rfl gL)) ?_))));refine aP 2 rfl (KE (o':=0) u132 rfl rfl rfl sz_81 dc) (aD 3 rfl (dL rfl (hv:=KJ u81 rfl gL)) ?_);refine aD 4 rfl dNa ?_;refine aD 5 rfl dNb ?_;refine aO 6 rfl (cF rfl en_67 rfl (fun w hw=>c_Triple V hok P w) ?_);refine aO 7 rfl (KDG (first:=[]) rfl en_66 rfl (Nb rfl) (fun w hw=>c_cTimes V b f bd hok K hK _ P w (mC hw) (mC hw) (mC hw) (KBX hok hP)) ?_)
  rintro _ ⟨U,hU,rfl⟩
  refine aO 8 rfl (cF rfl en_65 rfl (fun w hw=>c_PlainT V b f bd hok (U) (pmul V.A P K) w (mC hw) (mC hw) (mC hw) (hU)) ?_);refine aL 9 rfl (sA rfl rfl sz_47 mO (hl:=mL) (h:=?_));refine aE (KM (eN (.cons ⟨_,_,_,rfl,mM,by exact KD u47 rfl sz_47⟩ .nil) ?_))
  rfl
theorem c_do_ok (id:Int) (V:Cv) (P P2 R:Pt V.p) (fid:FuncId) (w:World) (h:cvI id = some V) (hP:On V.A V.B P) (hP2:On V.A V.B P2) (he:KZ Tryz.prog fid) (hc:∀ b f bd (w:World),(Item.blk b ⟨false,opL V f,100,(0,0)⟩).holds w→(Item.blk f ⟨false,fldL V.p bd,165,(0,0)⟩).holds w→(Item.blk bd ⟨false,dvL V.p,269,(0,0)⟩).holds w→Calls Tryz.prog fid ([.agg ([Pz b]:List Value).toArray,ptP P,ptP P2]:List Value).toArray w (fun e w'=>e = .returned (ptP R)∧Below w.heap.size w w')):CF Tryz.prog 63 [.int .i64 id,ptP P,ptP P2,.func (.func fid) #[] #[]] w (.tuple #[ptP R,Iz 0]):=by
  obtain ⟨hok,hid⟩:=KAz h
  have hbb:=hok.bounds
  have hpW:V.p<W9:=Ku hbb.2.1
  have hnW:V.n<W9:=Ku hbb.2.2.2.2.2.2.1
  have hbl:=KAP hnW
  have hnb:nby V.n≤72:=by (unfold nby; omega)
  refine KV (N:=35) (rs:=[.cell 8 47,.tmp 9]) [] Tryz.func63 rfl Tryz.ntmps63 Tryz.results63 (Nb rfl) trivial rfl ?_
  refine KB (KA (oS (mB (fun b5=>?_))));refine oS (mB (fun b6=>?_));refine oS (mk (KK zr_47) (fun b8=>?_));refine oP (KO (v:=Iz 0) rfl) (KC (KB (KA (oM ?_))));refine oS (oOpen h rfl rfl (fun b f bd=>?_));refine oA (KC (KB (LCode.block (KB (KA (oM ?_))))));refine oP (KI (KAH u81 rfl rfl) (show _ = Value.bool false from rfl)) (oA (KC ?_));refine KG rfl (KB (KA (oM ?_)));refine oD dNb ?_;refine oS (cF rfl en_55 rfl (fun w hw=>c_cOnP V b f bd hok (P) w (mC hw) (mC hw) (mC hw) hP) ?_);refine oP (KI (KAE rfl) (show _ = Value.bool false from rfl)) (oM ?_);refine oGM ?_;refine Km rfl rfl dNb (Nb rfl) ?_;refine oGS (cF rfl en_55 rfl (fun w hw=>c_cOnP V b f bd hok (P2) w (mC hw) (mC hw) (mC hw) hP2) ?_);refine oGP (KI (KAE rfl) (show _ = Value.bool false from rfl)) (oP (KR rfl rfl) (oA (KC ?_)))
  refine KG rfl (KN (KB (KA (oM (oM ?_)))));refine oP (KI (KW pl_132 zr_132 rfl rfl) (show _ = Value.agg ([Pz b]:List Value).toArray from rfl)) (oD dNb ?_);refine oD dNb ?_;refine oS (cF rfl he rfl (fun w hw=>hc b f bd w (mC hw) (mC hw) (mC hw)) ?_);refine oT rfl rfl sz_47 ?_;refine oP (KO (v:=Iz 0) rfl) (KC (KM (eN (.cons ⟨_,_,_,rfl,mM,by exact KD u47 rfl sz_47⟩ (.cons rfl .nil)) ?_)))
  rfl
theorem c_do_okK (id:Int) (V:Cv) (P P2 R:Pt V.p) (fid:FuncId) (K bk:Nat) (w:World) (h:cvI id = some V) (hP:On V.A V.B P) (hP2:On V.A V.B P2) (he:KZ Tryz.prog fid) (hc:∀ b f bd (w:World),(Item.blk b ⟨false,opL V f,100,(0,0)⟩).holds w→(Item.blk f ⟨false,fldL V.p bd,165,(0,0)⟩).holds w→(Item.blk bd ⟨false,dvL V.p,269,(0,0)⟩).holds w→(Item.blk bk ⟨false,natL K,33,(0,0)⟩).holds w→Calls Tryz.prog fid ([.agg ([Pz b]:List Value).toArray,ptP P,ptP P2,Pz bk]:List Value).toArray w (fun e w'=>e = .returned (ptP R)∧Below w.heap.size w w')) (hk:(Item.blk bk ⟨false,natL K,33,(0,0)⟩).holds w):CF Tryz.prog 63 [.int .i64 id,ptP P,ptP P2,.func (.func fid) #[] #[Pz bk]] w (.tuple #[ptP R,Iz 0]):=by
  obtain ⟨hok,hid⟩:=KAz h
  have hbb:=hok.bounds
  have hpW:V.p<W9:=Ku hbb.2.1
  have hnW:V.n<W9:=Ku hbb.2.2.2.2.2.2.1
  have hbl:=KAP hnW
  have hnb:nby V.n≤72:=by (unfold nby; omega)
  refine KV (N:=35) (rs:=[.cell 8 47,.tmp 9]) [.blk bk ⟨false,natL K,33,(0,0)⟩] Tryz.func63 rfl Tryz.ntmps63 Tryz.results63 (Nb rfl) ⟨hk,trivial⟩ rfl ?_
  refine KB (KA (oS (mB (fun b5=>?_))));refine oS (mB (fun b6=>?_));refine oS (mk (KK zr_47) (fun b8=>?_));refine oP (KO (v:=Iz 0) rfl) (KC (KB (KA (oM ?_))));refine oS (oOpen h rfl rfl (fun b f bd=>?_));refine oA (KC (KB (LCode.block (KB (KA (oM ?_))))));refine oP (KI (KAH u81 rfl rfl) (show _ = Value.bool false from rfl)) (oA (KC ?_));refine KG rfl (KB (KA (oM ?_)));refine oD dNb ?_;refine oS (cF rfl en_55 rfl (fun w hw=>c_cOnP V b f bd hok (P) w (mC hw) (mC hw) (mC hw) hP) ?_);refine oP (KI (KAE rfl) (show _ = Value.bool false from rfl)) (oM ?_);refine oGM ?_;refine Km rfl rfl dNb (Nb rfl) ?_;refine oGS (cF rfl en_55 rfl (fun w hw=>c_cOnP V b f bd hok (P2) w (mC hw) (mC hw) (mC hw) hP2) ?_);refine oGP (KI (KAE rfl) (show _ = Value.bool false from rfl)) (oP (KR rfl rfl) (oA (KC ?_)))
  refine KG rfl (KN (KB (KA (oM (oM ?_)))));refine oP (KI (KW pl_132 zr_132 rfl rfl) (show _ = Value.agg ([Pz b]:List Value).toArray from rfl)) (oD dNb ?_);refine oD dNb ?_;refine oS (LStep.callK (caps:=[Pz bk]) rfl he rfl (Nb rfl) (fun w hw=>hc b f bd w (mC hw) (mC hw) (mC hw) (mC hw)) ?_);refine oT rfl rfl sz_47 ?_;refine oP (KO (v:=Iz 0) rfl) (KC (KM (eN (.cons ⟨_,_,_,rfl,mM,by exact KD u47 rfl sz_47⟩ (.cons rfl .nil)) ?_)))
  rfl
theorem c_affAdd (id:Int) (V:Cv) (P P2 R:Pt V.p) (w:World) (h:cvI id = some V) (hP:On V.A V.B P) (hP2:On V.A V.B P2) (hR:padd V.A P P2 = R):CF Tryz.prog 229 [.int .i64 id,ptP P,ptP P2] w (.tuple #[ptP R,Iz 0]):=by
  obtain ⟨hok,hid⟩:=KAz h
  refine KV (N:=14) (rs:=[.cell 6 47,.tmp 7]) [] Tryz.func229 rfl Tryz.ntmps229 Tryz.results229 (Nb rfl) trivial rfl ?_
  refine KB (KA (oS (mB (fun b4=>?_))));refine oS (mB (fun b5=>?_));refine oS (mk (KK zr_47) (fun b6=>?_));refine oP (KO (v:=Iz 0) rfl) (KC (KB (KA (oM ?_))));refine oD dNb ?_;refine oD dNb ?_;refine oS (cF rfl en_63 rfl (fun w hw=>c_do_ok id V P P2 R 235 w h hP hP2 en_235 (fun b f bd w h1 h2 h3=>c_gadd V b f bd hok P P2 R w h1 h2 h3 hP hP2 hR)) ?_);refine oX ?_;refine oX ?_;refine oT rfl rfl sz_47 ?_;refine oA (KC (KM ?_));refine eN (.cons ⟨_,_,_,rfl,mM,by exact KD u47 rfl sz_47⟩ (.cons rfl .nil)) ?_
  rfl
theorem c_affMul (id:Int) (V:Cv) (K:Nat) (P:Pt V.p) (w:World) (h:cvI id = some V) (hP:On V.A V.B P) (hK:K<W9):CF Tryz.prog 30 [.int .i64 id,natV K,ptP P] w (.tuple #[ptP (pmul V.A P K),Iz 0]):=by
  obtain ⟨hok,hid⟩:=KAz h
  refine KV (N:=15) (rs:=[.cell 6 47,.tmp 7]) [] Tryz.func30 rfl Tryz.ntmps30 Tryz.results30 (Nb rfl) trivial rfl ?_
  refine KB (KA (oS (mB (fun b4=>?_))));refine oS (mB (fun b5=>?_));refine oS (mk (KK zr_47) (fun b6=>?_));refine oP (KO (v:=Iz 0) rfl) (KC (KB (KA (oM ?_))));refine oD dNb ?_;refine oD dNb ?_;refine oP (Det.makeFuncC1 rfl) (oS (cF rfl en_63 rfl (fun w hw=>c_do_okK id V P P (pmul V.A P K) 64 K b4 w h hP hP en_64 (fun b f bd w h1 h2 h3 hk=>c_gmul V b f bd hok K b4 hK P _ _ _ w h1 h2 h3 hP hk) (show (Item.blk b4 ⟨true,_,_,_⟩).holds w from hw _ mM)) ?_));refine oX ?_;refine oX ?_;refine oT rfl rfl sz_47 ?_;refine oA (KC (KM ?_));refine eN (.cons ⟨_,_,_,rfl,mM,by exact KD u47 rfl sz_47⟩ (.cons rfl .nil)) ?_
  rfl
end Go.Proofs.YtnpeokiboiclfaaGreat
set_option linter.unusedVariables false
set_option linter.unusedSimpArgs false
set_option maxRecDepth 20000
namespace Go.Proofs.YtnpeokiboiclfaaGreat
open Go Go.RowKit
open Grp
def ptPL {p:Nat} (P:Pt p):List Value:=ptL (xv P) (yv P) (iv P)
theorem KCN {p:Nat} (P:Pt p):(ptPL P).length = 19:=KX _ _ _
theorem ptPL_one {p:Nat} (P:Pt p):KBP (ptPL P):=KAB _ _ _
def tabL {p:Nat} (E:Nat→Pt p):Nat→List Value
  | 0=>[]
  | n+1=>tabL E n++ptPL (E n)
theorem KCZ {p:Nat} (E:Nat→Pt p):∀ n,(tabL E n).length = n*19
  | 0=>rfl
  | n+1=>by show (tabL E n++ptPL (E n)).length = _; rw [List.length_append,KCZ E n,KCN]; omega
theorem tabL_at {p:Nat} (E:Nat→Pt p) {k:Nat}:∀ {n},k<n→∃ post,tabL E n = tabL E k++(ptPL (E k)++post)
  | 0,h=>by omega
  | n+1,h=>by
    by_cases e:k = n
    · subst e; exact ⟨[],by rw [List.append_nil]; rfl⟩
    · obtain ⟨post,hp⟩:=tabL_at E (show k<n by omega)
      exact ⟨post++ptPL (E n),by show tabL E n++ptPL (E n) = _; rw [hp]; simp only [List.append_assoc]⟩
theorem tab_load {p:Nat} {wr:Bool} {e:TypeId} {fz:Nat×Nat} (E:Nat→Pt p) {k n:Nat} (h:k<n) (rest:List Value):LoadV Tryz.prog 47 ⟨wr,tabL E n++rest,e,fz⟩ (0+k*19) (ptP (E k)):=by
  obtain ⟨post,hp⟩:=tabL_at E h
  exact KAh (pre:=tabL E k) (cs:=ptPL (E k)) (post:=post++rest) u47 rfl sz_47 (by show tabL E n++rest = _; rw [hp]; simp only [List.append_assoc]) (by rw [KCZ]; omega) (KCN _)
theorem inf_pt:infOf Tryz.prog 47 = some (.agg (vec .u64 9 (fun _=>0)++(vec .u64 9 (fun _=>0)++[Value.bool false]):List Value).toArray,19,152):=kr
theorem fill_ptR {p:Nat} (P:Pt p):fillL ((List.range 1).map fun i=>(i*19,19)) (vec .u64 9 (fun _=>0)++(vec .u64 9 (fun _=>0)++[Value.bool false])) [(0,.agg (ptPL P).toArray)] = some (ptPL P):=fillL_whole (by simp [KU]) (KCN P)
theorem row_pt:((Array.range (1*19)).map fun i=>(Value.agg (vec .u64 9 (fun _=>0)++(vec .u64 9 (fun _=>0)++[Value.bool false]):List Value).toArray).cells[i%(Value.agg (vec .u64 9 (fun _=>0)++(vec .u64 9 (fun _=>0)++[Value.bool false]):List Value).toArray).cells.size]!) = (vec .u64 9 (fun _=>0)++(vec .u64 9 (fun _=>0)++[Value.bool false]):List Value).toArray:=kr
noncomputable abbrev mulE (V:Cv) (P:Pt V.p):Nat→Pt V.p:=fun j=>pmul V.A P j
structure TabS (p:Nat) where
  k:Nat
  T:Fin p×Fin p×Fin p
  br:Nat
  cap:Nat
  rest:List Value
theorem Brings.two {w w':World} {b c:Nat} {B D:Blk} (hb:Below w.heap.size w w') (h1:(Item.blk b B).holds w') (h2:(Item.blk c D).holds w') (n1:w.heap.size≤b) (n2:w.heap.size≤c) (hne:c≠b):Brings w [] [.blk b B,.blk c D] w':=by
  have key:∀ x,x∈[Item.blk b B,.blk c D]→∀ k,k∈x.fp→w.heap.size≤k:=fun x hx k hk=>by
    rcases List.mem_cons.1 hx with rfl|hx
    · obtain rfl:k = b:=by simpa [Item.fp] using hk
      exact n1
    · obtain rfl:x = _:=by simpa using hx
      obtain rfl:k = c:=by simpa [Item.fp] using hk
      exact n2
  refine ⟨hb,fun x hx=>?_,fun x hx k hk=>.inl (key x hx k hk),fun x hx _=>key x hx,List.pairwise_cons.2 ⟨fun y hy _ k hk hk'=>?_,List.pairwise_singleton _ _⟩⟩
  · rcases List.mem_cons.1 hx with rfl|hx
    · exact h1
    · obtain rfl:x = _:=by simpa using hx
      exact h2
  · obtain rfl:y = _:=by simpa using hy
    obtain rfl:k = b:=by simpa [Item.fp] using hk
    exact hne (by simpa [Item.fp] using hk':k = c).symm
theorem bringsC {P:Program} {f:FuncId} {a:Array Value} {w:World} {Q:Value→List Item→Prop} (h:Calls P f a w (fun e w'=>∃ v its,Q v its∧e = .returned v∧Brings w [] its w')) (H:List Item):Calls P f a w (fun e w'=>∃ v its,Q v its∧e = .returned v∧Brings w H its w') :=
  h.mono fun e w' ⟨v,its,h1,h2,h3⟩=>⟨v,its,h1,h2,h3.more (fun x hx=>by cases hx)⟩
theorem c_tabOf (V:Cv) (b f bd:Nat) (hok:V.Ok) (P:Pt V.p) (hP:On V.A V.B P) (n:Nat) (hn0:1≤n) (hn:n≤16) (w:World) (hb:(Item.blk b ⟨false,opL V f,100,(0,0)⟩).holds w) (hf:(Item.blk f ⟨false,fldL V.p bd,165,(0,0)⟩).holds w) (hbd:(Item.blk bd ⟨false,dvL V.p,269,(0,0)⟩).holds w):Calls Tryz.prog 88 ([Pz b,ptP P,Iz n]:List Value).toArray w (fun e w'=>∃ v its,(fun v its=>∃ bt br cap rest,v = Pz bt∧its = [.blk bt ⟨true,[.slice (some ⟨br,0,none⟩) n cap],220,(0,0)⟩,.blk br ⟨true,tabL (mulE V P) n++rest,47,(0,0)⟩]) v its∧e = .returned v∧Brings w [] its w'):=by
  refine KV (N:=36) (rs:=[.tmp 6]) [.blk b ⟨false,opL V f,100,(0,0)⟩,.blk f ⟨false,fldL V.p bd,165,(0,0)⟩,.blk bd ⟨false,dvL V.p,269,(0,0)⟩] Tryz.func88 rfl Tryz.ntmps88 Tryz.results88 (Nb rfl) ⟨hb,hf,hbd,trivial⟩ rfl ?_
  refine KB (KA (oS (mB (fun b4=>?_))));refine oA (KC (KB (KA ?_)));refine oP (KW pl_220 zr_220 rfl rfl) (oS (mB (fun b11=>?_)));refine oA (KC (KB (KA ?_)));refine oD dNb ?_;refine oS (cF rfl en_67 rfl (fun w hw=>c_Triple V hok P w) ?_);refine oS (cF rfl en_99 rfl (fun w hw=>c_NoneF hok w) ?_);refine oS (mk (KK KDK) (fun b8=>?_));refine oS (mk (KK KDK) (fun b9=>?_));refine LOps.step rfl (sA rfl rfl KAM (by exact KBI _) (hl:=by exact KAC _) (h:=?_));refine LOps.step rfl (sA rfl rfl KAM (by exact KBI _) (hl:=by exact KAC _) (h:=?_));refine KC (KB (KB (KA (oM ?_))));refine oP (Kg (v:=Iz 0) rfl) (KC (LCode.block (Kd (α:=Option (TabS V.p)) (fun x=>match x with|none=>True|some y=>1≤y.k∧y.k≤n∧RepT V y.T (pmul V.A P y.k)∧(tabL (mulE V P) y.k).length+y.rest.length = y.cap*19) (fun x=>match x with|none=>⟨[(0,Pz b),(7,Pz b11),(8,Pz b8),(9,Pz b9),(15,Iz n),(16,Iz 0)],[.blk b11 ⟨true,[.slice none 0 0],220,(0,0)⟩,.blk b9 ⟨true,pjFL (tripF (.inf:Pt V.p)),135,(0,0)⟩,.blk b8 ⟨true,pjFL (tripF P),135,(0,0)⟩,.blk b ⟨false,opL V f,100,(0,0)⟩,.blk f ⟨false,fldL V.p bd,165,(0,0)⟩,.blk bd ⟨false,dvL V.p,269,(0,0)⟩]⟩|some y=>⟨[(0,Pz b),(7,Pz b11),(8,Pz b8),(9,Pz b9),(15,Iz n),(16,Iz y.k)],[.blk b11 ⟨true,[.slice (some ⟨y.br,0,none⟩) y.k y.cap],220,(0,0)⟩,.blk y.br ⟨true,tabL (mulE V P) y.k++y.rest,47,(0,0)⟩,.blk b9 ⟨true,pjFL y.T,135,(0,0)⟩,.blk b8 ⟨true,pjFL (tripF P),135,(0,0)⟩,.blk b ⟨false,opL V f,100,(0,0)⟩,.blk f ⟨false,fldL V.p bd,165,(0,0)⟩,.blk bd ⟨false,dvL V.p,269,(0,0)⟩]⟩) (fun x=>match x with|none=>n+1|some y=>n-y.k) (none) (trivial) (Ka ⟨rfl,rfl,rfl,rfl,rfl,rfl,trivial⟩ mS) ?_)))
  intro x hx
  refine KB ?_
  rcases x with _|⟨k,T,br,cap,rest⟩
  ·
   refine KA (oP (bT rfl rfl Ky om) (KC (KB (KS rfl (KN (KB (LCode.block (KB (rD [9,12] (aM 0 ?_))))))))));refine aM 1 ?_;refine aP 2 rfl (KF rfl) (aP 3 rfl (KE (o':=0) u220 rfl rfl rfl sz_218 dc) (aD 4 rfl (dL rfl (hv:=KJ u218 rfl gL)) ?_));refine aM 5 ?_;refine aO 6 rfl (LStep.det (dL rfl (hv:=by exact KD u135 rfl KAM)) (Nb rfl) ?_);refine aO 7 rfl (cF rfl en_65 rfl (fun w hw=>c_PlainT V b f bd hok (tripF (.inf:Pt V.p)) (mulE V P 0) w (mC hw) (mC hw) (mC hw) (KBX hok trivial)) ?_);refine aO 8 rfl (mk (KCH (vs:=[(0,.agg (ptPL (mulE V P 0)).toArray)]) u218 inf_pt dc row_pt rfl (fill_ptR (mulE V P 0)) (fun h=>by cases h)) (fun b26=>?_));refine aL 9 rfl (KCf (s:=19) (news:=ptPL (mulE V P 0)) rfl rfl u218 inf_pt rfl mM (KCN _) dc dc dc (Nb rfl) ?_)
   intro b1 cap1 rest1 hc1
   refine aP 10 rfl (KF rfl) (aP 11 rfl (KE (o':=0) u220 rfl rfl rfl sz_218 dc) (aL 12 rfl (KY rfl rfl rfl sz_218 mT lT sT (by simp) ?_)));refine aE (KA (oM ?_));refine oD (dL rfl (hv:=by exact KD u135 rfl KAM)) ?_;refine oD (dL rfl (hv:=by exact KD u135 rfl KAM)) ?_;refine oS (cF rfl en_100 rfl (fun w hw=>c_SumT V b f bd hok (tripF (.inf:Pt V.p)) (tripF P) w (mC hw) (mC hw) (mC hw)) ?_);refine LOps.step rfl (sA rfl rfl KAM (by exact KBI _) (hl:=by exact KAC _) (h:=?_));refine KC (KA (oP (KH rfl rfl (Kj (b:=1) om)) (oM (KC ?_))))
   exact ⟨some ⟨0+1,sumT V (tripF (.inf:Pt V.p)) (tripF P),b1,cap1,rest1⟩,⟨Nat.le_add_left _ _,by show 0+1≤n; omega,RepT.sum hok (KBX hok trivial) (KBX hok hP),by rw [KCN] at hc1; show (tabL (mulE V P) (0+1)).length+rest1.length = cap1*19; rw [KCZ]; omega⟩,by show n-(0+1)<n+1; omega,KAD (Sub.cells (b:=b1) (cs':=tabL (mulE V P) (0+1)++rest1) mT (by rfl)) (Ka ⟨rfl,rfl,rfl,rfl,rfl,rfl,trivial⟩ mS)⟩
  obtain ⟨hk1,hkn,hT,hcap⟩:=hx
  dsimp only at hk1 hkn hT hcap
  refine KA (oP (KH rfl rfl (Ky)) (KC (KB ?_)))
  first|refine KQ rfl (fun h17=>?_) (fun h17=>?_)|refine KT rfl (fun h17=>?_) (fun h17=>?_)
  ·
   have h17:k<n:=h17
   refine KN (KB (LCode.block (KB (rD [9,12] (aM 0 ?_)))));refine aM 1 ?_;refine aP 2 rfl (KF rfl) (aP 3 rfl (KE (o':=0) u220 rfl rfl rfl sz_218 dc) (aD 4 rfl (dL rfl (hv:=KJ u218 rfl gL)) ?_));refine aM 5 ?_;refine aO 6 rfl (LStep.det (dL rfl (hv:=by exact KD u135 rfl KAM)) (Nb rfl) ?_);refine aO 7 rfl (cF rfl en_65 rfl (fun w hw=>c_PlainT V b f bd hok (T) (mulE V P k) w (mC hw) (mC hw) (mC hw) (hT)) ?_);refine aO 8 rfl (mk (KCH (vs:=[(0,.agg (ptPL (mulE V P k)).toArray)]) u218 inf_pt dc row_pt rfl (fill_ptR (mulE V P k)) (fun h=>by cases h)) (fun b26=>?_));refine aL 9 rfl (KDU (s:=19) (m:=1) (xs:=tabL (mulE V P) k) (rest:=rest) (news:=ptPL (mulE V P k)) rfl rfl u218 inf_pt rfl mP mM (KCZ _ _) hcap (KCN _) (ptPL_one _) om om (Nb rfl) ?_)
   intro b1 cap1 rest1 hc1
   refine aP 10 rfl (KF rfl) (aP 11 rfl (KE (o':=0) u220 rfl rfl rfl sz_218 dc) (aL 12 rfl (KY rfl rfl rfl sz_218 mT lT sT (by simp) ?_)));refine aE (KA (oM ?_));refine oD (dL rfl (hv:=by exact KD u135 rfl KAM)) ?_;refine oD (dL rfl (hv:=by exact KD u135 rfl KAM)) ?_;refine oS (cF rfl en_100 rfl (fun w hw=>c_SumT V b f bd hok (T) (tripF P) w (mC hw) (mC hw) (mC hw)) ?_);refine LOps.step rfl (sA rfl rfl KAM (by exact KBI _) (hl:=by exact KAC _) (h:=?_));refine KC (KA (oP (KH rfl rfl (Kj (b:=1) om)) (oM (KC ?_))))
   exact ⟨some ⟨k+1,sumT V T (tripF P),b1,cap1,rest1⟩,⟨Nat.le_add_left _ _,by show k+1≤n; omega,RepT.sum hok hT (KBX hok hP),by rw [KCZ,KCN] at hc1; show (tabL (mulE V P) (k+1)).length+rest1.length = cap1*19; rw [KCZ]; omega⟩,by show n-(k+1)<n-k; omega,KAD (Sub.cells (b:=b1) (cs':=tabL (mulE V P) (k+1)++rest1) mT (by rfl)) (Ka ⟨rfl,rfl,rfl,rfl,rfl,rfl,trivial⟩ mS)⟩
  have h17:¬ k<n:=h17
  refine Kb (KB (KA (oM (oA (KC (KM ?_))))))
  obtain rfl:k = n:=by omega
  exact ⟨[_],.cons rfl .nil,fun a w' hr=>⟨_,_,⟨b11,br,cap,rest,rfl,rfl⟩,rfl,Brings.two hr.fr.below (hr.hp (.blk b11 ⟨true,_,_,_⟩) mM) (hr.hp (.blk br ⟨true,_,_,_⟩) mM) (hr.new (b:=b11) (B:=⟨true,_,_,_⟩) mM rfl) (hr.new (b:=br) (B:=⟨true,_,_,_⟩) mM rfl) (apart_two hr.dist (b:=b11) (B:=⟨true,_,220,_⟩) (c:=br) (D:=⟨true,_,47,_⟩) mM mM rfl (fun e=>absurd (show (220:Nat) = 47 from e) dc))⟩⟩
def pk (i A:Nat):Nat→Nat
  | 0=>0
  | k+1=>if k = i then A else pk i A k
theorem pk_low {i A:Nat}:∀ {k},k≤i→pk i A k = 0
  | 0,_=>rfl
  | k+1,h=>by
    show (if k = i then A else pk i A k) = 0
    rw [if_neg om]; exact pk_low om
theorem pk_last {i A:Nat}:∀ {k},i<k→pk i A k = A
  | 0,h=>by omega
  | k+1,h=>by
    show (if k = i then A else pk i A k) = A
    by_cases e:k = i
    · rw [if_pos e]
    · rw [if_neg e]; exact pk_last om
theorem pk_m (i k:Nat):(if k = i then 18446744073709551615 else 0) = 0∨(if k = i then 18446744073709551615 else 0) = 18446744073709551615:=by
  by_cases e:k = i
  · exact .inr (if_pos e)
  · exact .inl (if_neg e)
theorem pk_next (F:Nat→Nat) (i k:Nat):pk i (F i) (k+1) = if (if k = i then 18446744073709551615 else 0) = 0 then pk i (F i) k else F k:=by
  show (if k = i then F i else pk i (F i) k) = _
  by_cases e:k = i
  · rw [if_pos e,if_pos e,if_neg dc,e]
  · rw [if_neg e,if_neg e,if_pos rfl]
theorem pk_or {i A z k:Nat} (hz:k = i→z = A) (h1:z≤1):pk i A k ||| (z &&& if k = i then 18446744073709551615 else 0) = pk i A (k+1):=by
  show _ = (if k = i then A else pk i A k)
  by_cases e:k = i
  · rw [if_pos e,if_pos e,pk_low om,Nat.zero_or,and_max om]; exact hz e
  · rw [if_neg e,if_neg e,Nat.and_zero,Nat.or_zero]
theorem pk_lt {i A:Nat} (h:A≤1):∀ k,pk i A k≤1
  | 0=>Nat.zero_le _
  | k+1=>by
    show (if k = i then A else pk i A k)≤1
    split
    · exact h
    · exact pk_lt h k
def ib {p:Nat} (P:Pt p):Nat:=if iv P = true then 1 else 0
theorem ib_le {p:Nat} (P:Pt p):ib P≤1:=by unfold ib; split <;> omega
theorem ib_eq {p:Nat} (P:Pt p):decide (ib P = 1) = iv P:=by unfold ib; cases iv P <;> rfl
section
variable {P:Program} {C:Ctx} {d:Option Tmp} {ty:TypeId} {pos:String} {aft:Array Edge} {g:Option (Nat×Bool)} {st:St} {x y:Operand} {t e:TypeId}
theorem Det.indexSN {s i : Nat} {k : IntKind} {b o l c : Nat} (ht : P.underlying t = some (.slice e)) (he : szOf P e = some s) (hx : evT st.T x = some (.slice (some ⟨b, o, none⟩) l c)) (hy : evT st.T y = some (.int k (i : Int))) (h1 : i < l) :
    Slots P C ⟨d,.indexAddr t x y,ty,pos,aft,g⟩ st (.pointer (some ⟨b,o+i*s,none⟩)):=by
  have:=KDH (P:=P) (C:=C) (d:=d) (ty:=ty) (pos:=pos) (aft:=aft) (g:=g) (st:=st) ht he hx hy om om
  rwa [Int.toNat_natCast] at this
end
theorem pt_zeroK (i A B:Nat):(vec .u64 9 (fun _=>0)++(vec .u64 9 (fun _=>0)++[Value.bool false]):List Value) = ptL (pk i A 0) (pk i B 0) false:=by
  show _ = ptL 0 0 false
  unfold ptL natL; rw [vec_zeros 9]
theorem pt_setY (X Y Y':Nat) (i:Bool):KAc (ptL X Y i) 9 (natL Y') = ptL X Y' i:=KAg (A:=natL X) (B:=natL Y) (D:=[.bool i]) (by simp [ptL]) (KL _) (by rw [KL,KL]) (by simp [ptL])
theorem pt_set0 (X Y X':Nat) (i:Bool):KAc (ptL X Y i) 0 (natL X') = ptL X' Y i:=KAg (A:=[]) (B:=natL X) (D:=natL Y++[.bool i]) (by simp [ptL]) rfl (by rw [KL,KL]) (by simp [ptL])
theorem pt_set2 (X Y:Nat) (i j:Bool):(ptL X Y i).set 18 (.bool j) = ptL X Y j:=by
  unfold ptL
  rw [List.set_append_right _ _ (by rw [KL]; decide),KL,List.set_append_right _ _ (by rw [KL]; decide),KL]; rfl
theorem c_tabPick (b:Option Nat) (r:TrRow) (l:List Nat) (bt br cap:Nat) (rest:List Value) {wr1 wr2:Bool} (V:Cv) (hok:V.Ok) (E:Nat→Pt V.p) (n i:Nat) (hi:i<n) (hn:n≤16) (w:World) (h0:(trI b r l).holds w) (h1:(Item.blk bt ⟨wr1,[.slice (some ⟨br,0,none⟩) n cap],220,(0,0)⟩).holds w) (h2:(Item.blk br ⟨wr2,tabL (E) n++rest,47,(0,0)⟩).holds w) (n1:Out b r (Item.blk bt ⟨wr1,[.slice (some ⟨br,0,none⟩) n cap],220,(0,0)⟩)) (n2:Out b r (Item.blk br ⟨wr2,tabL (E) n++rest,47,(0,0)⟩)) (hl:l.length≤90000000):Calls Tryz.prog 142 ([Pz bt,trV b,Iz i]:List Value).toArray w (fun e w'=>TrR w b r (l++List.range n) (.tuple #[ptP (E i),Iz 0]) e w'):=by
  refine calls_tr (N:=75) (rs:=[.cell 6 47,.tmp 7]) b r l [.blk bt ⟨false,[.slice (some ⟨br,0,none⟩) n cap],220,(0,0)⟩,.blk br ⟨false,tabL (E) n++rest,47,(0,0)⟩] Tryz.func142 rfl Tryz.ntmps142 Tryz.results142 (Nb rfl) h0 ⟨h1,h2,trivial⟩ rfl ⟨n1,n2,trivial⟩ ?_
  refine KB (KA (oS (mk (KK zr_47) (fun b6=>?_))));refine oP (KO (v:=Iz 0) rfl) (KC (KB (LCode.block (KB (KA (oM ?_))))));refine oP (KI (KAH u177 rfl rfl) (show _ = Value.bool false from rfl)) (oA (KC ?_));refine KG rfl (KB (KA (oM ?_)));refine oP (bF rfl rfl (Ky (b:=0)) (Nat.not_lt_zero _)) (oM ?_);refine oGM ?_;refine oGM ?_;refine oGP (KF rfl) (oGP (KE (o':=0) u220 rfl rfl rfl sz_218 dc) (Km rfl rfl (dL rfl (hv:=KJ u218 rfl gL)) (Nb rfl) ?_));refine oGP (KBZ u218 rfl) (oGP (bF rfl rfl KBR om) (oP (KR rfl rfl) (oA (KC ?_))));refine KG rfl (KN (KB (KA (oS (mk (KK zr_47) (fun b8=>?_))))));refine KC (KB (KA (oP (KO (v:=.int .u64 ((0:Nat):Int)) rfl) (KC (KB (KB (KA (oM ?_))))))));refine oP (KF rfl) (oP (KE (o':=0) u220 rfl rfl rfl sz_218 dc) (oD (dL rfl (hv:=KJ u218 rfl gL)) ?_));refine oP (KBZ u218 rfl) (oP (Kg (v:=Iz 0) rfl) (KC (LCode.block ?_)))
  refine Kd (α:=Nat×TrRow) (fun x=>x.1≤n) (fun x=>⟨[(0,Pz bt),(1,trV b),(2,Iz i),(6,Pz b6),(8,Pz b8),(9,.int .u64 ((pk i (ib (E i)) x.1:Nat):Int)),(34,.slice (some ⟨br,0,none⟩) n cap),(35,Iz n),(36,Iz x.1)],[trI b x.2 (l++List.range x.1),.blk b8 ⟨true,ptL (pk i (xv (E i)) x.1) (pk i (yv (E i)) x.1) false,47,(0,0)⟩,.blk b6 ⟨true,vec .u64 9 (fun _=>0)++(vec .u64 9 (fun _=>0)++[Value.bool false]),47,(0,0)⟩,.blk bt ⟨false,[.slice (some ⟨br,0,none⟩) n cap],220,(0,0)⟩,.blk br ⟨false,tabL (E) n++rest,47,(0,0)⟩]⟩) (fun x=>n-x.1) ((0,r)) (Nat.zero_le _) (KAD (Sub.cells (b:=b8) (cs':=ptL (pk i (xv (E i)) 0) (pk i (yv (E i)) 0) false) mT (pt_zeroK _ _ _)) (by dsimp only [List.range_zero]; rw [List.append_nil]; exact Ka ⟨rfl,rfl,rfl,rfl,rfl,rfl,rfl,rfl,rfl,trivial⟩ mS)) ?_
  intro x hx
  refine KB (KA (oP (KH rfl rfl (Ky)) (KC (KB ?_))))
  first|refine KQ rfl (fun h37=>?_) (fun h37=>?_)|refine KT rfl (fun h37=>?_) (fun h37=>?_)
  ·
   have h37:x.1<n:=h37
   refine KN (KB (LCode.block (KB (KA (oM ?_)))));refine oP (Det.indexSN u218 sz_47 rfl rfl om) (oD (dL rfl (hv:=by exact tab_load E h37 rest)) ?_);refine oS (mk (KK zr_47) (fun b11=>?_));refine oA ?_;refine LOps.step rfl (sA rfl rfl sz_47 (by exact KAB _ _ _) (hl:=by exact KX _ _ _) (h:=?_));refine KC (KB (KA (oM (oM ?_))));refine LOps.step rfl (KBu (first:=[]) (r:=x.2) (l:=l++List.range x.1) (l':=l++List.range (x.1+1)) rfl en_183 rfl (Nb rfl) mP (fun w hw hn=>by rw [List.range_succ,← List.append_assoc]; exact c_trIndex b x.2 _ x.1 w (mC hw) (by rw [List.length_append,List.length_range]; omega)) ?_)
   intro r1
   refine KC (KB (KA (oM ?_)));refine oP (KBy u3 u30 rfl (by first|omega|exact Nat.lt_trans (D.limb_lt _ _) dc)) ?_;refine oM ?_;refine oP (KBy u3 u30 rfl (by first|omega|exact Nat.lt_trans (D.limb_lt _ _) dc)) ?_;refine oS (cF rfl en_184 rfl (fun w hw=>c_mEqual x.1 i w om om) ?_);refine oA (KC (KB (rD [13,15] ?_)));refine aM 0 ?_;refine aP 1 rfl (KE (o':=0) u47 rfl rfl rfl sz_33 dc) (aD 2 rfl (dL rfl (hv:=by exact Kh u33 rfl sz_33 rfl (KL _))) ?_);refine aP 3 rfl (KE (o':=0) u47 rfl rfl rfl sz_33 dc) (aD 4 rfl (dL rfl (hv:=by exact Kh u33 rfl sz_33 rfl (KL _))) ?_);refine aM 6 ?_;refine aP 7 rfl (KE (o':=9) u47 rfl rfl rfl sz_33 dc) (aP 9 rfl (KE (o':=9) u47 rfl rfl rfl sz_33 dc) (aD 10 rfl (dL rfl (hv:=by exact KCY _ _ _ _ _ _)) ?_));refine KAp [11,13,14,15] 8 rfl kr (Nb rfl) (dL rfl (hv:=by exact KCY _ _ _ _ _ _)) ?_
   refine aO 5 rfl (cF rfl en_185 rfl (fun w hw=>c_mSelect (if x.1 = i then 18446744073709551615 else 0) (xv (E x.1)) (pk i (xv (E i)) x.1) (pk i (xv (E i)) (x.1+1)) w (pk_m _ _) (pk_next (fun j=>xv (E j)) i x.1)) ?_);refine aP 12 rfl (KE (o':=0) u47 rfl rfl rfl sz_33 dc) (aO 11 rfl (cF rfl en_185 rfl (fun w hw=>c_mSelect (if x.1 = i then 18446744073709551615 else 0) (yv (E x.1)) (pk i (yv (E i)) x.1) (pk i (yv (E i)) (x.1+1)) w (pk_m _ _) (pk_next (fun j=>yv (E j)) i x.1)) ?_));refine aL 13 rfl (Kl rfl rfl rfl sz_33 (KL _) (Kv _) mT (by simp only [KX]; decide) (pt_set0 _ _ _ _) (by simp) ?_);refine aP 14 rfl (KE (o':=9) u47 rfl rfl rfl sz_33 dc) ?_;refine aL 15 rfl (Kl rfl rfl rfl sz_33 (KL _) (Kv _) mT (by simp only [KX]; decide) (pt_setY _ _ _ _) (by simp) ?_);refine aE (KB (KA (oP (KO (v:=.int .u64 ((0:Nat):Int)) rfl) (KC (KB (KB ?_))))))
   cases hiv:iv (E x.1)
   ·
    refine KA (oP (KE (o':=18) u47 rfl rfl rfl sz_4 dc) (oD (dL rfl (hv:=KJ u4 rfl (by exact pt_gt _ _ _))) ?_));refine KC (KG rfl (KN (KA (oM (oM (oM ?_))))));refine oP (KH rfl rfl (KBN (a:=0) (b:=(if x.1 = i then 18446744073709551615 else 0)) dc (by split <;> decide))) ?_;refine oP (KI (KH rfl rfl (KCU (a:=pk i (ib (E i)) x.1) (b:=0 &&& (if x.1 = i then 18446744073709551615 else 0)) (Nat.lt_of_le_of_lt (pk_lt (ib_le _) _) dc) (Nat.lt_of_le_of_lt Nat.and_le_left dc))) (vi (b:=pk i (ib (E i)) (x.1+1)) (pk_or (fun e=>by rw [← e]; unfold ib; rw [hiv]; rfl) dc))) ?_;refine oA (KC (KA ?_));refine oP (KH rfl rfl (Kj (b:=1) om)) (oM (KC ?_))
    exact ⟨(x.1+1,r1),by dsimp only; omega,by dsimp only; omega,Ka ⟨rfl,rfl,rfl,rfl,rfl,rfl,rfl,rfl,rfl,trivial⟩ mS⟩
   refine KA (oP (KE (o':=18) u47 rfl rfl rfl sz_4 dc) (oD (dL rfl (hv:=KJ u4 rfl (by exact pt_gt _ _ _))) ?_));refine KC (KS rfl (KA (oP (KO (v:=.int .u64 ((1:Nat):Int)) rfl) (KC (KA (oM (oM (oM ?_))))))));refine oP (KH rfl rfl (KBN (a:=1) (b:=(if x.1 = i then 18446744073709551615 else 0)) dc (by split <;> decide))) ?_;refine oP (KI (KH rfl rfl (KCU (a:=pk i (ib (E i)) x.1) (b:=1 &&& (if x.1 = i then 18446744073709551615 else 0)) (Nat.lt_of_le_of_lt (pk_lt (ib_le _) _) dc) (Nat.lt_of_le_of_lt Nat.and_le_left dc))) (vi (b:=pk i (ib (E i)) (x.1+1)) (pk_or (fun e=>by rw [← e]; unfold ib; rw [hiv]; rfl) dc))) ?_;refine oA (KC (KA ?_));refine oP (KH rfl rfl (Kj (b:=1) om)) (oM (KC ?_))
   exact ⟨(x.1+1,r1),by dsimp only; omega,by dsimp only; omega,Ka ⟨rfl,rfl,rfl,rfl,rfl,rfl,rfl,rfl,rfl,trivial⟩ mS⟩
  have h37:¬ x.1<n:=h37
  refine Kb (KB ?_)
  have hx1n:x.1 = n:=by omega
  rw [hx1n,pk_last hi,pk_last hi,pk_last hi]
  refine KA (oM ?_);refine oP (KI (KH rfl rfl (Kt (b:=1))) (congrArg Value.bool (ib_eq (E i)))) (oP (KE (o':=18) u47 rfl rfl rfl sz_4 dc) ?_);refine LOps.step rfl (KY rfl rfl rfl sz_4 mT (by rw [KX]; decide) (by exact pt_set2 _ _ _ _) (by simp) ?_);refine KC (KB (KA (oD dNb ?_)));refine LOps.step rfl (sA rfl rfl sz_47 (by exact KAB _ _ _) (hl:=by exact KX _ _ _) (h:=?_));refine oP (KO (v:=Iz 0) rfl) (KC (KM ?_))
  exact ⟨[_,_],.cons ⟨_,_,_,rfl,mM,by exact KD u47 rfl sz_47⟩ (.cons rfl .nil),fun a w' hr=>hr.tr mM⟩
end Go.Proofs.YtnpeokiboiclfaaGreat
set_option linter.unusedVariables false
set_option linter.unusedSimpArgs false
set_option maxRecDepth 20000
namespace Go.Proofs.YtnpeokiboiclfaaGreat
open Go Go.RowKit
open Grp
def dg (K m i:Nat):Nat:=K/2^((m-1-i)*4)%16
theorem dg_lt (K m i:Nat):dg K m i<16:=Nat.mod_lt _ dc
theorem and15 (A:Nat):limb A 0 &&& 15 = A%16:=by
  rw [show 15 = 2^4-1 from rfl,Nat.and_two_pow_sub_one_eq_mod]
  unfold limb
  rw [Nat.mul_zero,Nat.pow_zero,Nat.div_one,show (2:Nat)^4 = 16 from rfl]
  omega
theorem vec_snoc {k:IntKind} {f:Nat→Nat} {n x:Nat} (h:x = f n) (rest:List Value):(vec k n f++[Value.int k ((x:Nat):Int)])++rest = vec k (n+1) f++rest:=by
  subst h
  congr 1
  simp [vec,List.range_succ]
theorem vec_first {k:IntKind} {f:Nat→Nat} {x:Nat} (h:x = f 0) (rest:List Value):[Value.int k ((x:Nat):Int)]++rest = vec k (0+1) f++rest:=by
  subst h; rfl
structure DigS where
  j:Nat
  bd:Nat
  cap:Nat
  rest:List Value
theorem dig_cases (x:Option DigS) (m:Nat):x = none∨(∃ j bd cap rest,x = some ⟨j,bd,cap,rest⟩∧j<m)∨(∃ j bd cap rest,x = some ⟨j,bd,cap,rest⟩∧m≤j):=by
  rcases x with _|⟨j,bd,cap,rest⟩
  · exact .inl rfl
  · rcases Nat.lt_or_ge j m with h|h
    · exact .inr (.inl ⟨j,bd,cap,rest,rfl,h⟩)
    · exact .inr (.inr ⟨j,bd,cap,rest,rfl,h⟩)
theorem Brings.one {w w':World} {b:Nat} {B:Blk} (hb:Below w.heap.size w w') (h1:(Item.blk b B).holds w') (n1:w.heap.size≤b):Brings w [] [.blk b B] w':=by
  have key:∀ x,x∈[Item.blk b B]→∀ k,k∈x.fp→w.heap.size≤k:=fun x hx k hk=>by
    obtain rfl:x = _:=by simpa using hx
    obtain rfl:k = b:=by simpa [Item.fp] using hk
    exact n1
  exact ⟨hb, fun x hx => (by obtain rfl : x = _ := by simpa using hx
                             exact h1),fun x hx k hk=>.inl (key x hx k hk),fun x hx _=>key x hx,List.pairwise_singleton _ _⟩
theorem c_wide4  (w:World)  : CF Tryz.prog 182 [Iz 4] w (.bool true):=by
  refine KV (N:=9) (rs:=[.tmp 2]) [] Tryz.func182 rfl Tryz.ntmps182 Tryz.results182 (Nb rfl) trivial rfl ?_
  refine KB (KA (oA (KC (KB (KA (oM ?_))))));refine oP (bT rfl rfl (KBR (b:=1)) dc) (oM ?_);refine oGM ?_;refine oGP (bT rfl rfl (br_leq (b:=6)) dc) (oP (Ke rfl rfl) (oA (KC (KM ?_))));refine eN (.cons rfl .nil) ?_
  rfl
theorem c_Digits (K B m:Nat) (hK:K<W9) (hB:1≤B) (hB2:B≤576) (hKB:blen K≤B) (hm:(B+3)/4 = m) (w:World)  : Calls Tryz.prog 141 ([natV K,Iz B,Iz 4]:List Value).toArray w (fun e w'=>∃ v its,(fun v its=>∃ bd cap rest,v = .tuple #[.slice (some ⟨bd,0,none⟩) m cap,Iz 0]∧its = [.blk bd ⟨true,vec .i64 (m) (dg K m)++rest,3,(0,0)⟩]) v its∧e = .returned v∧Brings w [] its w'):=by
  refine KV (N:=61) (rs:=[.tmp 6,.tmp 7]) [] Tryz.func141 rfl Tryz.ntmps141 Tryz.results141 (Nb rfl) trivial rfl ?_
  refine KB (KA (oS (mB (fun b3=>?_))));refine oA ?_;refine oP (KO (v:=Iz 0) rfl) (KC (KB (KB (KA (oM ?_)))));refine oS (cF rfl en_182 rfl (fun w hw=>c_wide4 w) ?_);refine oP (KI (KAE rfl) (show _ = Value.bool false from rfl)) (oM ?_);refine oGM ?_;refine oGP (bF rfl rfl (Ky (b:=1)) om) (oP (KR rfl rfl) (oM ?_));refine oGM ?_;refine oGP (bF rfl rfl (KAZ (b:=576)) om) (oP (KR rfl rfl) (oM ?_));refine Km rfl rfl dNa (Nb rfl) ?_;refine oGS (cF rfl en_81 rfl (fun w hw=>KBg K hK w) ?_);refine oGM ?_;refine oGP (bF rfl rfl KAZ om) (oP (KR rfl rfl) (KC (KG rfl (KN (KB (KA (oA (KC (KB (KB (KA (oM (oM ?_)))))))))))));refine oP (KH rfl rfl (Kj om)) (oP (KH rfl rfl (KAf (b:=1) om om)) (oM ?_));refine oP (KI (KH rfl rfl (KCu (b:=4) om om)) (vi (b:=m) om)) (oP (KH (v:=.int .i64 (((m:Nat):Int)-1)) rfl rfl (KBr om om)) (oA (KC (LCode.block ?_))));refine Kd (α:=Option DigS) (fun x=>match x with|none=>True|some y=>1≤y.j∧y.j≤m∧y.j+y.rest.length = y.cap) (fun x=>match x with|none=>⟨[(1,Iz B),(2,Iz 4),(3,Pz b3),(8,.slice none 0 0),(9,.int .i64 (((m:Nat):Int)-1))],[.blk b3 ⟨true,natL K,33,(0,0)⟩]⟩|some y=>⟨[(1,Iz B),(2,Iz 4),(3,Pz b3),(8,.slice (some ⟨y.bd,0,none⟩) y.j y.cap),(9,.int .i64 (((m-y.j:Nat):Int)-1))],[.blk y.bd ⟨true,vec .i64 (y.j) (dg K m)++y.rest,3,(0,0)⟩,.blk b3 ⟨true,natL K,33,(0,0)⟩]⟩) (fun x=>match x with|none=>m+1|some y=>m-y.j) (none) (trivial) (Ka ⟨rfl,rfl,rfl,rfl,rfl,trivial⟩ mS) ?_
  intro x hx
  refine KB (KB ?_)
  rcases dig_cases x m with rfl|⟨j,bd,cap,rest,rfl,hjm⟩|⟨j,bd,cap,rest,rfl,hjm⟩
  ·
   obtain ⟨z,hz⟩:∃ z,m = z+1:=⟨m-1,by omega⟩
   refine KA (oM ?_);refine oP (KH (v:=.bool true) rfl rfl (by simp [Kq]; omega)) ?_;refine KC (KS rfl (KN (KB (LCode.block (KB (KA (oD dNa ?_)))))));refine oP (Kg (v:=Iz z) (by show some _ = some _; congr 2; omega)) ?_;refine oM ?_;refine oP (KH rfl rfl (KBz om)) (oP (KI (Det.min rfl rfl) (show _ = Iz (z*4) by rw [if_neg om])) (oS (cF rfl en_83 rfl (fun w hw=>c_nat_Shr K (z*4) hK om w) ?_)));refine oM ?_;refine oX ?_;refine oX ?_;refine oS (mk (KK zr_33) (fun b10=>?_));refine oT rfl rfl sz_33 ?_;refine oA (KC (rD [10] ?_));refine aM 0 ?_;refine aP 1 rfl (KE (o':=0) u33 rfl rfl rfl sz_31 dc) (aP 2 rfl (KP (i:=0) u31 sz_30 rfl rfl dc) (aM 4 ?_));refine aP 5 rfl (KI (KH rfl rfl (KCL (a:=1) (b:=4))) (vi (b:=16) dc)) (aP 6 rfl (KI (KH rfl rfl (KBU (a:=16) (b:=1) dc)) (vi (b:=15) dc)) (aO 3 rfl (LStep.det (dL rfl (hv:=KJ u30 rfl (by exact KAb _ dc))) (Nb rfl) ?_)))
   refine aP 7 rfl (KI (KH rfl rfl (KBN (b:=15) (limb_lt _ _) dc)) (vi (b:=K/2^(z*4)%16) (and15 _))) (aP 8 rfl (KAe u30 u3 rfl om) (aO 9 rfl (mk (KAO u76 inf_3 rfl rfl rfl rfl dc rfl) (fun b58=>?_))));refine aL 10 rfl (LStepW.appendNil (news:=[Iz (K/2^(z*4)%16)]) rfl rfl u76 inf_3 rfl mM rfl dc dc dc (Nb rfl) ?_)
   intro b1 cap1 rest1 hc1
   refine aA 11 ?_;refine aE (KA ?_);refine oP (Kg (v:=Iz z) (by show some _ = some _; congr 2; omega)) ?_;refine oP (KH (v:=.int .i64 (((z:Nat):Int)-1)) rfl rfl (KBr om om)) (oA (KC ?_))
   obtain rfl:m-(0+1) = z:=by omega
   exact ⟨some ⟨0+1,b1,cap1,rest1⟩,⟨Nat.le_refl _,by show 0+1≤m; omega,by show 0+1+rest1.length = cap1; have h1:=hc1; simp at h1; omega⟩,by show m-(0+1)<m+1; omega,KAD (Sub.cells (b:=b1) (cs':=vec .i64 (0+1) (dg K m)++rest1) mT (vec_first rfl _)) (Ka ⟨rfl,rfl,rfl,rfl,rfl,trivial⟩ mS)⟩
  ·
   obtain ⟨hj1,hjn,hcap⟩:=hx
   dsimp only at hj1 hjn hcap
   dsimp only
   obtain ⟨z,hz⟩:∃ z,m-j = z+1:=⟨m-j-1,by omega⟩
   refine KA (oM ?_);refine oP (KH (v:=.bool true) rfl rfl (by simp [Kq]; omega)) ?_;refine KC (KS rfl (KN (KB (LCode.block (KB (KA (oD dNa ?_)))))));refine oP (Kg (v:=Iz z) (by show some _ = some _; congr 2; omega)) ?_;refine oM ?_;refine oP (KH rfl rfl (KBz om)) (oP (KI (Det.min rfl rfl) (show _ = Iz (z*4) by rw [if_neg om])) (oS (cF rfl en_83 rfl (fun w hw=>c_nat_Shr K (z*4) hK om w) ?_)));refine oM ?_;refine oX ?_;refine oX ?_;refine oS (mk (KK zr_33) (fun b10=>?_));refine oT rfl rfl sz_33 ?_;refine oA (KC (rD [10] ?_));refine aM 0 ?_;refine aP 1 rfl (KE (o':=0) u33 rfl rfl rfl sz_31 dc) (aP 2 rfl (KP (i:=0) u31 sz_30 rfl rfl dc) (aM 4 ?_));refine aP 5 rfl (KI (KH rfl rfl (KCL (a:=1) (b:=4))) (vi (b:=16) dc)) (aP 6 rfl (KI (KH rfl rfl (KBU (a:=16) (b:=1) dc)) (vi (b:=15) dc)) (aO 3 rfl (LStep.det (dL rfl (hv:=KJ u30 rfl (by exact KAb _ dc))) (Nb rfl) ?_)))
   refine aP 7 rfl (KI (KH rfl rfl (KBN (b:=15) (limb_lt _ _) dc)) (vi (b:=K/2^(z*4)%16) (and15 _))) (aP 8 rfl (KAe u30 u3 rfl om) (aO 9 rfl (mk (KAO u76 inf_3 rfl rfl rfl rfl dc rfl) (fun b58=>?_))));refine aL 10 rfl (LStepW.append (xs:=vec .i64 j (dg K m)) (rest:=rest) (news:=[Iz (K/2^(z*4)%16)]) rfl rfl u76 inf_3 rfl mP mM (KU _ _ _) (by rw [KU]; exact hcap) rfl (Kp rfl KAA) om om (Nb rfl) ?_)
   intro b1 cap1 rest1 hc1
   refine aA 11 ?_;refine aE (KA ?_);refine oP (Kg (v:=Iz z) (by show some _ = some _; congr 2; omega)) ?_;refine oP (KH (v:=.int .i64 (((z:Nat):Int)-1)) rfl rfl (KBr om om)) (oA (KC ?_))
   obtain rfl:m-(j+1) = z:=by omega
   exact ⟨some ⟨j+1,b1,cap1,rest1⟩,⟨by show 1≤j+1; omega,by show j+1≤m; omega,by show j+1+rest1.length = cap1; have h1:=hc1; rw [KU] at h1; exact h1⟩,by show m-(j+1)<m-j; omega,KAD (Sub.cells (b:=b1) (cs':=vec .i64 (j+1) (dg K m)++rest1) mT (vec_snoc (by unfold dg; rw [show m-1-j = m-(j+1) by omega]) _)) (Ka ⟨rfl,rfl,rfl,rfl,rfl,trivial⟩ mS)⟩
  obtain ⟨hj1,hjn,hcap⟩:=hx
  dsimp only at hj1 hjn hcap
  dsimp only
  refine KA (oM ?_);refine oP (KH (v:=.bool false) rfl rfl (by simp [Kq]; omega)) ?_;refine KC (KG rfl (Kb (KB (KA (oM (oA ?_))))));refine oP (KO (v:=Iz 0) rfl) (KC (KM ?_))
  obtain rfl:j = m:=by omega
  exact ⟨[_,_],.cons rfl (.cons rfl .nil),fun a w' hr=>⟨_,_,⟨bd,cap,rest,rfl,rfl⟩,rfl,Brings.one hr.fr.below (hr.hp (.blk bd ⟨true,_,_,_⟩) mM) (hr.new (b:=bd) (B:=⟨true,_,_,_⟩) mM rfl)⟩⟩
def evN:Nat→List Nat
  | 0=>[]
  | n+1=>evN n++List.range 16
theorem KDb:∀ n,(evN n).length = n*16
  | 0=>rfl
  | n+1=>by show (evN n++List.range 16).length = _; rw [List.length_append,KDb n,List.length_range]; omega
structure MulS (p:Nat) where
  i:Nat
  T:Fin p×Fin p×Fin p
  r:TrRow
theorem mul_top {V:Cv} (hok:V.Ok) {P:Pt V.p} {K m:Nat} (hK:K<V.n) (hm:(blen V.n+3)/4 = m):RepT V (tripF (.inf:Pt V.p)) (pmul V.A P (K/2^((m-0)*4))):=by
  have h1:=KCS V.n
  have h2:2^blen V.n≤2^((m-0)*4):=Nat.pow_le_pow_right dc om
  rw [Nat.div_eq_of_lt (Nat.lt_of_lt_of_le (Nat.lt_trans hK h1) h2)]
  exact KBX hok trivial
theorem mul_twice {V:Cv} (hok:V.Ok) {P:Pt V.p} (hP:On V.A V.B P) {q j:Nat} {T:Fin V.p×Fin V.p×Fin V.p} (h:RepT V T (pmul V.A P (q*2^j))):RepT V (sumT V T T) (pmul V.A P (q*2^(j+1))):=by
  have:=RepT.sum hok h h
  rwa [← pmul_add hok.crv hP,← Nat.mul_two,Nat.mul_assoc,← Nat.pow_succ] at this
theorem mul_digit {V:Cv} (hok:V.Ok) {P:Pt V.p} (hP:On V.A V.B P) {K m i:Nat} (hi:i<m) {T:Fin V.p×Fin V.p×Fin V.p} (h:RepT V T (pmul V.A P (K/2^((m-i)*4)*2^4))):RepT V (sumT V T (tripF (mulE V P (dg K m i)))) (pmul V.A P (K/2^((m-(i+1))*4))):=by
  have:=RepT.sum hok h (KBX hok (hok.mul hP (dg K m i)))
  rw [← pmul_add hok.crv hP] at this
  have e:K/2^((m-i)*4)*2^4+dg K m i = K/2^((m-(i+1))*4):=by
    unfold dg
    rw [show m-1-i = m-(i+1) by omega,show (m-i)*4 = (m-(i+1))*4+4 by omega,Nat.pow_add,← Nat.div_div_eq_div_mul,show (2:Nat)^4 = 16 from rfl]
    generalize K/2^((m-(i+1))*4) = N
    omega
  rwa [e] at this
theorem mul_all {V:Cv} {P:Pt V.p} {K m i:Nat} {T:Fin V.p×Fin V.p×Fin V.p} (hi:i = m) (h:RepT V T (pmul V.A P (K/2^((m-i)*4)))):RepT V T (pmul V.A P K):=by
  subst hi
  rwa [Nat.sub_self,Nat.zero_mul,Nat.pow_zero,Nat.div_one] at h
theorem dig_get {K m i:Nat} {rest:List Value} (h:i<m):(vec .i64 m (dg K m)++rest)[i+0]? = some (Iz (dg K m i)):=by
  rw [Nat.add_zero,List.getElem?_append_left (by rw [KU]; exact h)]
  exact Ki _ _ _ h
theorem c_mTimes (tb:Option Nat) (tr:TrRow) (l:List Nat) (V:Cv) (b f bd:Nat) (hok:V.Ok) (K m:Nat) (P:Pt V.p) (bt br cap:Nat) (rest:List Value) {wr1 wr2:Bool} (hP:On V.A V.B P) (hK:K<V.n) (hm:(blen V.n+3)/4 = m) (w:World) (h0:(trI tb tr l).holds w) (hl:l.length≤80000000) (hb:(Item.blk b ⟨false,opL V f,100,(0,0)⟩).holds w) (hf:(Item.blk f ⟨false,fldL V.p bd,165,(0,0)⟩).holds w) (hbd:(Item.blk bd ⟨false,dvL V.p,269,(0,0)⟩).holds w) (h1:(Item.blk bt ⟨wr1,[.slice (some ⟨br,0,none⟩) 16 cap],220,(0,0)⟩).holds w) (h2:(Item.blk br ⟨wr2,tabL (mulE V (P)) 16++rest,47,(0,0)⟩).holds w) (o0:Out tb tr (Item.blk b ⟨false,opL V f,100,(0,0)⟩)) (o1:Out tb tr (Item.blk f ⟨false,fldL V.p bd,165,(0,0)⟩)) (o2:Out tb tr (Item.blk bd ⟨false,dvL V.p,269,(0,0)⟩)) (n1:Out tb tr (Item.blk bt ⟨wr1,[.slice (some ⟨br,0,none⟩) 16 cap],220,(0,0)⟩)) (n2:Out tb tr (Item.blk br ⟨wr2,tabL (mulE V (P)) 16++rest,47,(0,0)⟩)):Calls Tryz.prog 87 ([trV tb,Pz b,natV K,Pz bt]:List Value).toArray w (fun e w'=>TrR w tb tr (l++evN m) (ptP (pmul V.A P K)) e w'):=by
  have hbb:=hok.bounds
  have hnW:V.n<W9:=Ku hbb.2.2.2.2.2.2.1
  have hbl:=KAP hnW
  have hK9:=Nat.lt_trans hK hnW
  have hkb:blen K≤blen V.n:=KBJ (Nat.lt_trans hK (KCS _))
  have hbl1:1≤blen V.n:=Nat.pos_of_ne_zero (KDF om)
  refine calls_tr (N:=56) (rs:=[.cell 8 47]) tb tr l [.blk b ⟨false,opL V f,100,(0,0)⟩,.blk f ⟨false,fldL V.p bd,165,(0,0)⟩,.blk bd ⟨false,dvL V.p,269,(0,0)⟩,.blk bt ⟨false,[.slice (some ⟨br,0,none⟩) 16 cap],220,(0,0)⟩,.blk br ⟨false,tabL (mulE V (P)) 16++rest,47,(0,0)⟩] Tryz.func87 rfl Tryz.ntmps87 Tryz.results87 (Nb rfl) h0 ⟨hb,hf,hbd,h1,h2,trivial⟩ rfl ⟨o0,o1,o2,n1,n2,trivial⟩ ?_
  refine KB (KA (oS (mB (fun b6=>?_))));refine oS (mk (KK zr_47) (fun b8=>?_));refine KC (KB (rD [] (aD 0 rfl dNa ?_)));refine aM 1 ?_;refine aP 2 rfl (KF rfl) (aP 3 rfl (KE (o':=0) u100 rfl rfl rfl sz_53 dc) (aP 4 rfl (KE (o':=56) u53 rfl rfl rfl sz_3 dc) (aD 5 rfl (dL rfl (hv:=KJ u3 rfl (by exact KDD _ _ _ _ _ _ _ _ _ _ _ _ _))) ?_)));refine aO 6 rfl (cC rfl en_141 rfl (fun w hw=>bringsC (c_Digits K (blen V.n) m hK9 hbl1 om hkb hm w) _) ?_)
  rintro _ _ ⟨ds,dcap,drest,rfl,rfl⟩
  refine aM 7 ?_;refine aP 8 rfl (Det.extract rfl rfl) (aP 9 rfl (Det.extract rfl rfl) (aA 10 ?_));refine aA 11 ?_;refine aE (KB (KA (oS (cF rfl en_99 rfl (fun w hw=>c_NoneF hok w) ?_))));refine oS (mk (KK KDK) (fun b11=>?_));refine LOps.step rfl (sA rfl rfl KAM (by exact KBI _) (hl:=by exact KAC _) (h:=?_));refine KC (KB (KB (KA (oM ?_))));refine oP (KBZ u76 rfl) (oP (Kg (v:=Iz 0) rfl) (KC (LCode.block ?_)));refine Kd (α:=MulS V.p) (fun x=>x.i≤m∧RepT V x.T (pmul V.A P (K/2^((m-x.i)*4)))) (fun x=>⟨[(0,trV tb),(1,Pz b),(3,Pz bt),(8,Pz b8),(11,Pz b11),(27,.slice (some ⟨ds,0,none⟩) m dcap),(28,Iz m),(29,Iz x.i)],[trI tb (x.r) (l++evN x.i),.blk b11 ⟨true,pjFL x.T,135,(0,0)⟩,.blk b8 ⟨true,vec .u64 9 (fun _=>0)++(vec .u64 9 (fun _=>0)++[Value.bool false]),47,(0,0)⟩,.blk ds ⟨true,vec .i64 (m) (dg K m)++drest,3,(0,0)⟩,.blk b ⟨false,opL V f,100,(0,0)⟩,.blk f ⟨false,fldL V.p bd,165,(0,0)⟩,.blk bd ⟨false,dvL V.p,269,(0,0)⟩,.blk bt ⟨false,[.slice (some ⟨br,0,none⟩) 16 cap],220,(0,0)⟩,.blk br ⟨false,tabL (mulE V (P)) 16++rest,47,(0,0)⟩]⟩) (fun x=>m-x.i) (⟨0,tripF (.inf:Pt V.p),tr⟩) (⟨Nat.zero_le _,mul_top hok hK hm⟩) (by dsimp only [evN]; rw [List.append_nil]; exact Ka ⟨rfl,rfl,rfl,rfl,rfl,rfl,rfl,rfl,trivial⟩ mS) ?_
  rintro x ⟨hx1,hx2⟩
  refine KB (KA (oP (KH rfl rfl (Ky)) (KC (KB ?_))))
  first|refine KQ rfl (fun h30=>?_) (fun h30=>?_)|refine KT rfl (fun h30=>?_) (fun h30=>?_)
  ·
   have h30:x.i<m:=h30
   refine KN (KB (LCode.block (KB (KA (oP (Det.indexS u76 sz_3 rfl rfl om) (oD (dL rfl (hv:=KJ u3 rfl (by exact dig_get om))) ?_))))));refine oA (KC (KB (KB (KA ?_))));refine oP (Kg (v:=Iz 0) rfl) (KC (LCode.block ?_));refine Kd (α:=Nat×(Fin V.p×Fin V.p×Fin V.p)) (fun y=>y.1≤4∧RepT V y.2 (pmul V.A P (K/2^((m-x.i)*4)*2^y.1))) (fun y=>⟨[(13,Iz (dg K m x.i)),(33,Iz y.1),(0,trV tb),(1,Pz b),(3,Pz bt),(8,Pz b8),(11,Pz b11),(27,.slice (some ⟨ds,0,none⟩) m dcap),(28,Iz m),(29,Iz x.i)],[trI tb (x.r) (l++evN x.i),.blk b11 ⟨true,pjFL y.2,135,(0,0)⟩,.blk b8 ⟨true,vec .u64 9 (fun _=>0)++(vec .u64 9 (fun _=>0)++[Value.bool false]),47,(0,0)⟩,.blk ds ⟨true,vec .i64 (m) (dg K m)++drest,3,(0,0)⟩,.blk b ⟨false,opL V f,100,(0,0)⟩,.blk f ⟨false,fldL V.p bd,165,(0,0)⟩,.blk bd ⟨false,dvL V.p,269,(0,0)⟩,.blk bt ⟨false,[.slice (some ⟨br,0,none⟩) 16 cap],220,(0,0)⟩,.blk br ⟨false,tabL (mulE V (P)) 16++rest,47,(0,0)⟩]⟩) (fun y=>4-y.1) ((0,x.T)) (⟨Nat.zero_le _,by dsimp only; rw [Nat.pow_zero,Nat.mul_one]; exact hx2⟩) (Ka ⟨rfl,rfl,rfl,rfl,rfl,rfl,rfl,rfl,rfl,rfl,trivial⟩ mS) ?_
   rintro y ⟨hy1,hy2⟩
   refine KB (KA (oP (KH rfl rfl (Ky (b:=4))) (KC (KB ?_))))
   first|refine KQ rfl (fun h34=>?_) (fun h34=>?_)|refine KT rfl (fun h34=>?_) (fun h34=>?_)
   ·
    have h34:y.1<4:=h34
    refine KN (KB (LCode.block (KA (oM ?_))));refine oD (dL rfl (hv:=by exact KD u135 rfl KAM)) ?_;refine oD (dL rfl (hv:=by exact KD u135 rfl KAM)) ?_;refine oS (cF rfl en_100 rfl (fun w hw=>c_SumT V b f bd hok (y.2) (y.2) w (mC hw) (mC hw) (mC hw)) ?_);refine LOps.step rfl (sA rfl rfl KAM (by exact KBI _) (hl:=by exact KAC _) (h:=?_));refine KC (KA (oP (KH rfl rfl (Kj (b:=1) om)) (oM (KC ?_))))
    exact ⟨(y.1+1,sumT V y.2 y.2),⟨by dsimp only; omega,mul_twice hok hP hy2⟩,by dsimp only; omega,Ka ⟨rfl,rfl,rfl,rfl,rfl,rfl,rfl,rfl,rfl,rfl,trivial⟩ mS⟩
   have h34:¬ y.1<4:=h34
   refine Kb (KB ?_)
   obtain ⟨j,T⟩:=y
   obtain rfl:j = 4:=by omega
   refine KA (oM (oM (oM ?_)));refine LOps.step rfl (KBu (first:=[]) (r:=x.r) (l:=l++evN x.i) (l':=l++evN (x.i+1)) rfl en_142 rfl (Nb rfl) mP (fun w hw hn=>by rw [show l++evN (x.i+1) = (l++evN x.i)++List.range 16 from (List.append_assoc _ _ _).symm]; exact c_tabPick tb x.r _ bt br cap rest V hok (mulE V (P)) 16 (dg K m x.i) (dg_lt _ _ _) dc w (mC hw) (mC hw) (mC hw) (hn _ mM) (hn _ mM) (by rw [List.length_append,KDb]; omega)) ?_)
   intro r1
   refine oM ?_;refine oX ?_;refine oX ?_;refine oS (mk (KK zr_47) (fun b14=>?_));refine LOps.step rfl (sA rfl rfl sz_47 mO (hl:=by exact KX _ _ _) (h:=?_));refine oA (KC (rD [5] ?_));refine aM 0 ?_;refine aD 1 rfl (dL rfl (hv:=by exact KD u135 rfl KAM)) ?_;refine aD 2 rfl dNb ?_;refine aO 3 rfl (cF rfl en_67 rfl (fun w hw=>c_Triple V hok (mulE V (P) (dg K m x.i)) w) ?_);refine aO 4 rfl (cF rfl en_100 rfl (fun w hw=>c_SumT V b f bd hok (T) (tripF (mulE V (P) (dg K m x.i))) w (mC hw) (mC hw) (mC hw)) ?_);refine aL 5 rfl (sA rfl rfl KAM (by exact KBI _) (hl:=by exact KAC _) (h:=?_));refine aE (KA (oP (KH rfl rfl (Kj (b:=1) om)) (oM (KC ?_))))
   exact ⟨⟨x.i+1,sumT V T (tripF (mulE V (P) (dg K m x.i))),r1⟩,⟨by dsimp only; omega,mul_digit hok hP h30 hy2⟩,by dsimp only; omega,Ka ⟨rfl,rfl,rfl,rfl,rfl,rfl,rfl,rfl,trivial⟩ mS⟩
  have h30:¬ x.i<m:=h30
  refine Kb (KB ?_)
  have hxm:x.i = m:=by omega
  refine KA (oM ?_);refine oD (dL rfl (hv:=by exact KD u135 rfl KAM)) ?_;refine oS (cF rfl en_65 rfl (fun w hw=>c_PlainT V b f bd hok (x.T) (pmul V.A P K) w (mC hw) (mC hw) (mC hw) (mul_all hxm hx2)) ?_);refine LOps.step rfl (sA rfl rfl sz_47 mO (hl:=by simp [KX,KU]) (h:=?_));refine KC (KM ?_)
  exact ⟨[_],.cons ⟨_,_,_,rfl,mM,by exact KD u47 rfl sz_47⟩ .nil,fun a w' hr=>by
    have hq:=hr.tr (v:=ptP (pmul V.A P K)) (r':=x.r) (l:=l++evN x.i) mM
    rwa [hxm] at hq⟩
open Grp
theorem c_mMul (tb:Option Nat) (tr:TrRow) (l:List Nat) (id:Int) (V:Cv) (K:Nat) (P:Pt V.p) (m:Nat) (hm:(blen V.n+3)/4 = m) (w:World) (h:cvI id = some V) (hP:On V.A V.B P) (hK:K<V.n) (h0:(trI tb tr l).holds w) (hl:l.length≤80000000):Calls Tryz.prog 58 ([trV tb,.int .i64 id,natV K,ptP P]:List Value).toArray w (fun e w'=>TrR w tb tr (l++evN m) (.tuple #[ptP (pmul V.A P K),Iz 0]) e w'):=by
  obtain ⟨hok,hid⟩:=KAz h
  have hbb:=hok.bounds
  have hpW:V.p<W9:=Ku hbb.2.1
  have hnW:V.n<W9:=Ku hbb.2.2.2.2.2.2.1
  have hbl:=KAP hnW
  have hnb:nby V.n≤72:=by (unfold nby; omega)
  refine calls_tr (N:=40) (rs:=[.cell 8 47,.tmp 9]) tb tr l [] Tryz.func58 rfl Tryz.ntmps58 Tryz.results58 (Nb rfl) h0 trivial rfl trivial ?_
  refine KB (KA (oS (mB (fun b6=>?_))));refine oS (mB (fun b7=>?_));refine oS (mk (KK zr_47) (fun b8=>?_));refine oP (KO (v:=Iz 0) rfl) (KC (KB (KA (oM ?_))));refine oS (oOpen h rfl rfl (fun b f bd=>?_));refine oA (KC (KB (LCode.block (KB (KA (oM ?_))))));refine oP (KI (KAH u81 rfl rfl) (show _ = Value.bool false from rfl)) (oA (KC ?_));refine KG rfl (KB (KA (oM ?_)));refine oD dNb ?_;refine oS (cF rfl en_55 rfl (fun w hw=>c_cOnP V b f bd hok (P) w (mC hw) (mC hw) (mC hw) hP) ?_);refine oP (KI (KAE rfl) (show _ = Value.bool false from rfl)) (oA (KC ?_));refine KG rfl (KB (rD [] (aD 0 rfl dNa ?_)));refine aM 1 ?_;refine aP 2 rfl (KF rfl) (aP 3 rfl (KE (o':=0) u100 rfl rfl rfl sz_53 dc) (aP 4 rfl (KE (o':=28) u53 rfl rfl rfl sz_33 dc) (aD 5 rfl (dL rfl (hv:=by exact KBc _ _ _ _ _ _ _ _ _ _ _ _ _ _ _ _)) ?_)))
  refine aO 6 rfl (cF rfl en_46 rfl (fun w hw=>KBe K V.n (Nat.lt_trans hK hnW) hnW w) ?_);refine aP 7 rfl (bF rfl rfl cmp_geq (Nat.not_le_of_gt hK)) (aA 8 ?_);refine aE (KG rfl (KN (KB (rD [6,7] (aM 0 ?_)))));refine aM 1 ?_;refine aD 2 rfl dNa ?_;refine aM 3 ?_;refine aO 4 rfl (LStep.det dNb (Nb rfl) ?_);refine aO 5 rfl (cC rfl en_88 rfl (fun w hw=>bringsC (c_tabOf V b f bd hok (P) hP 16 dc dc w (mC hw) (mC hw) (mC hw)) _) ?_)
  rintro _ _ ⟨bt,br,cap,rest,rfl,rfl⟩
  refine aL 6 rfl (KBu (first:=[]) (r:=tr) (l:=l) (l':=l++evN m) rfl en_87 rfl (Nb rfl) mP (fun w hw hn=>c_mTimes tb tr l V b f bd hok K m (P) bt br cap rest hP hK hm w (mC hw) hl (mC hw) (mC hw) (mC hw) (mC hw) (mC hw) (hn _ mM) (hn _ mM) (hn _ mM) (hn _ mM) (hn _ mM)) ?_)
  intro r1
  refine aL 7 rfl (sA rfl rfl sz_47 (by exact KAB _ _ _) (hl:=by simp [KX,KU]) (h:=?_));refine aP 8 rfl (KO (v:=Iz 0) rfl) (aE (KM ?_))
  exact ⟨[_,_],.cons ⟨_,_,_,rfl,mM,by exact KD u47 rfl sz_47⟩ (.cons rfl .nil),fun a w' hr=>hr.tr mM⟩
theorem c_bTimes (tb:Option Nat) (tr:TrRow) (l:List Nat) (V:Cv) (b f bd:Nat) (hok:V.Ok) (K:Nat) (hK:K<V.n) (m:Nat) (hm:(blen V.n+3)/4 = m) (w:World) (h0:(trI tb tr l).holds w) (hl:l.length≤80000000) (hb:(Item.blk b ⟨false,opL V f,100,(0,0)⟩).holds w) (hf:(Item.blk f ⟨false,fldL V.p bd,165,(0,0)⟩).holds w) (hbd:(Item.blk bd ⟨false,dvL V.p,269,(0,0)⟩).holds w) (o0:Out tb tr (Item.blk b ⟨false,opL V f,100,(0,0)⟩)) (o1:Out tb tr (Item.blk f ⟨false,fldL V.p bd,165,(0,0)⟩)) (o2:Out tb tr (Item.blk bd ⟨false,dvL V.p,269,(0,0)⟩)):Calls Tryz.prog 42 ([trV tb,Pz b,natV K]:List Value).toArray w (fun e w'=>TrR w tb tr (l++evN m) (ptP (pmul V.A V.G K)) e w'):=by
  refine calls_tr (N:=18) (rs:=[.cell 6 47]) tb tr l [.blk b ⟨false,opL V f,100,(0,0)⟩,.blk f ⟨false,fldL V.p bd,165,(0,0)⟩,.blk bd ⟨false,dvL V.p,269,(0,0)⟩] Tryz.func42 rfl Tryz.ntmps42 Tryz.results42 (Nb rfl) h0 ⟨hb,hf,hbd,trivial⟩ rfl ⟨o0,o1,o2,trivial⟩ ?_
  refine KB (KA (oS (mB (fun b5=>?_))));refine oS (mk (KK zr_47) (fun b6=>?_));refine KC (KB (rD [10,11] (aM 0 ?_)));refine aM 1 ?_;refine aD 2 rfl dNa ?_;refine aM 3 ?_;refine aM 4 ?_;refine aP 5 rfl (KF rfl) (aP 6 rfl (KE (o':=0) u100 rfl rfl rfl sz_53 dc) (aP 7 rfl (KE (o':=37) u53 rfl rfl rfl sz_47 dc) (aO 8 rfl (LStep.det (KAw (dL rfl (hv:=by exact cvC_ld_g _ _ _ _ _ _ _ _ _ _ _ _ _ _ _ _)) (g_val hok)) (Nb rfl) ?_))));refine aO 9 rfl (cC rfl en_88 rfl (fun w hw=>bringsC (c_tabOf V b f bd hok (V.G) hok.on 16 dc dc w (mC hw) (mC hw) (mC hw)) _) ?_)
  rintro _ _ ⟨bt,br,cap,rest,rfl,rfl⟩
  refine aL 10 rfl (KBu (first:=[]) (r:=tr) (l:=l) (l':=l++evN m) rfl en_87 rfl (Nb rfl) mP (fun w hw hn=>c_mTimes tb tr l V b f bd hok K m (V.G) bt br cap rest hok.on hK hm w (mC hw) hl (mC hw) (mC hw) (mC hw) (mC hw) (mC hw) (hn _ mM) (hn _ mM) (hn _ mM) (hn _ mM) (hn _ mM)) ?_)
  intro r1
  refine aL 11 rfl (sA rfl rfl sz_47 (by exact KAB _ _ _) (hl:=by simp [KX,KU]) (h:=?_));refine aE (KM ?_)
  exact ⟨[_],.cons ⟨_,_,_,rfl,mM,by exact KD u47 rfl sz_47⟩ .nil,fun a w' hr=>hr.tr mM⟩
theorem c_bMul (tb:Option Nat) (tr:TrRow) (l:List Nat) (id:Int) (V:Cv) (K:Nat) (m:Nat) (hm:(blen V.n+3)/4 = m) (w:World) (h:cvI id = some V) (hK:K<V.n) (h0:(trI tb tr l).holds w) (hl:l.length≤80000000):Calls Tryz.prog 24 ([trV tb,.int .i64 id,natV K]:List Value).toArray w (fun e w'=>TrR w tb tr (l++evN m) (.tuple #[ptP (pmul V.A V.G K),Iz 0]) e w'):=by
  obtain ⟨hok,hid⟩:=KAz h
  have hbb:=hok.bounds
  have hpW:V.p<W9:=Ku hbb.2.1
  have hnW:V.n<W9:=Ku hbb.2.2.2.2.2.2.1
  have hbl:=KAP hnW
  have hnb:nby V.n≤72:=by (unfold nby; omega)
  refine calls_tr (N:=29) (rs:=[.cell 6 47,.tmp 7]) tb tr l [] Tryz.func24 rfl Tryz.ntmps24 Tryz.results24 (Nb rfl) h0 trivial rfl trivial ?_
  refine KB (KA (oS (mB (fun b5=>?_))));refine oS (mk (KK zr_47) (fun b6=>?_));refine oP (KO (v:=Iz 0) rfl) (KC (KB (KA (oM ?_))));refine oS (oOpen h rfl rfl (fun b f bd=>?_));refine oA (KC (KB (LCode.block (KB (KA (oM ?_))))));refine oP (KI (KAH u81 rfl rfl) (show _ = Value.bool false from rfl)) (oA (KC ?_));refine KG rfl (KB (rD [] (aD 0 rfl dNa ?_)));refine aM 1 ?_;refine aP 2 rfl (KF rfl) (aP 3 rfl (KE (o':=0) u100 rfl rfl rfl sz_53 dc) (aP 4 rfl (KE (o':=28) u53 rfl rfl rfl sz_33 dc) (aD 5 rfl (dL rfl (hv:=by exact KBc _ _ _ _ _ _ _ _ _ _ _ _ _ _ _ _)) ?_)));refine aO 6 rfl (cF rfl en_46 rfl (fun w hw=>KBe K V.n (Nat.lt_trans hK hnW) hnW w) ?_);refine aP 7 rfl (bF rfl rfl cmp_geq (Nat.not_le_of_gt hK)) (aA 8 ?_);refine aE (KG rfl (KN (KB (KA (oM (oM ?_))))));refine oD dNa ?_
  refine LOps.step rfl (KBu (first:=[]) (r:=tr) (l:=l) (l':=l++evN m) rfl en_42 rfl (Nb rfl) mP (fun w hw hn=>c_bTimes tb tr l V b f bd hok K hK m hm w (mC hw) hl (mC hw) (mC hw) (mC hw) (hn _ mM) (hn _ mM) (hn _ mM)) ?_)
  intro r1
  refine LOps.step rfl (sA rfl rfl sz_47 (by exact KAB _ _ _) (hl:=by simp [KX,KU]) (h:=?_));refine oP (KO (v:=Iz 0) rfl) (KC (KM ?_))
  exact ⟨[_,_],.cons ⟨_,_,_,rfl,mM,by exact KD u47 rfl sz_47⟩ (.cons rfl .nil),fun a w' hr=>hr.tr mM⟩
theorem c_bMulN (id:Int) (V:Cv) (K:Nat) (R:Pt V.p) (w:World) (h:cvI id = some V) (hK:K<V.n) (hR:pmul V.A V.G K = R):CF Tryz.prog 24 [.pointer none,.int .i64 id,natV K] w (.tuple #[ptP R,Iz 0]) :=
  hR ▸ (c_bMul none none [] id V K _ rfl w h hK (trI_nil _ _) (Nat.zero_le _)).mono fun e w' h=>TrR.nil h


open Grp
theorem c_s_GetE (X Y n:Nat) (id:Int) (V:Cv) (s:ByteArray) (w:World) (h:cvI id = some V) (hs:s.size<9223372036854775808) (hn:getT V s = (X,Y,n)):CF Tryz.prog 29 [.int .i64 id,.string s] w (.tuple #[ptV X Y false,Iz n]):=by
  have h1:=c_s_Get id V s w h hs
  rwa [KCr hn] at h1
theorem getX_l (V:Cv) (s:ByteArray):getX V s = beVal ((s.data.toList.take (1+nby V.p)).drop 1):=by unfold getX; rw [ext_data]
theorem getY_l (V:Cv) (s:ByteArray):getY V s = beVal (s.data.toList.drop (1+nby V.p)):=by
  unfold getY; rw [ext_data]
  rw [show s.size = s.data.toList.length by rw [Array.length_toList]; rfl,List.take_length]
theorem size_l (s:ByteArray):s.size = s.data.toList.length:=by rw [Array.length_toList]; rfl
theorem gT_lt {V:Cv} (hok:V.Ok) (s:ByteArray):(getT V s).1<W9∧(getT V s).2.1<W9:=by
  have hb:=hok.bounds
  have hp:=Ku hb.2.1
  have hz:0<W9:=KBk
  unfold getT
  split
  · split
    · rename_i h1 h2
      unfold liftT at h2 ⊢
      split at h2
      · rename_i hx
        rw [if_pos hx]
        split at h2
        · cases h2
        · rename_i r hr
          obtain ⟨r1,r2,r3⟩:=sqN_some hr
          split
          · exact ⟨by dsimp only; omega,by dsimp only; omega⟩
          · split
            · exact ⟨by dsimp only; omega,hz⟩
            · exact ⟨by dsimp only; omega,by dsimp only; omega⟩
      · cases h2
    · exact ⟨hz,hz⟩
  · split
    · split
      · rename_i h
        obtain ⟨h1,h2⟩:=on_lt h
        exact ⟨by dsimp only; omega,by dsimp only; omega⟩
      · exact ⟨hz,hz⟩
    · exact ⟨hz,hz⟩
open Grp
theorem p_pow {V:Cv} {X:Nat} (h:X<V.p):X<256^nby V.p:=by
  have h1:=KCS V.p
  have h2:2^blen V.p≤2^(8*nby V.p):=Nat.pow_le_pow_right dc (by unfold nby; omega)
  rw [Nat.pow_mul] at h2
  exact Nat.lt_trans h (Nat.lt_of_lt_of_le h1 h2)
theorem pfx_l (x:Nat):(pfx x).data.toList = [UInt8.ofNat x]:=rfl
theorem coB_l (V:Cv) (X:Nat):(coB V X).data.toList = KAF (nby V.p) X:=by unfold coB strOf; rfl
theorem putS_l (V:Cv) (X Y:Nat):(putS V X Y false).data.toList = 4 :: (KAF (nby V.p) X++KAF (nby V.p) Y):=by
  unfold putS; rw [if_neg dc,ByteArray.toList_data_append,ByteArray.toList_data_append,pfx_l,coB_l,coB_l]; rfl
open Grp
open Grp
theorem c_cKeyT (V:Cv) (b f X:Nat) (w:World) (hb:(Item.blk b ⟨false,opL V f,100,(0,0)⟩).holds w) (hX:X<W9) (hnW:V.n<W9) (h0:X≠0) (hn:X<V.n):CF Tryz.prog 38 [Pz b,natV X] w (.bool true):=by
  refine KV (N:=18) (rs:=[.tmp 4]) [.blk b ⟨false,opL V f,100,(0,0)⟩] Tryz.func38 rfl Tryz.ntmps38 Tryz.results38 (Nb rfl) ⟨hb,trivial⟩ rfl ?_
  refine KB (KA (oS (mB (fun b3=>?_))));refine oA (KC (KB (rD [] ?_)));refine aD 0 rfl dNa ?_;refine aP 1 rfl (KI (KW pl_33 zr_33 rfl rfl) (show _ = natV 0 by unfold natV natL; rw [← vec_zeros 9])) ?_;refine aP 2 rfl (KI (KBd kr (fun w=>KBG X 0 hX KBk 10000 dc w) rfl rfl) (show _ = Value.bool true by rw [decide_eq_false h0]; rfl)) ?_;refine aM 3 ?_;refine aGD 4 rfl dNa ?_;refine aGM 5 ?_;refine aGP 6 rfl (KF rfl) (aGP 7 rfl (KE (o':=0) u100 rfl rfl rfl sz_53 dc) (aGP 8 rfl (KE (o':=28) u53 rfl rfl rfl sz_33 dc) (aGD 9 rfl (dL rfl (hv:=by exact KBc _ _ _ _ _ _ _ _ _ _ _ _ _ _ _ _)) ?_)));refine aGO 10 rfl (cF rfl en_46 rfl (fun w hw=>KBe X V.n hX hnW w) ?_);refine aGP 11 rfl (bT rfl rfl cmp_lt (hn)) (aP 12 rfl (Ke rfl rfl) (aA 13 ?_));refine aE (KM (eN (.cons rfl .nil) ?_))
  rfl
theorem c_cKeyZ (V:Cv) (b f:Nat) (w:World) (hb:(Item.blk b ⟨false,opL V f,100,(0,0)⟩).holds w):CF Tryz.prog 38 [Pz b,natV 0] w (.bool false):=by
  refine KV (N:=18) (rs:=[.tmp 4]) [.blk b ⟨false,opL V f,100,(0,0)⟩] Tryz.func38 rfl Tryz.ntmps38 Tryz.results38 (Nb rfl) ⟨hb,trivial⟩ rfl ?_
  refine KB (KA (oS (mB (fun b3=>?_))));refine oA (KC (KB (rD [] ?_)));refine aD 0 rfl dNa ?_;refine aP 1 rfl (KI (KW pl_33 zr_33 rfl rfl) (show _ = natV 0 by unfold natV natL; rw [← vec_zeros 9])) ?_;refine aP 2 rfl (KI (KBd kr (fun w=>KBG 0 0 KBk KBk 10000 dc w) rfl rfl) (show _ = Value.bool false by rw [decide_eq_true rfl]; rfl)) ?_;refine aM 3 ?_;refine aK 4 ?_;refine aK 5 ?_;refine aK 6 ?_;refine aK 7 ?_;refine aK 8 ?_;refine aK 9 ?_;refine aK 10 ?_;refine aK 11 ?_;refine aP 12 rfl (KR rfl rfl) (aA 13 ?_);refine aE (KM (eN (.cons rfl .nil) ?_))
  rfl
theorem c_cKeyF (V:Cv) (b f X:Nat) (w:World) (hb:(Item.blk b ⟨false,opL V f,100,(0,0)⟩).holds w) (hX:X<W9) (hnW:V.n<W9) (h0:X≠0) (hn:V.n≤X):CF Tryz.prog 38 [Pz b,natV X] w (.bool false):=by
  refine KV (N:=18) (rs:=[.tmp 4]) [.blk b ⟨false,opL V f,100,(0,0)⟩] Tryz.func38 rfl Tryz.ntmps38 Tryz.results38 (Nb rfl) ⟨hb,trivial⟩ rfl ?_
  refine KB (KA (oS (mB (fun b3=>?_))));refine oA (KC (KB (rD [] ?_)));refine aD 0 rfl dNa ?_;refine aP 1 rfl (KI (KW pl_33 zr_33 rfl rfl) (show _ = natV 0 by unfold natV natL; rw [← vec_zeros 9])) ?_;refine aP 2 rfl (KI (KBd kr (fun w=>KBG X 0 hX KBk 10000 dc w) rfl rfl) (show _ = Value.bool true by rw [decide_eq_false h0]; rfl)) ?_;refine aM 3 ?_;refine aGD 4 rfl dNa ?_;refine aGM 5 ?_;refine aGP 6 rfl (KF rfl) (aGP 7 rfl (KE (o':=0) u100 rfl rfl rfl sz_53 dc) (aGP 8 rfl (KE (o':=28) u53 rfl rfl rfl sz_33 dc) (aGD 9 rfl (dL rfl (hv:=by exact KBc _ _ _ _ _ _ _ _ _ _ _ _ _ _ _ _)) ?_)));refine aGO 10 rfl (cF rfl en_46 rfl (fun w hw=>KBe X V.n hX hnW w) ?_);refine aGP 11 rfl (bF rfl rfl cmp_lt (Nat.not_lt_of_le hn)) (aP 12 rfl (Ke rfl rfl) (aA 13 ?_));refine aE (KM (eN (.cons rfl .nil) ?_))
  rfl
theorem c_kCheckT (id:Int) (V:Cv) (K:Nat) (w:World) (h:cvI id = some V) (h0:K≠0) (hn:K<V.n):CF Tryz.prog 54 [.int .i64 id,natV K] w (Iz 0):=by
  obtain ⟨hok,hid⟩:=KAz h
  have hbb:=hok.bounds
  have hpW:V.p<W9:=Ku hbb.2.1
  have hnW:V.n<W9:=Ku hbb.2.2.2.2.2.2.1
  have hbl:=KAP hnW
  have hnb:nby V.n≤72:=by (unfold nby; omega)
  refine KV (N:=16) (rs:=[.tmp 4]) [] Tryz.func54 rfl Tryz.ntmps54 Tryz.results54 (Nb rfl) trivial rfl ?_
  refine KB (KA (oS (mB (fun b3=>?_))));refine oP (KO (v:=Iz 0) rfl) (KC (KB (KA (oM ?_))));refine oS (oOpen h rfl rfl (fun b f bd=>?_));refine oA (KC (KB (LCode.block (KB (KA (oM ?_))))));refine oP (KI (KAH u81 rfl rfl) (show _ = Value.bool false from rfl)) (oA (KC ?_));refine KG rfl (KB (KA (oM ?_)));refine oD dNa ?_;refine oS (cF rfl en_38 rfl (fun w hw=>c_cKeyT V b f K w (mC hw) (Nat.lt_trans hn hnW) hnW h0 hn) ?_);refine oP (KI (KAE rfl) (show _ = Value.bool false from rfl)) (oA (KC ?_));refine KG rfl (KN (KB (KA (oP (KO (v:=Iz 0) rfl) (KC (KM (eN (.cons rfl .nil) ?_)))))))
  rfl
open Grp
def GetC (id:Int) (s:ByteArray) (X Y:Nat):Prop:=∀ w:World,CF Tryz.prog 29 [.int .i64 id,.string s] w (.tuple #[ptV X Y false,Iz 0])
theorem c_get4 {V:Cv} (hok:V.Ok) {X Y:Nat} (ho:onB V.p V.a V.b X Y false = true) {id:Int} (h:cvI id = some V):GetC id (putS V X Y false) X Y:=by
  intro w
  obtain ⟨hX,hY⟩:=on_lt ho
  have hpW:V.p<W9:=Ku hok.bounds.2.1
  have eX:beVal (KAF (nby V.p) X) = X:=by rw [beVal_bytes,Nat.mod_eq_of_lt (p_pow hX)]
  have eY:beVal (KAF (nby V.p) Y) = Y:=by rw [beVal_bytes,Nat.mod_eq_of_lt (p_pow hY)]
  have hs:=putS_l V X Y
  have hl:(KAF (nby V.p) X).length = nby V.p:=KCG _ _
  refine c_s_Get4 id V _ X Y w h ?_ ?_ ?_ ?_ (Nat.lt_trans hX hpW) (Nat.lt_trans hY hpW) ho
  · rw [size_l,hs,List.length_cons,List.length_append,KCG,KCG]; omega
  · unfold b0; rw [hs]; rfl
  · have:=getX_l V (putS V X Y false)
    unfold getX at this
    rw [this,hs,Nat.add_comm,List.take_succ_cons,List.drop_succ_cons,List.drop_zero,List.take_left' hl,eX]
  · have:=getY_l V (putS V X Y false)
    unfold getY at this
    rw [this,hs,Nat.add_comm,List.drop_succ_cons,List.drop_left' hl,eY]
theorem c_eSharedG (tb:Option Nat) (tr:TrRow) (l:List Nat) (id:Int) (V:Cv) (K:Nat) (s:ByteArray) (x y:Fin V.p) (m:Nat) (hm:(blen V.n+3)/4 = m) (w:World) (h:cvI id = some V) (hk0:K≠0) (hn:K<V.n) (hg:GetC id s x.val y.val) (hP:On V.A V.B (.aff x y)) (h0:(trI tb tr l).holds w) (hl:l.length≤80000000):Calls Tryz.prog 26 ([trV tb,.int .i64 id,natV K,.string s]:List Value).toArray w (fun e w'=>TrR w tb tr (l++evN m) (.tuple #[.string (coB V (xv (pmul V.A (.aff x y:Pt V.p) K))),Iz 0]) e w'):=by
  obtain ⟨hok,hid⟩:=KAz h
  have hbb:=hok.bounds
  have hpW:V.p<W9:=Ku hbb.2.1
  have hnW:V.n<W9:=Ku hbb.2.2.2.2.2.2.1
  have hbl:=KAP hnW
  have hnb:nby V.n≤72:=by (unfold nby; omega)
  have hnp:=nbp_72 hok
  refine calls_tr (N:=55) (rs:=[.tmp 8,.tmp 9]) tb tr l [] Tryz.func26 rfl Tryz.ntmps26 Tryz.results26 (Nb rfl) h0 trivial rfl trivial ?_
  refine KB (KA (oS (mB (fun b6=>?_))));refine oA ?_;refine oP (KO (v:=Iz 0) rfl) (KC (KB (KA (oM ?_))));refine oS (oOpen h rfl rfl (fun b f bd=>?_));refine oA (KC (KB (LCode.block (KB (KA (oM ?_))))));refine oP (KI (KAH u81 rfl rfl) (show _ = Value.bool false from rfl)) (oA (KC ?_));refine KG rfl (KB (KA (oM ?_)));refine oD dNa ?_;refine oS (cF rfl en_54 rfl (fun w hw=>c_kCheckT id V K w h hk0 hn) ?_);refine oP (bF rfl rfl (KAW (b:=0)) dc) (oA (KC ?_));refine KG rfl (KN (KB (KA (oM (oM ?_)))));refine oS (cF rfl en_29 rfl (fun w hw=>hg w) ?_);refine oM ?_;refine oX ?_;refine oX ?_;refine oS (mk (KK zr_47) (fun b11=>?_));refine LOps.step rfl (sA rfl rfl sz_47 (by exact KAB _ _ _) (hl:=by simp [KX,KU]) (h:=?_));refine oA (KC (KB (KB (KA (oM ?_)))));refine oP (bF rfl rfl (KAW (b:=0)) dc) (KC (KG rfl (KN (KB (KA (oM (oM ?_)))))))
  refine oD dNa ?_;refine oD dNb ?_;refine LOps.step rfl (KBu (first:=[]) (r:=tr) (l:=l) (l':=l++evN m) rfl en_58 rfl (Nb rfl) mP (fun w hw hn0=>c_mMul tb tr l id V K (.aff x y) m hm w h hP hn (mC hw) hl) ?_)
  intro r1
  refine oM ?_;refine oX ?_;refine oX ?_;refine oS (mk (KK zr_47) (fun b13=>?_));refine LOps.step rfl (sA rfl rfl sz_47 (by exact KAB _ _ _) (hl:=by simp [KX,KU]) (h:=?_));refine oA (KC (KB (rD [] ?_)));refine aP 0 rfl (KE (o':=0) u47 rfl rfl rfl sz_33 dc) (aD 1 rfl (dL rfl (hv:=by exact Kh u33 rfl sz_33 rfl (KL _))) ?_);refine aM 2 ?_;refine aP 3 rfl (KF rfl) (aP 4 rfl (KE (o':=0) u100 rfl rfl rfl sz_53 dc) (aP 5 rfl (KE (o':=57) u53 rfl rfl rfl sz_3 dc) (aD 6 rfl (dL rfl (hv:=KJ u3 rfl (by exact KAy _ _ _ _ _ _ _ _ _ _ _ _ _))) ?_)));refine aO 7 rfl (cF rfl en_47 rfl (fun w hw=>KCw (xv (pmul V.A (.aff x y:Pt V.p) K)) (nby V.p) w (Nat.lt_trans (xv_lt _) hpW) hnp (nby_le (xv_lt _))) ?_);refine aM 8 ?_;refine aP 9 rfl (Det.extract rfl rfl) (aP 10 rfl (Det.extract rfl rfl) (aA 11 ?_));refine aA 12 ?_;refine aE (KB (KA (oM (oA ?_))))
  refine oP (KO (v:=Iz 0) rfl) (KC (KM ?_))
  exact ⟨[_,_],.cons rfl (.cons rfl .nil),fun a w' hr=>hr.tr mM⟩
theorem c_eSharedGN (R:ByteArray) (id:Int) (V:Cv) (K:Nat) (s:ByteArray) (x y:Fin V.p) (w:World) (h:cvI id = some V) (h0:K≠0) (hn:K<V.n) (hg:GetC id s x.val y.val) (hP:On V.A V.B (.aff x y)) (hR:coB V (xv (pmul V.A (.aff x y:Pt V.p) K)) = R):CF Tryz.prog 26 [.pointer none,.int .i64 id,natV K,.string s] w (.tuple #[.string R,Iz 0]) :=
  hR ▸ (c_eSharedG none none [] id V K s x y _ rfl w h h0 hn hg hP (trI_nil _ _) (Nat.zero_le _)).mono fun e w' h=>TrR.nil h
end Go.Proofs.YtnpeokiboiclfaaGreat
set_option linter.unusedVariables false
set_option linter.unusedSimpArgs false
namespace Go.Proofs.YtnpeokiboiclfaaGreat
open Go Go.RowKit
def byF (s:ByteArray) (i:Nat):Nat:=(s.data.toList.getD i 0).toNat
theorem Rel.allocF {C : Ctx} {st : St} {a : Act} {w : World} (h : Rel C st a w) (cs : List Value) (e : TypeId) (fz : Nat × Nat) :
    Rel C ⟨st.T,.blk w.heap.size ⟨true,cs,e,fz⟩ :: st.H⟩ a (w.alloc (.cells cs.toArray e fz)):=by
  refine ⟨h.size,h.defers,h.tm,?_,?_,?_,?_⟩
  · intro x hx
    rcases List.mem_cons.1 hx with rfl|hx
    · exact heap_alloc_new _ _
    · exact holds_alloc (h.hp x hx) _
  · intro x hx hw k hk
    rcases List.mem_cons.1 hx with rfl|hx
    · simp [Item.fp] at hk; subst hk; exact .inl h.fr.size
    · exact h.own x hx hw k hk
  · refine List.pairwise_cons.2 ⟨fun y hy _ k hk hk'=>?_,h.dist⟩
    simp [Item.fp] at hk; subst hk
    exact Nat.lt_irrefl _ (Item.lt (h.hp y hy) _ hk')
  · exact ⟨h.fr.os,h.fr.tape,h.fr.output,by have:=h.fr.size; simp; omega,fun k hk hw=>(Below.heap_alloc _ _ _ (Nat.lt_of_lt_of_le hk h.fr.size)).trans (h.fr.block k hk hw)⟩
section
variable {P:Program} {C:Ctx} {ty:TypeId} {pos:String} {aft:Array Edge} {d:Nat} {K:St→Prop} {x:Operand} {t e sr:TypeId}
theorem LStepW.toBytes {T : List (Nat × Value)} {H : List Item} {s : ByteArray} {g : Option (Nat × Bool)} {u : TypeDesc} (hx : evT T x = some (.string s)) (hs : P.underlying sr = some u) (ht : P.underlying t = some (.slice e)) (he : P.underlying e = some (.int .u8)) (hd : d < C.N)
    (h:∀ b cap rest n,s.size+List.length rest = n→K ⟨(d,.slice (some ⟨b,0,none⟩) s.size cap) :: T,.blk b ⟨true,vec .u8 s.size (byF s)++rest,e,(n,n+1)⟩ :: H⟩):KAa P C ⟨some d,.convert sr t x,ty,pos,aft,g⟩ ⟨T,H⟩ K:=by
  unfold KAa
  intro a w hr Qr
  unfold Oper.wp
  have hrun:=Go.Lib.run_convert_string_bytes (P:=P) w sr t e s hs ht he
  have hl:(Go.Lib.bytesCells w e s).toList = vec .u8 s.size (byF s)++List.replicate (grownCap w s.size 0 e-s.size) (Value.int .u8 0):=by
    unfold Go.Lib.bytesCells vec byF
    rw [Array.toList_append,Array.toList_replicate]
    congr 1
    rw [Array.toList_map]
    apply List.ext_getElem
    · simp
    · intro i h1 h2
      simp at h1
      simp [List.getD,h1]
  have hw:Go.Lib.bytesWorld w e s = w.drew.alloc (.cells (Go.Lib.bytesCells w e s) e ((Go.Lib.bytesCells w e s).size,(Go.Lib.bytesCells w e s).size+1)):=by
    have hm:∀ (a:Array Obj) (x:Obj) (f:Obj→Obj),(a.push x).modify a.size f = a.push (f x):=by
      intro a x f
      apply Array.ext
      · simp
      · intro i h1 h2
        simp only [Array.getElem_modify,Array.getElem_push]
        by_cases h:a.size = i
        · subst h
          simp
        · have hi:i<a.size:=by simp at h1; omega
          simp [h,hi]
    unfold Go.Lib.bytesWorld World.freeze
    rw [if_neg (by decide)]
    show ({ w.drew.alloc (.cells (Go.Lib.bytesCells w e s) e) with heap:=(w.heap.push (.cells (Go.Lib.bytesCells w e s) e)).modify w.heap.size _ }:World) = _
    rw [hm]
    rfl
  have hex:(execOp a.eval ⟨some d,.convert sr t x,ty,pos,aft,g⟩).run P w = .ok (.value (.slice (some ⟨w.heap.size,0,none⟩) s.size (grownCap w s.size 0 e))) (Go.Lib.bytesWorld w e s):=by
    simp [execOp,hr.ev hx,hrun]
  rw [hex]
  have hK:=h w.heap.size (grownCap w s.size 0 e) (List.replicate (grownCap w s.size 0 e-s.size) (Value.int .u8 0)) (Go.Lib.bytesCells w e s).size (by
    rw [← Array.length_toList,hl,List.length_append,KU])
  refine ⟨_,hK,?_⟩
  have hal:=hr.drew.allocF (vec .u8 s.size (byF s)++List.replicate (grownCap w s.size 0 e-s.size) (Value.int .u8 0)) e ((Go.Lib.bytesCells w e s).size,(Go.Lib.bytesCells w e s).size+1)
  have e1:(vec .u8 s.size (byF s)++List.replicate (grownCap w s.size 0 e-s.size) (Value.int .u8 0)).toArray = Go.Lib.bytesCells w e s:=by
    apply Array.ext'
    exact hl.symm
  rw [e1] at hal
  rw [hw]
  exact hal.put hd _
end
end Go.Proofs.YtnpeokiboiclfaaGreat
set_option linter.unusedVariables false
set_option linter.unusedSimpArgs false
set_option maxRecDepth 20000
namespace Go.Proofs.YtnpeokiboiclfaaGreat
open Go Go.RowKit
theorem KBb {k:Nat} (hk:k = 1∨k = 2∨k = 3∨k = 4) (x:List Nat):(hashL k x).length = hsize k:=by
  rcases hk with rfl|rfl|rfl|rfl <;> exact Hp.sum_length _ _ dc
def padL (l:List Nat) (x:Nat):List Nat:=l.map fun b=>xorM 256 b x
def padB (s:ByteArray) (x:Nat):ByteArray:=toS (padL (ofS s) x)
def keyA (k:Nat) (key:ByteArray):ByteArray:=if hblk k<key.size then toS (hashL k (ofS key)) else key
def keyB (k:Nat) (key:ByteArray):ByteArray:=keyA k key++toS (List.replicate (hblk k-(keyA k key).size) 0)
def macS (k:Nat) (key:ByteArray):ShS:=(hp k).write (hinit k) (ofS (padB (keyB k key) 54))
def hmacB (k:Nat) (key msg:ByteArray):ByteArray:=toS (hashL k (ofS (padB (keyB k key) 92++toS (hsum k ((hp k).write (macS k key) (ofS msg))))))
theorem KDZ (s:ByteArray) (x:Nat):(padB s x).size = s.size:=by unfold padB padL; rw [KAL,List.length_map,KBD]
theorem KCP {k:Nat} (hk:k = 1∨k = 2∨k = 3∨k = 4) (key msg:ByteArray):(hmacB k key msg).size = hsize k:=by unfold hmacB; rw [KAL,KBb hk]
theorem keyA_size {k:Nat} (hk:k = 1∨k = 2∨k = 3∨k = 4) (key:ByteArray):(keyA k key).size≤hblk k:=by
  unfold keyA
  split
  · rw [KAL,KBb hk]; rcases hk with rfl|rfl|rfl|rfl <;> decide
  · omega
theorem hblk_le (k:Nat):hblk k≤128:=by unfold hblk; split <;> decide
theorem KCE {k:Nat} (hk:k = 1∨k = 2∨k = 3∨k = 4) (key:ByteArray):(keyB k key).size = hblk k:=by
  have:=keyA_size hk key
  unfold keyB
  rw [ByteArray.size_append,KAL,List.length_replicate]; omega
theorem byF_nth (s:ByteArray) (i:Nat):byF s i = (ofS s).getD i 0:=by
  unfold byF ofS
  simp only [List.getD,List.getElem?_map]
  cases s.data.toList[i]? <;> rfl
theorem pad_str (s:ByteArray) (x:Nat):strOf ((List.range s.size).map fun i=>UInt8.ofNat (if i<s.size then xorM 256 (byF s i) x else byF s i)) = padB s x:=by
  unfold padB padL toS
  congr 1
  rw [List.map_map]
  apply List.ext_getElem
  · simp [KBD]
  · intro i h1 h2
    simp at h1
    have h3:i<(ofS s).length:=by rw [KBD]; exact h1
    simp [h1,byF_nth,List.getD,h3]
theorem pad_next (s:ByteArray) (x y:Nat) {rest:List Value} (hy:y<s.size):(vec .u8 s.size (fun j=>if j<y then xorM 256 (byF s j) x else byF s j)++rest).set y (.int .u8 ((xorM 256 (byF s y) x:Nat):Int)) = vec .u8 s.size (fun j=>if j<(y+1) then xorM 256 (byF s j) x else byF s j)++rest:=by
  rw [set_front (by rw [KU]; exact hy),vec_set]
  congr 1
  apply Kr
  intro j _
  by_cases h1:j = y
  · rw [if_pos h1,if_pos om,h1]
  · rw [if_neg h1]
    by_cases h2:j<y
    · rw [if_pos h2,if_pos om]
    · rw [if_neg h2,if_neg om]
theorem pad_get (s:ByteArray) (x y:Nat) {rest:List Value} (hy:y<s.size):(vec .u8 s.size (fun j=>if j<y then xorM 256 (byF s j) x else byF s j)++rest)[y]? = some (.int .u8 ((byF s y:Nat):Int)):=by
  rw [List.getElem?_append_left (by rw [KU]; exact hy),Ki _ _ _ hy,if_neg (Nat.lt_irrefl y)]
theorem pad_start (s:ByteArray) (x:Nat) {rest:List Value}:vec .u8 s.size (byF s)++rest = vec .u8 s.size (fun j=>if j<0 then xorM 256 (byF s j) x else byF s j)++rest:=by
  congr 1
theorem pad_take (s:ByteArray) (x:Nat) {rest:List Value} (i:Nat):((vec .u8 s.size (fun j=>if j<i then xorM 256 (byF s j) x else byF s j)++rest).drop 0).take s.size = vec .u8 s.size (fun j=>if j<i then xorM 256 (byF s j) x else byF s j):=by
  rw [List.drop_zero,List.take_left' (KU _ _ _)]
theorem c_pad (s:ByteArray) (x:Nat) (hs:s.size<1000000) (w:World)  : CF Tryz.prog 193 [.string s,.int .u8 ((x:Nat):Int)] w (.string (padB s x)):=by
  refine KV (N:=24) (rs:=[.tmp 4]) [] Tryz.func193 rfl Tryz.ntmps193 Tryz.results193 (Nb rfl) trivial rfl ?_
  refine KB (KA (oA (KC (KB (KA (oM ?_))))));refine LOps.step rfl (LStepW.toBytes rfl u9 u70 u5 (Nb rfl) ?_)
  intro b cap rest n hn
  rw [pad_start s x]
  refine oA (KC (KB (KB (KA (oM ?_)))));refine oP (KBZ u70 rfl) (oP (Kg (v:=Iz 0) rfl) (KC (LCode.block (Kd (α:=Nat) (fun y=>y≤s.size) (fun y=>⟨[(1,.int .u8 ((x:Nat):Int)),(5,.slice (some ⟨b,0,none⟩) s.size cap),(10,Iz s.size),(11,Iz y)],[.blk b ⟨true,vec .u8 s.size (fun j=>if j<y then xorM 256 (byF s j) x else byF s j)++rest,5,(n,n+1)⟩]⟩) (fun y=>s.size-y) (0) (Nat.zero_le _) (Ka ⟨rfl,rfl,rfl,rfl,trivial⟩ mS) ?_))))
  intro y hy
  refine KB (KA (oP (KH rfl rfl (Ky)) (KC (KB ?_))))
  first|refine KQ rfl (fun h12=>?_) (fun h12=>?_)|refine KT rfl (fun h12=>?_) (fun h12=>?_)
  ·
   have h12:y<s.size:=h12
   refine KN (KB (LCode.block (KB (KA (oM (oA (KC (KA (oM (oM ?_))))))))));refine oP (KAG u70 sz_5 rfl rfl om) (oD (dL rfl (hv:=KJ u5 rfl (by exact pad_get s x y h12))) ?_);refine oM ?_;refine oP (KH rfl rfl (br_xor8m)) (oP (KAG u70 sz_5 rfl rfl om) ?_);refine LOps.step rfl (KY rfl rfl rfl sz_5 mT (by rw [List.length_append,KU]; omega) (pad_next s x y h12) (by dsimp only; omega) ?_);refine KC (KA (oP (KH rfl rfl (Kj (b:=1) om)) (oM (KC ?_))))
   exact ⟨y+1,by omega,by omega,Ka ⟨rfl,rfl,rfl,rfl,trivial⟩ mS⟩
  have h12:¬ y<s.size:=h12
  obtain rfl:y = s.size:=by omega
  refine Kb (KB (KA (oM ?_)));refine oD (KBO u70 u5 u9 rfl mM (pad_take s x _)) ?_;refine oA (KC (KM ?_));refine eN (.cons rfl .nil) ?_
  rw [← pad_str]
  rfl
theorem c_mNew256 (k:Nat) (hk:k = 1∨k = 2) (key:ByteArray) (hkey:key.size≤140737488351232) (w:World) (hH:∀ x,x∈([]++[]:List Item)→x.holds w) (hd:([]++[]:List Item).Pairwise Apart)  : Calls Tryz.prog 165 ([Iz k,.string key]:List Value).toArray w (fun e w'=>∃ (u:Value) (x':Item) (y':Item),(∃ mb r,∃ m:Nat×Nat×Nat×Nat×Nat,u = .tuple #[Pz mb,Iz 0]∧x' = .blk mb ⟨true,[Iz k,.string (padB (keyB k key) 92),Pz m.1],295,(0,0)⟩∧y' = KCB m (hbits k) r (p256.write (hinit k) (ofS (padB (keyB k key) 54))))∧e = .returned u∧Outcome w [] [x',y'] w'):=by
  refine KAJ [] (N:=45) (rs:=[.tmp 4,.tmp 5]) Tryz.func165 rfl Tryz.ntmps165 Tryz.results165 (Nb rfl) hH hd rfl rfl ?_
  refine KB (KA (oA ?_));refine oP (KO (v:=Iz 0) rfl) (KC (KB (KA (oM ?_))));refine LOps.step rfl (Kc (first:=[]) (caps:=[]) (X:=[]) (RO:=[]) rfl en_135 rfl (Nb rfl) sR wK (fun w hH hd=>c_hNew256 k hk w hH hd) ?_)
  rintro _ _ ⟨m,rfl,rfl⟩
  refine oM ?_;refine oX ?_;refine oX ?_;refine oA (oA (KC (KB (KB (KA (oM ?_))))));refine oP (bF rfl rfl (KAW (b:=0)) dc) (KC (KG rfl (KN (KB (KA (oM ?_))))));refine oS (cF rfl en_192 rfl (fun w hw=>c_hBlock k om w) ?_);refine oA (KC ?_);refine KCW (α:=ByteArray) (fun x=>x = keyA k key) (fun x=>⟨[(0,Iz k),(1,.string x),(6,Pz m.1),(8,Iz (hblk k))],[KCB m (hbits k) none (hinit k)]⟩) ?_ ?_
  ·
   refine KB (KA (oM ?_));refine oP (KAI u9 rfl) (oM ?_);refine oP (KH rfl rfl (KAZ)) (KC ?_)
   first|refine KQ rfl (fun h21=>?_) (fun h21=>?_)|refine KT rfl (fun h21=>?_) (fun h21=>?_)
   ·
    have h21:hblk k<key.size:=h21
    have hx:toS (hashL k (ofS key)) = keyA k key:=(if_pos h21).symm
    refine KA (oM (oM ?_));refine oS (cF rfl en_85 rfl (fun w hw=>c_hOf k om key hkey w) ?_);refine oM ?_;refine oX ?_;refine oX ?_;refine oA (KC ?_)
    exact ⟨_,hx,Ka ⟨rfl,rfl,rfl,rfl,trivial⟩ mS⟩
   have h21:¬ hblk k<key.size:=h21
   have hx:key = keyA k key:=(if_neg h21).symm
   refine KN ?_
   exact ⟨_,hx,Ka ⟨rfl,rfl,rfl,rfl,trivial⟩ mS⟩
  rintro x hx
  have hxs:x.size≤hblk k:=hx ▸ keyA_size om key
  have hb8:=hblk_le k
  refine KB (KA (oM (oM (oM ?_))));refine oP (KAI u9 rfl) (oP (KH rfl rfl (KAf om om)) (oS (cF rfl en_33 rfl (fun w hw=>c_Repeat 0 _ w om) ?_)));refine oP (KAj rfl rfl (by rw [KAL,List.length_replicate]; omega)) ?_
  rw [show x++toS (List.replicate (hblk k-x.size) (UInt8.toNat 0)) = keyB k key by rw [hx]; rfl]
  refine oA (KC (KB (KA (oM (oM ?_)))));refine oS (cF rfl en_193 rfl (fun w hw=>c_pad _ _ (by rw [KCE om]; omega) w) ?_);refine LOps.step rfl (Kc (first:=[]) (caps:=[]) rfl en_136 rfl (Nb rfl) sR wK (fun w hH hd=>c_stWrite256 m (hbits k) none (hinit k) (padB (keyB k key) 54) (Nat.zero_le _) (by rw [KDZ,KCE om]; omega) w hH hd) ?_)
  rintro _ _ ⟨r1,rfl,rfl⟩
  refine KC (KB (KA (oM (oM ?_))));refine oS (cF rfl en_193 rfl (fun w hw=>c_pad _ _ (by rw [KCE om]; omega) w) ?_);refine oM ?_;refine oP (KW pl_295 zr_295 rfl (fT (r':=([Iz k]++([Value.string (padB (keyB k key) 92)]++([Pz m.1])))) (fS (A:=([]:List Value)) (B:=([Iz 0])) (D:=([Value.string ⟨#[]⟩]++([Value.pointer none]))) (cs:=[Iz k]) (fS (A:=([Iz k])) (B:=([Value.string ⟨#[]⟩])) (D:=([Value.pointer none])) (cs:=[Value.string (padB (keyB k key) 92)]) (fS (A:=([Iz k]++([Value.string (padB (keyB k key) 92)]))) (B:=([Value.pointer none])) (D:=([]:List Value)) (cs:=[Pz m.1]) rfl))))) ?_;refine oS (mB (fun b44=>?_));refine oA ?_;refine oP (KO (v:=Iz 0) rfl) (KC (KM (⟨[_,_],.cons rfl (.cons rfl .nil),fun a w' hr=>⟨_,_,_,⟨b44,r1,m,rfl,rfl,rfl⟩,rfl,hr.out mS rfl⟩⟩)))
theorem c_mWrite256 (m:Nat×Nat×Nat×Nat×Nat) (k mb sz:Nat) (r:BsRow) (s:ShS) (key x:ByteArray) (hrl:s.rest.length≤64) (hs:x.size≤140737488351232) (w:World) (hH:∀ x,x∈([KCB m sz r s]++[.blk mb ⟨false,[Iz k,.string (padB (keyB k key) 92),Pz m.1],295,(0,0)⟩]:List Item)→x.holds w) (hd:([KCB m sz r s]++[.blk mb ⟨false,[Iz k,.string (padB (keyB k key) 92),Pz m.1],295,(0,0)⟩]:List Item).Pairwise Apart)  : Calls Tryz.prog 166 ([Pz mb,.string x]:List Value).toArray w (fun e w'=>∃ (u:Value) (x':Item),(∃ r',u = Iz 0∧x' = KCB m sz r' (p256.write s (ofS x)))∧e = .returned u∧Outcome w [KCB m sz r s] [x'] w'):=by
  refine KAJ [KCB m sz r s,.blk mb ⟨false,[Iz k,.string (padB (keyB k key) 92),Pz m.1],295,(0,0)⟩] (N:=13) (rs:=[.tmp 4]) Tryz.func166 rfl Tryz.ntmps166 Tryz.results166 (Nb rfl) hH hd rfl rfl ?_
  refine KB (KA (oP (KO (v:=Iz 0) rfl) (KC (KB (KB (KA (oM ?_)))))));refine oP (KAH u246 rfl rfl) (KC (KG rfl (KN (KB (KA (oM ?_))))));refine oP (KF rfl) (oP (KE (o':=2) u295 rfl rfl rfl sz_207 dc) (oD (dL rfl (hv:=KJ u207 rfl gL)) ?_));refine oM ?_;refine LOps.step rfl (Kc (first:=[]) (caps:=[]) rfl en_136 rfl (Nb rfl) sR wK (fun w hH hd=>c_stWrite256 m sz r s x hrl hs w hH hd) ?_)
  rintro _ _ ⟨r2,rfl,rfl⟩
  refine oA (KC (KM ?_));refine ⟨[_],.cons rfl .nil,fun a w' hr=>⟨_,_,⟨r2,rfl,rfl⟩,rfl,hr.out mS rfl⟩⟩
theorem c_mSum256 (m:Nat×Nat×Nat×Nat×Nat) (k:Nat) (hk:k = 1∨k = 2) (mb:Nat) (r:BsRow) (s:ShS) (key:ByteArray) (hrl:s.rest.length<64) (w:World) (h1:(Item.blk mb ⟨false,[Iz k,.string (padB (keyB k key) 92),Pz m.1],295,(0,0)⟩).holds w) (hS:(strR256 m (hbits k) r s).holds w):CF Tryz.prog 167 [Pz mb] w (.string (toS (hashL k (ofS (padB (keyB k key) 92++(toS (p256.sum s (hbits k/8)))))))):=by
  have hsz:(toS (p256.sum s (hbits k/8))).size = hsize k:=by rw [KAL,Hp.sum_length _ _ (by rcases hk with rfl|rfl <;> decide)]; rcases hk with rfl|rfl <;> rfl
  have hb8:=hblk_le k
  have hs8:hsize k≤64:=by rcases hk with rfl|rfl <;> decide
  refine KV (N:=26) (rs:=[.tmp 2]) [.blk mb ⟨false,[Iz k,.string (padB (keyB k key) 92),Pz m.1],295,(0,0)⟩,strR256 m (hbits k) r s] Tryz.func167 rfl Tryz.ntmps167 Tryz.results167 (Nb rfl) ⟨h1,hS,trivial⟩ rfl ?_
  refine KB (KA (oA (KC (KB (KB (KA (oM ?_)))))));refine oP (KAH u246 rfl rfl) (KC (KG rfl (KN (KB (rD [] (aM 0 ?_))))));refine aP 1 rfl (KF rfl) (aP 2 rfl (KE (o':=0) u295 rfl rfl rfl sz_3 dc) (aD 3 rfl (dL rfl (hv:=KJ u3 rfl gL)) ?_));refine aM 4 ?_;refine aP 5 rfl (KF rfl) (aP 6 rfl (KE (o':=1) u295 rfl rfl rfl sz_9 dc) (aD 7 rfl (dL rfl (hv:=KJ u9 rfl gL)) ?_));refine aM 8 ?_;refine aP 9 rfl (KF rfl) (aP 10 rfl (KE (o':=2) u295 rfl rfl rfl sz_207 dc) (aD 11 rfl (dL rfl (hv:=KJ u207 rfl gL)) ?_));refine aO 12 rfl (cF rfl en_137 rfl (fun w hw=>c_stSum256 m (hbits k) r s hrl (by rcases hk with rfl|rfl <;> decide) (by rcases hk with rfl|rfl <;> decide) w (mC hw)) ?_);refine aP 13 rfl (KAj rfl rfl (by rw [KDZ,KCE om,hsz]; omega)) ?_;refine aO 14 rfl (cF rfl en_85 rfl (fun w hw=>c_hOf k om _ (by rw [ByteArray.size_append,KDZ,KCE om,hsz]; omega) w) ?_)
  refine aM 15 ?_;refine aP 16 rfl (Det.extract rfl rfl) (aP 17 rfl (Det.extract rfl rfl) (aA 18 ?_));refine aA 19 ?_;refine aE (KB (KA (oM (oA (KC (KM ?_))))));refine eN (.cons rfl .nil) ?_
  rfl
theorem c_mOf256 (k:Nat) (hk:k = 1∨k = 2) (key x:ByteArray) (hkey:key.size≤140737488351232) (hx:x.size≤140737488351232) (w:World)  : CF Tryz.prog 127 [Iz k,.string key,.string x] w (.tuple #[.string (hmacB k key x),Iz 0]):=by
  have hpk:hp k = p256:=by rcases hk with rfl|rfl <;> rfl
  refine KV (N:=24) (rs:=[.tmp 6,.tmp 7]) [] Tryz.func127 rfl Tryz.ntmps127 Tryz.results127 (Nb rfl) trivial rfl ?_
  refine KB (KA (oA ?_));refine oP (KO (v:=Iz 0) rfl) (KC (KB (KA (oM (oM ?_)))));refine LOps.step rfl (KAQ (first:=[]) (caps:=[]) (X:=[]) (RO:=[]) rfl en_165 rfl (Nb rfl) sR wK (fun w hH hd=>c_mNew256 k hk key hkey w hH hd) ?_)
  rintro _ _ _ ⟨mb,r1,m,rfl,rfl,rfl⟩
  refine oM ?_;refine oX ?_;refine oX ?_;refine oA (oA (KC (KB (KB (KA (oM ?_))))));refine oP (bF rfl rfl (KAW (b:=0)) dc) (KC (KG rfl (KN (KB (KA (oM (oM ?_)))))));refine LOps.step rfl (Kc (first:=[]) (caps:=[]) rfl en_166 rfl (Nb rfl) sR wK (fun w hH hd=>c_mWrite256 m k mb (hbits k) r1 (p256.write (hinit k) (ofS (padB (keyB k key) 54))) key x (Nat.le_of_lt (p256.write_rest _ _ dc)) hx w hH hd) ?_)
  rintro _ _ ⟨r2,rfl,rfl⟩
  refine KC (KB (KA (oM ?_)));refine oS (cF rfl en_167 rfl (fun w hw=>c_mSum256 m k hk mb r2 (p256.write (p256.write (hinit k) (ofS (padB (keyB k key) 54))) (ofS x)) key (p256.write_rest _ _ dc) w (show (Item.blk mb ⟨false,_,_,_⟩).holds w from hw (.blk mb ⟨true,_,_,_⟩) mM) (show (strR256 m (hbits k) r2 (p256.write (p256.write (hinit k) (ofS (padB (keyB k key) 54))) (ofS x))).holds w from hw (KCB m (hbits k) r2 (p256.write (p256.write (hinit k) (ofS (padB (keyB k key) 54))) (ofS x))) mM)) ?_);refine oA ?_;refine oP (KO (v:=Iz 0) rfl) (KC (KM (eN (.cons rfl (.cons rfl .nil)) ?_)))
  unfold hmacB hsum macS
  rw [hpk]
  rfl
theorem c_mNew512 (k:Nat) (hk:k = 3∨k = 4) (key:ByteArray) (hkey:key.size≤140737488351232) (w:World) (hH:∀ x,x∈([]++[]:List Item)→x.holds w) (hd:([]++[]:List Item).Pairwise Apart)  : Calls Tryz.prog 165 ([Iz k,.string key]:List Value).toArray w (fun e w'=>∃ (u:Value) (x':Item) (y':Item),(∃ mb r,∃ m:Nat×Nat×Nat×Nat×Nat,u = .tuple #[Pz mb,Iz 0]∧x' = .blk mb ⟨true,[Iz k,.string (padB (keyB k key) 92),Pz m.1],295,(0,0)⟩∧y' = KCA m (hbits k) r (p512.write (hinit k) (ofS (padB (keyB k key) 54))))∧e = .returned u∧Outcome w [] [x',y'] w'):=by
  refine KAJ [] (N:=45) (rs:=[.tmp 4,.tmp 5]) Tryz.func165 rfl Tryz.ntmps165 Tryz.results165 (Nb rfl) hH hd rfl rfl ?_
  refine KB (KA (oA ?_));refine oP (KO (v:=Iz 0) rfl) (KC (KB (KA (oM ?_))));refine LOps.step rfl (Kc (first:=[]) (caps:=[]) (X:=[]) (RO:=[]) rfl en_135 rfl (Nb rfl) sR wK (fun w hH hd=>c_hNew512 k hk w hH hd) ?_)
  rintro _ _ ⟨m,rfl,rfl⟩
  refine oM ?_;refine oX ?_;refine oX ?_;refine oA (oA (KC (KB (KB (KA (oM ?_))))));refine oP (bF rfl rfl (KAW (b:=0)) dc) (KC (KG rfl (KN (KB (KA (oM ?_))))));refine oS (cF rfl en_192 rfl (fun w hw=>c_hBlock k om w) ?_);refine oA (KC ?_);refine KCW (α:=ByteArray) (fun x=>x = keyA k key) (fun x=>⟨[(0,Iz k),(1,.string x),(6,Pz m.1),(8,Iz (hblk k))],[KCA m (hbits k) none (hinit k)]⟩) ?_ ?_
  ·
   refine KB (KA (oM ?_));refine oP (KAI u9 rfl) (oM ?_);refine oP (KH rfl rfl (KAZ)) (KC ?_)
   first|refine KQ rfl (fun h21=>?_) (fun h21=>?_)|refine KT rfl (fun h21=>?_) (fun h21=>?_)
   ·
    have h21:hblk k<key.size:=h21
    have hx:toS (hashL k (ofS key)) = keyA k key:=(if_pos h21).symm
    refine KA (oM (oM ?_));refine oS (cF rfl en_85 rfl (fun w hw=>c_hOf k om key hkey w) ?_);refine oM ?_;refine oX ?_;refine oX ?_;refine oA (KC ?_)
    exact ⟨_,hx,Ka ⟨rfl,rfl,rfl,rfl,trivial⟩ mS⟩
   have h21:¬ hblk k<key.size:=h21
   have hx:key = keyA k key:=(if_neg h21).symm
   refine KN ?_
   exact ⟨_,hx,Ka ⟨rfl,rfl,rfl,rfl,trivial⟩ mS⟩
  rintro x hx
  have hxs:x.size≤hblk k:=hx ▸ keyA_size om key
  have hb8:=hblk_le k
  refine KB (KA (oM (oM (oM ?_))));refine oP (KAI u9 rfl) (oP (KH rfl rfl (KAf om om)) (oS (cF rfl en_33 rfl (fun w hw=>c_Repeat 0 _ w om) ?_)));refine oP (KAj rfl rfl (by rw [KAL,List.length_replicate]; omega)) ?_
  rw [show x++toS (List.replicate (hblk k-x.size) (UInt8.toNat 0)) = keyB k key by rw [hx]; rfl]
  refine oA (KC (KB (KA (oM (oM ?_)))));refine oS (cF rfl en_193 rfl (fun w hw=>c_pad _ _ (by rw [KCE om]; omega) w) ?_);refine LOps.step rfl (Kc (first:=[]) (caps:=[]) rfl en_136 rfl (Nb rfl) sR wK (fun w hH hd=>c_stWrite512 m (hbits k) none (hinit k) (padB (keyB k key) 54) (Nat.zero_le _) (by rw [KDZ,KCE om]; omega) w hH hd) ?_)
  rintro _ _ ⟨r1,rfl,rfl⟩
  refine KC (KB (KA (oM (oM ?_))));refine oS (cF rfl en_193 rfl (fun w hw=>c_pad _ _ (by rw [KCE om]; omega) w) ?_);refine oM ?_;refine oP (KW pl_295 zr_295 rfl (fT (r':=([Iz k]++([Value.string (padB (keyB k key) 92)]++([Pz m.1])))) (fS (A:=([]:List Value)) (B:=([Iz 0])) (D:=([Value.string ⟨#[]⟩]++([Value.pointer none]))) (cs:=[Iz k]) (fS (A:=([Iz k])) (B:=([Value.string ⟨#[]⟩])) (D:=([Value.pointer none])) (cs:=[Value.string (padB (keyB k key) 92)]) (fS (A:=([Iz k]++([Value.string (padB (keyB k key) 92)]))) (B:=([Value.pointer none])) (D:=([]:List Value)) (cs:=[Pz m.1]) rfl))))) ?_;refine oS (mB (fun b44=>?_));refine oA ?_;refine oP (KO (v:=Iz 0) rfl) (KC (KM (⟨[_,_],.cons rfl (.cons rfl .nil),fun a w' hr=>⟨_,_,_,⟨b44,r1,m,rfl,rfl,rfl⟩,rfl,hr.out mS rfl⟩⟩)))
theorem c_mWrite512 (m:Nat×Nat×Nat×Nat×Nat) (k mb sz:Nat) (r:BsRow) (s:ShS) (key x:ByteArray) (hrl:s.rest.length≤128) (hs:x.size≤140737488351232) (w:World) (hH:∀ x,x∈([KCA m sz r s]++[.blk mb ⟨false,[Iz k,.string (padB (keyB k key) 92),Pz m.1],295,(0,0)⟩]:List Item)→x.holds w) (hd:([KCA m sz r s]++[.blk mb ⟨false,[Iz k,.string (padB (keyB k key) 92),Pz m.1],295,(0,0)⟩]:List Item).Pairwise Apart)  : Calls Tryz.prog 166 ([Pz mb,.string x]:List Value).toArray w (fun e w'=>∃ (u:Value) (x':Item),(∃ r',u = Iz 0∧x' = KCA m sz r' (p512.write s (ofS x)))∧e = .returned u∧Outcome w [KCA m sz r s] [x'] w'):=by
  refine KAJ [KCA m sz r s,.blk mb ⟨false,[Iz k,.string (padB (keyB k key) 92),Pz m.1],295,(0,0)⟩] (N:=13) (rs:=[.tmp 4]) Tryz.func166 rfl Tryz.ntmps166 Tryz.results166 (Nb rfl) hH hd rfl rfl ?_
  refine KB (KA (oP (KO (v:=Iz 0) rfl) (KC (KB (KB (KA (oM ?_)))))));refine oP (KAH u246 rfl rfl) (KC (KG rfl (KN (KB (KA (oM ?_))))));refine oP (KF rfl) (oP (KE (o':=2) u295 rfl rfl rfl sz_207 dc) (oD (dL rfl (hv:=KJ u207 rfl gL)) ?_));refine oM ?_;refine LOps.step rfl (Kc (first:=[]) (caps:=[]) rfl en_136 rfl (Nb rfl) sR wK (fun w hH hd=>c_stWrite512 m sz r s x hrl hs w hH hd) ?_)
  rintro _ _ ⟨r2,rfl,rfl⟩
  refine oA (KC (KM ?_));refine ⟨[_],.cons rfl .nil,fun a w' hr=>⟨_,_,⟨r2,rfl,rfl⟩,rfl,hr.out mS rfl⟩⟩
theorem c_mSum512 (m:Nat×Nat×Nat×Nat×Nat) (k:Nat) (hk:k = 3∨k = 4) (mb:Nat) (r:BsRow) (s:ShS) (key:ByteArray) (hrl:s.rest.length<128) (w:World) (h1:(Item.blk mb ⟨false,[Iz k,.string (padB (keyB k key) 92),Pz m.1],295,(0,0)⟩).holds w) (hS:(strR512 m (hbits k) r s).holds w):CF Tryz.prog 167 [Pz mb] w (.string (toS (hashL k (ofS (padB (keyB k key) 92++(toS (p512.sum s (hbits k/8)))))))):=by
  have hsz:(toS (p512.sum s (hbits k/8))).size = hsize k:=by rw [KAL,Hp.sum_length _ _ (by rcases hk with rfl|rfl <;> decide)]; rcases hk with rfl|rfl <;> rfl
  have hb8:=hblk_le k
  have hs8:hsize k≤64:=by rcases hk with rfl|rfl <;> decide
  refine KV (N:=26) (rs:=[.tmp 2]) [.blk mb ⟨false,[Iz k,.string (padB (keyB k key) 92),Pz m.1],295,(0,0)⟩,strR512 m (hbits k) r s] Tryz.func167 rfl Tryz.ntmps167 Tryz.results167 (Nb rfl) ⟨h1,hS,trivial⟩ rfl ?_
  refine KB (KA (oA (KC (KB (KB (KA (oM ?_)))))));refine oP (KAH u246 rfl rfl) (KC (KG rfl (KN (KB (rD [] (aM 0 ?_))))));refine aP 1 rfl (KF rfl) (aP 2 rfl (KE (o':=0) u295 rfl rfl rfl sz_3 dc) (aD 3 rfl (dL rfl (hv:=KJ u3 rfl gL)) ?_));refine aM 4 ?_;refine aP 5 rfl (KF rfl) (aP 6 rfl (KE (o':=1) u295 rfl rfl rfl sz_9 dc) (aD 7 rfl (dL rfl (hv:=KJ u9 rfl gL)) ?_));refine aM 8 ?_;refine aP 9 rfl (KF rfl) (aP 10 rfl (KE (o':=2) u295 rfl rfl rfl sz_207 dc) (aD 11 rfl (dL rfl (hv:=KJ u207 rfl gL)) ?_));refine aO 12 rfl (cF rfl en_137 rfl (fun w hw=>c_stSum512 m (hbits k) r s hrl (by rcases hk with rfl|rfl <;> decide) (by rcases hk with rfl|rfl <;> decide) w (mC hw)) ?_);refine aP 13 rfl (KAj rfl rfl (by rw [KDZ,KCE om,hsz]; omega)) ?_;refine aO 14 rfl (cF rfl en_85 rfl (fun w hw=>c_hOf k om _ (by rw [ByteArray.size_append,KDZ,KCE om,hsz]; omega) w) ?_)
  refine aM 15 ?_;refine aP 16 rfl (Det.extract rfl rfl) (aP 17 rfl (Det.extract rfl rfl) (aA 18 ?_));refine aA 19 ?_;refine aE (KB (KA (oM (oA (KC (KM ?_))))));refine eN (.cons rfl .nil) ?_
  rfl
theorem c_mOf512 (k:Nat) (hk:k = 3∨k = 4) (key x:ByteArray) (hkey:key.size≤140737488351232) (hx:x.size≤140737488351232) (w:World)  : CF Tryz.prog 127 [Iz k,.string key,.string x] w (.tuple #[.string (hmacB k key x),Iz 0]):=by
  have hpk:hp k = p512:=by rcases hk with rfl|rfl <;> rfl
  refine KV (N:=24) (rs:=[.tmp 6,.tmp 7]) [] Tryz.func127 rfl Tryz.ntmps127 Tryz.results127 (Nb rfl) trivial rfl ?_
  refine KB (KA (oA ?_));refine oP (KO (v:=Iz 0) rfl) (KC (KB (KA (oM (oM ?_)))));refine LOps.step rfl (KAQ (first:=[]) (caps:=[]) (X:=[]) (RO:=[]) rfl en_165 rfl (Nb rfl) sR wK (fun w hH hd=>c_mNew512 k hk key hkey w hH hd) ?_)
  rintro _ _ _ ⟨mb,r1,m,rfl,rfl,rfl⟩
  refine oM ?_;refine oX ?_;refine oX ?_;refine oA (oA (KC (KB (KB (KA (oM ?_))))));refine oP (bF rfl rfl (KAW (b:=0)) dc) (KC (KG rfl (KN (KB (KA (oM (oM ?_)))))));refine LOps.step rfl (Kc (first:=[]) (caps:=[]) rfl en_166 rfl (Nb rfl) sR wK (fun w hH hd=>c_mWrite512 m k mb (hbits k) r1 (p512.write (hinit k) (ofS (padB (keyB k key) 54))) key x (Nat.le_of_lt (p512.write_rest _ _ dc)) hx w hH hd) ?_)
  rintro _ _ ⟨r2,rfl,rfl⟩
  refine KC (KB (KA (oM ?_)));refine oS (cF rfl en_167 rfl (fun w hw=>c_mSum512 m k hk mb r2 (p512.write (p512.write (hinit k) (ofS (padB (keyB k key) 54))) (ofS x)) key (p512.write_rest _ _ dc) w (show (Item.blk mb ⟨false,_,_,_⟩).holds w from hw (.blk mb ⟨true,_,_,_⟩) mM) (show (strR512 m (hbits k) r2 (p512.write (p512.write (hinit k) (ofS (padB (keyB k key) 54))) (ofS x))).holds w from hw (KCA m (hbits k) r2 (p512.write (p512.write (hinit k) (ofS (padB (keyB k key) 54))) (ofS x))) mM)) ?_);refine oA ?_;refine oP (KO (v:=Iz 0) rfl) (KC (KM (eN (.cons rfl (.cons rfl .nil)) ?_)))
  unfold hmacB hsum macS
  rw [hpk]
  rfl
theorem c_mOf (k:Nat) (hk:k = 1∨k = 2∨k = 3∨k = 4) (key x:ByteArray) (hkey:key.size≤140737488351232) (hx:x.size≤140737488351232) (w:World):CF Tryz.prog 127 [Iz k,.string key,.string x] w (.tuple #[.string (hmacB k key x),Iz 0]):=by
  rcases hk with hk|hk|hk|hk
  · exact c_mOf256 k (.inl hk) key x hkey hx w
  · exact c_mOf256 k (.inr hk) key x hkey hx w
  · exact c_mOf512 k (.inl hk) key x hkey hx w
  · exact c_mOf512 k (.inr hk) key x hkey hx w
def gnL (k:Nat) (K V:ByteArray) (n:Nat):List Value:=[.int .i64 (k:Int),.string K,.string V,.int .i64 (n:Int)]
def updI (k:Nat) (s:ByteArray) (z:ByteArray×ByteArray):Nat→ByteArray×ByteArray
  | 0=>z
  | i+1 =>
    let K:=hmacB k (updI k s z i).1 ((updI k s z i).2++toS [i%256]++s)
    (K,hmacB k K (updI k s z i).2)
def upd (k:Nat) (s:ByteArray) (z:ByteArray×ByteArray):ByteArray×ByteArray:=updI k s z (if s.data.toList = [] then 1 else 2)
def genI (k:Nat) (K V:ByteArray):Nat→ByteArray×ByteArray
  | 0=>(V,⟨#[]⟩)
  | i+1=>(hmacB k K (genI k K V i).1,(genI k K V i).2++hmacB k K (genI k K V i).1)
def genQ (k size:Nat):Nat:=(size+hsize k-1)/hsize k
def genB (k:Nat) (K V:ByteArray) (size:Nat):ByteArray:=(genI k K V (genQ k size)).2.extract 0 size
def genS (k:Nat) (K V:ByteArray) (size:Nat):ByteArray×ByteArray:=upd k ⟨#[]⟩ (K,(genI k K V (genQ k size)).1)
theorem upd_cases {x:Nat} (h:x<2) (p:Prop):x = 0∨(x = 1∧p)∨(x = 1∧¬ p):=by
  rcases (show x = 0∨x = 1 by omega) with e|e
  · exact .inl e
  · by_cases hp:p
    · exact .inr (.inl ⟨e,hp⟩)
    · exact .inr (.inr ⟨e,hp⟩)
theorem KCK {k:Nat} (hk:k = 1∨k = 2∨k = 3∨k = 4):28≤hsize k∧hsize k≤64:=by rcases hk with rfl|rfl|rfl|rfl <;> decide
theorem updI_size {k:Nat} (hk:k = 1∨k = 2∨k = 3∨k = 4) (s:ByteArray) {z:ByteArray×ByteArray} (h1:z.1.size≤64) (h2:z.2.size≤64):∀ i,(updI k s z i).1.size≤64∧(updI k s z i).2.size≤64
  | 0=>⟨h1,h2⟩
  | i+1=>by
    have:=KCK hk
    show (hmacB _ _ _).size≤64∧(hmacB _ _ _).size≤64
    rw [KCP hk,KCP hk]; omega
theorem upd_size {k:Nat} (hk:k = 1∨k = 2∨k = 3∨k = 4) (s:ByteArray) {z:ByteArray×ByteArray} (h1:z.1.size≤64) (h2:z.2.size≤64):(upd k s z).1.size≤64∧(upd k s z).2.size≤64:=updI_size hk s h1 h2 _
theorem genI_size {k:Nat} (hk:k = 1∨k = 2∨k = 3∨k = 4) (K:ByteArray) {V:ByteArray} (h:V.size≤64):∀ i,(genI k K V i).1.size≤64∧(genI k K V i).2.size = i*hsize k
  | 0=>⟨h,by rw [Nat.zero_mul]; rfl⟩
  | i+1=>by
    have h1:=KCK hk
    have h2:=(genI_size hk K h i).2
    show (hmacB _ _ _).size≤64∧(_++hmacB _ _ _:ByteArray).size = _
    rw [ByteArray.size_append,KCP hk,h2,Nat.succ_mul]; omega
theorem genQ_mul {k:Nat} (hk:k = 1∨k = 2∨k = 3∨k = 4) (size:Nat):size≤genQ k size*hsize k∧(0<genQ k size→(genQ k size-1)*hsize k<size):=by
  have hp:=(KCK hk).1
  unfold genQ
  have h1:=Nat.div_add_mod (size+hsize k-1) (hsize k)
  have h2:=Nat.mod_lt (size+hsize k-1) (show 0<hsize k by omega)
  rw [Nat.mul_comm] at h1
  generalize (size+hsize k-1)/hsize k = q at *
  refine ⟨by omega,fun hq=>?_⟩
  obtain ⟨p,rfl⟩:∃ p,q = p+1:=⟨q-1,by omega⟩
  rw [Nat.add_sub_cancel]
  rw [Nat.succ_mul] at h1
  omega
theorem genB_size {k:Nat} (hk:k = 1∨k = 2∨k = 3∨k = 4) (K:ByteArray) {V:ByteArray} (h:V.size≤64) (size:Nat):(genB k K V size).size = size:=by
  unfold genB
  rw [ByteArray.size_extract,(genI_size hk K h _).2]
  have:=(genQ_mul hk size).1
  omega
theorem KCF {k:Nat} (hk:k = 1∨k = 2∨k = 3∨k = 4) (K:ByteArray) {V:ByteArray} (h1:K.size≤64) (h:V.size≤64) (size:Nat):(genS k K V size).1.size≤64∧(genS k K V size).2.size≤64:=upd_size hk _ h1 (genI_size hk K h _).1
theorem c_dmac (k:Nat) (hk:k = 1∨k = 2∨k = 3∨k = 4) (d n:Nat) (K V s:ByteArray) (hK:K.size≤64) (hs:s.size≤10000) (w:World) (h1:(Item.blk d ⟨false,gnL k K V (n),79,(0,0)⟩).holds w):CF Tryz.prog 75 [Pz d,.string s] w (.string (hmacB k K s)):=by
  refine KV (N:=21) (rs:=[.tmp 4]) [.blk d ⟨false,gnL k K V (n),79,(0,0)⟩] Tryz.func75 rfl Tryz.ntmps75 Tryz.results75 (Nb rfl) ⟨h1,trivial⟩ rfl ?_
  refine KB (KA (oA (KC (KB (rD [] ?_)))));refine aM 0 ?_;refine aP 1 rfl (KF rfl) (aP 2 rfl (KE (o':=0) u79 rfl rfl rfl sz_3 dc) (aD 3 rfl (dL rfl (hv:=KJ u3 rfl gL)) ?_));refine aM 4 ?_;refine aP 5 rfl (KF rfl) (aP 6 rfl (KE (o':=1) u79 rfl rfl rfl sz_9 dc) (aD 7 rfl (dL rfl (hv:=KJ u9 rfl gL)) ?_));refine aM 8 ?_;refine aO 9 rfl (cF rfl en_127 rfl (fun w hw=>c_mOf k hk K s om om w) ?_);refine aM 10 ?_;refine aP 11 rfl (Det.extract rfl rfl) (aP 12 rfl (Det.extract rfl rfl) (aA 13 ?_));refine aA 14 ?_;refine aE (KB (KA (oM (oA (KC (KM ?_))))));refine eN (.cons rfl .nil) ?_
  rfl
theorem c_dupd (k:Nat) (hk:k = 1∨k = 2∨k = 3∨k = 4) (d n:Nat) (K V s:ByteArray) (hK:K.size≤64) (hV:V.size≤64) (hs:s.size≤9000) (w:World) (hH:∀ x,x∈([.blk d ⟨true,gnL k K V (n),79,(0,0)⟩]++[]:List Item)→x.holds w) (hd:([.blk d ⟨true,gnL k K V (n),79,(0,0)⟩]++[]:List Item).Pairwise Apart)  : Calls Tryz.prog 34 ([Pz d,.string s]:List Value).toArray w (fun e w'=>∃ (u:Value) (x':Item),(u = .tuple #[]∧x' = .blk d ⟨true,gnL k (upd k s (K,V)).1 (upd k s (K,V)).2 (n),79,(0,0)⟩)∧e = .returned u∧Outcome w [.blk d ⟨true,gnL k K V (n),79,(0,0)⟩] [x'] w'):=by
  have hsz:=updI_size hk s (z:=(K,V)) hK hV
  have hs8:=KCK hk
  refine KAJ [.blk d ⟨true,gnL k K V (n),79,(0,0)⟩] (N:=43) (rs:=[]) Tryz.func34 rfl Tryz.ntmps34 Tryz.results34 (Nb rfl) hH hd rfl rfl ?_
  refine KB (KA (oM ?_));refine oP (Kx rfl) (oA (KC (KB (KA ?_))));refine oP (Kg (v:=Iz 0) rfl) (KC (LCode.block (Kd (α:=Nat) (fun x=>x≤2∧(s.data.toList = []→x≤1)) (fun x=>⟨[(0,Pz d),(1,.string s),(4,.func (.func 75) #[Pz d] #[]),(8,Iz x)],[.blk d ⟨true,gnL k (updI k s (K,V) x).1 (updI k s (K,V) x).2 (n),79,(0,0)⟩]⟩) (fun x=>2-x) (0) (⟨by decide,fun _=>by decide⟩) (Ka ⟨rfl,rfl,rfl,rfl,trivial⟩ mS) ?_)))
  rintro x ⟨hx,hx2⟩
  refine KB (KA (oP (KH rfl rfl (Ky (b:=2))) (KC (KB ?_))))
  first|refine KQ rfl (fun h9=>?_) (fun h9=>?_)|refine KT rfl (fun h9=>?_) (fun h9=>?_)
  ·
   have h9:x<2:=h9
   refine KN (KB (LCode.block (KB (KA (oM (oA (KC (KB (KB ?_)))))))))
   rcases upd_cases h9 (s.data.toList = []) with rfl|⟨rfl,he⟩|⟨rfl,hne⟩
   ·
    refine KA (oM ?_);refine oP (bF rfl rfl (Kt (b:=1)) dc) (oM ?_);refine oK (oK (oP (KR rfl rfl) (KC (KG rfl (KN (KB (rD [16] (aM 0 ?_))))))));refine aM 1 ?_;refine aM 2 ?_;refine aP 3 rfl (KF rfl) (aP 4 rfl (KE (o':=2) u79 rfl rfl rfl sz_9 dc) (aD 5 rfl (dL rfl (hv:=KJ u9 rfl gL)) ?_));refine aM 6 ?_;refine aP 7 rfl (KAS u3 u5 rfl) (aM 11 ?_);refine aO 8 rfl (mk (KAO u70 inf_5 rfl rfl rfl rfl dc rfl) (fun b25=>?_));refine aD 9 rfl (KAw (KBO (f:=fun _=>0%256) u70 u5 u9 rfl mM rfl) (show _ = Value.string (toS [0%256]) from rfl)) ?_;refine aP 10 rfl (KAj rfl rfl (by rw [KAL]; have:=(hsz 0).2; simp only [List.length_cons,List.length_nil]; omega)) ?_;refine aP 12 rfl (KAj rfl rfl (by rw [ByteArray.size_append,KAL]; have:=(hsz 0).2; simp only [List.length_cons,List.length_nil]; omega)) ?_
    refine aO 13 rfl (Kz (first:=[_]) rfl en_75 rfl (Nb rfl) (fun w hw=>c_dmac k hk d n (updI k s (K,V) 0).1 (updI k s (K,V) 0).2 _ (hsz 0).1 (by have:=(hsz 0).2; first|omega|(simp only [ByteArray.size_append,KAL,List.length_cons,List.length_nil]; omega)) w (show (Item.blk d ⟨false,gnL k (updI k s (K,V) 0).1 (updI k s (K,V) 0).2 (n),79,(0,0)⟩).holds w from hw (.blk d ⟨true,gnL k (updI k s (K,V) 0).1 (updI k s (K,V) 0).2 (n),79,(0,0)⟩) mM)) ?_);refine aP 14 rfl (KF rfl) (aP 15 rfl (KE (o':=1) u79 rfl rfl rfl sz_9 dc) ?_);refine aL 16 rfl (KY rfl rfl rfl sz_9 mT (by show 1<4; decide) (show (gnL _ _ _ _).set 1 _ = gnL _ _ _ _ from rfl) (by simp) ?_);refine aE (KA (oM (oM (oM ?_))));refine oP (KF rfl) (oP (KE (o':=2) u79 rfl rfl rfl sz_9 dc) (oD (dL rfl (hv:=KJ u9 rfl gL)) ?_));refine oS (Kz (first:=[_]) rfl en_75 rfl (Nb rfl) (fun w hw=>c_dmac k hk d n (hmacB k (updI k s (K,V) 0).1 ((updI k s (K,V) 0).2++toS [0%256]++s)) (updI k s (K,V) 0).2 _ (by rw [KCP hk]; omega) (by have:=(hsz 0).2; first|omega|(simp only [ByteArray.size_append,KAL,List.length_cons,List.length_nil]; omega)) w (show (Item.blk d ⟨false,gnL k (hmacB k (updI k s (K,V) 0).1 ((updI k s (K,V) 0).2++toS [0%256]++s)) (updI k s (K,V) 0).2 (n),79,(0,0)⟩).holds w from hw (.blk d ⟨true,gnL k (hmacB k (updI k s (K,V) 0).1 ((updI k s (K,V) 0).2++toS [0%256]++s)) (updI k s (K,V) 0).2 (n),79,(0,0)⟩) mM)) ?_)
    refine oP (KF rfl) (oP (KE (o':=2) u79 rfl rfl rfl sz_9 dc) ?_);refine LOps.step rfl (KY rfl rfl rfl sz_9 mT (by show 2<4; decide) (show (gnL _ _ _ _).set 2 _ = gnL _ _ _ _ from rfl) (by simp) ?_);refine KC (KA (oP (KH rfl rfl (Kj (b:=1) om)) (oM (KC ?_))))
    exact ⟨1,⟨by decide,fun he=>Nat.le_refl _⟩,by decide,Ka ⟨rfl,rfl,rfl,rfl,trivial⟩ mS⟩
   ·
    refine KA (oM ?_);refine oP (bT rfl rfl (Kt (b:=1)) (rfl)) (oM ?_);refine oGM ?_;refine oGP (KI (KCD rfl rfl) (congrArg Value.bool (eq_str_t (he)))) (oP (Ke rfl rfl) (KC (KS rfl (KM ?_))))
    have e1:upd k s (K,V) = (updI k s (K,V) 1):=by unfold upd; rw [if_pos he]
    rw [e1]
    refine ⟨[],.nil,fun a w' hr=>⟨_,_,⟨rfl,rfl⟩,rfl,hr.out mS rfl⟩⟩
   refine KA (oM ?_);refine oP (bT rfl rfl (Kt (b:=1)) (rfl)) (oM ?_);refine oGM ?_;refine oGP (KI (KCD rfl rfl) (congrArg Value.bool (eq_str_f (hne)))) (oP (Ke rfl rfl) (KC (KG rfl (KN (KB (rD [16] (aM 0 ?_)))))));refine aM 1 ?_;refine aM 2 ?_;refine aP 3 rfl (KF rfl) (aP 4 rfl (KE (o':=2) u79 rfl rfl rfl sz_9 dc) (aD 5 rfl (dL rfl (hv:=KJ u9 rfl gL)) ?_));refine aM 6 ?_;refine aP 7 rfl (KAS u3 u5 rfl) (aM 11 ?_);refine aO 8 rfl (mk (KAO u70 inf_5 rfl rfl rfl rfl dc rfl) (fun b25=>?_));refine aD 9 rfl (KAw (KBO (f:=fun _=>1%256) u70 u5 u9 rfl mM rfl) (show _ = Value.string (toS [1%256]) from rfl)) ?_;refine aP 10 rfl (KAj rfl rfl (by rw [KAL]; have:=(hsz 1).2; simp only [List.length_cons,List.length_nil]; omega)) ?_;refine aP 12 rfl (KAj rfl rfl (by rw [ByteArray.size_append,KAL]; have:=(hsz 1).2; simp only [List.length_cons,List.length_nil]; omega)) ?_
   refine aO 13 rfl (Kz (first:=[_]) rfl en_75 rfl (Nb rfl) (fun w hw=>c_dmac k hk d n (updI k s (K,V) 1).1 (updI k s (K,V) 1).2 _ (hsz 1).1 (by have:=(hsz 1).2; first|omega|(simp only [ByteArray.size_append,KAL,List.length_cons,List.length_nil]; omega)) w (show (Item.blk d ⟨false,gnL k (updI k s (K,V) 1).1 (updI k s (K,V) 1).2 (n),79,(0,0)⟩).holds w from hw (.blk d ⟨true,gnL k (updI k s (K,V) 1).1 (updI k s (K,V) 1).2 (n),79,(0,0)⟩) mM)) ?_);refine aP 14 rfl (KF rfl) (aP 15 rfl (KE (o':=1) u79 rfl rfl rfl sz_9 dc) ?_);refine aL 16 rfl (KY rfl rfl rfl sz_9 mT (by show 1<4; decide) (show (gnL _ _ _ _).set 1 _ = gnL _ _ _ _ from rfl) (by simp) ?_);refine aE (KA (oM (oM (oM ?_))));refine oP (KF rfl) (oP (KE (o':=2) u79 rfl rfl rfl sz_9 dc) (oD (dL rfl (hv:=KJ u9 rfl gL)) ?_));refine oS (Kz (first:=[_]) rfl en_75 rfl (Nb rfl) (fun w hw=>c_dmac k hk d n (hmacB k (updI k s (K,V) 1).1 ((updI k s (K,V) 1).2++toS [1%256]++s)) (updI k s (K,V) 1).2 _ (by rw [KCP hk]; omega) (by have:=(hsz 1).2; first|omega|(simp only [ByteArray.size_append,KAL,List.length_cons,List.length_nil]; omega)) w (show (Item.blk d ⟨false,gnL k (hmacB k (updI k s (K,V) 1).1 ((updI k s (K,V) 1).2++toS [1%256]++s)) (updI k s (K,V) 1).2 (n),79,(0,0)⟩).holds w from hw (.blk d ⟨true,gnL k (hmacB k (updI k s (K,V) 1).1 ((updI k s (K,V) 1).2++toS [1%256]++s)) (updI k s (K,V) 1).2 (n),79,(0,0)⟩) mM)) ?_)
   refine oP (KF rfl) (oP (KE (o':=2) u79 rfl rfl rfl sz_9 dc) ?_);refine LOps.step rfl (KY rfl rfl rfl sz_9 mT (by show 2<4; decide) (show (gnL _ _ _ _).set 2 _ = gnL _ _ _ _ from rfl) (by simp) ?_);refine KC (KA (oP (KH rfl rfl (Kj (b:=1) om)) (oM (KC ?_))))
   exact ⟨2,⟨by decide,fun he=>absurd he hne⟩,by decide,Ka ⟨rfl,rfl,rfl,rfl,trivial⟩ mS⟩
  have h9:¬ x<2:=h9
  obtain rfl:x = 2:=by omega
  have hne:¬ s.data.toList = []:=fun he=>by have:=hx2 he; omega
  refine Kb ?_
  have e1:upd k s (K,V) = (updI k s (K,V) 2):=by unfold upd; rw [if_neg hne]
  rw [e1]
  refine ⟨[],.nil,fun a w' hr=>⟨_,_,⟨rfl,rfl⟩,rfl,hr.out mS rfl⟩⟩
theorem c_dgen (k:Nat) (hk:k = 1∨k = 2∨k = 3∨k = 4) (d n:Nat) (K V:ByteArray) (hK:K.size≤64) (hV:V.size≤64) (size:Nat) (hsize1:size≤256) (hn:n≤64) (w:World) (hH:∀ x,x∈([.blk d ⟨true,gnL k K V (n),79,(0,0)⟩]++[]:List Item)→x.holds w) (hd:([.blk d ⟨true,gnL k K V (n),79,(0,0)⟩]++[]:List Item).Pairwise Apart)  : Calls Tryz.prog 36 ([Pz d,Iz size,.string ⟨#[]⟩]:List Value).toArray w (fun e w'=>∃ (u:Value) (x':Item),(u = .tuple #[.string (genB k K V size),Iz 0]∧x' = .blk d ⟨true,gnL k (genS k K V size).1 (genS k K V size).2 (n+1),79,(0,0)⟩)∧e = .returned u∧Outcome w [.blk d ⟨true,gnL k K V (n),79,(0,0)⟩] [x'] w'):=by
  have hg:=genI_size hk K hV
  have hs8:=KCK hk
  have hq:=genQ_mul hk size
  refine KAJ [.blk d ⟨true,gnL k K V (n),79,(0,0)⟩] (N:=67) (rs:=[.tmp 6,.tmp 7]) Tryz.func36 rfl Tryz.ntmps36 Tryz.results36 (Nb rfl) hH hd rfl rfl ?_
  refine KB (KA (oA ?_));refine oP (KO (v:=Iz 0) rfl) (KC (KB (LCode.block (KB (KA (oM ?_))))));refine oP (KAH u24 rfl rfl) (oA (KC ?_));refine KG rfl (KB (KA (oM ?_)));refine oP (bF rfl rfl (Ky (b:=0)) om) (oM ?_);refine oGM ?_;refine oGP (bF rfl rfl (KAZ (b:=256)) om) (oP (KR rfl rfl) (oM ?_));refine oGM ?_;refine oGP (KAI u9 rfl) (oGP (bF rfl rfl (KAZ (b:=256)) dc) (oP (KR rfl rfl) (oA (KC ?_))));refine KG rfl (KB (KA (oM ?_)));refine oP (KF rfl) (oP (KE (o':=3) u79 rfl rfl rfl sz_3 dc) (oD (dL rfl (hv:=KJ u3 rfl gL)) ?_));refine oP (bF rfl rfl (KAZ (b:=64)) om) (oA (KC ?_));refine KG rfl (KN (KB (KB (KA (oM ?_)))));refine oP (KI (Det.nes rfl rfl) (congrArg (fun b:Bool=>Value.bool (!b)) (eq_str_t (rfl)))) ?_;refine KC (KG rfl (KN (KB (KA (oA (KC (KB (LCode.block ?_))))))));refine Kd (α:=Nat) (fun x=>x≤genQ k size) (fun x=>⟨[(0,Pz d),(1,Iz size),(2,.string ⟨#[]⟩),(8,.string (genI k K V x).2)],[.blk d ⟨true,gnL k K (genI k K V x).1 (n),79,(0,0)⟩]⟩) (fun x=>genQ k size-x) (0) (Nat.zero_le _) (Ka ⟨rfl,rfl,rfl,rfl,trivial⟩ mS) ?_
  intro x hx
  refine KB (KB (KA (oM ?_)));refine oP (KAI u9 rfl) (oM ?_);refine oP (KH rfl rfl (Ky)) (KC ?_)
  first|refine KQ rfl (fun h38=>?_) (fun h38=>?_)|refine KT rfl (fun h38=>?_) (fun h38=>?_)
  ·
   have h38:(genI k K V x).2.size<size:=h38
   rw [(hg x).2] at h38
   have hxq:x+1≤genQ k size:=by
     rcases Nat.lt_or_ge x (genQ k size) with h|h
     · exact h
     · exact absurd (Nat.le_trans hq.1 (Nat.mul_le_mul_right _ h)) om
   refine KN (LCode.block (KB (KA (oM (oM (oM ?_))))));refine oP (KF rfl) (oP (KE (o':=2) u79 rfl rfl rfl sz_9 dc) (oD (dL rfl (hv:=KJ u9 rfl gL)) ?_));refine oS (cF rfl en_75 rfl (fun w hw=>c_dmac k hk d n K (genI k K V x).1 _ hK (by have:=(hg x).1; omega) w (show (Item.blk d ⟨false,gnL k K (genI k K V x).1 (n),79,(0,0)⟩).holds w from hw (.blk d ⟨true,gnL k K (genI k K V x).1 (n),79,(0,0)⟩) mM)) ?_);refine oP (KF rfl) (oP (KE (o':=2) u79 rfl rfl rfl sz_9 dc) ?_);refine LOps.step rfl (KY rfl rfl rfl sz_9 mT (by show 2<4; decide) (show (gnL _ _ _ _).set 2 _ = gnL _ _ _ _ from rfl) (by simp) ?_);refine KC (KA (oM (oM ?_)));refine oP (KF rfl) (oP (KE (o':=2) u79 rfl rfl rfl sz_9 dc) (oD (dL rfl (hv:=KJ u9 rfl gL)) ?_));refine oP (KAj rfl rfl (by have h1:=(hg x).2; rw [KCP hk,h1]; omega)) ?_;refine oA (KC ?_)
   exact ⟨x+1,hxq,by omega,Ka ⟨rfl,rfl,rfl,rfl,trivial⟩ mS⟩
  have h38:¬ (genI k K V x).2.size<size:=h38
  rw [(hg x).2] at h38
  obtain rfl:x = genQ k size:=by
    rcases Nat.lt_or_ge x (genQ k size) with h|h
    · have h0:=hq.2 om
      have:=Nat.mul_le_mul_right (hsize k) (show x≤genQ k size-1 by omega)
      omega
    · omega
  refine Kb (KB (KA (oM (oM ?_))));refine LOps.step rfl (Kc (first:=[]) (caps:=[]) rfl en_34 rfl (Nb rfl) sR wK (fun w hH hd=>c_dupd k hk d n K (genI k K V (genQ k size)).1 ⟨#[]⟩ hK (hg _).1 dc w hH hd) ?_)
  rintro _ _ ⟨rfl,rfl⟩
  refine KC (KB (KA (oM ?_)));refine oP (KF rfl) (oP (KE (o':=3) u79 rfl rfl rfl sz_3 dc) (oD (dL rfl (hv:=KJ u3 rfl gL)) ?_));refine oP (KH rfl rfl (Kj (b:=1) om)) (oP (KF rfl) (oP (KE (o':=3) u79 rfl rfl rfl sz_3 dc) ?_));refine LOps.step rfl (KY rfl rfl rfl sz_3 mT (by show 3<4; decide) (show (gnL _ _ _ _).set 3 _ = gnL _ _ _ _ from rfl) (by simp) ?_);refine KC (KB (KA (oM (oM ?_))));refine oP (KCh u9 rfl rfl om (by rw [(hg _).2]; exact Int.ofNat_le.2 hq.1)) ?_;refine oA ?_;refine oP (KO (v:=Iz 0) rfl) (KC (KM (⟨[_,_],.cons rfl (.cons rfl .nil),fun a w' hr=>⟨_,_,⟨rfl,rfl⟩,rfl,hr.out mS rfl⟩⟩)))
theorem c_dgenX (k:Nat) (hk:k = 1∨k = 2∨k = 3∨k = 4) (d n:Nat) (K V:ByteArray) (size:Nat) (hsize1:size≤256) (hn:64<n) (w:World) (hH:∀ x,x∈([.blk d ⟨true,gnL k K V (n),79,(0,0)⟩]++[]:List Item)→x.holds w) (hd:([.blk d ⟨true,gnL k K V (n),79,(0,0)⟩]++[]:List Item).Pairwise Apart)  : Calls Tryz.prog 36 ([Pz d,Iz size,.string ⟨#[]⟩]:List Value).toArray w (fun e w'=>∃ (u:Value) (x':Item),(u = .tuple #[.string ⟨#[]⟩,Iz 1103]∧x' = .blk d ⟨true,gnL k K V (n),79,(0,0)⟩)∧e = .returned u∧Outcome w [.blk d ⟨true,gnL k K V (n),79,(0,0)⟩] [x'] w'):=by
  refine KAJ [.blk d ⟨true,gnL k K V (n),79,(0,0)⟩] (N:=67) (rs:=[.tmp 6,.tmp 7]) Tryz.func36 rfl Tryz.ntmps36 Tryz.results36 (Nb rfl) hH hd rfl rfl ?_
  refine KB (KA (oA ?_));refine oP (KO (v:=Iz 0) rfl) (KC (KB (LCode.block (KB (KA (oM ?_))))));refine oP (KAH u24 rfl rfl) (oA (KC ?_));refine KG rfl (KB (KA (oM ?_)));refine oP (bF rfl rfl (Ky (b:=0)) om) (oM ?_);refine oGM ?_;refine oGP (bF rfl rfl (KAZ (b:=256)) om) (oP (KR rfl rfl) (oM ?_));refine oGM ?_;refine oGP (KAI u9 rfl) (oGP (bF rfl rfl (KAZ (b:=256)) dc) (oP (KR rfl rfl) (oA (KC ?_))));refine KG rfl (KB (KA (oM ?_)));refine oP (KF rfl) (oP (KE (o':=3) u79 rfl rfl rfl sz_3 dc) (oD (dL rfl (hv:=KJ u3 rfl gL)) ?_));refine oP (bT rfl rfl (KAZ (b:=64)) om) (oA (KC ?_));refine KS rfl (KB (KA (oA ?_)));refine oP (KO (v:=Iz 1103) rfl) (KC (KM (⟨[_,_],.cons rfl (.cons rfl .nil),fun a w' hr=>⟨_,_,⟨rfl,rfl⟩,rfl,hr.out mS rfl⟩⟩)))
theorem c_dmay (k:Nat) (hk:k = 1∨k = 2∨k = 3∨k = 4) (mb:Nat) (et s1 s2:ByteArray) (he1:hsize k/2≤et.size) (he2:et.size≤256) (h1:s1.size≤256) (h2:s2.size≤256) (w:World) (hm:(Item.blk mb ⟨false,[.string s1,.string s2],9,(0,0)⟩).holds w):CF Tryz.prog 32 [Iz k,.string et,.slice (some ⟨mb,0,none⟩) 2 2] w (Iz 0):=by
  have hs8:=KCK hk
  refine KV (N:=30) (rs:=[.tmp 6]) [.blk mb ⟨false,[.string s1,.string s2],9,(0,0)⟩] Tryz.func32 rfl Tryz.ntmps32 Tryz.results32 (Nb rfl) ⟨hm,trivial⟩ rfl ?_
  refine KB (KA (oP (KO (v:=Iz 0) rfl) (KC (KB (KB (KA (oM ?_)))))));refine oP (KAI u9 rfl) (oM ?_);refine oS (cF rfl en_31 rfl (fun w hw=>KDS k hk w) ?_);refine oP (KH rfl rfl (KCu (b:=2) om om)) (oP (bF rfl rfl Ky om) (oM ?_));refine oGM ?_;refine oGP (KAI u9 rfl) (oGP (bF rfl rfl (KAZ (b:=256)) om) (oP (KR rfl rfl) (KC (KG rfl (KN (KB (KB (KA (oM ?_)))))))));refine oP (KBZ u143 rfl) (oP (Kg (v:=Iz 0) rfl) (KC (LCode.block (Kd (α:=Nat) (fun x=>x≤2) (fun x=>⟨[(20,.slice (some ⟨mb,0,none⟩) 2 2),(21,Iz 2),(22,Iz x)],[.blk mb ⟨false,[.string s1,.string s2],9,(0,0)⟩]⟩) (fun x=>2-x) (0) (Nat.zero_le _) (Ka ⟨rfl,rfl,rfl,trivial⟩ mS) ?_))))
  intro x hx
  refine KB (KA (oP (KH rfl rfl (Ky)) (KC (KB ?_))))
  first|refine KQ rfl (fun h23=>?_) (fun h23=>?_)|refine KT rfl (fun h23=>?_) (fun h23=>?_)
  ·
   refine KN (KB (LCode.block (KB ?_)))
   obtain ⟨sv,hsv,sx⟩:∃ sv:ByteArray,sv.size≤256∧([.string s1,.string s2]:List Value)[x]? = some (.string sv):=by
     rcases (show x = 0∨x = 1 by omega) with rfl|rfl
     · exact ⟨s1,h1,rfl⟩
     · exact ⟨s2,h2,rfl⟩
   refine KA (oP (KAG u143 sz_9 rfl rfl om) (oD (dL rfl (hv:=KJ u9 rfl (by exact sx))) ?_));refine oA (KC (KB (KA (oM ?_))));refine oP (KAI u9 rfl) (oP (bF rfl rfl (KAZ (b:=256)) om) (KC (KG rfl (KN (KA (oP (KH rfl rfl (Kj (b:=1) om)) (oM (KC ?_))))))))
   exact ⟨x+1,by omega,by omega,Ka ⟨rfl,rfl,rfl,trivial⟩ mS⟩
  refine Kb (KB (KA (oP (KO (v:=Iz 0) rfl) (KC (KM (eN (.cons rfl .nil) ?_))))))
  rfl
theorem c_dNew (k:Nat) (hk:k = 1∨k = 2∨k = 3∨k = 4) (et s1 s2:ByteArray) (he1:hsize k/2≤et.size) (he2:et.size≤256) (h1:s1.size≤256) (h2:s2.size≤256) (w:World) (hH:∀ x,x∈([]++[]:List Item)→x.holds w) (hd:([]++[]:List Item).Pairwise Apart)  : Calls Tryz.prog 11 ([Iz k,.string et,.string s1,.string s2]:List Value).toArray w (fun e w'=>∃ (u:Value) (x':Item),(∃ d,u = .tuple #[Pz d,Iz 0]∧x' = .blk d ⟨true,gnL k (upd k (et++s1++s2) (toS (List.replicate (hsize k) 0),toS (List.replicate (hsize k) 1))).1 (upd k (et++s1++s2) (toS (List.replicate (hsize k) 0),toS (List.replicate (hsize k) 1))).2 (1),79,(0,0)⟩)∧e = .returned u∧Outcome w [] [x'] w'):=by
  have hs8:=KCK hk
  refine KAJ [] (N:=41) (rs:=[.tmp 8,.tmp 9]) Tryz.func11 rfl Tryz.ntmps11 Tryz.results11 (Nb rfl) hH hd rfl rfl ?_
  refine KB (KA (oA ?_));refine oP (KO (v:=Iz 0) rfl) (KC (KB (KA (oM ?_))));refine oS (cF rfl en_31 rfl (fun w hw=>KDS k hk w) ?_);refine oA (KC (KB (KB (KA (oM ?_)))));refine oP (bF rfl rfl (Kt (b:=0)) om) (KC (KG rfl (KN (KB (KB (KA (oM (oM (oM (oM ?_))))))))));refine oS (mk (KAO u143 inf_9 rfl rfl rfl rfl dc rfl) (fun b21=>?_));refine oS (cF rfl en_32 rfl (fun w hw=>c_dmay k hk b21 et s1 s2 he1 he2 h1 h2 w (show (Item.blk b21 ⟨false,[.string s1,.string s2],9,(0,0)⟩).holds w from hw (.blk b21 ⟨true,[.string s1,.string s2],9,(0,0)⟩) mM)) ?_);refine oA (KC (KB (KA (oM ?_))));refine oP (bF rfl rfl (KAW (b:=0)) dc) (KC (KG rfl (KN (KB (KA (oM (oM ?_)))))));refine oS (cF rfl en_33 rfl (fun w hw=>c_Repeat 0 _ w om) ?_);refine oM ?_;refine oS (cF rfl en_33 rfl (fun w hw=>c_Repeat 1 _ w om) ?_);refine oP (KW pl_79 zr_79 rfl (fT (r':=([Iz k]++([Value.string (toS (List.replicate (hsize k) (UInt8.toNat 0)))]++([Value.string (toS (List.replicate (hsize k) (UInt8.toNat 1)))]++([Iz 1]))))) (fS (A:=([]:List Value)) (B:=([Iz 0])) (D:=([Value.string ⟨#[]⟩]++([Value.string ⟨#[]⟩]++([Iz 0])))) (cs:=[Iz k]) (fS (A:=([Iz k])) (B:=([Value.string ⟨#[]⟩])) (D:=([Value.string ⟨#[]⟩]++([Iz 0]))) (cs:=[Value.string (toS (List.replicate (hsize k) (UInt8.toNat 0)))]) (fS (A:=([Iz k]++([Value.string (toS (List.replicate (hsize k) (UInt8.toNat 0)))]))) (B:=([Value.string ⟨#[]⟩])) (D:=([Iz 0])) (cs:=[Value.string (toS (List.replicate (hsize k) (UInt8.toNat 1)))]) (fS (A:=([Iz k]++([Value.string (toS (List.replicate (hsize k) (UInt8.toNat 0)))]++([Value.string (toS (List.replicate (hsize k) (UInt8.toNat 1)))])))) (B:=([Iz 0])) (D:=([]:List Value)) (cs:=[Iz 1]) rfl)))))) ?_
  refine oS (mB (fun b32=>?_));refine oA (KC (KB (KA (oM (oM (oM ?_))))));refine oP (KAj rfl rfl om) (oM ?_);refine oP (KAj rfl rfl (by rw [ByteArray.size_append]; omega)) ?_;refine LOps.step rfl (Kc (first:=[]) (caps:=[]) rfl en_34 rfl (Nb rfl) sR wK (fun w hH hd=>c_dupd k hk b32 1 _ _ _ (by rw [KAL,List.length_replicate]; omega) (by rw [KAL,List.length_replicate]; omega) (by simp only [ByteArray.size_append]; omega) w hH hd) ?_)
  rintro _ _ ⟨rfl,rfl⟩
  refine KC (KB (KA (oM (oA ?_))));refine oP (KO (v:=Iz 0) rfl) (KC (KM (⟨[_,_],.cons rfl (.cons rfl .nil),fun a w' hr=>⟨_,_,⟨b32,rfl,rfl⟩,rfl,hr.out mS rfl⟩⟩)))
end Go.Proofs.YtnpeokiboiclfaaGreat
