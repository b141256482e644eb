/- Part 5 of what the proof leans on: a symbolic execution of the model, walks of the program's functions, and the mathematics. No condition. -/
import Derived.WalkKit
import Derived.Orders
import Derived.Laws.StructEq
import Derived.WalkSpells
import Derived.OrdersHeld
import Derived.KernelRfl
import Derived.Laws.Externs
import Derived.Laws.Bits64
import Derived.Laws.MakeOwn
import Derived.Laws.BytesString
import Derived.Carry
import Derived.WideShapes
import GoSem.Claim
import Derived.Test.YtlmiolnccgjjjaaProg
import Derived.Laws.AppendOwn
import Derived.Test.YtlmiolnccgjjjaaRows
import Derived.ProofKit
import Derived.OpenShut
import Derived.Test.YtlmiolnccgjjjaaP4
set_option linter.unusedVariables false
set_option linter.unusedSimpArgs false
set_option maxRecDepth 20000
namespace Go.Proofs.Ytlmiolnccgjjjaa
open Go Go.RowKit
open Grp
def pjF {p:Nat} (T:Fin p×Fin p×Fin p):Value:=pjV T.1.val T.2.1.val T.2.2.val
def pjFL {p:Nat} (T:Fin p×Fin p×Fin p):List Value:=pjL T.1.val T.2.1.val T.2.2.val
theorem fill_pj (X Y Z:Nat):fillL [(0,9),(9,9),(18,9)] (vec .u64 9 (fun _=>0)++(vec .u64 9 (fun _=>0)++vec .u64 9 (fun _=>0))) [(0,natV X),(1,natV Y),(2,natV Z)] = some (pjL X Y Z):=by
  refine KAM (A:=[]) (B:=vec .u64 9 (fun _=>0)) (D:=vec .u64 9 (fun _=>0)++vec .u64 9 (fun _=>0)) (cs:=natL X) rfl rfl (KD _) rfl rfl (KG _ _ _) ?_
  refine KAM (A:=natL X) (B:=vec .u64 9 (fun _=>0)) (D:=vec .u64 9 (fun _=>0)) (cs:=natL Y) rfl rfl (KD _) (by simp) (KD _) (KG _ _ _) ?_
  refine (KAM (A:=natL X++natL Y) (B:=vec .u64 9 (fun _=>0)) (D:=[]) (cs:=natL Z) rfl rfl (KD _) (by simp) (by simp [KD]) (KG _ _ _) rfl).trans ?_
  simp [pjL]
theorem fill_pjN (Y:Nat):fillL [(0,9),(9,9),(18,9)] (vec .u64 9 (fun _=>0)++(vec .u64 9 (fun _=>0)++vec .u64 9 (fun _=>0))) [(1,natV Y)] = some (pjL 0 Y 0):=by
  refine (KAM (A:=vec .u64 9 (fun _=>0)) (B:=vec .u64 9 (fun _=>0)) (D:=vec .u64 9 (fun _=>0)) (cs:=natL Y) rfl rfl (KD _) rfl (KG _ _ _) (KG _ _ _) rfl).trans ?_
  simp [pjL,natL,vec_zeros 9]
theorem c_None  (w:World)  : Calls Try.prog 123 ([]:List Value).toArray w (fun e w'=>e = .returned (pjV 0 1 0)∧Below w.heap.size w w'):=by
  refine Kn (N:=3) (rs:=[.cell 0 172]) [] Try.func123 rfl Try.ntmps123 Try.results123 (Nb rfl) trivial rfl ?_
  show LCode _ _ _ ⟨_,_⟩ _
  refine KB (KA ?_)
  refine oS (mk (KW zr_172) (fun b0=>?_))
  refine KC ?_
  refine KB (KA ?_)
  refine oS (cF rfl en_116 rfl (fun w hw=>c_nat_Small 1 (by decide) w) ?_)
  refine oP (KM (KAD pl_172 zr_172 rfl (fill_pjN 1)) rfl) ?_
  refine KV rfl (sA rfl rfl KAT (by repeat (first|exact KZ _|exact Kg _ _ _|exact Ka _|exact Kc _ _ _|exact Kj _ _ _|exact KN|refine KJ rfl ?_|refine KL ?_ ?_)) (hl:=by first|exact KD _|exact KG _ _ _|exact KE _|exact KK _ _ _|exact KU _ _ _|rfl|simp [KG,KD,KE]) (h:=?_))
  refine KC (KO ?_)
  refine ⟨[_],.cons ⟨_,_,_,rfl,(by repeat (first|exact Mh _|apply Mt)),by exact KI Try.underlying172 rfl KAT⟩ .nil,fun a w' hr=>⟨?_,hr.fr.below⟩⟩
  rfl
theorem c_NoneF {V:Cv} (hok:V.Ok) (w:World):Calls Try.prog 123 ([]:List Value).toArray w (fun e w'=>e = .returned (pjF (tripF (.inf:Pt V.p)))∧Below w.heap.size w w'):=by
  have h:=c_None w
  have e:pjF (tripF (.inf:Pt V.p)) = pjV 0 1 0:=by
    unfold pjF tripF
    rw [fin_one (show 1<V.p from hok.prime.1)]
    rfl
  rwa [e]
theorem c_Triple (V:Cv) (hok:V.Ok) (P:Pt V.p) (w:World)  : Calls Try.prog 122 ([ptP P]:List Value).toArray w (fun e w'=>e = .returned (pjF (tripF P))∧Below w.heap.size w w'):=by
  refine Kn (N:=12) (rs:=[.cell 2 172]) [] Try.func122 rfl Try.ntmps122 Try.results122 (Nb rfl) trivial rfl ?_
  show LCode _ _ _ ⟨_,_⟩ _
  refine KB (KA ?_)
  refine oS (mB (fun b1=>?_))
  refine oS (mk (KW zr_172) (fun b2=>?_))
  refine KC ?_
  refine KB ?_
  refine KB ?_
  rcases P with _|⟨x,y⟩
  ·
    refine KA ?_
    refine oP (KH (o':=18) Try.underlying35 rfl rfl rfl sz_4 (by decide)) ?_
    refine oD (dL rfl (hv:=KQ Try.underlying4 rfl (by exact pt_gt _ _ _))) ?_
    refine KC ?_
    refine Ki rfl ?_
    refine KB (KA ?_)
    refine oS (cF rfl en_123 rfl (fun w hw=>c_NoneF hok w) ?_)
    refine KV rfl (sA rfl rfl KAT (by repeat (first|exact KZ _|exact Kg _ _ _|exact Ka _|exact Kc _ _ _|exact Kj _ _ _|exact KN|refine KJ rfl ?_|refine KL ?_ ?_)) (hl:=by first|exact KD _|exact KG _ _ _|exact KE _|exact KK _ _ _|exact KU _ _ _|rfl|simp [KG,KD,KE]) (h:=?_))
    refine KC (KO ?_)
    refine ⟨[_],.cons ⟨_,_,_,rfl,(by repeat (first|exact Mh _|apply Mt)),by exact KI Try.underlying172 rfl KAT⟩ .nil,fun a w' hr=>⟨?_,hr.fr.below⟩⟩
    rfl
  ·
    refine KA ?_
    refine oP (KH (o':=18) Try.underlying35 rfl rfl rfl sz_4 (by decide)) ?_
    refine oD (dL rfl (hv:=KQ Try.underlying4 rfl (by exact pt_gt _ _ _))) ?_
    refine KC ?_
    refine KY rfl ?_
    refine KS ?_
    refine KB ?_
    refine rD [6] ?_
    refine aP 0 rfl (KH (o':=0) Try.underlying35 rfl rfl rfl sz_33 (by decide)) ?_
    refine aD 1 rfl (dL rfl (hv:=by exact KAH Try.underlying33 rfl sz_33 rfl (KD _))) ?_
    refine aP 2 rfl (KH (o':=9) Try.underlying35 rfl rfl rfl sz_33 (by decide)) ?_
    refine aD 3 rfl (dL rfl (hv:=by exact pt_ld1 _ _ _ _ _ _)) ?_
    refine aO 4 rfl (cF rfl en_116 rfl (fun w hw=>c_nat_Small 1 (by decide) w) ?_)
    refine aP 5 rfl (KM (KAD pl_172 zr_172 rfl (fill_pj _ _ _)) rfl) ?_
    refine aL 6 rfl (sA rfl rfl KAT (by repeat (first|exact KZ _|exact Kg _ _ _|exact Ka _|exact Kc _ _ _|exact Kj _ _ _|exact KN|refine KJ rfl ?_|refine KL ?_ ?_)) (hl:=by first|exact KD _|exact KG _ _ _|exact KE _|exact KK _ _ _|exact KU _ _ _|rfl|simp [KG,KD,KE]) (h:=?_))
    refine aE ?_
    refine KO ?_
    refine ⟨[_],.cons ⟨_,_,_,rfl,(by repeat (first|exact Mh _|apply Mt)),by exact KI Try.underlying172 rfl KAT⟩ .nil,fun a w' hr=>⟨?_,hr.fr.below⟩⟩
    show _ = Ending.returned (pjV x.val y.val (1:Fin V.p).val)
    rw [fin_one (show 1<V.p from hok.prime.1)]
    rfl
theorem c_Plain (V:Cv) (b f bd:Nat) (hok:V.Ok) (X Y Z:Fin V.p) (w:World) (hb:(Item.blk b ⟨false,opL V f,129,(0,0)⟩).holds w) (hf:(Item.blk f ⟨false,fldL V.p bd,162,(0,0)⟩).holds w) (hbd:(Item.blk bd ⟨false,dvL V.p,212,(0,0)⟩).holds w):Calls Try.prog 124 ([.pointer (some ⟨b,0,none⟩),pjV X.val Y.val Z.val]:List Value).toArray w (fun e w'=>e = .returned (ptP (plainP X Y Z))∧Below w.heap.size w w'):=by
  have hbb:=hok.bounds
  have hpW:V.p<W9:=w9_521 hbb.2.1
  refine Kn (N:=35) (rs:=[.cell 4 35]) [.blk b ⟨false,opL V f,129,(0,0)⟩,.blk f ⟨false,fldL V.p bd,162,(0,0)⟩,.blk bd ⟨false,dvL V.p,212,(0,0)⟩] Try.func124 rfl Try.ntmps124 Try.results124 (Nb rfl) ⟨hb,hf,hbd,trivial⟩ rfl ?_
  show LCode _ _ _ ⟨_,_⟩ _
  refine KB (KA ?_)
  refine oS (mB (fun b3=>?_))
  refine oS (mk (KW zr_35) (fun b4=>?_))
  refine KC ?_
  refine KB ?_
  refine KB ?_
  by_cases hz:Z = 0
  ·
    refine KA ?_
    refine oP (KH (o':=18) Try.underlying172 rfl rfl rfl sz_33 (by decide)) ?_
    refine oD (dL rfl (hv:=by exact pj_ld2 _ _ _ _ _ _)) ?_
    refine oP (KM (KAD pl_33 zr_33 rfl rfl) (show _ = natV 0 by unfold natV natL; rw [← vec_zeros 9])) ?_
    refine oP (KM (Det.eqa (by kernel_rfl) (fun w=>eq_nat Z.val 0 (Nat.lt_trans Z.isLt hpW) zero_w9 10000 (by decide) w) rfl rfl) (show _ = Value.bool true by rw [decide_eq_true (by rw [hz]; rfl)])) ?_
    refine KC ?_
    refine Ki rfl ?_
    refine KB (KA ?_)
    refine oP (KM (KAD pl_35 zr_35 rfl fill_ptInf) rfl) ?_
    refine KV rfl (sA rfl rfl sz_35 (by repeat (first|exact KZ _|exact Kg _ _ _|exact Ka _|exact Kc _ _ _|exact Kj _ _ _|exact KN|refine KJ rfl ?_|refine KL ?_ ?_)) (hl:=by first|exact KD _|exact KG _ _ _|exact KE _|exact KK _ _ _|exact KU _ _ _|rfl|simp [KG,KD,KE]) (h:=?_))
    refine KC (KO ?_)
    refine ⟨[_],.cons ⟨_,_,_,rfl,(by repeat (first|exact Mh _|apply Mt)),by exact KI Try.underlying35 rfl sz_35⟩ .nil,fun a w' hr=>⟨?_,hr.fr.below⟩⟩
    rw [hz,plain_inf]
    rfl
  ·
    refine KA ?_
    refine oP (KH (o':=18) Try.underlying172 rfl rfl rfl sz_33 (by decide)) ?_
    refine oD (dL rfl (hv:=by exact pj_ld2 _ _ _ _ _ _)) ?_
    refine oP (KM (KAD pl_33 zr_33 rfl rfl) (show _ = natV 0 by unfold natV natL; rw [← vec_zeros 9])) ?_
    refine oP (KM (Det.eqa (by kernel_rfl) (fun w=>eq_nat Z.val 0 (Nat.lt_trans Z.isLt hpW) zero_w9 10000 (by decide) w) rfl rfl) (show _ = Value.bool false by rw [decide_eq_false (show ¬ Z.val = 0 from fun e=>hz (Fin.ext e))])) ?_
    refine KC ?_
    refine KY rfl ?_
    refine KS ?_
    refine KB ?_
    refine rD [8] ?_
    refine aM 0 ?_
    refine aP 1 rfl (KP rfl) ?_
    refine aP 2 rfl (KH (o':=59) Try.underlying129 rfl rfl rfl sz_127 (by decide)) ?_
    refine aD 3 rfl (dL rfl (hv:=KQ Try.underlying127 rfl (by exact cvC_gt_F _ _ _ _ _ _ _ _ _ _ _ _ _))) ?_
    refine aP 4 rfl (KH (o':=18) Try.underlying172 rfl rfl rfl sz_33 (by decide)) ?_
    refine aD 5 rfl (dL rfl (hv:=by exact pj_ld2 _ _ _ _ _ _)) ?_
    refine KAc ?_
    refine KAC 7 rfl (.inl zr_33) (Nb rfl) rfl rfl rfl ?_
    refine Kl 6 rfl rfl rfl (Nb rfl) (by kernel_rfl) rfl (Kq (first:=[]) rfl en_136 rfl (fun w hw=>c_F_Inv V hok f bd _ w (mC hw))) ?_
    rintro _ _ ⟨rfl,rfl⟩
    refine pE (fun b5=>?_)
    refine KAF ?_
    refine aL 8 rfl (sA rfl rfl sz_33 (by repeat (first|exact KZ _|exact Kg _ _ _|exact Ka _|exact Kc _ _ _|exact Kj _ _ _|exact KN|refine KJ rfl ?_|refine KL ?_ ?_)) (hl:=by first|exact KD _|exact KG _ _ _|exact KE _|exact KK _ _ _|exact KU _ _ _|rfl|simp [KG,KD,KE]) (h:=?_))
    refine aE ?_
    refine KB ?_
    refine rD [17] ?_
    refine aM 0 ?_
    refine aP 1 rfl (KP rfl) ?_
    refine aP 2 rfl (KH (o':=59) Try.underlying129 rfl rfl rfl sz_127 (by decide)) ?_
    refine aD 3 rfl (dL rfl (hv:=KQ Try.underlying127 rfl (by exact cvC_gt_F _ _ _ _ _ _ _ _ _ _ _ _ _))) ?_
    refine aP 4 rfl (KH (o':=0) Try.underlying172 rfl rfl rfl sz_33 (by decide)) ?_
    refine aD 5 rfl (dL rfl (hv:=by exact KAH Try.underlying33 rfl sz_33 rfl (KD _))) ?_
    refine aD 6 rfl (dL rfl (hv:=by exact KI Try.underlying33 rfl sz_33)) ?_
    refine aM 8 ?_
    refine aP 9 rfl (KP rfl) ?_
    refine aP 10 rfl (KH (o':=59) Try.underlying129 rfl rfl rfl sz_127 (by decide)) ?_
    refine aD 11 rfl (dL rfl (hv:=KQ Try.underlying127 rfl (by exact cvC_gt_F _ _ _ _ _ _ _ _ _ _ _ _ _))) ?_
    refine aP 12 rfl (KH (o':=9) Try.underlying172 rfl rfl rfl sz_33 (by decide)) ?_
    refine aD 13 rfl (dL rfl (hv:=by exact LoadV.mid Try.underlying33 rfl sz_33 rfl (KD _) (KD _))) ?_
    refine aD 14 rfl (dL rfl (hv:=by exact KI Try.underlying33 rfl sz_33)) ?_
    refine aO 7 rfl (cF rfl en_120 rfl (fun w hw=>c_F_Mul V hok f bd _ _ w (mC hw) (mC hw)) ?_)
    refine aO 15 rfl (cF rfl en_120 rfl (fun w hw=>c_F_Mul V hok f bd _ _ w (mC hw) (mC hw)) ?_)
    refine aP 16 rfl (KM (KAD pl_35 zr_35 rfl (fill_pt _ _)) rfl) ?_
    refine aL 17 rfl (sA rfl rfl sz_35 (by repeat (first|exact KZ _|exact Kg _ _ _|exact Ka _|exact Kc _ _ _|exact Kj _ _ _|exact KN|refine KJ rfl ?_|refine KL ?_ ?_)) (hl:=by first|exact KD _|exact KG _ _ _|exact KE _|exact KK _ _ _|exact KU _ _ _|rfl|simp [KG,KD,KE]) (h:=?_))
    refine aE ?_
    refine KO ?_
    refine ⟨[_],.cons ⟨_,_,_,rfl,(by repeat (first|exact Mh _|apply Mt)),by exact KI Try.underlying35 rfl sz_35⟩ .nil,fun a w' hr=>⟨?_,hr.fr.below⟩⟩
    rw [plain_aff hz]
    rfl
theorem c_Sum (V:Cv) (b f bd:Nat) (hok:V.Ok) (X1 Y1 Z1 X2 Y2 Z2:Fin V.p) (w:World) (hb:(Item.blk b ⟨false,opL V f,129,(0,0)⟩).holds w) (hf:(Item.blk f ⟨false,fldL V.p bd,162,(0,0)⟩).holds w) (hbd:(Item.blk bd ⟨false,dvL V.p,212,(0,0)⟩).holds w):Calls Try.prog 125 ([.pointer (some ⟨b,0,none⟩),pjV X1.val Y1.val Z1.val,pjV X2.val Y2.val Z2.val]:List Value).toArray w (fun e w'=>e = .returned (pjF (sum3 V.A (V.B+V.B+V.B) X1 Y1 Z1 X2 Y2 Z2))∧Below w.heap.size w w'):=by
  have hbb:=hok.bounds
  have hpW:V.p<W9:=w9_521 hbb.2.1
  refine Kn (N:=213) (rs:=[.cell 6 172]) [.blk b ⟨false,opL V f,129,(0,0)⟩,.blk f ⟨false,fldL V.p bd,162,(0,0)⟩,.blk bd ⟨false,dvL V.p,212,(0,0)⟩] Try.func125 rfl Try.ntmps125 Try.results125 (Nb rfl) ⟨hb,hf,hbd,trivial⟩ rfl ?_
  show LCode _ _ _ ⟨_,_⟩ _
  refine KB (KA ?_)
  refine oS (mB (fun b4=>?_))
  refine oS (mB (fun b5=>?_))
  refine oS (mk (KW zr_172) (fun b6=>?_))
  refine KC ?_
  refine KB ?_
  refine rD [] ?_
  refine aM 0 ?_
  refine aP 1 rfl (KP rfl) ?_
  refine aP 2 rfl (KH (o':=59) Try.underlying129 rfl rfl rfl sz_127 (by decide)) ?_
  refine aD 3 rfl (dL rfl (hv:=KQ Try.underlying127 rfl (by exact cvC_gt_F _ _ _ _ _ _ _ _ _ _ _ _ _))) ?_
  refine aP 4 rfl (Det.makeFunc1 rfl) ?_
  refine aM 5 ?_
  refine aP 6 rfl (KP rfl) ?_
  refine aP 7 rfl (KH (o':=59) Try.underlying129 rfl rfl rfl sz_127 (by decide)) ?_
  refine aD 8 rfl (dL rfl (hv:=KQ Try.underlying127 rfl (by exact cvC_gt_F _ _ _ _ _ _ _ _ _ _ _ _ _))) ?_
  refine aP 9 rfl (Det.makeFunc1 rfl) ?_
  refine aM 10 ?_
  refine aP 11 rfl (KP rfl) ?_
  refine aP 12 rfl (KH (o':=59) Try.underlying129 rfl rfl rfl sz_127 (by decide)) ?_
  refine aD 13 rfl (dL rfl (hv:=KQ Try.underlying127 rfl (by exact cvC_gt_F _ _ _ _ _ _ _ _ _ _ _ _ _))) ?_
  refine aP 14 rfl (Det.makeFunc1 rfl) ?_
  refine aA 15 ?_
  refine aA 16 ?_
  refine aA 17 ?_
  refine aE ?_
  refine KB ?_
  refine rD [21,22,23] ?_
  refine aM 0 ?_
  refine aP 1 rfl (KH (o':=0) Try.underlying172 rfl rfl rfl sz_33 (by decide)) ?_
  refine aD 2 rfl (dL rfl (hv:=by exact KAH Try.underlying33 rfl sz_33 rfl (KD _))) ?_
  refine aP 3 rfl (KH (o':=0) Try.underlying172 rfl rfl rfl sz_33 (by decide)) ?_
  refine aD 4 rfl (dL rfl (hv:=by exact KAH Try.underlying33 rfl sz_33 rfl (KD _))) ?_
  refine aM 6 ?_
  refine aP 7 rfl (KH (o':=9) Try.underlying172 rfl rfl rfl sz_33 (by decide)) ?_
  refine aP 9 rfl (KH (o':=9) Try.underlying172 rfl rfl rfl sz_33 (by decide)) ?_
  refine aM 12 ?_
  refine aP 13 rfl (KH (o':=18) Try.underlying172 rfl rfl rfl sz_33 (by decide)) ?_
  refine aP 15 rfl (KH (o':=18) Try.underlying172 rfl rfl rfl sz_33 (by decide)) ?_
  refine LAny.takeW [11,17,21,22,23] 8 rfl (by kernel_rfl) (Nb rfl) (dL rfl (hv:=by exact LoadV.mid Try.underlying33 rfl sz_33 rfl (KD _) (KD _))) ?_
  refine LAny.takeW [11,17,21,22,23] 10 rfl (by kernel_rfl) (Nb rfl) (dL rfl (hv:=by exact LoadV.mid Try.underlying33 rfl sz_33 rfl (KD _) (KD _))) ?_
  refine LAny.takeW [17,21,22,23] 14 rfl (by kernel_rfl) (Nb rfl) (dL rfl (hv:=by exact pj_ld2 _ _ _ _ _ _)) ?_
  refine LAny.takeW [17,21,22,23] 16 rfl (by kernel_rfl) (Nb rfl) (dL rfl (hv:=by exact pj_ld2 _ _ _ _ _ _)) ?_
  refine KAc ?_
  refine KAC 18 rfl (.inl zr_33) (Nb rfl) rfl rfl rfl ?_
  refine KAC 19 rfl (.inl zr_33) (Nb rfl) rfl rfl rfl ?_
  refine KAC 20 rfl (.inl zr_33) (Nb rfl) rfl rfl rfl ?_
  refine Kl 5 rfl rfl rfl (Nb rfl) (by kernel_rfl) rfl (Kq (first:=[_]) rfl en_120 rfl (fun w hw=>c_F_Mul V hok f bd _ _ w (mC hw) (mC hw))) ?_
  rintro _ _ ⟨rfl,rfl⟩
  refine Kl 11 rfl rfl rfl (Nb rfl) (by kernel_rfl) rfl (Kq (first:=[_]) rfl en_120 rfl (fun w hw=>c_F_Mul V hok f bd _ _ w (mC hw) (mC hw))) ?_
  rintro _ _ ⟨rfl,rfl⟩
  refine Kl 17 rfl rfl rfl (Nb rfl) (by kernel_rfl) rfl (Kq (first:=[_]) rfl en_120 rfl (fun w hw=>c_F_Mul V hok f bd _ _ w (mC hw) (mC hw))) ?_
  rintro _ _ ⟨rfl,rfl⟩
  refine pE (fun b12=>?_)
  refine pE (fun b11=>?_)
  refine pE (fun b10=>?_)
  refine KAF ?_
  refine aL 21 rfl (sA rfl rfl sz_33 (by repeat (first|exact KZ _|exact Kg _ _ _|exact Ka _|exact Kc _ _ _|exact Kj _ _ _|exact KN|refine KJ rfl ?_|refine KL ?_ ?_)) (hl:=by first|exact KD _|exact KG _ _ _|exact KE _|exact KK _ _ _|exact KU _ _ _|rfl|simp [KG,KD,KE]) (h:=?_))
  refine aL 22 rfl (sA rfl rfl sz_33 (by repeat (first|exact KZ _|exact Kg _ _ _|exact Ka _|exact Kc _ _ _|exact Kj _ _ _|exact KN|refine KJ rfl ?_|refine KL ?_ ?_)) (hl:=by first|exact KD _|exact KG _ _ _|exact KE _|exact KK _ _ _|exact KU _ _ _|rfl|simp [KG,KD,KE]) (h:=?_))
  refine aL 23 rfl (sA rfl rfl sz_33 (by repeat (first|exact KZ _|exact Kg _ _ _|exact Ka _|exact Kc _ _ _|exact Kj _ _ _|exact KN|refine KJ rfl ?_|refine KL ?_ ?_)) (hl:=by first|exact KD _|exact KG _ _ _|exact KE _|exact KK _ _ _|exact KU _ _ _|rfl|simp [KG,KD,KE]) (h:=?_))
  refine aE ?_
  refine KB ?_
  refine rD [21] ?_
  refine aM 0 ?_
  refine aM 1 ?_
  refine aM 2 ?_
  refine aP 3 rfl (KH (o':=0) Try.underlying172 rfl rfl rfl sz_33 (by decide)) ?_
  refine aD 4 rfl (dL rfl (hv:=by exact KAH Try.underlying33 rfl sz_33 rfl (KD _))) ?_
  refine aP 5 rfl (KH (o':=9) Try.underlying172 rfl rfl rfl sz_33 (by decide)) ?_
  refine aD 6 rfl (dL rfl (hv:=by exact LoadV.mid Try.underlying33 rfl sz_33 rfl (KD _) (KD _))) ?_
  refine aM 8 ?_
  refine aP 9 rfl (KH (o':=0) Try.underlying172 rfl rfl rfl sz_33 (by decide)) ?_
  refine aD 10 rfl (dL rfl (hv:=by exact KAH Try.underlying33 rfl sz_33 rfl (KD _))) ?_
  refine aP 11 rfl (KH (o':=9) Try.underlying172 rfl rfl rfl sz_33 (by decide)) ?_
  refine aD 12 rfl (dL rfl (hv:=by exact LoadV.mid Try.underlying33 rfl sz_33 rfl (KD _) (KD _))) ?_
  refine aM 15 ?_
  refine aD 16 rfl (dL rfl (hv:=by exact KI Try.underlying33 rfl sz_33)) ?_
  refine aD 17 rfl (dL rfl (hv:=by exact KI Try.underlying33 rfl sz_33)) ?_
  refine KAc ?_
  refine KAC 20 rfl (.inl zr_33) (Nb rfl) rfl rfl rfl ?_
  refine Kl 7 rfl rfl rfl (Nb rfl) (by kernel_rfl) rfl (Kq (first:=[_]) rfl en_118 rfl (fun w hw=>c_F_Add V hok f bd _ _ w (mC hw))) ?_
  rintro _ _ ⟨rfl,rfl⟩
  refine Kl 13 rfl rfl rfl (Nb rfl) (by kernel_rfl) rfl (Kq (first:=[_]) rfl en_118 rfl (fun w hw=>c_F_Add V hok f bd _ _ w (mC hw))) ?_
  rintro _ _ ⟨rfl,rfl⟩
  refine Kl 14 rfl rfl rfl (Nb rfl) (by kernel_rfl) rfl (Kq (first:=[_]) rfl en_120 rfl (fun w hw=>c_F_Mul V hok f bd _ _ w (mC hw) (mC hw))) ?_
  rintro _ _ ⟨rfl,rfl⟩
  refine Kl 18 rfl rfl rfl (Nb rfl) (by kernel_rfl) rfl (Kq (first:=[_]) rfl en_118 rfl (fun w hw=>c_F_Add V hok f bd _ _ w (mC hw))) ?_
  rintro _ _ ⟨rfl,rfl⟩
  refine Kl 19 rfl rfl rfl (Nb rfl) (by kernel_rfl) rfl (Kq (first:=[_]) rfl en_130 rfl (fun w hw=>c_F_Sub V hok f bd _ _ w (mC hw))) ?_
  rintro _ _ ⟨rfl,rfl⟩
  refine pE (fun b13=>?_)
  refine KAF ?_
  refine aL 21 rfl (sA rfl rfl sz_33 (by repeat (first|exact KZ _|exact Kg _ _ _|exact Ka _|exact Kc _ _ _|exact Kj _ _ _|exact KN|refine KJ rfl ?_|refine KL ?_ ?_)) (hl:=by first|exact KD _|exact KG _ _ _|exact KE _|exact KK _ _ _|exact KU _ _ _|rfl|simp [KG,KD,KE]) (h:=?_))
  refine aE ?_
  refine KB ?_
  refine rD [21] ?_
  refine aM 0 ?_
  refine aM 1 ?_
  refine aM 2 ?_
  refine aP 3 rfl (KH (o':=0) Try.underlying172 rfl rfl rfl sz_33 (by decide)) ?_
  refine aD 4 rfl (dL rfl (hv:=by exact KAH Try.underlying33 rfl sz_33 rfl (KD _))) ?_
  refine aP 5 rfl (KH (o':=18) Try.underlying172 rfl rfl rfl sz_33 (by decide)) ?_
  refine aD 6 rfl (dL rfl (hv:=by exact pj_ld2 _ _ _ _ _ _)) ?_
  refine aM 8 ?_
  refine aP 9 rfl (KH (o':=0) Try.underlying172 rfl rfl rfl sz_33 (by decide)) ?_
  refine aD 10 rfl (dL rfl (hv:=by exact KAH Try.underlying33 rfl sz_33 rfl (KD _))) ?_
  refine aP 11 rfl (KH (o':=18) Try.underlying172 rfl rfl rfl sz_33 (by decide)) ?_
  refine aD 12 rfl (dL rfl (hv:=by exact pj_ld2 _ _ _ _ _ _)) ?_
  refine aM 15 ?_
  refine aD 16 rfl (dL rfl (hv:=by exact KI Try.underlying33 rfl sz_33)) ?_
  refine aD 17 rfl (dL rfl (hv:=by exact KI Try.underlying33 rfl sz_33)) ?_
  refine KAc ?_
  refine KAC 20 rfl (.inl zr_33) (Nb rfl) rfl rfl rfl ?_
  refine Kl 7 rfl rfl rfl (Nb rfl) (by kernel_rfl) rfl (Kq (first:=[_]) rfl en_118 rfl (fun w hw=>c_F_Add V hok f bd _ _ w (mC hw))) ?_
  rintro _ _ ⟨rfl,rfl⟩
  refine Kl 13 rfl rfl rfl (Nb rfl) (by kernel_rfl) rfl (Kq (first:=[_]) rfl en_118 rfl (fun w hw=>c_F_Add V hok f bd _ _ w (mC hw))) ?_
  rintro _ _ ⟨rfl,rfl⟩
  refine Kl 14 rfl rfl rfl (Nb rfl) (by kernel_rfl) rfl (Kq (first:=[_]) rfl en_120 rfl (fun w hw=>c_F_Mul V hok f bd _ _ w (mC hw) (mC hw))) ?_
  rintro _ _ ⟨rfl,rfl⟩
  refine Kl 18 rfl rfl rfl (Nb rfl) (by kernel_rfl) rfl (Kq (first:=[_]) rfl en_118 rfl (fun w hw=>c_F_Add V hok f bd _ _ w (mC hw))) ?_
  rintro _ _ ⟨rfl,rfl⟩
  refine Kl 19 rfl rfl rfl (Nb rfl) (by kernel_rfl) rfl (Kq (first:=[_]) rfl en_130 rfl (fun w hw=>c_F_Sub V hok f bd _ _ w (mC hw))) ?_
  rintro _ _ ⟨rfl,rfl⟩
  refine pE (fun b14=>?_)
  refine KAF ?_
  refine aL 21 rfl (sA rfl rfl sz_33 (by repeat (first|exact KZ _|exact Kg _ _ _|exact Ka _|exact Kc _ _ _|exact Kj _ _ _|exact KN|refine KJ rfl ?_|refine KL ?_ ?_)) (hl:=by first|exact KD _|exact KG _ _ _|exact KE _|exact KK _ _ _|exact KU _ _ _|rfl|simp [KG,KD,KE]) (h:=?_))
  refine aE ?_
  refine KB ?_
  refine rD [21] ?_
  refine aM 0 ?_
  refine aM 1 ?_
  refine aM 2 ?_
  refine aP 3 rfl (KH (o':=9) Try.underlying172 rfl rfl rfl sz_33 (by decide)) ?_
  refine aD 4 rfl (dL rfl (hv:=by exact LoadV.mid Try.underlying33 rfl sz_33 rfl (KD _) (KD _))) ?_
  refine aP 5 rfl (KH (o':=18) Try.underlying172 rfl rfl rfl sz_33 (by decide)) ?_
  refine aD 6 rfl (dL rfl (hv:=by exact pj_ld2 _ _ _ _ _ _)) ?_
  refine aM 8 ?_
  refine aP 9 rfl (KH (o':=9) Try.underlying172 rfl rfl rfl sz_33 (by decide)) ?_
  refine aD 10 rfl (dL rfl (hv:=by exact LoadV.mid Try.underlying33 rfl sz_33 rfl (KD _) (KD _))) ?_
  refine aP 11 rfl (KH (o':=18) Try.underlying172 rfl rfl rfl sz_33 (by decide)) ?_
  refine aD 12 rfl (dL rfl (hv:=by exact pj_ld2 _ _ _ _ _ _)) ?_
  refine aM 15 ?_
  refine aD 16 rfl (dL rfl (hv:=by exact KI Try.underlying33 rfl sz_33)) ?_
  refine aD 17 rfl (dL rfl (hv:=by exact KI Try.underlying33 rfl sz_33)) ?_
  refine KAc ?_
  refine KAC 20 rfl (.inl zr_33) (Nb rfl) rfl rfl rfl ?_
  refine Kl 7 rfl rfl rfl (Nb rfl) (by kernel_rfl) rfl (Kq (first:=[_]) rfl en_118 rfl (fun w hw=>c_F_Add V hok f bd _ _ w (mC hw))) ?_
  rintro _ _ ⟨rfl,rfl⟩
  refine Kl 13 rfl rfl rfl (Nb rfl) (by kernel_rfl) rfl (Kq (first:=[_]) rfl en_118 rfl (fun w hw=>c_F_Add V hok f bd _ _ w (mC hw))) ?_
  rintro _ _ ⟨rfl,rfl⟩
  refine Kl 14 rfl rfl rfl (Nb rfl) (by kernel_rfl) rfl (Kq (first:=[_]) rfl en_120 rfl (fun w hw=>c_F_Mul V hok f bd _ _ w (mC hw) (mC hw))) ?_
  rintro _ _ ⟨rfl,rfl⟩
  refine Kl 18 rfl rfl rfl (Nb rfl) (by kernel_rfl) rfl (Kq (first:=[_]) rfl en_118 rfl (fun w hw=>c_F_Add V hok f bd _ _ w (mC hw))) ?_
  rintro _ _ ⟨rfl,rfl⟩
  refine Kl 19 rfl rfl rfl (Nb rfl) (by kernel_rfl) rfl (Kq (first:=[_]) rfl en_130 rfl (fun w hw=>c_F_Sub V hok f bd _ _ w (mC hw))) ?_
  rintro _ _ ⟨rfl,rfl⟩
  refine pE (fun b15=>?_)
  refine KAF ?_
  refine aL 21 rfl (sA rfl rfl sz_33 (by repeat (first|exact KZ _|exact Kg _ _ _|exact Ka _|exact Kc _ _ _|exact Kj _ _ _|exact KN|refine KJ rfl ?_|refine KL ?_ ?_)) (hl:=by first|exact KD _|exact KG _ _ _|exact KE _|exact KK _ _ _|exact KU _ _ _|rfl|simp [KG,KD,KE]) (h:=?_))
  refine aE ?_
  refine KB ?_
  refine rD [18] ?_
  refine aM 0 ?_
  refine aM 1 ?_
  refine aM 2 ?_
  refine aP 3 rfl (KP rfl) ?_
  refine aP 4 rfl (KH (o':=60) Try.underlying129 rfl rfl rfl sz_33 (by decide)) ?_
  refine aD 5 rfl (Det.cast (dL rfl (hv:=by exact cvC_ld_t3 _ _ _ _ _ _ _ _ _ _ _ _ _ _ _ _)) (t_val hok)) ?_
  refine aD 6 rfl (dL rfl (hv:=by exact KI Try.underlying33 rfl sz_33)) ?_
  refine aM 8 ?_
  refine aM 9 ?_
  refine aP 10 rfl (KP rfl) ?_
  refine aP 11 rfl (KH (o':=0) Try.underlying129 rfl rfl rfl KAV (by decide)) ?_
  refine aP 12 rfl (KH (o':=10) Try.underlying126 rfl rfl rfl sz_33 (by decide)) ?_
  refine aD 13 rfl (Det.cast (dL rfl (hv:=by exact cvC_ld_a _ _ _ _ _ _ _ _ _ _ _ _ _ _ _ _)) (a_val hok)) ?_
  refine aD 14 rfl (dL rfl (hv:=by exact KI Try.underlying33 rfl sz_33)) ?_
  refine KAc ?_
  refine KAC 17 rfl (.inl zr_33) (Nb rfl) rfl rfl rfl ?_
  refine Kl 7 rfl rfl rfl (Nb rfl) (by kernel_rfl) rfl (Kq (first:=[_]) rfl en_120 rfl (fun w hw=>c_F_Mul V hok f bd _ _ w (mC hw) (mC hw))) ?_
  rintro _ _ ⟨rfl,rfl⟩
  refine Kl 15 rfl rfl rfl (Nb rfl) (by kernel_rfl) rfl (Kq (first:=[_]) rfl en_120 rfl (fun w hw=>c_F_Mul V hok f bd _ _ w (mC hw) (mC hw))) ?_
  rintro _ _ ⟨rfl,rfl⟩
  refine Kl 16 rfl rfl rfl (Nb rfl) (by kernel_rfl) rfl (Kq (first:=[_]) rfl en_118 rfl (fun w hw=>c_F_Add V hok f bd _ _ w (mC hw))) ?_
  rintro _ _ ⟨rfl,rfl⟩
  refine pE (fun b16=>?_)
  refine KAF ?_
  refine aL 18 rfl (sA rfl rfl sz_33 (by repeat (first|exact KZ _|exact Kg _ _ _|exact Ka _|exact Kc _ _ _|exact Kj _ _ _|exact KN|refine KJ rfl ?_|refine KL ?_ ?_)) (hl:=by first|exact KD _|exact KG _ _ _|exact KE _|exact KK _ _ _|exact KU _ _ _|rfl|simp [KG,KD,KE]) (h:=?_))
  refine aE ?_
  refine KB (KA ?_)
  refine oM ?_
  refine oD (dL rfl (hv:=by exact KI Try.underlying33 rfl sz_33)) ?_
  refine oD (dL rfl (hv:=by exact KI Try.underlying33 rfl sz_33)) ?_
  refine oS (KAL (first:=[_]) rfl en_130 rfl (Nb rfl) (fun w hw=>c_F_Sub V hok f bd _ _ w (mC hw)) ?_)
  refine oS (mk (KW zr_33) (fun b17=>?_))
  refine KV rfl (sA rfl rfl sz_33 (by repeat (first|exact KZ _|exact Kg _ _ _|exact Ka _|exact Kc _ _ _|exact Kj _ _ _|exact KN|refine KJ rfl ?_|refine KL ?_ ?_)) (hl:=by first|exact KD _|exact KG _ _ _|exact KE _|exact KK _ _ _|exact KU _ _ _|rfl|simp [KG,KD,KE]) (h:=?_))
  refine KC ?_
  refine KB (KA ?_)
  refine oM ?_
  refine oD (dL rfl (hv:=by exact KI Try.underlying33 rfl sz_33)) ?_
  refine oD (dL rfl (hv:=by exact KI Try.underlying33 rfl sz_33)) ?_
  refine oS (KAL (first:=[_]) rfl en_118 rfl (Nb rfl) (fun w hw=>c_F_Add V hok f bd _ _ w (mC hw)) ?_)
  refine KV rfl (sA rfl rfl sz_33 (by repeat (first|exact KZ _|exact Kg _ _ _|exact Ka _|exact Kc _ _ _|exact Kj _ _ _|exact KN|refine KJ rfl ?_|refine KL ?_ ?_)) (hl:=by first|exact KD _|exact KG _ _ _|exact KE _|exact KK _ _ _|exact KU _ _ _|rfl|simp [KG,KD,KE]) (h:=?_))
  refine KC ?_
  refine KB (KA ?_)
  refine oM ?_
  refine oD (dL rfl (hv:=by exact KI Try.underlying33 rfl sz_33)) ?_
  refine oD (dL rfl (hv:=by exact KI Try.underlying33 rfl sz_33)) ?_
  refine oS (KAL (first:=[_]) rfl en_120 rfl (Nb rfl) (fun w hw=>c_F_Mul V hok f bd _ _ w (mC hw) (mC hw)) ?_)
  refine oS (mk (KW zr_33) (fun b18=>?_))
  refine KV rfl (sA rfl rfl sz_33 (by repeat (first|exact KZ _|exact Kg _ _ _|exact Ka _|exact Kc _ _ _|exact Kj _ _ _|exact KN|refine KJ rfl ?_|refine KL ?_ ?_)) (hl:=by first|exact KD _|exact KG _ _ _|exact KE _|exact KK _ _ _|exact KU _ _ _|rfl|simp [KG,KD,KE]) (h:=?_))
  refine KC ?_
  refine KB ?_
  refine rD [7] ?_
  refine aM 0 ?_
  refine aM 1 ?_
  refine aD 2 rfl (dL rfl (hv:=by exact KI Try.underlying33 rfl sz_33)) ?_
  refine aD 3 rfl (dL rfl (hv:=by exact KI Try.underlying33 rfl sz_33)) ?_
  refine aD 5 rfl (dL rfl (hv:=by exact KI Try.underlying33 rfl sz_33)) ?_
  refine aO 4 rfl (KAL (first:=[_]) rfl en_118 rfl (Nb rfl) (fun w hw=>c_F_Add V hok f bd _ _ w (mC hw)) ?_)
  refine aO 6 rfl (KAL (first:=[_]) rfl en_118 rfl (Nb rfl) (fun w hw=>c_F_Add V hok f bd _ _ w (mC hw)) ?_)
  refine aL 7 rfl (sA rfl rfl sz_33 (by repeat (first|exact KZ _|exact Kg _ _ _|exact Ka _|exact Kc _ _ _|exact Kj _ _ _|exact KN|refine KJ rfl ?_|refine KL ?_ ?_)) (hl:=by first|exact KD _|exact KG _ _ _|exact KE _|exact KK _ _ _|exact KU _ _ _|rfl|simp [KG,KD,KE]) (h:=?_))
  refine aE ?_
  refine KB ?_
  refine rD [8] ?_
  refine aM 0 ?_
  refine aM 1 ?_
  refine aP 2 rfl (KP rfl) ?_
  refine aP 3 rfl (KH (o':=0) Try.underlying129 rfl rfl rfl KAV (by decide)) ?_
  refine aP 4 rfl (KH (o':=10) Try.underlying126 rfl rfl rfl sz_33 (by decide)) ?_
  refine aD 5 rfl (Det.cast (dL rfl (hv:=by exact cvC_ld_a _ _ _ _ _ _ _ _ _ _ _ _ _ _ _ _)) (a_val hok)) ?_
  refine aD 6 rfl (dL rfl (hv:=by exact KI Try.underlying33 rfl sz_33)) ?_
  refine aO 7 rfl (KAL (first:=[_]) rfl en_120 rfl (Nb rfl) (fun w hw=>c_F_Mul V hok f bd _ _ w (mC hw) (mC hw)) ?_)
  refine aL 8 rfl (sA rfl rfl sz_33 (by repeat (first|exact KZ _|exact Kg _ _ _|exact Ka _|exact Kc _ _ _|exact Kj _ _ _|exact KN|refine KJ rfl ?_|refine KL ?_ ?_)) (hl:=by first|exact KD _|exact KG _ _ _|exact KE _|exact KK _ _ _|exact KU _ _ _|rfl|simp [KG,KD,KE]) (h:=?_))
  refine aE ?_
  refine KB ?_
  refine rD [7] ?_
  refine aM 0 ?_
  refine aM 1 ?_
  refine aP 2 rfl (KP rfl) ?_
  refine aP 3 rfl (KH (o':=60) Try.underlying129 rfl rfl rfl sz_33 (by decide)) ?_
  refine aD 4 rfl (Det.cast (dL rfl (hv:=by exact cvC_ld_t3 _ _ _ _ _ _ _ _ _ _ _ _ _ _ _ _)) (t_val hok)) ?_
  refine aD 5 rfl (dL rfl (hv:=by exact KI Try.underlying33 rfl sz_33)) ?_
  refine aO 6 rfl (KAL (first:=[_]) rfl en_120 rfl (Nb rfl) (fun w hw=>c_F_Mul V hok f bd _ _ w (mC hw) (mC hw)) ?_)
  refine aL 7 rfl (sA rfl rfl sz_33 (by repeat (first|exact KZ _|exact Kg _ _ _|exact Ka _|exact Kc _ _ _|exact Kj _ _ _|exact KN|refine KJ rfl ?_|refine KL ?_ ?_)) (hl:=by first|exact KD _|exact KG _ _ _|exact KE _|exact KK _ _ _|exact KU _ _ _|rfl|simp [KG,KD,KE]) (h:=?_))
  refine aE ?_
  refine KB (KA ?_)
  refine oM ?_
  refine oD (dL rfl (hv:=by exact KI Try.underlying33 rfl sz_33)) ?_
  refine oD (dL rfl (hv:=by exact KI Try.underlying33 rfl sz_33)) ?_
  refine oS (KAL (first:=[_]) rfl en_118 rfl (Nb rfl) (fun w hw=>c_F_Add V hok f bd _ _ w (mC hw)) ?_)
  refine KV rfl (sA rfl rfl sz_33 (by repeat (first|exact KZ _|exact Kg _ _ _|exact Ka _|exact Kc _ _ _|exact Kj _ _ _|exact KN|refine KJ rfl ?_|refine KL ?_ ?_)) (hl:=by first|exact KD _|exact KG _ _ _|exact KE _|exact KK _ _ _|exact KU _ _ _|rfl|simp [KG,KD,KE]) (h:=?_))
  refine KC ?_
  refine KB ?_
  refine rD [11] ?_
  refine aM 0 ?_
  refine aM 1 ?_
  refine aP 2 rfl (KP rfl) ?_
  refine aP 3 rfl (KH (o':=0) Try.underlying129 rfl rfl rfl KAV (by decide)) ?_
  refine aP 4 rfl (KH (o':=10) Try.underlying126 rfl rfl rfl sz_33 (by decide)) ?_
  refine aD 5 rfl (Det.cast (dL rfl (hv:=by exact cvC_ld_a _ _ _ _ _ _ _ _ _ _ _ _ _ _ _ _)) (a_val hok)) ?_
  refine aM 6 ?_
  refine aD 7 rfl (dL rfl (hv:=by exact KI Try.underlying33 rfl sz_33)) ?_
  refine aD 8 rfl (dL rfl (hv:=by exact KI Try.underlying33 rfl sz_33)) ?_
  refine aO 9 rfl (KAL (first:=[_]) rfl en_130 rfl (Nb rfl) (fun w hw=>c_F_Sub V hok f bd _ _ w (mC hw)) ?_)
  refine aO 10 rfl (KAL (first:=[_]) rfl en_120 rfl (Nb rfl) (fun w hw=>c_F_Mul V hok f bd _ _ w (mC hw) (mC hw)) ?_)
  refine aL 11 rfl (sA rfl rfl sz_33 (by repeat (first|exact KZ _|exact Kg _ _ _|exact Ka _|exact Kc _ _ _|exact Kj _ _ _|exact KN|refine KJ rfl ?_|refine KL ?_ ?_)) (hl:=by first|exact KD _|exact KG _ _ _|exact KE _|exact KK _ _ _|exact KU _ _ _|rfl|simp [KG,KD,KE]) (h:=?_))
  refine aE ?_
  refine KB (KA ?_)
  refine oM ?_
  refine oD (dL rfl (hv:=by exact KI Try.underlying33 rfl sz_33)) ?_
  refine oD (dL rfl (hv:=by exact KI Try.underlying33 rfl sz_33)) ?_
  refine oS (KAL (first:=[_]) rfl en_118 rfl (Nb rfl) (fun w hw=>c_F_Add V hok f bd _ _ w (mC hw)) ?_)
  refine KV rfl (sA rfl rfl sz_33 (by repeat (first|exact KZ _|exact Kg _ _ _|exact Ka _|exact Kc _ _ _|exact Kj _ _ _|exact KN|refine KJ rfl ?_|refine KL ?_ ?_)) (hl:=by first|exact KD _|exact KG _ _ _|exact KE _|exact KK _ _ _|exact KU _ _ _|rfl|simp [KG,KD,KE]) (h:=?_))
  refine KC ?_
  refine KB ?_
  refine rD [7] ?_
  refine aM 0 ?_
  refine aD 1 rfl (dL rfl (hv:=by exact KI Try.underlying33 rfl sz_33)) ?_
  refine aM 2 ?_
  refine aD 3 rfl (dL rfl (hv:=by exact KI Try.underlying33 rfl sz_33)) ?_
  refine aD 4 rfl (dL rfl (hv:=by exact KI Try.underlying33 rfl sz_33)) ?_
  refine aO 5 rfl (KAL (first:=[_]) rfl en_120 rfl (Nb rfl) (fun w hw=>c_F_Mul V hok f bd _ _ w (mC hw) (mC hw)) ?_)
  refine aO 6 rfl (KAL (first:=[_]) rfl en_118 rfl (Nb rfl) (fun w hw=>c_F_Add V hok f bd _ _ w (mC hw)) ?_)
  refine aL 7 rfl (sA rfl rfl sz_33 (by repeat (first|exact KZ _|exact Kg _ _ _|exact Ka _|exact Kc _ _ _|exact Kj _ _ _|exact KN|refine KJ rfl ?_|refine KL ?_ ?_)) (hl:=by first|exact KD _|exact KG _ _ _|exact KE _|exact KK _ _ _|exact KU _ _ _|rfl|simp [KG,KD,KE]) (h:=?_))
  refine aE ?_
  refine KB ?_
  refine rD [10] ?_
  refine aM 0 ?_
  refine aM 1 ?_
  refine aD 2 rfl (dL rfl (hv:=by exact KI Try.underlying33 rfl sz_33)) ?_
  refine aD 3 rfl (dL rfl (hv:=by exact KI Try.underlying33 rfl sz_33)) ?_
  refine aM 5 ?_
  refine aD 6 rfl (dL rfl (hv:=by exact KI Try.underlying33 rfl sz_33)) ?_
  refine aD 7 rfl (dL rfl (hv:=by exact KI Try.underlying33 rfl sz_33)) ?_
  refine aO 4 rfl (KAL (first:=[_]) rfl en_120 rfl (Nb rfl) (fun w hw=>c_F_Mul V hok f bd _ _ w (mC hw) (mC hw)) ?_)
  refine aO 8 rfl (KAL (first:=[_]) rfl en_120 rfl (Nb rfl) (fun w hw=>c_F_Mul V hok f bd _ _ w (mC hw) (mC hw)) ?_)
  refine aO 9 rfl (KAL (first:=[_]) rfl en_130 rfl (Nb rfl) (fun w hw=>c_F_Sub V hok f bd _ _ w (mC hw)) ?_)
  refine aL 10 rfl (sA rfl rfl sz_33 (by repeat (first|exact KZ _|exact Kg _ _ _|exact Ka _|exact Kc _ _ _|exact Kj _ _ _|exact KN|refine KJ rfl ?_|refine KL ?_ ?_)) (hl:=by first|exact KD _|exact KG _ _ _|exact KE _|exact KK _ _ _|exact KU _ _ _|rfl|simp [KG,KD,KE]) (h:=?_))
  refine aE ?_
  refine KB ?_
  refine rD [10] ?_
  refine aM 0 ?_
  refine aM 1 ?_
  refine aD 2 rfl (dL rfl (hv:=by exact KI Try.underlying33 rfl sz_33)) ?_
  refine aD 3 rfl (dL rfl (hv:=by exact KI Try.underlying33 rfl sz_33)) ?_
  refine aM 5 ?_
  refine aD 6 rfl (dL rfl (hv:=by exact KI Try.underlying33 rfl sz_33)) ?_
  refine aD 7 rfl (dL rfl (hv:=by exact KI Try.underlying33 rfl sz_33)) ?_
  refine aO 4 rfl (KAL (first:=[_]) rfl en_120 rfl (Nb rfl) (fun w hw=>c_F_Mul V hok f bd _ _ w (mC hw) (mC hw)) ?_)
  refine aO 8 rfl (KAL (first:=[_]) rfl en_120 rfl (Nb rfl) (fun w hw=>c_F_Mul V hok f bd _ _ w (mC hw) (mC hw)) ?_)
  refine aO 9 rfl (KAL (first:=[_]) rfl en_118 rfl (Nb rfl) (fun w hw=>c_F_Add V hok f bd _ _ w (mC hw)) ?_)
  refine aL 10 rfl (sA rfl rfl sz_33 (by repeat (first|exact KZ _|exact Kg _ _ _|exact Ka _|exact Kc _ _ _|exact Kj _ _ _|exact KN|refine KJ rfl ?_|refine KL ?_ ?_)) (hl:=by first|exact KD _|exact KG _ _ _|exact KE _|exact KK _ _ _|exact KU _ _ _|rfl|simp [KG,KD,KE]) (h:=?_))
  refine aE ?_
  refine KB (KA ?_)
  refine oD (dL rfl (hv:=by exact KI Try.underlying33 rfl sz_33)) ?_
  refine oD (dL rfl (hv:=by exact KI Try.underlying33 rfl sz_33)) ?_
  refine oD (dL rfl (hv:=by exact KI Try.underlying33 rfl sz_33)) ?_
  refine oP (KM (KAD pl_172 zr_172 rfl (fill_pj _ _ _)) rfl) ?_
  refine KV rfl (sA rfl rfl KAT (by repeat (first|exact KZ _|exact Kg _ _ _|exact Ka _|exact Kc _ _ _|exact Kj _ _ _|exact KN|refine KJ rfl ?_|refine KL ?_ ?_)) (hl:=by first|exact KD _|exact KG _ _ _|exact KE _|exact KK _ _ _|exact KU _ _ _|rfl|simp [KG,KD,KE]) (h:=?_))
  refine KC (KO ?_)
  refine ⟨[_],.cons ⟨_,_,_,rfl,(by repeat (first|exact Mh _|apply Mt)),by exact KI Try.underlying172 rfl KAT⟩ .nil,fun a w' hr=>⟨?_,hr.fr.below⟩⟩
  rfl
end Go.Proofs.Ytlmiolnccgjjjaa
set_option linter.unusedVariables false
set_option linter.unusedSimpArgs false
set_option maxRecDepth 20000
namespace Go.Proofs.Ytlmiolnccgjjjaa
open Go Go.RowKit
open Grp
theorem pm_top (V:Cv) (P:Pt V.p) (K:Nat):pmul V.A P (K/2^blen K) = .inf:=by rw [Nat.div_eq_of_lt (lt_blen K)]; rfl
theorem pm_T {V:Cv} (hok:V.Ok) {P:Pt V.p} (hP:On V.A V.B P) {K y:Nat} (h:K/2^y%2 = 1):padd V.A (padd V.A (pmul V.A P (K/2^(y+1))) (pmul V.A P (K/2^(y+1)))) P = pmul V.A P (K/2^y):=by
  have:=pmul_bit hok.crv hP K y
  rwa [if_pos h] at this
theorem pm_F {V:Cv} (hok:V.Ok) {P:Pt V.p} (hP:On V.A V.B P) {K y:Nat} (h:¬ K/2^y%2 = 1):padd V.A (pmul V.A P (K/2^(y+1))) (pmul V.A P (K/2^(y+1))) = pmul V.A P (K/2^y):=by
  have:=pmul_bit hok.crv hP K y
  rwa [if_neg h] at this
theorem c_r_Times (Q:CQ) (V:Cv) (qk:NV) (K:Nat) (q r:NV) (P R:Pt V.p) (w:World) (hc:(crvI Q V).holds w) (hok:V.Ok) (hk:(numT qk K).holds w) (hK:D.nw K≤1000) (hq:(numT q (xv P)).holds w) (hr:(numT r (yv P)).holds w) (hP:On V.A V.B P) (hR:pmul V.A P K = R):Calls Try.prog 38 ([.agg (crvL Q V).toArray,numV qk K,rpV (numV q (xv P)) (numV r (yv P)) (iv P)]:List Value).toArray w (fun e w'=>Num2R w (fp2 q r P []) (xv R) (yv R) (fun u v=>rpV u v (iv R)) e w'):=by
  obtain ⟨hb5,hb521,hba,hbb,hbx,hby,hbn,hbo,hbo2,hbb1,hbn1⟩:=hok.bounds
  have hsz:=hok.sz
  have hsp:=hsz.p
  have hsa:=hsz.a
  have hsb:=hsz.b
  have hp0:V.p≠0:=by omega
  have hpp:0<V.p:=by omega
  have hm17:∀ k,D.nw (k%V.p)≤17:=fun k=>Nat.le_trans (D.nw_mono (Nat.le_of_lt (Nat.mod_lt k hpp))) hsp
  refine Kn (N:=30) (rs:=[.cell 6 38]) [crvI Q V,numT qk K,numT q (xv P),numT r (yv P)] Try.func38 rfl Try.ntmps38 Try.results38 (Nb rfl) ⟨hc,hk,hq,hr,trivial⟩ rfl ?_
  show LCode _ _ _ ⟨_,_⟩ _
  refine KB (KA ?_)
  refine oS (mB (fun b3=>?_))
  refine oS (mB (fun b5=>?_))
  refine oS (mk (KW zr_38) (fun b6=>?_))
  refine KC ?_
  refine KB (KA ?_)
  refine oP (KM (KAD pl_38 zr_38 rfl rfl) (show _ = rpV (.slice none 0 0) (.slice none 0 0) (true) from rfl)) ?_
  refine oS (mk (KW zr_38) (fun b7=>?_))
  refine KV rfl (sA rfl rfl sz_38 (by repeat (first|exact KN|refine KJ rfl ?_)) (hl:=by rfl) (h:=?_))
  refine KC ?_
  refine KB ?_
  refine KB ?_
  have hbk:=blen_nw K
  refine LCode.zeroNum ?_
  refine LCode.zeroNum ?_
  refine KA ?_
  refine oM ?_
  refine oS (cF rfl en_70 rfl (fun w hw=>c_n_Bits qk K w (mC hw) (by omega)) ?_)
  refine oP (KF (v:=.int .i64 (((blen K:Nat):Int)-1)) rfl rfl (br_subI (by omega) (by omega))) ?_
  refine oA ?_
  refine KC ?_
  refine LCode.block ?_
  refine Ku (α:=Nat×NV×NV) (fun x=>x.1≤blen K∧NFr w.heap.size (fp2 q r P []) x.2.1 (D.nw (xv (pmul V.A P (K/2^x.1))))∧NFr w.heap.size (fp2 q r P []) x.2.2 (D.nw (yv (pmul V.A P (K/2^x.1))))) (fun x=>⟨[(1,numV qk K),(3,.pointer (some ⟨b3,0,none⟩)),(5,.pointer (some ⟨b5,0,none⟩)),(6,.pointer (some ⟨b6,0,none⟩)),(7,.pointer (some ⟨b7,0,none⟩)),(8,.int .i64 (((x.1:Nat):Int)-1))],[.blk b7 ⟨true,rpL (numV x.2.1 (xv (pmul V.A P (K/2^x.1)))) (numV x.2.2 (yv (pmul V.A P (K/2^x.1)))) (iv (pmul V.A P (K/2^x.1))),38,(0,0)⟩,.blk b6 ⟨true,[.slice none 0 0,.slice none 0 0,.bool false],38,(0,0)⟩,.blk b5 ⟨true,rpL (numV q (xv P)) (numV r (yv P)) (iv P),38,(0,0)⟩,.blk b3 ⟨true,crvL Q V,26,(0,0)⟩,numT x.2.1 (xv (pmul V.A P (K/2^x.1))),numT x.2.2 (yv (pmul V.A P (K/2^x.1))),crvI Q V,numT qk K,numT q (xv P),numT r (yv P)]⟩) (fun x=>x.1) ((blen K,⟨true,0,0⟩,⟨true,0,0⟩)) (⟨Nat.le_refl _,by dsimp only; rw [pm_top]; exact nfr_zero _ _,by dsimp only; rw [pm_top]; exact nfr_zero _ _⟩) (by dsimp only; rw [pm_top]; exact KAP (Sub.cells (b:=b7) (cs':=rpL (numV ⟨true,0,0⟩ (xv (Pt.inf:Pt V.p))) (numV ⟨true,0,0⟩ (yv (Pt.inf:Pt V.p))) (iv (Pt.inf:Pt V.p))) (by repeat (first|exact Sh _|apply St_)) rp_nil) (Kp ⟨rfl,rfl,rfl,rfl,rfl,rfl,trivial⟩ (by repeat (first|exact Sel.nil _|refine Sel.cons (by repeat (first|exact Ph _|apply Pt_)) ?_)))) ?_
  rintro x ⟨hx1,hx2,hx3⟩
  refine KB ?_
  refine KB ?_
  rcases Nat.eq_zero_or_pos x.1 with h0|h0
  ·
    refine KA ?_
    refine oM ?_
    refine oP (KF (v:=.bool false) rfl rfl (by rw [h0]; rfl)) ?_
    refine KC ?_
    refine KY rfl ?_
    refine Kr ?_
    refine KB ?_
    have eR:pmul V.A P (K/2^x.1) = R:=by rw [h0,Nat.pow_zero,Nat.div_one]; exact hR
    rw [eR] at hx2 hx3 ⊢
    refine KA ?_
    refine oD (dL rfl (hv:=by exact KI Try.underlying38 rfl sz_38)) ?_
    refine KV rfl (sA rfl rfl sz_38 (by repeat (first|exact KN|refine KJ rfl ?_)) (hl:=by rfl) (h:=?_))
    refine KC (KO ?_)
    refine ⟨[_],.cons ⟨_,_,_,rfl,(by repeat (first|exact Mh _|apply Mt)),by exact KI Try.underlying38 rfl sz_38⟩ .nil,fun a w' hr=>hr.num2Q (by repeat (first|exact Mh _|apply Mt)) hx2 (by repeat (first|exact Mh _|apply Mt)) hx3⟩
  ·
    obtain ⟨y,hy⟩:∃ y,x.1 = y+1:=⟨x.1-1,by omega⟩
    rw [hy] at hx2 hx3 ⊢
    refine KA ?_
    refine oM ?_
    refine oP (KF (v:=.bool true) rfl rfl (by simp [KAB] <;> omega)) ?_
    refine KC ?_
    refine Ki rfl ?_
    refine KS ?_
    refine KB ?_
    refine LCode.block ?_
    refine KB (KA ?_)
    refine oD (dL rfl (hv:=by exact KI Try.underlying26 rfl sz_26)) ?_
    refine oD (dL rfl (hv:=by exact KI Try.underlying38 rfl sz_38)) ?_
    refine oD (dL rfl (hv:=by exact KI Try.underlying38 rfl sz_38)) ?_
    refine oS (cZ rfl en_68 rfl (fun w hw hs=>(c_r_Plus Q V x.2.1 x.2.2 x.2.1 x.2.2 (pmul V.A P (K/2^(y+1))) (pmul V.A P (K/2^(y+1))) (padd V.A (pmul V.A P (K/2^(y+1))) (pmul V.A P (K/2^(y+1)))) w (mC hw) hok (mC hw) (mC hw) (mC hw) (mC hw) (hok.mul hP _) (hok.mul hP _) rfl).mono fun e w' h=>Num2R.q (Old.pt (by repeat (first|exact Mh _|apply Mt)) (by repeat (first|exact Mh _|apply Mt)) (Old.pt (by repeat (first|exact Mh _|apply Mt)) (by repeat (first|exact Mh _|apply Mt)) (Old.nil _))) hs h) ?_)
    rintro _ _ ⟨qda,qdb,rfl,rfl,hnda,hndb⟩
    refine KV rfl (sA rfl rfl sz_38 (by repeat (first|exact KN|refine KJ rfl ?_)) (hl:=by rfl) (h:=?_))
    refine KC ?_
    refine KB (KA ?_)
    refine oM ?_
    refine oP (Kt (v:=.int .i64 ((y:Nat):Int)) (by show some _ = some _; congr 2; omega)) ?_
    refine oS (cF rfl en_86 rfl (fun w hw=>c_n_Bit qk K (D.nw K) y w (mC hw) (by omega)) ?_)
    refine oP (KF rfl rfl (br_eql (b:=1))) ?_
    refine KC ?_
    first|refine KR rfl (fun hbit=>?_) (fun hbit=>?_)|refine KT rfl (fun hbit=>?_) (fun hbit=>?_)
    ·
      have hbit:K/2^y%2 = 1:=hbit
      refine KA ?_
      refine oD (dL rfl (hv:=by exact KI Try.underlying26 rfl sz_26)) ?_
      refine oD (dL rfl (hv:=by exact KI Try.underlying38 rfl sz_38)) ?_
      refine oD (dL rfl (hv:=by exact KI Try.underlying38 rfl sz_38)) ?_
      refine oS (cZ rfl en_68 rfl (fun w hw hs=>(c_r_Plus Q V qda qdb q r (padd V.A (pmul V.A P (K/2^(y+1))) (pmul V.A P (K/2^(y+1)))) P (pmul V.A P (K/2^y)) w (mC hw) hok (mC hw) (mC hw) (mC hw) (mC hw) (hok.sum (hok.mul hP _) (hok.mul hP _)) hP (pm_T hok hP hbit)).mono fun e w' h=>Num2R.q (Old.pt (by repeat (first|exact Mh _|apply Mt)) (by repeat (first|exact Mh _|apply Mt)) (Old.pt (by repeat (first|exact Mh _|apply Mt)) (by repeat (first|exact Mh _|apply Mt)) (Old.nil _))) hs h) ?_)
      rintro _ _ ⟨qea,qeb,rfl,rfl,hnea,hneb⟩
      refine KV rfl (sA rfl rfl sz_38 (by repeat (first|exact KN|refine KJ rfl ?_)) (hl:=by rfl) (h:=?_))
      refine KC ?_
      refine KA ?_
      refine oP (Kt (v:=.int .i64 ((y:Nat):Int)) (by show some _ = some _; congr 2; omega)) ?_
      refine oP (KF (v:=.int .i64 (((y:Nat):Int)-1)) rfl rfl (br_subI (by omega) (by omega))) ?_
      refine oA ?_
      refine KC ?_
      exact ⟨(y,qea,qeb),⟨by dsimp only; omega,NFr.two hnea (NFr.two hnda hx2 hx3 hx2 hx3) (NFr.two hndb hx2 hx3 hx2 hx3) (fp2_q _) (fp2_r _),NFr.two hneb (NFr.two hnda hx2 hx3 hx2 hx3) (NFr.two hndb hx2 hx3 hx2 hx3) (fp2_q _) (fp2_r _)⟩,by dsimp only; omega,Kp ⟨rfl,rfl,rfl,rfl,rfl,rfl,trivial⟩ (by repeat (first|exact Sel.nil _|refine Sel.cons (by repeat (first|exact Ph _|apply Pt_)) ?_))⟩
    ·
      have hbit:¬ K/2^y%2 = 1:=hbit
      refine KS ?_
      refine KA ?_
      refine oP (Kt (v:=.int .i64 ((y:Nat):Int)) (by show some _ = some _; congr 2; omega)) ?_
      refine oP (KF (v:=.int .i64 (((y:Nat):Int)-1)) rfl rfl (br_subI (by omega) (by omega))) ?_
      refine oA ?_
      refine KC ?_
      rw [pm_F hok hP hbit] at hnda hndb ⊢
      exact ⟨(y,qda,qdb),⟨by dsimp only; omega,NFr.two hnda hx2 hx3 hx2 hx3,NFr.two hndb hx2 hx3 hx2 hx3⟩,by dsimp only; omega,Kp ⟨rfl,rfl,rfl,rfl,rfl,rfl,trivial⟩ (by repeat (first|exact Sel.nil _|refine Sel.cons (by repeat (first|exact Ph _|apply Pt_)) ?_))⟩
def sumT (V:Cv) (T U:Fin V.p×Fin V.p×Fin V.p):Fin V.p×Fin V.p×Fin V.p:=sum3 V.A (V.B+V.B+V.B) T.1 T.2.1 T.2.2 U.1 U.2.1 U.2.2
structure RepT (V:Cv) (T:Fin V.p×Fin V.p×Fin V.p) (P:Pt V.p):Prop where
  rep:Rep T.1 T.2.1 T.2.2 P
  on:On V.A V.B P
theorem RepT.sum {V:Cv} (hok:V.Ok) {T U:Fin V.p×Fin V.p×Fin V.p} {P R:Pt V.p} (h:RepT V T P) (k:RepT V U R):RepT V (sumT V T U) (padd V.A P R):=⟨hok.rep_sum h.rep k.rep h.on k.on,hok.sum h.on k.on⟩
theorem RepT.trip {V:Cv} (hok:V.Ok) {P:Pt V.p} (hP:On V.A V.B P):RepT V (tripF P) P:=⟨hok.rep_trip P,hP⟩
theorem c_SumT (V:Cv) (b f bd:Nat) (hok:V.Ok) (T U:Fin V.p×Fin V.p×Fin V.p) (w:World) (hb:(Item.blk b ⟨false,opL V f,129,(0,0)⟩).holds w) (hf:(Item.blk f ⟨false,fldL V.p bd,162,(0,0)⟩).holds w) (hbd:(Item.blk bd ⟨false,dvL V.p,212,(0,0)⟩).holds w):Calls Try.prog 125 ([.pointer (some ⟨b,0,none⟩),pjF T,pjF U]:List Value).toArray w (fun e w'=>e = .returned (pjF (sumT V T U))∧Below w.heap.size w w') :=
  c_Sum V b f bd hok T.1 T.2.1 T.2.2 U.1 U.2.1 U.2.2 w hb hf hbd
theorem c_PlainT (V:Cv) (b f bd:Nat) (hok:V.Ok) (T:Fin V.p×Fin V.p×Fin V.p) (P:Pt V.p) (w:World) (hb:(Item.blk b ⟨false,opL V f,129,(0,0)⟩).holds w) (hf:(Item.blk f ⟨false,fldL V.p bd,162,(0,0)⟩).holds w) (hbd:(Item.blk bd ⟨false,dvL V.p,212,(0,0)⟩).holds w) (h:RepT V T P):Calls Try.prog 124 ([.pointer (some ⟨b,0,none⟩),pjF T]:List Value).toArray w (fun e w'=>e = .returned (ptP P)∧Below w.heap.size w w'):=by
  have:=c_Plain V b f bd hok T.1 T.2.1 T.2.2 w hb hf hbd
  rwa [Rep.plain hok.prime h.rep] at this
end Go.Proofs.Ytlmiolnccgjjjaa
set_option linter.unusedVariables false
set_option linter.unusedSimpArgs false
set_option maxRecDepth 20000
namespace Go.Proofs.Ytlmiolnccgjjjaa
open Go Go.RowKit
def uidx (x:Int):Nat:=(x%18446744073709551616).toNat
theorem uidx_eq (x:Int):Value.int .u64 (IntKind.u64.wrap x) = Value.int .u64 ((uidx x:Nat):Int):=by
  unfold uidx
  rw [wrap_u64,Int.toNat_of_nonneg (Int.emod_nonneg _ (by decide))]
theorem cvI_idx (x:Int):∃ V,cvI ((1+uidx x%15:Nat):Int) = some V:=by
  rw [cvI_nat]; exact cvOf_some (by omega) (by omega)
theorem cvI_id {id:Int} {V:Cv} (h:cvI id = some V):cvI ((V.id:Nat):Int) = some V:=by rw [(cvI_ok h).2]; exact h
end Go.Proofs.Ytlmiolnccgjjjaa
set_option linter.unusedVariables false
set_option linter.unusedSimpArgs false
set_option maxRecDepth 20000
namespace Go.Proofs.Ytlmiolnccgjjjaa
open Go Go.RowKit
open Grp
theorem Brings.own {w w':World} {H:List Item} {b:Nat} {cs:List Value} {e:TypeId} (hb:Below w.heap.size w w') (h:(Item.blk b ⟨true,cs,e,(0,0)⟩).holds w') (hn:w.heap.size≤b):Brings w H [.blk b ⟨true,cs,e,(0,0)⟩] w' :=
  ⟨hb,(by intro x hx; simp at hx; subst hx; exact h),(by intro x hx k hk; simp at hx; subst hx; simp [Item.fp] at hk; subst hk; exact .inl hn),(by intro x hx _ k hk; simp at hx; subst hx; simp [Item.fp] at hk; subst hk; exact hn),List.pairwise_singleton _ _⟩
end Go.Proofs.Ytlmiolnccgjjjaa
set_option linter.unusedVariables false
set_option linter.unusedSimpArgs false
set_option maxRecDepth 20000
namespace Go.Proofs.Ytlmiolnccgjjjaa
open Go Go.RowKit
open Grp
theorem xG {V:Cv} (hok:V.Ok):xv V.G = V.x:=val_c hok.bounds.2.2.2.2.1
theorem yG {V:Cv} (hok:V.Ok):yv V.G = V.y:=val_c hok.bounds.2.2.2.2.2.1
end Go.Proofs.Ytlmiolnccgjjjaa
set_option linter.unusedVariables false
set_option linter.unusedSimpArgs false
set_option maxRecDepth 20000
namespace Go.Proofs.Ytlmiolnccgjjjaa
open Go Go.RowKit
open Grp
theorem Det.indexArrN {P : Program} {C : Ctx} {st : St} {d : Option Tmp} {ty : TypeId} {pos : String} {aft : Array Edge} {g : Option (Nat × Bool)} {t : TypeId} {x y : Operand} {n s : Nat} {e : TypeId} {k : IntKind} {i : Nat} {b o : Nat} (ht : P.underlying t = some (.array n e)) (he : szOf P e = some s) (hx : evT st.T x = some (.pointer (some ⟨b, o, none⟩)))
    (hy:evT st.T y = some (.int k (i:Int))) (h1:i<n):Slots P C ⟨d,.indexAddr t x y,ty,pos,aft,g⟩ st (.pointer (some ⟨b,o+i*s,none⟩)):=by
  unfold Slots
  intro a w hr
  have hb:(0≤(i:Int)∧(i:Int)<(n:Int)):=⟨by omega,by omega⟩
  simp [execOp,hr _ _ hx,hr _ _ hy,Instr.indexAt,asIntOf,run_underlying ht,Instr.sureAddr,hb,run_sizeOf he,Addr.add,h1]
theorem g_val {V:Cv} (hok:V.Ok):Value.agg (ptL V.x V.y false).toArray = ptP V.G:=by
  unfold ptP ptV
  rw [xG hok,yG hok]
  rfl
theorem c_cOnB (V:Cv) (b f bd:Nat) (hok:V.Ok) (X Y:Nat) (i r:Bool) (w:World) (hb:(Item.blk b ⟨false,opL V f,129,(0,0)⟩).holds w) (hf:(Item.blk f ⟨false,fldL V.p bd,162,(0,0)⟩).holds w) (hbd:(Item.blk bd ⟨false,dvL V.p,212,(0,0)⟩).holds w) (hX:X<W9) (hY:Y<W9) (hr:onB V.p V.a V.b X Y i = r):Calls Try.prog 81 ([.pointer (some ⟨b,0,none⟩),ptV X Y i]:List Value).toArray w (fun e w'=>e = .returned (.bool r)∧Below w.heap.size w w'):=by
  have:=c_cOn V b f bd hok X Y i w hb hf hbd hX hY
  rwa [hr] at this
theorem c_cOnP (V:Cv) (b f bd:Nat) (hok:V.Ok) (P:Pt V.p) (w:World) (hb:(Item.blk b ⟨false,opL V f,129,(0,0)⟩).holds w) (hf:(Item.blk f ⟨false,fldL V.p bd,162,(0,0)⟩).holds w) (hbd:(Item.blk bd ⟨false,dvL V.p,212,(0,0)⟩).holds w) (hP:On V.A V.B P):Calls Try.prog 81 ([.pointer (some ⟨b,0,none⟩),ptP P]:List Value).toArray w (fun e w'=>e = .returned (.bool true)∧Below w.heap.size w w') :=
  c_cOnB V b f bd hok (xv P) (yv P) (iv P) true w hb hf hbd (pt_w9 hok P).1 (pt_w9 hok P).2 (onB_on hP)
def arr4 {p:Nat} (a b c d:Fin p×Fin p×Fin p):List Value:=pjFL a++(pjFL b++(pjFL c++pjFL d))
theorem KAE {p:Nat} (T:Fin p×Fin p×Fin p):(pjFL T).length = 27:=KU _ _ _
theorem pjFL_one {p:Nat} (T:Fin p×Fin p×Fin p):AllOne (pjFL T):=Kj _ _ _
theorem arr4_length {p:Nat} (a b c d:Fin p×Fin p×Fin p):(arr4 a b c d).length = 108:=by simp [arr4,KAE]
theorem arr4_one {p:Nat} (a b c d:Fin p×Fin p×Fin p):AllOne (arr4 a b c d):=KL (pjFL_one _) (KL (pjFL_one _) (KL (pjFL_one _) (pjFL_one _)))
theorem fill_arr4 {p:Nat} (a b c d:Fin p×Fin p×Fin p):fillL ((List.range 4).map fun i=>(i*27,27)) (vec .u64 9 (fun _=>0)++(vec .u64 9 (fun _=>0)++(vec .u64 9 (fun _=>0)++(vec .u64 9 (fun _=>0)++(vec .u64 9 (fun _=>0)++(vec .u64 9 (fun _=>0)++(vec .u64 9 (fun _=>0)++(vec .u64 9 (fun _=>0)++(vec .u64 9 (fun _=>0)++(vec .u64 9 (fun _=>0)++(vec .u64 9 (fun _=>0)++(vec .u64 9 (fun _=>0))))))))))))) [(0,pjF a),(1,pjF b),(2,pjF c),(3,pjF d)] = some (arr4 a b c d):=by
  refine KAM (A:=[]) (B:=vec .u64 9 (fun _=>0)++(vec .u64 9 (fun _=>0)++(vec .u64 9 (fun _=>0)))) (D:=vec .u64 9 (fun _=>0)++(vec .u64 9 (fun _=>0)++(vec .u64 9 (fun _=>0)++(vec .u64 9 (fun _=>0)++(vec .u64 9 (fun _=>0)++(vec .u64 9 (fun _=>0)++(vec .u64 9 (fun _=>0)++(vec .u64 9 (fun _=>0)++(vec .u64 9 (fun _=>0)))))))))) (cs:=pjFL a) rfl rfl (KAE _) (by simp only [List.append_assoc,List.nil_append,List.append_nil]) rfl (by simp [KG]) ?_
  refine KAM (A:=pjFL a) (B:=vec .u64 9 (fun _=>0)++(vec .u64 9 (fun _=>0)++(vec .u64 9 (fun _=>0)))) (D:=vec .u64 9 (fun _=>0)++(vec .u64 9 (fun _=>0)++(vec .u64 9 (fun _=>0)++(vec .u64 9 (fun _=>0)++(vec .u64 9 (fun _=>0)++(vec .u64 9 (fun _=>0))))))) (cs:=pjFL b) rfl rfl (KAE _) (by simp only [List.append_assoc,List.nil_append,List.append_nil]) (KAE _) (by simp [KG]) ?_
  refine KAM (A:=pjFL a++pjFL b) (B:=vec .u64 9 (fun _=>0)++(vec .u64 9 (fun _=>0)++(vec .u64 9 (fun _=>0)))) (D:=vec .u64 9 (fun _=>0)++(vec .u64 9 (fun _=>0)++(vec .u64 9 (fun _=>0)))) (cs:=pjFL c) rfl rfl (KAE _) (by simp only [List.append_assoc,List.nil_append,List.append_nil]) (by simp [KAE]) (by simp [KG]) ?_
  refine (KAM (A:=pjFL a++(pjFL b++pjFL c)) (B:=vec .u64 9 (fun _=>0)++(vec .u64 9 (fun _=>0)++(vec .u64 9 (fun _=>0)))) (D:=[]) (cs:=pjFL d) rfl rfl (KAE _) (by simp only [List.append_assoc,List.nil_append,List.append_nil]) (by simp [KAE]) (by simp [KG]) rfl).trans ?_
  simp [arr4]
theorem arr4_1 {p:Nat} (a b c d:Fin p×Fin p×Fin p) (wr:Bool) (e:TypeId) (fz:Nat×Nat):LoadV Try.prog 172 ⟨wr,arr4 a b c d,e,fz⟩ 27 (pjF b):=LoadV.mid (pre:=pjFL a) (cs:=pjFL b) (post:=pjFL c++pjFL d) Try.underlying172 rfl KAT rfl (KAE _) (KAE _)
theorem arr4_2 {p:Nat} (a b c d:Fin p×Fin p×Fin p) (wr:Bool) (e:TypeId) (fz:Nat×Nat):LoadV Try.prog 172 ⟨wr,arr4 a b c d,e,fz⟩ 54 (pjF c):=LoadV.mid (pre:=pjFL a++pjFL b) (cs:=pjFL c) (post:=pjFL d) Try.underlying172 rfl KAT (by simp [arr4]) (by simp [KAE]) (KAE _)
theorem arr4_3 {p:Nat} (a b c d:Fin p×Fin p×Fin p) (wr:Bool) (e:TypeId) (fz:Nat×Nat):LoadV Try.prog 172 ⟨wr,arr4 a b c d,e,fz⟩ 81 (pjF d):=LoadV.last (pre:=pjFL a++(pjFL b++pjFL c)) (cs:=pjFL d) Try.underlying172 rfl KAT (by simp [arr4]) (by simp [KAE]) (KAE _)
noncomputable def dualP (V:Cv) (U W:Nat) (Q:Pt V.p):Pt V.p:=padd V.A (pmul V.A V.G U) (pmul V.A Q W)
theorem dual_step {V:Cv} (hok:V.Ok) {Q:Pt V.p} (hQ:On V.A V.B Q) {U W y bu bv:Nat} {T Tk:Fin V.p×Fin V.p×Fin V.p} (h1:U/2^y%2 = bu) (h2:W/2^y%2 = bv) (hT:RepT V T (dualP V (U/2^(y+1)) (W/2^(y+1)) Q)) (hk:RepT V Tk (dualP V bu bv Q)):RepT V (sumT V (sumT V T T) Tk) (dualP V (U/2^y) (W/2^y) Q):=by
  have:=RepT.sum hok (RepT.sum hok hT hT) hk
  subst h1 h2
  unfold dualP at *
  rwa [hok.dual_bit hok.on hQ] at this
theorem dual_zero {V:Cv} (hok:V.Ok) {Q:Pt V.p} (hQ:On V.A V.B Q) {U W y:Nat} {T:Fin V.p×Fin V.p×Fin V.p} (h1:U/2^y%2 = 0) (h2:W/2^y%2 = 0) (hT:RepT V T (dualP V (U/2^(y+1)) (W/2^(y+1)) Q)):RepT V (sumT V T T) (dualP V (U/2^y) (W/2^y) Q):=by
  have h:=RepT.sum hok hT hT
  have e:=hok.dual_bit hok.on hQ U W y
  rw [h1,h2,pmul_zero,pmul_zero,hok.add_inf (show On V.A V.B (.inf:Pt V.p) from trivial)] at e
  unfold dualP at *
  rw [hok.add_inf (hok.sum (hok.sum (hok.mul hok.on _) (hok.mul hQ _)) (hok.sum (hok.mul hok.on _) (hok.mul hQ _)))] at e
  rwa [e] at h
theorem dual_10 {V:Cv} (hok:V.Ok) {Q:Pt V.p} (hQ:On V.A V.B Q):RepT V (tripF V.G) (dualP V 1 0 Q):=by
  unfold dualP
  rw [pmul_one hok.fld hok.on,pmul_zero,hok.add_inf hok.on]
  exact RepT.trip hok hok.on
theorem dual_01 {V:Cv} (hok:V.Ok) {Q:Pt V.p} (hQ:On V.A V.B Q):RepT V (tripF Q) (dualP V 0 1 Q):=by
  unfold dualP
  rw [pmul_one hok.fld hQ,pmul_zero,hok.inf_add hQ]
  exact RepT.trip hok hQ
theorem dual_11 {V:Cv} (hok:V.Ok) {Q:Pt V.p} (hQ:On V.A V.B Q):RepT V (sumT V (tripF V.G) (tripF Q)) (dualP V 1 1 Q):=by
  unfold dualP
  rw [pmul_one hok.fld hQ,pmul_one hok.fld hok.on]
  exact RepT.sum hok (RepT.trip hok hok.on) (RepT.trip hok hQ)
theorem dual_top {V:Cv} (hok:V.Ok) {Q:Pt V.p} {U W:Nat} (hU:U<V.n) (hW:W<V.n):dualP V (U/2^blen V.n) (W/2^blen V.n) Q = .inf:=by
  have hn:=lt_blen V.n
  unfold dualP
  rw [Nat.div_eq_of_lt (Nat.lt_trans hU hn),Nat.div_eq_of_lt (Nat.lt_trans hW hn),pmul_zero,pmul_zero,hok.add_inf (show On V.A V.B (.inf:Pt V.p) from trivial)]
theorem c_dualTimes (V:Cv) (b f bd:Nat) (hok:V.Ok) (U W:Nat) (Q:Pt V.p) (hQ:On V.A V.B Q) (hU:U<V.n) (hW:W<V.n) (w:World) (hb:(Item.blk b ⟨false,opL V f,129,(0,0)⟩).holds w) (hf:(Item.blk f ⟨false,fldL V.p bd,162,(0,0)⟩).holds w) (hbd:(Item.blk bd ⟨false,dvL V.p,212,(0,0)⟩).holds w):Calls Try.prog 108 ([.pointer (some ⟨b,0,none⟩),natV U,natV W,ptP Q]:List Value).toArray w (fun e w'=>e = .returned (ptP (dualP V U W Q))∧Below w.heap.size w w'):=by
  have hbb:=hok.bounds
  have hnW:V.n<W9:=w9_521 hbb.2.2.2.2.2.2.1
  have hbl:=blen_w9 hnW
  have hU9:=Nat.lt_trans hU hnW
  have hW9:=Nat.lt_trans hW hnW
  refine Kn (N:=65) (rs:=[.cell 8 35]) [.blk b ⟨false,opL V f,129,(0,0)⟩,.blk f ⟨false,fldL V.p bd,162,(0,0)⟩,.blk bd ⟨false,dvL V.p,212,(0,0)⟩] Try.func108 rfl Try.ntmps108 Try.results108 (Nb rfl) ⟨hb,hf,hbd,trivial⟩ rfl ?_
  show LCode _ _ _ ⟨_,_⟩ _
  refine KB (KA ?_)
  refine oS (mB (fun b5=>?_))
  refine oS (mB (fun b6=>?_))
  refine oS (mB (fun b7=>?_))
  refine oS (mk (KW zr_35) (fun b8=>?_))
  refine KC ?_
  refine KB ?_
  refine rD [10,11] ?_
  refine aM 0 ?_
  refine aP 1 rfl (KP rfl) ?_
  refine aP 2 rfl (KH (o':=0) Try.underlying129 rfl rfl rfl KAV (by decide)) ?_
  refine aP 3 rfl (KH (o':=37) Try.underlying126 rfl rfl rfl sz_35 (by decide)) ?_
  refine aD 4 rfl (Det.cast (dL rfl (hv:=by exact cvC_ld_g _ _ _ _ _ _ _ _ _ _ _ _ _ _ _ _)) (g_val hok)) ?_
  refine LAny.takeW [7,10,11] 6 rfl (by kernel_rfl) (Nb rfl) (dL rfl (hv:=by exact KI Try.underlying35 rfl sz_35)) ?_
  refine KAc ?_
  refine KAC 8 rfl (.inl zr_172) (Nb rfl) rfl rfl rfl ?_
  refine KAC 9 rfl (.inl zr_172) (Nb rfl) rfl rfl rfl ?_
  refine Kl 5 rfl rfl rfl (Nb rfl) (by kernel_rfl) rfl (Kq (first:=[]) rfl en_122 rfl (fun w hw=>c_Triple V hok V.G w)) ?_
  rintro _ _ ⟨rfl,rfl⟩
  refine Kl 7 rfl rfl rfl (Nb rfl) (by kernel_rfl) rfl (Kq (first:=[]) rfl en_122 rfl (fun w hw=>c_Triple V hok Q w)) ?_
  rintro _ _ ⟨rfl,rfl⟩
  refine pE (fun b10=>?_)
  refine pE (fun b9=>?_)
  refine KAF ?_
  refine aL 10 rfl (sA rfl rfl KAT (by exact pjFL_one _) (hl:=by exact KAE _) (h:=?_))
  refine aL 11 rfl (sA rfl rfl KAT (by exact pjFL_one _) (hl:=by exact KAE _) (h:=?_))
  refine aE ?_
  refine KB ?_
  refine rD [9] ?_
  refine aD 1 rfl (dL rfl (hv:=by exact KI Try.underlying172 rfl KAT)) ?_
  refine aD 2 rfl (dL rfl (hv:=by exact KI Try.underlying172 rfl KAT)) ?_
  refine aM 3 ?_
  refine aD 4 rfl (dL rfl (hv:=by exact KI Try.underlying172 rfl KAT)) ?_
  refine aD 5 rfl (dL rfl (hv:=by exact KI Try.underlying172 rfl KAT)) ?_
  refine KAc ?_
  refine KAC 8 rfl (.inl zr_188) (Nb rfl) rfl rfl rfl ?_
  refine Kl 0 rfl rfl rfl (Nb rfl) (by kernel_rfl) rfl (Kq (first:=[]) rfl en_123 rfl (fun w hw=>c_NoneF hok w)) ?_
  rintro _ _ ⟨rfl,rfl⟩
  refine Kl 6 rfl rfl rfl (Nb rfl) (by kernel_rfl) rfl (Kq (first:=[]) rfl en_125 rfl (fun w hw=>c_SumT V b f bd hok (tripF V.G) (tripF Q) w (mC hw) (mC hw) (mC hw))) ?_
  rintro _ _ ⟨rfl,rfl⟩
  refine pP 7 rfl (KM (KAD pl_188 zr_188 rfl (fill_arr4 _ _ _ _)) rfl) ?_
  refine pE (fun b11=>?_)
  refine KAF ?_
  refine aL 9 rfl (sA rfl rfl sz_188 (by exact arr4_one _ _ _ _) (hl:=by exact arr4_length _ _ _ _) (h:=?_))
  refine aE ?_
  refine KB (KA ?_)
  refine oS (cF rfl en_123 rfl (fun w hw=>c_NoneF hok w) ?_)
  refine oS (mk (KW zr_172) (fun b12=>?_))
  refine KV rfl (sA rfl rfl KAT (by exact pjFL_one _) (hl:=by exact KAE _) (h:=?_))
  refine KC ?_
  refine KB ?_
  refine KB (KA ?_)
  refine oM ?_
  refine oP (KP rfl) ?_
  refine oP (KH (o':=0) Try.underlying129 rfl rfl rfl KAV (by decide)) ?_
  refine oP (KH (o':=56) Try.underlying126 rfl rfl rfl sz_3 (by decide)) ?_
  refine oD (dL rfl (hv:=KQ Try.underlying3 rfl (by exact cvC_gt_bits _ _ _ _ _ _ _ _ _ _ _ _ _))) ?_
  refine oP (KF (v:=.int .i64 (((blen V.n:Nat):Int)-1)) rfl rfl (br_subI (by omega) (by omega))) ?_
  refine oA ?_
  refine KC ?_
  refine LCode.block ?_
  refine Ku (α:=Nat×(Fin V.p×Fin V.p×Fin V.p)) (fun x=>x.1≤blen V.n∧RepT V x.2 (dualP V (U/2^x.1) (W/2^x.1) Q)) (fun x=>⟨[(0,.pointer (some ⟨b,0,none⟩)),(5,.pointer (some ⟨b5,0,none⟩)),(6,.pointer (some ⟨b6,0,none⟩)),(7,.pointer (some ⟨b7,0,none⟩)),(8,.pointer (some ⟨b8,0,none⟩)),(11,.pointer (some ⟨b11,0,none⟩)),(12,.pointer (some ⟨b12,0,none⟩)),(13,.int .i64 (((x.1:Nat):Int)-1))],[.blk b12 ⟨true,pjFL x.2,172,(0,0)⟩,.blk b11 ⟨true,arr4 (tripF (.inf:Pt V.p)) (tripF V.G) (tripF Q) (sumT V (tripF V.G) (tripF Q)),188,(0,0)⟩,.blk b8 ⟨true,(vec .u64 9 (fun _=>0)++(vec .u64 9 (fun _=>0)++[Value.bool false])),35,(0,0)⟩,.blk b7 ⟨true,ptL (xv Q) (yv Q) (iv Q),35,(0,0)⟩,.blk b6 ⟨true,natL W,33,(0,0)⟩,.blk b5 ⟨true,natL U,33,(0,0)⟩,.blk b ⟨false,opL V f,129,(0,0)⟩,.blk f ⟨false,fldL V.p bd,162,(0,0)⟩,.blk bd ⟨false,dvL V.p,212,(0,0)⟩]⟩) (fun x=>x.1) ((blen V.n,tripF (.inf:Pt V.p))) (⟨Nat.le_refl _,by dsimp only; rw [dual_top hok hU hW]; exact RepT.trip hok trivial⟩) (Kp ⟨rfl,rfl,rfl,rfl,rfl,rfl,rfl,rfl,trivial⟩ (by repeat (first|exact Sel.nil _|refine Sel.cons (by repeat (first|exact Ph _|apply Pt_)) ?_))) ?_
  rintro x ⟨hx1,hx2⟩
  refine KB ?_
  refine KB ?_
  rcases Nat.eq_zero_or_pos x.1 with h0|h0
  ·
    refine KA ?_
    refine oM ?_
    refine oP (KF (v:=.bool false) rfl rfl (by rw [h0]; rfl)) ?_
    refine KC ?_
    refine KY rfl ?_
    refine Kr ?_
    refine KB ?_
    have eR:dualP V (U/2^x.1) (W/2^x.1) Q = dualP V U W Q:=by rw [h0,Nat.pow_zero,Nat.div_one,Nat.div_one]
    rw [eR] at hx2
    refine KA ?_
    refine oM ?_
    refine oD (dL rfl (hv:=by exact KI Try.underlying172 rfl KAT)) ?_
    refine oS (cF rfl en_124 rfl (fun w hw=>c_PlainT V b f bd hok (x.2) (dualP V U W Q) w (mC hw) (mC hw) (mC hw) (hx2)) ?_)
    refine KV rfl (sA rfl rfl sz_35 (by repeat (first|exact KZ _|exact Kg _ _ _|exact Ka _|exact Kc _ _ _|exact Kj _ _ _|exact KN|refine KJ rfl ?_|refine KL ?_ ?_)) (hl:=by first|exact KD _|exact KG _ _ _|exact KE _|exact KK _ _ _|exact KU _ _ _|rfl|simp [KG,KD,KE]) (h:=?_))
    refine KC (KO ?_)
    refine ⟨[_],.cons ⟨_,_,_,rfl,(by repeat (first|exact Mh _|apply Mt)),by exact KI Try.underlying35 rfl sz_35⟩ .nil,fun a w' hr=>⟨?_,hr.fr.below⟩⟩
    rfl
  ·
    obtain ⟨y,hy⟩:∃ y,x.1 = y+1:=⟨x.1-1,by omega⟩
    rw [hy] at hx2
    refine KA ?_
    refine oM ?_
    refine oP (KF (v:=.bool true) rfl rfl (by rw [hy]; simp [KAB] <;> omega)) ?_
    refine KC ?_
    refine Ki rfl ?_
    refine KS ?_
    refine KB ?_
    refine LCode.block ?_
    refine KB (KA ?_)
    refine oM ?_
    refine oD (dL rfl (hv:=by exact KI Try.underlying172 rfl KAT)) ?_
    refine oD (dL rfl (hv:=by exact KI Try.underlying172 rfl KAT)) ?_
    refine oS (cF rfl en_125 rfl (fun w hw=>c_SumT V b f bd hok (x.2) (x.2) w (mC hw) (mC hw) (mC hw)) ?_)
    refine KV rfl (sA rfl rfl KAT (by exact pjFL_one _) (hl:=by exact KAE _) (h:=?_))
    refine KC ?_
    refine KB ?_
    refine rD [] ?_
    refine aD 0 rfl (dL rfl (hv:=by exact KI Try.underlying33 rfl sz_33)) ?_
    refine aP 1 rfl (Kt (v:=.int .i64 ((y:Nat):Int)) (by show some _ = some _; congr 2; omega)) ?_
    refine aD 3 rfl (dL rfl (hv:=by exact KI Try.underlying33 rfl sz_33)) ?_
    refine aP 4 rfl (Kt (v:=.int .i64 ((y:Nat):Int)) (by show some _ = some _; congr 2; omega)) ?_
    refine aO 2 rfl (cF rfl en_89 rfl (fun w hw=>c_nat_Bit U y hU9 (by omega) w) ?_)
    refine aO 5 rfl (cF rfl en_89 rfl (fun w hw=>c_nat_Bit W y hW9 (by omega) w) ?_)
    refine aP 6 rfl (KF rfl rfl (br_mul (a:=2) (by omega))) ?_
    refine aP 7 rfl (KF rfl rfl (Kw (by omega))) ?_
    refine aA 8 ?_
    refine aE ?_
    refine KB ?_
    rcases (show (U/2^y%2 = 0∧W/2^y%2 = 0)∨(U/2^y%2 = 1∧W/2^y%2 = 0)∨(U/2^y%2 = 0∧W/2^y%2 = 1)∨(U/2^y%2 = 1∧W/2^y%2 = 1) by omega) with ⟨k1,k2⟩|⟨k1,k2⟩|⟨k1,k2⟩|⟨k1,k2⟩
    ·
      refine KA ?_
      refine oP (Kt (v:=.int .i64 ((0:Nat):Int)) (by show some _ = some _; congr 2; omega)) ?_
      refine oP (KF (v:=.bool false) rfl rfl (br_f (br_gtr (b:=0)) (by decide))) ?_
      refine KC ?_
      refine KY rfl ?_
      refine KS ?_
      refine KA ?_
      refine oP (Kt (v:=.int .i64 ((y:Nat):Int)) (by show some _ = some _; congr 2; omega)) ?_
      refine oP (KF (v:=.int .i64 (((y:Nat):Int)-1)) rfl rfl (br_subI (by omega) (by omega))) ?_
      refine oA ?_
      refine KC ?_
      exact ⟨(y,sumT V x.2 x.2),⟨by dsimp only; omega,dual_zero hok hQ k1 k2 hx2⟩,by dsimp only; omega,Kp ⟨rfl,rfl,rfl,rfl,rfl,rfl,rfl,rfl,trivial⟩ (by repeat (first|exact Sel.nil _|refine Sel.cons (by repeat (first|exact Ph _|apply Pt_)) ?_))⟩
    ·
      refine KA ?_
      refine oP (Kt (v:=.int .i64 ((1:Nat):Int)) (by show some _ = some _; congr 2; omega)) ?_
      refine oP (KF (v:=.bool true) rfl rfl (br_t (br_gtr (b:=0)) (by decide))) ?_
      refine KC ?_
      refine Ki rfl ?_
      refine rD [6] ?_
      refine aM 0 ?_
      refine aD 1 rfl (dL rfl (hv:=by exact KI Try.underlying172 rfl KAT)) ?_
      refine aP 2 rfl (Kt (v:=.int .i64 ((1:Nat):Int)) (by show some _ = some _; congr 2; omega)) ?_
      refine aP 3 rfl (Det.indexArrN Try.underlying188 KAT rfl rfl (by decide)) ?_
      refine aD 4 rfl (dL rfl (hv:=by exact arr4_1 _ _ _ _ _ _ _)) ?_
      refine aO 5 rfl (cF rfl en_125 rfl (fun w hw=>c_SumT V b f bd hok (sumT V x.2 x.2) (tripF V.G) w (mC hw) (mC hw) (mC hw)) ?_)
      refine aL 6 rfl (sA rfl rfl KAT (by exact pjFL_one _) (hl:=by exact KAE _) (h:=?_))
      refine aE ?_
      refine KA ?_
      refine oP (Kt (v:=.int .i64 ((y:Nat):Int)) (by show some _ = some _; congr 2; omega)) ?_
      refine oP (KF (v:=.int .i64 (((y:Nat):Int)-1)) rfl rfl (br_subI (by omega) (by omega))) ?_
      refine oA ?_
      refine KC ?_
      exact ⟨(y,sumT V (sumT V x.2 x.2) (tripF V.G)),⟨by dsimp only; omega,dual_step hok hQ k1 k2 hx2 (dual_10 hok hQ)⟩,by dsimp only; omega,Kp ⟨rfl,rfl,rfl,rfl,rfl,rfl,rfl,rfl,trivial⟩ (by repeat (first|exact Sel.nil _|refine Sel.cons (by repeat (first|exact Ph _|apply Pt_)) ?_))⟩
    ·
      refine KA ?_
      refine oP (Kt (v:=.int .i64 ((2:Nat):Int)) (by show some _ = some _; congr 2; omega)) ?_
      refine oP (KF (v:=.bool true) rfl rfl (br_t (br_gtr (b:=0)) (by decide))) ?_
      refine KC ?_
      refine Ki rfl ?_
      refine rD [6] ?_
      refine aM 0 ?_
      refine aD 1 rfl (dL rfl (hv:=by exact KI Try.underlying172 rfl KAT)) ?_
      refine aP 2 rfl (Kt (v:=.int .i64 ((2:Nat):Int)) (by show some _ = some _; congr 2; omega)) ?_
      refine aP 3 rfl (Det.indexArrN Try.underlying188 KAT rfl rfl (by decide)) ?_
      refine aD 4 rfl (dL rfl (hv:=by exact arr4_2 _ _ _ _ _ _ _)) ?_
      refine aO 5 rfl (cF rfl en_125 rfl (fun w hw=>c_SumT V b f bd hok (sumT V x.2 x.2) (tripF Q) w (mC hw) (mC hw) (mC hw)) ?_)
      refine aL 6 rfl (sA rfl rfl KAT (by exact pjFL_one _) (hl:=by exact KAE _) (h:=?_))
      refine aE ?_
      refine KA ?_
      refine oP (Kt (v:=.int .i64 ((y:Nat):Int)) (by show some _ = some _; congr 2; omega)) ?_
      refine oP (KF (v:=.int .i64 (((y:Nat):Int)-1)) rfl rfl (br_subI (by omega) (by omega))) ?_
      refine oA ?_
      refine KC ?_
      exact ⟨(y,sumT V (sumT V x.2 x.2) (tripF Q)),⟨by dsimp only; omega,dual_step hok hQ k1 k2 hx2 (dual_01 hok hQ)⟩,by dsimp only; omega,Kp ⟨rfl,rfl,rfl,rfl,rfl,rfl,rfl,rfl,trivial⟩ (by repeat (first|exact Sel.nil _|refine Sel.cons (by repeat (first|exact Ph _|apply Pt_)) ?_))⟩
    ·
      refine KA ?_
      refine oP (Kt (v:=.int .i64 ((3:Nat):Int)) (by show some _ = some _; congr 2; omega)) ?_
      refine oP (KF (v:=.bool true) rfl rfl (br_t (br_gtr (b:=0)) (by decide))) ?_
      refine KC ?_
      refine Ki rfl ?_
      refine rD [6] ?_
      refine aM 0 ?_
      refine aD 1 rfl (dL rfl (hv:=by exact KI Try.underlying172 rfl KAT)) ?_
      refine aP 2 rfl (Kt (v:=.int .i64 ((3:Nat):Int)) (by show some _ = some _; congr 2; omega)) ?_
      refine aP 3 rfl (Det.indexArrN Try.underlying188 KAT rfl rfl (by decide)) ?_
      refine aD 4 rfl (dL rfl (hv:=by exact arr4_3 _ _ _ _ _ _ _)) ?_
      refine aO 5 rfl (cF rfl en_125 rfl (fun w hw=>c_SumT V b f bd hok (sumT V x.2 x.2) (sumT V (tripF V.G) (tripF Q)) w (mC hw) (mC hw) (mC hw)) ?_)
      refine aL 6 rfl (sA rfl rfl KAT (by exact pjFL_one _) (hl:=by exact KAE _) (h:=?_))
      refine aE ?_
      refine KA ?_
      refine oP (Kt (v:=.int .i64 ((y:Nat):Int)) (by show some _ = some _; congr 2; omega)) ?_
      refine oP (KF (v:=.int .i64 (((y:Nat):Int)-1)) rfl rfl (br_subI (by omega) (by omega))) ?_
      refine oA ?_
      refine KC ?_
      exact ⟨(y,sumT V (sumT V x.2 x.2) (sumT V (tripF V.G) (tripF Q))),⟨by dsimp only; omega,dual_step hok hQ k1 k2 hx2 (dual_11 hok hQ)⟩,by dsimp only; omega,Kp ⟨rfl,rfl,rfl,rfl,rfl,rfl,rfl,rfl,trivial⟩ (by repeat (first|exact Sel.nil _|refine Sel.cons (by repeat (first|exact Ph _|apply Pt_)) ?_))⟩
theorem c_dualMul_none (id:Int) (U W X Y:Nat) (i:Bool) (w:World) (h:cvI id = none):Calls Try.prog 73 ([.int .i64 id,natV U,natV W,ptV X Y i]:List Value).toArray w (fun e w'=>e = .returned (.tuple #[ptV 0 0 false,.int .i64 ((2000:Nat):Int)])∧Below w.heap.size w w'):=by
  refine Kn (N:=48) (rs:=[.cell 8 35,.tmp 9]) [] Try.func73 rfl Try.ntmps73 Try.results73 (Nb rfl) trivial rfl ?_
  show LCode _ _ _ ⟨_,_⟩ _
  refine KB (KA ?_)
  refine oS (mB (fun b5=>?_))
  refine oS (mB (fun b6=>?_))
  refine oS (mB (fun b7=>?_))
  refine oS (mk (KW zr_35) (fun b8=>?_))
  refine oP (Kb (v:=.int .i64 ((0:Nat):Int)) rfl) ?_
  refine KC ?_
  refine KB (KA ?_)
  refine oM ?_
  refine oS (cF rfl en_80 rfl (fun w hw=>c_Open_none id w h) ?_)
  refine oA ?_
  refine KC ?_
  refine KB ?_
  refine LCode.block ?_
  refine KB (KA ?_)
  refine oM ?_
  refine oP (KM (Det.eqp Try.underlying110 rfl rfl) (show _ = Value.bool true from rfl)) ?_
  refine oA ?_
  refine KC ?_
  refine Ki rfl ?_
  refine KB (KA ?_)
  refine oP (KM (KAD pl_35 zr_35 rfl rfl) (show _ = ptV 0 0 false from pt_zero)) ?_
  refine KV rfl (sA rfl rfl sz_35 (by repeat (first|exact KZ _|exact Kg _ _ _|exact Ka _|exact Kc _ _ _|exact Kj _ _ _|exact KN|refine KJ rfl ?_|refine KL ?_ ?_)) (hl:=by first|exact KD _|exact KG _ _ _|exact KE _|exact KK _ _ _|exact KU _ _ _|rfl|simp [KG,KD,KE]) (h:=?_))
  refine oP (Kb (v:=.int .i64 ((2000:Nat):Int)) rfl) ?_
  refine KC (KO ?_)
  refine ⟨[_,_],.cons ⟨_,_,_,rfl,(by repeat (first|exact Mh _|apply Mt)),by exact KI Try.underlying35 rfl sz_35⟩ (.cons rfl .nil),fun a w' hr=>⟨?_,hr.fr.below⟩⟩
  rfl
theorem c_dualMul_range (id:Int) (V:Cv) (U W:Nat) (Q:Pt V.p) (w:World) (h:cvI id = some V) (hQ:On V.A V.B Q) (hU9:U<W9) (hW9:W<W9) (hr:V.n≤U∨V.n≤W):Calls Try.prog 73 ([.int .i64 id,natV U,natV W,ptP Q]:List Value).toArray w (fun e w'=>e = .returned (.tuple #[ptV 0 0 false,.int .i64 ((2002:Nat):Int)])∧Below w.heap.size w w'):=by
  obtain ⟨hok,hid⟩:=cvI_ok h
  have hbb:=hok.bounds
  have hpW:V.p<W9:=w9_521 hbb.2.1
  have hnW:V.n<W9:=w9_521 hbb.2.2.2.2.2.2.1
  have hbl:=blen_w9 hnW
  have hnb:nby V.n≤72:=by (unfold nby; omega)
  refine Kn (N:=48) (rs:=[.cell 8 35,.tmp 9]) [] Try.func73 rfl Try.ntmps73 Try.results73 (Nb rfl) trivial rfl ?_
  show LCode _ _ _ ⟨_,_⟩ _
  refine KB (KA ?_)
  refine oS (mB (fun b5=>?_))
  refine oS (mB (fun b6=>?_))
  refine oS (mB (fun b7=>?_))
  refine oS (mk (KW zr_35) (fun b8=>?_))
  refine oP (Kb (v:=.int .i64 ((0:Nat):Int)) rfl) ?_
  refine KC ?_
  refine KB (KA ?_)
  refine oM ?_
  refine oS (LStep.callZ (Post:=fun v its=>∃ b f bd,v = .pointer (some ⟨b,0,none⟩)∧its = [.blk b ⟨false,opL V f,129,(0,0)⟩,.blk f ⟨false,fldL V.p bd,162,(0,0)⟩,.blk bd ⟨false,dvL V.p,212,(0,0)⟩]) (first:=[]) rfl en_80 rfl (Nb rfl) (fun w1 hw hs=>(c_Open _ V w1 h).mono fun e w' ⟨b,f,bd,h1,h2,h3,h4,h5,h6,h7,h8⟩=>⟨_,_,⟨b,f,bd,rfl,rfl⟩,h1,Brings.nums h8 (by intro x hx; simp at hx; rcases hx with rfl|rfl|rfl; exact h2; exact h3; exact h4) (by intro x hx; simp at hx; rcases hx with rfl|rfl|rfl <;> rfl) (by intro x hx k hk; simp at hx; rcases hx with rfl|rfl|rfl <;> simp [Item.fp] at hk <;> subst hk; exact .inl h5; exact .inl h6; exact .inl h7)⟩) ?_)
  rintro _ _ ⟨b,f,bd,rfl,rfl⟩
  refine oA ?_
  refine KC ?_
  refine KB ?_
  refine LCode.block ?_
  refine KB (KA ?_)
  refine oM ?_
  refine oP (KM (Det.eqp Try.underlying110 rfl rfl) (show _ = Value.bool false from rfl)) ?_
  refine oA ?_
  refine KC ?_
  refine KY rfl ?_
  refine KB (KA ?_)
  refine oM ?_
  refine oD (dL rfl (hv:=by exact KI Try.underlying35 rfl sz_35)) ?_
  refine oS (cF rfl en_81 rfl (fun w hw=>c_cOnP V b f bd hok (Q) w (mC hw) (mC hw) (mC hw) hQ) ?_)
  refine oP (KM (Det.not rfl) (show _ = Value.bool false from rfl)) ?_
  refine oA ?_
  refine KC ?_
  refine KY rfl ?_
  refine KB ?_
  rcases (show V.n≤U∨(U<V.n∧V.n≤W) by omega) with h1|⟨h1,h2⟩
  ·
    refine rD [] ?_
    refine aD 0 rfl (dL rfl (hv:=by exact KI Try.underlying33 rfl sz_33)) ?_
    refine aM 1 ?_
    refine aP 2 rfl (KP rfl) ?_
    refine aP 3 rfl (KH (o':=0) Try.underlying129 rfl rfl rfl KAV (by decide)) ?_
    refine aP 4 rfl (KH (o':=28) Try.underlying126 rfl rfl rfl sz_33 (by decide)) ?_
    refine aD 5 rfl (dL rfl (hv:=by exact cvC_ld_n _ _ _ _ _ _ _ _ _ _ _ _ _ _ _ _)) ?_
    refine aO 6 rfl (cF rfl en_97 rfl (fun w hw=>c_nat_Cmp U V.n hU9 hnW w) ?_)
    refine aP 7 rfl (KF (v:=.bool true) rfl rfl (br_t cmp_geq (h1))) ?_
    refine aM 8 ?_
    refine aK 9 ?_
    refine aK 10 ?_
    refine aK 11 ?_
    refine aK 12 ?_
    refine aK 13 ?_
    refine aK 14 ?_
    refine aK 15 ?_
    refine aK 16 ?_
    refine aP 17 rfl (Kx rfl rfl) ?_
    refine aA 18 ?_
    refine aE ?_
    refine Ki rfl ?_
    refine KB (KA ?_)
    refine oP (KM (KAD pl_35 zr_35 rfl rfl) (show _ = ptV 0 0 false from pt_zero)) ?_
    refine KV rfl (sA rfl rfl sz_35 (by repeat (first|exact KZ _|exact Kg _ _ _|exact Ka _|exact Kc _ _ _|exact Kj _ _ _|exact KN|refine KJ rfl ?_|refine KL ?_ ?_)) (hl:=by first|exact KD _|exact KG _ _ _|exact KE _|exact KK _ _ _|exact KU _ _ _|rfl|simp [KG,KD,KE]) (h:=?_))
    refine oP (Kb (v:=.int .i64 ((2002:Nat):Int)) rfl) ?_
    refine KC (KO ?_)
    refine ⟨[_,_],.cons ⟨_,_,_,rfl,(by repeat (first|exact Mh _|apply Mt)),by exact KI Try.underlying35 rfl sz_35⟩ (.cons rfl .nil),fun a w' hr=>⟨?_,hr.fr.below⟩⟩
    rfl
  ·
    refine rD [] ?_
    refine aD 0 rfl (dL rfl (hv:=by exact KI Try.underlying33 rfl sz_33)) ?_
    refine aM 1 ?_
    refine aP 2 rfl (KP rfl) ?_
    refine aP 3 rfl (KH (o':=0) Try.underlying129 rfl rfl rfl KAV (by decide)) ?_
    refine aP 4 rfl (KH (o':=28) Try.underlying126 rfl rfl rfl sz_33 (by decide)) ?_
    refine aD 5 rfl (dL rfl (hv:=by exact cvC_ld_n _ _ _ _ _ _ _ _ _ _ _ _ _ _ _ _)) ?_
    refine aO 6 rfl (cF rfl en_97 rfl (fun w hw=>c_nat_Cmp U V.n hU9 hnW w) ?_)
    refine aP 7 rfl (KF (v:=.bool false) rfl rfl (br_f cmp_geq (Nat.not_le_of_gt h1))) ?_
    refine aM 8 ?_
    refine aGD 9 rfl (dL rfl (hv:=by exact KI Try.underlying33 rfl sz_33)) ?_
    refine aGM 10 ?_
    refine aGP 11 rfl (KP rfl) ?_
    refine aGP 12 rfl (KH (o':=0) Try.underlying129 rfl rfl rfl KAV (by decide)) ?_
    refine aGP 13 rfl (KH (o':=28) Try.underlying126 rfl rfl rfl sz_33 (by decide)) ?_
    refine aGD 14 rfl (dL rfl (hv:=by exact cvC_ld_n _ _ _ _ _ _ _ _ _ _ _ _ _ _ _ _)) ?_
    refine aGO 15 rfl (cF rfl en_97 rfl (fun w hw=>c_nat_Cmp W V.n hW9 hnW w) ?_)
    refine aGP 16 rfl (KF (v:=.bool true) rfl rfl (br_t cmp_geq (h2))) ?_
    refine aP 17 rfl (Kv rfl rfl) ?_
    refine aA 18 ?_
    refine aE ?_
    refine Ki rfl ?_
    refine KB (KA ?_)
    refine oP (KM (KAD pl_35 zr_35 rfl rfl) (show _ = ptV 0 0 false from pt_zero)) ?_
    refine KV rfl (sA rfl rfl sz_35 (by repeat (first|exact KZ _|exact Kg _ _ _|exact Ka _|exact Kc _ _ _|exact Kj _ _ _|exact KN|refine KJ rfl ?_|refine KL ?_ ?_)) (hl:=by first|exact KD _|exact KG _ _ _|exact KE _|exact KK _ _ _|exact KU _ _ _|rfl|simp [KG,KD,KE]) (h:=?_))
    refine oP (Kb (v:=.int .i64 ((2002:Nat):Int)) rfl) ?_
    refine KC (KO ?_)
    refine ⟨[_,_],.cons ⟨_,_,_,rfl,(by repeat (first|exact Mh _|apply Mt)),by exact KI Try.underlying35 rfl sz_35⟩ (.cons rfl .nil),fun a w' hr=>⟨?_,hr.fr.below⟩⟩
    rfl
theorem c_dualMul (id:Int) (V:Cv) (U W:Nat) (Q:Pt V.p) (w:World) (h:cvI id = some V) (hQ:On V.A V.B Q) (hU:U<V.n) (hW:W<V.n):Calls Try.prog 73 ([.int .i64 id,natV U,natV W,ptP Q]:List Value).toArray w (fun e w'=>e = .returned (.tuple #[ptP (dualP V U W Q),.int .i64 ((0:Nat):Int)])∧Below w.heap.size w w'):=by
  obtain ⟨hok,hid⟩:=cvI_ok h
  have hbb:=hok.bounds
  have hpW:V.p<W9:=w9_521 hbb.2.1
  have hnW:V.n<W9:=w9_521 hbb.2.2.2.2.2.2.1
  have hbl:=blen_w9 hnW
  have hnb:nby V.n≤72:=by (unfold nby; omega)
  have hU9:=Nat.lt_trans hU hnW
  have hW9:=Nat.lt_trans hW hnW
  refine Kn (N:=48) (rs:=[.cell 8 35,.tmp 9]) [] Try.func73 rfl Try.ntmps73 Try.results73 (Nb rfl) trivial rfl ?_
  show LCode _ _ _ ⟨_,_⟩ _
  refine KB (KA ?_)
  refine oS (mB (fun b5=>?_))
  refine oS (mB (fun b6=>?_))
  refine oS (mB (fun b7=>?_))
  refine oS (mk (KW zr_35) (fun b8=>?_))
  refine oP (Kb (v:=.int .i64 ((0:Nat):Int)) rfl) ?_
  refine KC ?_
  refine KB (KA ?_)
  refine oM ?_
  refine oS (LStep.callZ (Post:=fun v its=>∃ b f bd,v = .pointer (some ⟨b,0,none⟩)∧its = [.blk b ⟨false,opL V f,129,(0,0)⟩,.blk f ⟨false,fldL V.p bd,162,(0,0)⟩,.blk bd ⟨false,dvL V.p,212,(0,0)⟩]) (first:=[]) rfl en_80 rfl (Nb rfl) (fun w1 hw hs=>(c_Open _ V w1 h).mono fun e w' ⟨b,f,bd,h1,h2,h3,h4,h5,h6,h7,h8⟩=>⟨_,_,⟨b,f,bd,rfl,rfl⟩,h1,Brings.nums h8 (by intro x hx; simp at hx; rcases hx with rfl|rfl|rfl; exact h2; exact h3; exact h4) (by intro x hx; simp at hx; rcases hx with rfl|rfl|rfl <;> rfl) (by intro x hx k hk; simp at hx; rcases hx with rfl|rfl|rfl <;> simp [Item.fp] at hk <;> subst hk; exact .inl h5; exact .inl h6; exact .inl h7)⟩) ?_)
  rintro _ _ ⟨b,f,bd,rfl,rfl⟩
  refine oA ?_
  refine KC ?_
  refine KB ?_
  refine LCode.block ?_
  refine KB (KA ?_)
  refine oM ?_
  refine oP (KM (Det.eqp Try.underlying110 rfl rfl) (show _ = Value.bool false from rfl)) ?_
  refine oA ?_
  refine KC ?_
  refine KY rfl ?_
  refine KB (KA ?_)
  refine oM ?_
  refine oD (dL rfl (hv:=by exact KI Try.underlying35 rfl sz_35)) ?_
  refine oS (cF rfl en_81 rfl (fun w hw=>c_cOnP V b f bd hok (Q) w (mC hw) (mC hw) (mC hw) hQ) ?_)
  refine oP (KM (Det.not rfl) (show _ = Value.bool false from rfl)) ?_
  refine oA ?_
  refine KC ?_
  refine KY rfl ?_
  refine KB ?_
  refine rD [] ?_
  refine aD 0 rfl (dL rfl (hv:=by exact KI Try.underlying33 rfl sz_33)) ?_
  refine aM 1 ?_
  refine aP 2 rfl (KP rfl) ?_
  refine aP 3 rfl (KH (o':=0) Try.underlying129 rfl rfl rfl KAV (by decide)) ?_
  refine aP 4 rfl (KH (o':=28) Try.underlying126 rfl rfl rfl sz_33 (by decide)) ?_
  refine aD 5 rfl (dL rfl (hv:=by exact cvC_ld_n _ _ _ _ _ _ _ _ _ _ _ _ _ _ _ _)) ?_
  refine aO 6 rfl (cF rfl en_97 rfl (fun w hw=>c_nat_Cmp U V.n hU9 hnW w) ?_)
  refine aP 7 rfl (KF (v:=.bool false) rfl rfl (br_f cmp_geq (Nat.not_le_of_gt hU))) ?_
  refine aM 8 ?_
  refine aGD 9 rfl (dL rfl (hv:=by exact KI Try.underlying33 rfl sz_33)) ?_
  refine aGM 10 ?_
  refine aGP 11 rfl (KP rfl) ?_
  refine aGP 12 rfl (KH (o':=0) Try.underlying129 rfl rfl rfl KAV (by decide)) ?_
  refine aGP 13 rfl (KH (o':=28) Try.underlying126 rfl rfl rfl sz_33 (by decide)) ?_
  refine aGD 14 rfl (dL rfl (hv:=by exact cvC_ld_n _ _ _ _ _ _ _ _ _ _ _ _ _ _ _ _)) ?_
  refine aGO 15 rfl (cF rfl en_97 rfl (fun w hw=>c_nat_Cmp W V.n hW9 hnW w) ?_)
  refine aGP 16 rfl (KF (v:=.bool false) rfl rfl (br_f cmp_geq (Nat.not_le_of_gt hW))) ?_
  refine aP 17 rfl (Kv rfl rfl) ?_
  refine aA 18 ?_
  refine aE ?_
  refine KY rfl ?_
  refine KS ?_
  refine KB (KA ?_)
  refine oM ?_
  refine oD (dL rfl (hv:=by exact KI Try.underlying33 rfl sz_33)) ?_
  refine oD (dL rfl (hv:=by exact KI Try.underlying33 rfl sz_33)) ?_
  refine oD (dL rfl (hv:=by exact KI Try.underlying35 rfl sz_35)) ?_
  refine oS (cF rfl en_108 rfl (fun w hw=>c_dualTimes V b f bd hok U W Q hQ hU hW w (mC hw) (mC hw) (mC hw)) ?_)
  refine KV rfl (sA rfl rfl sz_35 (by repeat (first|exact KZ _|exact Kg _ _ _|exact Ka _|exact Kc _ _ _|exact Kj _ _ _|exact KN|refine KJ rfl ?_|refine KL ?_ ?_)) (hl:=by first|exact KD _|exact KG _ _ _|exact KE _|exact KK _ _ _|exact KU _ _ _|rfl|simp [KG,KD,KE]) (h:=?_))
  refine oP (Kb (v:=.int .i64 ((0:Nat):Int)) rfl) ?_
  refine KC (KO ?_)
  refine ⟨[_,_],.cons ⟨_,_,_,rfl,(by repeat (first|exact Mh _|apply Mt)),by exact KI Try.underlying35 rfl sz_35⟩ (.cons rfl .nil),fun a w' hr=>⟨?_,hr.fr.below⟩⟩
  rfl
end Go.Proofs.Ytlmiolnccgjjjaa
set_option linter.unusedVariables false
set_option linter.unusedSimpArgs false
set_option maxRecDepth 20000
namespace Go.Proofs.Ytlmiolnccgjjjaa
open Go Go.RowKit
open Grp
section
variable {P:Program} {C:Ctx} {d:Nat} {ty:TypeId} {pos:String} {aft:Array Edge} {K:St→Prop} {x:Operand} {v:Value}
end
theorem pt_set1 (X Y Y':Nat) (i:Bool):splice (ptL X Y i) 9 (natL Y') = ptL X Y' i:=splice_mid (A:=natL X) (B:=natL Y) (D:=[.bool i]) (by simp [ptL]) (KD _) (by rw [KD,KD]) (by simp [ptL])
end Go.Proofs.Ytlmiolnccgjjjaa
set_option linter.unusedVariables false
set_option linter.unusedSimpArgs false
set_option maxRecDepth 20000
namespace Go.Proofs.Ytlmiolnccgjjjaa
open Go Go.RowKit
open Grp
def ptPL {p:Nat} (P:Pt p):List Value:=ptL (xv P) (yv P) (iv P)
theorem ptPL_length {p:Nat} (P:Pt p):(ptPL P).length = 19:=KK _ _ _
theorem ptPL_one {p:Nat} (P:Pt p):AllOne (ptPL P):=Kc _ _ _
def tabL {p:Nat} (E:Nat→Pt p):Nat→List Value
  | 0=>[]
  | n+1=>tabL E n++ptPL (E n)
theorem tabL_length {p:Nat} (E:Nat→Pt p):∀ n,(tabL E n).length = n*19
  | 0=>rfl
  | n+1=>by show (tabL E n++ptPL (E n)).length = _; rw [List.length_append,tabL_length E n,ptPL_length]; omega
theorem tabL_at {p:Nat} (E:Nat→Pt p) {k:Nat}:∀ {n},k<n→∃ post,tabL E n = tabL E k++(ptPL (E k)++post)
  | 0,h=>by omega
  | n+1,h=>by
    by_cases e:k = n
    · subst e; exact ⟨[],by rw [List.append_nil]; rfl⟩
    · obtain ⟨post,hp⟩:=tabL_at E (show k<n by omega)
      exact ⟨post++ptPL (E n),by show tabL E n++ptPL (E n) = _; rw [hp]; simp only [List.append_assoc]⟩
theorem tab_load {p:Nat} {wr:Bool} {e:TypeId} {fz:Nat×Nat} (E:Nat→Pt p) {k n:Nat} (h:k<n) (rest:List Value):LoadV Try.prog 35 ⟨wr,tabL E n++rest,e,fz⟩ (0+k*19) (ptP (E k)):=by
  obtain ⟨post,hp⟩:=tabL_at E h
  exact LoadV.mid (pre:=tabL E k) (cs:=ptPL (E k)) (post:=post++rest) Try.underlying35 rfl sz_35 (by show tabL E n++rest = _; rw [hp]; simp only [List.append_assoc]) (by rw [tabL_length]; omega) (ptPL_length _)
theorem inf_pt:infOf Try.prog 35 = some (.agg (vec .u64 9 (fun _=>0)++(vec .u64 9 (fun _=>0)++[Value.bool false]):List Value).toArray,19,152):=by kernel_rfl
theorem fill_ptR {p:Nat} (P:Pt p):fillL ((List.range 1).map fun i=>(i*19,19)) (vec .u64 9 (fun _=>0)++(vec .u64 9 (fun _=>0)++[Value.bool false])) [(0,.agg (ptPL P).toArray)] = some (ptPL P):=fillL_whole (by simp [KG]) (ptPL_length P)
theorem row_pt:((Array.range (1*19)).map fun i=>(Value.agg (vec .u64 9 (fun _=>0)++(vec .u64 9 (fun _=>0)++[Value.bool false]):List Value).toArray).cells[i%(Value.agg (vec .u64 9 (fun _=>0)++(vec .u64 9 (fun _=>0)++[Value.bool false]):List Value).toArray).cells.size]!) = (vec .u64 9 (fun _=>0)++(vec .u64 9 (fun _=>0)++[Value.bool false]):List Value).toArray:=by kernel_rfl
noncomputable abbrev mulE (V:Cv) (P:Pt V.p):Nat→Pt V.p:=fun j=>pmul V.A P j
structure TabS (p:Nat) where
  k:Nat
  T:Fin p×Fin p×Fin p
  br:Nat
  cap:Nat
  rest:List Value
theorem Brings.two {w w':World} {b c:Nat} {B D:Blk} (hb:Below w.heap.size w w') (h1:(Item.blk b B).holds w') (h2:(Item.blk c D).holds w') (n1:w.heap.size≤b) (n2:w.heap.size≤c) (hne:c≠b):Brings w [] [.blk b B,.blk c D] w':=by
  have key:∀ x,x∈[Item.blk b B,.blk c D]→∀ k,k∈x.fp→w.heap.size≤k:=fun x hx k hk=>by
    rcases List.mem_cons.1 hx with rfl|hx
    · obtain rfl:k = b:=by simpa [Item.fp] using hk
      exact n1
    · obtain rfl:x = _:=by simpa using hx
      obtain rfl:k = c:=by simpa [Item.fp] using hk
      exact n2
  refine ⟨hb,fun x hx=>?_,fun x hx k hk=>.inl (key x hx k hk),fun x hx _=>key x hx,List.pairwise_cons.2 ⟨fun y hy _ k hk hk'=>?_,List.pairwise_singleton _ _⟩⟩
  · rcases List.mem_cons.1 hx with rfl|hx
    · exact h1
    · obtain rfl:x = _:=by simpa using hx
      exact h2
  · obtain rfl:y = _:=by simpa using hy
    obtain rfl:k = b:=by simpa [Item.fp] using hk
    exact hne (by simpa [Item.fp] using hk':k = c).symm
theorem bringsC {P:Program} {f:FuncId} {a:Array Value} {w:World} {Q:Value→List Item→Prop} (h:Calls P f a w (fun e w'=>∃ v its,Q v its∧e = .returned v∧Brings w [] its w')) (H:List Item):Calls P f a w (fun e w'=>∃ v its,Q v its∧e = .returned v∧Brings w H its w') :=
  h.mono fun e w' ⟨v,its,h1,h2,h3⟩=>⟨v,its,h1,h2,h3.more (fun x hx=>by cases hx)⟩
theorem c_tabOf (V:Cv) (b f bd:Nat) (hok:V.Ok) (P:Pt V.p) (hP:On V.A V.B P) (n:Nat) (hn0:1≤n) (hn:n≤16) (w:World) (hb:(Item.blk b ⟨false,opL V f,129,(0,0)⟩).holds w) (hf:(Item.blk f ⟨false,fldL V.p bd,162,(0,0)⟩).holds w) (hbd:(Item.blk bd ⟨false,dvL V.p,212,(0,0)⟩).holds w):Calls Try.prog 82 ([.pointer (some ⟨b,0,none⟩),ptP P,.int .i64 ((n:Nat):Int)]:List Value).toArray w (fun e w'=>∃ v its,(fun v its=>∃ bt br cap rest,v = .pointer (some ⟨bt,0,none⟩)∧its = [.blk bt ⟨true,[.slice (some ⟨br,0,none⟩) n cap],116,(0,0)⟩,.blk br ⟨true,tabL (mulE V P) n++rest,35,(0,0)⟩]) v its∧e = .returned v∧Brings w [] its w'):=by
  refine Kn (N:=36) (rs:=[.tmp 6]) [.blk b ⟨false,opL V f,129,(0,0)⟩,.blk f ⟨false,fldL V.p bd,162,(0,0)⟩,.blk bd ⟨false,dvL V.p,212,(0,0)⟩] Try.func82 rfl Try.ntmps82 Try.results82 (Nb rfl) ⟨hb,hf,hbd,trivial⟩ rfl ?_
  show LCode _ _ _ ⟨_,_⟩ _
  refine KB (KA ?_)
  refine oS (mB (fun b4=>?_))
  refine oA ?_
  refine KC ?_
  refine KB (KA ?_)
  refine oP (KAD pl_116 zr_116 rfl rfl) ?_
  refine oS (mB (fun b11=>?_))
  refine oA ?_
  refine KC ?_
  refine KB (KA ?_)
  refine oD (dL rfl (hv:=by exact KI Try.underlying35 rfl sz_35)) ?_
  refine oS (cF rfl en_122 rfl (fun w hw=>c_Triple V hok P w) ?_)
  refine oS (cF rfl en_123 rfl (fun w hw=>c_NoneF hok w) ?_)
  refine oS (mk (KW zr_172) (fun b8=>?_))
  refine oS (mk (KW zr_172) (fun b9=>?_))
  refine KV rfl (sA rfl rfl KAT (by exact pjFL_one _) (hl:=by exact KAE _) (h:=?_))
  refine KV rfl (sA rfl rfl KAT (by exact pjFL_one _) (hl:=by exact KAE _) (h:=?_))
  refine KC ?_
  refine KB ?_
  refine KB (KA ?_)
  refine oM ?_
  refine oP (Kt (v:=.int .i64 ((0:Nat):Int)) rfl) ?_
  refine KC ?_
  refine LCode.block ?_
  refine Ku (α:=Option (TabS V.p)) (fun x=>match x with|none=>True|some y=>1≤y.k∧y.k≤n∧RepT V y.T (pmul V.A P y.k)∧(tabL (mulE V P) y.k).length+y.rest.length = y.cap*19) (fun x=>match x with|none=>⟨[(0,.pointer (some ⟨b,0,none⟩)),(7,.pointer (some ⟨b11,0,none⟩)),(8,.pointer (some ⟨b8,0,none⟩)),(9,.pointer (some ⟨b9,0,none⟩)),(15,.int .i64 ((n:Nat):Int)),(16,.int .i64 ((0:Nat):Int))],[.blk b11 ⟨true,[.slice none 0 0],116,(0,0)⟩,.blk b9 ⟨true,pjFL (tripF (.inf:Pt V.p)),172,(0,0)⟩,.blk b8 ⟨true,pjFL (tripF P),172,(0,0)⟩,.blk b ⟨false,opL V f,129,(0,0)⟩,.blk f ⟨false,fldL V.p bd,162,(0,0)⟩,.blk bd ⟨false,dvL V.p,212,(0,0)⟩]⟩|some y=>⟨[(0,.pointer (some ⟨b,0,none⟩)),(7,.pointer (some ⟨b11,0,none⟩)),(8,.pointer (some ⟨b8,0,none⟩)),(9,.pointer (some ⟨b9,0,none⟩)),(15,.int .i64 ((n:Nat):Int)),(16,.int .i64 ((y.k:Nat):Int))],[.blk b11 ⟨true,[.slice (some ⟨y.br,0,none⟩) y.k y.cap],116,(0,0)⟩,.blk y.br ⟨true,tabL (mulE V P) y.k++y.rest,35,(0,0)⟩,.blk b9 ⟨true,pjFL y.T,172,(0,0)⟩,.blk b8 ⟨true,pjFL (tripF P),172,(0,0)⟩,.blk b ⟨false,opL V f,129,(0,0)⟩,.blk f ⟨false,fldL V.p bd,162,(0,0)⟩,.blk bd ⟨false,dvL V.p,212,(0,0)⟩]⟩) (fun x=>match x with|none=>n+1|some y=>n-y.k) (none) (trivial) (Kp ⟨rfl,rfl,rfl,rfl,rfl,rfl,trivial⟩ (by repeat (first|exact Sel.nil _|refine Sel.cons (by repeat (first|exact Ph _|apply Pt_)) ?_))) ?_
  intro x hx
  refine KB ?_
  rcases x with _|⟨k,T,br,cap,rest⟩
  ·
    refine KA ?_
    refine oP (KF (v:=.bool true) rfl rfl (br_t KAa (by omega))) ?_
    refine KC ?_
    refine KB ?_
    refine Ki rfl ?_
    refine KS ?_
    refine KB ?_
    refine LCode.block ?_
    refine KB ?_
    refine rD [9,12] ?_
    refine aM 0 ?_
    refine aM 1 ?_
    refine aP 2 rfl (KP rfl) ?_
    refine aP 3 rfl (KH (o':=0) Try.underlying116 rfl rfl rfl sz_114 (by decide)) ?_
    refine aD 4 rfl (dL rfl (hv:=KQ Try.underlying114 rfl (by first|rfl|exact Kf _ _ _ (by omega)|exact Ke _ (by omega)|exact Kd _ (by omega)|exact dv_m _ _ _ (by omega)))) ?_
    refine aM 5 ?_
    refine aO 6 rfl (LStep.det (dL rfl (hv:=by exact KI Try.underlying172 rfl KAT)) (Nb rfl) ?_)
    refine aO 7 rfl (cF rfl en_124 rfl (fun w hw=>c_PlainT V b f bd hok (tripF (.inf:Pt V.p)) (mulE V P 0) w (mC hw) (mC hw) (mC hw) (RepT.trip hok trivial)) ?_)
    refine aO 8 rfl (mk (Makes.row (vs:=[(0,.agg (ptPL (mulE V P 0)).toArray)]) Try.underlying114 inf_pt (by decide) row_pt rfl (fill_ptR (mulE V P 0)) (fun h=>by cases h)) (fun b26=>?_))
    refine aL 9 rfl (LStepW.appendNilS (s:=19) (news:=ptPL (mulE V P 0)) rfl rfl Try.underlying114 inf_pt rfl (by repeat (first|exact Mh _|apply Mt)) (ptPL_length _) (by decide) (by decide) (by decide) (Nb rfl) ?_)
    intro b1 cap1 rest1 hc1
    refine aP 10 rfl (KP rfl) ?_
    refine aP 11 rfl (KH (o':=0) Try.underlying116 rfl rfl rfl sz_114 (by decide)) ?_
    refine aL 12 rfl (Kh rfl rfl rfl sz_114 (by repeat (first|exact Sh _|apply St_)) (by first|(simp only [KG,KD,KE,Ks]; omega)|(simp; done)|(simp; omega)) (by first|exact KAG _ _ _ _ _|exact KAK _ _ _ _ (by omega)|exact KAJ _ _ _ _|rfl) (by simp) ?_)
    refine aE ?_
    refine KA ?_
    refine oM ?_
    refine oD (dL rfl (hv:=by exact KI Try.underlying172 rfl KAT)) ?_
    refine oD (dL rfl (hv:=by exact KI Try.underlying172 rfl KAT)) ?_
    refine oS (cF rfl en_125 rfl (fun w hw=>c_SumT V b f bd hok (tripF (.inf:Pt V.p)) (tripF P) w (mC hw) (mC hw) (mC hw)) ?_)
    refine KV rfl (sA rfl rfl KAT (by exact pjFL_one _) (hl:=by exact KAE _) (h:=?_))
    refine KC ?_
    refine KA ?_
    refine oP (KF rfl rfl (Kw (b:=1) (by omega))) ?_
    refine oM ?_
    refine KC ?_
    exact ⟨some ⟨0+1,sumT V (tripF (.inf:Pt V.p)) (tripF P),b1,cap1,rest1⟩,⟨Nat.le_add_left _ _,by show 0+1≤n; omega,RepT.sum hok (RepT.trip hok trivial) (RepT.trip hok hP),by rw [ptPL_length] at hc1; show (tabL (mulE V P) (0+1)).length+rest1.length = cap1*19; rw [tabL_length]; omega⟩,by show n-(0+1)<n+1; omega,KAP (Sub.cells (b:=b1) (cs':=tabL (mulE V P) (0+1)++rest1) (by repeat (first|exact Sh _|apply St_)) (by rfl)) (Kp ⟨rfl,rfl,rfl,rfl,rfl,rfl,trivial⟩ (by repeat (first|exact Sel.nil _|refine Sel.cons (by repeat (first|exact Ph _|apply Pt_)) ?_)))⟩
  ·
    obtain ⟨hk1,hkn,hT,hcap⟩:=hx
    dsimp only at hk1 hkn hT hcap
    refine KA ?_
    refine oP (KF rfl rfl (KAa)) ?_
    refine KC ?_
    refine KB ?_
    first|refine KR rfl (fun h17=>?_) (fun h17=>?_)|refine KT rfl (fun h17=>?_) (fun h17=>?_)
    ·
      have h17:k<n:=h17
      refine KS ?_
      refine KB ?_
      refine LCode.block ?_
      refine KB ?_
      refine rD [9,12] ?_
      refine aM 0 ?_
      refine aM 1 ?_
      refine aP 2 rfl (KP rfl) ?_
      refine aP 3 rfl (KH (o':=0) Try.underlying116 rfl rfl rfl sz_114 (by decide)) ?_
      refine aD 4 rfl (dL rfl (hv:=KQ Try.underlying114 rfl (by first|rfl|exact Kf _ _ _ (by omega)|exact Ke _ (by omega)|exact Kd _ (by omega)|exact dv_m _ _ _ (by omega)))) ?_
      refine aM 5 ?_
      refine aO 6 rfl (LStep.det (dL rfl (hv:=by exact KI Try.underlying172 rfl KAT)) (Nb rfl) ?_)
      refine aO 7 rfl (cF rfl en_124 rfl (fun w hw=>c_PlainT V b f bd hok (T) (mulE V P k) w (mC hw) (mC hw) (mC hw) (hT)) ?_)
      refine aO 8 rfl (mk (Makes.row (vs:=[(0,.agg (ptPL (mulE V P k)).toArray)]) Try.underlying114 inf_pt (by decide) row_pt rfl (fill_ptR (mulE V P k)) (fun h=>by cases h)) (fun b26=>?_))
      refine aL 9 rfl (LStepW.appendS (s:=19) (m:=1) (xs:=tabL (mulE V P) k) (rest:=rest) (news:=ptPL (mulE V P k)) rfl rfl Try.underlying114 inf_pt rfl (by repeat (first|exact Pick.head _|apply Pick.tail)) (by repeat (first|exact Mh _|apply Mt)) (tabL_length _ _) hcap (ptPL_length _) (ptPL_one _) (by omega) (by omega) (Nb rfl) ?_)
      intro b1 cap1 rest1 hc1
      refine aP 10 rfl (KP rfl) ?_
      refine aP 11 rfl (KH (o':=0) Try.underlying116 rfl rfl rfl sz_114 (by decide)) ?_
      refine aL 12 rfl (Kh rfl rfl rfl sz_114 (by repeat (first|exact Sh _|apply St_)) (by first|(simp only [KG,KD,KE,Ks]; omega)|(simp; done)|(simp; omega)) (by first|exact KAG _ _ _ _ _|exact KAK _ _ _ _ (by omega)|exact KAJ _ _ _ _|rfl) (by simp) ?_)
      refine aE ?_
      refine KA ?_
      refine oM ?_
      refine oD (dL rfl (hv:=by exact KI Try.underlying172 rfl KAT)) ?_
      refine oD (dL rfl (hv:=by exact KI Try.underlying172 rfl KAT)) ?_
      refine oS (cF rfl en_125 rfl (fun w hw=>c_SumT V b f bd hok (T) (tripF P) w (mC hw) (mC hw) (mC hw)) ?_)
      refine KV rfl (sA rfl rfl KAT (by exact pjFL_one _) (hl:=by exact KAE _) (h:=?_))
      refine KC ?_
      refine KA ?_
      refine oP (KF rfl rfl (Kw (b:=1) (by omega))) ?_
      refine oM ?_
      refine KC ?_
      exact ⟨some ⟨k+1,sumT V T (tripF P),b1,cap1,rest1⟩,⟨Nat.le_add_left _ _,by show k+1≤n; omega,RepT.sum hok hT (RepT.trip hok hP),by rw [tabL_length,ptPL_length] at hc1; show (tabL (mulE V P) (k+1)).length+rest1.length = cap1*19; rw [tabL_length]; omega⟩,by show n-(k+1)<n-k; omega,KAP (Sub.cells (b:=b1) (cs':=tabL (mulE V P) (k+1)++rest1) (by repeat (first|exact Sh _|apply St_)) (by rfl)) (Kp ⟨rfl,rfl,rfl,rfl,rfl,rfl,trivial⟩ (by repeat (first|exact Sel.nil _|refine Sel.cons (by repeat (first|exact Ph _|apply Pt_)) ?_)))⟩
    ·
      have h17:¬ k<n:=h17
      refine Kr ?_
      refine KB (KA ?_)
      refine oM ?_
      refine oA ?_
      refine KC (KO ?_)
      obtain rfl:k = n:=by omega
      exact ⟨[_],.cons rfl .nil,fun a w' hr=>⟨_,_,⟨b11,br,cap,rest,rfl,rfl⟩,rfl,Brings.two hr.fr.below (hr.hp (.blk b11 ⟨true,_,_,_⟩) (by repeat (first|exact Mh _|apply Mt))) (hr.hp (.blk br ⟨true,_,_,_⟩) (by repeat (first|exact Mh _|apply Mt))) (hr.new (b:=b11) (B:=⟨true,_,_,_⟩) (by repeat (first|exact Mh _|apply Mt)) rfl) (hr.new (b:=br) (B:=⟨true,_,_,_⟩) (by repeat (first|exact Mh _|apply Mt)) rfl) (apart_two hr.dist (b:=b11) (B:=⟨true,_,116,_⟩) (c:=br) (D:=⟨true,_,35,_⟩) (by repeat (first|exact Mh _|apply Mt)) (by repeat (first|exact Mh _|apply Mt)) rfl (fun e=>absurd (show (116:Nat) = 35 from e) (by decide)))⟩⟩
def pk (i A:Nat):Nat→Nat
  | 0=>0
  | k+1=>if k = i then A else pk i A k
theorem pk_low {i A:Nat}:∀ {k},k≤i→pk i A k = 0
  | 0,_=>rfl
  | k+1,h=>by
    show (if k = i then A else pk i A k) = 0
    rw [if_neg (by omega)]; exact pk_low (by omega)
theorem pk_last {i A:Nat}:∀ {k},i<k→pk i A k = A
  | 0,h=>by omega
  | k+1,h=>by
    show (if k = i then A else pk i A k) = A
    by_cases e:k = i
    · rw [if_pos e]
    · rw [if_neg e]; exact pk_last (by omega)
theorem pk_m (i k:Nat):(if k = i then 18446744073709551615 else 0) = 0∨(if k = i then 18446744073709551615 else 0) = 18446744073709551615:=by
  by_cases e:k = i
  · exact .inr (if_pos e)
  · exact .inl (if_neg e)
theorem pk_next (F:Nat→Nat) (i k:Nat):pk i (F i) (k+1) = if (if k = i then 18446744073709551615 else 0) = 0 then pk i (F i) k else F k:=by
  show (if k = i then F i else pk i (F i) k) = _
  by_cases e:k = i
  · rw [if_pos e,if_pos e,if_neg (by decide),e]
  · rw [if_neg e,if_neg e,if_pos rfl]
theorem pk_or {i A z k:Nat} (hz:k = i→z = A) (h1:z≤1):pk i A k ||| (z &&& if k = i then 18446744073709551615 else 0) = pk i A (k+1):=by
  show _ = (if k = i then A else pk i A k)
  by_cases e:k = i
  · rw [if_pos e,if_pos e,pk_low (by omega),Nat.zero_or,and_max (by omega)]; exact hz e
  · rw [if_neg e,if_neg e,Nat.and_zero,Nat.or_zero]
theorem pk_lt {i A:Nat} (h:A≤1):∀ k,pk i A k≤1
  | 0=>Nat.zero_le _
  | k+1=>by
    show (if k = i then A else pk i A k)≤1
    split
    · exact h
    · exact pk_lt h k
def ib {p:Nat} (P:Pt p):Nat:=if iv P = true then 1 else 0
theorem ib_le {p:Nat} (P:Pt p):ib P≤1:=by unfold ib; split <;> omega
theorem ib_eq {p:Nat} (P:Pt p):decide (ib P = 1) = iv P:=by unfold ib; cases iv P <;> rfl
section
variable {P:Program} {C:Ctx} {d:Option Tmp} {ty:TypeId} {pos:String} {aft:Array Edge} {g:Option (Nat×Bool)} {st:St} {x y:Operand} {t e:TypeId}
theorem Det.indexSN {s i : Nat} {k : IntKind} {b o l c : Nat} (ht : P.underlying t = some (.slice e)) (he : szOf P e = some s) (hx : evT st.T x = some (.slice (some ⟨b, o, none⟩) l c)) (hy : evT st.T y = some (.int k (i : Int))) (h1 : i < l) :
    Slots P C ⟨d,.indexAddr t x y,ty,pos,aft,g⟩ st (.pointer (some ⟨b,o+i*s,none⟩)):=by
  have:=Det.indexSl (P:=P) (C:=C) (d:=d) (ty:=ty) (pos:=pos) (aft:=aft) (g:=g) (st:=st) ht he hx hy (by omega) (by omega)
  rwa [Int.toNat_natCast] at this
end
theorem pt_zeroK (i A B:Nat):(vec .u64 9 (fun _=>0)++(vec .u64 9 (fun _=>0)++[Value.bool false]):List Value) = ptL (pk i A 0) (pk i B 0) false:=by
  show _ = ptL 0 0 false
  unfold ptL natL; rw [vec_zeros 9]
theorem pt_set0 (X Y X':Nat) (i:Bool):splice (ptL X Y i) 0 (natL X') = ptL X' Y i:=splice_mid (A:=[]) (B:=natL X) (D:=natL Y++[.bool i]) (by simp [ptL]) rfl (by rw [KD,KD]) (by simp [ptL])
theorem pt_set2 (X Y:Nat) (i j:Bool):(ptL X Y i).set 18 (.bool j) = ptL X Y j:=by
  unfold ptL
  rw [List.set_append_right _ _ (by rw [KD]; decide),KD,List.set_append_right _ _ (by rw [KD]; decide),KD]; rfl
theorem c_tabPick (b:Option Nat) (r:TrRow) (l:List Nat) (bt br cap:Nat) (rest:List Value) {wr1 wr2:Bool} (V:Cv) (hok:V.Ok) (E:Nat→Pt V.p) (n i:Nat) (hi:i<n) (hn:n≤16) (w:World) (h0:(trI b r l).holds w) (h1:(Item.blk bt ⟨wr1,[.slice (some ⟨br,0,none⟩) n cap],116,(0,0)⟩).holds w) (h2:(Item.blk br ⟨wr2,tabL (E) n++rest,35,(0,0)⟩).holds w) (n1:Out b r (Item.blk bt ⟨wr1,[.slice (some ⟨br,0,none⟩) n cap],116,(0,0)⟩)) (n2:Out b r (Item.blk br ⟨wr2,tabL (E) n++rest,35,(0,0)⟩)) (hl:l.length≤90000000):Calls Try.prog 34 ([.pointer (some ⟨bt,0,none⟩),trV b,.int .i64 ((i:Nat):Int)]:List Value).toArray w (fun e w'=>TrR w b r (l++List.range n) (.tuple #[ptP (E i),.int .i64 ((0:Nat):Int)]) e w'):=by
  refine calls_tr (N:=75) (rs:=[.cell 6 35,.tmp 7]) b r l [.blk bt ⟨false,[.slice (some ⟨br,0,none⟩) n cap],116,(0,0)⟩,.blk br ⟨false,tabL (E) n++rest,35,(0,0)⟩] Try.func34 rfl Try.ntmps34 Try.results34 (Nb rfl) h0 ⟨h1,h2,trivial⟩ rfl ⟨n1,n2,trivial⟩ ?_
  show LCode _ _ _ ⟨_,_⟩ _
  refine KB (KA ?_)
  refine oS (mk (KW zr_35) (fun b6=>?_))
  refine oP (Kb (v:=.int .i64 ((0:Nat):Int)) rfl) ?_
  refine KC ?_
  refine KB ?_
  refine LCode.block ?_
  refine KB (KA ?_)
  refine oM ?_
  refine oP (KM (Det.eqp Try.underlying40 rfl rfl) (show _ = Value.bool false from rfl)) ?_
  refine oA ?_
  refine KC ?_
  refine KY rfl ?_
  refine KB (KA ?_)
  refine oM ?_
  refine oP (KF (v:=.bool false) rfl rfl (br_f (KAa (b:=0)) (Nat.not_lt_zero _))) ?_
  refine oM ?_
  refine oGM ?_
  refine oGM ?_
  refine oGP (KP rfl) ?_
  refine oGP (KH (o':=0) Try.underlying116 rfl rfl rfl sz_114 (by decide)) ?_
  refine LOps.detG rfl rfl (dL rfl (hv:=KQ Try.underlying114 rfl (by first|rfl|exact Kf _ _ _ (by omega)|exact Ke _ (by omega)|exact Kd _ (by omega)|exact dv_m _ _ _ (by omega)))) (Nb rfl) ?_
  refine oGP (KAQ Try.underlying114 rfl) ?_
  refine oGP (KF (v:=.bool false) rfl rfl (br_f br_geq (by omega))) ?_
  refine oP (Kv rfl rfl) ?_
  refine oA ?_
  refine KC ?_
  refine KY rfl ?_
  refine KS ?_
  refine KB (KA ?_)
  refine oS (mk (KW zr_35) (fun b8=>?_))
  refine KC ?_
  refine KB (KA ?_)
  refine oP (Kb (v:=.int .u64 ((0:Nat):Int)) rfl) ?_
  refine KC ?_
  refine KB ?_
  refine KB (KA ?_)
  refine oM ?_
  refine oP (KP rfl) ?_
  refine oP (KH (o':=0) Try.underlying116 rfl rfl rfl sz_114 (by decide)) ?_
  refine oD (dL rfl (hv:=KQ Try.underlying114 rfl (by first|rfl|exact Kf _ _ _ (by omega)|exact Ke _ (by omega)|exact Kd _ (by omega)|exact dv_m _ _ _ (by omega)))) ?_
  refine oP (KAQ Try.underlying114 rfl) ?_
  refine oP (Kt (v:=.int .i64 ((0:Nat):Int)) rfl) ?_
  refine KC ?_
  refine LCode.block ?_
  refine Ku (α:=Nat×TrRow) (fun x=>x.1≤n) (fun x=>⟨[(0,.pointer (some ⟨bt,0,none⟩)),(1,trV b),(2,.int .i64 ((i:Nat):Int)),(6,.pointer (some ⟨b6,0,none⟩)),(8,.pointer (some ⟨b8,0,none⟩)),(9,.int .u64 ((pk i (ib (E i)) x.1:Nat):Int)),(34,.slice (some ⟨br,0,none⟩) n cap),(35,.int .i64 ((n:Nat):Int)),(36,.int .i64 ((x.1:Nat):Int))],[trI b x.2 (l++List.range x.1),.blk b8 ⟨true,ptL (pk i (xv (E i)) x.1) (pk i (yv (E i)) x.1) false,35,(0,0)⟩,.blk b6 ⟨true,vec .u64 9 (fun _=>0)++(vec .u64 9 (fun _=>0)++[Value.bool false]),35,(0,0)⟩,.blk bt ⟨false,[.slice (some ⟨br,0,none⟩) n cap],116,(0,0)⟩,.blk br ⟨false,tabL (E) n++rest,35,(0,0)⟩]⟩) (fun x=>n-x.1) ((0,r)) (Nat.zero_le _) (KAP (Sub.cells (b:=b8) (cs':=ptL (pk i (xv (E i)) 0) (pk i (yv (E i)) 0) false) (by repeat (first|exact Sh _|apply St_)) (pt_zeroK _ _ _)) (by dsimp only [List.range_zero]; rw [List.append_nil]; exact Kp ⟨rfl,rfl,rfl,rfl,rfl,rfl,rfl,rfl,rfl,trivial⟩ (by repeat (first|exact Sel.nil _|refine Sel.cons (by repeat (first|exact Ph _|apply Pt_)) ?_)))) ?_
  intro x hx
  refine KB (KA ?_)
  refine oP (KF rfl rfl (KAa)) ?_
  refine KC ?_
  refine KB ?_
  first|refine KR rfl (fun h37=>?_) (fun h37=>?_)|refine KT rfl (fun h37=>?_) (fun h37=>?_)
  ·
    have h37:x.1<n:=h37
    refine KS ?_
    refine KB ?_
    refine LCode.block ?_
    refine KB (KA ?_)
    refine oM ?_
    refine oP (Det.indexSN Try.underlying114 sz_35 rfl rfl (by omega)) ?_
    refine oD (dL rfl (hv:=by exact tab_load E h37 rest)) ?_
    refine oS (mk (KW zr_35) (fun b11=>?_))
    refine oA ?_
    refine KV rfl (sA rfl rfl sz_35 (by exact Kc _ _ _) (hl:=by exact KK _ _ _) (h:=?_))
    refine KC ?_
    refine KB (KA ?_)
    refine oM ?_
    refine oM ?_
    refine KV rfl (LStepW.callT (first:=[]) (r:=x.2) (l:=l++List.range x.1) (l':=l++List.range (x.1+1)) rfl en_83 rfl (Nb rfl) (by repeat (first|exact Pick.head _|apply Pick.tail)) (fun w hw hn=>by rw [List.range_succ,← List.append_assoc]; exact c_trIndex b x.2 _ x.1 w (mC hw) (by rw [List.length_append,List.length_range]; omega)) ?_)
    intro r1
    refine KC ?_
    refine KB (KA ?_)
    refine oM ?_
    refine oP (KAI Try.underlying3 Try.underlying30 rfl (by first|omega|exact Nat.lt_trans (D.limb_lt _ _) (by decide))) ?_
    refine oM ?_
    refine oP (KAI Try.underlying3 Try.underlying30 rfl (by first|omega|exact Nat.lt_trans (D.limb_lt _ _) (by decide))) ?_
    refine oS (cF rfl en_84 rfl (fun w hw=>c_mEqual x.1 i w (by omega) (by omega)) ?_)
    refine oA ?_
    refine KC ?_
    refine KB ?_
    refine rD [13,15] ?_
    refine aM 0 ?_
    refine aP 1 rfl (KH (o':=0) Try.underlying35 rfl rfl rfl sz_33 (by decide)) ?_
    refine aD 2 rfl (dL rfl (hv:=by exact KAH Try.underlying33 rfl sz_33 rfl (KD _))) ?_
    refine aP 3 rfl (KH (o':=0) Try.underlying35 rfl rfl rfl sz_33 (by decide)) ?_
    refine aD 4 rfl (dL rfl (hv:=by exact KAH Try.underlying33 rfl sz_33 rfl (KD _))) ?_
    refine aM 6 ?_
    refine aP 7 rfl (KH (o':=9) Try.underlying35 rfl rfl rfl sz_33 (by decide)) ?_
    refine aP 9 rfl (KH (o':=9) Try.underlying35 rfl rfl rfl sz_33 (by decide)) ?_
    refine aD 10 rfl (dL rfl (hv:=by exact pt_ld1 _ _ _ _ _ _)) ?_
    refine LAny.takeW [11,13,14,15] 8 rfl (by kernel_rfl) (Nb rfl) (dL rfl (hv:=by exact pt_ld1 _ _ _ _ _ _)) ?_
    refine aO 5 rfl (cF rfl en_85 rfl (fun w hw=>c_mSelect (if x.1 = i then 18446744073709551615 else 0) (xv (E x.1)) (pk i (xv (E i)) x.1) (pk i (xv (E i)) (x.1+1)) w (pk_m _ _) (pk_next (fun j=>xv (E j)) i x.1)) ?_)
    refine aP 12 rfl (KH (o':=0) Try.underlying35 rfl rfl rfl sz_33 (by decide)) ?_
    refine aO 11 rfl (cF rfl en_85 rfl (fun w hw=>c_mSelect (if x.1 = i then 18446744073709551615 else 0) (yv (E x.1)) (pk i (yv (E i)) x.1) (pk i (yv (E i)) (x.1+1)) w (pk_m _ _) (pk_next (fun j=>yv (E j)) i x.1)) ?_)
    refine aL 13 rfl (KAA rfl rfl rfl sz_33 (KD _) (KZ _) (by repeat (first|exact Sh _|apply St_)) (by simp only [KK]; decide) (pt_set0 _ _ _ _) (by simp) ?_)
    refine aP 14 rfl (KH (o':=9) Try.underlying35 rfl rfl rfl sz_33 (by decide)) ?_
    refine aL 15 rfl (KAA rfl rfl rfl sz_33 (KD _) (KZ _) (by repeat (first|exact Sh _|apply St_)) (by simp only [KK]; decide) (pt_set1 _ _ _ _) (by simp) ?_)
    refine aE ?_
    refine KB (KA ?_)
    refine oP (Kb (v:=.int .u64 ((0:Nat):Int)) rfl) ?_
    refine KC ?_
    refine KB ?_
    refine KB ?_
    cases hiv:iv (E x.1)
    ·
      refine KA ?_
      refine oP (KH (o':=18) Try.underlying35 rfl rfl rfl sz_4 (by decide)) ?_
      refine oD (dL rfl (hv:=KQ Try.underlying4 rfl (by exact pt_gt _ _ _))) ?_
      refine KC ?_
      refine KY rfl ?_
      refine KS ?_
      refine KA ?_
      refine oM ?_
      refine oM ?_
      refine oM ?_
      refine oP (KF rfl rfl (KAZ (a:=0) (b:=(if x.1 = i then 18446744073709551615 else 0)) (by decide) (by split <;> decide))) ?_
      refine oP (KM (KF rfl rfl (br_or64 (a:=pk i (ib (E i)) x.1) (b:=0 &&& (if x.1 = i then 18446744073709551615 else 0)) (Nat.lt_of_le_of_lt (pk_lt (ib_le _) _) (by decide)) (Nat.lt_of_le_of_lt Nat.and_le_left (by decide)))) (vi (b:=pk i (ib (E i)) (x.1+1)) (pk_or (fun e=>by rw [← e]; unfold ib; rw [hiv]; rfl) (by decide)))) ?_
      refine oA ?_
      refine KC ?_
      refine KA ?_
      refine oP (KF rfl rfl (Kw (b:=1) (by omega))) ?_
      refine oM ?_
      refine KC ?_
      exact ⟨(x.1+1,r1),by dsimp only; omega,by dsimp only; omega,Kp ⟨rfl,rfl,rfl,rfl,rfl,rfl,rfl,rfl,rfl,trivial⟩ (by repeat (first|exact Sel.nil _|refine Sel.cons (by repeat (first|exact Ph _|apply Pt_)) ?_))⟩
    ·
      refine KA ?_
      refine oP (KH (o':=18) Try.underlying35 rfl rfl rfl sz_4 (by decide)) ?_
      refine oD (dL rfl (hv:=KQ Try.underlying4 rfl (by exact pt_gt _ _ _))) ?_
      refine KC ?_
      refine Ki rfl ?_
      refine KA ?_
      refine oP (Kb (v:=.int .u64 ((1:Nat):Int)) rfl) ?_
      refine KC ?_
      refine KA ?_
      refine oM ?_
      refine oM ?_
      refine oM ?_
      refine oP (KF rfl rfl (KAZ (a:=1) (b:=(if x.1 = i then 18446744073709551615 else 0)) (by decide) (by split <;> decide))) ?_
      refine oP (KM (KF rfl rfl (br_or64 (a:=pk i (ib (E i)) x.1) (b:=1 &&& (if x.1 = i then 18446744073709551615 else 0)) (Nat.lt_of_le_of_lt (pk_lt (ib_le _) _) (by decide)) (Nat.lt_of_le_of_lt Nat.and_le_left (by decide)))) (vi (b:=pk i (ib (E i)) (x.1+1)) (pk_or (fun e=>by rw [← e]; unfold ib; rw [hiv]; rfl) (by decide)))) ?_
      refine oA ?_
      refine KC ?_
      refine KA ?_
      refine oP (KF rfl rfl (Kw (b:=1) (by omega))) ?_
      refine oM ?_
      refine KC ?_
      exact ⟨(x.1+1,r1),by dsimp only; omega,by dsimp only; omega,Kp ⟨rfl,rfl,rfl,rfl,rfl,rfl,rfl,rfl,rfl,trivial⟩ (by repeat (first|exact Sel.nil _|refine Sel.cons (by repeat (first|exact Ph _|apply Pt_)) ?_))⟩
  ·
    have h37:¬ x.1<n:=h37
    refine Kr ?_
    refine KB ?_
    have hx1n:x.1 = n:=by omega
    rw [hx1n,pk_last hi,pk_last hi,pk_last hi]
    refine KA ?_
    refine oM ?_
    refine oP (KM (KF rfl rfl (br_eql (b:=1))) (congrArg Value.bool (ib_eq (E i)))) ?_
    refine oP (KH (o':=18) Try.underlying35 rfl rfl rfl sz_4 (by decide)) ?_
    refine KV rfl (Kh rfl rfl rfl sz_4 (by repeat (first|exact Sh _|apply St_)) (by rw [KK]; decide) (by exact pt_set2 _ _ _ _) (by simp) ?_)
    refine KC ?_
    refine KB (KA ?_)
    refine oD (dL rfl (hv:=by exact KI Try.underlying35 rfl sz_35)) ?_
    refine KV rfl (sA rfl rfl sz_35 (by exact Kc _ _ _) (hl:=by exact KK _ _ _) (h:=?_))
    refine oP (Kb (v:=.int .i64 ((0:Nat):Int)) rfl) ?_
    refine KC (KO ?_)
    exact ⟨[_,_],.cons ⟨_,_,_,rfl,(by repeat (first|exact Mh _|apply Mt)),by exact KI Try.underlying35 rfl sz_35⟩ (.cons rfl .nil),fun a w' hr=>hr.tr (by repeat (first|exact Mh _|apply Mt))⟩
end Go.Proofs.Ytlmiolnccgjjjaa
set_option linter.unusedVariables false
set_option linter.unusedSimpArgs false
set_option maxRecDepth 20000
namespace Go.Proofs.Ytlmiolnccgjjjaa
open Go Go.RowKit
open Grp
def dg (K m i:Nat):Nat:=K/2^((m-1-i)*4)%16
theorem dg_lt (K m i:Nat):dg K m i<16:=Nat.mod_lt _ (by decide)
theorem and15 (A:Nat):limb A 0 &&& 15 = A%16:=by
  rw [show 15 = 2^4-1 from rfl,Nat.and_two_pow_sub_one_eq_mod]
  unfold limb
  rw [Nat.mul_zero,Nat.pow_zero,Nat.div_one,show (2:Nat)^4 = 16 from rfl]
  omega
theorem vec_snoc {k:IntKind} {f:Nat→Nat} {n x:Nat} (h:x = f n) (rest:List Value):(vec k n f++[Value.int k ((x:Nat):Int)])++rest = vec k (n+1) f++rest:=by
  subst h
  congr 1
  simp [vec,List.range_succ]
theorem vec_first {k:IntKind} {f:Nat→Nat} {x:Nat} (h:x = f 0) (rest:List Value):[Value.int k ((x:Nat):Int)]++rest = vec k (0+1) f++rest:=by
  subst h; rfl
structure DigS where
  j:Nat
  bd:Nat
  cap:Nat
  rest:List Value
theorem dig_cases (x:Option DigS) (m:Nat):x = none∨(∃ j bd cap rest,x = some ⟨j,bd,cap,rest⟩∧j<m)∨(∃ j bd cap rest,x = some ⟨j,bd,cap,rest⟩∧m≤j):=by
  rcases x with _|⟨j,bd,cap,rest⟩
  · exact .inl rfl
  · rcases Nat.lt_or_ge j m with h|h
    · exact .inr (.inl ⟨j,bd,cap,rest,rfl,h⟩)
    · exact .inr (.inr ⟨j,bd,cap,rest,rfl,h⟩)
theorem Brings.one {w w':World} {b:Nat} {B:Blk} (hb:Below w.heap.size w w') (h1:(Item.blk b B).holds w') (n1:w.heap.size≤b):Brings w [] [.blk b B] w':=by
  have key:∀ x,x∈[Item.blk b B]→∀ k,k∈x.fp→w.heap.size≤k:=fun x hx k hk=>by
    obtain rfl:x = _:=by simpa using hx
    obtain rfl:k = b:=by simpa [Item.fp] using hk
    exact n1
  exact ⟨hb, fun x hx => (by obtain rfl : x = _ := by simpa using hx
                             exact h1),fun x hx k hk=>.inl (key x hx k hk),fun x hx _=>key x hx,List.pairwise_singleton _ _⟩
theorem c_wide4  (w:World)  : Calls Try.prog 152 ([.int .i64 ((4:Nat):Int)]:List Value).toArray w (fun e w'=>e = .returned (.bool true)∧Below w.heap.size w w'):=by
  refine Kn (N:=9) (rs:=[.tmp 2]) [] Try.func152 rfl Try.ntmps152 Try.results152 (Nb rfl) trivial rfl ?_
  show LCode _ _ _ ⟨_,_⟩ _
  refine KB (KA ?_)
  refine oA ?_
  refine KC ?_
  refine KB (KA ?_)
  refine oM ?_
  refine oP (KF (v:=.bool true) rfl rfl (br_t (br_geq (b:=1)) (by decide))) ?_
  refine oM ?_
  refine oGM ?_
  refine oGP (KF (v:=.bool true) rfl rfl (br_t (br_leq (b:=6)) (by decide))) ?_
  refine oP (Kx rfl rfl) ?_
  refine oA ?_
  refine KC (KO ?_)
  refine ⟨[_],.cons rfl .nil,fun a w' hr=>⟨?_,hr.fr.below⟩⟩
  rfl
theorem c_Digits (K B m:Nat) (hK:K<W9) (hB:1≤B) (hB2:B≤576) (hKB:blen K≤B) (hm:(B+3)/4 = m) (w:World)  : Calls Try.prog 137 ([natV K,.int .i64 ((B:Nat):Int),.int .i64 ((4:Nat):Int)]:List Value).toArray w (fun e w'=>∃ v its,(fun v its=>∃ bd cap rest,v = .tuple #[.slice (some ⟨bd,0,none⟩) m cap,.int .i64 ((0:Nat):Int)]∧its = [.blk bd ⟨true,vec .i64 (m) (dg K m)++rest,3,(0,0)⟩]) v its∧e = .returned v∧Brings w [] its w'):=by
  refine Kn (N:=61) (rs:=[.tmp 6,.tmp 7]) [] Try.func137 rfl Try.ntmps137 Try.results137 (Nb rfl) trivial rfl ?_
  show LCode _ _ _ ⟨_,_⟩ _
  refine KB (KA ?_)
  refine oS (mB (fun b3=>?_))
  refine oA ?_
  refine oP (Kb (v:=.int .i64 ((0:Nat):Int)) rfl) ?_
  refine KC ?_
  refine KB ?_
  refine KB (KA ?_)
  refine oM ?_
  refine oS (cF rfl en_152 rfl (fun w hw=>c_wide4 w) ?_)
  refine oP (KM (Det.not rfl) (show _ = Value.bool false from rfl)) ?_
  refine oM ?_
  refine oGM ?_
  refine oGP (KF (v:=.bool false) rfl rfl (br_f (KAa (b:=1)) (by omega))) ?_
  refine oP (Kv rfl rfl) ?_
  refine oM ?_
  refine oGM ?_
  refine oGP (KF (v:=.bool false) rfl rfl (br_f (br_gtr (b:=576)) (by omega))) ?_
  refine oP (Kv rfl rfl) ?_
  refine oM ?_
  refine LOps.detG rfl rfl (dL rfl (hv:=by exact KI Try.underlying33 rfl sz_33)) (Nb rfl) ?_
  refine oGS (cF rfl en_117 rfl (fun w hw=>c_nat_Bits K hK w) ?_)
  refine oGM ?_
  refine oGP (KF (v:=.bool false) rfl rfl (br_f br_gtr (by omega))) ?_
  refine oP (Kv rfl rfl) ?_
  refine KC ?_
  refine KY rfl ?_
  refine KS ?_
  refine KB (KA ?_)
  refine oA ?_
  refine KC ?_
  refine KB ?_
  refine KB (KA ?_)
  refine oM ?_
  refine oM ?_
  refine oP (KF rfl rfl (Kw (by omega))) ?_
  refine oP (KF rfl rfl (br_sub (b:=1) (by omega) (by omega))) ?_
  refine oM ?_
  refine oP (KM (KF rfl rfl (br_quo (b:=4) (by omega) (by omega))) (vi (b:=m) (by omega))) ?_
  refine oP (KF (v:=.int .i64 (((m:Nat):Int)-1)) rfl rfl (br_subI (by omega) (by omega))) ?_
  refine oA ?_
  refine KC ?_
  refine LCode.block ?_
  refine Ku (α:=Option DigS) (fun x=>match x with|none=>True|some y=>1≤y.j∧y.j≤m∧y.j+y.rest.length = y.cap) (fun x=>match x with|none=>⟨[(1,.int .i64 ((B:Nat):Int)),(2,.int .i64 ((4:Nat):Int)),(3,.pointer (some ⟨b3,0,none⟩)),(8,.slice none 0 0),(9,.int .i64 (((m:Nat):Int)-1))],[.blk b3 ⟨true,natL K,33,(0,0)⟩]⟩|some y=>⟨[(1,.int .i64 ((B:Nat):Int)),(2,.int .i64 ((4:Nat):Int)),(3,.pointer (some ⟨b3,0,none⟩)),(8,.slice (some ⟨y.bd,0,none⟩) y.j y.cap),(9,.int .i64 (((m-y.j:Nat):Int)-1))],[.blk y.bd ⟨true,vec .i64 (y.j) (dg K m)++y.rest,3,(0,0)⟩,.blk b3 ⟨true,natL K,33,(0,0)⟩]⟩) (fun x=>match x with|none=>m+1|some y=>m-y.j) (none) (trivial) (Kp ⟨rfl,rfl,rfl,rfl,rfl,trivial⟩ (by repeat (first|exact Sel.nil _|refine Sel.cons (by repeat (first|exact Ph _|apply Pt_)) ?_))) ?_
  intro x hx
  refine KB ?_
  refine KB ?_
  rcases dig_cases x m with rfl|⟨j,bd,cap,rest,rfl,hjm⟩|⟨j,bd,cap,rest,rfl,hjm⟩
  ·
    obtain ⟨z,hz⟩:∃ z,m = z+1:=⟨m-1,by omega⟩
    refine KA ?_
    refine oM ?_
    refine oP (KF (v:=.bool true) rfl rfl (by simp [KAB]; omega)) ?_
    refine KC ?_
    refine Ki rfl ?_
    refine KS ?_
    refine KB ?_
    refine LCode.block ?_
    refine KB (KA ?_)
    refine oD (dL rfl (hv:=by exact KI Try.underlying33 rfl sz_33)) ?_
    refine oP (Kt (v:=.int .i64 ((z:Nat):Int)) (by show some _ = some _; congr 2; omega)) ?_
    refine oM ?_
    refine oP (KF rfl rfl (br_mul (by omega))) ?_
    refine oP (KM (Det.min rfl rfl) (show _ = Value.int .i64 ((z*4:Nat):Int) by rw [if_neg (by omega)])) ?_
    refine oS (cF rfl en_153 rfl (fun w hw=>c_nat_Shr K (z*4) hK (by omega) w) ?_)
    refine oM ?_
    refine oP (KX rfl rfl) ?_
    refine oP (KX rfl rfl) ?_
    refine oS (mk (KW zr_33) (fun b10=>?_))
    refine KV rfl (sA rfl rfl sz_33 (by repeat (first|exact KZ _|exact Kg _ _ _|exact Ka _|exact Kc _ _ _|exact Kj _ _ _|exact KN|refine KJ rfl ?_|refine KL ?_ ?_)) (hl:=by first|exact KD _|exact KG _ _ _|exact KE _|exact KK _ _ _|exact KU _ _ _|rfl|simp [KG,KD,KE]) (h:=?_))
    refine oA ?_
    refine KC ?_
    refine rD [10] ?_
    refine aM 0 ?_
    refine aP 1 rfl (KH (o':=0) Try.underlying33 rfl rfl rfl sz_31 (by decide)) ?_
    refine aP 2 rfl (Km (i:=0) Try.underlying31 sz_30 rfl rfl (by decide)) ?_
    refine aM 4 ?_
    refine aP 5 rfl (KM (KF rfl rfl (br_shl64 (a:=1) (b:=4))) (vi (b:=16) (by decide))) ?_
    refine aP 6 rfl (KM (KF rfl rfl (KAb (a:=16) (b:=1) (by decide))) (vi (b:=15) (by decide))) ?_
    refine aO 3 rfl (LStep.det (dL rfl (hv:=KQ Try.underlying30 rfl (by exact Ke _ (by decide)))) (Nb rfl) ?_)
    refine aP 7 rfl (KM (KF rfl rfl (KAZ (b:=15) (limb_lt _ _) (by decide))) (vi (b:=K/2^(z*4)%16) (and15 _))) ?_
    refine aP 8 rfl (Det.convi Try.underlying30 Try.underlying3 rfl (by omega)) ?_
    refine aO 9 rfl (mk (KAN Try.underlying79 inf_3 rfl rfl rfl rfl (by decide) rfl) (fun b58=>?_))
    refine aL 10 rfl (LStepW.appendNil (news:=[.int .i64 ((K/2^(z*4)%16:Nat):Int)]) rfl rfl Try.underlying79 inf_3 rfl (by repeat (first|exact Mh _|apply Mt)) rfl (by decide) (by decide) (by decide) (Nb rfl) ?_)
    intro b1 cap1 rest1 hc1
    refine aA 11 ?_
    refine aE ?_
    refine KA ?_
    refine oP (Kt (v:=.int .i64 ((z:Nat):Int)) (by show some _ = some _; congr 2; omega)) ?_
    refine oP (KF (v:=.int .i64 (((z:Nat):Int)-1)) rfl rfl (br_subI (by omega) (by omega))) ?_
    refine oA ?_
    refine KC ?_
    obtain rfl:m-(0+1) = z:=by omega
    exact ⟨some ⟨0+1,b1,cap1,rest1⟩,⟨Nat.le_refl _,by show 0+1≤m; omega,by show 0+1+rest1.length = cap1; have h1:=hc1; simp at h1; omega⟩,by show m-(0+1)<m+1; omega,KAP (Sub.cells (b:=b1) (cs':=vec .i64 (0+1) (dg K m)++rest1) (by repeat (first|exact Sh _|apply St_)) (vec_first rfl _)) (Kp ⟨rfl,rfl,rfl,rfl,rfl,trivial⟩ (by repeat (first|exact Sel.nil _|refine Sel.cons (by repeat (first|exact Ph _|apply Pt_)) ?_)))⟩
  ·
    obtain ⟨hj1,hjn,hcap⟩:=hx
    dsimp only at hj1 hjn hcap
    dsimp only
    obtain ⟨z,hz⟩:∃ z,m-j = z+1:=⟨m-j-1,by omega⟩
    refine KA ?_
    refine oM ?_
    refine oP (KF (v:=.bool true) rfl rfl (by simp [KAB]; omega)) ?_
    refine KC ?_
    refine Ki rfl ?_
    refine KS ?_
    refine KB ?_
    refine LCode.block ?_
    refine KB (KA ?_)
    refine oD (dL rfl (hv:=by exact KI Try.underlying33 rfl sz_33)) ?_
    refine oP (Kt (v:=.int .i64 ((z:Nat):Int)) (by show some _ = some _; congr 2; omega)) ?_
    refine oM ?_
    refine oP (KF rfl rfl (br_mul (by omega))) ?_
    refine oP (KM (Det.min rfl rfl) (show _ = Value.int .i64 ((z*4:Nat):Int) by rw [if_neg (by omega)])) ?_
    refine oS (cF rfl en_153 rfl (fun w hw=>c_nat_Shr K (z*4) hK (by omega) w) ?_)
    refine oM ?_
    refine oP (KX rfl rfl) ?_
    refine oP (KX rfl rfl) ?_
    refine oS (mk (KW zr_33) (fun b10=>?_))
    refine KV rfl (sA rfl rfl sz_33 (by repeat (first|exact KZ _|exact Kg _ _ _|exact Ka _|exact Kc _ _ _|exact Kj _ _ _|exact KN|refine KJ rfl ?_|refine KL ?_ ?_)) (hl:=by first|exact KD _|exact KG _ _ _|exact KE _|exact KK _ _ _|exact KU _ _ _|rfl|simp [KG,KD,KE]) (h:=?_))
    refine oA ?_
    refine KC ?_
    refine rD [10] ?_
    refine aM 0 ?_
    refine aP 1 rfl (KH (o':=0) Try.underlying33 rfl rfl rfl sz_31 (by decide)) ?_
    refine aP 2 rfl (Km (i:=0) Try.underlying31 sz_30 rfl rfl (by decide)) ?_
    refine aM 4 ?_
    refine aP 5 rfl (KM (KF rfl rfl (br_shl64 (a:=1) (b:=4))) (vi (b:=16) (by decide))) ?_
    refine aP 6 rfl (KM (KF rfl rfl (KAb (a:=16) (b:=1) (by decide))) (vi (b:=15) (by decide))) ?_
    refine aO 3 rfl (LStep.det (dL rfl (hv:=KQ Try.underlying30 rfl (by exact Ke _ (by decide)))) (Nb rfl) ?_)
    refine aP 7 rfl (KM (KF rfl rfl (KAZ (b:=15) (limb_lt _ _) (by decide))) (vi (b:=K/2^(z*4)%16) (and15 _))) ?_
    refine aP 8 rfl (Det.convi Try.underlying30 Try.underlying3 rfl (by omega)) ?_
    refine aO 9 rfl (mk (KAN Try.underlying79 inf_3 rfl rfl rfl rfl (by decide) rfl) (fun b58=>?_))
    refine aL 10 rfl (LStepW.append (xs:=vec .i64 j (dg K m)) (rest:=rest) (news:=[.int .i64 ((K/2^(z*4)%16:Nat):Int)]) rfl rfl Try.underlying79 inf_3 rfl (by repeat (first|exact Pick.head _|apply Pick.tail)) (by repeat (first|exact Mh _|apply Mt)) (KG _ _ _) (by rw [KG]; exact hcap) rfl (KJ rfl KN) (by omega) (by omega) (Nb rfl) ?_)
    intro b1 cap1 rest1 hc1
    refine aA 11 ?_
    refine aE ?_
    refine KA ?_
    refine oP (Kt (v:=.int .i64 ((z:Nat):Int)) (by show some _ = some _; congr 2; omega)) ?_
    refine oP (KF (v:=.int .i64 (((z:Nat):Int)-1)) rfl rfl (br_subI (by omega) (by omega))) ?_
    refine oA ?_
    refine KC ?_
    obtain rfl:m-(j+1) = z:=by omega
    exact ⟨some ⟨j+1,b1,cap1,rest1⟩,⟨by show 1≤j+1; omega,by show j+1≤m; omega,by show j+1+rest1.length = cap1; have h1:=hc1; rw [KG] at h1; exact h1⟩,by show m-(j+1)<m-j; omega,KAP (Sub.cells (b:=b1) (cs':=vec .i64 (j+1) (dg K m)++rest1) (by repeat (first|exact Sh _|apply St_)) (vec_snoc (by unfold dg; rw [show m-1-j = m-(j+1) by omega]) _)) (Kp ⟨rfl,rfl,rfl,rfl,rfl,trivial⟩ (by repeat (first|exact Sel.nil _|refine Sel.cons (by repeat (first|exact Ph _|apply Pt_)) ?_)))⟩
  ·
    obtain ⟨hj1,hjn,hcap⟩:=hx
    dsimp only at hj1 hjn hcap
    dsimp only
    refine KA ?_
    refine oM ?_
    refine oP (KF (v:=.bool false) rfl rfl (by simp [KAB]; omega)) ?_
    refine KC ?_
    refine KY rfl ?_
    refine Kr ?_
    refine KB (KA ?_)
    refine oM ?_
    refine oA ?_
    refine oP (Kb (v:=.int .i64 ((0:Nat):Int)) rfl) ?_
    refine KC (KO ?_)
    obtain rfl:j = m:=by omega
    exact ⟨[_,_],.cons rfl (.cons rfl .nil),fun a w' hr=>⟨_,_,⟨bd,cap,rest,rfl,rfl⟩,rfl,Brings.one hr.fr.below (hr.hp (.blk bd ⟨true,_,_,_⟩) (by repeat (first|exact Mh _|apply Mt))) (hr.new (b:=bd) (B:=⟨true,_,_,_⟩) (by repeat (first|exact Mh _|apply Mt)) rfl)⟩⟩
def evN:Nat→List Nat
  | 0=>[]
  | n+1=>evN n++List.range 16
theorem evN_length:∀ n,(evN n).length = n*16
  | 0=>rfl
  | n+1=>by show (evN n++List.range 16).length = _; rw [List.length_append,evN_length n,List.length_range]; omega
structure MulS (p:Nat) where
  i:Nat
  T:Fin p×Fin p×Fin p
  r:TrRow
theorem mul_top {V:Cv} (hok:V.Ok) {P:Pt V.p} {K m:Nat} (hK:K<V.n) (hm:(blen V.n+3)/4 = m):RepT V (tripF (.inf:Pt V.p)) (pmul V.A P (K/2^((m-0)*4))):=by
  have h1:=lt_blen V.n
  have h2:2^blen V.n≤2^((m-0)*4):=Nat.pow_le_pow_right (by decide) (by omega)
  rw [Nat.div_eq_of_lt (Nat.lt_of_lt_of_le (Nat.lt_trans hK h1) h2)]
  exact RepT.trip hok trivial
theorem mul_twice {V:Cv} (hok:V.Ok) {P:Pt V.p} (hP:On V.A V.B P) {q j:Nat} {T:Fin V.p×Fin V.p×Fin V.p} (h:RepT V T (pmul V.A P (q*2^j))):RepT V (sumT V T T) (pmul V.A P (q*2^(j+1))):=by
  have:=RepT.sum hok h h
  rwa [← pmul_add hok.crv hP,← Nat.mul_two,Nat.mul_assoc,← Nat.pow_succ] at this
theorem mul_digit {V:Cv} (hok:V.Ok) {P:Pt V.p} (hP:On V.A V.B P) {K m i:Nat} (hi:i<m) {T:Fin V.p×Fin V.p×Fin V.p} (h:RepT V T (pmul V.A P (K/2^((m-i)*4)*2^4))):RepT V (sumT V T (tripF (mulE V P (dg K m i)))) (pmul V.A P (K/2^((m-(i+1))*4))):=by
  have:=RepT.sum hok h (RepT.trip hok (hok.mul hP (dg K m i)))
  rw [← pmul_add hok.crv hP] at this
  have e:K/2^((m-i)*4)*2^4+dg K m i = K/2^((m-(i+1))*4):=by
    unfold dg
    rw [show m-1-i = m-(i+1) by omega,show (m-i)*4 = (m-(i+1))*4+4 by omega,Nat.pow_add,← Nat.div_div_eq_div_mul,show (2:Nat)^4 = 16 from rfl]
    generalize K/2^((m-(i+1))*4) = N
    omega
  rwa [e] at this
theorem mul_all {V:Cv} {P:Pt V.p} {K m i:Nat} {T:Fin V.p×Fin V.p×Fin V.p} (hi:i = m) (h:RepT V T (pmul V.A P (K/2^((m-i)*4)))):RepT V T (pmul V.A P K):=by
  subst hi
  rwa [Nat.sub_self,Nat.zero_mul,Nat.pow_zero,Nat.div_one] at h
theorem dig_get {K m i:Nat} {rest:List Value} (h:i<m):(vec .i64 m (dg K m)++rest)[i+0]? = some (.int .i64 ((dg K m i:Nat):Int)):=by
  rw [Nat.add_zero,List.getElem?_append_left (by rw [KG]; exact h)]
  exact Kf _ _ _ h
theorem c_mTimes (tb:Option Nat) (tr:TrRow) (l:List Nat) (V:Cv) (b f bd:Nat) (hok:V.Ok) (K m:Nat) (P:Pt V.p) (bt br cap:Nat) (rest:List Value) {wr1 wr2:Bool} (hP:On V.A V.B P) (hK:K<V.n) (hm:(blen V.n+3)/4 = m) (w:World) (h0:(trI tb tr l).holds w) (hl:l.length≤80000000) (hb:(Item.blk b ⟨false,opL V f,129,(0,0)⟩).holds w) (hf:(Item.blk f ⟨false,fldL V.p bd,162,(0,0)⟩).holds w) (hbd:(Item.blk bd ⟨false,dvL V.p,212,(0,0)⟩).holds w) (h1:(Item.blk bt ⟨wr1,[.slice (some ⟨br,0,none⟩) 16 cap],116,(0,0)⟩).holds w) (h2:(Item.blk br ⟨wr2,tabL (mulE V (P)) 16++rest,35,(0,0)⟩).holds w) (o0:Out tb tr (Item.blk b ⟨false,opL V f,129,(0,0)⟩)) (o1:Out tb tr (Item.blk f ⟨false,fldL V.p bd,162,(0,0)⟩)) (o2:Out tb tr (Item.blk bd ⟨false,dvL V.p,212,(0,0)⟩)) (n1:Out tb tr (Item.blk bt ⟨wr1,[.slice (some ⟨br,0,none⟩) 16 cap],116,(0,0)⟩)) (n2:Out tb tr (Item.blk br ⟨wr2,tabL (mulE V (P)) 16++rest,35,(0,0)⟩)):Calls Try.prog 103 ([trV tb,.pointer (some ⟨b,0,none⟩),natV K,.pointer (some ⟨bt,0,none⟩)]:List Value).toArray w (fun e w'=>TrR w tb tr (l++evN m) (ptP (pmul V.A P K)) e w'):=by
  have hbb:=hok.bounds
  have hnW:V.n<W9:=w9_521 hbb.2.2.2.2.2.2.1
  have hbl:=blen_w9 hnW
  have hK9:=Nat.lt_trans hK hnW
  have hkb:blen K≤blen V.n:=blen_le (Nat.lt_trans hK (lt_blen _))
  have hbl1:1≤blen V.n:=Nat.pos_of_ne_zero (blen_ne (by omega))
  refine calls_tr (N:=56) (rs:=[.cell 8 35]) tb tr l [.blk b ⟨false,opL V f,129,(0,0)⟩,.blk f ⟨false,fldL V.p bd,162,(0,0)⟩,.blk bd ⟨false,dvL V.p,212,(0,0)⟩,.blk bt ⟨false,[.slice (some ⟨br,0,none⟩) 16 cap],116,(0,0)⟩,.blk br ⟨false,tabL (mulE V (P)) 16++rest,35,(0,0)⟩] Try.func103 rfl Try.ntmps103 Try.results103 (Nb rfl) h0 ⟨hb,hf,hbd,h1,h2,trivial⟩ rfl ⟨o0,o1,o2,n1,n2,trivial⟩ ?_
  show LCode _ _ _ ⟨_,_⟩ _
  refine KB (KA ?_)
  refine oS (mB (fun b6=>?_))
  refine oS (mk (KW zr_35) (fun b8=>?_))
  refine KC ?_
  refine KB ?_
  refine rD [] ?_
  refine aD 0 rfl (dL rfl (hv:=by exact KI Try.underlying33 rfl sz_33)) ?_
  refine aM 1 ?_
  refine aP 2 rfl (KP rfl) ?_
  refine aP 3 rfl (KH (o':=0) Try.underlying129 rfl rfl rfl KAV (by decide)) ?_
  refine aP 4 rfl (KH (o':=56) Try.underlying126 rfl rfl rfl sz_3 (by decide)) ?_
  refine aD 5 rfl (dL rfl (hv:=KQ Try.underlying3 rfl (by exact cvC_gt_bits _ _ _ _ _ _ _ _ _ _ _ _ _))) ?_
  refine aO 6 rfl (cC rfl en_137 rfl (fun w hw=>bringsC (c_Digits K (blen V.n) m hK9 hbl1 (by omega) hkb hm w) _) ?_)
  rintro _ _ ⟨ds,dcap,drest,rfl,rfl⟩
  refine aM 7 ?_
  refine aP 8 rfl (KX rfl rfl) ?_
  refine aP 9 rfl (KX rfl rfl) ?_
  refine aA 10 ?_
  refine aA 11 ?_
  refine aE ?_
  refine KB (KA ?_)
  refine oS (cF rfl en_123 rfl (fun w hw=>c_NoneF hok w) ?_)
  refine oS (mk (KW zr_172) (fun b11=>?_))
  refine KV rfl (sA rfl rfl KAT (by exact pjFL_one _) (hl:=by exact KAE _) (h:=?_))
  refine KC ?_
  refine KB ?_
  refine KB (KA ?_)
  refine oM ?_
  refine oP (KAQ Try.underlying79 rfl) ?_
  refine oP (Kt (v:=.int .i64 ((0:Nat):Int)) rfl) ?_
  refine KC ?_
  refine LCode.block ?_
  refine Ku (α:=MulS V.p) (fun x=>x.i≤m∧RepT V x.T (pmul V.A P (K/2^((m-x.i)*4)))) (fun x=>⟨[(0,trV tb),(1,.pointer (some ⟨b,0,none⟩)),(3,.pointer (some ⟨bt,0,none⟩)),(8,.pointer (some ⟨b8,0,none⟩)),(11,.pointer (some ⟨b11,0,none⟩)),(27,.slice (some ⟨ds,0,none⟩) m dcap),(28,.int .i64 ((m:Nat):Int)),(29,.int .i64 ((x.i:Nat):Int))],[trI tb (x.r) (l++evN x.i),.blk b11 ⟨true,pjFL x.T,172,(0,0)⟩,.blk b8 ⟨true,vec .u64 9 (fun _=>0)++(vec .u64 9 (fun _=>0)++[Value.bool false]),35,(0,0)⟩,.blk ds ⟨true,vec .i64 (m) (dg K m)++drest,3,(0,0)⟩,.blk b ⟨false,opL V f,129,(0,0)⟩,.blk f ⟨false,fldL V.p bd,162,(0,0)⟩,.blk bd ⟨false,dvL V.p,212,(0,0)⟩,.blk bt ⟨false,[.slice (some ⟨br,0,none⟩) 16 cap],116,(0,0)⟩,.blk br ⟨false,tabL (mulE V (P)) 16++rest,35,(0,0)⟩]⟩) (fun x=>m-x.i) (⟨0,tripF (.inf:Pt V.p),tr⟩) (⟨Nat.zero_le _,mul_top hok hK hm⟩) (by dsimp only [evN]; rw [List.append_nil]; exact Kp ⟨rfl,rfl,rfl,rfl,rfl,rfl,rfl,rfl,trivial⟩ (by repeat (first|exact Sel.nil _|refine Sel.cons (by repeat (first|exact Ph _|apply Pt_)) ?_))) ?_
  rintro x ⟨hx1,hx2⟩
  refine KB (KA ?_)
  refine oP (KF rfl rfl (KAa)) ?_
  refine KC ?_
  refine KB ?_
  first|refine KR rfl (fun h30=>?_) (fun h30=>?_)|refine KT rfl (fun h30=>?_) (fun h30=>?_)
  ·
    have h30:x.i<m:=h30
    refine KS ?_
    refine KB ?_
    refine LCode.block ?_
    refine KB (KA ?_)
    refine oP (Det.indexS Try.underlying79 sz_3 rfl rfl (by omega)) ?_
    refine oD (dL rfl (hv:=KQ Try.underlying3 rfl (by exact dig_get (by omega)))) ?_
    refine oA ?_
    refine KC ?_
    refine KB ?_
    refine KB (KA ?_)
    refine oP (Kt (v:=.int .i64 ((0:Nat):Int)) rfl) ?_
    refine KC ?_
    refine LCode.block ?_
    refine Ku (α:=Nat×(Fin V.p×Fin V.p×Fin V.p)) (fun y=>y.1≤4∧RepT V y.2 (pmul V.A P (K/2^((m-x.i)*4)*2^y.1))) (fun y=>⟨[(13,.int .i64 ((dg K m x.i:Nat):Int)),(33,.int .i64 ((y.1:Nat):Int)),(0,trV tb),(1,.pointer (some ⟨b,0,none⟩)),(3,.pointer (some ⟨bt,0,none⟩)),(8,.pointer (some ⟨b8,0,none⟩)),(11,.pointer (some ⟨b11,0,none⟩)),(27,.slice (some ⟨ds,0,none⟩) m dcap),(28,.int .i64 ((m:Nat):Int)),(29,.int .i64 ((x.i:Nat):Int))],[trI tb (x.r) (l++evN x.i),.blk b11 ⟨true,pjFL y.2,172,(0,0)⟩,.blk b8 ⟨true,vec .u64 9 (fun _=>0)++(vec .u64 9 (fun _=>0)++[Value.bool false]),35,(0,0)⟩,.blk ds ⟨true,vec .i64 (m) (dg K m)++drest,3,(0,0)⟩,.blk b ⟨false,opL V f,129,(0,0)⟩,.blk f ⟨false,fldL V.p bd,162,(0,0)⟩,.blk bd ⟨false,dvL V.p,212,(0,0)⟩,.blk bt ⟨false,[.slice (some ⟨br,0,none⟩) 16 cap],116,(0,0)⟩,.blk br ⟨false,tabL (mulE V (P)) 16++rest,35,(0,0)⟩]⟩) (fun y=>4-y.1) ((0,x.T)) (⟨Nat.zero_le _,by dsimp only; rw [Nat.pow_zero,Nat.mul_one]; exact hx2⟩) (Kp ⟨rfl,rfl,rfl,rfl,rfl,rfl,rfl,rfl,rfl,rfl,trivial⟩ (by repeat (first|exact Sel.nil _|refine Sel.cons (by repeat (first|exact Ph _|apply Pt_)) ?_))) ?_
    rintro y ⟨hy1,hy2⟩
    refine KB (KA ?_)
    refine oP (KF rfl rfl (KAa (b:=4))) ?_
    refine KC ?_
    refine KB ?_
    first|refine KR rfl (fun h34=>?_) (fun h34=>?_)|refine KT rfl (fun h34=>?_) (fun h34=>?_)
    ·
      have h34:y.1<4:=h34
      refine KS ?_
      refine KB ?_
      refine LCode.block ?_
      refine KA ?_
      refine oM ?_
      refine oD (dL rfl (hv:=by exact KI Try.underlying172 rfl KAT)) ?_
      refine oD (dL rfl (hv:=by exact KI Try.underlying172 rfl KAT)) ?_
      refine oS (cF rfl en_125 rfl (fun w hw=>c_SumT V b f bd hok (y.2) (y.2) w (mC hw) (mC hw) (mC hw)) ?_)
      refine KV rfl (sA rfl rfl KAT (by exact pjFL_one _) (hl:=by exact KAE _) (h:=?_))
      refine KC ?_
      refine KA ?_
      refine oP (KF rfl rfl (Kw (b:=1) (by omega))) ?_
      refine oM ?_
      refine KC ?_
      exact ⟨(y.1+1,sumT V y.2 y.2),⟨by dsimp only; omega,mul_twice hok hP hy2⟩,by dsimp only; omega,Kp ⟨rfl,rfl,rfl,rfl,rfl,rfl,rfl,rfl,rfl,rfl,trivial⟩ (by repeat (first|exact Sel.nil _|refine Sel.cons (by repeat (first|exact Ph _|apply Pt_)) ?_))⟩
    ·
      have h34:¬ y.1<4:=h34
      refine Kr ?_
      refine KB ?_
      obtain ⟨j,T⟩:=y
      obtain rfl:j = 4:=by omega
      refine KA ?_
      refine oM ?_
      refine oM ?_
      refine oM ?_
      refine KV rfl (LStepW.callT (first:=[]) (r:=x.r) (l:=l++evN x.i) (l':=l++evN (x.i+1)) rfl en_34 rfl (Nb rfl) (by repeat (first|exact Pick.head _|apply Pick.tail)) (fun w hw hn=>by rw [show l++evN (x.i+1) = (l++evN x.i)++List.range 16 from (List.append_assoc _ _ _).symm]; exact c_tabPick tb x.r _ bt br cap rest V hok (mulE V (P)) 16 (dg K m x.i) (dg_lt _ _ _) (by decide) w (mC hw) (mC hw) (mC hw) (hn _ (by repeat (first|exact Mh _|apply Mt))) (hn _ (by repeat (first|exact Mh _|apply Mt))) (by rw [List.length_append,evN_length]; omega)) ?_)
      intro r1
      refine oM ?_
      refine oP (KX rfl rfl) ?_
      refine oP (KX rfl rfl) ?_
      refine oS (mk (KW zr_35) (fun b14=>?_))
      refine KV rfl (sA rfl rfl sz_35 (by repeat (first|exact KZ _|exact Kg _ _ _|exact Ka _|exact Kc _ _ _|exact Kj _ _ _|exact KN|refine KJ rfl ?_|refine KL ?_ ?_)) (hl:=by exact KK _ _ _) (h:=?_))
      refine oA ?_
      refine KC ?_
      refine rD [5] ?_
      refine aM 0 ?_
      refine aD 1 rfl (dL rfl (hv:=by exact KI Try.underlying172 rfl KAT)) ?_
      refine aD 2 rfl (dL rfl (hv:=by exact KI Try.underlying35 rfl sz_35)) ?_
      refine aO 3 rfl (cF rfl en_122 rfl (fun w hw=>c_Triple V hok (mulE V (P) (dg K m x.i)) w) ?_)
      refine aO 4 rfl (cF rfl en_125 rfl (fun w hw=>c_SumT V b f bd hok (T) (tripF (mulE V (P) (dg K m x.i))) w (mC hw) (mC hw) (mC hw)) ?_)
      refine aL 5 rfl (sA rfl rfl KAT (by exact pjFL_one _) (hl:=by exact KAE _) (h:=?_))
      refine aE ?_
      refine KA ?_
      refine oP (KF rfl rfl (Kw (b:=1) (by omega))) ?_
      refine oM ?_
      refine KC ?_
      exact ⟨⟨x.i+1,sumT V T (tripF (mulE V (P) (dg K m x.i))),r1⟩,⟨by dsimp only; omega,mul_digit hok hP h30 hy2⟩,by dsimp only; omega,Kp ⟨rfl,rfl,rfl,rfl,rfl,rfl,rfl,rfl,trivial⟩ (by repeat (first|exact Sel.nil _|refine Sel.cons (by repeat (first|exact Ph _|apply Pt_)) ?_))⟩
  ·
    have h30:¬ x.i<m:=h30
    refine Kr ?_
    refine KB ?_
    have hxm:x.i = m:=by omega
    refine KA ?_
    refine oM ?_
    refine oD (dL rfl (hv:=by exact KI Try.underlying172 rfl KAT)) ?_
    refine oS (cF rfl en_124 rfl (fun w hw=>c_PlainT V b f bd hok (x.T) (pmul V.A P K) w (mC hw) (mC hw) (mC hw) (mul_all hxm hx2)) ?_)
    refine KV rfl (sA rfl rfl sz_35 (by repeat (first|exact KZ _|exact Kg _ _ _|exact Ka _|exact Kc _ _ _|exact Kj _ _ _|exact KN|refine KJ rfl ?_|refine KL ?_ ?_)) (hl:=by simp [KK,KG]) (h:=?_))
    refine KC (KO ?_)
    exact ⟨[_],.cons ⟨_,_,_,rfl,(by repeat (first|exact Mh _|apply Mt)),by exact KI Try.underlying35 rfl sz_35⟩ .nil,fun a w' hr=>by
      have hq:=hr.tr (v:=ptP (pmul V.A P K)) (r':=x.r) (l:=l++evN x.i) (by repeat (first|exact Mh _|apply Mt))
      rwa [hxm] at hq⟩
end Go.Proofs.Ytlmiolnccgjjjaa
set_option linter.unusedVariables false
set_option linter.unusedSimpArgs false
set_option maxRecDepth 20000
namespace Go.Proofs.Ytlmiolnccgjjjaa
open Go Go.RowKit
open Grp
theorem c_mMul (tb:Option Nat) (tr:TrRow) (l:List Nat) (id:Int) (V:Cv) (K:Nat) (P:Pt V.p) (m:Nat) (hm:(blen V.n+3)/4 = m) (w:World) (h:cvI id = some V) (hP:On V.A V.B P) (hK:K<V.n) (h0:(trI tb tr l).holds w) (hl:l.length≤80000000):Calls Try.prog 63 ([trV tb,.int .i64 id,natV K,ptP P]:List Value).toArray w (fun e w'=>TrR w tb tr (l++evN m) (.tuple #[ptP (pmul V.A P K),.int .i64 ((0:Nat):Int)]) e w'):=by
  obtain ⟨hok,hid⟩:=cvI_ok h
  have hbb:=hok.bounds
  have hpW:V.p<W9:=w9_521 hbb.2.1
  have hnW:V.n<W9:=w9_521 hbb.2.2.2.2.2.2.1
  have hbl:=blen_w9 hnW
  have hnb:nby V.n≤72:=by (unfold nby; omega)
  refine calls_tr (N:=40) (rs:=[.cell 8 35,.tmp 9]) tb tr l [] Try.func63 rfl Try.ntmps63 Try.results63 (Nb rfl) h0 trivial rfl trivial ?_
  show LCode _ _ _ ⟨_,_⟩ _
  refine KB (KA ?_)
  refine oS (mB (fun b6=>?_))
  refine oS (mB (fun b7=>?_))
  refine oS (mk (KW zr_35) (fun b8=>?_))
  refine oP (Kb (v:=.int .i64 ((0:Nat):Int)) rfl) ?_
  refine KC ?_
  refine KB (KA ?_)
  refine oM ?_
  refine oS (LStep.callZ (Post:=fun v its=>∃ b f bd,v = .pointer (some ⟨b,0,none⟩)∧its = [.blk b ⟨false,opL V f,129,(0,0)⟩,.blk f ⟨false,fldL V.p bd,162,(0,0)⟩,.blk bd ⟨false,dvL V.p,212,(0,0)⟩]) (first:=[]) rfl en_80 rfl (Nb rfl) (fun w1 hw hs=>(c_Open _ V w1 h).mono fun e w' ⟨b,f,bd,h1,h2,h3,h4,h5,h6,h7,h8⟩=>⟨_,_,⟨b,f,bd,rfl,rfl⟩,h1,Brings.nums h8 (by intro x hx; simp at hx; rcases hx with rfl|rfl|rfl; exact h2; exact h3; exact h4) (by intro x hx; simp at hx; rcases hx with rfl|rfl|rfl <;> rfl) (by intro x hx k hk; simp at hx; rcases hx with rfl|rfl|rfl <;> simp [Item.fp] at hk <;> subst hk; exact .inl h5; exact .inl h6; exact .inl h7)⟩) ?_)
  rintro _ _ ⟨b,f,bd,rfl,rfl⟩
  refine oA ?_
  refine KC ?_
  refine KB ?_
  refine LCode.block ?_
  refine KB (KA ?_)
  refine oM ?_
  refine oP (KM (Det.eqp Try.underlying110 rfl rfl) (show _ = Value.bool false from rfl)) ?_
  refine oA ?_
  refine KC ?_
  refine KY rfl ?_
  refine KB (KA ?_)
  refine oM ?_
  refine oD (dL rfl (hv:=by exact KI Try.underlying35 rfl sz_35)) ?_
  refine oS (cF rfl en_81 rfl (fun w hw=>c_cOnP V b f bd hok (P) w (mC hw) (mC hw) (mC hw) hP) ?_)
  refine oP (KM (Det.not rfl) (show _ = Value.bool false from rfl)) ?_
  refine oA ?_
  refine KC ?_
  refine KY rfl ?_
  refine KB ?_
  refine rD [] ?_
  refine aD 0 rfl (dL rfl (hv:=by exact KI Try.underlying33 rfl sz_33)) ?_
  refine aM 1 ?_
  refine aP 2 rfl (KP rfl) ?_
  refine aP 3 rfl (KH (o':=0) Try.underlying129 rfl rfl rfl KAV (by decide)) ?_
  refine aP 4 rfl (KH (o':=28) Try.underlying126 rfl rfl rfl sz_33 (by decide)) ?_
  refine aD 5 rfl (dL rfl (hv:=by exact cvC_ld_n _ _ _ _ _ _ _ _ _ _ _ _ _ _ _ _)) ?_
  refine aO 6 rfl (cF rfl en_97 rfl (fun w hw=>c_nat_Cmp K V.n (Nat.lt_trans hK hnW) hnW w) ?_)
  refine aP 7 rfl (KF (v:=.bool false) rfl rfl (br_f cmp_geq (Nat.not_le_of_gt hK))) ?_
  refine aA 8 ?_
  refine aE ?_
  refine KY rfl ?_
  refine KS ?_
  refine KB ?_
  refine rD [6,7] ?_
  refine aM 0 ?_
  refine aM 1 ?_
  refine aD 2 rfl (dL rfl (hv:=by exact KI Try.underlying33 rfl sz_33)) ?_
  refine aM 3 ?_
  refine aO 4 rfl (LStep.det (dL rfl (hv:=by exact KI Try.underlying35 rfl sz_35)) (Nb rfl) ?_)
  refine aO 5 rfl (cC rfl en_82 rfl (fun w hw=>bringsC (c_tabOf V b f bd hok (P) hP 16 (by decide) (by decide) w (mC hw) (mC hw) (mC hw)) _) ?_)
  rintro _ _ ⟨bt,br,cap,rest,rfl,rfl⟩
  refine aL 6 rfl (LStepW.callT (first:=[]) (r:=tr) (l:=l) (l':=l++evN m) rfl en_103 rfl (Nb rfl) (by repeat (first|exact Pick.head _|apply Pick.tail)) (fun w hw hn=>c_mTimes tb tr l V b f bd hok K m (P) bt br cap rest hP hK hm w (mC hw) hl (mC hw) (mC hw) (mC hw) (mC hw) (mC hw) (hn _ (by repeat (first|exact Mh _|apply Mt))) (hn _ (by repeat (first|exact Mh _|apply Mt))) (hn _ (by repeat (first|exact Mh _|apply Mt))) (hn _ (by repeat (first|exact Mh _|apply Mt))) (hn _ (by repeat (first|exact Mh _|apply Mt)))) ?_)
  intro r1
  refine aL 7 rfl (sA rfl rfl sz_35 (by exact Kc _ _ _) (hl:=by simp [KK,KG]) (h:=?_))
  refine aP 8 rfl (Kb (v:=.int .i64 ((0:Nat):Int)) rfl) ?_
  refine aE ?_
  refine KO ?_
  exact ⟨[_,_],.cons ⟨_,_,_,rfl,(by repeat (first|exact Mh _|apply Mt)),by exact KI Try.underlying35 rfl sz_35⟩ (.cons rfl .nil),fun a w' hr=>hr.tr (by repeat (first|exact Mh _|apply Mt))⟩
theorem c_bTimes (tb:Option Nat) (tr:TrRow) (l:List Nat) (V:Cv) (b f bd:Nat) (hok:V.Ok) (K:Nat) (hK:K<V.n) (m:Nat) (hm:(blen V.n+3)/4 = m) (w:World) (h0:(trI tb tr l).holds w) (hl:l.length≤80000000) (hb:(Item.blk b ⟨false,opL V f,129,(0,0)⟩).holds w) (hf:(Item.blk f ⟨false,fldL V.p bd,162,(0,0)⟩).holds w) (hbd:(Item.blk bd ⟨false,dvL V.p,212,(0,0)⟩).holds w) (o0:Out tb tr (Item.blk b ⟨false,opL V f,129,(0,0)⟩)) (o1:Out tb tr (Item.blk f ⟨false,fldL V.p bd,162,(0,0)⟩)) (o2:Out tb tr (Item.blk bd ⟨false,dvL V.p,212,(0,0)⟩)):Calls Try.prog 98 ([trV tb,.pointer (some ⟨b,0,none⟩),natV K]:List Value).toArray w (fun e w'=>TrR w tb tr (l++evN m) (ptP (pmul V.A V.G K)) e w'):=by
  refine calls_tr (N:=18) (rs:=[.cell 6 35]) tb tr l [.blk b ⟨false,opL V f,129,(0,0)⟩,.blk f ⟨false,fldL V.p bd,162,(0,0)⟩,.blk bd ⟨false,dvL V.p,212,(0,0)⟩] Try.func98 rfl Try.ntmps98 Try.results98 (Nb rfl) h0 ⟨hb,hf,hbd,trivial⟩ rfl ⟨o0,o1,o2,trivial⟩ ?_
  show LCode _ _ _ ⟨_,_⟩ _
  refine KB (KA ?_)
  refine oS (mB (fun b5=>?_))
  refine oS (mk (KW zr_35) (fun b6=>?_))
  refine KC ?_
  refine KB ?_
  refine rD [10,11] ?_
  refine aM 0 ?_
  refine aM 1 ?_
  refine aD 2 rfl (dL rfl (hv:=by exact KI Try.underlying33 rfl sz_33)) ?_
  refine aM 3 ?_
  refine aM 4 ?_
  refine aP 5 rfl (KP rfl) ?_
  refine aP 6 rfl (KH (o':=0) Try.underlying129 rfl rfl rfl KAV (by decide)) ?_
  refine aP 7 rfl (KH (o':=37) Try.underlying126 rfl rfl rfl sz_35 (by decide)) ?_
  refine aO 8 rfl (LStep.det (Det.cast (dL rfl (hv:=by exact cvC_ld_g _ _ _ _ _ _ _ _ _ _ _ _ _ _ _ _)) (g_val hok)) (Nb rfl) ?_)
  refine aO 9 rfl (cC rfl en_82 rfl (fun w hw=>bringsC (c_tabOf V b f bd hok (V.G) hok.on 16 (by decide) (by decide) w (mC hw) (mC hw) (mC hw)) _) ?_)
  rintro _ _ ⟨bt,br,cap,rest,rfl,rfl⟩
  refine aL 10 rfl (LStepW.callT (first:=[]) (r:=tr) (l:=l) (l':=l++evN m) rfl en_103 rfl (Nb rfl) (by repeat (first|exact Pick.head _|apply Pick.tail)) (fun w hw hn=>c_mTimes tb tr l V b f bd hok K m (V.G) bt br cap rest hok.on hK hm w (mC hw) hl (mC hw) (mC hw) (mC hw) (mC hw) (mC hw) (hn _ (by repeat (first|exact Mh _|apply Mt))) (hn _ (by repeat (first|exact Mh _|apply Mt))) (hn _ (by repeat (first|exact Mh _|apply Mt))) (hn _ (by repeat (first|exact Mh _|apply Mt))) (hn _ (by repeat (first|exact Mh _|apply Mt)))) ?_)
  intro r1
  refine aL 11 rfl (sA rfl rfl sz_35 (by exact Kc _ _ _) (hl:=by simp [KK,KG]) (h:=?_))
  refine aE ?_
  refine KO ?_
  exact ⟨[_],.cons ⟨_,_,_,rfl,(by repeat (first|exact Mh _|apply Mt)),by exact KI Try.underlying35 rfl sz_35⟩ .nil,fun a w' hr=>hr.tr (by repeat (first|exact Mh _|apply Mt))⟩
theorem c_bMul (tb:Option Nat) (tr:TrRow) (l:List Nat) (id:Int) (V:Cv) (K:Nat) (m:Nat) (hm:(blen V.n+3)/4 = m) (w:World) (h:cvI id = some V) (hK:K<V.n) (h0:(trI tb tr l).holds w) (hl:l.length≤80000000):Calls Try.prog 57 ([trV tb,.int .i64 id,natV K]:List Value).toArray w (fun e w'=>TrR w tb tr (l++evN m) (.tuple #[ptP (pmul V.A V.G K),.int .i64 ((0:Nat):Int)]) e w'):=by
  obtain ⟨hok,hid⟩:=cvI_ok h
  have hbb:=hok.bounds
  have hpW:V.p<W9:=w9_521 hbb.2.1
  have hnW:V.n<W9:=w9_521 hbb.2.2.2.2.2.2.1
  have hbl:=blen_w9 hnW
  have hnb:nby V.n≤72:=by (unfold nby; omega)
  refine calls_tr (N:=29) (rs:=[.cell 6 35,.tmp 7]) tb tr l [] Try.func57 rfl Try.ntmps57 Try.results57 (Nb rfl) h0 trivial rfl trivial ?_
  show LCode _ _ _ ⟨_,_⟩ _
  refine KB (KA ?_)
  refine oS (mB (fun b5=>?_))
  refine oS (mk (KW zr_35) (fun b6=>?_))
  refine oP (Kb (v:=.int .i64 ((0:Nat):Int)) rfl) ?_
  refine KC ?_
  refine KB (KA ?_)
  refine oM ?_
  refine oS (LStep.callZ (Post:=fun v its=>∃ b f bd,v = .pointer (some ⟨b,0,none⟩)∧its = [.blk b ⟨false,opL V f,129,(0,0)⟩,.blk f ⟨false,fldL V.p bd,162,(0,0)⟩,.blk bd ⟨false,dvL V.p,212,(0,0)⟩]) (first:=[]) rfl en_80 rfl (Nb rfl) (fun w1 hw hs=>(c_Open _ V w1 h).mono fun e w' ⟨b,f,bd,h1,h2,h3,h4,h5,h6,h7,h8⟩=>⟨_,_,⟨b,f,bd,rfl,rfl⟩,h1,Brings.nums h8 (by intro x hx; simp at hx; rcases hx with rfl|rfl|rfl; exact h2; exact h3; exact h4) (by intro x hx; simp at hx; rcases hx with rfl|rfl|rfl <;> rfl) (by intro x hx k hk; simp at hx; rcases hx with rfl|rfl|rfl <;> simp [Item.fp] at hk <;> subst hk; exact .inl h5; exact .inl h6; exact .inl h7)⟩) ?_)
  rintro _ _ ⟨b,f,bd,rfl,rfl⟩
  refine oA ?_
  refine KC ?_
  refine KB ?_
  refine LCode.block ?_
  refine KB (KA ?_)
  refine oM ?_
  refine oP (KM (Det.eqp Try.underlying110 rfl rfl) (show _ = Value.bool false from rfl)) ?_
  refine oA ?_
  refine KC ?_
  refine KY rfl ?_
  refine KB ?_
  refine rD [] ?_
  refine aD 0 rfl (dL rfl (hv:=by exact KI Try.underlying33 rfl sz_33)) ?_
  refine aM 1 ?_
  refine aP 2 rfl (KP rfl) ?_
  refine aP 3 rfl (KH (o':=0) Try.underlying129 rfl rfl rfl KAV (by decide)) ?_
  refine aP 4 rfl (KH (o':=28) Try.underlying126 rfl rfl rfl sz_33 (by decide)) ?_
  refine aD 5 rfl (dL rfl (hv:=by exact cvC_ld_n _ _ _ _ _ _ _ _ _ _ _ _ _ _ _ _)) ?_
  refine aO 6 rfl (cF rfl en_97 rfl (fun w hw=>c_nat_Cmp K V.n (Nat.lt_trans hK hnW) hnW w) ?_)
  refine aP 7 rfl (KF (v:=.bool false) rfl rfl (br_f cmp_geq (Nat.not_le_of_gt hK))) ?_
  refine aA 8 ?_
  refine aE ?_
  refine KY rfl ?_
  refine KS ?_
  refine KB (KA ?_)
  refine oM ?_
  refine oM ?_
  refine oD (dL rfl (hv:=by exact KI Try.underlying33 rfl sz_33)) ?_
  refine KV rfl (LStepW.callT (first:=[]) (r:=tr) (l:=l) (l':=l++evN m) rfl en_98 rfl (Nb rfl) (by repeat (first|exact Pick.head _|apply Pick.tail)) (fun w hw hn=>c_bTimes tb tr l V b f bd hok K hK m hm w (mC hw) hl (mC hw) (mC hw) (mC hw) (hn _ (by repeat (first|exact Mh _|apply Mt))) (hn _ (by repeat (first|exact Mh _|apply Mt))) (hn _ (by repeat (first|exact Mh _|apply Mt)))) ?_)
  intro r1
  refine KV rfl (sA rfl rfl sz_35 (by exact Kc _ _ _) (hl:=by simp [KK,KG]) (h:=?_))
  refine oP (Kb (v:=.int .i64 ((0:Nat):Int)) rfl) ?_
  refine KC (KO ?_)
  exact ⟨[_,_],.cons ⟨_,_,_,rfl,(by repeat (first|exact Mh _|apply Mt)),by exact KI Try.underlying35 rfl sz_35⟩ (.cons rfl .nil),fun a w' hr=>hr.tr (by repeat (first|exact Mh _|apply Mt))⟩
theorem c_mMulN (id:Int) (V:Cv) (K:Nat) (P R:Pt V.p) (w:World) (h:cvI id = some V) (hP:On V.A V.B P) (hK:K<V.n) (hR:pmul V.A P K = R):Calls Try.prog 63 ([.pointer none,.int .i64 id,natV K,ptP P]:List Value).toArray w (fun e w'=>e = .returned (.tuple #[ptP R,.int .i64 ((0:Nat):Int)])∧Below w.heap.size w w') :=
  hR ▸ (c_mMul none none [] id V K P _ rfl w h hP hK (trI_nil _ _) (Nat.zero_le _)).mono fun e w' h=>TrR.nil h
theorem c_bMulN (id:Int) (V:Cv) (K:Nat) (R:Pt V.p) (w:World) (h:cvI id = some V) (hK:K<V.n) (hR:pmul V.A V.G K = R):Calls Try.prog 57 ([.pointer none,.int .i64 id,natV K]:List Value).toArray w (fun e w'=>e = .returned (.tuple #[ptP R,.int .i64 ((0:Nat):Int)])∧Below w.heap.size w w') :=
  hR ▸ (c_bMul none none [] id V K _ rfl w h hK (trI_nil _ _) (Nat.zero_le _)).mono fun e w' h=>TrR.nil h
end Go.Proofs.Ytlmiolnccgjjjaa
set_option linter.unusedVariables false
set_option linter.unusedSimpArgs false
set_option maxRecDepth 20000
namespace Go.Proofs.Ytlmiolnccgjjjaa
open Go Go.RowKit
open Grp
theorem c_r_GP (Q:CQ) (V:Cv) (w:World) (hc:(crvI Q V).holds w) (hok:V.Ok):Calls Try.prog 31 ([.agg (crvL Q V).toArray]:List Value).toArray w (fun e w'=>Num2R w (crvI Q V).fp (xv V.G) (yv V.G) (fun u v=>rpV u v (iv V.G)) e w'):=by
  rw [xG hok,yG hok]
  exact c_r_G Q V w hc
theorem c_r_OutP (V:Cv) (q r:NV) (P:Pt V.p) (w:World) (hq:(numT q (xv P)).holds w) (hr:(numT r (yv P)).holds w):Calls Try.prog 30 ([rpV (numV q (xv P)) (numV r (yv P)) (iv P)]:List Value).toArray w (fun e w'=>e = .returned (ptP P)∧Below w.heap.size w w'):=c_r_Out q r (xv P) (yv P) (iv P) w hq hr
theorem c_awake20  (w:World)  : Calls Try.prog 72 ([]:List Value).toArray w (fun e w'=>e = .returned (.bool true)∧Below w.heap.size w w'):=by
  obtain ⟨V,hV⟩:∃ V,V = cv13:=⟨_,rfl⟩
  have h:cvI 13 = some V:=by rw [hV]; rfl
  obtain ⟨hok,hid⟩:=cvI_ok h
  have hn13:V.n = 223:=by rw [hV]; rfl
  obtain ⟨hb5,hb521,hba,hbb,hbx,hby,hbn,hbo,hbo2,hbb1,hbn1⟩:=hok.bounds
  have hsz:=hok.sz
  have hsp:=hsz.p
  have hsa:=hsz.a
  have hsb:=hsz.b
  have hp0:V.p≠0:=by omega
  have hpp:0<V.p:=by omega
  have hm17:∀ k,D.nw (k%V.p)≤17:=fun k=>Nat.le_trans (D.nw_mono (Nat.le_of_lt (Nat.mod_lt k hpp))) hsp
  refine Kn (N:=62) (rs:=[.tmp 0]) [] Try.func72 rfl Try.ntmps72 Try.results72 (Nb rfl) trivial rfl ?_
  show LCode _ _ _ ⟨_,_⟩ _
  refine KB (KA ?_)
  refine oA ?_
  refine KC ?_
  refine KB (KA ?_)
  refine oS (LStep.callZ (Post:=fun v its=>∃ Q,v = .tuple #[.agg (crvL Q V).toArray,.bool true]∧its = [crvI Q V]) (first:=[]) rfl en_29 rfl (Nb rfl) (fun w1 hw hs=>(c_r_Get _ V w1 h).mono fun e w' ⟨Q,h1,h2,h3,h4⟩=>⟨_,_,⟨Q,rfl,rfl⟩,h1,Brings.nums h4 (by intro x hx; simp at hx; subst hx; exact h2) (by intro x hx; simp at hx; subst hx; rfl) (by intro x hx k hk; simp at hx; subst hx; exact .inl (h3 k hk))⟩) ?_)
  rintro _ _ ⟨Q,rfl,rfl⟩
  refine oM ?_
  refine oP (KX rfl rfl) ?_
  refine oP (KX rfl rfl) ?_
  refine oS (mk (KW zr_26) (fun b1=>?_))
  refine KV rfl (sA rfl rfl sz_26 (by repeat (first|exact KN|refine KJ rfl ?_)) (hl:=by rfl) (h:=?_))
  refine oA ?_
  refine KC ?_
  refine KB (KA ?_)
  refine oD (dL rfl (hv:=by exact KI Try.underlying26 rfl sz_26)) ?_
  refine oS (cZ rfl en_31 rfl (fun w hw hs=>(c_r_GP Q V w (mC hw) hok).mono fun e w' h=>Num2R.q (Old.one (x:=crvI Q V) (by repeat (first|exact Mh _|apply Mt)) rfl) hs h) ?_)
  rintro _ _ ⟨qga,qgb,rfl,rfl,hnga,hngb⟩
  refine oS (cF rfl en_30 rfl (fun w hw=>c_r_OutP V qga qgb (V.G) w (mC hw) (mC hw)) ?_)
  refine oS (mk (KW zr_35) (fun b3=>?_))
  refine KV rfl (sA rfl rfl sz_35 (by exact Kc _ _ _) (hl:=by exact KK _ _ _) (h:=?_))
  refine KC ?_
  refine KB ?_
  refine rD [8] ?_
  refine aD 2 rfl (dL rfl (hv:=by exact KI Try.underlying35 rfl sz_35)) ?_
  refine KAc ?_
  refine KAC 7 rfl (.inl zr_35) (Nb rfl) rfl rfl rfl ?_
  refine Kl 0 rfl rfl rfl (Nb rfl) (by kernel_rfl) rfl (Kq (first:=[]) rfl en_47 rfl (fun w hw=>c_One _ w (by first|omega|decide))) ?_
  rintro _ _ ⟨rfl,rfl⟩
  refine Kl 1 rfl rfl rfl (Nb rfl) (by kernel_rfl) rfl (Kq (first:=[]) rfl en_47 rfl (fun w hw=>c_One _ w (by first|omega|decide))) ?_
  rintro _ _ ⟨rfl,rfl⟩
  refine Kl 3 rfl rfl rfl (Nb rfl) (by kernel_rfl) rfl (Kq (first:=[]) rfl en_73 rfl (fun w hw=>c_dualMul 13 V 1 1 V.G w h hok.on (by omega) (by omega))) ?_
  rintro _ _ ⟨rfl,rfl⟩
  refine pM 4 ?_
  refine pP 5 rfl (KX rfl rfl) ?_
  refine pP 6 rfl (KX rfl rfl) ?_
  refine pE (fun b4=>?_)
  refine KAF ?_
  refine aL 8 rfl (sA rfl rfl sz_35 (by exact Kc _ _ _) (hl:=by exact KK _ _ _) (h:=?_))
  refine aA 9 ?_
  refine aE ?_
  refine KB ?_
  refine rD [8] ?_
  refine aD 2 rfl (dL rfl (hv:=by exact KI Try.underlying35 rfl sz_35)) ?_
  refine KAc ?_
  refine KAC 7 rfl (.inl zr_35) (Nb rfl) rfl rfl rfl ?_
  refine Kl 0 rfl rfl rfl (Nb rfl) (by kernel_rfl) rfl (Kq (first:=[]) rfl en_47 rfl (fun w hw=>c_One _ w (by first|omega|decide))) ?_
  rintro _ _ ⟨rfl,rfl⟩
  refine Kl 1 rfl rfl rfl (Nb rfl) (by kernel_rfl) rfl (Kq (first:=[]) rfl en_47 rfl (fun w hw=>c_One _ w (by first|omega|decide))) ?_
  rintro _ _ ⟨rfl,rfl⟩
  refine Kl 3 rfl rfl rfl (Nb rfl) (by kernel_rfl) rfl (Kq (first:=[]) rfl en_73 rfl (fun w hw=>c_dualMul_range 13 V 223 1 V.G w h hok.on (u64_w9 (by decide)) (u64_w9 (by decide)) (.inl (by omega)))) ?_
  rintro _ _ ⟨rfl,rfl⟩
  refine pM 4 ?_
  refine pP 5 rfl (KX rfl rfl) ?_
  refine pP 6 rfl (KX rfl rfl) ?_
  refine pE (fun b6=>?_)
  refine KAF ?_
  refine aL 8 rfl (sA rfl rfl sz_35 (by exact Kc _ _ _) (hl:=by exact KK _ _ _) (h:=?_))
  refine aA 9 ?_
  refine aE ?_
  refine KB ?_
  refine rD [8] ?_
  refine aD 2 rfl (dL rfl (hv:=by exact KI Try.underlying35 rfl sz_35)) ?_
  refine KAc ?_
  refine KAC 7 rfl (.inl zr_35) (Nb rfl) rfl rfl rfl ?_
  refine Kl 0 rfl rfl rfl (Nb rfl) (by kernel_rfl) rfl (Kq (first:=[]) rfl en_47 rfl (fun w hw=>c_One _ w (by first|omega|decide))) ?_
  rintro _ _ ⟨rfl,rfl⟩
  refine Kl 1 rfl rfl rfl (Nb rfl) (by kernel_rfl) rfl (Kq (first:=[]) rfl en_47 rfl (fun w hw=>c_One _ w (by first|omega|decide))) ?_
  rintro _ _ ⟨rfl,rfl⟩
  refine Kl 3 rfl rfl rfl (Nb rfl) (by kernel_rfl) rfl (Kq (first:=[]) rfl en_73 rfl (fun w hw=>c_dualMul_none 0 1 1 (xv V.G) (yv V.G) (iv V.G) w rfl)) ?_
  rintro _ _ ⟨rfl,rfl⟩
  refine pM 4 ?_
  refine pP 5 rfl (KX rfl rfl) ?_
  refine pP 6 rfl (KX rfl rfl) ?_
  refine pE (fun b8=>?_)
  refine KAF ?_
  refine aL 8 rfl (sA rfl rfl sz_35 (by exact Kc _ _ _) (hl:=by exact KK _ _ _) (h:=?_))
  refine aA 9 ?_
  refine aE ?_
  refine KB ?_
  refine rD [] ?_
  refine aM 0 ?_
  refine aO 1 rfl (cF rfl en_33 rfl (fun w hw=>c_Num _ w) ?_)
  refine aP 2 rfl (KF (v:=.bool true) rfl rfl (br_t (br_eql (b:=0)) (by first|rfl|assumption|omega|(simp; done)))) ?_
  refine aM 3 ?_
  refine aGD 4 rfl (dL rfl (hv:=by exact KI Try.underlying35 rfl sz_35)) ?_
  refine aGD 5 rfl (dL rfl (hv:=by exact KI Try.underlying26 rfl sz_26)) ?_
  refine aGD 6 rfl (dL rfl (hv:=by exact KI Try.underlying26 rfl sz_26)) ?_
  refine aGD 8 rfl (dL rfl (hv:=by exact KI Try.underlying26 rfl sz_26)) ?_
  refine aGO 7 rfl (cZ rfl en_31 rfl (fun w hw hs=>(c_r_GP Q V w (mC hw) hok).mono fun e w' h=>Num2R.q (Old.one (x:=crvI Q V) (by repeat (first|exact Mh _|apply Mt)) rfl) hs h) ?_)
  rintro _ _ ⟨qka,qkb,rfl,rfl,hnka,hnkb⟩
  refine aGO 9 rfl (cZ rfl en_31 rfl (fun w hw hs=>(c_r_GP Q V w (mC hw) hok).mono fun e w' h=>Num2R.q (Old.one (x:=crvI Q V) (by repeat (first|exact Mh _|apply Mt)) rfl) hs h) ?_)
  rintro _ _ ⟨qla,qlb,rfl,rfl,hnla,hnlb⟩
  refine aGO 10 rfl (cZ rfl en_68 rfl (fun w hw hs=>(c_r_Plus Q V qka qkb qla qlb (V.G) (V.G) (padd V.A V.G V.G) w (mC hw) hok (mC hw) (mC hw) (mC hw) (mC hw) (hok.on) (hok.on) (rfl)).mono fun e w' h=>Num2R.q (Old.pt (by repeat (first|exact Mh _|apply Mt)) (by repeat (first|exact Mh _|apply Mt)) (Old.pt (by repeat (first|exact Mh _|apply Mt)) (by repeat (first|exact Mh _|apply Mt)) (Old.nil _))) hs h) ?_)
  rintro _ _ ⟨qsa,qsb,rfl,rfl,hnsa,hnsb⟩
  refine aGO 11 rfl (cF rfl en_30 rfl (fun w hw=>c_r_OutP V qsa qsb (padd V.A V.G V.G) w (mC hw) (mC hw)) ?_)
  refine aGP 12 rfl (KM (Det.eqa (by kernel_rfl) (fun w=>eq_ptP_t hok (P:=dualP V 1 1 V.G) (Q:=padd V.A V.G V.G) (by unfold dualP; rw [pmul_one hok.fld hok.on]) 10000 (by decide) w) rfl rfl) (show _ = Value.bool true by rfl)) ?_
  refine aP 13 rfl (Kx rfl rfl) ?_
  refine aM 14 ?_
  refine aGM 15 ?_
  refine aGO 16 rfl (cF rfl en_33 rfl (fun w hw=>c_Num _ w) ?_)
  refine aGP 17 rfl (KF (v:=.bool true) rfl rfl (br_t (br_eql (b:=2002)) (by first|rfl|assumption|omega|(simp; done)))) ?_
  refine aP 18 rfl (Kx rfl rfl) ?_
  refine aM 19 ?_
  refine aGM 20 ?_
  refine aGO 21 rfl (cF rfl en_33 rfl (fun w hw=>c_Num _ w) ?_)
  refine aGP 22 rfl (KF (v:=.bool true) rfl rfl (br_t (br_eql (b:=2000)) (by first|rfl|assumption|omega|(simp; done)))) ?_
  refine aP 23 rfl (Kx rfl rfl) ?_
  refine aA 24 ?_
  refine aE ?_
  refine KO ?_
  refine ⟨[_],.cons rfl .nil,fun a w' hr=>⟨?_,hr.fr.below⟩⟩
  rfl
end Go.Proofs.Ytlmiolnccgjjjaa
set_option linter.unusedVariables false
set_option linter.unusedSimpArgs false
set_option maxRecDepth 20000
namespace Go.Proofs.Ytlmiolnccgjjjaa
open Go Go.RowKit
open Grp
theorem pm_mod {V:Cv} (hok:V.Ok) {P:Pt V.p} (hP:On V.A V.B P) (hn:pmul V.A P V.n = .inf) (K:Nat):pmul V.A P (K%V.n) = pmul V.A P K:=by
  have h1:=Nat.div_add_mod K V.n
  have h2:=pmul_add hok.crv hP (V.n*(K/V.n)) (K%V.n)
  rw [h1,pmul_mul hok.crv hP,hn,pmul_inf (b:=V.B) hok.fld,hok.inf_add (hok.mul hP _)] at h2
  exact h2.symm
end Go.Proofs.Ytlmiolnccgjjjaa
set_option linter.unusedVariables false
set_option linter.unusedSimpArgs false
set_option maxRecDepth 20000
namespace Go.Proofs.Ytlmiolnccgjjjaa
open Go Go.RowKit
open Grp
def bvec (n:Nat) (f:Nat→Bool):List Value:=(List.range n).map fun i=>.bool (f i)
section
variable {P:Program} {C:Ctx} {d:Nat} {ty:TypeId} {pos:String} {aft:Array Edge} {g:Option (Nat×Bool)} {st:St} {x y:Operand} {t e:TypeId}
end
attribute [irreducible] bvec
end Go.Proofs.Ytlmiolnccgjjjaa
set_option linter.unusedVariables false
set_option linter.unusedSimpArgs false
set_option maxRecDepth 20000
namespace Go.Proofs.Ytlmiolnccgjjjaa
open Go Go.RowKit
open Grp
theorem dual_x0 {V:Cv} (hok:V.Ok) (K:Nat) (P:Pt V.p):dualP V K 0 P = pmul V.A V.G K:=hok.add_inf (hok.mul hok.on _)
theorem dual_0y {V:Cv} (hok:V.Ok) (K:Nat) {P:Pt V.p} (hP:On V.A V.B P):dualP V 0 K P = pmul V.A P K:=hok.inf_add (hok.mul hP _)
theorem dual_xy {V:Cv} (hok:V.Ok) (K M:Nat):dualP V K M V.G = pmul V.A V.G ((K+M)%V.n):=by
  rw [pm_mod hok hok.on hok.ord,pmul_add hok.crv hok.on]; rfl
theorem c_DualAlone (id:Int) (a b k:Nat) (w:World) (ha:a<W9) (hb9:b<W9) (hk:k<18446744073709551616):Calls Try.prog 26 ([.int .i64 id,natV a,natV b,.int .u64 ((k:Nat):Int)]:List Value).toArray w (fun e w'=>e = .returned (.bool true)∧Below w.heap.size w w'):=by
  obtain ⟨V,h⟩:=cvI_idx id
  obtain ⟨hok,hid⟩:=cvI_ok h
  have h2:=cvI_id h
  obtain ⟨hb5,hb521,hba,hbb,hbx,hby,hbn,hbo,hbo2,hbb1,hbn1⟩:=hok.bounds
  have hsz:=hok.sz
  have hsp:=hsz.p
  have hsa:=hsz.a
  have hsb:=hsz.b
  have hp0:V.p≠0:=by omega
  have hpp:0<V.p:=by omega
  have hm17:∀ k,D.nw (k%V.p)≤17:=fun k=>Nat.le_trans (D.nw_mono (Nat.le_of_lt (Nat.mod_lt k hpp))) hsp
  have hpW:V.p<W9:=w9_521 hb521
  have hnW:V.n<W9:=w9_521 hbn
  have hxW:=Nat.lt_trans hbx hpW
  have hyW:=Nat.lt_trans hby hpW
  have hsn:=hsz.n
  have h17:∀ {A:Nat},A<V.p→D.nw A≤100000:=fun h=>Nat.le_trans (nw_521 (Nat.lt_trans h hb521)) (by decide)
  have hn0:V.n≠0:=by omega
  have hnp:0<V.n:=by omega
  have hda:=nw_w9_dig ha
  have hdb:=nw_w9_dig hb9
  have hdk:=nw_w9_dig (u64_w9 hk)
  have hPq:=hok.mul hok.on (k)
  obtain ⟨P,hPe⟩:∃ P,pmul V.A V.G (k) = P:=⟨_,rfl⟩
  have hPo:On V.A V.B P:=hPe ▸ hPq
  have hXn:=Nat.mod_lt a hnp
  have hYn:=Nat.mod_lt b hnp
  have hXd:D.nw (a%V.n)≤17:=nw_521 (Nat.lt_trans hXn hbn)
  have hYd:D.nw (b%V.n)≤17:=nw_521 (Nat.lt_trans hYn hbn)
  refine Kn (N:=164) (rs:=[.tmp 8]) [] Try.func26 rfl Try.ntmps26 Try.results26 (Nb rfl) trivial rfl ?_
  show LCode _ _ _ ⟨_,_⟩ _
  refine KB (KA ?_)
  refine oS (mB (fun b5=>?_))
  refine oS (mB (fun b6=>?_))
  refine oA ?_
  refine KC ?_
  refine KB ?_
  refine KB (KA ?_)
  refine oS (cF rfl en_72 rfl (fun w hw=>c_awake20 w) ?_)
  refine oP (KM (Det.not rfl) (show _ = Value.bool false from rfl)) ?_
  refine KC ?_
  refine KY rfl ?_
  refine KS ?_
  refine KB (KA ?_)
  refine oM ?_
  refine oP (KM (Det.conv Try.underlying3 Try.underlying29 rfl) (uidx_eq _)) ?_
  refine oP (KF rfl rfl (br_rem64 (b:=15) (by omega))) ?_
  refine oP (Det.convi Try.underlying29 Try.underlying3 rfl (by omega)) ?_
  refine oP (KF rfl rfl (Kw (a:=1) (by omega))) ?_
  refine oS (LStep.callZ (Post:=fun v its=>∃ Q,v = .tuple #[.agg (crvL Q V).toArray,.bool true]∧its = [crvI Q V]) (first:=[]) rfl en_29 rfl (Nb rfl) (fun w1 hw hs=>(c_r_Get _ V w1 h).mono fun e w' ⟨Q,h1,h2,h3,h4⟩=>⟨_,_,⟨Q,rfl,rfl⟩,h1,Brings.nums h4 (by intro x hx; simp at hx; subst hx; exact h2) (by intro x hx; simp at hx; subst hx; rfl) (by intro x hx k hk; simp at hx; subst hx; exact .inl (h3 k hk))⟩) ?_)
  rintro _ _ ⟨Q,rfl,rfl⟩
  refine oM ?_
  refine oP (KX rfl rfl) ?_
  refine oP (KX rfl rfl) ?_
  refine oS (mk (KW zr_26) (fun b9=>?_))
  refine KV rfl (sA rfl rfl sz_26 (by repeat (first|exact KN|refine KJ rfl ?_)) (hl:=by rfl) (h:=?_))
  refine oA ?_
  refine KC ?_
  refine KB ?_
  refine KB (KA ?_)
  refine oM ?_
  refine oP (KM (Det.not rfl) (show _ = Value.bool false from rfl)) ?_
  refine KC ?_
  refine KY rfl ?_
  refine KS ?_
  refine KB (KA ?_)
  refine oD (dL rfl (hv:=by exact KI Try.underlying26 rfl sz_26)) ?_
  refine oS (cZ rfl en_31 rfl (fun w hw hs=>(c_r_GP Q V w (mC hw) hok).mono fun e w' h=>Num2R.q (Old.one (x:=crvI Q V) (by repeat (first|exact Mh _|apply Mt)) rfl) hs h) ?_)
  rintro _ _ ⟨qga,qgb,rfl,rfl,hnga,hngb⟩
  refine oS (cF rfl en_30 rfl (fun w hw=>c_r_OutP V qga qgb (V.G) w (mC hw) (mC hw)) ?_)
  refine oS (mk (KW zr_35) (fun b11=>?_))
  refine KV rfl (sA rfl rfl sz_35 (by exact Kc _ _ _) (hl:=by exact KK _ _ _) (h:=?_))
  refine KC ?_
  refine KB ?_
  refine rD [9] ?_
  refine aD 0 rfl (dL rfl (hv:=by exact KI Try.underlying26 rfl sz_26)) ?_
  refine aM 1 ?_
  refine aD 4 rfl (dL rfl (hv:=by exact KI Try.underlying26 rfl sz_26)) ?_
  refine KAc ?_
  refine KAC 8 rfl (.inl zr_35) (Nb rfl) rfl rfl rfl ?_
  refine Kl 2 rfl rfl rfl (Nb rfl) (by kernel_rfl) rfl (Kq (first:=[]) rfl en_47 rfl (fun w hw=>c_One k w hk)) ?_
  rintro _ _ ⟨rfl,rfl⟩
  refine Kl 3 rfl rfl rfl (Nb rfl) (by kernel_rfl) rfl (LExt.callZ (first:=[]) rfl en_46 rfl (fun w hw hs=>(c_n_From (k) (u64_w9 hk) w).mono fun e w' h=>KAY (Old.nil _) hs h)) ?_
  rintro _ _ ⟨qk,rfl,rfl,hnk⟩
  refine Kl 5 rfl rfl rfl (Nb rfl) (by kernel_rfl) rfl (LExt.callZ (first:=[]) rfl en_31 rfl (fun w hw hs=>(c_r_GP Q V w (mC hw) hok).mono fun e w' h=>Num2R.q (Old.one (x:=crvI Q V) (by repeat (first|exact Mh _|apply Mt)) rfl) hs h)) ?_
  rintro _ _ ⟨qha,qhb,rfl,rfl,hnha,hnhb⟩
  refine Kl 6 rfl rfl rfl (Nb rfl) (by kernel_rfl) rfl (LExt.callZ (first:=[]) rfl en_38 rfl (fun w hw hs=>(c_r_Times Q V qk (k) qha qhb (V.G) (P) w (mC hw) hok (mC hw) (by omega) (mC hw) (mC hw) (hok.on) (hPe)).mono fun e w' h=>Num2R.q (Old.pt (by repeat (first|exact Mh _|apply Mt)) (by repeat (first|exact Mh _|apply Mt)) (Old.nil _)) hs h)) ?_
  rintro _ _ ⟨qpa,qpb,rfl,rfl,hnpa,hnpb⟩
  refine Kl 7 rfl rfl rfl (Nb rfl) (by kernel_rfl) rfl (Kq (first:=[]) rfl en_30 rfl (fun w hw=>c_r_OutP V qpa qpb (P) w (mC hw) (mC hw))) ?_
  rintro _ _ ⟨rfl,rfl⟩
  refine pE (fun b12=>?_)
  refine KAF ?_
  refine aL 9 rfl (sA rfl rfl sz_35 (by exact Kc _ _ _) (hl:=by exact KK _ _ _) (h:=?_))
  refine aE ?_
  refine KB ?_
  refine rD [] ?_
  refine aD 0 rfl (dL rfl (hv:=by exact KI Try.underlying33 rfl sz_33)) ?_
  refine aP 2 rfl (KH (o':=4) Try.underlying26 rfl rfl rfl sz_24 (by decide)) ?_
  refine aD 3 rfl (dL rfl (hv:=KQ Try.underlying24 rfl (by first|rfl|exact Kf _ _ _ (by omega)|exact Ke _ (by omega)|exact Kd _ (by omega)|exact dv_m _ _ _ (by omega)))) ?_
  refine aD 5 rfl (dL rfl (hv:=by exact KI Try.underlying33 rfl sz_33)) ?_
  refine aP 7 rfl (KH (o':=4) Try.underlying26 rfl rfl rfl sz_24 (by decide)) ?_
  refine aD 8 rfl (dL rfl (hv:=KQ Try.underlying24 rfl (by first|rfl|exact Kf _ _ _ (by omega)|exact Ke _ (by omega)|exact Kd _ (by omega)|exact dv_m _ _ _ (by omega)))) ?_
  refine aO 1 rfl (cZ rfl en_46 rfl (fun w hw hs=>(c_n_From (a) ha w).mono fun e w' h=>KAY (Old.nil _) hs h) ?_)
  rintro _ _ ⟨qa,rfl,rfl,hna⟩
  refine aO 4 rfl (cZ rfl en_60 rfl (fun w hw hs=>(c_n_Mod qa Q.n (a) V.n hn0 w (mC hw) (crvI_n (mC hw)) (by omega)).mono fun e w' h=>KAY (Old.one (x:=numT qa (a)) (by repeat (first|exact Mh _|apply Mt)) rfl) hs h) ?_)
  rintro _ _ ⟨qx,rfl,rfl,hnx⟩
  refine aO 6 rfl (cZ rfl en_46 rfl (fun w hw hs=>(c_n_From (b) hb9 w).mono fun e w' h=>KAY (Old.nil _) hs h) ?_)
  rintro _ _ ⟨qb,rfl,rfl,hnb⟩
  refine aO 9 rfl (cZ rfl en_60 rfl (fun w hw hs=>(c_n_Mod qb Q.n (b) V.n hn0 w (mC hw) (crvI_n (mC hw)) (by omega)).mono fun e w' h=>KAY (Old.one (x:=numT qb (b)) (by repeat (first|exact Mh _|apply Mt)) rfl) hs h) ?_)
  rintro _ _ ⟨qy,rfl,rfl,hny⟩
  refine aA 10 ?_
  refine aA 11 ?_
  refine aE ?_
  refine KB ?_
  refine rD [11] ?_
  refine aP 0 rfl (KH (o':=0) Try.underlying26 rfl rfl rfl sz_3 (by decide)) ?_
  refine aD 1 rfl (dL rfl (hv:=KQ Try.underlying3 rfl (by first|rfl|exact Kf _ _ _ (by omega)|exact Ke _ (by omega)|exact Kd _ (by omega)|exact dv_m _ _ _ (by omega)))) ?_
  refine aM 2 ?_
  refine aP 4 rfl (KM (KAD pl_33 zr_33 rfl rfl) (show _ = natV 0 by unfold natV natL; rw [← vec_zeros 9])) ?_
  refine aD 5 rfl (dL rfl (hv:=by exact KI Try.underlying35 rfl sz_35)) ?_
  refine KAc ?_
  refine KAC 10 rfl (.inl zr_35) (Nb rfl) rfl rfl rfl ?_
  refine Kl 3 rfl rfl rfl (Nb rfl) (by kernel_rfl) rfl (Kq (first:=[]) rfl en_52 rfl (fun w hw=>c_n_Nat qx (a%V.n) (D.nw (a%V.n)) w (mC hw))) ?_
  rintro _ _ ⟨rfl,rfl⟩
  refine Kl 6 rfl rfl rfl (Nb rfl) (by kernel_rfl) rfl (Kq (first:=[]) rfl en_73 rfl (fun w hw=>c_dualMul _ V (a%V.n) (0) (P) w h2 hPo hXn hnp)) ?_
  rintro _ _ ⟨rfl,rfl⟩
  refine pM 7 ?_
  refine pP 8 rfl (KX rfl rfl) ?_
  refine pP 9 rfl (KX rfl rfl) ?_
  refine pE (fun b15=>?_)
  refine KAF ?_
  refine aL 11 rfl (sA rfl rfl sz_35 (by exact Kc _ _ _) (hl:=by exact KK _ _ _) (h:=?_))
  refine aA 12 ?_
  refine aE ?_
  refine KB ?_
  refine rD [9] ?_
  refine aP 0 rfl (KH (o':=0) Try.underlying26 rfl rfl rfl sz_3 (by decide)) ?_
  refine aD 1 rfl (dL rfl (hv:=KQ Try.underlying3 rfl (by first|rfl|exact Kf _ _ _ (by omega)|exact Ke _ (by omega)|exact Kd _ (by omega)|exact dv_m _ _ _ (by omega)))) ?_
  refine aM 2 ?_
  refine KAc ?_
  refine KAC 8 rfl (.inl zr_35) (Nb rfl) rfl rfl rfl ?_
  refine Kl 3 rfl rfl rfl (Nb rfl) (by kernel_rfl) rfl (Kq (first:=[]) rfl en_52 rfl (fun w hw=>c_n_Nat qx (a%V.n) (D.nw (a%V.n)) w (mC hw))) ?_
  rintro _ _ ⟨rfl,rfl⟩
  refine Kl 4 rfl rfl rfl (Nb rfl) (by kernel_rfl) rfl (Kq (first:=[]) rfl en_57 rfl (fun w hw=>c_bMulN _ V (a%V.n) (pmul V.A V.G (a%V.n)) w h2 hXn (rfl))) ?_
  rintro _ _ ⟨rfl,rfl⟩
  refine pM 5 ?_
  refine pP 6 rfl (KX rfl rfl) ?_
  refine pP 7 rfl (KX rfl rfl) ?_
  refine pE (fun b17=>?_)
  refine KAF ?_
  refine aL 9 rfl (sA rfl rfl sz_35 (by exact Kc _ _ _) (hl:=by exact KK _ _ _) (h:=?_))
  refine aA 10 ?_
  refine aE ?_
  refine KB ?_
  refine rD [11] ?_
  refine aP 0 rfl (KH (o':=0) Try.underlying26 rfl rfl rfl sz_3 (by decide)) ?_
  refine aD 1 rfl (dL rfl (hv:=KQ Try.underlying3 rfl (by first|rfl|exact Kf _ _ _ (by omega)|exact Ke _ (by omega)|exact Kd _ (by omega)|exact dv_m _ _ _ (by omega)))) ?_
  refine aP 2 rfl (KM (KAD pl_33 zr_33 rfl rfl) (show _ = natV 0 by unfold natV natL; rw [← vec_zeros 9])) ?_
  refine aM 3 ?_
  refine aD 5 rfl (dL rfl (hv:=by exact KI Try.underlying35 rfl sz_35)) ?_
  refine KAc ?_
  refine KAC 10 rfl (.inl zr_35) (Nb rfl) rfl rfl rfl ?_
  refine Kl 4 rfl rfl rfl (Nb rfl) (by kernel_rfl) rfl (Kq (first:=[]) rfl en_52 rfl (fun w hw=>c_n_Nat qy (b%V.n) (D.nw (b%V.n)) w (mC hw))) ?_
  rintro _ _ ⟨rfl,rfl⟩
  refine Kl 6 rfl rfl rfl (Nb rfl) (by kernel_rfl) rfl (Kq (first:=[]) rfl en_73 rfl (fun w hw=>c_dualMul _ V (0) (b%V.n) (P) w h2 hPo hnp hYn)) ?_
  rintro _ _ ⟨rfl,rfl⟩
  refine pM 7 ?_
  refine pP 8 rfl (KX rfl rfl) ?_
  refine pP 9 rfl (KX rfl rfl) ?_
  refine pE (fun b19=>?_)
  refine KAF ?_
  refine aL 11 rfl (sA rfl rfl sz_35 (by exact Kc _ _ _) (hl:=by exact KK _ _ _) (h:=?_))
  refine aA 12 ?_
  refine aE ?_
  refine KB ?_
  refine rD [10] ?_
  refine aP 0 rfl (KH (o':=0) Try.underlying26 rfl rfl rfl sz_3 (by decide)) ?_
  refine aD 1 rfl (dL rfl (hv:=KQ Try.underlying3 rfl (by first|rfl|exact Kf _ _ _ (by omega)|exact Ke _ (by omega)|exact Kd _ (by omega)|exact dv_m _ _ _ (by omega)))) ?_
  refine aM 2 ?_
  refine aD 4 rfl (dL rfl (hv:=by exact KI Try.underlying35 rfl sz_35)) ?_
  refine KAc ?_
  refine KAC 9 rfl (.inl zr_35) (Nb rfl) rfl rfl rfl ?_
  refine Kl 3 rfl rfl rfl (Nb rfl) (by kernel_rfl) rfl (Kq (first:=[]) rfl en_52 rfl (fun w hw=>c_n_Nat qy (b%V.n) (D.nw (b%V.n)) w (mC hw))) ?_
  rintro _ _ ⟨rfl,rfl⟩
  refine Kl 5 rfl rfl rfl (Nb rfl) (by kernel_rfl) rfl (Kq (first:=[]) rfl en_63 rfl (fun w hw=>c_mMulN _ V (b%V.n) (P) (pmul V.A P (b%V.n)) w h2 hPo hYn (rfl))) ?_
  rintro _ _ ⟨rfl,rfl⟩
  refine pM 6 ?_
  refine pP 7 rfl (KX rfl rfl) ?_
  refine pP 8 rfl (KX rfl rfl) ?_
  refine pE (fun b21=>?_)
  refine KAF ?_
  refine aL 10 rfl (sA rfl rfl sz_35 (by exact Kc _ _ _) (hl:=by exact KK _ _ _) (h:=?_))
  refine aA 11 ?_
  refine aE ?_
  refine KB ?_
  refine rD [12] ?_
  refine aP 0 rfl (KH (o':=0) Try.underlying26 rfl rfl rfl sz_3 (by decide)) ?_
  refine aD 1 rfl (dL rfl (hv:=KQ Try.underlying3 rfl (by first|rfl|exact Kf _ _ _ (by omega)|exact Ke _ (by omega)|exact Kd _ (by omega)|exact dv_m _ _ _ (by omega)))) ?_
  refine aM 2 ?_
  refine aM 4 ?_
  refine aD 6 rfl (dL rfl (hv:=by exact KI Try.underlying35 rfl sz_35)) ?_
  refine KAc ?_
  refine KAC 11 rfl (.inl zr_35) (Nb rfl) rfl rfl rfl ?_
  refine Kl 3 rfl rfl rfl (Nb rfl) (by kernel_rfl) rfl (Kq (first:=[]) rfl en_52 rfl (fun w hw=>c_n_Nat qx (a%V.n) (D.nw (a%V.n)) w (mC hw))) ?_
  rintro _ _ ⟨rfl,rfl⟩
  refine Kl 5 rfl rfl rfl (Nb rfl) (by kernel_rfl) rfl (Kq (first:=[]) rfl en_52 rfl (fun w hw=>c_n_Nat qy (b%V.n) (D.nw (b%V.n)) w (mC hw))) ?_
  rintro _ _ ⟨rfl,rfl⟩
  refine Kl 7 rfl rfl rfl (Nb rfl) (by kernel_rfl) rfl (Kq (first:=[]) rfl en_73 rfl (fun w hw=>c_dualMul _ V (a%V.n) (b%V.n) (V.G) w h2 hok.on hXn hYn)) ?_
  rintro _ _ ⟨rfl,rfl⟩
  refine pM 8 ?_
  refine pP 9 rfl (KX rfl rfl) ?_
  refine pP 10 rfl (KX rfl rfl) ?_
  refine pE (fun b23=>?_)
  refine KAF ?_
  refine aL 12 rfl (sA rfl rfl sz_35 (by exact Kc _ _ _) (hl:=by exact KK _ _ _) (h:=?_))
  refine aA 13 ?_
  refine aE ?_
  refine KB ?_
  refine rD [13] ?_
  refine aP 0 rfl (KH (o':=0) Try.underlying26 rfl rfl rfl sz_3 (by decide)) ?_
  refine aD 1 rfl (dL rfl (hv:=KQ Try.underlying3 rfl (by first|rfl|exact Kf _ _ _ (by omega)|exact Ke _ (by omega)|exact Kd _ (by omega)|exact dv_m _ _ _ (by omega)))) ?_
  refine aM 2 ?_
  refine aM 3 ?_
  refine aP 4 rfl (KH (o':=4) Try.underlying26 rfl rfl rfl sz_24 (by decide)) ?_
  refine aD 5 rfl (dL rfl (hv:=KQ Try.underlying24 rfl (by first|rfl|exact Kf _ _ _ (by omega)|exact Ke _ (by omega)|exact Kd _ (by omega)|exact dv_m _ _ _ (by omega)))) ?_
  refine KAc ?_
  refine KAC 12 rfl (.inl zr_35) (Nb rfl) rfl rfl rfl ?_
  refine Kl 6 rfl rfl rfl (Nb rfl) (by kernel_rfl) rfl (LExt.callZ (first:=[]) rfl en_71 rfl (fun w hw hs=>(c_n_AddMod qx qy Q.n (a%V.n) (b%V.n) V.n w (mC hw) (mC hw) (crvI_n (mC hw)) (by omega) (by omega) hXn hYn).mono fun e w' h=>KAY (Old.nil _) hs h)) ?_
  rintro _ _ ⟨qs,rfl,rfl,hns⟩
  refine Kl 7 rfl rfl rfl (Nb rfl) (by kernel_rfl) rfl (Kq (first:=[]) rfl en_52 rfl (fun w hw=>c_n_Nat qs ((a%V.n+b%V.n)%V.n) (D.nw ((a%V.n+b%V.n)%V.n)) w (mC hw))) ?_
  rintro _ _ ⟨rfl,rfl⟩
  refine Kl 8 rfl rfl rfl (Nb rfl) (by kernel_rfl) rfl (Kq (first:=[]) rfl en_57 rfl (fun w hw=>c_bMulN _ V ((a%V.n+b%V.n)%V.n) (pmul V.A V.G ((a%V.n+b%V.n)%V.n)) w h2 (Nat.mod_lt _ hnp) (rfl))) ?_
  rintro _ _ ⟨rfl,rfl⟩
  refine pM 9 ?_
  refine pP 10 rfl (KX rfl rfl) ?_
  refine pP 11 rfl (KX rfl rfl) ?_
  refine pE (fun b25=>?_)
  refine KAF ?_
  refine aL 13 rfl (sA rfl rfl sz_35 (by exact Kc _ _ _) (hl:=by exact KK _ _ _) (h:=?_))
  refine aA 14 ?_
  refine aE ?_
  refine KB (KA ?_)
  refine oM ?_
  refine oS (cF rfl en_33 rfl (fun w hw=>c_Num _ w) ?_)
  refine oP (KF (v:=.bool true) rfl rfl (br_t (br_eql (b:=0)) (by first|rfl|assumption|omega|(simp; done)))) ?_
  refine oM ?_
  refine oGM ?_
  refine oGS (cF rfl en_33 rfl (fun w hw=>c_Num _ w) ?_)
  refine oGP (KF (v:=.bool true) rfl rfl (br_t (br_eql (b:=0)) (by first|rfl|assumption|omega|(simp; done)))) ?_
  refine oP (Kx rfl rfl) ?_
  refine oM ?_
  refine oGM ?_
  refine oGS (cF rfl en_33 rfl (fun w hw=>c_Num _ w) ?_)
  refine oGP (KF (v:=.bool true) rfl rfl (br_t (br_eql (b:=0)) (by first|rfl|assumption|omega|(simp; done)))) ?_
  refine oP (Kx rfl rfl) ?_
  refine oM ?_
  refine oGM ?_
  refine oGS (cF rfl en_33 rfl (fun w hw=>c_Num _ w) ?_)
  refine oGP (KF (v:=.bool true) rfl rfl (br_t (br_eql (b:=0)) (by first|rfl|assumption|omega|(simp; done)))) ?_
  refine oP (Kx rfl rfl) ?_
  refine oM ?_
  refine oGM ?_
  refine oGS (cF rfl en_33 rfl (fun w hw=>c_Num _ w) ?_)
  refine oGP (KF (v:=.bool true) rfl rfl (br_t (br_eql (b:=0)) (by first|rfl|assumption|omega|(simp; done)))) ?_
  refine oP (Kx rfl rfl) ?_
  refine oM ?_
  refine oGM ?_
  refine oGS (cF rfl en_33 rfl (fun w hw=>c_Num _ w) ?_)
  refine oGP (KF (v:=.bool true) rfl rfl (br_t (br_eql (b:=0)) (by first|rfl|assumption|omega|(simp; done)))) ?_
  refine oP (Kx rfl rfl) ?_
  refine oM ?_
  refine LOps.detG rfl rfl (dL rfl (hv:=by exact KI Try.underlying35 rfl sz_35)) (Nb rfl) ?_
  refine LOps.detG rfl rfl (dL rfl (hv:=by exact KI Try.underlying35 rfl sz_35)) (Nb rfl) ?_
  refine oGP (KM (Det.eqa (by kernel_rfl) (fun w=>eq_ptP_t hok (P:=dualP V (a%V.n) 0 P) (Q:=pmul V.A V.G (a%V.n)) (dual_x0 hok _ _) 10000 (by decide) w) rfl rfl) (show _ = Value.bool true by rfl)) ?_
  refine oP (Kx rfl rfl) ?_
  refine oM ?_
  refine LOps.detG rfl rfl (dL rfl (hv:=by exact KI Try.underlying35 rfl sz_35)) (Nb rfl) ?_
  refine LOps.detG rfl rfl (dL rfl (hv:=by exact KI Try.underlying35 rfl sz_35)) (Nb rfl) ?_
  refine oGP (KM (Det.eqa (by kernel_rfl) (fun w=>eq_ptP_t hok (P:=dualP V 0 (b%V.n) P) (Q:=pmul V.A P (b%V.n)) (dual_0y hok _ hPo) 10000 (by decide) w) rfl rfl) (show _ = Value.bool true by rfl)) ?_
  refine oP (Kx rfl rfl) ?_
  refine oM ?_
  refine LOps.detG rfl rfl (dL rfl (hv:=by exact KI Try.underlying35 rfl sz_35)) (Nb rfl) ?_
  refine LOps.detG rfl rfl (dL rfl (hv:=by exact KI Try.underlying35 rfl sz_35)) (Nb rfl) ?_
  refine oGP (KM (Det.eqa (by kernel_rfl) (fun w=>eq_ptP_t hok (P:=dualP V (a%V.n) (b%V.n) V.G) (Q:=pmul V.A V.G ((a%V.n+b%V.n)%V.n)) (dual_xy hok _ _) 10000 (by decide) w) rfl rfl) (show _ = Value.bool true by rfl)) ?_
  refine oP (Kx rfl rfl) ?_
  refine oA ?_
  refine KC (KO ?_)
  refine ⟨[_],.cons rfl .nil,fun a w' hr=>⟨?_,hr.fr.below⟩⟩
  rfl
end Go.Proofs.Ytlmiolnccgjjjaa
set_option maxRecDepth 100000
namespace Go.Proofs.Ytlmiolnccgjjjaa
open Go
def ioChars:List Char:=([104,97,114,110,101,115,115,32,51,100,97,51,56,97,97,97,101,50,102,56,55,53,98,101,100,56,56,57,99,51,57,97,102,97,100,99,99,98,102,50,102,97,48,49,100,55,56,97,101,50,48,102,97,99,53,57,102,57,56,48,52,102,53,99,98,98,56,100,52,97,97,98,32,99,117,116,32,97,116,32,99,117,114,118,101,116,47,99,117,114,118,101,116,108,97,119,49,54,46,84,97,98,108,101,83,105,122,101,115,32,99,117,114,118,101,116,47,99,117,114,118,101,116,108,97,119,49,54,46,84,97,98,108,101,78,105,108,32,99,117,114,118,101,116,47,99,117,114,118,101,116,108,97,119,50,49,46,83,101,99,49,115,32,99,117,114,118,101,116,47,99,117,114,118,101,116,108,97,119,50,49,46,83,101,99,49,66,97,99,107,32,99,117,114,118,101,116,47,99,117,114,118,101,116,108,97,119,50,49,46,83,101,99,49,84,105,110,121,32,99,117,114,118,101,116,47,99,117,114,118,101,116,108,97,119,50,49,46,83,101,99,49,66,111,116,104,32,99,117,114,118,101,116,47,99,117,114,118,101,116,108,97,119,50,49,46,83,101,99,49,76,101,110,103,116,104,115,32,99,117,114,118,101,116,47,99,117,114,118,101,116,108,97,119,50,49,46,83,101,99,49,87,104,111,108,101,32,99,117,114,118,101,116,47,99,117,114,118,101,116,108,97,119,50,49,46,83,101,99,49,71,114,101,97,116,32,99,117,114,118,101,116,47,99,117,114,118,101,116,108,97,119,49,54,46,84,97,98,108,101,115,32,99,117,114,118,101,116,47,99,117,114,118,101,116,108,97,119,49,57,46,66,97,115,101,115,32,99,117,114,118,101,116,47,99,117,114,118,101,116,108,97,119,49,57,46,66,97,115,101,78,105,108,32,99,117,114,118,101,116,47,99,117,114,118,101,116,108,97,119,49,54,46,84,97,98,108,101,66,108,105,110,100,32,99,117,114,118,101,116,47,99,117,114,118,101,116,108,97,119,49,54,46,84,97,98,108,101,83,117,109,115,32,99,117,114,118,101,116,47,99,117,114,118,101,116,108,97,119,49,56,46,77,117,108,116,115,32,99,117,114,118,101,116,47,99,117,114,118,101,116,108,97,119,49,56,46,77,117,108,116,69,110,100,115,32,99,117,114,118,101,116,47,99,117,114,118,101,116,108,97,119,49,56,46,77,117,108,116,84,119,105,99,101,32,99,117,114,118,101,116,47,99,117,114,118,101,116,108,97,119,49,56,46,77,117,108,116,84,105,110,121,32,99,117,114,118,101,116,47,99,117,114,118,101,116,108,97,119,49,57,46,66,97,115,101,84,117,114,110,115,32,99,117,114,118,101,116,47,99,117,114,118,101,116,108,97,119,49,56,46,77,117,108,116,66,108,105,110,100,32,99,117,114,118,101,116,47,99,117,114,118,101,116,108,97,119,49,57,46,66,97,115,101,83,116,101,112,115,32,99,117,114,118,101,116,47,99,117,114,118,101,116,108,97,119,49,57,46,66,97,115,101,66,108,105,110,100,32,99,117,114,118,101,116,47,99,117,114,118,101,116,108,97,119,49,56,46,77,117,108,116,65,100,100,115,32,99,117,114,118,101,116,47,99,117,114,118,101,116,108,97,119,50,48,46,68,117,97,108,65,108,111,110,101,32,99,117,114,118,101,116,47,99,117,114,118,101,116,108,97,119,50,53,46,69,99,100,104,65,103,114,101,101,115]:List Nat).map Char.ofNat
theorem io_lit:Try.prog.initOrder = String.ofList ioChars:=by kernel_rfl
theorem io_list:Try.prog.initOrder.toList = ioChars:=by rw [io_lit,String.toList_ofList]
def cutW:List Char:=([99,117,116]:List Nat).map Char.ofNat
def ioRest:List (List Char):=(wordsSigns ioChars).drop 3
theorem io_words:behindMainWord (wordsSigns ioChars) = cutW :: ioRest:=by kernel_rfl
theorem io_strip (r:List (List Char)):stripLifts liftWords (cutW :: r) = ([],cutW :: r):=by kernel_rfl
theorem no_later:Try.prog.laysLater = false:=by kernel_rfl
theorem no_reflect:Try.prog.bearsReflect = false:=by kernel_rfl
theorem door_fits:Try.prog.doorFits [] = true:=by kernel_rfl
theorem and2 {a b:Bool} (h:a = true) (k:b = true):(a && b) = true:=by rw [h,k]; rfl
theorem or_right {a b:Bool} (h:b = true):(a || b) = true:=by rw [h]; cases a <;> rfl
theorem cut_is : (cutW == "cut".toList) = true := by kernel_rfl
theorem cut_gc : (cutW == "gc".toList) = false := by kernel_rfl
theorem cut_spec : (cutW == "spec".toList) = false := by kernel_rfl
theorem cut_carried : (cutW == "carried".toList) = false := by kernel_rfl
theorem head_carried (r : List (List Char)) : ((cutW :: r).head? == some "carried".toList) = false := cut_carried
theorem enter_of (P:Program) {r:List (List Char)} (h:behindMainWord (wordsSigns P.initOrder.toList) = cutW :: r) (h1:P.laysLater = false) (h2:P.bearsReflect = false) (h3:P.doorFits [] = true):P.mayEnter = true:=by
  unfold Program.mayEnter
  rw [h]
  dsimp only
  refine or_right (and2 (and2 (and2 (and2 ?_ ?_) ?_) ?_) ?_)
  · rw [io_strip]; exact cut_is
  · rw [io_strip,h1]; rfl
  · rw [io_strip,h2]; rfl
  · rw [io_strip]; rfl
  · rw [io_strip]; exact h3
theorem lifts_of (P:Program) {r:List (List Char)} (h:behindMainWord (wordsSigns P.initOrder.toList) = cutW :: r):(false == P.liftsFinal) = true:=by
  have hl:P.headLifts = []:=by
    unfold Program.headLifts
    rw [h,io_strip]
    simp only [ite_self]
  unfold Program.liftsFinal
  rw [h,hl]
  dsimp only
  rw [head_carried,Bool.false_and]
  rfl
theorem make_of (P:Program) {r:List (List Char)} (h:behindMainWord (wordsSigns P.initOrder.toList) = cutW :: r):(P.make == some .cut) = true:=by
  have:P.make = some .cut:=by
    unfold Program.make
    rw [h]
    dsimp only
    rw [if_neg (by rw [cut_gc,cut_spec]; exact fun h=>by cases h),if_pos (by rw [cut_is]; rfl)]
  rw [this]; rfl
theorem io_all:behindMainWord (wordsSigns Try.prog.initOrder.toList) = cutW :: ioRest:=by rw [io_list,io_words]
theorem fact_enter:Try.prog.mayEnter = true:=enter_of _ io_all no_later no_reflect door_fits
theorem fact_lifts:(false == Try.prog.liftsFinal) = true:=lifts_of _ io_all
theorem fact_make:(Try.prog.make == some .cut) = true:=make_of _ io_all
theorem fact_laid:laidOutB Try.prog = true:=by kernel_rfl
theorem fact_maps:mapsRowed Try.prog = true:=by kernel_rfl
theorem fact_heard:Try.prog.stopsHeard = true:=by kernel_rfl
end Go.Proofs.Ytlmiolnccgjjjaa
