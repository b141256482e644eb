/- Part 5 of what the proof leans on: a symbolic execution of the model, walks of the program's functions, and the mathematics. No condition. -/
import Derived.WalkKit
import Derived.Orders
import Derived.Laws.StructEq
import Derived.WalkSpells
import Derived.OrdersHeld
import Derived.KernelRfl
import Derived.Laws.Externs
import Derived.Laws.Bits64
import Derived.Laws.MakeOwn
import Derived.Laws.BytesString
import Derived.Carry
import Derived.WideShapes
import GoSem.Claim
import Derived.Test.YtlmiolnccgjjjaaProg
import Derived.Laws.AppendOwn
import Derived.Test.YtlmiolnccgjjjaaRows
import Derived.ProofKit
import Derived.OpenShut
import Derived.Test.YtlmiolnccgjjjaaO4
set_option linter.unusedVariables false
set_option linter.unusedSimpArgs false
set_option maxRecDepth 20000
namespace Go.Proofs.Ytlmiolnccgjjjaa
open Go Go.RowKit
open Grp
def pjF {p:Nat} (T:Fin p×Fin p×Fin p):Value:=pjV T.1.val T.2.1.val T.2.2.val
def pjFL {p:Nat} (T:Fin p×Fin p×Fin p):List Value:=pjL T.1.val T.2.1.val T.2.2.val
theorem fill_pj (X Y Z:Nat):fillL [(0,9),(9,9),(18,9)] (vec .u64 9 (fun _=>0)++(vec .u64 9 (fun _=>0)++vec .u64 9 (fun _=>0))) [(0,natV X),(1,natV Y),(2,natV Z)] = some (pjL X Y Z):=by
  refine KAX (A:=[]) (B:=vec .u64 9 (fun _=>0)) (D:=vec .u64 9 (fun _=>0)++vec .u64 9 (fun _=>0)) (cs:=natL X) rfl rfl (KD _) rfl rfl (KI _ _ _) ?_
  refine KAX (A:=natL X) (B:=vec .u64 9 (fun _=>0)) (D:=vec .u64 9 (fun _=>0)) (cs:=natL Y) rfl rfl (KD _) (by simp) (KD _) (KI _ _ _) ?_
  refine (KAX (A:=natL X++natL Y) (B:=vec .u64 9 (fun _=>0)) (D:=[]) (cs:=natL Z) rfl rfl (KD _) (by simp) (by simp [KD]) (KI _ _ _) rfl).trans ?_
  simp [pjL]
theorem fill_pjN (Y:Nat):fillL [(0,9),(9,9),(18,9)] (vec .u64 9 (fun _=>0)++(vec .u64 9 (fun _=>0)++vec .u64 9 (fun _=>0))) [(1,natV Y)] = some (pjL 0 Y 0):=by
  refine (KAX (A:=vec .u64 9 (fun _=>0)) (B:=vec .u64 9 (fun _=>0)) (D:=vec .u64 9 (fun _=>0)) (cs:=natL Y) rfl rfl (KD _) rfl (KI _ _ _) (KI _ _ _) rfl).trans ?_
  simp [pjL,natL,vec_zeros 9]
theorem c_None  (w:World)  : Calls Try.prog 123 ([]:List Value).toArray w (fun e w'=>e = .returned (pjV 0 1 0)∧Below w.heap.size w w'):=by
  refine Kj (N:=3) (rs:=[.cell 0 172]) [] Try.func123 rfl Try.ntmps123 Try.results123 (Nb rfl) trivial rfl ?_
  show LCode _ _ _ ⟨_,_⟩ _
  refine KB (KA ?_)
  refine oS (mk (KS zr_172) (fun b0=>?_))
  refine KC ?_
  refine KB (KA ?_)
  refine oS (cF rfl en_116 rfl (fun w hw=>c_nat_Small 1 (by decide) w) ?_)
  refine oP (KK (KAD pl_172 zr_172 rfl (fill_pjN 1)) rfl) ?_
  refine KT rfl (sA rfl rfl sz_172 (by repeat (first|exact Ka _|exact Kl _ _ _|exact Kc _|exact Kb _ _ _|exact Km _ _ _|exact KP|refine KL rfl ?_|refine KQ ?_ ?_)) (hl:=by first|exact KD _|exact KI _ _ _|exact KF _|exact KJ _ _ _|exact KX _ _ _|rfl|simp [KI,KD,KF]) (h:=?_))
  refine KC (KO ?_)
  refine ⟨[_],.cons ⟨_,_,_,rfl,(by repeat (first|exact Mh _|apply Mt)),by exact KG Try.underlying172 rfl sz_172⟩ .nil,fun a w' hr=>⟨?_,hr.fr.below⟩⟩
  rfl
theorem c_NoneF {V:Cv} (hok:V.Ok) (w:World):Calls Try.prog 123 ([]:List Value).toArray w (fun e w'=>e = .returned (pjF (tripF (.inf:Pt V.p)))∧Below w.heap.size w w'):=by
  have h:=c_None w
  have e:pjF (tripF (.inf:Pt V.p)) = pjV 0 1 0:=by
    unfold pjF tripF
    rw [fin_one (show 1<V.p from hok.prime.1)]
    rfl
  rwa [e]
theorem c_Triple (V:Cv) (hok:V.Ok) (P:Pt V.p) (w:World)  : Calls Try.prog 122 ([ptP P]:List Value).toArray w (fun e w'=>e = .returned (pjF (tripF P))∧Below w.heap.size w w'):=by
  refine Kj (N:=12) (rs:=[.cell 2 172]) [] Try.func122 rfl Try.ntmps122 Try.results122 (Nb rfl) trivial rfl ?_
  show LCode _ _ _ ⟨_,_⟩ _
  refine KB (KA ?_)
  refine oS (mB (fun b1=>?_))
  refine oS (mk (KS zr_172) (fun b2=>?_))
  refine KC ?_
  refine KB ?_
  refine KB ?_
  rcases P with _|⟨x,y⟩
  ·
    refine KA ?_
    refine oP (KE (o':=18) Try.underlying35 rfl rfl rfl sz_4 (by decide)) ?_
    refine oD (dL rfl (hv:=KM Try.underlying4 rfl (by exact pt_gt _ _ _))) ?_
    refine KC ?_
    refine Ki rfl ?_
    refine KB (KA ?_)
    refine oS (cF rfl en_123 rfl (fun w hw=>c_NoneF hok w) ?_)
    refine KT rfl (sA rfl rfl sz_172 (by repeat (first|exact Ka _|exact Kl _ _ _|exact Kc _|exact Kb _ _ _|exact Km _ _ _|exact KP|refine KL rfl ?_|refine KQ ?_ ?_)) (hl:=by first|exact KD _|exact KI _ _ _|exact KF _|exact KJ _ _ _|exact KX _ _ _|rfl|simp [KI,KD,KF]) (h:=?_))
    refine KC (KO ?_)
    refine ⟨[_],.cons ⟨_,_,_,rfl,(by repeat (first|exact Mh _|apply Mt)),by exact KG Try.underlying172 rfl sz_172⟩ .nil,fun a w' hr=>⟨?_,hr.fr.below⟩⟩
    rfl
  ·
    refine KA ?_
    refine oP (KE (o':=18) Try.underlying35 rfl rfl rfl sz_4 (by decide)) ?_
    refine oD (dL rfl (hv:=KM Try.underlying4 rfl (by exact pt_gt _ _ _))) ?_
    refine KC ?_
    refine KW rfl ?_
    refine KU ?_
    refine KB ?_
    refine rD [6] ?_
    refine aP 0 rfl (KE (o':=0) Try.underlying35 rfl rfl rfl sz_33 (by decide)) ?_
    refine aD 1 rfl (dL rfl (hv:=by exact KAA Try.underlying33 rfl sz_33 rfl (KD _))) ?_
    refine aP 2 rfl (KE (o':=9) Try.underlying35 rfl rfl rfl sz_33 (by decide)) ?_
    refine aD 3 rfl (dL rfl (hv:=by exact pt_ld1 _ _ _ _ _ _)) ?_
    refine aO 4 rfl (cF rfl en_116 rfl (fun w hw=>c_nat_Small 1 (by decide) w) ?_)
    refine aP 5 rfl (KK (KAD pl_172 zr_172 rfl (fill_pj _ _ _)) rfl) ?_
    refine aL 6 rfl (sA rfl rfl sz_172 (by repeat (first|exact Ka _|exact Kl _ _ _|exact Kc _|exact Kb _ _ _|exact Km _ _ _|exact KP|refine KL rfl ?_|refine KQ ?_ ?_)) (hl:=by first|exact KD _|exact KI _ _ _|exact KF _|exact KJ _ _ _|exact KX _ _ _|rfl|simp [KI,KD,KF]) (h:=?_))
    refine aE ?_
    refine KO ?_
    refine ⟨[_],.cons ⟨_,_,_,rfl,(by repeat (first|exact Mh _|apply Mt)),by exact KG Try.underlying172 rfl sz_172⟩ .nil,fun a w' hr=>⟨?_,hr.fr.below⟩⟩
    show _ = Ending.returned (pjV x.val y.val (1:Fin V.p).val)
    rw [fin_one (show 1<V.p from hok.prime.1)]
    rfl
theorem c_Plain (V:Cv) (b f bd:Nat) (hok:V.Ok) (X Y Z:Fin V.p) (w:World) (hb:(Item.blk b ⟨false,opL V f,129,(0,0)⟩).holds w) (hf:(Item.blk f ⟨false,fldL V.p bd,162,(0,0)⟩).holds w) (hbd:(Item.blk bd ⟨false,dvL V.p,212,(0,0)⟩).holds w):Calls Try.prog 124 ([.pointer (some ⟨b,0,none⟩),pjV X.val Y.val Z.val]:List Value).toArray w (fun e w'=>e = .returned (ptP (plainP X Y Z))∧Below w.heap.size w w'):=by
  have hbb:=hok.bounds
  have hpW:V.p<W9:=w9_521 hbb.2.1
  refine Kj (N:=35) (rs:=[.cell 4 35]) [.blk b ⟨false,opL V f,129,(0,0)⟩,.blk f ⟨false,fldL V.p bd,162,(0,0)⟩,.blk bd ⟨false,dvL V.p,212,(0,0)⟩] Try.func124 rfl Try.ntmps124 Try.results124 (Nb rfl) ⟨hb,hf,hbd,trivial⟩ rfl ?_
  show LCode _ _ _ ⟨_,_⟩ _
  refine KB (KA ?_)
  refine oS (mB (fun b3=>?_))
  refine oS (mk (KS zr_35) (fun b4=>?_))
  refine KC ?_
  refine KB ?_
  refine KB ?_
  by_cases hz:Z = 0
  ·
    refine KA ?_
    refine oP (KE (o':=18) Try.underlying172 rfl rfl rfl sz_33 (by decide)) ?_
    refine oD (dL rfl (hv:=by exact pj_ld2 _ _ _ _ _ _)) ?_
    refine oP (KK (KAD pl_33 zr_33 rfl rfl) (show _ = natV 0 by unfold natV natL; rw [← vec_zeros 9])) ?_
    refine oP (KK (Det.eqa (by kernel_rfl) (fun w=>eq_nat Z.val 0 (Nat.lt_trans Z.isLt hpW) zero_w9 10000 (by decide) w) rfl rfl) (show _ = Value.bool true by rw [decide_eq_true (by rw [hz]; rfl)])) ?_
    refine KC ?_
    refine Ki rfl ?_
    refine KB (KA ?_)
    refine oP (KK (KAD pl_35 zr_35 rfl fill_ptInf) rfl) ?_
    refine KT rfl (sA rfl rfl sz_35 (by repeat (first|exact Ka _|exact Kl _ _ _|exact Kc _|exact Kb _ _ _|exact Km _ _ _|exact KP|refine KL rfl ?_|refine KQ ?_ ?_)) (hl:=by first|exact KD _|exact KI _ _ _|exact KF _|exact KJ _ _ _|exact KX _ _ _|rfl|simp [KI,KD,KF]) (h:=?_))
    refine KC (KO ?_)
    refine ⟨[_],.cons ⟨_,_,_,rfl,(by repeat (first|exact Mh _|apply Mt)),by exact KG Try.underlying35 rfl sz_35⟩ .nil,fun a w' hr=>⟨?_,hr.fr.below⟩⟩
    rw [hz,plain_inf]
    rfl
  ·
    refine KA ?_
    refine oP (KE (o':=18) Try.underlying172 rfl rfl rfl sz_33 (by decide)) ?_
    refine oD (dL rfl (hv:=by exact pj_ld2 _ _ _ _ _ _)) ?_
    refine oP (KK (KAD pl_33 zr_33 rfl rfl) (show _ = natV 0 by unfold natV natL; rw [← vec_zeros 9])) ?_
    refine oP (KK (Det.eqa (by kernel_rfl) (fun w=>eq_nat Z.val 0 (Nat.lt_trans Z.isLt hpW) zero_w9 10000 (by decide) w) rfl rfl) (show _ = Value.bool false by rw [decide_eq_false (show ¬ Z.val = 0 from fun e=>hz (Fin.ext e))])) ?_
    refine KC ?_
    refine KW rfl ?_
    refine KU ?_
    refine KB ?_
    refine rD [8] ?_
    refine aM 0 ?_
    refine aP 1 rfl (KR rfl) ?_
    refine aP 2 rfl (KE (o':=59) Try.underlying129 rfl rfl rfl sz_127 (by decide)) ?_
    refine aD 3 rfl (dL rfl (hv:=KM Try.underlying127 rfl (by exact cvC_gt_F _ _ _ _ _ _ _ _ _ _ _ _ _))) ?_
    refine aP 4 rfl (KE (o':=18) Try.underlying172 rfl rfl rfl sz_33 (by decide)) ?_
    refine aD 5 rfl (dL rfl (hv:=by exact pj_ld2 _ _ _ _ _ _)) ?_
    refine KAV ?_
    refine Kz 7 rfl (.inl zr_33) (Nb rfl) rfl rfl rfl ?_
    refine Kh 6 rfl rfl rfl (Nb rfl) (by kernel_rfl) rfl (Ko (first:=[]) rfl en_136 rfl (fun w hw=>c_F_Inv V hok f bd _ w (mC hw))) ?_
    rintro _ _ ⟨rfl,rfl⟩
    refine pE (fun b5=>?_)
    refine KAH ?_
    refine aL 8 rfl (sA rfl rfl sz_33 (by repeat (first|exact Ka _|exact Kl _ _ _|exact Kc _|exact Kb _ _ _|exact Km _ _ _|exact KP|refine KL rfl ?_|refine KQ ?_ ?_)) (hl:=by first|exact KD _|exact KI _ _ _|exact KF _|exact KJ _ _ _|exact KX _ _ _|rfl|simp [KI,KD,KF]) (h:=?_))
    refine aE ?_
    refine KB ?_
    refine rD [17] ?_
    refine aM 0 ?_
    refine aP 1 rfl (KR rfl) ?_
    refine aP 2 rfl (KE (o':=59) Try.underlying129 rfl rfl rfl sz_127 (by decide)) ?_
    refine aD 3 rfl (dL rfl (hv:=KM Try.underlying127 rfl (by exact cvC_gt_F _ _ _ _ _ _ _ _ _ _ _ _ _))) ?_
    refine aP 4 rfl (KE (o':=0) Try.underlying172 rfl rfl rfl sz_33 (by decide)) ?_
    refine aD 5 rfl (dL rfl (hv:=by exact KAA Try.underlying33 rfl sz_33 rfl (KD _))) ?_
    refine aD 6 rfl (dL rfl (hv:=by exact KG Try.underlying33 rfl sz_33)) ?_
    refine aM 8 ?_
    refine aP 9 rfl (KR rfl) ?_
    refine aP 10 rfl (KE (o':=59) Try.underlying129 rfl rfl rfl sz_127 (by decide)) ?_
    refine aD 11 rfl (dL rfl (hv:=KM Try.underlying127 rfl (by exact cvC_gt_F _ _ _ _ _ _ _ _ _ _ _ _ _))) ?_
    refine aP 12 rfl (KE (o':=9) Try.underlying172 rfl rfl rfl sz_33 (by decide)) ?_
    refine aD 13 rfl (dL rfl (hv:=by exact LoadV.mid Try.underlying33 rfl sz_33 rfl (KD _) (KD _))) ?_
    refine aD 14 rfl (dL rfl (hv:=by exact KG Try.underlying33 rfl sz_33)) ?_
    refine aO 7 rfl (cF rfl en_120 rfl (fun w hw=>c_F_Mul V hok f bd _ _ w (mC hw) (mC hw)) ?_)
    refine aO 15 rfl (cF rfl en_120 rfl (fun w hw=>c_F_Mul V hok f bd _ _ w (mC hw) (mC hw)) ?_)
    refine aP 16 rfl (KK (KAD pl_35 zr_35 rfl (fill_pt _ _)) rfl) ?_
    refine aL 17 rfl (sA rfl rfl sz_35 (by repeat (first|exact Ka _|exact Kl _ _ _|exact Kc _|exact Kb _ _ _|exact Km _ _ _|exact KP|refine KL rfl ?_|refine KQ ?_ ?_)) (hl:=by first|exact KD _|exact KI _ _ _|exact KF _|exact KJ _ _ _|exact KX _ _ _|rfl|simp [KI,KD,KF]) (h:=?_))
    refine aE ?_
    refine KO ?_
    refine ⟨[_],.cons ⟨_,_,_,rfl,(by repeat (first|exact Mh _|apply Mt)),by exact KG Try.underlying35 rfl sz_35⟩ .nil,fun a w' hr=>⟨?_,hr.fr.below⟩⟩
    rw [plain_aff hz]
    rfl
theorem c_Sum (V:Cv) (b f bd:Nat) (hok:V.Ok) (X1 Y1 Z1 X2 Y2 Z2:Fin V.p) (w:World) (hb:(Item.blk b ⟨false,opL V f,129,(0,0)⟩).holds w) (hf:(Item.blk f ⟨false,fldL V.p bd,162,(0,0)⟩).holds w) (hbd:(Item.blk bd ⟨false,dvL V.p,212,(0,0)⟩).holds w):Calls Try.prog 125 ([.pointer (some ⟨b,0,none⟩),pjV X1.val Y1.val Z1.val,pjV X2.val Y2.val Z2.val]:List Value).toArray w (fun e w'=>e = .returned (pjF (sum3 V.A (V.B+V.B+V.B) X1 Y1 Z1 X2 Y2 Z2))∧Below w.heap.size w w'):=by
  have hbb:=hok.bounds
  have hpW:V.p<W9:=w9_521 hbb.2.1
  refine Kj (N:=213) (rs:=[.cell 6 172]) [.blk b ⟨false,opL V f,129,(0,0)⟩,.blk f ⟨false,fldL V.p bd,162,(0,0)⟩,.blk bd ⟨false,dvL V.p,212,(0,0)⟩] Try.func125 rfl Try.ntmps125 Try.results125 (Nb rfl) ⟨hb,hf,hbd,trivial⟩ rfl ?_
  show LCode _ _ _ ⟨_,_⟩ _
  refine KB (KA ?_)
  refine oS (mB (fun b4=>?_))
  refine oS (mB (fun b5=>?_))
  refine oS (mk (KS zr_172) (fun b6=>?_))
  refine KC ?_
  refine KB ?_
  refine rD [] ?_
  refine aM 0 ?_
  refine aP 1 rfl (KR rfl) ?_
  refine aP 2 rfl (KE (o':=59) Try.underlying129 rfl rfl rfl sz_127 (by decide)) ?_
  refine aD 3 rfl (dL rfl (hv:=KM Try.underlying127 rfl (by exact cvC_gt_F _ _ _ _ _ _ _ _ _ _ _ _ _))) ?_
  refine aP 4 rfl (Det.makeFunc1 rfl) ?_
  refine aM 5 ?_
  refine aP 6 rfl (KR rfl) ?_
  refine aP 7 rfl (KE (o':=59) Try.underlying129 rfl rfl rfl sz_127 (by decide)) ?_
  refine aD 8 rfl (dL rfl (hv:=KM Try.underlying127 rfl (by exact cvC_gt_F _ _ _ _ _ _ _ _ _ _ _ _ _))) ?_
  refine aP 9 rfl (Det.makeFunc1 rfl) ?_
  refine aM 10 ?_
  refine aP 11 rfl (KR rfl) ?_
  refine aP 12 rfl (KE (o':=59) Try.underlying129 rfl rfl rfl sz_127 (by decide)) ?_
  refine aD 13 rfl (dL rfl (hv:=KM Try.underlying127 rfl (by exact cvC_gt_F _ _ _ _ _ _ _ _ _ _ _ _ _))) ?_
  refine aP 14 rfl (Det.makeFunc1 rfl) ?_
  refine aA 15 ?_
  refine aA 16 ?_
  refine aA 17 ?_
  refine aE ?_
  refine KB ?_
  refine rD [21,22,23] ?_
  refine aM 0 ?_
  refine aP 1 rfl (KE (o':=0) Try.underlying172 rfl rfl rfl sz_33 (by decide)) ?_
  refine aD 2 rfl (dL rfl (hv:=by exact KAA Try.underlying33 rfl sz_33 rfl (KD _))) ?_
  refine aP 3 rfl (KE (o':=0) Try.underlying172 rfl rfl rfl sz_33 (by decide)) ?_
  refine aD 4 rfl (dL rfl (hv:=by exact KAA Try.underlying33 rfl sz_33 rfl (KD _))) ?_
  refine aM 6 ?_
  refine aP 7 rfl (KE (o':=9) Try.underlying172 rfl rfl rfl sz_33 (by decide)) ?_
  refine aP 9 rfl (KE (o':=9) Try.underlying172 rfl rfl rfl sz_33 (by decide)) ?_
  refine aM 12 ?_
  refine aP 13 rfl (KE (o':=18) Try.underlying172 rfl rfl rfl sz_33 (by decide)) ?_
  refine aP 15 rfl (KE (o':=18) Try.underlying172 rfl rfl rfl sz_33 (by decide)) ?_
  refine LAny.takeW [11,17,21,22,23] 8 rfl (by kernel_rfl) (Nb rfl) (dL rfl (hv:=by exact LoadV.mid Try.underlying33 rfl sz_33 rfl (KD _) (KD _))) ?_
  refine LAny.takeW [11,17,21,22,23] 10 rfl (by kernel_rfl) (Nb rfl) (dL rfl (hv:=by exact LoadV.mid Try.underlying33 rfl sz_33 rfl (KD _) (KD _))) ?_
  refine LAny.takeW [17,21,22,23] 14 rfl (by kernel_rfl) (Nb rfl) (dL rfl (hv:=by exact pj_ld2 _ _ _ _ _ _)) ?_
  refine LAny.takeW [17,21,22,23] 16 rfl (by kernel_rfl) (Nb rfl) (dL rfl (hv:=by exact pj_ld2 _ _ _ _ _ _)) ?_
  refine KAV ?_
  refine Kz 18 rfl (.inl zr_33) (Nb rfl) rfl rfl rfl ?_
  refine Kz 19 rfl (.inl zr_33) (Nb rfl) rfl rfl rfl ?_
  refine Kz 20 rfl (.inl zr_33) (Nb rfl) rfl rfl rfl ?_
  refine Kh 5 rfl rfl rfl (Nb rfl) (by kernel_rfl) rfl (Ko (first:=[_]) rfl en_120 rfl (fun w hw=>c_F_Mul V hok f bd _ _ w (mC hw) (mC hw))) ?_
  rintro _ _ ⟨rfl,rfl⟩
  refine Kh 11 rfl rfl rfl (Nb rfl) (by kernel_rfl) rfl (Ko (first:=[_]) rfl en_120 rfl (fun w hw=>c_F_Mul V hok f bd _ _ w (mC hw) (mC hw))) ?_
  rintro _ _ ⟨rfl,rfl⟩
  refine Kh 17 rfl rfl rfl (Nb rfl) (by kernel_rfl) rfl (Ko (first:=[_]) rfl en_120 rfl (fun w hw=>c_F_Mul V hok f bd _ _ w (mC hw) (mC hw))) ?_
  rintro _ _ ⟨rfl,rfl⟩
  refine pE (fun b12=>?_)
  refine pE (fun b11=>?_)
  refine pE (fun b10=>?_)
  refine KAH ?_
  refine aL 21 rfl (sA rfl rfl sz_33 (by repeat (first|exact Ka _|exact Kl _ _ _|exact Kc _|exact Kb _ _ _|exact Km _ _ _|exact KP|refine KL rfl ?_|refine KQ ?_ ?_)) (hl:=by first|exact KD _|exact KI _ _ _|exact KF _|exact KJ _ _ _|exact KX _ _ _|rfl|simp [KI,KD,KF]) (h:=?_))
  refine aL 22 rfl (sA rfl rfl sz_33 (by repeat (first|exact Ka _|exact Kl _ _ _|exact Kc _|exact Kb _ _ _|exact Km _ _ _|exact KP|refine KL rfl ?_|refine KQ ?_ ?_)) (hl:=by first|exact KD _|exact KI _ _ _|exact KF _|exact KJ _ _ _|exact KX _ _ _|rfl|simp [KI,KD,KF]) (h:=?_))
  refine aL 23 rfl (sA rfl rfl sz_33 (by repeat (first|exact Ka _|exact Kl _ _ _|exact Kc _|exact Kb _ _ _|exact Km _ _ _|exact KP|refine KL rfl ?_|refine KQ ?_ ?_)) (hl:=by first|exact KD _|exact KI _ _ _|exact KF _|exact KJ _ _ _|exact KX _ _ _|rfl|simp [KI,KD,KF]) (h:=?_))
  refine aE ?_
  refine KB ?_
  refine rD [21] ?_
  refine aM 0 ?_
  refine aM 1 ?_
  refine aM 2 ?_
  refine aP 3 rfl (KE (o':=0) Try.underlying172 rfl rfl rfl sz_33 (by decide)) ?_
  refine aD 4 rfl (dL rfl (hv:=by exact KAA Try.underlying33 rfl sz_33 rfl (KD _))) ?_
  refine aP 5 rfl (KE (o':=9) Try.underlying172 rfl rfl rfl sz_33 (by decide)) ?_
  refine aD 6 rfl (dL rfl (hv:=by exact LoadV.mid Try.underlying33 rfl sz_33 rfl (KD _) (KD _))) ?_
  refine aM 8 ?_
  refine aP 9 rfl (KE (o':=0) Try.underlying172 rfl rfl rfl sz_33 (by decide)) ?_
  refine aD 10 rfl (dL rfl (hv:=by exact KAA Try.underlying33 rfl sz_33 rfl (KD _))) ?_
  refine aP 11 rfl (KE (o':=9) Try.underlying172 rfl rfl rfl sz_33 (by decide)) ?_
  refine aD 12 rfl (dL rfl (hv:=by exact LoadV.mid Try.underlying33 rfl sz_33 rfl (KD _) (KD _))) ?_
  refine aM 15 ?_
  refine aD 16 rfl (dL rfl (hv:=by exact KG Try.underlying33 rfl sz_33)) ?_
  refine aD 17 rfl (dL rfl (hv:=by exact KG Try.underlying33 rfl sz_33)) ?_
  refine KAV ?_
  refine Kz 20 rfl (.inl zr_33) (Nb rfl) rfl rfl rfl ?_
  refine Kh 7 rfl rfl rfl (Nb rfl) (by kernel_rfl) rfl (Ko (first:=[_]) rfl en_118 rfl (fun w hw=>c_F_Add V hok f bd _ _ w (mC hw))) ?_
  rintro _ _ ⟨rfl,rfl⟩
  refine Kh 13 rfl rfl rfl (Nb rfl) (by kernel_rfl) rfl (Ko (first:=[_]) rfl en_118 rfl (fun w hw=>c_F_Add V hok f bd _ _ w (mC hw))) ?_
  rintro _ _ ⟨rfl,rfl⟩
  refine Kh 14 rfl rfl rfl (Nb rfl) (by kernel_rfl) rfl (Ko (first:=[_]) rfl en_120 rfl (fun w hw=>c_F_Mul V hok f bd _ _ w (mC hw) (mC hw))) ?_
  rintro _ _ ⟨rfl,rfl⟩
  refine Kh 18 rfl rfl rfl (Nb rfl) (by kernel_rfl) rfl (Ko (first:=[_]) rfl en_118 rfl (fun w hw=>c_F_Add V hok f bd _ _ w (mC hw))) ?_
  rintro _ _ ⟨rfl,rfl⟩
  refine Kh 19 rfl rfl rfl (Nb rfl) (by kernel_rfl) rfl (Ko (first:=[_]) rfl en_130 rfl (fun w hw=>c_F_Sub V hok f bd _ _ w (mC hw))) ?_
  rintro _ _ ⟨rfl,rfl⟩
  refine pE (fun b13=>?_)
  refine KAH ?_
  refine aL 21 rfl (sA rfl rfl sz_33 (by repeat (first|exact Ka _|exact Kl _ _ _|exact Kc _|exact Kb _ _ _|exact Km _ _ _|exact KP|refine KL rfl ?_|refine KQ ?_ ?_)) (hl:=by first|exact KD _|exact KI _ _ _|exact KF _|exact KJ _ _ _|exact KX _ _ _|rfl|simp [KI,KD,KF]) (h:=?_))
  refine aE ?_
  refine KB ?_
  refine rD [21] ?_
  refine aM 0 ?_
  refine aM 1 ?_
  refine aM 2 ?_
  refine aP 3 rfl (KE (o':=0) Try.underlying172 rfl rfl rfl sz_33 (by decide)) ?_
  refine aD 4 rfl (dL rfl (hv:=by exact KAA Try.underlying33 rfl sz_33 rfl (KD _))) ?_
  refine aP 5 rfl (KE (o':=18) Try.underlying172 rfl rfl rfl sz_33 (by decide)) ?_
  refine aD 6 rfl (dL rfl (hv:=by exact pj_ld2 _ _ _ _ _ _)) ?_
  refine aM 8 ?_
  refine aP 9 rfl (KE (o':=0) Try.underlying172 rfl rfl rfl sz_33 (by decide)) ?_
  refine aD 10 rfl (dL rfl (hv:=by exact KAA Try.underlying33 rfl sz_33 rfl (KD _))) ?_
  refine aP 11 rfl (KE (o':=18) Try.underlying172 rfl rfl rfl sz_33 (by decide)) ?_
  refine aD 12 rfl (dL rfl (hv:=by exact pj_ld2 _ _ _ _ _ _)) ?_
  refine aM 15 ?_
  refine aD 16 rfl (dL rfl (hv:=by exact KG Try.underlying33 rfl sz_33)) ?_
  refine aD 17 rfl (dL rfl (hv:=by exact KG Try.underlying33 rfl sz_33)) ?_
  refine KAV ?_
  refine Kz 20 rfl (.inl zr_33) (Nb rfl) rfl rfl rfl ?_
  refine Kh 7 rfl rfl rfl (Nb rfl) (by kernel_rfl) rfl (Ko (first:=[_]) rfl en_118 rfl (fun w hw=>c_F_Add V hok f bd _ _ w (mC hw))) ?_
  rintro _ _ ⟨rfl,rfl⟩
  refine Kh 13 rfl rfl rfl (Nb rfl) (by kernel_rfl) rfl (Ko (first:=[_]) rfl en_118 rfl (fun w hw=>c_F_Add V hok f bd _ _ w (mC hw))) ?_
  rintro _ _ ⟨rfl,rfl⟩
  refine Kh 14 rfl rfl rfl (Nb rfl) (by kernel_rfl) rfl (Ko (first:=[_]) rfl en_120 rfl (fun w hw=>c_F_Mul V hok f bd _ _ w (mC hw) (mC hw))) ?_
  rintro _ _ ⟨rfl,rfl⟩
  refine Kh 18 rfl rfl rfl (Nb rfl) (by kernel_rfl) rfl (Ko (first:=[_]) rfl en_118 rfl (fun w hw=>c_F_Add V hok f bd _ _ w (mC hw))) ?_
  rintro _ _ ⟨rfl,rfl⟩
  refine Kh 19 rfl rfl rfl (Nb rfl) (by kernel_rfl) rfl (Ko (first:=[_]) rfl en_130 rfl (fun w hw=>c_F_Sub V hok f bd _ _ w (mC hw))) ?_
  rintro _ _ ⟨rfl,rfl⟩
  refine pE (fun b14=>?_)
  refine KAH ?_
  refine aL 21 rfl (sA rfl rfl sz_33 (by repeat (first|exact Ka _|exact Kl _ _ _|exact Kc _|exact Kb _ _ _|exact Km _ _ _|exact KP|refine KL rfl ?_|refine KQ ?_ ?_)) (hl:=by first|exact KD _|exact KI _ _ _|exact KF _|exact KJ _ _ _|exact KX _ _ _|rfl|simp [KI,KD,KF]) (h:=?_))
  refine aE ?_
  refine KB ?_
  refine rD [21] ?_
  refine aM 0 ?_
  refine aM 1 ?_
  refine aM 2 ?_
  refine aP 3 rfl (KE (o':=9) Try.underlying172 rfl rfl rfl sz_33 (by decide)) ?_
  refine aD 4 rfl (dL rfl (hv:=by exact LoadV.mid Try.underlying33 rfl sz_33 rfl (KD _) (KD _))) ?_
  refine aP 5 rfl (KE (o':=18) Try.underlying172 rfl rfl rfl sz_33 (by decide)) ?_
  refine aD 6 rfl (dL rfl (hv:=by exact pj_ld2 _ _ _ _ _ _)) ?_
  refine aM 8 ?_
  refine aP 9 rfl (KE (o':=9) Try.underlying172 rfl rfl rfl sz_33 (by decide)) ?_
  refine aD 10 rfl (dL rfl (hv:=by exact LoadV.mid Try.underlying33 rfl sz_33 rfl (KD _) (KD _))) ?_
  refine aP 11 rfl (KE (o':=18) Try.underlying172 rfl rfl rfl sz_33 (by decide)) ?_
  refine aD 12 rfl (dL rfl (hv:=by exact pj_ld2 _ _ _ _ _ _)) ?_
  refine aM 15 ?_
  refine aD 16 rfl (dL rfl (hv:=by exact KG Try.underlying33 rfl sz_33)) ?_
  refine aD 17 rfl (dL rfl (hv:=by exact KG Try.underlying33 rfl sz_33)) ?_
  refine KAV ?_
  refine Kz 20 rfl (.inl zr_33) (Nb rfl) rfl rfl rfl ?_
  refine Kh 7 rfl rfl rfl (Nb rfl) (by kernel_rfl) rfl (Ko (first:=[_]) rfl en_118 rfl (fun w hw=>c_F_Add V hok f bd _ _ w (mC hw))) ?_
  rintro _ _ ⟨rfl,rfl⟩
  refine Kh 13 rfl rfl rfl (Nb rfl) (by kernel_rfl) rfl (Ko (first:=[_]) rfl en_118 rfl (fun w hw=>c_F_Add V hok f bd _ _ w (mC hw))) ?_
  rintro _ _ ⟨rfl,rfl⟩
  refine Kh 14 rfl rfl rfl (Nb rfl) (by kernel_rfl) rfl (Ko (first:=[_]) rfl en_120 rfl (fun w hw=>c_F_Mul V hok f bd _ _ w (mC hw) (mC hw))) ?_
  rintro _ _ ⟨rfl,rfl⟩
  refine Kh 18 rfl rfl rfl (Nb rfl) (by kernel_rfl) rfl (Ko (first:=[_]) rfl en_118 rfl (fun w hw=>c_F_Add V hok f bd _ _ w (mC hw))) ?_
  rintro _ _ ⟨rfl,rfl⟩
  refine Kh 19 rfl rfl rfl (Nb rfl) (by kernel_rfl) rfl (Ko (first:=[_]) rfl en_130 rfl (fun w hw=>c_F_Sub V hok f bd _ _ w (mC hw))) ?_
  rintro _ _ ⟨rfl,rfl⟩
  refine pE (fun b15=>?_)
  refine KAH ?_
  refine aL 21 rfl (sA rfl rfl sz_33 (by repeat (first|exact Ka _|exact Kl _ _ _|exact Kc _|exact Kb _ _ _|exact Km _ _ _|exact KP|refine KL rfl ?_|refine KQ ?_ ?_)) (hl:=by first|exact KD _|exact KI _ _ _|exact KF _|exact KJ _ _ _|exact KX _ _ _|rfl|simp [KI,KD,KF]) (h:=?_))
  refine aE ?_
  refine KB ?_
  refine rD [18] ?_
  refine aM 0 ?_
  refine aM 1 ?_
  refine aM 2 ?_
  refine aP 3 rfl (KR rfl) ?_
  refine aP 4 rfl (KE (o':=60) Try.underlying129 rfl rfl rfl sz_33 (by decide)) ?_
  refine aD 5 rfl (Det.cast (dL rfl (hv:=by exact cvC_ld_t3 _ _ _ _ _ _ _ _ _ _ _ _ _ _ _ _)) (t_val hok)) ?_
  refine aD 6 rfl (dL rfl (hv:=by exact KG Try.underlying33 rfl sz_33)) ?_
  refine aM 8 ?_
  refine aM 9 ?_
  refine aP 10 rfl (KR rfl) ?_
  refine aP 11 rfl (KE (o':=0) Try.underlying129 rfl rfl rfl KAg (by decide)) ?_
  refine aP 12 rfl (KE (o':=10) Try.underlying126 rfl rfl rfl sz_33 (by decide)) ?_
  refine aD 13 rfl (Det.cast (dL rfl (hv:=by exact cvC_ld_a _ _ _ _ _ _ _ _ _ _ _ _ _ _ _ _)) (a_val hok)) ?_
  refine aD 14 rfl (dL rfl (hv:=by exact KG Try.underlying33 rfl sz_33)) ?_
  refine KAV ?_
  refine Kz 17 rfl (.inl zr_33) (Nb rfl) rfl rfl rfl ?_
  refine Kh 7 rfl rfl rfl (Nb rfl) (by kernel_rfl) rfl (Ko (first:=[_]) rfl en_120 rfl (fun w hw=>c_F_Mul V hok f bd _ _ w (mC hw) (mC hw))) ?_
  rintro _ _ ⟨rfl,rfl⟩
  refine Kh 15 rfl rfl rfl (Nb rfl) (by kernel_rfl) rfl (Ko (first:=[_]) rfl en_120 rfl (fun w hw=>c_F_Mul V hok f bd _ _ w (mC hw) (mC hw))) ?_
  rintro _ _ ⟨rfl,rfl⟩
  refine Kh 16 rfl rfl rfl (Nb rfl) (by kernel_rfl) rfl (Ko (first:=[_]) rfl en_118 rfl (fun w hw=>c_F_Add V hok f bd _ _ w (mC hw))) ?_
  rintro _ _ ⟨rfl,rfl⟩
  refine pE (fun b16=>?_)
  refine KAH ?_
  refine aL 18 rfl (sA rfl rfl sz_33 (by repeat (first|exact Ka _|exact Kl _ _ _|exact Kc _|exact Kb _ _ _|exact Km _ _ _|exact KP|refine KL rfl ?_|refine KQ ?_ ?_)) (hl:=by first|exact KD _|exact KI _ _ _|exact KF _|exact KJ _ _ _|exact KX _ _ _|rfl|simp [KI,KD,KF]) (h:=?_))
  refine aE ?_
  refine KB (KA ?_)
  refine oM ?_
  refine oD (dL rfl (hv:=by exact KG Try.underlying33 rfl sz_33)) ?_
  refine oD (dL rfl (hv:=by exact KG Try.underlying33 rfl sz_33)) ?_
  refine oS (KAP (first:=[_]) rfl en_130 rfl (Nb rfl) (fun w hw=>c_F_Sub V hok f bd _ _ w (mC hw)) ?_)
  refine oS (mk (KS zr_33) (fun b17=>?_))
  refine KT rfl (sA rfl rfl sz_33 (by repeat (first|exact Ka _|exact Kl _ _ _|exact Kc _|exact Kb _ _ _|exact Km _ _ _|exact KP|refine KL rfl ?_|refine KQ ?_ ?_)) (hl:=by first|exact KD _|exact KI _ _ _|exact KF _|exact KJ _ _ _|exact KX _ _ _|rfl|simp [KI,KD,KF]) (h:=?_))
  refine KC ?_
  refine KB (KA ?_)
  refine oM ?_
  refine oD (dL rfl (hv:=by exact KG Try.underlying33 rfl sz_33)) ?_
  refine oD (dL rfl (hv:=by exact KG Try.underlying33 rfl sz_33)) ?_
  refine oS (KAP (first:=[_]) rfl en_118 rfl (Nb rfl) (fun w hw=>c_F_Add V hok f bd _ _ w (mC hw)) ?_)
  refine KT rfl (sA rfl rfl sz_33 (by repeat (first|exact Ka _|exact Kl _ _ _|exact Kc _|exact Kb _ _ _|exact Km _ _ _|exact KP|refine KL rfl ?_|refine KQ ?_ ?_)) (hl:=by first|exact KD _|exact KI _ _ _|exact KF _|exact KJ _ _ _|exact KX _ _ _|rfl|simp [KI,KD,KF]) (h:=?_))
  refine KC ?_
  refine KB (KA ?_)
  refine oM ?_
  refine oD (dL rfl (hv:=by exact KG Try.underlying33 rfl sz_33)) ?_
  refine oD (dL rfl (hv:=by exact KG Try.underlying33 rfl sz_33)) ?_
  refine oS (KAP (first:=[_]) rfl en_120 rfl (Nb rfl) (fun w hw=>c_F_Mul V hok f bd _ _ w (mC hw) (mC hw)) ?_)
  refine oS (mk (KS zr_33) (fun b18=>?_))
  refine KT rfl (sA rfl rfl sz_33 (by repeat (first|exact Ka _|exact Kl _ _ _|exact Kc _|exact Kb _ _ _|exact Km _ _ _|exact KP|refine KL rfl ?_|refine KQ ?_ ?_)) (hl:=by first|exact KD _|exact KI _ _ _|exact KF _|exact KJ _ _ _|exact KX _ _ _|rfl|simp [KI,KD,KF]) (h:=?_))
  refine KC ?_
  refine KB ?_
  refine rD [7] ?_
  refine aM 0 ?_
  refine aM 1 ?_
  refine aD 2 rfl (dL rfl (hv:=by exact KG Try.underlying33 rfl sz_33)) ?_
  refine aD 3 rfl (dL rfl (hv:=by exact KG Try.underlying33 rfl sz_33)) ?_
  refine aD 5 rfl (dL rfl (hv:=by exact KG Try.underlying33 rfl sz_33)) ?_
  refine aO 4 rfl (KAP (first:=[_]) rfl en_118 rfl (Nb rfl) (fun w hw=>c_F_Add V hok f bd _ _ w (mC hw)) ?_)
  refine aO 6 rfl (KAP (first:=[_]) rfl en_118 rfl (Nb rfl) (fun w hw=>c_F_Add V hok f bd _ _ w (mC hw)) ?_)
  refine aL 7 rfl (sA rfl rfl sz_33 (by repeat (first|exact Ka _|exact Kl _ _ _|exact Kc _|exact Kb _ _ _|exact Km _ _ _|exact KP|refine KL rfl ?_|refine KQ ?_ ?_)) (hl:=by first|exact KD _|exact KI _ _ _|exact KF _|exact KJ _ _ _|exact KX _ _ _|rfl|simp [KI,KD,KF]) (h:=?_))
  refine aE ?_
  refine KB ?_
  refine rD [8] ?_
  refine aM 0 ?_
  refine aM 1 ?_
  refine aP 2 rfl (KR rfl) ?_
  refine aP 3 rfl (KE (o':=0) Try.underlying129 rfl rfl rfl KAg (by decide)) ?_
  refine aP 4 rfl (KE (o':=10) Try.underlying126 rfl rfl rfl sz_33 (by decide)) ?_
  refine aD 5 rfl (Det.cast (dL rfl (hv:=by exact cvC_ld_a _ _ _ _ _ _ _ _ _ _ _ _ _ _ _ _)) (a_val hok)) ?_
  refine aD 6 rfl (dL rfl (hv:=by exact KG Try.underlying33 rfl sz_33)) ?_
  refine aO 7 rfl (KAP (first:=[_]) rfl en_120 rfl (Nb rfl) (fun w hw=>c_F_Mul V hok f bd _ _ w (mC hw) (mC hw)) ?_)
  refine aL 8 rfl (sA rfl rfl sz_33 (by repeat (first|exact Ka _|exact Kl _ _ _|exact Kc _|exact Kb _ _ _|exact Km _ _ _|exact KP|refine KL rfl ?_|refine KQ ?_ ?_)) (hl:=by first|exact KD _|exact KI _ _ _|exact KF _|exact KJ _ _ _|exact KX _ _ _|rfl|simp [KI,KD,KF]) (h:=?_))
  refine aE ?_
  refine KB ?_
  refine rD [7] ?_
  refine aM 0 ?_
  refine aM 1 ?_
  refine aP 2 rfl (KR rfl) ?_
  refine aP 3 rfl (KE (o':=60) Try.underlying129 rfl rfl rfl sz_33 (by decide)) ?_
  refine aD 4 rfl (Det.cast (dL rfl (hv:=by exact cvC_ld_t3 _ _ _ _ _ _ _ _ _ _ _ _ _ _ _ _)) (t_val hok)) ?_
  refine aD 5 rfl (dL rfl (hv:=by exact KG Try.underlying33 rfl sz_33)) ?_
  refine aO 6 rfl (KAP (first:=[_]) rfl en_120 rfl (Nb rfl) (fun w hw=>c_F_Mul V hok f bd _ _ w (mC hw) (mC hw)) ?_)
  refine aL 7 rfl (sA rfl rfl sz_33 (by repeat (first|exact Ka _|exact Kl _ _ _|exact Kc _|exact Kb _ _ _|exact Km _ _ _|exact KP|refine KL rfl ?_|refine KQ ?_ ?_)) (hl:=by first|exact KD _|exact KI _ _ _|exact KF _|exact KJ _ _ _|exact KX _ _ _|rfl|simp [KI,KD,KF]) (h:=?_))
  refine aE ?_
  refine KB (KA ?_)
  refine oM ?_
  refine oD (dL rfl (hv:=by exact KG Try.underlying33 rfl sz_33)) ?_
  refine oD (dL rfl (hv:=by exact KG Try.underlying33 rfl sz_33)) ?_
  refine oS (KAP (first:=[_]) rfl en_118 rfl (Nb rfl) (fun w hw=>c_F_Add V hok f bd _ _ w (mC hw)) ?_)
  refine KT rfl (sA rfl rfl sz_33 (by repeat (first|exact Ka _|exact Kl _ _ _|exact Kc _|exact Kb _ _ _|exact Km _ _ _|exact KP|refine KL rfl ?_|refine KQ ?_ ?_)) (hl:=by first|exact KD _|exact KI _ _ _|exact KF _|exact KJ _ _ _|exact KX _ _ _|rfl|simp [KI,KD,KF]) (h:=?_))
  refine KC ?_
  refine KB ?_
  refine rD [11] ?_
  refine aM 0 ?_
  refine aM 1 ?_
  refine aP 2 rfl (KR rfl) ?_
  refine aP 3 rfl (KE (o':=0) Try.underlying129 rfl rfl rfl KAg (by decide)) ?_
  refine aP 4 rfl (KE (o':=10) Try.underlying126 rfl rfl rfl sz_33 (by decide)) ?_
  refine aD 5 rfl (Det.cast (dL rfl (hv:=by exact cvC_ld_a _ _ _ _ _ _ _ _ _ _ _ _ _ _ _ _)) (a_val hok)) ?_
  refine aM 6 ?_
  refine aD 7 rfl (dL rfl (hv:=by exact KG Try.underlying33 rfl sz_33)) ?_
  refine aD 8 rfl (dL rfl (hv:=by exact KG Try.underlying33 rfl sz_33)) ?_
  refine aO 9 rfl (KAP (first:=[_]) rfl en_130 rfl (Nb rfl) (fun w hw=>c_F_Sub V hok f bd _ _ w (mC hw)) ?_)
  refine aO 10 rfl (KAP (first:=[_]) rfl en_120 rfl (Nb rfl) (fun w hw=>c_F_Mul V hok f bd _ _ w (mC hw) (mC hw)) ?_)
  refine aL 11 rfl (sA rfl rfl sz_33 (by repeat (first|exact Ka _|exact Kl _ _ _|exact Kc _|exact Kb _ _ _|exact Km _ _ _|exact KP|refine KL rfl ?_|refine KQ ?_ ?_)) (hl:=by first|exact KD _|exact KI _ _ _|exact KF _|exact KJ _ _ _|exact KX _ _ _|rfl|simp [KI,KD,KF]) (h:=?_))
  refine aE ?_
  refine KB (KA ?_)
  refine oM ?_
  refine oD (dL rfl (hv:=by exact KG Try.underlying33 rfl sz_33)) ?_
  refine oD (dL rfl (hv:=by exact KG Try.underlying33 rfl sz_33)) ?_
  refine oS (KAP (first:=[_]) rfl en_118 rfl (Nb rfl) (fun w hw=>c_F_Add V hok f bd _ _ w (mC hw)) ?_)
  refine KT rfl (sA rfl rfl sz_33 (by repeat (first|exact Ka _|exact Kl _ _ _|exact Kc _|exact Kb _ _ _|exact Km _ _ _|exact KP|refine KL rfl ?_|refine KQ ?_ ?_)) (hl:=by first|exact KD _|exact KI _ _ _|exact KF _|exact KJ _ _ _|exact KX _ _ _|rfl|simp [KI,KD,KF]) (h:=?_))
  refine KC ?_
  refine KB ?_
  refine rD [7] ?_
  refine aM 0 ?_
  refine aD 1 rfl (dL rfl (hv:=by exact KG Try.underlying33 rfl sz_33)) ?_
  refine aM 2 ?_
  refine aD 3 rfl (dL rfl (hv:=by exact KG Try.underlying33 rfl sz_33)) ?_
  refine aD 4 rfl (dL rfl (hv:=by exact KG Try.underlying33 rfl sz_33)) ?_
  refine aO 5 rfl (KAP (first:=[_]) rfl en_120 rfl (Nb rfl) (fun w hw=>c_F_Mul V hok f bd _ _ w (mC hw) (mC hw)) ?_)
  refine aO 6 rfl (KAP (first:=[_]) rfl en_118 rfl (Nb rfl) (fun w hw=>c_F_Add V hok f bd _ _ w (mC hw)) ?_)
  refine aL 7 rfl (sA rfl rfl sz_33 (by repeat (first|exact Ka _|exact Kl _ _ _|exact Kc _|exact Kb _ _ _|exact Km _ _ _|exact KP|refine KL rfl ?_|refine KQ ?_ ?_)) (hl:=by first|exact KD _|exact KI _ _ _|exact KF _|exact KJ _ _ _|exact KX _ _ _|rfl|simp [KI,KD,KF]) (h:=?_))
  refine aE ?_
  refine KB ?_
  refine rD [10] ?_
  refine aM 0 ?_
  refine aM 1 ?_
  refine aD 2 rfl (dL rfl (hv:=by exact KG Try.underlying33 rfl sz_33)) ?_
  refine aD 3 rfl (dL rfl (hv:=by exact KG Try.underlying33 rfl sz_33)) ?_
  refine aM 5 ?_
  refine aD 6 rfl (dL rfl (hv:=by exact KG Try.underlying33 rfl sz_33)) ?_
  refine aD 7 rfl (dL rfl (hv:=by exact KG Try.underlying33 rfl sz_33)) ?_
  refine aO 4 rfl (KAP (first:=[_]) rfl en_120 rfl (Nb rfl) (fun w hw=>c_F_Mul V hok f bd _ _ w (mC hw) (mC hw)) ?_)
  refine aO 8 rfl (KAP (first:=[_]) rfl en_120 rfl (Nb rfl) (fun w hw=>c_F_Mul V hok f bd _ _ w (mC hw) (mC hw)) ?_)
  refine aO 9 rfl (KAP (first:=[_]) rfl en_130 rfl (Nb rfl) (fun w hw=>c_F_Sub V hok f bd _ _ w (mC hw)) ?_)
  refine aL 10 rfl (sA rfl rfl sz_33 (by repeat (first|exact Ka _|exact Kl _ _ _|exact Kc _|exact Kb _ _ _|exact Km _ _ _|exact KP|refine KL rfl ?_|refine KQ ?_ ?_)) (hl:=by first|exact KD _|exact KI _ _ _|exact KF _|exact KJ _ _ _|exact KX _ _ _|rfl|simp [KI,KD,KF]) (h:=?_))
  refine aE ?_
  refine KB ?_
  refine rD [10] ?_
  refine aM 0 ?_
  refine aM 1 ?_
  refine aD 2 rfl (dL rfl (hv:=by exact KG Try.underlying33 rfl sz_33)) ?_
  refine aD 3 rfl (dL rfl (hv:=by exact KG Try.underlying33 rfl sz_33)) ?_
  refine aM 5 ?_
  refine aD 6 rfl (dL rfl (hv:=by exact KG Try.underlying33 rfl sz_33)) ?_
  refine aD 7 rfl (dL rfl (hv:=by exact KG Try.underlying33 rfl sz_33)) ?_
  refine aO 4 rfl (KAP (first:=[_]) rfl en_120 rfl (Nb rfl) (fun w hw=>c_F_Mul V hok f bd _ _ w (mC hw) (mC hw)) ?_)
  refine aO 8 rfl (KAP (first:=[_]) rfl en_120 rfl (Nb rfl) (fun w hw=>c_F_Mul V hok f bd _ _ w (mC hw) (mC hw)) ?_)
  refine aO 9 rfl (KAP (first:=[_]) rfl en_118 rfl (Nb rfl) (fun w hw=>c_F_Add V hok f bd _ _ w (mC hw)) ?_)
  refine aL 10 rfl (sA rfl rfl sz_33 (by repeat (first|exact Ka _|exact Kl _ _ _|exact Kc _|exact Kb _ _ _|exact Km _ _ _|exact KP|refine KL rfl ?_|refine KQ ?_ ?_)) (hl:=by first|exact KD _|exact KI _ _ _|exact KF _|exact KJ _ _ _|exact KX _ _ _|rfl|simp [KI,KD,KF]) (h:=?_))
  refine aE ?_
  refine KB (KA ?_)
  refine oD (dL rfl (hv:=by exact KG Try.underlying33 rfl sz_33)) ?_
  refine oD (dL rfl (hv:=by exact KG Try.underlying33 rfl sz_33)) ?_
  refine oD (dL rfl (hv:=by exact KG Try.underlying33 rfl sz_33)) ?_
  refine oP (KK (KAD pl_172 zr_172 rfl (fill_pj _ _ _)) rfl) ?_
  refine KT rfl (sA rfl rfl sz_172 (by repeat (first|exact Ka _|exact Kl _ _ _|exact Kc _|exact Kb _ _ _|exact Km _ _ _|exact KP|refine KL rfl ?_|refine KQ ?_ ?_)) (hl:=by first|exact KD _|exact KI _ _ _|exact KF _|exact KJ _ _ _|exact KX _ _ _|rfl|simp [KI,KD,KF]) (h:=?_))
  refine KC (KO ?_)
  refine ⟨[_],.cons ⟨_,_,_,rfl,(by repeat (first|exact Mh _|apply Mt)),by exact KG Try.underlying172 rfl sz_172⟩ .nil,fun a w' hr=>⟨?_,hr.fr.below⟩⟩
  rfl
end Go.Proofs.Ytlmiolnccgjjjaa
set_option linter.unusedVariables false
set_option linter.unusedSimpArgs false
set_option maxRecDepth 20000
namespace Go.Proofs.Ytlmiolnccgjjjaa
open Go Go.RowKit
open Grp
theorem pm_top (V:Cv) (P:Pt V.p) (K:Nat):pmul V.A P (K/2^blen K) = .inf:=by rw [Nat.div_eq_of_lt (lt_blen K)]; rfl
theorem pm_T {V:Cv} (hok:V.Ok) {P:Pt V.p} (hP:On V.A V.B P) {K y:Nat} (h:K/2^y%2 = 1):padd V.A (padd V.A (pmul V.A P (K/2^(y+1))) (pmul V.A P (K/2^(y+1)))) P = pmul V.A P (K/2^y):=by
  have:=pmul_bit hok.crv hP K y
  rwa [if_pos h] at this
theorem pm_F {V:Cv} (hok:V.Ok) {P:Pt V.p} (hP:On V.A V.B P) {K y:Nat} (h:¬ K/2^y%2 = 1):padd V.A (pmul V.A P (K/2^(y+1))) (pmul V.A P (K/2^(y+1))) = pmul V.A P (K/2^y):=by
  have:=pmul_bit hok.crv hP K y
  rwa [if_neg h] at this
theorem c_r_Times (Q:CQ) (V:Cv) (qk:NV) (K:Nat) (q r:NV) (P R:Pt V.p) (w:World) (hc:(crvI Q V).holds w) (hok:V.Ok) (hk:(numT qk K).holds w) (hK:D.nw K≤1000) (hq:(numT q (xv P)).holds w) (hr:(numT r (yv P)).holds w) (hP:On V.A V.B P) (hR:pmul V.A P K = R):Calls Try.prog 38 ([.agg (crvL Q V).toArray,numV qk K,rpV (numV q (xv P)) (numV r (yv P)) (iv P)]:List Value).toArray w (fun e w'=>Num2R w (fp2 q r P []) (xv R) (yv R) (fun u v=>rpV u v (iv R)) e w'):=by
  obtain ⟨hb5,hb521,hba,hbb,hbx,hby,hbn,hbo,hbo2,hbb1,hbn1⟩:=hok.bounds
  have hsz:=hok.sz
  have hsp:=hsz.p
  have hsa:=hsz.a
  have hsb:=hsz.b
  have hp0:V.p≠0:=by omega
  have hpp:0<V.p:=by omega
  have hm17:∀ k,D.nw (k%V.p)≤17:=fun k=>Nat.le_trans (D.nw_mono (Nat.le_of_lt (Nat.mod_lt k hpp))) hsp
  refine Kj (N:=30) (rs:=[.cell 6 38]) [crvI Q V,numT qk K,numT q (xv P),numT r (yv P)] Try.func38 rfl Try.ntmps38 Try.results38 (Nb rfl) ⟨hc,hk,hq,hr,trivial⟩ rfl ?_
  show LCode _ _ _ ⟨_,_⟩ _
  refine KB (KA ?_)
  refine oS (mB (fun b3=>?_))
  refine oS (mB (fun b5=>?_))
  refine oS (mk (KS zr_38) (fun b6=>?_))
  refine KC ?_
  refine KB (KA ?_)
  refine oP (KK (KAD pl_38 zr_38 rfl rfl) (show _ = rpV (.slice none 0 0) (.slice none 0 0) (true) from rfl)) ?_
  refine oS (mk (KS zr_38) (fun b7=>?_))
  refine KT rfl (sA rfl rfl sz_38 (by repeat (first|exact KP|refine KL rfl ?_)) (hl:=by rfl) (h:=?_))
  refine KC ?_
  refine KB ?_
  refine KB ?_
  have hbk:=blen_nw K
  refine LCode.zeroNum ?_
  refine LCode.zeroNum ?_
  refine KA ?_
  refine oM ?_
  refine oS (cF rfl en_70 rfl (fun w hw=>c_n_Bits qk K w (mC hw) (by omega)) ?_)
  refine oP (KH (v:=.int .i64 (((blen K:Nat):Int)-1)) rfl rfl (br_subI (by omega) (by omega))) ?_
  refine oA ?_
  refine KC ?_
  refine LCode.block ?_
  refine Ku (α:=Nat×NV×NV) (fun x=>x.1≤blen K∧NFr w.heap.size (fp2 q r P []) x.2.1 (D.nw (xv (pmul V.A P (K/2^x.1))))∧NFr w.heap.size (fp2 q r P []) x.2.2 (D.nw (yv (pmul V.A P (K/2^x.1))))) (fun x=>⟨[(1,numV qk K),(3,.pointer (some ⟨b3,0,none⟩)),(5,.pointer (some ⟨b5,0,none⟩)),(6,.pointer (some ⟨b6,0,none⟩)),(7,.pointer (some ⟨b7,0,none⟩)),(8,.int .i64 (((x.1:Nat):Int)-1))],[.blk b7 ⟨true,rpL (numV x.2.1 (xv (pmul V.A P (K/2^x.1)))) (numV x.2.2 (yv (pmul V.A P (K/2^x.1)))) (iv (pmul V.A P (K/2^x.1))),38,(0,0)⟩,.blk b6 ⟨true,[.slice none 0 0,.slice none 0 0,.bool false],38,(0,0)⟩,.blk b5 ⟨true,rpL (numV q (xv P)) (numV r (yv P)) (iv P),38,(0,0)⟩,.blk b3 ⟨true,crvL Q V,26,(0,0)⟩,numT x.2.1 (xv (pmul V.A P (K/2^x.1))),numT x.2.2 (yv (pmul V.A P (K/2^x.1))),crvI Q V,numT qk K,numT q (xv P),numT r (yv P)]⟩) (fun x=>x.1) ((blen K,⟨true,0,0⟩,⟨true,0,0⟩)) (⟨Nat.le_refl _,by dsimp only; rw [pm_top]; exact nfr_zero _ _,by dsimp only; rw [pm_top]; exact nfr_zero _ _⟩) (by dsimp only; rw [pm_top]; exact KAR (Sub.cells (b:=b7) (cs':=rpL (numV ⟨true,0,0⟩ (xv (Pt.inf:Pt V.p))) (numV ⟨true,0,0⟩ (yv (Pt.inf:Pt V.p))) (iv (Pt.inf:Pt V.p))) (by repeat (first|exact Sh _|apply St_)) rp_nil) (Kq ⟨rfl,rfl,rfl,rfl,rfl,rfl,trivial⟩ (by repeat (first|exact Sel.nil _|refine Sel.cons (by repeat (first|exact Ph _|apply Pt_)) ?_)))) ?_
  rintro x ⟨hx1,hx2,hx3⟩
  refine KB ?_
  refine KB ?_
  rcases Nat.eq_zero_or_pos x.1 with h0|h0
  ·
    refine KA ?_
    refine oM ?_
    refine oP (KH (v:=.bool false) rfl rfl (by rw [h0]; rfl)) ?_
    refine KC ?_
    refine KW rfl ?_
    refine Ks ?_
    refine KB ?_
    have eR:pmul V.A P (K/2^x.1) = R:=by rw [h0,Nat.pow_zero,Nat.div_one]; exact hR
    rw [eR] at hx2 hx3 ⊢
    refine KA ?_
    refine oD (dL rfl (hv:=by exact KG Try.underlying38 rfl sz_38)) ?_
    refine KT rfl (sA rfl rfl sz_38 (by repeat (first|exact KP|refine KL rfl ?_)) (hl:=by rfl) (h:=?_))
    refine KC (KO ?_)
    refine ⟨[_],.cons ⟨_,_,_,rfl,(by repeat (first|exact Mh _|apply Mt)),by exact KG Try.underlying38 rfl sz_38⟩ .nil,fun a w' hr=>hr.num2Q (by repeat (first|exact Mh _|apply Mt)) hx2 (by repeat (first|exact Mh _|apply Mt)) hx3⟩
  ·
    obtain ⟨y,hy⟩:∃ y,x.1 = y+1:=⟨x.1-1,by omega⟩
    rw [hy] at hx2 hx3 ⊢
    refine KA ?_
    refine oM ?_
    refine oP (KH (v:=.bool true) rfl rfl (by simp [KAI] <;> omega)) ?_
    refine KC ?_
    refine Ki rfl ?_
    refine KU ?_
    refine KB ?_
    refine LCode.block ?_
    refine KB (KA ?_)
    refine oD (dL rfl (hv:=by exact KG Try.underlying26 rfl sz_26)) ?_
    refine oD (dL rfl (hv:=by exact KG Try.underlying38 rfl sz_38)) ?_
    refine oD (dL rfl (hv:=by exact KG Try.underlying38 rfl sz_38)) ?_
    refine oS (cZ rfl en_68 rfl (fun w hw hs=>(c_r_Plus Q V x.2.1 x.2.2 x.2.1 x.2.2 (pmul V.A P (K/2^(y+1))) (pmul V.A P (K/2^(y+1))) (padd V.A (pmul V.A P (K/2^(y+1))) (pmul V.A P (K/2^(y+1)))) w (mC hw) hok (mC hw) (mC hw) (mC hw) (mC hw) (hok.mul hP _) (hok.mul hP _) rfl).mono fun e w' h=>Num2R.q (Old.pt (by repeat (first|exact Mh _|apply Mt)) (by repeat (first|exact Mh _|apply Mt)) (Old.pt (by repeat (first|exact Mh _|apply Mt)) (by repeat (first|exact Mh _|apply Mt)) (Old.nil _))) hs h) ?_)
    rintro _ _ ⟨qda,qdb,rfl,rfl,hnda,hndb⟩
    refine KT rfl (sA rfl rfl sz_38 (by repeat (first|exact KP|refine KL rfl ?_)) (hl:=by rfl) (h:=?_))
    refine KC ?_
    refine KB (KA ?_)
    refine oM ?_
    refine oP (KAE (v:=.int .i64 ((y:Nat):Int)) (by show some _ = some _; congr 2; omega)) ?_
    refine oS (cF rfl en_86 rfl (fun w hw=>c_n_Bit qk K (D.nw K) y w (mC hw) (by omega)) ?_)
    refine oP (KH rfl rfl (KAJ (b:=1))) ?_
    refine KC ?_
    first|refine KV rfl (fun hbit=>?_) (fun hbit=>?_)|refine KY rfl (fun hbit=>?_) (fun hbit=>?_)
    ·
      have hbit:K/2^y%2 = 1:=hbit
      refine KA ?_
      refine oD (dL rfl (hv:=by exact KG Try.underlying26 rfl sz_26)) ?_
      refine oD (dL rfl (hv:=by exact KG Try.underlying38 rfl sz_38)) ?_
      refine oD (dL rfl (hv:=by exact KG Try.underlying38 rfl sz_38)) ?_
      refine oS (cZ rfl en_68 rfl (fun w hw hs=>(c_r_Plus Q V qda qdb q r (padd V.A (pmul V.A P (K/2^(y+1))) (pmul V.A P (K/2^(y+1)))) P (pmul V.A P (K/2^y)) w (mC hw) hok (mC hw) (mC hw) (mC hw) (mC hw) (hok.sum (hok.mul hP _) (hok.mul hP _)) hP (pm_T hok hP hbit)).mono fun e w' h=>Num2R.q (Old.pt (by repeat (first|exact Mh _|apply Mt)) (by repeat (first|exact Mh _|apply Mt)) (Old.pt (by repeat (first|exact Mh _|apply Mt)) (by repeat (first|exact Mh _|apply Mt)) (Old.nil _))) hs h) ?_)
      rintro _ _ ⟨qea,qeb,rfl,rfl,hnea,hneb⟩
      refine KT rfl (sA rfl rfl sz_38 (by repeat (first|exact KP|refine KL rfl ?_)) (hl:=by rfl) (h:=?_))
      refine KC ?_
      refine KA ?_
      refine oP (KAE (v:=.int .i64 ((y:Nat):Int)) (by show some _ = some _; congr 2; omega)) ?_
      refine oP (KH (v:=.int .i64 (((y:Nat):Int)-1)) rfl rfl (br_subI (by omega) (by omega))) ?_
      refine oA ?_
      refine KC ?_
      exact ⟨(y,qea,qeb),⟨by dsimp only; omega,NFr.two hnea (NFr.two hnda hx2 hx3 hx2 hx3) (NFr.two hndb hx2 hx3 hx2 hx3) (fp2_q _) (fp2_r _),NFr.two hneb (NFr.two hnda hx2 hx3 hx2 hx3) (NFr.two hndb hx2 hx3 hx2 hx3) (fp2_q _) (fp2_r _)⟩,by dsimp only; omega,Kq ⟨rfl,rfl,rfl,rfl,rfl,rfl,trivial⟩ (by repeat (first|exact Sel.nil _|refine Sel.cons (by repeat (first|exact Ph _|apply Pt_)) ?_))⟩
    ·
      have hbit:¬ K/2^y%2 = 1:=hbit
      refine KU ?_
      refine KA ?_
      refine oP (KAE (v:=.int .i64 ((y:Nat):Int)) (by show some _ = some _; congr 2; omega)) ?_
      refine oP (KH (v:=.int .i64 (((y:Nat):Int)-1)) rfl rfl (br_subI (by omega) (by omega))) ?_
      refine oA ?_
      refine KC ?_
      rw [pm_F hok hP hbit] at hnda hndb ⊢
      exact ⟨(y,qda,qdb),⟨by dsimp only; omega,NFr.two hnda hx2 hx3 hx2 hx3,NFr.two hndb hx2 hx3 hx2 hx3⟩,by dsimp only; omega,Kq ⟨rfl,rfl,rfl,rfl,rfl,rfl,trivial⟩ (by repeat (first|exact Sel.nil _|refine Sel.cons (by repeat (first|exact Ph _|apply Pt_)) ?_))⟩
def sumT (V:Cv) (T U:Fin V.p×Fin V.p×Fin V.p):Fin V.p×Fin V.p×Fin V.p:=sum3 V.A (V.B+V.B+V.B) T.1 T.2.1 T.2.2 U.1 U.2.1 U.2.2
structure RepT (V:Cv) (T:Fin V.p×Fin V.p×Fin V.p) (P:Pt V.p):Prop where
  rep:Rep T.1 T.2.1 T.2.2 P
  on:On V.A V.B P
theorem RepT.sum {V:Cv} (hok:V.Ok) {T U:Fin V.p×Fin V.p×Fin V.p} {P R:Pt V.p} (h:RepT V T P) (k:RepT V U R):RepT V (sumT V T U) (padd V.A P R):=⟨hok.rep_sum h.rep k.rep h.on k.on,hok.sum h.on k.on⟩
theorem RepT.trip {V:Cv} (hok:V.Ok) {P:Pt V.p} (hP:On V.A V.B P):RepT V (tripF P) P:=⟨hok.rep_trip P,hP⟩
theorem c_SumT (V:Cv) (b f bd:Nat) (hok:V.Ok) (T U:Fin V.p×Fin V.p×Fin V.p) (w:World) (hb:(Item.blk b ⟨false,opL V f,129,(0,0)⟩).holds w) (hf:(Item.blk f ⟨false,fldL V.p bd,162,(0,0)⟩).holds w) (hbd:(Item.blk bd ⟨false,dvL V.p,212,(0,0)⟩).holds w):Calls Try.prog 125 ([.pointer (some ⟨b,0,none⟩),pjF T,pjF U]:List Value).toArray w (fun e w'=>e = .returned (pjF (sumT V T U))∧Below w.heap.size w w') :=
  c_Sum V b f bd hok T.1 T.2.1 T.2.2 U.1 U.2.1 U.2.2 w hb hf hbd
theorem c_PlainT (V:Cv) (b f bd:Nat) (hok:V.Ok) (T:Fin V.p×Fin V.p×Fin V.p) (P:Pt V.p) (w:World) (hb:(Item.blk b ⟨false,opL V f,129,(0,0)⟩).holds w) (hf:(Item.blk f ⟨false,fldL V.p bd,162,(0,0)⟩).holds w) (hbd:(Item.blk bd ⟨false,dvL V.p,212,(0,0)⟩).holds w) (h:RepT V T P):Calls Try.prog 124 ([.pointer (some ⟨b,0,none⟩),pjF T]:List Value).toArray w (fun e w'=>e = .returned (ptP P)∧Below w.heap.size w w'):=by
  have:=c_Plain V b f bd hok T.1 T.2.1 T.2.2 w hb hf hbd
  rwa [Rep.plain hok.prime h.rep] at this
end Go.Proofs.Ytlmiolnccgjjjaa
set_option linter.unusedVariables false
set_option linter.unusedSimpArgs false
set_option maxRecDepth 20000
namespace Go.Proofs.Ytlmiolnccgjjjaa
open Go Go.RowKit
def uidx (x:Int):Nat:=(x%18446744073709551616).toNat
theorem uidx_eq (x:Int):Value.int .u64 (IntKind.u64.wrap x) = Value.int .u64 ((uidx x:Nat):Int):=by
  unfold uidx
  rw [wrap_u64,Int.toNat_of_nonneg (Int.emod_nonneg _ (by decide))]
theorem cvI_idx (x:Int):∃ V,cvI ((1+uidx x%15:Nat):Int) = some V:=by
  rw [cvI_nat]; exact cvOf_some (by omega) (by omega)
theorem cvI_id {id:Int} {V:Cv} (h:cvI id = some V):cvI ((V.id:Nat):Int) = some V:=by rw [(cvI_ok h).2]; exact h
end Go.Proofs.Ytlmiolnccgjjjaa
set_option linter.unusedVariables false
set_option linter.unusedSimpArgs false
set_option maxRecDepth 20000
namespace Go.Proofs.Ytlmiolnccgjjjaa
open Go Go.RowKit
open Grp
theorem eq_pt_t {X Y:Nat} {i:Bool} (hX:X<W9) (hY:Y<W9):EqD 4 Try.prog 35 (ptV X Y i) (ptV X Y i) true:=by
  have:=eq_pt X Y i X Y i hX hY hX hY
  rwa [show (decide (X = X) && (decide (Y = Y) && ((i == i) && true))) = true by simp] at this
theorem Brings.own {w w':World} {H:List Item} {b:Nat} {cs:List Value} {e:TypeId} (hb:Below w.heap.size w w') (h:(Item.blk b ⟨true,cs,e,(0,0)⟩).holds w') (hn:w.heap.size≤b):Brings w H [.blk b ⟨true,cs,e,(0,0)⟩] w' :=
  ⟨hb,(by intro x hx; simp at hx; subst hx; exact h),(by intro x hx k hk; simp at hx; subst hx; simp [Item.fp] at hk; subst hk; exact .inl hn),(by intro x hx _ k hk; simp at hx; subst hx; simp [Item.fp] at hk; subst hk; exact hn),List.pairwise_singleton _ _⟩
end Go.Proofs.Ytlmiolnccgjjjaa
set_option linter.unusedVariables false
set_option linter.unusedSimpArgs false
set_option maxRecDepth 20000
namespace Go.Proofs.Ytlmiolnccgjjjaa
open Go Go.RowKit
open Grp
theorem xG {V:Cv} (hok:V.Ok):xv V.G = V.x:=val_c hok.bounds.2.2.2.2.1
theorem yG {V:Cv} (hok:V.Ok):yv V.G = V.y:=val_c hok.bounds.2.2.2.2.2.1
end Go.Proofs.Ytlmiolnccgjjjaa
set_option linter.unusedVariables false
set_option linter.unusedSimpArgs false
set_option maxRecDepth 20000
namespace Go.Proofs.Ytlmiolnccgjjjaa
open Go Go.RowKit
open Grp
theorem g_val {V:Cv} (hok:V.Ok):Value.agg (ptL V.x V.y false).toArray = ptP V.G:=by
  unfold ptP ptV
  rw [xG hok,yG hok]
  rfl
theorem c_cOnB (V:Cv) (b f bd:Nat) (hok:V.Ok) (X Y:Nat) (i r:Bool) (w:World) (hb:(Item.blk b ⟨false,opL V f,129,(0,0)⟩).holds w) (hf:(Item.blk f ⟨false,fldL V.p bd,162,(0,0)⟩).holds w) (hbd:(Item.blk bd ⟨false,dvL V.p,212,(0,0)⟩).holds w) (hX:X<W9) (hY:Y<W9) (hr:onB V.p V.a V.b X Y i = r):Calls Try.prog 81 ([.pointer (some ⟨b,0,none⟩),ptV X Y i]:List Value).toArray w (fun e w'=>e = .returned (.bool r)∧Below w.heap.size w w'):=by
  have:=c_cOn V b f bd hok X Y i w hb hf hbd hX hY
  rwa [hr] at this
theorem c_cOnP (V:Cv) (b f bd:Nat) (hok:V.Ok) (P:Pt V.p) (w:World) (hb:(Item.blk b ⟨false,opL V f,129,(0,0)⟩).holds w) (hf:(Item.blk f ⟨false,fldL V.p bd,162,(0,0)⟩).holds w) (hbd:(Item.blk bd ⟨false,dvL V.p,212,(0,0)⟩).holds w) (hP:On V.A V.B P):Calls Try.prog 81 ([.pointer (some ⟨b,0,none⟩),ptP P]:List Value).toArray w (fun e w'=>e = .returned (.bool true)∧Below w.heap.size w w') :=
  c_cOnB V b f bd hok (xv P) (yv P) (iv P) true w hb hf hbd (pt_w9 hok P).1 (pt_w9 hok P).2 (onB_on hP)
theorem pjFL_length {p:Nat} (T:Fin p×Fin p×Fin p):(pjFL T).length = 27:=KX _ _ _
theorem pjFL_one {p:Nat} (T:Fin p×Fin p×Fin p):AllOne (pjFL T):=Km _ _ _
end Go.Proofs.Ytlmiolnccgjjjaa
set_option linter.unusedVariables false
set_option linter.unusedSimpArgs false
set_option maxRecDepth 20000
namespace Go.Proofs.Ytlmiolnccgjjjaa
open Go Go.RowKit
open Grp
section
variable {P:Program} {C:Ctx} {d:Nat} {ty:TypeId} {pos:String} {aft:Array Edge} {K:St→Prop} {x:Operand} {v:Value}
end
theorem pt_set1 (X Y Y':Nat) (i:Bool):splice (ptL X Y i) 9 (natL Y') = ptL X Y' i:=splice_mid (A:=natL X) (B:=natL Y) (D:=[.bool i]) (by simp [ptL]) (KD _) (by rw [KD,KD]) (by simp [ptL])
theorem neg_subF {p:Nat} [NeZero p] (y:Fin p):0-y = -y:=by grind
theorem neg_zeroF {p:Nat} [NeZero p]:((0:Fin p)-0).val = 0:=by rw [show (0:Fin p)-0 = 0 by grind]; rfl
theorem c_slope (V:Cv) (b f bd:Nat) (hok:V.Ok) (l x1 y1 x2 y2:Fin V.p) (i j:Bool) (w:World) (hb:(Item.blk b ⟨false,opL V f,129,(0,0)⟩).holds w) (hf:(Item.blk f ⟨false,fldL V.p bd,162,(0,0)⟩).holds w) (hbd:(Item.blk bd ⟨false,dvL V.p,212,(0,0)⟩).holds w):Calls Try.prog 135 ([.agg ([.pointer (some ⟨b,0,none⟩)]:List Value).toArray,natV l.val,ptV x1.val y1.val i,ptV x2.val y2.val j]:List Value).toArray w (fun e w'=>e = .returned (ptV (l*l-x1-x2).val (l*(x1-(l*l-x1-x2))-y1).val false)∧Below w.heap.size w w'):=by
  have hbb:=hok.bounds
  have hpW:V.p<W9:=w9_521 hbb.2.1
  refine Kj (N:=42) (rs:=[.cell 8 35]) [.blk b ⟨false,opL V f,129,(0,0)⟩,.blk f ⟨false,fldL V.p bd,162,(0,0)⟩,.blk bd ⟨false,dvL V.p,212,(0,0)⟩] Try.func135 rfl Try.ntmps135 Try.results135 (Nb rfl) ⟨hb,hf,hbd,trivial⟩ rfl ?_
  show LCode _ _ _ ⟨_,_⟩ _
  refine KB (KA ?_)
  refine oS (mB (fun b4=>?_))
  refine oS (mB (fun b5=>?_))
  refine oS (mB (fun b6=>?_))
  refine oS (mB (fun b7=>?_))
  refine oS (mk (KS zr_35) (fun b8=>?_))
  refine KC ?_
  refine KB (KA ?_)
  refine oP (KE (o':=0) Try.underlying148 rfl rfl rfl sz_110 (by decide)) ?_
  refine oD (dL rfl (hv:=KM Try.underlying110 rfl (by first|rfl|exact Kg _ _ _ (by omega)|exact Ke _ (by omega)|exact Kd _ (by omega)|exact dv_m _ _ _ (by omega)))) ?_
  refine oP (KR rfl) ?_
  refine oP (KE (o':=59) Try.underlying129 rfl rfl rfl sz_127 (by decide)) ?_
  refine oD (dL rfl (hv:=KM Try.underlying127 rfl (by exact cvC_gt_F _ _ _ _ _ _ _ _ _ _ _ _ _))) ?_
  refine oA ?_
  refine KC ?_
  refine KB ?_
  refine rD [13] ?_
  refine aM 0 ?_
  refine aM 1 ?_
  refine aM 2 ?_
  refine aD 3 rfl (dL rfl (hv:=by exact KG Try.underlying33 rfl sz_33)) ?_
  refine aD 4 rfl (dL rfl (hv:=by exact KG Try.underlying33 rfl sz_33)) ?_
  refine aP 6 rfl (KE (o':=0) Try.underlying35 rfl rfl rfl sz_33 (by decide)) ?_
  refine aD 7 rfl (dL rfl (hv:=by exact KAA Try.underlying33 rfl sz_33 rfl (KD _))) ?_
  refine aP 9 rfl (KE (o':=0) Try.underlying35 rfl rfl rfl sz_33 (by decide)) ?_
  refine aD 10 rfl (dL rfl (hv:=by exact KAA Try.underlying33 rfl sz_33 rfl (KD _))) ?_
  refine KAV ?_
  refine Kz 12 rfl (.inl zr_33) (Nb rfl) rfl rfl rfl ?_
  refine Kh 5 rfl rfl rfl (Nb rfl) (by kernel_rfl) rfl (Ko (first:=[]) rfl en_120 rfl (fun w hw=>c_F_Mul V hok f bd _ _ w (mC hw) (mC hw))) ?_
  rintro _ _ ⟨rfl,rfl⟩
  refine Kh 8 rfl rfl rfl (Nb rfl) (by kernel_rfl) rfl (Ko (first:=[]) rfl en_130 rfl (fun w hw=>c_F_Sub V hok f bd _ _ w (mC hw))) ?_
  rintro _ _ ⟨rfl,rfl⟩
  refine Kh 11 rfl rfl rfl (Nb rfl) (by kernel_rfl) rfl (Ko (first:=[]) rfl en_130 rfl (fun w hw=>c_F_Sub V hok f bd _ _ w (mC hw))) ?_
  rintro _ _ ⟨rfl,rfl⟩
  refine pE (fun b10=>?_)
  refine KAH ?_
  refine aL 13 rfl (sA rfl rfl sz_33 (by repeat (first|exact Ka _|exact Kl _ _ _|exact Kc _|exact Kb _ _ _|exact Km _ _ _|exact KP|refine KL rfl ?_|refine KQ ?_ ?_)) (hl:=by first|exact KD _|exact KI _ _ _|exact KF _|exact KJ _ _ _|exact KX _ _ _|rfl|simp [KI,KD,KF]) (h:=?_))
  refine aE ?_
  refine KB ?_
  refine rD [14] ?_
  refine aD 0 rfl (dL rfl (hv:=by exact KG Try.underlying33 rfl sz_33)) ?_
  refine aM 1 ?_
  refine aM 2 ?_
  refine aD 3 rfl (dL rfl (hv:=by exact KG Try.underlying33 rfl sz_33)) ?_
  refine aM 4 ?_
  refine aP 5 rfl (KE (o':=0) Try.underlying35 rfl rfl rfl sz_33 (by decide)) ?_
  refine aD 6 rfl (dL rfl (hv:=by exact KAA Try.underlying33 rfl sz_33 rfl (KD _))) ?_
  refine aD 7 rfl (dL rfl (hv:=by exact KG Try.underlying33 rfl sz_33)) ?_
  refine aP 10 rfl (KE (o':=9) Try.underlying35 rfl rfl rfl sz_33 (by decide)) ?_
  refine aD 11 rfl (dL rfl (hv:=by exact pt_ld1 _ _ _ _ _ _)) ?_
  refine aO 8 rfl (cF rfl en_130 rfl (fun w hw=>c_F_Sub V hok f bd _ _ w (mC hw)) ?_)
  refine aO 9 rfl (cF rfl en_120 rfl (fun w hw=>c_F_Mul V hok f bd _ _ w (mC hw) (mC hw)) ?_)
  refine aO 12 rfl (cF rfl en_130 rfl (fun w hw=>c_F_Sub V hok f bd _ _ w (mC hw)) ?_)
  refine aP 13 rfl (KK (KAD pl_35 zr_35 rfl (fill_pt _ _)) rfl) ?_
  refine aL 14 rfl (sA rfl rfl sz_35 (by repeat (first|exact Ka _|exact Kl _ _ _|exact Kc _|exact Kb _ _ _|exact Km _ _ _|exact KP|refine KL rfl ?_|refine KQ ?_ ?_)) (hl:=by first|exact KD _|exact KI _ _ _|exact KF _|exact KJ _ _ _|exact KX _ _ _|rfl|simp [KI,KD,KF]) (h:=?_))
  refine aE ?_
  refine KO ?_
  refine ⟨[_],.cons ⟨_,_,_,rfl,(by repeat (first|exact Mh _|apply Mt)),by exact KG Try.underlying35 rfl sz_35⟩ .nil,fun a w' hr=>⟨?_,hr.fr.below⟩⟩
  rfl
theorem c_gadd (V:Cv) (b f bd:Nat) (hok:V.Ok) (P P2 R:Pt V.p) (w:World) (hb:(Item.blk b ⟨false,opL V f,129,(0,0)⟩).holds w) (hf:(Item.blk f ⟨false,fldL V.p bd,162,(0,0)⟩).holds w) (hbd:(Item.blk bd ⟨false,dvL V.p,212,(0,0)⟩).holds w) (hP:On V.A V.B P) (hP2:On V.A V.B P2) (hR:padd V.A P P2 = R):Calls Try.prog 102 ([.agg ([.pointer (some ⟨b,0,none⟩)]:List Value).toArray,ptP P,ptP P2]:List Value).toArray w (fun e w'=>e = .returned (ptP R)∧Below w.heap.size w w'):=by
  have hbb:=hok.bounds
  have hpW:V.p<W9:=w9_521 hbb.2.1
  refine Kj (N:=96) (rs:=[.cell 6 35]) [.blk b ⟨false,opL V f,129,(0,0)⟩,.blk f ⟨false,fldL V.p bd,162,(0,0)⟩,.blk bd ⟨false,dvL V.p,212,(0,0)⟩] Try.func102 rfl Try.ntmps102 Try.results102 (Nb rfl) ⟨hb,hf,hbd,trivial⟩ rfl ?_
  show LCode _ _ _ ⟨_,_⟩ _
  refine KB (KA ?_)
  refine oS (mB (fun b3=>?_))
  refine oS (mB (fun b4=>?_))
  refine oS (mB (fun b5=>?_))
  refine oS (mk (KS zr_35) (fun b6=>?_))
  refine KC ?_
  refine KB ?_
  rcases P with _|⟨x1,y1⟩
  ·
    have eR:=(hok.inf_add hP2).symm.trans hR
    subst eR
    refine KA ?_
    refine oP (KE (o':=0) Try.underlying148 rfl rfl rfl sz_110 (by decide)) ?_
    refine oD (dL rfl (hv:=KM Try.underlying110 rfl (by first|rfl|exact Kg _ _ _ (by omega)|exact Ke _ (by omega)|exact Kd _ (by omega)|exact dv_m _ _ _ (by omega)))) ?_
    refine oP (KR rfl) ?_
    refine oP (KE (o':=59) Try.underlying129 rfl rfl rfl sz_127 (by decide)) ?_
    refine oD (dL rfl (hv:=KM Try.underlying127 rfl (by exact cvC_gt_F _ _ _ _ _ _ _ _ _ _ _ _ _))) ?_
    refine oA ?_
    refine KC ?_
    refine KB ?_
    refine LCode.block ?_
    refine KB (KA ?_)
    refine oP (KE (o':=18) Try.underlying35 rfl rfl rfl sz_4 (by decide)) ?_
    refine oD (dL rfl (hv:=KM Try.underlying4 rfl (by exact pt_gt _ _ _))) ?_
    refine oA ?_
    refine KC ?_
    refine Ki rfl ?_
    refine KB (KA ?_)
    refine oD (dL rfl (hv:=by exact KG Try.underlying35 rfl sz_35)) ?_
    refine KT rfl (sA rfl rfl sz_35 (by repeat (first|exact Ka _|exact Kl _ _ _|exact Kc _|exact Kb _ _ _|exact Km _ _ _|exact KP|refine KL rfl ?_|refine KQ ?_ ?_)) (hl:=by first|exact KD _|exact KI _ _ _|exact KF _|exact KJ _ _ _|exact KX _ _ _|rfl|simp [KI,KD,KF]) (h:=?_))
    refine KC (KO ?_)
    refine ⟨[_],.cons ⟨_,_,_,rfl,(by repeat (first|exact Mh _|apply Mt)),by exact KG Try.underlying35 rfl sz_35⟩ .nil,fun a w' hr=>⟨?_,hr.fr.below⟩⟩
    rfl
  ·
    refine KA ?_
    refine oP (KE (o':=0) Try.underlying148 rfl rfl rfl sz_110 (by decide)) ?_
    refine oD (dL rfl (hv:=KM Try.underlying110 rfl (by first|rfl|exact Kg _ _ _ (by omega)|exact Ke _ (by omega)|exact Kd _ (by omega)|exact dv_m _ _ _ (by omega)))) ?_
    refine oP (KR rfl) ?_
    refine oP (KE (o':=59) Try.underlying129 rfl rfl rfl sz_127 (by decide)) ?_
    refine oD (dL rfl (hv:=KM Try.underlying127 rfl (by exact cvC_gt_F _ _ _ _ _ _ _ _ _ _ _ _ _))) ?_
    refine oA ?_
    refine KC ?_
    refine KB ?_
    refine LCode.block ?_
    refine KB (KA ?_)
    refine oP (KE (o':=18) Try.underlying35 rfl rfl rfl sz_4 (by decide)) ?_
    refine oD (dL rfl (hv:=KM Try.underlying4 rfl (by exact pt_gt _ _ _))) ?_
    refine oA ?_
    refine KC ?_
    refine KW rfl ?_
    refine KB ?_
    rcases P2 with _|⟨x2,y2⟩
    ·
      have eR:=(hok.add_inf hP).symm.trans hR
      subst eR
      refine KA ?_
      refine oP (KE (o':=18) Try.underlying35 rfl rfl rfl sz_4 (by decide)) ?_
      refine oD (dL rfl (hv:=KM Try.underlying4 rfl (by exact pt_gt _ _ _))) ?_
      refine oA ?_
      refine KC ?_
      refine Ki rfl ?_
      refine KB (KA ?_)
      refine oD (dL rfl (hv:=by exact KG Try.underlying35 rfl sz_35)) ?_
      refine KT rfl (sA rfl rfl sz_35 (by repeat (first|exact Ka _|exact Kl _ _ _|exact Kc _|exact Kb _ _ _|exact Km _ _ _|exact KP|refine KL rfl ?_|refine KQ ?_ ?_)) (hl:=by first|exact KD _|exact KI _ _ _|exact KF _|exact KJ _ _ _|exact KX _ _ _|rfl|simp [KI,KD,KF]) (h:=?_))
      refine KC (KO ?_)
      refine ⟨[_],.cons ⟨_,_,_,rfl,(by repeat (first|exact Mh _|apply Mt)),by exact KG Try.underlying35 rfl sz_35⟩ .nil,fun a w' hr=>⟨?_,hr.fr.below⟩⟩
      rfl
    ·
      refine KA ?_
      refine oP (KE (o':=18) Try.underlying35 rfl rfl rfl sz_4 (by decide)) ?_
      refine oD (dL rfl (hv:=KM Try.underlying4 rfl (by exact pt_gt _ _ _))) ?_
      refine oA ?_
      refine KC ?_
      refine KW rfl ?_
      refine KB ?_
      by_cases hx:x1 = x2
      ·
        refine KA ?_
        refine oP (KE (o':=0) Try.underlying35 rfl rfl rfl sz_33 (by decide)) ?_
        refine oD (dL rfl (hv:=by exact KAA Try.underlying33 rfl sz_33 rfl (KD _))) ?_
        refine oP (KE (o':=0) Try.underlying35 rfl rfl rfl sz_33 (by decide)) ?_
        refine oD (dL rfl (hv:=by exact KAA Try.underlying33 rfl sz_33 rfl (KD _))) ?_
        refine oP (KK (Det.nea (by kernel_rfl) (fun w=>eq_nat x1.val x2.val (Nat.lt_trans x1.isLt hpW) (Nat.lt_trans x2.isLt hpW) 10000 (by decide) w) rfl rfl) (show _ = Value.bool false by rw [decide_eq_true (congrArg Fin.val hx)]; rfl)) ?_
        refine oA ?_
        refine KC ?_
        refine KW rfl ?_
        refine KB ?_
        by_cases hy:y1 = y2
        ·
          have hy0:¬ y1.val = 0:=y_pos hok hP
          refine KA ?_
          refine oP (KE (o':=9) Try.underlying35 rfl rfl rfl sz_33 (by decide)) ?_
          refine oD (dL rfl (hv:=by exact pt_ld1 _ _ _ _ _ _)) ?_
          refine oP (KE (o':=9) Try.underlying35 rfl rfl rfl sz_33 (by decide)) ?_
          refine oD (dL rfl (hv:=by exact pt_ld1 _ _ _ _ _ _)) ?_
          refine oP (KK (Det.nea (by kernel_rfl) (fun w=>eq_nat y1.val y2.val (Nat.lt_trans y1.isLt hpW) (Nat.lt_trans y2.isLt hpW) 10000 (by decide) w) rfl rfl) (show _ = Value.bool false by rw [decide_eq_true (congrArg Fin.val hy)]; rfl)) ?_
          refine oM ?_
          refine oGP (KE (o':=9) Try.underlying35 rfl rfl rfl sz_33 (by decide)) ?_
          refine KAC rfl rfl (dL rfl (hv:=by exact pt_ld1 _ _ _ _ _ _)) (Nb rfl) ?_
          refine oGP (KK (KAD pl_33 zr_33 rfl rfl) (show _ = natV 0 by unfold natV natL; rw [← vec_zeros 9])) ?_
          refine oGP (KK (Det.eqa (by kernel_rfl) (fun w=>eq_nat y1.val 0 (Nat.lt_trans y1.isLt hpW) zero_w9 10000 (by decide) w) rfl rfl) (show _ = Value.bool false by rw [decide_eq_false hy0])) ?_
          refine oP (Kt rfl rfl) ?_
          refine oA ?_
          refine KC ?_
          refine KW rfl ?_
          refine KU ?_
          refine KB ?_
          subst hx hy
          have eR:=(add_tangF hok.prime hok.fld hP (fin_ne0 hy0)).symm.trans hR
          subst eR
          refine KA ?_
          refine oM ?_
          refine oP (KE (o':=0) Try.underlying35 rfl rfl rfl sz_33 (by decide)) ?_
          refine oD (dL rfl (hv:=by exact KAA Try.underlying33 rfl sz_33 rfl (KD _))) ?_
          refine oP (KE (o':=0) Try.underlying35 rfl rfl rfl sz_33 (by decide)) ?_
          refine oD (dL rfl (hv:=by exact KAA Try.underlying33 rfl sz_33 rfl (KD _))) ?_
          refine oS (cF rfl en_120 rfl (fun w hw=>c_F_Mul V hok f bd _ _ w (mC hw) (mC hw)) ?_)
          refine oS (mk (KS zr_33) (fun b8=>?_))
          refine KT rfl (sA rfl rfl sz_33 (by repeat (first|exact Ka _|exact Kl _ _ _|exact Kc _|exact Kb _ _ _|exact Km _ _ _|exact KP|refine KL rfl ?_|refine KQ ?_ ?_)) (hl:=by first|exact KD _|exact KI _ _ _|exact KF _|exact KJ _ _ _|exact KX _ _ _|rfl|simp [KI,KD,KF]) (h:=?_))
          refine KC ?_
          refine KB ?_
          refine rD [29] ?_
          refine aD 0 rfl (dL rfl (hv:=by exact KG Try.underlying148 rfl sz_148)) ?_
          refine aM 1 ?_
          refine aM 2 ?_
          refine aM 3 ?_
          refine aM 4 ?_
          refine aD 5 rfl (dL rfl (hv:=by exact KG Try.underlying33 rfl sz_33)) ?_
          refine aD 6 rfl (dL rfl (hv:=by exact KG Try.underlying33 rfl sz_33)) ?_
          refine aD 8 rfl (dL rfl (hv:=by exact KG Try.underlying33 rfl sz_33)) ?_
          refine aP 10 rfl (KE (o':=0) Try.underlying148 rfl rfl rfl sz_110 (by decide)) ?_
          refine aD 11 rfl (dL rfl (hv:=KM Try.underlying110 rfl (by first|rfl|exact Kg _ _ _ (by omega)|exact Ke _ (by omega)|exact Kd _ (by omega)|exact dv_m _ _ _ (by omega)))) ?_
          refine aP 12 rfl (KR rfl) ?_
          refine aP 13 rfl (KE (o':=0) Try.underlying129 rfl rfl rfl KAg (by decide)) ?_
          refine aP 14 rfl (KE (o':=10) Try.underlying126 rfl rfl rfl sz_33 (by decide)) ?_
          refine aD 15 rfl (Det.cast (dL rfl (hv:=by exact cvC_ld_a _ _ _ _ _ _ _ _ _ _ _ _ _ _ _ _)) (a_val hok)) ?_
          refine aM 17 ?_
          refine aM 18 ?_
          refine aP 19 rfl (KE (o':=9) Try.underlying35 rfl rfl rfl sz_33 (by decide)) ?_
          refine aD 20 rfl (dL rfl (hv:=by exact pt_ld1 _ _ _ _ _ _)) ?_
          refine aP 21 rfl (KE (o':=9) Try.underlying35 rfl rfl rfl sz_33 (by decide)) ?_
          refine aD 22 rfl (dL rfl (hv:=by exact pt_ld1 _ _ _ _ _ _)) ?_
          refine aD 26 rfl (dL rfl (hv:=by exact KG Try.underlying35 rfl sz_35)) ?_
          refine aD 27 rfl (dL rfl (hv:=by exact KG Try.underlying35 rfl sz_35)) ?_
          refine aO 7 rfl (cF rfl en_118 rfl (fun w hw=>c_F_Add V hok f bd _ _ w (mC hw)) ?_)
          refine aO 9 rfl (cF rfl en_118 rfl (fun w hw=>c_F_Add V hok f bd _ _ w (mC hw)) ?_)
          refine aO 16 rfl (cF rfl en_118 rfl (fun w hw=>c_F_Add V hok f bd _ _ w (mC hw)) ?_)
          refine aO 23 rfl (cF rfl en_118 rfl (fun w hw=>c_F_Add V hok f bd _ _ w (mC hw)) ?_)
          refine aO 24 rfl (cF rfl en_136 rfl (fun w hw=>c_F_Inv V hok f bd _ w (mC hw)) ?_)
          refine aO 25 rfl (cF rfl en_120 rfl (fun w hw=>c_F_Mul V hok f bd _ _ w (mC hw) (mC hw)) ?_)
          refine aO 28 rfl (cF rfl en_135 rfl (fun w hw=>c_slope V b f bd hok ((x1*x1+x1*x1+x1*x1+V.A)*finv (y1+y1)) x1 y1 x1 y1 false false w (mC hw) (mC hw) (mC hw)) ?_)
          refine aL 29 rfl (sA rfl rfl sz_35 (by repeat (first|exact Ka _|exact Kl _ _ _|exact Kc _|exact Kb _ _ _|exact Km _ _ _|exact KP|refine KL rfl ?_|refine KQ ?_ ?_)) (hl:=by first|exact KD _|exact KI _ _ _|exact KF _|exact KJ _ _ _|exact KX _ _ _|rfl|simp [KI,KD,KF]) (h:=?_))
          refine aE ?_
          refine KO ?_
          refine ⟨[_],.cons ⟨_,_,_,rfl,(by repeat (first|exact Mh _|apply Mt)),by exact KG Try.underlying35 rfl sz_35⟩ .nil,fun a w' hr=>⟨?_,hr.fr.below⟩⟩
          rfl
        ·
          have eR:=(add_opp hok.fld hP hP2 hx hy).symm.trans hR
          subst eR
          refine KA ?_
          refine oP (KE (o':=9) Try.underlying35 rfl rfl rfl sz_33 (by decide)) ?_
          refine oD (dL rfl (hv:=by exact pt_ld1 _ _ _ _ _ _)) ?_
          refine oP (KE (o':=9) Try.underlying35 rfl rfl rfl sz_33 (by decide)) ?_
          refine oD (dL rfl (hv:=by exact pt_ld1 _ _ _ _ _ _)) ?_
          refine oP (KK (Det.nea (by kernel_rfl) (fun w=>eq_nat y1.val y2.val (Nat.lt_trans y1.isLt hpW) (Nat.lt_trans y2.isLt hpW) 10000 (by decide) w) rfl rfl) (show _ = Value.bool true by rw [decide_eq_false (fun e=>hy (Fin.ext e))]; rfl)) ?_
          refine oM ?_
          refine oK ?_
          refine oK ?_
          refine oK ?_
          refine oK ?_
          refine oP (KZ rfl rfl) ?_
          refine oA ?_
          refine KC ?_
          refine Ki rfl ?_
          refine KB (KA ?_)
          refine oP (KK (KAD pl_35 zr_35 rfl fill_ptInf) rfl) ?_
          refine KT rfl (sA rfl rfl sz_35 (by repeat (first|exact Ka _|exact Kl _ _ _|exact Kc _|exact Kb _ _ _|exact Km _ _ _|exact KP|refine KL rfl ?_|refine KQ ?_ ?_)) (hl:=by first|exact KD _|exact KI _ _ _|exact KF _|exact KJ _ _ _|exact KX _ _ _|rfl|simp [KI,KD,KF]) (h:=?_))
          refine KC (KO ?_)
          refine ⟨[_],.cons ⟨_,_,_,rfl,(by repeat (first|exact Mh _|apply Mt)),by exact KG Try.underlying35 rfl sz_35⟩ .nil,fun a w' hr=>⟨?_,hr.fr.below⟩⟩
          rfl
      ·
        refine KA ?_
        refine oP (KE (o':=0) Try.underlying35 rfl rfl rfl sz_33 (by decide)) ?_
        refine oD (dL rfl (hv:=by exact KAA Try.underlying33 rfl sz_33 rfl (KD _))) ?_
        refine oP (KE (o':=0) Try.underlying35 rfl rfl rfl sz_33 (by decide)) ?_
        refine oD (dL rfl (hv:=by exact KAA Try.underlying33 rfl sz_33 rfl (KD _))) ?_
        refine oP (KK (Det.nea (by kernel_rfl) (fun w=>eq_nat x1.val x2.val (Nat.lt_trans x1.isLt hpW) (Nat.lt_trans x2.isLt hpW) 10000 (by decide) w) rfl rfl) (show _ = Value.bool true by rw [decide_eq_false (fun e=>hx (Fin.ext e))]; rfl)) ?_
        refine oA ?_
        refine KC ?_
        refine Ki rfl ?_
        refine KB ?_
        have eR:=(add_chordF hok.prime hok.fld hP hP2 hx).symm.trans hR
        subst eR
        refine rD [20] ?_
        refine aD 0 rfl (dL rfl (hv:=by exact KG Try.underlying148 rfl sz_148)) ?_
        refine aM 1 ?_
        refine aM 2 ?_
        refine aP 3 rfl (KE (o':=9) Try.underlying35 rfl rfl rfl sz_33 (by decide)) ?_
        refine aD 4 rfl (dL rfl (hv:=by exact pt_ld1 _ _ _ _ _ _)) ?_
        refine aP 5 rfl (KE (o':=9) Try.underlying35 rfl rfl rfl sz_33 (by decide)) ?_
        refine aD 6 rfl (dL rfl (hv:=by exact pt_ld1 _ _ _ _ _ _)) ?_
        refine aM 8 ?_
        refine aM 9 ?_
        refine aP 10 rfl (KE (o':=0) Try.underlying35 rfl rfl rfl sz_33 (by decide)) ?_
        refine aD 11 rfl (dL rfl (hv:=by exact KAA Try.underlying33 rfl sz_33 rfl (KD _))) ?_
        refine aP 12 rfl (KE (o':=0) Try.underlying35 rfl rfl rfl sz_33 (by decide)) ?_
        refine aD 13 rfl (dL rfl (hv:=by exact KAA Try.underlying33 rfl sz_33 rfl (KD _))) ?_
        refine aD 17 rfl (dL rfl (hv:=by exact KG Try.underlying35 rfl sz_35)) ?_
        refine aD 18 rfl (dL rfl (hv:=by exact KG Try.underlying35 rfl sz_35)) ?_
        refine aO 7 rfl (cF rfl en_130 rfl (fun w hw=>c_F_Sub V hok f bd _ _ w (mC hw)) ?_)
        refine aO 14 rfl (cF rfl en_130 rfl (fun w hw=>c_F_Sub V hok f bd _ _ w (mC hw)) ?_)
        refine aO 15 rfl (cF rfl en_136 rfl (fun w hw=>c_F_Inv V hok f bd _ w (mC hw)) ?_)
        refine aO 16 rfl (cF rfl en_120 rfl (fun w hw=>c_F_Mul V hok f bd _ _ w (mC hw) (mC hw)) ?_)
        refine aO 19 rfl (cF rfl en_135 rfl (fun w hw=>c_slope V b f bd hok ((y2-y1)*finv (x2-x1)) x1 y1 x2 y2 false false w (mC hw) (mC hw) (mC hw)) ?_)
        refine aL 20 rfl (sA rfl rfl sz_35 (by repeat (first|exact Ka _|exact Kl _ _ _|exact Kc _|exact Kb _ _ _|exact Km _ _ _|exact KP|refine KL rfl ?_|refine KQ ?_ ?_)) (hl:=by first|exact KD _|exact KI _ _ _|exact KF _|exact KJ _ _ _|exact KX _ _ _|rfl|simp [KI,KD,KF]) (h:=?_))
        refine aE ?_
        refine KO ?_
        refine ⟨[_],.cons ⟨_,_,_,rfl,(by repeat (first|exact Mh _|apply Mt)),by exact KG Try.underlying35 rfl sz_35⟩ .nil,fun a w' hr=>⟨?_,hr.fr.below⟩⟩
        rfl
theorem c_gneg (V:Cv) (b f bd:Nat) (hok:V.Ok) (P:Pt V.p) (X Y:Nat) (i:Bool) (w:World) (hb:(Item.blk b ⟨false,opL V f,129,(0,0)⟩).holds w) (hf:(Item.blk f ⟨false,fldL V.p bd,162,(0,0)⟩).holds w) (hbd:(Item.blk bd ⟨false,dvL V.p,212,(0,0)⟩).holds w):Calls Try.prog 107 ([.agg ([.pointer (some ⟨b,0,none⟩)]:List Value).toArray,ptP P,ptV X Y i]:List Value).toArray w (fun e w'=>e = .returned (ptP P.neg)∧Below w.heap.size w w'):=by
  have hbb:=hok.bounds
  have hpW:V.p<W9:=w9_521 hbb.2.1
  refine Kj (N:=18) (rs:=[.cell 6 35]) [.blk b ⟨false,opL V f,129,(0,0)⟩,.blk f ⟨false,fldL V.p bd,162,(0,0)⟩,.blk bd ⟨false,dvL V.p,212,(0,0)⟩] Try.func107 rfl Try.ntmps107 Try.results107 (Nb rfl) ⟨hb,hf,hbd,trivial⟩ rfl ?_
  show LCode _ _ _ ⟨_,_⟩ _
  refine KB (KA ?_)
  refine oS (mB (fun b3=>?_))
  refine oS (mB (fun b4=>?_))
  refine oS (mB (fun b5=>?_))
  refine oS (mk (KS zr_35) (fun b6=>?_))
  refine KC ?_
  refine KB ?_
  rcases P with _|⟨x,y⟩
  ·
    refine rD [10] ?_
    refine aP 0 rfl (KE (o':=0) Try.underlying148 rfl rfl rfl sz_110 (by decide)) ?_
    refine aD 1 rfl (dL rfl (hv:=KM Try.underlying110 rfl (by first|rfl|exact Kg _ _ _ (by omega)|exact Ke _ (by omega)|exact Kd _ (by omega)|exact dv_m _ _ _ (by omega)))) ?_
    refine aP 2 rfl (KR rfl) ?_
    refine aP 3 rfl (KE (o':=59) Try.underlying129 rfl rfl rfl sz_127 (by decide)) ?_
    refine aD 4 rfl (dL rfl (hv:=KM Try.underlying127 rfl (by exact cvC_gt_F _ _ _ _ _ _ _ _ _ _ _ _ _))) ?_
    refine aP 5 rfl (KK (KAD pl_33 zr_33 rfl rfl) (show _ = natV 0 by unfold natV natL; rw [← vec_zeros 9])) ?_
    refine aP 6 rfl (KE (o':=9) Try.underlying35 rfl rfl rfl sz_33 (by decide)) ?_
    refine aD 7 rfl (dL rfl (hv:=by exact pt_ld1 _ _ _ _ _ _)) ?_
    refine aO 8 rfl (cF rfl en_130 rfl (fun w hw=>c_F_Sub V hok f bd 0 0 w (mC hw)) ?_)
    refine aP 9 rfl (KE (o':=9) Try.underlying35 rfl rfl rfl sz_33 (by decide)) ?_
    refine aL 10 rfl (KAF rfl rfl rfl sz_33 (KD _) (Ka _) (by repeat (first|exact Sh _|apply St_)) (by simp only [KJ]; decide) (pt_set1 _ _ _ _) (by simp) ?_)
    refine aE ?_
    refine KB (KA ?_)
    refine oD (dL rfl (hv:=by exact KG Try.underlying35 rfl sz_35)) ?_
    refine KT rfl (sA rfl rfl sz_35 (by repeat (first|exact Ka _|exact Kl _ _ _|exact Kc _|exact Kb _ _ _|exact Km _ _ _|exact KP|refine KL rfl ?_|refine KQ ?_ ?_)) (hl:=by first|exact KD _|exact KI _ _ _|exact KF _|exact KJ _ _ _|exact KX _ _ _|rfl|simp [KI,KD,KF]) (h:=?_))
    refine KC (KO ?_)
    refine ⟨[_],.cons ⟨_,_,_,rfl,(by repeat (first|exact Mh _|apply Mt)),by exact KG Try.underlying35 rfl sz_35⟩ .nil,fun a w' hr=>⟨?_,hr.fr.below⟩⟩
    show Ending.returned (ptV 0 ((0:Fin V.p)-0).val true) = Ending.returned (ptV 0 0 true)
    rw [neg_zeroF]
  ·
    refine rD [10] ?_
    refine aP 0 rfl (KE (o':=0) Try.underlying148 rfl rfl rfl sz_110 (by decide)) ?_
    refine aD 1 rfl (dL rfl (hv:=KM Try.underlying110 rfl (by first|rfl|exact Kg _ _ _ (by omega)|exact Ke _ (by omega)|exact Kd _ (by omega)|exact dv_m _ _ _ (by omega)))) ?_
    refine aP 2 rfl (KR rfl) ?_
    refine aP 3 rfl (KE (o':=59) Try.underlying129 rfl rfl rfl sz_127 (by decide)) ?_
    refine aD 4 rfl (dL rfl (hv:=KM Try.underlying127 rfl (by exact cvC_gt_F _ _ _ _ _ _ _ _ _ _ _ _ _))) ?_
    refine aP 5 rfl (KK (KAD pl_33 zr_33 rfl rfl) (show _ = natV 0 by unfold natV natL; rw [← vec_zeros 9])) ?_
    refine aP 6 rfl (KE (o':=9) Try.underlying35 rfl rfl rfl sz_33 (by decide)) ?_
    refine aD 7 rfl (dL rfl (hv:=by exact pt_ld1 _ _ _ _ _ _)) ?_
    refine aO 8 rfl (cF rfl en_130 rfl (fun w hw=>c_F_Sub V hok f bd 0 y w (mC hw)) ?_)
    refine aP 9 rfl (KE (o':=9) Try.underlying35 rfl rfl rfl sz_33 (by decide)) ?_
    refine aL 10 rfl (KAF rfl rfl rfl sz_33 (KD _) (Ka _) (by repeat (first|exact Sh _|apply St_)) (by simp only [KJ]; decide) (pt_set1 _ _ _ _) (by simp) ?_)
    refine aE ?_
    refine KB (KA ?_)
    refine oD (dL rfl (hv:=by exact KG Try.underlying35 rfl sz_35)) ?_
    refine KT rfl (sA rfl rfl sz_35 (by repeat (first|exact Ka _|exact Kl _ _ _|exact Kc _|exact Kb _ _ _|exact Km _ _ _|exact KP|refine KL rfl ?_|refine KQ ?_ ?_)) (hl:=by first|exact KD _|exact KI _ _ _|exact KF _|exact KJ _ _ _|exact KX _ _ _|rfl|simp [KI,KD,KF]) (h:=?_))
    refine KC (KO ?_)
    refine ⟨[_],.cons ⟨_,_,_,rfl,(by repeat (first|exact Mh _|apply Mt)),by exact KG Try.underlying35 rfl sz_35⟩ .nil,fun a w' hr=>⟨?_,hr.fr.below⟩⟩
    show Ending.returned (ptV x.val ((0:Fin V.p)-y).val false) = Ending.returned (ptV x.val (-y).val false)
    rw [neg_subF]
theorem c_do_ok (id:Int) (V:Cv) (P P2 R:Pt V.p) (fid:FuncId) (w:World) (h:cvI id = some V) (hP:On V.A V.B P) (hP2:On V.A V.B P2) (he:Kw Try.prog fid) (hc:∀ b f bd (w:World),(Item.blk b ⟨false,opL V f,129,(0,0)⟩).holds w→(Item.blk f ⟨false,fldL V.p bd,162,(0,0)⟩).holds w→(Item.blk bd ⟨false,dvL V.p,212,(0,0)⟩).holds w→Calls Try.prog fid ([.agg ([.pointer (some ⟨b,0,none⟩)]:List Value).toArray,ptP P,ptP P2]:List Value).toArray w (fun e w'=>e = .returned (ptP R)∧Below w.heap.size w w')):Calls Try.prog 101 ([.int .i64 id,ptP P,ptP P2,.func (.func fid) #[] #[]]:List Value).toArray w (fun e w'=>e = .returned (.tuple #[ptP R,.int .i64 ((0:Nat):Int)])∧Below w.heap.size w w'):=by
  obtain ⟨hok,hid⟩:=cvI_ok h
  have hbb:=hok.bounds
  have hpW:V.p<W9:=w9_521 hbb.2.1
  have hnW:V.n<W9:=w9_521 hbb.2.2.2.2.2.2.1
  have hbl:=blen_w9 hnW
  have hnb:nby V.n≤72:=by (unfold nby; omega)
  refine Kj (N:=35) (rs:=[.cell 8 35,.tmp 9]) [] Try.func101 rfl Try.ntmps101 Try.results101 (Nb rfl) trivial rfl ?_
  show LCode _ _ _ ⟨_,_⟩ _
  refine KB (KA ?_)
  refine oS (mB (fun b5=>?_))
  refine oS (mB (fun b6=>?_))
  refine oS (mk (KS zr_35) (fun b8=>?_))
  refine oP (Kf (v:=.int .i64 ((0:Nat):Int)) rfl) ?_
  refine KC ?_
  refine KB (KA ?_)
  refine oM ?_
  refine oS (KAc (Post:=fun v its=>∃ b f bd,v = .pointer (some ⟨b,0,none⟩)∧its = [.blk b ⟨false,opL V f,129,(0,0)⟩,.blk f ⟨false,fldL V.p bd,162,(0,0)⟩,.blk bd ⟨false,dvL V.p,212,(0,0)⟩]) (first:=[]) rfl en_80 rfl (Nb rfl) (fun w1 hw hs=>(c_Open _ V w1 h).mono fun e w' ⟨b,f,bd,h1,h2,h3,h4,h5,h6,h7,h8⟩=>⟨_,_,⟨b,f,bd,rfl,rfl⟩,h1,KAf h8 (by intro x hx; simp at hx; rcases hx with rfl|rfl|rfl; exact h2; exact h3; exact h4) (by intro x hx; simp at hx; rcases hx with rfl|rfl|rfl <;> rfl) (by intro x hx k hk; simp at hx; rcases hx with rfl|rfl|rfl <;> simp [Item.fp] at hk <;> subst hk; exact .inl h5; exact .inl h6; exact .inl h7)⟩) ?_)
  rintro _ _ ⟨b,f,bd,rfl,rfl⟩
  refine oA ?_
  refine KC ?_
  refine KB ?_
  refine LCode.block ?_
  refine KB (KA ?_)
  refine oM ?_
  refine oP (KK (Det.eqp Try.underlying110 rfl rfl) (show _ = Value.bool false from rfl)) ?_
  refine oA ?_
  refine KC ?_
  refine KW rfl ?_
  refine KB (KA ?_)
  refine oM ?_
  refine oD (dL rfl (hv:=by exact KG Try.underlying35 rfl sz_35)) ?_
  refine oS (cF rfl en_81 rfl (fun w hw=>c_cOnP V b f bd hok (P) w (mC hw) (mC hw) (mC hw) hP) ?_)
  refine oP (KK (Det.not rfl) (show _ = Value.bool false from rfl)) ?_
  refine oM ?_
  refine oGM ?_
  refine KAC rfl rfl (dL rfl (hv:=by exact KG Try.underlying35 rfl sz_35)) (Nb rfl) ?_
  refine oGS (cF rfl en_81 rfl (fun w hw=>c_cOnP V b f bd hok (P2) w (mC hw) (mC hw) (mC hw) hP2) ?_)
  refine oGP (KK (Det.not rfl) (show _ = Value.bool false from rfl)) ?_
  refine oP (Kt rfl rfl) ?_
  refine oA ?_
  refine KC ?_
  refine KW rfl ?_
  refine KU ?_
  refine KB (KA ?_)
  refine oM ?_
  refine oM ?_
  refine oP (KK (KAD pl_148 zr_148 rfl rfl) (show _ = Value.agg ([.pointer (some ⟨b,0,none⟩)]:List Value).toArray from rfl)) ?_
  refine oD (dL rfl (hv:=by exact KG Try.underlying35 rfl sz_35)) ?_
  refine oD (dL rfl (hv:=by exact KG Try.underlying35 rfl sz_35)) ?_
  refine oS (cF rfl he rfl (fun w hw=>hc b f bd w (mC hw) (mC hw) (mC hw)) ?_)
  refine KT rfl (sA rfl rfl sz_35 (by repeat (first|exact Ka _|exact Kl _ _ _|exact Kc _|exact Kb _ _ _|exact Km _ _ _|exact KP|refine KL rfl ?_|refine KQ ?_ ?_)) (hl:=by first|exact KD _|exact KI _ _ _|exact KF _|exact KJ _ _ _|exact KX _ _ _|rfl|simp [KI,KD,KF]) (h:=?_))
  refine oP (Kf (v:=.int .i64 ((0:Nat):Int)) rfl) ?_
  refine KC (KO ?_)
  refine ⟨[_,_],.cons ⟨_,_,_,rfl,(by repeat (first|exact Mh _|apply Mt)),by exact KG Try.underlying35 rfl sz_35⟩ (.cons rfl .nil),fun a w' hr=>⟨?_,hr.fr.below⟩⟩
  rfl
theorem c_affAdd (id:Int) (V:Cv) (P P2 R:Pt V.p) (w:World) (h:cvI id = some V) (hP:On V.A V.B P) (hP2:On V.A V.B P2) (hR:padd V.A P P2 = R):Calls Try.prog 62 ([.int .i64 id,ptP P,ptP P2]:List Value).toArray w (fun e w'=>e = .returned (.tuple #[ptP R,.int .i64 ((0:Nat):Int)])∧Below w.heap.size w w'):=by
  obtain ⟨hok,hid⟩:=cvI_ok h
  refine Kj (N:=14) (rs:=[.cell 6 35,.tmp 7]) [] Try.func62 rfl Try.ntmps62 Try.results62 (Nb rfl) trivial rfl ?_
  show LCode _ _ _ ⟨_,_⟩ _
  refine KB (KA ?_)
  refine oS (mB (fun b4=>?_))
  refine oS (mB (fun b5=>?_))
  refine oS (mk (KS zr_35) (fun b6=>?_))
  refine oP (Kf (v:=.int .i64 ((0:Nat):Int)) rfl) ?_
  refine KC ?_
  refine KB (KA ?_)
  refine oM ?_
  refine oD (dL rfl (hv:=by exact KG Try.underlying35 rfl sz_35)) ?_
  refine oD (dL rfl (hv:=by exact KG Try.underlying35 rfl sz_35)) ?_
  refine oS (cF rfl en_101 rfl (fun w hw=>c_do_ok id V P P2 R 102 w h hP hP2 en_102 (fun b f bd w h1 h2 h3=>c_gadd V b f bd hok P P2 R w h1 h2 h3 hP hP2 hR)) ?_)
  refine oP (KN rfl rfl) ?_
  refine oP (KN rfl rfl) ?_
  refine KT rfl (sA rfl rfl sz_35 (by repeat (first|exact Ka _|exact Kl _ _ _|exact Kc _|exact Kb _ _ _|exact Km _ _ _|exact KP|refine KL rfl ?_|refine KQ ?_ ?_)) (hl:=by first|exact KD _|exact KI _ _ _|exact KF _|exact KJ _ _ _|exact KX _ _ _|rfl|simp [KI,KD,KF]) (h:=?_))
  refine oA ?_
  refine KC (KO ?_)
  refine ⟨[_,_],.cons ⟨_,_,_,rfl,(by repeat (first|exact Mh _|apply Mt)),by exact KG Try.underlying35 rfl sz_35⟩ (.cons rfl .nil),fun a w' hr=>⟨?_,hr.fr.below⟩⟩
  rfl
theorem c_affNeg (id:Int) (V:Cv) (P:Pt V.p) (w:World) (h:cvI id = some V) (hP:On V.A V.B P):Calls Try.prog 69 ([.int .i64 id,ptP P]:List Value).toArray w (fun e w'=>e = .returned (.tuple #[ptP P.neg,.int .i64 ((0:Nat):Int)])∧Below w.heap.size w w'):=by
  obtain ⟨hok,hid⟩:=cvI_ok h
  refine Kj (N:=12) (rs:=[.cell 4 35,.tmp 5]) [] Try.func69 rfl Try.ntmps69 Try.results69 (Nb rfl) trivial rfl ?_
  show LCode _ _ _ ⟨_,_⟩ _
  refine KB (KA ?_)
  refine oS (mB (fun b3=>?_))
  refine oS (mk (KS zr_35) (fun b4=>?_))
  refine oP (Kf (v:=.int .i64 ((0:Nat):Int)) rfl) ?_
  refine KC ?_
  refine KB (KA ?_)
  refine oM ?_
  refine oD (dL rfl (hv:=by exact KG Try.underlying35 rfl sz_35)) ?_
  refine oD (dL rfl (hv:=by exact KG Try.underlying35 rfl sz_35)) ?_
  refine oS (cF rfl en_101 rfl (fun w hw=>c_do_ok id V P P P.neg 107 w h hP hP en_107 (fun b f bd w h1 h2 h3=>c_gneg V b f bd hok P _ _ _ w h1 h2 h3)) ?_)
  refine oP (KN rfl rfl) ?_
  refine oP (KN rfl rfl) ?_
  refine KT rfl (sA rfl rfl sz_35 (by repeat (first|exact Ka _|exact Kl _ _ _|exact Kc _|exact Kb _ _ _|exact Km _ _ _|exact KP|refine KL rfl ?_|refine KQ ?_ ?_)) (hl:=by first|exact KD _|exact KI _ _ _|exact KF _|exact KJ _ _ _|exact KX _ _ _|rfl|simp [KI,KD,KF]) (h:=?_))
  refine oA ?_
  refine KC (KO ?_)
  refine ⟨[_,_],.cons ⟨_,_,_,rfl,(by repeat (first|exact Mh _|apply Mt)),by exact KG Try.underlying35 rfl sz_35⟩ (.cons rfl .nil),fun a w' hr=>⟨?_,hr.fr.below⟩⟩
  rfl
end Go.Proofs.Ytlmiolnccgjjjaa
set_option linter.unusedVariables false
set_option linter.unusedSimpArgs false
set_option maxRecDepth 20000
namespace Go.Proofs.Ytlmiolnccgjjjaa
open Go Go.RowKit
open Grp
def ptPL {p:Nat} (P:Pt p):List Value:=ptL (xv P) (yv P) (iv P)
theorem ptPL_length {p:Nat} (P:Pt p):(ptPL P).length = 19:=KJ _ _ _
theorem ptPL_one {p:Nat} (P:Pt p):AllOne (ptPL P):=Kb _ _ _
def tabL {p:Nat} (E:Nat→Pt p):Nat→List Value
  | 0=>[]
  | n+1=>tabL E n++ptPL (E n)
theorem tabL_length {p:Nat} (E:Nat→Pt p):∀ n,(tabL E n).length = n*19
  | 0=>rfl
  | n+1=>by show (tabL E n++ptPL (E n)).length = _; rw [List.length_append,tabL_length E n,ptPL_length]; omega
theorem tabL_at {p:Nat} (E:Nat→Pt p) {k:Nat}:∀ {n},k<n→∃ post,tabL E n = tabL E k++(ptPL (E k)++post)
  | 0,h=>by omega
  | n+1,h=>by
    by_cases e:k = n
    · subst e; exact ⟨[],by rw [List.append_nil]; rfl⟩
    · obtain ⟨post,hp⟩:=tabL_at E (show k<n by omega)
      exact ⟨post++ptPL (E n),by show tabL E n++ptPL (E n) = _; rw [hp]; simp only [List.append_assoc]⟩
theorem tab_load {p:Nat} {wr:Bool} {e:TypeId} {fz:Nat×Nat} (E:Nat→Pt p) {k n:Nat} (h:k<n) (rest:List Value):LoadV Try.prog 35 ⟨wr,tabL E n++rest,e,fz⟩ (0+k*19) (ptP (E k)):=by
  obtain ⟨post,hp⟩:=tabL_at E h
  exact LoadV.mid (pre:=tabL E k) (cs:=ptPL (E k)) (post:=post++rest) Try.underlying35 rfl sz_35 (by show tabL E n++rest = _; rw [hp]; simp only [List.append_assoc]) (by rw [tabL_length]; omega) (ptPL_length _)
theorem inf_pt:infOf Try.prog 35 = some (.agg (vec .u64 9 (fun _=>0)++(vec .u64 9 (fun _=>0)++[Value.bool false]):List Value).toArray,19,152):=by kernel_rfl
theorem fill_ptR {p:Nat} (P:Pt p):fillL ((List.range 1).map fun i=>(i*19,19)) (vec .u64 9 (fun _=>0)++(vec .u64 9 (fun _=>0)++[Value.bool false])) [(0,.agg (ptPL P).toArray)] = some (ptPL P):=fillL_whole (by simp [KI]) (ptPL_length P)
theorem row_pt:((Array.range (1*19)).map fun i=>(Value.agg (vec .u64 9 (fun _=>0)++(vec .u64 9 (fun _=>0)++[Value.bool false]):List Value).toArray).cells[i%(Value.agg (vec .u64 9 (fun _=>0)++(vec .u64 9 (fun _=>0)++[Value.bool false]):List Value).toArray).cells.size]!) = (vec .u64 9 (fun _=>0)++(vec .u64 9 (fun _=>0)++[Value.bool false]):List Value).toArray:=by kernel_rfl
noncomputable abbrev mulE (V:Cv) (P:Pt V.p):Nat→Pt V.p:=fun j=>pmul V.A P j
structure TabS (p:Nat) where
  k:Nat
  T:Fin p×Fin p×Fin p
  br:Nat
  cap:Nat
  rest:List Value
theorem Brings.two {w w':World} {b c:Nat} {B D:Blk} (hb:Below w.heap.size w w') (h1:(Item.blk b B).holds w') (h2:(Item.blk c D).holds w') (n1:w.heap.size≤b) (n2:w.heap.size≤c) (hne:c≠b):Brings w [] [.blk b B,.blk c D] w':=by
  have key:∀ x,x∈[Item.blk b B,.blk c D]→∀ k,k∈x.fp→w.heap.size≤k:=fun x hx k hk=>by
    rcases List.mem_cons.1 hx with rfl|hx
    · obtain rfl:k = b:=by simpa [Item.fp] using hk
      exact n1
    · obtain rfl:x = _:=by simpa using hx
      obtain rfl:k = c:=by simpa [Item.fp] using hk
      exact n2
  refine ⟨hb,fun x hx=>?_,fun x hx k hk=>.inl (key x hx k hk),fun x hx _=>key x hx,List.pairwise_cons.2 ⟨fun y hy _ k hk hk'=>?_,List.pairwise_singleton _ _⟩⟩
  · rcases List.mem_cons.1 hx with rfl|hx
    · exact h1
    · obtain rfl:x = _:=by simpa using hx
      exact h2
  · obtain rfl:y = _:=by simpa using hy
    obtain rfl:k = b:=by simpa [Item.fp] using hk
    exact hne (by simpa [Item.fp] using hk':k = c).symm
theorem bringsC {P:Program} {f:FuncId} {a:Array Value} {w:World} {Q:Value→List Item→Prop} (h:Calls P f a w (fun e w'=>∃ v its,Q v its∧e = .returned v∧Brings w [] its w')) (H:List Item):Calls P f a w (fun e w'=>∃ v its,Q v its∧e = .returned v∧Brings w H its w') :=
  h.mono fun e w' ⟨v,its,h1,h2,h3⟩=>⟨v,its,h1,h2,h3.more (fun x hx=>by cases hx)⟩
theorem c_tabOf (V:Cv) (b f bd:Nat) (hok:V.Ok) (P:Pt V.p) (hP:On V.A V.B P) (n:Nat) (hn0:1≤n) (hn:n≤16) (w:World) (hb:(Item.blk b ⟨false,opL V f,129,(0,0)⟩).holds w) (hf:(Item.blk f ⟨false,fldL V.p bd,162,(0,0)⟩).holds w) (hbd:(Item.blk bd ⟨false,dvL V.p,212,(0,0)⟩).holds w):Calls Try.prog 82 ([.pointer (some ⟨b,0,none⟩),ptP P,.int .i64 ((n:Nat):Int)]:List Value).toArray w (fun e w'=>∃ v its,(fun v its=>∃ bt br cap rest,v = .pointer (some ⟨bt,0,none⟩)∧its = [.blk bt ⟨true,[.slice (some ⟨br,0,none⟩) n cap],116,(0,0)⟩,.blk br ⟨true,tabL (mulE V P) n++rest,35,(0,0)⟩]) v its∧e = .returned v∧Brings w [] its w'):=by
  refine Kj (N:=36) (rs:=[.tmp 6]) [.blk b ⟨false,opL V f,129,(0,0)⟩,.blk f ⟨false,fldL V.p bd,162,(0,0)⟩,.blk bd ⟨false,dvL V.p,212,(0,0)⟩] Try.func82 rfl Try.ntmps82 Try.results82 (Nb rfl) ⟨hb,hf,hbd,trivial⟩ rfl ?_
  show LCode _ _ _ ⟨_,_⟩ _
  refine KB (KA ?_)
  refine oS (mB (fun b4=>?_))
  refine oA ?_
  refine KC ?_
  refine KB (KA ?_)
  refine oP (KAD pl_116 zr_116 rfl rfl) ?_
  refine oS (mB (fun b11=>?_))
  refine oA ?_
  refine KC ?_
  refine KB (KA ?_)
  refine oD (dL rfl (hv:=by exact KG Try.underlying35 rfl sz_35)) ?_
  refine oS (cF rfl en_122 rfl (fun w hw=>c_Triple V hok P w) ?_)
  refine oS (cF rfl en_123 rfl (fun w hw=>c_NoneF hok w) ?_)
  refine oS (mk (KS zr_172) (fun b8=>?_))
  refine oS (mk (KS zr_172) (fun b9=>?_))
  refine KT rfl (sA rfl rfl sz_172 (by exact pjFL_one _) (hl:=by exact pjFL_length _) (h:=?_))
  refine KT rfl (sA rfl rfl sz_172 (by exact pjFL_one _) (hl:=by exact pjFL_length _) (h:=?_))
  refine KC ?_
  refine KB ?_
  refine KB (KA ?_)
  refine oM ?_
  refine oP (KAE (v:=.int .i64 ((0:Nat):Int)) rfl) ?_
  refine KC ?_
  refine LCode.block ?_
  refine Ku (α:=Option (TabS V.p)) (fun x=>match x with|none=>True|some y=>1≤y.k∧y.k≤n∧RepT V y.T (pmul V.A P y.k)∧(tabL (mulE V P) y.k).length+y.rest.length = y.cap*19) (fun x=>match x with|none=>⟨[(0,.pointer (some ⟨b,0,none⟩)),(7,.pointer (some ⟨b11,0,none⟩)),(8,.pointer (some ⟨b8,0,none⟩)),(9,.pointer (some ⟨b9,0,none⟩)),(15,.int .i64 ((n:Nat):Int)),(16,.int .i64 ((0:Nat):Int))],[.blk b11 ⟨true,[.slice none 0 0],116,(0,0)⟩,.blk b9 ⟨true,pjFL (tripF (.inf:Pt V.p)),172,(0,0)⟩,.blk b8 ⟨true,pjFL (tripF P),172,(0,0)⟩,.blk b ⟨false,opL V f,129,(0,0)⟩,.blk f ⟨false,fldL V.p bd,162,(0,0)⟩,.blk bd ⟨false,dvL V.p,212,(0,0)⟩]⟩|some y=>⟨[(0,.pointer (some ⟨b,0,none⟩)),(7,.pointer (some ⟨b11,0,none⟩)),(8,.pointer (some ⟨b8,0,none⟩)),(9,.pointer (some ⟨b9,0,none⟩)),(15,.int .i64 ((n:Nat):Int)),(16,.int .i64 ((y.k:Nat):Int))],[.blk b11 ⟨true,[.slice (some ⟨y.br,0,none⟩) y.k y.cap],116,(0,0)⟩,.blk y.br ⟨true,tabL (mulE V P) y.k++y.rest,35,(0,0)⟩,.blk b9 ⟨true,pjFL y.T,172,(0,0)⟩,.blk b8 ⟨true,pjFL (tripF P),172,(0,0)⟩,.blk b ⟨false,opL V f,129,(0,0)⟩,.blk f ⟨false,fldL V.p bd,162,(0,0)⟩,.blk bd ⟨false,dvL V.p,212,(0,0)⟩]⟩) (fun x=>match x with|none=>n+1|some y=>n-y.k) (none) (trivial) (Kq ⟨rfl,rfl,rfl,rfl,rfl,rfl,trivial⟩ (by repeat (first|exact Sel.nil _|refine Sel.cons (by repeat (first|exact Ph _|apply Pt_)) ?_))) ?_
  intro x hx
  refine KB ?_
  rcases x with _|⟨k,T,br,cap,rest⟩
  ·
    refine KA ?_
    refine oP (KH (v:=.bool true) rfl rfl (br_t KAe (by omega))) ?_
    refine KC ?_
    refine KB ?_
    refine Ki rfl ?_
    refine KU ?_
    refine KB ?_
    refine LCode.block ?_
    refine KB ?_
    refine rD [9,12] ?_
    refine aM 0 ?_
    refine aM 1 ?_
    refine aP 2 rfl (KR rfl) ?_
    refine aP 3 rfl (KE (o':=0) Try.underlying116 rfl rfl rfl sz_114 (by decide)) ?_
    refine aD 4 rfl (dL rfl (hv:=KM Try.underlying114 rfl (by first|rfl|exact Kg _ _ _ (by omega)|exact Ke _ (by omega)|exact Kd _ (by omega)|exact dv_m _ _ _ (by omega)))) ?_
    refine aM 5 ?_
    refine aO 6 rfl (LStep.det (dL rfl (hv:=by exact KG Try.underlying172 rfl sz_172)) (Nb rfl) ?_)
    refine aO 7 rfl (cF rfl en_124 rfl (fun w hw=>c_PlainT V b f bd hok (tripF (.inf:Pt V.p)) (mulE V P 0) w (mC hw) (mC hw) (mC hw) (RepT.trip hok trivial)) ?_)
    refine aO 8 rfl (mk (Makes.row (vs:=[(0,.agg (ptPL (mulE V P 0)).toArray)]) Try.underlying114 inf_pt (by decide) row_pt rfl (fill_ptR (mulE V P 0)) (fun h=>by cases h)) (fun b26=>?_))
    refine aL 9 rfl (LStepW.appendNilS (s:=19) (news:=ptPL (mulE V P 0)) rfl rfl Try.underlying114 inf_pt rfl (by repeat (first|exact Mh _|apply Mt)) (ptPL_length _) (by decide) (by decide) (by decide) (Nb rfl) ?_)
    intro b1 cap1 rest1 hc1
    refine aP 10 rfl (KR rfl) ?_
    refine aP 11 rfl (KE (o':=0) Try.underlying116 rfl rfl rfl sz_114 (by decide)) ?_
    refine aL 12 rfl (Kn rfl rfl rfl sz_114 (by repeat (first|exact Sh _|apply St_)) (by first|(simp only [KI,KD,KF,Kv]; omega)|(simp; done)|(simp; omega)) (by first|exact KAM _ _ _ _ _|exact KAO _ _ _ _ (by omega)|exact KAN _ _ _ _|rfl) (by simp) ?_)
    refine aE ?_
    refine KA ?_
    refine oM ?_
    refine oD (dL rfl (hv:=by exact KG Try.underlying172 rfl sz_172)) ?_
    refine oD (dL rfl (hv:=by exact KG Try.underlying172 rfl sz_172)) ?_
    refine oS (cF rfl en_125 rfl (fun w hw=>c_SumT V b f bd hok (tripF (.inf:Pt V.p)) (tripF P) w (mC hw) (mC hw) (mC hw)) ?_)
    refine KT rfl (sA rfl rfl sz_172 (by exact pjFL_one _) (hl:=by exact pjFL_length _) (h:=?_))
    refine KC ?_
    refine KA ?_
    refine oP (KH rfl rfl (Kx (b:=1) (by omega))) ?_
    refine oM ?_
    refine KC ?_
    exact ⟨some ⟨0+1,sumT V (tripF (.inf:Pt V.p)) (tripF P),b1,cap1,rest1⟩,⟨Nat.le_add_left _ _,by show 0+1≤n; omega,RepT.sum hok (RepT.trip hok trivial) (RepT.trip hok hP),by rw [ptPL_length] at hc1; show (tabL (mulE V P) (0+1)).length+rest1.length = cap1*19; rw [tabL_length]; omega⟩,by show n-(0+1)<n+1; omega,KAR (Sub.cells (b:=b1) (cs':=tabL (mulE V P) (0+1)++rest1) (by repeat (first|exact Sh _|apply St_)) (by rfl)) (Kq ⟨rfl,rfl,rfl,rfl,rfl,rfl,trivial⟩ (by repeat (first|exact Sel.nil _|refine Sel.cons (by repeat (first|exact Ph _|apply Pt_)) ?_)))⟩
  ·
    obtain ⟨hk1,hkn,hT,hcap⟩:=hx
    dsimp only at hk1 hkn hT hcap
    refine KA ?_
    refine oP (KH rfl rfl (KAe)) ?_
    refine KC ?_
    refine KB ?_
    first|refine KV rfl (fun h17=>?_) (fun h17=>?_)|refine KY rfl (fun h17=>?_) (fun h17=>?_)
    ·
      have h17:k<n:=h17
      refine KU ?_
      refine KB ?_
      refine LCode.block ?_
      refine KB ?_
      refine rD [9,12] ?_
      refine aM 0 ?_
      refine aM 1 ?_
      refine aP 2 rfl (KR rfl) ?_
      refine aP 3 rfl (KE (o':=0) Try.underlying116 rfl rfl rfl sz_114 (by decide)) ?_
      refine aD 4 rfl (dL rfl (hv:=KM Try.underlying114 rfl (by first|rfl|exact Kg _ _ _ (by omega)|exact Ke _ (by omega)|exact Kd _ (by omega)|exact dv_m _ _ _ (by omega)))) ?_
      refine aM 5 ?_
      refine aO 6 rfl (LStep.det (dL rfl (hv:=by exact KG Try.underlying172 rfl sz_172)) (Nb rfl) ?_)
      refine aO 7 rfl (cF rfl en_124 rfl (fun w hw=>c_PlainT V b f bd hok (T) (mulE V P k) w (mC hw) (mC hw) (mC hw) (hT)) ?_)
      refine aO 8 rfl (mk (Makes.row (vs:=[(0,.agg (ptPL (mulE V P k)).toArray)]) Try.underlying114 inf_pt (by decide) row_pt rfl (fill_ptR (mulE V P k)) (fun h=>by cases h)) (fun b26=>?_))
      refine aL 9 rfl (LStepW.appendS (s:=19) (m:=1) (xs:=tabL (mulE V P) k) (rest:=rest) (news:=ptPL (mulE V P k)) rfl rfl Try.underlying114 inf_pt rfl (by repeat (first|exact Pick.head _|apply Pick.tail)) (by repeat (first|exact Mh _|apply Mt)) (tabL_length _ _) hcap (ptPL_length _) (ptPL_one _) (by omega) (by omega) (Nb rfl) ?_)
      intro b1 cap1 rest1 hc1
      refine aP 10 rfl (KR rfl) ?_
      refine aP 11 rfl (KE (o':=0) Try.underlying116 rfl rfl rfl sz_114 (by decide)) ?_
      refine aL 12 rfl (Kn rfl rfl rfl sz_114 (by repeat (first|exact Sh _|apply St_)) (by first|(simp only [KI,KD,KF,Kv]; omega)|(simp; done)|(simp; omega)) (by first|exact KAM _ _ _ _ _|exact KAO _ _ _ _ (by omega)|exact KAN _ _ _ _|rfl) (by simp) ?_)
      refine aE ?_
      refine KA ?_
      refine oM ?_
      refine oD (dL rfl (hv:=by exact KG Try.underlying172 rfl sz_172)) ?_
      refine oD (dL rfl (hv:=by exact KG Try.underlying172 rfl sz_172)) ?_
      refine oS (cF rfl en_125 rfl (fun w hw=>c_SumT V b f bd hok (T) (tripF P) w (mC hw) (mC hw) (mC hw)) ?_)
      refine KT rfl (sA rfl rfl sz_172 (by exact pjFL_one _) (hl:=by exact pjFL_length _) (h:=?_))
      refine KC ?_
      refine KA ?_
      refine oP (KH rfl rfl (Kx (b:=1) (by omega))) ?_
      refine oM ?_
      refine KC ?_
      exact ⟨some ⟨k+1,sumT V T (tripF P),b1,cap1,rest1⟩,⟨Nat.le_add_left _ _,by show k+1≤n; omega,RepT.sum hok hT (RepT.trip hok hP),by rw [tabL_length,ptPL_length] at hc1; show (tabL (mulE V P) (k+1)).length+rest1.length = cap1*19; rw [tabL_length]; omega⟩,by show n-(k+1)<n-k; omega,KAR (Sub.cells (b:=b1) (cs':=tabL (mulE V P) (k+1)++rest1) (by repeat (first|exact Sh _|apply St_)) (by rfl)) (Kq ⟨rfl,rfl,rfl,rfl,rfl,rfl,trivial⟩ (by repeat (first|exact Sel.nil _|refine Sel.cons (by repeat (first|exact Ph _|apply Pt_)) ?_)))⟩
    ·
      have h17:¬ k<n:=h17
      refine Ks ?_
      refine KB (KA ?_)
      refine oM ?_
      refine oA ?_
      refine KC (KO ?_)
      obtain rfl:k = n:=by omega
      exact ⟨[_],.cons rfl .nil,fun a w' hr=>⟨_,_,⟨b11,br,cap,rest,rfl,rfl⟩,rfl,Brings.two hr.fr.below (hr.hp (.blk b11 ⟨true,_,_,_⟩) (by repeat (first|exact Mh _|apply Mt))) (hr.hp (.blk br ⟨true,_,_,_⟩) (by repeat (first|exact Mh _|apply Mt))) (hr.new (b:=b11) (B:=⟨true,_,_,_⟩) (by repeat (first|exact Mh _|apply Mt)) rfl) (hr.new (b:=br) (B:=⟨true,_,_,_⟩) (by repeat (first|exact Mh _|apply Mt)) rfl) (apart_two hr.dist (b:=b11) (B:=⟨true,_,116,_⟩) (c:=br) (D:=⟨true,_,35,_⟩) (by repeat (first|exact Mh _|apply Mt)) (by repeat (first|exact Mh _|apply Mt)) rfl (fun e=>absurd (show (116:Nat) = 35 from e) (by decide)))⟩⟩
def pk (i A:Nat):Nat→Nat
  | 0=>0
  | k+1=>if k = i then A else pk i A k
theorem pk_low {i A:Nat}:∀ {k},k≤i→pk i A k = 0
  | 0,_=>rfl
  | k+1,h=>by
    show (if k = i then A else pk i A k) = 0
    rw [if_neg (by omega)]; exact pk_low (by omega)
theorem pk_last {i A:Nat}:∀ {k},i<k→pk i A k = A
  | 0,h=>by omega
  | k+1,h=>by
    show (if k = i then A else pk i A k) = A
    by_cases e:k = i
    · rw [if_pos e]
    · rw [if_neg e]; exact pk_last (by omega)
theorem pk_m (i k:Nat):(if k = i then 18446744073709551615 else 0) = 0∨(if k = i then 18446744073709551615 else 0) = 18446744073709551615:=by
  by_cases e:k = i
  · exact .inr (if_pos e)
  · exact .inl (if_neg e)
theorem pk_next (F:Nat→Nat) (i k:Nat):pk i (F i) (k+1) = if (if k = i then 18446744073709551615 else 0) = 0 then pk i (F i) k else F k:=by
  show (if k = i then F i else pk i (F i) k) = _
  by_cases e:k = i
  · rw [if_pos e,if_pos e,if_neg (by decide),e]
  · rw [if_neg e,if_neg e,if_pos rfl]
theorem pk_or {i A z k:Nat} (hz:k = i→z = A) (h1:z≤1):pk i A k ||| (z &&& if k = i then 18446744073709551615 else 0) = pk i A (k+1):=by
  show _ = (if k = i then A else pk i A k)
  by_cases e:k = i
  · rw [if_pos e,if_pos e,pk_low (by omega),Nat.zero_or,and_max (by omega)]; exact hz e
  · rw [if_neg e,if_neg e,Nat.and_zero,Nat.or_zero]
theorem pk_lt {i A:Nat} (h:A≤1):∀ k,pk i A k≤1
  | 0=>Nat.zero_le _
  | k+1=>by
    show (if k = i then A else pk i A k)≤1
    split
    · exact h
    · exact pk_lt h k
def ib {p:Nat} (P:Pt p):Nat:=if iv P = true then 1 else 0
theorem ib_le {p:Nat} (P:Pt p):ib P≤1:=by unfold ib; split <;> omega
theorem ib_eq {p:Nat} (P:Pt p):decide (ib P = 1) = iv P:=by unfold ib; cases iv P <;> rfl
section
variable {P:Program} {C:Ctx} {d:Option Tmp} {ty:TypeId} {pos:String} {aft:Array Edge} {g:Option (Nat×Bool)} {st:St} {x y:Operand} {t e:TypeId}
theorem Det.indexSN {s i : Nat} {k : IntKind} {b o l c : Nat} (ht : P.underlying t = some (.slice e)) (he : szOf P e = some s) (hx : evT st.T x = some (.slice (some ⟨b, o, none⟩) l c)) (hy : evT st.T y = some (.int k (i : Int))) (h1 : i < l) :
    Slots P C ⟨d,.indexAddr t x y,ty,pos,aft,g⟩ st (.pointer (some ⟨b,o+i*s,none⟩)):=by
  have:=Det.indexSl (P:=P) (C:=C) (d:=d) (ty:=ty) (pos:=pos) (aft:=aft) (g:=g) (st:=st) ht he hx hy (by omega) (by omega)
  rwa [Int.toNat_natCast] at this
end
theorem pt_zeroK (i A B:Nat):(vec .u64 9 (fun _=>0)++(vec .u64 9 (fun _=>0)++[Value.bool false]):List Value) = ptL (pk i A 0) (pk i B 0) false:=by
  show _ = ptL 0 0 false
  unfold ptL natL; rw [vec_zeros 9]
theorem pt_set0 (X Y X':Nat) (i:Bool):splice (ptL X Y i) 0 (natL X') = ptL X' Y i:=splice_mid (A:=[]) (B:=natL X) (D:=natL Y++[.bool i]) (by simp [ptL]) rfl (by rw [KD,KD]) (by simp [ptL])
theorem pt_set2 (X Y:Nat) (i j:Bool):(ptL X Y i).set 18 (.bool j) = ptL X Y j:=by
  unfold ptL
  rw [List.set_append_right _ _ (by rw [KD]; decide),KD,List.set_append_right _ _ (by rw [KD]; decide),KD]; rfl
theorem c_tabPick (b:Option Nat) (r:TrRow) (l:List Nat) (bt br cap:Nat) (rest:List Value) {wr1 wr2:Bool} (V:Cv) (hok:V.Ok) (E:Nat→Pt V.p) (n i:Nat) (hi:i<n) (hn:n≤16) (w:World) (h0:(trI b r l).holds w) (h1:(Item.blk bt ⟨wr1,[.slice (some ⟨br,0,none⟩) n cap],116,(0,0)⟩).holds w) (h2:(Item.blk br ⟨wr2,tabL (E) n++rest,35,(0,0)⟩).holds w) (n1:Out b r (Item.blk bt ⟨wr1,[.slice (some ⟨br,0,none⟩) n cap],116,(0,0)⟩)) (n2:Out b r (Item.blk br ⟨wr2,tabL (E) n++rest,35,(0,0)⟩)) (hl:l.length≤90000000):Calls Try.prog 34 ([.pointer (some ⟨bt,0,none⟩),trV b,.int .i64 ((i:Nat):Int)]:List Value).toArray w (fun e w'=>TrR w b r (l++List.range n) (.tuple #[ptP (E i),.int .i64 ((0:Nat):Int)]) e w'):=by
  refine calls_tr (N:=75) (rs:=[.cell 6 35,.tmp 7]) b r l [.blk bt ⟨false,[.slice (some ⟨br,0,none⟩) n cap],116,(0,0)⟩,.blk br ⟨false,tabL (E) n++rest,35,(0,0)⟩] Try.func34 rfl Try.ntmps34 Try.results34 (Nb rfl) h0 ⟨h1,h2,trivial⟩ rfl ⟨n1,n2,trivial⟩ ?_
  show LCode _ _ _ ⟨_,_⟩ _
  refine KB (KA ?_)
  refine oS (mk (KS zr_35) (fun b6=>?_))
  refine oP (Kf (v:=.int .i64 ((0:Nat):Int)) rfl) ?_
  refine KC ?_
  refine KB ?_
  refine LCode.block ?_
  refine KB (KA ?_)
  refine oM ?_
  refine oP (KK (Det.eqp Try.underlying40 rfl rfl) (show _ = Value.bool false from rfl)) ?_
  refine oA ?_
  refine KC ?_
  refine KW rfl ?_
  refine KB (KA ?_)
  refine oM ?_
  refine oP (KH (v:=.bool false) rfl rfl (br_f (KAe (b:=0)) (Nat.not_lt_zero _))) ?_
  refine oM ?_
  refine oGM ?_
  refine oGM ?_
  refine oGP (KR rfl) ?_
  refine oGP (KE (o':=0) Try.underlying116 rfl rfl rfl sz_114 (by decide)) ?_
  refine KAC rfl rfl (dL rfl (hv:=KM Try.underlying114 rfl (by first|rfl|exact Kg _ _ _ (by omega)|exact Ke _ (by omega)|exact Kd _ (by omega)|exact dv_m _ _ _ (by omega)))) (Nb rfl) ?_
  refine oGP (KAK Try.underlying114 rfl) ?_
  refine oGP (KH (v:=.bool false) rfl rfl (br_f br_geq (by omega))) ?_
  refine oP (Kt rfl rfl) ?_
  refine oA ?_
  refine KC ?_
  refine KW rfl ?_
  refine KU ?_
  refine KB (KA ?_)
  refine oS (mk (KS zr_35) (fun b8=>?_))
  refine KC ?_
  refine KB (KA ?_)
  refine oP (Kf (v:=.int .u64 ((0:Nat):Int)) rfl) ?_
  refine KC ?_
  refine KB ?_
  refine KB (KA ?_)
  refine oM ?_
  refine oP (KR rfl) ?_
  refine oP (KE (o':=0) Try.underlying116 rfl rfl rfl sz_114 (by decide)) ?_
  refine oD (dL rfl (hv:=KM Try.underlying114 rfl (by first|rfl|exact Kg _ _ _ (by omega)|exact Ke _ (by omega)|exact Kd _ (by omega)|exact dv_m _ _ _ (by omega)))) ?_
  refine oP (KAK Try.underlying114 rfl) ?_
  refine oP (KAE (v:=.int .i64 ((0:Nat):Int)) rfl) ?_
  refine KC ?_
  refine LCode.block ?_
  refine Ku (α:=Nat×TrRow) (fun x=>x.1≤n) (fun x=>⟨[(0,.pointer (some ⟨bt,0,none⟩)),(1,trV b),(2,.int .i64 ((i:Nat):Int)),(6,.pointer (some ⟨b6,0,none⟩)),(8,.pointer (some ⟨b8,0,none⟩)),(9,.int .u64 ((pk i (ib (E i)) x.1:Nat):Int)),(34,.slice (some ⟨br,0,none⟩) n cap),(35,.int .i64 ((n:Nat):Int)),(36,.int .i64 ((x.1:Nat):Int))],[trI b x.2 (l++List.range x.1),.blk b8 ⟨true,ptL (pk i (xv (E i)) x.1) (pk i (yv (E i)) x.1) false,35,(0,0)⟩,.blk b6 ⟨true,vec .u64 9 (fun _=>0)++(vec .u64 9 (fun _=>0)++[Value.bool false]),35,(0,0)⟩,.blk bt ⟨false,[.slice (some ⟨br,0,none⟩) n cap],116,(0,0)⟩,.blk br ⟨false,tabL (E) n++rest,35,(0,0)⟩]⟩) (fun x=>n-x.1) ((0,r)) (Nat.zero_le _) (KAR (Sub.cells (b:=b8) (cs':=ptL (pk i (xv (E i)) 0) (pk i (yv (E i)) 0) false) (by repeat (first|exact Sh _|apply St_)) (pt_zeroK _ _ _)) (by dsimp only [List.range_zero]; rw [List.append_nil]; exact Kq ⟨rfl,rfl,rfl,rfl,rfl,rfl,rfl,rfl,rfl,trivial⟩ (by repeat (first|exact Sel.nil _|refine Sel.cons (by repeat (first|exact Ph _|apply Pt_)) ?_)))) ?_
  intro x hx
  refine KB (KA ?_)
  refine oP (KH rfl rfl (KAe)) ?_
  refine KC ?_
  refine KB ?_
  first|refine KV rfl (fun h37=>?_) (fun h37=>?_)|refine KY rfl (fun h37=>?_) (fun h37=>?_)
  ·
    have h37:x.1<n:=h37
    refine KU ?_
    refine KB ?_
    refine LCode.block ?_
    refine KB (KA ?_)
    refine oM ?_
    refine oP (Det.indexSN Try.underlying114 sz_35 rfl rfl (by omega)) ?_
    refine oD (dL rfl (hv:=by exact tab_load E h37 rest)) ?_
    refine oS (mk (KS zr_35) (fun b11=>?_))
    refine oA ?_
    refine KT rfl (sA rfl rfl sz_35 (by exact Kb _ _ _) (hl:=by exact KJ _ _ _) (h:=?_))
    refine KC ?_
    refine KB (KA ?_)
    refine oM ?_
    refine oM ?_
    refine KT rfl (LStepW.callT (first:=[]) (r:=x.2) (l:=l++List.range x.1) (l':=l++List.range (x.1+1)) rfl en_83 rfl (Nb rfl) (by repeat (first|exact Pick.head _|apply Pick.tail)) (fun w hw hn=>by rw [List.range_succ,← List.append_assoc]; exact c_trIndex b x.2 _ x.1 w (mC hw) (by rw [List.length_append,List.length_range]; omega)) ?_)
    intro r1
    refine KC ?_
    refine KB (KA ?_)
    refine oM ?_
    refine oP (KAL Try.underlying3 Try.underlying30 rfl (by first|omega|exact Nat.lt_trans (D.limb_lt _ _) (by decide))) ?_
    refine oM ?_
    refine oP (KAL Try.underlying3 Try.underlying30 rfl (by first|omega|exact Nat.lt_trans (D.limb_lt _ _) (by decide))) ?_
    refine oS (cF rfl en_84 rfl (fun w hw=>c_mEqual x.1 i w (by omega) (by omega)) ?_)
    refine oA ?_
    refine KC ?_
    refine KB ?_
    refine rD [13,15] ?_
    refine aM 0 ?_
    refine aP 1 rfl (KE (o':=0) Try.underlying35 rfl rfl rfl sz_33 (by decide)) ?_
    refine aD 2 rfl (dL rfl (hv:=by exact KAA Try.underlying33 rfl sz_33 rfl (KD _))) ?_
    refine aP 3 rfl (KE (o':=0) Try.underlying35 rfl rfl rfl sz_33 (by decide)) ?_
    refine aD 4 rfl (dL rfl (hv:=by exact KAA Try.underlying33 rfl sz_33 rfl (KD _))) ?_
    refine aM 6 ?_
    refine aP 7 rfl (KE (o':=9) Try.underlying35 rfl rfl rfl sz_33 (by decide)) ?_
    refine aP 9 rfl (KE (o':=9) Try.underlying35 rfl rfl rfl sz_33 (by decide)) ?_
    refine aD 10 rfl (dL rfl (hv:=by exact pt_ld1 _ _ _ _ _ _)) ?_
    refine LAny.takeW [11,13,14,15] 8 rfl (by kernel_rfl) (Nb rfl) (dL rfl (hv:=by exact pt_ld1 _ _ _ _ _ _)) ?_
    refine aO 5 rfl (cF rfl en_85 rfl (fun w hw=>c_mSelect (if x.1 = i then 18446744073709551615 else 0) (xv (E x.1)) (pk i (xv (E i)) x.1) (pk i (xv (E i)) (x.1+1)) w (pk_m _ _) (pk_next (fun j=>xv (E j)) i x.1)) ?_)
    refine aP 12 rfl (KE (o':=0) Try.underlying35 rfl rfl rfl sz_33 (by decide)) ?_
    refine aO 11 rfl (cF rfl en_85 rfl (fun w hw=>c_mSelect (if x.1 = i then 18446744073709551615 else 0) (yv (E x.1)) (pk i (yv (E i)) x.1) (pk i (yv (E i)) (x.1+1)) w (pk_m _ _) (pk_next (fun j=>yv (E j)) i x.1)) ?_)
    refine aL 13 rfl (KAF rfl rfl rfl sz_33 (KD _) (Ka _) (by repeat (first|exact Sh _|apply St_)) (by simp only [KJ]; decide) (pt_set0 _ _ _ _) (by simp) ?_)
    refine aP 14 rfl (KE (o':=9) Try.underlying35 rfl rfl rfl sz_33 (by decide)) ?_
    refine aL 15 rfl (KAF rfl rfl rfl sz_33 (KD _) (Ka _) (by repeat (first|exact Sh _|apply St_)) (by simp only [KJ]; decide) (pt_set1 _ _ _ _) (by simp) ?_)
    refine aE ?_
    refine KB (KA ?_)
    refine oP (Kf (v:=.int .u64 ((0:Nat):Int)) rfl) ?_
    refine KC ?_
    refine KB ?_
    refine KB ?_
    cases hiv:iv (E x.1)
    ·
      refine KA ?_
      refine oP (KE (o':=18) Try.underlying35 rfl rfl rfl sz_4 (by decide)) ?_
      refine oD (dL rfl (hv:=KM Try.underlying4 rfl (by exact pt_gt _ _ _))) ?_
      refine KC ?_
      refine KW rfl ?_
      refine KU ?_
      refine KA ?_
      refine oM ?_
      refine oM ?_
      refine oM ?_
      refine oP (KH rfl rfl (KAd (a:=0) (b:=(if x.1 = i then 18446744073709551615 else 0)) (by decide) (by split <;> decide))) ?_
      refine oP (KK (KH rfl rfl (br_or64 (a:=pk i (ib (E i)) x.1) (b:=0 &&& (if x.1 = i then 18446744073709551615 else 0)) (Nat.lt_of_le_of_lt (pk_lt (ib_le _) _) (by decide)) (Nat.lt_of_le_of_lt Nat.and_le_left (by decide)))) (vi (b:=pk i (ib (E i)) (x.1+1)) (pk_or (fun e=>by rw [← e]; unfold ib; rw [hiv]; rfl) (by decide)))) ?_
      refine oA ?_
      refine KC ?_
      refine KA ?_
      refine oP (KH rfl rfl (Kx (b:=1) (by omega))) ?_
      refine oM ?_
      refine KC ?_
      exact ⟨(x.1+1,r1),by dsimp only; omega,by dsimp only; omega,Kq ⟨rfl,rfl,rfl,rfl,rfl,rfl,rfl,rfl,rfl,trivial⟩ (by repeat (first|exact Sel.nil _|refine Sel.cons (by repeat (first|exact Ph _|apply Pt_)) ?_))⟩
    ·
      refine KA ?_
      refine oP (KE (o':=18) Try.underlying35 rfl rfl rfl sz_4 (by decide)) ?_
      refine oD (dL rfl (hv:=KM Try.underlying4 rfl (by exact pt_gt _ _ _))) ?_
      refine KC ?_
      refine Ki rfl ?_
      refine KA ?_
      refine oP (Kf (v:=.int .u64 ((1:Nat):Int)) rfl) ?_
      refine KC ?_
      refine KA ?_
      refine oM ?_
      refine oM ?_
      refine oM ?_
      refine oP (KH rfl rfl (KAd (a:=1) (b:=(if x.1 = i then 18446744073709551615 else 0)) (by decide) (by split <;> decide))) ?_
      refine oP (KK (KH rfl rfl (br_or64 (a:=pk i (ib (E i)) x.1) (b:=1 &&& (if x.1 = i then 18446744073709551615 else 0)) (Nat.lt_of_le_of_lt (pk_lt (ib_le _) _) (by decide)) (Nat.lt_of_le_of_lt Nat.and_le_left (by decide)))) (vi (b:=pk i (ib (E i)) (x.1+1)) (pk_or (fun e=>by rw [← e]; unfold ib; rw [hiv]; rfl) (by decide)))) ?_
      refine oA ?_
      refine KC ?_
      refine KA ?_
      refine oP (KH rfl rfl (Kx (b:=1) (by omega))) ?_
      refine oM ?_
      refine KC ?_
      exact ⟨(x.1+1,r1),by dsimp only; omega,by dsimp only; omega,Kq ⟨rfl,rfl,rfl,rfl,rfl,rfl,rfl,rfl,rfl,trivial⟩ (by repeat (first|exact Sel.nil _|refine Sel.cons (by repeat (first|exact Ph _|apply Pt_)) ?_))⟩
  ·
    have h37:¬ x.1<n:=h37
    refine Ks ?_
    refine KB ?_
    have hx1n:x.1 = n:=by omega
    rw [hx1n,pk_last hi,pk_last hi,pk_last hi]
    refine KA ?_
    refine oM ?_
    refine oP (KK (KH rfl rfl (KAJ (b:=1))) (congrArg Value.bool (ib_eq (E i)))) ?_
    refine oP (KE (o':=18) Try.underlying35 rfl rfl rfl sz_4 (by decide)) ?_
    refine KT rfl (Kn rfl rfl rfl sz_4 (by repeat (first|exact Sh _|apply St_)) (by rw [KJ]; decide) (by exact pt_set2 _ _ _ _) (by simp) ?_)
    refine KC ?_
    refine KB (KA ?_)
    refine oD (dL rfl (hv:=by exact KG Try.underlying35 rfl sz_35)) ?_
    refine KT rfl (sA rfl rfl sz_35 (by exact Kb _ _ _) (hl:=by exact KJ _ _ _) (h:=?_))
    refine oP (Kf (v:=.int .i64 ((0:Nat):Int)) rfl) ?_
    refine KC (KO ?_)
    exact ⟨[_,_],.cons ⟨_,_,_,rfl,(by repeat (first|exact Mh _|apply Mt)),by exact KG Try.underlying35 rfl sz_35⟩ (.cons rfl .nil),fun a w' hr=>hr.tr (by repeat (first|exact Mh _|apply Mt))⟩
end Go.Proofs.Ytlmiolnccgjjjaa
set_option linter.unusedVariables false
set_option linter.unusedSimpArgs false
set_option maxRecDepth 20000
namespace Go.Proofs.Ytlmiolnccgjjjaa
open Go Go.RowKit
open Grp
def dg (K m i:Nat):Nat:=K/2^((m-1-i)*4)%16
theorem dg_lt (K m i:Nat):dg K m i<16:=Nat.mod_lt _ (by decide)
theorem and15 (A:Nat):limb A 0 &&& 15 = A%16:=by
  rw [show 15 = 2^4-1 from rfl,Nat.and_two_pow_sub_one_eq_mod]
  unfold limb
  rw [Nat.mul_zero,Nat.pow_zero,Nat.div_one,show (2:Nat)^4 = 16 from rfl]
  omega
theorem vec_snoc {k:IntKind} {f:Nat→Nat} {n x:Nat} (h:x = f n) (rest:List Value):(vec k n f++[Value.int k ((x:Nat):Int)])++rest = vec k (n+1) f++rest:=by
  subst h
  congr 1
  simp [vec,List.range_succ]
theorem vec_first {k:IntKind} {f:Nat→Nat} {x:Nat} (h:x = f 0) (rest:List Value):[Value.int k ((x:Nat):Int)]++rest = vec k (0+1) f++rest:=by
  subst h; rfl
structure DigS where
  j:Nat
  bd:Nat
  cap:Nat
  rest:List Value
theorem dig_cases (x:Option DigS) (m:Nat):x = none∨(∃ j bd cap rest,x = some ⟨j,bd,cap,rest⟩∧j<m)∨(∃ j bd cap rest,x = some ⟨j,bd,cap,rest⟩∧m≤j):=by
  rcases x with _|⟨j,bd,cap,rest⟩
  · exact .inl rfl
  · rcases Nat.lt_or_ge j m with h|h
    · exact .inr (.inl ⟨j,bd,cap,rest,rfl,h⟩)
    · exact .inr (.inr ⟨j,bd,cap,rest,rfl,h⟩)
theorem Brings.one {w w':World} {b:Nat} {B:Blk} (hb:Below w.heap.size w w') (h1:(Item.blk b B).holds w') (n1:w.heap.size≤b):Brings w [] [.blk b B] w':=by
  have key:∀ x,x∈[Item.blk b B]→∀ k,k∈x.fp→w.heap.size≤k:=fun x hx k hk=>by
    obtain rfl:x = _:=by simpa using hx
    obtain rfl:k = b:=by simpa [Item.fp] using hk
    exact n1
  exact ⟨hb, fun x hx => (by obtain rfl : x = _ := by simpa using hx
                             exact h1),fun x hx k hk=>.inl (key x hx k hk),fun x hx _=>key x hx,List.pairwise_singleton _ _⟩
theorem c_wide4  (w:World)  : Calls Try.prog 152 ([.int .i64 ((4:Nat):Int)]:List Value).toArray w (fun e w'=>e = .returned (.bool true)∧Below w.heap.size w w'):=by
  refine Kj (N:=9) (rs:=[.tmp 2]) [] Try.func152 rfl Try.ntmps152 Try.results152 (Nb rfl) trivial rfl ?_
  show LCode _ _ _ ⟨_,_⟩ _
  refine KB (KA ?_)
  refine oA ?_
  refine KC ?_
  refine KB (KA ?_)
  refine oM ?_
  refine oP (KH (v:=.bool true) rfl rfl (br_t (br_geq (b:=1)) (by decide))) ?_
  refine oM ?_
  refine oGM ?_
  refine oGP (KH (v:=.bool true) rfl rfl (br_t (br_leq (b:=6)) (by decide))) ?_
  refine oP (KZ rfl rfl) ?_
  refine oA ?_
  refine KC (KO ?_)
  refine ⟨[_],.cons rfl .nil,fun a w' hr=>⟨?_,hr.fr.below⟩⟩
  rfl
theorem c_Digits (K B m:Nat) (hK:K<W9) (hB:1≤B) (hB2:B≤576) (hKB:blen K≤B) (hm:(B+3)/4 = m) (w:World)  : Calls Try.prog 137 ([natV K,.int .i64 ((B:Nat):Int),.int .i64 ((4:Nat):Int)]:List Value).toArray w (fun e w'=>∃ v its,(fun v its=>∃ bd cap rest,v = .tuple #[.slice (some ⟨bd,0,none⟩) m cap,.int .i64 ((0:Nat):Int)]∧its = [.blk bd ⟨true,vec .i64 (m) (dg K m)++rest,3,(0,0)⟩]) v its∧e = .returned v∧Brings w [] its w'):=by
  refine Kj (N:=61) (rs:=[.tmp 6,.tmp 7]) [] Try.func137 rfl Try.ntmps137 Try.results137 (Nb rfl) trivial rfl ?_
  show LCode _ _ _ ⟨_,_⟩ _
  refine KB (KA ?_)
  refine oS (mB (fun b3=>?_))
  refine oA ?_
  refine oP (Kf (v:=.int .i64 ((0:Nat):Int)) rfl) ?_
  refine KC ?_
  refine KB ?_
  refine KB (KA ?_)
  refine oM ?_
  refine oS (cF rfl en_152 rfl (fun w hw=>c_wide4 w) ?_)
  refine oP (KK (Det.not rfl) (show _ = Value.bool false from rfl)) ?_
  refine oM ?_
  refine oGM ?_
  refine oGP (KH (v:=.bool false) rfl rfl (br_f (KAe (b:=1)) (by omega))) ?_
  refine oP (Kt rfl rfl) ?_
  refine oM ?_
  refine oGM ?_
  refine oGP (KH (v:=.bool false) rfl rfl (br_f (br_gtr (b:=576)) (by omega))) ?_
  refine oP (Kt rfl rfl) ?_
  refine oM ?_
  refine KAC rfl rfl (dL rfl (hv:=by exact KG Try.underlying33 rfl sz_33)) (Nb rfl) ?_
  refine oGS (cF rfl en_117 rfl (fun w hw=>c_nat_Bits K hK w) ?_)
  refine oGM ?_
  refine oGP (KH (v:=.bool false) rfl rfl (br_f br_gtr (by omega))) ?_
  refine oP (Kt rfl rfl) ?_
  refine KC ?_
  refine KW rfl ?_
  refine KU ?_
  refine KB (KA ?_)
  refine oA ?_
  refine KC ?_
  refine KB ?_
  refine KB (KA ?_)
  refine oM ?_
  refine oM ?_
  refine oP (KH rfl rfl (Kx (by omega))) ?_
  refine oP (KH rfl rfl (br_sub (b:=1) (by omega) (by omega))) ?_
  refine oM ?_
  refine oP (KK (KH rfl rfl (br_quo (b:=4) (by omega) (by omega))) (vi (b:=m) (by omega))) ?_
  refine oP (KH (v:=.int .i64 (((m:Nat):Int)-1)) rfl rfl (br_subI (by omega) (by omega))) ?_
  refine oA ?_
  refine KC ?_
  refine LCode.block ?_
  refine Ku (α:=Option DigS) (fun x=>match x with|none=>True|some y=>1≤y.j∧y.j≤m∧y.j+y.rest.length = y.cap) (fun x=>match x with|none=>⟨[(1,.int .i64 ((B:Nat):Int)),(2,.int .i64 ((4:Nat):Int)),(3,.pointer (some ⟨b3,0,none⟩)),(8,.slice none 0 0),(9,.int .i64 (((m:Nat):Int)-1))],[.blk b3 ⟨true,natL K,33,(0,0)⟩]⟩|some y=>⟨[(1,.int .i64 ((B:Nat):Int)),(2,.int .i64 ((4:Nat):Int)),(3,.pointer (some ⟨b3,0,none⟩)),(8,.slice (some ⟨y.bd,0,none⟩) y.j y.cap),(9,.int .i64 (((m-y.j:Nat):Int)-1))],[.blk y.bd ⟨true,vec .i64 (y.j) (dg K m)++y.rest,3,(0,0)⟩,.blk b3 ⟨true,natL K,33,(0,0)⟩]⟩) (fun x=>match x with|none=>m+1|some y=>m-y.j) (none) (trivial) (Kq ⟨rfl,rfl,rfl,rfl,rfl,trivial⟩ (by repeat (first|exact Sel.nil _|refine Sel.cons (by repeat (first|exact Ph _|apply Pt_)) ?_))) ?_
  intro x hx
  refine KB ?_
  refine KB ?_
  rcases dig_cases x m with rfl|⟨j,bd,cap,rest,rfl,hjm⟩|⟨j,bd,cap,rest,rfl,hjm⟩
  ·
    obtain ⟨z,hz⟩:∃ z,m = z+1:=⟨m-1,by omega⟩
    refine KA ?_
    refine oM ?_
    refine oP (KH (v:=.bool true) rfl rfl (by simp [KAI]; omega)) ?_
    refine KC ?_
    refine Ki rfl ?_
    refine KU ?_
    refine KB ?_
    refine LCode.block ?_
    refine KB (KA ?_)
    refine oD (dL rfl (hv:=by exact KG Try.underlying33 rfl sz_33)) ?_
    refine oP (KAE (v:=.int .i64 ((z:Nat):Int)) (by show some _ = some _; congr 2; omega)) ?_
    refine oM ?_
    refine oP (KH rfl rfl (br_mul (by omega))) ?_
    refine oP (KK (Det.min rfl rfl) (show _ = Value.int .i64 ((z*4:Nat):Int) by rw [if_neg (by omega)])) ?_
    refine oS (cF rfl en_153 rfl (fun w hw=>c_nat_Shr K (z*4) hK (by omega) w) ?_)
    refine oM ?_
    refine oP (KN rfl rfl) ?_
    refine oP (KN rfl rfl) ?_
    refine oS (mk (KS zr_33) (fun b10=>?_))
    refine KT rfl (sA rfl rfl sz_33 (by repeat (first|exact Ka _|exact Kl _ _ _|exact Kc _|exact Kb _ _ _|exact Km _ _ _|exact KP|refine KL rfl ?_|refine KQ ?_ ?_)) (hl:=by first|exact KD _|exact KI _ _ _|exact KF _|exact KJ _ _ _|exact KX _ _ _|rfl|simp [KI,KD,KF]) (h:=?_))
    refine oA ?_
    refine KC ?_
    refine rD [10] ?_
    refine aM 0 ?_
    refine aP 1 rfl (KE (o':=0) Try.underlying33 rfl rfl rfl sz_31 (by decide)) ?_
    refine aP 2 rfl (Kp (i:=0) Try.underlying31 sz_30 rfl rfl (by decide)) ?_
    refine aM 4 ?_
    refine aP 5 rfl (KK (KH rfl rfl (br_shl64 (a:=1) (b:=4))) (vi (b:=16) (by decide))) ?_
    refine aP 6 rfl (KK (KH rfl rfl (KAh (a:=16) (b:=1) (by decide))) (vi (b:=15) (by decide))) ?_
    refine aO 3 rfl (LStep.det (dL rfl (hv:=KM Try.underlying30 rfl (by exact Ke _ (by decide)))) (Nb rfl) ?_)
    refine aP 7 rfl (KK (KH rfl rfl (KAd (b:=15) (limb_lt _ _) (by decide))) (vi (b:=K/2^(z*4)%16) (and15 _))) ?_
    refine aP 8 rfl (Det.convi Try.underlying30 Try.underlying3 rfl (by omega)) ?_
    refine aO 9 rfl (mk (Ky Try.underlying79 inf_3 rfl rfl rfl rfl (by decide) rfl) (fun b58=>?_))
    refine aL 10 rfl (LStepW.appendNil (news:=[.int .i64 ((K/2^(z*4)%16:Nat):Int)]) rfl rfl Try.underlying79 inf_3 rfl (by repeat (first|exact Mh _|apply Mt)) rfl (by decide) (by decide) (by decide) (Nb rfl) ?_)
    intro b1 cap1 rest1 hc1
    refine aA 11 ?_
    refine aE ?_
    refine KA ?_
    refine oP (KAE (v:=.int .i64 ((z:Nat):Int)) (by show some _ = some _; congr 2; omega)) ?_
    refine oP (KH (v:=.int .i64 (((z:Nat):Int)-1)) rfl rfl (br_subI (by omega) (by omega))) ?_
    refine oA ?_
    refine KC ?_
    obtain rfl:m-(0+1) = z:=by omega
    exact ⟨some ⟨0+1,b1,cap1,rest1⟩,⟨Nat.le_refl _,by show 0+1≤m; omega,by show 0+1+rest1.length = cap1; have h1:=hc1; simp at h1; omega⟩,by show m-(0+1)<m+1; omega,KAR (Sub.cells (b:=b1) (cs':=vec .i64 (0+1) (dg K m)++rest1) (by repeat (first|exact Sh _|apply St_)) (vec_first rfl _)) (Kq ⟨rfl,rfl,rfl,rfl,rfl,trivial⟩ (by repeat (first|exact Sel.nil _|refine Sel.cons (by repeat (first|exact Ph _|apply Pt_)) ?_)))⟩
  ·
    obtain ⟨hj1,hjn,hcap⟩:=hx
    dsimp only at hj1 hjn hcap
    dsimp only
    obtain ⟨z,hz⟩:∃ z,m-j = z+1:=⟨m-j-1,by omega⟩
    refine KA ?_
    refine oM ?_
    refine oP (KH (v:=.bool true) rfl rfl (by simp [KAI]; omega)) ?_
    refine KC ?_
    refine Ki rfl ?_
    refine KU ?_
    refine KB ?_
    refine LCode.block ?_
    refine KB (KA ?_)
    refine oD (dL rfl (hv:=by exact KG Try.underlying33 rfl sz_33)) ?_
    refine oP (KAE (v:=.int .i64 ((z:Nat):Int)) (by show some _ = some _; congr 2; omega)) ?_
    refine oM ?_
    refine oP (KH rfl rfl (br_mul (by omega))) ?_
    refine oP (KK (Det.min rfl rfl) (show _ = Value.int .i64 ((z*4:Nat):Int) by rw [if_neg (by omega)])) ?_
    refine oS (cF rfl en_153 rfl (fun w hw=>c_nat_Shr K (z*4) hK (by omega) w) ?_)
    refine oM ?_
    refine oP (KN rfl rfl) ?_
    refine oP (KN rfl rfl) ?_
    refine oS (mk (KS zr_33) (fun b10=>?_))
    refine KT rfl (sA rfl rfl sz_33 (by repeat (first|exact Ka _|exact Kl _ _ _|exact Kc _|exact Kb _ _ _|exact Km _ _ _|exact KP|refine KL rfl ?_|refine KQ ?_ ?_)) (hl:=by first|exact KD _|exact KI _ _ _|exact KF _|exact KJ _ _ _|exact KX _ _ _|rfl|simp [KI,KD,KF]) (h:=?_))
    refine oA ?_
    refine KC ?_
    refine rD [10] ?_
    refine aM 0 ?_
    refine aP 1 rfl (KE (o':=0) Try.underlying33 rfl rfl rfl sz_31 (by decide)) ?_
    refine aP 2 rfl (Kp (i:=0) Try.underlying31 sz_30 rfl rfl (by decide)) ?_
    refine aM 4 ?_
    refine aP 5 rfl (KK (KH rfl rfl (br_shl64 (a:=1) (b:=4))) (vi (b:=16) (by decide))) ?_
    refine aP 6 rfl (KK (KH rfl rfl (KAh (a:=16) (b:=1) (by decide))) (vi (b:=15) (by decide))) ?_
    refine aO 3 rfl (LStep.det (dL rfl (hv:=KM Try.underlying30 rfl (by exact Ke _ (by decide)))) (Nb rfl) ?_)
    refine aP 7 rfl (KK (KH rfl rfl (KAd (b:=15) (limb_lt _ _) (by decide))) (vi (b:=K/2^(z*4)%16) (and15 _))) ?_
    refine aP 8 rfl (Det.convi Try.underlying30 Try.underlying3 rfl (by omega)) ?_
    refine aO 9 rfl (mk (Ky Try.underlying79 inf_3 rfl rfl rfl rfl (by decide) rfl) (fun b58=>?_))
    refine aL 10 rfl (LStepW.append (xs:=vec .i64 j (dg K m)) (rest:=rest) (news:=[.int .i64 ((K/2^(z*4)%16:Nat):Int)]) rfl rfl Try.underlying79 inf_3 rfl (by repeat (first|exact Pick.head _|apply Pick.tail)) (by repeat (first|exact Mh _|apply Mt)) (KI _ _ _) (by rw [KI]; exact hcap) rfl (KL rfl KP) (by omega) (by omega) (Nb rfl) ?_)
    intro b1 cap1 rest1 hc1
    refine aA 11 ?_
    refine aE ?_
    refine KA ?_
    refine oP (KAE (v:=.int .i64 ((z:Nat):Int)) (by show some _ = some _; congr 2; omega)) ?_
    refine oP (KH (v:=.int .i64 (((z:Nat):Int)-1)) rfl rfl (br_subI (by omega) (by omega))) ?_
    refine oA ?_
    refine KC ?_
    obtain rfl:m-(j+1) = z:=by omega
    exact ⟨some ⟨j+1,b1,cap1,rest1⟩,⟨by show 1≤j+1; omega,by show j+1≤m; omega,by show j+1+rest1.length = cap1; have h1:=hc1; rw [KI] at h1; exact h1⟩,by show m-(j+1)<m-j; omega,KAR (Sub.cells (b:=b1) (cs':=vec .i64 (j+1) (dg K m)++rest1) (by repeat (first|exact Sh _|apply St_)) (vec_snoc (by unfold dg; rw [show m-1-j = m-(j+1) by omega]) _)) (Kq ⟨rfl,rfl,rfl,rfl,rfl,trivial⟩ (by repeat (first|exact Sel.nil _|refine Sel.cons (by repeat (first|exact Ph _|apply Pt_)) ?_)))⟩
  ·
    obtain ⟨hj1,hjn,hcap⟩:=hx
    dsimp only at hj1 hjn hcap
    dsimp only
    refine KA ?_
    refine oM ?_
    refine oP (KH (v:=.bool false) rfl rfl (by simp [KAI]; omega)) ?_
    refine KC ?_
    refine KW rfl ?_
    refine Ks ?_
    refine KB (KA ?_)
    refine oM ?_
    refine oA ?_
    refine oP (Kf (v:=.int .i64 ((0:Nat):Int)) rfl) ?_
    refine KC (KO ?_)
    obtain rfl:j = m:=by omega
    exact ⟨[_,_],.cons rfl (.cons rfl .nil),fun a w' hr=>⟨_,_,⟨bd,cap,rest,rfl,rfl⟩,rfl,Brings.one hr.fr.below (hr.hp (.blk bd ⟨true,_,_,_⟩) (by repeat (first|exact Mh _|apply Mt))) (hr.new (b:=bd) (B:=⟨true,_,_,_⟩) (by repeat (first|exact Mh _|apply Mt)) rfl)⟩⟩
def evN:Nat→List Nat
  | 0=>[]
  | n+1=>evN n++List.range 16
theorem evN_length:∀ n,(evN n).length = n*16
  | 0=>rfl
  | n+1=>by show (evN n++List.range 16).length = _; rw [List.length_append,evN_length n,List.length_range]; omega
structure MulS (p:Nat) where
  i:Nat
  T:Fin p×Fin p×Fin p
  r:TrRow
theorem mul_top {V:Cv} (hok:V.Ok) {P:Pt V.p} {K m:Nat} (hK:K<V.n) (hm:(blen V.n+3)/4 = m):RepT V (tripF (.inf:Pt V.p)) (pmul V.A P (K/2^((m-0)*4))):=by
  have h1:=lt_blen V.n
  have h2:2^blen V.n≤2^((m-0)*4):=Nat.pow_le_pow_right (by decide) (by omega)
  rw [Nat.div_eq_of_lt (Nat.lt_of_lt_of_le (Nat.lt_trans hK h1) h2)]
  exact RepT.trip hok trivial
theorem mul_twice {V:Cv} (hok:V.Ok) {P:Pt V.p} (hP:On V.A V.B P) {q j:Nat} {T:Fin V.p×Fin V.p×Fin V.p} (h:RepT V T (pmul V.A P (q*2^j))):RepT V (sumT V T T) (pmul V.A P (q*2^(j+1))):=by
  have:=RepT.sum hok h h
  rwa [← pmul_add hok.crv hP,← Nat.mul_two,Nat.mul_assoc,← Nat.pow_succ] at this
theorem mul_digit {V:Cv} (hok:V.Ok) {P:Pt V.p} (hP:On V.A V.B P) {K m i:Nat} (hi:i<m) {T:Fin V.p×Fin V.p×Fin V.p} (h:RepT V T (pmul V.A P (K/2^((m-i)*4)*2^4))):RepT V (sumT V T (tripF (mulE V P (dg K m i)))) (pmul V.A P (K/2^((m-(i+1))*4))):=by
  have:=RepT.sum hok h (RepT.trip hok (hok.mul hP (dg K m i)))
  rw [← pmul_add hok.crv hP] at this
  have e:K/2^((m-i)*4)*2^4+dg K m i = K/2^((m-(i+1))*4):=by
    unfold dg
    rw [show m-1-i = m-(i+1) by omega,show (m-i)*4 = (m-(i+1))*4+4 by omega,Nat.pow_add,← Nat.div_div_eq_div_mul,show (2:Nat)^4 = 16 from rfl]
    generalize K/2^((m-(i+1))*4) = N
    omega
  rwa [e] at this
theorem mul_all {V:Cv} {P:Pt V.p} {K m i:Nat} {T:Fin V.p×Fin V.p×Fin V.p} (hi:i = m) (h:RepT V T (pmul V.A P (K/2^((m-i)*4)))):RepT V T (pmul V.A P K):=by
  subst hi
  rwa [Nat.sub_self,Nat.zero_mul,Nat.pow_zero,Nat.div_one] at h
theorem dig_get {K m i:Nat} {rest:List Value} (h:i<m):(vec .i64 m (dg K m)++rest)[i+0]? = some (.int .i64 ((dg K m i:Nat):Int)):=by
  rw [Nat.add_zero,List.getElem?_append_left (by rw [KI]; exact h)]
  exact Kg _ _ _ h
theorem c_mTimes (tb:Option Nat) (tr:TrRow) (l:List Nat) (V:Cv) (b f bd:Nat) (hok:V.Ok) (K m:Nat) (P:Pt V.p) (bt br cap:Nat) (rest:List Value) {wr1 wr2:Bool} (hP:On V.A V.B P) (hK:K<V.n) (hm:(blen V.n+3)/4 = m) (w:World) (h0:(trI tb tr l).holds w) (hl:l.length≤80000000) (hb:(Item.blk b ⟨false,opL V f,129,(0,0)⟩).holds w) (hf:(Item.blk f ⟨false,fldL V.p bd,162,(0,0)⟩).holds w) (hbd:(Item.blk bd ⟨false,dvL V.p,212,(0,0)⟩).holds w) (h1:(Item.blk bt ⟨wr1,[.slice (some ⟨br,0,none⟩) 16 cap],116,(0,0)⟩).holds w) (h2:(Item.blk br ⟨wr2,tabL (mulE V (P)) 16++rest,35,(0,0)⟩).holds w) (o0:Out tb tr (Item.blk b ⟨false,opL V f,129,(0,0)⟩)) (o1:Out tb tr (Item.blk f ⟨false,fldL V.p bd,162,(0,0)⟩)) (o2:Out tb tr (Item.blk bd ⟨false,dvL V.p,212,(0,0)⟩)) (n1:Out tb tr (Item.blk bt ⟨wr1,[.slice (some ⟨br,0,none⟩) 16 cap],116,(0,0)⟩)) (n2:Out tb tr (Item.blk br ⟨wr2,tabL (mulE V (P)) 16++rest,35,(0,0)⟩)):Calls Try.prog 103 ([trV tb,.pointer (some ⟨b,0,none⟩),natV K,.pointer (some ⟨bt,0,none⟩)]:List Value).toArray w (fun e w'=>TrR w tb tr (l++evN m) (ptP (pmul V.A P K)) e w'):=by
  have hbb:=hok.bounds
  have hnW:V.n<W9:=w9_521 hbb.2.2.2.2.2.2.1
  have hbl:=blen_w9 hnW
  have hK9:=Nat.lt_trans hK hnW
  have hkb:blen K≤blen V.n:=blen_le (Nat.lt_trans hK (lt_blen _))
  have hbl1:1≤blen V.n:=Nat.pos_of_ne_zero (blen_ne (by omega))
  refine calls_tr (N:=56) (rs:=[.cell 8 35]) tb tr l [.blk b ⟨false,opL V f,129,(0,0)⟩,.blk f ⟨false,fldL V.p bd,162,(0,0)⟩,.blk bd ⟨false,dvL V.p,212,(0,0)⟩,.blk bt ⟨false,[.slice (some ⟨br,0,none⟩) 16 cap],116,(0,0)⟩,.blk br ⟨false,tabL (mulE V (P)) 16++rest,35,(0,0)⟩] Try.func103 rfl Try.ntmps103 Try.results103 (Nb rfl) h0 ⟨hb,hf,hbd,h1,h2,trivial⟩ rfl ⟨o0,o1,o2,n1,n2,trivial⟩ ?_
  show LCode _ _ _ ⟨_,_⟩ _
  refine KB (KA ?_)
  refine oS (mB (fun b6=>?_))
  refine oS (mk (KS zr_35) (fun b8=>?_))
  refine KC ?_
  refine KB ?_
  refine rD [] ?_
  refine aD 0 rfl (dL rfl (hv:=by exact KG Try.underlying33 rfl sz_33)) ?_
  refine aM 1 ?_
  refine aP 2 rfl (KR rfl) ?_
  refine aP 3 rfl (KE (o':=0) Try.underlying129 rfl rfl rfl KAg (by decide)) ?_
  refine aP 4 rfl (KE (o':=56) Try.underlying126 rfl rfl rfl sz_3 (by decide)) ?_
  refine aD 5 rfl (dL rfl (hv:=KM Try.underlying3 rfl (by exact cvC_gt_bits _ _ _ _ _ _ _ _ _ _ _ _ _))) ?_
  refine aO 6 rfl (cC rfl en_137 rfl (fun w hw=>bringsC (c_Digits K (blen V.n) m hK9 hbl1 (by omega) hkb hm w) _) ?_)
  rintro _ _ ⟨ds,dcap,drest,rfl,rfl⟩
  refine aM 7 ?_
  refine aP 8 rfl (KN rfl rfl) ?_
  refine aP 9 rfl (KN rfl rfl) ?_
  refine aA 10 ?_
  refine aA 11 ?_
  refine aE ?_
  refine KB (KA ?_)
  refine oS (cF rfl en_123 rfl (fun w hw=>c_NoneF hok w) ?_)
  refine oS (mk (KS zr_172) (fun b11=>?_))
  refine KT rfl (sA rfl rfl sz_172 (by exact pjFL_one _) (hl:=by exact pjFL_length _) (h:=?_))
  refine KC ?_
  refine KB ?_
  refine KB (KA ?_)
  refine oM ?_
  refine oP (KAK Try.underlying79 rfl) ?_
  refine oP (KAE (v:=.int .i64 ((0:Nat):Int)) rfl) ?_
  refine KC ?_
  refine LCode.block ?_
  refine Ku (α:=MulS V.p) (fun x=>x.i≤m∧RepT V x.T (pmul V.A P (K/2^((m-x.i)*4)))) (fun x=>⟨[(0,trV tb),(1,.pointer (some ⟨b,0,none⟩)),(3,.pointer (some ⟨bt,0,none⟩)),(8,.pointer (some ⟨b8,0,none⟩)),(11,.pointer (some ⟨b11,0,none⟩)),(27,.slice (some ⟨ds,0,none⟩) m dcap),(28,.int .i64 ((m:Nat):Int)),(29,.int .i64 ((x.i:Nat):Int))],[trI tb (x.r) (l++evN x.i),.blk b11 ⟨true,pjFL x.T,172,(0,0)⟩,.blk b8 ⟨true,vec .u64 9 (fun _=>0)++(vec .u64 9 (fun _=>0)++[Value.bool false]),35,(0,0)⟩,.blk ds ⟨true,vec .i64 (m) (dg K m)++drest,3,(0,0)⟩,.blk b ⟨false,opL V f,129,(0,0)⟩,.blk f ⟨false,fldL V.p bd,162,(0,0)⟩,.blk bd ⟨false,dvL V.p,212,(0,0)⟩,.blk bt ⟨false,[.slice (some ⟨br,0,none⟩) 16 cap],116,(0,0)⟩,.blk br ⟨false,tabL (mulE V (P)) 16++rest,35,(0,0)⟩]⟩) (fun x=>m-x.i) (⟨0,tripF (.inf:Pt V.p),tr⟩) (⟨Nat.zero_le _,mul_top hok hK hm⟩) (by dsimp only [evN]; rw [List.append_nil]; exact Kq ⟨rfl,rfl,rfl,rfl,rfl,rfl,rfl,rfl,trivial⟩ (by repeat (first|exact Sel.nil _|refine Sel.cons (by repeat (first|exact Ph _|apply Pt_)) ?_))) ?_
  rintro x ⟨hx1,hx2⟩
  refine KB (KA ?_)
  refine oP (KH rfl rfl (KAe)) ?_
  refine KC ?_
  refine KB ?_
  first|refine KV rfl (fun h30=>?_) (fun h30=>?_)|refine KY rfl (fun h30=>?_) (fun h30=>?_)
  ·
    have h30:x.i<m:=h30
    refine KU ?_
    refine KB ?_
    refine LCode.block ?_
    refine KB (KA ?_)
    refine oP (Det.indexS Try.underlying79 sz_3 rfl rfl (by omega)) ?_
    refine oD (dL rfl (hv:=KM Try.underlying3 rfl (by exact dig_get (by omega)))) ?_
    refine oA ?_
    refine KC ?_
    refine KB ?_
    refine KB (KA ?_)
    refine oP (KAE (v:=.int .i64 ((0:Nat):Int)) rfl) ?_
    refine KC ?_
    refine LCode.block ?_
    refine Ku (α:=Nat×(Fin V.p×Fin V.p×Fin V.p)) (fun y=>y.1≤4∧RepT V y.2 (pmul V.A P (K/2^((m-x.i)*4)*2^y.1))) (fun y=>⟨[(13,.int .i64 ((dg K m x.i:Nat):Int)),(33,.int .i64 ((y.1:Nat):Int)),(0,trV tb),(1,.pointer (some ⟨b,0,none⟩)),(3,.pointer (some ⟨bt,0,none⟩)),(8,.pointer (some ⟨b8,0,none⟩)),(11,.pointer (some ⟨b11,0,none⟩)),(27,.slice (some ⟨ds,0,none⟩) m dcap),(28,.int .i64 ((m:Nat):Int)),(29,.int .i64 ((x.i:Nat):Int))],[trI tb (x.r) (l++evN x.i),.blk b11 ⟨true,pjFL y.2,172,(0,0)⟩,.blk b8 ⟨true,vec .u64 9 (fun _=>0)++(vec .u64 9 (fun _=>0)++[Value.bool false]),35,(0,0)⟩,.blk ds ⟨true,vec .i64 (m) (dg K m)++drest,3,(0,0)⟩,.blk b ⟨false,opL V f,129,(0,0)⟩,.blk f ⟨false,fldL V.p bd,162,(0,0)⟩,.blk bd ⟨false,dvL V.p,212,(0,0)⟩,.blk bt ⟨false,[.slice (some ⟨br,0,none⟩) 16 cap],116,(0,0)⟩,.blk br ⟨false,tabL (mulE V (P)) 16++rest,35,(0,0)⟩]⟩) (fun y=>4-y.1) ((0,x.T)) (⟨Nat.zero_le _,by dsimp only; rw [Nat.pow_zero,Nat.mul_one]; exact hx2⟩) (Kq ⟨rfl,rfl,rfl,rfl,rfl,rfl,rfl,rfl,rfl,rfl,trivial⟩ (by repeat (first|exact Sel.nil _|refine Sel.cons (by repeat (first|exact Ph _|apply Pt_)) ?_))) ?_
    rintro y ⟨hy1,hy2⟩
    refine KB (KA ?_)
    refine oP (KH rfl rfl (KAe (b:=4))) ?_
    refine KC ?_
    refine KB ?_
    first|refine KV rfl (fun h34=>?_) (fun h34=>?_)|refine KY rfl (fun h34=>?_) (fun h34=>?_)
    ·
      have h34:y.1<4:=h34
      refine KU ?_
      refine KB ?_
      refine LCode.block ?_
      refine KA ?_
      refine oM ?_
      refine oD (dL rfl (hv:=by exact KG Try.underlying172 rfl sz_172)) ?_
      refine oD (dL rfl (hv:=by exact KG Try.underlying172 rfl sz_172)) ?_
      refine oS (cF rfl en_125 rfl (fun w hw=>c_SumT V b f bd hok (y.2) (y.2) w (mC hw) (mC hw) (mC hw)) ?_)
      refine KT rfl (sA rfl rfl sz_172 (by exact pjFL_one _) (hl:=by exact pjFL_length _) (h:=?_))
      refine KC ?_
      refine KA ?_
      refine oP (KH rfl rfl (Kx (b:=1) (by omega))) ?_
      refine oM ?_
      refine KC ?_
      exact ⟨(y.1+1,sumT V y.2 y.2),⟨by dsimp only; omega,mul_twice hok hP hy2⟩,by dsimp only; omega,Kq ⟨rfl,rfl,rfl,rfl,rfl,rfl,rfl,rfl,rfl,rfl,trivial⟩ (by repeat (first|exact Sel.nil _|refine Sel.cons (by repeat (first|exact Ph _|apply Pt_)) ?_))⟩
    ·
      have h34:¬ y.1<4:=h34
      refine Ks ?_
      refine KB ?_
      obtain ⟨j,T⟩:=y
      obtain rfl:j = 4:=by omega
      refine KA ?_
      refine oM ?_
      refine oM ?_
      refine oM ?_
      refine KT rfl (LStepW.callT (first:=[]) (r:=x.r) (l:=l++evN x.i) (l':=l++evN (x.i+1)) rfl en_34 rfl (Nb rfl) (by repeat (first|exact Pick.head _|apply Pick.tail)) (fun w hw hn=>by rw [show l++evN (x.i+1) = (l++evN x.i)++List.range 16 from (List.append_assoc _ _ _).symm]; exact c_tabPick tb x.r _ bt br cap rest V hok (mulE V (P)) 16 (dg K m x.i) (dg_lt _ _ _) (by decide) w (mC hw) (mC hw) (mC hw) (hn _ (by repeat (first|exact Mh _|apply Mt))) (hn _ (by repeat (first|exact Mh _|apply Mt))) (by rw [List.length_append,evN_length]; omega)) ?_)
      intro r1
      refine oM ?_
      refine oP (KN rfl rfl) ?_
      refine oP (KN rfl rfl) ?_
      refine oS (mk (KS zr_35) (fun b14=>?_))
      refine KT rfl (sA rfl rfl sz_35 (by repeat (first|exact Ka _|exact Kl _ _ _|exact Kc _|exact Kb _ _ _|exact Km _ _ _|exact KP|refine KL rfl ?_|refine KQ ?_ ?_)) (hl:=by exact KJ _ _ _) (h:=?_))
      refine oA ?_
      refine KC ?_
      refine rD [5] ?_
      refine aM 0 ?_
      refine aD 1 rfl (dL rfl (hv:=by exact KG Try.underlying172 rfl sz_172)) ?_
      refine aD 2 rfl (dL rfl (hv:=by exact KG Try.underlying35 rfl sz_35)) ?_
      refine aO 3 rfl (cF rfl en_122 rfl (fun w hw=>c_Triple V hok (mulE V (P) (dg K m x.i)) w) ?_)
      refine aO 4 rfl (cF rfl en_125 rfl (fun w hw=>c_SumT V b f bd hok (T) (tripF (mulE V (P) (dg K m x.i))) w (mC hw) (mC hw) (mC hw)) ?_)
      refine aL 5 rfl (sA rfl rfl sz_172 (by exact pjFL_one _) (hl:=by exact pjFL_length _) (h:=?_))
      refine aE ?_
      refine KA ?_
      refine oP (KH rfl rfl (Kx (b:=1) (by omega))) ?_
      refine oM ?_
      refine KC ?_
      exact ⟨⟨x.i+1,sumT V T (tripF (mulE V (P) (dg K m x.i))),r1⟩,⟨by dsimp only; omega,mul_digit hok hP h30 hy2⟩,by dsimp only; omega,Kq ⟨rfl,rfl,rfl,rfl,rfl,rfl,rfl,rfl,trivial⟩ (by repeat (first|exact Sel.nil _|refine Sel.cons (by repeat (first|exact Ph _|apply Pt_)) ?_))⟩
  ·
    have h30:¬ x.i<m:=h30
    refine Ks ?_
    refine KB ?_
    have hxm:x.i = m:=by omega
    refine KA ?_
    refine oM ?_
    refine oD (dL rfl (hv:=by exact KG Try.underlying172 rfl sz_172)) ?_
    refine oS (cF rfl en_124 rfl (fun w hw=>c_PlainT V b f bd hok (x.T) (pmul V.A P K) w (mC hw) (mC hw) (mC hw) (mul_all hxm hx2)) ?_)
    refine KT rfl (sA rfl rfl sz_35 (by repeat (first|exact Ka _|exact Kl _ _ _|exact Kc _|exact Kb _ _ _|exact Km _ _ _|exact KP|refine KL rfl ?_|refine KQ ?_ ?_)) (hl:=by simp [KJ,KI]) (h:=?_))
    refine KC (KO ?_)
    exact ⟨[_],.cons ⟨_,_,_,rfl,(by repeat (first|exact Mh _|apply Mt)),by exact KG Try.underlying35 rfl sz_35⟩ .nil,fun a w' hr=>by
      have hq:=hr.tr (v:=ptP (pmul V.A P K)) (r':=x.r) (l:=l++evN x.i) (by repeat (first|exact Mh _|apply Mt))
      rwa [hxm] at hq⟩
end Go.Proofs.Ytlmiolnccgjjjaa
set_option linter.unusedVariables false
set_option linter.unusedSimpArgs false
set_option maxRecDepth 20000
namespace Go.Proofs.Ytlmiolnccgjjjaa
open Go Go.RowKit
open Grp
theorem c_mMul (tb:Option Nat) (tr:TrRow) (l:List Nat) (id:Int) (V:Cv) (K:Nat) (P:Pt V.p) (m:Nat) (hm:(blen V.n+3)/4 = m) (w:World) (h:cvI id = some V) (hP:On V.A V.B P) (hK:K<V.n) (h0:(trI tb tr l).holds w) (hl:l.length≤80000000):Calls Try.prog 63 ([trV tb,.int .i64 id,natV K,ptP P]:List Value).toArray w (fun e w'=>TrR w tb tr (l++evN m) (.tuple #[ptP (pmul V.A P K),.int .i64 ((0:Nat):Int)]) e w'):=by
  obtain ⟨hok,hid⟩:=cvI_ok h
  have hbb:=hok.bounds
  have hpW:V.p<W9:=w9_521 hbb.2.1
  have hnW:V.n<W9:=w9_521 hbb.2.2.2.2.2.2.1
  have hbl:=blen_w9 hnW
  have hnb:nby V.n≤72:=by (unfold nby; omega)
  refine calls_tr (N:=40) (rs:=[.cell 8 35,.tmp 9]) tb tr l [] Try.func63 rfl Try.ntmps63 Try.results63 (Nb rfl) h0 trivial rfl trivial ?_
  show LCode _ _ _ ⟨_,_⟩ _
  refine KB (KA ?_)
  refine oS (mB (fun b6=>?_))
  refine oS (mB (fun b7=>?_))
  refine oS (mk (KS zr_35) (fun b8=>?_))
  refine oP (Kf (v:=.int .i64 ((0:Nat):Int)) rfl) ?_
  refine KC ?_
  refine KB (KA ?_)
  refine oM ?_
  refine oS (KAc (Post:=fun v its=>∃ b f bd,v = .pointer (some ⟨b,0,none⟩)∧its = [.blk b ⟨false,opL V f,129,(0,0)⟩,.blk f ⟨false,fldL V.p bd,162,(0,0)⟩,.blk bd ⟨false,dvL V.p,212,(0,0)⟩]) (first:=[]) rfl en_80 rfl (Nb rfl) (fun w1 hw hs=>(c_Open _ V w1 h).mono fun e w' ⟨b,f,bd,h1,h2,h3,h4,h5,h6,h7,h8⟩=>⟨_,_,⟨b,f,bd,rfl,rfl⟩,h1,KAf h8 (by intro x hx; simp at hx; rcases hx with rfl|rfl|rfl; exact h2; exact h3; exact h4) (by intro x hx; simp at hx; rcases hx with rfl|rfl|rfl <;> rfl) (by intro x hx k hk; simp at hx; rcases hx with rfl|rfl|rfl <;> simp [Item.fp] at hk <;> subst hk; exact .inl h5; exact .inl h6; exact .inl h7)⟩) ?_)
  rintro _ _ ⟨b,f,bd,rfl,rfl⟩
  refine oA ?_
  refine KC ?_
  refine KB ?_
  refine LCode.block ?_
  refine KB (KA ?_)
  refine oM ?_
  refine oP (KK (Det.eqp Try.underlying110 rfl rfl) (show _ = Value.bool false from rfl)) ?_
  refine oA ?_
  refine KC ?_
  refine KW rfl ?_
  refine KB (KA ?_)
  refine oM ?_
  refine oD (dL rfl (hv:=by exact KG Try.underlying35 rfl sz_35)) ?_
  refine oS (cF rfl en_81 rfl (fun w hw=>c_cOnP V b f bd hok (P) w (mC hw) (mC hw) (mC hw) hP) ?_)
  refine oP (KK (Det.not rfl) (show _ = Value.bool false from rfl)) ?_
  refine oA ?_
  refine KC ?_
  refine KW rfl ?_
  refine KB ?_
  refine rD [] ?_
  refine aD 0 rfl (dL rfl (hv:=by exact KG Try.underlying33 rfl sz_33)) ?_
  refine aM 1 ?_
  refine aP 2 rfl (KR rfl) ?_
  refine aP 3 rfl (KE (o':=0) Try.underlying129 rfl rfl rfl KAg (by decide)) ?_
  refine aP 4 rfl (KE (o':=28) Try.underlying126 rfl rfl rfl sz_33 (by decide)) ?_
  refine aD 5 rfl (dL rfl (hv:=by exact cvC_ld_n _ _ _ _ _ _ _ _ _ _ _ _ _ _ _ _)) ?_
  refine aO 6 rfl (cF rfl en_97 rfl (fun w hw=>c_nat_Cmp K V.n (Nat.lt_trans hK hnW) hnW w) ?_)
  refine aP 7 rfl (KH (v:=.bool false) rfl rfl (br_f cmp_geq (Nat.not_le_of_gt hK))) ?_
  refine aA 8 ?_
  refine aE ?_
  refine KW rfl ?_
  refine KU ?_
  refine KB ?_
  refine rD [6,7] ?_
  refine aM 0 ?_
  refine aM 1 ?_
  refine aD 2 rfl (dL rfl (hv:=by exact KG Try.underlying33 rfl sz_33)) ?_
  refine aM 3 ?_
  refine aO 4 rfl (LStep.det (dL rfl (hv:=by exact KG Try.underlying35 rfl sz_35)) (Nb rfl) ?_)
  refine aO 5 rfl (cC rfl en_82 rfl (fun w hw=>bringsC (c_tabOf V b f bd hok (P) hP 16 (by decide) (by decide) w (mC hw) (mC hw) (mC hw)) _) ?_)
  rintro _ _ ⟨bt,br,cap,rest,rfl,rfl⟩
  refine aL 6 rfl (LStepW.callT (first:=[]) (r:=tr) (l:=l) (l':=l++evN m) rfl en_103 rfl (Nb rfl) (by repeat (first|exact Pick.head _|apply Pick.tail)) (fun w hw hn=>c_mTimes tb tr l V b f bd hok K m (P) bt br cap rest hP hK hm w (mC hw) hl (mC hw) (mC hw) (mC hw) (mC hw) (mC hw) (hn _ (by repeat (first|exact Mh _|apply Mt))) (hn _ (by repeat (first|exact Mh _|apply Mt))) (hn _ (by repeat (first|exact Mh _|apply Mt))) (hn _ (by repeat (first|exact Mh _|apply Mt))) (hn _ (by repeat (first|exact Mh _|apply Mt)))) ?_)
  intro r1
  refine aL 7 rfl (sA rfl rfl sz_35 (by exact Kb _ _ _) (hl:=by simp [KJ,KI]) (h:=?_))
  refine aP 8 rfl (Kf (v:=.int .i64 ((0:Nat):Int)) rfl) ?_
  refine aE ?_
  refine KO ?_
  exact ⟨[_,_],.cons ⟨_,_,_,rfl,(by repeat (first|exact Mh _|apply Mt)),by exact KG Try.underlying35 rfl sz_35⟩ (.cons rfl .nil),fun a w' hr=>hr.tr (by repeat (first|exact Mh _|apply Mt))⟩
theorem c_bTimes (tb:Option Nat) (tr:TrRow) (l:List Nat) (V:Cv) (b f bd:Nat) (hok:V.Ok) (K:Nat) (hK:K<V.n) (m:Nat) (hm:(blen V.n+3)/4 = m) (w:World) (h0:(trI tb tr l).holds w) (hl:l.length≤80000000) (hb:(Item.blk b ⟨false,opL V f,129,(0,0)⟩).holds w) (hf:(Item.blk f ⟨false,fldL V.p bd,162,(0,0)⟩).holds w) (hbd:(Item.blk bd ⟨false,dvL V.p,212,(0,0)⟩).holds w) (o0:Out tb tr (Item.blk b ⟨false,opL V f,129,(0,0)⟩)) (o1:Out tb tr (Item.blk f ⟨false,fldL V.p bd,162,(0,0)⟩)) (o2:Out tb tr (Item.blk bd ⟨false,dvL V.p,212,(0,0)⟩)):Calls Try.prog 98 ([trV tb,.pointer (some ⟨b,0,none⟩),natV K]:List Value).toArray w (fun e w'=>TrR w tb tr (l++evN m) (ptP (pmul V.A V.G K)) e w'):=by
  refine calls_tr (N:=18) (rs:=[.cell 6 35]) tb tr l [.blk b ⟨false,opL V f,129,(0,0)⟩,.blk f ⟨false,fldL V.p bd,162,(0,0)⟩,.blk bd ⟨false,dvL V.p,212,(0,0)⟩] Try.func98 rfl Try.ntmps98 Try.results98 (Nb rfl) h0 ⟨hb,hf,hbd,trivial⟩ rfl ⟨o0,o1,o2,trivial⟩ ?_
  show LCode _ _ _ ⟨_,_⟩ _
  refine KB (KA ?_)
  refine oS (mB (fun b5=>?_))
  refine oS (mk (KS zr_35) (fun b6=>?_))
  refine KC ?_
  refine KB ?_
  refine rD [10,11] ?_
  refine aM 0 ?_
  refine aM 1 ?_
  refine aD 2 rfl (dL rfl (hv:=by exact KG Try.underlying33 rfl sz_33)) ?_
  refine aM 3 ?_
  refine aM 4 ?_
  refine aP 5 rfl (KR rfl) ?_
  refine aP 6 rfl (KE (o':=0) Try.underlying129 rfl rfl rfl KAg (by decide)) ?_
  refine aP 7 rfl (KE (o':=37) Try.underlying126 rfl rfl rfl sz_35 (by decide)) ?_
  refine aO 8 rfl (LStep.det (Det.cast (dL rfl (hv:=by exact cvC_ld_g _ _ _ _ _ _ _ _ _ _ _ _ _ _ _ _)) (g_val hok)) (Nb rfl) ?_)
  refine aO 9 rfl (cC rfl en_82 rfl (fun w hw=>bringsC (c_tabOf V b f bd hok (V.G) hok.on 16 (by decide) (by decide) w (mC hw) (mC hw) (mC hw)) _) ?_)
  rintro _ _ ⟨bt,br,cap,rest,rfl,rfl⟩
  refine aL 10 rfl (LStepW.callT (first:=[]) (r:=tr) (l:=l) (l':=l++evN m) rfl en_103 rfl (Nb rfl) (by repeat (first|exact Pick.head _|apply Pick.tail)) (fun w hw hn=>c_mTimes tb tr l V b f bd hok K m (V.G) bt br cap rest hok.on hK hm w (mC hw) hl (mC hw) (mC hw) (mC hw) (mC hw) (mC hw) (hn _ (by repeat (first|exact Mh _|apply Mt))) (hn _ (by repeat (first|exact Mh _|apply Mt))) (hn _ (by repeat (first|exact Mh _|apply Mt))) (hn _ (by repeat (first|exact Mh _|apply Mt))) (hn _ (by repeat (first|exact Mh _|apply Mt)))) ?_)
  intro r1
  refine aL 11 rfl (sA rfl rfl sz_35 (by exact Kb _ _ _) (hl:=by simp [KJ,KI]) (h:=?_))
  refine aE ?_
  refine KO ?_
  exact ⟨[_],.cons ⟨_,_,_,rfl,(by repeat (first|exact Mh _|apply Mt)),by exact KG Try.underlying35 rfl sz_35⟩ .nil,fun a w' hr=>hr.tr (by repeat (first|exact Mh _|apply Mt))⟩
theorem c_bMul_none (tb:Option Nat) (id:Int) (K:Nat) (w:World) (h:cvI id = none):Calls Try.prog 57 ([trV tb,.int .i64 id,natV K]:List Value).toArray w (fun e w'=>e = .returned (.tuple #[ptV 0 0 false,.int .i64 ((1900:Nat):Int)])∧Below w.heap.size w w'):=by
  refine Kj (N:=29) (rs:=[.cell 6 35,.tmp 7]) [] Try.func57 rfl Try.ntmps57 Try.results57 (Nb rfl) trivial rfl ?_
  show LCode _ _ _ ⟨_,_⟩ _
  refine KB (KA ?_)
  refine oS (mB (fun b5=>?_))
  refine oS (mk (KS zr_35) (fun b6=>?_))
  refine oP (Kf (v:=.int .i64 ((0:Nat):Int)) rfl) ?_
  refine KC ?_
  refine KB (KA ?_)
  refine oM ?_
  refine oS (cF rfl en_80 rfl (fun w hw=>c_Open_none id w h) ?_)
  refine oA ?_
  refine KC ?_
  refine KB ?_
  refine LCode.block ?_
  refine KB (KA ?_)
  refine oM ?_
  refine oP (KK (Det.eqp Try.underlying110 rfl rfl) (show _ = Value.bool true from rfl)) ?_
  refine oA ?_
  refine KC ?_
  refine Ki rfl ?_
  refine KB (KA ?_)
  refine oP (KK (KAD pl_35 zr_35 rfl rfl) (show _ = ptV 0 0 false from pt_zero)) ?_
  refine KT rfl (sA rfl rfl sz_35 (by exact Kb _ _ _) (hl:=by simp [KJ,KI]) (h:=?_))
  refine oP (Kf (v:=.int .i64 ((1900:Nat):Int)) rfl) ?_
  refine KC (KO ?_)
  refine ⟨[_,_],.cons ⟨_,_,_,rfl,(by repeat (first|exact Mh _|apply Mt)),by exact KG Try.underlying35 rfl sz_35⟩ (.cons rfl .nil),fun a w' hr=>⟨?_,hr.fr.below⟩⟩
  rfl
theorem c_bMul_range (tb:Option Nat) (id:Int) (V:Cv) (K:Nat) (w:World) (h:cvI id = some V) (hK9:K<W9) (hr:V.n≤K):Calls Try.prog 57 ([trV tb,.int .i64 id,natV K]:List Value).toArray w (fun e w'=>e = .returned (.tuple #[ptV 0 0 false,.int .i64 ((1901:Nat):Int)])∧Below w.heap.size w w'):=by
  obtain ⟨hok,hid⟩:=cvI_ok h
  have hbb:=hok.bounds
  have hpW:V.p<W9:=w9_521 hbb.2.1
  have hnW:V.n<W9:=w9_521 hbb.2.2.2.2.2.2.1
  have hbl:=blen_w9 hnW
  have hnb:nby V.n≤72:=by (unfold nby; omega)
  refine Kj (N:=29) (rs:=[.cell 6 35,.tmp 7]) [] Try.func57 rfl Try.ntmps57 Try.results57 (Nb rfl) trivial rfl ?_
  show LCode _ _ _ ⟨_,_⟩ _
  refine KB (KA ?_)
  refine oS (mB (fun b5=>?_))
  refine oS (mk (KS zr_35) (fun b6=>?_))
  refine oP (Kf (v:=.int .i64 ((0:Nat):Int)) rfl) ?_
  refine KC ?_
  refine KB (KA ?_)
  refine oM ?_
  refine oS (KAc (Post:=fun v its=>∃ b f bd,v = .pointer (some ⟨b,0,none⟩)∧its = [.blk b ⟨false,opL V f,129,(0,0)⟩,.blk f ⟨false,fldL V.p bd,162,(0,0)⟩,.blk bd ⟨false,dvL V.p,212,(0,0)⟩]) (first:=[]) rfl en_80 rfl (Nb rfl) (fun w1 hw hs=>(c_Open _ V w1 h).mono fun e w' ⟨b,f,bd,h1,h2,h3,h4,h5,h6,h7,h8⟩=>⟨_,_,⟨b,f,bd,rfl,rfl⟩,h1,KAf h8 (by intro x hx; simp at hx; rcases hx with rfl|rfl|rfl; exact h2; exact h3; exact h4) (by intro x hx; simp at hx; rcases hx with rfl|rfl|rfl <;> rfl) (by intro x hx k hk; simp at hx; rcases hx with rfl|rfl|rfl <;> simp [Item.fp] at hk <;> subst hk; exact .inl h5; exact .inl h6; exact .inl h7)⟩) ?_)
  rintro _ _ ⟨b,f,bd,rfl,rfl⟩
  refine oA ?_
  refine KC ?_
  refine KB ?_
  refine LCode.block ?_
  refine KB (KA ?_)
  refine oM ?_
  refine oP (KK (Det.eqp Try.underlying110 rfl rfl) (show _ = Value.bool false from rfl)) ?_
  refine oA ?_
  refine KC ?_
  refine KW rfl ?_
  refine KB ?_
  refine rD [] ?_
  refine aD 0 rfl (dL rfl (hv:=by exact KG Try.underlying33 rfl sz_33)) ?_
  refine aM 1 ?_
  refine aP 2 rfl (KR rfl) ?_
  refine aP 3 rfl (KE (o':=0) Try.underlying129 rfl rfl rfl KAg (by decide)) ?_
  refine aP 4 rfl (KE (o':=28) Try.underlying126 rfl rfl rfl sz_33 (by decide)) ?_
  refine aD 5 rfl (dL rfl (hv:=by exact cvC_ld_n _ _ _ _ _ _ _ _ _ _ _ _ _ _ _ _)) ?_
  refine aO 6 rfl (cF rfl en_97 rfl (fun w hw=>c_nat_Cmp K V.n hK9 hnW w) ?_)
  refine aP 7 rfl (KH (v:=.bool true) rfl rfl (br_t cmp_geq (hr))) ?_
  refine aA 8 ?_
  refine aE ?_
  refine Ki rfl ?_
  refine KB (KA ?_)
  refine oP (KK (KAD pl_35 zr_35 rfl rfl) (show _ = ptV 0 0 false from pt_zero)) ?_
  refine KT rfl (sA rfl rfl sz_35 (by exact Kb _ _ _) (hl:=by simp [KJ,KI]) (h:=?_))
  refine oP (Kf (v:=.int .i64 ((1901:Nat):Int)) rfl) ?_
  refine KC (KO ?_)
  refine ⟨[_,_],.cons ⟨_,_,_,rfl,(by repeat (first|exact Mh _|apply Mt)),by exact KG Try.underlying35 rfl sz_35⟩ (.cons rfl .nil),fun a w' hr=>⟨?_,hr.fr.below⟩⟩
  rfl
theorem c_bMul (tb:Option Nat) (tr:TrRow) (l:List Nat) (id:Int) (V:Cv) (K:Nat) (m:Nat) (hm:(blen V.n+3)/4 = m) (w:World) (h:cvI id = some V) (hK:K<V.n) (h0:(trI tb tr l).holds w) (hl:l.length≤80000000):Calls Try.prog 57 ([trV tb,.int .i64 id,natV K]:List Value).toArray w (fun e w'=>TrR w tb tr (l++evN m) (.tuple #[ptP (pmul V.A V.G K),.int .i64 ((0:Nat):Int)]) e w'):=by
  obtain ⟨hok,hid⟩:=cvI_ok h
  have hbb:=hok.bounds
  have hpW:V.p<W9:=w9_521 hbb.2.1
  have hnW:V.n<W9:=w9_521 hbb.2.2.2.2.2.2.1
  have hbl:=blen_w9 hnW
  have hnb:nby V.n≤72:=by (unfold nby; omega)
  refine calls_tr (N:=29) (rs:=[.cell 6 35,.tmp 7]) tb tr l [] Try.func57 rfl Try.ntmps57 Try.results57 (Nb rfl) h0 trivial rfl trivial ?_
  show LCode _ _ _ ⟨_,_⟩ _
  refine KB (KA ?_)
  refine oS (mB (fun b5=>?_))
  refine oS (mk (KS zr_35) (fun b6=>?_))
  refine oP (Kf (v:=.int .i64 ((0:Nat):Int)) rfl) ?_
  refine KC ?_
  refine KB (KA ?_)
  refine oM ?_
  refine oS (KAc (Post:=fun v its=>∃ b f bd,v = .pointer (some ⟨b,0,none⟩)∧its = [.blk b ⟨false,opL V f,129,(0,0)⟩,.blk f ⟨false,fldL V.p bd,162,(0,0)⟩,.blk bd ⟨false,dvL V.p,212,(0,0)⟩]) (first:=[]) rfl en_80 rfl (Nb rfl) (fun w1 hw hs=>(c_Open _ V w1 h).mono fun e w' ⟨b,f,bd,h1,h2,h3,h4,h5,h6,h7,h8⟩=>⟨_,_,⟨b,f,bd,rfl,rfl⟩,h1,KAf h8 (by intro x hx; simp at hx; rcases hx with rfl|rfl|rfl; exact h2; exact h3; exact h4) (by intro x hx; simp at hx; rcases hx with rfl|rfl|rfl <;> rfl) (by intro x hx k hk; simp at hx; rcases hx with rfl|rfl|rfl <;> simp [Item.fp] at hk <;> subst hk; exact .inl h5; exact .inl h6; exact .inl h7)⟩) ?_)
  rintro _ _ ⟨b,f,bd,rfl,rfl⟩
  refine oA ?_
  refine KC ?_
  refine KB ?_
  refine LCode.block ?_
  refine KB (KA ?_)
  refine oM ?_
  refine oP (KK (Det.eqp Try.underlying110 rfl rfl) (show _ = Value.bool false from rfl)) ?_
  refine oA ?_
  refine KC ?_
  refine KW rfl ?_
  refine KB ?_
  refine rD [] ?_
  refine aD 0 rfl (dL rfl (hv:=by exact KG Try.underlying33 rfl sz_33)) ?_
  refine aM 1 ?_
  refine aP 2 rfl (KR rfl) ?_
  refine aP 3 rfl (KE (o':=0) Try.underlying129 rfl rfl rfl KAg (by decide)) ?_
  refine aP 4 rfl (KE (o':=28) Try.underlying126 rfl rfl rfl sz_33 (by decide)) ?_
  refine aD 5 rfl (dL rfl (hv:=by exact cvC_ld_n _ _ _ _ _ _ _ _ _ _ _ _ _ _ _ _)) ?_
  refine aO 6 rfl (cF rfl en_97 rfl (fun w hw=>c_nat_Cmp K V.n (Nat.lt_trans hK hnW) hnW w) ?_)
  refine aP 7 rfl (KH (v:=.bool false) rfl rfl (br_f cmp_geq (Nat.not_le_of_gt hK))) ?_
  refine aA 8 ?_
  refine aE ?_
  refine KW rfl ?_
  refine KU ?_
  refine KB (KA ?_)
  refine oM ?_
  refine oM ?_
  refine oD (dL rfl (hv:=by exact KG Try.underlying33 rfl sz_33)) ?_
  refine KT rfl (LStepW.callT (first:=[]) (r:=tr) (l:=l) (l':=l++evN m) rfl en_98 rfl (Nb rfl) (by repeat (first|exact Pick.head _|apply Pick.tail)) (fun w hw hn=>c_bTimes tb tr l V b f bd hok K hK m hm w (mC hw) hl (mC hw) (mC hw) (mC hw) (hn _ (by repeat (first|exact Mh _|apply Mt))) (hn _ (by repeat (first|exact Mh _|apply Mt))) (hn _ (by repeat (first|exact Mh _|apply Mt)))) ?_)
  intro r1
  refine KT rfl (sA rfl rfl sz_35 (by exact Kb _ _ _) (hl:=by simp [KJ,KI]) (h:=?_))
  refine oP (Kf (v:=.int .i64 ((0:Nat):Int)) rfl) ?_
  refine KC (KO ?_)
  exact ⟨[_,_],.cons ⟨_,_,_,rfl,(by repeat (first|exact Mh _|apply Mt)),by exact KG Try.underlying35 rfl sz_35⟩ (.cons rfl .nil),fun a w' hr=>hr.tr (by repeat (first|exact Mh _|apply Mt))⟩
theorem c_mMulN (id:Int) (V:Cv) (K:Nat) (P R:Pt V.p) (w:World) (h:cvI id = some V) (hP:On V.A V.B P) (hK:K<V.n) (hR:pmul V.A P K = R):Calls Try.prog 63 ([.pointer none,.int .i64 id,natV K,ptP P]:List Value).toArray w (fun e w'=>e = .returned (.tuple #[ptP R,.int .i64 ((0:Nat):Int)])∧Below w.heap.size w w') :=
  hR ▸ (c_mMul none none [] id V K P _ rfl w h hP hK (trI_nil _ _) (Nat.zero_le _)).mono fun e w' h=>TrR.nil h
theorem c_bMulN (id:Int) (V:Cv) (K:Nat) (R:Pt V.p) (w:World) (h:cvI id = some V) (hK:K<V.n) (hR:pmul V.A V.G K = R):Calls Try.prog 57 ([.pointer none,.int .i64 id,natV K]:List Value).toArray w (fun e w'=>e = .returned (.tuple #[ptP R,.int .i64 ((0:Nat):Int)])∧Below w.heap.size w w') :=
  hR ▸ (c_bMul none none [] id V K _ rfl w h hK (trI_nil _ _) (Nat.zero_le _)).mono fun e w' h=>TrR.nil h
end Go.Proofs.Ytlmiolnccgjjjaa
set_option linter.unusedVariables false
set_option linter.unusedSimpArgs false
set_option maxRecDepth 20000
namespace Go.Proofs.Ytlmiolnccgjjjaa
open Go Go.RowKit
open Grp
theorem limb0 {x:Nat} (h:x≤255):limb x 0 = x:=by
  rw [limb_small (show x<18446744073709551616 by omega)]; rfl
end Go.Proofs.Ytlmiolnccgjjjaa
set_option linter.unusedVariables false
set_option linter.unusedSimpArgs false
set_option maxRecDepth 20000
namespace Go.Proofs.Ytlmiolnccgjjjaa
open Go Go.RowKit
open Grp
theorem c_r_GP (Q:CQ) (V:Cv) (w:World) (hc:(crvI Q V).holds w) (hok:V.Ok):Calls Try.prog 31 ([.agg (crvL Q V).toArray]:List Value).toArray w (fun e w'=>Num2R w (crvI Q V).fp (xv V.G) (yv V.G) (fun u v=>rpV u v (iv V.G)) e w'):=by
  rw [xG hok,yG hok]
  exact c_r_G Q V w hc
theorem c_r_OutP (V:Cv) (q r:NV) (P:Pt V.p) (w:World) (hq:(numT q (xv P)).holds w) (hr:(numT r (yv P)).holds w):Calls Try.prog 30 ([rpV (numV q (xv P)) (numV r (yv P)) (iv P)]:List Value).toArray w (fun e w'=>e = .returned (ptP P)∧Below w.heap.size w w'):=c_r_Out q r (xv P) (yv P) (iv P) w hq hr
end Go.Proofs.Ytlmiolnccgjjjaa
set_option linter.unusedVariables false
set_option linter.unusedSimpArgs false
set_option maxRecDepth 20000
namespace Go.Proofs.Ytlmiolnccgjjjaa
open Go Go.RowKit
open Grp
theorem pm_less {V:Cv} (hok:V.Ok) {P:Pt V.p} (hP:On V.A V.B P) (hn:pmul V.A P V.n = .inf) {K:Nat} (hK:K≤V.n):pmul V.A P (V.n-K) = (pmul V.A P K).neg:=by
  have h1:=pmul_add hok.crv hP (V.n-K) K
  rw [Nat.sub_add_cancel hK,hn] at h1
  have h2:padd V.A (pmul V.A P K).neg (pmul V.A P K) = .inf:=by
    rw [padd_comm hok.fld (neg_on (hok.mul hP _)) (hok.mul hP _)]; exact padd_neg hok.fld (hok.mul hP _)
  exact padd_cancel hok.crv (hok.mul hP _) (neg_on (hok.mul hP _)) (hok.mul hP _) (h1.symm.trans h2.symm)
theorem two_mulM {V:Cv} (hok:V.Ok) {P:Pt V.p} (hP:On V.A V.B P):padd V.A P P = pmul V.A P 2:=by
  show _ = padd V.A (padd V.A .inf P) P
  rw [hok.inf_add hP]
end Go.Proofs.Ytlmiolnccgjjjaa
set_option linter.unusedVariables false
set_option linter.unusedSimpArgs false
set_option maxRecDepth 20000
namespace Go.Proofs.Ytlmiolnccgjjjaa
open Go Go.RowKit
def evFp (q:TrRow):List Nat:=match q with
  | none=>[]
  | some r=>[r.1]
def evQ (q:TrRow) (l:List Nat) (w:World):Prop:=match q with
  | none=>l = []
  | some r=>w.heap[r.1]? = some (.cells (evsL l++r.2.2).toArray 83 (0,0))
def evI (q:TrRow) (l:List Nat):Item:=.own (evFp q) (evQ q l)
def evF (q:TrRow) (l:List Nat):Item:=.fact (evFp q) (evQ q l)
theorem evI_nil (w:World):(evI none []).holds w:=⟨fun k hk=>(by cases hk),fun _ _=>rfl⟩
theorem evI_of {b cap:Nat} {rest:List Value} {l:List Nat} {w:World} (h:w.heap[b]? = some (.cells (evsL l++rest).toArray 83 (0,0))):(evI (some (b,cap,rest)) l).holds w:=by
  refine ⟨fun k hk=>?_,fun w' ha=>(ha b (.head _)).trans h⟩
  obtain rfl:k = b:=by simpa [evFp] using hk
  exact lt_of_get h
theorem evI_P {q:TrRow} {l:List Nat} {w:World} (h:(evI q l).holds w):evQ q l w:=h.2 w (Agree.refl _ _)
theorem ev_at (l:List Nat) {i k:Nat} (h:l[i]? = some k):∃ post,evsL l = evsL (l.take i)++([.int .i64 ((2:Nat):Int),.int .i64 ((k:Nat):Int)]++post):=by
  induction l generalizing i with
  | nil=>simp at h
  | cons a l ih =>
    cases i with
    | zero =>
      obtain rfl:a = k:=by simpa using h
      exact ⟨evsL l,rfl⟩
    | succ i =>
      obtain ⟨post,hp⟩:=ih (i:=i) (by simpa using h)
      refine ⟨post,?_⟩
      show [Value.int .i64 ((2:Nat):Int),.int .i64 ((a:Nat):Int)]++evsL l = ([Value.int .i64 ((2:Nat):Int),.int .i64 ((a:Nat):Int)]++evsL (l.take i))++_
      rw [hp,List.append_assoc]
theorem evI_new {q:TrRow} {l:List Nat} {w w':World} (hb:Below w.heap.size w w') (h:(evI q l).holds w') (hn:∀ k,k∈evFp q→w.heap.size≤k):Brings w [] [evI q l] w' :=
  ⟨hb, fun x hx => (by obtain rfl : x = _ := by simpa using hx
                       exact h),fun x hx k hk=>.inl (by
    obtain rfl:x = _:=by simpa using hx
    exact hn k hk),fun x hx _ k hk=>(by
    obtain rfl:x = _:=by simpa using hx
    exact hn k hk),List.pairwise_singleton _ _⟩
theorem bringsC0 {P:Program} {f:FuncId} {a:Array Value} {w:World} {Q:Value→List Item→Prop} (h:Calls P f a w (fun e w'=>∃ v its,Q v its∧e = .returned v∧Brings w [] its w')) (H:List Item):Calls P f a w (fun e w'=>∃ v its,Q v its∧e = .returned v∧Brings w H its w') :=
  h.mono fun e w' ⟨v,its,h1,h2,h3⟩=>⟨v,its,h1,h2,h3.more (fun x hx=>by cases hx)⟩
theorem evsL_one:∀ l,AllOne (evsL l)
  | []=>fun c h=>by cases h
  | k :: l=>fun c h=>by
    have h':c = .int .i64 ((2:Nat):Int)∨c = .int .i64 ((k:Nat):Int)∨c∈evsL l:=by simpa [evsL] using h
    rcases h' with rfl|rfl|h'
    · rfl
    · rfl
    · exact evsL_one l c h'
theorem row_ev0:((Array.range (0*2)).map fun i=>(Value.agg ([.int .i64 ((0:Nat):Int),.int .i64 ((0:Nat):Int)]:List Value).toArray).cells[i%(Value.agg ([.int .i64 ((0:Nat):Int),.int .i64 ((0:Nat):Int)]:List Value).toArray).cells.size]!) = ([]:List Value).toArray:=by kernel_rfl
section
variable {P:Program} {C:Ctx} {d:Option Tmp} {ty:TypeId} {pos:String} {aft:Array Edge} {g:Option (Nat×Bool)} {st:St} {x y:Operand} {t e:TypeId}
theorem Det.indexSM {s i : Nat} {k : IntKind} {b o l c : Nat} (ht : P.underlying t = some (.slice e)) (he : szOf P e = some s) (hx : evT st.T x = some (.slice (some ⟨b, o, none⟩) l c)) (hy : evT st.T y = some (.int k (i : Int))) (h1 : i < l) :
    Slots P C ⟨d,.indexAddr t x y,ty,pos,aft,g⟩ st (.pointer (some ⟨b,o+i*s,none⟩)):=by
  have:=Det.indexSl (P:=P) (C:=C) (d:=d) (ty:=ty) (pos:=pos) (aft:=aft) (g:=g) (st:=st) ht he hx hy (by omega) (by omega)
  rwa [Int.toNat_natCast] at this
end
def evVal (k:Nat):Value:=.agg ([.int .i64 ((2:Nat):Int),.int .i64 ((k:Nat):Int)]:List Value).toArray
theorem ev_load {wr:Bool} {e:TypeId} {fz:Nat×Nat} (l:List Nat) {i k:Nat} (h:l[i]? = some k) (rest:List Value):LoadV Try.prog 83 ⟨wr,evsL l++rest,e,fz⟩ (0+i*2) (evVal k):=by
  obtain ⟨post,hp⟩:=ev_at l h
  have hi:i<l.length:=by
    rcases Nat.lt_or_ge i l.length with h'|h'
    · exact h'
    · rw [List.getElem?_eq_none h'] at h; cases h
  exact LoadV.mid (pre:=evsL (l.take i)) (cs:=[.int .i64 ((2:Nat):Int),.int .i64 ((k:Nat):Int)]) (post:=post++rest) Try.underlying83 rfl sz_83 (by show evsL l++rest = _; rw [hp]; simp only [List.append_assoc]) (by rw [evsL_length,List.length_take,Nat.min_eq_left (Nat.le_of_lt hi)]; omega) rfl
theorem eq_ev (x y:Nat):EqD 2 Try.prog 83 (evVal x) (evVal y) (decide (x = y)):=by
  have h:=EqD.struct (fs:=[_,_]) Try.underlying83 (by kernel_rfl) (EqFs.cons (by decide) (PartOf.one Try.underlying3 rfl (show ([.int .i64 ((2:Nat):Int),.int .i64 ((x:Nat):Int)]:List Value)[0]? = some _ from rfl)) (PartOf.one Try.underlying3 rfl (show ([.int .i64 ((2:Nat):Int),.int .i64 ((y:Nat):Int)]:List Value)[0]? = some _ from rfl)) (EqD.int Try.underlying3)
    (EqFs.cons (by decide) (PartOf.one Try.underlying3 rfl (show ([.int .i64 ((2:Nat):Int),.int .i64 ((x:Nat):Int)]:List Value)[1]? = some _ from rfl)) (PartOf.one Try.underlying3 rfl (show ([.int .i64 ((2:Nat):Int),.int .i64 ((y:Nat):Int)]:List Value)[1]? = some _ from rfl)) (EqD.int Try.underlying3) EqFs.nil))
  have e:((((2:Nat):Int) == ((2:Nat):Int)) && ((((x:Nat):Int) == ((y:Nat):Int)) && true)) = decide (x = y):=by
    rw [Bool.eq_iff_iff]; simp; omega
  rwa [e] at h
theorem eq_ev_t (x:Nat):EqD 2 Try.prog 83 (evVal x) (evVal x) true:=by
  have:=eq_ev x x
  rwa [decide_eq_true rfl] at this
theorem get_some {l:List Nat} {i:Nat} (h:i<l.length):∃ k,l[i]? = some k:=⟨l[i],List.getElem?_eq_getElem h⟩
theorem c_clone0  (w:World)  : Calls Try.prog 96 ([.slice none 0 0]:List Value).toArray w (fun e w'=>∃ v its,(fun v its=>∃ q,v = trSl q 0∧its = [evI q []]) v its∧e = .returned v∧Brings w [] its w'):=by
  refine Kj (N:=8) (rs:=[.tmp 2]) [] Try.func96 rfl Try.ntmps96 Try.results96 (Nb rfl) trivial rfl ?_
  show LCode _ _ _ ⟨_,_⟩ _
  refine KB (KA ?_)
  refine oA ?_
  refine KC ?_
  refine KB ?_
  refine KB (KA ?_)
  refine oM ?_
  refine oP (KK (Det.eqsl Try.underlying81 rfl rfl) (show _ = Value.bool true from rfl)) ?_
  refine KC ?_
  refine Ki rfl ?_
  refine KB (KA ?_)
  refine oA ?_
  refine KC (KO ?_)
  exact ⟨[_],.cons rfl .nil,fun a w' hr=>⟨_,_,⟨none,rfl,rfl⟩,rfl,evI_new hr.fr.below (evI_nil _) (fun k hk=>by
    cases hk)⟩⟩
theorem c_clone1 (r cap:Nat) (rest:List Value) (l:List Nat) (w:World) (h1:(Item.blk r ⟨false,evsL l++rest,83,(0,0)⟩).holds w) (hl:l.length≤100000000):Calls Try.prog 96 ([.slice (some ⟨r,0,none⟩) l.length cap]:List Value).toArray w (fun e w'=>∃ v its,(fun v its=>∃ q,v = trSl q l.length∧its = [evI q l]) v its∧e = .returned v∧Brings w [] its w'):=by
  refine Kj (N:=8) (rs:=[.tmp 2]) [.blk r ⟨false,evsL l++rest,83,(0,0)⟩] Try.func96 rfl Try.ntmps96 Try.results96 (Nb rfl) ⟨h1,trivial⟩ rfl ?_
  show LCode _ _ _ ⟨_,_⟩ _
  refine KB (KA ?_)
  refine oA ?_
  refine KC ?_
  refine KB ?_
  refine KB (KA ?_)
  refine oM ?_
  refine oP (KK (Det.eqsl Try.underlying81 rfl rfl) (show _ = Value.bool false from rfl)) ?_
  refine KC ?_
  refine KW rfl ?_
  refine KU ?_
  refine KB (KA ?_)
  refine oS (mk (Makes.row (len:=0) (vs:=[]) (z0:=[]) (cs:=[]) Try.underlying81 inf_ev (by decide) row_ev0 rfl rfl (fun _=>rfl)) (fun b5=>?_))
  refine oM ?_
  refine KT rfl (LStepW.appendSM (s:=2) (n:=0) (cap:=0) (xs:=[]) (rest:=[]) (news:=evsL l) (more:=rest) rfl rfl Try.underlying81 inf_ev rfl (by repeat (first|exact Pick.head _|apply Pick.tail)) (by repeat (first|exact Mh _|apply Mt)) rfl rfl rfl (evsL_length l) (evsL_one l) (by omega) (by omega) (Nb rfl) ?_)
  intro b1 cap1 rest1 hc1
  refine oA ?_
  refine KC (KO ?_)
  refine ⟨[_],.cons rfl .nil,fun a w' hr=>?_⟩
  have g:=hr.hp (.blk b1 ⟨true,([]++evsL l)++rest1,83,(0,0)⟩) (by repeat (first|exact Mh _|apply Mt))
  have n:=hr.new (b:=b1) (B:=⟨true,([]++evsL l)++rest1,83,(0,0)⟩) (by repeat (first|exact Mh _|apply Mt)) rfl
  rw [List.nil_append] at g
  exact ⟨_,_,⟨some (b1,cap1,rest1),by rw [Nat.zero_add]; rfl,rfl⟩,rfl,evI_new hr.fr.below (evI_of g) (fun k hk=>by
    obtain rfl:k = b1:=by simpa [evFp] using hk
    exact n)⟩
theorem c_clone (q:TrRow) (l:List Nat) (w:World) (h:(evI q l).holds w) (hl:l.length≤100000000):Calls Try.prog 96 ([trSl q l.length]:List Value).toArray w (fun e w'=>∃ v its,(fun v its=>∃ q,v = trSl q l.length∧its = [evI q l]) v its∧e = .returned v∧Brings w [] its w'):=by
  have hp:=evI_P h
  rcases q with _|⟨r,cap,rest⟩
  · obtain rfl:l = []:=hp
    exact c_clone0 w
  · exact c_clone1 r cap rest l w hp hl
theorem tr_ev {b:Nat} {r:TrRow} {l:List Nat} {w:World} (h:(trI (some b) r l).holds w):(evI r l).holds w:=by
  have hp:=trI_P h
  rcases r with _|⟨r,cap,rest⟩
  · obtain ⟨_,rfl⟩:=hp
    exact evI_nil w
  · exact evI_of hp.2.1
theorem tr_st {b:Nat} {r:TrRow} {l:List Nat} {w:World} (h:(trI (some b) r l).holds w):(Item.blk b ⟨false,[trSl r l.length],121,(0,0)⟩).holds w:=(trI_P h).1
theorem c_trEvents (b:Nat) (r:TrRow) (l:List Nat) (w:World) (h0:(trI (some b) r l).holds w) (hl:l.length≤100000000):Calls Try.prog 56 ([trV (some b)]:List Value).toArray w (fun e w'=>∃ v its,(fun v its=>∃ q,v = trSl q l.length∧its = [evI q l]) v its∧e = .returned v∧Brings w [] its w'):=by
  refine Kj (N:=10) (rs:=[.tmp 2]) [.blk b ⟨false,[trSl r l.length],121,(0,0)⟩,evF r l] Try.func56 rfl Try.ntmps56 Try.results56 (Nb rfl) ⟨tr_st h0,tr_ev h0,trivial⟩ rfl ?_
  show LCode _ _ _ ⟨_,_⟩ _
  refine KB (KA ?_)
  refine oA ?_
  refine KC ?_
  refine KB ?_
  refine KB (KA ?_)
  refine oM ?_
  refine oP (KK (Det.eqp Try.underlying49 rfl rfl) (show _ = Value.bool false from rfl)) ?_
  refine KC ?_
  refine KW rfl ?_
  refine KU ?_
  refine KB (KA ?_)
  refine oM ?_
  refine oP (KR rfl) ?_
  refine oP (KE (o':=0) Try.underlying121 rfl rfl rfl sz_81 (by decide)) ?_
  refine oD (dL rfl (hv:=KM Try.underlying81 rfl (by rfl))) ?_
  refine oS (cC rfl en_96 rfl (fun w hw=>bringsC0 (c_clone r l w (show (evF r l).holds w from hw _ (by repeat (first|exact Mh _|apply Mt))) hl) _) ?_)
  rintro _ _ ⟨q,rfl,rfl⟩
  refine oA ?_
  refine KC (KO ?_)
  exact ⟨[_],.cons rfl .nil,fun a w' hr=>⟨_,_,⟨q,rfl,rfl⟩,rfl,evI_new hr.fr.below (hr.hp (evI q l) (by repeat (first|exact Mh _|apply Mt))) (fun k hk=>(hr.own (evI q l) (by repeat (first|exact Mh _|apply Mt)) rfl k hk).elim (fun h=>h) (fun h=>h.elim))⟩⟩
theorem c_same1 (r1 c1 r2 c2:Nat) (t1 t2:List Value) (l:List Nat) (w:World) (h1:(Item.blk r1 ⟨false,evsL l++t1,83,(0,0)⟩).holds w) (h2:(Item.blk r2 ⟨false,evsL l++t2,83,(0,0)⟩).holds w) (hl:l.length≤100000000):Calls Try.prog 55 ([.slice (some ⟨r1,0,none⟩) l.length c1,.slice (some ⟨r2,0,none⟩) l.length c2]:List Value).toArray w (fun e w'=>e = .returned (.bool true)∧Below w.heap.size w w'):=by
  refine Kj (N:=26) (rs:=[.tmp 4]) [.blk r1 ⟨false,evsL l++t1,83,(0,0)⟩,.blk r2 ⟨false,evsL l++t2,83,(0,0)⟩] Try.func55 rfl Try.ntmps55 Try.results55 (Nb rfl) ⟨h1,h2,trivial⟩ rfl ?_
  show LCode _ _ _ ⟨_,_⟩ _
  refine KB (KA ?_)
  refine oA ?_
  refine KC ?_
  refine KB ?_
  refine KB (KA ?_)
  refine oM ?_
  refine oP (KAK Try.underlying81 rfl) ?_
  refine oM ?_
  refine oP (KAK Try.underlying81 rfl) ?_
  refine oP (KH (v:=.bool false) rfl rfl (br_f br_neq (fun e=>e rfl))) ?_
  refine KC ?_
  refine KW rfl ?_
  refine KU ?_
  refine KB ?_
  refine KB (KA ?_)
  refine oP (Kf (v:=.int .i64 ((0:Nat):Int)) rfl) ?_
  refine KC ?_
  refine LCode.block ?_
  refine Ku (α:=Nat) (fun x=>x≤l.length) (fun x=>⟨[(0,.slice (some ⟨r1,0,none⟩) l.length c1),(1,.slice (some ⟨r2,0,none⟩) l.length c2),(5,.int .i64 ((x:Nat):Int))],[.blk r1 ⟨false,evsL l++t1,83,(0,0)⟩,.blk r2 ⟨false,evsL l++t2,83,(0,0)⟩]⟩) (fun x=>l.length-x) (0) (Nat.zero_le _) (Kq ⟨rfl,rfl,rfl,trivial⟩ (by repeat (first|exact Sel.nil _|refine Sel.cons (by repeat (first|exact Ph _|apply Pt_)) ?_))) ?_
  intro x hx
  refine KB ?_
  refine KB (KA ?_)
  refine oM ?_
  refine oM ?_
  refine oP (KAK Try.underlying81 rfl) ?_
  refine oP (KH rfl rfl (KAe)) ?_
  refine KC ?_
  first|refine KV rfl (fun h14=>?_) (fun h14=>?_)|refine KY rfl (fun h14=>?_) (fun h14=>?_)
  ·
    have h14:x<l.length:=h14
    obtain ⟨k,hk⟩:=get_some h14
    refine KU ?_
    refine KB ?_
    refine LCode.block ?_
    refine KB ?_
    refine rD [] ?_
    refine aM 0 ?_
    refine aM 1 ?_
    refine aP 2 rfl (Det.indexSM Try.underlying81 sz_83 rfl rfl h14) ?_
    refine aD 3 rfl (dL rfl (hv:=by exact ev_load l hk _)) ?_
    refine aM 4 ?_
    refine aM 5 ?_
    refine aP 6 rfl (Det.indexSM Try.underlying81 sz_83 rfl rfl h14) ?_
    refine aD 7 rfl (dL rfl (hv:=by exact ev_load l hk _)) ?_
    refine aP 8 rfl (KK (Det.nea (by kernel_rfl) (fun w=>eq_ev_t k 10000 (by decide) w) rfl rfl) (show _ = Value.bool false by rfl)) ?_
    refine aE ?_
    refine KW rfl ?_
    refine KU ?_
    refine KA ?_
    refine oM ?_
    refine oP (KH rfl rfl (Kx (b:=1) (by omega))) ?_
    refine oA ?_
    refine KC ?_
    exact ⟨x+1,by omega,by omega,Kq ⟨rfl,rfl,rfl,trivial⟩ (by repeat (first|exact Sel.nil _|refine Sel.cons (by repeat (first|exact Ph _|apply Pt_)) ?_))⟩
  ·
    have h14:¬ x<l.length:=h14
    refine Ks ?_
    refine KB (KA ?_)
    refine oA ?_
    refine KC (KO ?_)
    exact ⟨[_],.cons rfl .nil,fun a w' hr=>⟨rfl,hr.fr.below⟩⟩
theorem c_same0 (c1 c2:Nat) (p1 p2:Option Addr) (w:World)  : Calls Try.prog 55 ([.slice p1 0 c1,.slice p2 0 c2]:List Value).toArray w (fun e w'=>e = .returned (.bool true)∧Below w.heap.size w w'):=by
  refine Kj (N:=26) (rs:=[.tmp 4]) [] Try.func55 rfl Try.ntmps55 Try.results55 (Nb rfl) trivial rfl ?_
  show LCode _ _ _ ⟨_,_⟩ _
  refine KB (KA ?_)
  refine oA ?_
  refine KC ?_
  refine KB ?_
  refine KB (KA ?_)
  refine oM ?_
  refine oP (KAK Try.underlying81 rfl) ?_
  refine oM ?_
  refine oP (KAK Try.underlying81 rfl) ?_
  refine oP (KH (v:=.bool false) rfl rfl (br_f br_neq (fun e=>e rfl))) ?_
  refine KC ?_
  refine KW rfl ?_
  refine KU ?_
  refine KB ?_
  refine KB (KA ?_)
  refine oP (Kf (v:=.int .i64 ((0:Nat):Int)) rfl) ?_
  refine KC ?_
  refine LCode.block ?_
  refine Ku (α:=Nat) (fun x=>x≤0) (fun x=>⟨[(0,.slice p1 0 c1),(1,.slice p2 0 c2),(5,.int .i64 ((x:Nat):Int))],[]⟩) (fun x=>0-x) (0) (Nat.zero_le _) (Kq ⟨rfl,rfl,rfl,trivial⟩ (by repeat (first|exact Sel.nil _|refine Sel.cons (by repeat (first|exact Ph _|apply Pt_)) ?_))) ?_
  intro x hx
  refine KB ?_
  refine KB (KA ?_)
  refine oM ?_
  refine oM ?_
  refine oP (KAK Try.underlying81 rfl) ?_
  refine oP (KH (v:=.bool false) rfl rfl (br_f KAe (by omega))) ?_
  refine KC ?_
  refine KW rfl ?_
  refine Ks ?_
  refine KB (KA ?_)
  refine oA ?_
  refine KC (KO ?_)
  exact ⟨[_],.cons rfl .nil,fun a w' hr=>⟨rfl,hr.fr.below⟩⟩
theorem c_same (q1 q2:TrRow) (l:List Nat) (w:World) (h1:(evI q1 l).holds w) (h2:(evI q2 l).holds w) (hl:l.length≤100000000):Calls Try.prog 55 ([trSl q1 l.length,trSl q2 l.length]:List Value).toArray w (fun e w'=>e = .returned (.bool true)∧Below w.heap.size w w'):=by
  have g1:=evI_P h1
  have g2:=evI_P h2
  rcases q1 with _|⟨r1,k1,t1⟩
  · obtain rfl:l = []:=g1
    rcases q2 with _|⟨r2,k2,t2⟩
    · exact c_same0 0 0 none none w
    · exact c_same0 0 k2 none (some ⟨r2,0,none⟩) w
  · rcases q2 with _|⟨r2,k2,t2⟩
    · obtain rfl:l = []:=g2
      exact c_same0 k1 0 (some ⟨r1,0,none⟩) none w
    · exact c_same1 r1 k1 r2 k2 t1 t2 l w g1 g2 hl
end Go.Proofs.Ytlmiolnccgjjjaa
set_option linter.unusedVariables false
set_option linter.unusedSimpArgs false
set_option maxRecDepth 20000
namespace Go.Proofs.Ytlmiolnccgjjjaa
open Go Go.RowKit
open Grp
theorem c_awake19  (w:World)  : Calls Try.prog 58 ([]:List Value).toArray w (fun e w'=>e = .returned (.bool true)∧Below w.heap.size w w'):=by
  obtain ⟨V,hV⟩:∃ V,V = cv13:=⟨_,rfl⟩
  have h:cvI 13 = some V:=by rw [hV]; rfl
  obtain ⟨hok,hid⟩:=cvI_ok h
  have hn13:V.n = 223:=by rw [hV]; rfl
  obtain ⟨hb5,hb521,hba,hbb,hbx,hby,hbn,hbo,hbo2,hbb1,hbn1⟩:=hok.bounds
  have hsz:=hok.sz
  have hsp:=hsz.p
  have hsa:=hsz.a
  have hsb:=hsz.b
  have hp0:V.p≠0:=by omega
  have hpp:0<V.p:=by omega
  have hm17:∀ k,D.nw (k%V.p)≤17:=fun k=>Nat.le_trans (D.nw_mono (Nat.le_of_lt (Nat.mod_lt k hpp))) hsp
  refine Kj (N:=52) (rs:=[.tmp 0]) [] Try.func58 rfl Try.ntmps58 Try.results58 (Nb rfl) trivial rfl ?_
  show LCode _ _ _ ⟨_,_⟩ _
  refine KB (KA ?_)
  refine oA ?_
  refine KC ?_
  refine KB (KA ?_)
  refine oS (KAc (Post:=fun v its=>∃ Q,v = .tuple #[.agg (crvL Q V).toArray,.bool true]∧its = [crvI Q V]) (first:=[]) rfl en_29 rfl (Nb rfl) (fun w1 hw hs=>(c_r_Get _ V w1 h).mono fun e w' ⟨Q,h1,h2,h3,h4⟩=>⟨_,_,⟨Q,rfl,rfl⟩,h1,KAf h4 (by intro x hx; simp at hx; subst hx; exact h2) (by intro x hx; simp at hx; subst hx; rfl) (by intro x hx k hk; simp at hx; subst hx; exact .inl (h3 k hk))⟩) ?_)
  rintro _ _ ⟨Q,rfl,rfl⟩
  refine oM ?_
  refine oP (KN rfl rfl) ?_
  refine oP (KN rfl rfl) ?_
  refine oS (mk (KS zr_26) (fun b1=>?_))
  refine KT rfl (sA rfl rfl sz_26 (by repeat (first|exact KP|refine KL rfl ?_)) (hl:=by rfl) (h:=?_))
  refine oA ?_
  refine KC ?_
  refine KB (KA ?_)
  refine oS (cF rfl en_47 rfl (fun w hw=>c_One 2 w (by decide)) ?_)
  refine oS (cF rfl en_57 rfl (fun w hw=>c_bMulN 13 V (2) (pmul V.A V.G 2) w h (by omega) (rfl)) ?_)
  refine oM ?_
  refine oP (KN rfl rfl) ?_
  refine oP (KN rfl rfl) ?_
  refine oS (mk (KS zr_35) (fun b3=>?_))
  refine KT rfl (sA rfl rfl sz_35 (by exact Kb _ _ _) (hl:=by exact KJ _ _ _) (h:=?_))
  refine oA ?_
  refine KC ?_
  refine KB (KA ?_)
  refine oS (cF rfl en_47 rfl (fun w hw=>c_One 223 w (by decide)) ?_)
  refine oS (cF rfl en_57 rfl (fun w hw=>c_bMul_range none 13 V 223 w h (u64_w9 (by decide)) (by omega)) ?_)
  refine oM ?_
  refine oP (KN rfl rfl) ?_
  refine oP (KN rfl rfl) ?_
  refine oS (mk (KS zr_35) (fun b5=>?_))
  refine KT rfl (sA rfl rfl sz_35 (by exact Kb _ _ _) (hl:=by exact KJ _ _ _) (h:=?_))
  refine oA ?_
  refine KC ?_
  refine KB (KA ?_)
  refine oS (cF rfl en_47 rfl (fun w hw=>c_One 2 w (by decide)) ?_)
  refine oS (cF rfl en_57 rfl (fun w hw=>c_bMul_none none 16 2 w rfl) ?_)
  refine oM ?_
  refine oP (KN rfl rfl) ?_
  refine oP (KN rfl rfl) ?_
  refine oS (mk (KS zr_35) (fun b7=>?_))
  refine KT rfl (sA rfl rfl sz_35 (by exact Kb _ _ _) (hl:=by exact KJ _ _ _) (h:=?_))
  refine oA ?_
  refine KC ?_
  refine KB ?_
  refine rD [] ?_
  refine aM 0 ?_
  refine aO 1 rfl (cF rfl en_33 rfl (fun w hw=>c_Num _ w) ?_)
  refine aP 2 rfl (KH (v:=.bool true) rfl rfl (br_t (KAJ (b:=0)) (by first|rfl|assumption|omega|(simp; done)))) ?_
  refine aM 3 ?_
  refine aGD 4 rfl (dL rfl (hv:=by exact KG Try.underlying35 rfl sz_35)) ?_
  refine aGD 5 rfl (dL rfl (hv:=by exact KG Try.underlying26 rfl sz_26)) ?_
  refine aGD 6 rfl (dL rfl (hv:=by exact KG Try.underlying26 rfl sz_26)) ?_
  refine aGD 8 rfl (dL rfl (hv:=by exact KG Try.underlying26 rfl sz_26)) ?_
  refine aGO 7 rfl (cZ rfl en_31 rfl (fun w hw hs=>(c_r_GP Q V w (mC hw) hok).mono fun e w' h=>Num2R.q (KAZ (x:=crvI Q V) (by repeat (first|exact Mh _|apply Mt)) rfl) hs h) ?_)
  rintro _ _ ⟨qka,qkb,rfl,rfl,hnka,hnkb⟩
  refine aGO 9 rfl (cZ rfl en_31 rfl (fun w hw hs=>(c_r_GP Q V w (mC hw) hok).mono fun e w' h=>Num2R.q (KAZ (x:=crvI Q V) (by repeat (first|exact Mh _|apply Mt)) rfl) hs h) ?_)
  rintro _ _ ⟨qla,qlb,rfl,rfl,hnla,hnlb⟩
  refine aGO 10 rfl (cZ rfl en_68 rfl (fun w hw hs=>(c_r_Plus Q V qka qkb qla qlb (V.G) (V.G) (padd V.A V.G V.G) w (mC hw) hok (mC hw) (mC hw) (mC hw) (mC hw) (hok.on) (hok.on) (rfl)).mono fun e w' h=>Num2R.q (Old.pt (by repeat (first|exact Mh _|apply Mt)) (by repeat (first|exact Mh _|apply Mt)) (Old.pt (by repeat (first|exact Mh _|apply Mt)) (by repeat (first|exact Mh _|apply Mt)) (Old.nil _))) hs h) ?_)
  rintro _ _ ⟨qsa,qsb,rfl,rfl,hnsa,hnsb⟩
  refine aGO 11 rfl (cF rfl en_30 rfl (fun w hw=>c_r_OutP V qsa qsb (padd V.A V.G V.G) w (mC hw) (mC hw)) ?_)
  refine aGP 12 rfl (KK (Det.eqa (by kernel_rfl) (fun w=>eq_ptP_t hok (P:=pmul V.A V.G 2) (Q:=padd V.A V.G V.G) ((two_mulM hok hok.on).symm) 10000 (by decide) w) rfl rfl) (show _ = Value.bool true by rfl)) ?_
  refine aP 13 rfl (KZ rfl rfl) ?_
  refine aM 14 ?_
  refine aGM 15 ?_
  refine aGO 16 rfl (cF rfl en_33 rfl (fun w hw=>c_Num _ w) ?_)
  refine aGP 17 rfl (KH (v:=.bool true) rfl rfl (br_t (KAJ (b:=1901)) (by first|rfl|assumption|omega|(simp; done)))) ?_
  refine aP 18 rfl (KZ rfl rfl) ?_
  refine aM 19 ?_
  refine aGM 20 ?_
  refine aGO 21 rfl (cF rfl en_33 rfl (fun w hw=>c_Num _ w) ?_)
  refine aGP 22 rfl (KH (v:=.bool true) rfl rfl (br_t (KAJ (b:=1900)) (by first|rfl|assumption|omega|(simp; done)))) ?_
  refine aP 23 rfl (KZ rfl rfl) ?_
  refine aA 24 ?_
  refine aE ?_
  refine KO ?_
  refine ⟨[_],.cons rfl .nil,fun a w' hr=>⟨?_,hr.fr.below⟩⟩
  rfl
theorem c_Bases_none (id:Int) (K:Nat) (w:World) (h:cvI id = none):Calls Try.prog 13 ([.int .i64 id,natV K]:List Value).toArray w (fun e w'=>e = .returned (.bool true)∧Below w.heap.size w w'):=by
  refine Kj (N:=82) (rs:=[.tmp 4]) [] Try.func13 rfl Try.ntmps13 Try.results13 (Nb rfl) trivial rfl ?_
  show LCode _ _ _ ⟨_,_⟩ _
  refine KB (KA ?_)
  refine oS (mB (fun b3=>?_))
  refine oA ?_
  refine KC ?_
  refine KB (KA ?_)
  refine oM ?_
  refine oS (cF rfl en_29 rfl (fun w hw=>c_r_Get_none _ w h) ?_)
  refine oM ?_
  refine oP (KN rfl rfl) ?_
  refine oP (KN rfl rfl) ?_
  refine oS (mk (KS zr_26) (fun b5=>?_))
  refine KT rfl (sA rfl rfl sz_26 (by repeat (first|exact KP|refine KL rfl ?_)) (hl:=by rfl) (h:=?_))
  refine oA ?_
  refine KC ?_
  refine KB (KA ?_)
  refine oS (cC rfl en_36 rfl (fun w hw=>bringsC (c_trNew w) _) ?_)
  rintro _ _ ⟨tb0,rfl,rfl⟩
  refine oA ?_
  refine KC ?_
  refine KB (KA ?_)
  refine oM ?_
  refine oM ?_
  refine oD (dL rfl (hv:=by exact KG Try.underlying33 rfl sz_33)) ?_
  refine oS (cF rfl en_57 rfl (fun w hw=>c_bMul_none (some tb0) id K w h) ?_)
  refine oM ?_
  refine oP (KN rfl rfl) ?_
  refine oP (KN rfl rfl) ?_
  refine oS (mk (KS zr_35) (fun b8=>?_))
  refine KT rfl (sA rfl rfl sz_35 (by exact Kb _ _ _) (hl:=by exact KJ _ _ _) (h:=?_))
  refine oA ?_
  refine KC ?_
  refine KB ?_
  refine LCode.block ?_
  refine KB (KA ?_)
  refine oM ?_
  refine oP (KK (Det.not rfl) (show _ = Value.bool true from rfl)) ?_
  refine oA ?_
  refine KC ?_
  refine Ki rfl ?_
  refine KB (KA ?_)
  refine oM ?_
  refine oS (cF rfl en_33 rfl (fun w hw=>c_Num _ w) ?_)
  refine oP (KH (v:=.bool true) rfl rfl (br_t (KAJ (b:=1900)) (by first|rfl|assumption|omega|(simp; done)))) ?_
  refine oM ?_
  refine KAC rfl rfl (dL rfl (hv:=by exact KG Try.underlying35 rfl sz_35)) (Nb rfl) ?_
  refine oGP (KK (KAD pl_35 zr_35 rfl rfl) (show _ = ptV 0 0 false from pt_zero)) ?_
  refine oGP (KK (Det.eqa (by kernel_rfl) (fun w=>eq_pt_t zero_w9 zero_w9 10000 (by decide) w) rfl rfl) (show _ = Value.bool true by rfl)) ?_
  refine oP (KZ rfl rfl) ?_
  refine oM ?_
  refine oGM ?_
  refine oGS (cF rfl en_37 rfl (fun w hw=>c_trLen tb0 none ([]) w (mC hw)) ?_)
  refine oGP (KH (v:=.bool true) rfl rfl (br_t (KAJ (b:=0)) (by first|rfl|assumption|omega|(simp; done)))) ?_
  refine oP (KZ rfl rfl) ?_
  refine oM ?_
  refine oGS (cF rfl en_58 rfl (fun w hw=>c_awake19 w) ?_)
  refine oP (KZ rfl rfl) ?_
  refine oA ?_
  refine KC (KO ?_)
  refine ⟨[_],.cons rfl .nil,fun a w' hr=>⟨?_,hr.fr.below⟩⟩
  rfl
theorem c_Bases_range (id:Int) (V:Cv) (K:Nat) (w:World) (h:cvI id = some V) (hK9:K<W9) (hr:V.n≤K):Calls Try.prog 13 ([.int .i64 id,natV K]:List Value).toArray w (fun e w'=>e = .returned (.bool true)∧Below w.heap.size w w'):=by
  obtain ⟨hok,hid⟩:=cvI_ok h
  have hdk:=nw_w9_dig hK9
  refine Kj (N:=82) (rs:=[.tmp 4]) [] Try.func13 rfl Try.ntmps13 Try.results13 (Nb rfl) trivial rfl ?_
  show LCode _ _ _ ⟨_,_⟩ _
  refine KB (KA ?_)
  refine oS (mB (fun b3=>?_))
  refine oA ?_
  refine KC ?_
  refine KB (KA ?_)
  refine oM ?_
  refine oS (KAc (Post:=fun v its=>∃ Q,v = .tuple #[.agg (crvL Q V).toArray,.bool true]∧its = [crvI Q V]) (first:=[]) rfl en_29 rfl (Nb rfl) (fun w1 hw hs=>(c_r_Get _ V w1 h).mono fun e w' ⟨Q,h1,h2,h3,h4⟩=>⟨_,_,⟨Q,rfl,rfl⟩,h1,KAf h4 (by intro x hx; simp at hx; subst hx; exact h2) (by intro x hx; simp at hx; subst hx; rfl) (by intro x hx k hk; simp at hx; subst hx; exact .inl (h3 k hk))⟩) ?_)
  rintro _ _ ⟨Q,rfl,rfl⟩
  refine oM ?_
  refine oP (KN rfl rfl) ?_
  refine oP (KN rfl rfl) ?_
  refine oS (mk (KS zr_26) (fun b5=>?_))
  refine KT rfl (sA rfl rfl sz_26 (by repeat (first|exact KP|refine KL rfl ?_)) (hl:=by rfl) (h:=?_))
  refine oA ?_
  refine KC ?_
  refine KB (KA ?_)
  refine oS (cC rfl en_36 rfl (fun w hw=>bringsC (c_trNew w) _) ?_)
  rintro _ _ ⟨tb0,rfl,rfl⟩
  refine oA ?_
  refine KC ?_
  refine KB (KA ?_)
  refine oM ?_
  refine oM ?_
  refine oD (dL rfl (hv:=by exact KG Try.underlying33 rfl sz_33)) ?_
  refine oS (cF rfl en_57 rfl (fun w hw=>c_bMul_range (some tb0) id V K w h hK9 hr) ?_)
  refine oM ?_
  refine oP (KN rfl rfl) ?_
  refine oP (KN rfl rfl) ?_
  refine oS (mk (KS zr_35) (fun b8=>?_))
  refine KT rfl (sA rfl rfl sz_35 (by exact Kb _ _ _) (hl:=by exact KJ _ _ _) (h:=?_))
  refine oA ?_
  refine KC ?_
  refine KB ?_
  refine LCode.block ?_
  refine KB (KA ?_)
  refine oM ?_
  refine oP (KK (Det.not rfl) (show _ = Value.bool false from rfl)) ?_
  refine oA ?_
  refine KC ?_
  refine KW rfl ?_
  refine KB ?_
  refine rD [] ?_
  refine aD 0 rfl (dL rfl (hv:=by exact KG Try.underlying33 rfl sz_33)) ?_
  refine aP 2 rfl (KE (o':=4) Try.underlying26 rfl rfl rfl sz_24 (by decide)) ?_
  refine aD 3 rfl (dL rfl (hv:=KM Try.underlying24 rfl (by first|rfl|exact Kg _ _ _ (by omega)|exact Ke _ (by omega)|exact Kd _ (by omega)|exact dv_m _ _ _ (by omega)))) ?_
  refine aO 1 rfl (cZ rfl en_46 rfl (fun w hw hs=>(c_n_From (K) hK9 w).mono fun e w' h=>KAB (Old.nil _) hs h) ?_)
  rintro _ _ ⟨qu,rfl,rfl,hnu⟩
  refine aO 4 rfl (cF rfl en_59 rfl (fun w hw=>c_n_Cmp qu Q.n K V.n w (mC hw) (crvI_n (mC hw)) (by omega)) ?_)
  refine aP 5 rfl (KH (v:=.bool true) rfl rfl (br_t cmp_geq (hr))) ?_
  refine aA 6 ?_
  refine aE ?_
  refine Ki rfl ?_
  refine KB (KA ?_)
  refine oM ?_
  refine oS (cF rfl en_33 rfl (fun w hw=>c_Num _ w) ?_)
  refine oP (KH (v:=.bool true) rfl rfl (br_t (KAJ (b:=1901)) (by first|rfl|assumption|omega|(simp; done)))) ?_
  refine oM ?_
  refine KAC rfl rfl (dL rfl (hv:=by exact KG Try.underlying35 rfl sz_35)) (Nb rfl) ?_
  refine oGP (KK (KAD pl_35 zr_35 rfl rfl) (show _ = ptV 0 0 false from pt_zero)) ?_
  refine oGP (KK (Det.eqa (by kernel_rfl) (fun w=>eq_pt_t zero_w9 zero_w9 10000 (by decide) w) rfl rfl) (show _ = Value.bool true by rfl)) ?_
  refine oP (KZ rfl rfl) ?_
  refine oM ?_
  refine oGM ?_
  refine oGS (cF rfl en_37 rfl (fun w hw=>c_trLen tb0 none ([]) w (mC hw)) ?_)
  refine oGP (KH (v:=.bool true) rfl rfl (br_t (KAJ (b:=0)) (by first|rfl|assumption|omega|(simp; done)))) ?_
  refine oP (KZ rfl rfl) ?_
  refine oM ?_
  refine oGS (cF rfl en_58 rfl (fun w hw=>c_awake19 w) ?_)
  refine oP (KZ rfl rfl) ?_
  refine oA ?_
  refine KC (KO ?_)
  refine ⟨[_],.cons rfl .nil,fun a w' hr=>⟨?_,hr.fr.below⟩⟩
  rfl
theorem c_Bases_ok (id:Int) (V:Cv) (K:Nat) (w:World) (h:cvI id = some V) (hK9:K<W9) (hK:K<V.n):Calls Try.prog 13 ([.int .i64 id,natV K]:List Value).toArray w (fun e w'=>e = .returned (.bool true)∧Below w.heap.size w w'):=by
  obtain ⟨hok,hid⟩:=cvI_ok h
  have hdk:=nw_w9_dig hK9
  obtain ⟨m,hm⟩:∃ m,(blen V.n+3)/4 = m:=⟨_,rfl⟩
  refine Kj (N:=82) (rs:=[.tmp 4]) [] Try.func13 rfl Try.ntmps13 Try.results13 (Nb rfl) trivial rfl ?_
  show LCode _ _ _ ⟨_,_⟩ _
  refine KB (KA ?_)
  refine oS (mB (fun b3=>?_))
  refine oA ?_
  refine KC ?_
  refine KB (KA ?_)
  refine oM ?_
  refine oS (KAc (Post:=fun v its=>∃ Q,v = .tuple #[.agg (crvL Q V).toArray,.bool true]∧its = [crvI Q V]) (first:=[]) rfl en_29 rfl (Nb rfl) (fun w1 hw hs=>(c_r_Get _ V w1 h).mono fun e w' ⟨Q,h1,h2,h3,h4⟩=>⟨_,_,⟨Q,rfl,rfl⟩,h1,KAf h4 (by intro x hx; simp at hx; subst hx; exact h2) (by intro x hx; simp at hx; subst hx; rfl) (by intro x hx k hk; simp at hx; subst hx; exact .inl (h3 k hk))⟩) ?_)
  rintro _ _ ⟨Q,rfl,rfl⟩
  refine oM ?_
  refine oP (KN rfl rfl) ?_
  refine oP (KN rfl rfl) ?_
  refine oS (mk (KS zr_26) (fun b5=>?_))
  refine KT rfl (sA rfl rfl sz_26 (by repeat (first|exact KP|refine KL rfl ?_)) (hl:=by rfl) (h:=?_))
  refine oA ?_
  refine KC ?_
  refine KB (KA ?_)
  refine oS (cC rfl en_36 rfl (fun w hw=>bringsC (c_trNew w) _) ?_)
  rintro _ _ ⟨tb0,rfl,rfl⟩
  refine oA ?_
  refine KC ?_
  refine KB (KA ?_)
  refine oM ?_
  refine oM ?_
  refine oD (dL rfl (hv:=by exact KG Try.underlying33 rfl sz_33)) ?_
  refine KT rfl (LStepW.callT (first:=[]) (b:=some tb0) (r:=none) (l:=[]) (l':=[]++evN m) rfl en_57 rfl (Nb rfl) (by repeat (first|exact Pick.head _|apply Pick.tail)) (fun w hw hn=>c_bMul (some tb0) none ([]) id V (K) m hm w h hK (mC hw) (Nat.zero_le _)) ?_)
  intro r1
  refine oM ?_
  refine oP (KN rfl rfl) ?_
  refine oP (KN rfl rfl) ?_
  refine oS (mk (KS zr_35) (fun b8=>?_))
  refine KT rfl (sA rfl rfl sz_35 (by exact Kb _ _ _) (hl:=by exact KJ _ _ _) (h:=?_))
  refine oA ?_
  refine KC ?_
  refine KB ?_
  refine LCode.block ?_
  refine KB (KA ?_)
  refine oM ?_
  refine oP (KK (Det.not rfl) (show _ = Value.bool false from rfl)) ?_
  refine oA ?_
  refine KC ?_
  refine KW rfl ?_
  refine KB ?_
  refine rD [] ?_
  refine aD 0 rfl (dL rfl (hv:=by exact KG Try.underlying33 rfl sz_33)) ?_
  refine aP 2 rfl (KE (o':=4) Try.underlying26 rfl rfl rfl sz_24 (by decide)) ?_
  refine aD 3 rfl (dL rfl (hv:=KM Try.underlying24 rfl (by first|rfl|exact Kg _ _ _ (by omega)|exact Ke _ (by omega)|exact Kd _ (by omega)|exact dv_m _ _ _ (by omega)))) ?_
  refine aO 1 rfl (cZ rfl en_46 rfl (fun w hw hs=>(c_n_From (K) hK9 w).mono fun e w' h=>KAB (Old.nil _) hs h) ?_)
  rintro _ _ ⟨qu,rfl,rfl,hnu⟩
  refine aO 4 rfl (cF rfl en_59 rfl (fun w hw=>c_n_Cmp qu Q.n K V.n w (mC hw) (crvI_n (mC hw)) (by omega)) ?_)
  refine aP 5 rfl (KH (v:=.bool false) rfl rfl (br_f cmp_geq (Nat.not_le_of_gt hK))) ?_
  refine aA 6 ?_
  refine aE ?_
  refine KW rfl ?_
  refine KU ?_
  refine KB ?_
  refine rD [] ?_
  refine aM 0 ?_
  refine aO 1 rfl (cF rfl en_33 rfl (fun w hw=>c_Num _ w) ?_)
  refine aP 2 rfl (KH (v:=.bool true) rfl rfl (br_t (KAJ (b:=0)) (by first|rfl|assumption|omega|(simp; done)))) ?_
  refine aM 3 ?_
  refine aGD 4 rfl (dL rfl (hv:=by exact KG Try.underlying35 rfl sz_35)) ?_
  refine aGD 5 rfl (dL rfl (hv:=by exact KG Try.underlying26 rfl sz_26)) ?_
  refine aGD 6 rfl (dL rfl (hv:=by exact KG Try.underlying33 rfl sz_33)) ?_
  refine aGD 8 rfl (dL rfl (hv:=by exact KG Try.underlying26 rfl sz_26)) ?_
  refine aGO 7 rfl (cZ rfl en_46 rfl (fun w hw hs=>(c_n_From (K) hK9 w).mono fun e w' h=>KAB (Old.nil _) hs h) ?_)
  rintro _ _ ⟨qz,rfl,rfl,hnz⟩
  refine aGO 9 rfl (cZ rfl en_31 rfl (fun w hw hs=>(c_r_GP Q V w (mC hw) hok).mono fun e w' h=>Num2R.q (KAZ (x:=crvI Q V) (by repeat (first|exact Mh _|apply Mt)) rfl) hs h) ?_)
  rintro _ _ ⟨qga,qgb,rfl,rfl,hnga,hngb⟩
  refine aGO 10 rfl (cZ rfl en_38 rfl (fun w hw hs=>(c_r_Times Q V qz (K) qga qgb (V.G) (pmul V.A V.G K) w (mC hw) hok (mC hw) (by omega) (mC hw) (mC hw) (hok.on) (rfl)).mono fun e w' h=>Num2R.q (Old.pt (by repeat (first|exact Mh _|apply Mt)) (by repeat (first|exact Mh _|apply Mt)) (Old.nil _)) hs h) ?_)
  rintro _ _ ⟨qsa,qsb,rfl,rfl,hnsa,hnsb⟩
  refine aGO 11 rfl (cF rfl en_30 rfl (fun w hw=>c_r_OutP V qsa qsb (pmul V.A V.G K) w (mC hw) (mC hw)) ?_)
  refine aGP 12 rfl (KK (Det.eqa (by kernel_rfl) (fun w=>eq_ptP_t hok (P:=pmul V.A V.G K) (Q:=pmul V.A V.G K) (rfl) 10000 (by decide) w) rfl rfl) (show _ = Value.bool true by rfl)) ?_
  refine aP 13 rfl (KZ rfl rfl) ?_
  refine aM 14 ?_
  refine aGO 15 rfl (cF rfl en_58 rfl (fun w hw=>c_awake19 w) ?_)
  refine aP 16 rfl (KZ rfl rfl) ?_
  refine aA 17 ?_
  refine aE ?_
  refine KO ?_
  refine ⟨[_],.cons rfl .nil,fun a w' hr=>⟨?_,hr.fr.below⟩⟩
  rfl
theorem c_Bases (id:Int) (K:Nat) (w:World) (hK:K<W9):Calls Try.prog 13 ([.int .i64 id,natV K]:List Value).toArray w (fun e w'=>e = .returned (.bool true)∧Below w.heap.size w w'):=by
  cases h:cvI id with
  | none=>exact c_Bases_none id K w h
  | some V =>
    by_cases hr:V.n≤K
    · exact c_Bases_range id V K w h hK hr
    · exact c_Bases_ok id V K w h hK (by omega)
theorem c_BaseNil (id:Int) (d:Nat) (w:World) (hd:d<W9):Calls Try.prog 14 ([.int .i64 id,natV d]:List Value).toArray w (fun e w'=>e = .returned (.bool true)∧Below w.heap.size w w'):=by
  obtain ⟨V,h⟩:=cvI_idx id
  obtain ⟨hok,hid⟩:=cvI_ok h
  have h2:=cvI_id h
  obtain ⟨hb5,hb521,hba,hbb,hbx,hby,hbn,hbo,hbo2,hbb1,hbn1⟩:=hok.bounds
  have hsz:=hok.sz
  have hsp:=hsz.p
  have hsa:=hsz.a
  have hsb:=hsz.b
  have hp0:V.p≠0:=by omega
  have hpp:0<V.p:=by omega
  have hm17:∀ k,D.nw (k%V.p)≤17:=fun k=>Nat.le_trans (D.nw_mono (Nat.le_of_lt (Nat.mod_lt k hpp))) hsp
  have hpW:V.p<W9:=w9_521 hb521
  have hnW:V.n<W9:=w9_521 hbn
  have hxW:=Nat.lt_trans hbx hpW
  have hyW:=Nat.lt_trans hby hpW
  have hsn:=hsz.n
  have h17:∀ {A:Nat},A<V.p→D.nw A≤100000:=fun h=>Nat.le_trans (nw_521 (Nat.lt_trans h hb521)) (by decide)
  have hn0:V.n≠0:=by omega
  have hnp:0<V.n:=by omega
  have hdd:=nw_w9_dig hd
  have hXn:=Nat.mod_lt d hnp
  have hX9:=Nat.lt_trans hXn hnW
  have hXd:D.nw (d%V.n)≤17:=nw_521 (Nat.lt_trans hXn hbn)
  obtain ⟨m,hm⟩:∃ m,(blen V.n+3)/4 = m:=⟨_,rfl⟩
  have hbl9:=blen_w9 hnW
  have hm1:1≤m:=by have:=Nat.pos_of_ne_zero (blen_ne hn0); omega
  have hmx:m≤200:=by omega
  refine Kj (N:=115) (rs:=[.tmp 4]) [] Try.func14 rfl Try.ntmps14 Try.results14 (Nb rfl) trivial rfl ?_
  show LCode _ _ _ ⟨_,_⟩ _
  refine KB (KA ?_)
  refine oS (mB (fun b3=>?_))
  refine oA ?_
  refine KC ?_
  refine KB ?_
  refine KB (KA ?_)
  refine oS (cF rfl en_58 rfl (fun w hw=>c_awake19 w) ?_)
  refine oP (KK (Det.not rfl) (show _ = Value.bool false from rfl)) ?_
  refine KC ?_
  refine KW rfl ?_
  refine KU ?_
  refine KB (KA ?_)
  refine oM ?_
  refine oP (KK (Det.conv Try.underlying3 Try.underlying29 rfl) (uidx_eq _)) ?_
  refine oP (KH rfl rfl (br_rem64 (b:=15) (by omega))) ?_
  refine oP (Det.convi Try.underlying29 Try.underlying3 rfl (by omega)) ?_
  refine oP (KH rfl rfl (Kx (a:=1) (by omega))) ?_
  refine oS (KAc (Post:=fun v its=>∃ Q,v = .tuple #[.agg (crvL Q V).toArray,.bool true]∧its = [crvI Q V]) (first:=[]) rfl en_29 rfl (Nb rfl) (fun w1 hw hs=>(c_r_Get _ V w1 h).mono fun e w' ⟨Q,h1,h2,h3,h4⟩=>⟨_,_,⟨Q,rfl,rfl⟩,h1,KAf h4 (by intro x hx; simp at hx; subst hx; exact h2) (by intro x hx; simp at hx; subst hx; rfl) (by intro x hx k hk; simp at hx; subst hx; exact .inl (h3 k hk))⟩) ?_)
  rintro _ _ ⟨Q,rfl,rfl⟩
  refine oM ?_
  refine oP (KN rfl rfl) ?_
  refine oP (KN rfl rfl) ?_
  refine oS (mk (KS zr_26) (fun b5=>?_))
  refine KT rfl (sA rfl rfl sz_26 (by repeat (first|exact KP|refine KL rfl ?_)) (hl:=by rfl) (h:=?_))
  refine oA ?_
  refine KC ?_
  refine KB ?_
  refine KB (KA ?_)
  refine oM ?_
  refine oP (KK (Det.not rfl) (show _ = Value.bool false from rfl)) ?_
  refine KC ?_
  refine KW rfl ?_
  refine KU ?_
  refine KB ?_
  refine rD [7] ?_
  refine aD 0 rfl (dL rfl (hv:=by exact KG Try.underlying33 rfl sz_33)) ?_
  refine aP 2 rfl (KE (o':=4) Try.underlying26 rfl rfl rfl sz_24 (by decide)) ?_
  refine aD 3 rfl (dL rfl (hv:=KM Try.underlying24 rfl (by first|rfl|exact Kg _ _ _ (by omega)|exact Ke _ (by omega)|exact Kd _ (by omega)|exact dv_m _ _ _ (by omega)))) ?_
  refine KAV ?_
  refine Kz 6 rfl (.inl zr_33) (Nb rfl) rfl rfl rfl ?_
  refine Kh 1 rfl rfl rfl (Nb rfl) (by kernel_rfl) rfl (KAS (first:=[]) rfl en_46 rfl (fun w hw hs=>(c_n_From (d) hd w).mono fun e w' h=>KAB (Old.nil _) hs h)) ?_
  rintro _ _ ⟨qd,rfl,rfl,hnd⟩
  refine Kh 4 rfl rfl rfl (Nb rfl) (by kernel_rfl) rfl (KAS (first:=[]) rfl en_60 rfl (fun w hw hs=>(c_n_Mod qd Q.n (d) V.n hn0 w (mC hw) (crvI_n (mC hw)) (by omega)).mono fun e w' h=>KAB (KAZ (x:=numT qd (d)) (by repeat (first|exact Mh _|apply Mt)) rfl) hs h)) ?_
  rintro _ _ ⟨qx,rfl,rfl,hnx⟩
  refine Kh 5 rfl rfl rfl (Nb rfl) (by kernel_rfl) rfl (Ko (first:=[]) rfl en_52 rfl (fun w hw=>c_n_Nat qx (d%V.n) (D.nw (d%V.n)) w (mC hw))) ?_
  rintro _ _ ⟨rfl,rfl⟩
  refine pE (fun b7=>?_)
  refine KAH ?_
  refine aL 7 rfl (sA rfl rfl sz_33 (by exact Ka _) (hl:=by exact KD _) (h:=?_))
  refine aE ?_
  refine KB (KA ?_)
  refine oS (cC rfl en_36 rfl (fun w hw=>bringsC (c_trNew w) _) ?_)
  rintro _ _ ⟨tb0,rfl,rfl⟩
  refine oA ?_
  refine KC ?_
  refine KB (KA ?_)
  refine oM ?_
  refine oP (KE (o':=0) Try.underlying26 rfl rfl rfl sz_3 (by decide)) ?_
  refine oD (dL rfl (hv:=KM Try.underlying3 rfl (by first|rfl|exact Kg _ _ _ (by omega)|exact Ke _ (by omega)|exact Kd _ (by omega)|exact dv_m _ _ _ (by omega)))) ?_
  refine oD (dL rfl (hv:=by exact KG Try.underlying33 rfl sz_33)) ?_
  refine KT rfl (LStepW.callT (first:=[]) (b:=some tb0) (r:=none) (l:=[]) (l':=[]++evN m) rfl en_57 rfl (Nb rfl) (by repeat (first|exact Pick.head _|apply Pick.tail)) (fun w hw hn=>c_bMul (some tb0) none ([]) _ V (d%V.n) m hm w h2 hXn (mC hw) (Nat.zero_le _)) ?_)
  intro r1
  refine oM ?_
  refine oP (KN rfl rfl) ?_
  refine oP (KN rfl rfl) ?_
  refine oS (mk (KS zr_35) (fun b9=>?_))
  refine KT rfl (sA rfl rfl sz_35 (by exact Kb _ _ _) (hl:=by exact KJ _ _ _) (h:=?_))
  refine oA ?_
  refine KC ?_
  refine KB (KA ?_)
  refine oM ?_
  refine oS (cF rfl en_37 rfl (fun w hw=>c_trLen tb0 r1 ([]++evN m) w (mC hw)) ?_)
  refine oA ?_
  refine KC ?_
  refine KB (KA ?_)
  refine oP (KE (o':=0) Try.underlying26 rfl rfl rfl sz_3 (by decide)) ?_
  refine oD (dL rfl (hv:=KM Try.underlying3 rfl (by first|rfl|exact Kg _ _ _ (by omega)|exact Ke _ (by omega)|exact Kd _ (by omega)|exact dv_m _ _ _ (by omega)))) ?_
  refine oD (dL rfl (hv:=by exact KG Try.underlying33 rfl sz_33)) ?_
  refine oS (cF rfl en_57 rfl (fun w hw=>c_bMulN _ V (d%V.n) (pmul V.A V.G (d%V.n)) w h2 hXn (rfl)) ?_)
  refine oM ?_
  refine oP (KN rfl rfl) ?_
  refine oP (KN rfl rfl) ?_
  refine oS (mk (KS zr_35) (fun b12=>?_))
  refine KT rfl (sA rfl rfl sz_35 (by exact Kb _ _ _) (hl:=by exact KJ _ _ _) (h:=?_))
  refine oA ?_
  refine KC ?_
  refine KB ?_
  refine rD [11] ?_
  refine aM 0 ?_
  refine aP 1 rfl (KE (o':=0) Try.underlying26 rfl rfl rfl sz_3 (by decide)) ?_
  refine aD 2 rfl (dL rfl (hv:=KM Try.underlying3 rfl (by first|rfl|exact Kg _ _ _ (by omega)|exact Ke _ (by omega)|exact Kd _ (by omega)|exact dv_m _ _ _ (by omega)))) ?_
  refine aP 3 rfl (KE (o':=4) Try.underlying26 rfl rfl rfl sz_24 (by decide)) ?_
  refine aD 4 rfl (dL rfl (hv:=KM Try.underlying24 rfl (by first|rfl|exact Kg _ _ _ (by omega)|exact Ke _ (by omega)|exact Kd _ (by omega)|exact dv_m _ _ _ (by omega)))) ?_
  refine KAV ?_
  refine Kz 10 rfl (.inl zr_35) (Nb rfl) rfl rfl rfl ?_
  refine Kh 5 rfl rfl rfl (Nb rfl) (by kernel_rfl) rfl (Ko (first:=[]) rfl en_52 rfl (fun w hw=>c_n_Nat Q.n V.n (D.nw V.n) w (crvI_n (mC hw)))) ?_
  rintro _ _ ⟨rfl,rfl⟩
  refine Kh 6 rfl rfl rfl (Nb rfl) (by kernel_rfl) rfl (Ko (first:=[]) rfl en_57 rfl (fun w hw=>c_bMul_range (some tb0) _ V V.n w h2 hnW (Nat.le_refl _))) ?_
  rintro _ _ ⟨rfl,rfl⟩
  refine pM 7 ?_
  refine pP 8 rfl (KN rfl rfl) ?_
  refine pP 9 rfl (KN rfl rfl) ?_
  refine pE (fun b14=>?_)
  refine KAH ?_
  refine aL 11 rfl (sA rfl rfl sz_35 (by exact Kb _ _ _) (hl:=by exact KJ _ _ _) (h:=?_))
  refine aA 12 ?_
  refine aE ?_
  refine KB (KA ?_)
  refine oM ?_
  refine oS (cF rfl en_37 rfl (fun w hw=>c_trLen tb0 r1 ([]++evN m) w (mC hw)) ?_)
  refine oA ?_
  refine KC ?_
  refine KB ?_
  refine rD [4,9] ?_
  refine aM 0 ?_
  refine aP 1 rfl (KE (o':=0) Try.underlying26 rfl rfl rfl sz_3 (by decide)) ?_
  refine aD 2 rfl (dL rfl (hv:=KM Try.underlying3 rfl (by first|rfl|exact Kg _ _ _ (by omega)|exact Ke _ (by omega)|exact Kd _ (by omega)|exact dv_m _ _ _ (by omega)))) ?_
  refine KAQ 3 8 rfl rfl rfl rfl (by kernel_rfl) (.inr (cF rfl en_47 rfl (fun w hw=>c_One 1 w (by omega)) ?_)) (.inr (mk (KS zr_35) (fun b17=>?_)))
  ·
    refine KAQ 4 8 rfl rfl rfl rfl (by kernel_rfl) (.inl ⟨rfl,LStepW.callT (first:=[]) (b:=some tb0) (r:=r1) (l:=[]++evN m) (l':=[]++evN m++evN m) rfl en_57 rfl (Nb rfl) (by repeat (first|exact Pick.head _|apply Pick.tail)) (fun w hw hn=>c_bMul (some tb0) r1 ([]++evN m) _ V (1) m hm w h2 (by omega) (mC hw) (by rw [List.nil_append,evN_length]; omega)) ?_⟩) (.inr (mk (KS zr_35) (fun b17=>?_)))
    ·
      intro r2
      refine aM 5 ?_
      refine aP 6 rfl (KN rfl rfl) ?_
      refine aP 7 rfl (KN rfl rfl) ?_
      refine aO 8 rfl (mk (KS zr_35) (fun b17=>?_))
      refine aL 9 rfl (sA rfl rfl sz_35 (by exact Kb _ _ _) (hl:=by exact KJ _ _ _) (h:=?_))
      refine aA 10 ?_
      refine aE ?_
      refine KB (KA ?_)
      refine oM ?_
      refine oS (cF rfl en_33 rfl (fun w hw=>c_Num _ w) ?_)
      refine oP (KH (v:=.bool true) rfl rfl (br_t (KAJ (b:=0)) (by first|rfl|assumption|omega|(simp; done)))) ?_
      refine oM ?_
      refine oGM ?_
      refine oGS (cF rfl en_33 rfl (fun w hw=>c_Num _ w) ?_)
      refine oGP (KH (v:=.bool true) rfl rfl (br_t (KAJ (b:=0)) (by first|rfl|assumption|omega|(simp; done)))) ?_
      refine oP (KZ rfl rfl) ?_
      refine oM ?_
      refine oGM ?_
      refine oGS (cF rfl en_33 rfl (fun w hw=>c_Num _ w) ?_)
      refine oGP (KH (v:=.bool true) rfl rfl (br_t (KAJ (b:=1901)) (by first|rfl|assumption|omega|(simp; done)))) ?_
      refine oP (KZ rfl rfl) ?_
      refine oM ?_
      refine oGM ?_
      refine oGS (cF rfl en_33 rfl (fun w hw=>c_Num _ w) ?_)
      refine oGP (KH (v:=.bool true) rfl rfl (br_t (KAJ (b:=0)) (by first|rfl|assumption|omega|(simp; done)))) ?_
      refine oP (KZ rfl rfl) ?_
      refine oM ?_
      refine KAC rfl rfl (dL rfl (hv:=by exact KG Try.underlying35 rfl sz_35)) (Nb rfl) ?_
      refine KAC rfl rfl (dL rfl (hv:=by exact KG Try.underlying35 rfl sz_35)) (Nb rfl) ?_
      refine oGP (KK (Det.eqa (by kernel_rfl) (fun w=>eq_ptP_t hok (P:=pmul V.A V.G (d%V.n)) (Q:=pmul V.A V.G (d%V.n)) (rfl) 10000 (by decide) w) rfl rfl) (show _ = Value.bool true by rfl)) ?_
      refine oP (KZ rfl rfl) ?_
      refine oM ?_
      refine oGM ?_
      refine oGM ?_
      refine oGP (KH (v:=.bool true) rfl rfl (br_t KAJ (rfl))) ?_
      refine oP (KZ rfl rfl) ?_
      refine oM ?_
      refine oGM ?_
      refine oGS (cF rfl en_37 rfl (fun w hw=>c_trLen tb0 r2 (([]++evN m)++evN m) w (mC hw)) ?_)
      refine oGM ?_
      refine oGP (KH rfl rfl (br_mul (a:=2) (by rw [List.nil_append,evN_length]; omega))) ?_
      refine oGP (KH (v:=.bool true) rfl rfl (br_t KAJ (by rw [List.nil_append,List.length_append,Nat.two_mul]))) ?_
      refine oP (KZ rfl rfl) ?_
      refine oM ?_
      refine oGM ?_
      refine oGP (KH (v:=.bool true) rfl rfl (br_t (br_gtr (b:=0)) (by rw [List.nil_append,evN_length]; omega))) ?_
      refine oP (KZ rfl rfl) ?_
      refine oA ?_
      refine KC (KO ?_)
      refine ⟨[_],.cons rfl .nil,fun a w' hr=>⟨?_,hr.fr.below⟩⟩
      rfl
    ·
      refine aL 4 rfl (LStepW.callT (first:=[]) (b:=some tb0) (r:=r1) (l:=[]++evN m) (l':=[]++evN m++evN m) rfl en_57 rfl (Nb rfl) (by repeat (first|exact Pick.head _|apply Pick.tail)) (fun w hw hn=>c_bMul (some tb0) r1 ([]++evN m) _ V (1) m hm w h2 (by omega) (mC hw) (by rw [List.nil_append,evN_length]; omega)) ?_)
      intro r2
      refine aM 5 ?_
      refine aP 6 rfl (KN rfl rfl) ?_
      refine aP 7 rfl (KN rfl rfl) ?_
      refine aL 9 rfl (sA rfl rfl sz_35 (by exact Kb _ _ _) (hl:=by exact KJ _ _ _) (h:=?_))
      refine aA 10 ?_
      refine aE ?_
      refine KB (KA ?_)
      refine oM ?_
      refine oS (cF rfl en_33 rfl (fun w hw=>c_Num _ w) ?_)
      refine oP (KH (v:=.bool true) rfl rfl (br_t (KAJ (b:=0)) (by first|rfl|assumption|omega|(simp; done)))) ?_
      refine oM ?_
      refine oGM ?_
      refine oGS (cF rfl en_33 rfl (fun w hw=>c_Num _ w) ?_)
      refine oGP (KH (v:=.bool true) rfl rfl (br_t (KAJ (b:=0)) (by first|rfl|assumption|omega|(simp; done)))) ?_
      refine oP (KZ rfl rfl) ?_
      refine oM ?_
      refine oGM ?_
      refine oGS (cF rfl en_33 rfl (fun w hw=>c_Num _ w) ?_)
      refine oGP (KH (v:=.bool true) rfl rfl (br_t (KAJ (b:=1901)) (by first|rfl|assumption|omega|(simp; done)))) ?_
      refine oP (KZ rfl rfl) ?_
      refine oM ?_
      refine oGM ?_
      refine oGS (cF rfl en_33 rfl (fun w hw=>c_Num _ w) ?_)
      refine oGP (KH (v:=.bool true) rfl rfl (br_t (KAJ (b:=0)) (by first|rfl|assumption|omega|(simp; done)))) ?_
      refine oP (KZ rfl rfl) ?_
      refine oM ?_
      refine KAC rfl rfl (dL rfl (hv:=by exact KG Try.underlying35 rfl sz_35)) (Nb rfl) ?_
      refine KAC rfl rfl (dL rfl (hv:=by exact KG Try.underlying35 rfl sz_35)) (Nb rfl) ?_
      refine oGP (KK (Det.eqa (by kernel_rfl) (fun w=>eq_ptP_t hok (P:=pmul V.A V.G (d%V.n)) (Q:=pmul V.A V.G (d%V.n)) (rfl) 10000 (by decide) w) rfl rfl) (show _ = Value.bool true by rfl)) ?_
      refine oP (KZ rfl rfl) ?_
      refine oM ?_
      refine oGM ?_
      refine oGM ?_
      refine oGP (KH (v:=.bool true) rfl rfl (br_t KAJ (rfl))) ?_
      refine oP (KZ rfl rfl) ?_
      refine oM ?_
      refine oGM ?_
      refine oGS (cF rfl en_37 rfl (fun w hw=>c_trLen tb0 r2 (([]++evN m)++evN m) w (mC hw)) ?_)
      refine oGM ?_
      refine oGP (KH rfl rfl (br_mul (a:=2) (by rw [List.nil_append,evN_length]; omega))) ?_
      refine oGP (KH (v:=.bool true) rfl rfl (br_t KAJ (by rw [List.nil_append,List.length_append,Nat.two_mul]))) ?_
      refine oP (KZ rfl rfl) ?_
      refine oM ?_
      refine oGM ?_
      refine oGP (KH (v:=.bool true) rfl rfl (br_t (br_gtr (b:=0)) (by rw [List.nil_append,evN_length]; omega))) ?_
      refine oP (KZ rfl rfl) ?_
      refine oA ?_
      refine KC (KO ?_)
      refine ⟨[_],.cons rfl .nil,fun a w' hr=>⟨?_,hr.fr.below⟩⟩
      rfl
  ·
    refine aO 3 rfl (cF rfl en_47 rfl (fun w hw=>c_One 1 w (by omega)) ?_)
    refine aL 4 rfl (LStepW.callT (first:=[]) (b:=some tb0) (r:=r1) (l:=[]++evN m) (l':=[]++evN m++evN m) rfl en_57 rfl (Nb rfl) (by repeat (first|exact Pick.head _|apply Pick.tail)) (fun w hw hn=>c_bMul (some tb0) r1 ([]++evN m) _ V (1) m hm w h2 (by omega) (mC hw) (by rw [List.nil_append,evN_length]; omega)) ?_)
    intro r2
    refine aM 5 ?_
    refine aP 6 rfl (KN rfl rfl) ?_
    refine aP 7 rfl (KN rfl rfl) ?_
    refine aL 9 rfl (sA rfl rfl sz_35 (by exact Kb _ _ _) (hl:=by exact KJ _ _ _) (h:=?_))
    refine aA 10 ?_
    refine aE ?_
    refine KB (KA ?_)
    refine oM ?_
    refine oS (cF rfl en_33 rfl (fun w hw=>c_Num _ w) ?_)
    refine oP (KH (v:=.bool true) rfl rfl (br_t (KAJ (b:=0)) (by first|rfl|assumption|omega|(simp; done)))) ?_
    refine oM ?_
    refine oGM ?_
    refine oGS (cF rfl en_33 rfl (fun w hw=>c_Num _ w) ?_)
    refine oGP (KH (v:=.bool true) rfl rfl (br_t (KAJ (b:=0)) (by first|rfl|assumption|omega|(simp; done)))) ?_
    refine oP (KZ rfl rfl) ?_
    refine oM ?_
    refine oGM ?_
    refine oGS (cF rfl en_33 rfl (fun w hw=>c_Num _ w) ?_)
    refine oGP (KH (v:=.bool true) rfl rfl (br_t (KAJ (b:=1901)) (by first|rfl|assumption|omega|(simp; done)))) ?_
    refine oP (KZ rfl rfl) ?_
    refine oM ?_
    refine oGM ?_
    refine oGS (cF rfl en_33 rfl (fun w hw=>c_Num _ w) ?_)
    refine oGP (KH (v:=.bool true) rfl rfl (br_t (KAJ (b:=0)) (by first|rfl|assumption|omega|(simp; done)))) ?_
    refine oP (KZ rfl rfl) ?_
    refine oM ?_
    refine KAC rfl rfl (dL rfl (hv:=by exact KG Try.underlying35 rfl sz_35)) (Nb rfl) ?_
    refine KAC rfl rfl (dL rfl (hv:=by exact KG Try.underlying35 rfl sz_35)) (Nb rfl) ?_
    refine oGP (KK (Det.eqa (by kernel_rfl) (fun w=>eq_ptP_t hok (P:=pmul V.A V.G (d%V.n)) (Q:=pmul V.A V.G (d%V.n)) (rfl) 10000 (by decide) w) rfl rfl) (show _ = Value.bool true by rfl)) ?_
    refine oP (KZ rfl rfl) ?_
    refine oM ?_
    refine oGM ?_
    refine oGM ?_
    refine oGP (KH (v:=.bool true) rfl rfl (br_t KAJ (rfl))) ?_
    refine oP (KZ rfl rfl) ?_
    refine oM ?_
    refine oGM ?_
    refine oGS (cF rfl en_37 rfl (fun w hw=>c_trLen tb0 r2 (([]++evN m)++evN m) w (mC hw)) ?_)
    refine oGM ?_
    refine oGP (KH rfl rfl (br_mul (a:=2) (by rw [List.nil_append,evN_length]; omega))) ?_
    refine oGP (KH (v:=.bool true) rfl rfl (br_t KAJ (by rw [List.nil_append,List.length_append,Nat.two_mul]))) ?_
    refine oP (KZ rfl rfl) ?_
    refine oM ?_
    refine oGM ?_
    refine oGP (KH (v:=.bool true) rfl rfl (br_t (br_gtr (b:=0)) (by rw [List.nil_append,evN_length]; omega))) ?_
    refine oP (KZ rfl rfl) ?_
    refine oA ?_
    refine KC (KO ?_)
    refine ⟨[_],.cons rfl .nil,fun a w' hr=>⟨?_,hr.fr.below⟩⟩
    rfl
theorem c_BaseBlind (id:Int) (d d2:Nat) (w:World) (hd:d<W9) (he:d2<W9):Calls Try.prog 24 ([.int .i64 id,natV d,natV d2]:List Value).toArray w (fun e w'=>e = .returned (.bool true)∧Below w.heap.size w w'):=by
  obtain ⟨V,h⟩:=cvI_idx id
  obtain ⟨hok,hid⟩:=cvI_ok h
  have h2:=cvI_id h
  obtain ⟨hb5,hb521,hba,hbb,hbx,hby,hbn,hbo,hbo2,hbb1,hbn1⟩:=hok.bounds
  have hsz:=hok.sz
  have hsp:=hsz.p
  have hsa:=hsz.a
  have hsb:=hsz.b
  have hp0:V.p≠0:=by omega
  have hpp:0<V.p:=by omega
  have hm17:∀ k,D.nw (k%V.p)≤17:=fun k=>Nat.le_trans (D.nw_mono (Nat.le_of_lt (Nat.mod_lt k hpp))) hsp
  have hpW:V.p<W9:=w9_521 hb521
  have hnW:V.n<W9:=w9_521 hbn
  have hxW:=Nat.lt_trans hbx hpW
  have hyW:=Nat.lt_trans hby hpW
  have hsn:=hsz.n
  have h17:∀ {A:Nat},A<V.p→D.nw A≤100000:=fun h=>Nat.le_trans (nw_521 (Nat.lt_trans h hb521)) (by decide)
  have hn0:V.n≠0:=by omega
  have hnp:0<V.n:=by omega
  have hdd:=nw_w9_dig hd
  have hXn:=Nat.mod_lt d hnp
  have hX9:=Nat.lt_trans hXn hnW
  have hXd:D.nw (d%V.n)≤17:=nw_521 (Nat.lt_trans hXn hbn)
  obtain ⟨m,hm⟩:∃ m,(blen V.n+3)/4 = m:=⟨_,rfl⟩
  have hbl9:=blen_w9 hnW
  have hm1:1≤m:=by have:=Nat.pos_of_ne_zero (blen_ne hn0); omega
  have hmx:m≤200:=by omega
  have hde:=nw_w9_dig he
  have hYn:=Nat.mod_lt d2 hnp
  have hYd:D.nw (d2%V.n)≤17:=nw_521 (Nat.lt_trans hYn hbn)
  refine Kj (N:=108) (rs:=[.tmp 6]) [] Try.func24 rfl Try.ntmps24 Try.results24 (Nb rfl) trivial rfl ?_
  show LCode _ _ _ ⟨_,_⟩ _
  refine KB (KA ?_)
  refine oS (mB (fun b4=>?_))
  refine oS (mB (fun b5=>?_))
  refine oA ?_
  refine KC ?_
  refine KB ?_
  refine KB (KA ?_)
  refine oS (cF rfl en_58 rfl (fun w hw=>c_awake19 w) ?_)
  refine oP (KK (Det.not rfl) (show _ = Value.bool false from rfl)) ?_
  refine KC ?_
  refine KW rfl ?_
  refine KU ?_
  refine KB (KA ?_)
  refine oM ?_
  refine oP (KK (Det.conv Try.underlying3 Try.underlying29 rfl) (uidx_eq _)) ?_
  refine oP (KH rfl rfl (br_rem64 (b:=15) (by omega))) ?_
  refine oP (Det.convi Try.underlying29 Try.underlying3 rfl (by omega)) ?_
  refine oP (KH rfl rfl (Kx (a:=1) (by omega))) ?_
  refine oS (KAc (Post:=fun v its=>∃ Q,v = .tuple #[.agg (crvL Q V).toArray,.bool true]∧its = [crvI Q V]) (first:=[]) rfl en_29 rfl (Nb rfl) (fun w1 hw hs=>(c_r_Get _ V w1 h).mono fun e w' ⟨Q,h1,h2,h3,h4⟩=>⟨_,_,⟨Q,rfl,rfl⟩,h1,KAf h4 (by intro x hx; simp at hx; subst hx; exact h2) (by intro x hx; simp at hx; subst hx; rfl) (by intro x hx k hk; simp at hx; subst hx; exact .inl (h3 k hk))⟩) ?_)
  rintro _ _ ⟨Q,rfl,rfl⟩
  refine oM ?_
  refine oP (KN rfl rfl) ?_
  refine oP (KN rfl rfl) ?_
  refine oS (mk (KS zr_26) (fun b7=>?_))
  refine KT rfl (sA rfl rfl sz_26 (by repeat (first|exact KP|refine KL rfl ?_)) (hl:=by rfl) (h:=?_))
  refine oA ?_
  refine KC ?_
  refine KB ?_
  refine KB (KA ?_)
  refine oM ?_
  refine oP (KK (Det.not rfl) (show _ = Value.bool false from rfl)) ?_
  refine KC ?_
  refine KW rfl ?_
  refine KU ?_
  refine KB ?_
  refine rD [14,15] ?_
  refine aD 0 rfl (dL rfl (hv:=by exact KG Try.underlying33 rfl sz_33)) ?_
  refine aP 2 rfl (KE (o':=4) Try.underlying26 rfl rfl rfl sz_24 (by decide)) ?_
  refine aD 3 rfl (dL rfl (hv:=KM Try.underlying24 rfl (by first|rfl|exact Kg _ _ _ (by omega)|exact Ke _ (by omega)|exact Kd _ (by omega)|exact dv_m _ _ _ (by omega)))) ?_
  refine aP 8 rfl (KE (o':=4) Try.underlying26 rfl rfl rfl sz_24 (by decide)) ?_
  refine LAny.takeW [7,10,11,14,15] 6 rfl (by kernel_rfl) (Nb rfl) (dL rfl (hv:=by exact KG Try.underlying33 rfl sz_33)) ?_
  refine LAny.takeW [10,11,14,15] 9 rfl (by kernel_rfl) (Nb rfl) (dL rfl (hv:=KM Try.underlying24 rfl (by first|rfl|exact Kg _ _ _ (by omega)|exact Ke _ (by omega)|exact Kd _ (by omega)|exact dv_m _ _ _ (by omega)))) ?_
  refine KAV ?_
  refine Kz 12 rfl (.inl zr_33) (Nb rfl) rfl rfl rfl ?_
  refine Kz 13 rfl (.inl zr_33) (Nb rfl) rfl rfl rfl ?_
  refine Kh 1 rfl rfl rfl (Nb rfl) (by kernel_rfl) rfl (KAS (first:=[]) rfl en_46 rfl (fun w hw hs=>(c_n_From (d) hd w).mono fun e w' h=>KAB (Old.nil _) hs h)) ?_
  rintro _ _ ⟨qd,rfl,rfl,hnd⟩
  refine Kh 4 rfl rfl rfl (Nb rfl) (by kernel_rfl) rfl (KAS (first:=[]) rfl en_60 rfl (fun w hw hs=>(c_n_Mod qd Q.n (d) V.n hn0 w (mC hw) (crvI_n (mC hw)) (by omega)).mono fun e w' h=>KAB (KAZ (x:=numT qd (d)) (by repeat (first|exact Mh _|apply Mt)) rfl) hs h)) ?_
  rintro _ _ ⟨qx,rfl,rfl,hnx⟩
  refine Kh 5 rfl rfl rfl (Nb rfl) (by kernel_rfl) rfl (Ko (first:=[]) rfl en_52 rfl (fun w hw=>c_n_Nat qx (d%V.n) (D.nw (d%V.n)) w (mC hw))) ?_
  rintro _ _ ⟨rfl,rfl⟩
  refine Kh 7 rfl rfl rfl (Nb rfl) (by kernel_rfl) rfl (KAS (first:=[]) rfl en_46 rfl (fun w hw hs=>(c_n_From (d2) he w).mono fun e w' h=>KAB (Old.nil _) hs h)) ?_
  rintro _ _ ⟨qe,rfl,rfl,hne⟩
  refine Kh 10 rfl rfl rfl (Nb rfl) (by kernel_rfl) rfl (KAS (first:=[]) rfl en_60 rfl (fun w hw hs=>(c_n_Mod qe Q.n (d2) V.n hn0 w (mC hw) (crvI_n (mC hw)) (by omega)).mono fun e w' h=>KAB (KAZ (x:=numT qe (d2)) (by repeat (first|exact Mh _|apply Mt)) rfl) hs h)) ?_
  rintro _ _ ⟨qy,rfl,rfl,hny⟩
  refine Kh 11 rfl rfl rfl (Nb rfl) (by kernel_rfl) rfl (Ko (first:=[]) rfl en_52 rfl (fun w hw=>c_n_Nat qy (d2%V.n) (D.nw (d2%V.n)) w (mC hw))) ?_
  rintro _ _ ⟨rfl,rfl⟩
  refine pE (fun b10=>?_)
  refine pE (fun b9=>?_)
  refine KAH ?_
  refine aL 14 rfl (sA rfl rfl sz_33 (by exact Ka _) (hl:=by exact KD _) (h:=?_))
  refine aL 15 rfl (sA rfl rfl sz_33 (by exact Ka _) (hl:=by exact KD _) (h:=?_))
  refine aE ?_
  refine KB (KA ?_)
  refine oS (cC rfl en_36 rfl (fun w hw=>bringsC (c_trNew w) _) ?_)
  rintro _ _ ⟨tba,rfl,rfl⟩
  refine oS (cC rfl en_36 rfl (fun w hw=>bringsC (c_trNew w) _) ?_)
  rintro _ _ ⟨tbb,rfl,rfl⟩
  refine oA ?_
  refine oA ?_
  refine KC ?_
  refine KB (KA ?_)
  refine oM ?_
  refine oP (KE (o':=0) Try.underlying26 rfl rfl rfl sz_3 (by decide)) ?_
  refine oD (dL rfl (hv:=KM Try.underlying3 rfl (by first|rfl|exact Kg _ _ _ (by omega)|exact Ke _ (by omega)|exact Kd _ (by omega)|exact dv_m _ _ _ (by omega)))) ?_
  refine oD (dL rfl (hv:=by exact KG Try.underlying33 rfl sz_33)) ?_
  refine KT rfl (LStepW.callT (first:=[]) (b:=some tba) (r:=none) (l:=[]) (l':=[]++evN m) rfl en_57 rfl (Nb rfl) (by repeat (first|exact Pick.head _|apply Pick.tail)) (fun w hw hn=>c_bMul (some tba) none ([]) _ V (d%V.n) m hm w h2 hXn (mC hw) (Nat.zero_le _)) ?_)
  intro ra
  refine oM ?_
  refine oP (KN rfl rfl) ?_
  refine oP (KN rfl rfl) ?_
  refine oS (mk (KS zr_35) (fun b13=>?_))
  refine KT rfl (sA rfl rfl sz_35 (by exact Kb _ _ _) (hl:=by exact KJ _ _ _) (h:=?_))
  refine oA ?_
  refine KC ?_
  refine KB (KA ?_)
  refine oM ?_
  refine oP (KE (o':=0) Try.underlying26 rfl rfl rfl sz_3 (by decide)) ?_
  refine oD (dL rfl (hv:=KM Try.underlying3 rfl (by first|rfl|exact Kg _ _ _ (by omega)|exact Ke _ (by omega)|exact Kd _ (by omega)|exact dv_m _ _ _ (by omega)))) ?_
  refine oD (dL rfl (hv:=by exact KG Try.underlying33 rfl sz_33)) ?_
  refine KT rfl (LStepW.callT (first:=[]) (b:=some tbb) (r:=none) (l:=[]) (l':=[]++evN m) rfl en_57 rfl (Nb rfl) (by repeat (first|exact Pick.head _|apply Pick.tail)) (fun w hw hn=>c_bMul (some tbb) none ([]) _ V (d2%V.n) m hm w h2 hYn (mC hw) (Nat.zero_le _)) ?_)
  intro rb
  refine oM ?_
  refine oP (KN rfl rfl) ?_
  refine oP (KN rfl rfl) ?_
  refine oS (mk (KS zr_35) (fun b15=>?_))
  refine KT rfl (sA rfl rfl sz_35 (by exact Kb _ _ _) (hl:=by exact KJ _ _ _) (h:=?_))
  refine oA ?_
  refine KC ?_
  refine KB ?_
  refine rD [11] ?_
  refine aP 0 rfl (KE (o':=0) Try.underlying26 rfl rfl rfl sz_3 (by decide)) ?_
  refine aD 1 rfl (dL rfl (hv:=KM Try.underlying3 rfl (by first|rfl|exact Kg _ _ _ (by omega)|exact Ke _ (by omega)|exact Kd _ (by omega)|exact dv_m _ _ _ (by omega)))) ?_
  refine aD 2 rfl (dL rfl (hv:=by exact KG Try.underlying33 rfl sz_33)) ?_
  refine aD 3 rfl (dL rfl (hv:=by exact KG Try.underlying26 rfl sz_26)) ?_
  refine KAV ?_
  refine Kz 10 rfl (.inl zr_35) (Nb rfl) rfl rfl rfl ?_
  refine Kh 4 rfl rfl rfl (Nb rfl) (by kernel_rfl) rfl (KAS (first:=[]) rfl en_31 rfl (fun w hw hs=>(c_r_GP Q V w (mC hw) hok).mono fun e w' h=>Num2R.q (KAZ (x:=crvI Q V) (by repeat (first|exact Mh _|apply Mt)) rfl) hs h)) ?_
  rintro _ _ ⟨qga,qgb,rfl,rfl,hnga,hngb⟩
  refine Kh 5 rfl rfl rfl (Nb rfl) (by kernel_rfl) rfl (Ko (first:=[]) rfl en_30 rfl (fun w hw=>c_r_OutP V qga qgb (V.G) w (mC hw) (mC hw))) ?_
  rintro _ _ ⟨rfl,rfl⟩
  refine Kh 6 rfl rfl rfl (Nb rfl) (by kernel_rfl) rfl (Ko (first:=[]) rfl en_63 rfl (fun w hw=>c_mMulN _ V (d%V.n) (V.G) (pmul V.A V.G (d%V.n)) w h2 hok.on hXn (rfl))) ?_
  rintro _ _ ⟨rfl,rfl⟩
  refine pM 7 ?_
  refine pP 8 rfl (KN rfl rfl) ?_
  refine pP 9 rfl (KN rfl rfl) ?_
  refine pE (fun b17=>?_)
  refine KAH ?_
  refine aL 11 rfl (sA rfl rfl sz_35 (by exact Kb _ _ _) (hl:=by exact KJ _ _ _) (h:=?_))
  refine aA 12 ?_
  refine aE ?_
  refine KB ?_
  refine rD [] ?_
  refine aM 0 ?_
  refine aO 1 rfl (cF rfl en_33 rfl (fun w hw=>c_Num _ w) ?_)
  refine aP 2 rfl (KH (v:=.bool true) rfl rfl (br_t (KAJ (b:=0)) (by first|rfl|assumption|omega|(simp; done)))) ?_
  refine aM 3 ?_
  refine aGM 4 ?_
  refine aGO 5 rfl (cF rfl en_33 rfl (fun w hw=>c_Num _ w) ?_)
  refine aGP 6 rfl (KH (v:=.bool true) rfl rfl (br_t (KAJ (b:=0)) (by first|rfl|assumption|omega|(simp; done)))) ?_
  refine aP 7 rfl (KZ rfl rfl) ?_
  refine aM 8 ?_
  refine aGM 9 ?_
  refine aGO 10 rfl (cF rfl en_33 rfl (fun w hw=>c_Num _ w) ?_)
  refine aGP 11 rfl (KH (v:=.bool true) rfl rfl (br_t (KAJ (b:=0)) (by first|rfl|assumption|omega|(simp; done)))) ?_
  refine aP 12 rfl (KZ rfl rfl) ?_
  refine aM 13 ?_
  refine aGD 14 rfl (dL rfl (hv:=by exact KG Try.underlying35 rfl sz_35)) ?_
  refine aGD 15 rfl (dL rfl (hv:=by exact KG Try.underlying35 rfl sz_35)) ?_
  refine aGP 16 rfl (KK (Det.eqa (by kernel_rfl) (fun w=>eq_ptP_t hok (P:=pmul V.A V.G (d%V.n)) (Q:=pmul V.A V.G (d%V.n)) (rfl) 10000 (by decide) w) rfl rfl) (show _ = Value.bool true by rfl)) ?_
  refine aP 17 rfl (KZ rfl rfl) ?_
  refine aM 18 ?_
  refine aGM 19 ?_
  refine aGM 21 ?_
  refine aGO 20 rfl (cC rfl en_56 rfl (fun w hw=>bringsC (c_trEvents tba ra (([]++evN m)) w (mC hw) (by rw [List.nil_append,evN_length]; omega)) _) ?_)
  rintro _ _ ⟨qea,rfl,rfl⟩
  refine aGO 22 rfl (cC rfl en_56 rfl (fun w hw=>bringsC (c_trEvents tbb rb (([]++evN m)) w (mC hw) (by rw [List.nil_append,evN_length]; omega)) _) ?_)
  rintro _ _ ⟨qeb,rfl,rfl⟩
  refine aGO 23 rfl (cF rfl en_55 rfl (fun w hw=>c_same qea qeb ([]++evN m) w (mC hw) (mC hw) (by rw [List.nil_append,evN_length]; omega)) ?_)
  refine aP 24 rfl (KZ rfl rfl) ?_
  refine aM 25 ?_
  refine aGM 26 ?_
  refine aGP 28 rfl (KE (o':=4) Try.underlying26 rfl rfl rfl sz_24 (by decide)) ?_
  refine aGD 29 rfl (dL rfl (hv:=KM Try.underlying24 rfl (by first|rfl|exact Kg _ _ _ (by omega)|exact Ke _ (by omega)|exact Kd _ (by omega)|exact dv_m _ _ _ (by omega)))) ?_
  refine aGO 27 rfl (cF rfl en_37 rfl (fun w hw=>c_trLen tba ra (([]++evN m)) w (mC hw)) ?_)
  refine aGO 30 rfl (cF rfl en_70 rfl (fun w hw=>c_n_Bits Q.n V.n w (crvI_n (mC hw)) (by omega)) ?_)
  refine aGP 31 rfl (KH rfl rfl (Kx (b:=3) (by omega))) ?_
  refine aGP 32 rfl (KK (KH rfl rfl (br_quo (b:=4) (by omega) (by omega))) (vi (b:=m) hm)) ?_
  refine aGP 33 rfl (KH rfl rfl (br_mul (a:=16) (by omega))) ?_
  refine aGP 34 rfl (KH (v:=.bool true) rfl rfl (br_t br_geq (by rw [List.nil_append,evN_length]; omega))) ?_
  refine aP 35 rfl (KZ rfl rfl) ?_
  refine aA 36 ?_
  refine aE ?_
  refine KO ?_
  refine ⟨[_],.cons rfl .nil,fun a w' hr=>⟨?_,hr.fr.below⟩⟩
  rfl
theorem c_BaseSteps (id:Int) (d:Nat) (w:World) (hd:d<W9):Calls Try.prog 23 ([.int .i64 id,natV d]:List Value).toArray w (fun e w'=>e = .returned (.bool true)∧Below w.heap.size w w'):=by
  obtain ⟨V,h⟩:=cvI_idx id
  obtain ⟨hok,hid⟩:=cvI_ok h
  have h2:=cvI_id h
  obtain ⟨hb5,hb521,hba,hbb,hbx,hby,hbn,hbo,hbo2,hbb1,hbn1⟩:=hok.bounds
  have hsz:=hok.sz
  have hsp:=hsz.p
  have hsa:=hsz.a
  have hsb:=hsz.b
  have hp0:V.p≠0:=by omega
  have hpp:0<V.p:=by omega
  have hm17:∀ k,D.nw (k%V.p)≤17:=fun k=>Nat.le_trans (D.nw_mono (Nat.le_of_lt (Nat.mod_lt k hpp))) hsp
  have hpW:V.p<W9:=w9_521 hb521
  have hnW:V.n<W9:=w9_521 hbn
  have hxW:=Nat.lt_trans hbx hpW
  have hyW:=Nat.lt_trans hby hpW
  have hsn:=hsz.n
  have h17:∀ {A:Nat},A<V.p→D.nw A≤100000:=fun h=>Nat.le_trans (nw_521 (Nat.lt_trans h hb521)) (by decide)
  have hn0:V.n≠0:=by omega
  have hnp:0<V.n:=by omega
  have hdd:=nw_w9_dig hd
  have hn10:V.n-1≠0:=by omega
  have hZn:=Nat.mod_lt d (show 0<V.n-1 by omega)
  have hnl:D.nw (V.n-1)≤17:=nw_521 (Nat.lt_of_le_of_lt (Nat.sub_le _ _) hbn)
  have hZd:D.nw (d%(V.n-1))≤17:=nw_521 (Nat.lt_trans hZn (by omega))
  refine Kj (N:=80) (rs:=[.tmp 4]) [] Try.func23 rfl Try.ntmps23 Try.results23 (Nb rfl) trivial rfl ?_
  show LCode _ _ _ ⟨_,_⟩ _
  refine KB (KA ?_)
  refine oS (mB (fun b3=>?_))
  refine oA ?_
  refine KC ?_
  refine KB ?_
  refine KB (KA ?_)
  refine oS (cF rfl en_58 rfl (fun w hw=>c_awake19 w) ?_)
  refine oP (KK (Det.not rfl) (show _ = Value.bool false from rfl)) ?_
  refine KC ?_
  refine KW rfl ?_
  refine KU ?_
  refine KB (KA ?_)
  refine oM ?_
  refine oP (KK (Det.conv Try.underlying3 Try.underlying29 rfl) (uidx_eq _)) ?_
  refine oP (KH rfl rfl (br_rem64 (b:=15) (by omega))) ?_
  refine oP (Det.convi Try.underlying29 Try.underlying3 rfl (by omega)) ?_
  refine oP (KH rfl rfl (Kx (a:=1) (by omega))) ?_
  refine oS (KAc (Post:=fun v its=>∃ Q,v = .tuple #[.agg (crvL Q V).toArray,.bool true]∧its = [crvI Q V]) (first:=[]) rfl en_29 rfl (Nb rfl) (fun w1 hw hs=>(c_r_Get _ V w1 h).mono fun e w' ⟨Q,h1,h2,h3,h4⟩=>⟨_,_,⟨Q,rfl,rfl⟩,h1,KAf h4 (by intro x hx; simp at hx; subst hx; exact h2) (by intro x hx; simp at hx; subst hx; rfl) (by intro x hx k hk; simp at hx; subst hx; exact .inl (h3 k hk))⟩) ?_)
  rintro _ _ ⟨Q,rfl,rfl⟩
  refine oM ?_
  refine oP (KN rfl rfl) ?_
  refine oP (KN rfl rfl) ?_
  refine oS (mk (KS zr_26) (fun b5=>?_))
  refine KT rfl (sA rfl rfl sz_26 (by repeat (first|exact KP|refine KL rfl ?_)) (hl:=by rfl) (h:=?_))
  refine oA ?_
  refine KC ?_
  refine KB ?_
  refine KB (KA ?_)
  refine oM ?_
  refine oP (KK (Det.not rfl) (show _ = Value.bool false from rfl)) ?_
  refine KC ?_
  refine KW rfl ?_
  refine KU ?_
  refine KB ?_
  refine rD [] ?_
  refine aD 0 rfl (dL rfl (hv:=by exact KG Try.underlying33 rfl sz_33)) ?_
  refine aP 2 rfl (KE (o':=4) Try.underlying26 rfl rfl rfl sz_24 (by decide)) ?_
  refine aD 3 rfl (dL rfl (hv:=KM Try.underlying24 rfl (by first|rfl|exact Kg _ _ _ (by omega)|exact Ke _ (by omega)|exact Kd _ (by omega)|exact dv_m _ _ _ (by omega)))) ?_
  refine KAQ 1 4 rfl rfl rfl rfl (by kernel_rfl) (.inr (cZ rfl en_46 rfl (fun w hw hs=>(c_n_From (d) hd w).mono fun e w' h=>KAB (Old.nil _) hs h) ?_)) (.inr (mk (Ky Try.underlying24 inf_67 rfl rfl rfl rfl (by decide) rfl) (fun b31=>?_)))
  ·
    rintro _ _ ⟨qd,rfl,rfl,hnd⟩
    refine aO 4 rfl (mk (Ky Try.underlying24 inf_67 rfl rfl rfl rfl (by decide) rfl) (fun b31=>?_))
    refine aO 5 rfl (cZ rfl en_65 rfl (fun w hw hs=>(c_n_Sub Q.n ⟨false,b31,1⟩ V.n 1 w (crvI_n (mC hw)) (n1_blk (mC hw) (by decide)) (by omega) (by omega)).mono fun e w' h=>KAB (Old.nil _) hs h) ?_)
    rintro _ _ ⟨ql,rfl,rfl,hnl⟩
    refine aO 6 rfl (cZ rfl en_60 rfl (fun w hw hs=>(c_n_Mod qd ql (d) (V.n-1) hn10 w (mC hw) (mC hw) (by omega)).mono fun e w' h=>KAB (KAZ (x:=numT qd (d)) (by repeat (first|exact Mh _|apply Mt)) rfl) hs h) ?_)
    rintro _ _ ⟨qz,rfl,rfl,hnz⟩
    refine aA 7 ?_
    refine aE ?_
    refine KB ?_
    refine rD [9] ?_
    refine aP 0 rfl (KE (o':=0) Try.underlying26 rfl rfl rfl sz_3 (by decide)) ?_
    refine aD 1 rfl (dL rfl (hv:=KM Try.underlying3 rfl (by first|rfl|exact Kg _ _ _ (by omega)|exact Ke _ (by omega)|exact Kd _ (by omega)|exact dv_m _ _ _ (by omega)))) ?_
    refine aM 2 ?_
    refine KAV ?_
    refine Kz 8 rfl (.inl zr_35) (Nb rfl) rfl rfl rfl ?_
    refine Kh 3 rfl rfl rfl (Nb rfl) (by kernel_rfl) rfl (Ko (first:=[]) rfl en_52 rfl (fun w hw=>c_n_Nat qz (d%(V.n-1)) (D.nw (d%(V.n-1))) w (mC hw))) ?_
    rintro _ _ ⟨rfl,rfl⟩
    refine Kh 4 rfl rfl rfl (Nb rfl) (by kernel_rfl) rfl (Ko (first:=[]) rfl en_57 rfl (fun w hw=>c_bMulN _ V (d%(V.n-1)) (pmul V.A V.G (d%(V.n-1))) w h2 (by omega) (rfl))) ?_
    rintro _ _ ⟨rfl,rfl⟩
    refine pM 5 ?_
    refine pP 6 rfl (KN rfl rfl) ?_
    refine pP 7 rfl (KN rfl rfl) ?_
    refine pE (fun b8=>?_)
    refine KAH ?_
    refine aL 9 rfl (sA rfl rfl sz_35 (by exact Kb _ _ _) (hl:=by exact KJ _ _ _) (h:=?_))
    refine aA 10 ?_
    refine aE ?_
    refine KB ?_
    refine rD [11] ?_
    refine aP 0 rfl (KE (o':=0) Try.underlying26 rfl rfl rfl sz_3 (by decide)) ?_
    refine aD 1 rfl (dL rfl (hv:=KM Try.underlying3 rfl (by first|rfl|exact Kg _ _ _ (by omega)|exact Ke _ (by omega)|exact Kd _ (by omega)|exact dv_m _ _ _ (by omega)))) ?_
    refine aM 2 ?_
    refine KAQ 3 10 rfl rfl rfl rfl (by kernel_rfl) (.inr (mk (Ky Try.underlying24 inf_67 rfl rfl rfl rfl (by decide) rfl) (fun b46=>?_))) (.inr (mk (KS zr_35) (fun b10=>?_)))
    ·
      refine KAQ 4 10 rfl rfl rfl rfl (by kernel_rfl) (.inr (cZ rfl en_50 rfl (fun w hw hs=>(c_n_Add qz ⟨false,b46,1⟩ (d%(V.n-1)) 1 w (mC hw) (n1_blk (mC hw) (by decide)) (by omega) (by decide)).mono fun e w' h=>KAB (Old.nil _) hs h) ?_)) (.inr (mk (KS zr_35) (fun b10=>?_)))
      ·
        rintro _ _ ⟨qs,rfl,rfl,hns⟩
        refine KAQ 5 10 rfl rfl rfl rfl (by kernel_rfl) (.inr (cF rfl en_52 rfl (fun w hw=>c_n_Nat qs (d%(V.n-1)+1) (D.nw (d%(V.n-1)+1)) w (mC hw)) ?_)) (.inr (mk (KS zr_35) (fun b10=>?_)))
        ·
          refine KAQ 6 10 rfl rfl rfl rfl (by kernel_rfl) (.inr (cF rfl en_57 rfl (fun w hw=>c_bMulN _ V (d%(V.n-1)+1) (padd V.A (pmul V.A V.G (d%(V.n-1))) V.G) w h2 (by omega) (rfl)) ?_)) (.inr (mk (KS zr_35) (fun b10=>?_)))
          ·
            refine aM 7 ?_
            refine aP 8 rfl (KN rfl rfl) ?_
            refine aP 9 rfl (KN rfl rfl) ?_
            refine aO 10 rfl (mk (KS zr_35) (fun b10=>?_))
            refine aL 11 rfl (sA rfl rfl sz_35 (by exact Kb _ _ _) (hl:=by exact KJ _ _ _) (h:=?_))
            refine aA 12 ?_
            refine aE ?_
            refine KB ?_
            refine rD [11] ?_
            refine aP 0 rfl (KE (o':=0) Try.underlying26 rfl rfl rfl sz_3 (by decide)) ?_
            refine aD 1 rfl (dL rfl (hv:=KM Try.underlying3 rfl (by first|rfl|exact Kg _ _ _ (by omega)|exact Ke _ (by omega)|exact Kd _ (by omega)|exact dv_m _ _ _ (by omega)))) ?_
            refine aD 2 rfl (dL rfl (hv:=by exact KG Try.underlying35 rfl sz_35)) ?_
            refine aD 3 rfl (dL rfl (hv:=by exact KG Try.underlying26 rfl sz_26)) ?_
            refine KAV ?_
            refine Kz 10 rfl (.inl zr_35) (Nb rfl) rfl rfl rfl ?_
            refine Kh 4 rfl rfl rfl (Nb rfl) (by kernel_rfl) rfl (KAS (first:=[]) rfl en_31 rfl (fun w hw hs=>(c_r_GP Q V w (mC hw) hok).mono fun e w' h=>Num2R.q (KAZ (x:=crvI Q V) (by repeat (first|exact Mh _|apply Mt)) rfl) hs h)) ?_
            rintro _ _ ⟨qga,qgb,rfl,rfl,hnga,hngb⟩
            refine Kh 5 rfl rfl rfl (Nb rfl) (by kernel_rfl) rfl (Ko (first:=[]) rfl en_30 rfl (fun w hw=>c_r_OutP V qga qgb (V.G) w (mC hw) (mC hw))) ?_
            rintro _ _ ⟨rfl,rfl⟩
            refine Kh 6 rfl rfl rfl (Nb rfl) (by kernel_rfl) rfl (Ko (first:=[]) rfl en_62 rfl (fun w hw=>c_affAdd _ V (pmul V.A V.G (d%(V.n-1))) (V.G) (padd V.A (pmul V.A V.G (d%(V.n-1))) V.G) w h2 (hok.mul hok.on _) hok.on (rfl))) ?_
            rintro _ _ ⟨rfl,rfl⟩
            refine pM 7 ?_
            refine pP 8 rfl (KN rfl rfl) ?_
            refine pP 9 rfl (KN rfl rfl) ?_
            refine pE (fun b12=>?_)
            refine KAH ?_
            refine aL 11 rfl (sA rfl rfl sz_35 (by exact Kb _ _ _) (hl:=by exact KJ _ _ _) (h:=?_))
            refine aA 12 ?_
            refine aE ?_
            refine KB (KA ?_)
            refine oM ?_
            refine oS (cF rfl en_33 rfl (fun w hw=>c_Num _ w) ?_)
            refine oP (KH (v:=.bool true) rfl rfl (br_t (KAJ (b:=0)) (by first|rfl|assumption|omega|(simp; done)))) ?_
            refine oM ?_
            refine oGM ?_
            refine oGS (cF rfl en_33 rfl (fun w hw=>c_Num _ w) ?_)
            refine oGP (KH (v:=.bool true) rfl rfl (br_t (KAJ (b:=0)) (by first|rfl|assumption|omega|(simp; done)))) ?_
            refine oP (KZ rfl rfl) ?_
            refine oM ?_
            refine oGM ?_
            refine oGS (cF rfl en_33 rfl (fun w hw=>c_Num _ w) ?_)
            refine oGP (KH (v:=.bool true) rfl rfl (br_t (KAJ (b:=0)) (by first|rfl|assumption|omega|(simp; done)))) ?_
            refine oP (KZ rfl rfl) ?_
            refine oM ?_
            refine KAC rfl rfl (dL rfl (hv:=by exact KG Try.underlying35 rfl sz_35)) (Nb rfl) ?_
            refine KAC rfl rfl (dL rfl (hv:=by exact KG Try.underlying35 rfl sz_35)) (Nb rfl) ?_
            refine oGP (KK (Det.eqa (by kernel_rfl) (fun w=>eq_ptP_t hok (P:=padd V.A (pmul V.A V.G (d%(V.n-1))) V.G) (Q:=padd V.A (pmul V.A V.G (d%(V.n-1))) V.G) (rfl) 10000 (by decide) w) rfl rfl) (show _ = Value.bool true by rfl)) ?_
            refine oP (KZ rfl rfl) ?_
            refine oA ?_
            refine KC (KO ?_)
            refine ⟨[_],.cons rfl .nil,fun a w' hr=>⟨?_,hr.fr.below⟩⟩
            rfl
          ·
            refine aO 6 rfl (cF rfl en_57 rfl (fun w hw=>c_bMulN _ V (d%(V.n-1)+1) (padd V.A (pmul V.A V.G (d%(V.n-1))) V.G) w h2 (by omega) (rfl)) ?_)
            refine aM 7 ?_
            refine aP 8 rfl (KN rfl rfl) ?_
            refine aP 9 rfl (KN rfl rfl) ?_
            refine aL 11 rfl (sA rfl rfl sz_35 (by exact Kb _ _ _) (hl:=by exact KJ _ _ _) (h:=?_))
            refine aA 12 ?_
            refine aE ?_
            refine KB ?_
            refine rD [11] ?_
            refine aP 0 rfl (KE (o':=0) Try.underlying26 rfl rfl rfl sz_3 (by decide)) ?_
            refine aD 1 rfl (dL rfl (hv:=KM Try.underlying3 rfl (by first|rfl|exact Kg _ _ _ (by omega)|exact Ke _ (by omega)|exact Kd _ (by omega)|exact dv_m _ _ _ (by omega)))) ?_
            refine aD 2 rfl (dL rfl (hv:=by exact KG Try.underlying35 rfl sz_35)) ?_
            refine aD 3 rfl (dL rfl (hv:=by exact KG Try.underlying26 rfl sz_26)) ?_
            refine KAV ?_
            refine Kz 10 rfl (.inl zr_35) (Nb rfl) rfl rfl rfl ?_
            refine Kh 4 rfl rfl rfl (Nb rfl) (by kernel_rfl) rfl (KAS (first:=[]) rfl en_31 rfl (fun w hw hs=>(c_r_GP Q V w (mC hw) hok).mono fun e w' h=>Num2R.q (KAZ (x:=crvI Q V) (by repeat (first|exact Mh _|apply Mt)) rfl) hs h)) ?_
            rintro _ _ ⟨qga,qgb,rfl,rfl,hnga,hngb⟩
            refine Kh 5 rfl rfl rfl (Nb rfl) (by kernel_rfl) rfl (Ko (first:=[]) rfl en_30 rfl (fun w hw=>c_r_OutP V qga qgb (V.G) w (mC hw) (mC hw))) ?_
            rintro _ _ ⟨rfl,rfl⟩
            refine Kh 6 rfl rfl rfl (Nb rfl) (by kernel_rfl) rfl (Ko (first:=[]) rfl en_62 rfl (fun w hw=>c_affAdd _ V (pmul V.A V.G (d%(V.n-1))) (V.G) (padd V.A (pmul V.A V.G (d%(V.n-1))) V.G) w h2 (hok.mul hok.on _) hok.on (rfl))) ?_
            rintro _ _ ⟨rfl,rfl⟩
            refine pM 7 ?_
            refine pP 8 rfl (KN rfl rfl) ?_
            refine pP 9 rfl (KN rfl rfl) ?_
            refine pE (fun b12=>?_)
            refine KAH ?_
            refine aL 11 rfl (sA rfl rfl sz_35 (by exact Kb _ _ _) (hl:=by exact KJ _ _ _) (h:=?_))
            refine aA 12 ?_
            refine aE ?_
            refine KB (KA ?_)
            refine oM ?_
            refine oS (cF rfl en_33 rfl (fun w hw=>c_Num _ w) ?_)
            refine oP (KH (v:=.bool true) rfl rfl (br_t (KAJ (b:=0)) (by first|rfl|assumption|omega|(simp; done)))) ?_
            refine oM ?_
            refine oGM ?_
            refine oGS (cF rfl en_33 rfl (fun w hw=>c_Num _ w) ?_)
            refine oGP (KH (v:=.bool true) rfl rfl (br_t (KAJ (b:=0)) (by first|rfl|assumption|omega|(simp; done)))) ?_
            refine oP (KZ rfl rfl) ?_
            refine oM ?_
            refine oGM ?_
            refine oGS (cF rfl en_33 rfl (fun w hw=>c_Num _ w) ?_)
            refine oGP (KH (v:=.bool true) rfl rfl (br_t (KAJ (b:=0)) (by first|rfl|assumption|omega|(simp; done)))) ?_
            refine oP (KZ rfl rfl) ?_
            refine oM ?_
            refine KAC rfl rfl (dL rfl (hv:=by exact KG Try.underlying35 rfl sz_35)) (Nb rfl) ?_
            refine KAC rfl rfl (dL rfl (hv:=by exact KG Try.underlying35 rfl sz_35)) (Nb rfl) ?_
            refine oGP (KK (Det.eqa (by kernel_rfl) (fun w=>eq_ptP_t hok (P:=padd V.A (pmul V.A V.G (d%(V.n-1))) V.G) (Q:=padd V.A (pmul V.A V.G (d%(V.n-1))) V.G) (rfl) 10000 (by decide) w) rfl rfl) (show _ = Value.bool true by rfl)) ?_
            refine oP (KZ rfl rfl) ?_
            refine oA ?_
            refine KC (KO ?_)
            refine ⟨[_],.cons rfl .nil,fun a w' hr=>⟨?_,hr.fr.below⟩⟩
            rfl
        ·
          refine aO 5 rfl (cF rfl en_52 rfl (fun w hw=>c_n_Nat qs (d%(V.n-1)+1) (D.nw (d%(V.n-1)+1)) w (mC hw)) ?_)
          refine aO 6 rfl (cF rfl en_57 rfl (fun w hw=>c_bMulN _ V (d%(V.n-1)+1) (padd V.A (pmul V.A V.G (d%(V.n-1))) V.G) w h2 (by omega) (rfl)) ?_)
          refine aM 7 ?_
          refine aP 8 rfl (KN rfl rfl) ?_
          refine aP 9 rfl (KN rfl rfl) ?_
          refine aL 11 rfl (sA rfl rfl sz_35 (by exact Kb _ _ _) (hl:=by exact KJ _ _ _) (h:=?_))
          refine aA 12 ?_
          refine aE ?_
          refine KB ?_
          refine rD [11] ?_
          refine aP 0 rfl (KE (o':=0) Try.underlying26 rfl rfl rfl sz_3 (by decide)) ?_
          refine aD 1 rfl (dL rfl (hv:=KM Try.underlying3 rfl (by first|rfl|exact Kg _ _ _ (by omega)|exact Ke _ (by omega)|exact Kd _ (by omega)|exact dv_m _ _ _ (by omega)))) ?_
          refine aD 2 rfl (dL rfl (hv:=by exact KG Try.underlying35 rfl sz_35)) ?_
          refine aD 3 rfl (dL rfl (hv:=by exact KG Try.underlying26 rfl sz_26)) ?_
          refine KAV ?_
          refine Kz 10 rfl (.inl zr_35) (Nb rfl) rfl rfl rfl ?_
          refine Kh 4 rfl rfl rfl (Nb rfl) (by kernel_rfl) rfl (KAS (first:=[]) rfl en_31 rfl (fun w hw hs=>(c_r_GP Q V w (mC hw) hok).mono fun e w' h=>Num2R.q (KAZ (x:=crvI Q V) (by repeat (first|exact Mh _|apply Mt)) rfl) hs h)) ?_
          rintro _ _ ⟨qga,qgb,rfl,rfl,hnga,hngb⟩
          refine Kh 5 rfl rfl rfl (Nb rfl) (by kernel_rfl) rfl (Ko (first:=[]) rfl en_30 rfl (fun w hw=>c_r_OutP V qga qgb (V.G) w (mC hw) (mC hw))) ?_
          rintro _ _ ⟨rfl,rfl⟩
          refine Kh 6 rfl rfl rfl (Nb rfl) (by kernel_rfl) rfl (Ko (first:=[]) rfl en_62 rfl (fun w hw=>c_affAdd _ V (pmul V.A V.G (d%(V.n-1))) (V.G) (padd V.A (pmul V.A V.G (d%(V.n-1))) V.G) w h2 (hok.mul hok.on _) hok.on (rfl))) ?_
          rintro _ _ ⟨rfl,rfl⟩
          refine pM 7 ?_
          refine pP 8 rfl (KN rfl rfl) ?_
          refine pP 9 rfl (KN rfl rfl) ?_
          refine pE (fun b12=>?_)
          refine KAH ?_
          refine aL 11 rfl (sA rfl rfl sz_35 (by exact Kb _ _ _) (hl:=by exact KJ _ _ _) (h:=?_))
          refine aA 12 ?_
          refine aE ?_
          refine KB (KA ?_)
          refine oM ?_
          refine oS (cF rfl en_33 rfl (fun w hw=>c_Num _ w) ?_)
          refine oP (KH (v:=.bool true) rfl rfl (br_t (KAJ (b:=0)) (by first|rfl|assumption|omega|(simp; done)))) ?_
          refine oM ?_
          refine oGM ?_
          refine oGS (cF rfl en_33 rfl (fun w hw=>c_Num _ w) ?_)
          refine oGP (KH (v:=.bool true) rfl rfl (br_t (KAJ (b:=0)) (by first|rfl|assumption|omega|(simp; done)))) ?_
          refine oP (KZ rfl rfl) ?_
          refine oM ?_
          refine oGM ?_
          refine oGS (cF rfl en_33 rfl (fun w hw=>c_Num _ w) ?_)
          refine oGP (KH (v:=.bool true) rfl rfl (br_t (KAJ (b:=0)) (by first|rfl|assumption|omega|(simp; done)))) ?_
          refine oP (KZ rfl rfl) ?_
          refine oM ?_
          refine KAC rfl rfl (dL rfl (hv:=by exact KG Try.underlying35 rfl sz_35)) (Nb rfl) ?_
          refine KAC rfl rfl (dL rfl (hv:=by exact KG Try.underlying35 rfl sz_35)) (Nb rfl) ?_
          refine oGP (KK (Det.eqa (by kernel_rfl) (fun w=>eq_ptP_t hok (P:=padd V.A (pmul V.A V.G (d%(V.n-1))) V.G) (Q:=padd V.A (pmul V.A V.G (d%(V.n-1))) V.G) (rfl) 10000 (by decide) w) rfl rfl) (show _ = Value.bool true by rfl)) ?_
          refine oP (KZ rfl rfl) ?_
          refine oA ?_
          refine KC (KO ?_)
          refine ⟨[_],.cons rfl .nil,fun a w' hr=>⟨?_,hr.fr.below⟩⟩
          rfl
      ·
        refine aO 4 rfl (cZ rfl en_50 rfl (fun w hw hs=>(c_n_Add qz ⟨false,b46,1⟩ (d%(V.n-1)) 1 w (mC hw) (n1_blk (mC hw) (by decide)) (by omega) (by decide)).mono fun e w' h=>KAB (Old.nil _) hs h) ?_)
        rintro _ _ ⟨qs,rfl,rfl,hns⟩
        refine aO 5 rfl (cF rfl en_52 rfl (fun w hw=>c_n_Nat qs (d%(V.n-1)+1) (D.nw (d%(V.n-1)+1)) w (mC hw)) ?_)
        refine aO 6 rfl (cF rfl en_57 rfl (fun w hw=>c_bMulN _ V (d%(V.n-1)+1) (padd V.A (pmul V.A V.G (d%(V.n-1))) V.G) w h2 (by omega) (rfl)) ?_)
        refine aM 7 ?_
        refine aP 8 rfl (KN rfl rfl) ?_
        refine aP 9 rfl (KN rfl rfl) ?_
        refine aL 11 rfl (sA rfl rfl sz_35 (by exact Kb _ _ _) (hl:=by exact KJ _ _ _) (h:=?_))
        refine aA 12 ?_
        refine aE ?_
        refine KB ?_
        refine rD [11] ?_
        refine aP 0 rfl (KE (o':=0) Try.underlying26 rfl rfl rfl sz_3 (by decide)) ?_
        refine aD 1 rfl (dL rfl (hv:=KM Try.underlying3 rfl (by first|rfl|exact Kg _ _ _ (by omega)|exact Ke _ (by omega)|exact Kd _ (by omega)|exact dv_m _ _ _ (by omega)))) ?_
        refine aD 2 rfl (dL rfl (hv:=by exact KG Try.underlying35 rfl sz_35)) ?_
        refine aD 3 rfl (dL rfl (hv:=by exact KG Try.underlying26 rfl sz_26)) ?_
        refine KAV ?_
        refine Kz 10 rfl (.inl zr_35) (Nb rfl) rfl rfl rfl ?_
        refine Kh 4 rfl rfl rfl (Nb rfl) (by kernel_rfl) rfl (KAS (first:=[]) rfl en_31 rfl (fun w hw hs=>(c_r_GP Q V w (mC hw) hok).mono fun e w' h=>Num2R.q (KAZ (x:=crvI Q V) (by repeat (first|exact Mh _|apply Mt)) rfl) hs h)) ?_
        rintro _ _ ⟨qga,qgb,rfl,rfl,hnga,hngb⟩
        refine Kh 5 rfl rfl rfl (Nb rfl) (by kernel_rfl) rfl (Ko (first:=[]) rfl en_30 rfl (fun w hw=>c_r_OutP V qga qgb (V.G) w (mC hw) (mC hw))) ?_
        rintro _ _ ⟨rfl,rfl⟩
        refine Kh 6 rfl rfl rfl (Nb rfl) (by kernel_rfl) rfl (Ko (first:=[]) rfl en_62 rfl (fun w hw=>c_affAdd _ V (pmul V.A V.G (d%(V.n-1))) (V.G) (padd V.A (pmul V.A V.G (d%(V.n-1))) V.G) w h2 (hok.mul hok.on _) hok.on (rfl))) ?_
        rintro _ _ ⟨rfl,rfl⟩
        refine pM 7 ?_
        refine pP 8 rfl (KN rfl rfl) ?_
        refine pP 9 rfl (KN rfl rfl) ?_
        refine pE (fun b12=>?_)
        refine KAH ?_
        refine aL 11 rfl (sA rfl rfl sz_35 (by exact Kb _ _ _) (hl:=by exact KJ _ _ _) (h:=?_))
        refine aA 12 ?_
        refine aE ?_
        refine KB (KA ?_)
        refine oM ?_
        refine oS (cF rfl en_33 rfl (fun w hw=>c_Num _ w) ?_)
        refine oP (KH (v:=.bool true) rfl rfl (br_t (KAJ (b:=0)) (by first|rfl|assumption|omega|(simp; done)))) ?_
        refine oM ?_
        refine oGM ?_
        refine oGS (cF rfl en_33 rfl (fun w hw=>c_Num _ w) ?_)
        refine oGP (KH (v:=.bool true) rfl rfl (br_t (KAJ (b:=0)) (by first|rfl|assumption|omega|(simp; done)))) ?_
        refine oP (KZ rfl rfl) ?_
        refine oM ?_
        refine oGM ?_
        refine oGS (cF rfl en_33 rfl (fun w hw=>c_Num _ w) ?_)
        refine oGP (KH (v:=.bool true) rfl rfl (br_t (KAJ (b:=0)) (by first|rfl|assumption|omega|(simp; done)))) ?_
        refine oP (KZ rfl rfl) ?_
        refine oM ?_
        refine KAC rfl rfl (dL rfl (hv:=by exact KG Try.underlying35 rfl sz_35)) (Nb rfl) ?_
        refine KAC rfl rfl (dL rfl (hv:=by exact KG Try.underlying35 rfl sz_35)) (Nb rfl) ?_
        refine oGP (KK (Det.eqa (by kernel_rfl) (fun w=>eq_ptP_t hok (P:=padd V.A (pmul V.A V.G (d%(V.n-1))) V.G) (Q:=padd V.A (pmul V.A V.G (d%(V.n-1))) V.G) (rfl) 10000 (by decide) w) rfl rfl) (show _ = Value.bool true by rfl)) ?_
        refine oP (KZ rfl rfl) ?_
        refine oA ?_
        refine KC (KO ?_)
        refine ⟨[_],.cons rfl .nil,fun a w' hr=>⟨?_,hr.fr.below⟩⟩
        rfl
    ·
      refine aO 3 rfl (mk (Ky Try.underlying24 inf_67 rfl rfl rfl rfl (by decide) rfl) (fun b46=>?_))
      refine aO 4 rfl (cZ rfl en_50 rfl (fun w hw hs=>(c_n_Add qz ⟨false,b46,1⟩ (d%(V.n-1)) 1 w (mC hw) (n1_blk (mC hw) (by decide)) (by omega) (by decide)).mono fun e w' h=>KAB (Old.nil _) hs h) ?_)
      rintro _ _ ⟨qs,rfl,rfl,hns⟩
      refine aO 5 rfl (cF rfl en_52 rfl (fun w hw=>c_n_Nat qs (d%(V.n-1)+1) (D.nw (d%(V.n-1)+1)) w (mC hw)) ?_)
      refine aO 6 rfl (cF rfl en_57 rfl (fun w hw=>c_bMulN _ V (d%(V.n-1)+1) (padd V.A (pmul V.A V.G (d%(V.n-1))) V.G) w h2 (by omega) (rfl)) ?_)
      refine aM 7 ?_
      refine aP 8 rfl (KN rfl rfl) ?_
      refine aP 9 rfl (KN rfl rfl) ?_
      refine aL 11 rfl (sA rfl rfl sz_35 (by exact Kb _ _ _) (hl:=by exact KJ _ _ _) (h:=?_))
      refine aA 12 ?_
      refine aE ?_
      refine KB ?_
      refine rD [11] ?_
      refine aP 0 rfl (KE (o':=0) Try.underlying26 rfl rfl rfl sz_3 (by decide)) ?_
      refine aD 1 rfl (dL rfl (hv:=KM Try.underlying3 rfl (by first|rfl|exact Kg _ _ _ (by omega)|exact Ke _ (by omega)|exact Kd _ (by omega)|exact dv_m _ _ _ (by omega)))) ?_
      refine aD 2 rfl (dL rfl (hv:=by exact KG Try.underlying35 rfl sz_35)) ?_
      refine aD 3 rfl (dL rfl (hv:=by exact KG Try.underlying26 rfl sz_26)) ?_
      refine KAV ?_
      refine Kz 10 rfl (.inl zr_35) (Nb rfl) rfl rfl rfl ?_
      refine Kh 4 rfl rfl rfl (Nb rfl) (by kernel_rfl) rfl (KAS (first:=[]) rfl en_31 rfl (fun w hw hs=>(c_r_GP Q V w (mC hw) hok).mono fun e w' h=>Num2R.q (KAZ (x:=crvI Q V) (by repeat (first|exact Mh _|apply Mt)) rfl) hs h)) ?_
      rintro _ _ ⟨qga,qgb,rfl,rfl,hnga,hngb⟩
      refine Kh 5 rfl rfl rfl (Nb rfl) (by kernel_rfl) rfl (Ko (first:=[]) rfl en_30 rfl (fun w hw=>c_r_OutP V qga qgb (V.G) w (mC hw) (mC hw))) ?_
      rintro _ _ ⟨rfl,rfl⟩
      refine Kh 6 rfl rfl rfl (Nb rfl) (by kernel_rfl) rfl (Ko (first:=[]) rfl en_62 rfl (fun w hw=>c_affAdd _ V (pmul V.A V.G (d%(V.n-1))) (V.G) (padd V.A (pmul V.A V.G (d%(V.n-1))) V.G) w h2 (hok.mul hok.on _) hok.on (rfl))) ?_
      rintro _ _ ⟨rfl,rfl⟩
      refine pM 7 ?_
      refine pP 8 rfl (KN rfl rfl) ?_
      refine pP 9 rfl (KN rfl rfl) ?_
      refine pE (fun b12=>?_)
      refine KAH ?_
      refine aL 11 rfl (sA rfl rfl sz_35 (by exact Kb _ _ _) (hl:=by exact KJ _ _ _) (h:=?_))
      refine aA 12 ?_
      refine aE ?_
      refine KB (KA ?_)
      refine oM ?_
      refine oS (cF rfl en_33 rfl (fun w hw=>c_Num _ w) ?_)
      refine oP (KH (v:=.bool true) rfl rfl (br_t (KAJ (b:=0)) (by first|rfl|assumption|omega|(simp; done)))) ?_
      refine oM ?_
      refine oGM ?_
      refine oGS (cF rfl en_33 rfl (fun w hw=>c_Num _ w) ?_)
      refine oGP (KH (v:=.bool true) rfl rfl (br_t (KAJ (b:=0)) (by first|rfl|assumption|omega|(simp; done)))) ?_
      refine oP (KZ rfl rfl) ?_
      refine oM ?_
      refine oGM ?_
      refine oGS (cF rfl en_33 rfl (fun w hw=>c_Num _ w) ?_)
      refine oGP (KH (v:=.bool true) rfl rfl (br_t (KAJ (b:=0)) (by first|rfl|assumption|omega|(simp; done)))) ?_
      refine oP (KZ rfl rfl) ?_
      refine oM ?_
      refine KAC rfl rfl (dL rfl (hv:=by exact KG Try.underlying35 rfl sz_35)) (Nb rfl) ?_
      refine KAC rfl rfl (dL rfl (hv:=by exact KG Try.underlying35 rfl sz_35)) (Nb rfl) ?_
      refine oGP (KK (Det.eqa (by kernel_rfl) (fun w=>eq_ptP_t hok (P:=padd V.A (pmul V.A V.G (d%(V.n-1))) V.G) (Q:=padd V.A (pmul V.A V.G (d%(V.n-1))) V.G) (rfl) 10000 (by decide) w) rfl rfl) (show _ = Value.bool true by rfl)) ?_
      refine oP (KZ rfl rfl) ?_
      refine oA ?_
      refine KC (KO ?_)
      refine ⟨[_],.cons rfl .nil,fun a w' hr=>⟨?_,hr.fr.below⟩⟩
      rfl
  ·
    refine aO 1 rfl (cZ rfl en_46 rfl (fun w hw hs=>(c_n_From (d) hd w).mono fun e w' h=>KAB (Old.nil _) hs h) ?_)
    rintro _ _ ⟨qd,rfl,rfl,hnd⟩
    refine aO 5 rfl (cZ rfl en_65 rfl (fun w hw hs=>(c_n_Sub Q.n ⟨false,b31,1⟩ V.n 1 w (crvI_n (mC hw)) (n1_blk (mC hw) (by decide)) (by omega) (by omega)).mono fun e w' h=>KAB (Old.nil _) hs h) ?_)
    rintro _ _ ⟨ql,rfl,rfl,hnl⟩
    refine aO 6 rfl (cZ rfl en_60 rfl (fun w hw hs=>(c_n_Mod qd ql (d) (V.n-1) hn10 w (mC hw) (mC hw) (by omega)).mono fun e w' h=>KAB (KAZ (x:=numT qd (d)) (by repeat (first|exact Mh _|apply Mt)) rfl) hs h) ?_)
    rintro _ _ ⟨qz,rfl,rfl,hnz⟩
    refine aA 7 ?_
    refine aE ?_
    refine KB ?_
    refine rD [9] ?_
    refine aP 0 rfl (KE (o':=0) Try.underlying26 rfl rfl rfl sz_3 (by decide)) ?_
    refine aD 1 rfl (dL rfl (hv:=KM Try.underlying3 rfl (by first|rfl|exact Kg _ _ _ (by omega)|exact Ke _ (by omega)|exact Kd _ (by omega)|exact dv_m _ _ _ (by omega)))) ?_
    refine aM 2 ?_
    refine KAV ?_
    refine Kz 8 rfl (.inl zr_35) (Nb rfl) rfl rfl rfl ?_
    refine Kh 3 rfl rfl rfl (Nb rfl) (by kernel_rfl) rfl (Ko (first:=[]) rfl en_52 rfl (fun w hw=>c_n_Nat qz (d%(V.n-1)) (D.nw (d%(V.n-1))) w (mC hw))) ?_
    rintro _ _ ⟨rfl,rfl⟩
    refine Kh 4 rfl rfl rfl (Nb rfl) (by kernel_rfl) rfl (Ko (first:=[]) rfl en_57 rfl (fun w hw=>c_bMulN _ V (d%(V.n-1)) (pmul V.A V.G (d%(V.n-1))) w h2 (by omega) (rfl))) ?_
    rintro _ _ ⟨rfl,rfl⟩
    refine pM 5 ?_
    refine pP 6 rfl (KN rfl rfl) ?_
    refine pP 7 rfl (KN rfl rfl) ?_
    refine pE (fun b8=>?_)
    refine KAH ?_
    refine aL 9 rfl (sA rfl rfl sz_35 (by exact Kb _ _ _) (hl:=by exact KJ _ _ _) (h:=?_))
    refine aA 10 ?_
    refine aE ?_
    refine KB ?_
    refine rD [11] ?_
    refine aP 0 rfl (KE (o':=0) Try.underlying26 rfl rfl rfl sz_3 (by decide)) ?_
    refine aD 1 rfl (dL rfl (hv:=KM Try.underlying3 rfl (by first|rfl|exact Kg _ _ _ (by omega)|exact Ke _ (by omega)|exact Kd _ (by omega)|exact dv_m _ _ _ (by omega)))) ?_
    refine aM 2 ?_
    refine KAQ 3 10 rfl rfl rfl rfl (by kernel_rfl) (.inr (mk (Ky Try.underlying24 inf_67 rfl rfl rfl rfl (by decide) rfl) (fun b46=>?_))) (.inr (mk (KS zr_35) (fun b10=>?_)))
    ·
      refine KAQ 4 10 rfl rfl rfl rfl (by kernel_rfl) (.inr (cZ rfl en_50 rfl (fun w hw hs=>(c_n_Add qz ⟨false,b46,1⟩ (d%(V.n-1)) 1 w (mC hw) (n1_blk (mC hw) (by decide)) (by omega) (by decide)).mono fun e w' h=>KAB (Old.nil _) hs h) ?_)) (.inr (mk (KS zr_35) (fun b10=>?_)))
      ·
        rintro _ _ ⟨qs,rfl,rfl,hns⟩
        refine KAQ 5 10 rfl rfl rfl rfl (by kernel_rfl) (.inr (cF rfl en_52 rfl (fun w hw=>c_n_Nat qs (d%(V.n-1)+1) (D.nw (d%(V.n-1)+1)) w (mC hw)) ?_)) (.inr (mk (KS zr_35) (fun b10=>?_)))
        ·
          refine KAQ 6 10 rfl rfl rfl rfl (by kernel_rfl) (.inr (cF rfl en_57 rfl (fun w hw=>c_bMulN _ V (d%(V.n-1)+1) (padd V.A (pmul V.A V.G (d%(V.n-1))) V.G) w h2 (by omega) (rfl)) ?_)) (.inr (mk (KS zr_35) (fun b10=>?_)))
          ·
            refine aM 7 ?_
            refine aP 8 rfl (KN rfl rfl) ?_
            refine aP 9 rfl (KN rfl rfl) ?_
            refine aO 10 rfl (mk (KS zr_35) (fun b10=>?_))
            refine aL 11 rfl (sA rfl rfl sz_35 (by exact Kb _ _ _) (hl:=by exact KJ _ _ _) (h:=?_))
            refine aA 12 ?_
            refine aE ?_
            refine KB ?_
            refine rD [11] ?_
            refine aP 0 rfl (KE (o':=0) Try.underlying26 rfl rfl rfl sz_3 (by decide)) ?_
            refine aD 1 rfl (dL rfl (hv:=KM Try.underlying3 rfl (by first|rfl|exact Kg _ _ _ (by omega)|exact Ke _ (by omega)|exact Kd _ (by omega)|exact dv_m _ _ _ (by omega)))) ?_
            refine aD 2 rfl (dL rfl (hv:=by exact KG Try.underlying35 rfl sz_35)) ?_
            refine aD 3 rfl (dL rfl (hv:=by exact KG Try.underlying26 rfl sz_26)) ?_
            refine KAV ?_
            refine Kz 10 rfl (.inl zr_35) (Nb rfl) rfl rfl rfl ?_
            refine Kh 4 rfl rfl rfl (Nb rfl) (by kernel_rfl) rfl (KAS (first:=[]) rfl en_31 rfl (fun w hw hs=>(c_r_GP Q V w (mC hw) hok).mono fun e w' h=>Num2R.q (KAZ (x:=crvI Q V) (by repeat (first|exact Mh _|apply Mt)) rfl) hs h)) ?_
            rintro _ _ ⟨qga,qgb,rfl,rfl,hnga,hngb⟩
            refine Kh 5 rfl rfl rfl (Nb rfl) (by kernel_rfl) rfl (Ko (first:=[]) rfl en_30 rfl (fun w hw=>c_r_OutP V qga qgb (V.G) w (mC hw) (mC hw))) ?_
            rintro _ _ ⟨rfl,rfl⟩
            refine Kh 6 rfl rfl rfl (Nb rfl) (by kernel_rfl) rfl (Ko (first:=[]) rfl en_62 rfl (fun w hw=>c_affAdd _ V (pmul V.A V.G (d%(V.n-1))) (V.G) (padd V.A (pmul V.A V.G (d%(V.n-1))) V.G) w h2 (hok.mul hok.on _) hok.on (rfl))) ?_
            rintro _ _ ⟨rfl,rfl⟩
            refine pM 7 ?_
            refine pP 8 rfl (KN rfl rfl) ?_
            refine pP 9 rfl (KN rfl rfl) ?_
            refine pE (fun b12=>?_)
            refine KAH ?_
            refine aL 11 rfl (sA rfl rfl sz_35 (by exact Kb _ _ _) (hl:=by exact KJ _ _ _) (h:=?_))
            refine aA 12 ?_
            refine aE ?_
            refine KB (KA ?_)
            refine oM ?_
            refine oS (cF rfl en_33 rfl (fun w hw=>c_Num _ w) ?_)
            refine oP (KH (v:=.bool true) rfl rfl (br_t (KAJ (b:=0)) (by first|rfl|assumption|omega|(simp; done)))) ?_
            refine oM ?_
            refine oGM ?_
            refine oGS (cF rfl en_33 rfl (fun w hw=>c_Num _ w) ?_)
            refine oGP (KH (v:=.bool true) rfl rfl (br_t (KAJ (b:=0)) (by first|rfl|assumption|omega|(simp; done)))) ?_
            refine oP (KZ rfl rfl) ?_
            refine oM ?_
            refine oGM ?_
            refine oGS (cF rfl en_33 rfl (fun w hw=>c_Num _ w) ?_)
            refine oGP (KH (v:=.bool true) rfl rfl (br_t (KAJ (b:=0)) (by first|rfl|assumption|omega|(simp; done)))) ?_
            refine oP (KZ rfl rfl) ?_
            refine oM ?_
            refine KAC rfl rfl (dL rfl (hv:=by exact KG Try.underlying35 rfl sz_35)) (Nb rfl) ?_
            refine KAC rfl rfl (dL rfl (hv:=by exact KG Try.underlying35 rfl sz_35)) (Nb rfl) ?_
            refine oGP (KK (Det.eqa (by kernel_rfl) (fun w=>eq_ptP_t hok (P:=padd V.A (pmul V.A V.G (d%(V.n-1))) V.G) (Q:=padd V.A (pmul V.A V.G (d%(V.n-1))) V.G) (rfl) 10000 (by decide) w) rfl rfl) (show _ = Value.bool true by rfl)) ?_
            refine oP (KZ rfl rfl) ?_
            refine oA ?_
            refine KC (KO ?_)
            refine ⟨[_],.cons rfl .nil,fun a w' hr=>⟨?_,hr.fr.below⟩⟩
            rfl
          ·
            refine aO 6 rfl (cF rfl en_57 rfl (fun w hw=>c_bMulN _ V (d%(V.n-1)+1) (padd V.A (pmul V.A V.G (d%(V.n-1))) V.G) w h2 (by omega) (rfl)) ?_)
            refine aM 7 ?_
            refine aP 8 rfl (KN rfl rfl) ?_
            refine aP 9 rfl (KN rfl rfl) ?_
            refine aL 11 rfl (sA rfl rfl sz_35 (by exact Kb _ _ _) (hl:=by exact KJ _ _ _) (h:=?_))
            refine aA 12 ?_
            refine aE ?_
            refine KB ?_
            refine rD [11] ?_
            refine aP 0 rfl (KE (o':=0) Try.underlying26 rfl rfl rfl sz_3 (by decide)) ?_
            refine aD 1 rfl (dL rfl (hv:=KM Try.underlying3 rfl (by first|rfl|exact Kg _ _ _ (by omega)|exact Ke _ (by omega)|exact Kd _ (by omega)|exact dv_m _ _ _ (by omega)))) ?_
            refine aD 2 rfl (dL rfl (hv:=by exact KG Try.underlying35 rfl sz_35)) ?_
            refine aD 3 rfl (dL rfl (hv:=by exact KG Try.underlying26 rfl sz_26)) ?_
            refine KAV ?_
            refine Kz 10 rfl (.inl zr_35) (Nb rfl) rfl rfl rfl ?_
            refine Kh 4 rfl rfl rfl (Nb rfl) (by kernel_rfl) rfl (KAS (first:=[]) rfl en_31 rfl (fun w hw hs=>(c_r_GP Q V w (mC hw) hok).mono fun e w' h=>Num2R.q (KAZ (x:=crvI Q V) (by repeat (first|exact Mh _|apply Mt)) rfl) hs h)) ?_
            rintro _ _ ⟨qga,qgb,rfl,rfl,hnga,hngb⟩
            refine Kh 5 rfl rfl rfl (Nb rfl) (by kernel_rfl) rfl (Ko (first:=[]) rfl en_30 rfl (fun w hw=>c_r_OutP V qga qgb (V.G) w (mC hw) (mC hw))) ?_
            rintro _ _ ⟨rfl,rfl⟩
            refine Kh 6 rfl rfl rfl (Nb rfl) (by kernel_rfl) rfl (Ko (first:=[]) rfl en_62 rfl (fun w hw=>c_affAdd _ V (pmul V.A V.G (d%(V.n-1))) (V.G) (padd V.A (pmul V.A V.G (d%(V.n-1))) V.G) w h2 (hok.mul hok.on _) hok.on (rfl))) ?_
            rintro _ _ ⟨rfl,rfl⟩
            refine pM 7 ?_
            refine pP 8 rfl (KN rfl rfl) ?_
            refine pP 9 rfl (KN rfl rfl) ?_
            refine pE (fun b12=>?_)
            refine KAH ?_
            refine aL 11 rfl (sA rfl rfl sz_35 (by exact Kb _ _ _) (hl:=by exact KJ _ _ _) (h:=?_))
            refine aA 12 ?_
            refine aE ?_
            refine KB (KA ?_)
            refine oM ?_
            refine oS (cF rfl en_33 rfl (fun w hw=>c_Num _ w) ?_)
            refine oP (KH (v:=.bool true) rfl rfl (br_t (KAJ (b:=0)) (by first|rfl|assumption|omega|(simp; done)))) ?_
            refine oM ?_
            refine oGM ?_
            refine oGS (cF rfl en_33 rfl (fun w hw=>c_Num _ w) ?_)
            refine oGP (KH (v:=.bool true) rfl rfl (br_t (KAJ (b:=0)) (by first|rfl|assumption|omega|(simp; done)))) ?_
            refine oP (KZ rfl rfl) ?_
            refine oM ?_
            refine oGM ?_
            refine oGS (cF rfl en_33 rfl (fun w hw=>c_Num _ w) ?_)
            refine oGP (KH (v:=.bool true) rfl rfl (br_t (KAJ (b:=0)) (by first|rfl|assumption|omega|(simp; done)))) ?_
            refine oP (KZ rfl rfl) ?_
            refine oM ?_
            refine KAC rfl rfl (dL rfl (hv:=by exact KG Try.underlying35 rfl sz_35)) (Nb rfl) ?_
            refine KAC rfl rfl (dL rfl (hv:=by exact KG Try.underlying35 rfl sz_35)) (Nb rfl) ?_
            refine oGP (KK (Det.eqa (by kernel_rfl) (fun w=>eq_ptP_t hok (P:=padd V.A (pmul V.A V.G (d%(V.n-1))) V.G) (Q:=padd V.A (pmul V.A V.G (d%(V.n-1))) V.G) (rfl) 10000 (by decide) w) rfl rfl) (show _ = Value.bool true by rfl)) ?_
            refine oP (KZ rfl rfl) ?_
            refine oA ?_
            refine KC (KO ?_)
            refine ⟨[_],.cons rfl .nil,fun a w' hr=>⟨?_,hr.fr.below⟩⟩
            rfl
        ·
          refine aO 5 rfl (cF rfl en_52 rfl (fun w hw=>c_n_Nat qs (d%(V.n-1)+1) (D.nw (d%(V.n-1)+1)) w (mC hw)) ?_)
          refine aO 6 rfl (cF rfl en_57 rfl (fun w hw=>c_bMulN _ V (d%(V.n-1)+1) (padd V.A (pmul V.A V.G (d%(V.n-1))) V.G) w h2 (by omega) (rfl)) ?_)
          refine aM 7 ?_
          refine aP 8 rfl (KN rfl rfl) ?_
          refine aP 9 rfl (KN rfl rfl) ?_
          refine aL 11 rfl (sA rfl rfl sz_35 (by exact Kb _ _ _) (hl:=by exact KJ _ _ _) (h:=?_))
          refine aA 12 ?_
          refine aE ?_
          refine KB ?_
          refine rD [11] ?_
          refine aP 0 rfl (KE (o':=0) Try.underlying26 rfl rfl rfl sz_3 (by decide)) ?_
          refine aD 1 rfl (dL rfl (hv:=KM Try.underlying3 rfl (by first|rfl|exact Kg _ _ _ (by omega)|exact Ke _ (by omega)|exact Kd _ (by omega)|exact dv_m _ _ _ (by omega)))) ?_
          refine aD 2 rfl (dL rfl (hv:=by exact KG Try.underlying35 rfl sz_35)) ?_
          refine aD 3 rfl (dL rfl (hv:=by exact KG Try.underlying26 rfl sz_26)) ?_
          refine KAV ?_
          refine Kz 10 rfl (.inl zr_35) (Nb rfl) rfl rfl rfl ?_
          refine Kh 4 rfl rfl rfl (Nb rfl) (by kernel_rfl) rfl (KAS (first:=[]) rfl en_31 rfl (fun w hw hs=>(c_r_GP Q V w (mC hw) hok).mono fun e w' h=>Num2R.q (KAZ (x:=crvI Q V) (by repeat (first|exact Mh _|apply Mt)) rfl) hs h)) ?_
          rintro _ _ ⟨qga,qgb,rfl,rfl,hnga,hngb⟩
          refine Kh 5 rfl rfl rfl (Nb rfl) (by kernel_rfl) rfl (Ko (first:=[]) rfl en_30 rfl (fun w hw=>c_r_OutP V qga qgb (V.G) w (mC hw) (mC hw))) ?_
          rintro _ _ ⟨rfl,rfl⟩
          refine Kh 6 rfl rfl rfl (Nb rfl) (by kernel_rfl) rfl (Ko (first:=[]) rfl en_62 rfl (fun w hw=>c_affAdd _ V (pmul V.A V.G (d%(V.n-1))) (V.G) (padd V.A (pmul V.A V.G (d%(V.n-1))) V.G) w h2 (hok.mul hok.on _) hok.on (rfl))) ?_
          rintro _ _ ⟨rfl,rfl⟩
          refine pM 7 ?_
          refine pP 8 rfl (KN rfl rfl) ?_
          refine pP 9 rfl (KN rfl rfl) ?_
          refine pE (fun b12=>?_)
          refine KAH ?_
          refine aL 11 rfl (sA rfl rfl sz_35 (by exact Kb _ _ _) (hl:=by exact KJ _ _ _) (h:=?_))
          refine aA 12 ?_
          refine aE ?_
          refine KB (KA ?_)
          refine oM ?_
          refine oS (cF rfl en_33 rfl (fun w hw=>c_Num _ w) ?_)
          refine oP (KH (v:=.bool true) rfl rfl (br_t (KAJ (b:=0)) (by first|rfl|assumption|omega|(simp; done)))) ?_
          refine oM ?_
          refine oGM ?_
          refine oGS (cF rfl en_33 rfl (fun w hw=>c_Num _ w) ?_)
          refine oGP (KH (v:=.bool true) rfl rfl (br_t (KAJ (b:=0)) (by first|rfl|assumption|omega|(simp; done)))) ?_
          refine oP (KZ rfl rfl) ?_
          refine oM ?_
          refine oGM ?_
          refine oGS (cF rfl en_33 rfl (fun w hw=>c_Num _ w) ?_)
          refine oGP (KH (v:=.bool true) rfl rfl (br_t (KAJ (b:=0)) (by first|rfl|assumption|omega|(simp; done)))) ?_
          refine oP (KZ rfl rfl) ?_
          refine oM ?_
          refine KAC rfl rfl (dL rfl (hv:=by exact KG Try.underlying35 rfl sz_35)) (Nb rfl) ?_
          refine KAC rfl rfl (dL rfl (hv:=by exact KG Try.underlying35 rfl sz_35)) (Nb rfl) ?_
          refine oGP (KK (Det.eqa (by kernel_rfl) (fun w=>eq_ptP_t hok (P:=padd V.A (pmul V.A V.G (d%(V.n-1))) V.G) (Q:=padd V.A (pmul V.A V.G (d%(V.n-1))) V.G) (rfl) 10000 (by decide) w) rfl rfl) (show _ = Value.bool true by rfl)) ?_
          refine oP (KZ rfl rfl) ?_
          refine oA ?_
          refine KC (KO ?_)
          refine ⟨[_],.cons rfl .nil,fun a w' hr=>⟨?_,hr.fr.below⟩⟩
          rfl
      ·
        refine aO 4 rfl (cZ rfl en_50 rfl (fun w hw hs=>(c_n_Add qz ⟨false,b46,1⟩ (d%(V.n-1)) 1 w (mC hw) (n1_blk (mC hw) (by decide)) (by omega) (by decide)).mono fun e w' h=>KAB (Old.nil _) hs h) ?_)
        rintro _ _ ⟨qs,rfl,rfl,hns⟩
        refine aO 5 rfl (cF rfl en_52 rfl (fun w hw=>c_n_Nat qs (d%(V.n-1)+1) (D.nw (d%(V.n-1)+1)) w (mC hw)) ?_)
        refine aO 6 rfl (cF rfl en_57 rfl (fun w hw=>c_bMulN _ V (d%(V.n-1)+1) (padd V.A (pmul V.A V.G (d%(V.n-1))) V.G) w h2 (by omega) (rfl)) ?_)
        refine aM 7 ?_
        refine aP 8 rfl (KN rfl rfl) ?_
        refine aP 9 rfl (KN rfl rfl) ?_
        refine aL 11 rfl (sA rfl rfl sz_35 (by exact Kb _ _ _) (hl:=by exact KJ _ _ _) (h:=?_))
        refine aA 12 ?_
        refine aE ?_
        refine KB ?_
        refine rD [11] ?_
        refine aP 0 rfl (KE (o':=0) Try.underlying26 rfl rfl rfl sz_3 (by decide)) ?_
        refine aD 1 rfl (dL rfl (hv:=KM Try.underlying3 rfl (by first|rfl|exact Kg _ _ _ (by omega)|exact Ke _ (by omega)|exact Kd _ (by omega)|exact dv_m _ _ _ (by omega)))) ?_
        refine aD 2 rfl (dL rfl (hv:=by exact KG Try.underlying35 rfl sz_35)) ?_
        refine aD 3 rfl (dL rfl (hv:=by exact KG Try.underlying26 rfl sz_26)) ?_
        refine KAV ?_
        refine Kz 10 rfl (.inl zr_35) (Nb rfl) rfl rfl rfl ?_
        refine Kh 4 rfl rfl rfl (Nb rfl) (by kernel_rfl) rfl (KAS (first:=[]) rfl en_31 rfl (fun w hw hs=>(c_r_GP Q V w (mC hw) hok).mono fun e w' h=>Num2R.q (KAZ (x:=crvI Q V) (by repeat (first|exact Mh _|apply Mt)) rfl) hs h)) ?_
        rintro _ _ ⟨qga,qgb,rfl,rfl,hnga,hngb⟩
        refine Kh 5 rfl rfl rfl (Nb rfl) (by kernel_rfl) rfl (Ko (first:=[]) rfl en_30 rfl (fun w hw=>c_r_OutP V qga qgb (V.G) w (mC hw) (mC hw))) ?_
        rintro _ _ ⟨rfl,rfl⟩
        refine Kh 6 rfl rfl rfl (Nb rfl) (by kernel_rfl) rfl (Ko (first:=[]) rfl en_62 rfl (fun w hw=>c_affAdd _ V (pmul V.A V.G (d%(V.n-1))) (V.G) (padd V.A (pmul V.A V.G (d%(V.n-1))) V.G) w h2 (hok.mul hok.on _) hok.on (rfl))) ?_
        rintro _ _ ⟨rfl,rfl⟩
        refine pM 7 ?_
        refine pP 8 rfl (KN rfl rfl) ?_
        refine pP 9 rfl (KN rfl rfl) ?_
        refine pE (fun b12=>?_)
        refine KAH ?_
        refine aL 11 rfl (sA rfl rfl sz_35 (by exact Kb _ _ _) (hl:=by exact KJ _ _ _) (h:=?_))
        refine aA 12 ?_
        refine aE ?_
        refine KB (KA ?_)
        refine oM ?_
        refine oS (cF rfl en_33 rfl (fun w hw=>c_Num _ w) ?_)
        refine oP (KH (v:=.bool true) rfl rfl (br_t (KAJ (b:=0)) (by first|rfl|assumption|omega|(simp; done)))) ?_
        refine oM ?_
        refine oGM ?_
        refine oGS (cF rfl en_33 rfl (fun w hw=>c_Num _ w) ?_)
        refine oGP (KH (v:=.bool true) rfl rfl (br_t (KAJ (b:=0)) (by first|rfl|assumption|omega|(simp; done)))) ?_
        refine oP (KZ rfl rfl) ?_
        refine oM ?_
        refine oGM ?_
        refine oGS (cF rfl en_33 rfl (fun w hw=>c_Num _ w) ?_)
        refine oGP (KH (v:=.bool true) rfl rfl (br_t (KAJ (b:=0)) (by first|rfl|assumption|omega|(simp; done)))) ?_
        refine oP (KZ rfl rfl) ?_
        refine oM ?_
        refine KAC rfl rfl (dL rfl (hv:=by exact KG Try.underlying35 rfl sz_35)) (Nb rfl) ?_
        refine KAC rfl rfl (dL rfl (hv:=by exact KG Try.underlying35 rfl sz_35)) (Nb rfl) ?_
        refine oGP (KK (Det.eqa (by kernel_rfl) (fun w=>eq_ptP_t hok (P:=padd V.A (pmul V.A V.G (d%(V.n-1))) V.G) (Q:=padd V.A (pmul V.A V.G (d%(V.n-1))) V.G) (rfl) 10000 (by decide) w) rfl rfl) (show _ = Value.bool true by rfl)) ?_
        refine oP (KZ rfl rfl) ?_
        refine oA ?_
        refine KC (KO ?_)
        refine ⟨[_],.cons rfl .nil,fun a w' hr=>⟨?_,hr.fr.below⟩⟩
        rfl
    ·
      refine aO 3 rfl (mk (Ky Try.underlying24 inf_67 rfl rfl rfl rfl (by decide) rfl) (fun b46=>?_))
      refine aO 4 rfl (cZ rfl en_50 rfl (fun w hw hs=>(c_n_Add qz ⟨false,b46,1⟩ (d%(V.n-1)) 1 w (mC hw) (n1_blk (mC hw) (by decide)) (by omega) (by decide)).mono fun e w' h=>KAB (Old.nil _) hs h) ?_)
      rintro _ _ ⟨qs,rfl,rfl,hns⟩
      refine aO 5 rfl (cF rfl en_52 rfl (fun w hw=>c_n_Nat qs (d%(V.n-1)+1) (D.nw (d%(V.n-1)+1)) w (mC hw)) ?_)
      refine aO 6 rfl (cF rfl en_57 rfl (fun w hw=>c_bMulN _ V (d%(V.n-1)+1) (padd V.A (pmul V.A V.G (d%(V.n-1))) V.G) w h2 (by omega) (rfl)) ?_)
      refine aM 7 ?_
      refine aP 8 rfl (KN rfl rfl) ?_
      refine aP 9 rfl (KN rfl rfl) ?_
      refine aL 11 rfl (sA rfl rfl sz_35 (by exact Kb _ _ _) (hl:=by exact KJ _ _ _) (h:=?_))
      refine aA 12 ?_
      refine aE ?_
      refine KB ?_
      refine rD [11] ?_
      refine aP 0 rfl (KE (o':=0) Try.underlying26 rfl rfl rfl sz_3 (by decide)) ?_
      refine aD 1 rfl (dL rfl (hv:=KM Try.underlying3 rfl (by first|rfl|exact Kg _ _ _ (by omega)|exact Ke _ (by omega)|exact Kd _ (by omega)|exact dv_m _ _ _ (by omega)))) ?_
      refine aD 2 rfl (dL rfl (hv:=by exact KG Try.underlying35 rfl sz_35)) ?_
      refine aD 3 rfl (dL rfl (hv:=by exact KG Try.underlying26 rfl sz_26)) ?_
      refine KAV ?_
      refine Kz 10 rfl (.inl zr_35) (Nb rfl) rfl rfl rfl ?_
      refine Kh 4 rfl rfl rfl (Nb rfl) (by kernel_rfl) rfl (KAS (first:=[]) rfl en_31 rfl (fun w hw hs=>(c_r_GP Q V w (mC hw) hok).mono fun e w' h=>Num2R.q (KAZ (x:=crvI Q V) (by repeat (first|exact Mh _|apply Mt)) rfl) hs h)) ?_
      rintro _ _ ⟨qga,qgb,rfl,rfl,hnga,hngb⟩
      refine Kh 5 rfl rfl rfl (Nb rfl) (by kernel_rfl) rfl (Ko (first:=[]) rfl en_30 rfl (fun w hw=>c_r_OutP V qga qgb (V.G) w (mC hw) (mC hw))) ?_
      rintro _ _ ⟨rfl,rfl⟩
      refine Kh 6 rfl rfl rfl (Nb rfl) (by kernel_rfl) rfl (Ko (first:=[]) rfl en_62 rfl (fun w hw=>c_affAdd _ V (pmul V.A V.G (d%(V.n-1))) (V.G) (padd V.A (pmul V.A V.G (d%(V.n-1))) V.G) w h2 (hok.mul hok.on _) hok.on (rfl))) ?_
      rintro _ _ ⟨rfl,rfl⟩
      refine pM 7 ?_
      refine pP 8 rfl (KN rfl rfl) ?_
      refine pP 9 rfl (KN rfl rfl) ?_
      refine pE (fun b12=>?_)
      refine KAH ?_
      refine aL 11 rfl (sA rfl rfl sz_35 (by exact Kb _ _ _) (hl:=by exact KJ _ _ _) (h:=?_))
      refine aA 12 ?_
      refine aE ?_
      refine KB (KA ?_)
      refine oM ?_
      refine oS (cF rfl en_33 rfl (fun w hw=>c_Num _ w) ?_)
      refine oP (KH (v:=.bool true) rfl rfl (br_t (KAJ (b:=0)) (by first|rfl|assumption|omega|(simp; done)))) ?_
      refine oM ?_
      refine oGM ?_
      refine oGS (cF rfl en_33 rfl (fun w hw=>c_Num _ w) ?_)
      refine oGP (KH (v:=.bool true) rfl rfl (br_t (KAJ (b:=0)) (by first|rfl|assumption|omega|(simp; done)))) ?_
      refine oP (KZ rfl rfl) ?_
      refine oM ?_
      refine oGM ?_
      refine oGS (cF rfl en_33 rfl (fun w hw=>c_Num _ w) ?_)
      refine oGP (KH (v:=.bool true) rfl rfl (br_t (KAJ (b:=0)) (by first|rfl|assumption|omega|(simp; done)))) ?_
      refine oP (KZ rfl rfl) ?_
      refine oM ?_
      refine KAC rfl rfl (dL rfl (hv:=by exact KG Try.underlying35 rfl sz_35)) (Nb rfl) ?_
      refine KAC rfl rfl (dL rfl (hv:=by exact KG Try.underlying35 rfl sz_35)) (Nb rfl) ?_
      refine oGP (KK (Det.eqa (by kernel_rfl) (fun w=>eq_ptP_t hok (P:=padd V.A (pmul V.A V.G (d%(V.n-1))) V.G) (Q:=padd V.A (pmul V.A V.G (d%(V.n-1))) V.G) (rfl) 10000 (by decide) w) rfl rfl) (show _ = Value.bool true by rfl)) ?_
      refine oP (KZ rfl rfl) ?_
      refine oA ?_
      refine KC (KO ?_)
      refine ⟨[_],.cons rfl .nil,fun a w' hr=>⟨?_,hr.fr.below⟩⟩
      rfl
end Go.Proofs.Ytlmiolnccgjjjaa
set_option maxRecDepth 100000
namespace Go.Proofs.Ytlmiolnccgjjjaa
open Go
def ioChars:List Char:=([104,97,114,110,101,115,115,32,51,100,97,51,56,97,97,97,101,50,102,56,55,53,98,101,100,56,56,57,99,51,57,97,102,97,100,99,99,98,102,50,102,97,48,49,100,55,56,97,101,50,48,102,97,99,53,57,102,57,56,48,52,102,53,99,98,98,56,100,52,97,97,98,32,99,117,116,32,97,116,32,99,117,114,118,101,116,47,99,117,114,118,101,116,108,97,119,49,54,46,84,97,98,108,101,83,105,122,101,115,32,99,117,114,118,101,116,47,99,117,114,118,101,116,108,97,119,49,54,46,84,97,98,108,101,78,105,108,32,99,117,114,118,101,116,47,99,117,114,118,101,116,108,97,119,50,49,46,83,101,99,49,115,32,99,117,114,118,101,116,47,99,117,114,118,101,116,108,97,119,50,49,46,83,101,99,49,66,97,99,107,32,99,117,114,118,101,116,47,99,117,114,118,101,116,108,97,119,50,49,46,83,101,99,49,84,105,110,121,32,99,117,114,118,101,116,47,99,117,114,118,101,116,108,97,119,50,49,46,83,101,99,49,66,111,116,104,32,99,117,114,118,101,116,47,99,117,114,118,101,116,108,97,119,50,49,46,83,101,99,49,76,101,110,103,116,104,115,32,99,117,114,118,101,116,47,99,117,114,118,101,116,108,97,119,50,49,46,83,101,99,49,87,104,111,108,101,32,99,117,114,118,101,116,47,99,117,114,118,101,116,108,97,119,50,49,46,83,101,99,49,71,114,101,97,116,32,99,117,114,118,101,116,47,99,117,114,118,101,116,108,97,119,49,54,46,84,97,98,108,101,115,32,99,117,114,118,101,116,47,99,117,114,118,101,116,108,97,119,49,57,46,66,97,115,101,115,32,99,117,114,118,101,116,47,99,117,114,118,101,116,108,97,119,49,57,46,66,97,115,101,78,105,108,32,99,117,114,118,101,116,47,99,117,114,118,101,116,108,97,119,49,54,46,84,97,98,108,101,66,108,105,110,100,32,99,117,114,118,101,116,47,99,117,114,118,101,116,108,97,119,49,54,46,84,97,98,108,101,83,117,109,115,32,99,117,114,118,101,116,47,99,117,114,118,101,116,108,97,119,49,56,46,77,117,108,116,115,32,99,117,114,118,101,116,47,99,117,114,118,101,116,108,97,119,49,56,46,77,117,108,116,69,110,100,115,32,99,117,114,118,101,116,47,99,117,114,118,101,116,108,97,119,49,56,46,77,117,108,116,84,119,105,99,101,32,99,117,114,118,101,116,47,99,117,114,118,101,116,108,97,119,49,56,46,77,117,108,116,84,105,110,121,32,99,117,114,118,101,116,47,99,117,114,118,101,116,108,97,119,49,57,46,66,97,115,101,84,117,114,110,115,32,99,117,114,118,101,116,47,99,117,114,118,101,116,108,97,119,49,56,46,77,117,108,116,66,108,105,110,100,32,99,117,114,118,101,116,47,99,117,114,118,101,116,108,97,119,49,57,46,66,97,115,101,83,116,101,112,115,32,99,117,114,118,101,116,47,99,117,114,118,101,116,108,97,119,49,57,46,66,97,115,101,66,108,105,110,100,32,99,117,114,118,101,116,47,99,117,114,118,101,116,108,97,119,49,56,46,77,117,108,116,65,100,100,115,32,99,117,114,118,101,116,47,99,117,114,118,101,116,108,97,119,50,48,46,68,117,97,108,65,108,111,110,101,32,99,117,114,118,101,116,47,99,117,114,118,101,116,108,97,119,50,53,46,69,99,100,104,65,103,114,101,101,115]:List Nat).map Char.ofNat
theorem io_lit:Try.prog.initOrder = String.ofList ioChars:=by kernel_rfl
theorem io_list:Try.prog.initOrder.toList = ioChars:=by rw [io_lit,String.toList_ofList]
def cutW:List Char:=([99,117,116]:List Nat).map Char.ofNat
def ioRest:List (List Char):=(wordsSigns ioChars).drop 3
theorem io_words:behindMainWord (wordsSigns ioChars) = cutW :: ioRest:=by kernel_rfl
theorem io_strip (r:List (List Char)):stripLifts liftWords (cutW :: r) = ([],cutW :: r):=by kernel_rfl
theorem no_later:Try.prog.laysLater = false:=by kernel_rfl
theorem no_reflect:Try.prog.bearsReflect = false:=by kernel_rfl
theorem door_fits:Try.prog.doorFits [] = true:=by kernel_rfl
theorem and2 {a b:Bool} (h:a = true) (k:b = true):(a && b) = true:=by rw [h,k]; rfl
theorem or_right {a b:Bool} (h:b = true):(a || b) = true:=by rw [h]; cases a <;> rfl
theorem cut_is : (cutW == "cut".toList) = true := by kernel_rfl
theorem cut_gc : (cutW == "gc".toList) = false := by kernel_rfl
theorem cut_spec : (cutW == "spec".toList) = false := by kernel_rfl
theorem cut_carried : (cutW == "carried".toList) = false := by kernel_rfl
theorem head_carried (r : List (List Char)) : ((cutW :: r).head? == some "carried".toList) = false := cut_carried
theorem enter_of (P:Program) {r:List (List Char)} (h:behindMainWord (wordsSigns P.initOrder.toList) = cutW :: r) (h1:P.laysLater = false) (h2:P.bearsReflect = false) (h3:P.doorFits [] = true):P.mayEnter = true:=by
  unfold Program.mayEnter
  rw [h]
  dsimp only
  refine or_right (and2 (and2 (and2 (and2 ?_ ?_) ?_) ?_) ?_)
  · rw [io_strip]; exact cut_is
  · rw [io_strip,h1]; rfl
  · rw [io_strip,h2]; rfl
  · rw [io_strip]; rfl
  · rw [io_strip]; exact h3
theorem lifts_of (P:Program) {r:List (List Char)} (h:behindMainWord (wordsSigns P.initOrder.toList) = cutW :: r):(false == P.liftsFinal) = true:=by
  have hl:P.headLifts = []:=by
    unfold Program.headLifts
    rw [h,io_strip]
    simp only [ite_self]
  unfold Program.liftsFinal
  rw [h,hl]
  dsimp only
  rw [head_carried,Bool.false_and]
  rfl
theorem make_of (P:Program) {r:List (List Char)} (h:behindMainWord (wordsSigns P.initOrder.toList) = cutW :: r):(P.make == some .cut) = true:=by
  have:P.make = some .cut:=by
    unfold Program.make
    rw [h]
    dsimp only
    rw [if_neg (by rw [cut_gc,cut_spec]; exact fun h=>by cases h),if_pos (by rw [cut_is]; rfl)]
  rw [this]; rfl
theorem io_all:behindMainWord (wordsSigns Try.prog.initOrder.toList) = cutW :: ioRest:=by rw [io_list,io_words]
theorem fact_enter:Try.prog.mayEnter = true:=enter_of _ io_all no_later no_reflect door_fits
theorem fact_lifts:(false == Try.prog.liftsFinal) = true:=lifts_of _ io_all
theorem fact_make:(Try.prog.make == some .cut) = true:=make_of _ io_all
theorem fact_laid:laidOutB Try.prog = true:=by kernel_rfl
theorem fact_maps:mapsRowed Try.prog = true:=by kernel_rfl
theorem fact_heard:Try.prog.stopsHeard = true:=by kernel_rfl
end Go.Proofs.Ytlmiolnccgjjjaa
set_option linter.unusedVariables false
set_option linter.unusedSimpArgs false
set_option maxRecDepth 20000
namespace Go.Proofs.Ytlmiolnccgjjjaa
open Go Go.RowKit
open Grp
def bvec (n:Nat) (f:Nat→Bool):List Value:=(List.range n).map fun i=>.bool (f i)
theorem bvec_length (n:Nat) (f:Nat→Bool):(bvec n f).length = n:=by simp [bvec]
theorem bvec_get (n:Nat) (f:Nat→Bool) {i:Nat} (h:i<n):(bvec n f)[i]? = some (.bool (f i)):=by simp [bvec,h]
theorem bvec_at {n:Nat} {f:Nat→Bool} {i:Nat} (h:i<n) (hf:f i = false):(bvec n f)[i+0]? = some (.bool false):=by
  rw [Nat.add_zero,bvec_get n f h,hf]
theorem bvec_set (n:Nat) (f:Nat→Bool) (i:Nat) (x:Bool):(bvec n f).set i (.bool x) = bvec n (fun j=>if j = i then x else f j):=by
  apply List.ext_getElem?
  intro j
  simp only [bvec,List.getElem?_set,List.getElem?_map,List.length_map,List.length_range]
  by_cases h:i = j
  · subst h
    by_cases hi:i<n <;> simp [hi]
  · have:¬ j = i:=fun e=>h e.symm
    simp [h]
    by_cases hj:j<n <;> simp [hj,this]
theorem bvec_zero (n:Nat):List.replicate n (Value.bool false) = bvec n (fun _=>false):=by
  unfold bvec
  apply List.ext_getElem?
  intro i
  by_cases h:i<n
  · simp [List.getElem?_replicate,h]
  · simp [List.getElem?_replicate,h]
section
variable {P:Program} {C:Ctx} {d:Nat} {ty:TypeId} {pos:String} {aft:Array Edge} {g:Option (Nat×Bool)} {st:St} {x y:Operand} {t e:TypeId}
theorem Makes.mkB {n m : Nat} {k k' : IntKind} (ht : P.underlying t = some (.slice e)) (hi : infOf P e = some (.bool false, 1, m)) (hx : evT st.T x = some (.int k (n : Int))) (hy : evT st.T y = some (.int k' (n : Int)))
    (hb:m*n≤281474976710656) (h63:n<9223372036854775808):Makes P C ⟨d,.makeSlice t x y,ty,pos,aft,g⟩ st (bvec n (fun _=>false)) e (fun b=>.slice (some ⟨b,0,none⟩) n n):=by
  rw [← bvec_zero]; exact Makes.mkS ht hi rfl hx hy hb h63
end
attribute [irreducible] bvec
def atP {p:Nat} (P:Pt p):Nat:=xv P*256+yv P
theorem and255L {x:Nat} (h:x≤255):limb x 0 &&& 255 = x:=by
  rw [limb0 h,show 255 = 2^8-1 from rfl,Nat.and_two_pow_sub_one_eq_mod]
  exact Nat.mod_eq_of_lt (by omega)
theorem mul_aff {V:Cv} (hok:V.Ok) {j:Nat} (h0:1≤j) (hj:j<V.n):∃ x y,pmul V.A V.G j = .aff x y:=by
  cases e:pmul V.A V.G j with
  | inf =>
    have g_ne:V.G≠.inf:=fun h=>by unfold Cv.G at h; cases h
    have:=Nat.le_of_dvd h0 (pmul_order hok.crv hok.on hok.order g_ne hok.ord e)
    omega
  | aff x y=>exact ⟨x,y,rfl⟩
theorem at_new {V:Cv} (hok:V.Ok) (hp:V.p≤255) {i j:Nat} (hi:1≤i) (hij:i<j) (hj:j<V.n) (e:atP (pmul V.A V.G i) = atP (pmul V.A V.G j)):False:=by
  have g_ne:V.G≠.inf:=fun h=>by unfold Cv.G at h; cases h
  obtain ⟨x,y,h1⟩:=mul_aff hok hi (by omega)
  obtain ⟨z,u,h2⟩:=mul_aff hok (show 1≤j by omega) hj
  rw [h1,h2] at e
  have e:x.val*256+y.val = z.val*256+u.val:=e
  have hx:=x.isLt
  have hy:=y.isLt
  have hz:=z.isLt
  have hu:=u.isLt
  have ex:x = z:=Fin.ext (by omega)
  have ey:y = u:=Fin.ext (by omega)
  have:=pmul_inj hok.crv hok.on hok.order g_ne hok.ord hj (Nat.le_of_lt hij) (by rw [h1,h2,ex,ey])
  omega
theorem pt_c0 (X Y:Nat) (i:Bool):(ptL X Y i)[0]? = some (.int .u64 ((limb X 0:Nat):Int)):=by
  show (natL X++(natL Y++[Value.bool i]))[0]? = _
  rw [List.getElem?_append_left (by simp [KD])]
  exact Ke X (by decide)
theorem pt_c9 (X Y:Nat) (i:Bool):(ptL X Y i)[9]? = some (.int .u64 ((limb Y 0:Nat):Int)):=by
  show (natL X++(natL Y++[Value.bool i]))[9]? = _
  rw [List.getElem?_append_right (by simp [KD]),List.getElem?_append_left (by simp [KD]),KD]
  exact Ke Y (by decide)
theorem inf_bool:infOf Try.prog 4 = some (.bool false,1,1):=by kernel_rfl
end Go.Proofs.Ytlmiolnccgjjjaa
set_option linter.unusedVariables false
set_option linter.unusedSimpArgs false
set_option maxRecDepth 20000
namespace Go.Proofs.Ytlmiolnccgjjjaa
open Go Go.RowKit
open Grp
theorem g_ne {V:Cv}:V.G≠.inf:=fun h=>by unfold Cv.G at h; cases h
end Go.Proofs.Ytlmiolnccgjjjaa
