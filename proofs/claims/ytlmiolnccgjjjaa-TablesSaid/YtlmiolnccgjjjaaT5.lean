/- Part 5 of what the proof leans on: a symbolic execution of the model, walks of the program's functions, and the mathematics. No condition. -/
import Derived.WalkKit
import Derived.Orders
import Derived.Laws.StructEq
import Derived.WalkSpells
import Derived.OrdersHeld
import Derived.KernelRfl
import Derived.Laws.Externs
import Derived.Laws.Bits64
import Derived.Laws.MakeOwn
import Derived.Laws.BytesString
import Derived.Carry
import Derived.WideShapes
import GoSem.Claim
import Derived.Test.YtlmiolnccgjjjaaProg
import Derived.Laws.AppendOwn
import Derived.OpenShut
import Derived.Test.YtlmiolnccgjjjaaRows
import Derived.ProofKit
import Derived.Test.YtlmiolnccgjjjaaT4
set_option linter.unusedVariables false
set_option linter.unusedSimpArgs false
set_option maxRecDepth 20000
namespace Go.Proofs.Ytlmiolnccgjjjaa
open Go Go.RowKit
open Grp
def pjF {p:Nat} (T:Fin p×Fin p×Fin p):Value:=pjV T.1.val T.2.1.val T.2.2.val
def pjFL {p:Nat} (T:Fin p×Fin p×Fin p):List Value:=pjL T.1.val T.2.1.val T.2.2.val
theorem fill_pj (X Y Z:Nat):fillL [(0,9),(9,9),(18,9)] (vec .u64 9 (fun _=>0)++(vec .u64 9 (fun _=>0)++vec .u64 9 (fun _=>0))) [(0,natV X),(1,natV Y),(2,natV Z)] = some (pjL X Y Z):=by
  refine KAR (A:=[]) (B:=vec .u64 9 (fun _=>0)) (D:=vec .u64 9 (fun _=>0)++vec .u64 9 (fun _=>0)) (cs:=natL X) rfl rfl (KD _) rfl rfl (KH _ _ _) ?_
  refine KAR (A:=natL X) (B:=vec .u64 9 (fun _=>0)) (D:=vec .u64 9 (fun _=>0)) (cs:=natL Y) rfl rfl (KD _) (by simp) (KD _) (KH _ _ _) ?_
  refine (KAR (A:=natL X++natL Y) (B:=vec .u64 9 (fun _=>0)) (D:=[]) (cs:=natL Z) rfl rfl (KD _) (by simp) (by simp [KD]) (KH _ _ _) rfl).trans ?_
  simp [pjL]
theorem fill_pjN (Y:Nat):fillL [(0,9),(9,9),(18,9)] (vec .u64 9 (fun _=>0)++(vec .u64 9 (fun _=>0)++vec .u64 9 (fun _=>0))) [(1,natV Y)] = some (pjL 0 Y 0):=by
  refine (KAR (A:=vec .u64 9 (fun _=>0)) (B:=vec .u64 9 (fun _=>0)) (D:=vec .u64 9 (fun _=>0)) (cs:=natL Y) rfl rfl (KD _) rfl (KH _ _ _) (KH _ _ _) rfl).trans ?_
  simp [pjL,natL,vec_zeros 9]
theorem c_None  (w:World)  : Calls Try.prog 123 ([]:List Value).toArray w (fun e w'=>e = .returned (pjV 0 1 0)∧Below w.heap.size w w'):=by
  refine Ki (N:=3) (rs:=[.cell 0 172]) [] Try.func123 rfl Try.ntmps123 Try.results123 (Nb rfl) trivial rfl ?_
  show LCode _ _ _ ⟨_,_⟩ _
  refine KB (KA ?_)
  refine oS (mk (KX zr_172) (fun b0=>?_))
  refine KC ?_
  refine KB (KA ?_)
  refine oS (cF rfl en_116 rfl (fun w hw=>c_nat_Small 1 (by decide) w) ?_)
  refine oP (KK (Ky pl_172 zr_172 rfl (fill_pjN 1)) rfl) ?_
  refine KV rfl (sA rfl rfl sz_172 (by repeat (first|exact Ka _|exact Kl _ _ _|exact Kc _|exact Kg _ _ _|exact Km _ _ _|exact KO|refine KJ rfl ?_|refine KP ?_ ?_)) (hl:=by first|exact KD _|exact KH _ _ _|exact KE _|exact KN _ _ _|exact KY _ _ _|rfl|simp [KH,KD,KE]) (h:=?_))
  refine KC (KM ?_)
  refine ⟨[_],.cons ⟨_,_,_,rfl,(by repeat (first|exact Mh _|apply Mt)),by exact KI Try.underlying172 rfl sz_172⟩ .nil,fun a w' hr=>⟨?_,hr.fr.below⟩⟩
  rfl
theorem c_NoneF {V:Cv} (hok:V.Ok) (w:World):Calls Try.prog 123 ([]:List Value).toArray w (fun e w'=>e = .returned (pjF (tripF (.inf:Pt V.p)))∧Below w.heap.size w w'):=by
  have h:=c_None w
  have e:pjF (tripF (.inf:Pt V.p)) = pjV 0 1 0:=by
    unfold pjF tripF
    rw [fin_one (show 1<V.p from hok.prime.1)]
    rfl
  rwa [e]
theorem c_Triple (V:Cv) (hok:V.Ok) (P:Pt V.p) (w:World)  : Calls Try.prog 122 ([ptP P]:List Value).toArray w (fun e w'=>e = .returned (pjF (tripF P))∧Below w.heap.size w w'):=by
  refine Ki (N:=12) (rs:=[.cell 2 172]) [] Try.func122 rfl Try.ntmps122 Try.results122 (Nb rfl) trivial rfl ?_
  show LCode _ _ _ ⟨_,_⟩ _
  refine KB (KA ?_)
  refine oS (mB (fun b1=>?_))
  refine oS (mk (KX zr_172) (fun b2=>?_))
  refine KC ?_
  refine KB ?_
  refine KB ?_
  rcases P with _|⟨x,y⟩
  ·
    refine KA ?_
    refine oP (KG (o':=18) Try.underlying35 rfl rfl rfl sz_4 (by decide)) ?_
    refine oD (dL rfl (hv:=KL Try.underlying4 rfl (by exact pt_gt _ _ _))) ?_
    refine KC ?_
    refine Kf rfl ?_
    refine KB (KA ?_)
    refine oS (cF rfl en_123 rfl (fun w hw=>c_NoneF hok w) ?_)
    refine KV rfl (sA rfl rfl sz_172 (by repeat (first|exact Ka _|exact Kl _ _ _|exact Kc _|exact Kg _ _ _|exact Km _ _ _|exact KO|refine KJ rfl ?_|refine KP ?_ ?_)) (hl:=by first|exact KD _|exact KH _ _ _|exact KE _|exact KN _ _ _|exact KY _ _ _|rfl|simp [KH,KD,KE]) (h:=?_))
    refine KC (KM ?_)
    refine ⟨[_],.cons ⟨_,_,_,rfl,(by repeat (first|exact Mh _|apply Mt)),by exact KI Try.underlying172 rfl sz_172⟩ .nil,fun a w' hr=>⟨?_,hr.fr.below⟩⟩
    rfl
  ·
    refine KA ?_
    refine oP (KG (o':=18) Try.underlying35 rfl rfl rfl sz_4 (by decide)) ?_
    refine oD (dL rfl (hv:=KL Try.underlying4 rfl (by exact pt_gt _ _ _))) ?_
    refine KC ?_
    refine KR rfl ?_
    refine KT ?_
    refine KB ?_
    refine rD [6] ?_
    refine aP 0 rfl (KG (o':=0) Try.underlying35 rfl rfl rfl sz_33 (by decide)) ?_
    refine aD 1 rfl (dL rfl (hv:=by exact KAF Try.underlying33 rfl sz_33 rfl (KD _))) ?_
    refine aP 2 rfl (KG (o':=9) Try.underlying35 rfl rfl rfl sz_33 (by decide)) ?_
    refine aD 3 rfl (dL rfl (hv:=by exact pt_ld1 _ _ _ _ _ _)) ?_
    refine aO 4 rfl (cF rfl en_116 rfl (fun w hw=>c_nat_Small 1 (by decide) w) ?_)
    refine aP 5 rfl (KK (Ky pl_172 zr_172 rfl (fill_pj _ _ _)) rfl) ?_
    refine aL 6 rfl (sA rfl rfl sz_172 (by repeat (first|exact Ka _|exact Kl _ _ _|exact Kc _|exact Kg _ _ _|exact Km _ _ _|exact KO|refine KJ rfl ?_|refine KP ?_ ?_)) (hl:=by first|exact KD _|exact KH _ _ _|exact KE _|exact KN _ _ _|exact KY _ _ _|rfl|simp [KH,KD,KE]) (h:=?_))
    refine aE ?_
    refine KM ?_
    refine ⟨[_],.cons ⟨_,_,_,rfl,(by repeat (first|exact Mh _|apply Mt)),by exact KI Try.underlying172 rfl sz_172⟩ .nil,fun a w' hr=>⟨?_,hr.fr.below⟩⟩
    show _ = Ending.returned (pjV x.val y.val (1:Fin V.p).val)
    rw [fin_one (show 1<V.p from hok.prime.1)]
    rfl
theorem c_Plain (V:Cv) (b f bd:Nat) (hok:V.Ok) (X Y Z:Fin V.p) (w:World) (hb:(Item.blk b ⟨false,opL V f,129,(0,0)⟩).holds w) (hf:(Item.blk f ⟨false,fldL V.p bd,162,(0,0)⟩).holds w) (hbd:(Item.blk bd ⟨false,dvL V.p,212,(0,0)⟩).holds w):Calls Try.prog 124 ([.pointer (some ⟨b,0,none⟩),pjV X.val Y.val Z.val]:List Value).toArray w (fun e w'=>e = .returned (ptP (plainP X Y Z))∧Below w.heap.size w w'):=by
  have hbb:=hok.bounds
  have hpW:V.p<W9:=w9_521 hbb.2.1
  refine Ki (N:=35) (rs:=[.cell 4 35]) [.blk b ⟨false,opL V f,129,(0,0)⟩,.blk f ⟨false,fldL V.p bd,162,(0,0)⟩,.blk bd ⟨false,dvL V.p,212,(0,0)⟩] Try.func124 rfl Try.ntmps124 Try.results124 (Nb rfl) ⟨hb,hf,hbd,trivial⟩ rfl ?_
  show LCode _ _ _ ⟨_,_⟩ _
  refine KB (KA ?_)
  refine oS (mB (fun b3=>?_))
  refine oS (mk (KX zr_35) (fun b4=>?_))
  refine KC ?_
  refine KB ?_
  refine KB ?_
  by_cases hz:Z = 0
  ·
    refine KA ?_
    refine oP (KG (o':=18) Try.underlying172 rfl rfl rfl sz_33 (by decide)) ?_
    refine oD (dL rfl (hv:=by exact pj_ld2 _ _ _ _ _ _)) ?_
    refine oP (KK (Ky pl_33 zr_33 rfl rfl) (show _ = natV 0 by unfold natV natL; rw [← vec_zeros 9])) ?_
    refine oP (KK (Det.eqa (by kernel_rfl) (fun w=>eq_nat Z.val 0 (Nat.lt_trans Z.isLt hpW) zero_w9 10000 (by decide) w) rfl rfl) (show _ = Value.bool true by rw [decide_eq_true (by rw [hz]; rfl)])) ?_
    refine KC ?_
    refine Kf rfl ?_
    refine KB (KA ?_)
    refine oP (KK (Ky pl_35 zr_35 rfl fill_ptInf) rfl) ?_
    refine KV rfl (sA rfl rfl sz_35 (by repeat (first|exact Ka _|exact Kl _ _ _|exact Kc _|exact Kg _ _ _|exact Km _ _ _|exact KO|refine KJ rfl ?_|refine KP ?_ ?_)) (hl:=by first|exact KD _|exact KH _ _ _|exact KE _|exact KN _ _ _|exact KY _ _ _|rfl|simp [KH,KD,KE]) (h:=?_))
    refine KC (KM ?_)
    refine ⟨[_],.cons ⟨_,_,_,rfl,(by repeat (first|exact Mh _|apply Mt)),by exact KI Try.underlying35 rfl sz_35⟩ .nil,fun a w' hr=>⟨?_,hr.fr.below⟩⟩
    rw [hz,plain_inf]
    rfl
  ·
    refine KA ?_
    refine oP (KG (o':=18) Try.underlying172 rfl rfl rfl sz_33 (by decide)) ?_
    refine oD (dL rfl (hv:=by exact pj_ld2 _ _ _ _ _ _)) ?_
    refine oP (KK (Ky pl_33 zr_33 rfl rfl) (show _ = natV 0 by unfold natV natL; rw [← vec_zeros 9])) ?_
    refine oP (KK (Det.eqa (by kernel_rfl) (fun w=>eq_nat Z.val 0 (Nat.lt_trans Z.isLt hpW) zero_w9 10000 (by decide) w) rfl rfl) (show _ = Value.bool false by rw [decide_eq_false (show ¬ Z.val = 0 from fun e=>hz (Fin.ext e))])) ?_
    refine KC ?_
    refine KR rfl ?_
    refine KT ?_
    refine KB ?_
    refine rD [8] ?_
    refine aM 0 ?_
    refine aP 1 rfl (KQ rfl) ?_
    refine aP 2 rfl (KG (o':=59) Try.underlying129 rfl rfl rfl sz_127 (by decide)) ?_
    refine aD 3 rfl (dL rfl (hv:=KL Try.underlying127 rfl (by exact cvC_gt_F _ _ _ _ _ _ _ _ _ _ _ _ _))) ?_
    refine aP 4 rfl (KG (o':=18) Try.underlying172 rfl rfl rfl sz_33 (by decide)) ?_
    refine aD 5 rfl (dL rfl (hv:=by exact pj_ld2 _ _ _ _ _ _)) ?_
    refine LAny.toP ?_
    refine KAU 7 rfl (.inl zr_33) (Nb rfl) rfl rfl rfl ?_
    refine Kx 6 rfl rfl rfl (Nb rfl) (by kernel_rfl) rfl (KAD (first:=[]) rfl en_136 rfl (fun w hw=>c_F_Inv V hok f bd _ w (mC hw))) ?_
    rintro _ _ ⟨rfl,rfl⟩
    refine pE (fun b5=>?_)
    refine LAnyP.toAny ?_
    refine aL 8 rfl (sA rfl rfl sz_33 (by repeat (first|exact Ka _|exact Kl _ _ _|exact Kc _|exact Kg _ _ _|exact Km _ _ _|exact KO|refine KJ rfl ?_|refine KP ?_ ?_)) (hl:=by first|exact KD _|exact KH _ _ _|exact KE _|exact KN _ _ _|exact KY _ _ _|rfl|simp [KH,KD,KE]) (h:=?_))
    refine aE ?_
    refine KB ?_
    refine rD [17] ?_
    refine aM 0 ?_
    refine aP 1 rfl (KQ rfl) ?_
    refine aP 2 rfl (KG (o':=59) Try.underlying129 rfl rfl rfl sz_127 (by decide)) ?_
    refine aD 3 rfl (dL rfl (hv:=KL Try.underlying127 rfl (by exact cvC_gt_F _ _ _ _ _ _ _ _ _ _ _ _ _))) ?_
    refine aP 4 rfl (KG (o':=0) Try.underlying172 rfl rfl rfl sz_33 (by decide)) ?_
    refine aD 5 rfl (dL rfl (hv:=by exact KAF Try.underlying33 rfl sz_33 rfl (KD _))) ?_
    refine aD 6 rfl (dL rfl (hv:=by exact KI Try.underlying33 rfl sz_33)) ?_
    refine aM 8 ?_
    refine aP 9 rfl (KQ rfl) ?_
    refine aP 10 rfl (KG (o':=59) Try.underlying129 rfl rfl rfl sz_127 (by decide)) ?_
    refine aD 11 rfl (dL rfl (hv:=KL Try.underlying127 rfl (by exact cvC_gt_F _ _ _ _ _ _ _ _ _ _ _ _ _))) ?_
    refine aP 12 rfl (KG (o':=9) Try.underlying172 rfl rfl rfl sz_33 (by decide)) ?_
    refine aD 13 rfl (dL rfl (hv:=by exact LoadV.mid Try.underlying33 rfl sz_33 rfl (KD _) (KD _))) ?_
    refine aD 14 rfl (dL rfl (hv:=by exact KI Try.underlying33 rfl sz_33)) ?_
    refine aO 7 rfl (cF rfl en_120 rfl (fun w hw=>c_F_Mul V hok f bd _ _ w (mC hw) (mC hw)) ?_)
    refine aO 15 rfl (cF rfl en_120 rfl (fun w hw=>c_F_Mul V hok f bd _ _ w (mC hw) (mC hw)) ?_)
    refine aP 16 rfl (KK (Ky pl_35 zr_35 rfl (fill_pt _ _)) rfl) ?_
    refine aL 17 rfl (sA rfl rfl sz_35 (by repeat (first|exact Ka _|exact Kl _ _ _|exact Kc _|exact Kg _ _ _|exact Km _ _ _|exact KO|refine KJ rfl ?_|refine KP ?_ ?_)) (hl:=by first|exact KD _|exact KH _ _ _|exact KE _|exact KN _ _ _|exact KY _ _ _|rfl|simp [KH,KD,KE]) (h:=?_))
    refine aE ?_
    refine KM ?_
    refine ⟨[_],.cons ⟨_,_,_,rfl,(by repeat (first|exact Mh _|apply Mt)),by exact KI Try.underlying35 rfl sz_35⟩ .nil,fun a w' hr=>⟨?_,hr.fr.below⟩⟩
    rw [plain_aff hz]
    rfl
theorem c_Sum (V:Cv) (b f bd:Nat) (hok:V.Ok) (X1 Y1 Z1 X2 Y2 Z2:Fin V.p) (w:World) (hb:(Item.blk b ⟨false,opL V f,129,(0,0)⟩).holds w) (hf:(Item.blk f ⟨false,fldL V.p bd,162,(0,0)⟩).holds w) (hbd:(Item.blk bd ⟨false,dvL V.p,212,(0,0)⟩).holds w):Calls Try.prog 125 ([.pointer (some ⟨b,0,none⟩),pjV X1.val Y1.val Z1.val,pjV X2.val Y2.val Z2.val]:List Value).toArray w (fun e w'=>e = .returned (pjF (sum3 V.A (V.B+V.B+V.B) X1 Y1 Z1 X2 Y2 Z2))∧Below w.heap.size w w'):=by
  have hbb:=hok.bounds
  have hpW:V.p<W9:=w9_521 hbb.2.1
  refine Ki (N:=213) (rs:=[.cell 6 172]) [.blk b ⟨false,opL V f,129,(0,0)⟩,.blk f ⟨false,fldL V.p bd,162,(0,0)⟩,.blk bd ⟨false,dvL V.p,212,(0,0)⟩] Try.func125 rfl Try.ntmps125 Try.results125 (Nb rfl) ⟨hb,hf,hbd,trivial⟩ rfl ?_
  show LCode _ _ _ ⟨_,_⟩ _
  refine KB (KA ?_)
  refine oS (mB (fun b4=>?_))
  refine oS (mB (fun b5=>?_))
  refine oS (mk (KX zr_172) (fun b6=>?_))
  refine KC ?_
  refine KB ?_
  refine rD [] ?_
  refine aM 0 ?_
  refine aP 1 rfl (KQ rfl) ?_
  refine aP 2 rfl (KG (o':=59) Try.underlying129 rfl rfl rfl sz_127 (by decide)) ?_
  refine aD 3 rfl (dL rfl (hv:=KL Try.underlying127 rfl (by exact cvC_gt_F _ _ _ _ _ _ _ _ _ _ _ _ _))) ?_
  refine aP 4 rfl (Det.makeFunc1 rfl) ?_
  refine aM 5 ?_
  refine aP 6 rfl (KQ rfl) ?_
  refine aP 7 rfl (KG (o':=59) Try.underlying129 rfl rfl rfl sz_127 (by decide)) ?_
  refine aD 8 rfl (dL rfl (hv:=KL Try.underlying127 rfl (by exact cvC_gt_F _ _ _ _ _ _ _ _ _ _ _ _ _))) ?_
  refine aP 9 rfl (Det.makeFunc1 rfl) ?_
  refine aM 10 ?_
  refine aP 11 rfl (KQ rfl) ?_
  refine aP 12 rfl (KG (o':=59) Try.underlying129 rfl rfl rfl sz_127 (by decide)) ?_
  refine aD 13 rfl (dL rfl (hv:=KL Try.underlying127 rfl (by exact cvC_gt_F _ _ _ _ _ _ _ _ _ _ _ _ _))) ?_
  refine aP 14 rfl (Det.makeFunc1 rfl) ?_
  refine aA 15 ?_
  refine aA 16 ?_
  refine aA 17 ?_
  refine aE ?_
  refine KB ?_
  refine rD [21,22,23] ?_
  refine aM 0 ?_
  refine aP 1 rfl (KG (o':=0) Try.underlying172 rfl rfl rfl sz_33 (by decide)) ?_
  refine aD 2 rfl (dL rfl (hv:=by exact KAF Try.underlying33 rfl sz_33 rfl (KD _))) ?_
  refine aP 3 rfl (KG (o':=0) Try.underlying172 rfl rfl rfl sz_33 (by decide)) ?_
  refine aD 4 rfl (dL rfl (hv:=by exact KAF Try.underlying33 rfl sz_33 rfl (KD _))) ?_
  refine aM 6 ?_
  refine aP 7 rfl (KG (o':=9) Try.underlying172 rfl rfl rfl sz_33 (by decide)) ?_
  refine aP 9 rfl (KG (o':=9) Try.underlying172 rfl rfl rfl sz_33 (by decide)) ?_
  refine aM 12 ?_
  refine aP 13 rfl (KG (o':=18) Try.underlying172 rfl rfl rfl sz_33 (by decide)) ?_
  refine aP 15 rfl (KG (o':=18) Try.underlying172 rfl rfl rfl sz_33 (by decide)) ?_
  refine LAny.takeW [11,17,21,22,23] 8 rfl (by kernel_rfl) (Nb rfl) (dL rfl (hv:=by exact LoadV.mid Try.underlying33 rfl sz_33 rfl (KD _) (KD _))) ?_
  refine LAny.takeW [11,17,21,22,23] 10 rfl (by kernel_rfl) (Nb rfl) (dL rfl (hv:=by exact LoadV.mid Try.underlying33 rfl sz_33 rfl (KD _) (KD _))) ?_
  refine LAny.takeW [17,21,22,23] 14 rfl (by kernel_rfl) (Nb rfl) (dL rfl (hv:=by exact pj_ld2 _ _ _ _ _ _)) ?_
  refine LAny.takeW [17,21,22,23] 16 rfl (by kernel_rfl) (Nb rfl) (dL rfl (hv:=by exact pj_ld2 _ _ _ _ _ _)) ?_
  refine LAny.toP ?_
  refine KAU 18 rfl (.inl zr_33) (Nb rfl) rfl rfl rfl ?_
  refine KAU 19 rfl (.inl zr_33) (Nb rfl) rfl rfl rfl ?_
  refine KAU 20 rfl (.inl zr_33) (Nb rfl) rfl rfl rfl ?_
  refine Kx 5 rfl rfl rfl (Nb rfl) (by kernel_rfl) rfl (KAD (first:=[_]) rfl en_120 rfl (fun w hw=>c_F_Mul V hok f bd _ _ w (mC hw) (mC hw))) ?_
  rintro _ _ ⟨rfl,rfl⟩
  refine Kx 11 rfl rfl rfl (Nb rfl) (by kernel_rfl) rfl (KAD (first:=[_]) rfl en_120 rfl (fun w hw=>c_F_Mul V hok f bd _ _ w (mC hw) (mC hw))) ?_
  rintro _ _ ⟨rfl,rfl⟩
  refine Kx 17 rfl rfl rfl (Nb rfl) (by kernel_rfl) rfl (KAD (first:=[_]) rfl en_120 rfl (fun w hw=>c_F_Mul V hok f bd _ _ w (mC hw) (mC hw))) ?_
  rintro _ _ ⟨rfl,rfl⟩
  refine pE (fun b12=>?_)
  refine pE (fun b11=>?_)
  refine pE (fun b10=>?_)
  refine LAnyP.toAny ?_
  refine aL 21 rfl (sA rfl rfl sz_33 (by repeat (first|exact Ka _|exact Kl _ _ _|exact Kc _|exact Kg _ _ _|exact Km _ _ _|exact KO|refine KJ rfl ?_|refine KP ?_ ?_)) (hl:=by first|exact KD _|exact KH _ _ _|exact KE _|exact KN _ _ _|exact KY _ _ _|rfl|simp [KH,KD,KE]) (h:=?_))
  refine aL 22 rfl (sA rfl rfl sz_33 (by repeat (first|exact Ka _|exact Kl _ _ _|exact Kc _|exact Kg _ _ _|exact Km _ _ _|exact KO|refine KJ rfl ?_|refine KP ?_ ?_)) (hl:=by first|exact KD _|exact KH _ _ _|exact KE _|exact KN _ _ _|exact KY _ _ _|rfl|simp [KH,KD,KE]) (h:=?_))
  refine aL 23 rfl (sA rfl rfl sz_33 (by repeat (first|exact Ka _|exact Kl _ _ _|exact Kc _|exact Kg _ _ _|exact Km _ _ _|exact KO|refine KJ rfl ?_|refine KP ?_ ?_)) (hl:=by first|exact KD _|exact KH _ _ _|exact KE _|exact KN _ _ _|exact KY _ _ _|rfl|simp [KH,KD,KE]) (h:=?_))
  refine aE ?_
  refine KB ?_
  refine rD [21] ?_
  refine aM 0 ?_
  refine aM 1 ?_
  refine aM 2 ?_
  refine aP 3 rfl (KG (o':=0) Try.underlying172 rfl rfl rfl sz_33 (by decide)) ?_
  refine aD 4 rfl (dL rfl (hv:=by exact KAF Try.underlying33 rfl sz_33 rfl (KD _))) ?_
  refine aP 5 rfl (KG (o':=9) Try.underlying172 rfl rfl rfl sz_33 (by decide)) ?_
  refine aD 6 rfl (dL rfl (hv:=by exact LoadV.mid Try.underlying33 rfl sz_33 rfl (KD _) (KD _))) ?_
  refine aM 8 ?_
  refine aP 9 rfl (KG (o':=0) Try.underlying172 rfl rfl rfl sz_33 (by decide)) ?_
  refine aD 10 rfl (dL rfl (hv:=by exact KAF Try.underlying33 rfl sz_33 rfl (KD _))) ?_
  refine aP 11 rfl (KG (o':=9) Try.underlying172 rfl rfl rfl sz_33 (by decide)) ?_
  refine aD 12 rfl (dL rfl (hv:=by exact LoadV.mid Try.underlying33 rfl sz_33 rfl (KD _) (KD _))) ?_
  refine aM 15 ?_
  refine aD 16 rfl (dL rfl (hv:=by exact KI Try.underlying33 rfl sz_33)) ?_
  refine aD 17 rfl (dL rfl (hv:=by exact KI Try.underlying33 rfl sz_33)) ?_
  refine LAny.toP ?_
  refine KAU 20 rfl (.inl zr_33) (Nb rfl) rfl rfl rfl ?_
  refine Kx 7 rfl rfl rfl (Nb rfl) (by kernel_rfl) rfl (KAD (first:=[_]) rfl en_118 rfl (fun w hw=>c_F_Add V hok f bd _ _ w (mC hw))) ?_
  rintro _ _ ⟨rfl,rfl⟩
  refine Kx 13 rfl rfl rfl (Nb rfl) (by kernel_rfl) rfl (KAD (first:=[_]) rfl en_118 rfl (fun w hw=>c_F_Add V hok f bd _ _ w (mC hw))) ?_
  rintro _ _ ⟨rfl,rfl⟩
  refine Kx 14 rfl rfl rfl (Nb rfl) (by kernel_rfl) rfl (KAD (first:=[_]) rfl en_120 rfl (fun w hw=>c_F_Mul V hok f bd _ _ w (mC hw) (mC hw))) ?_
  rintro _ _ ⟨rfl,rfl⟩
  refine Kx 18 rfl rfl rfl (Nb rfl) (by kernel_rfl) rfl (KAD (first:=[_]) rfl en_118 rfl (fun w hw=>c_F_Add V hok f bd _ _ w (mC hw))) ?_
  rintro _ _ ⟨rfl,rfl⟩
  refine Kx 19 rfl rfl rfl (Nb rfl) (by kernel_rfl) rfl (KAD (first:=[_]) rfl en_130 rfl (fun w hw=>c_F_Sub V hok f bd _ _ w (mC hw))) ?_
  rintro _ _ ⟨rfl,rfl⟩
  refine pE (fun b13=>?_)
  refine LAnyP.toAny ?_
  refine aL 21 rfl (sA rfl rfl sz_33 (by repeat (first|exact Ka _|exact Kl _ _ _|exact Kc _|exact Kg _ _ _|exact Km _ _ _|exact KO|refine KJ rfl ?_|refine KP ?_ ?_)) (hl:=by first|exact KD _|exact KH _ _ _|exact KE _|exact KN _ _ _|exact KY _ _ _|rfl|simp [KH,KD,KE]) (h:=?_))
  refine aE ?_
  refine KB ?_
  refine rD [21] ?_
  refine aM 0 ?_
  refine aM 1 ?_
  refine aM 2 ?_
  refine aP 3 rfl (KG (o':=0) Try.underlying172 rfl rfl rfl sz_33 (by decide)) ?_
  refine aD 4 rfl (dL rfl (hv:=by exact KAF Try.underlying33 rfl sz_33 rfl (KD _))) ?_
  refine aP 5 rfl (KG (o':=18) Try.underlying172 rfl rfl rfl sz_33 (by decide)) ?_
  refine aD 6 rfl (dL rfl (hv:=by exact pj_ld2 _ _ _ _ _ _)) ?_
  refine aM 8 ?_
  refine aP 9 rfl (KG (o':=0) Try.underlying172 rfl rfl rfl sz_33 (by decide)) ?_
  refine aD 10 rfl (dL rfl (hv:=by exact KAF Try.underlying33 rfl sz_33 rfl (KD _))) ?_
  refine aP 11 rfl (KG (o':=18) Try.underlying172 rfl rfl rfl sz_33 (by decide)) ?_
  refine aD 12 rfl (dL rfl (hv:=by exact pj_ld2 _ _ _ _ _ _)) ?_
  refine aM 15 ?_
  refine aD 16 rfl (dL rfl (hv:=by exact KI Try.underlying33 rfl sz_33)) ?_
  refine aD 17 rfl (dL rfl (hv:=by exact KI Try.underlying33 rfl sz_33)) ?_
  refine LAny.toP ?_
  refine KAU 20 rfl (.inl zr_33) (Nb rfl) rfl rfl rfl ?_
  refine Kx 7 rfl rfl rfl (Nb rfl) (by kernel_rfl) rfl (KAD (first:=[_]) rfl en_118 rfl (fun w hw=>c_F_Add V hok f bd _ _ w (mC hw))) ?_
  rintro _ _ ⟨rfl,rfl⟩
  refine Kx 13 rfl rfl rfl (Nb rfl) (by kernel_rfl) rfl (KAD (first:=[_]) rfl en_118 rfl (fun w hw=>c_F_Add V hok f bd _ _ w (mC hw))) ?_
  rintro _ _ ⟨rfl,rfl⟩
  refine Kx 14 rfl rfl rfl (Nb rfl) (by kernel_rfl) rfl (KAD (first:=[_]) rfl en_120 rfl (fun w hw=>c_F_Mul V hok f bd _ _ w (mC hw) (mC hw))) ?_
  rintro _ _ ⟨rfl,rfl⟩
  refine Kx 18 rfl rfl rfl (Nb rfl) (by kernel_rfl) rfl (KAD (first:=[_]) rfl en_118 rfl (fun w hw=>c_F_Add V hok f bd _ _ w (mC hw))) ?_
  rintro _ _ ⟨rfl,rfl⟩
  refine Kx 19 rfl rfl rfl (Nb rfl) (by kernel_rfl) rfl (KAD (first:=[_]) rfl en_130 rfl (fun w hw=>c_F_Sub V hok f bd _ _ w (mC hw))) ?_
  rintro _ _ ⟨rfl,rfl⟩
  refine pE (fun b14=>?_)
  refine LAnyP.toAny ?_
  refine aL 21 rfl (sA rfl rfl sz_33 (by repeat (first|exact Ka _|exact Kl _ _ _|exact Kc _|exact Kg _ _ _|exact Km _ _ _|exact KO|refine KJ rfl ?_|refine KP ?_ ?_)) (hl:=by first|exact KD _|exact KH _ _ _|exact KE _|exact KN _ _ _|exact KY _ _ _|rfl|simp [KH,KD,KE]) (h:=?_))
  refine aE ?_
  refine KB ?_
  refine rD [21] ?_
  refine aM 0 ?_
  refine aM 1 ?_
  refine aM 2 ?_
  refine aP 3 rfl (KG (o':=9) Try.underlying172 rfl rfl rfl sz_33 (by decide)) ?_
  refine aD 4 rfl (dL rfl (hv:=by exact LoadV.mid Try.underlying33 rfl sz_33 rfl (KD _) (KD _))) ?_
  refine aP 5 rfl (KG (o':=18) Try.underlying172 rfl rfl rfl sz_33 (by decide)) ?_
  refine aD 6 rfl (dL rfl (hv:=by exact pj_ld2 _ _ _ _ _ _)) ?_
  refine aM 8 ?_
  refine aP 9 rfl (KG (o':=9) Try.underlying172 rfl rfl rfl sz_33 (by decide)) ?_
  refine aD 10 rfl (dL rfl (hv:=by exact LoadV.mid Try.underlying33 rfl sz_33 rfl (KD _) (KD _))) ?_
  refine aP 11 rfl (KG (o':=18) Try.underlying172 rfl rfl rfl sz_33 (by decide)) ?_
  refine aD 12 rfl (dL rfl (hv:=by exact pj_ld2 _ _ _ _ _ _)) ?_
  refine aM 15 ?_
  refine aD 16 rfl (dL rfl (hv:=by exact KI Try.underlying33 rfl sz_33)) ?_
  refine aD 17 rfl (dL rfl (hv:=by exact KI Try.underlying33 rfl sz_33)) ?_
  refine LAny.toP ?_
  refine KAU 20 rfl (.inl zr_33) (Nb rfl) rfl rfl rfl ?_
  refine Kx 7 rfl rfl rfl (Nb rfl) (by kernel_rfl) rfl (KAD (first:=[_]) rfl en_118 rfl (fun w hw=>c_F_Add V hok f bd _ _ w (mC hw))) ?_
  rintro _ _ ⟨rfl,rfl⟩
  refine Kx 13 rfl rfl rfl (Nb rfl) (by kernel_rfl) rfl (KAD (first:=[_]) rfl en_118 rfl (fun w hw=>c_F_Add V hok f bd _ _ w (mC hw))) ?_
  rintro _ _ ⟨rfl,rfl⟩
  refine Kx 14 rfl rfl rfl (Nb rfl) (by kernel_rfl) rfl (KAD (first:=[_]) rfl en_120 rfl (fun w hw=>c_F_Mul V hok f bd _ _ w (mC hw) (mC hw))) ?_
  rintro _ _ ⟨rfl,rfl⟩
  refine Kx 18 rfl rfl rfl (Nb rfl) (by kernel_rfl) rfl (KAD (first:=[_]) rfl en_118 rfl (fun w hw=>c_F_Add V hok f bd _ _ w (mC hw))) ?_
  rintro _ _ ⟨rfl,rfl⟩
  refine Kx 19 rfl rfl rfl (Nb rfl) (by kernel_rfl) rfl (KAD (first:=[_]) rfl en_130 rfl (fun w hw=>c_F_Sub V hok f bd _ _ w (mC hw))) ?_
  rintro _ _ ⟨rfl,rfl⟩
  refine pE (fun b15=>?_)
  refine LAnyP.toAny ?_
  refine aL 21 rfl (sA rfl rfl sz_33 (by repeat (first|exact Ka _|exact Kl _ _ _|exact Kc _|exact Kg _ _ _|exact Km _ _ _|exact KO|refine KJ rfl ?_|refine KP ?_ ?_)) (hl:=by first|exact KD _|exact KH _ _ _|exact KE _|exact KN _ _ _|exact KY _ _ _|rfl|simp [KH,KD,KE]) (h:=?_))
  refine aE ?_
  refine KB ?_
  refine rD [18] ?_
  refine aM 0 ?_
  refine aM 1 ?_
  refine aM 2 ?_
  refine aP 3 rfl (KQ rfl) ?_
  refine aP 4 rfl (KG (o':=60) Try.underlying129 rfl rfl rfl sz_33 (by decide)) ?_
  refine aD 5 rfl (Det.cast (dL rfl (hv:=by exact cvC_ld_t3 _ _ _ _ _ _ _ _ _ _ _ _ _ _ _ _)) (t_val hok)) ?_
  refine aD 6 rfl (dL rfl (hv:=by exact KI Try.underlying33 rfl sz_33)) ?_
  refine aM 8 ?_
  refine aM 9 ?_
  refine aP 10 rfl (KQ rfl) ?_
  refine aP 11 rfl (KG (o':=0) Try.underlying129 rfl rfl rfl sz_126 (by decide)) ?_
  refine aP 12 rfl (KG (o':=10) Try.underlying126 rfl rfl rfl sz_33 (by decide)) ?_
  refine aD 13 rfl (Det.cast (dL rfl (hv:=by exact cvC_ld_a _ _ _ _ _ _ _ _ _ _ _ _ _ _ _ _)) (a_val hok)) ?_
  refine aD 14 rfl (dL rfl (hv:=by exact KI Try.underlying33 rfl sz_33)) ?_
  refine LAny.toP ?_
  refine KAU 17 rfl (.inl zr_33) (Nb rfl) rfl rfl rfl ?_
  refine Kx 7 rfl rfl rfl (Nb rfl) (by kernel_rfl) rfl (KAD (first:=[_]) rfl en_120 rfl (fun w hw=>c_F_Mul V hok f bd _ _ w (mC hw) (mC hw))) ?_
  rintro _ _ ⟨rfl,rfl⟩
  refine Kx 15 rfl rfl rfl (Nb rfl) (by kernel_rfl) rfl (KAD (first:=[_]) rfl en_120 rfl (fun w hw=>c_F_Mul V hok f bd _ _ w (mC hw) (mC hw))) ?_
  rintro _ _ ⟨rfl,rfl⟩
  refine Kx 16 rfl rfl rfl (Nb rfl) (by kernel_rfl) rfl (KAD (first:=[_]) rfl en_118 rfl (fun w hw=>c_F_Add V hok f bd _ _ w (mC hw))) ?_
  rintro _ _ ⟨rfl,rfl⟩
  refine pE (fun b16=>?_)
  refine LAnyP.toAny ?_
  refine aL 18 rfl (sA rfl rfl sz_33 (by repeat (first|exact Ka _|exact Kl _ _ _|exact Kc _|exact Kg _ _ _|exact Km _ _ _|exact KO|refine KJ rfl ?_|refine KP ?_ ?_)) (hl:=by first|exact KD _|exact KH _ _ _|exact KE _|exact KN _ _ _|exact KY _ _ _|rfl|simp [KH,KD,KE]) (h:=?_))
  refine aE ?_
  refine KB (KA ?_)
  refine oM ?_
  refine oD (dL rfl (hv:=by exact KI Try.underlying33 rfl sz_33)) ?_
  refine oD (dL rfl (hv:=by exact KI Try.underlying33 rfl sz_33)) ?_
  refine oS (KAG (first:=[_]) rfl en_130 rfl (Nb rfl) (fun w hw=>c_F_Sub V hok f bd _ _ w (mC hw)) ?_)
  refine oS (mk (KX zr_33) (fun b17=>?_))
  refine KV rfl (sA rfl rfl sz_33 (by repeat (first|exact Ka _|exact Kl _ _ _|exact Kc _|exact Kg _ _ _|exact Km _ _ _|exact KO|refine KJ rfl ?_|refine KP ?_ ?_)) (hl:=by first|exact KD _|exact KH _ _ _|exact KE _|exact KN _ _ _|exact KY _ _ _|rfl|simp [KH,KD,KE]) (h:=?_))
  refine KC ?_
  refine KB (KA ?_)
  refine oM ?_
  refine oD (dL rfl (hv:=by exact KI Try.underlying33 rfl sz_33)) ?_
  refine oD (dL rfl (hv:=by exact KI Try.underlying33 rfl sz_33)) ?_
  refine oS (KAG (first:=[_]) rfl en_118 rfl (Nb rfl) (fun w hw=>c_F_Add V hok f bd _ _ w (mC hw)) ?_)
  refine KV rfl (sA rfl rfl sz_33 (by repeat (first|exact Ka _|exact Kl _ _ _|exact Kc _|exact Kg _ _ _|exact Km _ _ _|exact KO|refine KJ rfl ?_|refine KP ?_ ?_)) (hl:=by first|exact KD _|exact KH _ _ _|exact KE _|exact KN _ _ _|exact KY _ _ _|rfl|simp [KH,KD,KE]) (h:=?_))
  refine KC ?_
  refine KB (KA ?_)
  refine oM ?_
  refine oD (dL rfl (hv:=by exact KI Try.underlying33 rfl sz_33)) ?_
  refine oD (dL rfl (hv:=by exact KI Try.underlying33 rfl sz_33)) ?_
  refine oS (KAG (first:=[_]) rfl en_120 rfl (Nb rfl) (fun w hw=>c_F_Mul V hok f bd _ _ w (mC hw) (mC hw)) ?_)
  refine oS (mk (KX zr_33) (fun b18=>?_))
  refine KV rfl (sA rfl rfl sz_33 (by repeat (first|exact Ka _|exact Kl _ _ _|exact Kc _|exact Kg _ _ _|exact Km _ _ _|exact KO|refine KJ rfl ?_|refine KP ?_ ?_)) (hl:=by first|exact KD _|exact KH _ _ _|exact KE _|exact KN _ _ _|exact KY _ _ _|rfl|simp [KH,KD,KE]) (h:=?_))
  refine KC ?_
  refine KB ?_
  refine rD [7] ?_
  refine aM 0 ?_
  refine aM 1 ?_
  refine aD 2 rfl (dL rfl (hv:=by exact KI Try.underlying33 rfl sz_33)) ?_
  refine aD 3 rfl (dL rfl (hv:=by exact KI Try.underlying33 rfl sz_33)) ?_
  refine aD 5 rfl (dL rfl (hv:=by exact KI Try.underlying33 rfl sz_33)) ?_
  refine aO 4 rfl (KAG (first:=[_]) rfl en_118 rfl (Nb rfl) (fun w hw=>c_F_Add V hok f bd _ _ w (mC hw)) ?_)
  refine aO 6 rfl (KAG (first:=[_]) rfl en_118 rfl (Nb rfl) (fun w hw=>c_F_Add V hok f bd _ _ w (mC hw)) ?_)
  refine aL 7 rfl (sA rfl rfl sz_33 (by repeat (first|exact Ka _|exact Kl _ _ _|exact Kc _|exact Kg _ _ _|exact Km _ _ _|exact KO|refine KJ rfl ?_|refine KP ?_ ?_)) (hl:=by first|exact KD _|exact KH _ _ _|exact KE _|exact KN _ _ _|exact KY _ _ _|rfl|simp [KH,KD,KE]) (h:=?_))
  refine aE ?_
  refine KB ?_
  refine rD [8] ?_
  refine aM 0 ?_
  refine aM 1 ?_
  refine aP 2 rfl (KQ rfl) ?_
  refine aP 3 rfl (KG (o':=0) Try.underlying129 rfl rfl rfl sz_126 (by decide)) ?_
  refine aP 4 rfl (KG (o':=10) Try.underlying126 rfl rfl rfl sz_33 (by decide)) ?_
  refine aD 5 rfl (Det.cast (dL rfl (hv:=by exact cvC_ld_a _ _ _ _ _ _ _ _ _ _ _ _ _ _ _ _)) (a_val hok)) ?_
  refine aD 6 rfl (dL rfl (hv:=by exact KI Try.underlying33 rfl sz_33)) ?_
  refine aO 7 rfl (KAG (first:=[_]) rfl en_120 rfl (Nb rfl) (fun w hw=>c_F_Mul V hok f bd _ _ w (mC hw) (mC hw)) ?_)
  refine aL 8 rfl (sA rfl rfl sz_33 (by repeat (first|exact Ka _|exact Kl _ _ _|exact Kc _|exact Kg _ _ _|exact Km _ _ _|exact KO|refine KJ rfl ?_|refine KP ?_ ?_)) (hl:=by first|exact KD _|exact KH _ _ _|exact KE _|exact KN _ _ _|exact KY _ _ _|rfl|simp [KH,KD,KE]) (h:=?_))
  refine aE ?_
  refine KB ?_
  refine rD [7] ?_
  refine aM 0 ?_
  refine aM 1 ?_
  refine aP 2 rfl (KQ rfl) ?_
  refine aP 3 rfl (KG (o':=60) Try.underlying129 rfl rfl rfl sz_33 (by decide)) ?_
  refine aD 4 rfl (Det.cast (dL rfl (hv:=by exact cvC_ld_t3 _ _ _ _ _ _ _ _ _ _ _ _ _ _ _ _)) (t_val hok)) ?_
  refine aD 5 rfl (dL rfl (hv:=by exact KI Try.underlying33 rfl sz_33)) ?_
  refine aO 6 rfl (KAG (first:=[_]) rfl en_120 rfl (Nb rfl) (fun w hw=>c_F_Mul V hok f bd _ _ w (mC hw) (mC hw)) ?_)
  refine aL 7 rfl (sA rfl rfl sz_33 (by repeat (first|exact Ka _|exact Kl _ _ _|exact Kc _|exact Kg _ _ _|exact Km _ _ _|exact KO|refine KJ rfl ?_|refine KP ?_ ?_)) (hl:=by first|exact KD _|exact KH _ _ _|exact KE _|exact KN _ _ _|exact KY _ _ _|rfl|simp [KH,KD,KE]) (h:=?_))
  refine aE ?_
  refine KB (KA ?_)
  refine oM ?_
  refine oD (dL rfl (hv:=by exact KI Try.underlying33 rfl sz_33)) ?_
  refine oD (dL rfl (hv:=by exact KI Try.underlying33 rfl sz_33)) ?_
  refine oS (KAG (first:=[_]) rfl en_118 rfl (Nb rfl) (fun w hw=>c_F_Add V hok f bd _ _ w (mC hw)) ?_)
  refine KV rfl (sA rfl rfl sz_33 (by repeat (first|exact Ka _|exact Kl _ _ _|exact Kc _|exact Kg _ _ _|exact Km _ _ _|exact KO|refine KJ rfl ?_|refine KP ?_ ?_)) (hl:=by first|exact KD _|exact KH _ _ _|exact KE _|exact KN _ _ _|exact KY _ _ _|rfl|simp [KH,KD,KE]) (h:=?_))
  refine KC ?_
  refine KB ?_
  refine rD [11] ?_
  refine aM 0 ?_
  refine aM 1 ?_
  refine aP 2 rfl (KQ rfl) ?_
  refine aP 3 rfl (KG (o':=0) Try.underlying129 rfl rfl rfl sz_126 (by decide)) ?_
  refine aP 4 rfl (KG (o':=10) Try.underlying126 rfl rfl rfl sz_33 (by decide)) ?_
  refine aD 5 rfl (Det.cast (dL rfl (hv:=by exact cvC_ld_a _ _ _ _ _ _ _ _ _ _ _ _ _ _ _ _)) (a_val hok)) ?_
  refine aM 6 ?_
  refine aD 7 rfl (dL rfl (hv:=by exact KI Try.underlying33 rfl sz_33)) ?_
  refine aD 8 rfl (dL rfl (hv:=by exact KI Try.underlying33 rfl sz_33)) ?_
  refine aO 9 rfl (KAG (first:=[_]) rfl en_130 rfl (Nb rfl) (fun w hw=>c_F_Sub V hok f bd _ _ w (mC hw)) ?_)
  refine aO 10 rfl (KAG (first:=[_]) rfl en_120 rfl (Nb rfl) (fun w hw=>c_F_Mul V hok f bd _ _ w (mC hw) (mC hw)) ?_)
  refine aL 11 rfl (sA rfl rfl sz_33 (by repeat (first|exact Ka _|exact Kl _ _ _|exact Kc _|exact Kg _ _ _|exact Km _ _ _|exact KO|refine KJ rfl ?_|refine KP ?_ ?_)) (hl:=by first|exact KD _|exact KH _ _ _|exact KE _|exact KN _ _ _|exact KY _ _ _|rfl|simp [KH,KD,KE]) (h:=?_))
  refine aE ?_
  refine KB (KA ?_)
  refine oM ?_
  refine oD (dL rfl (hv:=by exact KI Try.underlying33 rfl sz_33)) ?_
  refine oD (dL rfl (hv:=by exact KI Try.underlying33 rfl sz_33)) ?_
  refine oS (KAG (first:=[_]) rfl en_118 rfl (Nb rfl) (fun w hw=>c_F_Add V hok f bd _ _ w (mC hw)) ?_)
  refine KV rfl (sA rfl rfl sz_33 (by repeat (first|exact Ka _|exact Kl _ _ _|exact Kc _|exact Kg _ _ _|exact Km _ _ _|exact KO|refine KJ rfl ?_|refine KP ?_ ?_)) (hl:=by first|exact KD _|exact KH _ _ _|exact KE _|exact KN _ _ _|exact KY _ _ _|rfl|simp [KH,KD,KE]) (h:=?_))
  refine KC ?_
  refine KB ?_
  refine rD [7] ?_
  refine aM 0 ?_
  refine aD 1 rfl (dL rfl (hv:=by exact KI Try.underlying33 rfl sz_33)) ?_
  refine aM 2 ?_
  refine aD 3 rfl (dL rfl (hv:=by exact KI Try.underlying33 rfl sz_33)) ?_
  refine aD 4 rfl (dL rfl (hv:=by exact KI Try.underlying33 rfl sz_33)) ?_
  refine aO 5 rfl (KAG (first:=[_]) rfl en_120 rfl (Nb rfl) (fun w hw=>c_F_Mul V hok f bd _ _ w (mC hw) (mC hw)) ?_)
  refine aO 6 rfl (KAG (first:=[_]) rfl en_118 rfl (Nb rfl) (fun w hw=>c_F_Add V hok f bd _ _ w (mC hw)) ?_)
  refine aL 7 rfl (sA rfl rfl sz_33 (by repeat (first|exact Ka _|exact Kl _ _ _|exact Kc _|exact Kg _ _ _|exact Km _ _ _|exact KO|refine KJ rfl ?_|refine KP ?_ ?_)) (hl:=by first|exact KD _|exact KH _ _ _|exact KE _|exact KN _ _ _|exact KY _ _ _|rfl|simp [KH,KD,KE]) (h:=?_))
  refine aE ?_
  refine KB ?_
  refine rD [10] ?_
  refine aM 0 ?_
  refine aM 1 ?_
  refine aD 2 rfl (dL rfl (hv:=by exact KI Try.underlying33 rfl sz_33)) ?_
  refine aD 3 rfl (dL rfl (hv:=by exact KI Try.underlying33 rfl sz_33)) ?_
  refine aM 5 ?_
  refine aD 6 rfl (dL rfl (hv:=by exact KI Try.underlying33 rfl sz_33)) ?_
  refine aD 7 rfl (dL rfl (hv:=by exact KI Try.underlying33 rfl sz_33)) ?_
  refine aO 4 rfl (KAG (first:=[_]) rfl en_120 rfl (Nb rfl) (fun w hw=>c_F_Mul V hok f bd _ _ w (mC hw) (mC hw)) ?_)
  refine aO 8 rfl (KAG (first:=[_]) rfl en_120 rfl (Nb rfl) (fun w hw=>c_F_Mul V hok f bd _ _ w (mC hw) (mC hw)) ?_)
  refine aO 9 rfl (KAG (first:=[_]) rfl en_130 rfl (Nb rfl) (fun w hw=>c_F_Sub V hok f bd _ _ w (mC hw)) ?_)
  refine aL 10 rfl (sA rfl rfl sz_33 (by repeat (first|exact Ka _|exact Kl _ _ _|exact Kc _|exact Kg _ _ _|exact Km _ _ _|exact KO|refine KJ rfl ?_|refine KP ?_ ?_)) (hl:=by first|exact KD _|exact KH _ _ _|exact KE _|exact KN _ _ _|exact KY _ _ _|rfl|simp [KH,KD,KE]) (h:=?_))
  refine aE ?_
  refine KB ?_
  refine rD [10] ?_
  refine aM 0 ?_
  refine aM 1 ?_
  refine aD 2 rfl (dL rfl (hv:=by exact KI Try.underlying33 rfl sz_33)) ?_
  refine aD 3 rfl (dL rfl (hv:=by exact KI Try.underlying33 rfl sz_33)) ?_
  refine aM 5 ?_
  refine aD 6 rfl (dL rfl (hv:=by exact KI Try.underlying33 rfl sz_33)) ?_
  refine aD 7 rfl (dL rfl (hv:=by exact KI Try.underlying33 rfl sz_33)) ?_
  refine aO 4 rfl (KAG (first:=[_]) rfl en_120 rfl (Nb rfl) (fun w hw=>c_F_Mul V hok f bd _ _ w (mC hw) (mC hw)) ?_)
  refine aO 8 rfl (KAG (first:=[_]) rfl en_120 rfl (Nb rfl) (fun w hw=>c_F_Mul V hok f bd _ _ w (mC hw) (mC hw)) ?_)
  refine aO 9 rfl (KAG (first:=[_]) rfl en_118 rfl (Nb rfl) (fun w hw=>c_F_Add V hok f bd _ _ w (mC hw)) ?_)
  refine aL 10 rfl (sA rfl rfl sz_33 (by repeat (first|exact Ka _|exact Kl _ _ _|exact Kc _|exact Kg _ _ _|exact Km _ _ _|exact KO|refine KJ rfl ?_|refine KP ?_ ?_)) (hl:=by first|exact KD _|exact KH _ _ _|exact KE _|exact KN _ _ _|exact KY _ _ _|rfl|simp [KH,KD,KE]) (h:=?_))
  refine aE ?_
  refine KB (KA ?_)
  refine oD (dL rfl (hv:=by exact KI Try.underlying33 rfl sz_33)) ?_
  refine oD (dL rfl (hv:=by exact KI Try.underlying33 rfl sz_33)) ?_
  refine oD (dL rfl (hv:=by exact KI Try.underlying33 rfl sz_33)) ?_
  refine oP (KK (Ky pl_172 zr_172 rfl (fill_pj _ _ _)) rfl) ?_
  refine KV rfl (sA rfl rfl sz_172 (by repeat (first|exact Ka _|exact Kl _ _ _|exact Kc _|exact Kg _ _ _|exact Km _ _ _|exact KO|refine KJ rfl ?_|refine KP ?_ ?_)) (hl:=by first|exact KD _|exact KH _ _ _|exact KE _|exact KN _ _ _|exact KY _ _ _|rfl|simp [KH,KD,KE]) (h:=?_))
  refine KC (KM ?_)
  refine ⟨[_],.cons ⟨_,_,_,rfl,(by repeat (first|exact Mh _|apply Mt)),by exact KI Try.underlying172 rfl sz_172⟩ .nil,fun a w' hr=>⟨?_,hr.fr.below⟩⟩
  rfl
end Go.Proofs.Ytlmiolnccgjjjaa
set_option linter.unusedVariables false
set_option linter.unusedSimpArgs false
set_option maxRecDepth 20000
namespace Go.Proofs.Ytlmiolnccgjjjaa
open Go Go.RowKit
open Grp
theorem pm_top (V:Cv) (P:Pt V.p) (K:Nat):pmul V.A P (K/2^blen K) = .inf:=by rw [Nat.div_eq_of_lt (lt_blen K)]; rfl
theorem pm_T {V:Cv} (hok:V.Ok) {P:Pt V.p} (hP:On V.A V.B P) {K y:Nat} (h:K/2^y%2 = 1):padd V.A (padd V.A (pmul V.A P (K/2^(y+1))) (pmul V.A P (K/2^(y+1)))) P = pmul V.A P (K/2^y):=by
  have:=pmul_bit hok.crv hP K y
  rwa [if_pos h] at this
theorem pm_F {V:Cv} (hok:V.Ok) {P:Pt V.p} (hP:On V.A V.B P) {K y:Nat} (h:¬ K/2^y%2 = 1):padd V.A (pmul V.A P (K/2^(y+1))) (pmul V.A P (K/2^(y+1))) = pmul V.A P (K/2^y):=by
  have:=pmul_bit hok.crv hP K y
  rwa [if_neg h] at this
theorem c_r_Times (Q:CQ) (V:Cv) (qk:NV) (K:Nat) (q r:NV) (P R:Pt V.p) (w:World) (hc:(crvI Q V).holds w) (hok:V.Ok) (hk:(numT qk K).holds w) (hK:D.nw K≤1000) (hq:(numT q (xv P)).holds w) (hr:(numT r (yv P)).holds w) (hP:On V.A V.B P) (hR:pmul V.A P K = R):Calls Try.prog 38 ([.agg (crvL Q V).toArray,numV qk K,rpV (numV q (xv P)) (numV r (yv P)) (iv P)]:List Value).toArray w (fun e w'=>Num2R w (fp2 q r P []) (xv R) (yv R) (fun u v=>rpV u v (iv R)) e w'):=by
  obtain ⟨hb5,hb521,hba,hbb,hbx,hby,hbn,hbo,hbo2,hbb1,hbn1⟩:=hok.bounds
  have hsz:=hok.sz
  have hsp:=hsz.p
  have hsa:=hsz.a
  have hsb:=hsz.b
  have hp0:V.p≠0:=by omega
  have hpp:0<V.p:=by omega
  have hm17:∀ k,D.nw (k%V.p)≤17:=fun k=>Nat.le_trans (D.nw_mono (Nat.le_of_lt (Nat.mod_lt k hpp))) hsp
  refine Ki (N:=30) (rs:=[.cell 6 38]) [crvI Q V,numT qk K,numT q (xv P),numT r (yv P)] Try.func38 rfl Try.ntmps38 Try.results38 (Nb rfl) ⟨hc,hk,hq,hr,trivial⟩ rfl ?_
  show LCode _ _ _ ⟨_,_⟩ _
  refine KB (KA ?_)
  refine oS (mB (fun b3=>?_))
  refine oS (mB (fun b5=>?_))
  refine oS (mk (KX zr_38) (fun b6=>?_))
  refine KC ?_
  refine KB (KA ?_)
  refine oP (KK (Ky pl_38 zr_38 rfl rfl) (show _ = rpV (.slice none 0 0) (.slice none 0 0) (true) from rfl)) ?_
  refine oS (mk (KX zr_38) (fun b7=>?_))
  refine KV rfl (sA rfl rfl sz_38 (by repeat (first|exact KO|refine KJ rfl ?_)) (hl:=by rfl) (h:=?_))
  refine KC ?_
  refine KB ?_
  refine KB ?_
  have hbk:=blen_nw K
  refine LCode.zeroNum ?_
  refine LCode.zeroNum ?_
  refine KA ?_
  refine oM ?_
  refine oS (cF rfl en_70 rfl (fun w hw=>c_n_Bits qk K w (mC hw) (by omega)) ?_)
  refine oP (KF (v:=.int .i64 (((blen K:Nat):Int)-1)) rfl rfl (br_subI (by omega) (by omega))) ?_
  refine oA ?_
  refine KC ?_
  refine LCode.block ?_
  refine Ks (α:=Nat×NV×NV) (fun x=>x.1≤blen K∧NFr w.heap.size (fp2 q r P []) x.2.1 (D.nw (xv (pmul V.A P (K/2^x.1))))∧NFr w.heap.size (fp2 q r P []) x.2.2 (D.nw (yv (pmul V.A P (K/2^x.1))))) (fun x=>⟨[(1,numV qk K),(3,.pointer (some ⟨b3,0,none⟩)),(5,.pointer (some ⟨b5,0,none⟩)),(6,.pointer (some ⟨b6,0,none⟩)),(7,.pointer (some ⟨b7,0,none⟩)),(8,.int .i64 (((x.1:Nat):Int)-1))],[.blk b7 ⟨true,rpL (numV x.2.1 (xv (pmul V.A P (K/2^x.1)))) (numV x.2.2 (yv (pmul V.A P (K/2^x.1)))) (iv (pmul V.A P (K/2^x.1))),38,(0,0)⟩,.blk b6 ⟨true,[.slice none 0 0,.slice none 0 0,.bool false],38,(0,0)⟩,.blk b5 ⟨true,rpL (numV q (xv P)) (numV r (yv P)) (iv P),38,(0,0)⟩,.blk b3 ⟨true,crvL Q V,26,(0,0)⟩,numT x.2.1 (xv (pmul V.A P (K/2^x.1))),numT x.2.2 (yv (pmul V.A P (K/2^x.1))),crvI Q V,numT qk K,numT q (xv P),numT r (yv P)]⟩) (fun x=>x.1) ((blen K,⟨true,0,0⟩,⟨true,0,0⟩)) (⟨Nat.le_refl _,by dsimp only; rw [pm_top]; exact nfr_zero _ _,by dsimp only; rw [pm_top]; exact nfr_zero _ _⟩) (by dsimp only; rw [pm_top]; exact KAO (Sub.cells (b:=b7) (cs':=rpL (numV ⟨true,0,0⟩ (xv (Pt.inf:Pt V.p))) (numV ⟨true,0,0⟩ (yv (Pt.inf:Pt V.p))) (iv (Pt.inf:Pt V.p))) (by repeat (first|exact Sh _|apply St_)) rp_nil) (Kq ⟨rfl,rfl,rfl,rfl,rfl,rfl,trivial⟩ (by repeat (first|exact Sel.nil _|refine Sel.cons (by repeat (first|exact Ph _|apply Pt_)) ?_)))) ?_
  rintro x ⟨hx1,hx2,hx3⟩
  refine KB ?_
  refine KB ?_
  rcases Nat.eq_zero_or_pos x.1 with h0|h0
  ·
    refine KA ?_
    refine oM ?_
    refine oP (KF (v:=.bool false) rfl rfl (by rw [h0]; rfl)) ?_
    refine KC ?_
    refine KR rfl ?_
    refine Kp ?_
    refine KB ?_
    have eR:pmul V.A P (K/2^x.1) = R:=by rw [h0,Nat.pow_zero,Nat.div_one]; exact hR
    rw [eR] at hx2 hx3 ⊢
    refine KA ?_
    refine oD (dL rfl (hv:=by exact KI Try.underlying38 rfl sz_38)) ?_
    refine KV rfl (sA rfl rfl sz_38 (by repeat (first|exact KO|refine KJ rfl ?_)) (hl:=by rfl) (h:=?_))
    refine KC (KM ?_)
    refine ⟨[_],.cons ⟨_,_,_,rfl,(by repeat (first|exact Mh _|apply Mt)),by exact KI Try.underlying38 rfl sz_38⟩ .nil,fun a w' hr=>hr.num2Q (by repeat (first|exact Mh _|apply Mt)) hx2 (by repeat (first|exact Mh _|apply Mt)) hx3⟩
  ·
    obtain ⟨y,hy⟩:∃ y,x.1 = y+1:=⟨x.1-1,by omega⟩
    rw [hy] at hx2 hx3 ⊢
    refine KA ?_
    refine oM ?_
    refine oP (KF (v:=.bool true) rfl rfl (by simp [Kw] <;> omega)) ?_
    refine KC ?_
    refine Kf rfl ?_
    refine KT ?_
    refine KB ?_
    refine LCode.block ?_
    refine KB (KA ?_)
    refine oD (dL rfl (hv:=by exact KI Try.underlying26 rfl sz_26)) ?_
    refine oD (dL rfl (hv:=by exact KI Try.underlying38 rfl sz_38)) ?_
    refine oD (dL rfl (hv:=by exact KI Try.underlying38 rfl sz_38)) ?_
    refine oS (cZ rfl en_68 rfl (fun w hw hs=>(c_r_Plus Q V x.2.1 x.2.2 x.2.1 x.2.2 (pmul V.A P (K/2^(y+1))) (pmul V.A P (K/2^(y+1))) (padd V.A (pmul V.A P (K/2^(y+1))) (pmul V.A P (K/2^(y+1)))) w (mC hw) hok (mC hw) (mC hw) (mC hw) (mC hw) (hok.mul hP _) (hok.mul hP _) rfl).mono fun e w' h=>Num2R.q (Old.pt (by repeat (first|exact Mh _|apply Mt)) (by repeat (first|exact Mh _|apply Mt)) (Old.pt (by repeat (first|exact Mh _|apply Mt)) (by repeat (first|exact Mh _|apply Mt)) (Old.nil _))) hs h) ?_)
    rintro _ _ ⟨qda,qdb,rfl,rfl,hnda,hndb⟩
    refine KV rfl (sA rfl rfl sz_38 (by repeat (first|exact KO|refine KJ rfl ?_)) (hl:=by rfl) (h:=?_))
    refine KC ?_
    refine KB (KA ?_)
    refine oM ?_
    refine oP (KAB (v:=.int .i64 ((y:Nat):Int)) (by show some _ = some _; congr 2; omega)) ?_
    refine oS (cF rfl en_86 rfl (fun w hw=>c_n_Bit qk K (D.nw K) y w (mC hw) (by omega)) ?_)
    refine oP (KF rfl rfl (br_eql (b:=1))) ?_
    refine KC ?_
    first|refine KS rfl (fun hbit=>?_) (fun hbit=>?_)|refine KU rfl (fun hbit=>?_) (fun hbit=>?_)
    ·
      have hbit:K/2^y%2 = 1:=hbit
      refine KA ?_
      refine oD (dL rfl (hv:=by exact KI Try.underlying26 rfl sz_26)) ?_
      refine oD (dL rfl (hv:=by exact KI Try.underlying38 rfl sz_38)) ?_
      refine oD (dL rfl (hv:=by exact KI Try.underlying38 rfl sz_38)) ?_
      refine oS (cZ rfl en_68 rfl (fun w hw hs=>(c_r_Plus Q V qda qdb q r (padd V.A (pmul V.A P (K/2^(y+1))) (pmul V.A P (K/2^(y+1)))) P (pmul V.A P (K/2^y)) w (mC hw) hok (mC hw) (mC hw) (mC hw) (mC hw) (hok.sum (hok.mul hP _) (hok.mul hP _)) hP (pm_T hok hP hbit)).mono fun e w' h=>Num2R.q (Old.pt (by repeat (first|exact Mh _|apply Mt)) (by repeat (first|exact Mh _|apply Mt)) (Old.pt (by repeat (first|exact Mh _|apply Mt)) (by repeat (first|exact Mh _|apply Mt)) (Old.nil _))) hs h) ?_)
      rintro _ _ ⟨qea,qeb,rfl,rfl,hnea,hneb⟩
      refine KV rfl (sA rfl rfl sz_38 (by repeat (first|exact KO|refine KJ rfl ?_)) (hl:=by rfl) (h:=?_))
      refine KC ?_
      refine KA ?_
      refine oP (KAB (v:=.int .i64 ((y:Nat):Int)) (by show some _ = some _; congr 2; omega)) ?_
      refine oP (KF (v:=.int .i64 (((y:Nat):Int)-1)) rfl rfl (br_subI (by omega) (by omega))) ?_
      refine oA ?_
      refine KC ?_
      exact ⟨(y,qea,qeb),⟨by dsimp only; omega,NFr.two hnea (NFr.two hnda hx2 hx3 hx2 hx3) (NFr.two hndb hx2 hx3 hx2 hx3) (fp2_q _) (fp2_r _),NFr.two hneb (NFr.two hnda hx2 hx3 hx2 hx3) (NFr.two hndb hx2 hx3 hx2 hx3) (fp2_q _) (fp2_r _)⟩,by dsimp only; omega,Kq ⟨rfl,rfl,rfl,rfl,rfl,rfl,trivial⟩ (by repeat (first|exact Sel.nil _|refine Sel.cons (by repeat (first|exact Ph _|apply Pt_)) ?_))⟩
    ·
      have hbit:¬ K/2^y%2 = 1:=hbit
      refine KT ?_
      refine KA ?_
      refine oP (KAB (v:=.int .i64 ((y:Nat):Int)) (by show some _ = some _; congr 2; omega)) ?_
      refine oP (KF (v:=.int .i64 (((y:Nat):Int)-1)) rfl rfl (br_subI (by omega) (by omega))) ?_
      refine oA ?_
      refine KC ?_
      rw [pm_F hok hP hbit] at hnda hndb ⊢
      exact ⟨(y,qda,qdb),⟨by dsimp only; omega,NFr.two hnda hx2 hx3 hx2 hx3,NFr.two hndb hx2 hx3 hx2 hx3⟩,by dsimp only; omega,Kq ⟨rfl,rfl,rfl,rfl,rfl,rfl,trivial⟩ (by repeat (first|exact Sel.nil _|refine Sel.cons (by repeat (first|exact Ph _|apply Pt_)) ?_))⟩
def sumT (V:Cv) (T U:Fin V.p×Fin V.p×Fin V.p):Fin V.p×Fin V.p×Fin V.p:=sum3 V.A (V.B+V.B+V.B) T.1 T.2.1 T.2.2 U.1 U.2.1 U.2.2
structure RepT (V:Cv) (T:Fin V.p×Fin V.p×Fin V.p) (P:Pt V.p):Prop where
  rep:Rep T.1 T.2.1 T.2.2 P
  on:On V.A V.B P
theorem RepT.sum {V:Cv} (hok:V.Ok) {T U:Fin V.p×Fin V.p×Fin V.p} {P R:Pt V.p} (h:RepT V T P) (k:RepT V U R):RepT V (sumT V T U) (padd V.A P R):=⟨hok.rep_sum h.rep k.rep h.on k.on,hok.sum h.on k.on⟩
theorem RepT.trip {V:Cv} (hok:V.Ok) {P:Pt V.p} (hP:On V.A V.B P):RepT V (tripF P) P:=⟨hok.rep_trip P,hP⟩
theorem c_SumT (V:Cv) (b f bd:Nat) (hok:V.Ok) (T U:Fin V.p×Fin V.p×Fin V.p) (w:World) (hb:(Item.blk b ⟨false,opL V f,129,(0,0)⟩).holds w) (hf:(Item.blk f ⟨false,fldL V.p bd,162,(0,0)⟩).holds w) (hbd:(Item.blk bd ⟨false,dvL V.p,212,(0,0)⟩).holds w):Calls Try.prog 125 ([.pointer (some ⟨b,0,none⟩),pjF T,pjF U]:List Value).toArray w (fun e w'=>e = .returned (pjF (sumT V T U))∧Below w.heap.size w w') :=
  c_Sum V b f bd hok T.1 T.2.1 T.2.2 U.1 U.2.1 U.2.2 w hb hf hbd
theorem c_PlainT (V:Cv) (b f bd:Nat) (hok:V.Ok) (T:Fin V.p×Fin V.p×Fin V.p) (P:Pt V.p) (w:World) (hb:(Item.blk b ⟨false,opL V f,129,(0,0)⟩).holds w) (hf:(Item.blk f ⟨false,fldL V.p bd,162,(0,0)⟩).holds w) (hbd:(Item.blk bd ⟨false,dvL V.p,212,(0,0)⟩).holds w) (h:RepT V T P):Calls Try.prog 124 ([.pointer (some ⟨b,0,none⟩),pjF T]:List Value).toArray w (fun e w'=>e = .returned (ptP P)∧Below w.heap.size w w'):=by
  have:=c_Plain V b f bd hok T.1 T.2.1 T.2.2 w hb hf hbd
  rwa [Rep.plain hok.prime h.rep] at this
end Go.Proofs.Ytlmiolnccgjjjaa
set_option linter.unusedVariables false
set_option linter.unusedSimpArgs false
set_option maxRecDepth 20000
namespace Go.Proofs.Ytlmiolnccgjjjaa
open Go Go.RowKit
open Grp
theorem eq_pt_t {X Y:Nat} {i:Bool} (hX:X<W9) (hY:Y<W9):EqD 4 Try.prog 35 (ptV X Y i) (ptV X Y i) true:=by
  have:=eq_pt X Y i X Y i hX hY hX hY
  rwa [show (decide (X = X) && (decide (Y = Y) && ((i == i) && true))) = true by simp] at this
theorem Brings.own {w w':World} {H:List Item} {b:Nat} {cs:List Value} {e:TypeId} (hb:Below w.heap.size w w') (h:(Item.blk b ⟨true,cs,e,(0,0)⟩).holds w') (hn:w.heap.size≤b):Brings w H [.blk b ⟨true,cs,e,(0,0)⟩] w' :=
  ⟨hb,(by intro x hx; simp at hx; subst hx; exact h),(by intro x hx k hk; simp at hx; subst hx; simp [Item.fp] at hk; subst hk; exact .inl hn),(by intro x hx _ k hk; simp at hx; subst hx; simp [Item.fp] at hk; subst hk; exact hn),List.pairwise_singleton _ _⟩
end Go.Proofs.Ytlmiolnccgjjjaa
set_option linter.unusedVariables false
set_option linter.unusedSimpArgs false
set_option maxRecDepth 20000
namespace Go.Proofs.Ytlmiolnccgjjjaa
open Go Go.RowKit
open Grp
theorem xG {V:Cv} (hok:V.Ok):xv V.G = V.x:=val_c hok.bounds.2.2.2.2.1
theorem yG {V:Cv} (hok:V.Ok):yv V.G = V.y:=val_c hok.bounds.2.2.2.2.2.1
end Go.Proofs.Ytlmiolnccgjjjaa
set_option linter.unusedVariables false
set_option linter.unusedSimpArgs false
set_option maxRecDepth 20000
namespace Go.Proofs.Ytlmiolnccgjjjaa
open Go Go.RowKit
open Grp
theorem c_cOnB (V:Cv) (b f bd:Nat) (hok:V.Ok) (X Y:Nat) (i r:Bool) (w:World) (hb:(Item.blk b ⟨false,opL V f,129,(0,0)⟩).holds w) (hf:(Item.blk f ⟨false,fldL V.p bd,162,(0,0)⟩).holds w) (hbd:(Item.blk bd ⟨false,dvL V.p,212,(0,0)⟩).holds w) (hX:X<W9) (hY:Y<W9) (hr:onB V.p V.a V.b X Y i = r):Calls Try.prog 81 ([.pointer (some ⟨b,0,none⟩),ptV X Y i]:List Value).toArray w (fun e w'=>e = .returned (.bool r)∧Below w.heap.size w w'):=by
  have:=c_cOn V b f bd hok X Y i w hb hf hbd hX hY
  rwa [hr] at this
theorem c_cOnP (V:Cv) (b f bd:Nat) (hok:V.Ok) (P:Pt V.p) (w:World) (hb:(Item.blk b ⟨false,opL V f,129,(0,0)⟩).holds w) (hf:(Item.blk f ⟨false,fldL V.p bd,162,(0,0)⟩).holds w) (hbd:(Item.blk bd ⟨false,dvL V.p,212,(0,0)⟩).holds w) (hP:On V.A V.B P):Calls Try.prog 81 ([.pointer (some ⟨b,0,none⟩),ptP P]:List Value).toArray w (fun e w'=>e = .returned (.bool true)∧Below w.heap.size w w') :=
  c_cOnB V b f bd hok (xv P) (yv P) (iv P) true w hb hf hbd (pt_w9 hok P).1 (pt_w9 hok P).2 (onB_on hP)
theorem pjFL_length {p:Nat} (T:Fin p×Fin p×Fin p):(pjFL T).length = 27:=KY _ _ _
theorem pjFL_one {p:Nat} (T:Fin p×Fin p×Fin p):AllOne (pjFL T):=Km _ _ _
end Go.Proofs.Ytlmiolnccgjjjaa
set_option linter.unusedVariables false
set_option linter.unusedSimpArgs false
set_option maxRecDepth 20000
namespace Go.Proofs.Ytlmiolnccgjjjaa
open Go Go.RowKit
open Grp
section
variable {P:Program} {C:Ctx} {d:Nat} {ty:TypeId} {pos:String} {aft:Array Edge} {K:St→Prop} {x:Operand} {v:Value}
end
theorem pt_set1 (X Y Y':Nat) (i:Bool):splice (ptL X Y i) 9 (natL Y') = ptL X Y' i:=splice_mid (A:=natL X) (B:=natL Y) (D:=[.bool i]) (by simp [ptL]) (KD _) (by rw [KD,KD]) (by simp [ptL])
end Go.Proofs.Ytlmiolnccgjjjaa
set_option linter.unusedVariables false
set_option linter.unusedSimpArgs false
set_option maxRecDepth 20000
namespace Go.Proofs.Ytlmiolnccgjjjaa
open Go Go.RowKit
open Grp
def ptPL {p:Nat} (P:Pt p):List Value:=ptL (xv P) (yv P) (iv P)
theorem ptPL_length {p:Nat} (P:Pt p):(ptPL P).length = 19:=KN _ _ _
theorem ptPL_one {p:Nat} (P:Pt p):AllOne (ptPL P):=Kg _ _ _
def tabL {p:Nat} (E:Nat→Pt p):Nat→List Value
  | 0=>[]
  | n+1=>tabL E n++ptPL (E n)
theorem tabL_length {p:Nat} (E:Nat→Pt p):∀ n,(tabL E n).length = n*19
  | 0=>rfl
  | n+1=>by show (tabL E n++ptPL (E n)).length = _; rw [List.length_append,tabL_length E n,ptPL_length]; omega
theorem tabL_at {p:Nat} (E:Nat→Pt p) {k:Nat}:∀ {n},k<n→∃ post,tabL E n = tabL E k++(ptPL (E k)++post)
  | 0,h=>by omega
  | n+1,h=>by
    by_cases e:k = n
    · subst e; exact ⟨[],by rw [List.append_nil]; rfl⟩
    · obtain ⟨post,hp⟩:=tabL_at E (show k<n by omega)
      exact ⟨post++ptPL (E n),by show tabL E n++ptPL (E n) = _; rw [hp]; simp only [List.append_assoc]⟩
theorem tab_load {p:Nat} {wr:Bool} {e:TypeId} {fz:Nat×Nat} (E:Nat→Pt p) {k n:Nat} (h:k<n) (rest:List Value):LoadV Try.prog 35 ⟨wr,tabL E n++rest,e,fz⟩ (0+k*19) (ptP (E k)):=by
  obtain ⟨post,hp⟩:=tabL_at E h
  exact LoadV.mid (pre:=tabL E k) (cs:=ptPL (E k)) (post:=post++rest) Try.underlying35 rfl sz_35 (by show tabL E n++rest = _; rw [hp]; simp only [List.append_assoc]) (by rw [tabL_length]; omega) (ptPL_length _)
theorem inf_pt:infOf Try.prog 35 = some (.agg (vec .u64 9 (fun _=>0)++(vec .u64 9 (fun _=>0)++[Value.bool false]):List Value).toArray,19,152):=by kernel_rfl
theorem fill_ptR {p:Nat} (P:Pt p):fillL ((List.range 1).map fun i=>(i*19,19)) (vec .u64 9 (fun _=>0)++(vec .u64 9 (fun _=>0)++[Value.bool false])) [(0,.agg (ptPL P).toArray)] = some (ptPL P):=fillL_whole (by simp [KH]) (ptPL_length P)
theorem row_pt:((Array.range (1*19)).map fun i=>(Value.agg (vec .u64 9 (fun _=>0)++(vec .u64 9 (fun _=>0)++[Value.bool false]):List Value).toArray).cells[i%(Value.agg (vec .u64 9 (fun _=>0)++(vec .u64 9 (fun _=>0)++[Value.bool false]):List Value).toArray).cells.size]!) = (vec .u64 9 (fun _=>0)++(vec .u64 9 (fun _=>0)++[Value.bool false]):List Value).toArray:=by kernel_rfl
noncomputable abbrev mulE (V:Cv) (P:Pt V.p):Nat→Pt V.p:=fun j=>pmul V.A P j
structure TabS (p:Nat) where
  k:Nat
  T:Fin p×Fin p×Fin p
  br:Nat
  cap:Nat
  rest:List Value
theorem Brings.two {w w':World} {b c:Nat} {B D:Blk} (hb:Below w.heap.size w w') (h1:(Item.blk b B).holds w') (h2:(Item.blk c D).holds w') (n1:w.heap.size≤b) (n2:w.heap.size≤c) (hne:c≠b):Brings w [] [.blk b B,.blk c D] w':=by
  have key:∀ x,x∈[Item.blk b B,.blk c D]→∀ k,k∈x.fp→w.heap.size≤k:=fun x hx k hk=>by
    rcases List.mem_cons.1 hx with rfl|hx
    · obtain rfl:k = b:=by simpa [Item.fp] using hk
      exact n1
    · obtain rfl:x = _:=by simpa using hx
      obtain rfl:k = c:=by simpa [Item.fp] using hk
      exact n2
  refine ⟨hb,fun x hx=>?_,fun x hx k hk=>.inl (key x hx k hk),fun x hx _=>key x hx,List.pairwise_cons.2 ⟨fun y hy _ k hk hk'=>?_,List.pairwise_singleton _ _⟩⟩
  · rcases List.mem_cons.1 hx with rfl|hx
    · exact h1
    · obtain rfl:x = _:=by simpa using hx
      exact h2
  · obtain rfl:y = _:=by simpa using hy
    obtain rfl:k = b:=by simpa [Item.fp] using hk
    exact hne (by simpa [Item.fp] using hk':k = c).symm
theorem bringsC {P:Program} {f:FuncId} {a:Array Value} {w:World} {Q:Value→List Item→Prop} (h:Calls P f a w (fun e w'=>∃ v its,Q v its∧e = .returned v∧Brings w [] its w')) (H:List Item):Calls P f a w (fun e w'=>∃ v its,Q v its∧e = .returned v∧Brings w H its w') :=
  h.mono fun e w' ⟨v,its,h1,h2,h3⟩=>⟨v,its,h1,h2,h3.more (fun x hx=>by cases hx)⟩
theorem c_tabOf (V:Cv) (b f bd:Nat) (hok:V.Ok) (P:Pt V.p) (hP:On V.A V.B P) (n:Nat) (hn0:1≤n) (hn:n≤16) (w:World) (hb:(Item.blk b ⟨false,opL V f,129,(0,0)⟩).holds w) (hf:(Item.blk f ⟨false,fldL V.p bd,162,(0,0)⟩).holds w) (hbd:(Item.blk bd ⟨false,dvL V.p,212,(0,0)⟩).holds w):Calls Try.prog 82 ([.pointer (some ⟨b,0,none⟩),ptP P,.int .i64 ((n:Nat):Int)]:List Value).toArray w (fun e w'=>∃ v its,(fun v its=>∃ bt br cap rest,v = .pointer (some ⟨bt,0,none⟩)∧its = [.blk bt ⟨true,[.slice (some ⟨br,0,none⟩) n cap],116,(0,0)⟩,.blk br ⟨true,tabL (mulE V P) n++rest,35,(0,0)⟩]) v its∧e = .returned v∧Brings w [] its w'):=by
  refine Ki (N:=36) (rs:=[.tmp 6]) [.blk b ⟨false,opL V f,129,(0,0)⟩,.blk f ⟨false,fldL V.p bd,162,(0,0)⟩,.blk bd ⟨false,dvL V.p,212,(0,0)⟩] Try.func82 rfl Try.ntmps82 Try.results82 (Nb rfl) ⟨hb,hf,hbd,trivial⟩ rfl ?_
  show LCode _ _ _ ⟨_,_⟩ _
  refine KB (KA ?_)
  refine oS (mB (fun b4=>?_))
  refine oA ?_
  refine KC ?_
  refine KB (KA ?_)
  refine oP (Ky pl_116 zr_116 rfl rfl) ?_
  refine oS (mB (fun b11=>?_))
  refine oA ?_
  refine KC ?_
  refine KB (KA ?_)
  refine oD (dL rfl (hv:=by exact KI Try.underlying35 rfl sz_35)) ?_
  refine oS (cF rfl en_122 rfl (fun w hw=>c_Triple V hok P w) ?_)
  refine oS (cF rfl en_123 rfl (fun w hw=>c_NoneF hok w) ?_)
  refine oS (mk (KX zr_172) (fun b8=>?_))
  refine oS (mk (KX zr_172) (fun b9=>?_))
  refine KV rfl (sA rfl rfl sz_172 (by exact pjFL_one _) (hl:=by exact pjFL_length _) (h:=?_))
  refine KV rfl (sA rfl rfl sz_172 (by exact pjFL_one _) (hl:=by exact pjFL_length _) (h:=?_))
  refine KC ?_
  refine KB ?_
  refine KB (KA ?_)
  refine oM ?_
  refine oP (KAB (v:=.int .i64 ((0:Nat):Int)) rfl) ?_
  refine KC ?_
  refine LCode.block ?_
  refine Ks (α:=Option (TabS V.p)) (fun x=>match x with|none=>True|some y=>1≤y.k∧y.k≤n∧RepT V y.T (pmul V.A P y.k)∧(tabL (mulE V P) y.k).length+y.rest.length = y.cap*19) (fun x=>match x with|none=>⟨[(0,.pointer (some ⟨b,0,none⟩)),(7,.pointer (some ⟨b11,0,none⟩)),(8,.pointer (some ⟨b8,0,none⟩)),(9,.pointer (some ⟨b9,0,none⟩)),(15,.int .i64 ((n:Nat):Int)),(16,.int .i64 ((0:Nat):Int))],[.blk b11 ⟨true,[.slice none 0 0],116,(0,0)⟩,.blk b9 ⟨true,pjFL (tripF (.inf:Pt V.p)),172,(0,0)⟩,.blk b8 ⟨true,pjFL (tripF P),172,(0,0)⟩,.blk b ⟨false,opL V f,129,(0,0)⟩,.blk f ⟨false,fldL V.p bd,162,(0,0)⟩,.blk bd ⟨false,dvL V.p,212,(0,0)⟩]⟩|some y=>⟨[(0,.pointer (some ⟨b,0,none⟩)),(7,.pointer (some ⟨b11,0,none⟩)),(8,.pointer (some ⟨b8,0,none⟩)),(9,.pointer (some ⟨b9,0,none⟩)),(15,.int .i64 ((n:Nat):Int)),(16,.int .i64 ((y.k:Nat):Int))],[.blk b11 ⟨true,[.slice (some ⟨y.br,0,none⟩) y.k y.cap],116,(0,0)⟩,.blk y.br ⟨true,tabL (mulE V P) y.k++y.rest,35,(0,0)⟩,.blk b9 ⟨true,pjFL y.T,172,(0,0)⟩,.blk b8 ⟨true,pjFL (tripF P),172,(0,0)⟩,.blk b ⟨false,opL V f,129,(0,0)⟩,.blk f ⟨false,fldL V.p bd,162,(0,0)⟩,.blk bd ⟨false,dvL V.p,212,(0,0)⟩]⟩) (fun x=>match x with|none=>n+1|some y=>n-y.k) (none) (trivial) (Kq ⟨rfl,rfl,rfl,rfl,rfl,rfl,trivial⟩ (by repeat (first|exact Sel.nil _|refine Sel.cons (by repeat (first|exact Ph _|apply Pt_)) ?_))) ?_
  intro x hx
  refine KB ?_
  rcases x with _|⟨k,T,br,cap,rest⟩
  ·
    refine KA ?_
    refine oP (KF (v:=.bool true) rfl rfl (br_t KAT (by omega))) ?_
    refine KC ?_
    refine KB ?_
    refine Kf rfl ?_
    refine KT ?_
    refine KB ?_
    refine LCode.block ?_
    refine KB ?_
    refine rD [9,12] ?_
    refine aM 0 ?_
    refine aM 1 ?_
    refine aP 2 rfl (KQ rfl) ?_
    refine aP 3 rfl (KG (o':=0) Try.underlying116 rfl rfl rfl sz_114 (by decide)) ?_
    refine aD 4 rfl (dL rfl (hv:=KL Try.underlying114 rfl (by first|rfl|exact Ke _ _ _ (by omega)|exact Kd _ (by omega)|exact Kb _ (by omega)|exact dv_m _ _ _ (by omega)))) ?_
    refine aM 5 ?_
    refine aO 6 rfl (LStep.det (dL rfl (hv:=by exact KI Try.underlying172 rfl sz_172)) (Nb rfl) ?_)
    refine aO 7 rfl (cF rfl en_124 rfl (fun w hw=>c_PlainT V b f bd hok (tripF (.inf:Pt V.p)) (mulE V P 0) w (mC hw) (mC hw) (mC hw) (RepT.trip hok trivial)) ?_)
    refine aO 8 rfl (mk (Makes.row (vs:=[(0,.agg (ptPL (mulE V P 0)).toArray)]) Try.underlying114 inf_pt (by decide) row_pt rfl (fill_ptR (mulE V P 0)) (fun h=>by cases h)) (fun b26=>?_))
    refine aL 9 rfl (LStepW.appendNilS (s:=19) (news:=ptPL (mulE V P 0)) rfl rfl Try.underlying114 inf_pt rfl (by repeat (first|exact Mh _|apply Mt)) (ptPL_length _) (by decide) (by decide) (by decide) (Nb rfl) ?_)
    intro b1 cap1 rest1 hc1
    refine aP 10 rfl (KQ rfl) ?_
    refine aP 11 rfl (KG (o':=0) Try.underlying116 rfl rfl rfl sz_114 (by decide)) ?_
    refine aL 12 rfl (Kj rfl rfl rfl sz_114 (by repeat (first|exact Sh _|apply St_)) (by first|(simp only [KH,KD,KE,Kt]; omega)|(simp; done)|(simp; omega)) (by first|exact KAH _ _ _ _ _|exact KAJ _ _ _ _ (by omega)|exact KAI _ _ _ _|rfl) (by simp) ?_)
    refine aE ?_
    refine KA ?_
    refine oM ?_
    refine oD (dL rfl (hv:=by exact KI Try.underlying172 rfl sz_172)) ?_
    refine oD (dL rfl (hv:=by exact KI Try.underlying172 rfl sz_172)) ?_
    refine oS (cF rfl en_125 rfl (fun w hw=>c_SumT V b f bd hok (tripF (.inf:Pt V.p)) (tripF P) w (mC hw) (mC hw) (mC hw)) ?_)
    refine KV rfl (sA rfl rfl sz_172 (by exact pjFL_one _) (hl:=by exact pjFL_length _) (h:=?_))
    refine KC ?_
    refine KA ?_
    refine oP (KF rfl rfl (Kv (b:=1) (by omega))) ?_
    refine oM ?_
    refine KC ?_
    exact ⟨some ⟨0+1,sumT V (tripF (.inf:Pt V.p)) (tripF P),b1,cap1,rest1⟩,⟨Nat.le_add_left _ _,by show 0+1≤n; omega,RepT.sum hok (RepT.trip hok trivial) (RepT.trip hok hP),by rw [ptPL_length] at hc1; show (tabL (mulE V P) (0+1)).length+rest1.length = cap1*19; rw [tabL_length]; omega⟩,by show n-(0+1)<n+1; omega,KAO (Sub.cells (b:=b1) (cs':=tabL (mulE V P) (0+1)++rest1) (by repeat (first|exact Sh _|apply St_)) (by rfl)) (Kq ⟨rfl,rfl,rfl,rfl,rfl,rfl,trivial⟩ (by repeat (first|exact Sel.nil _|refine Sel.cons (by repeat (first|exact Ph _|apply Pt_)) ?_)))⟩
  ·
    obtain ⟨hk1,hkn,hT,hcap⟩:=hx
    dsimp only at hk1 hkn hT hcap
    refine KA ?_
    refine oP (KF rfl rfl (KAT)) ?_
    refine KC ?_
    refine KB ?_
    first|refine KS rfl (fun h17=>?_) (fun h17=>?_)|refine KU rfl (fun h17=>?_) (fun h17=>?_)
    ·
      have h17:k<n:=h17
      refine KT ?_
      refine KB ?_
      refine LCode.block ?_
      refine KB ?_
      refine rD [9,12] ?_
      refine aM 0 ?_
      refine aM 1 ?_
      refine aP 2 rfl (KQ rfl) ?_
      refine aP 3 rfl (KG (o':=0) Try.underlying116 rfl rfl rfl sz_114 (by decide)) ?_
      refine aD 4 rfl (dL rfl (hv:=KL Try.underlying114 rfl (by first|rfl|exact Ke _ _ _ (by omega)|exact Kd _ (by omega)|exact Kb _ (by omega)|exact dv_m _ _ _ (by omega)))) ?_
      refine aM 5 ?_
      refine aO 6 rfl (LStep.det (dL rfl (hv:=by exact KI Try.underlying172 rfl sz_172)) (Nb rfl) ?_)
      refine aO 7 rfl (cF rfl en_124 rfl (fun w hw=>c_PlainT V b f bd hok (T) (mulE V P k) w (mC hw) (mC hw) (mC hw) (hT)) ?_)
      refine aO 8 rfl (mk (Makes.row (vs:=[(0,.agg (ptPL (mulE V P k)).toArray)]) Try.underlying114 inf_pt (by decide) row_pt rfl (fill_ptR (mulE V P k)) (fun h=>by cases h)) (fun b26=>?_))
      refine aL 9 rfl (LStepW.appendS (s:=19) (m:=1) (xs:=tabL (mulE V P) k) (rest:=rest) (news:=ptPL (mulE V P k)) rfl rfl Try.underlying114 inf_pt rfl (by repeat (first|exact Pick.head _|apply Pick.tail)) (by repeat (first|exact Mh _|apply Mt)) (tabL_length _ _) hcap (ptPL_length _) (ptPL_one _) (by omega) (by omega) (Nb rfl) ?_)
      intro b1 cap1 rest1 hc1
      refine aP 10 rfl (KQ rfl) ?_
      refine aP 11 rfl (KG (o':=0) Try.underlying116 rfl rfl rfl sz_114 (by decide)) ?_
      refine aL 12 rfl (Kj rfl rfl rfl sz_114 (by repeat (first|exact Sh _|apply St_)) (by first|(simp only [KH,KD,KE,Kt]; omega)|(simp; done)|(simp; omega)) (by first|exact KAH _ _ _ _ _|exact KAJ _ _ _ _ (by omega)|exact KAI _ _ _ _|rfl) (by simp) ?_)
      refine aE ?_
      refine KA ?_
      refine oM ?_
      refine oD (dL rfl (hv:=by exact KI Try.underlying172 rfl sz_172)) ?_
      refine oD (dL rfl (hv:=by exact KI Try.underlying172 rfl sz_172)) ?_
      refine oS (cF rfl en_125 rfl (fun w hw=>c_SumT V b f bd hok (T) (tripF P) w (mC hw) (mC hw) (mC hw)) ?_)
      refine KV rfl (sA rfl rfl sz_172 (by exact pjFL_one _) (hl:=by exact pjFL_length _) (h:=?_))
      refine KC ?_
      refine KA ?_
      refine oP (KF rfl rfl (Kv (b:=1) (by omega))) ?_
      refine oM ?_
      refine KC ?_
      exact ⟨some ⟨k+1,sumT V T (tripF P),b1,cap1,rest1⟩,⟨Nat.le_add_left _ _,by show k+1≤n; omega,RepT.sum hok hT (RepT.trip hok hP),by rw [tabL_length,ptPL_length] at hc1; show (tabL (mulE V P) (k+1)).length+rest1.length = cap1*19; rw [tabL_length]; omega⟩,by show n-(k+1)<n-k; omega,KAO (Sub.cells (b:=b1) (cs':=tabL (mulE V P) (k+1)++rest1) (by repeat (first|exact Sh _|apply St_)) (by rfl)) (Kq ⟨rfl,rfl,rfl,rfl,rfl,rfl,trivial⟩ (by repeat (first|exact Sel.nil _|refine Sel.cons (by repeat (first|exact Ph _|apply Pt_)) ?_)))⟩
    ·
      have h17:¬ k<n:=h17
      refine Kp ?_
      refine KB (KA ?_)
      refine oM ?_
      refine oA ?_
      refine KC (KM ?_)
      obtain rfl:k = n:=by omega
      exact ⟨[_],.cons rfl .nil,fun a w' hr=>⟨_,_,⟨b11,br,cap,rest,rfl,rfl⟩,rfl,Brings.two hr.fr.below (hr.hp (.blk b11 ⟨true,_,_,_⟩) (by repeat (first|exact Mh _|apply Mt))) (hr.hp (.blk br ⟨true,_,_,_⟩) (by repeat (first|exact Mh _|apply Mt))) (hr.new (b:=b11) (B:=⟨true,_,_,_⟩) (by repeat (first|exact Mh _|apply Mt)) rfl) (hr.new (b:=br) (B:=⟨true,_,_,_⟩) (by repeat (first|exact Mh _|apply Mt)) rfl) (apart_two hr.dist (b:=b11) (B:=⟨true,_,116,_⟩) (c:=br) (D:=⟨true,_,35,_⟩) (by repeat (first|exact Mh _|apply Mt)) (by repeat (first|exact Mh _|apply Mt)) rfl (fun e=>absurd (show (116:Nat) = 35 from e) (by decide)))⟩⟩
theorem c_tabNew_none (id:Int) (X Y:Nat) (i:Bool) (n:Int) (w:World) (h:cvI id = none):Calls Try.prog 32 ([.int .i64 id,ptV X Y i,.int .i64 n]:List Value).toArray w (fun e w'=>e = .returned (.tuple #[.pointer none,.int .i64 ((1600:Nat):Int)])∧Below w.heap.size w w'):=by
  refine Ki (N:=30) (rs:=[.tmp 6,.tmp 7]) [] Try.func32 rfl Try.ntmps32 Try.results32 (Nb rfl) trivial rfl ?_
  show LCode _ _ _ ⟨_,_⟩ _
  refine KB (KA ?_)
  refine oS (mB (fun b4=>?_))
  refine oA ?_
  refine oP (KZ (v:=.int .i64 ((0:Nat):Int)) rfl) ?_
  refine KC ?_
  refine KB (KA ?_)
  refine oM ?_
  refine oS (cF rfl en_80 rfl (fun w hw=>c_Open_none id w h) ?_)
  refine oA ?_
  refine KC ?_
  refine KB ?_
  refine LCode.block ?_
  refine KB (KA ?_)
  refine oM ?_
  refine oP (KK (Det.eqp Try.underlying110 rfl rfl) (show _ = Value.bool true from rfl)) ?_
  refine oA ?_
  refine KC ?_
  refine Kf rfl ?_
  refine KB (KA ?_)
  refine oA ?_
  refine oP (KZ (v:=.int .i64 ((1600:Nat):Int)) rfl) ?_
  refine KC (KM ?_)
  refine ⟨[_,_],.cons rfl (.cons rfl .nil),fun a w' hr=>⟨?_,hr.fr.below⟩⟩
  rfl
theorem c_tabNew_off (id:Int) (V:Cv) (X Y:Nat) (i:Bool) (n:Int) (w:World) (h:cvI id = some V) (hX:X<W9) (hY:Y<W9) (ho:onB V.p V.a V.b X Y i = false):Calls Try.prog 32 ([.int .i64 id,ptV X Y i,.int .i64 n]:List Value).toArray w (fun e w'=>e = .returned (.tuple #[.pointer none,.int .i64 ((1601:Nat):Int)])∧Below w.heap.size w w'):=by
  obtain ⟨hok,hid⟩:=cvI_ok h
  have hbb:=hok.bounds
  have hpW:V.p<W9:=w9_521 hbb.2.1
  have hnW:V.n<W9:=w9_521 hbb.2.2.2.2.2.2.1
  have hbl:=blen_w9 hnW
  have hnb:nby V.n≤72:=by (unfold nby; omega)
  refine Ki (N:=30) (rs:=[.tmp 6,.tmp 7]) [] Try.func32 rfl Try.ntmps32 Try.results32 (Nb rfl) trivial rfl ?_
  show LCode _ _ _ ⟨_,_⟩ _
  refine KB (KA ?_)
  refine oS (mB (fun b4=>?_))
  refine oA ?_
  refine oP (KZ (v:=.int .i64 ((0:Nat):Int)) rfl) ?_
  refine KC ?_
  refine KB (KA ?_)
  refine oM ?_
  refine oS (LStep.callZ (Post:=fun v its=>∃ b f bd,v = .pointer (some ⟨b,0,none⟩)∧its = [.blk b ⟨false,opL V f,129,(0,0)⟩,.blk f ⟨false,fldL V.p bd,162,(0,0)⟩,.blk bd ⟨false,dvL V.p,212,(0,0)⟩]) (first:=[]) rfl en_80 rfl (Nb rfl) (fun w1 hw hs=>(c_Open _ V w1 h).mono fun e w' ⟨b,f,bd,h1,h2,h3,h4,h5,h6,h7,h8⟩=>⟨_,_,⟨b,f,bd,rfl,rfl⟩,h1,Brings.nums h8 (by intro x hx; simp at hx; rcases hx with rfl|rfl|rfl; exact h2; exact h3; exact h4) (by intro x hx; simp at hx; rcases hx with rfl|rfl|rfl <;> rfl) (by intro x hx k hk; simp at hx; rcases hx with rfl|rfl|rfl <;> simp [Item.fp] at hk <;> subst hk; exact .inl h5; exact .inl h6; exact .inl h7)⟩) ?_)
  rintro _ _ ⟨b,f,bd,rfl,rfl⟩
  refine oA ?_
  refine KC ?_
  refine KB ?_
  refine LCode.block ?_
  refine KB (KA ?_)
  refine oM ?_
  refine oP (KK (Det.eqp Try.underlying110 rfl rfl) (show _ = Value.bool false from rfl)) ?_
  refine oA ?_
  refine KC ?_
  refine KR rfl ?_
  refine KB (KA ?_)
  refine oM ?_
  refine oD (dL rfl (hv:=by exact KI Try.underlying35 rfl sz_35)) ?_
  refine oS (cF rfl en_81 rfl (fun w hw=>c_cOnB V b f bd hok (X) (Y) (i) false w (mC hw) (mC hw) (mC hw) hX hY ho) ?_)
  refine oP (KK (Det.not rfl) (show _ = Value.bool true from rfl)) ?_
  refine oA ?_
  refine KC ?_
  refine Kf rfl ?_
  refine KB (KA ?_)
  refine oA ?_
  refine oP (KZ (v:=.int .i64 ((1601:Nat):Int)) rfl) ?_
  refine KC (KM ?_)
  refine ⟨[_,_],.cons rfl (.cons rfl .nil),fun a w' hr=>⟨?_,hr.fr.below⟩⟩
  rfl
theorem c_tabNew_size (id:Int) (V:Cv) (P:Pt V.p) (n:Int) (w:World) (h:cvI id = some V) (hP:On V.A V.B P) (hn:n<1∨16<n):Calls Try.prog 32 ([.int .i64 id,ptP P,.int .i64 n]:List Value).toArray w (fun e w'=>e = .returned (.tuple #[.pointer none,.int .i64 ((1602:Nat):Int)])∧Below w.heap.size w w'):=by
  obtain ⟨hok,hid⟩:=cvI_ok h
  have hbb:=hok.bounds
  have hpW:V.p<W9:=w9_521 hbb.2.1
  have hnW:V.n<W9:=w9_521 hbb.2.2.2.2.2.2.1
  have hbl:=blen_w9 hnW
  have hnb:nby V.n≤72:=by (unfold nby; omega)
  refine Ki (N:=30) (rs:=[.tmp 6,.tmp 7]) [] Try.func32 rfl Try.ntmps32 Try.results32 (Nb rfl) trivial rfl ?_
  show LCode _ _ _ ⟨_,_⟩ _
  refine KB (KA ?_)
  refine oS (mB (fun b4=>?_))
  refine oA ?_
  refine oP (KZ (v:=.int .i64 ((0:Nat):Int)) rfl) ?_
  refine KC ?_
  refine KB (KA ?_)
  refine oM ?_
  refine oS (LStep.callZ (Post:=fun v its=>∃ b f bd,v = .pointer (some ⟨b,0,none⟩)∧its = [.blk b ⟨false,opL V f,129,(0,0)⟩,.blk f ⟨false,fldL V.p bd,162,(0,0)⟩,.blk bd ⟨false,dvL V.p,212,(0,0)⟩]) (first:=[]) rfl en_80 rfl (Nb rfl) (fun w1 hw hs=>(c_Open _ V w1 h).mono fun e w' ⟨b,f,bd,h1,h2,h3,h4,h5,h6,h7,h8⟩=>⟨_,_,⟨b,f,bd,rfl,rfl⟩,h1,Brings.nums h8 (by intro x hx; simp at hx; rcases hx with rfl|rfl|rfl; exact h2; exact h3; exact h4) (by intro x hx; simp at hx; rcases hx with rfl|rfl|rfl <;> rfl) (by intro x hx k hk; simp at hx; rcases hx with rfl|rfl|rfl <;> simp [Item.fp] at hk <;> subst hk; exact .inl h5; exact .inl h6; exact .inl h7)⟩) ?_)
  rintro _ _ ⟨b,f,bd,rfl,rfl⟩
  refine oA ?_
  refine KC ?_
  refine KB ?_
  refine LCode.block ?_
  refine KB (KA ?_)
  refine oM ?_
  refine oP (KK (Det.eqp Try.underlying110 rfl rfl) (show _ = Value.bool false from rfl)) ?_
  refine oA ?_
  refine KC ?_
  refine KR rfl ?_
  refine KB (KA ?_)
  refine oM ?_
  refine oD (dL rfl (hv:=by exact KI Try.underlying35 rfl sz_35)) ?_
  refine oS (cF rfl en_81 rfl (fun w hw=>c_cOnP V b f bd hok (P) w (mC hw) (mC hw) (mC hw) hP) ?_)
  refine oP (KK (Det.not rfl) (show _ = Value.bool false from rfl)) ?_
  refine oA ?_
  refine KC ?_
  refine KR rfl ?_
  refine KB ?_
  rcases (show n<1∨(1≤n∧16<n) by omega) with h1|⟨h1,h2⟩
  ·
    refine KA ?_
    refine oM ?_
    refine oP (KF (v:=.bool true) rfl rfl (by simp [Kw]; omega)) ?_
    refine oM ?_
    refine oK ?_
    refine oK ?_
    refine oP (Kn rfl rfl) ?_
    refine oA ?_
    refine KC ?_
    refine Kf rfl ?_
    refine KB (KA ?_)
    refine oA ?_
    refine oP (KZ (v:=.int .i64 ((1602:Nat):Int)) rfl) ?_
    refine KC (KM ?_)
    refine ⟨[_,_],.cons rfl (.cons rfl .nil),fun a w' hr=>⟨?_,hr.fr.below⟩⟩
    rfl
  ·
    refine KA ?_
    refine oM ?_
    refine oP (KF (v:=.bool false) rfl rfl (by simp [Kw]; omega)) ?_
    refine oM ?_
    refine oGM ?_
    refine oGP (KF (v:=.bool true) rfl rfl (by simp [Kw]; omega)) ?_
    refine oP (Kh rfl rfl) ?_
    refine oA ?_
    refine KC ?_
    refine Kf rfl ?_
    refine KB (KA ?_)
    refine oA ?_
    refine oP (KZ (v:=.int .i64 ((1602:Nat):Int)) rfl) ?_
    refine KC (KM ?_)
    refine ⟨[_,_],.cons rfl (.cons rfl .nil),fun a w' hr=>⟨?_,hr.fr.below⟩⟩
    rfl
theorem c_tabNew (id:Int) (V:Cv) (P:Pt V.p) (n:Nat) (w:World) (h:cvI id = some V) (hP:On V.A V.B P) (hn0:1≤n) (hn:n≤16):Calls Try.prog 32 ([.int .i64 id,ptP P,.int .i64 ((n:Nat):Int)]:List Value).toArray w (fun e w'=>∃ v its,(fun v its=>∃ bt br cap rest,v = .tuple #[.pointer (some ⟨bt,0,none⟩),.int .i64 ((0:Nat):Int)]∧its = [.blk bt ⟨true,[.slice (some ⟨br,0,none⟩) n cap],116,(0,0)⟩,.blk br ⟨true,tabL (mulE V P) n++rest,35,(0,0)⟩]) v its∧e = .returned v∧Brings w [] its w'):=by
  obtain ⟨hok,hid⟩:=cvI_ok h
  have hbb:=hok.bounds
  have hpW:V.p<W9:=w9_521 hbb.2.1
  have hnW:V.n<W9:=w9_521 hbb.2.2.2.2.2.2.1
  have hbl:=blen_w9 hnW
  have hnb:nby V.n≤72:=by (unfold nby; omega)
  refine Ki (N:=30) (rs:=[.tmp 6,.tmp 7]) [] Try.func32 rfl Try.ntmps32 Try.results32 (Nb rfl) trivial rfl ?_
  show LCode _ _ _ ⟨_,_⟩ _
  refine KB (KA ?_)
  refine oS (mB (fun b4=>?_))
  refine oA ?_
  refine oP (KZ (v:=.int .i64 ((0:Nat):Int)) rfl) ?_
  refine KC ?_
  refine KB (KA ?_)
  refine oM ?_
  refine oS (LStep.callZ (Post:=fun v its=>∃ b f bd,v = .pointer (some ⟨b,0,none⟩)∧its = [.blk b ⟨false,opL V f,129,(0,0)⟩,.blk f ⟨false,fldL V.p bd,162,(0,0)⟩,.blk bd ⟨false,dvL V.p,212,(0,0)⟩]) (first:=[]) rfl en_80 rfl (Nb rfl) (fun w1 hw hs=>(c_Open _ V w1 h).mono fun e w' ⟨b,f,bd,h1,h2,h3,h4,h5,h6,h7,h8⟩=>⟨_,_,⟨b,f,bd,rfl,rfl⟩,h1,Brings.nums h8 (by intro x hx; simp at hx; rcases hx with rfl|rfl|rfl; exact h2; exact h3; exact h4) (by intro x hx; simp at hx; rcases hx with rfl|rfl|rfl <;> rfl) (by intro x hx k hk; simp at hx; rcases hx with rfl|rfl|rfl <;> simp [Item.fp] at hk <;> subst hk; exact .inl h5; exact .inl h6; exact .inl h7)⟩) ?_)
  rintro _ _ ⟨b,f,bd,rfl,rfl⟩
  refine oA ?_
  refine KC ?_
  refine KB ?_
  refine LCode.block ?_
  refine KB (KA ?_)
  refine oM ?_
  refine oP (KK (Det.eqp Try.underlying110 rfl rfl) (show _ = Value.bool false from rfl)) ?_
  refine oA ?_
  refine KC ?_
  refine KR rfl ?_
  refine KB (KA ?_)
  refine oM ?_
  refine oD (dL rfl (hv:=by exact KI Try.underlying35 rfl sz_35)) ?_
  refine oS (cF rfl en_81 rfl (fun w hw=>c_cOnP V b f bd hok (P) w (mC hw) (mC hw) (mC hw) hP) ?_)
  refine oP (KK (Det.not rfl) (show _ = Value.bool false from rfl)) ?_
  refine oA ?_
  refine KC ?_
  refine KR rfl ?_
  refine KB (KA ?_)
  refine oM ?_
  refine oP (KF (v:=.bool false) rfl rfl (br_f (KAT (b:=1)) (by omega))) ?_
  refine oM ?_
  refine oGM ?_
  refine oGP (KF (v:=.bool false) rfl rfl (br_f (br_gtr (b:=16)) (by omega))) ?_
  refine oP (Kh rfl rfl) ?_
  refine oA ?_
  refine KC ?_
  refine KR rfl ?_
  refine KT ?_
  refine KB (KA ?_)
  refine oM ?_
  refine oD (dL rfl (hv:=by exact KI Try.underlying35 rfl sz_35)) ?_
  refine oM ?_
  refine oS (cC rfl en_82 rfl (fun w hw=>bringsC (c_tabOf V b f bd hok P hP n hn0 hn w (mC hw) (mC hw) (mC hw)) _) ?_)
  rintro _ _ ⟨bt,br,cap,rest,rfl,rfl⟩
  refine oA ?_
  refine oP (KZ (v:=.int .i64 ((0:Nat):Int)) rfl) ?_
  refine KC (KM ?_)
  exact ⟨[_,_],.cons rfl (.cons rfl .nil),fun a w' hr=>⟨_,_,⟨bt,br,cap,rest,rfl,rfl⟩,rfl,Brings.two hr.fr.below (hr.hp (.blk bt ⟨true,_,_,_⟩) (by repeat (first|exact Mh _|apply Mt))) (hr.hp (.blk br ⟨true,_,_,_⟩) (by repeat (first|exact Mh _|apply Mt))) (hr.new (b:=bt) (B:=⟨true,_,_,_⟩) (by repeat (first|exact Mh _|apply Mt)) rfl) (hr.new (b:=br) (B:=⟨true,_,_,_⟩) (by repeat (first|exact Mh _|apply Mt)) rfl) (apart_two hr.dist (b:=bt) (B:=⟨true,_,116,_⟩) (c:=br) (D:=⟨true,_,35,_⟩) (by repeat (first|exact Mh _|apply Mt)) (by repeat (first|exact Mh _|apply Mt)) rfl (fun e=>absurd (show (116:Nat) = 35 from e) (by decide)))⟩⟩
theorem c_tabSize (bt br n cap:Nat) {wr1:Bool} (w:World) (h1:(Item.blk bt ⟨wr1,[.slice (some ⟨br,0,none⟩) n cap],116,(0,0)⟩).holds w):Calls Try.prog 35 ([.pointer (some ⟨bt,0,none⟩)]:List Value).toArray w (fun e w'=>e = .returned (.int .i64 ((n:Nat):Int))∧Below w.heap.size w w'):=by
  refine Ki (N:=10) (rs:=[.tmp 2]) [.blk bt ⟨false,[.slice (some ⟨br,0,none⟩) n cap],116,(0,0)⟩] Try.func35 rfl Try.ntmps35 Try.results35 (Nb rfl) ⟨h1,trivial⟩ rfl ?_
  show LCode _ _ _ ⟨_,_⟩ _
  refine KB (KA ?_)
  refine oP (KZ (v:=.int .i64 ((0:Nat):Int)) rfl) ?_
  refine KC ?_
  refine KB ?_
  refine KB (KA ?_)
  refine oM ?_
  refine oP (KK (Det.eqp Try.underlying40 rfl rfl) (show _ = Value.bool false from rfl)) ?_
  refine KC ?_
  refine KR rfl ?_
  refine KT ?_
  refine KB (KA ?_)
  refine oM ?_
  refine oP (KQ rfl) ?_
  refine oP (KG (o':=0) Try.underlying116 rfl rfl rfl sz_114 (by decide)) ?_
  refine oD (dL rfl (hv:=KL Try.underlying114 rfl (by first|rfl|exact Ke _ _ _ (by omega)|exact Kd _ (by omega)|exact Kb _ (by omega)|exact dv_m _ _ _ (by omega)))) ?_
  refine oP (KAC Try.underlying114 rfl) ?_
  refine oA ?_
  refine KC (KM ?_)
  refine ⟨[_],.cons rfl .nil,fun a w' hr=>⟨?_,hr.fr.below⟩⟩
  rfl
def pk (i A:Nat):Nat→Nat
  | 0=>0
  | k+1=>if k = i then A else pk i A k
theorem pk_low {i A:Nat}:∀ {k},k≤i→pk i A k = 0
  | 0,_=>rfl
  | k+1,h=>by
    show (if k = i then A else pk i A k) = 0
    rw [if_neg (by omega)]; exact pk_low (by omega)
theorem pk_last {i A:Nat}:∀ {k},i<k→pk i A k = A
  | 0,h=>by omega
  | k+1,h=>by
    show (if k = i then A else pk i A k) = A
    by_cases e:k = i
    · rw [if_pos e]
    · rw [if_neg e]; exact pk_last (by omega)
theorem pk_m (i k:Nat):(if k = i then 18446744073709551615 else 0) = 0∨(if k = i then 18446744073709551615 else 0) = 18446744073709551615:=by
  by_cases e:k = i
  · exact .inr (if_pos e)
  · exact .inl (if_neg e)
theorem pk_next (F:Nat→Nat) (i k:Nat):pk i (F i) (k+1) = if (if k = i then 18446744073709551615 else 0) = 0 then pk i (F i) k else F k:=by
  show (if k = i then F i else pk i (F i) k) = _
  by_cases e:k = i
  · rw [if_pos e,if_pos e,if_neg (by decide),e]
  · rw [if_neg e,if_neg e,if_pos rfl]
theorem pk_or {i A z k:Nat} (hz:k = i→z = A) (h1:z≤1):pk i A k ||| (z &&& if k = i then 18446744073709551615 else 0) = pk i A (k+1):=by
  show _ = (if k = i then A else pk i A k)
  by_cases e:k = i
  · rw [if_pos e,if_pos e,pk_low (by omega),Nat.zero_or,and_max (by omega)]; exact hz e
  · rw [if_neg e,if_neg e,Nat.and_zero,Nat.or_zero]
theorem pk_lt {i A:Nat} (h:A≤1):∀ k,pk i A k≤1
  | 0=>Nat.zero_le _
  | k+1=>by
    show (if k = i then A else pk i A k)≤1
    split
    · exact h
    · exact pk_lt h k
def ib {p:Nat} (P:Pt p):Nat:=if iv P = true then 1 else 0
theorem ib_le {p:Nat} (P:Pt p):ib P≤1:=by unfold ib; split <;> omega
theorem ib_eq {p:Nat} (P:Pt p):decide (ib P = 1) = iv P:=by unfold ib; cases iv P <;> rfl
section
variable {P:Program} {C:Ctx} {d:Option Tmp} {ty:TypeId} {pos:String} {aft:Array Edge} {g:Option (Nat×Bool)} {st:St} {x y:Operand} {t e:TypeId}
theorem Det.indexSN {s i : Nat} {k : IntKind} {b o l c : Nat} (ht : P.underlying t = some (.slice e)) (he : szOf P e = some s) (hx : evT st.T x = some (.slice (some ⟨b, o, none⟩) l c)) (hy : evT st.T y = some (.int k (i : Int))) (h1 : i < l) :
    Slots P C ⟨d,.indexAddr t x y,ty,pos,aft,g⟩ st (.pointer (some ⟨b,o+i*s,none⟩)):=by
  have:=Det.indexSl (P:=P) (C:=C) (d:=d) (ty:=ty) (pos:=pos) (aft:=aft) (g:=g) (st:=st) ht he hx hy (by omega) (by omega)
  rwa [Int.toNat_natCast] at this
end
theorem pt_zeroK (i A B:Nat):(vec .u64 9 (fun _=>0)++(vec .u64 9 (fun _=>0)++[Value.bool false]):List Value) = ptL (pk i A 0) (pk i B 0) false:=by
  show _ = ptL 0 0 false
  unfold ptL natL; rw [vec_zeros 9]
theorem pt_set0 (X Y X':Nat) (i:Bool):splice (ptL X Y i) 0 (natL X') = ptL X' Y i:=splice_mid (A:=[]) (B:=natL X) (D:=natL Y++[.bool i]) (by simp [ptL]) rfl (by rw [KD,KD]) (by simp [ptL])
theorem pt_set2 (X Y:Nat) (i j:Bool):(ptL X Y i).set 18 (.bool j) = ptL X Y j:=by
  unfold ptL
  rw [List.set_append_right _ _ (by rw [KD]; decide),KD,List.set_append_right _ _ (by rw [KD]; decide),KD]; rfl
theorem c_tabPick (b:Option Nat) (r:TrRow) (l:List Nat) (bt br cap:Nat) (rest:List Value) {wr1 wr2:Bool} (V:Cv) (hok:V.Ok) (E:Nat→Pt V.p) (n i:Nat) (hi:i<n) (hn:n≤16) (w:World) (h0:(trI b r l).holds w) (h1:(Item.blk bt ⟨wr1,[.slice (some ⟨br,0,none⟩) n cap],116,(0,0)⟩).holds w) (h2:(Item.blk br ⟨wr2,tabL (E) n++rest,35,(0,0)⟩).holds w) (n1:Out b r (Item.blk bt ⟨wr1,[.slice (some ⟨br,0,none⟩) n cap],116,(0,0)⟩)) (n2:Out b r (Item.blk br ⟨wr2,tabL (E) n++rest,35,(0,0)⟩)) (hl:l.length≤90000000):Calls Try.prog 34 ([.pointer (some ⟨bt,0,none⟩),trV b,.int .i64 ((i:Nat):Int)]:List Value).toArray w (fun e w'=>TrR w b r (l++List.range n) (.tuple #[ptP (E i),.int .i64 ((0:Nat):Int)]) e w'):=by
  refine calls_tr (N:=75) (rs:=[.cell 6 35,.tmp 7]) b r l [.blk bt ⟨false,[.slice (some ⟨br,0,none⟩) n cap],116,(0,0)⟩,.blk br ⟨false,tabL (E) n++rest,35,(0,0)⟩] Try.func34 rfl Try.ntmps34 Try.results34 (Nb rfl) h0 ⟨h1,h2,trivial⟩ rfl ⟨n1,n2,trivial⟩ ?_
  show LCode _ _ _ ⟨_,_⟩ _
  refine KB (KA ?_)
  refine oS (mk (KX zr_35) (fun b6=>?_))
  refine oP (KZ (v:=.int .i64 ((0:Nat):Int)) rfl) ?_
  refine KC ?_
  refine KB ?_
  refine LCode.block ?_
  refine KB (KA ?_)
  refine oM ?_
  refine oP (KK (Det.eqp Try.underlying40 rfl rfl) (show _ = Value.bool false from rfl)) ?_
  refine oA ?_
  refine KC ?_
  refine KR rfl ?_
  refine KB (KA ?_)
  refine oM ?_
  refine oP (KF (v:=.bool false) rfl rfl (br_f (KAT (b:=0)) (Nat.not_lt_zero _))) ?_
  refine oM ?_
  refine oGM ?_
  refine oGM ?_
  refine oGP (KQ rfl) ?_
  refine oGP (KG (o':=0) Try.underlying116 rfl rfl rfl sz_114 (by decide)) ?_
  refine KAQ rfl rfl (dL rfl (hv:=KL Try.underlying114 rfl (by first|rfl|exact Ke _ _ _ (by omega)|exact Kd _ (by omega)|exact Kb _ (by omega)|exact dv_m _ _ _ (by omega)))) (Nb rfl) ?_
  refine oGP (KAC Try.underlying114 rfl) ?_
  refine oGP (KF (v:=.bool false) rfl rfl (br_f br_geq (by omega))) ?_
  refine oP (Kh rfl rfl) ?_
  refine oA ?_
  refine KC ?_
  refine KR rfl ?_
  refine KT ?_
  refine KB (KA ?_)
  refine oS (mk (KX zr_35) (fun b8=>?_))
  refine KC ?_
  refine KB (KA ?_)
  refine oP (KZ (v:=.int .u64 ((0:Nat):Int)) rfl) ?_
  refine KC ?_
  refine KB ?_
  refine KB (KA ?_)
  refine oM ?_
  refine oP (KQ rfl) ?_
  refine oP (KG (o':=0) Try.underlying116 rfl rfl rfl sz_114 (by decide)) ?_
  refine oD (dL rfl (hv:=KL Try.underlying114 rfl (by first|rfl|exact Ke _ _ _ (by omega)|exact Kd _ (by omega)|exact Kb _ (by omega)|exact dv_m _ _ _ (by omega)))) ?_
  refine oP (KAC Try.underlying114 rfl) ?_
  refine oP (KAB (v:=.int .i64 ((0:Nat):Int)) rfl) ?_
  refine KC ?_
  refine LCode.block ?_
  refine Ks (α:=Nat×TrRow) (fun x=>x.1≤n) (fun x=>⟨[(0,.pointer (some ⟨bt,0,none⟩)),(1,trV b),(2,.int .i64 ((i:Nat):Int)),(6,.pointer (some ⟨b6,0,none⟩)),(8,.pointer (some ⟨b8,0,none⟩)),(9,.int .u64 ((pk i (ib (E i)) x.1:Nat):Int)),(34,.slice (some ⟨br,0,none⟩) n cap),(35,.int .i64 ((n:Nat):Int)),(36,.int .i64 ((x.1:Nat):Int))],[trI b x.2 (l++List.range x.1),.blk b8 ⟨true,ptL (pk i (xv (E i)) x.1) (pk i (yv (E i)) x.1) false,35,(0,0)⟩,.blk b6 ⟨true,vec .u64 9 (fun _=>0)++(vec .u64 9 (fun _=>0)++[Value.bool false]),35,(0,0)⟩,.blk bt ⟨false,[.slice (some ⟨br,0,none⟩) n cap],116,(0,0)⟩,.blk br ⟨false,tabL (E) n++rest,35,(0,0)⟩]⟩) (fun x=>n-x.1) ((0,r)) (Nat.zero_le _) (KAO (Sub.cells (b:=b8) (cs':=ptL (pk i (xv (E i)) 0) (pk i (yv (E i)) 0) false) (by repeat (first|exact Sh _|apply St_)) (pt_zeroK _ _ _)) (by dsimp only [List.range_zero]; rw [List.append_nil]; exact Kq ⟨rfl,rfl,rfl,rfl,rfl,rfl,rfl,rfl,rfl,trivial⟩ (by repeat (first|exact Sel.nil _|refine Sel.cons (by repeat (first|exact Ph _|apply Pt_)) ?_)))) ?_
  intro x hx
  refine KB (KA ?_)
  refine oP (KF rfl rfl (KAT)) ?_
  refine KC ?_
  refine KB ?_
  first|refine KS rfl (fun h37=>?_) (fun h37=>?_)|refine KU rfl (fun h37=>?_) (fun h37=>?_)
  ·
    have h37:x.1<n:=h37
    refine KT ?_
    refine KB ?_
    refine LCode.block ?_
    refine KB (KA ?_)
    refine oM ?_
    refine oP (Det.indexSN Try.underlying114 sz_35 rfl rfl (by omega)) ?_
    refine oD (dL rfl (hv:=by exact tab_load E h37 rest)) ?_
    refine oS (mk (KX zr_35) (fun b11=>?_))
    refine oA ?_
    refine KV rfl (sA rfl rfl sz_35 (by exact Kg _ _ _) (hl:=by exact KN _ _ _) (h:=?_))
    refine KC ?_
    refine KB (KA ?_)
    refine oM ?_
    refine oM ?_
    refine KV rfl (LStepW.callT (first:=[]) (r:=x.2) (l:=l++List.range x.1) (l':=l++List.range (x.1+1)) rfl en_83 rfl (Nb rfl) (by repeat (first|exact Pick.head _|apply Pick.tail)) (fun w hw hn=>by rw [List.range_succ,← List.append_assoc]; exact c_trIndex b x.2 _ x.1 w (mC hw) (by rw [List.length_append,List.length_range]; omega)) ?_)
    intro r1
    refine KC ?_
    refine KB (KA ?_)
    refine oM ?_
    refine oP (KAE Try.underlying3 Try.underlying30 rfl (by first|omega|exact Nat.lt_trans (D.limb_lt _ _) (by decide))) ?_
    refine oM ?_
    refine oP (KAE Try.underlying3 Try.underlying30 rfl (by first|omega|exact Nat.lt_trans (D.limb_lt _ _) (by decide))) ?_
    refine oS (cF rfl en_84 rfl (fun w hw=>c_mEqual x.1 i w (by omega) (by omega)) ?_)
    refine oA ?_
    refine KC ?_
    refine KB ?_
    refine rD [13,15] ?_
    refine aM 0 ?_
    refine aP 1 rfl (KG (o':=0) Try.underlying35 rfl rfl rfl sz_33 (by decide)) ?_
    refine aD 2 rfl (dL rfl (hv:=by exact KAF Try.underlying33 rfl sz_33 rfl (KD _))) ?_
    refine aP 3 rfl (KG (o':=0) Try.underlying35 rfl rfl rfl sz_33 (by decide)) ?_
    refine aD 4 rfl (dL rfl (hv:=by exact KAF Try.underlying33 rfl sz_33 rfl (KD _))) ?_
    refine aM 6 ?_
    refine aP 7 rfl (KG (o':=9) Try.underlying35 rfl rfl rfl sz_33 (by decide)) ?_
    refine aP 9 rfl (KG (o':=9) Try.underlying35 rfl rfl rfl sz_33 (by decide)) ?_
    refine aD 10 rfl (dL rfl (hv:=by exact pt_ld1 _ _ _ _ _ _)) ?_
    refine LAny.takeW [11,13,14,15] 8 rfl (by kernel_rfl) (Nb rfl) (dL rfl (hv:=by exact pt_ld1 _ _ _ _ _ _)) ?_
    refine aO 5 rfl (cF rfl en_85 rfl (fun w hw=>c_mSelect (if x.1 = i then 18446744073709551615 else 0) (xv (E x.1)) (pk i (xv (E i)) x.1) (pk i (xv (E i)) (x.1+1)) w (pk_m _ _) (pk_next (fun j=>xv (E j)) i x.1)) ?_)
    refine aP 12 rfl (KG (o':=0) Try.underlying35 rfl rfl rfl sz_33 (by decide)) ?_
    refine aO 11 rfl (cF rfl en_85 rfl (fun w hw=>c_mSelect (if x.1 = i then 18446744073709551615 else 0) (yv (E x.1)) (pk i (yv (E i)) x.1) (pk i (yv (E i)) (x.1+1)) w (pk_m _ _) (pk_next (fun j=>yv (E j)) i x.1)) ?_)
    refine aL 13 rfl (Kz rfl rfl rfl sz_33 (KD _) (Ka _) (by repeat (first|exact Sh _|apply St_)) (by simp only [KN]; decide) (pt_set0 _ _ _ _) (by simp) ?_)
    refine aP 14 rfl (KG (o':=9) Try.underlying35 rfl rfl rfl sz_33 (by decide)) ?_
    refine aL 15 rfl (Kz rfl rfl rfl sz_33 (KD _) (Ka _) (by repeat (first|exact Sh _|apply St_)) (by simp only [KN]; decide) (pt_set1 _ _ _ _) (by simp) ?_)
    refine aE ?_
    refine KB (KA ?_)
    refine oP (KZ (v:=.int .u64 ((0:Nat):Int)) rfl) ?_
    refine KC ?_
    refine KB ?_
    refine KB ?_
    cases hiv:iv (E x.1)
    ·
      refine KA ?_
      refine oP (KG (o':=18) Try.underlying35 rfl rfl rfl sz_4 (by decide)) ?_
      refine oD (dL rfl (hv:=KL Try.underlying4 rfl (by exact pt_gt _ _ _))) ?_
      refine KC ?_
      refine KR rfl ?_
      refine KT ?_
      refine KA ?_
      refine oM ?_
      refine oM ?_
      refine oM ?_
      refine oP (KF rfl rfl (br_and64 (a:=0) (b:=(if x.1 = i then 18446744073709551615 else 0)) (by decide) (by split <;> decide))) ?_
      refine oP (KK (KF rfl rfl (br_or64 (a:=pk i (ib (E i)) x.1) (b:=0 &&& (if x.1 = i then 18446744073709551615 else 0)) (Nat.lt_of_le_of_lt (pk_lt (ib_le _) _) (by decide)) (Nat.lt_of_le_of_lt Nat.and_le_left (by decide)))) (vi (b:=pk i (ib (E i)) (x.1+1)) (pk_or (fun e=>by rw [← e]; unfold ib; rw [hiv]; rfl) (by decide)))) ?_
      refine oA ?_
      refine KC ?_
      refine KA ?_
      refine oP (KF rfl rfl (Kv (b:=1) (by omega))) ?_
      refine oM ?_
      refine KC ?_
      exact ⟨(x.1+1,r1),by dsimp only; omega,by dsimp only; omega,Kq ⟨rfl,rfl,rfl,rfl,rfl,rfl,rfl,rfl,rfl,trivial⟩ (by repeat (first|exact Sel.nil _|refine Sel.cons (by repeat (first|exact Ph _|apply Pt_)) ?_))⟩
    ·
      refine KA ?_
      refine oP (KG (o':=18) Try.underlying35 rfl rfl rfl sz_4 (by decide)) ?_
      refine oD (dL rfl (hv:=KL Try.underlying4 rfl (by exact pt_gt _ _ _))) ?_
      refine KC ?_
      refine Kf rfl ?_
      refine KA ?_
      refine oP (KZ (v:=.int .u64 ((1:Nat):Int)) rfl) ?_
      refine KC ?_
      refine KA ?_
      refine oM ?_
      refine oM ?_
      refine oM ?_
      refine oP (KF rfl rfl (br_and64 (a:=1) (b:=(if x.1 = i then 18446744073709551615 else 0)) (by decide) (by split <;> decide))) ?_
      refine oP (KK (KF rfl rfl (br_or64 (a:=pk i (ib (E i)) x.1) (b:=1 &&& (if x.1 = i then 18446744073709551615 else 0)) (Nat.lt_of_le_of_lt (pk_lt (ib_le _) _) (by decide)) (Nat.lt_of_le_of_lt Nat.and_le_left (by decide)))) (vi (b:=pk i (ib (E i)) (x.1+1)) (pk_or (fun e=>by rw [← e]; unfold ib; rw [hiv]; rfl) (by decide)))) ?_
      refine oA ?_
      refine KC ?_
      refine KA ?_
      refine oP (KF rfl rfl (Kv (b:=1) (by omega))) ?_
      refine oM ?_
      refine KC ?_
      exact ⟨(x.1+1,r1),by dsimp only; omega,by dsimp only; omega,Kq ⟨rfl,rfl,rfl,rfl,rfl,rfl,rfl,rfl,rfl,trivial⟩ (by repeat (first|exact Sel.nil _|refine Sel.cons (by repeat (first|exact Ph _|apply Pt_)) ?_))⟩
  ·
    have h37:¬ x.1<n:=h37
    refine Kp ?_
    refine KB ?_
    have hx1n:x.1 = n:=by omega
    rw [hx1n,pk_last hi,pk_last hi,pk_last hi]
    refine KA ?_
    refine oM ?_
    refine oP (KK (KF rfl rfl (br_eql (b:=1))) (congrArg Value.bool (ib_eq (E i)))) ?_
    refine oP (KG (o':=18) Try.underlying35 rfl rfl rfl sz_4 (by decide)) ?_
    refine KV rfl (Kj rfl rfl rfl sz_4 (by repeat (first|exact Sh _|apply St_)) (by rw [KN]; decide) (by exact pt_set2 _ _ _ _) (by simp) ?_)
    refine KC ?_
    refine KB (KA ?_)
    refine oD (dL rfl (hv:=by exact KI Try.underlying35 rfl sz_35)) ?_
    refine KV rfl (sA rfl rfl sz_35 (by exact Kg _ _ _) (hl:=by exact KN _ _ _) (h:=?_))
    refine oP (KZ (v:=.int .i64 ((0:Nat):Int)) rfl) ?_
    refine KC (KM ?_)
    exact ⟨[_,_],.cons ⟨_,_,_,rfl,(by repeat (first|exact Mh _|apply Mt)),by exact KI Try.underlying35 rfl sz_35⟩ (.cons rfl .nil),fun a w' hr=>hr.tr (by repeat (first|exact Mh _|apply Mt))⟩
theorem c_tabPick_bad (b:Option Nat) (bt br cap n:Nat) {wr1:Bool} (i:Int) (w:World) (h1:(Item.blk bt ⟨wr1,[.slice (some ⟨br,0,none⟩) n cap],116,(0,0)⟩).holds w) (hi:i<0∨(n:Int)≤i):Calls Try.prog 34 ([.pointer (some ⟨bt,0,none⟩),trV b,.int .i64 i]:List Value).toArray w (fun e w'=>e = .returned (.tuple #[ptV 0 0 false,.int .i64 ((1603:Nat):Int)])∧Below w.heap.size w w'):=by
  refine Ki (N:=75) (rs:=[.cell 6 35,.tmp 7]) [.blk bt ⟨false,[.slice (some ⟨br,0,none⟩) n cap],116,(0,0)⟩] Try.func34 rfl Try.ntmps34 Try.results34 (Nb rfl) ⟨h1,trivial⟩ rfl ?_
  show LCode _ _ _ ⟨_,_⟩ _
  refine KB (KA ?_)
  refine oS (mk (KX zr_35) (fun b6=>?_))
  refine oP (KZ (v:=.int .i64 ((0:Nat):Int)) rfl) ?_
  refine KC ?_
  refine KB ?_
  refine LCode.block ?_
  refine KB (KA ?_)
  refine oM ?_
  refine oP (KK (Det.eqp Try.underlying40 rfl rfl) (show _ = Value.bool false from rfl)) ?_
  refine oA ?_
  refine KC ?_
  refine KR rfl ?_
  refine KB ?_
  rcases (show i<0∨(0≤i∧(n:Int)≤i) by omega) with g1|⟨g1,g2⟩
  ·
    refine KA ?_
    refine oM ?_
    refine oP (KF (v:=.bool true) rfl rfl (by simp [Kw]; omega)) ?_
    refine oM ?_
    refine oK ?_
    refine oK ?_
    refine oK ?_
    refine oK ?_
    refine oK ?_
    refine oK ?_
    refine oK ?_
    refine oP (Kn rfl rfl) ?_
    refine oA ?_
    refine KC ?_
    refine Kf rfl ?_
    refine KB (KA ?_)
    refine oP (KK (Ky pl_35 zr_35 rfl rfl) (show _ = ptV 0 0 false from pt_zero)) ?_
    refine KV rfl (sA rfl rfl sz_35 (by exact Kg _ _ _) (hl:=by simp [KN,KH]) (h:=?_))
    refine oP (KZ (v:=.int .i64 ((1603:Nat):Int)) rfl) ?_
    refine KC (KM ?_)
    refine ⟨[_,_],.cons ⟨_,_,_,rfl,(by repeat (first|exact Mh _|apply Mt)),by exact KI Try.underlying35 rfl sz_35⟩ (.cons rfl .nil),fun a w' hr=>⟨?_,hr.fr.below⟩⟩
    rfl
  ·
    refine KA ?_
    refine oM ?_
    refine oP (KF (v:=.bool false) rfl rfl (by simp [Kw]; omega)) ?_
    refine oM ?_
    refine oGM ?_
    refine oGM ?_
    refine oGP (KQ rfl) ?_
    refine oGP (KG (o':=0) Try.underlying116 rfl rfl rfl sz_114 (by decide)) ?_
    refine KAQ rfl rfl (dL rfl (hv:=KL Try.underlying114 rfl (by first|rfl|exact Ke _ _ _ (by omega)|exact Kd _ (by omega)|exact Kb _ (by omega)|exact dv_m _ _ _ (by omega)))) (Nb rfl) ?_
    refine oGP (KAC Try.underlying114 rfl) ?_
    refine oGP (KF (v:=.bool true) rfl rfl (by simp [Kw]; omega)) ?_
    refine oP (Kh rfl rfl) ?_
    refine oA ?_
    refine KC ?_
    refine Kf rfl ?_
    refine KB (KA ?_)
    refine oP (KK (Ky pl_35 zr_35 rfl rfl) (show _ = ptV 0 0 false from pt_zero)) ?_
    refine KV rfl (sA rfl rfl sz_35 (by exact Kg _ _ _) (hl:=by simp [KN,KH]) (h:=?_))
    refine oP (KZ (v:=.int .i64 ((1603:Nat):Int)) rfl) ?_
    refine KC (KM ?_)
    refine ⟨[_,_],.cons ⟨_,_,_,rfl,(by repeat (first|exact Mh _|apply Mt)),by exact KI Try.underlying35 rfl sz_35⟩ (.cons rfl .nil),fun a w' hr=>⟨?_,hr.fr.below⟩⟩
    rfl
end Go.Proofs.Ytlmiolnccgjjjaa
set_option linter.unusedVariables false
set_option linter.unusedSimpArgs false
set_option maxRecDepth 20000
namespace Go.Proofs.Ytlmiolnccgjjjaa
open Go Go.RowKit
open Grp
theorem Brings.one {w w':World} {b:Nat} {B:Blk} (hb:Below w.heap.size w w') (h1:(Item.blk b B).holds w') (n1:w.heap.size≤b):Brings w [] [.blk b B] w':=by
  have key:∀ x,x∈[Item.blk b B]→∀ k,k∈x.fp→w.heap.size≤k:=fun x hx k hk=>by
    obtain rfl:x = _:=by simpa using hx
    obtain rfl:k = b:=by simpa [Item.fp] using hk
    exact n1
  exact ⟨hb, fun x hx => (by obtain rfl : x = _ := by simpa using hx
                             exact h1),fun x hx k hk=>.inl (key x hx k hk),fun x hx _=>key x hx,List.pairwise_singleton _ _⟩
end Go.Proofs.Ytlmiolnccgjjjaa
set_option linter.unusedVariables false
set_option linter.unusedSimpArgs false
set_option maxRecDepth 20000
namespace Go.Proofs.Ytlmiolnccgjjjaa
open Go Go.RowKit
open Grp
theorem c_tabPickN (bt br cap:Nat) (rest:List Value) {wr1 wr2:Bool} (V:Cv) (hok:V.Ok) (E:Nat→Pt V.p) (n i:Nat) (R:Pt V.p) (w:World) (hi:i<n) (hn:n≤16) (h1:(Item.blk bt ⟨wr1,[.slice (some ⟨br,0,none⟩) n cap],116,(0,0)⟩).holds w) (h2:(Item.blk br ⟨wr2,tabL (E) n++rest,35,(0,0)⟩).holds w) (hR:E i = R):Calls Try.prog 34 ([.pointer (some ⟨bt,0,none⟩),.pointer none,.int .i64 ((i:Nat):Int)]:List Value).toArray w (fun e w'=>e = .returned (.tuple #[ptP R,.int .i64 ((0:Nat):Int)])∧Below w.heap.size w w') :=
  hR ▸ (c_tabPick none none [] bt br cap rest V hok E n i hi hn w (trI_nil _ _) h1 h2 (Out.nil _ _) (Out.nil _ _) (Nat.zero_le _)).mono fun e w' h=>TrR.nil h
end Go.Proofs.Ytlmiolnccgjjjaa
set_option linter.unusedVariables false
set_option linter.unusedSimpArgs false
set_option maxRecDepth 20000
namespace Go.Proofs.Ytlmiolnccgjjjaa
open Go Go.RowKit
open Grp
theorem c_r_GP (Q:CQ) (V:Cv) (w:World) (hc:(crvI Q V).holds w) (hok:V.Ok):Calls Try.prog 31 ([.agg (crvL Q V).toArray]:List Value).toArray w (fun e w'=>Num2R w (crvI Q V).fp (xv V.G) (yv V.G) (fun u v=>rpV u v (iv V.G)) e w'):=by
  rw [xG hok,yG hok]
  exact c_r_G Q V w hc
theorem c_r_OnB (Q:CQ) (V:Cv) (q r:NV) (X Y:Nat) (i b:Bool) (w:World) (hc:(crvI Q V).holds w) (hok:V.Ok) (hq:(numT q X).holds w) (hr:(numT r Y).holds w) (hX:D.nw X≤1000) (hY:D.nw Y≤1000) (hb:onB V.p V.a V.b X Y i = b):Calls Try.prog 54 ([.agg (crvL Q V).toArray,rpV (numV q X) (numV r Y) i]:List Value).toArray w (fun e w'=>e = .returned (.bool b)∧Below w.heap.size w w'):=by
  have:=c_r_On Q V q r X Y i w hc hok hq hr hX hY
  rwa [hb] at this
theorem c_r_OnP (Q:CQ) (V:Cv) (q r:NV) (P:Pt V.p) (w:World) (hc:(crvI Q V).holds w) (hok:V.Ok) (hq:(numT q (xv P)).holds w) (hr:(numT r (yv P)).holds w) (hP:On V.A V.B P):Calls Try.prog 54 ([.agg (crvL Q V).toArray,rpV (numV q (xv P)) (numV r (yv P)) (iv P)]:List Value).toArray w (fun e w'=>e = .returned (.bool true)∧Below w.heap.size w w') :=
  c_r_OnB Q V q r _ _ _ true w hc hok hq hr (Nat.le_trans (nw_521 (Nat.lt_trans (xv_lt P) hok.bounds.2.1)) (by decide)) (Nat.le_trans (nw_521 (Nat.lt_trans (yv_lt P) hok.bounds.2.1)) (by decide)) (onB_on hP)
theorem c_r_OutP (V:Cv) (q r:NV) (P:Pt V.p) (w:World) (hq:(numT q (xv P)).holds w) (hr:(numT r (yv P)).holds w):Calls Try.prog 30 ([rpV (numV q (xv P)) (numV r (yv P)) (iv P)]:List Value).toArray w (fun e w'=>e = .returned (ptP P)∧Below w.heap.size w w'):=c_r_Out q r (xv P) (yv P) (iv P) w hq hr
theorem c_r_InP (V:Cv) (hok:V.Ok) (P:Pt V.p) (w:World):Calls Try.prog 44 ([ptP P]:List Value).toArray w (fun e w'=>Num2R w [] (xv P) (yv P) (fun u v=>rpV u v (iv P)) e w'):=c_r_In (xv P) (yv P) (iv P) w (pt_w9 hok P).1 (pt_w9 hok P).2
end Go.Proofs.Ytlmiolnccgjjjaa
set_option linter.unusedVariables false
set_option linter.unusedSimpArgs false
set_option maxRecDepth 20000
namespace Go.Proofs.Ytlmiolnccgjjjaa
open Go Go.RowKit
open Grp
theorem c_awake16  (w:World)  : Calls Try.prog 28 ([]:List Value).toArray w (fun e w'=>e = .returned (.bool true)∧Below w.heap.size w w'):=by
  obtain ⟨V,hV⟩:∃ V,V = cv13:=⟨_,rfl⟩
  have h:cvI 13 = some V:=by rw [hV]; rfl
  obtain ⟨hok,hid⟩:=cvI_ok h
  have hn13:V.n = 223:=by rw [hV]; rfl
  obtain ⟨hb5,hb521,hba,hbb,hbx,hby,hbn,hbo,hbo2,hbb1,hbn1⟩:=hok.bounds
  have hsz:=hok.sz
  have hsp:=hsz.p
  have hsa:=hsz.a
  have hsb:=hsz.b
  have hp0:V.p≠0:=by omega
  have hpp:0<V.p:=by omega
  have hm17:∀ k,D.nw (k%V.p)≤17:=fun k=>Nat.le_trans (D.nw_mono (Nat.le_of_lt (Nat.mod_lt k hpp))) hsp
  refine Ki (N:=78) (rs:=[.tmp 0]) [] Try.func28 rfl Try.ntmps28 Try.results28 (Nb rfl) trivial rfl ?_
  show LCode _ _ _ ⟨_,_⟩ _
  refine KB (KA ?_)
  refine oA ?_
  refine KC ?_
  refine KB (KA ?_)
  refine oS (LStep.callZ (Post:=fun v its=>∃ Q,v = .tuple #[.agg (crvL Q V).toArray,.bool true]∧its = [crvI Q V]) (first:=[]) rfl en_29 rfl (Nb rfl) (fun w1 hw hs=>(c_r_Get _ V w1 h).mono fun e w' ⟨Q,h1,h2,h3,h4⟩=>⟨_,_,⟨Q,rfl,rfl⟩,h1,Brings.nums h4 (by intro x hx; simp at hx; subst hx; exact h2) (by intro x hx; simp at hx; subst hx; rfl) (by intro x hx k hk; simp at hx; subst hx; exact .inl (h3 k hk))⟩) ?_)
  rintro _ _ ⟨Q,rfl,rfl⟩
  refine oM ?_
  refine oP (KW rfl rfl) ?_
  refine oP (KW rfl rfl) ?_
  refine oS (mk (KX zr_26) (fun b1=>?_))
  refine KV rfl (sA rfl rfl sz_26 (by repeat (first|exact KO|refine KJ rfl ?_)) (hl:=by rfl) (h:=?_))
  refine oA ?_
  refine KC ?_
  refine KB (KA ?_)
  refine oD (dL rfl (hv:=by exact KI Try.underlying26 rfl sz_26)) ?_
  refine oS (cZ rfl en_31 rfl (fun w hw hs=>(c_r_GP Q V w (mC hw) hok).mono fun e w' h=>Num2R.q (Old.one (x:=crvI Q V) (by repeat (first|exact Mh _|apply Mt)) rfl) hs h) ?_)
  rintro _ _ ⟨qga,qgb,rfl,rfl,hnga,hngb⟩
  refine oS (cF rfl en_30 rfl (fun w hw=>c_r_OutP V qga qgb (V.G) w (mC hw) (mC hw)) ?_)
  refine oS (mk (KX zr_35) (fun b3=>?_))
  refine KV rfl (sA rfl rfl sz_35 (by exact Kg _ _ _) (hl:=by exact KN _ _ _) (h:=?_))
  refine KC ?_
  refine KB (KA ?_)
  refine oD (dL rfl (hv:=by exact KI Try.underlying35 rfl sz_35)) ?_
  refine oS (cC rfl en_32 rfl (fun w hw=>bringsC (c_tabNew 13 V (V.G) 4 w h hok.on (by omega) (by omega)) _) ?_)
  rintro _ _ ⟨bt0,br0,cap0,rest0,rfl,rfl⟩
  refine oM ?_
  refine oP (KW rfl rfl) ?_
  refine oP (KW rfl rfl) ?_
  refine oA ?_
  refine oA ?_
  refine KC ?_
  refine KB ?_
  refine KB (KA ?_)
  refine oM ?_
  refine oS (cF rfl en_33 rfl (fun w hw=>c_Num _ w) ?_)
  refine oP (KF (v:=.bool false) rfl rfl (br_f (br_neq (b:=0)) (by first|exact (fun e=>e rfl)|(simp; done)|omega))) ?_
  refine oM ?_
  refine oGM ?_
  refine oGP (KK (Det.eqp Try.underlying40 rfl rfl) (show _ = Value.bool false by rfl)) ?_
  refine oP (Kh rfl rfl) ?_
  refine KC ?_
  refine KR rfl ?_
  refine KT ?_
  refine KB (KA ?_)
  refine oS (cC rfl en_36 rfl (fun w hw=>bringsC (c_trNew w) _) ?_)
  rintro _ _ ⟨tb0,rfl,rfl⟩
  refine oA ?_
  refine KC ?_
  refine KB (KA ?_)
  refine oM ?_
  refine oM ?_
  refine KV rfl (LStepW.callT (first:=[]) (b:=some tb0) (r:=none) (l:=[]) (l':=[]++List.range 4) rfl en_34 rfl (Nb rfl) (by repeat (first|exact Pick.head _|apply Pick.tail)) (fun w hw hn=>c_tabPick (some tb0) none ([]) bt0 br0 cap0 rest0 V hok (mulE V V.G) 4 1 (by decide) (by omega) w (mC hw) (mC hw) (mC hw) (hn _ (by repeat (first|exact Mh _|apply Mt))) (hn _ (by repeat (first|exact Mh _|apply Mt))) (by simp)) ?_)
  intro r1
  refine oM ?_
  refine oP (KW rfl rfl) ?_
  refine oP (KW rfl rfl) ?_
  refine oS (mk (KX zr_35) (fun b7=>?_))
  refine KV rfl (sA rfl rfl sz_35 (by exact Kg _ _ _) (hl:=by exact KN _ _ _) (h:=?_))
  refine oA ?_
  refine KC ?_
  refine KB (KA ?_)
  refine oM ?_
  refine oM ?_
  refine oS (cF rfl en_34 rfl (fun w hw=>c_tabPick_bad (some tb0) bt0 br0 cap0 4 4 w (mC hw) (.inr (by decide))) ?_)
  refine oM ?_
  refine oP (KW rfl rfl) ?_
  refine oP (KW rfl rfl) ?_
  refine oS (mk (KX zr_35) (fun b9=>?_))
  refine KV rfl (sA rfl rfl sz_35 (by exact Kg _ _ _) (hl:=by exact KN _ _ _) (h:=?_))
  refine oA ?_
  refine KC ?_
  refine KB (KA ?_)
  refine oD (dL rfl (hv:=by exact KI Try.underlying35 rfl sz_35)) ?_
  refine oS (cF rfl en_32 rfl (fun w hw=>c_tabNew_size 13 V V.G 17 w h hok.on (.inr (by decide))) ?_)
  refine oM ?_
  refine oP (KW rfl rfl) ?_
  refine oP (KW rfl rfl) ?_
  refine oA ?_
  refine oA ?_
  refine KC ?_
  refine KB (KA ?_)
  refine oD (dL rfl (hv:=by exact KI Try.underlying35 rfl sz_35)) ?_
  refine oD (dL rfl (hv:=by exact KI Try.underlying35 rfl sz_35)) ?_
  refine oP (KK (Det.eqa (by kernel_rfl) (fun w=>eq_ptP_t hok (P:=mulE V V.G 1) (Q:=V.G) (pmul_one hok.fld hok.on) 10000 (by decide) w) rfl rfl) (show _ = Value.bool true by rfl)) ?_
  refine oM ?_
  refine oGM ?_
  refine oGS (cF rfl en_33 rfl (fun w hw=>c_Num _ w) ?_)
  refine oGP (KF (v:=.bool true) rfl rfl (br_t (br_eql (b:=0)) (by first|rfl|assumption|omega|(simp; done)))) ?_
  refine oP (Kn rfl rfl) ?_
  refine oM ?_
  refine oGM ?_
  refine oGS (cF rfl en_33 rfl (fun w hw=>c_Num _ w) ?_)
  refine oGP (KF (v:=.bool true) rfl rfl (br_t (br_eql (b:=1603)) (by first|rfl|assumption|omega|(simp; done)))) ?_
  refine oP (Kn rfl rfl) ?_
  refine oM ?_
  refine oGM ?_
  refine oGS (cF rfl en_33 rfl (fun w hw=>c_Num _ w) ?_)
  refine oGP (KF (v:=.bool true) rfl rfl (br_t (br_eql (b:=1602)) (by first|rfl|assumption|omega|(simp; done)))) ?_
  refine oP (Kn rfl rfl) ?_
  refine oM ?_
  refine oGM ?_
  refine oGS (cF rfl en_35 rfl (fun w hw=>c_tabSize bt0 br0 4 cap0 w (mC hw)) ?_)
  refine oGP (KF (v:=.bool true) rfl rfl (br_t (br_eql (b:=4)) (by first|rfl|assumption|omega|(simp; done)))) ?_
  refine oP (Kn rfl rfl) ?_
  refine oM ?_
  refine oGM ?_
  refine oGS (cF rfl en_37 rfl (fun w hw=>c_trLen tb0 r1 ([]++List.range 4) w (mC hw)) ?_)
  refine oGP (KF (v:=.bool true) rfl rfl (br_t (br_eql (b:=4)) (by first|rfl|assumption|omega|(simp; done)))) ?_
  refine oP (Kn rfl rfl) ?_
  refine oA ?_
  refine KC (KM ?_)
  refine ⟨[_],.cons rfl .nil,fun a w' hr=>⟨?_,hr.fr.below⟩⟩
  rfl
end Go.Proofs.Ytlmiolnccgjjjaa
set_option linter.unusedVariables false
set_option linter.unusedSimpArgs false
set_option maxRecDepth 20000
namespace Go.Proofs.Ytlmiolnccgjjjaa
open Go Go.RowKit
def evFp (q:TrRow):List Nat:=match q with
  | none=>[]
  | some r=>[r.1]
def evQ (q:TrRow) (l:List Nat) (w:World):Prop:=match q with
  | none=>l = []
  | some r=>w.heap[r.1]? = some (.cells (evsL l++r.2.2).toArray 83 (0,0))
def evI (q:TrRow) (l:List Nat):Item:=.own (evFp q) (evQ q l)
def evF (q:TrRow) (l:List Nat):Item:=.fact (evFp q) (evQ q l)
theorem evI_nil (w:World):(evI none []).holds w:=⟨fun k hk=>(by cases hk),fun _ _=>rfl⟩
theorem evI_of {b cap:Nat} {rest:List Value} {l:List Nat} {w:World} (h:w.heap[b]? = some (.cells (evsL l++rest).toArray 83 (0,0))):(evI (some (b,cap,rest)) l).holds w:=by
  refine ⟨fun k hk=>?_,fun w' ha=>(ha b (.head _)).trans h⟩
  obtain rfl:k = b:=by simpa [evFp] using hk
  exact lt_of_get h
theorem evI_P {q:TrRow} {l:List Nat} {w:World} (h:(evI q l).holds w):evQ q l w:=h.2 w (Agree.refl _ _)
theorem ev_at (l:List Nat) {i k:Nat} (h:l[i]? = some k):∃ post,evsL l = evsL (l.take i)++([.int .i64 ((2:Nat):Int),.int .i64 ((k:Nat):Int)]++post):=by
  induction l generalizing i with
  | nil=>simp at h
  | cons a l ih =>
    cases i with
    | zero =>
      obtain rfl:a = k:=by simpa using h
      exact ⟨evsL l,rfl⟩
    | succ i =>
      obtain ⟨post,hp⟩:=ih (i:=i) (by simpa using h)
      refine ⟨post,?_⟩
      show [Value.int .i64 ((2:Nat):Int),.int .i64 ((a:Nat):Int)]++evsL l = ([Value.int .i64 ((2:Nat):Int),.int .i64 ((a:Nat):Int)]++evsL (l.take i))++_
      rw [hp,List.append_assoc]
theorem evI_new {q:TrRow} {l:List Nat} {w w':World} (hb:Below w.heap.size w w') (h:(evI q l).holds w') (hn:∀ k,k∈evFp q→w.heap.size≤k):Brings w [] [evI q l] w' :=
  ⟨hb, fun x hx => (by obtain rfl : x = _ := by simpa using hx
                       exact h),fun x hx k hk=>.inl (by
    obtain rfl:x = _:=by simpa using hx
    exact hn k hk),fun x hx _ k hk=>(by
    obtain rfl:x = _:=by simpa using hx
    exact hn k hk),List.pairwise_singleton _ _⟩
theorem bringsC0 {P:Program} {f:FuncId} {a:Array Value} {w:World} {Q:Value→List Item→Prop} (h:Calls P f a w (fun e w'=>∃ v its,Q v its∧e = .returned v∧Brings w [] its w')) (H:List Item):Calls P f a w (fun e w'=>∃ v its,Q v its∧e = .returned v∧Brings w H its w') :=
  h.mono fun e w' ⟨v,its,h1,h2,h3⟩=>⟨v,its,h1,h2,h3.more (fun x hx=>by cases hx)⟩
theorem evsL_one:∀ l,AllOne (evsL l)
  | []=>fun c h=>by cases h
  | k :: l=>fun c h=>by
    have h':c = .int .i64 ((2:Nat):Int)∨c = .int .i64 ((k:Nat):Int)∨c∈evsL l:=by simpa [evsL] using h
    rcases h' with rfl|rfl|h'
    · rfl
    · rfl
    · exact evsL_one l c h'
theorem row_ev0:((Array.range (0*2)).map fun i=>(Value.agg ([.int .i64 ((0:Nat):Int),.int .i64 ((0:Nat):Int)]:List Value).toArray).cells[i%(Value.agg ([.int .i64 ((0:Nat):Int),.int .i64 ((0:Nat):Int)]:List Value).toArray).cells.size]!) = ([]:List Value).toArray:=by kernel_rfl
section
variable {P:Program} {C:Ctx} {d:Option Tmp} {ty:TypeId} {pos:String} {aft:Array Edge} {g:Option (Nat×Bool)} {st:St} {x y:Operand} {t e:TypeId}
theorem Det.indexSM {s i : Nat} {k : IntKind} {b o l c : Nat} (ht : P.underlying t = some (.slice e)) (he : szOf P e = some s) (hx : evT st.T x = some (.slice (some ⟨b, o, none⟩) l c)) (hy : evT st.T y = some (.int k (i : Int))) (h1 : i < l) :
    Slots P C ⟨d,.indexAddr t x y,ty,pos,aft,g⟩ st (.pointer (some ⟨b,o+i*s,none⟩)):=by
  have:=Det.indexSl (P:=P) (C:=C) (d:=d) (ty:=ty) (pos:=pos) (aft:=aft) (g:=g) (st:=st) ht he hx hy (by omega) (by omega)
  rwa [Int.toNat_natCast] at this
end
def evVal (k:Nat):Value:=.agg ([.int .i64 ((2:Nat):Int),.int .i64 ((k:Nat):Int)]:List Value).toArray
theorem ev_load {wr:Bool} {e:TypeId} {fz:Nat×Nat} (l:List Nat) {i k:Nat} (h:l[i]? = some k) (rest:List Value):LoadV Try.prog 83 ⟨wr,evsL l++rest,e,fz⟩ (0+i*2) (evVal k):=by
  obtain ⟨post,hp⟩:=ev_at l h
  have hi:i<l.length:=by
    rcases Nat.lt_or_ge i l.length with h'|h'
    · exact h'
    · rw [List.getElem?_eq_none h'] at h; cases h
  exact LoadV.mid (pre:=evsL (l.take i)) (cs:=[.int .i64 ((2:Nat):Int),.int .i64 ((k:Nat):Int)]) (post:=post++rest) Try.underlying83 rfl sz_83 (by show evsL l++rest = _; rw [hp]; simp only [List.append_assoc]) (by rw [evsL_length,List.length_take,Nat.min_eq_left (Nat.le_of_lt hi)]; omega) rfl
theorem eq_ev (x y:Nat):EqD 2 Try.prog 83 (evVal x) (evVal y) (decide (x = y)):=by
  have h:=EqD.struct (fs:=[_,_]) Try.underlying83 (by kernel_rfl) (EqFs.cons (by decide) (PartOf.one Try.underlying3 rfl (show ([.int .i64 ((2:Nat):Int),.int .i64 ((x:Nat):Int)]:List Value)[0]? = some _ from rfl)) (PartOf.one Try.underlying3 rfl (show ([.int .i64 ((2:Nat):Int),.int .i64 ((y:Nat):Int)]:List Value)[0]? = some _ from rfl)) (EqD.int Try.underlying3)
    (EqFs.cons (by decide) (PartOf.one Try.underlying3 rfl (show ([.int .i64 ((2:Nat):Int),.int .i64 ((x:Nat):Int)]:List Value)[1]? = some _ from rfl)) (PartOf.one Try.underlying3 rfl (show ([.int .i64 ((2:Nat):Int),.int .i64 ((y:Nat):Int)]:List Value)[1]? = some _ from rfl)) (EqD.int Try.underlying3) EqFs.nil))
  have e:((((2:Nat):Int) == ((2:Nat):Int)) && ((((x:Nat):Int) == ((y:Nat):Int)) && true)) = decide (x = y):=by
    rw [Bool.eq_iff_iff]; simp; omega
  rwa [e] at h
theorem eq_ev_t (x:Nat):EqD 2 Try.prog 83 (evVal x) (evVal x) true:=by
  have:=eq_ev x x
  rwa [decide_eq_true rfl] at this
theorem get_some {l:List Nat} {i:Nat} (h:i<l.length):∃ k,l[i]? = some k:=⟨l[i],List.getElem?_eq_getElem h⟩
theorem c_clone0  (w:World)  : Calls Try.prog 96 ([.slice none 0 0]:List Value).toArray w (fun e w'=>∃ v its,(fun v its=>∃ q,v = trSl q 0∧its = [evI q []]) v its∧e = .returned v∧Brings w [] its w'):=by
  refine Ki (N:=8) (rs:=[.tmp 2]) [] Try.func96 rfl Try.ntmps96 Try.results96 (Nb rfl) trivial rfl ?_
  show LCode _ _ _ ⟨_,_⟩ _
  refine KB (KA ?_)
  refine oA ?_
  refine KC ?_
  refine KB ?_
  refine KB (KA ?_)
  refine oM ?_
  refine oP (KK (Det.eqsl Try.underlying81 rfl rfl) (show _ = Value.bool true from rfl)) ?_
  refine KC ?_
  refine Kf rfl ?_
  refine KB (KA ?_)
  refine oA ?_
  refine KC (KM ?_)
  exact ⟨[_],.cons rfl .nil,fun a w' hr=>⟨_,_,⟨none,rfl,rfl⟩,rfl,evI_new hr.fr.below (evI_nil _) (fun k hk=>by
    cases hk)⟩⟩
theorem c_clone1 (r cap:Nat) (rest:List Value) (l:List Nat) (w:World) (h1:(Item.blk r ⟨false,evsL l++rest,83,(0,0)⟩).holds w) (hl:l.length≤100000000):Calls Try.prog 96 ([.slice (some ⟨r,0,none⟩) l.length cap]:List Value).toArray w (fun e w'=>∃ v its,(fun v its=>∃ q,v = trSl q l.length∧its = [evI q l]) v its∧e = .returned v∧Brings w [] its w'):=by
  refine Ki (N:=8) (rs:=[.tmp 2]) [.blk r ⟨false,evsL l++rest,83,(0,0)⟩] Try.func96 rfl Try.ntmps96 Try.results96 (Nb rfl) ⟨h1,trivial⟩ rfl ?_
  show LCode _ _ _ ⟨_,_⟩ _
  refine KB (KA ?_)
  refine oA ?_
  refine KC ?_
  refine KB ?_
  refine KB (KA ?_)
  refine oM ?_
  refine oP (KK (Det.eqsl Try.underlying81 rfl rfl) (show _ = Value.bool false from rfl)) ?_
  refine KC ?_
  refine KR rfl ?_
  refine KT ?_
  refine KB (KA ?_)
  refine oS (mk (Makes.row (len:=0) (vs:=[]) (z0:=[]) (cs:=[]) Try.underlying81 inf_ev (by decide) row_ev0 rfl rfl (fun _=>rfl)) (fun b5=>?_))
  refine oM ?_
  refine KV rfl (LStepW.appendSM (s:=2) (n:=0) (cap:=0) (xs:=[]) (rest:=[]) (news:=evsL l) (more:=rest) rfl rfl Try.underlying81 inf_ev rfl (by repeat (first|exact Pick.head _|apply Pick.tail)) (by repeat (first|exact Mh _|apply Mt)) rfl rfl rfl (evsL_length l) (evsL_one l) (by omega) (by omega) (Nb rfl) ?_)
  intro b1 cap1 rest1 hc1
  refine oA ?_
  refine KC (KM ?_)
  refine ⟨[_],.cons rfl .nil,fun a w' hr=>?_⟩
  have g:=hr.hp (.blk b1 ⟨true,([]++evsL l)++rest1,83,(0,0)⟩) (by repeat (first|exact Mh _|apply Mt))
  have n:=hr.new (b:=b1) (B:=⟨true,([]++evsL l)++rest1,83,(0,0)⟩) (by repeat (first|exact Mh _|apply Mt)) rfl
  rw [List.nil_append] at g
  exact ⟨_,_,⟨some (b1,cap1,rest1),by rw [Nat.zero_add]; rfl,rfl⟩,rfl,evI_new hr.fr.below (evI_of g) (fun k hk=>by
    obtain rfl:k = b1:=by simpa [evFp] using hk
    exact n)⟩
theorem c_clone (q:TrRow) (l:List Nat) (w:World) (h:(evI q l).holds w) (hl:l.length≤100000000):Calls Try.prog 96 ([trSl q l.length]:List Value).toArray w (fun e w'=>∃ v its,(fun v its=>∃ q,v = trSl q l.length∧its = [evI q l]) v its∧e = .returned v∧Brings w [] its w'):=by
  have hp:=evI_P h
  rcases q with _|⟨r,cap,rest⟩
  · obtain rfl:l = []:=hp
    exact c_clone0 w
  · exact c_clone1 r cap rest l w hp hl
theorem tr_ev {b:Nat} {r:TrRow} {l:List Nat} {w:World} (h:(trI (some b) r l).holds w):(evI r l).holds w:=by
  have hp:=trI_P h
  rcases r with _|⟨r,cap,rest⟩
  · obtain ⟨_,rfl⟩:=hp
    exact evI_nil w
  · exact evI_of hp.2.1
theorem tr_st {b:Nat} {r:TrRow} {l:List Nat} {w:World} (h:(trI (some b) r l).holds w):(Item.blk b ⟨false,[trSl r l.length],121,(0,0)⟩).holds w:=(trI_P h).1
theorem c_trEvents (b:Nat) (r:TrRow) (l:List Nat) (w:World) (h0:(trI (some b) r l).holds w) (hl:l.length≤100000000):Calls Try.prog 56 ([trV (some b)]:List Value).toArray w (fun e w'=>∃ v its,(fun v its=>∃ q,v = trSl q l.length∧its = [evI q l]) v its∧e = .returned v∧Brings w [] its w'):=by
  refine Ki (N:=10) (rs:=[.tmp 2]) [.blk b ⟨false,[trSl r l.length],121,(0,0)⟩,evF r l] Try.func56 rfl Try.ntmps56 Try.results56 (Nb rfl) ⟨tr_st h0,tr_ev h0,trivial⟩ rfl ?_
  show LCode _ _ _ ⟨_,_⟩ _
  refine KB (KA ?_)
  refine oA ?_
  refine KC ?_
  refine KB ?_
  refine KB (KA ?_)
  refine oM ?_
  refine oP (KK (Det.eqp Try.underlying49 rfl rfl) (show _ = Value.bool false from rfl)) ?_
  refine KC ?_
  refine KR rfl ?_
  refine KT ?_
  refine KB (KA ?_)
  refine oM ?_
  refine oP (KQ rfl) ?_
  refine oP (KG (o':=0) Try.underlying121 rfl rfl rfl sz_81 (by decide)) ?_
  refine oD (dL rfl (hv:=KL Try.underlying81 rfl (by rfl))) ?_
  refine oS (cC rfl en_96 rfl (fun w hw=>bringsC0 (c_clone r l w (show (evF r l).holds w from hw _ (by repeat (first|exact Mh _|apply Mt))) hl) _) ?_)
  rintro _ _ ⟨q,rfl,rfl⟩
  refine oA ?_
  refine KC (KM ?_)
  exact ⟨[_],.cons rfl .nil,fun a w' hr=>⟨_,_,⟨q,rfl,rfl⟩,rfl,evI_new hr.fr.below (hr.hp (evI q l) (by repeat (first|exact Mh _|apply Mt))) (fun k hk=>(hr.own (evI q l) (by repeat (first|exact Mh _|apply Mt)) rfl k hk).elim (fun h=>h) (fun h=>h.elim))⟩⟩
theorem c_same1 (r1 c1 r2 c2:Nat) (t1 t2:List Value) (l:List Nat) (w:World) (h1:(Item.blk r1 ⟨false,evsL l++t1,83,(0,0)⟩).holds w) (h2:(Item.blk r2 ⟨false,evsL l++t2,83,(0,0)⟩).holds w) (hl:l.length≤100000000):Calls Try.prog 55 ([.slice (some ⟨r1,0,none⟩) l.length c1,.slice (some ⟨r2,0,none⟩) l.length c2]:List Value).toArray w (fun e w'=>e = .returned (.bool true)∧Below w.heap.size w w'):=by
  refine Ki (N:=26) (rs:=[.tmp 4]) [.blk r1 ⟨false,evsL l++t1,83,(0,0)⟩,.blk r2 ⟨false,evsL l++t2,83,(0,0)⟩] Try.func55 rfl Try.ntmps55 Try.results55 (Nb rfl) ⟨h1,h2,trivial⟩ rfl ?_
  show LCode _ _ _ ⟨_,_⟩ _
  refine KB (KA ?_)
  refine oA ?_
  refine KC ?_
  refine KB ?_
  refine KB (KA ?_)
  refine oM ?_
  refine oP (KAC Try.underlying81 rfl) ?_
  refine oM ?_
  refine oP (KAC Try.underlying81 rfl) ?_
  refine oP (KF (v:=.bool false) rfl rfl (br_f br_neq (fun e=>e rfl))) ?_
  refine KC ?_
  refine KR rfl ?_
  refine KT ?_
  refine KB ?_
  refine KB (KA ?_)
  refine oP (KZ (v:=.int .i64 ((0:Nat):Int)) rfl) ?_
  refine KC ?_
  refine LCode.block ?_
  refine Ks (α:=Nat) (fun x=>x≤l.length) (fun x=>⟨[(0,.slice (some ⟨r1,0,none⟩) l.length c1),(1,.slice (some ⟨r2,0,none⟩) l.length c2),(5,.int .i64 ((x:Nat):Int))],[.blk r1 ⟨false,evsL l++t1,83,(0,0)⟩,.blk r2 ⟨false,evsL l++t2,83,(0,0)⟩]⟩) (fun x=>l.length-x) (0) (Nat.zero_le _) (Kq ⟨rfl,rfl,rfl,trivial⟩ (by repeat (first|exact Sel.nil _|refine Sel.cons (by repeat (first|exact Ph _|apply Pt_)) ?_))) ?_
  intro x hx
  refine KB ?_
  refine KB (KA ?_)
  refine oM ?_
  refine oM ?_
  refine oP (KAC Try.underlying81 rfl) ?_
  refine oP (KF rfl rfl (KAT)) ?_
  refine KC ?_
  first|refine KS rfl (fun h14=>?_) (fun h14=>?_)|refine KU rfl (fun h14=>?_) (fun h14=>?_)
  ·
    have h14:x<l.length:=h14
    obtain ⟨k,hk⟩:=get_some h14
    refine KT ?_
    refine KB ?_
    refine LCode.block ?_
    refine KB ?_
    refine rD [] ?_
    refine aM 0 ?_
    refine aM 1 ?_
    refine aP 2 rfl (Det.indexSM Try.underlying81 sz_83 rfl rfl h14) ?_
    refine aD 3 rfl (dL rfl (hv:=by exact ev_load l hk _)) ?_
    refine aM 4 ?_
    refine aM 5 ?_
    refine aP 6 rfl (Det.indexSM Try.underlying81 sz_83 rfl rfl h14) ?_
    refine aD 7 rfl (dL rfl (hv:=by exact ev_load l hk _)) ?_
    refine aP 8 rfl (KK (Det.nea (by kernel_rfl) (fun w=>eq_ev_t k 10000 (by decide) w) rfl rfl) (show _ = Value.bool false by rfl)) ?_
    refine aE ?_
    refine KR rfl ?_
    refine KT ?_
    refine KA ?_
    refine oM ?_
    refine oP (KF rfl rfl (Kv (b:=1) (by omega))) ?_
    refine oA ?_
    refine KC ?_
    exact ⟨x+1,by omega,by omega,Kq ⟨rfl,rfl,rfl,trivial⟩ (by repeat (first|exact Sel.nil _|refine Sel.cons (by repeat (first|exact Ph _|apply Pt_)) ?_))⟩
  ·
    have h14:¬ x<l.length:=h14
    refine Kp ?_
    refine KB (KA ?_)
    refine oA ?_
    refine KC (KM ?_)
    exact ⟨[_],.cons rfl .nil,fun a w' hr=>⟨rfl,hr.fr.below⟩⟩
theorem c_same0 (c1 c2:Nat) (p1 p2:Option Addr) (w:World)  : Calls Try.prog 55 ([.slice p1 0 c1,.slice p2 0 c2]:List Value).toArray w (fun e w'=>e = .returned (.bool true)∧Below w.heap.size w w'):=by
  refine Ki (N:=26) (rs:=[.tmp 4]) [] Try.func55 rfl Try.ntmps55 Try.results55 (Nb rfl) trivial rfl ?_
  show LCode _ _ _ ⟨_,_⟩ _
  refine KB (KA ?_)
  refine oA ?_
  refine KC ?_
  refine KB ?_
  refine KB (KA ?_)
  refine oM ?_
  refine oP (KAC Try.underlying81 rfl) ?_
  refine oM ?_
  refine oP (KAC Try.underlying81 rfl) ?_
  refine oP (KF (v:=.bool false) rfl rfl (br_f br_neq (fun e=>e rfl))) ?_
  refine KC ?_
  refine KR rfl ?_
  refine KT ?_
  refine KB ?_
  refine KB (KA ?_)
  refine oP (KZ (v:=.int .i64 ((0:Nat):Int)) rfl) ?_
  refine KC ?_
  refine LCode.block ?_
  refine Ks (α:=Nat) (fun x=>x≤0) (fun x=>⟨[(0,.slice p1 0 c1),(1,.slice p2 0 c2),(5,.int .i64 ((x:Nat):Int))],[]⟩) (fun x=>0-x) (0) (Nat.zero_le _) (Kq ⟨rfl,rfl,rfl,trivial⟩ (by repeat (first|exact Sel.nil _|refine Sel.cons (by repeat (first|exact Ph _|apply Pt_)) ?_))) ?_
  intro x hx
  refine KB ?_
  refine KB (KA ?_)
  refine oM ?_
  refine oM ?_
  refine oP (KAC Try.underlying81 rfl) ?_
  refine oP (KF (v:=.bool false) rfl rfl (br_f KAT (by omega))) ?_
  refine KC ?_
  refine KR rfl ?_
  refine Kp ?_
  refine KB (KA ?_)
  refine oA ?_
  refine KC (KM ?_)
  exact ⟨[_],.cons rfl .nil,fun a w' hr=>⟨rfl,hr.fr.below⟩⟩
theorem c_same (q1 q2:TrRow) (l:List Nat) (w:World) (h1:(evI q1 l).holds w) (h2:(evI q2 l).holds w) (hl:l.length≤100000000):Calls Try.prog 55 ([trSl q1 l.length,trSl q2 l.length]:List Value).toArray w (fun e w'=>e = .returned (.bool true)∧Below w.heap.size w w'):=by
  have g1:=evI_P h1
  have g2:=evI_P h2
  rcases q1 with _|⟨r1,k1,t1⟩
  · obtain rfl:l = []:=g1
    rcases q2 with _|⟨r2,k2,t2⟩
    · exact c_same0 0 0 none none w
    · exact c_same0 0 k2 none (some ⟨r2,0,none⟩) w
  · rcases q2 with _|⟨r2,k2,t2⟩
    · obtain rfl:l = []:=g2
      exact c_same0 k1 0 (some ⟨r1,0,none⟩) none w
    · exact c_same1 r1 k1 r2 k2 t1 t2 l w g1 g2 hl
end Go.Proofs.Ytlmiolnccgjjjaa
set_option linter.unusedVariables false
set_option linter.unusedSimpArgs false
set_option maxRecDepth 20000
namespace Go.Proofs.Ytlmiolnccgjjjaa
open Go Go.RowKit
open Grp
theorem c_Tables_none (id n:Int) (X Y:Nat) (i:Bool) (pa:Option Addr) (pn pc:Nat) (w:World) (h:cvI id = none) (hX:X<W9) (hY:Y<W9):Calls Try.prog 12 ([.int .i64 id,ptV X Y i,.int .i64 n,.slice pa pn pc]:List Value).toArray w (fun e w'=>e = .returned (.bool true)∧Below w.heap.size w w'):=by
  refine Ki (N:=195) (rs:=[.tmp 8]) [] Try.func12 rfl Try.ntmps12 Try.results12 (Nb rfl) trivial rfl ?_
  show LCode _ _ _ ⟨_,_⟩ _
  refine KB (KA ?_)
  refine oS (mB (fun b5=>?_))
  refine oA ?_
  refine KC ?_
  refine KB (KA ?_)
  refine oM ?_
  refine oS (cF rfl en_29 rfl (fun w hw=>c_r_Get_none _ w h) ?_)
  refine oM ?_
  refine oP (KW rfl rfl) ?_
  refine oP (KW rfl rfl) ?_
  refine oS (mk (KX zr_26) (fun b9=>?_))
  refine KV rfl (sA rfl rfl sz_26 (by repeat (first|exact KO|refine KJ rfl ?_)) (hl:=by rfl) (h:=?_))
  refine oA ?_
  refine KC ?_
  refine KB (KA ?_)
  refine oM ?_
  refine oD (dL rfl (hv:=by exact KI Try.underlying35 rfl sz_35)) ?_
  refine oM ?_
  refine oS (cF rfl en_32 rfl (fun w hw=>c_tabNew_none id X Y i n w h) ?_)
  refine oM ?_
  refine oP (KW rfl rfl) ?_
  refine oP (KW rfl rfl) ?_
  refine oA ?_
  refine oA ?_
  refine KC ?_
  refine KB (KA ?_)
  refine oD (dL rfl (hv:=by exact KI Try.underlying35 rfl sz_35)) ?_
  refine oS (cZ rfl en_44 rfl (fun w hw hs=>(c_r_In X Y i w hX hY).mono fun e w' h=>Num2R.q (Old.nil _) hs h) ?_)
  rintro _ _ ⟨qpa,qpb,rfl,rfl,hnpa,hnpb⟩
  refine oS (mk (KX zr_38) (fun b13=>?_))
  refine KV rfl (sA rfl rfl sz_38 (by repeat (first|exact KO|refine KJ rfl ?_)) (hl:=by rfl) (h:=?_))
  refine KC ?_
  refine KB ?_
  refine LCode.block ?_
  refine KB (KA ?_)
  refine oM ?_
  refine oP (KK (Det.not rfl) (show _ = Value.bool true from rfl)) ?_
  refine oA ?_
  refine KC ?_
  refine Kf rfl ?_
  refine KB (KA ?_)
  refine oM ?_
  refine oS (cF rfl en_33 rfl (fun w hw=>c_Num _ w) ?_)
  refine oP (KF (v:=.bool true) rfl rfl (br_t (br_eql (b:=1600)) (by first|rfl|assumption|omega|(simp; done)))) ?_
  refine oM ?_
  refine oGM ?_
  refine oGP (KK (Det.eqp Try.underlying40 rfl rfl) (show _ = Value.bool true by rfl)) ?_
  refine oP (Kn rfl rfl) ?_
  refine oM ?_
  refine oGS (cF rfl en_28 rfl (fun w hw=>c_awake16 w) ?_)
  refine oP (Kn rfl rfl) ?_
  refine oA ?_
  refine KC (KM ?_)
  refine ⟨[_],.cons rfl .nil,fun a w' hr=>⟨?_,hr.fr.below⟩⟩
  rfl
theorem c_Tables_off (id n:Int) (V:Cv) (X Y:Nat) (i:Bool) (pa:Option Addr) (pn pc:Nat) (w:World) (h:cvI id = some V) (hX:X<W9) (hY:Y<W9) (ho:onB V.p V.a V.b X Y i = false):Calls Try.prog 12 ([.int .i64 id,ptV X Y i,.int .i64 n,.slice pa pn pc]:List Value).toArray w (fun e w'=>e = .returned (.bool true)∧Below w.heap.size w w'):=by
  obtain ⟨hok,hid⟩:=cvI_ok h
  have hdx:=nw_w9_dig hX
  have hdy:=nw_w9_dig hY
  refine Ki (N:=195) (rs:=[.tmp 8]) [] Try.func12 rfl Try.ntmps12 Try.results12 (Nb rfl) trivial rfl ?_
  show LCode _ _ _ ⟨_,_⟩ _
  refine KB (KA ?_)
  refine oS (mB (fun b5=>?_))
  refine oA ?_
  refine KC ?_
  refine KB (KA ?_)
  refine oM ?_
  refine oS (LStep.callZ (Post:=fun v its=>∃ Q,v = .tuple #[.agg (crvL Q V).toArray,.bool true]∧its = [crvI Q V]) (first:=[]) rfl en_29 rfl (Nb rfl) (fun w1 hw hs=>(c_r_Get _ V w1 h).mono fun e w' ⟨Q,h1,h2,h3,h4⟩=>⟨_,_,⟨Q,rfl,rfl⟩,h1,Brings.nums h4 (by intro x hx; simp at hx; subst hx; exact h2) (by intro x hx; simp at hx; subst hx; rfl) (by intro x hx k hk; simp at hx; subst hx; exact .inl (h3 k hk))⟩) ?_)
  rintro _ _ ⟨Q,rfl,rfl⟩
  refine oM ?_
  refine oP (KW rfl rfl) ?_
  refine oP (KW rfl rfl) ?_
  refine oS (mk (KX zr_26) (fun b9=>?_))
  refine KV rfl (sA rfl rfl sz_26 (by repeat (first|exact KO|refine KJ rfl ?_)) (hl:=by rfl) (h:=?_))
  refine oA ?_
  refine KC ?_
  refine KB (KA ?_)
  refine oM ?_
  refine oD (dL rfl (hv:=by exact KI Try.underlying35 rfl sz_35)) ?_
  refine oM ?_
  refine oS (cF rfl en_32 rfl (fun w hw=>c_tabNew_off id V X Y i n w h hX hY ho) ?_)
  refine oM ?_
  refine oP (KW rfl rfl) ?_
  refine oP (KW rfl rfl) ?_
  refine oA ?_
  refine oA ?_
  refine KC ?_
  refine KB (KA ?_)
  refine oD (dL rfl (hv:=by exact KI Try.underlying35 rfl sz_35)) ?_
  refine oS (cZ rfl en_44 rfl (fun w hw hs=>(c_r_In X Y i w hX hY).mono fun e w' h=>Num2R.q (Old.nil _) hs h) ?_)
  rintro _ _ ⟨qpa,qpb,rfl,rfl,hnpa,hnpb⟩
  refine oS (mk (KX zr_38) (fun b13=>?_))
  refine KV rfl (sA rfl rfl sz_38 (by repeat (first|exact KO|refine KJ rfl ?_)) (hl:=by rfl) (h:=?_))
  refine KC ?_
  refine KB ?_
  refine LCode.block ?_
  refine KB (KA ?_)
  refine oM ?_
  refine oP (KK (Det.not rfl) (show _ = Value.bool false from rfl)) ?_
  refine oA ?_
  refine KC ?_
  refine KR rfl ?_
  refine KB (KA ?_)
  refine oD (dL rfl (hv:=by exact KI Try.underlying26 rfl sz_26)) ?_
  refine oD (dL rfl (hv:=by exact KI Try.underlying38 rfl sz_38)) ?_
  refine oS (cF rfl en_54 rfl (fun w hw=>c_r_OnB Q V qpa qpb X Y i false w (mC hw) hok (mC hw) (mC hw) (by omega) (by omega) ho) ?_)
  refine oP (KK (Det.not rfl) (show _ = Value.bool true from rfl)) ?_
  refine oA ?_
  refine KC ?_
  refine Kf rfl ?_
  refine KB (KA ?_)
  refine oM ?_
  refine oS (cF rfl en_33 rfl (fun w hw=>c_Num _ w) ?_)
  refine oP (KF (v:=.bool true) rfl rfl (br_t (br_eql (b:=1601)) (by first|rfl|assumption|omega|(simp; done)))) ?_
  refine oM ?_
  refine oGM ?_
  refine oGP (KK (Det.eqp Try.underlying40 rfl rfl) (show _ = Value.bool true by rfl)) ?_
  refine oP (Kn rfl rfl) ?_
  refine oM ?_
  refine oGS (cF rfl en_28 rfl (fun w hw=>c_awake16 w) ?_)
  refine oP (Kn rfl rfl) ?_
  refine oA ?_
  refine KC (KM ?_)
  refine ⟨[_],.cons rfl .nil,fun a w' hr=>⟨?_,hr.fr.below⟩⟩
  rfl
theorem c_Tables_size (id n:Int) (V:Cv) (P:Pt V.p) (pa:Option Addr) (pn pc:Nat) (w:World) (h:cvI id = some V) (hP:On V.A V.B P) (hn:n<1∨16<n):Calls Try.prog 12 ([.int .i64 id,ptP P,.int .i64 n,.slice pa pn pc]:List Value).toArray w (fun e w'=>e = .returned (.bool true)∧Below w.heap.size w w'):=by
  obtain ⟨hok,hid⟩:=cvI_ok h
  refine Ki (N:=195) (rs:=[.tmp 8]) [] Try.func12 rfl Try.ntmps12 Try.results12 (Nb rfl) trivial rfl ?_
  show LCode _ _ _ ⟨_,_⟩ _
  refine KB (KA ?_)
  refine oS (mB (fun b5=>?_))
  refine oA ?_
  refine KC ?_
  refine KB (KA ?_)
  refine oM ?_
  refine oS (LStep.callZ (Post:=fun v its=>∃ Q,v = .tuple #[.agg (crvL Q V).toArray,.bool true]∧its = [crvI Q V]) (first:=[]) rfl en_29 rfl (Nb rfl) (fun w1 hw hs=>(c_r_Get _ V w1 h).mono fun e w' ⟨Q,h1,h2,h3,h4⟩=>⟨_,_,⟨Q,rfl,rfl⟩,h1,Brings.nums h4 (by intro x hx; simp at hx; subst hx; exact h2) (by intro x hx; simp at hx; subst hx; rfl) (by intro x hx k hk; simp at hx; subst hx; exact .inl (h3 k hk))⟩) ?_)
  rintro _ _ ⟨Q,rfl,rfl⟩
  refine oM ?_
  refine oP (KW rfl rfl) ?_
  refine oP (KW rfl rfl) ?_
  refine oS (mk (KX zr_26) (fun b9=>?_))
  refine KV rfl (sA rfl rfl sz_26 (by repeat (first|exact KO|refine KJ rfl ?_)) (hl:=by rfl) (h:=?_))
  refine oA ?_
  refine KC ?_
  refine KB (KA ?_)
  refine oM ?_
  refine oD (dL rfl (hv:=by exact KI Try.underlying35 rfl sz_35)) ?_
  refine oM ?_
  refine oS (cF rfl en_32 rfl (fun w hw=>c_tabNew_size id V P n w h hP hn) ?_)
  refine oM ?_
  refine oP (KW rfl rfl) ?_
  refine oP (KW rfl rfl) ?_
  refine oA ?_
  refine oA ?_
  refine KC ?_
  refine KB (KA ?_)
  refine oD (dL rfl (hv:=by exact KI Try.underlying35 rfl sz_35)) ?_
  refine oS (cZ rfl en_44 rfl (fun w hw hs=>(c_r_InP V hok (P) w).mono fun e w' h=>Num2R.q (Old.nil _) hs h) ?_)
  rintro _ _ ⟨qpa,qpb,rfl,rfl,hnpa,hnpb⟩
  refine oS (mk (KX zr_38) (fun b13=>?_))
  refine KV rfl (sA rfl rfl sz_38 (by repeat (first|exact KO|refine KJ rfl ?_)) (hl:=by rfl) (h:=?_))
  refine KC ?_
  refine KB ?_
  refine LCode.block ?_
  refine KB (KA ?_)
  refine oM ?_
  refine oP (KK (Det.not rfl) (show _ = Value.bool false from rfl)) ?_
  refine oA ?_
  refine KC ?_
  refine KR rfl ?_
  refine KB (KA ?_)
  refine oD (dL rfl (hv:=by exact KI Try.underlying26 rfl sz_26)) ?_
  refine oD (dL rfl (hv:=by exact KI Try.underlying38 rfl sz_38)) ?_
  refine oS (cF rfl en_54 rfl (fun w hw=>c_r_OnP Q V qpa qpb (P) w (mC hw) hok (mC hw) (mC hw) (hP)) ?_)
  refine oP (KK (Det.not rfl) (show _ = Value.bool false from rfl)) ?_
  refine oA ?_
  refine KC ?_
  refine KR rfl ?_
  refine KB ?_
  rcases (show n<1∨(1≤n∧16<n) by omega) with g1|⟨g1,g2⟩
  ·
    refine KA ?_
    refine oM ?_
    refine oP (KF (v:=.bool true) rfl rfl (by simp [Kw]; omega)) ?_
    refine oM ?_
    refine oK ?_
    refine oK ?_
    refine oP (Kn rfl rfl) ?_
    refine oA ?_
    refine KC ?_
    refine Kf rfl ?_
    refine KB (KA ?_)
    refine oM ?_
    refine oS (cF rfl en_33 rfl (fun w hw=>c_Num _ w) ?_)
    refine oP (KF (v:=.bool true) rfl rfl (br_t (br_eql (b:=1602)) (by first|rfl|assumption|omega|(simp; done)))) ?_
    refine oM ?_
    refine oGM ?_
    refine oGP (KK (Det.eqp Try.underlying40 rfl rfl) (show _ = Value.bool true by rfl)) ?_
    refine oP (Kn rfl rfl) ?_
    refine oM ?_
    refine oGS (cF rfl en_28 rfl (fun w hw=>c_awake16 w) ?_)
    refine oP (Kn rfl rfl) ?_
    refine oA ?_
    refine KC (KM ?_)
    refine ⟨[_],.cons rfl .nil,fun a w' hr=>⟨?_,hr.fr.below⟩⟩
    rfl
  ·
    refine KA ?_
    refine oM ?_
    refine oP (KF (v:=.bool false) rfl rfl (by simp [Kw]; omega)) ?_
    refine oM ?_
    refine oGM ?_
    refine oGP (KF (v:=.bool true) rfl rfl (by simp [Kw]; omega)) ?_
    refine oP (Kh rfl rfl) ?_
    refine oA ?_
    refine KC ?_
    refine Kf rfl ?_
    refine KB (KA ?_)
    refine oM ?_
    refine oS (cF rfl en_33 rfl (fun w hw=>c_Num _ w) ?_)
    refine oP (KF (v:=.bool true) rfl rfl (br_t (br_eql (b:=1602)) (by first|rfl|assumption|omega|(simp; done)))) ?_
    refine oM ?_
    refine oGM ?_
    refine oGP (KK (Det.eqp Try.underlying40 rfl rfl) (show _ = Value.bool true by rfl)) ?_
    refine oP (Kn rfl rfl) ?_
    refine oM ?_
    refine oGS (cF rfl en_28 rfl (fun w hw=>c_awake16 w) ?_)
    refine oP (Kn rfl rfl) ?_
    refine oA ?_
    refine KC (KM ?_)
    refine ⟨[_],.cons rfl .nil,fun a w' hr=>⟨?_,hr.fr.below⟩⟩
    rfl
def capOk (q:TrRow) (l:List Nat):Prop:=match q with
  | none=>True
  | some r=>(evsL l).length+r.2.2.length = r.2.1*2
def evK (k:Nat):List Value:=[.int .i64 ((2:Nat):Int),.int .i64 ((k:Nat):Int)]
theorem LStepW.weak {P:Program} {C:Ctx} {o:Oper} {st:St} {K K':St→Prop} (h:LStepW P C o st K') (hk:∀ s,K' s→∀ a w,Rel C s a w→∃ s',K s'∧Rel C s' a w):LStepW P C o st K:=by
  unfold LStepW at *
  exact fun a w hr Qr=>Oper.wp_mono (fun a' w' ⟨s,hs,hr'⟩=>hk s hs a' w' hr') (h a w hr Qr)
theorem Rel.evClose {C:Ctx} {T:List (Nat×Value)} {R:List Item} {b cap:Nat} {rest:List Value} {l:List Nat} {a:Act} {w:World} (hr:Rel C ⟨T,.blk b ⟨true,evsL l++rest,83,(0,0)⟩ :: R⟩ a w):Rel C ⟨T,evI (some (b,cap,rest)) l :: R⟩ a w:=by
  refine ⟨hr.size,hr.defers,hr.tm,fun x hx=>?_,fun x hx hw=>?_,?_,hr.fr⟩
  · rcases List.mem_cons.1 hx with rfl|hx
    · exact evI_of (hr.hp _ (.head _))
    · exact hr.hp x (.tail _ hx)
  · rcases List.mem_cons.1 hx with rfl|hx
    · exact hr.own (.blk b ⟨true,evsL l++rest,83,(0,0)⟩) (.head _) rfl
    · exact hr.own x (.tail _ hx) hw
  · obtain ⟨g1,g2⟩:=List.pairwise_cons.1 hr.dist
    exact List.pairwise_cons.2 ⟨fun y hy _=>g1 y hy (.inl rfl),g2⟩
theorem Rel.evOpen {C:Ctx} {T:List (Nat×Value)} {R:List Item} {b cap:Nat} {rest:List Value} {l:List Nat} {a:Act} {w:World} (hr:Rel C ⟨T,evI (some (b,cap,rest)) l :: R⟩ a w):Rel C ⟨T,.blk b ⟨true,evsL l++rest,83,(0,0)⟩ :: R⟩ a w:=by
  refine ⟨hr.size,hr.defers,hr.tm,fun x hx=>?_,fun x hx hw=>?_,?_,hr.fr⟩
  · rcases List.mem_cons.1 hx with rfl|hx
    · exact evI_P (hr.hp _ (.head _))
    · exact hr.hp x (.tail _ hx)
  · rcases List.mem_cons.1 hx with rfl|hx
    · exact hr.own (evI (some (b,cap,rest)) l) (.head _) rfl
    · exact hr.own x (.tail _ hx) hw
  · obtain ⟨g1,g2⟩:=List.pairwise_cons.1 hr.dist
    exact List.pairwise_cons.2 ⟨fun y hy _=>g1 y hy (.inl rfl),g2⟩
theorem Rel.tail {C:Ctx} {T:List (Nat×Value)} {x:Item} {R:List Item} {a:Act} {w:World} (hr:Rel C ⟨T,x :: R⟩ a w):Rel C ⟨T,R⟩ a w :=
  ⟨hr.size,hr.defers,hr.tm,fun y hy=>hr.hp y (.tail _ hy),fun y hy=>hr.own y (.tail _ hy),(List.pairwise_cons.1 hr.dist).2,hr.fr⟩
theorem LStepW.appendEv {C : Ctx} {T : List (Nat × Value)} {H H0 : List Item} {q : TrRow} {l : List Nat} {k a0 c0 d : Nat} {wr : Bool} {ea : TypeId} {fz : Nat × Nat} {x y : Operand} {ty : TypeId} {pos : String} {aft : Array Edge} {g : Option (Nat × Bool)} {K : St → Prop} (hx : evT T x = some (trSl q l.length)) (hy : evT T y = some (.slice (some ⟨a0, 0, none⟩) 1 c0))
    (hp:Pick (evI q l) H H0) (hm:Item.blk a0 ⟨wr,evK k,ea,fz⟩∈H0) (hc:capOk q l) (hl:l.length≤1000000) (hd:d<C.N)
    (h:∀ q',capOk q' (l++[k])→K ⟨(d,trSl q' (l++[k]).length) :: T,evI q' (l++[k]) :: H0⟩):LStepW Try.prog C ⟨some d,.call { callee:=.builtin .append,args:=#[x,y],argTypes:=#[81,81] },ty,pos,aft,g⟩ ⟨T,H⟩ K:=by
  unfold LStepW
  intro a w hr Qr
  have hr2:Rel C ⟨T,evI q l :: H0⟩ a w:=hr.perm hp.perm
  rcases q with _|⟨b,cap,rest⟩
  · obtain rfl:l = []:=evI_P (hr2.hp _ (.head _))
    have w1:LStepW Try.prog C ⟨some d,.call { callee:=.builtin .append,args:=#[x,y],argTypes:=#[81,81] },ty,pos,aft,g⟩ ⟨T,H0⟩ K:=LStepW.weak (LStepW.appendNilS (s:=2) (m:=1) (news:=evK k) (K:=fun s=>∃ b' cap' rest',(evK k).length+List.length rest' = cap'*2∧s = ⟨(d,.slice (some ⟨b',0,none⟩) 1 cap') :: T,.blk b' ⟨true,evK k++rest',83,(0,0)⟩ :: H0⟩) hx hy Try.underlying81 inf_ev rfl hm rfl (by decide) (by decide) (by decide) hd (fun b' cap' rest' hs=>⟨b',cap',rest',hs,rfl⟩)) (by
      rintro _ ⟨b',cap',rest',hs,rfl⟩ a' w' hr'
      exact ⟨_,h (some (b',cap',rest')) hs,Rel.evClose (l:=[k]) (cap:=cap') hr'⟩)
    unfold LStepW at w1
    exact w1 a w hr2.tail Qr
  · have w1 : LStepW Try.prog C ⟨some d, .call { callee := .builtin .append, args := #[x, y], argTypes := #[81, 81] }, ty, pos, aft, g⟩ ⟨T, .blk b ⟨true, evsL l ++ rest, 83, (0, 0)⟩ :: H0⟩ K := LStepW.weak (LStepW.appendS (s := 2) (m := 1) (xs := evsL l) (rest := rest) (news := evK k) (K := fun s => ∃ b' cap' rest', (evsL l).length + (evK k).length + List.length rest' = cap' * 2 ∧ s = ⟨(d, .slice (some ⟨b', 0, none⟩) (l.length + 1) cap') :: T, .blk b' ⟨true, (evsL l ++ evK k) ++ rest', 83, (0, 0)⟩ :: H0⟩) hx hy Try.underlying81 inf_ev rfl (Pick.head _) hm (evsL_length l) hc rfl (KJ rfl (KJ rfl KO)) (by omega) (by omega) hd (fun b' cap' rest' hs => ⟨b', cap', rest', hs, rfl⟩)) (by
      rintro _ ⟨b',cap',rest',hs,rfl⟩ a' w' hr'
      have e:evsL l++evK k = evsL (l++[k]):=(evsL_snoc l k).symm
      have e2:(l++[k]).length = l.length+1:=by simp
      have h2:=h (some (b',cap',rest')) (by show (evsL (l++[k])).length+rest'.length = cap'*2; rw [← e,List.length_append]; exact hs)
      rw [e2] at h2
      rw [e] at hr'
      exact ⟨_,h2,Rel.evClose (l:=l++[k]) (cap:=cap') hr'⟩)
    unfold LStepW at w1
    exact w1 a w hr2.evOpen Qr
def pkL (f:Nat→Int) (N:Nat):Nat→List Nat
  | 0=>[]
  | i+1=>if 0≤f i∧f i<N then pkL f N i++List.range N else pkL f N i
theorem pkL_le (f:Nat→Int) (N:Nat) (hN:N≤16):∀ i,(pkL f N i).length≤16*i
  | 0=>Nat.le_refl _
  | i+1=>by
    have:=pkL_le f N hN i
    show (if 0≤f i∧f i<N then pkL f N i++List.range N else pkL f N i).length≤_
    split
    · rw [List.length_append,List.length_range]; omega
    · omega
theorem pkL_in {f:Nat→Int} {N i:Nat} (h0:0≤f i) (h1:f i<N):pkL f N (i+1) = pkL f N i++List.range N:=if_pos ⟨h0,h1⟩
theorem pkL_out {f:Nat→Int} {N i:Nat} (h:f i<0∨(N:Int)≤f i):pkL f N (i+1) = pkL f N i:=if_neg (by omega)
theorem LCode.evNil {P:Program} {C:Ctx} {co:Code} {Q:Exit→St→Prop} {T:List (Nat×Value)} {H:List Item} (h:LCode P C co ⟨T,evI none [] :: H⟩ Q):LCode P C co ⟨T,H⟩ Q:=by
  unfold LCode at *
  intro a w hr
  refine h a w ⟨hr.size,hr.defers,hr.tm,?_,?_,List.pairwise_cons.2 ⟨?_,hr.dist⟩,hr.fr⟩
  · intro x hx
    rcases List.mem_cons.1 hx with rfl|hx
    · exact evI_nil w
    · exact hr.hp x hx
  · intro x hx hw
    rcases List.mem_cons.1 hx with rfl|hx
    · intro k hk; cases hk
    · exact hr.own x hx hw
  · intro y _ _ k hk; cases hk
theorem range_snoc (l:List Nat) (k:Nat):l++List.range (k+1) = (l++List.range k)++[k]:=by rw [List.range_succ,List.append_assoc]
theorem c_Tables_ok (id:Int) (V:Cv) (P:Pt V.p) (N pb po pn pc:Nat) (cs:List Value) (pty:TypeId) (pfz:Nat×Nat) (f:Nat→Int) (w:World) (h:cvI id = some V) (hP:On V.A V.B P) (hN0:1≤N) (hN:N≤16) (hpk:(Item.blk pb ⟨false,cs,pty,pfz⟩).holds w) (hf:∀ i,i<pn→cs[i+po]? = some (.int .i64 (f i))):Calls Try.prog 12 ([.int .i64 id,ptP P,.int .i64 ((N:Nat):Int),.slice (some ⟨pb,po,none⟩) pn pc]:List Value).toArray w (fun e w'=>e = .returned (.bool true)∧Below w.heap.size w w'):=by
  obtain ⟨hok,hid⟩:=cvI_ok h
  refine Ki (N:=195) (rs:=[.tmp 8]) [.blk pb ⟨false,cs,pty,pfz⟩] Try.func12 rfl Try.ntmps12 Try.results12 (Nb rfl) ⟨hpk,trivial⟩ rfl ?_
  show LCode _ _ _ ⟨_,_⟩ _
  refine KB (KA ?_)
  refine oS (mB (fun b5=>?_))
  refine oA ?_
  refine KC ?_
  refine KB (KA ?_)
  refine oM ?_
  refine oS (LStep.callZ (Post:=fun v its=>∃ Q,v = .tuple #[.agg (crvL Q V).toArray,.bool true]∧its = [crvI Q V]) (first:=[]) rfl en_29 rfl (Nb rfl) (fun w1 hw hs=>(c_r_Get _ V w1 h).mono fun e w' ⟨Q,h1,h2,h3,h4⟩=>⟨_,_,⟨Q,rfl,rfl⟩,h1,Brings.nums h4 (by intro x hx; simp at hx; subst hx; exact h2) (by intro x hx; simp at hx; subst hx; rfl) (by intro x hx k hk; simp at hx; subst hx; exact .inl (h3 k hk))⟩) ?_)
  rintro _ _ ⟨Q,rfl,rfl⟩
  refine oM ?_
  refine oP (KW rfl rfl) ?_
  refine oP (KW rfl rfl) ?_
  refine oS (mk (KX zr_26) (fun b9=>?_))
  refine KV rfl (sA rfl rfl sz_26 (by repeat (first|exact KO|refine KJ rfl ?_)) (hl:=by rfl) (h:=?_))
  refine oA ?_
  refine KC ?_
  refine KB (KA ?_)
  refine oM ?_
  refine oD (dL rfl (hv:=by exact KI Try.underlying35 rfl sz_35)) ?_
  refine oM ?_
  refine oS (cC rfl en_32 rfl (fun w hw=>bringsC (c_tabNew id V (P) N w h hP hN0 hN) _) ?_)
  rintro _ _ ⟨bt0,br0,cap0,rest0,rfl,rfl⟩
  refine oM ?_
  refine oP (KW rfl rfl) ?_
  refine oP (KW rfl rfl) ?_
  refine oA ?_
  refine oA ?_
  refine KC ?_
  refine KB (KA ?_)
  refine oD (dL rfl (hv:=by exact KI Try.underlying35 rfl sz_35)) ?_
  refine oS (cZ rfl en_44 rfl (fun w hw hs=>(c_r_InP V hok (P) w).mono fun e w' h=>Num2R.q (Old.nil _) hs h) ?_)
  rintro _ _ ⟨qpa,qpb,rfl,rfl,hnpa,hnpb⟩
  refine oS (mk (KX zr_38) (fun b13=>?_))
  refine KV rfl (sA rfl rfl sz_38 (by repeat (first|exact KO|refine KJ rfl ?_)) (hl:=by rfl) (h:=?_))
  refine KC ?_
  refine KB ?_
  refine LCode.block ?_
  refine KB (KA ?_)
  refine oM ?_
  refine oP (KK (Det.not rfl) (show _ = Value.bool false from rfl)) ?_
  refine oA ?_
  refine KC ?_
  refine KR rfl ?_
  refine KB (KA ?_)
  refine oD (dL rfl (hv:=by exact KI Try.underlying26 rfl sz_26)) ?_
  refine oD (dL rfl (hv:=by exact KI Try.underlying38 rfl sz_38)) ?_
  refine oS (cF rfl en_54 rfl (fun w hw=>c_r_OnP Q V qpa qpb (P) w (mC hw) hok (mC hw) (mC hw) (hP)) ?_)
  refine oP (KK (Det.not rfl) (show _ = Value.bool false from rfl)) ?_
  refine oA ?_
  refine KC ?_
  refine KR rfl ?_
  refine KB (KA ?_)
  refine oM ?_
  refine oP (KF (v:=.bool false) rfl rfl (br_f (KAT (b:=1)) (by omega))) ?_
  refine oM ?_
  refine oGM ?_
  refine oGP (KF (v:=.bool false) rfl rfl (br_f (br_gtr (b:=16)) (by omega))) ?_
  refine oP (Kh rfl rfl) ?_
  refine oA ?_
  refine KC ?_
  refine KR rfl ?_
  refine KT ?_
  refine KB ?_
  refine KB (KA ?_)
  refine oM ?_
  refine oS (cF rfl en_33 rfl (fun w hw=>c_Num _ w) ?_)
  refine oP (KF (v:=.bool false) rfl rfl (br_f (br_neq (b:=0)) (by decide))) ?_
  refine oM ?_
  refine oGM ?_
  refine oGP (KK (Det.eqp Try.underlying40 rfl rfl) (show _ = Value.bool false by rfl)) ?_
  refine oP (Kh rfl rfl) ?_
  refine oM ?_
  refine oGM ?_
  refine oGS (cF rfl en_35 rfl (fun w hw=>c_tabSize bt0 br0 N cap0 w (mC hw)) ?_)
  refine oGM ?_
  refine oGP (KF (v:=.bool false) rfl rfl (br_f br_neq (by omega))) ?_
  refine oP (Kh rfl rfl) ?_
  refine KC ?_
  refine KR rfl ?_
  refine KT ?_
  refine KB (KA ?_)
  refine oS (cC rfl en_36 rfl (fun w hw=>bringsC (c_trNew w) _) ?_)
  rintro _ _ ⟨tb0,rfl,rfl⟩
  refine oA ?_
  refine KC ?_
  refine KB (KA ?_)
  refine oA ?_
  refine KC ?_
  refine KB ?_
  refine KB ?_
  refine LCode.evNil ?_
  refine KA ?_
  refine oP (KZ (v:=.int .i64 ((0:Nat):Int)) rfl) ?_
  refine KC ?_
  refine LCode.block ?_
  refine Ks (α:=Nat×TrRow×TrRow) (fun x=>x.1≤12∧capOk x.2.2 (pkL f N x.1)) (fun x=>⟨[(2,.int .i64 ((N:Nat):Int)),(3,.slice (some ⟨pb,po,none⟩) pn pc),(9,.pointer (some ⟨b9,0,none⟩)),(11,.pointer (some ⟨bt0,0,none⟩)),(13,.pointer (some ⟨b13,0,none⟩)),(14,trV (some tb0)),(16,.int .i64 ((x.1:Nat):Int)),(15,trSl x.2.2 (pkL f N x.1).length)],[trI (some tb0) x.2.1 (pkL f N x.1),evI x.2.2 (pkL f N x.1),.blk bt0 ⟨true,[.slice (some ⟨br0,0,none⟩) N cap0],116,(0,0)⟩,.blk br0 ⟨true,tabL (mulE V P) N++rest0,35,(0,0)⟩,.blk b9 ⟨true,crvL Q V,26,(0,0)⟩,.blk b13 ⟨true,rpL (numV qpa (xv P)) (numV qpb (yv P)) (iv P),38,(0,0)⟩,crvI Q V,numT qpa (xv P),numT qpb (yv P),.blk pb ⟨false,cs,pty,pfz⟩]⟩) (fun x=>12-x.1) ((0,none,none)) (⟨by decide,trivial⟩) (Kq ⟨rfl,rfl,rfl,rfl,rfl,rfl,rfl,rfl,trivial⟩ mS) ?_
  rintro x ⟨hx1,hx2⟩
  refine KB ?_
  refine KB ?_
  rcases (show (¬ x.1<pn)∨(x.1<pn∧¬ x.1<12)∨(x.1<pn∧x.1<12) by omega) with h99|⟨h99,h102⟩|⟨hip,h102⟩
  ·
    have hL:=pkL_le f N hN x.1
    have hLm:(pkL f N x.1).length≤80000000:=by omega
    refine KA ?_
    refine oM ?_
    refine oM ?_
    refine oP (KAC Try.underlying79 rfl) ?_
    refine oP (KF (v:=.bool false) rfl rfl (br_f KAT (h99))) ?_
    refine oM ?_
    refine oK ?_
    refine oK ?_
    refine oP (Kh rfl rfl) ?_
    refine KC ?_
    refine KR rfl ?_
    refine Kp ?_
    refine KB (KA ?_)
    refine oM ?_
    refine oS (cC rfl en_56 rfl (fun w hw=>bringsC (c_trEvents tb0 x.2.1 ((pkL f N x.1)) w (mC hw) (by omega)) _) ?_)
    rintro _ _ ⟨qe,rfl,rfl⟩
    refine oM ?_
    refine oS (cF rfl en_55 rfl (fun w hw=>c_same qe x.2.2 (pkL f N x.1) w (mC hw) (mC hw) (by omega)) ?_)
    refine oM ?_
    refine oGS (cF rfl en_28 rfl (fun w hw=>c_awake16 w) ?_)
    refine oP (Kn rfl rfl) ?_
    refine oA ?_
    refine KC (KM ?_)
    refine ⟨[_],.cons rfl .nil,fun a w' hr=>⟨?_,hr.fr.below⟩⟩
    rfl
  ·
    have hL:=pkL_le f N hN x.1
    have hLm:(pkL f N x.1).length≤80000000:=by omega
    refine KA ?_
    refine oM ?_
    refine oM ?_
    refine oP (KAC Try.underlying79 rfl) ?_
    refine oP (KF (v:=.bool true) rfl rfl (br_t KAT (h99))) ?_
    refine oM ?_
    refine oGM ?_
    refine oGP (KF (v:=.bool false) rfl rfl (br_f (KAT (b:=12)) (h102))) ?_
    refine oP (Kn rfl rfl) ?_
    refine KC ?_
    refine KR rfl ?_
    refine Kp ?_
    refine KB (KA ?_)
    refine oM ?_
    refine oS (cC rfl en_56 rfl (fun w hw=>bringsC (c_trEvents tb0 x.2.1 ((pkL f N x.1)) w (mC hw) (by omega)) _) ?_)
    rintro _ _ ⟨qe,rfl,rfl⟩
    refine oM ?_
    refine oS (cF rfl en_55 rfl (fun w hw=>c_same qe x.2.2 (pkL f N x.1) w (mC hw) (mC hw) (by omega)) ?_)
    refine oM ?_
    refine oGS (cF rfl en_28 rfl (fun w hw=>c_awake16 w) ?_)
    refine oP (Kn rfl rfl) ?_
    refine oA ?_
    refine KC (KM ?_)
    refine ⟨[_],.cons rfl .nil,fun a w' hr=>⟨?_,hr.fr.below⟩⟩
    rfl
  ·
    have hL:=pkL_le f N hN x.1
    have hLm:(pkL f N x.1).length≤80000000:=by omega
    refine KA ?_
    refine oM ?_
    refine oM ?_
    refine oP (KAC Try.underlying79 rfl) ?_
    refine oP (KF (v:=.bool true) rfl rfl (br_t KAT (hip))) ?_
    refine oM ?_
    refine oGM ?_
    refine oGP (KF (v:=.bool true) rfl rfl (br_t (KAT (b:=12)) (h102))) ?_
    refine oP (Kn rfl rfl) ?_
    refine KC ?_
    refine Kf rfl ?_
    refine KT ?_
    refine KB ?_
    refine LCode.block ?_
    refine KB ?_
    rcases (show (f x.1<0∨(N:Int)≤f x.1)∨(0≤f x.1∧f x.1<N) by omega) with hi|⟨hi1,hi2⟩
    ·
      have hout:=pkL_out (f:=f) (N:=N) hi
      refine KA ?_
      refine oM ?_
      refine oM ?_
      refine oM ?_
      refine oM ?_
      refine oP (Det.indexS Try.underlying79 sz_3 rfl rfl hip) ?_
      refine oD (Det.load (v:=.int .i64 (f x.1)) rfl mM (by exact KL Try.underlying3 rfl (hf _ hip))) ?_
      refine oS (cF rfl en_34 rfl (fun w hw=>c_tabPick_bad (some tb0) bt0 br0 cap0 N (f x.1) w (mC hw) hi) ?_)
      refine oM ?_
      refine oP (KW rfl rfl) ?_
      refine oP (KW rfl rfl) ?_
      refine oS (mk (KX zr_35) (fun b17=>?_))
      refine KV rfl (sA rfl rfl sz_35 (by exact Kg _ _ _) (hl:=by exact KN _ _ _) (h:=?_))
      refine oA ?_
      refine KC ?_
      refine KB (KA ?_)
      refine oM ?_
      refine oM ?_
      refine oM ?_
      refine oP (Det.indexS Try.underlying79 sz_3 rfl rfl hip) ?_
      refine oD (Det.load (v:=.int .i64 (f x.1)) rfl mM (by exact KL Try.underlying3 rfl (hf _ hip))) ?_
      refine oS (cF rfl en_34 rfl (fun w hw=>c_tabPick_bad none bt0 br0 cap0 N (f x.1) w (mC hw) hi) ?_)
      refine oM ?_
      refine oP (KW rfl rfl) ?_
      refine oP (KW rfl rfl) ?_
      refine oS (mk (KX zr_35) (fun b19=>?_))
      refine KV rfl (sA rfl rfl sz_35 (by exact Kg _ _ _) (hl:=by exact KN _ _ _) (h:=?_))
      refine oA ?_
      refine KC ?_
      refine KB ?_
      refine KB ?_
      rcases (show f x.1<0∨(0≤f x.1∧(N:Int)≤f x.1) by omega) with g1|⟨g1,g2⟩
      ·
        refine KA ?_
        refine oM ?_
        refine oM ?_
        refine oP (Det.indexS Try.underlying79 sz_3 rfl rfl hip) ?_
        refine oD (Det.load (v:=.int .i64 (f x.1)) rfl mM (by exact KL Try.underlying3 rfl (hf _ hip))) ?_
        refine oP (KF (v:=.bool true) rfl rfl (by simp [Kw]; omega)) ?_
        refine oM ?_
        refine oK ?_
        refine oK ?_
        refine oK ?_
        refine oK ?_
        refine oK ?_
        refine oK ?_
        refine oP (Kn rfl rfl) ?_
        refine KC ?_
        refine Kf rfl ?_
        refine KB ?_
        refine KB (KA ?_)
        refine oM ?_
        refine oS (cF rfl en_33 rfl (fun w hw=>c_Num _ w) ?_)
        refine oP (KF (v:=.bool false) rfl rfl (br_f (br_neq (b:=1603)) (by decide))) ?_
        refine oM ?_
        refine oGM ?_
        refine oGS (cF rfl en_33 rfl (fun w hw=>c_Num _ w) ?_)
        refine oGP (KF (v:=.bool false) rfl rfl (br_f (br_neq (b:=1603)) (by decide))) ?_
        refine oP (Kh rfl rfl) ?_
        refine oM ?_
        refine KAQ rfl rfl (dL rfl (hv:=by exact KI Try.underlying35 rfl sz_35)) (Nb rfl) ?_
        refine oGP (KK (Ky pl_35 zr_35 rfl rfl) (show _ = ptV 0 0 false from pt_zero)) ?_
        refine oGP (KK (Det.nea (by kernel_rfl) (fun w=>eq_pt_t zero_w9 zero_w9 10000 (by decide) w) rfl rfl) (show _ = Value.bool false by rfl)) ?_
        refine oP (Kh rfl rfl) ?_
        refine KC ?_
        refine KR rfl ?_
        refine KT ?_
        refine Kp ?_
        refine KA ?_
        refine oM ?_
        refine oP (KF rfl rfl (Kv (b:=1) (by omega))) ?_
        refine oA ?_
        refine KC ?_
        exact ⟨(x.1+1,x.2.1,x.2.2),⟨by dsimp only; omega,by dsimp only; rw [hout]; exact hx2⟩,by dsimp only; omega,by dsimp only; rw [hout]; exact Kq ⟨rfl,rfl,rfl,rfl,rfl,rfl,rfl,rfl,trivial⟩ mS⟩
      ·
        refine KA ?_
        refine oM ?_
        refine oM ?_
        refine oP (Det.indexS Try.underlying79 sz_3 rfl rfl hip) ?_
        refine oD (Det.load (v:=.int .i64 (f x.1)) rfl mM (by exact KL Try.underlying3 rfl (hf _ hip))) ?_
        refine oP (KF (v:=.bool false) rfl rfl (by simp [Kw]; omega)) ?_
        refine oM ?_
        refine oGM ?_
        refine oGM ?_
        refine oGP (Det.indexS Try.underlying79 sz_3 rfl rfl hip) ?_
        refine KAQ rfl rfl (Det.load (v:=.int .i64 (f x.1)) rfl mM (by exact KL Try.underlying3 rfl (hf _ hip))) (Nb rfl) ?_
        refine oGM ?_
        refine oGP (KF (v:=.bool true) rfl rfl (by simp [Kw]; omega)) ?_
        refine oP (Kh rfl rfl) ?_
        refine KC ?_
        refine Kf rfl ?_
        refine KB ?_
        refine KB (KA ?_)
        refine oM ?_
        refine oS (cF rfl en_33 rfl (fun w hw=>c_Num _ w) ?_)
        refine oP (KF (v:=.bool false) rfl rfl (br_f (br_neq (b:=1603)) (by decide))) ?_
        refine oM ?_
        refine oGM ?_
        refine oGS (cF rfl en_33 rfl (fun w hw=>c_Num _ w) ?_)
        refine oGP (KF (v:=.bool false) rfl rfl (br_f (br_neq (b:=1603)) (by decide))) ?_
        refine oP (Kh rfl rfl) ?_
        refine oM ?_
        refine KAQ rfl rfl (dL rfl (hv:=by exact KI Try.underlying35 rfl sz_35)) (Nb rfl) ?_
        refine oGP (KK (Ky pl_35 zr_35 rfl rfl) (show _ = ptV 0 0 false from pt_zero)) ?_
        refine oGP (KK (Det.nea (by kernel_rfl) (fun w=>eq_pt_t zero_w9 zero_w9 10000 (by decide) w) rfl rfl) (show _ = Value.bool false by rfl)) ?_
        refine oP (Kh rfl rfl) ?_
        refine KC ?_
        refine KR rfl ?_
        refine KT ?_
        refine Kp ?_
        refine KA ?_
        refine oM ?_
        refine oP (KF rfl rfl (Kv (b:=1) (by omega))) ?_
        refine oA ?_
        refine KC ?_
        exact ⟨(x.1+1,x.2.1,x.2.2),⟨by dsimp only; omega,by dsimp only; rw [hout]; exact hx2⟩,by dsimp only; omega,by dsimp only; rw [hout]; exact Kq ⟨rfl,rfl,rfl,rfl,rfl,rfl,rfl,rfl,trivial⟩ mS⟩
    ·
      obtain ⟨j,hj⟩:∃ j:Nat,f x.1 = j:=⟨(f x.1).toNat,by omega⟩
      have hjN:j<N:=by omega
      have hin:=pkL_in (f:=f) (N:=N) (i:=x.1) (by omega) (by omega)
      have hdj:D.nw j≤1000:=Nat.le_trans (D.nw_le (n:=2) (show j<2^(32*2) by omega)) (by decide)
      refine KA ?_
      refine oM ?_
      refine oM ?_
      refine oM ?_
      refine oM ?_
      refine oP (Det.indexS Try.underlying79 sz_3 rfl rfl hip) ?_
      refine oD (Det.load (v:=.int .i64 ((j:Nat):Int)) rfl mM (by exact KL Try.underlying3 rfl ((hf _ hip).trans (by rw [hj])))) ?_
      refine KV rfl (LStepW.callT (first:=[]) (b:=some tb0) (r:=x.2.1) (l:=(pkL f N x.1)) (l':=(pkL f N x.1)++List.range N) rfl en_34 rfl (Nb rfl) mP (fun w hw hn=>c_tabPick (some tb0) x.2.1 ((pkL f N x.1)) bt0 br0 cap0 rest0 V hok (mulE V P) N j hjN (by omega) w (mC hw) (mC hw) (mC hw) (hn _ mM) (hn _ mM) (by omega)) ?_)
      intro r1
      refine oM ?_
      refine oP (KW rfl rfl) ?_
      refine oP (KW rfl rfl) ?_
      refine oS (mk (KX zr_35) (fun b17=>?_))
      refine KV rfl (sA rfl rfl sz_35 (by exact Kg _ _ _) (hl:=by exact KN _ _ _) (h:=?_))
      refine oA ?_
      refine KC ?_
      refine KB (KA ?_)
      refine oM ?_
      refine oM ?_
      refine oM ?_
      refine oP (Det.indexS Try.underlying79 sz_3 rfl rfl hip) ?_
      refine oD (Det.load (v:=.int .i64 ((j:Nat):Int)) rfl mM (by exact KL Try.underlying3 rfl ((hf _ hip).trans (by rw [hj])))) ?_
      refine oS (cF rfl en_34 rfl (fun w hw=>c_tabPickN bt0 br0 cap0 rest0 V hok (mulE V P) N j ((pmul V.A P j)) w hjN (by omega) (mC hw) (mC hw) (rfl)) ?_)
      refine oM ?_
      refine oP (KW rfl rfl) ?_
      refine oP (KW rfl rfl) ?_
      refine oS (mk (KX zr_35) (fun b19=>?_))
      refine KV rfl (sA rfl rfl sz_35 (by exact Kg _ _ _) (hl:=by exact KN _ _ _) (h:=?_))
      refine oA ?_
      refine KC ?_
      refine KB ?_
      refine KB (KA ?_)
      refine oM ?_
      refine oM ?_
      refine oP (Det.indexS Try.underlying79 sz_3 rfl rfl hip) ?_
      refine oD (Det.load (v:=.int .i64 ((j:Nat):Int)) rfl mM (by exact KL Try.underlying3 rfl ((hf _ hip).trans (by rw [hj])))) ?_
      refine oP (KF (v:=.bool false) rfl rfl (by simp [Kw] <;> omega)) ?_
      refine oM ?_
      refine oGM ?_
      refine oGM ?_
      refine oGP (Det.indexS Try.underlying79 sz_3 rfl rfl hip) ?_
      refine KAQ rfl rfl (Det.load (v:=.int .i64 ((j:Nat):Int)) rfl mM (by exact KL Try.underlying3 rfl ((hf _ hip).trans (by rw [hj])))) (Nb rfl) ?_
      refine oGM ?_
      refine oGP (KF (v:=.bool false) rfl rfl (br_f br_geq (by omega))) ?_
      refine oP (Kh rfl rfl) ?_
      refine KC ?_
      refine KR rfl ?_
      refine KT ?_
      refine KB ?_
      refine rD [10] ?_
      refine aD 0 rfl (dL rfl (hv:=by exact KI Try.underlying26 rfl sz_26)) ?_
      refine aM 1 ?_
      refine aM 2 ?_
      refine aP 3 rfl (Det.indexS Try.underlying79 sz_3 rfl rfl hip) ?_
      refine aD 4 rfl (Det.load (v:=.int .i64 ((j:Nat):Int)) rfl mM (by exact KL Try.underlying3 rfl ((hf _ hip).trans (by rw [hj])))) ?_
      refine aD 6 rfl (dL rfl (hv:=by exact KI Try.underlying38 rfl sz_38)) ?_
      refine LAny.toP ?_
      refine KAU 9 rfl (.inl zr_35) (Nb rfl) rfl rfl rfl ?_
      refine Kx 5 rfl rfl rfl (Nb rfl) (by kernel_rfl) rfl (LExt.callZ (first:=[]) rfl en_39 rfl (fun w hw hs=>(c_n_Small (j) w (by omega)).mono fun e w' h=>KAV (Old.nil _) hs h)) ?_
      rintro _ _ ⟨qs,rfl,rfl,hns⟩
      refine Kx 7 rfl rfl rfl (Nb rfl) (by kernel_rfl) rfl (LExt.callZ (first:=[]) rfl en_38 rfl (fun w hw hs=>(c_r_Times Q V qs (j) qpa qpb (P) ((pmul V.A P j)) w (mC hw) hok (mC hw) (by omega) (mC hw) (mC hw) (hP) (rfl)).mono fun e w' h=>Num2R.q (Old.pt mM mM (Old.nil _)) hs h)) ?_
      rintro _ _ ⟨qta,qtb,rfl,rfl,hnta,hntb⟩
      refine Kx 8 rfl rfl rfl (Nb rfl) (by kernel_rfl) rfl (KAD (first:=[]) rfl en_30 rfl (fun w hw=>c_r_OutP V qta qtb ((pmul V.A P j)) w (mC hw) (mC hw))) ?_
      rintro _ _ ⟨rfl,rfl⟩
      refine pE (fun b21=>?_)
      refine LAnyP.toAny ?_
      refine aL 10 rfl (sA rfl rfl sz_35 (by exact Kg _ _ _) (hl:=by exact KN _ _ _) (h:=?_))
      refine aE ?_
      refine KB ?_
      refine KB (KA ?_)
      refine oM ?_
      refine oS (cF rfl en_33 rfl (fun w hw=>c_Num _ w) ?_)
      refine oP (KF (v:=.bool false) rfl rfl (br_f (br_neq (b:=0)) (by decide))) ?_
      refine oM ?_
      refine oGM ?_
      refine oGS (cF rfl en_33 rfl (fun w hw=>c_Num _ w) ?_)
      refine oGP (KF (v:=.bool false) rfl rfl (br_f (br_neq (b:=0)) (by decide))) ?_
      refine oP (Kh rfl rfl) ?_
      refine oM ?_
      refine KAQ rfl rfl (dL rfl (hv:=by exact KI Try.underlying35 rfl sz_35)) (Nb rfl) ?_
      refine KAQ rfl rfl (dL rfl (hv:=by exact KI Try.underlying35 rfl sz_35)) (Nb rfl) ?_
      refine oGP (KK (Det.nea (by kernel_rfl) (fun w=>eq_ptP_t hok rfl 10000 (by decide) w) rfl rfl) (show _ = Value.bool false by rfl)) ?_
      refine oP (Kh rfl rfl) ?_
      refine oM ?_
      refine KAQ rfl rfl (dL rfl (hv:=by exact KI Try.underlying35 rfl sz_35)) (Nb rfl) ?_
      refine KAQ rfl rfl (dL rfl (hv:=by exact KI Try.underlying35 rfl sz_35)) (Nb rfl) ?_
      refine oGP (KK (Det.nea (by kernel_rfl) (fun w=>eq_ptP_t hok rfl 10000 (by decide) w) rfl rfl) (show _ = Value.bool false by rfl)) ?_
      refine oP (Kh rfl rfl) ?_
      refine KC ?_
      refine KR rfl ?_
      refine KT ?_
      refine KB (KA ?_)
      refine oP (KZ (v:=.int .i64 ((0:Nat):Int)) rfl) ?_
      refine KC ?_
      refine LCode.block ?_
      refine Ks (α:=Nat×TrRow) (fun y=>y.1≤N∧capOk y.2 ((pkL f N x.1)++List.range y.1)) (fun y=>⟨[(2,.int .i64 ((N:Nat):Int)),(3,.slice (some ⟨pb,po,none⟩) pn pc),(9,.pointer (some ⟨b9,0,none⟩)),(11,.pointer (some ⟨bt0,0,none⟩)),(13,.pointer (some ⟨b13,0,none⟩)),(14,trV (some tb0)),(16,.int .i64 ((x.1:Nat):Int)),(15,trSl y.2 ((pkL f N x.1)++List.range y.1).length),(22,.int .i64 ((y.1:Nat):Int))],[trI (some tb0) r1 ((pkL f N x.1)++List.range N),evI y.2 ((pkL f N x.1)++List.range y.1),.blk bt0 ⟨true,[.slice (some ⟨br0,0,none⟩) N cap0],116,(0,0)⟩,.blk br0 ⟨true,tabL (mulE V P) N++rest0,35,(0,0)⟩,.blk b9 ⟨true,crvL Q V,26,(0,0)⟩,.blk b13 ⟨true,rpL (numV qpa (xv P)) (numV qpb (yv P)) (iv P),38,(0,0)⟩,crvI Q V,numT qpa (xv P),numT qpb (yv P),.blk pb ⟨false,cs,pty,pfz⟩]⟩) (fun y=>N-y.1) ((0,x.2.2)) (⟨Nat.zero_le _,by dsimp only; rw [List.range_zero,List.append_nil]; exact hx2⟩) (by dsimp only; rw [List.range_zero,List.append_nil]; exact Kq ⟨rfl,rfl,rfl,rfl,rfl,rfl,rfl,rfl,rfl,trivial⟩ mS) ?_
      rintro y ⟨hy1,hyc⟩
      refine KB ?_
      refine KB (KA ?_)
      refine oM ?_
      refine oM ?_
      refine oP (KF rfl rfl (KAT)) ?_
      refine KC ?_
      first|refine KS rfl (fun h180=>?_) (fun h180=>?_)|refine KU rfl (fun h180=>?_) (fun h180=>?_)
      ·
        refine KT ?_
        refine KB ?_
        refine LCode.block ?_
        refine KA ?_
        refine oM ?_
        refine oM ?_
        refine oP (KK (Ky pl_83 zr_83 rfl rfl) (show _ = Value.agg (evK y.1).toArray from rfl)) ?_
        refine oS (mk (Makes.row (vs:=[(0,.agg (evK y.1).toArray)]) Try.underlying81 inf_ev (by decide) row_ev rfl (fill_ev y.1) (fun h=>by cases h)) (fun b186=>?_))
        refine KV rfl (LStepW.appendEv (q:=y.2) (l:=((pkL f N x.1)++List.range y.1)) (k:=y.1) rfl rfl mP mM hyc (by rw [List.length_append,List.length_range]; omega) (Nb rfl) ?_)
        intro q1 hq1
        refine oA ?_
        refine KC ?_
        refine KA ?_
        refine oM ?_
        refine oP (KF rfl rfl (Kv (b:=1) (by omega))) ?_
        refine oA ?_
        refine KC ?_
        rw [← range_snoc] at hq1 ⊢
        exact ⟨(y.1+1,q1),⟨by dsimp only; omega,hq1⟩,by dsimp only; omega,Kq ⟨rfl,rfl,rfl,rfl,rfl,rfl,rfl,rfl,rfl,trivial⟩ mS⟩
      ·
        refine Kp ?_
        refine KA ?_
        refine oM ?_
        refine oP (KF rfl rfl (Kv (b:=1) (by omega))) ?_
        refine oA ?_
        refine KC ?_
        obtain ⟨yk,yq⟩:=y
        obtain rfl:yk = N:=by dsimp only at hy1 h180; omega
        exact ⟨(x.1+1,r1,yq),⟨by dsimp only; omega,by dsimp only; rw [hin]; exact hyc⟩,by dsimp only; omega,by dsimp only; rw [hin]; exact Kq ⟨rfl,rfl,rfl,rfl,rfl,rfl,rfl,rfl,trivial⟩ mS⟩
theorem c_Tables_zero (id:Int) (V:Cv) (P:Pt V.p) (N:Nat) (pa:Option Addr) (pc:Nat) (w:World) (h:cvI id = some V) (hP:On V.A V.B P) (hN0:1≤N) (hN:N≤16):Calls Try.prog 12 ([.int .i64 id,ptP P,.int .i64 ((N:Nat):Int),.slice pa 0 pc]:List Value).toArray w (fun e w'=>e = .returned (.bool true)∧Below w.heap.size w w'):=by
  obtain ⟨hok,hid⟩:=cvI_ok h
  refine Ki (N:=195) (rs:=[.tmp 8]) [] Try.func12 rfl Try.ntmps12 Try.results12 (Nb rfl) trivial rfl ?_
  show LCode _ _ _ ⟨_,_⟩ _
  refine KB (KA ?_)
  refine oS (mB (fun b5=>?_))
  refine oA ?_
  refine KC ?_
  refine KB (KA ?_)
  refine oM ?_
  refine oS (LStep.callZ (Post:=fun v its=>∃ Q,v = .tuple #[.agg (crvL Q V).toArray,.bool true]∧its = [crvI Q V]) (first:=[]) rfl en_29 rfl (Nb rfl) (fun w1 hw hs=>(c_r_Get _ V w1 h).mono fun e w' ⟨Q,h1,h2,h3,h4⟩=>⟨_,_,⟨Q,rfl,rfl⟩,h1,Brings.nums h4 (by intro x hx; simp at hx; subst hx; exact h2) (by intro x hx; simp at hx; subst hx; rfl) (by intro x hx k hk; simp at hx; subst hx; exact .inl (h3 k hk))⟩) ?_)
  rintro _ _ ⟨Q,rfl,rfl⟩
  refine oM ?_
  refine oP (KW rfl rfl) ?_
  refine oP (KW rfl rfl) ?_
  refine oS (mk (KX zr_26) (fun b9=>?_))
  refine KV rfl (sA rfl rfl sz_26 (by repeat (first|exact KO|refine KJ rfl ?_)) (hl:=by rfl) (h:=?_))
  refine oA ?_
  refine KC ?_
  refine KB (KA ?_)
  refine oM ?_
  refine oD (dL rfl (hv:=by exact KI Try.underlying35 rfl sz_35)) ?_
  refine oM ?_
  refine oS (cC rfl en_32 rfl (fun w hw=>bringsC (c_tabNew id V (P) N w h hP hN0 hN) _) ?_)
  rintro _ _ ⟨bt0,br0,cap0,rest0,rfl,rfl⟩
  refine oM ?_
  refine oP (KW rfl rfl) ?_
  refine oP (KW rfl rfl) ?_
  refine oA ?_
  refine oA ?_
  refine KC ?_
  refine KB (KA ?_)
  refine oD (dL rfl (hv:=by exact KI Try.underlying35 rfl sz_35)) ?_
  refine oS (cZ rfl en_44 rfl (fun w hw hs=>(c_r_InP V hok (P) w).mono fun e w' h=>Num2R.q (Old.nil _) hs h) ?_)
  rintro _ _ ⟨qpa,qpb,rfl,rfl,hnpa,hnpb⟩
  refine oS (mk (KX zr_38) (fun b13=>?_))
  refine KV rfl (sA rfl rfl sz_38 (by repeat (first|exact KO|refine KJ rfl ?_)) (hl:=by rfl) (h:=?_))
  refine KC ?_
  refine KB ?_
  refine LCode.block ?_
  refine KB (KA ?_)
  refine oM ?_
  refine oP (KK (Det.not rfl) (show _ = Value.bool false from rfl)) ?_
  refine oA ?_
  refine KC ?_
  refine KR rfl ?_
  refine KB (KA ?_)
  refine oD (dL rfl (hv:=by exact KI Try.underlying26 rfl sz_26)) ?_
  refine oD (dL rfl (hv:=by exact KI Try.underlying38 rfl sz_38)) ?_
  refine oS (cF rfl en_54 rfl (fun w hw=>c_r_OnP Q V qpa qpb (P) w (mC hw) hok (mC hw) (mC hw) (hP)) ?_)
  refine oP (KK (Det.not rfl) (show _ = Value.bool false from rfl)) ?_
  refine oA ?_
  refine KC ?_
  refine KR rfl ?_
  refine KB (KA ?_)
  refine oM ?_
  refine oP (KF (v:=.bool false) rfl rfl (br_f (KAT (b:=1)) (by omega))) ?_
  refine oM ?_
  refine oGM ?_
  refine oGP (KF (v:=.bool false) rfl rfl (br_f (br_gtr (b:=16)) (by omega))) ?_
  refine oP (Kh rfl rfl) ?_
  refine oA ?_
  refine KC ?_
  refine KR rfl ?_
  refine KT ?_
  refine KB ?_
  refine KB (KA ?_)
  refine oM ?_
  refine oS (cF rfl en_33 rfl (fun w hw=>c_Num _ w) ?_)
  refine oP (KF (v:=.bool false) rfl rfl (br_f (br_neq (b:=0)) (by decide))) ?_
  refine oM ?_
  refine oGM ?_
  refine oGP (KK (Det.eqp Try.underlying40 rfl rfl) (show _ = Value.bool false by rfl)) ?_
  refine oP (Kh rfl rfl) ?_
  refine oM ?_
  refine oGM ?_
  refine oGS (cF rfl en_35 rfl (fun w hw=>c_tabSize bt0 br0 N cap0 w (mC hw)) ?_)
  refine oGM ?_
  refine oGP (KF (v:=.bool false) rfl rfl (br_f br_neq (by omega))) ?_
  refine oP (Kh rfl rfl) ?_
  refine KC ?_
  refine KR rfl ?_
  refine KT ?_
  refine KB (KA ?_)
  refine oS (cC rfl en_36 rfl (fun w hw=>bringsC (c_trNew w) _) ?_)
  rintro _ _ ⟨tb0,rfl,rfl⟩
  refine oA ?_
  refine KC ?_
  refine KB (KA ?_)
  refine oA ?_
  refine KC ?_
  refine KB ?_
  refine KB ?_
  refine LCode.evNil ?_
  refine KA ?_
  refine oP (KZ (v:=.int .i64 ((0:Nat):Int)) rfl) ?_
  refine KC ?_
  refine LCode.block ?_
  refine Ks (α:=Nat×TrRow×TrRow) (fun x=>x.1≤12∧capOk x.2.2 (pkL (fun _=>0) N x.1)) (fun x=>⟨[(2,.int .i64 ((N:Nat):Int)),(3,.slice pa 0 pc),(9,.pointer (some ⟨b9,0,none⟩)),(11,.pointer (some ⟨bt0,0,none⟩)),(13,.pointer (some ⟨b13,0,none⟩)),(14,trV (some tb0)),(16,.int .i64 ((x.1:Nat):Int)),(15,trSl x.2.2 (pkL (fun _=>0) N x.1).length)],[trI (some tb0) x.2.1 (pkL (fun _=>0) N x.1),evI x.2.2 (pkL (fun _=>0) N x.1),.blk bt0 ⟨true,[.slice (some ⟨br0,0,none⟩) N cap0],116,(0,0)⟩,.blk br0 ⟨true,tabL (mulE V P) N++rest0,35,(0,0)⟩,.blk b9 ⟨true,crvL Q V,26,(0,0)⟩,.blk b13 ⟨true,rpL (numV qpa (xv P)) (numV qpb (yv P)) (iv P),38,(0,0)⟩,crvI Q V,numT qpa (xv P),numT qpb (yv P)]⟩) (fun x=>12-x.1) ((0,none,none)) (⟨by decide,trivial⟩) (Kq ⟨rfl,rfl,rfl,rfl,rfl,rfl,rfl,rfl,trivial⟩ mS) ?_
  rintro x ⟨hx1,hx2⟩
  refine KB ?_
  refine KB ?_
  have hL:=pkL_le (fun _=>0) N hN x.1
  refine KA ?_
  refine oM ?_
  refine oM ?_
  refine oP (KAC Try.underlying79 rfl) ?_
  refine oP (KF (v:=.bool false) rfl rfl (br_f KAT (Nat.not_lt_zero _))) ?_
  refine oM ?_
  refine oK ?_
  refine oK ?_
  refine oP (Kh rfl rfl) ?_
  refine KC ?_
  refine KR rfl ?_
  refine Kp ?_
  refine KB (KA ?_)
  refine oM ?_
  refine oS (cC rfl en_56 rfl (fun w hw=>bringsC (c_trEvents tb0 x.2.1 ((pkL (fun _=>0) N x.1)) w (mC hw) (by omega)) _) ?_)
  rintro _ _ ⟨qe,rfl,rfl⟩
  refine oM ?_
  refine oS (cF rfl en_55 rfl (fun w hw=>c_same qe x.2.2 (pkL (fun _=>0) N x.1) w (mC hw) (mC hw) (by omega)) ?_)
  refine oM ?_
  refine oGS (cF rfl en_28 rfl (fun w hw=>c_awake16 w) ?_)
  refine oP (Kn rfl rfl) ?_
  refine oA ?_
  refine KC (KM ?_)
  refine ⟨[_],.cons rfl .nil,fun a w' hr=>⟨?_,hr.fr.below⟩⟩
  rfl
def PickOk (w:World) (pa:Option Addr) (pn:Nat):Prop:=pn = 0∨∃ pb po cs ty fz,∃ f:Nat→Int,pa = some ⟨pb,po,none⟩∧(Item.blk pb ⟨false,cs,ty,fz⟩).holds w∧∀ i,i<pn→cs[i+po]? = some (.int .i64 (f i))
theorem cells_of {w:World} {b o:Nat} {v:Value} (h:w.cell? ⟨b,o,none⟩ = some v):∃ cs ty fz,w.heap[b]? = some (.cells cs ty fz):=by
  unfold World.cell? at h
  cases hb:w.heap[b]? with
  | none=>simp [hb] at h
  | some x =>
    cases x with
    | cells cs ty fz=>exact ⟨cs,ty,fz,rfl⟩
    | _=>simp [hb] at h
theorem picks_of {w:World} {a:Addr} {zs:List Int} {len:Nat} (hl:len≤zs.length) (hcell:∀ i,i<zs.length→w.cell? (a.add i) = some (.int .i64 (zs.getD i 0))):PickOk w (some a) len:=by
  rcases Nat.eq_zero_or_pos len with h0|h0
  · exact .inl h0
  · obtain ⟨b,off,rfl,hc⟩:=Go.ints_at hcell (by omega)
    obtain ⟨cs,ty,fz,hh⟩:=cells_of (hc 0 (by omega))
    refine .inr ⟨b,off,cs.toList,ty,fz,fun i=>zs.getD i 0,rfl,?_,fun i hi=>?_⟩
    · show w.heap[b]? = some (.cells cs.toList.toArray ty fz)
      rw [hh,Array.toArray_toList]
    · have h1:=hc i (by omega)
      unfold World.cell? at h1
      rw [hh] at h1
      rw [Nat.add_comm,Array.getElem?_toList]
      simpa using h1
theorem c_Tables (id n:Int) (X Y:Nat) (i:Bool) (pa:Option Addr) (pn pc:Nat) (w:World) (hX:X<W9) (hY:Y<W9) (hp:PickOk w pa pn):Calls Try.prog 12 ([.int .i64 id,ptV X Y i,.int .i64 n,.slice pa pn pc]:List Value).toArray w (fun e w'=>e = .returned (.bool true)∧Below w.heap.size w w'):=by
  cases h:cvI id with
  | none=>exact c_Tables_none id n X Y i pa pn pc w h hX hY
  | some V =>
    obtain ⟨hok,-⟩:=cvI_ok h
    cases ho:onB V.p V.a V.b X Y i with
    | false=>exact c_Tables_off id n V X Y i pa pn pc w h hX hY ho
    | true =>
      obtain ⟨P,hP,h1,h2,h3⟩:=onB_pt (p:=V.p) ho
      subst h1 h2 h3
      by_cases hn:n<1∨16<n
      · exact c_Tables_size id n V P pa pn pc w h hP hn
      · obtain ⟨N,rfl⟩:∃ N:Nat,n = N:=⟨n.toNat,by omega⟩
        rcases hp with rfl|⟨pb,po,cs,ty,fz,f,rfl,hb,hf⟩
        · exact c_Tables_zero id V P N pa pc w h hP (by omega) (by omega)
        · exact c_Tables_ok id V P N pb po pn pc cs ty fz f w h hP (by omega) (by omega) hb hf
end Go.Proofs.Ytlmiolnccgjjjaa
set_option maxRecDepth 100000
namespace Go.Proofs.Ytlmiolnccgjjjaa
open Go
def ioChars:List Char:=([104,97,114,110,101,115,115,32,51,100,97,51,56,97,97,97,101,50,102,56,55,53,98,101,100,56,56,57,99,51,57,97,102,97,100,99,99,98,102,50,102,97,48,49,100,55,56,97,101,50,48,102,97,99,53,57,102,57,56,48,52,102,53,99,98,98,56,100,52,97,97,98,32,99,117,116,32,97,116,32,99,117,114,118,101,116,47,99,117,114,118,101,116,108,97,119,49,54,46,84,97,98,108,101,83,105,122,101,115,32,99,117,114,118,101,116,47,99,117,114,118,101,116,108,97,119,49,54,46,84,97,98,108,101,78,105,108,32,99,117,114,118,101,116,47,99,117,114,118,101,116,108,97,119,50,49,46,83,101,99,49,115,32,99,117,114,118,101,116,47,99,117,114,118,101,116,108,97,119,50,49,46,83,101,99,49,66,97,99,107,32,99,117,114,118,101,116,47,99,117,114,118,101,116,108,97,119,50,49,46,83,101,99,49,84,105,110,121,32,99,117,114,118,101,116,47,99,117,114,118,101,116,108,97,119,50,49,46,83,101,99,49,66,111,116,104,32,99,117,114,118,101,116,47,99,117,114,118,101,116,108,97,119,50,49,46,83,101,99,49,76,101,110,103,116,104,115,32,99,117,114,118,101,116,47,99,117,114,118,101,116,108,97,119,50,49,46,83,101,99,49,87,104,111,108,101,32,99,117,114,118,101,116,47,99,117,114,118,101,116,108,97,119,50,49,46,83,101,99,49,71,114,101,97,116,32,99,117,114,118,101,116,47,99,117,114,118,101,116,108,97,119,49,54,46,84,97,98,108,101,115,32,99,117,114,118,101,116,47,99,117,114,118,101,116,108,97,119,49,57,46,66,97,115,101,115,32,99,117,114,118,101,116,47,99,117,114,118,101,116,108,97,119,49,57,46,66,97,115,101,78,105,108,32,99,117,114,118,101,116,47,99,117,114,118,101,116,108,97,119,49,54,46,84,97,98,108,101,66,108,105,110,100,32,99,117,114,118,101,116,47,99,117,114,118,101,116,108,97,119,49,54,46,84,97,98,108,101,83,117,109,115,32,99,117,114,118,101,116,47,99,117,114,118,101,116,108,97,119,49,56,46,77,117,108,116,115,32,99,117,114,118,101,116,47,99,117,114,118,101,116,108,97,119,49,56,46,77,117,108,116,69,110,100,115,32,99,117,114,118,101,116,47,99,117,114,118,101,116,108,97,119,49,56,46,77,117,108,116,84,119,105,99,101,32,99,117,114,118,101,116,47,99,117,114,118,101,116,108,97,119,49,56,46,77,117,108,116,84,105,110,121,32,99,117,114,118,101,116,47,99,117,114,118,101,116,108,97,119,49,57,46,66,97,115,101,84,117,114,110,115,32,99,117,114,118,101,116,47,99,117,114,118,101,116,108,97,119,49,56,46,77,117,108,116,66,108,105,110,100,32,99,117,114,118,101,116,47,99,117,114,118,101,116,108,97,119,49,57,46,66,97,115,101,83,116,101,112,115,32,99,117,114,118,101,116,47,99,117,114,118,101,116,108,97,119,49,57,46,66,97,115,101,66,108,105,110,100,32,99,117,114,118,101,116,47,99,117,114,118,101,116,108,97,119,49,56,46,77,117,108,116,65,100,100,115,32,99,117,114,118,101,116,47,99,117,114,118,101,116,108,97,119,50,48,46,68,117,97,108,65,108,111,110,101,32,99,117,114,118,101,116,47,99,117,114,118,101,116,108,97,119,50,53,46,69,99,100,104,65,103,114,101,101,115]:List Nat).map Char.ofNat
theorem io_lit:Try.prog.initOrder = String.ofList ioChars:=by kernel_rfl
theorem io_list:Try.prog.initOrder.toList = ioChars:=by rw [io_lit,String.toList_ofList]
def cutW:List Char:=([99,117,116]:List Nat).map Char.ofNat
def ioRest:List (List Char):=(wordsSigns ioChars).drop 3
theorem io_words:behindMainWord (wordsSigns ioChars) = cutW :: ioRest:=by kernel_rfl
theorem io_strip (r:List (List Char)):stripLifts liftWords (cutW :: r) = ([],cutW :: r):=by kernel_rfl
theorem no_later:Try.prog.laysLater = false:=by kernel_rfl
theorem no_reflect:Try.prog.bearsReflect = false:=by kernel_rfl
theorem door_fits:Try.prog.doorFits [] = true:=by kernel_rfl
theorem and2 {a b:Bool} (h:a = true) (k:b = true):(a && b) = true:=by rw [h,k]; rfl
theorem or_right {a b:Bool} (h:b = true):(a || b) = true:=by rw [h]; cases a <;> rfl
theorem cut_is : (cutW == "cut".toList) = true := by kernel_rfl
theorem cut_gc : (cutW == "gc".toList) = false := by kernel_rfl
theorem cut_spec : (cutW == "spec".toList) = false := by kernel_rfl
theorem cut_carried : (cutW == "carried".toList) = false := by kernel_rfl
theorem head_carried (r : List (List Char)) : ((cutW :: r).head? == some "carried".toList) = false := cut_carried
theorem enter_of (P:Program) {r:List (List Char)} (h:behindMainWord (wordsSigns P.initOrder.toList) = cutW :: r) (h1:P.laysLater = false) (h2:P.bearsReflect = false) (h3:P.doorFits [] = true):P.mayEnter = true:=by
  unfold Program.mayEnter
  rw [h]
  dsimp only
  refine or_right (and2 (and2 (and2 (and2 ?_ ?_) ?_) ?_) ?_)
  · rw [io_strip]; exact cut_is
  · rw [io_strip,h1]; rfl
  · rw [io_strip,h2]; rfl
  · rw [io_strip]; rfl
  · rw [io_strip]; exact h3
theorem lifts_of (P:Program) {r:List (List Char)} (h:behindMainWord (wordsSigns P.initOrder.toList) = cutW :: r):(false == P.liftsFinal) = true:=by
  have hl:P.headLifts = []:=by
    unfold Program.headLifts
    rw [h,io_strip]
    simp only [ite_self]
  unfold Program.liftsFinal
  rw [h,hl]
  dsimp only
  rw [head_carried,Bool.false_and]
  rfl
theorem make_of (P:Program) {r:List (List Char)} (h:behindMainWord (wordsSigns P.initOrder.toList) = cutW :: r):(P.make == some .cut) = true:=by
  have:P.make = some .cut:=by
    unfold Program.make
    rw [h]
    dsimp only
    rw [if_neg (by rw [cut_gc,cut_spec]; exact fun h=>by cases h),if_pos (by rw [cut_is]; rfl)]
  rw [this]; rfl
theorem io_all:behindMainWord (wordsSigns Try.prog.initOrder.toList) = cutW :: ioRest:=by rw [io_list,io_words]
theorem fact_enter:Try.prog.mayEnter = true:=enter_of _ io_all no_later no_reflect door_fits
theorem fact_lifts:(false == Try.prog.liftsFinal) = true:=lifts_of _ io_all
theorem fact_make:(Try.prog.make == some .cut) = true:=make_of _ io_all
theorem fact_laid:laidOutB Try.prog = true:=by kernel_rfl
theorem fact_maps:mapsRowed Try.prog = true:=by kernel_rfl
theorem fact_heard:Try.prog.stopsHeard = true:=by kernel_rfl
end Go.Proofs.Ytlmiolnccgjjjaa
