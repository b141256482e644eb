/- Part 5 of what the proof leans on: a symbolic execution of the model, walks of the program's functions, and the mathematics. No condition. -/
import Derived.WalkKit
import Derived.Orders
import Derived.Laws.StructEq
import Derived.WalkSpells
import Derived.OrdersHeld
import Derived.KernelRfl
import Derived.Laws.Externs
import Derived.Laws.Bits64
import Derived.Laws.MakeOwn
import Derived.Laws.BytesString
import Derived.Carry
import Derived.WideShapes
import GoSem.Claim
import Derived.Test.YtljblbgogjieaaaProg
import Derived.Laws.AppendOwn
import Derived.Test.YtljblbgogjieaaaRows
import Derived.ProofKit
import Derived.OpenShut
import Derived.Test.YtljblbgogjieaaaG4
set_option linter.unusedVariables false
set_option linter.unusedSimpArgs false
set_option maxRecDepth 20000
namespace Go.Proofs.Ytljblbgogjieaaa
open Go Go.RowKit
open Grp
def pjF {p:Nat} (T:Fin p×Fin p×Fin p):Value:=pjV T.1.val T.2.1.val T.2.2.val
def pjFL {p:Nat} (T:Fin p×Fin p×Fin p):List Value:=pjL T.1.val T.2.1.val T.2.2.val
theorem fill_pj (X Y Z:Nat):fillL [(0,9),(9,9),(18,9)] (vec .u64 9 (fun _=>0)++(vec .u64 9 (fun _=>0)++vec .u64 9 (fun _=>0))) [(0,natV X),(1,natV Y),(2,natV Z)] = some (pjL X Y Z):=by
  refine KAk (A:=[]) (B:=vec .u64 9 (fun _=>0)) (D:=vec .u64 9 (fun _=>0)++vec .u64 9 (fun _=>0)) (cs:=natL X) rfl rfl (KH _) rfl rfl (KN _ _ _) ?_
  refine KAk (A:=natL X) (B:=vec .u64 9 (fun _=>0)) (D:=vec .u64 9 (fun _=>0)) (cs:=natL Y) rfl rfl (KH _) (by simp) (KH _) (KN _ _ _) ?_
  refine (KAk (A:=natL X++natL Y) (B:=vec .u64 9 (fun _=>0)) (D:=[]) (cs:=natL Z) rfl rfl (KH _) (by simp) (by simp [KH]) (KN _ _ _) rfl).trans ?_
  simp [pjL]
theorem fill_pjN (Y:Nat):fillL [(0,9),(9,9),(18,9)] (vec .u64 9 (fun _=>0)++(vec .u64 9 (fun _=>0)++vec .u64 9 (fun _=>0))) [(1,natV Y)] = some (pjL 0 Y 0):=by
  refine (KAk (A:=vec .u64 9 (fun _=>0)) (B:=vec .u64 9 (fun _=>0)) (D:=vec .u64 9 (fun _=>0)) (cs:=natL Y) rfl rfl (KH _) rfl (KN _ _ _) (KN _ _ _) rfl).trans ?_
  simp [pjL,natL,vec_zeros 9]
theorem c_None  (w:World)  : Calls Try.prog 158 ([]:List Value).toArray w (fun e w'=>e = .returned (pjV 0 1 0)∧Below w.heap.size w w'):=by
  refine KAC (N:=3) (rs:=[.cell 0 91]) [] Try.func158 rfl Try.ntmps158 Try.results158 (Nb rfl) trivial rfl ?_
  show LCode _ _ _ ⟨_,_⟩ _
  refine KE (KB ?_)
  refine KI rfl (KU (KQ (Kg zr_91) (Nb rfl) (fun b0=>?_)))
  refine KG ?_
  refine KE (KB ?_)
  refine KI rfl (KU (KR (first:=[]) rfl en_150 rfl (Nb rfl) (fun w hw=>c_nat_Small 1 (by decide) w) ?_))
  refine KA (KW (KAT pl_91 zr_91 rfl (fill_pjN 1)) rfl) (Nb rfl) ?_
  refine KI rfl (KP rfl rfl sz_91 (by repeat (first|exact Kj _|exact Ky _ _ _|exact Kl _|exact Kp _ _ _|exact Kw _ _ _|exact KY|refine KS rfl ?_|refine KX ?_ ?_)) (by repeat (first|exact Sh _|apply St_)) (by first|exact KH _|exact KN _ _ _|exact KK _|exact KT _ _ _|exact Kd _ _ _|rfl|simp [KN,KH,KK]) ?_)
  refine KG (KZ ?_)
  refine ⟨[_],.cons ⟨_,_,_,rfl,(by repeat (first|exact Mh _|apply Mt)),by exact KM Try.underlying91 rfl sz_91⟩ .nil,fun a w' hr=>⟨?_,hr.fr.below⟩⟩
  rfl
theorem c_NoneF {V:Cv} (hok:V.Ok) (w:World):Calls Try.prog 158 ([]:List Value).toArray w (fun e w'=>e = .returned (pjF (tripF (.inf:Pt V.p)))∧Below w.heap.size w w'):=by
  have h:=c_None w
  have e:pjF (tripF (.inf:Pt V.p)) = pjV 0 1 0:=by
    unfold pjF tripF
    rw [fin_one (show 1<V.p from hok.prime.1)]
    rfl
  rwa [e]
theorem c_Triple (V:Cv) (hok:V.Ok) (P:Pt V.p) (w:World)  : Calls Try.prog 129 ([ptP P]:List Value).toArray w (fun e w'=>e = .returned (pjF (tripF P))∧Below w.heap.size w w'):=by
  refine KAC (N:=12) (rs:=[.cell 2 91]) [] Try.func129 rfl Try.ntmps129 Try.results129 (Nb rfl) trivial rfl ?_
  show LCode _ _ _ ⟨_,_⟩ _
  refine KE (KB ?_)
  refine KI rfl (KU (KQ (Ku rfl) (Nb rfl) (fun b1=>?_)))
  refine KI rfl (KU (KQ (Kg zr_91) (Nb rfl) (fun b2=>?_)))
  refine KG ?_
  refine KE ?_
  refine KE ?_
  rcases P with _|⟨x,y⟩
  ·
    refine KB ?_
    refine KA (KL (o':=18) Try.underlying60 rfl rfl rfl sz_4 (by decide)) (Nb rfl) ?_
    refine LOps.det (KJ rfl (by repeat (first|exact Mh _|apply Mt)) (KV Try.underlying4 rfl (by exact pt_gt _ _ _))) (Nb rfl) ?_
    refine KG ?_
    refine KAB rfl ?_
    refine KE (KB ?_)
    refine KI rfl (KU (KR (first:=[]) rfl en_158 rfl (Nb rfl) (fun w hw=>c_NoneF hok w) ?_))
    refine KI rfl (KP rfl rfl sz_91 (by repeat (first|exact Kj _|exact Ky _ _ _|exact Kl _|exact Kp _ _ _|exact Kw _ _ _|exact KY|refine KS rfl ?_|refine KX ?_ ?_)) (by repeat (first|exact Sh _|apply St_)) (by first|exact KH _|exact KN _ _ _|exact KK _|exact KT _ _ _|exact Kd _ _ _|rfl|simp [KN,KH,KK]) ?_)
    refine KG (KZ ?_)
    refine ⟨[_],.cons ⟨_,_,_,rfl,(by repeat (first|exact Mh _|apply Mt)),by exact KM Try.underlying91 rfl sz_91⟩ .nil,fun a w' hr=>⟨?_,hr.fr.below⟩⟩
    rfl
  ·
    refine KB ?_
    refine KA (KL (o':=18) Try.underlying60 rfl rfl rfl sz_4 (by decide)) (Nb rfl) ?_
    refine LOps.det (KJ rfl (by repeat (first|exact Mh _|apply Mt)) (KV Try.underlying4 rfl (by exact pt_gt _ _ _))) (Nb rfl) ?_
    refine KG ?_
    refine Kn rfl ?_
    refine Kh ?_
    refine KE ?_
    refine Ka [6] (by kernel_rfl) ?_
    refine KC 0 rfl (by kernel_rfl) (Nb rfl) (KL (o':=0) Try.underlying60 rfl rfl rfl sz_25 (by decide)) ?_
    refine LAny.take 1 rfl (by kernel_rfl) (Nb rfl) (KJ rfl (by repeat (first|exact Mh _|apply Mt)) (by exact KAS Try.underlying25 rfl sz_25 rfl (KH _))) ?_
    refine KC 2 rfl (by kernel_rfl) (Nb rfl) (KL (o':=9) Try.underlying60 rfl rfl rfl sz_25 (by decide)) ?_
    refine LAny.take 3 rfl (by kernel_rfl) (Nb rfl) (KJ rfl (by repeat (first|exact Mh _|apply Mt)) (by exact pt_ld1 _ _ _ _ _ _)) ?_
    refine Kt 4 rfl rfl (by kernel_rfl) (KR (first:=[]) rfl en_150 rfl (Nb rfl) (fun w hw=>c_nat_Small 1 (by decide) w) ?_)
    refine KC 5 rfl (by kernel_rfl) (Nb rfl) (KW (KAT pl_91 zr_91 rfl (fill_pj _ _ _)) rfl) ?_
    refine Ko 6 rfl rfl (by kernel_rfl) (by kernel_rfl) (KP rfl rfl sz_91 (by repeat (first|exact Kj _|exact Ky _ _ _|exact Kl _|exact Kp _ _ _|exact Kw _ _ _|exact KY|refine KS rfl ?_|refine KX ?_ ?_)) (by repeat (first|exact Sh _|apply St_)) (by first|exact KH _|exact KN _ _ _|exact KK _|exact KT _ _ _|exact Kd _ _ _|rfl|simp [KN,KH,KK]) ?_)
    refine Km (by kernel_rfl) ?_
    refine KZ ?_
    refine ⟨[_],.cons ⟨_,_,_,rfl,(by repeat (first|exact Mh _|apply Mt)),by exact KM Try.underlying91 rfl sz_91⟩ .nil,fun a w' hr=>⟨?_,hr.fr.below⟩⟩
    show _ = Ending.returned (pjV x.val y.val (1:Fin V.p).val)
    rw [fin_one (show 1<V.p from hok.prime.1)]
    rfl
theorem c_Plain (V:Cv) (b f bd:Nat) (hok:V.Ok) (X Y Z:Fin V.p) (w:World) (hb:(Item.blk b ⟨false,opL V f,147,(0,0)⟩).holds w) (hf:(Item.blk f ⟨false,fldL V.p bd,194,(0,0)⟩).holds w) (hbd:(Item.blk bd ⟨false,dvL V.p,241,(0,0)⟩).holds w):Calls Try.prog 127 ([.pointer (some ⟨b,0,none⟩),pjV X.val Y.val Z.val]:List Value).toArray w (fun e w'=>e = .returned (ptP (plainP X Y Z))∧Below w.heap.size w w'):=by
  have hbb:=hok.bounds
  have hpW:V.p<W9:=w9_521 hbb.2.1
  refine KAC (N:=35) (rs:=[.cell 4 60]) [.blk b ⟨false,opL V f,147,(0,0)⟩,.blk f ⟨false,fldL V.p bd,194,(0,0)⟩,.blk bd ⟨false,dvL V.p,241,(0,0)⟩] Try.func127 rfl Try.ntmps127 Try.results127 (Nb rfl) ⟨hb,hf,hbd,trivial⟩ rfl ?_
  show LCode _ _ _ ⟨_,_⟩ _
  refine KE (KB ?_)
  refine KI rfl (KU (KQ (Ku rfl) (Nb rfl) (fun b3=>?_)))
  refine KI rfl (KU (KQ (Kg zr_60) (Nb rfl) (fun b4=>?_)))
  refine KG ?_
  refine KE ?_
  refine KE ?_
  by_cases hz:Z = 0
  ·
    refine KB ?_
    refine KA (KL (o':=18) Try.underlying91 rfl rfl rfl sz_25 (by decide)) (Nb rfl) ?_
    refine LOps.det (KJ rfl (by repeat (first|exact Mh _|apply Mt)) (by exact pj_ld2 _ _ _ _ _ _)) (Nb rfl) ?_
    refine KA (KW (KAT pl_25 zr_25 rfl rfl) (show _ = natV 0 by unfold natV natL; rw [← vec_zeros 9])) (Nb rfl) ?_
    refine KA (KW (Det.eqa (by kernel_rfl) (fun w=>eq_nat Z.val 0 (Nat.lt_trans Z.isLt hpW) zero_w9 10000 (by decide) w) rfl rfl) (show _ = Value.bool true by rw [decide_eq_true (by rw [hz]; rfl)])) (Nb rfl) ?_
    refine KG ?_
    refine KAB rfl ?_
    refine KE (KB ?_)
    refine KA (KW (KAT pl_60 zr_60 rfl fill_ptInf) rfl) (Nb rfl) ?_
    refine KI rfl (KP rfl rfl sz_60 (by repeat (first|exact Kj _|exact Ky _ _ _|exact Kl _|exact Kp _ _ _|exact Kw _ _ _|exact KY|refine KS rfl ?_|refine KX ?_ ?_)) (by repeat (first|exact Sh _|apply St_)) (by first|exact KH _|exact KN _ _ _|exact KK _|exact KT _ _ _|exact Kd _ _ _|rfl|simp [KN,KH,KK]) ?_)
    refine KG (KZ ?_)
    refine ⟨[_],.cons ⟨_,_,_,rfl,(by repeat (first|exact Mh _|apply Mt)),by exact KM Try.underlying60 rfl sz_60⟩ .nil,fun a w' hr=>⟨?_,hr.fr.below⟩⟩
    rw [hz,plain_inf]
    rfl
  ·
    refine KB ?_
    refine KA (KL (o':=18) Try.underlying91 rfl rfl rfl sz_25 (by decide)) (Nb rfl) ?_
    refine LOps.det (KJ rfl (by repeat (first|exact Mh _|apply Mt)) (by exact pj_ld2 _ _ _ _ _ _)) (Nb rfl) ?_
    refine KA (KW (KAT pl_25 zr_25 rfl rfl) (show _ = natV 0 by unfold natV natL; rw [← vec_zeros 9])) (Nb rfl) ?_
    refine KA (KW (Det.eqa (by kernel_rfl) (fun w=>eq_nat Z.val 0 (Nat.lt_trans Z.isLt hpW) zero_w9 10000 (by decide) w) rfl rfl) (show _ = Value.bool false by rw [decide_eq_false (show ¬ Z.val = 0 from fun e=>hz (Fin.ext e))])) (Nb rfl) ?_
    refine KG ?_
    refine Kn rfl ?_
    refine Kh ?_
    refine KE ?_
    refine Ka [8] (by kernel_rfl) ?_
    refine KC 0 rfl (by kernel_rfl) (Nb rfl) (KD rfl) ?_
    refine KC 1 rfl (by kernel_rfl) (Nb rfl) (Kc rfl) ?_
    refine KC 2 rfl (by kernel_rfl) (Nb rfl) (KL (o':=59) Try.underlying147 rfl rfl rfl sz_145 (by decide)) ?_
    refine LAny.take 3 rfl (by kernel_rfl) (Nb rfl) (KJ rfl (by repeat (first|exact Mh _|apply Mt)) (KV Try.underlying145 rfl (by exact cvC_gt_F _ _ _ _ _ _ _ _ _ _ _ _ _))) ?_
    refine KC 4 rfl (by kernel_rfl) (Nb rfl) (KL (o':=18) Try.underlying91 rfl rfl rfl sz_25 (by decide)) ?_
    refine LAny.take 5 rfl (by kernel_rfl) (Nb rfl) (KJ rfl (by repeat (first|exact Mh _|apply Mt)) (by exact pj_ld2 _ _ _ _ _ _)) ?_
    refine KAj ?_
    refine KAN 7 rfl (.inl zr_25) (Nb rfl) rfl rfl rfl ?_
    refine Kv 6 rfl rfl rfl (Nb rfl) (by kernel_rfl) rfl (KAD (first:=[]) rfl en_160 rfl (fun w hw=>c_F_Inv V hok f bd _ w (hw _ (by repeat (first|exact Mh _|apply Mt))))) ?_
    rintro _ _ ⟨rfl,rfl⟩
    refine KAX (by kernel_rfl) (fun b5=>?_)
    refine KAW ?_
    refine Ko 8 rfl rfl (by kernel_rfl) (by kernel_rfl) (KP rfl rfl sz_25 (by repeat (first|exact Kj _|exact Ky _ _ _|exact Kl _|exact Kp _ _ _|exact Kw _ _ _|exact KY|refine KS rfl ?_|refine KX ?_ ?_)) (by repeat (first|exact Sh _|apply St_)) (by first|exact KH _|exact KN _ _ _|exact KK _|exact KT _ _ _|exact Kd _ _ _|rfl|simp [KN,KH,KK]) ?_)
    refine Km (by kernel_rfl) ?_
    refine KE ?_
    refine Ka [17] (by kernel_rfl) ?_
    refine KC 0 rfl (by kernel_rfl) (Nb rfl) (KD rfl) ?_
    refine KC 1 rfl (by kernel_rfl) (Nb rfl) (Kc rfl) ?_
    refine KC 2 rfl (by kernel_rfl) (Nb rfl) (KL (o':=59) Try.underlying147 rfl rfl rfl sz_145 (by decide)) ?_
    refine LAny.take 3 rfl (by kernel_rfl) (Nb rfl) (KJ rfl (by repeat (first|exact Mh _|apply Mt)) (KV Try.underlying145 rfl (by exact cvC_gt_F _ _ _ _ _ _ _ _ _ _ _ _ _))) ?_
    refine KC 4 rfl (by kernel_rfl) (Nb rfl) (KL (o':=0) Try.underlying91 rfl rfl rfl sz_25 (by decide)) ?_
    refine LAny.take 5 rfl (by kernel_rfl) (Nb rfl) (KJ rfl (by repeat (first|exact Mh _|apply Mt)) (by exact KAS Try.underlying25 rfl sz_25 rfl (KH _))) ?_
    refine LAny.take 6 rfl (by kernel_rfl) (Nb rfl) (KJ rfl (by repeat (first|exact Mh _|apply Mt)) (by exact KM Try.underlying25 rfl sz_25)) ?_
    refine KC 8 rfl (by kernel_rfl) (Nb rfl) (KD rfl) ?_
    refine KC 9 rfl (by kernel_rfl) (Nb rfl) (Kc rfl) ?_
    refine KC 10 rfl (by kernel_rfl) (Nb rfl) (KL (o':=59) Try.underlying147 rfl rfl rfl sz_145 (by decide)) ?_
    refine LAny.take 11 rfl (by kernel_rfl) (Nb rfl) (KJ rfl (by repeat (first|exact Mh _|apply Mt)) (KV Try.underlying145 rfl (by exact cvC_gt_F _ _ _ _ _ _ _ _ _ _ _ _ _))) ?_
    refine KC 12 rfl (by kernel_rfl) (Nb rfl) (KL (o':=9) Try.underlying91 rfl rfl rfl sz_25 (by decide)) ?_
    refine LAny.take 13 rfl (by kernel_rfl) (Nb rfl) (KJ rfl (by repeat (first|exact Mh _|apply Mt)) (by exact LoadV.mid Try.underlying25 rfl sz_25 rfl (KH _) (KH _))) ?_
    refine LAny.take 14 rfl (by kernel_rfl) (Nb rfl) (KJ rfl (by repeat (first|exact Mh _|apply Mt)) (by exact KM Try.underlying25 rfl sz_25)) ?_
    refine Kt 7 rfl rfl (by kernel_rfl) (KR (first:=[]) rfl en_156 rfl (Nb rfl) (fun w hw=>c_F_Mul V hok f bd _ _ w (hw _ (by repeat (first|exact Mh _|apply Mt))) (hw _ (by repeat (first|exact Mh _|apply Mt)))) ?_)
    refine Kt 15 rfl rfl (by kernel_rfl) (KR (first:=[]) rfl en_156 rfl (Nb rfl) (fun w hw=>c_F_Mul V hok f bd _ _ w (hw _ (by repeat (first|exact Mh _|apply Mt))) (hw _ (by repeat (first|exact Mh _|apply Mt)))) ?_)
    refine KC 16 rfl (by kernel_rfl) (Nb rfl) (KW (KAT pl_60 zr_60 rfl (fill_pt _ _)) rfl) ?_
    refine Ko 17 rfl rfl (by kernel_rfl) (by kernel_rfl) (KP rfl rfl sz_60 (by repeat (first|exact Kj _|exact Ky _ _ _|exact Kl _|exact Kp _ _ _|exact Kw _ _ _|exact KY|refine KS rfl ?_|refine KX ?_ ?_)) (by repeat (first|exact Sh _|apply St_)) (by first|exact KH _|exact KN _ _ _|exact KK _|exact KT _ _ _|exact Kd _ _ _|rfl|simp [KN,KH,KK]) ?_)
    refine Km (by kernel_rfl) ?_
    refine KZ ?_
    refine ⟨[_],.cons ⟨_,_,_,rfl,(by repeat (first|exact Mh _|apply Mt)),by exact KM Try.underlying60 rfl sz_60⟩ .nil,fun a w' hr=>⟨?_,hr.fr.below⟩⟩
    rw [plain_aff hz]
    rfl
theorem c_Sum (V:Cv) (b f bd:Nat) (hok:V.Ok) (X1 Y1 Z1 X2 Y2 Z2:Fin V.p) (w:World) (hb:(Item.blk b ⟨false,opL V f,147,(0,0)⟩).holds w) (hf:(Item.blk f ⟨false,fldL V.p bd,194,(0,0)⟩).holds w) (hbd:(Item.blk bd ⟨false,dvL V.p,241,(0,0)⟩).holds w):Calls Try.prog 128 ([.pointer (some ⟨b,0,none⟩),pjV X1.val Y1.val Z1.val,pjV X2.val Y2.val Z2.val]:List Value).toArray w (fun e w'=>e = .returned (pjF (sum3 V.A (V.B+V.B+V.B) X1 Y1 Z1 X2 Y2 Z2))∧Below w.heap.size w w'):=by
  have hbb:=hok.bounds
  have hpW:V.p<W9:=w9_521 hbb.2.1
  refine KAC (N:=213) (rs:=[.cell 6 91]) [.blk b ⟨false,opL V f,147,(0,0)⟩,.blk f ⟨false,fldL V.p bd,194,(0,0)⟩,.blk bd ⟨false,dvL V.p,241,(0,0)⟩] Try.func128 rfl Try.ntmps128 Try.results128 (Nb rfl) ⟨hb,hf,hbd,trivial⟩ rfl ?_
  show LCode _ _ _ ⟨_,_⟩ _
  refine KE (KB ?_)
  refine KI rfl (KU (KQ (Ku rfl) (Nb rfl) (fun b4=>?_)))
  refine KI rfl (KU (KQ (Ku rfl) (Nb rfl) (fun b5=>?_)))
  refine KI rfl (KU (KQ (Kg zr_91) (Nb rfl) (fun b6=>?_)))
  refine KG ?_
  refine KE ?_
  refine Ka [] (by kernel_rfl) ?_
  refine KC 0 rfl (by kernel_rfl) (Nb rfl) (KD rfl) ?_
  refine KC 1 rfl (by kernel_rfl) (Nb rfl) (Kc rfl) ?_
  refine KC 2 rfl (by kernel_rfl) (Nb rfl) (KL (o':=59) Try.underlying147 rfl rfl rfl sz_145 (by decide)) ?_
  refine LAny.take 3 rfl (by kernel_rfl) (Nb rfl) (KJ rfl (by repeat (first|exact Mh _|apply Mt)) (KV Try.underlying145 rfl (by exact cvC_gt_F _ _ _ _ _ _ _ _ _ _ _ _ _))) ?_
  refine KC 4 rfl (by kernel_rfl) (Nb rfl) (Det.makeFunc1 rfl) ?_
  refine KC 5 rfl (by kernel_rfl) (Nb rfl) (KD rfl) ?_
  refine KC 6 rfl (by kernel_rfl) (Nb rfl) (Kc rfl) ?_
  refine KC 7 rfl (by kernel_rfl) (Nb rfl) (KL (o':=59) Try.underlying147 rfl rfl rfl sz_145 (by decide)) ?_
  refine LAny.take 8 rfl (by kernel_rfl) (Nb rfl) (KJ rfl (by repeat (first|exact Mh _|apply Mt)) (KV Try.underlying145 rfl (by exact cvC_gt_F _ _ _ _ _ _ _ _ _ _ _ _ _))) ?_
  refine KC 9 rfl (by kernel_rfl) (Nb rfl) (Det.makeFunc1 rfl) ?_
  refine KC 10 rfl (by kernel_rfl) (Nb rfl) (KD rfl) ?_
  refine KC 11 rfl (by kernel_rfl) (Nb rfl) (Kc rfl) ?_
  refine KC 12 rfl (by kernel_rfl) (Nb rfl) (KL (o':=59) Try.underlying147 rfl rfl rfl sz_145 (by decide)) ?_
  refine LAny.take 13 rfl (by kernel_rfl) (Nb rfl) (KJ rfl (by repeat (first|exact Mh _|apply Mt)) (KV Try.underlying145 rfl (by exact cvC_gt_F _ _ _ _ _ _ _ _ _ _ _ _ _))) ?_
  refine KC 14 rfl (by kernel_rfl) (Nb rfl) (Det.makeFunc1 rfl) ?_
  refine KC 15 rfl (by kernel_rfl) (Nb rfl) (KF rfl) ?_
  refine KC 16 rfl (by kernel_rfl) (Nb rfl) (KF rfl) ?_
  refine KC 17 rfl (by kernel_rfl) (Nb rfl) (KF rfl) ?_
  refine Km (by kernel_rfl) ?_
  refine KE ?_
  refine Ka [21,22,23] (by kernel_rfl) ?_
  refine KC 0 rfl (by kernel_rfl) (Nb rfl) (KD rfl) ?_
  refine KC 1 rfl (by kernel_rfl) (Nb rfl) (KL (o':=0) Try.underlying91 rfl rfl rfl sz_25 (by decide)) ?_
  refine LAny.take 2 rfl (by kernel_rfl) (Nb rfl) (KJ rfl (by repeat (first|exact Mh _|apply Mt)) (by exact KAS Try.underlying25 rfl sz_25 rfl (KH _))) ?_
  refine KC 3 rfl (by kernel_rfl) (Nb rfl) (KL (o':=0) Try.underlying91 rfl rfl rfl sz_25 (by decide)) ?_
  refine LAny.take 4 rfl (by kernel_rfl) (Nb rfl) (KJ rfl (by repeat (first|exact Mh _|apply Mt)) (by exact KAS Try.underlying25 rfl sz_25 rfl (KH _))) ?_
  refine KC 6 rfl (by kernel_rfl) (Nb rfl) (KD rfl) ?_
  refine KC 7 rfl (by kernel_rfl) (Nb rfl) (KL (o':=9) Try.underlying91 rfl rfl rfl sz_25 (by decide)) ?_
  refine KC 9 rfl (by kernel_rfl) (Nb rfl) (KL (o':=9) Try.underlying91 rfl rfl rfl sz_25 (by decide)) ?_
  refine KC 12 rfl (by kernel_rfl) (Nb rfl) (KD rfl) ?_
  refine KC 13 rfl (by kernel_rfl) (Nb rfl) (KL (o':=18) Try.underlying91 rfl rfl rfl sz_25 (by decide)) ?_
  refine KC 15 rfl (by kernel_rfl) (Nb rfl) (KL (o':=18) Try.underlying91 rfl rfl rfl sz_25 (by decide)) ?_
  refine LAny.takeW [11,17,21,22,23] 8 rfl (by kernel_rfl) (Nb rfl) (KJ rfl (by repeat (first|exact Mh _|apply Mt)) (by exact LoadV.mid Try.underlying25 rfl sz_25 rfl (KH _) (KH _))) ?_
  refine LAny.takeW [11,17,21,22,23] 10 rfl (by kernel_rfl) (Nb rfl) (KJ rfl (by repeat (first|exact Mh _|apply Mt)) (by exact LoadV.mid Try.underlying25 rfl sz_25 rfl (KH _) (KH _))) ?_
  refine LAny.takeW [17,21,22,23] 14 rfl (by kernel_rfl) (Nb rfl) (KJ rfl (by repeat (first|exact Mh _|apply Mt)) (by exact pj_ld2 _ _ _ _ _ _)) ?_
  refine LAny.takeW [17,21,22,23] 16 rfl (by kernel_rfl) (Nb rfl) (KJ rfl (by repeat (first|exact Mh _|apply Mt)) (by exact pj_ld2 _ _ _ _ _ _)) ?_
  refine KAj ?_
  refine KAN 18 rfl (.inl zr_25) (Nb rfl) rfl rfl rfl ?_
  refine KAN 19 rfl (.inl zr_25) (Nb rfl) rfl rfl rfl ?_
  refine KAN 20 rfl (.inl zr_25) (Nb rfl) rfl rfl rfl ?_
  refine Kv 5 rfl rfl rfl (Nb rfl) (by kernel_rfl) rfl (KAD (first:=[_]) rfl en_156 rfl (fun w hw=>c_F_Mul V hok f bd _ _ w (hw _ (by repeat (first|exact Mh _|apply Mt))) (hw _ (by repeat (first|exact Mh _|apply Mt))))) ?_
  rintro _ _ ⟨rfl,rfl⟩
  refine Kv 11 rfl rfl rfl (Nb rfl) (by kernel_rfl) rfl (KAD (first:=[_]) rfl en_156 rfl (fun w hw=>c_F_Mul V hok f bd _ _ w (hw _ (by repeat (first|exact Mh _|apply Mt))) (hw _ (by repeat (first|exact Mh _|apply Mt))))) ?_
  rintro _ _ ⟨rfl,rfl⟩
  refine Kv 17 rfl rfl rfl (Nb rfl) (by kernel_rfl) rfl (KAD (first:=[_]) rfl en_156 rfl (fun w hw=>c_F_Mul V hok f bd _ _ w (hw _ (by repeat (first|exact Mh _|apply Mt))) (hw _ (by repeat (first|exact Mh _|apply Mt))))) ?_
  rintro _ _ ⟨rfl,rfl⟩
  refine KAX (by kernel_rfl) (fun b12=>?_)
  refine KAX (by kernel_rfl) (fun b11=>?_)
  refine KAX (by kernel_rfl) (fun b10=>?_)
  refine KAW ?_
  refine Ko 21 rfl rfl (by kernel_rfl) (by kernel_rfl) (KP rfl rfl sz_25 (by repeat (first|exact Kj _|exact Ky _ _ _|exact Kl _|exact Kp _ _ _|exact Kw _ _ _|exact KY|refine KS rfl ?_|refine KX ?_ ?_)) (by repeat (first|exact Sh _|apply St_)) (by first|exact KH _|exact KN _ _ _|exact KK _|exact KT _ _ _|exact Kd _ _ _|rfl|simp [KN,KH,KK]) ?_)
  refine Ko 22 rfl rfl (by kernel_rfl) (by kernel_rfl) (KP rfl rfl sz_25 (by repeat (first|exact Kj _|exact Ky _ _ _|exact Kl _|exact Kp _ _ _|exact Kw _ _ _|exact KY|refine KS rfl ?_|refine KX ?_ ?_)) (by repeat (first|exact Sh _|apply St_)) (by first|exact KH _|exact KN _ _ _|exact KK _|exact KT _ _ _|exact Kd _ _ _|rfl|simp [KN,KH,KK]) ?_)
  refine Ko 23 rfl rfl (by kernel_rfl) (by kernel_rfl) (KP rfl rfl sz_25 (by repeat (first|exact Kj _|exact Ky _ _ _|exact Kl _|exact Kp _ _ _|exact Kw _ _ _|exact KY|refine KS rfl ?_|refine KX ?_ ?_)) (by repeat (first|exact Sh _|apply St_)) (by first|exact KH _|exact KN _ _ _|exact KK _|exact KT _ _ _|exact Kd _ _ _|rfl|simp [KN,KH,KK]) ?_)
  refine Km (by kernel_rfl) ?_
  refine KE ?_
  refine Ka [21] (by kernel_rfl) ?_
  refine KC 0 rfl (by kernel_rfl) (Nb rfl) (KD rfl) ?_
  refine KC 1 rfl (by kernel_rfl) (Nb rfl) (KD rfl) ?_
  refine KC 2 rfl (by kernel_rfl) (Nb rfl) (KD rfl) ?_
  refine KC 3 rfl (by kernel_rfl) (Nb rfl) (KL (o':=0) Try.underlying91 rfl rfl rfl sz_25 (by decide)) ?_
  refine LAny.take 4 rfl (by kernel_rfl) (Nb rfl) (KJ rfl (by repeat (first|exact Mh _|apply Mt)) (by exact KAS Try.underlying25 rfl sz_25 rfl (KH _))) ?_
  refine KC 5 rfl (by kernel_rfl) (Nb rfl) (KL (o':=9) Try.underlying91 rfl rfl rfl sz_25 (by decide)) ?_
  refine LAny.take 6 rfl (by kernel_rfl) (Nb rfl) (KJ rfl (by repeat (first|exact Mh _|apply Mt)) (by exact LoadV.mid Try.underlying25 rfl sz_25 rfl (KH _) (KH _))) ?_
  refine KC 8 rfl (by kernel_rfl) (Nb rfl) (KD rfl) ?_
  refine KC 9 rfl (by kernel_rfl) (Nb rfl) (KL (o':=0) Try.underlying91 rfl rfl rfl sz_25 (by decide)) ?_
  refine LAny.take 10 rfl (by kernel_rfl) (Nb rfl) (KJ rfl (by repeat (first|exact Mh _|apply Mt)) (by exact KAS Try.underlying25 rfl sz_25 rfl (KH _))) ?_
  refine KC 11 rfl (by kernel_rfl) (Nb rfl) (KL (o':=9) Try.underlying91 rfl rfl rfl sz_25 (by decide)) ?_
  refine LAny.take 12 rfl (by kernel_rfl) (Nb rfl) (KJ rfl (by repeat (first|exact Mh _|apply Mt)) (by exact LoadV.mid Try.underlying25 rfl sz_25 rfl (KH _) (KH _))) ?_
  refine KC 15 rfl (by kernel_rfl) (Nb rfl) (KD rfl) ?_
  refine LAny.take 16 rfl (by kernel_rfl) (Nb rfl) (KJ rfl (by repeat (first|exact Mh _|apply Mt)) (by exact KM Try.underlying25 rfl sz_25)) ?_
  refine LAny.take 17 rfl (by kernel_rfl) (Nb rfl) (KJ rfl (by repeat (first|exact Mh _|apply Mt)) (by exact KM Try.underlying25 rfl sz_25)) ?_
  refine KAj ?_
  refine KAN 20 rfl (.inl zr_25) (Nb rfl) rfl rfl rfl ?_
  refine Kv 7 rfl rfl rfl (Nb rfl) (by kernel_rfl) rfl (KAD (first:=[_]) rfl en_152 rfl (fun w hw=>c_F_Add V hok f bd _ _ w (hw _ (by repeat (first|exact Mh _|apply Mt))))) ?_
  rintro _ _ ⟨rfl,rfl⟩
  refine Kv 13 rfl rfl rfl (Nb rfl) (by kernel_rfl) rfl (KAD (first:=[_]) rfl en_152 rfl (fun w hw=>c_F_Add V hok f bd _ _ w (hw _ (by repeat (first|exact Mh _|apply Mt))))) ?_
  rintro _ _ ⟨rfl,rfl⟩
  refine Kv 14 rfl rfl rfl (Nb rfl) (by kernel_rfl) rfl (KAD (first:=[_]) rfl en_156 rfl (fun w hw=>c_F_Mul V hok f bd _ _ w (hw _ (by repeat (first|exact Mh _|apply Mt))) (hw _ (by repeat (first|exact Mh _|apply Mt))))) ?_
  rintro _ _ ⟨rfl,rfl⟩
  refine Kv 18 rfl rfl rfl (Nb rfl) (by kernel_rfl) rfl (KAD (first:=[_]) rfl en_152 rfl (fun w hw=>c_F_Add V hok f bd _ _ w (hw _ (by repeat (first|exact Mh _|apply Mt))))) ?_
  rintro _ _ ⟨rfl,rfl⟩
  refine Kv 19 rfl rfl rfl (Nb rfl) (by kernel_rfl) rfl (KAD (first:=[_]) rfl en_161 rfl (fun w hw=>c_F_Sub V hok f bd _ _ w (hw _ (by repeat (first|exact Mh _|apply Mt))))) ?_
  rintro _ _ ⟨rfl,rfl⟩
  refine KAX (by kernel_rfl) (fun b13=>?_)
  refine KAW ?_
  refine Ko 21 rfl rfl (by kernel_rfl) (by kernel_rfl) (KP rfl rfl sz_25 (by repeat (first|exact Kj _|exact Ky _ _ _|exact Kl _|exact Kp _ _ _|exact Kw _ _ _|exact KY|refine KS rfl ?_|refine KX ?_ ?_)) (by repeat (first|exact Sh _|apply St_)) (by first|exact KH _|exact KN _ _ _|exact KK _|exact KT _ _ _|exact Kd _ _ _|rfl|simp [KN,KH,KK]) ?_)
  refine Km (by kernel_rfl) ?_
  refine KE ?_
  refine Ka [21] (by kernel_rfl) ?_
  refine KC 0 rfl (by kernel_rfl) (Nb rfl) (KD rfl) ?_
  refine KC 1 rfl (by kernel_rfl) (Nb rfl) (KD rfl) ?_
  refine KC 2 rfl (by kernel_rfl) (Nb rfl) (KD rfl) ?_
  refine KC 3 rfl (by kernel_rfl) (Nb rfl) (KL (o':=0) Try.underlying91 rfl rfl rfl sz_25 (by decide)) ?_
  refine LAny.take 4 rfl (by kernel_rfl) (Nb rfl) (KJ rfl (by repeat (first|exact Mh _|apply Mt)) (by exact KAS Try.underlying25 rfl sz_25 rfl (KH _))) ?_
  refine KC 5 rfl (by kernel_rfl) (Nb rfl) (KL (o':=18) Try.underlying91 rfl rfl rfl sz_25 (by decide)) ?_
  refine LAny.take 6 rfl (by kernel_rfl) (Nb rfl) (KJ rfl (by repeat (first|exact Mh _|apply Mt)) (by exact pj_ld2 _ _ _ _ _ _)) ?_
  refine KC 8 rfl (by kernel_rfl) (Nb rfl) (KD rfl) ?_
  refine KC 9 rfl (by kernel_rfl) (Nb rfl) (KL (o':=0) Try.underlying91 rfl rfl rfl sz_25 (by decide)) ?_
  refine LAny.take 10 rfl (by kernel_rfl) (Nb rfl) (KJ rfl (by repeat (first|exact Mh _|apply Mt)) (by exact KAS Try.underlying25 rfl sz_25 rfl (KH _))) ?_
  refine KC 11 rfl (by kernel_rfl) (Nb rfl) (KL (o':=18) Try.underlying91 rfl rfl rfl sz_25 (by decide)) ?_
  refine LAny.take 12 rfl (by kernel_rfl) (Nb rfl) (KJ rfl (by repeat (first|exact Mh _|apply Mt)) (by exact pj_ld2 _ _ _ _ _ _)) ?_
  refine KC 15 rfl (by kernel_rfl) (Nb rfl) (KD rfl) ?_
  refine LAny.take 16 rfl (by kernel_rfl) (Nb rfl) (KJ rfl (by repeat (first|exact Mh _|apply Mt)) (by exact KM Try.underlying25 rfl sz_25)) ?_
  refine LAny.take 17 rfl (by kernel_rfl) (Nb rfl) (KJ rfl (by repeat (first|exact Mh _|apply Mt)) (by exact KM Try.underlying25 rfl sz_25)) ?_
  refine KAj ?_
  refine KAN 20 rfl (.inl zr_25) (Nb rfl) rfl rfl rfl ?_
  refine Kv 7 rfl rfl rfl (Nb rfl) (by kernel_rfl) rfl (KAD (first:=[_]) rfl en_152 rfl (fun w hw=>c_F_Add V hok f bd _ _ w (hw _ (by repeat (first|exact Mh _|apply Mt))))) ?_
  rintro _ _ ⟨rfl,rfl⟩
  refine Kv 13 rfl rfl rfl (Nb rfl) (by kernel_rfl) rfl (KAD (first:=[_]) rfl en_152 rfl (fun w hw=>c_F_Add V hok f bd _ _ w (hw _ (by repeat (first|exact Mh _|apply Mt))))) ?_
  rintro _ _ ⟨rfl,rfl⟩
  refine Kv 14 rfl rfl rfl (Nb rfl) (by kernel_rfl) rfl (KAD (first:=[_]) rfl en_156 rfl (fun w hw=>c_F_Mul V hok f bd _ _ w (hw _ (by repeat (first|exact Mh _|apply Mt))) (hw _ (by repeat (first|exact Mh _|apply Mt))))) ?_
  rintro _ _ ⟨rfl,rfl⟩
  refine Kv 18 rfl rfl rfl (Nb rfl) (by kernel_rfl) rfl (KAD (first:=[_]) rfl en_152 rfl (fun w hw=>c_F_Add V hok f bd _ _ w (hw _ (by repeat (first|exact Mh _|apply Mt))))) ?_
  rintro _ _ ⟨rfl,rfl⟩
  refine Kv 19 rfl rfl rfl (Nb rfl) (by kernel_rfl) rfl (KAD (first:=[_]) rfl en_161 rfl (fun w hw=>c_F_Sub V hok f bd _ _ w (hw _ (by repeat (first|exact Mh _|apply Mt))))) ?_
  rintro _ _ ⟨rfl,rfl⟩
  refine KAX (by kernel_rfl) (fun b14=>?_)
  refine KAW ?_
  refine Ko 21 rfl rfl (by kernel_rfl) (by kernel_rfl) (KP rfl rfl sz_25 (by repeat (first|exact Kj _|exact Ky _ _ _|exact Kl _|exact Kp _ _ _|exact Kw _ _ _|exact KY|refine KS rfl ?_|refine KX ?_ ?_)) (by repeat (first|exact Sh _|apply St_)) (by first|exact KH _|exact KN _ _ _|exact KK _|exact KT _ _ _|exact Kd _ _ _|rfl|simp [KN,KH,KK]) ?_)
  refine Km (by kernel_rfl) ?_
  refine KE ?_
  refine Ka [21] (by kernel_rfl) ?_
  refine KC 0 rfl (by kernel_rfl) (Nb rfl) (KD rfl) ?_
  refine KC 1 rfl (by kernel_rfl) (Nb rfl) (KD rfl) ?_
  refine KC 2 rfl (by kernel_rfl) (Nb rfl) (KD rfl) ?_
  refine KC 3 rfl (by kernel_rfl) (Nb rfl) (KL (o':=9) Try.underlying91 rfl rfl rfl sz_25 (by decide)) ?_
  refine LAny.take 4 rfl (by kernel_rfl) (Nb rfl) (KJ rfl (by repeat (first|exact Mh _|apply Mt)) (by exact LoadV.mid Try.underlying25 rfl sz_25 rfl (KH _) (KH _))) ?_
  refine KC 5 rfl (by kernel_rfl) (Nb rfl) (KL (o':=18) Try.underlying91 rfl rfl rfl sz_25 (by decide)) ?_
  refine LAny.take 6 rfl (by kernel_rfl) (Nb rfl) (KJ rfl (by repeat (first|exact Mh _|apply Mt)) (by exact pj_ld2 _ _ _ _ _ _)) ?_
  refine KC 8 rfl (by kernel_rfl) (Nb rfl) (KD rfl) ?_
  refine KC 9 rfl (by kernel_rfl) (Nb rfl) (KL (o':=9) Try.underlying91 rfl rfl rfl sz_25 (by decide)) ?_
  refine LAny.take 10 rfl (by kernel_rfl) (Nb rfl) (KJ rfl (by repeat (first|exact Mh _|apply Mt)) (by exact LoadV.mid Try.underlying25 rfl sz_25 rfl (KH _) (KH _))) ?_
  refine KC 11 rfl (by kernel_rfl) (Nb rfl) (KL (o':=18) Try.underlying91 rfl rfl rfl sz_25 (by decide)) ?_
  refine LAny.take 12 rfl (by kernel_rfl) (Nb rfl) (KJ rfl (by repeat (first|exact Mh _|apply Mt)) (by exact pj_ld2 _ _ _ _ _ _)) ?_
  refine KC 15 rfl (by kernel_rfl) (Nb rfl) (KD rfl) ?_
  refine LAny.take 16 rfl (by kernel_rfl) (Nb rfl) (KJ rfl (by repeat (first|exact Mh _|apply Mt)) (by exact KM Try.underlying25 rfl sz_25)) ?_
  refine LAny.take 17 rfl (by kernel_rfl) (Nb rfl) (KJ rfl (by repeat (first|exact Mh _|apply Mt)) (by exact KM Try.underlying25 rfl sz_25)) ?_
  refine KAj ?_
  refine KAN 20 rfl (.inl zr_25) (Nb rfl) rfl rfl rfl ?_
  refine Kv 7 rfl rfl rfl (Nb rfl) (by kernel_rfl) rfl (KAD (first:=[_]) rfl en_152 rfl (fun w hw=>c_F_Add V hok f bd _ _ w (hw _ (by repeat (first|exact Mh _|apply Mt))))) ?_
  rintro _ _ ⟨rfl,rfl⟩
  refine Kv 13 rfl rfl rfl (Nb rfl) (by kernel_rfl) rfl (KAD (first:=[_]) rfl en_152 rfl (fun w hw=>c_F_Add V hok f bd _ _ w (hw _ (by repeat (first|exact Mh _|apply Mt))))) ?_
  rintro _ _ ⟨rfl,rfl⟩
  refine Kv 14 rfl rfl rfl (Nb rfl) (by kernel_rfl) rfl (KAD (first:=[_]) rfl en_156 rfl (fun w hw=>c_F_Mul V hok f bd _ _ w (hw _ (by repeat (first|exact Mh _|apply Mt))) (hw _ (by repeat (first|exact Mh _|apply Mt))))) ?_
  rintro _ _ ⟨rfl,rfl⟩
  refine Kv 18 rfl rfl rfl (Nb rfl) (by kernel_rfl) rfl (KAD (first:=[_]) rfl en_152 rfl (fun w hw=>c_F_Add V hok f bd _ _ w (hw _ (by repeat (first|exact Mh _|apply Mt))))) ?_
  rintro _ _ ⟨rfl,rfl⟩
  refine Kv 19 rfl rfl rfl (Nb rfl) (by kernel_rfl) rfl (KAD (first:=[_]) rfl en_161 rfl (fun w hw=>c_F_Sub V hok f bd _ _ w (hw _ (by repeat (first|exact Mh _|apply Mt))))) ?_
  rintro _ _ ⟨rfl,rfl⟩
  refine KAX (by kernel_rfl) (fun b15=>?_)
  refine KAW ?_
  refine Ko 21 rfl rfl (by kernel_rfl) (by kernel_rfl) (KP rfl rfl sz_25 (by repeat (first|exact Kj _|exact Ky _ _ _|exact Kl _|exact Kp _ _ _|exact Kw _ _ _|exact KY|refine KS rfl ?_|refine KX ?_ ?_)) (by repeat (first|exact Sh _|apply St_)) (by first|exact KH _|exact KN _ _ _|exact KK _|exact KT _ _ _|exact Kd _ _ _|rfl|simp [KN,KH,KK]) ?_)
  refine Km (by kernel_rfl) ?_
  refine KE ?_
  refine Ka [18] (by kernel_rfl) ?_
  refine KC 0 rfl (by kernel_rfl) (Nb rfl) (KD rfl) ?_
  refine KC 1 rfl (by kernel_rfl) (Nb rfl) (KD rfl) ?_
  refine KC 2 rfl (by kernel_rfl) (Nb rfl) (KD rfl) ?_
  refine KC 3 rfl (by kernel_rfl) (Nb rfl) (Kc rfl) ?_
  refine KC 4 rfl (by kernel_rfl) (Nb rfl) (KL (o':=60) Try.underlying147 rfl rfl rfl sz_25 (by decide)) ?_
  refine LAny.take 5 rfl (by kernel_rfl) (Nb rfl) (Det.cast (KJ rfl (by repeat (first|exact Mh _|apply Mt)) (by exact cvC_ld_t3 _ _ _ _ _ _ _ _ _ _ _ _ _ _ _ _)) (t_val hok)) ?_
  refine LAny.take 6 rfl (by kernel_rfl) (Nb rfl) (KJ rfl (by repeat (first|exact Mh _|apply Mt)) (by exact KM Try.underlying25 rfl sz_25)) ?_
  refine KC 8 rfl (by kernel_rfl) (Nb rfl) (KD rfl) ?_
  refine KC 9 rfl (by kernel_rfl) (Nb rfl) (KD rfl) ?_
  refine KC 10 rfl (by kernel_rfl) (Nb rfl) (Kc rfl) ?_
  refine KC 11 rfl (by kernel_rfl) (Nb rfl) (KL (o':=0) Try.underlying147 rfl rfl rfl sz_62 (by decide)) ?_
  refine KC 12 rfl (by kernel_rfl) (Nb rfl) (KL (o':=10) Try.underlying62 rfl rfl rfl sz_25 (by decide)) ?_
  refine LAny.take 13 rfl (by kernel_rfl) (Nb rfl) (Det.cast (KJ rfl (by repeat (first|exact Mh _|apply Mt)) (by exact cvC_ld_a _ _ _ _ _ _ _ _ _ _ _ _ _ _ _ _)) (a_val hok)) ?_
  refine LAny.take 14 rfl (by kernel_rfl) (Nb rfl) (KJ rfl (by repeat (first|exact Mh _|apply Mt)) (by exact KM Try.underlying25 rfl sz_25)) ?_
  refine KAj ?_
  refine KAN 17 rfl (.inl zr_25) (Nb rfl) rfl rfl rfl ?_
  refine Kv 7 rfl rfl rfl (Nb rfl) (by kernel_rfl) rfl (KAD (first:=[_]) rfl en_156 rfl (fun w hw=>c_F_Mul V hok f bd _ _ w (hw _ (by repeat (first|exact Mh _|apply Mt))) (hw _ (by repeat (first|exact Mh _|apply Mt))))) ?_
  rintro _ _ ⟨rfl,rfl⟩
  refine Kv 15 rfl rfl rfl (Nb rfl) (by kernel_rfl) rfl (KAD (first:=[_]) rfl en_156 rfl (fun w hw=>c_F_Mul V hok f bd _ _ w (hw _ (by repeat (first|exact Mh _|apply Mt))) (hw _ (by repeat (first|exact Mh _|apply Mt))))) ?_
  rintro _ _ ⟨rfl,rfl⟩
  refine Kv 16 rfl rfl rfl (Nb rfl) (by kernel_rfl) rfl (KAD (first:=[_]) rfl en_152 rfl (fun w hw=>c_F_Add V hok f bd _ _ w (hw _ (by repeat (first|exact Mh _|apply Mt))))) ?_
  rintro _ _ ⟨rfl,rfl⟩
  refine KAX (by kernel_rfl) (fun b16=>?_)
  refine KAW ?_
  refine Ko 18 rfl rfl (by kernel_rfl) (by kernel_rfl) (KP rfl rfl sz_25 (by repeat (first|exact Kj _|exact Ky _ _ _|exact Kl _|exact Kp _ _ _|exact Kw _ _ _|exact KY|refine KS rfl ?_|refine KX ?_ ?_)) (by repeat (first|exact Sh _|apply St_)) (by first|exact KH _|exact KN _ _ _|exact KK _|exact KT _ _ _|exact Kd _ _ _|rfl|simp [KN,KH,KK]) ?_)
  refine Km (by kernel_rfl) ?_
  refine KE (KB ?_)
  refine KA (KD rfl) (Nb rfl) ?_
  refine LOps.det (KJ rfl (by repeat (first|exact Mh _|apply Mt)) (by exact KM Try.underlying25 rfl sz_25)) (Nb rfl) ?_
  refine LOps.det (KJ rfl (by repeat (first|exact Mh _|apply Mt)) (by exact KM Try.underlying25 rfl sz_25)) (Nb rfl) ?_
  refine KI rfl (KU (KR (first:=[_]) rfl en_161 rfl (Nb rfl) (fun w hw=>c_F_Sub V hok f bd _ _ w (hw _ (by repeat (first|exact Mh _|apply Mt)))) ?_))
  refine KI rfl (KU (KQ (Kg zr_25) (Nb rfl) (fun b17=>?_)))
  refine KI rfl (KP rfl rfl sz_25 (by repeat (first|exact Kj _|exact Ky _ _ _|exact Kl _|exact Kp _ _ _|exact Kw _ _ _|exact KY|refine KS rfl ?_|refine KX ?_ ?_)) (by repeat (first|exact Sh _|apply St_)) (by first|exact KH _|exact KN _ _ _|exact KK _|exact KT _ _ _|exact Kd _ _ _|rfl|simp [KN,KH,KK]) ?_)
  refine KG ?_
  refine KE (KB ?_)
  refine KA (KD rfl) (Nb rfl) ?_
  refine LOps.det (KJ rfl (by repeat (first|exact Mh _|apply Mt)) (by exact KM Try.underlying25 rfl sz_25)) (Nb rfl) ?_
  refine LOps.det (KJ rfl (by repeat (first|exact Mh _|apply Mt)) (by exact KM Try.underlying25 rfl sz_25)) (Nb rfl) ?_
  refine KI rfl (KU (KR (first:=[_]) rfl en_152 rfl (Nb rfl) (fun w hw=>c_F_Add V hok f bd _ _ w (hw _ (by repeat (first|exact Mh _|apply Mt)))) ?_))
  refine KI rfl (KP rfl rfl sz_25 (by repeat (first|exact Kj _|exact Ky _ _ _|exact Kl _|exact Kp _ _ _|exact Kw _ _ _|exact KY|refine KS rfl ?_|refine KX ?_ ?_)) (by repeat (first|exact Sh _|apply St_)) (by first|exact KH _|exact KN _ _ _|exact KK _|exact KT _ _ _|exact Kd _ _ _|rfl|simp [KN,KH,KK]) ?_)
  refine KG ?_
  refine KE (KB ?_)
  refine KA (KD rfl) (Nb rfl) ?_
  refine LOps.det (KJ rfl (by repeat (first|exact Mh _|apply Mt)) (by exact KM Try.underlying25 rfl sz_25)) (Nb rfl) ?_
  refine LOps.det (KJ rfl (by repeat (first|exact Mh _|apply Mt)) (by exact KM Try.underlying25 rfl sz_25)) (Nb rfl) ?_
  refine KI rfl (KU (KR (first:=[_]) rfl en_156 rfl (Nb rfl) (fun w hw=>c_F_Mul V hok f bd _ _ w (hw _ (by repeat (first|exact Mh _|apply Mt))) (hw _ (by repeat (first|exact Mh _|apply Mt)))) ?_))
  refine KI rfl (KU (KQ (Kg zr_25) (Nb rfl) (fun b18=>?_)))
  refine KI rfl (KP rfl rfl sz_25 (by repeat (first|exact Kj _|exact Ky _ _ _|exact Kl _|exact Kp _ _ _|exact Kw _ _ _|exact KY|refine KS rfl ?_|refine KX ?_ ?_)) (by repeat (first|exact Sh _|apply St_)) (by first|exact KH _|exact KN _ _ _|exact KK _|exact KT _ _ _|exact Kd _ _ _|rfl|simp [KN,KH,KK]) ?_)
  refine KG ?_
  refine KE ?_
  refine Ka [7] (by kernel_rfl) ?_
  refine KC 0 rfl (by kernel_rfl) (Nb rfl) (KD rfl) ?_
  refine KC 1 rfl (by kernel_rfl) (Nb rfl) (KD rfl) ?_
  refine LAny.take 2 rfl (by kernel_rfl) (Nb rfl) (KJ rfl (by repeat (first|exact Mh _|apply Mt)) (by exact KM Try.underlying25 rfl sz_25)) ?_
  refine LAny.take 3 rfl (by kernel_rfl) (Nb rfl) (KJ rfl (by repeat (first|exact Mh _|apply Mt)) (by exact KM Try.underlying25 rfl sz_25)) ?_
  refine LAny.take 5 rfl (by kernel_rfl) (Nb rfl) (KJ rfl (by repeat (first|exact Mh _|apply Mt)) (by exact KM Try.underlying25 rfl sz_25)) ?_
  refine Kt 4 rfl rfl (by kernel_rfl) (KR (first:=[_]) rfl en_152 rfl (Nb rfl) (fun w hw=>c_F_Add V hok f bd _ _ w (hw _ (by repeat (first|exact Mh _|apply Mt)))) ?_)
  refine Kt 6 rfl rfl (by kernel_rfl) (KR (first:=[_]) rfl en_152 rfl (Nb rfl) (fun w hw=>c_F_Add V hok f bd _ _ w (hw _ (by repeat (first|exact Mh _|apply Mt)))) ?_)
  refine Ko 7 rfl rfl (by kernel_rfl) (by kernel_rfl) (KP rfl rfl sz_25 (by repeat (first|exact Kj _|exact Ky _ _ _|exact Kl _|exact Kp _ _ _|exact Kw _ _ _|exact KY|refine KS rfl ?_|refine KX ?_ ?_)) (by repeat (first|exact Sh _|apply St_)) (by first|exact KH _|exact KN _ _ _|exact KK _|exact KT _ _ _|exact Kd _ _ _|rfl|simp [KN,KH,KK]) ?_)
  refine Km (by kernel_rfl) ?_
  refine KE ?_
  refine Ka [8] (by kernel_rfl) ?_
  refine KC 0 rfl (by kernel_rfl) (Nb rfl) (KD rfl) ?_
  refine KC 1 rfl (by kernel_rfl) (Nb rfl) (KD rfl) ?_
  refine KC 2 rfl (by kernel_rfl) (Nb rfl) (Kc rfl) ?_
  refine KC 3 rfl (by kernel_rfl) (Nb rfl) (KL (o':=0) Try.underlying147 rfl rfl rfl sz_62 (by decide)) ?_
  refine KC 4 rfl (by kernel_rfl) (Nb rfl) (KL (o':=10) Try.underlying62 rfl rfl rfl sz_25 (by decide)) ?_
  refine LAny.take 5 rfl (by kernel_rfl) (Nb rfl) (Det.cast (KJ rfl (by repeat (first|exact Mh _|apply Mt)) (by exact cvC_ld_a _ _ _ _ _ _ _ _ _ _ _ _ _ _ _ _)) (a_val hok)) ?_
  refine LAny.take 6 rfl (by kernel_rfl) (Nb rfl) (KJ rfl (by repeat (first|exact Mh _|apply Mt)) (by exact KM Try.underlying25 rfl sz_25)) ?_
  refine Kt 7 rfl rfl (by kernel_rfl) (KR (first:=[_]) rfl en_156 rfl (Nb rfl) (fun w hw=>c_F_Mul V hok f bd _ _ w (hw _ (by repeat (first|exact Mh _|apply Mt))) (hw _ (by repeat (first|exact Mh _|apply Mt)))) ?_)
  refine Ko 8 rfl rfl (by kernel_rfl) (by kernel_rfl) (KP rfl rfl sz_25 (by repeat (first|exact Kj _|exact Ky _ _ _|exact Kl _|exact Kp _ _ _|exact Kw _ _ _|exact KY|refine KS rfl ?_|refine KX ?_ ?_)) (by repeat (first|exact Sh _|apply St_)) (by first|exact KH _|exact KN _ _ _|exact KK _|exact KT _ _ _|exact Kd _ _ _|rfl|simp [KN,KH,KK]) ?_)
  refine Km (by kernel_rfl) ?_
  refine KE ?_
  refine Ka [7] (by kernel_rfl) ?_
  refine KC 0 rfl (by kernel_rfl) (Nb rfl) (KD rfl) ?_
  refine KC 1 rfl (by kernel_rfl) (Nb rfl) (KD rfl) ?_
  refine KC 2 rfl (by kernel_rfl) (Nb rfl) (Kc rfl) ?_
  refine KC 3 rfl (by kernel_rfl) (Nb rfl) (KL (o':=60) Try.underlying147 rfl rfl rfl sz_25 (by decide)) ?_
  refine LAny.take 4 rfl (by kernel_rfl) (Nb rfl) (Det.cast (KJ rfl (by repeat (first|exact Mh _|apply Mt)) (by exact cvC_ld_t3 _ _ _ _ _ _ _ _ _ _ _ _ _ _ _ _)) (t_val hok)) ?_
  refine LAny.take 5 rfl (by kernel_rfl) (Nb rfl) (KJ rfl (by repeat (first|exact Mh _|apply Mt)) (by exact KM Try.underlying25 rfl sz_25)) ?_
  refine Kt 6 rfl rfl (by kernel_rfl) (KR (first:=[_]) rfl en_156 rfl (Nb rfl) (fun w hw=>c_F_Mul V hok f bd _ _ w (hw _ (by repeat (first|exact Mh _|apply Mt))) (hw _ (by repeat (first|exact Mh _|apply Mt)))) ?_)
  refine Ko 7 rfl rfl (by kernel_rfl) (by kernel_rfl) (KP rfl rfl sz_25 (by repeat (first|exact Kj _|exact Ky _ _ _|exact Kl _|exact Kp _ _ _|exact Kw _ _ _|exact KY|refine KS rfl ?_|refine KX ?_ ?_)) (by repeat (first|exact Sh _|apply St_)) (by first|exact KH _|exact KN _ _ _|exact KK _|exact KT _ _ _|exact Kd _ _ _|rfl|simp [KN,KH,KK]) ?_)
  refine Km (by kernel_rfl) ?_
  refine KE (KB ?_)
  refine KA (KD rfl) (Nb rfl) ?_
  refine LOps.det (KJ rfl (by repeat (first|exact Mh _|apply Mt)) (by exact KM Try.underlying25 rfl sz_25)) (Nb rfl) ?_
  refine LOps.det (KJ rfl (by repeat (first|exact Mh _|apply Mt)) (by exact KM Try.underlying25 rfl sz_25)) (Nb rfl) ?_
  refine KI rfl (KU (KR (first:=[_]) rfl en_152 rfl (Nb rfl) (fun w hw=>c_F_Add V hok f bd _ _ w (hw _ (by repeat (first|exact Mh _|apply Mt)))) ?_))
  refine KI rfl (KP rfl rfl sz_25 (by repeat (first|exact Kj _|exact Ky _ _ _|exact Kl _|exact Kp _ _ _|exact Kw _ _ _|exact KY|refine KS rfl ?_|refine KX ?_ ?_)) (by repeat (first|exact Sh _|apply St_)) (by first|exact KH _|exact KN _ _ _|exact KK _|exact KT _ _ _|exact Kd _ _ _|rfl|simp [KN,KH,KK]) ?_)
  refine KG ?_
  refine KE ?_
  refine Ka [11] (by kernel_rfl) ?_
  refine KC 0 rfl (by kernel_rfl) (Nb rfl) (KD rfl) ?_
  refine KC 1 rfl (by kernel_rfl) (Nb rfl) (KD rfl) ?_
  refine KC 2 rfl (by kernel_rfl) (Nb rfl) (Kc rfl) ?_
  refine KC 3 rfl (by kernel_rfl) (Nb rfl) (KL (o':=0) Try.underlying147 rfl rfl rfl sz_62 (by decide)) ?_
  refine KC 4 rfl (by kernel_rfl) (Nb rfl) (KL (o':=10) Try.underlying62 rfl rfl rfl sz_25 (by decide)) ?_
  refine LAny.take 5 rfl (by kernel_rfl) (Nb rfl) (Det.cast (KJ rfl (by repeat (first|exact Mh _|apply Mt)) (by exact cvC_ld_a _ _ _ _ _ _ _ _ _ _ _ _ _ _ _ _)) (a_val hok)) ?_
  refine KC 6 rfl (by kernel_rfl) (Nb rfl) (KD rfl) ?_
  refine LAny.take 7 rfl (by kernel_rfl) (Nb rfl) (KJ rfl (by repeat (first|exact Mh _|apply Mt)) (by exact KM Try.underlying25 rfl sz_25)) ?_
  refine LAny.take 8 rfl (by kernel_rfl) (Nb rfl) (KJ rfl (by repeat (first|exact Mh _|apply Mt)) (by exact KM Try.underlying25 rfl sz_25)) ?_
  refine Kt 9 rfl rfl (by kernel_rfl) (KR (first:=[_]) rfl en_161 rfl (Nb rfl) (fun w hw=>c_F_Sub V hok f bd _ _ w (hw _ (by repeat (first|exact Mh _|apply Mt)))) ?_)
  refine Kt 10 rfl rfl (by kernel_rfl) (KR (first:=[_]) rfl en_156 rfl (Nb rfl) (fun w hw=>c_F_Mul V hok f bd _ _ w (hw _ (by repeat (first|exact Mh _|apply Mt))) (hw _ (by repeat (first|exact Mh _|apply Mt)))) ?_)
  refine Ko 11 rfl rfl (by kernel_rfl) (by kernel_rfl) (KP rfl rfl sz_25 (by repeat (first|exact Kj _|exact Ky _ _ _|exact Kl _|exact Kp _ _ _|exact Kw _ _ _|exact KY|refine KS rfl ?_|refine KX ?_ ?_)) (by repeat (first|exact Sh _|apply St_)) (by first|exact KH _|exact KN _ _ _|exact KK _|exact KT _ _ _|exact Kd _ _ _|rfl|simp [KN,KH,KK]) ?_)
  refine Km (by kernel_rfl) ?_
  refine KE (KB ?_)
  refine KA (KD rfl) (Nb rfl) ?_
  refine LOps.det (KJ rfl (by repeat (first|exact Mh _|apply Mt)) (by exact KM Try.underlying25 rfl sz_25)) (Nb rfl) ?_
  refine LOps.det (KJ rfl (by repeat (first|exact Mh _|apply Mt)) (by exact KM Try.underlying25 rfl sz_25)) (Nb rfl) ?_
  refine KI rfl (KU (KR (first:=[_]) rfl en_152 rfl (Nb rfl) (fun w hw=>c_F_Add V hok f bd _ _ w (hw _ (by repeat (first|exact Mh _|apply Mt)))) ?_))
  refine KI rfl (KP rfl rfl sz_25 (by repeat (first|exact Kj _|exact Ky _ _ _|exact Kl _|exact Kp _ _ _|exact Kw _ _ _|exact KY|refine KS rfl ?_|refine KX ?_ ?_)) (by repeat (first|exact Sh _|apply St_)) (by first|exact KH _|exact KN _ _ _|exact KK _|exact KT _ _ _|exact Kd _ _ _|rfl|simp [KN,KH,KK]) ?_)
  refine KG ?_
  refine KE ?_
  refine Ka [7] (by kernel_rfl) ?_
  refine KC 0 rfl (by kernel_rfl) (Nb rfl) (KD rfl) ?_
  refine LAny.take 1 rfl (by kernel_rfl) (Nb rfl) (KJ rfl (by repeat (first|exact Mh _|apply Mt)) (by exact KM Try.underlying25 rfl sz_25)) ?_
  refine KC 2 rfl (by kernel_rfl) (Nb rfl) (KD rfl) ?_
  refine LAny.take 3 rfl (by kernel_rfl) (Nb rfl) (KJ rfl (by repeat (first|exact Mh _|apply Mt)) (by exact KM Try.underlying25 rfl sz_25)) ?_
  refine LAny.take 4 rfl (by kernel_rfl) (Nb rfl) (KJ rfl (by repeat (first|exact Mh _|apply Mt)) (by exact KM Try.underlying25 rfl sz_25)) ?_
  refine Kt 5 rfl rfl (by kernel_rfl) (KR (first:=[_]) rfl en_156 rfl (Nb rfl) (fun w hw=>c_F_Mul V hok f bd _ _ w (hw _ (by repeat (first|exact Mh _|apply Mt))) (hw _ (by repeat (first|exact Mh _|apply Mt)))) ?_)
  refine Kt 6 rfl rfl (by kernel_rfl) (KR (first:=[_]) rfl en_152 rfl (Nb rfl) (fun w hw=>c_F_Add V hok f bd _ _ w (hw _ (by repeat (first|exact Mh _|apply Mt)))) ?_)
  refine Ko 7 rfl rfl (by kernel_rfl) (by kernel_rfl) (KP rfl rfl sz_25 (by repeat (first|exact Kj _|exact Ky _ _ _|exact Kl _|exact Kp _ _ _|exact Kw _ _ _|exact KY|refine KS rfl ?_|refine KX ?_ ?_)) (by repeat (first|exact Sh _|apply St_)) (by first|exact KH _|exact KN _ _ _|exact KK _|exact KT _ _ _|exact Kd _ _ _|rfl|simp [KN,KH,KK]) ?_)
  refine Km (by kernel_rfl) ?_
  refine KE ?_
  refine Ka [10] (by kernel_rfl) ?_
  refine KC 0 rfl (by kernel_rfl) (Nb rfl) (KD rfl) ?_
  refine KC 1 rfl (by kernel_rfl) (Nb rfl) (KD rfl) ?_
  refine LAny.take 2 rfl (by kernel_rfl) (Nb rfl) (KJ rfl (by repeat (first|exact Mh _|apply Mt)) (by exact KM Try.underlying25 rfl sz_25)) ?_
  refine LAny.take 3 rfl (by kernel_rfl) (Nb rfl) (KJ rfl (by repeat (first|exact Mh _|apply Mt)) (by exact KM Try.underlying25 rfl sz_25)) ?_
  refine KC 5 rfl (by kernel_rfl) (Nb rfl) (KD rfl) ?_
  refine LAny.take 6 rfl (by kernel_rfl) (Nb rfl) (KJ rfl (by repeat (first|exact Mh _|apply Mt)) (by exact KM Try.underlying25 rfl sz_25)) ?_
  refine LAny.take 7 rfl (by kernel_rfl) (Nb rfl) (KJ rfl (by repeat (first|exact Mh _|apply Mt)) (by exact KM Try.underlying25 rfl sz_25)) ?_
  refine Kt 4 rfl rfl (by kernel_rfl) (KR (first:=[_]) rfl en_156 rfl (Nb rfl) (fun w hw=>c_F_Mul V hok f bd _ _ w (hw _ (by repeat (first|exact Mh _|apply Mt))) (hw _ (by repeat (first|exact Mh _|apply Mt)))) ?_)
  refine Kt 8 rfl rfl (by kernel_rfl) (KR (first:=[_]) rfl en_156 rfl (Nb rfl) (fun w hw=>c_F_Mul V hok f bd _ _ w (hw _ (by repeat (first|exact Mh _|apply Mt))) (hw _ (by repeat (first|exact Mh _|apply Mt)))) ?_)
  refine Kt 9 rfl rfl (by kernel_rfl) (KR (first:=[_]) rfl en_161 rfl (Nb rfl) (fun w hw=>c_F_Sub V hok f bd _ _ w (hw _ (by repeat (first|exact Mh _|apply Mt)))) ?_)
  refine Ko 10 rfl rfl (by kernel_rfl) (by kernel_rfl) (KP rfl rfl sz_25 (by repeat (first|exact Kj _|exact Ky _ _ _|exact Kl _|exact Kp _ _ _|exact Kw _ _ _|exact KY|refine KS rfl ?_|refine KX ?_ ?_)) (by repeat (first|exact Sh _|apply St_)) (by first|exact KH _|exact KN _ _ _|exact KK _|exact KT _ _ _|exact Kd _ _ _|rfl|simp [KN,KH,KK]) ?_)
  refine Km (by kernel_rfl) ?_
  refine KE ?_
  refine Ka [10] (by kernel_rfl) ?_
  refine KC 0 rfl (by kernel_rfl) (Nb rfl) (KD rfl) ?_
  refine KC 1 rfl (by kernel_rfl) (Nb rfl) (KD rfl) ?_
  refine LAny.take 2 rfl (by kernel_rfl) (Nb rfl) (KJ rfl (by repeat (first|exact Mh _|apply Mt)) (by exact KM Try.underlying25 rfl sz_25)) ?_
  refine LAny.take 3 rfl (by kernel_rfl) (Nb rfl) (KJ rfl (by repeat (first|exact Mh _|apply Mt)) (by exact KM Try.underlying25 rfl sz_25)) ?_
  refine KC 5 rfl (by kernel_rfl) (Nb rfl) (KD rfl) ?_
  refine LAny.take 6 rfl (by kernel_rfl) (Nb rfl) (KJ rfl (by repeat (first|exact Mh _|apply Mt)) (by exact KM Try.underlying25 rfl sz_25)) ?_
  refine LAny.take 7 rfl (by kernel_rfl) (Nb rfl) (KJ rfl (by repeat (first|exact Mh _|apply Mt)) (by exact KM Try.underlying25 rfl sz_25)) ?_
  refine Kt 4 rfl rfl (by kernel_rfl) (KR (first:=[_]) rfl en_156 rfl (Nb rfl) (fun w hw=>c_F_Mul V hok f bd _ _ w (hw _ (by repeat (first|exact Mh _|apply Mt))) (hw _ (by repeat (first|exact Mh _|apply Mt)))) ?_)
  refine Kt 8 rfl rfl (by kernel_rfl) (KR (first:=[_]) rfl en_156 rfl (Nb rfl) (fun w hw=>c_F_Mul V hok f bd _ _ w (hw _ (by repeat (first|exact Mh _|apply Mt))) (hw _ (by repeat (first|exact Mh _|apply Mt)))) ?_)
  refine Kt 9 rfl rfl (by kernel_rfl) (KR (first:=[_]) rfl en_152 rfl (Nb rfl) (fun w hw=>c_F_Add V hok f bd _ _ w (hw _ (by repeat (first|exact Mh _|apply Mt)))) ?_)
  refine Ko 10 rfl rfl (by kernel_rfl) (by kernel_rfl) (KP rfl rfl sz_25 (by repeat (first|exact Kj _|exact Ky _ _ _|exact Kl _|exact Kp _ _ _|exact Kw _ _ _|exact KY|refine KS rfl ?_|refine KX ?_ ?_)) (by repeat (first|exact Sh _|apply St_)) (by first|exact KH _|exact KN _ _ _|exact KK _|exact KT _ _ _|exact Kd _ _ _|rfl|simp [KN,KH,KK]) ?_)
  refine Km (by kernel_rfl) ?_
  refine KE (KB ?_)
  refine LOps.det (KJ rfl (by repeat (first|exact Mh _|apply Mt)) (by exact KM Try.underlying25 rfl sz_25)) (Nb rfl) ?_
  refine LOps.det (KJ rfl (by repeat (first|exact Mh _|apply Mt)) (by exact KM Try.underlying25 rfl sz_25)) (Nb rfl) ?_
  refine LOps.det (KJ rfl (by repeat (first|exact Mh _|apply Mt)) (by exact KM Try.underlying25 rfl sz_25)) (Nb rfl) ?_
  refine KA (KW (KAT pl_91 zr_91 rfl (fill_pj _ _ _)) rfl) (Nb rfl) ?_
  refine KI rfl (KP rfl rfl sz_91 (by repeat (first|exact Kj _|exact Ky _ _ _|exact Kl _|exact Kp _ _ _|exact Kw _ _ _|exact KY|refine KS rfl ?_|refine KX ?_ ?_)) (by repeat (first|exact Sh _|apply St_)) (by first|exact KH _|exact KN _ _ _|exact KK _|exact KT _ _ _|exact Kd _ _ _|rfl|simp [KN,KH,KK]) ?_)
  refine KG (KZ ?_)
  refine ⟨[_],.cons ⟨_,_,_,rfl,(by repeat (first|exact Mh _|apply Mt)),by exact KM Try.underlying91 rfl sz_91⟩ .nil,fun a w' hr=>⟨?_,hr.fr.below⟩⟩
  rfl
end Go.Proofs.Ytljblbgogjieaaa
set_option linter.unusedVariables false
set_option linter.unusedSimpArgs false
set_option maxRecDepth 20000
namespace Go.Proofs.Ytljblbgogjieaaa
open Go Go.RowKit
open Grp
theorem pm_top (V:Cv) (P:Pt V.p) (K:Nat):pmul V.A P (K/2^blen K) = .inf:=by rw [Nat.div_eq_of_lt (lt_blen K)]; rfl
theorem pm_T {V:Cv} (hok:V.Ok) {P:Pt V.p} (hP:On V.A V.B P) {K y:Nat} (h:K/2^y%2 = 1):padd V.A (padd V.A (pmul V.A P (K/2^(y+1))) (pmul V.A P (K/2^(y+1)))) P = pmul V.A P (K/2^y):=by
  have:=pmul_bit hok.crv hP K y
  rwa [if_pos h] at this
theorem pm_F {V:Cv} (hok:V.Ok) {P:Pt V.p} (hP:On V.A V.B P) {K y:Nat} (h:¬ K/2^y%2 = 1):padd V.A (pmul V.A P (K/2^(y+1))) (pmul V.A P (K/2^(y+1))) = pmul V.A P (K/2^y):=by
  have:=pmul_bit hok.crv hP K y
  rwa [if_neg h] at this
theorem c_r_Times (Q:CQ) (V:Cv) (qk:NV) (K:Nat) (q r:NV) (P R:Pt V.p) (w:World) (hc:(crvI Q V).holds w) (hok:V.Ok) (hk:(numT qk K).holds w) (hK:D.nw K≤1000) (hq:(numT q (xv P)).holds w) (hr:(numT r (yv P)).holds w) (hP:On V.A V.B P) (hR:pmul V.A P K = R):Calls Try.prog 64 ([.agg (crvL Q V).toArray,numV qk K,rpV (numV q (xv P)) (numV r (yv P)) (iv P)]:List Value).toArray w (fun e w'=>Num2R w (fp2 q r P []) (xv R) (yv R) (fun u v=>rpV u v (iv R)) e w'):=by
  obtain ⟨hb5,hb521,hba,hbb,hbx,hby,hbn,hbo,hbo2,hbb1,hbn1⟩:=hok.bounds
  have hsz:=hok.sz
  have hsp:=hsz.p
  have hsa:=hsz.a
  have hsb:=hsz.b
  have hp0:V.p≠0:=by omega
  have hpp:0<V.p:=by omega
  have hm17:∀ k,D.nw (k%V.p)≤17:=fun k=>Nat.le_trans (D.nw_mono (Nat.le_of_lt (Nat.mod_lt k hpp))) hsp
  refine KAC (N:=30) (rs:=[.cell 6 73]) [crvI Q V,numT qk K,numT q (xv P),numT r (yv P)] Try.func64 rfl Try.ntmps64 Try.results64 (Nb rfl) ⟨hc,hk,hq,hr,trivial⟩ rfl ?_
  show LCode _ _ _ ⟨_,_⟩ _
  refine KE (KB ?_)
  refine KI rfl (KU (KQ (Ku rfl) (Nb rfl) (fun b3=>?_)))
  refine KI rfl (KU (KQ (Ku rfl) (Nb rfl) (fun b5=>?_)))
  refine KI rfl (KU (KQ (Kg zr_73) (Nb rfl) (fun b6=>?_)))
  refine KG ?_
  refine KE (KB ?_)
  refine KA (KW (KAT pl_73 zr_73 rfl rfl) (show _ = rpV (.slice none 0 0) (.slice none 0 0) (true) from rfl)) (Nb rfl) ?_
  refine KI rfl (KU (KQ (Kg zr_73) (Nb rfl) (fun b7=>?_)))
  refine KI rfl (KP rfl rfl sz_73 (by repeat (first|exact KY|refine KS rfl ?_)) (by repeat (first|exact Sh _|apply St_)) (by rfl) ?_)
  refine KG ?_
  refine KE ?_
  refine KE ?_
  have hbk:=blen_nw K
  refine LCode.zeroNum ?_
  refine LCode.zeroNum ?_
  refine KB ?_
  refine KA (KD rfl) (Nb rfl) ?_
  refine KI rfl (KU (KR (first:=[]) rfl en_76 rfl (Nb rfl) (fun w hw=>c_n_Bits qk K w (hw _ (by repeat (first|exact Mh _|apply Mt))) (by omega)) ?_))
  refine KA (KO (v:=.int .i64 (((blen K:Nat):Int)-1)) rfl rfl (br_subI (by omega) (by omega))) (Nb rfl) ?_
  refine KA (KF rfl) (Nb rfl) ?_
  refine KG ?_
  refine LCode.block ?_
  refine KAP (α:=Nat×NV×NV) (fun x=>x.1≤blen K∧NFr w.heap.size (fp2 q r P []) x.2.1 (D.nw (xv (pmul V.A P (K/2^x.1))))∧NFr w.heap.size (fp2 q r P []) x.2.2 (D.nw (yv (pmul V.A P (K/2^x.1))))) (fun x=>⟨[(1,numV qk K),(3,.pointer (some ⟨b3,0,none⟩)),(5,.pointer (some ⟨b5,0,none⟩)),(6,.pointer (some ⟨b6,0,none⟩)),(7,.pointer (some ⟨b7,0,none⟩)),(8,.int .i64 (((x.1:Nat):Int)-1))],[.blk b7 ⟨true,rpL (numV x.2.1 (xv (pmul V.A P (K/2^x.1)))) (numV x.2.2 (yv (pmul V.A P (K/2^x.1)))) (iv (pmul V.A P (K/2^x.1))),73,(0,0)⟩,.blk b6 ⟨true,[.slice none 0 0,.slice none 0 0,.bool false],73,(0,0)⟩,.blk b5 ⟨true,rpL (numV q (xv P)) (numV r (yv P)) (iv P),73,(0,0)⟩,.blk b3 ⟨true,crvL Q V,31,(0,0)⟩,numT x.2.1 (xv (pmul V.A P (K/2^x.1))),numT x.2.2 (yv (pmul V.A P (K/2^x.1))),crvI Q V,numT qk K,numT q (xv P),numT r (yv P)]⟩) (fun x=>x.1) ((blen K,⟨true,0,0⟩,⟨true,0,0⟩)) (⟨Nat.le_refl _,by dsimp only; rw [pm_top]; exact nfr_zero _ _,by dsimp only; rw [pm_top]; exact nfr_zero _ _⟩) (by dsimp only; rw [pm_top]; exact KAn (Sub.cells (b:=b7) (cs':=rpL (numV ⟨true,0,0⟩ (xv (Pt.inf:Pt V.p))) (numV ⟨true,0,0⟩ (yv (Pt.inf:Pt V.p))) (iv (Pt.inf:Pt V.p))) (by repeat (first|exact Sh _|apply St_)) rp_nil) (KAL ⟨rfl,rfl,rfl,rfl,rfl,rfl,trivial⟩ (by repeat (first|exact Sel.nil _|refine Sel.cons (by repeat (first|exact Ph _|apply Pt_)) ?_)))) ?_
  rintro x ⟨hx1,hx2,hx3⟩
  refine KE ?_
  refine KE ?_
  rcases Nat.eq_zero_or_pos x.1 with h0|h0
  ·
    refine KB ?_
    refine KA (KD rfl) (Nb rfl) ?_
    refine KA (KO (v:=.bool false) rfl rfl (by rw [h0]; rfl)) (Nb rfl) ?_
    refine KG ?_
    refine Kn rfl ?_
    refine KAM ?_
    refine KE ?_
    have eR:pmul V.A P (K/2^x.1) = R:=by rw [h0,Nat.pow_zero,Nat.div_one]; exact hR
    rw [eR] at hx2 hx3 ⊢
    refine KB ?_
    refine LOps.det (KJ rfl (by repeat (first|exact Mh _|apply Mt)) (by exact KM Try.underlying73 rfl sz_73)) (Nb rfl) ?_
    refine KI rfl (KP rfl rfl sz_73 (by repeat (first|exact KY|refine KS rfl ?_)) (by repeat (first|exact Sh _|apply St_)) (by rfl) ?_)
    refine KG (KZ ?_)
    refine ⟨[_],.cons ⟨_,_,_,rfl,(by repeat (first|exact Mh _|apply Mt)),by exact KM Try.underlying73 rfl sz_73⟩ .nil,fun a w' hr=>hr.num2Q (by repeat (first|exact Mh _|apply Mt)) hx2 (by repeat (first|exact Mh _|apply Mt)) hx3⟩
  ·
    obtain ⟨y,hy⟩:∃ y,x.1 = y+1:=⟨x.1-1,by omega⟩
    rw [hy] at hx2 hx3 ⊢
    refine KB ?_
    refine KA (KD rfl) (Nb rfl) ?_
    refine KA (KO (v:=.bool true) rfl rfl (by simp [KAY] <;> omega)) (Nb rfl) ?_
    refine KG ?_
    refine KAB rfl ?_
    refine Kh ?_
    refine KE ?_
    refine LCode.block ?_
    refine KE (KB ?_)
    refine LOps.det (KJ rfl (by repeat (first|exact Mh _|apply Mt)) (by exact KM Try.underlying31 rfl sz_31)) (Nb rfl) ?_
    refine LOps.det (KJ rfl (by repeat (first|exact Mh _|apply Mt)) (by exact KM Try.underlying73 rfl sz_73)) (Nb rfl) ?_
    refine LOps.det (KJ rfl (by repeat (first|exact Mh _|apply Mt)) (by exact KM Try.underlying73 rfl sz_73)) (Nb rfl) ?_
    refine KI rfl (KU (Kz (first:=[]) rfl en_79 rfl (Nb rfl) (fun w hw hs=>(c_r_Plus Q V x.2.1 x.2.2 x.2.1 x.2.2 (pmul V.A P (K/2^(y+1))) (pmul V.A P (K/2^(y+1))) (padd V.A (pmul V.A P (K/2^(y+1))) (pmul V.A P (K/2^(y+1)))) w (hw _ (by repeat (first|exact Mh _|apply Mt))) hok (hw _ (by repeat (first|exact Mh _|apply Mt))) (hw _ (by repeat (first|exact Mh _|apply Mt))) (hw _ (by repeat (first|exact Mh _|apply Mt))) (hw _ (by repeat (first|exact Mh _|apply Mt))) (hok.mul hP _) (hok.mul hP _) rfl).mono fun e w' h=>Num2R.q (Old.pt (by repeat (first|exact Mh _|apply Mt)) (by repeat (first|exact Mh _|apply Mt)) (Old.pt (by repeat (first|exact Mh _|apply Mt)) (by repeat (first|exact Mh _|apply Mt)) (Old.nil _))) hs h) ?_))
    rintro _ _ ⟨qda,qdb,rfl,rfl,hnda,hndb⟩
    refine KI rfl (KP rfl rfl sz_73 (by repeat (first|exact KY|refine KS rfl ?_)) (by repeat (first|exact Sh _|apply St_)) (by rfl) ?_)
    refine KG ?_
    refine KE (KB ?_)
    refine KA (KD rfl) (Nb rfl) ?_
    refine KA (KD (v:=.int .i64 ((y:Nat):Int)) (by show some _ = some _; congr 2; omega)) (Nb rfl) ?_
    refine KI rfl (KU (KR (first:=[]) rfl en_69 rfl (Nb rfl) (fun w hw=>c_n_Bit qk K (D.nw K) y w (hw _ (by repeat (first|exact Mh _|apply Mt))) (by omega)) ?_))
    refine KA (KO rfl rfl (br_eql (b:=1))) (Nb rfl) ?_
    refine KG ?_
    first|refine Ke rfl (fun hbit=>?_) (fun hbit=>?_)|refine Ki rfl (fun hbit=>?_) (fun hbit=>?_)
    ·
      have hbit:K/2^y%2 = 1:=hbit
      refine KB ?_
      refine LOps.det (KJ rfl (by repeat (first|exact Mh _|apply Mt)) (by exact KM Try.underlying31 rfl sz_31)) (Nb rfl) ?_
      refine LOps.det (KJ rfl (by repeat (first|exact Mh _|apply Mt)) (by exact KM Try.underlying73 rfl sz_73)) (Nb rfl) ?_
      refine LOps.det (KJ rfl (by repeat (first|exact Mh _|apply Mt)) (by exact KM Try.underlying73 rfl sz_73)) (Nb rfl) ?_
      refine KI rfl (KU (Kz (first:=[]) rfl en_79 rfl (Nb rfl) (fun w hw hs=>(c_r_Plus Q V qda qdb q r (padd V.A (pmul V.A P (K/2^(y+1))) (pmul V.A P (K/2^(y+1)))) P (pmul V.A P (K/2^y)) w (hw _ (by repeat (first|exact Mh _|apply Mt))) hok (hw _ (by repeat (first|exact Mh _|apply Mt))) (hw _ (by repeat (first|exact Mh _|apply Mt))) (hw _ (by repeat (first|exact Mh _|apply Mt))) (hw _ (by repeat (first|exact Mh _|apply Mt))) (hok.sum (hok.mul hP _) (hok.mul hP _)) hP (pm_T hok hP hbit)).mono fun e w' h=>Num2R.q (Old.pt (by repeat (first|exact Mh _|apply Mt)) (by repeat (first|exact Mh _|apply Mt)) (Old.pt (by repeat (first|exact Mh _|apply Mt)) (by repeat (first|exact Mh _|apply Mt)) (Old.nil _))) hs h) ?_))
      rintro _ _ ⟨qea,qeb,rfl,rfl,hnea,hneb⟩
      refine KI rfl (KP rfl rfl sz_73 (by repeat (first|exact KY|refine KS rfl ?_)) (by repeat (first|exact Sh _|apply St_)) (by rfl) ?_)
      refine KG ?_
      refine KB ?_
      refine KA (KD (v:=.int .i64 ((y:Nat):Int)) (by show some _ = some _; congr 2; omega)) (Nb rfl) ?_
      refine KA (KO (v:=.int .i64 (((y:Nat):Int)-1)) rfl rfl (br_subI (by omega) (by omega))) (Nb rfl) ?_
      refine KA (KF rfl) (Nb rfl) ?_
      refine KG ?_
      exact ⟨(y,qea,qeb),⟨by dsimp only; omega,NFr.two hnea (NFr.two hnda hx2 hx3 hx2 hx3) (NFr.two hndb hx2 hx3 hx2 hx3) (fp2_q _) (fp2_r _),NFr.two hneb (NFr.two hnda hx2 hx3 hx2 hx3) (NFr.two hndb hx2 hx3 hx2 hx3) (fp2_q _) (fp2_r _)⟩,by dsimp only; omega,KAL ⟨rfl,rfl,rfl,rfl,rfl,rfl,trivial⟩ (by repeat (first|exact Sel.nil _|refine Sel.cons (by repeat (first|exact Ph _|apply Pt_)) ?_))⟩
    ·
      have hbit:¬ K/2^y%2 = 1:=hbit
      refine Kh ?_
      refine KB ?_
      refine KA (KD (v:=.int .i64 ((y:Nat):Int)) (by show some _ = some _; congr 2; omega)) (Nb rfl) ?_
      refine KA (KO (v:=.int .i64 (((y:Nat):Int)-1)) rfl rfl (br_subI (by omega) (by omega))) (Nb rfl) ?_
      refine KA (KF rfl) (Nb rfl) ?_
      refine KG ?_
      rw [pm_F hok hP hbit] at hnda hndb ⊢
      exact ⟨(y,qda,qdb),⟨by dsimp only; omega,NFr.two hnda hx2 hx3 hx2 hx3,NFr.two hndb hx2 hx3 hx2 hx3⟩,by dsimp only; omega,KAL ⟨rfl,rfl,rfl,rfl,rfl,rfl,trivial⟩ (by repeat (first|exact Sel.nil _|refine Sel.cons (by repeat (first|exact Ph _|apply Pt_)) ?_))⟩
def sumT (V:Cv) (T U:Fin V.p×Fin V.p×Fin V.p):Fin V.p×Fin V.p×Fin V.p:=sum3 V.A (V.B+V.B+V.B) T.1 T.2.1 T.2.2 U.1 U.2.1 U.2.2
structure RepT (V:Cv) (T:Fin V.p×Fin V.p×Fin V.p) (P:Pt V.p):Prop where
  rep:Rep T.1 T.2.1 T.2.2 P
  on:On V.A V.B P
theorem RepT.sum {V:Cv} (hok:V.Ok) {T U:Fin V.p×Fin V.p×Fin V.p} {P R:Pt V.p} (h:RepT V T P) (k:RepT V U R):RepT V (sumT V T U) (padd V.A P R):=⟨hok.rep_sum h.rep k.rep h.on k.on,hok.sum h.on k.on⟩
theorem RepT.trip {V:Cv} (hok:V.Ok) {P:Pt V.p} (hP:On V.A V.B P):RepT V (tripF P) P:=⟨hok.rep_trip P,hP⟩
theorem c_SumT (V:Cv) (b f bd:Nat) (hok:V.Ok) (T U:Fin V.p×Fin V.p×Fin V.p) (w:World) (hb:(Item.blk b ⟨false,opL V f,147,(0,0)⟩).holds w) (hf:(Item.blk f ⟨false,fldL V.p bd,194,(0,0)⟩).holds w) (hbd:(Item.blk bd ⟨false,dvL V.p,241,(0,0)⟩).holds w):Calls Try.prog 128 ([.pointer (some ⟨b,0,none⟩),pjF T,pjF U]:List Value).toArray w (fun e w'=>e = .returned (pjF (sumT V T U))∧Below w.heap.size w w') :=
  c_Sum V b f bd hok T.1 T.2.1 T.2.2 U.1 U.2.1 U.2.2 w hb hf hbd
theorem c_PlainT (V:Cv) (b f bd:Nat) (hok:V.Ok) (T:Fin V.p×Fin V.p×Fin V.p) (P:Pt V.p) (w:World) (hb:(Item.blk b ⟨false,opL V f,147,(0,0)⟩).holds w) (hf:(Item.blk f ⟨false,fldL V.p bd,194,(0,0)⟩).holds w) (hbd:(Item.blk bd ⟨false,dvL V.p,241,(0,0)⟩).holds w) (h:RepT V T P):Calls Try.prog 127 ([.pointer (some ⟨b,0,none⟩),pjF T]:List Value).toArray w (fun e w'=>e = .returned (ptP P)∧Below w.heap.size w w'):=by
  have:=c_Plain V b f bd hok T.1 T.2.1 T.2.2 w hb hf hbd
  rwa [Rep.plain hok.prime h.rep] at this
theorem c_cTimes (V:Cv) (b f bd:Nat) (hok:V.Ok) (K:Nat) (hK:K<W9) (T:Fin V.p×Fin V.p×Fin V.p) (P:Pt V.p) (w:World) (hb:(Item.blk b ⟨false,opL V f,147,(0,0)⟩).holds w) (hf:(Item.blk f ⟨false,fldL V.p bd,194,(0,0)⟩).holds w) (hbd:(Item.blk bd ⟨false,dvL V.p,241,(0,0)⟩).holds w) (hrep:RepT V T P):Calls Try.prog 134 ([.pointer (some ⟨b,0,none⟩),natV K,pjF T]:List Value).toArray w (fun e w'=>∃ v,(∃ U,RepT V U (pmul V.A P K)∧v = pjF U)∧e = .returned v∧Below w.heap.size w w'):=by
  have hbl:=blen_w9 hK
  refine KAC (N:=30) (rs:=[.cell 6 91]) [.blk b ⟨false,opL V f,147,(0,0)⟩,.blk f ⟨false,fldL V.p bd,194,(0,0)⟩,.blk bd ⟨false,dvL V.p,241,(0,0)⟩] Try.func134 rfl Try.ntmps134 Try.results134 (Nb rfl) ⟨hb,hf,hbd,trivial⟩ rfl ?_
  show LCode _ _ _ ⟨_,_⟩ _
  refine KE (KB ?_)
  refine KI rfl (KU (KQ (Ku rfl) (Nb rfl) (fun b4=>?_)))
  refine KI rfl (KU (KQ (Ku rfl) (Nb rfl) (fun b5=>?_)))
  refine KI rfl (KU (KQ (Kg zr_91) (Nb rfl) (fun b6=>?_)))
  refine KG ?_
  refine KE (KB ?_)
  refine KI rfl (KU (KR (first:=[]) rfl en_158 rfl (Nb rfl) (fun w hw=>c_NoneF hok w) ?_))
  refine KI rfl (KU (KQ (Kg zr_91) (Nb rfl) (fun b7=>?_)))
  refine KI rfl (KP rfl rfl sz_91 (by exact Kw _ _ _) (by repeat (first|exact Sh _|apply St_)) (by exact Kd _ _ _) ?_)
  refine KG ?_
  refine KE ?_
  refine KE (KB ?_)
  refine LOps.det (KJ rfl (by repeat (first|exact Mh _|apply Mt)) (by exact KM Try.underlying25 rfl sz_25)) (Nb rfl) ?_
  refine KI rfl (KU (KR (first:=[]) rfl en_151 rfl (Nb rfl) (fun w hw=>c_nat_Bits K hK w) ?_))
  refine KA (KO (v:=.int .i64 (((blen K:Nat):Int)-1)) rfl rfl (br_subI (by omega) (by omega))) (Nb rfl) ?_
  refine KA (KF rfl) (Nb rfl) ?_
  refine KG ?_
  refine LCode.block ?_
  refine KAP (α:=Nat×(Fin V.p×Fin V.p×Fin V.p)) (fun x=>x.1≤blen K∧RepT V x.2 (pmul V.A P (K/2^x.1))) (fun x=>⟨[(0,.pointer (some ⟨b,0,none⟩)),(4,.pointer (some ⟨b4,0,none⟩)),(5,.pointer (some ⟨b5,0,none⟩)),(6,.pointer (some ⟨b6,0,none⟩)),(7,.pointer (some ⟨b7,0,none⟩)),(8,.int .i64 (((x.1:Nat):Int)-1))],[.blk b7 ⟨true,pjFL x.2,91,(0,0)⟩,.blk b6 ⟨true,(vec .u64 9 (fun _=>0)++(vec .u64 9 (fun _=>0)++vec .u64 9 (fun _=>0))),91,(0,0)⟩,.blk b5 ⟨true,pjFL T,91,(0,0)⟩,.blk b4 ⟨true,natL K,25,(0,0)⟩,.blk b ⟨false,opL V f,147,(0,0)⟩,.blk f ⟨false,fldL V.p bd,194,(0,0)⟩,.blk bd ⟨false,dvL V.p,241,(0,0)⟩]⟩) (fun x=>x.1) ((blen K,tripF (.inf:Pt V.p))) (⟨Nat.le_refl _,by dsimp only; rw [pm_top]; exact RepT.trip hok trivial⟩) (KAL ⟨rfl,rfl,rfl,rfl,rfl,rfl,trivial⟩ (by repeat (first|exact Sel.nil _|refine Sel.cons (by repeat (first|exact Ph _|apply Pt_)) ?_))) ?_
  rintro x ⟨hx1,hx2⟩
  refine KE ?_
  refine KE ?_
  rcases Nat.eq_zero_or_pos x.1 with h0|h0
  ·
    refine KB ?_
    refine KA (KD rfl) (Nb rfl) ?_
    refine KA (KO (v:=.bool false) rfl rfl (by rw [h0]; rfl)) (Nb rfl) ?_
    refine KG ?_
    refine Kn rfl ?_
    refine KAM ?_
    refine KE ?_
    have eR:pmul V.A P (K/2^x.1) = pmul V.A P K:=by rw [h0,Nat.pow_zero,Nat.div_one]
    rw [eR] at hx2
    refine KB ?_
    refine LOps.det (KJ rfl (by repeat (first|exact Mh _|apply Mt)) (by exact KM Try.underlying91 rfl sz_91)) (Nb rfl) ?_
    refine KI rfl (KP rfl rfl sz_91 (by exact Kw _ _ _) (by repeat (first|exact Sh _|apply St_)) (by exact Kd _ _ _) ?_)
    refine KG (KZ ?_)
    refine ⟨[_],.cons ⟨_,_,_,rfl,(by repeat (first|exact Mh _|apply Mt)),by exact KM Try.underlying91 rfl (by have:=sz_91; exact this)⟩ .nil,fun a w' hr=>⟨_,⟨x.2,hx2,rfl⟩,rfl,hr.fr.below⟩⟩
  ·
    obtain ⟨y,hy⟩:∃ y,x.1 = y+1:=⟨x.1-1,by omega⟩
    rw [hy] at hx2
    refine KB ?_
    refine KA (KD rfl) (Nb rfl) ?_
    refine KA (KO (v:=.bool true) rfl rfl (by rw [hy]; simp [KAY] <;> omega)) (Nb rfl) ?_
    refine KG ?_
    refine KAB rfl ?_
    refine Kh ?_
    refine KE ?_
    refine LCode.block ?_
    refine KE (KB ?_)
    refine KA (KD rfl) (Nb rfl) ?_
    refine LOps.det (KJ rfl (by repeat (first|exact Mh _|apply Mt)) (by exact KM Try.underlying91 rfl sz_91)) (Nb rfl) ?_
    refine LOps.det (KJ rfl (by repeat (first|exact Mh _|apply Mt)) (by exact KM Try.underlying91 rfl sz_91)) (Nb rfl) ?_
    refine KI rfl (KU (KR (first:=[]) rfl en_128 rfl (Nb rfl) (fun w hw=>c_SumT V b f bd hok (x.2) (x.2) w (hw _ (by repeat (first|exact Mh _|apply Mt))) (hw _ (by repeat (first|exact Mh _|apply Mt))) (hw _ (by repeat (first|exact Mh _|apply Mt)))) ?_))
    refine KI rfl (KP rfl rfl sz_91 (by exact Kw _ _ _) (by repeat (first|exact Sh _|apply St_)) (by exact Kd _ _ _) ?_)
    refine KG ?_
    refine KE (KB ?_)
    refine LOps.det (KJ rfl (by repeat (first|exact Mh _|apply Mt)) (by exact KM Try.underlying25 rfl sz_25)) (Nb rfl) ?_
    refine KA (KD (v:=.int .i64 ((y:Nat):Int)) (by show some _ = some _; congr 2; omega)) (Nb rfl) ?_
    refine KI rfl (KU (KR (first:=[]) rfl en_139 rfl (Nb rfl) (fun w hw=>c_nat_Bit K y hK (by omega) w) ?_))
    refine KA (KO rfl rfl (br_eql (b:=1))) (Nb rfl) ?_
    refine KG ?_
    first|refine Ke rfl (fun hbit=>?_) (fun hbit=>?_)|refine Ki rfl (fun hbit=>?_) (fun hbit=>?_)
    ·
      have hbit:K/2^y%2 = 1:=hbit
      refine KB ?_
      refine KA (KD rfl) (Nb rfl) ?_
      refine LOps.det (KJ rfl (by repeat (first|exact Mh _|apply Mt)) (by exact KM Try.underlying91 rfl sz_91)) (Nb rfl) ?_
      refine LOps.det (KJ rfl (by repeat (first|exact Mh _|apply Mt)) (by exact KM Try.underlying91 rfl sz_91)) (Nb rfl) ?_
      refine KI rfl (KU (KR (first:=[]) rfl en_128 rfl (Nb rfl) (fun w hw=>c_SumT V b f bd hok (sumT V x.2 x.2) (T) w (hw _ (by repeat (first|exact Mh _|apply Mt))) (hw _ (by repeat (first|exact Mh _|apply Mt))) (hw _ (by repeat (first|exact Mh _|apply Mt)))) ?_))
      refine KI rfl (KP rfl rfl sz_91 (by exact Kw _ _ _) (by repeat (first|exact Sh _|apply St_)) (by exact Kd _ _ _) ?_)
      refine KG ?_
      refine KB ?_
      refine KA (KD (v:=.int .i64 ((y:Nat):Int)) (by show some _ = some _; congr 2; omega)) (Nb rfl) ?_
      refine KA (KO (v:=.int .i64 (((y:Nat):Int)-1)) rfl rfl (br_subI (by omega) (by omega))) (Nb rfl) ?_
      refine KA (KF rfl) (Nb rfl) ?_
      refine KG ?_
      exact ⟨(y,sumT V (sumT V x.2 x.2) T),⟨by dsimp only; omega,by have:=RepT.sum hok (RepT.sum hok hx2 hx2) hrep; rw [pm_T hok hrep.on hbit] at this; exact this⟩,by dsimp only; omega,KAL ⟨rfl,rfl,rfl,rfl,rfl,rfl,trivial⟩ (by repeat (first|exact Sel.nil _|refine Sel.cons (by repeat (first|exact Ph _|apply Pt_)) ?_))⟩
    ·
      have hbit:¬ K/2^y%2 = 1:=hbit
      refine Kh ?_
      refine KB ?_
      refine KA (KD (v:=.int .i64 ((y:Nat):Int)) (by show some _ = some _; congr 2; omega)) (Nb rfl) ?_
      refine KA (KO (v:=.int .i64 (((y:Nat):Int)-1)) rfl rfl (br_subI (by omega) (by omega))) (Nb rfl) ?_
      refine KA (KF rfl) (Nb rfl) ?_
      refine KG ?_
      exact ⟨(y,sumT V x.2 x.2),⟨by dsimp only; omega,by have:=RepT.sum hok hx2 hx2; rw [pm_F hok hrep.on hbit] at this; exact this⟩,by dsimp only; omega,KAL ⟨rfl,rfl,rfl,rfl,rfl,rfl,trivial⟩ (by repeat (first|exact Sel.nil _|refine Sel.cons (by repeat (first|exact Ph _|apply Pt_)) ?_))⟩
end Go.Proofs.Ytljblbgogjieaaa
set_option linter.unusedVariables false
set_option linter.unusedSimpArgs false
set_option maxRecDepth 20000
namespace Go.Proofs.Ytljblbgogjieaaa
open Go Go.RowKit
def uidx (x:Int):Nat:=(x%18446744073709551616).toNat
theorem uidx_eq (x:Int):Value.int .u64 (IntKind.u64.wrap x) = Value.int .u64 ((uidx x:Nat):Int):=by
  unfold uidx
  rw [wrap_u64,Int.toNat_of_nonneg (Int.emod_nonneg _ (by decide))]
theorem cvI_idx (x:Int):∃ V,cvI ((1+uidx x%15:Nat):Int) = some V:=by
  rw [cvI_nat]; exact cvOf_some (by omega) (by omega)
theorem cvI_id {id:Int} {V:Cv} (h:cvI id = some V):cvI ((V.id:Nat):Int) = some V:=by rw [(cvI_ok h).2]; exact h
end Go.Proofs.Ytljblbgogjieaaa
set_option linter.unusedVariables false
set_option linter.unusedSimpArgs false
set_option maxRecDepth 20000
namespace Go.Proofs.Ytljblbgogjieaaa
open Go Go.RowKit
open Grp
theorem c_curveOnB (id:Int) (V:Cv) (X Y:Nat) (i r:Bool) (w:World) (h:cvI id = some V) (hX:X<W9) (hY:Y<W9) (hr:onB V.p V.a V.b X Y i = r):Calls Try.prog 61 ([.int .i64 id,ptV X Y i]:List Value).toArray w (fun e w'=>e = .returned (.bool r)∧Below w.heap.size w w'):=by
  have:=c_curveOn id V X Y i w h hX hY
  rwa [hr] at this
theorem Brings.own {w w':World} {H:List Item} {b:Nat} {cs:List Value} {e:TypeId} (hb:Below w.heap.size w w') (h:(Item.blk b ⟨true,cs,e,(0,0)⟩).holds w') (hn:w.heap.size≤b):Brings w H [.blk b ⟨true,cs,e,(0,0)⟩] w' :=
  ⟨hb,(by intro x hx; simp at hx; subst hx; exact h),(by intro x hx k hk; simp at hx; subst hx; simp [Item.fp] at hk; subst hk; exact .inl hn),(by intro x hx _ k hk; simp at hx; subst hx; simp [Item.fp] at hk; subst hk; exact hn),List.pairwise_singleton _ _⟩
end Go.Proofs.Ytljblbgogjieaaa
set_option linter.unusedVariables false
set_option linter.unusedSimpArgs false
set_option maxRecDepth 20000
namespace Go.Proofs.Ytljblbgogjieaaa
open Go Go.RowKit
open Grp
theorem xG {V:Cv} (hok:V.Ok):xv V.G = V.x:=val_c hok.bounds.2.2.2.2.1
theorem yG {V:Cv} (hok:V.Ok):yv V.G = V.y:=val_c hok.bounds.2.2.2.2.2.1
end Go.Proofs.Ytljblbgogjieaaa
set_option linter.unusedVariables false
set_option linter.unusedSimpArgs false
set_option maxRecDepth 20000
namespace Go.Proofs.Ytljblbgogjieaaa
open Go Go.RowKit
open Grp
theorem c_cOnB (V:Cv) (b f bd:Nat) (hok:V.Ok) (X Y:Nat) (i r:Bool) (w:World) (hb:(Item.blk b ⟨false,opL V f,147,(0,0)⟩).holds w) (hf:(Item.blk f ⟨false,fldL V.p bd,194,(0,0)⟩).holds w) (hbd:(Item.blk bd ⟨false,dvL V.p,241,(0,0)⟩).holds w) (hX:X<W9) (hY:Y<W9) (hr:onB V.p V.a V.b X Y i = r):Calls Try.prog 122 ([.pointer (some ⟨b,0,none⟩),ptV X Y i]:List Value).toArray w (fun e w'=>e = .returned (.bool r)∧Below w.heap.size w w'):=by
  have:=c_cOn V b f bd hok X Y i w hb hf hbd hX hY
  rwa [hr] at this
theorem c_cOnP (V:Cv) (b f bd:Nat) (hok:V.Ok) (P:Pt V.p) (w:World) (hb:(Item.blk b ⟨false,opL V f,147,(0,0)⟩).holds w) (hf:(Item.blk f ⟨false,fldL V.p bd,194,(0,0)⟩).holds w) (hbd:(Item.blk bd ⟨false,dvL V.p,241,(0,0)⟩).holds w) (hP:On V.A V.B P):Calls Try.prog 122 ([.pointer (some ⟨b,0,none⟩),ptP P]:List Value).toArray w (fun e w'=>e = .returned (.bool true)∧Below w.heap.size w w') :=
  c_cOnB V b f bd hok (xv P) (yv P) (iv P) true w hb hf hbd (pt_w9 hok P).1 (pt_w9 hok P).2 (onB_on hP)
end Go.Proofs.Ytljblbgogjieaaa
set_option linter.unusedVariables false
set_option linter.unusedSimpArgs false
set_option maxRecDepth 20000
namespace Go.Proofs.Ytljblbgogjieaaa
open Go Go.RowKit
open Grp
section
variable {P:Program} {C:Ctx} {d:Nat} {ty:TypeId} {pos:String} {aft:Array Edge} {K:St→Prop} {x:Operand} {v:Value}
theorem LStep.callK {T : List (Nat × Value)} {H : List Item} {f : FuncId} {xs : List Operand} {vs caps : List Value} {ats : Array TypeId} {g : Option (Nat × Bool)} (hf : evT T x = some (.func (.func f) #[] caps.toArray)) (he : KAQ P f) (ha : evL T xs = some vs) (hd : d < C.N)
    (hc:∀ w,(∀ x,x∈H→x.holds w)→Calls P f (vs++caps).toArray w (fun e w'=>e = .returned v∧Below w.heap.size w w'))
    (h:K ⟨(d,v) :: T,H⟩):LStep P C ⟨some d,.call { callee:=.value x,args:=xs.toArray,argTypes:=ats },ty,pos,aft,g⟩ ⟨T,H⟩ K:=by
  unfold LStep; intro a w hr Qr
  obtain ⟨fn,h1,h2,h3⟩:=he
  refine wp_callee (vs:=vs++caps) ?_ (hc w hr.hp) ?_
  · have:=hr.evs ha
    simp [execOp,resolve,hr.ev hf,Deferred.ofValue,invoke,run_call h1 h2 h3,this]
  · rintro e w' ⟨rfl,hb⟩
    exact ⟨v,rfl,hb,_,h,(hr.below hb).put hd v⟩
end
theorem pt_set1 (X Y Y':Nat) (i:Bool):splice (ptL X Y i) 9 (natL Y') = ptL X Y' i:=splice_mid (A:=natL X) (B:=natL Y) (D:=[.bool i]) (by simp [ptL]) (KH _) (by rw [KH,KH]) (by simp [ptL])
theorem neg_subF {p:Nat} [NeZero p] (y:Fin p):0-y = -y:=by grind
theorem neg_zeroF {p:Nat} [NeZero p]:((0:Fin p)-0).val = 0:=by rw [show (0:Fin p)-0 = 0 by grind]; rfl
theorem c_slope (V:Cv) (b f bd:Nat) (hok:V.Ok) (l x1 y1 x2 y2:Fin V.p) (i j:Bool) (w:World) (hb:(Item.blk b ⟨false,opL V f,147,(0,0)⟩).holds w) (hf:(Item.blk f ⟨false,fldL V.p bd,194,(0,0)⟩).holds w) (hbd:(Item.blk bd ⟨false,dvL V.p,241,(0,0)⟩).holds w):Calls Try.prog 162 ([.agg ([.pointer (some ⟨b,0,none⟩)]:List Value).toArray,natV l.val,ptV x1.val y1.val i,ptV x2.val y2.val j]:List Value).toArray w (fun e w'=>e = .returned (ptV (l*l-x1-x2).val (l*(x1-(l*l-x1-x2))-y1).val false)∧Below w.heap.size w w'):=by
  have hbb:=hok.bounds
  have hpW:V.p<W9:=w9_521 hbb.2.1
  refine KAC (N:=42) (rs:=[.cell 8 60]) [.blk b ⟨false,opL V f,147,(0,0)⟩,.blk f ⟨false,fldL V.p bd,194,(0,0)⟩,.blk bd ⟨false,dvL V.p,241,(0,0)⟩] Try.func162 rfl Try.ntmps162 Try.results162 (Nb rfl) ⟨hb,hf,hbd,trivial⟩ rfl ?_
  show LCode _ _ _ ⟨_,_⟩ _
  refine KE (KB ?_)
  refine KI rfl (KU (KQ (Ku rfl) (Nb rfl) (fun b4=>?_)))
  refine KI rfl (KU (KQ (Ku rfl) (Nb rfl) (fun b5=>?_)))
  refine KI rfl (KU (KQ (Ku rfl) (Nb rfl) (fun b6=>?_)))
  refine KI rfl (KU (KQ (Ku rfl) (Nb rfl) (fun b7=>?_)))
  refine KI rfl (KU (KQ (Kg zr_60) (Nb rfl) (fun b8=>?_)))
  refine KG ?_
  refine KE (KB ?_)
  refine KA (KL (o':=0) Try.underlying169 rfl rfl rfl sz_142 (by decide)) (Nb rfl) ?_
  refine LOps.det (KJ rfl (by repeat (first|exact Mh _|apply Mt)) (KV Try.underlying142 rfl (by first|rfl|exact Ks _ _ _ (by omega)|exact Kr _ (by omega)|exact Kq _ (by omega)|exact dv_m _ _ _ (by omega)))) (Nb rfl) ?_
  refine KA (Kc rfl) (Nb rfl) ?_
  refine KA (KL (o':=59) Try.underlying147 rfl rfl rfl sz_145 (by decide)) (Nb rfl) ?_
  refine LOps.det (KJ rfl (by repeat (first|exact Mh _|apply Mt)) (KV Try.underlying145 rfl (by exact cvC_gt_F _ _ _ _ _ _ _ _ _ _ _ _ _))) (Nb rfl) ?_
  refine KA (KF rfl) (Nb rfl) ?_
  refine KG ?_
  refine KE ?_
  refine Ka [13] (by kernel_rfl) ?_
  refine KC 0 rfl (by kernel_rfl) (Nb rfl) (KD rfl) ?_
  refine KC 1 rfl (by kernel_rfl) (Nb rfl) (KD rfl) ?_
  refine KC 2 rfl (by kernel_rfl) (Nb rfl) (KD rfl) ?_
  refine LAny.take 3 rfl (by kernel_rfl) (Nb rfl) (KJ rfl (by repeat (first|exact Mh _|apply Mt)) (by exact KM Try.underlying25 rfl sz_25)) ?_
  refine LAny.take 4 rfl (by kernel_rfl) (Nb rfl) (KJ rfl (by repeat (first|exact Mh _|apply Mt)) (by exact KM Try.underlying25 rfl sz_25)) ?_
  refine KC 6 rfl (by kernel_rfl) (Nb rfl) (KL (o':=0) Try.underlying60 rfl rfl rfl sz_25 (by decide)) ?_
  refine LAny.take 7 rfl (by kernel_rfl) (Nb rfl) (KJ rfl (by repeat (first|exact Mh _|apply Mt)) (by exact KAS Try.underlying25 rfl sz_25 rfl (KH _))) ?_
  refine KC 9 rfl (by kernel_rfl) (Nb rfl) (KL (o':=0) Try.underlying60 rfl rfl rfl sz_25 (by decide)) ?_
  refine LAny.take 10 rfl (by kernel_rfl) (Nb rfl) (KJ rfl (by repeat (first|exact Mh _|apply Mt)) (by exact KAS Try.underlying25 rfl sz_25 rfl (KH _))) ?_
  refine KAj ?_
  refine KAN 12 rfl (.inl zr_25) (Nb rfl) rfl rfl rfl ?_
  refine Kv 5 rfl rfl rfl (Nb rfl) (by kernel_rfl) rfl (KAD (first:=[]) rfl en_156 rfl (fun w hw=>c_F_Mul V hok f bd _ _ w (hw _ (by repeat (first|exact Mh _|apply Mt))) (hw _ (by repeat (first|exact Mh _|apply Mt))))) ?_
  rintro _ _ ⟨rfl,rfl⟩
  refine Kv 8 rfl rfl rfl (Nb rfl) (by kernel_rfl) rfl (KAD (first:=[]) rfl en_161 rfl (fun w hw=>c_F_Sub V hok f bd _ _ w (hw _ (by repeat (first|exact Mh _|apply Mt))))) ?_
  rintro _ _ ⟨rfl,rfl⟩
  refine Kv 11 rfl rfl rfl (Nb rfl) (by kernel_rfl) rfl (KAD (first:=[]) rfl en_161 rfl (fun w hw=>c_F_Sub V hok f bd _ _ w (hw _ (by repeat (first|exact Mh _|apply Mt))))) ?_
  rintro _ _ ⟨rfl,rfl⟩
  refine KAX (by kernel_rfl) (fun b10=>?_)
  refine KAW ?_
  refine Ko 13 rfl rfl (by kernel_rfl) (by kernel_rfl) (KP rfl rfl sz_25 (by repeat (first|exact Kj _|exact Ky _ _ _|exact Kl _|exact Kp _ _ _|exact Kw _ _ _|exact KY|refine KS rfl ?_|refine KX ?_ ?_)) (by repeat (first|exact Sh _|apply St_)) (by first|exact KH _|exact KN _ _ _|exact KK _|exact KT _ _ _|exact Kd _ _ _|rfl|simp [KN,KH,KK]) ?_)
  refine Km (by kernel_rfl) ?_
  refine KE ?_
  refine Ka [14] (by kernel_rfl) ?_
  refine LAny.take 0 rfl (by kernel_rfl) (Nb rfl) (KJ rfl (by repeat (first|exact Mh _|apply Mt)) (by exact KM Try.underlying25 rfl sz_25)) ?_
  refine KC 1 rfl (by kernel_rfl) (Nb rfl) (KD rfl) ?_
  refine KC 2 rfl (by kernel_rfl) (Nb rfl) (KD rfl) ?_
  refine LAny.take 3 rfl (by kernel_rfl) (Nb rfl) (KJ rfl (by repeat (first|exact Mh _|apply Mt)) (by exact KM Try.underlying25 rfl sz_25)) ?_
  refine KC 4 rfl (by kernel_rfl) (Nb rfl) (KD rfl) ?_
  refine KC 5 rfl (by kernel_rfl) (Nb rfl) (KL (o':=0) Try.underlying60 rfl rfl rfl sz_25 (by decide)) ?_
  refine LAny.take 6 rfl (by kernel_rfl) (Nb rfl) (KJ rfl (by repeat (first|exact Mh _|apply Mt)) (by exact KAS Try.underlying25 rfl sz_25 rfl (KH _))) ?_
  refine LAny.take 7 rfl (by kernel_rfl) (Nb rfl) (KJ rfl (by repeat (first|exact Mh _|apply Mt)) (by exact KM Try.underlying25 rfl sz_25)) ?_
  refine KC 10 rfl (by kernel_rfl) (Nb rfl) (KL (o':=9) Try.underlying60 rfl rfl rfl sz_25 (by decide)) ?_
  refine LAny.take 11 rfl (by kernel_rfl) (Nb rfl) (KJ rfl (by repeat (first|exact Mh _|apply Mt)) (by exact pt_ld1 _ _ _ _ _ _)) ?_
  refine Kt 8 rfl rfl (by kernel_rfl) (KR (first:=[]) rfl en_161 rfl (Nb rfl) (fun w hw=>c_F_Sub V hok f bd _ _ w (hw _ (by repeat (first|exact Mh _|apply Mt)))) ?_)
  refine Kt 9 rfl rfl (by kernel_rfl) (KR (first:=[]) rfl en_156 rfl (Nb rfl) (fun w hw=>c_F_Mul V hok f bd _ _ w (hw _ (by repeat (first|exact Mh _|apply Mt))) (hw _ (by repeat (first|exact Mh _|apply Mt)))) ?_)
  refine Kt 12 rfl rfl (by kernel_rfl) (KR (first:=[]) rfl en_161 rfl (Nb rfl) (fun w hw=>c_F_Sub V hok f bd _ _ w (hw _ (by repeat (first|exact Mh _|apply Mt)))) ?_)
  refine KC 13 rfl (by kernel_rfl) (Nb rfl) (KW (KAT pl_60 zr_60 rfl (fill_pt _ _)) rfl) ?_
  refine Ko 14 rfl rfl (by kernel_rfl) (by kernel_rfl) (KP rfl rfl sz_60 (by repeat (first|exact Kj _|exact Ky _ _ _|exact Kl _|exact Kp _ _ _|exact Kw _ _ _|exact KY|refine KS rfl ?_|refine KX ?_ ?_)) (by repeat (first|exact Sh _|apply St_)) (by first|exact KH _|exact KN _ _ _|exact KK _|exact KT _ _ _|exact Kd _ _ _|rfl|simp [KN,KH,KK]) ?_)
  refine Km (by kernel_rfl) ?_
  refine KZ ?_
  refine ⟨[_],.cons ⟨_,_,_,rfl,(by repeat (first|exact Mh _|apply Mt)),by exact KM Try.underlying60 rfl sz_60⟩ .nil,fun a w' hr=>⟨?_,hr.fr.below⟩⟩
  rfl
theorem c_gadd (V:Cv) (b f bd:Nat) (hok:V.Ok) (P P2 R:Pt V.p) (w:World) (hb:(Item.blk b ⟨false,opL V f,147,(0,0)⟩).holds w) (hf:(Item.blk f ⟨false,fldL V.p bd,194,(0,0)⟩).holds w) (hbd:(Item.blk bd ⟨false,dvL V.p,241,(0,0)⟩).holds w) (hP:On V.A V.B P) (hP2:On V.A V.B P2) (hR:padd V.A P P2 = R):Calls Try.prog 131 ([.agg ([.pointer (some ⟨b,0,none⟩)]:List Value).toArray,ptP P,ptP P2]:List Value).toArray w (fun e w'=>e = .returned (ptP R)∧Below w.heap.size w w'):=by
  have hbb:=hok.bounds
  have hpW:V.p<W9:=w9_521 hbb.2.1
  refine KAC (N:=96) (rs:=[.cell 6 60]) [.blk b ⟨false,opL V f,147,(0,0)⟩,.blk f ⟨false,fldL V.p bd,194,(0,0)⟩,.blk bd ⟨false,dvL V.p,241,(0,0)⟩] Try.func131 rfl Try.ntmps131 Try.results131 (Nb rfl) ⟨hb,hf,hbd,trivial⟩ rfl ?_
  show LCode _ _ _ ⟨_,_⟩ _
  refine KE (KB ?_)
  refine KI rfl (KU (KQ (Ku rfl) (Nb rfl) (fun b3=>?_)))
  refine KI rfl (KU (KQ (Ku rfl) (Nb rfl) (fun b4=>?_)))
  refine KI rfl (KU (KQ (Ku rfl) (Nb rfl) (fun b5=>?_)))
  refine KI rfl (KU (KQ (Kg zr_60) (Nb rfl) (fun b6=>?_)))
  refine KG ?_
  refine KE ?_
  rcases P with _|⟨x1,y1⟩
  ·
    have eR:=(hok.inf_add hP2).symm.trans hR
    subst eR
    refine KB ?_
    refine KA (KL (o':=0) Try.underlying169 rfl rfl rfl sz_142 (by decide)) (Nb rfl) ?_
    refine LOps.det (KJ rfl (by repeat (first|exact Mh _|apply Mt)) (KV Try.underlying142 rfl (by first|rfl|exact Ks _ _ _ (by omega)|exact Kr _ (by omega)|exact Kq _ (by omega)|exact dv_m _ _ _ (by omega)))) (Nb rfl) ?_
    refine KA (Kc rfl) (Nb rfl) ?_
    refine KA (KL (o':=59) Try.underlying147 rfl rfl rfl sz_145 (by decide)) (Nb rfl) ?_
    refine LOps.det (KJ rfl (by repeat (first|exact Mh _|apply Mt)) (KV Try.underlying145 rfl (by exact cvC_gt_F _ _ _ _ _ _ _ _ _ _ _ _ _))) (Nb rfl) ?_
    refine KA (KF rfl) (Nb rfl) ?_
    refine KG ?_
    refine KE ?_
    refine LCode.block ?_
    refine KE (KB ?_)
    refine KA (KL (o':=18) Try.underlying60 rfl rfl rfl sz_4 (by decide)) (Nb rfl) ?_
    refine LOps.det (KJ rfl (by repeat (first|exact Mh _|apply Mt)) (KV Try.underlying4 rfl (by exact pt_gt _ _ _))) (Nb rfl) ?_
    refine KA (KF rfl) (Nb rfl) ?_
    refine KG ?_
    refine KAB rfl ?_
    refine KE (KB ?_)
    refine LOps.det (KJ rfl (by repeat (first|exact Mh _|apply Mt)) (by exact KM Try.underlying60 rfl sz_60)) (Nb rfl) ?_
    refine KI rfl (KP rfl rfl sz_60 (by repeat (first|exact Kj _|exact Ky _ _ _|exact Kl _|exact Kp _ _ _|exact Kw _ _ _|exact KY|refine KS rfl ?_|refine KX ?_ ?_)) (by repeat (first|exact Sh _|apply St_)) (by first|exact KH _|exact KN _ _ _|exact KK _|exact KT _ _ _|exact Kd _ _ _|rfl|simp [KN,KH,KK]) ?_)
    refine KG (KZ ?_)
    refine ⟨[_],.cons ⟨_,_,_,rfl,(by repeat (first|exact Mh _|apply Mt)),by exact KM Try.underlying60 rfl sz_60⟩ .nil,fun a w' hr=>⟨?_,hr.fr.below⟩⟩
    rfl
  ·
    refine KB ?_
    refine KA (KL (o':=0) Try.underlying169 rfl rfl rfl sz_142 (by decide)) (Nb rfl) ?_
    refine LOps.det (KJ rfl (by repeat (first|exact Mh _|apply Mt)) (KV Try.underlying142 rfl (by first|rfl|exact Ks _ _ _ (by omega)|exact Kr _ (by omega)|exact Kq _ (by omega)|exact dv_m _ _ _ (by omega)))) (Nb rfl) ?_
    refine KA (Kc rfl) (Nb rfl) ?_
    refine KA (KL (o':=59) Try.underlying147 rfl rfl rfl sz_145 (by decide)) (Nb rfl) ?_
    refine LOps.det (KJ rfl (by repeat (first|exact Mh _|apply Mt)) (KV Try.underlying145 rfl (by exact cvC_gt_F _ _ _ _ _ _ _ _ _ _ _ _ _))) (Nb rfl) ?_
    refine KA (KF rfl) (Nb rfl) ?_
    refine KG ?_
    refine KE ?_
    refine LCode.block ?_
    refine KE (KB ?_)
    refine KA (KL (o':=18) Try.underlying60 rfl rfl rfl sz_4 (by decide)) (Nb rfl) ?_
    refine LOps.det (KJ rfl (by repeat (first|exact Mh _|apply Mt)) (KV Try.underlying4 rfl (by exact pt_gt _ _ _))) (Nb rfl) ?_
    refine KA (KF rfl) (Nb rfl) ?_
    refine KG ?_
    refine Kn rfl ?_
    refine KE ?_
    rcases P2 with _|⟨x2,y2⟩
    ·
      have eR:=(hok.add_inf hP).symm.trans hR
      subst eR
      refine KB ?_
      refine KA (KL (o':=18) Try.underlying60 rfl rfl rfl sz_4 (by decide)) (Nb rfl) ?_
      refine LOps.det (KJ rfl (by repeat (first|exact Mh _|apply Mt)) (KV Try.underlying4 rfl (by exact pt_gt _ _ _))) (Nb rfl) ?_
      refine KA (KF rfl) (Nb rfl) ?_
      refine KG ?_
      refine KAB rfl ?_
      refine KE (KB ?_)
      refine LOps.det (KJ rfl (by repeat (first|exact Mh _|apply Mt)) (by exact KM Try.underlying60 rfl sz_60)) (Nb rfl) ?_
      refine KI rfl (KP rfl rfl sz_60 (by repeat (first|exact Kj _|exact Ky _ _ _|exact Kl _|exact Kp _ _ _|exact Kw _ _ _|exact KY|refine KS rfl ?_|refine KX ?_ ?_)) (by repeat (first|exact Sh _|apply St_)) (by first|exact KH _|exact KN _ _ _|exact KK _|exact KT _ _ _|exact Kd _ _ _|rfl|simp [KN,KH,KK]) ?_)
      refine KG (KZ ?_)
      refine ⟨[_],.cons ⟨_,_,_,rfl,(by repeat (first|exact Mh _|apply Mt)),by exact KM Try.underlying60 rfl sz_60⟩ .nil,fun a w' hr=>⟨?_,hr.fr.below⟩⟩
      rfl
    ·
      refine KB ?_
      refine KA (KL (o':=18) Try.underlying60 rfl rfl rfl sz_4 (by decide)) (Nb rfl) ?_
      refine LOps.det (KJ rfl (by repeat (first|exact Mh _|apply Mt)) (KV Try.underlying4 rfl (by exact pt_gt _ _ _))) (Nb rfl) ?_
      refine KA (KF rfl) (Nb rfl) ?_
      refine KG ?_
      refine Kn rfl ?_
      refine KE ?_
      by_cases hx:x1 = x2
      ·
        refine KB ?_
        refine KA (KL (o':=0) Try.underlying60 rfl rfl rfl sz_25 (by decide)) (Nb rfl) ?_
        refine LOps.det (KJ rfl (by repeat (first|exact Mh _|apply Mt)) (by exact KAS Try.underlying25 rfl sz_25 rfl (KH _))) (Nb rfl) ?_
        refine KA (KL (o':=0) Try.underlying60 rfl rfl rfl sz_25 (by decide)) (Nb rfl) ?_
        refine LOps.det (KJ rfl (by repeat (first|exact Mh _|apply Mt)) (by exact KAS Try.underlying25 rfl sz_25 rfl (KH _))) (Nb rfl) ?_
        refine KA (KW (Det.nea (by kernel_rfl) (fun w=>eq_nat x1.val x2.val (Nat.lt_trans x1.isLt hpW) (Nat.lt_trans x2.isLt hpW) 10000 (by decide) w) rfl rfl) (show _ = Value.bool false by rw [decide_eq_true (congrArg Fin.val hx)]; rfl)) (Nb rfl) ?_
        refine KA (KF rfl) (Nb rfl) ?_
        refine KG ?_
        refine Kn rfl ?_
        refine KE ?_
        by_cases hy:y1 = y2
        ·
          have hy0:¬ y1.val = 0:=y_pos hok hP
          refine KB ?_
          refine KA (KL (o':=9) Try.underlying60 rfl rfl rfl sz_25 (by decide)) (Nb rfl) ?_
          refine LOps.det (KJ rfl (by repeat (first|exact Mh _|apply Mt)) (by exact pt_ld1 _ _ _ _ _ _)) (Nb rfl) ?_
          refine KA (KL (o':=9) Try.underlying60 rfl rfl rfl sz_25 (by decide)) (Nb rfl) ?_
          refine LOps.det (KJ rfl (by repeat (first|exact Mh _|apply Mt)) (by exact pt_ld1 _ _ _ _ _ _)) (Nb rfl) ?_
          refine KA (KW (Det.nea (by kernel_rfl) (fun w=>eq_nat y1.val y2.val (Nat.lt_trans y1.isLt hpW) (Nat.lt_trans y2.isLt hpW) 10000 (by decide) w) rfl rfl) (show _ = Value.bool false by rw [decide_eq_true (congrArg Fin.val hy)]; rfl)) (Nb rfl) ?_
          refine KA (KD rfl) (Nb rfl) ?_
          refine Kf rfl rfl (KL (o':=9) Try.underlying60 rfl rfl rfl sz_25 (by decide)) (Nb rfl) ?_
          refine KAU rfl rfl (KJ rfl (by repeat (first|exact Mh _|apply Mt)) (by exact pt_ld1 _ _ _ _ _ _)) (Nb rfl) ?_
          refine Kf rfl rfl (KW (KAT pl_25 zr_25 rfl rfl) (show _ = natV 0 by unfold natV natL; rw [← vec_zeros 9])) (Nb rfl) ?_
          refine Kf rfl rfl (KW (Det.eqa (by kernel_rfl) (fun w=>eq_nat y1.val 0 (Nat.lt_trans y1.isLt hpW) zero_w9 10000 (by decide) w) rfl rfl) (show _ = Value.bool false by rw [decide_eq_false hy0])) (Nb rfl) ?_
          refine KA (KAF rfl rfl) (Nb rfl) ?_
          refine KA (KF rfl) (Nb rfl) ?_
          refine KG ?_
          refine Kn rfl ?_
          refine Kh ?_
          refine KE ?_
          subst hx hy
          have eR:=(add_tangF hok.prime hok.fld hP (fin_ne0 hy0)).symm.trans hR
          subst eR
          refine KB ?_
          refine KA (KD rfl) (Nb rfl) ?_
          refine KA (KL (o':=0) Try.underlying60 rfl rfl rfl sz_25 (by decide)) (Nb rfl) ?_
          refine LOps.det (KJ rfl (by repeat (first|exact Mh _|apply Mt)) (by exact KAS Try.underlying25 rfl sz_25 rfl (KH _))) (Nb rfl) ?_
          refine KA (KL (o':=0) Try.underlying60 rfl rfl rfl sz_25 (by decide)) (Nb rfl) ?_
          refine LOps.det (KJ rfl (by repeat (first|exact Mh _|apply Mt)) (by exact KAS Try.underlying25 rfl sz_25 rfl (KH _))) (Nb rfl) ?_
          refine KI rfl (KU (KR (first:=[]) rfl en_156 rfl (Nb rfl) (fun w hw=>c_F_Mul V hok f bd _ _ w (hw _ (by repeat (first|exact Mh _|apply Mt))) (hw _ (by repeat (first|exact Mh _|apply Mt)))) ?_))
          refine KI rfl (KU (KQ (Kg zr_25) (Nb rfl) (fun b8=>?_)))
          refine KI rfl (KP rfl rfl sz_25 (by repeat (first|exact Kj _|exact Ky _ _ _|exact Kl _|exact Kp _ _ _|exact Kw _ _ _|exact KY|refine KS rfl ?_|refine KX ?_ ?_)) (by repeat (first|exact Sh _|apply St_)) (by first|exact KH _|exact KN _ _ _|exact KK _|exact KT _ _ _|exact Kd _ _ _|rfl|simp [KN,KH,KK]) ?_)
          refine KG ?_
          refine KE ?_
          refine Ka [29] (by kernel_rfl) ?_
          refine LAny.take 0 rfl (by kernel_rfl) (Nb rfl) (KJ rfl (by repeat (first|exact Mh _|apply Mt)) (by exact KM Try.underlying169 rfl sz_169)) ?_
          refine KC 1 rfl (by kernel_rfl) (Nb rfl) (KD rfl) ?_
          refine KC 2 rfl (by kernel_rfl) (Nb rfl) (KD rfl) ?_
          refine KC 3 rfl (by kernel_rfl) (Nb rfl) (KD rfl) ?_
          refine KC 4 rfl (by kernel_rfl) (Nb rfl) (KD rfl) ?_
          refine LAny.take 5 rfl (by kernel_rfl) (Nb rfl) (KJ rfl (by repeat (first|exact Mh _|apply Mt)) (by exact KM Try.underlying25 rfl sz_25)) ?_
          refine LAny.take 6 rfl (by kernel_rfl) (Nb rfl) (KJ rfl (by repeat (first|exact Mh _|apply Mt)) (by exact KM Try.underlying25 rfl sz_25)) ?_
          refine LAny.take 8 rfl (by kernel_rfl) (Nb rfl) (KJ rfl (by repeat (first|exact Mh _|apply Mt)) (by exact KM Try.underlying25 rfl sz_25)) ?_
          refine KC 10 rfl (by kernel_rfl) (Nb rfl) (KL (o':=0) Try.underlying169 rfl rfl rfl sz_142 (by decide)) ?_
          refine LAny.take 11 rfl (by kernel_rfl) (Nb rfl) (KJ rfl (by repeat (first|exact Mh _|apply Mt)) (KV Try.underlying142 rfl (by first|rfl|exact Ks _ _ _ (by omega)|exact Kr _ (by omega)|exact Kq _ (by omega)|exact dv_m _ _ _ (by omega)))) ?_
          refine KC 12 rfl (by kernel_rfl) (Nb rfl) (Kc rfl) ?_
          refine KC 13 rfl (by kernel_rfl) (Nb rfl) (KL (o':=0) Try.underlying147 rfl rfl rfl sz_62 (by decide)) ?_
          refine KC 14 rfl (by kernel_rfl) (Nb rfl) (KL (o':=10) Try.underlying62 rfl rfl rfl sz_25 (by decide)) ?_
          refine LAny.take 15 rfl (by kernel_rfl) (Nb rfl) (Det.cast (KJ rfl (by repeat (first|exact Mh _|apply Mt)) (by exact cvC_ld_a _ _ _ _ _ _ _ _ _ _ _ _ _ _ _ _)) (a_val hok)) ?_
          refine KC 17 rfl (by kernel_rfl) (Nb rfl) (KD rfl) ?_
          refine KC 18 rfl (by kernel_rfl) (Nb rfl) (KD rfl) ?_
          refine KC 19 rfl (by kernel_rfl) (Nb rfl) (KL (o':=9) Try.underlying60 rfl rfl rfl sz_25 (by decide)) ?_
          refine LAny.take 20 rfl (by kernel_rfl) (Nb rfl) (KJ rfl (by repeat (first|exact Mh _|apply Mt)) (by exact pt_ld1 _ _ _ _ _ _)) ?_
          refine KC 21 rfl (by kernel_rfl) (Nb rfl) (KL (o':=9) Try.underlying60 rfl rfl rfl sz_25 (by decide)) ?_
          refine LAny.take 22 rfl (by kernel_rfl) (Nb rfl) (KJ rfl (by repeat (first|exact Mh _|apply Mt)) (by exact pt_ld1 _ _ _ _ _ _)) ?_
          refine LAny.take 26 rfl (by kernel_rfl) (Nb rfl) (KJ rfl (by repeat (first|exact Mh _|apply Mt)) (by exact KM Try.underlying60 rfl sz_60)) ?_
          refine LAny.take 27 rfl (by kernel_rfl) (Nb rfl) (KJ rfl (by repeat (first|exact Mh _|apply Mt)) (by exact KM Try.underlying60 rfl sz_60)) ?_
          refine Kt 7 rfl rfl (by kernel_rfl) (KR (first:=[]) rfl en_152 rfl (Nb rfl) (fun w hw=>c_F_Add V hok f bd _ _ w (hw _ (by repeat (first|exact Mh _|apply Mt)))) ?_)
          refine Kt 9 rfl rfl (by kernel_rfl) (KR (first:=[]) rfl en_152 rfl (Nb rfl) (fun w hw=>c_F_Add V hok f bd _ _ w (hw _ (by repeat (first|exact Mh _|apply Mt)))) ?_)
          refine Kt 16 rfl rfl (by kernel_rfl) (KR (first:=[]) rfl en_152 rfl (Nb rfl) (fun w hw=>c_F_Add V hok f bd _ _ w (hw _ (by repeat (first|exact Mh _|apply Mt)))) ?_)
          refine Kt 23 rfl rfl (by kernel_rfl) (KR (first:=[]) rfl en_152 rfl (Nb rfl) (fun w hw=>c_F_Add V hok f bd _ _ w (hw _ (by repeat (first|exact Mh _|apply Mt)))) ?_)
          refine Kt 24 rfl rfl (by kernel_rfl) (KR (first:=[]) rfl en_160 rfl (Nb rfl) (fun w hw=>c_F_Inv V hok f bd _ w (hw _ (by repeat (first|exact Mh _|apply Mt)))) ?_)
          refine Kt 25 rfl rfl (by kernel_rfl) (KR (first:=[]) rfl en_156 rfl (Nb rfl) (fun w hw=>c_F_Mul V hok f bd _ _ w (hw _ (by repeat (first|exact Mh _|apply Mt))) (hw _ (by repeat (first|exact Mh _|apply Mt)))) ?_)
          refine Kt 28 rfl rfl (by kernel_rfl) (KR (first:=[]) rfl en_162 rfl (Nb rfl) (fun w hw=>c_slope V b f bd hok ((x1*x1+x1*x1+x1*x1+V.A)*finv (y1+y1)) x1 y1 x1 y1 false false w (hw _ (by repeat (first|exact Mh _|apply Mt))) (hw _ (by repeat (first|exact Mh _|apply Mt))) (hw _ (by repeat (first|exact Mh _|apply Mt)))) ?_)
          refine Ko 29 rfl rfl (by kernel_rfl) (by kernel_rfl) (KP rfl rfl sz_60 (by repeat (first|exact Kj _|exact Ky _ _ _|exact Kl _|exact Kp _ _ _|exact Kw _ _ _|exact KY|refine KS rfl ?_|refine KX ?_ ?_)) (by repeat (first|exact Sh _|apply St_)) (by first|exact KH _|exact KN _ _ _|exact KK _|exact KT _ _ _|exact Kd _ _ _|rfl|simp [KN,KH,KK]) ?_)
          refine Km (by kernel_rfl) ?_
          refine KZ ?_
          refine ⟨[_],.cons ⟨_,_,_,rfl,(by repeat (first|exact Mh _|apply Mt)),by exact KM Try.underlying60 rfl sz_60⟩ .nil,fun a w' hr=>⟨?_,hr.fr.below⟩⟩
          rfl
        ·
          have eR:=(add_opp hok.fld hP hP2 hx hy).symm.trans hR
          subst eR
          refine KB ?_
          refine KA (KL (o':=9) Try.underlying60 rfl rfl rfl sz_25 (by decide)) (Nb rfl) ?_
          refine LOps.det (KJ rfl (by repeat (first|exact Mh _|apply Mt)) (by exact pt_ld1 _ _ _ _ _ _)) (Nb rfl) ?_
          refine KA (KL (o':=9) Try.underlying60 rfl rfl rfl sz_25 (by decide)) (Nb rfl) ?_
          refine LOps.det (KJ rfl (by repeat (first|exact Mh _|apply Mt)) (by exact pt_ld1 _ _ _ _ _ _)) (Nb rfl) ?_
          refine KA (KW (Det.nea (by kernel_rfl) (fun w=>eq_nat y1.val y2.val (Nat.lt_trans y1.isLt hpW) (Nat.lt_trans y2.isLt hpW) 10000 (by decide) w) rfl rfl) (show _ = Value.bool true by rw [decide_eq_false (fun e=>hy (Fin.ext e))]; rfl)) (Nb rfl) ?_
          refine KA (KD rfl) (Nb rfl) ?_
          refine Kx rfl rfl rfl (Nb rfl) ?_
          refine Kx rfl rfl rfl (Nb rfl) ?_
          refine Kx rfl rfl rfl (Nb rfl) ?_
          refine Kx rfl rfl rfl (Nb rfl) ?_
          refine KA (KAE rfl rfl) (Nb rfl) ?_
          refine KA (KF rfl) (Nb rfl) ?_
          refine KG ?_
          refine KAB rfl ?_
          refine KE (KB ?_)
          refine KA (KW (KAT pl_60 zr_60 rfl fill_ptInf) rfl) (Nb rfl) ?_
          refine KI rfl (KP rfl rfl sz_60 (by repeat (first|exact Kj _|exact Ky _ _ _|exact Kl _|exact Kp _ _ _|exact Kw _ _ _|exact KY|refine KS rfl ?_|refine KX ?_ ?_)) (by repeat (first|exact Sh _|apply St_)) (by first|exact KH _|exact KN _ _ _|exact KK _|exact KT _ _ _|exact Kd _ _ _|rfl|simp [KN,KH,KK]) ?_)
          refine KG (KZ ?_)
          refine ⟨[_],.cons ⟨_,_,_,rfl,(by repeat (first|exact Mh _|apply Mt)),by exact KM Try.underlying60 rfl sz_60⟩ .nil,fun a w' hr=>⟨?_,hr.fr.below⟩⟩
          rfl
      ·
        refine KB ?_
        refine KA (KL (o':=0) Try.underlying60 rfl rfl rfl sz_25 (by decide)) (Nb rfl) ?_
        refine LOps.det (KJ rfl (by repeat (first|exact Mh _|apply Mt)) (by exact KAS Try.underlying25 rfl sz_25 rfl (KH _))) (Nb rfl) ?_
        refine KA (KL (o':=0) Try.underlying60 rfl rfl rfl sz_25 (by decide)) (Nb rfl) ?_
        refine LOps.det (KJ rfl (by repeat (first|exact Mh _|apply Mt)) (by exact KAS Try.underlying25 rfl sz_25 rfl (KH _))) (Nb rfl) ?_
        refine KA (KW (Det.nea (by kernel_rfl) (fun w=>eq_nat x1.val x2.val (Nat.lt_trans x1.isLt hpW) (Nat.lt_trans x2.isLt hpW) 10000 (by decide) w) rfl rfl) (show _ = Value.bool true by rw [decide_eq_false (fun e=>hx (Fin.ext e))]; rfl)) (Nb rfl) ?_
        refine KA (KF rfl) (Nb rfl) ?_
        refine KG ?_
        refine KAB rfl ?_
        refine KE ?_
        have eR:=(add_chordF hok.prime hok.fld hP hP2 hx).symm.trans hR
        subst eR
        refine Ka [20] (by kernel_rfl) ?_
        refine LAny.take 0 rfl (by kernel_rfl) (Nb rfl) (KJ rfl (by repeat (first|exact Mh _|apply Mt)) (by exact KM Try.underlying169 rfl sz_169)) ?_
        refine KC 1 rfl (by kernel_rfl) (Nb rfl) (KD rfl) ?_
        refine KC 2 rfl (by kernel_rfl) (Nb rfl) (KD rfl) ?_
        refine KC 3 rfl (by kernel_rfl) (Nb rfl) (KL (o':=9) Try.underlying60 rfl rfl rfl sz_25 (by decide)) ?_
        refine LAny.take 4 rfl (by kernel_rfl) (Nb rfl) (KJ rfl (by repeat (first|exact Mh _|apply Mt)) (by exact pt_ld1 _ _ _ _ _ _)) ?_
        refine KC 5 rfl (by kernel_rfl) (Nb rfl) (KL (o':=9) Try.underlying60 rfl rfl rfl sz_25 (by decide)) ?_
        refine LAny.take 6 rfl (by kernel_rfl) (Nb rfl) (KJ rfl (by repeat (first|exact Mh _|apply Mt)) (by exact pt_ld1 _ _ _ _ _ _)) ?_
        refine KC 8 rfl (by kernel_rfl) (Nb rfl) (KD rfl) ?_
        refine KC 9 rfl (by kernel_rfl) (Nb rfl) (KD rfl) ?_
        refine KC 10 rfl (by kernel_rfl) (Nb rfl) (KL (o':=0) Try.underlying60 rfl rfl rfl sz_25 (by decide)) ?_
        refine LAny.take 11 rfl (by kernel_rfl) (Nb rfl) (KJ rfl (by repeat (first|exact Mh _|apply Mt)) (by exact KAS Try.underlying25 rfl sz_25 rfl (KH _))) ?_
        refine KC 12 rfl (by kernel_rfl) (Nb rfl) (KL (o':=0) Try.underlying60 rfl rfl rfl sz_25 (by decide)) ?_
        refine LAny.take 13 rfl (by kernel_rfl) (Nb rfl) (KJ rfl (by repeat (first|exact Mh _|apply Mt)) (by exact KAS Try.underlying25 rfl sz_25 rfl (KH _))) ?_
        refine LAny.take 17 rfl (by kernel_rfl) (Nb rfl) (KJ rfl (by repeat (first|exact Mh _|apply Mt)) (by exact KM Try.underlying60 rfl sz_60)) ?_
        refine LAny.take 18 rfl (by kernel_rfl) (Nb rfl) (KJ rfl (by repeat (first|exact Mh _|apply Mt)) (by exact KM Try.underlying60 rfl sz_60)) ?_
        refine Kt 7 rfl rfl (by kernel_rfl) (KR (first:=[]) rfl en_161 rfl (Nb rfl) (fun w hw=>c_F_Sub V hok f bd _ _ w (hw _ (by repeat (first|exact Mh _|apply Mt)))) ?_)
        refine Kt 14 rfl rfl (by kernel_rfl) (KR (first:=[]) rfl en_161 rfl (Nb rfl) (fun w hw=>c_F_Sub V hok f bd _ _ w (hw _ (by repeat (first|exact Mh _|apply Mt)))) ?_)
        refine Kt 15 rfl rfl (by kernel_rfl) (KR (first:=[]) rfl en_160 rfl (Nb rfl) (fun w hw=>c_F_Inv V hok f bd _ w (hw _ (by repeat (first|exact Mh _|apply Mt)))) ?_)
        refine Kt 16 rfl rfl (by kernel_rfl) (KR (first:=[]) rfl en_156 rfl (Nb rfl) (fun w hw=>c_F_Mul V hok f bd _ _ w (hw _ (by repeat (first|exact Mh _|apply Mt))) (hw _ (by repeat (first|exact Mh _|apply Mt)))) ?_)
        refine Kt 19 rfl rfl (by kernel_rfl) (KR (first:=[]) rfl en_162 rfl (Nb rfl) (fun w hw=>c_slope V b f bd hok ((y2-y1)*finv (x2-x1)) x1 y1 x2 y2 false false w (hw _ (by repeat (first|exact Mh _|apply Mt))) (hw _ (by repeat (first|exact Mh _|apply Mt))) (hw _ (by repeat (first|exact Mh _|apply Mt)))) ?_)
        refine Ko 20 rfl rfl (by kernel_rfl) (by kernel_rfl) (KP rfl rfl sz_60 (by repeat (first|exact Kj _|exact Ky _ _ _|exact Kl _|exact Kp _ _ _|exact Kw _ _ _|exact KY|refine KS rfl ?_|refine KX ?_ ?_)) (by repeat (first|exact Sh _|apply St_)) (by first|exact KH _|exact KN _ _ _|exact KK _|exact KT _ _ _|exact Kd _ _ _|rfl|simp [KN,KH,KK]) ?_)
        refine Km (by kernel_rfl) ?_
        refine KZ ?_
        refine ⟨[_],.cons ⟨_,_,_,rfl,(by repeat (first|exact Mh _|apply Mt)),by exact KM Try.underlying60 rfl sz_60⟩ .nil,fun a w' hr=>⟨?_,hr.fr.below⟩⟩
        rfl
theorem c_gneg (V:Cv) (b f bd:Nat) (hok:V.Ok) (P:Pt V.p) (X Y:Nat) (i:Bool) (w:World) (hb:(Item.blk b ⟨false,opL V f,147,(0,0)⟩).holds w) (hf:(Item.blk f ⟨false,fldL V.p bd,194,(0,0)⟩).holds w) (hbd:(Item.blk bd ⟨false,dvL V.p,241,(0,0)⟩).holds w):Calls Try.prog 132 ([.agg ([.pointer (some ⟨b,0,none⟩)]:List Value).toArray,ptP P,ptV X Y i]:List Value).toArray w (fun e w'=>e = .returned (ptP P.neg)∧Below w.heap.size w w'):=by
  have hbb:=hok.bounds
  have hpW:V.p<W9:=w9_521 hbb.2.1
  refine KAC (N:=18) (rs:=[.cell 6 60]) [.blk b ⟨false,opL V f,147,(0,0)⟩,.blk f ⟨false,fldL V.p bd,194,(0,0)⟩,.blk bd ⟨false,dvL V.p,241,(0,0)⟩] Try.func132 rfl Try.ntmps132 Try.results132 (Nb rfl) ⟨hb,hf,hbd,trivial⟩ rfl ?_
  show LCode _ _ _ ⟨_,_⟩ _
  refine KE (KB ?_)
  refine KI rfl (KU (KQ (Ku rfl) (Nb rfl) (fun b3=>?_)))
  refine KI rfl (KU (KQ (Ku rfl) (Nb rfl) (fun b4=>?_)))
  refine KI rfl (KU (KQ (Ku rfl) (Nb rfl) (fun b5=>?_)))
  refine KI rfl (KU (KQ (Kg zr_60) (Nb rfl) (fun b6=>?_)))
  refine KG ?_
  refine KE ?_
  rcases P with _|⟨x,y⟩
  ·
    refine Ka [10] (by kernel_rfl) ?_
    refine KC 0 rfl (by kernel_rfl) (Nb rfl) (KL (o':=0) Try.underlying169 rfl rfl rfl sz_142 (by decide)) ?_
    refine LAny.take 1 rfl (by kernel_rfl) (Nb rfl) (KJ rfl (by repeat (first|exact Mh _|apply Mt)) (KV Try.underlying142 rfl (by first|rfl|exact Ks _ _ _ (by omega)|exact Kr _ (by omega)|exact Kq _ (by omega)|exact dv_m _ _ _ (by omega)))) ?_
    refine KC 2 rfl (by kernel_rfl) (Nb rfl) (Kc rfl) ?_
    refine KC 3 rfl (by kernel_rfl) (Nb rfl) (KL (o':=59) Try.underlying147 rfl rfl rfl sz_145 (by decide)) ?_
    refine LAny.take 4 rfl (by kernel_rfl) (Nb rfl) (KJ rfl (by repeat (first|exact Mh _|apply Mt)) (KV Try.underlying145 rfl (by exact cvC_gt_F _ _ _ _ _ _ _ _ _ _ _ _ _))) ?_
    refine KC 5 rfl (by kernel_rfl) (Nb rfl) (KW (KAT pl_25 zr_25 rfl rfl) (show _ = natV 0 by unfold natV natL; rw [← vec_zeros 9])) ?_
    refine KC 6 rfl (by kernel_rfl) (Nb rfl) (KL (o':=9) Try.underlying60 rfl rfl rfl sz_25 (by decide)) ?_
    refine LAny.take 7 rfl (by kernel_rfl) (Nb rfl) (KJ rfl (by repeat (first|exact Mh _|apply Mt)) (by exact pt_ld1 _ _ _ _ _ _)) ?_
    refine Kt 8 rfl rfl (by kernel_rfl) (KR (first:=[]) rfl en_161 rfl (Nb rfl) (fun w hw=>c_F_Sub V hok f bd 0 0 w (hw _ (by repeat (first|exact Mh _|apply Mt)))) ?_)
    refine KC 9 rfl (by kernel_rfl) (Nb rfl) (KL (o':=9) Try.underlying60 rfl rfl rfl sz_25 (by decide)) ?_
    refine Ko 10 rfl rfl (by kernel_rfl) (by kernel_rfl) (KAV rfl rfl rfl sz_25 (KH _) (Kj _) (by repeat (first|exact Sh _|apply St_)) (by simp only [KT]; decide) (pt_set1 _ _ _ _) (by simp) ?_)
    refine Km (by kernel_rfl) ?_
    refine KE (KB ?_)
    refine LOps.det (KJ rfl (by repeat (first|exact Mh _|apply Mt)) (by exact KM Try.underlying60 rfl sz_60)) (Nb rfl) ?_
    refine KI rfl (KP rfl rfl sz_60 (by repeat (first|exact Kj _|exact Ky _ _ _|exact Kl _|exact Kp _ _ _|exact Kw _ _ _|exact KY|refine KS rfl ?_|refine KX ?_ ?_)) (by repeat (first|exact Sh _|apply St_)) (by first|exact KH _|exact KN _ _ _|exact KK _|exact KT _ _ _|exact Kd _ _ _|rfl|simp [KN,KH,KK]) ?_)
    refine KG (KZ ?_)
    refine ⟨[_],.cons ⟨_,_,_,rfl,(by repeat (first|exact Mh _|apply Mt)),by exact KM Try.underlying60 rfl sz_60⟩ .nil,fun a w' hr=>⟨?_,hr.fr.below⟩⟩
    show Ending.returned (ptV 0 ((0:Fin V.p)-0).val true) = Ending.returned (ptV 0 0 true)
    rw [neg_zeroF]
  ·
    refine Ka [10] (by kernel_rfl) ?_
    refine KC 0 rfl (by kernel_rfl) (Nb rfl) (KL (o':=0) Try.underlying169 rfl rfl rfl sz_142 (by decide)) ?_
    refine LAny.take 1 rfl (by kernel_rfl) (Nb rfl) (KJ rfl (by repeat (first|exact Mh _|apply Mt)) (KV Try.underlying142 rfl (by first|rfl|exact Ks _ _ _ (by omega)|exact Kr _ (by omega)|exact Kq _ (by omega)|exact dv_m _ _ _ (by omega)))) ?_
    refine KC 2 rfl (by kernel_rfl) (Nb rfl) (Kc rfl) ?_
    refine KC 3 rfl (by kernel_rfl) (Nb rfl) (KL (o':=59) Try.underlying147 rfl rfl rfl sz_145 (by decide)) ?_
    refine LAny.take 4 rfl (by kernel_rfl) (Nb rfl) (KJ rfl (by repeat (first|exact Mh _|apply Mt)) (KV Try.underlying145 rfl (by exact cvC_gt_F _ _ _ _ _ _ _ _ _ _ _ _ _))) ?_
    refine KC 5 rfl (by kernel_rfl) (Nb rfl) (KW (KAT pl_25 zr_25 rfl rfl) (show _ = natV 0 by unfold natV natL; rw [← vec_zeros 9])) ?_
    refine KC 6 rfl (by kernel_rfl) (Nb rfl) (KL (o':=9) Try.underlying60 rfl rfl rfl sz_25 (by decide)) ?_
    refine LAny.take 7 rfl (by kernel_rfl) (Nb rfl) (KJ rfl (by repeat (first|exact Mh _|apply Mt)) (by exact pt_ld1 _ _ _ _ _ _)) ?_
    refine Kt 8 rfl rfl (by kernel_rfl) (KR (first:=[]) rfl en_161 rfl (Nb rfl) (fun w hw=>c_F_Sub V hok f bd 0 y w (hw _ (by repeat (first|exact Mh _|apply Mt)))) ?_)
    refine KC 9 rfl (by kernel_rfl) (Nb rfl) (KL (o':=9) Try.underlying60 rfl rfl rfl sz_25 (by decide)) ?_
    refine Ko 10 rfl rfl (by kernel_rfl) (by kernel_rfl) (KAV rfl rfl rfl sz_25 (KH _) (Kj _) (by repeat (first|exact Sh _|apply St_)) (by simp only [KT]; decide) (pt_set1 _ _ _ _) (by simp) ?_)
    refine Km (by kernel_rfl) ?_
    refine KE (KB ?_)
    refine LOps.det (KJ rfl (by repeat (first|exact Mh _|apply Mt)) (by exact KM Try.underlying60 rfl sz_60)) (Nb rfl) ?_
    refine KI rfl (KP rfl rfl sz_60 (by repeat (first|exact Kj _|exact Ky _ _ _|exact Kl _|exact Kp _ _ _|exact Kw _ _ _|exact KY|refine KS rfl ?_|refine KX ?_ ?_)) (by repeat (first|exact Sh _|apply St_)) (by first|exact KH _|exact KN _ _ _|exact KK _|exact KT _ _ _|exact Kd _ _ _|rfl|simp [KN,KH,KK]) ?_)
    refine KG (KZ ?_)
    refine ⟨[_],.cons ⟨_,_,_,rfl,(by repeat (first|exact Mh _|apply Mt)),by exact KM Try.underlying60 rfl sz_60⟩ .nil,fun a w' hr=>⟨?_,hr.fr.below⟩⟩
    show Ending.returned (ptV x.val ((0:Fin V.p)-y).val false) = Ending.returned (ptV x.val (-y).val false)
    rw [neg_subF]
theorem c_gmul (V:Cv) (b f bd:Nat) (hok:V.Ok) (K bk:Nat) (hK:K<W9) (P:Pt V.p) (X Y:Nat) (i:Bool) (w:World) (hb:(Item.blk b ⟨false,opL V f,147,(0,0)⟩).holds w) (hf:(Item.blk f ⟨false,fldL V.p bd,194,(0,0)⟩).holds w) (hbd:(Item.blk bd ⟨false,dvL V.p,241,(0,0)⟩).holds w) (hP:On V.A V.B P) (hk:(Item.blk bk ⟨false,natL K,25,(0,0)⟩).holds w):Calls Try.prog 133 ([.agg ([.pointer (some ⟨b,0,none⟩)]:List Value).toArray,ptP P,ptV X Y i,.pointer (some ⟨bk,0,none⟩)]:List Value).toArray w (fun e w'=>e = .returned (ptP (pmul V.A P K))∧Below w.heap.size w w'):=by
  have hbb:=hok.bounds
  have hpW:V.p<W9:=w9_521 hbb.2.1
  refine KAC (N:=17) (rs:=[.cell 7 60]) [.blk b ⟨false,opL V f,147,(0,0)⟩,.blk f ⟨false,fldL V.p bd,194,(0,0)⟩,.blk bd ⟨false,dvL V.p,241,(0,0)⟩,.blk bk ⟨false,natL K,25,(0,0)⟩] Try.func133 rfl Try.ntmps133 Try.results133 (Nb rfl) ⟨hb,hf,hbd,hk,trivial⟩ rfl ?_
  show LCode _ _ _ ⟨_,_⟩ _
  refine KE (KB ?_)
  refine KI rfl (KU (KQ (Ku rfl) (Nb rfl) (fun b4=>?_)))
  refine KI rfl (KU (KQ (Ku rfl) (Nb rfl) (fun b5=>?_)))
  refine KI rfl (KU (KQ (Ku rfl) (Nb rfl) (fun b6=>?_)))
  refine KI rfl (KU (KQ (Kg zr_60) (Nb rfl) (fun b7=>?_)))
  refine KG ?_
  refine KE ?_
  refine Ka [9] (by kernel_rfl) ?_
  refine KC 0 rfl (by kernel_rfl) (Nb rfl) (KL (o':=0) Try.underlying169 rfl rfl rfl sz_142 (by decide)) ?_
  refine LAny.take 1 rfl (by kernel_rfl) (Nb rfl) (KJ rfl (by repeat (first|exact Mh _|apply Mt)) (KV Try.underlying142 rfl (by first|rfl|exact Ks _ _ _ (by omega)|exact Kr _ (by omega)|exact Kq _ (by omega)|exact dv_m _ _ _ (by omega)))) ?_
  refine KC 2 rfl (by kernel_rfl) (Nb rfl) (KL (o':=0) Try.underlying169 rfl rfl rfl sz_142 (by decide)) ?_
  refine LAny.take 3 rfl (by kernel_rfl) (Nb rfl) (KJ rfl (by repeat (first|exact Mh _|apply Mt)) (KV Try.underlying142 rfl (by first|rfl|exact Ks _ _ _ (by omega)|exact Kr _ (by omega)|exact Kq _ (by omega)|exact dv_m _ _ _ (by omega)))) ?_
  refine LAny.take 4 rfl (by kernel_rfl) (Nb rfl) (KJ rfl (by repeat (first|exact Mh _|apply Mt)) (by exact KM Try.underlying25 rfl sz_25)) ?_
  refine LAny.take 5 rfl (by kernel_rfl) (Nb rfl) (KJ rfl (by repeat (first|exact Mh _|apply Mt)) (by exact KM Try.underlying60 rfl sz_60)) ?_
  refine Kt 6 rfl rfl (by kernel_rfl) (KR (first:=[]) rfl en_129 rfl (Nb rfl) (fun w hw=>c_Triple V hok P w) ?_)
  refine Kt 7 rfl rfl (by kernel_rfl) (LStep.callV (first:=[]) rfl en_134 rfl (Nb rfl) (fun w hw=>c_cTimes V b f bd hok K hK _ P w (hw _ (by repeat (first|exact Mh _|apply Mt))) (hw _ (by repeat (first|exact Mh _|apply Mt))) (hw _ (by repeat (first|exact Mh _|apply Mt))) (RepT.trip hok hP)) ?_)
  rintro _ ⟨U,hU,rfl⟩
  refine Kt 8 rfl rfl (by kernel_rfl) (KR (first:=[]) rfl en_127 rfl (Nb rfl) (fun w hw=>c_PlainT V b f bd hok (U) (pmul V.A P K) w (hw _ (by repeat (first|exact Mh _|apply Mt))) (hw _ (by repeat (first|exact Mh _|apply Mt))) (hw _ (by repeat (first|exact Mh _|apply Mt))) (hU)) ?_)
  refine Ko 9 rfl rfl (by kernel_rfl) (by kernel_rfl) (KP rfl rfl sz_60 (by repeat (first|exact Kj _|exact Ky _ _ _|exact Kl _|exact Kp _ _ _|exact Kw _ _ _|exact KY|refine KS rfl ?_|refine KX ?_ ?_)) (by repeat (first|exact Sh _|apply St_)) (by first|exact KH _|exact KN _ _ _|exact KK _|exact KT _ _ _|exact Kd _ _ _|rfl|simp [KN,KH,KK]) ?_)
  refine Km (by kernel_rfl) ?_
  refine KZ ?_
  refine ⟨[_],.cons ⟨_,_,_,rfl,(by repeat (first|exact Mh _|apply Mt)),by exact KM Try.underlying60 rfl sz_60⟩ .nil,fun a w' hr=>⟨?_,hr.fr.below⟩⟩
  rfl
theorem c_do_none (id:Int) (X Y:Nat) (i:Bool) (X2 Y2:Nat) (j:Bool) (fv:Value) (w:World) (h:cvI id = none):Calls Try.prog 130 ([.int .i64 id,ptV X Y i,ptV X2 Y2 j,fv]:List Value).toArray w (fun e w'=>e = .returned (.tuple #[ptV 0 0 false,.int .i64 ((1400:Nat):Int)])∧Below w.heap.size w w'):=by
  refine KAC (N:=35) (rs:=[.cell 8 60,.tmp 9]) [] Try.func130 rfl Try.ntmps130 Try.results130 (Nb rfl) trivial rfl ?_
  show LCode _ _ _ ⟨_,_⟩ _
  refine KE (KB ?_)
  refine KI rfl (KU (KQ (Ku rfl) (Nb rfl) (fun b5=>?_)))
  refine KI rfl (KU (KQ (Ku rfl) (Nb rfl) (fun b6=>?_)))
  refine KI rfl (KU (KQ (Kg zr_60) (Nb rfl) (fun b8=>?_)))
  refine KA (KF (v:=.int .i64 ((0:Nat):Int)) rfl) (Nb rfl) ?_
  refine KG ?_
  refine KE (KB ?_)
  refine KA (KD rfl) (Nb rfl) ?_
  refine KI rfl (KU (KR (first:=[]) rfl en_112 rfl (Nb rfl) (fun w hw=>c_Open_none id w h) ?_))
  refine KA (KF rfl) (Nb rfl) ?_
  refine KG ?_
  refine KE ?_
  refine LCode.block ?_
  refine KE (KB ?_)
  refine KA (KD rfl) (Nb rfl) ?_
  refine KA (KW (Det.eqp Try.underlying142 rfl rfl) (show _ = Value.bool true from rfl)) (Nb rfl) ?_
  refine KA (KF rfl) (Nb rfl) ?_
  refine KG ?_
  refine KAB rfl ?_
  refine KE (KB ?_)
  refine KA (KW (KAT pl_60 zr_60 rfl rfl) (show _ = ptV 0 0 false from pt_zero)) (Nb rfl) ?_
  refine KI rfl (KP rfl rfl sz_60 (by repeat (first|exact Kj _|exact Ky _ _ _|exact Kl _|exact Kp _ _ _|exact Kw _ _ _|exact KY|refine KS rfl ?_|refine KX ?_ ?_)) (by repeat (first|exact Sh _|apply St_)) (by first|exact KH _|exact KN _ _ _|exact KK _|exact KT _ _ _|exact Kd _ _ _|rfl|simp [KN,KH,KK]) ?_)
  refine KA (KF (v:=.int .i64 ((1400:Nat):Int)) rfl) (Nb rfl) ?_
  refine KG (KZ ?_)
  refine ⟨[_,_],.cons ⟨_,_,_,rfl,(by repeat (first|exact Mh _|apply Mt)),by exact KM Try.underlying60 rfl sz_60⟩ (.cons rfl .nil),fun a w' hr=>⟨?_,hr.fr.below⟩⟩
  rfl
theorem c_do_off2 (id:Int) (V:Cv) (P:Pt V.p) (X Y:Nat) (i:Bool) (fv:Value) (w:World) (h:cvI id = some V) (hP:On V.A V.B P) (hX:X<W9) (hY:Y<W9) (ho:onB V.p V.a V.b X Y i = false):Calls Try.prog 130 ([.int .i64 id,ptP P,ptV X Y i,fv]:List Value).toArray w (fun e w'=>e = .returned (.tuple #[ptV 0 0 false,.int .i64 ((1401:Nat):Int)])∧Below w.heap.size w w'):=by
  obtain ⟨hok,hid⟩:=cvI_ok h
  have hbb:=hok.bounds
  have hpW:V.p<W9:=w9_521 hbb.2.1
  have hnW:V.n<W9:=w9_521 hbb.2.2.2.2.2.2.1
  have hbl:=blen_w9 hnW
  have hnb:nby V.n≤72:=by (unfold nby; omega)
  refine KAC (N:=35) (rs:=[.cell 8 60,.tmp 9]) [] Try.func130 rfl Try.ntmps130 Try.results130 (Nb rfl) trivial rfl ?_
  show LCode _ _ _ ⟨_,_⟩ _
  refine KE (KB ?_)
  refine KI rfl (KU (KQ (Ku rfl) (Nb rfl) (fun b5=>?_)))
  refine KI rfl (KU (KQ (Ku rfl) (Nb rfl) (fun b6=>?_)))
  refine KI rfl (KU (KQ (Kg zr_60) (Nb rfl) (fun b8=>?_)))
  refine KA (KF (v:=.int .i64 ((0:Nat):Int)) rfl) (Nb rfl) ?_
  refine KG ?_
  refine KE (KB ?_)
  refine KA (KD rfl) (Nb rfl) ?_
  refine KI rfl (KU (Kz (Post:=fun v its=>∃ b f bd,v = .pointer (some ⟨b,0,none⟩)∧its = [.blk b ⟨false,opL V f,147,(0,0)⟩,.blk f ⟨false,fldL V.p bd,194,(0,0)⟩,.blk bd ⟨false,dvL V.p,241,(0,0)⟩]) (first:=[]) rfl en_112 rfl (Nb rfl) (fun w1 hw hs=>(c_Open _ V w1 h).mono fun e w' ⟨b,f,bd,h1,h2,h3,h4,h5,h6,h7,h8⟩=>⟨_,_,⟨b,f,bd,rfl,rfl⟩,h1,Brings.nums h8 (by intro x hx; simp at hx; rcases hx with rfl|rfl|rfl; exact h2; exact h3; exact h4) (by intro x hx; simp at hx; rcases hx with rfl|rfl|rfl <;> rfl) (by intro x hx k hk; simp at hx; rcases hx with rfl|rfl|rfl <;> simp [Item.fp] at hk <;> subst hk; exact .inl h5; exact .inl h6; exact .inl h7)⟩) ?_))
  rintro _ _ ⟨b,f,bd,rfl,rfl⟩
  refine KA (KF rfl) (Nb rfl) ?_
  refine KG ?_
  refine KE ?_
  refine LCode.block ?_
  refine KE (KB ?_)
  refine KA (KD rfl) (Nb rfl) ?_
  refine KA (KW (Det.eqp Try.underlying142 rfl rfl) (show _ = Value.bool false from rfl)) (Nb rfl) ?_
  refine KA (KF rfl) (Nb rfl) ?_
  refine KG ?_
  refine Kn rfl ?_
  refine KE (KB ?_)
  refine KA (KD rfl) (Nb rfl) ?_
  refine LOps.det (KJ rfl (by repeat (first|exact Mh _|apply Mt)) (by exact KM Try.underlying60 rfl sz_60)) (Nb rfl) ?_
  refine KI rfl (KU (KR (first:=[]) rfl en_122 rfl (Nb rfl) (fun w hw=>c_cOnP V b f bd hok (P) w (hw _ (by repeat (first|exact Mh _|apply Mt))) (hw _ (by repeat (first|exact Mh _|apply Mt))) (hw _ (by repeat (first|exact Mh _|apply Mt))) hP) ?_))
  refine KA (KW (Det.not rfl) (show _ = Value.bool false from rfl)) (Nb rfl) ?_
  refine KA (KD rfl) (Nb rfl) ?_
  refine Kf rfl rfl (KD rfl) (Nb rfl) ?_
  refine KAU rfl rfl (KJ rfl (by repeat (first|exact Mh _|apply Mt)) (by exact KM Try.underlying60 rfl sz_60)) (Nb rfl) ?_
  refine LOps.stepG rfl rfl rfl (KU (KR (first:=[]) rfl en_122 rfl (Nb rfl) (fun w hw=>c_cOnB V b f bd hok (X) (Y) (i) false w (hw _ (by repeat (first|exact Mh _|apply Mt))) (hw _ (by repeat (first|exact Mh _|apply Mt))) (hw _ (by repeat (first|exact Mh _|apply Mt))) hX hY ho) ?_))
  refine Kf rfl rfl (KW (Det.not rfl) (show _ = Value.bool true from rfl)) (Nb rfl) ?_
  refine KA (KAF rfl rfl) (Nb rfl) ?_
  refine KA (KF rfl) (Nb rfl) ?_
  refine KG ?_
  refine KAB rfl ?_
  refine KE (KB ?_)
  refine KA (KW (KAT pl_60 zr_60 rfl rfl) (show _ = ptV 0 0 false from pt_zero)) (Nb rfl) ?_
  refine KI rfl (KP rfl rfl sz_60 (by repeat (first|exact Kj _|exact Ky _ _ _|exact Kl _|exact Kp _ _ _|exact Kw _ _ _|exact KY|refine KS rfl ?_|refine KX ?_ ?_)) (by repeat (first|exact Sh _|apply St_)) (by first|exact KH _|exact KN _ _ _|exact KK _|exact KT _ _ _|exact Kd _ _ _|rfl|simp [KN,KH,KK]) ?_)
  refine KA (KF (v:=.int .i64 ((1401:Nat):Int)) rfl) (Nb rfl) ?_
  refine KG (KZ ?_)
  refine ⟨[_,_],.cons ⟨_,_,_,rfl,(by repeat (first|exact Mh _|apply Mt)),by exact KM Try.underlying60 rfl sz_60⟩ (.cons rfl .nil),fun a w' hr=>⟨?_,hr.fr.below⟩⟩
  rfl
theorem c_do_ok (id:Int) (V:Cv) (P P2 R:Pt V.p) (fid:FuncId) (w:World) (h:cvI id = some V) (hP:On V.A V.B P) (hP2:On V.A V.B P2) (he:KAQ Try.prog fid) (hc:∀ b f bd (w:World),(Item.blk b ⟨false,opL V f,147,(0,0)⟩).holds w→(Item.blk f ⟨false,fldL V.p bd,194,(0,0)⟩).holds w→(Item.blk bd ⟨false,dvL V.p,241,(0,0)⟩).holds w→Calls Try.prog fid ([.agg ([.pointer (some ⟨b,0,none⟩)]:List Value).toArray,ptP P,ptP P2]:List Value).toArray w (fun e w'=>e = .returned (ptP R)∧Below w.heap.size w w')):Calls Try.prog 130 ([.int .i64 id,ptP P,ptP P2,.func (.func fid) #[] #[]]:List Value).toArray w (fun e w'=>e = .returned (.tuple #[ptP R,.int .i64 ((0:Nat):Int)])∧Below w.heap.size w w'):=by
  obtain ⟨hok,hid⟩:=cvI_ok h
  have hbb:=hok.bounds
  have hpW:V.p<W9:=w9_521 hbb.2.1
  have hnW:V.n<W9:=w9_521 hbb.2.2.2.2.2.2.1
  have hbl:=blen_w9 hnW
  have hnb:nby V.n≤72:=by (unfold nby; omega)
  refine KAC (N:=35) (rs:=[.cell 8 60,.tmp 9]) [] Try.func130 rfl Try.ntmps130 Try.results130 (Nb rfl) trivial rfl ?_
  show LCode _ _ _ ⟨_,_⟩ _
  refine KE (KB ?_)
  refine KI rfl (KU (KQ (Ku rfl) (Nb rfl) (fun b5=>?_)))
  refine KI rfl (KU (KQ (Ku rfl) (Nb rfl) (fun b6=>?_)))
  refine KI rfl (KU (KQ (Kg zr_60) (Nb rfl) (fun b8=>?_)))
  refine KA (KF (v:=.int .i64 ((0:Nat):Int)) rfl) (Nb rfl) ?_
  refine KG ?_
  refine KE (KB ?_)
  refine KA (KD rfl) (Nb rfl) ?_
  refine KI rfl (KU (Kz (Post:=fun v its=>∃ b f bd,v = .pointer (some ⟨b,0,none⟩)∧its = [.blk b ⟨false,opL V f,147,(0,0)⟩,.blk f ⟨false,fldL V.p bd,194,(0,0)⟩,.blk bd ⟨false,dvL V.p,241,(0,0)⟩]) (first:=[]) rfl en_112 rfl (Nb rfl) (fun w1 hw hs=>(c_Open _ V w1 h).mono fun e w' ⟨b,f,bd,h1,h2,h3,h4,h5,h6,h7,h8⟩=>⟨_,_,⟨b,f,bd,rfl,rfl⟩,h1,Brings.nums h8 (by intro x hx; simp at hx; rcases hx with rfl|rfl|rfl; exact h2; exact h3; exact h4) (by intro x hx; simp at hx; rcases hx with rfl|rfl|rfl <;> rfl) (by intro x hx k hk; simp at hx; rcases hx with rfl|rfl|rfl <;> simp [Item.fp] at hk <;> subst hk; exact .inl h5; exact .inl h6; exact .inl h7)⟩) ?_))
  rintro _ _ ⟨b,f,bd,rfl,rfl⟩
  refine KA (KF rfl) (Nb rfl) ?_
  refine KG ?_
  refine KE ?_
  refine LCode.block ?_
  refine KE (KB ?_)
  refine KA (KD rfl) (Nb rfl) ?_
  refine KA (KW (Det.eqp Try.underlying142 rfl rfl) (show _ = Value.bool false from rfl)) (Nb rfl) ?_
  refine KA (KF rfl) (Nb rfl) ?_
  refine KG ?_
  refine Kn rfl ?_
  refine KE (KB ?_)
  refine KA (KD rfl) (Nb rfl) ?_
  refine LOps.det (KJ rfl (by repeat (first|exact Mh _|apply Mt)) (by exact KM Try.underlying60 rfl sz_60)) (Nb rfl) ?_
  refine KI rfl (KU (KR (first:=[]) rfl en_122 rfl (Nb rfl) (fun w hw=>c_cOnP V b f bd hok (P) w (hw _ (by repeat (first|exact Mh _|apply Mt))) (hw _ (by repeat (first|exact Mh _|apply Mt))) (hw _ (by repeat (first|exact Mh _|apply Mt))) hP) ?_))
  refine KA (KW (Det.not rfl) (show _ = Value.bool false from rfl)) (Nb rfl) ?_
  refine KA (KD rfl) (Nb rfl) ?_
  refine Kf rfl rfl (KD rfl) (Nb rfl) ?_
  refine KAU rfl rfl (KJ rfl (by repeat (first|exact Mh _|apply Mt)) (by exact KM Try.underlying60 rfl sz_60)) (Nb rfl) ?_
  refine LOps.stepG rfl rfl rfl (KU (KR (first:=[]) rfl en_122 rfl (Nb rfl) (fun w hw=>c_cOnP V b f bd hok (P2) w (hw _ (by repeat (first|exact Mh _|apply Mt))) (hw _ (by repeat (first|exact Mh _|apply Mt))) (hw _ (by repeat (first|exact Mh _|apply Mt))) hP2) ?_))
  refine Kf rfl rfl (KW (Det.not rfl) (show _ = Value.bool false from rfl)) (Nb rfl) ?_
  refine KA (KAF rfl rfl) (Nb rfl) ?_
  refine KA (KF rfl) (Nb rfl) ?_
  refine KG ?_
  refine Kn rfl ?_
  refine Kh ?_
  refine KE (KB ?_)
  refine KA (KD rfl) (Nb rfl) ?_
  refine KA (KD rfl) (Nb rfl) ?_
  refine KA (KW (KAT pl_169 zr_169 rfl rfl) (show _ = Value.agg ([.pointer (some ⟨b,0,none⟩)]:List Value).toArray from rfl)) (Nb rfl) ?_
  refine LOps.det (KJ rfl (by repeat (first|exact Mh _|apply Mt)) (by exact KM Try.underlying60 rfl sz_60)) (Nb rfl) ?_
  refine LOps.det (KJ rfl (by repeat (first|exact Mh _|apply Mt)) (by exact KM Try.underlying60 rfl sz_60)) (Nb rfl) ?_
  refine KI rfl (KU (KR (first:=[]) rfl he rfl (Nb rfl) (fun w hw=>hc b f bd w (hw _ (by repeat (first|exact Mh _|apply Mt))) (hw _ (by repeat (first|exact Mh _|apply Mt))) (hw _ (by repeat (first|exact Mh _|apply Mt)))) ?_))
  refine KI rfl (KP rfl rfl sz_60 (by repeat (first|exact Kj _|exact Ky _ _ _|exact Kl _|exact Kp _ _ _|exact Kw _ _ _|exact KY|refine KS rfl ?_|refine KX ?_ ?_)) (by repeat (first|exact Sh _|apply St_)) (by first|exact KH _|exact KN _ _ _|exact KK _|exact KT _ _ _|exact Kd _ _ _|rfl|simp [KN,KH,KK]) ?_)
  refine KA (KF (v:=.int .i64 ((0:Nat):Int)) rfl) (Nb rfl) ?_
  refine KG (KZ ?_)
  refine ⟨[_,_],.cons ⟨_,_,_,rfl,(by repeat (first|exact Mh _|apply Mt)),by exact KM Try.underlying60 rfl sz_60⟩ (.cons rfl .nil),fun a w' hr=>⟨?_,hr.fr.below⟩⟩
  rfl
theorem c_do_okK (id:Int) (V:Cv) (P P2 R:Pt V.p) (fid:FuncId) (K bk:Nat) (w:World) (h:cvI id = some V) (hP:On V.A V.B P) (hP2:On V.A V.B P2) (he:KAQ Try.prog fid) (hc:∀ b f bd (w:World),(Item.blk b ⟨false,opL V f,147,(0,0)⟩).holds w→(Item.blk f ⟨false,fldL V.p bd,194,(0,0)⟩).holds w→(Item.blk bd ⟨false,dvL V.p,241,(0,0)⟩).holds w→(Item.blk bk ⟨false,natL K,25,(0,0)⟩).holds w→Calls Try.prog fid ([.agg ([.pointer (some ⟨b,0,none⟩)]:List Value).toArray,ptP P,ptP P2,.pointer (some ⟨bk,0,none⟩)]:List Value).toArray w (fun e w'=>e = .returned (ptP R)∧Below w.heap.size w w')) (hk:(Item.blk bk ⟨false,natL K,25,(0,0)⟩).holds w):Calls Try.prog 130 ([.int .i64 id,ptP P,ptP P2,.func (.func fid) #[] #[.pointer (some ⟨bk,0,none⟩)]]:List Value).toArray w (fun e w'=>e = .returned (.tuple #[ptP R,.int .i64 ((0:Nat):Int)])∧Below w.heap.size w w'):=by
  obtain ⟨hok,hid⟩:=cvI_ok h
  have hbb:=hok.bounds
  have hpW:V.p<W9:=w9_521 hbb.2.1
  have hnW:V.n<W9:=w9_521 hbb.2.2.2.2.2.2.1
  have hbl:=blen_w9 hnW
  have hnb:nby V.n≤72:=by (unfold nby; omega)
  refine KAC (N:=35) (rs:=[.cell 8 60,.tmp 9]) [.blk bk ⟨false,natL K,25,(0,0)⟩] Try.func130 rfl Try.ntmps130 Try.results130 (Nb rfl) ⟨hk,trivial⟩ rfl ?_
  show LCode _ _ _ ⟨_,_⟩ _
  refine KE (KB ?_)
  refine KI rfl (KU (KQ (Ku rfl) (Nb rfl) (fun b5=>?_)))
  refine KI rfl (KU (KQ (Ku rfl) (Nb rfl) (fun b6=>?_)))
  refine KI rfl (KU (KQ (Kg zr_60) (Nb rfl) (fun b8=>?_)))
  refine KA (KF (v:=.int .i64 ((0:Nat):Int)) rfl) (Nb rfl) ?_
  refine KG ?_
  refine KE (KB ?_)
  refine KA (KD rfl) (Nb rfl) ?_
  refine KI rfl (KU (Kz (Post:=fun v its=>∃ b f bd,v = .pointer (some ⟨b,0,none⟩)∧its = [.blk b ⟨false,opL V f,147,(0,0)⟩,.blk f ⟨false,fldL V.p bd,194,(0,0)⟩,.blk bd ⟨false,dvL V.p,241,(0,0)⟩]) (first:=[]) rfl en_112 rfl (Nb rfl) (fun w1 hw hs=>(c_Open _ V w1 h).mono fun e w' ⟨b,f,bd,h1,h2,h3,h4,h5,h6,h7,h8⟩=>⟨_,_,⟨b,f,bd,rfl,rfl⟩,h1,Brings.nums h8 (by intro x hx; simp at hx; rcases hx with rfl|rfl|rfl; exact h2; exact h3; exact h4) (by intro x hx; simp at hx; rcases hx with rfl|rfl|rfl <;> rfl) (by intro x hx k hk; simp at hx; rcases hx with rfl|rfl|rfl <;> simp [Item.fp] at hk <;> subst hk; exact .inl h5; exact .inl h6; exact .inl h7)⟩) ?_))
  rintro _ _ ⟨b,f,bd,rfl,rfl⟩
  refine KA (KF rfl) (Nb rfl) ?_
  refine KG ?_
  refine KE ?_
  refine LCode.block ?_
  refine KE (KB ?_)
  refine KA (KD rfl) (Nb rfl) ?_
  refine KA (KW (Det.eqp Try.underlying142 rfl rfl) (show _ = Value.bool false from rfl)) (Nb rfl) ?_
  refine KA (KF rfl) (Nb rfl) ?_
  refine KG ?_
  refine Kn rfl ?_
  refine KE (KB ?_)
  refine KA (KD rfl) (Nb rfl) ?_
  refine LOps.det (KJ rfl (by repeat (first|exact Mh _|apply Mt)) (by exact KM Try.underlying60 rfl sz_60)) (Nb rfl) ?_
  refine KI rfl (KU (KR (first:=[]) rfl en_122 rfl (Nb rfl) (fun w hw=>c_cOnP V b f bd hok (P) w (hw _ (by repeat (first|exact Mh _|apply Mt))) (hw _ (by repeat (first|exact Mh _|apply Mt))) (hw _ (by repeat (first|exact Mh _|apply Mt))) hP) ?_))
  refine KA (KW (Det.not rfl) (show _ = Value.bool false from rfl)) (Nb rfl) ?_
  refine KA (KD rfl) (Nb rfl) ?_
  refine Kf rfl rfl (KD rfl) (Nb rfl) ?_
  refine KAU rfl rfl (KJ rfl (by repeat (first|exact Mh _|apply Mt)) (by exact KM Try.underlying60 rfl sz_60)) (Nb rfl) ?_
  refine LOps.stepG rfl rfl rfl (KU (KR (first:=[]) rfl en_122 rfl (Nb rfl) (fun w hw=>c_cOnP V b f bd hok (P2) w (hw _ (by repeat (first|exact Mh _|apply Mt))) (hw _ (by repeat (first|exact Mh _|apply Mt))) (hw _ (by repeat (first|exact Mh _|apply Mt))) hP2) ?_))
  refine Kf rfl rfl (KW (Det.not rfl) (show _ = Value.bool false from rfl)) (Nb rfl) ?_
  refine KA (KAF rfl rfl) (Nb rfl) ?_
  refine KA (KF rfl) (Nb rfl) ?_
  refine KG ?_
  refine Kn rfl ?_
  refine Kh ?_
  refine KE (KB ?_)
  refine KA (KD rfl) (Nb rfl) ?_
  refine KA (KD rfl) (Nb rfl) ?_
  refine KA (KW (KAT pl_169 zr_169 rfl rfl) (show _ = Value.agg ([.pointer (some ⟨b,0,none⟩)]:List Value).toArray from rfl)) (Nb rfl) ?_
  refine LOps.det (KJ rfl (by repeat (first|exact Mh _|apply Mt)) (by exact KM Try.underlying60 rfl sz_60)) (Nb rfl) ?_
  refine LOps.det (KJ rfl (by repeat (first|exact Mh _|apply Mt)) (by exact KM Try.underlying60 rfl sz_60)) (Nb rfl) ?_
  refine KI rfl (KU (LStep.callK (caps:=[.pointer (some ⟨bk,0,none⟩)]) rfl he rfl (Nb rfl) (fun w hw=>hc b f bd w (hw _ (by repeat (first|exact Mh _|apply Mt))) (hw _ (by repeat (first|exact Mh _|apply Mt))) (hw _ (by repeat (first|exact Mh _|apply Mt))) (hw _ (by repeat (first|exact Mh _|apply Mt)))) ?_))
  refine KI rfl (KP rfl rfl sz_60 (by repeat (first|exact Kj _|exact Ky _ _ _|exact Kl _|exact Kp _ _ _|exact Kw _ _ _|exact KY|refine KS rfl ?_|refine KX ?_ ?_)) (by repeat (first|exact Sh _|apply St_)) (by first|exact KH _|exact KN _ _ _|exact KK _|exact KT _ _ _|exact Kd _ _ _|rfl|simp [KN,KH,KK]) ?_)
  refine KA (KF (v:=.int .i64 ((0:Nat):Int)) rfl) (Nb rfl) ?_
  refine KG (KZ ?_)
  refine ⟨[_,_],.cons ⟨_,_,_,rfl,(by repeat (first|exact Mh _|apply Mt)),by exact KM Try.underlying60 rfl sz_60⟩ (.cons rfl .nil),fun a w' hr=>⟨?_,hr.fr.below⟩⟩
  rfl
theorem c_affAdd_off2 (id:Int) (V:Cv) (P:Pt V.p) (X Y:Nat) (i:Bool) (w:World) (h:cvI id = some V) (hP:On V.A V.B P) (hX:X<W9) (hY:Y<W9) (ho:onB V.p V.a V.b X Y i = false):Calls Try.prog 88 ([.int .i64 id,ptP P,ptV X Y i]:List Value).toArray w (fun e w'=>e = .returned (.tuple #[ptV 0 0 false,.int .i64 ((1401:Nat):Int)])∧Below w.heap.size w w'):=by
  refine KAC (N:=14) (rs:=[.cell 6 60,.tmp 7]) [] Try.func88 rfl Try.ntmps88 Try.results88 (Nb rfl) trivial rfl ?_
  show LCode _ _ _ ⟨_,_⟩ _
  refine KE (KB ?_)
  refine KI rfl (KU (KQ (Ku rfl) (Nb rfl) (fun b4=>?_)))
  refine KI rfl (KU (KQ (Ku rfl) (Nb rfl) (fun b5=>?_)))
  refine KI rfl (KU (KQ (Kg zr_60) (Nb rfl) (fun b6=>?_)))
  refine KA (KF (v:=.int .i64 ((0:Nat):Int)) rfl) (Nb rfl) ?_
  refine KG ?_
  refine KE (KB ?_)
  refine KA (KD rfl) (Nb rfl) ?_
  refine LOps.det (KJ rfl (by repeat (first|exact Mh _|apply Mt)) (by exact KM Try.underlying60 rfl sz_60)) (Nb rfl) ?_
  refine LOps.det (KJ rfl (by repeat (first|exact Mh _|apply Mt)) (by exact KM Try.underlying60 rfl sz_60)) (Nb rfl) ?_
  refine KI rfl (KU (KR (first:=[]) rfl en_130 rfl (Nb rfl) (fun w hw=>c_do_off2 id V P X Y i _ w h hP hX hY ho) ?_))
  refine KA (Kb rfl rfl) (Nb rfl) ?_
  refine KA (Kb rfl rfl) (Nb rfl) ?_
  refine KI rfl (KP rfl rfl sz_60 (by repeat (first|exact Kj _|exact Ky _ _ _|exact Kl _|exact Kp _ _ _|exact Kw _ _ _|exact KY|refine KS rfl ?_|refine KX ?_ ?_)) (by repeat (first|exact Sh _|apply St_)) (by first|exact KH _|exact KN _ _ _|exact KK _|exact KT _ _ _|exact Kd _ _ _|rfl|simp [KN,KH,KK]) ?_)
  refine KA (KF rfl) (Nb rfl) ?_
  refine KG (KZ ?_)
  refine ⟨[_,_],.cons ⟨_,_,_,rfl,(by repeat (first|exact Mh _|apply Mt)),by exact KM Try.underlying60 rfl sz_60⟩ (.cons rfl .nil),fun a w' hr=>⟨?_,hr.fr.below⟩⟩
  rfl
theorem c_affAdd (id:Int) (V:Cv) (P P2 R:Pt V.p) (w:World) (h:cvI id = some V) (hP:On V.A V.B P) (hP2:On V.A V.B P2) (hR:padd V.A P P2 = R):Calls Try.prog 88 ([.int .i64 id,ptP P,ptP P2]:List Value).toArray w (fun e w'=>e = .returned (.tuple #[ptP R,.int .i64 ((0:Nat):Int)])∧Below w.heap.size w w'):=by
  obtain ⟨hok,hid⟩:=cvI_ok h
  refine KAC (N:=14) (rs:=[.cell 6 60,.tmp 7]) [] Try.func88 rfl Try.ntmps88 Try.results88 (Nb rfl) trivial rfl ?_
  show LCode _ _ _ ⟨_,_⟩ _
  refine KE (KB ?_)
  refine KI rfl (KU (KQ (Ku rfl) (Nb rfl) (fun b4=>?_)))
  refine KI rfl (KU (KQ (Ku rfl) (Nb rfl) (fun b5=>?_)))
  refine KI rfl (KU (KQ (Kg zr_60) (Nb rfl) (fun b6=>?_)))
  refine KA (KF (v:=.int .i64 ((0:Nat):Int)) rfl) (Nb rfl) ?_
  refine KG ?_
  refine KE (KB ?_)
  refine KA (KD rfl) (Nb rfl) ?_
  refine LOps.det (KJ rfl (by repeat (first|exact Mh _|apply Mt)) (by exact KM Try.underlying60 rfl sz_60)) (Nb rfl) ?_
  refine LOps.det (KJ rfl (by repeat (first|exact Mh _|apply Mt)) (by exact KM Try.underlying60 rfl sz_60)) (Nb rfl) ?_
  refine KI rfl (KU (KR (first:=[]) rfl en_130 rfl (Nb rfl) (fun w hw=>c_do_ok id V P P2 R 131 w h hP hP2 en_131 (fun b f bd w h1 h2 h3=>c_gadd V b f bd hok P P2 R w h1 h2 h3 hP hP2 hR)) ?_))
  refine KA (Kb rfl rfl) (Nb rfl) ?_
  refine KA (Kb rfl rfl) (Nb rfl) ?_
  refine KI rfl (KP rfl rfl sz_60 (by repeat (first|exact Kj _|exact Ky _ _ _|exact Kl _|exact Kp _ _ _|exact Kw _ _ _|exact KY|refine KS rfl ?_|refine KX ?_ ?_)) (by repeat (first|exact Sh _|apply St_)) (by first|exact KH _|exact KN _ _ _|exact KK _|exact KT _ _ _|exact Kd _ _ _|rfl|simp [KN,KH,KK]) ?_)
  refine KA (KF rfl) (Nb rfl) ?_
  refine KG (KZ ?_)
  refine ⟨[_,_],.cons ⟨_,_,_,rfl,(by repeat (first|exact Mh _|apply Mt)),by exact KM Try.underlying60 rfl sz_60⟩ (.cons rfl .nil),fun a w' hr=>⟨?_,hr.fr.below⟩⟩
  rfl
theorem c_affNeg_none (id:Int) (X Y:Nat) (i:Bool) (w:World) (h:cvI id = none):Calls Try.prog 89 ([.int .i64 id,ptV X Y i]:List Value).toArray w (fun e w'=>e = .returned (.tuple #[ptV 0 0 false,.int .i64 ((1400:Nat):Int)])∧Below w.heap.size w w'):=by
  refine KAC (N:=12) (rs:=[.cell 4 60,.tmp 5]) [] Try.func89 rfl Try.ntmps89 Try.results89 (Nb rfl) trivial rfl ?_
  show LCode _ _ _ ⟨_,_⟩ _
  refine KE (KB ?_)
  refine KI rfl (KU (KQ (Ku rfl) (Nb rfl) (fun b3=>?_)))
  refine KI rfl (KU (KQ (Kg zr_60) (Nb rfl) (fun b4=>?_)))
  refine KA (KF (v:=.int .i64 ((0:Nat):Int)) rfl) (Nb rfl) ?_
  refine KG ?_
  refine KE (KB ?_)
  refine KA (KD rfl) (Nb rfl) ?_
  refine LOps.det (KJ rfl (by repeat (first|exact Mh _|apply Mt)) (by exact KM Try.underlying60 rfl sz_60)) (Nb rfl) ?_
  refine LOps.det (KJ rfl (by repeat (first|exact Mh _|apply Mt)) (by exact KM Try.underlying60 rfl sz_60)) (Nb rfl) ?_
  refine KI rfl (KU (KR (first:=[]) rfl en_130 rfl (Nb rfl) (fun w hw=>c_do_none id X Y i X Y i _ w h) ?_))
  refine KA (Kb rfl rfl) (Nb rfl) ?_
  refine KA (Kb rfl rfl) (Nb rfl) ?_
  refine KI rfl (KP rfl rfl sz_60 (by repeat (first|exact Kj _|exact Ky _ _ _|exact Kl _|exact Kp _ _ _|exact Kw _ _ _|exact KY|refine KS rfl ?_|refine KX ?_ ?_)) (by repeat (first|exact Sh _|apply St_)) (by first|exact KH _|exact KN _ _ _|exact KK _|exact KT _ _ _|exact Kd _ _ _|rfl|simp [KN,KH,KK]) ?_)
  refine KA (KF rfl) (Nb rfl) ?_
  refine KG (KZ ?_)
  refine ⟨[_,_],.cons ⟨_,_,_,rfl,(by repeat (first|exact Mh _|apply Mt)),by exact KM Try.underlying60 rfl sz_60⟩ (.cons rfl .nil),fun a w' hr=>⟨?_,hr.fr.below⟩⟩
  rfl
theorem c_affNeg (id:Int) (V:Cv) (P:Pt V.p) (w:World) (h:cvI id = some V) (hP:On V.A V.B P):Calls Try.prog 89 ([.int .i64 id,ptP P]:List Value).toArray w (fun e w'=>e = .returned (.tuple #[ptP P.neg,.int .i64 ((0:Nat):Int)])∧Below w.heap.size w w'):=by
  obtain ⟨hok,hid⟩:=cvI_ok h
  refine KAC (N:=12) (rs:=[.cell 4 60,.tmp 5]) [] Try.func89 rfl Try.ntmps89 Try.results89 (Nb rfl) trivial rfl ?_
  show LCode _ _ _ ⟨_,_⟩ _
  refine KE (KB ?_)
  refine KI rfl (KU (KQ (Ku rfl) (Nb rfl) (fun b3=>?_)))
  refine KI rfl (KU (KQ (Kg zr_60) (Nb rfl) (fun b4=>?_)))
  refine KA (KF (v:=.int .i64 ((0:Nat):Int)) rfl) (Nb rfl) ?_
  refine KG ?_
  refine KE (KB ?_)
  refine KA (KD rfl) (Nb rfl) ?_
  refine LOps.det (KJ rfl (by repeat (first|exact Mh _|apply Mt)) (by exact KM Try.underlying60 rfl sz_60)) (Nb rfl) ?_
  refine LOps.det (KJ rfl (by repeat (first|exact Mh _|apply Mt)) (by exact KM Try.underlying60 rfl sz_60)) (Nb rfl) ?_
  refine KI rfl (KU (KR (first:=[]) rfl en_130 rfl (Nb rfl) (fun w hw=>c_do_ok id V P P P.neg 132 w h hP hP en_132 (fun b f bd w h1 h2 h3=>c_gneg V b f bd hok P _ _ _ w h1 h2 h3)) ?_))
  refine KA (Kb rfl rfl) (Nb rfl) ?_
  refine KA (Kb rfl rfl) (Nb rfl) ?_
  refine KI rfl (KP rfl rfl sz_60 (by repeat (first|exact Kj _|exact Ky _ _ _|exact Kl _|exact Kp _ _ _|exact Kw _ _ _|exact KY|refine KS rfl ?_|refine KX ?_ ?_)) (by repeat (first|exact Sh _|apply St_)) (by first|exact KH _|exact KN _ _ _|exact KK _|exact KT _ _ _|exact Kd _ _ _|rfl|simp [KN,KH,KK]) ?_)
  refine KA (KF rfl) (Nb rfl) ?_
  refine KG (KZ ?_)
  refine ⟨[_,_],.cons ⟨_,_,_,rfl,(by repeat (first|exact Mh _|apply Mt)),by exact KM Try.underlying60 rfl sz_60⟩ (.cons rfl .nil),fun a w' hr=>⟨?_,hr.fr.below⟩⟩
  rfl
theorem c_affMul (id:Int) (V:Cv) (K:Nat) (P:Pt V.p) (w:World) (h:cvI id = some V) (hP:On V.A V.B P) (hK:K<W9):Calls Try.prog 91 ([.int .i64 id,natV K,ptP P]:List Value).toArray w (fun e w'=>e = .returned (.tuple #[ptP (pmul V.A P K),.int .i64 ((0:Nat):Int)])∧Below w.heap.size w w'):=by
  obtain ⟨hok,hid⟩:=cvI_ok h
  refine KAC (N:=15) (rs:=[.cell 6 60,.tmp 7]) [] Try.func91 rfl Try.ntmps91 Try.results91 (Nb rfl) trivial rfl ?_
  show LCode _ _ _ ⟨_,_⟩ _
  refine KE (KB ?_)
  refine KI rfl (KU (KQ (Ku rfl) (Nb rfl) (fun b4=>?_)))
  refine KI rfl (KU (KQ (Ku rfl) (Nb rfl) (fun b5=>?_)))
  refine KI rfl (KU (KQ (Kg zr_60) (Nb rfl) (fun b6=>?_)))
  refine KA (KF (v:=.int .i64 ((0:Nat):Int)) rfl) (Nb rfl) ?_
  refine KG ?_
  refine KE (KB ?_)
  refine KA (KD rfl) (Nb rfl) ?_
  refine LOps.det (KJ rfl (by repeat (first|exact Mh _|apply Mt)) (by exact KM Try.underlying60 rfl sz_60)) (Nb rfl) ?_
  refine LOps.det (KJ rfl (by repeat (first|exact Mh _|apply Mt)) (by exact KM Try.underlying60 rfl sz_60)) (Nb rfl) ?_
  refine KA (Det.makeFuncC1 rfl) (Nb rfl) ?_
  refine KI rfl (KU (KR (first:=[]) rfl en_130 rfl (Nb rfl) (fun w hw=>c_do_okK id V P P (pmul V.A P K) 133 K b4 w h hP hP en_133 (fun b f bd w h1 h2 h3 hk=>c_gmul V b f bd hok K b4 hK P _ _ _ w h1 h2 h3 hP hk) (show (Item.blk b4 ⟨true,_,_,_⟩).holds w from hw _ (by repeat (first|exact Mh _|apply Mt)))) ?_))
  refine KA (Kb rfl rfl) (Nb rfl) ?_
  refine KA (Kb rfl rfl) (Nb rfl) ?_
  refine KI rfl (KP rfl rfl sz_60 (by repeat (first|exact Kj _|exact Ky _ _ _|exact Kl _|exact Kp _ _ _|exact Kw _ _ _|exact KY|refine KS rfl ?_|refine KX ?_ ?_)) (by repeat (first|exact Sh _|apply St_)) (by first|exact KH _|exact KN _ _ _|exact KK _|exact KT _ _ _|exact Kd _ _ _|rfl|simp [KN,KH,KK]) ?_)
  refine KA (KF rfl) (Nb rfl) ?_
  refine KG (KZ ?_)
  refine ⟨[_,_],.cons ⟨_,_,_,rfl,(by repeat (first|exact Mh _|apply Mt)),by exact KM Try.underlying60 rfl sz_60⟩ (.cons rfl .nil),fun a w' hr=>⟨?_,hr.fr.below⟩⟩
  rfl
end Go.Proofs.Ytljblbgogjieaaa
set_option linter.unusedVariables false
set_option linter.unusedSimpArgs false
set_option maxRecDepth 20000
namespace Go.Proofs.Ytljblbgogjieaaa
open Go Go.RowKit
open Grp
theorem c_r_GP (Q:CQ) (V:Cv) (w:World) (hc:(crvI Q V).holds w) (hok:V.Ok):Calls Try.prog 80 ([.agg (crvL Q V).toArray]:List Value).toArray w (fun e w'=>Num2R w (crvI Q V).fp (xv V.G) (yv V.G) (fun u v=>rpV u v (iv V.G)) e w'):=by
  rw [xG hok,yG hok]
  exact c_r_G Q V w hc
theorem c_r_OutP (V:Cv) (q r:NV) (P:Pt V.p) (w:World) (hq:(numT q (xv P)).holds w) (hr:(numT r (yv P)).holds w):Calls Try.prog 66 ([rpV (numV q (xv P)) (numV r (yv P)) (iv P)]:List Value).toArray w (fun e w'=>e = .returned (ptP P)∧Below w.heap.size w w'):=c_r_Out q r (xv P) (yv P) (iv P) w hq hr
theorem c_r_InP (V:Cv) (hok:V.Ok) (P:Pt V.p) (w:World):Calls Try.prog 63 ([ptP P]:List Value).toArray w (fun e w'=>Num2R w [] (xv P) (yv P) (fun u v=>rpV u v (iv P)) e w'):=c_r_In (xv P) (yv P) (iv P) w (pt_w9 hok P).1 (pt_w9 hok P).2
end Go.Proofs.Ytljblbgogjieaaa
set_option linter.unusedVariables false
set_option linter.unusedSimpArgs false
set_option maxRecDepth 20000
namespace Go.Proofs.Ytljblbgogjieaaa
open Go Go.RowKit
open Grp
theorem c_affMulR (id:Int) (V:Cv) (K:Nat) (P R:Pt V.p) (w:World) (h:cvI id = some V) (hP:On V.A V.B P) (hK:K<W9) (hR:pmul V.A P K = R):Calls Try.prog 91 ([.int .i64 id,natV K,ptP P]:List Value).toArray w (fun e w'=>e = .returned (.tuple #[ptP R,.int .i64 ((0:Nat):Int)])∧Below w.heap.size w w'):=hR ▸ c_affMul id V K P w h hP hK
theorem gg_ne {V:Cv} (hok:V.Ok):padd V.A V.G V.G≠V.G:=fun e=>by
  have h:=padd_cancel hok.crv hok.on (B:=.inf) trivial hok.on (e.trans (hok.inf_add hok.on).symm)
  unfold Cv.G at h; cases h
theorem two_mul {V:Cv} (hok:V.Ok) {P:Pt V.p} (hP:On V.A V.B P):padd V.A P P = pmul V.A P 2:=by
  show _ = padd V.A (padd V.A .inf P) P
  rw [hok.inf_add hP]
theorem c_awake14  (w:World)  : Calls Try.prog 90 ([]:List Value).toArray w (fun e w'=>e = .returned (.bool true)∧Below w.heap.size w w'):=by
  obtain ⟨V,hV⟩:∃ V,V = cv13:=⟨_,rfl⟩
  have h:cvI 13 = some V:=by rw [hV]; rfl
  obtain ⟨hok,hid⟩:=cvI_ok h
  have hn13:V.n = 223:=by rw [hV]; rfl
  obtain ⟨hb5,hb521,hba,hbb,hbx,hby,hbn,hbo,hbo2,hbb1,hbn1⟩:=hok.bounds
  have hsz:=hok.sz
  have hsp:=hsz.p
  have hsa:=hsz.a
  have hsb:=hsz.b
  have hp0:V.p≠0:=by omega
  have hpp:0<V.p:=by omega
  have hm17:∀ k,D.nw (k%V.p)≤17:=fun k=>Nat.le_trans (D.nw_mono (Nat.le_of_lt (Nat.mod_lt k hpp))) hsp
  have ho:onB V.p V.a V.b 1 1 false = false:=by rw [hV]; decide
  refine KAC (N:=89) (rs:=[.tmp 0]) [] Try.func90 rfl Try.ntmps90 Try.results90 (Nb rfl) trivial rfl ?_
  show LCode _ _ _ ⟨_,_⟩ _
  refine KE (KB ?_)
  refine KA (KF rfl) (Nb rfl) ?_
  refine KG ?_
  refine KE (KB ?_)
  refine KI rfl (KU (Kz (Post:=fun v its=>∃ Q,v = .tuple #[.agg (crvL Q V).toArray,.bool true]∧its = [crvI Q V]) (first:=[]) rfl en_43 rfl (Nb rfl) (fun w1 hw hs=>(c_r_Get _ V w1 h).mono fun e w' ⟨Q,h1,h2,h3,h4⟩=>⟨_,_,⟨Q,rfl,rfl⟩,h1,Brings.nums h4 (by intro x hx; simp at hx; subst hx; exact h2) (by intro x hx; simp at hx; subst hx; rfl) (by intro x hx k hk; simp at hx; subst hx; exact .inl (h3 k hk))⟩) ?_))
  rintro _ _ ⟨Q,rfl,rfl⟩
  refine KA (KD rfl) (Nb rfl) ?_
  refine KA (Kb rfl rfl) (Nb rfl) ?_
  refine KA (Kb rfl rfl) (Nb rfl) ?_
  refine KI rfl (KU (KQ (Kg zr_31) (Nb rfl) (fun b1=>?_)))
  refine KI rfl (KP rfl rfl sz_31 (by repeat (first|exact KY|refine KS rfl ?_)) (by repeat (first|exact Sh _|apply St_)) (by rfl) ?_)
  refine KA (KF rfl) (Nb rfl) ?_
  refine KG ?_
  refine KE (KB ?_)
  refine LOps.det (KJ rfl (by repeat (first|exact Mh _|apply Mt)) (by exact KM Try.underlying31 rfl sz_31)) (Nb rfl) ?_
  refine KI rfl (KU (Kz (first:=[]) rfl en_80 rfl (Nb rfl) (fun w hw hs=>(c_r_GP Q V w (hw _ (by repeat (first|exact Mh _|apply Mt))) hok).mono fun e w' h=>Num2R.q (Old.one (x:=crvI Q V) (by repeat (first|exact Mh _|apply Mt)) rfl) hs h) ?_))
  rintro _ _ ⟨qga,qgb,rfl,rfl,hnga,hngb⟩
  refine KI rfl (KU (KR (first:=[]) rfl en_66 rfl (Nb rfl) (fun w hw=>c_r_OutP V qga qgb (V.G) w (hw _ (by repeat (first|exact Mh _|apply Mt))) (hw _ (by repeat (first|exact Mh _|apply Mt)))) ?_))
  refine KI rfl (KU (KQ (Kg zr_60) (Nb rfl) (fun b3=>?_)))
  refine KI rfl (KP rfl rfl sz_60 (by exact Kp _ _ _) (by repeat (first|exact Sh _|apply St_)) (by exact KT _ _ _) ?_)
  refine KG ?_
  refine KE (KB ?_)
  refine LOps.det (KJ rfl (by repeat (first|exact Mh _|apply Mt)) (by exact KM Try.underlying60 rfl sz_60)) (Nb rfl) ?_
  refine LOps.det (KJ rfl (by repeat (first|exact Mh _|apply Mt)) (by exact KM Try.underlying60 rfl sz_60)) (Nb rfl) ?_
  refine KI rfl (KU (KR (first:=[]) rfl en_88 rfl (Nb rfl) (fun w hw=>c_affAdd 13 V V.G V.G (padd V.A V.G V.G) w h hok.on hok.on rfl) ?_))
  refine KA (KD rfl) (Nb rfl) ?_
  refine KA (Kb rfl rfl) (Nb rfl) ?_
  refine KA (Kb rfl rfl) (Nb rfl) ?_
  refine KI rfl (KU (KQ (Kg zr_60) (Nb rfl) (fun b4=>?_)))
  refine KI rfl (KP rfl rfl sz_60 (by exact Kp _ _ _) (by repeat (first|exact Sh _|apply St_)) (by exact KT _ _ _) ?_)
  refine KA (KF rfl) (Nb rfl) ?_
  refine KG ?_
  refine KE ?_
  refine Ka [7] (by kernel_rfl) ?_
  refine LAny.take 1 rfl (by kernel_rfl) (Nb rfl) (KJ rfl (by repeat (first|exact Mh _|apply Mt)) (by exact KM Try.underlying60 rfl sz_60)) ?_
  refine KAj ?_
  refine KAN 6 rfl (.inl zr_60) (Nb rfl) rfl rfl rfl ?_
  refine Kv 0 rfl rfl rfl (Nb rfl) (by kernel_rfl) rfl (KAD (first:=[]) rfl en_55 rfl (fun w hw=>c_One 2 w (by decide))) ?_
  rintro _ _ ⟨rfl,rfl⟩
  refine Kv 2 rfl rfl rfl (Nb rfl) (by kernel_rfl) rfl (KAD (first:=[]) rfl en_91 rfl (fun w hw=>c_affMul 13 V 2 V.G w h hok.on (u64_w9 (by decide)))) ?_
  rintro _ _ ⟨rfl,rfl⟩
  refine KAA 3 rfl (by kernel_rfl) (Nb rfl) rfl (KD rfl) ?_
  refine KAA 4 rfl (by kernel_rfl) (Nb rfl) rfl (Kb rfl rfl) ?_
  refine KAA 5 rfl (by kernel_rfl) (Nb rfl) rfl (Kb rfl rfl) ?_
  refine KAX (by kernel_rfl) (fun b6=>?_)
  refine KAW ?_
  refine Ko 7 rfl rfl (by kernel_rfl) (by kernel_rfl) (KP rfl rfl sz_60 (by exact Kp _ _ _) (by repeat (first|exact Sh _|apply St_)) (by exact KT _ _ _) ?_)
  refine KC 8 rfl (by kernel_rfl) (Nb rfl) (KF rfl) ?_
  refine Km (by kernel_rfl) ?_
  refine KE ?_
  refine Ka [9] (by kernel_rfl) ?_
  refine LAny.take 0 rfl (by kernel_rfl) (Nb rfl) (KJ rfl (by repeat (first|exact Mh _|apply Mt)) (by exact KM Try.underlying60 rfl sz_60)) ?_
  refine KAj ?_
  refine KAN 8 rfl (.inl zr_60) (Nb rfl) rfl rfl rfl ?_
  refine Kv 1 rfl rfl rfl (Nb rfl) (by kernel_rfl) rfl (KAD (first:=[]) rfl en_55 rfl (fun w hw=>c_One 1 w (by decide))) ?_
  rintro _ _ ⟨rfl,rfl⟩
  refine Kv 2 rfl rfl rfl (Nb rfl) (by kernel_rfl) rfl (KAD (first:=[]) rfl en_55 rfl (fun w hw=>c_One 1 w (by decide))) ?_
  rintro _ _ ⟨rfl,rfl⟩
  refine KAA 3 rfl (by kernel_rfl) (Nb rfl) rfl (KW (KAT pl_60 zr_60 rfl (fill_pt _ _)) rfl) ?_
  refine Kv 4 rfl rfl rfl (Nb rfl) (by kernel_rfl) rfl (KAD (first:=[]) rfl en_88 rfl (fun w hw=>c_affAdd_off2 13 V V.G 1 1 false w h hok.on (u64_w9 (by decide)) (u64_w9 (by decide)) ho)) ?_
  rintro _ _ ⟨rfl,rfl⟩
  refine KAA 5 rfl (by kernel_rfl) (Nb rfl) rfl (KD rfl) ?_
  refine KAA 6 rfl (by kernel_rfl) (Nb rfl) rfl (Kb rfl rfl) ?_
  refine KAA 7 rfl (by kernel_rfl) (Nb rfl) rfl (Kb rfl rfl) ?_
  refine KAX (by kernel_rfl) (fun b8=>?_)
  refine KAW ?_
  refine Ko 9 rfl rfl (by kernel_rfl) (by kernel_rfl) (KP rfl rfl sz_60 (by exact Kp _ _ _) (by repeat (first|exact Sh _|apply St_)) (by exact KT _ _ _) ?_)
  refine KC 10 rfl (by kernel_rfl) (Nb rfl) (KF rfl) ?_
  refine Km (by kernel_rfl) ?_
  refine KE ?_
  refine Ka [7] (by kernel_rfl) ?_
  refine LAny.take 1 rfl (by kernel_rfl) (Nb rfl) (KJ rfl (by repeat (first|exact Mh _|apply Mt)) (by exact KM Try.underlying60 rfl sz_60)) ?_
  refine KAj ?_
  refine KAN 6 rfl (.inl zr_60) (Nb rfl) rfl rfl rfl ?_
  refine Kv 0 rfl rfl rfl (Nb rfl) (by kernel_rfl) rfl (KAD (first:=[]) rfl en_55 rfl (fun w hw=>c_One 223 w (by decide))) ?_
  rintro _ _ ⟨rfl,rfl⟩
  refine Kv 2 rfl rfl rfl (Nb rfl) (by kernel_rfl) rfl (KAD (first:=[]) rfl en_91 rfl (fun w hw=>c_affMulR 13 V 223 V.G .inf w h hok.on (u64_w9 (by decide)) (by rw [← hn13]; exact hok.ord))) ?_
  rintro _ _ ⟨rfl,rfl⟩
  refine KAA 3 rfl (by kernel_rfl) (Nb rfl) rfl (KD rfl) ?_
  refine KAA 4 rfl (by kernel_rfl) (Nb rfl) rfl (Kb rfl rfl) ?_
  refine KAA 5 rfl (by kernel_rfl) (Nb rfl) rfl (Kb rfl rfl) ?_
  refine KAX (by kernel_rfl) (fun b10=>?_)
  refine KAW ?_
  refine Ko 7 rfl rfl (by kernel_rfl) (by kernel_rfl) (KP rfl rfl sz_60 (by exact Kp _ _ _) (by repeat (first|exact Sh _|apply St_)) (by exact KT _ _ _) ?_)
  refine KC 8 rfl (by kernel_rfl) (Nb rfl) (KF rfl) ?_
  refine Km (by kernel_rfl) ?_
  refine KE (KB ?_)
  refine LOps.det (KJ rfl (by repeat (first|exact Mh _|apply Mt)) (by exact KM Try.underlying60 rfl sz_60)) (Nb rfl) ?_
  refine KI rfl (KU (KR (first:=[]) rfl en_89 rfl (Nb rfl) (fun w hw=>c_affNeg_none 0 (xv V.G) (yv V.G) (iv V.G) w rfl) ?_))
  refine KA (KD rfl) (Nb rfl) ?_
  refine KA (Kb rfl rfl) (Nb rfl) ?_
  refine KA (Kb rfl rfl) (Nb rfl) ?_
  refine KI rfl (KU (KQ (Kg zr_60) (Nb rfl) (fun b12=>?_)))
  refine KI rfl (KP rfl rfl sz_60 (by exact Kp _ _ _) (by repeat (first|exact Sh _|apply St_)) (by exact KT _ _ _) ?_)
  refine KA (KF rfl) (Nb rfl) ?_
  refine KG ?_
  refine KE (KB ?_)
  refine KA (KD rfl) (Nb rfl) ?_
  refine KI rfl (KU (KR (first:=[]) rfl en_46 rfl (Nb rfl) (fun w hw=>c_Num _ w) ?_))
  refine KA (KO (v:=.bool true) rfl rfl (br_t (br_eql (b:=0)) (by first|rfl|assumption|omega|(simp; done)))) (Nb rfl) ?_
  refine KA (KD rfl) (Nb rfl) ?_
  refine KAU rfl rfl (KJ rfl (by repeat (first|exact Mh _|apply Mt)) (by exact KM Try.underlying60 rfl sz_60)) (Nb rfl) ?_
  refine KAU rfl rfl (KJ rfl (by repeat (first|exact Mh _|apply Mt)) (by exact KM Try.underlying60 rfl sz_60)) (Nb rfl) ?_
  refine Kf rfl rfl (KW (Det.eqa (by kernel_rfl) (fun w=>eq_ptP_t hok (P:=padd V.A V.G V.G) (Q:=pmul V.A V.G 2) (two_mul hok hok.on) 10000 (by decide) w) rfl rfl) (show _ = Value.bool true by rfl)) (Nb rfl) ?_
  refine KA (KAE rfl rfl) (Nb rfl) ?_
  refine KA (KD rfl) (Nb rfl) ?_
  refine Kf rfl rfl (KD rfl) (Nb rfl) ?_
  refine LOps.stepG rfl rfl rfl (KU (KR (first:=[]) rfl en_46 rfl (Nb rfl) (fun w hw=>c_Num _ w) ?_))
  refine Kf rfl rfl (KO (v:=.bool true) rfl rfl (br_t (br_eql (b:=0)) (by first|rfl|assumption|omega|(simp; done)))) (Nb rfl) ?_
  refine KA (KAE rfl rfl) (Nb rfl) ?_
  refine KA (KD rfl) (Nb rfl) ?_
  refine KAU rfl rfl (KJ rfl (by repeat (first|exact Mh _|apply Mt)) (by exact KM Try.underlying60 rfl sz_60)) (Nb rfl) ?_
  refine KAU rfl rfl (KJ rfl (by repeat (first|exact Mh _|apply Mt)) (by exact KM Try.underlying60 rfl sz_60)) (Nb rfl) ?_
  refine Kf rfl rfl (KW (Det.nea (by kernel_rfl) (fun w=>eq_ptP_f hok (gg_ne hok) 10000 (by decide) w) rfl rfl) (show _ = Value.bool true by rfl)) (Nb rfl) ?_
  refine KA (KAE rfl rfl) (Nb rfl) ?_
  refine KA (KD rfl) (Nb rfl) ?_
  refine Kf rfl rfl (KD rfl) (Nb rfl) ?_
  refine LOps.stepG rfl rfl rfl (KU (KR (first:=[]) rfl en_46 rfl (Nb rfl) (fun w hw=>c_Num _ w) ?_))
  refine Kf rfl rfl (KO (v:=.bool true) rfl rfl (br_t (br_eql (b:=1401)) (by first|rfl|assumption|omega|(simp; done)))) (Nb rfl) ?_
  refine KA (KAE rfl rfl) (Nb rfl) ?_
  refine KA (KD rfl) (Nb rfl) ?_
  refine Kf rfl rfl (KL (o':=18) Try.underlying60 rfl rfl rfl sz_4 (by decide)) (Nb rfl) ?_
  refine KAU rfl rfl (KJ rfl (by repeat (first|exact Mh _|apply Mt)) (KV Try.underlying4 rfl (by exact pt_gt _ _ _))) (Nb rfl) ?_
  refine KA (KAE rfl rfl) (Nb rfl) ?_
  refine KA (KD rfl) (Nb rfl) ?_
  refine Kf rfl rfl (KD rfl) (Nb rfl) ?_
  refine LOps.stepG rfl rfl rfl (KU (KR (first:=[]) rfl en_46 rfl (Nb rfl) (fun w hw=>c_Num _ w) ?_))
  refine Kf rfl rfl (KO (v:=.bool true) rfl rfl (br_t (br_eql (b:=0)) (by first|rfl|assumption|omega|(simp; done)))) (Nb rfl) ?_
  refine KA (KAE rfl rfl) (Nb rfl) ?_
  refine KA (KD rfl) (Nb rfl) ?_
  refine Kf rfl rfl (KD rfl) (Nb rfl) ?_
  refine LOps.stepG rfl rfl rfl (KU (KR (first:=[]) rfl en_46 rfl (Nb rfl) (fun w hw=>c_Num _ w) ?_))
  refine Kf rfl rfl (KO (v:=.bool true) rfl rfl (br_t (br_eql (b:=1400)) (by first|rfl|assumption|omega|(simp; done)))) (Nb rfl) ?_
  refine KA (KAE rfl rfl) (Nb rfl) ?_
  refine KA (KF rfl) (Nb rfl) ?_
  refine KG (KZ ?_)
  refine ⟨[_],.cons rfl .nil,fun a w' hr=>⟨?_,hr.fr.below⟩⟩
  rfl
theorem c_Some (Q:CQ) (V:Cv) (k:Nat) (P:Pt V.p) (w:World) (hc:(crvI Q V).holds w) (hok:V.Ok) (hk:k<18446744073709551616) (hP:pmul V.A V.G k = P):Calls Try.prog 92 ([.agg (crvL Q V).toArray,.int .u64 ((k:Nat):Int)]:List Value).toArray w (fun e w'=>e = .returned (ptP P)∧Below w.heap.size w w'):=by
  have hdk:=nw_w9_dig (u64_w9 hk)
  refine KAC (N:=13) (rs:=[.cell 4 60]) [crvI Q V] Try.func92 rfl Try.ntmps92 Try.results92 (Nb rfl) ⟨hc,trivial⟩ rfl ?_
  show LCode _ _ _ ⟨_,_⟩ _
  refine KE (KB ?_)
  refine KI rfl (KU (KQ (Ku rfl) (Nb rfl) (fun b2=>?_)))
  refine KI rfl (KU (KQ (Kg zr_60) (Nb rfl) (fun b4=>?_)))
  refine KG ?_
  refine KE ?_
  refine Ka [8] (by kernel_rfl) ?_
  refine LAny.take 0 rfl (by kernel_rfl) (Nb rfl) (KJ rfl (by repeat (first|exact Mh _|apply Mt)) (by exact KM Try.underlying31 rfl sz_31)) ?_
  refine KC 1 rfl (by kernel_rfl) (Nb rfl) (KD rfl) ?_
  refine LAny.take 4 rfl (by kernel_rfl) (Nb rfl) (KJ rfl (by repeat (first|exact Mh _|apply Mt)) (by exact KM Try.underlying31 rfl sz_31)) ?_
  refine Kt 2 rfl rfl (by kernel_rfl) (KR (first:=[]) rfl en_55 rfl (Nb rfl) (fun w hw=>c_One k w hk) ?_)
  refine Kt 3 rfl rfl (by kernel_rfl) (Kz (first:=[]) rfl en_52 rfl (Nb rfl) (fun w hw hs=>(c_n_From (k) (u64_w9 hk) w).mono fun e w' h=>KAm (Old.nil _) hs h) ?_)
  rintro _ _ ⟨qk,rfl,rfl,hnk⟩
  refine Kt 5 rfl rfl (by kernel_rfl) (Kz (first:=[]) rfl en_80 rfl (Nb rfl) (fun w hw hs=>(c_r_GP Q V w (hw _ (by repeat (first|exact Mh _|apply Mt))) hok).mono fun e w' h=>Num2R.q (Old.one (x:=crvI Q V) (by repeat (first|exact Mh _|apply Mt)) rfl) hs h) ?_)
  rintro _ _ ⟨qga,qgb,rfl,rfl,hnga,hngb⟩
  refine Kt 6 rfl rfl (by kernel_rfl) (Kz (first:=[]) rfl en_64 rfl (Nb rfl) (fun w hw hs=>(c_r_Times Q V qk (k) qga qgb (V.G) (P) w (hw _ (by repeat (first|exact Mh _|apply Mt))) hok (hw _ (by repeat (first|exact Mh _|apply Mt))) (by omega) (hw _ (by repeat (first|exact Mh _|apply Mt))) (hw _ (by repeat (first|exact Mh _|apply Mt))) (hok.on) (hP)).mono fun e w' h=>Num2R.q (Old.pt (by repeat (first|exact Mh _|apply Mt)) (by repeat (first|exact Mh _|apply Mt)) (Old.nil _)) hs h) ?_)
  rintro _ _ ⟨qpa,qpb,rfl,rfl,hnpa,hnpb⟩
  refine Kt 7 rfl rfl (by kernel_rfl) (KR (first:=[]) rfl en_66 rfl (Nb rfl) (fun w hw=>c_r_OutP V qpa qpb (P) w (hw _ (by repeat (first|exact Mh _|apply Mt))) (hw _ (by repeat (first|exact Mh _|apply Mt)))) ?_)
  refine Ko 8 rfl rfl (by kernel_rfl) (by kernel_rfl) (KP rfl rfl sz_60 (by exact Kp _ _ _) (by repeat (first|exact Sh _|apply St_)) (by exact KT _ _ _) ?_)
  refine Km (by kernel_rfl) ?_
  refine KZ ?_
  refine ⟨[_],.cons ⟨_,_,_,rfl,(by repeat (first|exact Mh _|apply Mt)),by exact KM Try.underlying60 rfl sz_60⟩ .nil,fun a w' hr=>⟨?_,hr.fr.below⟩⟩
  rfl
end Go.Proofs.Ytljblbgogjieaaa
set_option linter.unusedVariables false
set_option linter.unusedSimpArgs false
set_option maxRecDepth 20000
namespace Go.Proofs.Ytljblbgogjieaaa
open Go Go.RowKit
open Grp
theorem ordA {V:Cv} (hok:V.Ok) (j:Nat):pmul V.A (pmul V.A V.G j) V.n = .inf:=by
  rw [← pmul_mul hok.crv hok.on,Nat.mul_comm,pmul_mul hok.crv hok.on,hok.ord,pmul_inf (b:=V.B) hok.fld]
theorem c_curveOnPt (id:Int) (V:Cv) (P:Pt V.p) (w:World) (h:cvI id = some V) (hP:On V.A V.B P):Calls Try.prog 61 ([.int .i64 id,ptP P]:List Value).toArray w (fun e w'=>e = .returned (.bool true)∧Below w.heap.size w w') :=
  c_curveOnB id V (xv P) (yv P) (iv P) true w h (pt_w9 (cvI_ok h).1 P).1 (pt_w9 (cvI_ok h).1 P).2 (onB_on hP)
theorem n1_w9 {n:Nat} (h:n<P521):n+1<W9:=by
  by_cases e:n+1<P521
  · exact w9_521 e
  · have:n+1 = P521:=by omega
    rw [this]
    exact Nb (show Nat.ble (P521+1) W9 = true by kernel_rfl)
theorem cvI_tinyA (x:Int):∃ V,cvI ((13+uidx x%3:Nat):Int) = some V∧V.n≤255∧1≤V.n∧D.nw V.n = 1:=by
  have h:uidx x%3 = 0∨uidx x%3 = 1∨uidx x%3 = 2:=by omega
  rcases h with h|h|h <;> rw [h]
  · exact ⟨cv13,rfl,by decide,by decide,by decide⟩
  · exact ⟨cv14,rfl,by decide,by decide,by decide⟩
  · exact ⟨cv15,rfl,by decide,by decide,by decide⟩
theorem add_mod {V:Cv} (hok:V.Ok) (i j:Nat):padd V.A (pmul V.A V.G i) (pmul V.A V.G j) = pmul V.A V.G ((i+j)%V.n):=by
  rw [← pmul_mod hok.crv hok.on hok.ord,pmul_add hok.crv hok.on]
theorem c_AffineSplits (id:Int) (i j k:Nat) (w:World) (hi:i<18446744073709551616) (hj:j<18446744073709551616) (hk:k<18446744073709551616):Calls Try.prog 28 ([.int .i64 id,.int .u64 ((i:Nat):Int),.int .u64 ((j:Nat):Int),.int .u64 ((k:Nat):Int)]:List Value).toArray w (fun e w'=>e = .returned (.bool true)∧Below w.heap.size w w'):=by
  obtain ⟨V,h⟩:=cvI_idx id
  obtain ⟨hok,hid⟩:=cvI_ok h
  have h2:=cvI_id h
  obtain ⟨hb5,hb521,hba,hbb,hbx,hby,hbn,hbo,hbo2,hbb1,hbn1⟩:=hok.bounds
  have hsz:=hok.sz
  have hsp:=hsz.p
  have hsa:=hsz.a
  have hsb:=hsz.b
  have hp0:V.p≠0:=by omega
  have hpp:0<V.p:=by omega
  have hm17:∀ k,D.nw (k%V.p)≤17:=fun k=>Nat.le_trans (D.nw_mono (Nat.le_of_lt (Nat.mod_lt k hpp))) hsp
  have hpW:V.p<W9:=w9_521 hb521
  have hnW:V.n<W9:=w9_521 hbn
  have hxW:=Nat.lt_trans hbx hpW
  have hyW:=Nat.lt_trans hby hpW
  have hsn:=hsz.n
  have h17:∀ {A:Nat},A<V.p→D.nw A≤100000:=fun h=>Nat.le_trans (nw_521 (Nat.lt_trans h hb521)) (by decide)
  have hPq:=hok.mul hok.on (k)
  obtain ⟨P,hPe⟩:∃ P,pmul V.A V.G (k) = P:=⟨_,rfl⟩
  have hPo:On V.A V.B P:=hPe ▸ hPq
  refine KAC (N:=158) (rs:=[.tmp 8]) [] Try.func28 rfl Try.ntmps28 Try.results28 (Nb rfl) trivial rfl ?_
  show LCode _ _ _ ⟨_,_⟩ _
  refine KE (KB ?_)
  refine KA (KF rfl) (Nb rfl) ?_
  refine KG ?_
  refine KE ?_
  refine KE (KB ?_)
  refine KI rfl (KU (KR (first:=[]) rfl en_90 rfl (Nb rfl) (fun w hw=>c_awake14 w) ?_))
  refine KA (KW (Det.not rfl) (show _ = Value.bool false from rfl)) (Nb rfl) ?_
  refine KG ?_
  refine Kn rfl ?_
  refine Kh ?_
  refine KE (KB ?_)
  refine KA (KD rfl) (Nb rfl) ?_
  refine KA (KW (Det.conv Try.underlying3 Try.underlying46 rfl) (uidx_eq _)) (Nb rfl) ?_
  refine KA (KO rfl rfl (br_rem64 (b:=15) (by omega))) (Nb rfl) ?_
  refine KA (Det.convi Try.underlying46 Try.underlying3 rfl (by omega)) (Nb rfl) ?_
  refine KA (KO rfl rfl (KAR (a:=1) (by omega))) (Nb rfl) ?_
  refine KI rfl (KU (Kz (Post:=fun v its=>∃ Q,v = .tuple #[.agg (crvL Q V).toArray,.bool true]∧its = [crvI Q V]) (first:=[]) rfl en_43 rfl (Nb rfl) (fun w1 hw hs=>(c_r_Get _ V w1 h).mono fun e w' ⟨Q,h1,h2,h3,h4⟩=>⟨_,_,⟨Q,rfl,rfl⟩,h1,Brings.nums h4 (by intro x hx; simp at hx; subst hx; exact h2) (by intro x hx; simp at hx; subst hx; rfl) (by intro x hx k hk; simp at hx; subst hx; exact .inl (h3 k hk))⟩) ?_))
  rintro _ _ ⟨Q,rfl,rfl⟩
  refine KA (KD rfl) (Nb rfl) ?_
  refine KA (Kb rfl rfl) (Nb rfl) ?_
  refine KA (Kb rfl rfl) (Nb rfl) ?_
  refine KI rfl (KU (KQ (Kg zr_31) (Nb rfl) (fun b9=>?_)))
  refine KI rfl (KP rfl rfl sz_31 (by repeat (first|exact KY|refine KS rfl ?_)) (by repeat (first|exact Sh _|apply St_)) (by rfl) ?_)
  refine KA (KF rfl) (Nb rfl) ?_
  refine KG ?_
  refine KE ?_
  refine KE (KB ?_)
  refine KA (KD rfl) (Nb rfl) ?_
  refine KA (KW (Det.not rfl) (show _ = Value.bool false from rfl)) (Nb rfl) ?_
  refine KG ?_
  refine Kn rfl ?_
  refine Kh ?_
  refine KE (KB ?_)
  refine LOps.det (KJ rfl (by repeat (first|exact Mh _|apply Mt)) (by exact KM Try.underlying31 rfl sz_31)) (Nb rfl) ?_
  refine KA (KD rfl) (Nb rfl) ?_
  refine KI rfl (KU (KR (first:=[]) rfl en_92 rfl (Nb rfl) (fun w hw=>c_Some Q V (k) P w (hw _ (by repeat (first|exact Mh _|apply Mt))) hok hk hPe) ?_))
  refine KI rfl (KU (KQ (Kg zr_60) (Nb rfl) (fun b11=>?_)))
  refine KI rfl (KP rfl rfl sz_60 (by exact Kp _ _ _) (by repeat (first|exact Sh _|apply St_)) (by exact KT _ _ _) ?_)
  refine KG ?_
  refine KE ?_
  refine Ka [11] (by kernel_rfl) ?_
  refine KC 0 rfl (by kernel_rfl) (Nb rfl) (KL (o':=0) Try.underlying31 rfl rfl rfl sz_3 (by decide)) ?_
  refine LAny.take 1 rfl (by kernel_rfl) (Nb rfl) (KJ rfl (by repeat (first|exact Mh _|apply Mt)) (KV Try.underlying3 rfl (by first|rfl|exact Ks _ _ _ (by omega)|exact Kr _ (by omega)|exact Kq _ (by omega)|exact dv_m _ _ _ (by omega)))) ?_
  refine KC 2 rfl (by kernel_rfl) (Nb rfl) (KD rfl) ?_
  refine KC 3 rfl (by kernel_rfl) (Nb rfl) (KO rfl rfl (br_quo64 (b:=2) (by omega) (by omega))) ?_
  refine LAny.take 5 rfl (by kernel_rfl) (Nb rfl) (KJ rfl (by repeat (first|exact Mh _|apply Mt)) (by exact KM Try.underlying60 rfl sz_60)) ?_
  refine KAj ?_
  refine KAN 10 rfl (.inl zr_60) (Nb rfl) rfl rfl rfl ?_
  refine Kv 4 rfl rfl rfl (Nb rfl) (by kernel_rfl) rfl (KAD (first:=[]) rfl en_55 rfl (fun w hw=>c_One (i/2) w (by omega))) ?_
  rintro _ _ ⟨rfl,rfl⟩
  refine Kv 6 rfl rfl rfl (Nb rfl) (by kernel_rfl) rfl (KAD (first:=[]) rfl en_91 rfl (fun w hw=>c_affMul _ V (i/2) (P) w h2 hPo (u64_w9 (by omega)))) ?_
  rintro _ _ ⟨rfl,rfl⟩
  refine KAA 7 rfl (by kernel_rfl) (Nb rfl) rfl (KD rfl) ?_
  refine KAA 8 rfl (by kernel_rfl) (Nb rfl) rfl (Kb rfl rfl) ?_
  refine KAA 9 rfl (by kernel_rfl) (Nb rfl) rfl (Kb rfl rfl) ?_
  refine KAX (by kernel_rfl) (fun b12=>?_)
  refine KAW ?_
  refine Ko 11 rfl rfl (by kernel_rfl) (by kernel_rfl) (KP rfl rfl sz_60 (by exact Kp _ _ _) (by repeat (first|exact Sh _|apply St_)) (by exact KT _ _ _) ?_)
  refine KC 12 rfl (by kernel_rfl) (Nb rfl) (KF rfl) ?_
  refine Km (by kernel_rfl) ?_
  refine KE ?_
  refine Ka [11] (by kernel_rfl) ?_
  refine KC 0 rfl (by kernel_rfl) (Nb rfl) (KL (o':=0) Try.underlying31 rfl rfl rfl sz_3 (by decide)) ?_
  refine LAny.take 1 rfl (by kernel_rfl) (Nb rfl) (KJ rfl (by repeat (first|exact Mh _|apply Mt)) (KV Try.underlying3 rfl (by first|rfl|exact Ks _ _ _ (by omega)|exact Kr _ (by omega)|exact Kq _ (by omega)|exact dv_m _ _ _ (by omega)))) ?_
  refine KC 2 rfl (by kernel_rfl) (Nb rfl) (KD rfl) ?_
  refine KC 3 rfl (by kernel_rfl) (Nb rfl) (KO rfl rfl (br_quo64 (b:=2) (by omega) (by omega))) ?_
  refine LAny.take 5 rfl (by kernel_rfl) (Nb rfl) (KJ rfl (by repeat (first|exact Mh _|apply Mt)) (by exact KM Try.underlying60 rfl sz_60)) ?_
  refine KAj ?_
  refine KAN 10 rfl (.inl zr_60) (Nb rfl) rfl rfl rfl ?_
  refine Kv 4 rfl rfl rfl (Nb rfl) (by kernel_rfl) rfl (KAD (first:=[]) rfl en_55 rfl (fun w hw=>c_One (j/2) w (by omega))) ?_
  rintro _ _ ⟨rfl,rfl⟩
  refine Kv 6 rfl rfl rfl (Nb rfl) (by kernel_rfl) rfl (KAD (first:=[]) rfl en_91 rfl (fun w hw=>c_affMul _ V (j/2) (P) w h2 hPo (u64_w9 (by omega)))) ?_
  rintro _ _ ⟨rfl,rfl⟩
  refine KAA 7 rfl (by kernel_rfl) (Nb rfl) rfl (KD rfl) ?_
  refine KAA 8 rfl (by kernel_rfl) (Nb rfl) rfl (Kb rfl rfl) ?_
  refine KAA 9 rfl (by kernel_rfl) (Nb rfl) rfl (Kb rfl rfl) ?_
  refine KAX (by kernel_rfl) (fun b14=>?_)
  refine KAW ?_
  refine Ko 11 rfl rfl (by kernel_rfl) (by kernel_rfl) (KP rfl rfl sz_60 (by exact Kp _ _ _) (by repeat (first|exact Sh _|apply St_)) (by exact KT _ _ _) ?_)
  refine KC 12 rfl (by kernel_rfl) (Nb rfl) (KF rfl) ?_
  refine Km (by kernel_rfl) ?_
  refine KE ?_
  refine Ka [14] (by kernel_rfl) ?_
  refine KC 0 rfl (by kernel_rfl) (Nb rfl) (KL (o':=0) Try.underlying31 rfl rfl rfl sz_3 (by decide)) ?_
  refine LAny.take 1 rfl (by kernel_rfl) (Nb rfl) (KJ rfl (by repeat (first|exact Mh _|apply Mt)) (KV Try.underlying3 rfl (by first|rfl|exact Ks _ _ _ (by omega)|exact Kr _ (by omega)|exact Kq _ (by omega)|exact dv_m _ _ _ (by omega)))) ?_
  refine KC 2 rfl (by kernel_rfl) (Nb rfl) (KD rfl) ?_
  refine KC 3 rfl (by kernel_rfl) (Nb rfl) (KO rfl rfl (br_quo64 (b:=2) (by omega) (by omega))) ?_
  refine KC 4 rfl (by kernel_rfl) (Nb rfl) (KD rfl) ?_
  refine KC 5 rfl (by kernel_rfl) (Nb rfl) (KO rfl rfl (br_quo64 (b:=2) (by omega) (by omega))) ?_
  refine KC 6 rfl (by kernel_rfl) (Nb rfl) (KW (KO rfl rfl KAb) (vi (b:=i/2+j/2) (by omega))) ?_
  refine LAny.take 8 rfl (by kernel_rfl) (Nb rfl) (KJ rfl (by repeat (first|exact Mh _|apply Mt)) (by exact KM Try.underlying60 rfl sz_60)) ?_
  refine KAj ?_
  refine KAN 13 rfl (.inl zr_60) (Nb rfl) rfl rfl rfl ?_
  refine Kv 7 rfl rfl rfl (Nb rfl) (by kernel_rfl) rfl (KAD (first:=[]) rfl en_55 rfl (fun w hw=>c_One (i/2+j/2) w (by omega))) ?_
  rintro _ _ ⟨rfl,rfl⟩
  refine Kv 9 rfl rfl rfl (Nb rfl) (by kernel_rfl) rfl (KAD (first:=[]) rfl en_91 rfl (fun w hw=>c_affMul _ V (i/2+j/2) (P) w h2 hPo (u64_w9 (by omega)))) ?_
  rintro _ _ ⟨rfl,rfl⟩
  refine KAA 10 rfl (by kernel_rfl) (Nb rfl) rfl (KD rfl) ?_
  refine KAA 11 rfl (by kernel_rfl) (Nb rfl) rfl (Kb rfl rfl) ?_
  refine KAA 12 rfl (by kernel_rfl) (Nb rfl) rfl (Kb rfl rfl) ?_
  refine KAX (by kernel_rfl) (fun b16=>?_)
  refine KAW ?_
  refine Ko 14 rfl rfl (by kernel_rfl) (by kernel_rfl) (KP rfl rfl sz_60 (by exact Kp _ _ _) (by repeat (first|exact Sh _|apply St_)) (by exact KT _ _ _) ?_)
  refine KC 15 rfl (by kernel_rfl) (Nb rfl) (KF rfl) ?_
  refine Km (by kernel_rfl) ?_
  refine KE (KB ?_)
  refine KA (KL (o':=0) Try.underlying31 rfl rfl rfl sz_3 (by decide)) (Nb rfl) ?_
  refine LOps.det (KJ rfl (by repeat (first|exact Mh _|apply Mt)) (KV Try.underlying3 rfl (by first|rfl|exact Ks _ _ _ (by omega)|exact Kr _ (by omega)|exact Kq _ (by omega)|exact dv_m _ _ _ (by omega)))) (Nb rfl) ?_
  refine LOps.det (KJ rfl (by repeat (first|exact Mh _|apply Mt)) (by exact KM Try.underlying60 rfl sz_60)) (Nb rfl) ?_
  refine LOps.det (KJ rfl (by repeat (first|exact Mh _|apply Mt)) (by exact KM Try.underlying60 rfl sz_60)) (Nb rfl) ?_
  refine KI rfl (KU (KR (first:=[]) rfl en_88 rfl (Nb rfl) (fun w hw=>c_affAdd _ V (pmul V.A (P) (i/2)) (pmul V.A (P) (j/2)) (padd V.A (pmul V.A (P) (i/2)) (pmul V.A (P) (j/2))) w h2 (hok.mul hPo _) (hok.mul hPo _) (rfl)) ?_))
  refine KA (KD rfl) (Nb rfl) ?_
  refine KA (Kb rfl rfl) (Nb rfl) ?_
  refine KA (Kb rfl rfl) (Nb rfl) ?_
  refine KI rfl (KU (KQ (Kg zr_60) (Nb rfl) (fun b18=>?_)))
  refine KI rfl (KP rfl rfl sz_60 (by exact Kp _ _ _) (by repeat (first|exact Sh _|apply St_)) (by exact KT _ _ _) ?_)
  refine KA (KF rfl) (Nb rfl) ?_
  refine KG ?_
  refine KE ?_
  refine Ka [9] (by kernel_rfl) ?_
  refine KC 0 rfl (by kernel_rfl) (Nb rfl) (KL (o':=0) Try.underlying31 rfl rfl rfl sz_3 (by decide)) ?_
  refine LAny.take 1 rfl (by kernel_rfl) (Nb rfl) (KJ rfl (by repeat (first|exact Mh _|apply Mt)) (KV Try.underlying3 rfl (by first|rfl|exact Ks _ _ _ (by omega)|exact Kr _ (by omega)|exact Kq _ (by omega)|exact dv_m _ _ _ (by omega)))) ?_
  refine LAny.take 3 rfl (by kernel_rfl) (Nb rfl) (KJ rfl (by repeat (first|exact Mh _|apply Mt)) (by exact KM Try.underlying60 rfl sz_60)) ?_
  refine KAj ?_
  refine KAN 8 rfl (.inl zr_60) (Nb rfl) rfl rfl rfl ?_
  refine Kv 2 rfl rfl rfl (Nb rfl) (by kernel_rfl) rfl (KAD (first:=[]) rfl en_55 rfl (fun w hw=>c_One (3) w (by omega))) ?_
  rintro _ _ ⟨rfl,rfl⟩
  refine Kv 4 rfl rfl rfl (Nb rfl) (by kernel_rfl) rfl (KAD (first:=[]) rfl en_91 rfl (fun w hw=>c_affMul _ V (3) (pmul V.A (P) (i/2)) w h2 (hok.mul hPo _) (u64_w9 (by omega)))) ?_
  rintro _ _ ⟨rfl,rfl⟩
  refine KAA 5 rfl (by kernel_rfl) (Nb rfl) rfl (KD rfl) ?_
  refine KAA 6 rfl (by kernel_rfl) (Nb rfl) rfl (Kb rfl rfl) ?_
  refine KAA 7 rfl (by kernel_rfl) (Nb rfl) rfl (Kb rfl rfl) ?_
  refine KAX (by kernel_rfl) (fun b20=>?_)
  refine KAW ?_
  refine Ko 9 rfl rfl (by kernel_rfl) (by kernel_rfl) (KP rfl rfl sz_60 (by exact Kp _ _ _) (by repeat (first|exact Sh _|apply St_)) (by exact KT _ _ _) ?_)
  refine KC 10 rfl (by kernel_rfl) (Nb rfl) (KF rfl) ?_
  refine Km (by kernel_rfl) ?_
  refine KE ?_
  refine Ka [13] (by kernel_rfl) ?_
  refine KC 0 rfl (by kernel_rfl) (Nb rfl) (KL (o':=0) Try.underlying31 rfl rfl rfl sz_3 (by decide)) ?_
  refine LAny.take 1 rfl (by kernel_rfl) (Nb rfl) (KJ rfl (by repeat (first|exact Mh _|apply Mt)) (KV Try.underlying3 rfl (by first|rfl|exact Ks _ _ _ (by omega)|exact Kr _ (by omega)|exact Kq _ (by omega)|exact dv_m _ _ _ (by omega)))) ?_
  refine KC 2 rfl (by kernel_rfl) (Nb rfl) (KD rfl) ?_
  refine KC 3 rfl (by kernel_rfl) (Nb rfl) (KO rfl rfl (br_quo64 (b:=2) (by omega) (by omega))) ?_
  refine KC 4 rfl (by kernel_rfl) (Nb rfl) (KO rfl rfl (br_rem64 (b:=1000) (by omega))) ?_
  refine KC 5 rfl (by kernel_rfl) (Nb rfl) (KW (KO rfl rfl (br_mul64 (b:=3))) (vi (b:=i/2%1000*3) (by omega))) ?_
  refine LAny.take 7 rfl (by kernel_rfl) (Nb rfl) (KJ rfl (by repeat (first|exact Mh _|apply Mt)) (by exact KM Try.underlying60 rfl sz_60)) ?_
  refine KAj ?_
  refine KAN 12 rfl (.inl zr_60) (Nb rfl) rfl rfl rfl ?_
  refine Kv 6 rfl rfl rfl (Nb rfl) (by kernel_rfl) rfl (KAD (first:=[]) rfl en_55 rfl (fun w hw=>c_One (i/2%1000*3) w (by omega))) ?_
  rintro _ _ ⟨rfl,rfl⟩
  refine Kv 8 rfl rfl rfl (Nb rfl) (by kernel_rfl) rfl (KAD (first:=[]) rfl en_91 rfl (fun w hw=>c_affMul _ V (i/2%1000*3) (P) w h2 hPo (u64_w9 (by omega)))) ?_
  rintro _ _ ⟨rfl,rfl⟩
  refine KAA 9 rfl (by kernel_rfl) (Nb rfl) rfl (KD rfl) ?_
  refine KAA 10 rfl (by kernel_rfl) (Nb rfl) rfl (Kb rfl rfl) ?_
  refine KAA 11 rfl (by kernel_rfl) (Nb rfl) rfl (Kb rfl rfl) ?_
  refine KAX (by kernel_rfl) (fun b22=>?_)
  refine KAW ?_
  refine Ko 13 rfl rfl (by kernel_rfl) (by kernel_rfl) (KP rfl rfl sz_60 (by exact Kp _ _ _) (by repeat (first|exact Sh _|apply St_)) (by exact KT _ _ _) ?_)
  refine KC 14 rfl (by kernel_rfl) (Nb rfl) (KF rfl) ?_
  refine Km (by kernel_rfl) ?_
  refine KE ?_
  refine Ka [12] (by kernel_rfl) ?_
  refine KC 0 rfl (by kernel_rfl) (Nb rfl) (KL (o':=0) Try.underlying31 rfl rfl rfl sz_3 (by decide)) ?_
  refine LAny.take 1 rfl (by kernel_rfl) (Nb rfl) (KJ rfl (by repeat (first|exact Mh _|apply Mt)) (KV Try.underlying3 rfl (by first|rfl|exact Ks _ _ _ (by omega)|exact Kr _ (by omega)|exact Kq _ (by omega)|exact dv_m _ _ _ (by omega)))) ?_
  refine KC 2 rfl (by kernel_rfl) (Nb rfl) (KD rfl) ?_
  refine KC 3 rfl (by kernel_rfl) (Nb rfl) (KO rfl rfl (br_quo64 (b:=2) (by omega) (by omega))) ?_
  refine KC 4 rfl (by kernel_rfl) (Nb rfl) (KO rfl rfl (br_rem64 (b:=1000) (by omega))) ?_
  refine LAny.take 6 rfl (by kernel_rfl) (Nb rfl) (KJ rfl (by repeat (first|exact Mh _|apply Mt)) (by exact KM Try.underlying60 rfl sz_60)) ?_
  refine KAj ?_
  refine KAN 11 rfl (.inl zr_60) (Nb rfl) rfl rfl rfl ?_
  refine Kv 5 rfl rfl rfl (Nb rfl) (by kernel_rfl) rfl (KAD (first:=[]) rfl en_55 rfl (fun w hw=>c_One (i/2%1000) w (by omega))) ?_
  rintro _ _ ⟨rfl,rfl⟩
  refine Kv 7 rfl rfl rfl (Nb rfl) (by kernel_rfl) rfl (KAD (first:=[]) rfl en_91 rfl (fun w hw=>c_affMul _ V (i/2%1000) (P) w h2 hPo (u64_w9 (by omega)))) ?_
  rintro _ _ ⟨rfl,rfl⟩
  refine KAA 8 rfl (by kernel_rfl) (Nb rfl) rfl (KD rfl) ?_
  refine KAA 9 rfl (by kernel_rfl) (Nb rfl) rfl (Kb rfl rfl) ?_
  refine KAA 10 rfl (by kernel_rfl) (Nb rfl) rfl (Kb rfl rfl) ?_
  refine KAX (by kernel_rfl) (fun b24=>?_)
  refine KAW ?_
  refine Ko 12 rfl rfl (by kernel_rfl) (by kernel_rfl) (KP rfl rfl sz_60 (by exact Kp _ _ _) (by repeat (first|exact Sh _|apply St_)) (by exact KT _ _ _) ?_)
  refine KC 13 rfl (by kernel_rfl) (Nb rfl) (KF rfl) ?_
  refine Km (by kernel_rfl) ?_
  refine KE ?_
  refine Ka [9] (by kernel_rfl) ?_
  refine KC 0 rfl (by kernel_rfl) (Nb rfl) (KL (o':=0) Try.underlying31 rfl rfl rfl sz_3 (by decide)) ?_
  refine LAny.take 1 rfl (by kernel_rfl) (Nb rfl) (KJ rfl (by repeat (first|exact Mh _|apply Mt)) (KV Try.underlying3 rfl (by first|rfl|exact Ks _ _ _ (by omega)|exact Kr _ (by omega)|exact Kq _ (by omega)|exact dv_m _ _ _ (by omega)))) ?_
  refine LAny.take 3 rfl (by kernel_rfl) (Nb rfl) (KJ rfl (by repeat (first|exact Mh _|apply Mt)) (by exact KM Try.underlying60 rfl sz_60)) ?_
  refine KAj ?_
  refine KAN 8 rfl (.inl zr_60) (Nb rfl) rfl rfl rfl ?_
  refine Kv 2 rfl rfl rfl (Nb rfl) (by kernel_rfl) rfl (KAD (first:=[]) rfl en_55 rfl (fun w hw=>c_One (3) w (by omega))) ?_
  rintro _ _ ⟨rfl,rfl⟩
  refine Kv 4 rfl rfl rfl (Nb rfl) (by kernel_rfl) rfl (KAD (first:=[]) rfl en_91 rfl (fun w hw=>c_affMul _ V (3) (pmul V.A (P) (i/2%1000)) w h2 (hok.mul hPo _) (u64_w9 (by omega)))) ?_
  rintro _ _ ⟨rfl,rfl⟩
  refine KAA 5 rfl (by kernel_rfl) (Nb rfl) rfl (KD rfl) ?_
  refine KAA 6 rfl (by kernel_rfl) (Nb rfl) rfl (Kb rfl rfl) ?_
  refine KAA 7 rfl (by kernel_rfl) (Nb rfl) rfl (Kb rfl rfl) ?_
  refine KAX (by kernel_rfl) (fun b26=>?_)
  refine KAW ?_
  refine Ko 9 rfl rfl (by kernel_rfl) (by kernel_rfl) (KP rfl rfl sz_60 (by exact Kp _ _ _) (by repeat (first|exact Sh _|apply St_)) (by exact KT _ _ _) ?_)
  refine KC 10 rfl (by kernel_rfl) (Nb rfl) (KF rfl) ?_
  refine Km (by kernel_rfl) ?_
  refine KE (KB ?_)
  refine KA (KD rfl) (Nb rfl) ?_
  refine KI rfl (KU (KR (first:=[]) rfl en_46 rfl (Nb rfl) (fun w hw=>c_Num _ w) ?_))
  refine KA (KO (v:=.bool true) rfl rfl (br_t (br_eql (b:=0)) (by first|rfl|assumption|omega|(simp; done)))) (Nb rfl) ?_
  refine KA (KD rfl) (Nb rfl) ?_
  refine Kf rfl rfl (KD rfl) (Nb rfl) ?_
  refine LOps.stepG rfl rfl rfl (KU (KR (first:=[]) rfl en_46 rfl (Nb rfl) (fun w hw=>c_Num _ w) ?_))
  refine Kf rfl rfl (KO (v:=.bool true) rfl rfl (br_t (br_eql (b:=0)) (by first|rfl|assumption|omega|(simp; done)))) (Nb rfl) ?_
  refine KA (KAE rfl rfl) (Nb rfl) ?_
  refine KA (KD rfl) (Nb rfl) ?_
  refine Kf rfl rfl (KD rfl) (Nb rfl) ?_
  refine LOps.stepG rfl rfl rfl (KU (KR (first:=[]) rfl en_46 rfl (Nb rfl) (fun w hw=>c_Num _ w) ?_))
  refine Kf rfl rfl (KO (v:=.bool true) rfl rfl (br_t (br_eql (b:=0)) (by first|rfl|assumption|omega|(simp; done)))) (Nb rfl) ?_
  refine KA (KAE rfl rfl) (Nb rfl) ?_
  refine KA (KD rfl) (Nb rfl) ?_
  refine Kf rfl rfl (KD rfl) (Nb rfl) ?_
  refine LOps.stepG rfl rfl rfl (KU (KR (first:=[]) rfl en_46 rfl (Nb rfl) (fun w hw=>c_Num _ w) ?_))
  refine Kf rfl rfl (KO (v:=.bool true) rfl rfl (br_t (br_eql (b:=0)) (by first|rfl|assumption|omega|(simp; done)))) (Nb rfl) ?_
  refine KA (KAE rfl rfl) (Nb rfl) ?_
  refine KA (KD rfl) (Nb rfl) ?_
  refine KAU rfl rfl (KJ rfl (by repeat (first|exact Mh _|apply Mt)) (by exact KM Try.underlying60 rfl sz_60)) (Nb rfl) ?_
  refine KAU rfl rfl (KJ rfl (by repeat (first|exact Mh _|apply Mt)) (by exact KM Try.underlying60 rfl sz_60)) (Nb rfl) ?_
  refine Kf rfl rfl (KW (Det.eqa (by kernel_rfl) (fun w=>eq_ptP_t hok (P:=pmul V.A (P) (i/2+j/2)) (Q:=padd V.A (pmul V.A (P) (i/2)) (pmul V.A (P) (j/2))) (pmul_add hok.crv hPo _ _) 10000 (by decide) w) rfl rfl) (show _ = Value.bool true by rfl)) (Nb rfl) ?_
  refine KA (KAE rfl rfl) (Nb rfl) ?_
  refine KA (KD rfl) (Nb rfl) ?_
  refine KAU rfl rfl (KJ rfl (by repeat (first|exact Mh _|apply Mt)) (by exact KM Try.underlying60 rfl sz_60)) (Nb rfl) ?_
  refine KAU rfl rfl (KJ rfl (by repeat (first|exact Mh _|apply Mt)) (by exact KM Try.underlying60 rfl sz_60)) (Nb rfl) ?_
  refine Kf rfl rfl (KW (Det.eqa (by kernel_rfl) (fun w=>eq_ptP_t hok (P:=pmul V.A (P) (i/2%1000*3)) (Q:=pmul V.A (pmul V.A (P) (i/2%1000)) (3)) (pmul_mul hok.crv hPo _ _) 10000 (by decide) w) rfl rfl) (show _ = Value.bool true by rfl)) (Nb rfl) ?_
  refine KA (KAE rfl rfl) (Nb rfl) ?_
  refine KA (KD rfl) (Nb rfl) ?_
  refine Kf rfl rfl (KL (o':=0) Try.underlying31 rfl rfl rfl sz_3 (by decide)) (Nb rfl) ?_
  refine KAU rfl rfl (KJ rfl (by repeat (first|exact Mh _|apply Mt)) (KV Try.underlying3 rfl (by first|rfl|exact Ks _ _ _ (by omega)|exact Kr _ (by omega)|exact Kq _ (by omega)|exact dv_m _ _ _ (by omega)))) (Nb rfl) ?_
  refine KAU rfl rfl (KJ rfl (by repeat (first|exact Mh _|apply Mt)) (by exact KM Try.underlying60 rfl sz_60)) (Nb rfl) ?_
  refine LOps.stepG rfl rfl rfl (KU (KR (first:=[]) rfl en_61 rfl (Nb rfl) (fun w hw=>c_curveOnPt _ V (pmul V.A (pmul V.A (P) (i/2)) (3)) w h2 (hok.mul (hok.mul hPo _) _)) ?_))
  refine KA (KAE rfl rfl) (Nb rfl) ?_
  refine KA (KF rfl) (Nb rfl) ?_
  refine KG (KZ ?_)
  refine ⟨[_],.cons rfl .nil,fun a w' hr=>⟨?_,hr.fr.below⟩⟩
  rfl
theorem c_AffineOrder (id:Int) (k:Nat) (w:World) (hk:k<18446744073709551616):Calls Try.prog 24 ([.int .i64 id,.int .u64 ((k:Nat):Int)]:List Value).toArray w (fun e w'=>e = .returned (.bool true)∧Below w.heap.size w w'):=by
  obtain ⟨V,h⟩:=cvI_idx id
  obtain ⟨hok,hid⟩:=cvI_ok h
  have h2:=cvI_id h
  obtain ⟨hb5,hb521,hba,hbb,hbx,hby,hbn,hbo,hbo2,hbb1,hbn1⟩:=hok.bounds
  have hsz:=hok.sz
  have hsp:=hsz.p
  have hsa:=hsz.a
  have hsb:=hsz.b
  have hp0:V.p≠0:=by omega
  have hpp:0<V.p:=by omega
  have hm17:∀ k,D.nw (k%V.p)≤17:=fun k=>Nat.le_trans (D.nw_mono (Nat.le_of_lt (Nat.mod_lt k hpp))) hsp
  have hpW:V.p<W9:=w9_521 hb521
  have hnW:V.n<W9:=w9_521 hbn
  have hxW:=Nat.lt_trans hbx hpW
  have hyW:=Nat.lt_trans hby hpW
  have hsn:=hsz.n
  have h17:∀ {A:Nat},A<V.p→D.nw A≤100000:=fun h=>Nat.le_trans (nw_521 (Nat.lt_trans h hb521)) (by decide)
  have hPq:=hok.mul hok.on (k)
  obtain ⟨P,hPe⟩:∃ P,pmul V.A V.G (k) = P:=⟨_,rfl⟩
  have hPo:On V.A V.B P:=hPe ▸ hPq
  refine KAC (N:=68) (rs:=[.tmp 4]) [] Try.func24 rfl Try.ntmps24 Try.results24 (Nb rfl) trivial rfl ?_
  show LCode _ _ _ ⟨_,_⟩ _
  refine KE (KB ?_)
  refine KA (KF rfl) (Nb rfl) ?_
  refine KG ?_
  refine KE ?_
  refine KE (KB ?_)
  refine KI rfl (KU (KR (first:=[]) rfl en_90 rfl (Nb rfl) (fun w hw=>c_awake14 w) ?_))
  refine KA (KW (Det.not rfl) (show _ = Value.bool false from rfl)) (Nb rfl) ?_
  refine KG ?_
  refine Kn rfl ?_
  refine Kh ?_
  refine KE (KB ?_)
  refine KA (KD rfl) (Nb rfl) ?_
  refine KA (KW (Det.conv Try.underlying3 Try.underlying46 rfl) (uidx_eq _)) (Nb rfl) ?_
  refine KA (KO rfl rfl (br_rem64 (b:=15) (by omega))) (Nb rfl) ?_
  refine KA (Det.convi Try.underlying46 Try.underlying3 rfl (by omega)) (Nb rfl) ?_
  refine KA (KO rfl rfl (KAR (a:=1) (by omega))) (Nb rfl) ?_
  refine KI rfl (KU (Kz (Post:=fun v its=>∃ Q,v = .tuple #[.agg (crvL Q V).toArray,.bool true]∧its = [crvI Q V]) (first:=[]) rfl en_43 rfl (Nb rfl) (fun w1 hw hs=>(c_r_Get _ V w1 h).mono fun e w' ⟨Q,h1,h2,h3,h4⟩=>⟨_,_,⟨Q,rfl,rfl⟩,h1,Brings.nums h4 (by intro x hx; simp at hx; subst hx; exact h2) (by intro x hx; simp at hx; subst hx; rfl) (by intro x hx k hk; simp at hx; subst hx; exact .inl (h3 k hk))⟩) ?_))
  rintro _ _ ⟨Q,rfl,rfl⟩
  refine KA (KD rfl) (Nb rfl) ?_
  refine KA (Kb rfl rfl) (Nb rfl) ?_
  refine KA (Kb rfl rfl) (Nb rfl) ?_
  refine KI rfl (KU (KQ (Kg zr_31) (Nb rfl) (fun b5=>?_)))
  refine KI rfl (KP rfl rfl sz_31 (by repeat (first|exact KY|refine KS rfl ?_)) (by repeat (first|exact Sh _|apply St_)) (by rfl) ?_)
  refine KA (KF rfl) (Nb rfl) ?_
  refine KG ?_
  refine KE ?_
  refine KE (KB ?_)
  refine KA (KD rfl) (Nb rfl) ?_
  refine KA (KW (Det.not rfl) (show _ = Value.bool false from rfl)) (Nb rfl) ?_
  refine KG ?_
  refine Kn rfl ?_
  refine Kh ?_
  refine KE (KB ?_)
  refine LOps.det (KJ rfl (by repeat (first|exact Mh _|apply Mt)) (by exact KM Try.underlying31 rfl sz_31)) (Nb rfl) ?_
  refine KA (KD rfl) (Nb rfl) ?_
  refine KI rfl (KU (KR (first:=[]) rfl en_92 rfl (Nb rfl) (fun w hw=>c_Some Q V (k) P w (hw _ (by repeat (first|exact Mh _|apply Mt))) hok hk hPe) ?_))
  refine KI rfl (KU (KQ (Kg zr_60) (Nb rfl) (fun b7=>?_)))
  refine KI rfl (KP rfl rfl sz_60 (by exact Kp _ _ _) (by repeat (first|exact Sh _|apply St_)) (by exact KT _ _ _) ?_)
  refine KG ?_
  refine KE ?_
  refine Ka [11] (by kernel_rfl) ?_
  refine KC 0 rfl (by kernel_rfl) (Nb rfl) (KL (o':=0) Try.underlying31 rfl rfl rfl sz_3 (by decide)) ?_
  refine LAny.take 1 rfl (by kernel_rfl) (Nb rfl) (KJ rfl (by repeat (first|exact Mh _|apply Mt)) (KV Try.underlying3 rfl (by first|rfl|exact Ks _ _ _ (by omega)|exact Kr _ (by omega)|exact Kq _ (by omega)|exact dv_m _ _ _ (by omega)))) ?_
  refine KC 2 rfl (by kernel_rfl) (Nb rfl) (KL (o':=4) Try.underlying31 rfl rfl rfl sz_29 (by decide)) ?_
  refine LAny.take 3 rfl (by kernel_rfl) (Nb rfl) (KJ rfl (by repeat (first|exact Mh _|apply Mt)) (KV Try.underlying29 rfl (by first|rfl|exact Ks _ _ _ (by omega)|exact Kr _ (by omega)|exact Kq _ (by omega)|exact dv_m _ _ _ (by omega)))) ?_
  refine LAny.take 5 rfl (by kernel_rfl) (Nb rfl) (KJ rfl (by repeat (first|exact Mh _|apply Mt)) (by exact KM Try.underlying60 rfl sz_60)) ?_
  refine KAj ?_
  refine KAN 10 rfl (.inl zr_60) (Nb rfl) rfl rfl rfl ?_
  refine Kv 4 rfl rfl rfl (Nb rfl) (by kernel_rfl) rfl (KAD (first:=[]) rfl en_50 rfl (fun w hw=>c_n_Nat Q.n V.n (D.nw V.n) w (crvI_n (hw _ (by repeat (first|exact Mh _|apply Mt)))))) ?_
  rintro _ _ ⟨rfl,rfl⟩
  refine Kv 6 rfl rfl rfl (Nb rfl) (by kernel_rfl) rfl (KAD (first:=[]) rfl en_91 rfl (fun w hw=>c_affMulR _ V V.n P .inf w h2 hPo hnW (hPe ▸ ordA hok _))) ?_
  rintro _ _ ⟨rfl,rfl⟩
  refine KAA 7 rfl (by kernel_rfl) (Nb rfl) rfl (KD rfl) ?_
  refine KAA 8 rfl (by kernel_rfl) (Nb rfl) rfl (Kb rfl rfl) ?_
  refine KAA 9 rfl (by kernel_rfl) (Nb rfl) rfl (Kb rfl rfl) ?_
  refine KAX (by kernel_rfl) (fun b8=>?_)
  refine KAW ?_
  refine Ko 11 rfl rfl (by kernel_rfl) (by kernel_rfl) (KP rfl rfl sz_60 (by exact Kp _ _ _) (by repeat (first|exact Sh _|apply St_)) (by exact KT _ _ _) ?_)
  refine KC 12 rfl (by kernel_rfl) (Nb rfl) (KF rfl) ?_
  refine Km (by kernel_rfl) ?_
  refine KE ?_
  refine Ka [13] (by kernel_rfl) ?_
  refine KC 0 rfl (by kernel_rfl) (Nb rfl) (KL (o':=0) Try.underlying31 rfl rfl rfl sz_3 (by decide)) ?_
  refine LAny.take 1 rfl (by kernel_rfl) (Nb rfl) (KJ rfl (by repeat (first|exact Mh _|apply Mt)) (KV Try.underlying3 rfl (by first|rfl|exact Ks _ _ _ (by omega)|exact Kr _ (by omega)|exact Kq _ (by omega)|exact dv_m _ _ _ (by omega)))) ?_
  refine KC 2 rfl (by kernel_rfl) (Nb rfl) (KL (o':=4) Try.underlying31 rfl rfl rfl sz_29 (by decide)) ?_
  refine LAny.take 3 rfl (by kernel_rfl) (Nb rfl) (KJ rfl (by repeat (first|exact Mh _|apply Mt)) (KV Try.underlying29 rfl (by first|rfl|exact Ks _ _ _ (by omega)|exact Kr _ (by omega)|exact Kq _ (by omega)|exact dv_m _ _ _ (by omega)))) ?_
  refine LAny.take 7 rfl (by kernel_rfl) (Nb rfl) (KJ rfl (by repeat (first|exact Mh _|apply Mt)) (by exact KM Try.underlying60 rfl sz_60)) ?_
  refine KAj ?_
  refine KAN 12 rfl (.inl zr_60) (Nb rfl) rfl rfl rfl ?_
  refine Kv 4 rfl rfl rfl (Nb rfl) (by kernel_rfl) rfl (LExt.makes (KAc Try.underlying29 inf_56 rfl rfl rfl rfl (by decide) rfl)) ?_
  rintro _ _ ⟨b43,rfl,rfl⟩
  refine Kv 5 rfl rfl rfl (Nb rfl) (by kernel_rfl) rfl (LExt.callZ (first:=[]) rfl en_73 rfl (fun w hw hs=>(c_n_Add Q.n ⟨false,b43,1⟩ V.n 1 w (crvI_n (hw _ (by repeat (first|exact Mh _|apply Mt)))) (n1_blk (hw _ (by repeat (first|exact Mh _|apply Mt))) (by decide)) (by omega) (by decide)).mono fun e w' h=>KAm (Old.nil _) hs h)) ?_
  rintro _ _ ⟨qo,rfl,rfl,hno⟩
  refine Kv 6 rfl rfl rfl (Nb rfl) (by kernel_rfl) rfl (KAD (first:=[]) rfl en_50 rfl (fun w hw=>c_n_Nat qo (V.n+1) (D.nw (V.n+1)) w (hw _ (by repeat (first|exact Mh _|apply Mt))))) ?_
  rintro _ _ ⟨rfl,rfl⟩
  refine Kv 8 rfl rfl rfl (Nb rfl) (by kernel_rfl) rfl (KAD (first:=[]) rfl en_91 rfl (fun w hw=>c_affMulR _ V (V.n+1) P P w h2 hPo (n1_w9 hbn) (by rw [pmul_succ,show pmul V.A P V.n = .inf from hPe ▸ ordA hok _,hok.inf_add hPo]))) ?_
  rintro _ _ ⟨rfl,rfl⟩
  refine KAA 9 rfl (by kernel_rfl) (Nb rfl) rfl (KD rfl) ?_
  refine KAA 10 rfl (by kernel_rfl) (Nb rfl) rfl (Kb rfl rfl) ?_
  refine KAA 11 rfl (by kernel_rfl) (Nb rfl) rfl (Kb rfl rfl) ?_
  refine KAX (by kernel_rfl) (fun b10=>?_)
  refine KAW ?_
  refine Ko 13 rfl rfl (by kernel_rfl) (by kernel_rfl) (KP rfl rfl sz_60 (by exact Kp _ _ _) (by repeat (first|exact Sh _|apply St_)) (by exact KT _ _ _) ?_)
  refine KC 14 rfl (by kernel_rfl) (Nb rfl) (KF rfl) ?_
  refine Km (by kernel_rfl) ?_
  refine KE (KB ?_)
  refine KA (KD rfl) (Nb rfl) ?_
  refine KI rfl (KU (KR (first:=[]) rfl en_46 rfl (Nb rfl) (fun w hw=>c_Num _ w) ?_))
  refine KA (KO (v:=.bool true) rfl rfl (br_t (br_eql (b:=0)) (by first|rfl|assumption|omega|(simp; done)))) (Nb rfl) ?_
  refine KA (KD rfl) (Nb rfl) ?_
  refine Kf rfl rfl (KD rfl) (Nb rfl) ?_
  refine LOps.stepG rfl rfl rfl (KU (KR (first:=[]) rfl en_46 rfl (Nb rfl) (fun w hw=>c_Num _ w) ?_))
  refine Kf rfl rfl (KO (v:=.bool true) rfl rfl (br_t (br_eql (b:=0)) (by first|rfl|assumption|omega|(simp; done)))) (Nb rfl) ?_
  refine KA (KAE rfl rfl) (Nb rfl) ?_
  refine KA (KD rfl) (Nb rfl) ?_
  refine KAU rfl rfl (KJ rfl (by repeat (first|exact Mh _|apply Mt)) (by exact KM Try.underlying60 rfl sz_60)) (Nb rfl) ?_
  refine Kf rfl rfl (KW (KAT pl_60 zr_60 rfl fill_ptInf) rfl) (Nb rfl) ?_
  refine Kf rfl rfl (KW (Det.eqa (by kernel_rfl) (fun w=>eq_ptP_t hok (P:=(.inf:Pt V.p)) (Q:=(.inf:Pt V.p)) (rfl) 10000 (by decide) w) rfl rfl) (show _ = Value.bool true by rfl)) (Nb rfl) ?_
  refine KA (KAE rfl rfl) (Nb rfl) ?_
  refine KA (KD rfl) (Nb rfl) ?_
  refine KAU rfl rfl (KJ rfl (by repeat (first|exact Mh _|apply Mt)) (by exact KM Try.underlying60 rfl sz_60)) (Nb rfl) ?_
  refine KAU rfl rfl (KJ rfl (by repeat (first|exact Mh _|apply Mt)) (by exact KM Try.underlying60 rfl sz_60)) (Nb rfl) ?_
  refine Kf rfl rfl (KW (Det.eqa (by kernel_rfl) (fun w=>eq_ptP_t hok (P:=P) (Q:=P) (rfl) 10000 (by decide) w) rfl rfl) (show _ = Value.bool true by rfl)) (Nb rfl) ?_
  refine KA (KAE rfl rfl) (Nb rfl) ?_
  refine KA (KF rfl) (Nb rfl) ?_
  refine KG (KZ ?_)
  refine ⟨[_],.cons rfl .nil,fun a w' hr=>⟨?_,hr.fr.below⟩⟩
  rfl
theorem c_AffineTiny (which:Int) (i:Nat) (w:World) (hi:i<18446744073709551616):Calls Try.prog 27 ([.int .i64 which,.int .u64 ((i:Nat):Int)]:List Value).toArray w (fun e w'=>e = .returned (.bool true)∧Below w.heap.size w w'):=by
  obtain ⟨V,h,hn255,hn1,hnw1⟩:=cvI_tinyA which
  obtain ⟨hok,hid⟩:=cvI_ok h
  have h2:=cvI_id h
  obtain ⟨hb5,hb521,hba,hbb,hbx,hby,hbn,hbo,hbo2,hbb1,hbn1⟩:=hok.bounds
  have hsz:=hok.sz
  have hsp:=hsz.p
  have hsa:=hsz.a
  have hsb:=hsz.b
  have hp0:V.p≠0:=by omega
  have hpp:0<V.p:=by omega
  have hm17:∀ k,D.nw (k%V.p)≤17:=fun k=>Nat.le_trans (D.nw_mono (Nat.le_of_lt (Nat.mod_lt k hpp))) hsp
  have him:=Nat.mod_lt i (show 0<V.n by omega)
  have hPq:=hok.mul hok.on (i%V.n)
  obtain ⟨P,hPe⟩:∃ P,pmul V.A V.G (i%V.n) = P:=⟨_,rfl⟩
  have hPo:On V.A V.B P:=hPe ▸ hPq
  refine KAC (N:=85) (rs:=[.tmp 4]) [] Try.func27 rfl Try.ntmps27 Try.results27 (Nb rfl) trivial rfl ?_
  show LCode _ _ _ ⟨_,_⟩ _
  refine KE (KB ?_)
  refine KA (KF rfl) (Nb rfl) ?_
  refine KG ?_
  refine KE ?_
  refine KE (KB ?_)
  refine KI rfl (KU (KR (first:=[]) rfl en_90 rfl (Nb rfl) (fun w hw=>c_awake14 w) ?_))
  refine KA (KW (Det.not rfl) (show _ = Value.bool false from rfl)) (Nb rfl) ?_
  refine KG ?_
  refine Kn rfl ?_
  refine Kh ?_
  refine KE (KB ?_)
  refine KA (KD rfl) (Nb rfl) ?_
  refine KA (KW (Det.conv Try.underlying3 Try.underlying46 rfl) (uidx_eq _)) (Nb rfl) ?_
  refine KA (KO rfl rfl (br_rem64 (b:=3) (by omega))) (Nb rfl) ?_
  refine KA (Det.convi Try.underlying46 Try.underlying3 rfl (by omega)) (Nb rfl) ?_
  refine KA (KO rfl rfl (KAR (a:=13) (by omega))) (Nb rfl) ?_
  refine KI rfl (KU (Kz (Post:=fun v its=>∃ Q,v = .tuple #[.agg (crvL Q V).toArray,.bool true]∧its = [crvI Q V]) (first:=[]) rfl en_43 rfl (Nb rfl) (fun w1 hw hs=>(c_r_Get _ V w1 h).mono fun e w' ⟨Q,h1,h2,h3,h4⟩=>⟨_,_,⟨Q,rfl,rfl⟩,h1,Brings.nums h4 (by intro x hx; simp at hx; subst hx; exact h2) (by intro x hx; simp at hx; subst hx; rfl) (by intro x hx k hk; simp at hx; subst hx; exact .inl (h3 k hk))⟩) ?_))
  rintro _ _ ⟨Q,rfl,rfl⟩
  refine KA (KD rfl) (Nb rfl) ?_
  refine KA (Kb rfl rfl) (Nb rfl) ?_
  refine KA (Kb rfl rfl) (Nb rfl) ?_
  refine KI rfl (KU (KQ (Kg zr_31) (Nb rfl) (fun b5=>?_)))
  refine KI rfl (KP rfl rfl sz_31 (by repeat (first|exact KY|refine KS rfl ?_)) (by repeat (first|exact Sh _|apply St_)) (by rfl) ?_)
  refine KA (KF rfl) (Nb rfl) ?_
  refine KG ?_
  refine KE ?_
  refine KE (KB ?_)
  refine KA (KD rfl) (Nb rfl) ?_
  refine KA (KW (Det.not rfl) (show _ = Value.bool false from rfl)) (Nb rfl) ?_
  refine KG ?_
  refine Kn rfl ?_
  refine Kh ?_
  refine KE (KB ?_)
  refine KA (KL (o':=4) Try.underlying31 rfl rfl rfl sz_29 (by decide)) (Nb rfl) ?_
  refine LOps.det (KJ rfl (by repeat (first|exact Mh _|apply Mt)) (KV Try.underlying29 rfl (by first|rfl|exact Ks _ _ _ (by omega)|exact Kr _ (by omega)|exact Kq _ (by omega)|exact dv_m _ _ _ (by omega)))) (Nb rfl) ?_
  refine KA (KAo (i:=0) Try.underlying29 sz_56 rfl rfl (by omega)) (Nb rfl) ?_
  refine LOps.det (Det.loadF (n:=D.nw V.n) Try.underlying56 rfl rfl (fun w hw=>crvI_n (hw _ (by repeat (first|exact Mh _|apply Mt)))) (by omega)) (Nb rfl) ?_
  refine KA (KW (KAa Try.underlying56 Try.underlying22 rfl (Nat.lt_trans (D.limb_lt _ _) (by decide))) (vi (b:=V.n) (one_digit hnw1))) (Nb rfl) ?_
  refine KA (KF rfl) (Nb rfl) ?_
  refine KG ?_
  refine KE ?_
  refine Ka [6] (by kernel_rfl) ?_
  refine LAny.take 0 rfl (by kernel_rfl) (Nb rfl) (KJ rfl (by repeat (first|exact Mh _|apply Mt)) (by exact KM Try.underlying31 rfl sz_31)) ?_
  refine KC 1 rfl (by kernel_rfl) (Nb rfl) (KD rfl) ?_
  refine KC 2 rfl (by kernel_rfl) (Nb rfl) (KD rfl) ?_
  refine KC 3 rfl (by kernel_rfl) (Nb rfl) (KO rfl rfl (br_rem64 (by omega))) ?_
  refine KAj ?_
  refine KAN 5 rfl (.inl zr_60) (Nb rfl) rfl rfl rfl ?_
  refine Kv 4 rfl rfl rfl (Nb rfl) (by kernel_rfl) rfl (KAD (first:=[]) rfl en_92 rfl (fun w hw=>c_Some Q V (i%V.n) P w (hw _ (by repeat (first|exact Mh _|apply Mt))) hok (by omega) hPe)) ?_
  rintro _ _ ⟨rfl,rfl⟩
  refine KAX (by kernel_rfl) (fun b8=>?_)
  refine KAW ?_
  refine Ko 6 rfl rfl (by kernel_rfl) (by kernel_rfl) (KP rfl rfl sz_60 (by exact Kp _ _ _) (by repeat (first|exact Sh _|apply St_)) (by exact KT _ _ _) ?_)
  refine Km (by kernel_rfl) ?_
  refine KE ?_
  refine KE (KB ?_)
  refine KA (KF (v:=.int .u64 ((0:Nat):Int)) rfl) (Nb rfl) ?_
  refine KG ?_
  refine LCode.block ?_
  refine KAP (α:=Nat) (fun x=>x≤V.n+5) (fun x=>⟨[(1,.int .u64 ((i:Nat):Int)),(5,.pointer (some ⟨b5,0,none⟩)),(7,.int .u64 ((V.n:Nat):Int)),(8,.pointer (some ⟨b8,0,none⟩)),(9,.int .u64 ((x:Nat):Int))],[.blk b8 ⟨true,ptL (xv P) (yv P) (iv P),60,(0,0)⟩,.blk b5 ⟨true,crvL Q V,31,(0,0)⟩,crvI Q V]⟩) (fun x=>V.n-x) (0) (Nat.zero_le _) (KAL ⟨rfl,rfl,rfl,rfl,rfl,trivial⟩ (by repeat (first|exact Sel.nil _|refine Sel.cons (by repeat (first|exact Ph _|apply Pt_)) ?_))) ?_
  intro x hx
  refine KE ?_
  refine KE (KB ?_)
  refine KA (KD rfl) (Nb rfl) ?_
  refine KA (KD rfl) (Nb rfl) ?_
  refine KA (KO rfl rfl (br_lss)) (Nb rfl) ?_
  refine KG ?_
  first|refine Ke rfl (fun h39=>?_) (fun h39=>?_)|refine Ki rfl (fun h39=>?_) (fun h39=>?_)
  ·
    have h39:x<V.n:=h39
    have hm2:=Nat.mod_lt (i%V.n+x) (show 0<V.n by omega)
    refine Kh ?_
    refine KE ?_
    refine LCode.block ?_
    refine KE ?_
    refine Ka [11] (by kernel_rfl) ?_
    refine KC 0 rfl (by kernel_rfl) (Nb rfl) (KL (o':=0) Try.underlying31 rfl rfl rfl sz_3 (by decide)) ?_
    refine LAny.take 1 rfl (by kernel_rfl) (Nb rfl) (KJ rfl (by repeat (first|exact Mh _|apply Mt)) (KV Try.underlying3 rfl (by first|rfl|exact Ks _ _ _ (by omega)|exact Kr _ (by omega)|exact Kq _ (by omega)|exact dv_m _ _ _ (by omega)))) ?_
    refine LAny.take 2 rfl (by kernel_rfl) (Nb rfl) (KJ rfl (by repeat (first|exact Mh _|apply Mt)) (by exact KM Try.underlying60 rfl sz_60)) ?_
    refine LAny.take 3 rfl (by kernel_rfl) (Nb rfl) (KJ rfl (by repeat (first|exact Mh _|apply Mt)) (by exact KM Try.underlying31 rfl sz_31)) ?_
    refine KC 4 rfl (by kernel_rfl) (Nb rfl) (KD rfl) ?_
    refine KAj ?_
    refine KAN 10 rfl (.inl zr_60) (Nb rfl) rfl rfl rfl ?_
    refine Kv 5 rfl rfl rfl (Nb rfl) (by kernel_rfl) rfl (KAD (first:=[]) rfl en_92 rfl (fun w hw=>c_Some Q V x (pmul V.A V.G (x)) w (hw _ (by repeat (first|exact Mh _|apply Mt))) hok (by omega) rfl)) ?_
    rintro _ _ ⟨rfl,rfl⟩
    refine Kv 6 rfl rfl rfl (Nb rfl) (by kernel_rfl) rfl (KAD (first:=[]) rfl en_88 rfl (fun w hw=>c_affAdd _ V P (pmul V.A V.G (x)) (pmul V.A V.G ((i%V.n+x)%V.n)) w h2 hPo (hok.mul hok.on _) (hPe ▸ add_mod hok _ _))) ?_
    rintro _ _ ⟨rfl,rfl⟩
    refine KAA 7 rfl (by kernel_rfl) (Nb rfl) rfl (KD rfl) ?_
    refine KAA 8 rfl (by kernel_rfl) (Nb rfl) rfl (Kb rfl rfl) ?_
    refine KAA 9 rfl (by kernel_rfl) (Nb rfl) rfl (Kb rfl rfl) ?_
    refine KAX (by kernel_rfl) (fun b10=>?_)
    refine KAW ?_
    refine Ko 11 rfl rfl (by kernel_rfl) (by kernel_rfl) (KP rfl rfl sz_60 (by exact Kp _ _ _) (by repeat (first|exact Sh _|apply St_)) (by exact KT _ _ _) ?_)
    refine KC 12 rfl (by kernel_rfl) (Nb rfl) (KF rfl) ?_
    refine Km (by kernel_rfl) ?_
    refine KE ?_
    refine Ka [] (by kernel_rfl) ?_
    refine KC 0 rfl (by kernel_rfl) (Nb rfl) (KD rfl) ?_
    refine Kt 1 rfl rfl (by kernel_rfl) (KR (first:=[]) rfl en_46 rfl (Nb rfl) (fun w hw=>c_Num _ w) ?_)
    refine KC 2 rfl (by kernel_rfl) (Nb rfl) (KO (v:=.bool false) rfl rfl (br_f (br_neq (b:=0)) (by first|exact (fun e=>e rfl)|(simp; done)|omega))) ?_
    refine KC 3 rfl (by kernel_rfl) (Nb rfl) (KD rfl) ?_
    refine LAny.takeG 4 rfl rfl rfl (by kernel_rfl) (Nb rfl) (KJ rfl (by repeat (first|exact Mh _|apply Mt)) (by exact KM Try.underlying60 rfl sz_60)) ?_
    refine LAny.takeG 5 rfl rfl rfl (by kernel_rfl) (Nb rfl) (KJ rfl (by repeat (first|exact Mh _|apply Mt)) (by exact KM Try.underlying31 rfl sz_31)) ?_
    refine KAJ 6 rfl rfl rfl (by kernel_rfl) (Nb rfl) (KD rfl) ?_
    refine KAJ 7 rfl rfl rfl (by kernel_rfl) (Nb rfl) (KD rfl) ?_
    refine KAJ 8 rfl rfl rfl (by kernel_rfl) (Nb rfl) (KO rfl rfl (br_rem64 (by omega))) ?_
    refine KAJ 9 rfl rfl rfl (by kernel_rfl) (Nb rfl) (KD rfl) ?_
    refine KAJ 10 rfl rfl rfl (by kernel_rfl) (Nb rfl) (KW (KO rfl rfl KAb) (vi (b:=i%V.n+x) (by omega))) ?_
    refine KAJ 11 rfl rfl rfl (by kernel_rfl) (Nb rfl) (KD rfl) ?_
    refine KAJ 12 rfl rfl rfl (by kernel_rfl) (Nb rfl) (KO rfl rfl (br_rem64 (by omega))) ?_
    refine LAny.oneG 13 rfl rfl rfl rfl (by kernel_rfl) (KR (first:=[]) rfl en_92 rfl (Nb rfl) (fun w hw=>c_Some Q V ((i%V.n+x)%V.n) (pmul V.A V.G ((i%V.n+x)%V.n)) w (hw _ (by repeat (first|exact Mh _|apply Mt))) hok (by omega) rfl) ?_)
    refine KAJ 14 rfl rfl rfl (by kernel_rfl) (Nb rfl) (KW (Det.nea (by kernel_rfl) (fun w=>eq_ptP_t hok (P:=pmul V.A V.G ((i%V.n+x)%V.n)) (Q:=pmul V.A V.G ((i%V.n+x)%V.n)) rfl 10000 (by decide) w) rfl rfl) (show _ = Value.bool false by rfl)) ?_
    refine KC 15 rfl (by kernel_rfl) (Nb rfl) (KAF rfl rfl) ?_
    refine Km (by kernel_rfl) ?_
    refine Kn rfl ?_
    refine Kh ?_
    refine KB ?_
    refine KA (KD rfl) (Nb rfl) ?_
    refine KA (KW (KO rfl rfl (KAb (b:=5))) (vi (b:=x+5) (by omega))) (Nb rfl) ?_
    refine KA (KF rfl) (Nb rfl) ?_
    refine KG ?_
    exact ⟨x+5,by omega,by omega,KAL ⟨rfl,rfl,rfl,rfl,rfl,trivial⟩ (by repeat (first|exact Sel.nil _|refine Sel.cons (by repeat (first|exact Ph _|apply Pt_)) ?_))⟩
  ·
    have h39:¬ x<V.n:=h39
    refine KAM ?_
    refine KE ?_
    refine Ka [10] (by kernel_rfl) ?_
    refine KC 0 rfl (by kernel_rfl) (Nb rfl) (KL (o':=0) Try.underlying31 rfl rfl rfl sz_3 (by decide)) ?_
    refine LAny.take 1 rfl (by kernel_rfl) (Nb rfl) (KJ rfl (by repeat (first|exact Mh _|apply Mt)) (KV Try.underlying3 rfl (by first|rfl|exact Ks _ _ _ (by omega)|exact Kr _ (by omega)|exact Kq _ (by omega)|exact dv_m _ _ _ (by omega)))) ?_
    refine KC 2 rfl (by kernel_rfl) (Nb rfl) (KD rfl) ?_
    refine LAny.take 4 rfl (by kernel_rfl) (Nb rfl) (KJ rfl (by repeat (first|exact Mh _|apply Mt)) (by exact KM Try.underlying60 rfl sz_60)) ?_
    refine KAj ?_
    refine KAN 9 rfl (.inl zr_60) (Nb rfl) rfl rfl rfl ?_
    refine Kv 3 rfl rfl rfl (Nb rfl) (by kernel_rfl) rfl (KAD (first:=[]) rfl en_55 rfl (fun w hw=>c_One (V.n) w (by omega))) ?_
    rintro _ _ ⟨rfl,rfl⟩
    refine Kv 5 rfl rfl rfl (Nb rfl) (by kernel_rfl) rfl (KAD (first:=[]) rfl en_91 rfl (fun w hw=>c_affMulR _ V V.n P .inf w h2 hPo (u64_w9 (by omega)) (hPe ▸ ordA hok _))) ?_
    rintro _ _ ⟨rfl,rfl⟩
    refine KAA 6 rfl (by kernel_rfl) (Nb rfl) rfl (KD rfl) ?_
    refine KAA 7 rfl (by kernel_rfl) (Nb rfl) rfl (Kb rfl rfl) ?_
    refine KAA 8 rfl (by kernel_rfl) (Nb rfl) rfl (Kb rfl rfl) ?_
    refine KAX (by kernel_rfl) (fun b12=>?_)
    refine KAW ?_
    refine Ko 10 rfl rfl (by kernel_rfl) (by kernel_rfl) (KP rfl rfl sz_60 (by exact Kp _ _ _) (by repeat (first|exact Sh _|apply St_)) (by exact KT _ _ _) ?_)
    refine KC 11 rfl (by kernel_rfl) (Nb rfl) (KF rfl) ?_
    refine Km (by kernel_rfl) ?_
    refine KE (KB ?_)
    refine KA (KD rfl) (Nb rfl) ?_
    refine KI rfl (KU (KR (first:=[]) rfl en_46 rfl (Nb rfl) (fun w hw=>c_Num _ w) ?_))
    refine KA (KO (v:=.bool true) rfl rfl (br_t (br_eql (b:=0)) (by first|rfl|assumption|omega|(simp; done)))) (Nb rfl) ?_
    refine KA (KD rfl) (Nb rfl) ?_
    refine KAU rfl rfl (KJ rfl (by repeat (first|exact Mh _|apply Mt)) (by exact KM Try.underlying60 rfl sz_60)) (Nb rfl) ?_
    refine Kf rfl rfl (KW (KAT pl_60 zr_60 rfl fill_ptInf) rfl) (Nb rfl) ?_
    refine Kf rfl rfl (KW (Det.eqa (by kernel_rfl) (fun w=>eq_ptP_t hok (P:=(.inf:Pt V.p)) (Q:=(.inf:Pt V.p)) (rfl) 10000 (by decide) w) rfl rfl) (show _ = Value.bool true by rfl)) (Nb rfl) ?_
    refine KA (KAE rfl rfl) (Nb rfl) ?_
    refine KA (KF rfl) (Nb rfl) ?_
    refine KG (KZ ?_)
    refine ⟨[_],.cons rfl .nil,fun a w' hr=>⟨?_,hr.fr.below⟩⟩
    rfl
end Go.Proofs.Ytljblbgogjieaaa
set_option maxRecDepth 100000
namespace Go.Proofs.Ytljblbgogjieaaa
open Go
def ioChars:List Char:=([104,97,114,110,101,115,115,32,102,51,57,52,54,98,99,101,49,54,101,56,99,51,102,52,49,56,48,97,55,101,53,50,100,97,98,100,56,55,98,56,54,57,51,56,100,57,50,50,100,99,56,97,98,97,101,55,102,48,56,57,55,57,99,51,48,57,101,52,56,98,54,48,32,99,117,116,32,97,116,32,99,117,114,118,101,116,47,99,117,114,118,101,116,108,97,119,50,51,46,82,97,119,115,32,99,117,114,118,101,116,47,99,117,114,118,101,116,108,97,119,50,51,46,82,97,119,66,97,99,107,32,99,117,114,118,101,116,47,99,117,114,118,101,116,108,97,119,50,51,46,82,97,119,76,101,110,103,116,104,115,32,99,117,114,118,101,116,47,99,117,114,118,101,116,108,97,119,50,51,46,82,97,119,84,105,110,121,32,99,117,114,118,101,116,47,99,117,114,118,101,116,108,97,119,49,51,46,67,117,114,118,101,115,32,99,117,114,118,101,116,47,99,117,114,118,101,116,108,97,119,49,51,46,67,117,114,118,101,79,110,115,32,99,117,114,118,101,116,47,99,117,114,118,101,116,108,97,119,49,51,46,67,117,114,118,101,83,111,117,110,100,32,99,117,114,118,101,116,47,99,117,114,118,101,116,108,97,119,49,51,46,67,117,114,118,101,78,117,109,98,101,114,115,32,99,117,114,118,101,116,47,99,117,114,118,101,116,108,97,119,49,51,46,67,117,114,118,101,79,102,102,32,99,117,114,118,101,116,47,99,117,114,118,101,116,108,97,119,49,51,46,67,117,114,118,101,84,105,110,121,32,99,117,114,118,101,116,47,99,117,114,118,101,116,108,97,119,50,48,46,68,117,97,108,115,32,99,117,114,118,101,116,47,99,117,114,118,101,116,108,97,119,50,48,46,68,117,97,108,84,105,110,121,32,99,117,114,118,101,116,47,99,117,114,118,101,116,108,97,119,49,53,46,80,114,111,106,115,32,99,117,114,118,101,116,47,99,117,114,118,101,116,108,97,119,49,53,46,80,114,111,106,70,114,111,109,32,99,117,114,118,101,116,47,99,117,114,118,101,116,108,97,119,49,53,46,80,114,111,106,83,99,97,108,101,100,32,99,117,114,118,101,116,47,99,117,114,118,101,116,108,97,119,49,53,46,80,114,111,106,68,111,117,98,108,101,115,32,99,117,114,118,101,116,47,99,117,114,118,101,116,108,97,119,49,53,46,80,114,111,106,78,111,110,101,32,99,117,114,118,101,116,47,99,117,114,118,101,116,108,97,119,49,53,46,80,114,111,106,84,105,110,121,32,99,117,114,118,101,116,47,99,117,114,118,101,116,108,97,119,49,52,46,65,102,102,105,110,101,115,32,99,117,114,118,101,116,47,99,117,114,118,101,116,108,97,119,49,52,46,65,102,102,105,110,101,84,105,109,101,115,32,99,117,114,118,101,116,47,99,117,114,118,101,116,108,97,119,49,52,46,65,102,102,105,110,101,71,114,111,117,112,32,99,117,114,118,101,116,47,99,117,114,118,101,116,108,97,119,49,52,46,65,102,102,105,110,101,79,114,100,101,114,32,99,117,114,118,101,116,47,99,117,114,118,101,116,108,97,119,49,52,46,65,102,102,105,110,101,76,105,110,101,32,99,117,114,118,101,116,47,99,117,114,118,101,116,108,97,119,49,52,46,65,102,102,105,110,101,79,112,112,111,115,105,116,101,32,99,117,114,118,101,116,47,99,117,114,118,101,116,108,97,119,49,52,46,65,102,102,105,110,101,84,105,110,121,32,99,117,114,118,101,116,47,99,117,114,118,101,116,108,97,119,49,52,46,65,102,102,105,110,101,83,112,108,105,116,115,32,99,117,114,118,101,116,47,99,117,114,118,101,116,108,97,119,49,52,46,65,102,102,105,110,101,87,97,108,107,32,99,117,114,118,101,116,47,99,117,114,118,101,116,108,97,119,50,48,46,68,117,97,108,80,97,114,116,115,32,99,117,114,118,101,116,47,99,117,114,118,101,116,108,97,119,49,54,46,84,97,98,108,101,83,105,122,101,115,32,99,117,114,118,101,116,47,99,117,114,118,101,116,108,97,119,49,54,46,84,97,98,108,101,78,105,108,32,99,117,114,118,101,116,47,99,117,114,118,101,116,108,97,119,49,53,46,80,114,111,106,83,117,109,115,32,99,117,114,118,101,116,47,99,117,114,118,101,116,108,97,119,50,49,46,83,101,99,49,115,32,99,117,114,118,101,116,47,99,117,114,118,101,116,108,97,119,50,49,46,83,101,99,49,66,97,99,107,32,99,117,114,118,101,116,47,99,117,114,118,101,116,108,97,119,50,49,46,83,101,99,49,84,105,110,121,32,99,117,114,118,101,116,47,99,117,114,118,101,116,108,97,119,50,49,46,83,101,99,49,66,111,116,104,32,99,117,114,118,101,116,47,99,117,114,118,101,116,108,97,119,50,49,46,83,101,99,49,76,101,110,103,116,104,115,32,99,117,114,118,101,116,47,99,117,114,118,101,116,108,97,119,50,49,46,83,101,99,49,87,104,111,108,101,32,99,117,114,118,101,116,47,99,117,114,118,101,116,108,97,119,50,49,46,83,101,99,49,71,114,101,97,116,32,99,117,114,118,101,116,47,99,117,114,118,101,116,108,97,119,49,54,46,84,97,98,108,101,115,32,99,117,114,118,101,116,47,99,117,114,118,101,116,108,97,119,49,57,46,66,97,115,101,115]:List Nat).map Char.ofNat
theorem io_lit:Try.prog.initOrder = String.ofList ioChars:=by kernel_rfl
theorem io_list:Try.prog.initOrder.toList = ioChars:=by rw [io_lit,String.toList_ofList]
def cutW:List Char:=([99,117,116]:List Nat).map Char.ofNat
def ioRest:List (List Char):=(wordsSigns ioChars).drop 3
theorem io_words:behindMainWord (wordsSigns ioChars) = cutW :: ioRest:=by kernel_rfl
theorem io_strip (r:List (List Char)):stripLifts liftWords (cutW :: r) = ([],cutW :: r):=by kernel_rfl
theorem no_later:Try.prog.laysLater = false:=by kernel_rfl
theorem no_reflect:Try.prog.bearsReflect = false:=by kernel_rfl
theorem door_fits:Try.prog.doorFits [] = true:=by kernel_rfl
theorem and2 {a b:Bool} (h:a = true) (k:b = true):(a && b) = true:=by rw [h,k]; rfl
theorem or_right {a b:Bool} (h:b = true):(a || b) = true:=by rw [h]; cases a <;> rfl
theorem cut_is : (cutW == "cut".toList) = true := by kernel_rfl
theorem cut_gc : (cutW == "gc".toList) = false := by kernel_rfl
theorem cut_spec : (cutW == "spec".toList) = false := by kernel_rfl
theorem cut_carried : (cutW == "carried".toList) = false := by kernel_rfl
theorem head_carried (r : List (List Char)) : ((cutW :: r).head? == some "carried".toList) = false := cut_carried
theorem enter_of (P:Program) {r:List (List Char)} (h:behindMainWord (wordsSigns P.initOrder.toList) = cutW :: r) (h1:P.laysLater = false) (h2:P.bearsReflect = false) (h3:P.doorFits [] = true):P.mayEnter = true:=by
  unfold Program.mayEnter
  rw [h]
  dsimp only
  refine or_right (and2 (and2 (and2 (and2 ?_ ?_) ?_) ?_) ?_)
  · rw [io_strip]; exact cut_is
  · rw [io_strip,h1]; rfl
  · rw [io_strip,h2]; rfl
  · rw [io_strip]; rfl
  · rw [io_strip]; exact h3
theorem lifts_of (P:Program) {r:List (List Char)} (h:behindMainWord (wordsSigns P.initOrder.toList) = cutW :: r):(false == P.liftsFinal) = true:=by
  have hl:P.headLifts = []:=by
    unfold Program.headLifts
    rw [h,io_strip]
    simp only [ite_self]
  unfold Program.liftsFinal
  rw [h,hl]
  dsimp only
  rw [head_carried,Bool.false_and]
  rfl
theorem make_of (P:Program) {r:List (List Char)} (h:behindMainWord (wordsSigns P.initOrder.toList) = cutW :: r):(P.make == some .cut) = true:=by
  have:P.make = some .cut:=by
    unfold Program.make
    rw [h]
    dsimp only
    rw [if_neg (by rw [cut_gc,cut_spec]; exact fun h=>by cases h),if_pos (by rw [cut_is]; rfl)]
  rw [this]; rfl
theorem io_all:behindMainWord (wordsSigns Try.prog.initOrder.toList) = cutW :: ioRest:=by rw [io_list,io_words]
theorem fact_enter:Try.prog.mayEnter = true:=enter_of _ io_all no_later no_reflect door_fits
theorem fact_lifts:(false == Try.prog.liftsFinal) = true:=lifts_of _ io_all
theorem fact_make:(Try.prog.make == some .cut) = true:=make_of _ io_all
theorem fact_laid:laidOutB Try.prog = true:=by kernel_rfl
theorem fact_maps:mapsRowed Try.prog = true:=by kernel_rfl
theorem fact_heard:Try.prog.stopsHeard = true:=by kernel_rfl
end Go.Proofs.Ytljblbgogjieaaa
set_option linter.unusedVariables false
set_option linter.unusedSimpArgs false
set_option maxRecDepth 20000
namespace Go.Proofs.Ytljblbgogjieaaa
open Go Go.RowKit
open Grp
def TrHas (V:Cv) (X Y Z:Nat):Prop:=∃ T:Fin V.p×Fin V.p×Fin V.p,T.1.val = X∧T.2.1.val = Y∧T.2.2.val = Z∧HasF V.A V.B T.1 T.2.1 T.2.2
theorem RepT.has {V:Cv} {T:Fin V.p×Fin V.p×Fin V.p} {P:Pt V.p} (h:RepT V T P):TrHas V T.1.val T.2.1.val T.2.2.val:=⟨T,rfl,rfl,rfl,Rep.has h.rep h.on⟩
theorem TrHas.rep {V:Cv} (hok:V.Ok) {X Y Z:Nat} (h:TrHas V X Y Z):∃ (T:Fin V.p×Fin V.p×Fin V.p) (P:Pt V.p),T.1.val = X∧T.2.1.val = Y∧T.2.2.val = Z∧RepT V T P:=by
  obtain ⟨T,h1,h2,h3,h4⟩:=h
  obtain ⟨h5,h6⟩:=h4.rep hok.prime hok.fld
  exact ⟨T,_,h1,h2,h3,h5,h6⟩
end Go.Proofs.Ytljblbgogjieaaa
set_option linter.unusedVariables false
set_option linter.unusedSimpArgs false
set_option maxRecDepth 20000
namespace Go.Proofs.Ytljblbgogjieaaa
open Go Go.RowKit
open Grp
open Grp
theorem lessM_fin {p:Nat} [NeZero p] (x y:Fin p):lessM x.val y.val p = (x-y).val:=by
  rw [fin_subv]; unfold lessM
  have hx:=x.isLt
  have hy:=y.isLt
  split
  · rw [Nat.mod_eq_of_lt (by omega)]
  · rw [show x.val+p-y.val = x.val-y.val+p by omega,Nat.add_mod_right,Nat.mod_eq_of_lt (by omega)]
theorem line_cases {p:Nat} (P R M:Pt p):P = .inf∨(∃ x y,P = .aff x y∧R = .inf)∨(∃ x y z u,P = .aff x y∧R = .aff z u∧M = .inf)∨(∃ x y z u a b,P = .aff x y∧R = .aff z u∧M = .aff a b∧P = R)∨(∃ x y z u a b,P = .aff x y∧R = .aff z u∧M = .aff a b∧P≠R):=by
  rcases P with _|⟨x,y⟩
  · exact .inl rfl
  rcases R with _|⟨z,u⟩
  · exact .inr (.inl ⟨x,y,rfl,rfl⟩)
  rcases M with _|⟨a,b⟩
  · exact .inr (.inr (.inl ⟨x,y,z,u,rfl,rfl,rfl⟩))
  by_cases h:Pt.aff x y = Pt.aff z u
  · exact .inr (.inr (.inr (.inl ⟨x,y,z,u,a,b,rfl,rfl,rfl,h⟩)))
  · exact .inr (.inr (.inr (.inr ⟨x,y,z,u,a,b,rfl,rfl,rfl,h⟩)))
theorem line_eq {V : Cv} (hok : V.Ok) {x1 y1 x2 y2 x3 y3 : Fin V.p} (h1 : On V.A V.B (.aff x1 y1)) (h2 : On V.A V.B (.aff x2 y2)) (hne : Pt.aff x1 y1 ≠ Pt.aff x2 y2) (hM : (padd V.A (.aff x1 y1) (.aff x2 y2)).neg = .aff x3 y3) :
    lessM y2.val y1.val V.p*lessM x3.val x1.val V.p%V.p = lessM y3.val y1.val V.p*lessM x2.val x1.val V.p%V.p:=by
  rw [lessM_fin,lessM_fin,lessM_fin,lessM_fin,← Fin.val_mul,← Fin.val_mul]
  congr 1
  by_cases hx:x1 = x2
  · rw [add_opp hok.fld h1 h2 hx (fun e=>hne (by rw [hx,e]))] at hM
    cases hM
  · rw [add_chordF hok.prime hok.fld h1 h2 hx] at hM
    injection hM with e1 e2
    have hi:=finv_mul hok.prime (x:=x2-x1) (fun e=>hx (eq_of_sub e).symm)
    generalize finv (x2-x1) = i at *
    rw [← e1,← e2]
    clear e1 e2 h1 h2 hne
    refine eq_of_sub (lin1 (c1:=-((y2-y1)*((y2-y1)*i*((y2-y1)*i)-x1-x2-x1))) (by clear hi hx; grind -lia) (sub_of_eq hi))
theorem c_affNegR (id:Int) (V:Cv) (P R:Pt V.p) (w:World) (h:cvI id = some V) (hP:On V.A V.B P) (hR:P.neg = R):Calls Try.prog 89 ([.int .i64 id,ptP P]:List Value).toArray w (fun e w'=>e = .returned (.tuple #[ptP R,.int .i64 ((0:Nat):Int)])∧Below w.heap.size w w'):=hR ▸ c_affNeg id V P w h hP
theorem c_AffineLine (id:Int) (i j:Nat) (w:World) (hi:i<18446744073709551616) (hj:j<18446744073709551616):Calls Try.prog 25 ([.int .i64 id,.int .u64 ((i:Nat):Int),.int .u64 ((j:Nat):Int)]:List Value).toArray w (fun e w'=>e = .returned (.bool true)∧Below w.heap.size w w'):=by
  obtain ⟨V,h⟩:=cvI_idx id
  obtain ⟨hok,hid⟩:=cvI_ok h
  have h2:=cvI_id h
  obtain ⟨hb5,hb521,hba,hbb,hbx,hby,hbn,hbo,hbo2,hbb1,hbn1⟩:=hok.bounds
  have hsz:=hok.sz
  have hsp:=hsz.p
  have hsa:=hsz.a
  have hsb:=hsz.b
  have hp0:V.p≠0:=by omega
  have hpp:0<V.p:=by omega
  have hm17:∀ k,D.nw (k%V.p)≤17:=fun k=>Nat.le_trans (D.nw_mono (Nat.le_of_lt (Nat.mod_lt k hpp))) hsp
  have hpW:V.p<W9:=w9_521 hb521
  have hnW:V.n<W9:=w9_521 hbn
  have hxW:=Nat.lt_trans hbx hpW
  have hyW:=Nat.lt_trans hby hpW
  have hsn:=hsz.n
  have h17:∀ {A:Nat},A<V.p→D.nw A≤100000:=fun h=>Nat.le_trans (nw_521 (Nat.lt_trans h hb521)) (by decide)
  have hPq:=hok.mul hok.on (i)
  obtain ⟨P,hPe⟩:∃ P,pmul V.A V.G (i) = P:=⟨_,rfl⟩
  have hPo:On V.A V.B P:=hPe ▸ hPq
  have hRq:=hok.mul hok.on (j)
  obtain ⟨R,hRe⟩:∃ P,pmul V.A V.G (j) = P:=⟨_,rfl⟩
  have hRo:On V.A V.B R:=hRe ▸ hRq
  obtain ⟨D,hDe⟩:∃ D,padd V.A (P) (R) = D:=⟨_,rfl⟩
  have hDo:On V.A V.B D:=hDe ▸ hok.sum hPo hRo
  obtain ⟨M,hMe⟩:∃ M,D.neg = M:=⟨_,rfl⟩
  have hMo:On V.A V.B M:=hMe ▸ neg_on hDo
  have hDM:padd V.A D M = .inf:=hMe ▸ padd_neg hok.fld hDo
  refine KAC (N:=151) (rs:=[.tmp 6]) [] Try.func25 rfl Try.ntmps25 Try.results25 (Nb rfl) trivial rfl ?_
  show LCode _ _ _ ⟨_,_⟩ _
  refine KE (KB ?_)
  refine KA (KF rfl) (Nb rfl) ?_
  refine KG ?_
  refine KE ?_
  refine KE (KB ?_)
  refine KI rfl (KU (KR (first:=[]) rfl en_90 rfl (Nb rfl) (fun w hw=>c_awake14 w) ?_))
  refine KA (KW (Det.not rfl) (show _ = Value.bool false from rfl)) (Nb rfl) ?_
  refine KG ?_
  refine Kn rfl ?_
  refine Kh ?_
  refine KE (KB ?_)
  refine KA (KD rfl) (Nb rfl) ?_
  refine KA (KW (Det.conv Try.underlying3 Try.underlying46 rfl) (uidx_eq _)) (Nb rfl) ?_
  refine KA (KO rfl rfl (br_rem64 (b:=15) (by omega))) (Nb rfl) ?_
  refine KA (Det.convi Try.underlying46 Try.underlying3 rfl (by omega)) (Nb rfl) ?_
  refine KA (KO rfl rfl (KAR (a:=1) (by omega))) (Nb rfl) ?_
  refine KI rfl (KU (Kz (Post:=fun v its=>∃ Q,v = .tuple #[.agg (crvL Q V).toArray,.bool true]∧its = [crvI Q V]) (first:=[]) rfl en_43 rfl (Nb rfl) (fun w1 hw hs=>(c_r_Get _ V w1 h).mono fun e w' ⟨Q,h1,h2,h3,h4⟩=>⟨_,_,⟨Q,rfl,rfl⟩,h1,Brings.nums h4 (by intro x hx; simp at hx; subst hx; exact h2) (by intro x hx; simp at hx; subst hx; rfl) (by intro x hx k hk; simp at hx; subst hx; exact .inl (h3 k hk))⟩) ?_))
  rintro _ _ ⟨Q,rfl,rfl⟩
  refine KA (KD rfl) (Nb rfl) ?_
  refine KA (Kb rfl rfl) (Nb rfl) ?_
  refine KA (Kb rfl rfl) (Nb rfl) ?_
  refine KI rfl (KU (KQ (Kg zr_31) (Nb rfl) (fun b7=>?_)))
  refine KI rfl (KP rfl rfl sz_31 (by repeat (first|exact KY|refine KS rfl ?_)) (by repeat (first|exact Sh _|apply St_)) (by rfl) ?_)
  refine KA (KF rfl) (Nb rfl) ?_
  refine KG ?_
  refine KE ?_
  refine KE (KB ?_)
  refine KA (KD rfl) (Nb rfl) ?_
  refine KA (KW (Det.not rfl) (show _ = Value.bool false from rfl)) (Nb rfl) ?_
  refine KG ?_
  refine Kn rfl ?_
  refine Kh ?_
  refine KE ?_
  refine Ka [8,9] (by kernel_rfl) ?_
  refine LAny.take 0 rfl (by kernel_rfl) (Nb rfl) (KJ rfl (by repeat (first|exact Mh _|apply Mt)) (by exact KM Try.underlying31 rfl sz_31)) ?_
  refine KC 1 rfl (by kernel_rfl) (Nb rfl) (KD rfl) ?_
  refine KC 4 rfl (by kernel_rfl) (Nb rfl) (KD rfl) ?_
  refine LAny.takeW [5,8,9] 3 rfl (by kernel_rfl) (Nb rfl) (KJ rfl (by repeat (first|exact Mh _|apply Mt)) (by exact KM Try.underlying31 rfl sz_31)) ?_
  refine KAj ?_
  refine KAN 6 rfl (.inl zr_60) (Nb rfl) rfl rfl rfl ?_
  refine KAN 7 rfl (.inl zr_60) (Nb rfl) rfl rfl rfl ?_
  refine Kv 2 rfl rfl rfl (Nb rfl) (by kernel_rfl) rfl (KAD (first:=[]) rfl en_92 rfl (fun w hw=>c_Some Q V (i) P w (hw _ (by repeat (first|exact Mh _|apply Mt))) hok hi hPe)) ?_
  rintro _ _ ⟨rfl,rfl⟩
  refine Kv 5 rfl rfl rfl (Nb rfl) (by kernel_rfl) rfl (KAD (first:=[]) rfl en_92 rfl (fun w hw=>c_Some Q V (j) R w (hw _ (by repeat (first|exact Mh _|apply Mt))) hok hj hRe)) ?_
  rintro _ _ ⟨rfl,rfl⟩
  refine KAX (by kernel_rfl) (fun b10=>?_)
  refine KAX (by kernel_rfl) (fun b9=>?_)
  refine KAW ?_
  refine Ko 8 rfl rfl (by kernel_rfl) (by kernel_rfl) (KP rfl rfl sz_60 (by exact Kp _ _ _) (by repeat (first|exact Sh _|apply St_)) (by exact KT _ _ _) ?_)
  refine Ko 9 rfl rfl (by kernel_rfl) (by kernel_rfl) (KP rfl rfl sz_60 (by exact Kp _ _ _) (by repeat (first|exact Sh _|apply St_)) (by exact KT _ _ _) ?_)
  refine Km (by kernel_rfl) ?_
  refine KE (KB ?_)
  refine KA (KL (o':=0) Try.underlying31 rfl rfl rfl sz_3 (by decide)) (Nb rfl) ?_
  refine LOps.det (KJ rfl (by repeat (first|exact Mh _|apply Mt)) (KV Try.underlying3 rfl (by first|rfl|exact Ks _ _ _ (by omega)|exact Kr _ (by omega)|exact Kq _ (by omega)|exact dv_m _ _ _ (by omega)))) (Nb rfl) ?_
  refine LOps.det (KJ rfl (by repeat (first|exact Mh _|apply Mt)) (by exact KM Try.underlying60 rfl sz_60)) (Nb rfl) ?_
  refine LOps.det (KJ rfl (by repeat (first|exact Mh _|apply Mt)) (by exact KM Try.underlying60 rfl sz_60)) (Nb rfl) ?_
  refine KI rfl (KU (KR (first:=[]) rfl en_88 rfl (Nb rfl) (fun w hw=>c_affAdd _ V (P) (R) (D) w h2 hPo hRo (hDe)) ?_))
  refine KA (KD rfl) (Nb rfl) ?_
  refine KA (Kb rfl rfl) (Nb rfl) ?_
  refine KA (Kb rfl rfl) (Nb rfl) ?_
  refine KI rfl (KU (KQ (Kg zr_60) (Nb rfl) (fun b11=>?_)))
  refine KI rfl (KP rfl rfl sz_60 (by exact Kp _ _ _) (by repeat (first|exact Sh _|apply St_)) (by exact KT _ _ _) ?_)
  refine KA (KF rfl) (Nb rfl) ?_
  refine KG ?_
  refine KE (KB ?_)
  refine KA (KL (o':=0) Try.underlying31 rfl rfl rfl sz_3 (by decide)) (Nb rfl) ?_
  refine LOps.det (KJ rfl (by repeat (first|exact Mh _|apply Mt)) (KV Try.underlying3 rfl (by first|rfl|exact Ks _ _ _ (by omega)|exact Kr _ (by omega)|exact Kq _ (by omega)|exact dv_m _ _ _ (by omega)))) (Nb rfl) ?_
  refine LOps.det (KJ rfl (by repeat (first|exact Mh _|apply Mt)) (by exact KM Try.underlying60 rfl sz_60)) (Nb rfl) ?_
  refine KI rfl (KU (KR (first:=[]) rfl en_89 rfl (Nb rfl) (fun w hw=>c_affNegR _ V D M w h2 hDo hMe) ?_))
  refine KA (KD rfl) (Nb rfl) ?_
  refine KA (Kb rfl rfl) (Nb rfl) ?_
  refine KA (Kb rfl rfl) (Nb rfl) ?_
  refine KI rfl (KU (KQ (Kg zr_60) (Nb rfl) (fun b13=>?_)))
  refine KI rfl (KP rfl rfl sz_60 (by exact Kp _ _ _) (by repeat (first|exact Sh _|apply St_)) (by exact KT _ _ _) ?_)
  refine KA (KF rfl) (Nb rfl) ?_
  refine KG ?_
  refine KE (KB ?_)
  refine KA (KL (o':=0) Try.underlying31 rfl rfl rfl sz_3 (by decide)) (Nb rfl) ?_
  refine LOps.det (KJ rfl (by repeat (first|exact Mh _|apply Mt)) (KV Try.underlying3 rfl (by first|rfl|exact Ks _ _ _ (by omega)|exact Kr _ (by omega)|exact Kq _ (by omega)|exact dv_m _ _ _ (by omega)))) (Nb rfl) ?_
  refine LOps.det (KJ rfl (by repeat (first|exact Mh _|apply Mt)) (by exact KM Try.underlying60 rfl sz_60)) (Nb rfl) ?_
  refine LOps.det (KJ rfl (by repeat (first|exact Mh _|apply Mt)) (by exact KM Try.underlying60 rfl sz_60)) (Nb rfl) ?_
  refine KI rfl (KU (KR (first:=[]) rfl en_88 rfl (Nb rfl) (fun w hw=>c_affAdd _ V (P) (R) (D) w h2 hPo hRo (hDe)) ?_))
  refine KA (KD rfl) (Nb rfl) ?_
  refine KA (Kb rfl rfl) (Nb rfl) ?_
  refine KA (Kb rfl rfl) (Nb rfl) ?_
  refine KI rfl (KU (KQ (Kg zr_60) (Nb rfl) (fun b15=>?_)))
  refine KI rfl (KP rfl rfl sz_60 (by exact Kp _ _ _) (by repeat (first|exact Sh _|apply St_)) (by exact KT _ _ _) ?_)
  refine KA (KF rfl) (Nb rfl) ?_
  refine KG ?_
  refine KE (KB ?_)
  refine KA (KL (o':=0) Try.underlying31 rfl rfl rfl sz_3 (by decide)) (Nb rfl) ?_
  refine LOps.det (KJ rfl (by repeat (first|exact Mh _|apply Mt)) (KV Try.underlying3 rfl (by first|rfl|exact Ks _ _ _ (by omega)|exact Kr _ (by omega)|exact Kq _ (by omega)|exact dv_m _ _ _ (by omega)))) (Nb rfl) ?_
  refine LOps.det (KJ rfl (by repeat (first|exact Mh _|apply Mt)) (by exact KM Try.underlying60 rfl sz_60)) (Nb rfl) ?_
  refine LOps.det (KJ rfl (by repeat (first|exact Mh _|apply Mt)) (by exact KM Try.underlying60 rfl sz_60)) (Nb rfl) ?_
  refine KI rfl (KU (KR (first:=[]) rfl en_88 rfl (Nb rfl) (fun w hw=>c_affAdd _ V D M .inf w h2 hDo hMo hDM) ?_))
  refine KA (KD rfl) (Nb rfl) ?_
  refine KA (Kb rfl rfl) (Nb rfl) ?_
  refine KA (Kb rfl rfl) (Nb rfl) ?_
  refine KI rfl (KU (KQ (Kg zr_60) (Nb rfl) (fun b17=>?_)))
  refine KI rfl (KP rfl rfl sz_60 (by exact Kp _ _ _) (by repeat (first|exact Sh _|apply St_)) (by exact KT _ _ _) ?_)
  refine KA (KF rfl) (Nb rfl) ?_
  refine KG ?_
  refine KE ?_
  refine KE (KB ?_)
  refine KA (KD rfl) (Nb rfl) ?_
  refine KI rfl (KU (KR (first:=[]) rfl en_46 rfl (Nb rfl) (fun w hw=>c_Num _ w) ?_))
  refine KA (KO (v:=.bool false) rfl rfl (br_f (br_neq (b:=0)) (by first|exact (fun e=>e rfl)|(simp; done)|omega))) (Nb rfl) ?_
  refine KA (KD rfl) (Nb rfl) ?_
  refine Kf rfl rfl (KD rfl) (Nb rfl) ?_
  refine LOps.stepG rfl rfl rfl (KU (KR (first:=[]) rfl en_46 rfl (Nb rfl) (fun w hw=>c_Num _ w) ?_))
  refine Kf rfl rfl (KO (v:=.bool false) rfl rfl (br_f (br_neq (b:=0)) (by first|exact (fun e=>e rfl)|(simp; done)|omega))) (Nb rfl) ?_
  refine KA (KAF rfl rfl) (Nb rfl) ?_
  refine KA (KD rfl) (Nb rfl) ?_
  refine Kf rfl rfl (KD rfl) (Nb rfl) ?_
  refine LOps.stepG rfl rfl rfl (KU (KR (first:=[]) rfl en_46 rfl (Nb rfl) (fun w hw=>c_Num _ w) ?_))
  refine Kf rfl rfl (KO (v:=.bool false) rfl rfl (br_f (br_neq (b:=0)) (by first|exact (fun e=>e rfl)|(simp; done)|omega))) (Nb rfl) ?_
  refine KA (KAF rfl rfl) (Nb rfl) ?_
  refine KA (KD rfl) (Nb rfl) ?_
  refine KAU rfl rfl (KJ rfl (by repeat (first|exact Mh _|apply Mt)) (by exact KM Try.underlying60 rfl sz_60)) (Nb rfl) ?_
  refine Kf rfl rfl (KW (KAT pl_60 zr_60 rfl fill_ptInf) rfl) (Nb rfl) ?_
  refine Kf rfl rfl (KW (Det.nea (by kernel_rfl) (fun w=>eq_ptP_t hok (P:=(.inf:Pt V.p)) (Q:=(.inf:Pt V.p)) rfl 10000 (by decide) w) rfl rfl) (show _ = Value.bool false by rfl)) (Nb rfl) ?_
  refine KA (KAF rfl rfl) (Nb rfl) ?_
  refine KG ?_
  refine Kn rfl ?_
  refine Kh ?_
  refine KE ?_
  refine KE ?_
  rcases line_cases P R M with rfl|⟨x1,y1,rfl,rfl⟩|⟨x1,y1,x2,y2,rfl,rfl,rfl⟩|⟨x1,y1,x2,y2,x3,y3,rfl,rfl,rfl,he⟩|⟨x1,y1,x2,y2,x3,y3,rfl,rfl,rfl,hne⟩
  ·
    refine KB ?_
    refine KA (KL (o':=18) Try.underlying60 rfl rfl rfl sz_4 (by decide)) (Nb rfl) ?_
    refine LOps.det (KJ rfl (by repeat (first|exact Mh _|apply Mt)) (KV Try.underlying4 rfl (by exact pt_gt _ _ _))) (Nb rfl) ?_
    refine KA (KD rfl) (Nb rfl) ?_
    refine Kx rfl rfl rfl (Nb rfl) ?_
    refine Kx rfl rfl rfl (Nb rfl) ?_
    refine KA (KAE rfl rfl) (Nb rfl) ?_
    refine KA (KD rfl) (Nb rfl) ?_
    refine Kx rfl rfl rfl (Nb rfl) ?_
    refine Kx rfl rfl rfl (Nb rfl) ?_
    refine KA (KAE rfl rfl) (Nb rfl) ?_
    refine KA (KD rfl) (Nb rfl) ?_
    refine Kx rfl rfl rfl (Nb rfl) ?_
    refine Kx rfl rfl rfl (Nb rfl) ?_
    refine Kx rfl rfl rfl (Nb rfl) ?_
    refine KA (KAE rfl rfl) (Nb rfl) ?_
    refine KG ?_
    refine KAB rfl ?_
    refine KE (KB ?_)
    refine KA (KF rfl) (Nb rfl) ?_
    refine KG (KZ ?_)
    refine ⟨[_],.cons rfl .nil,fun a w' hr=>⟨?_,hr.fr.below⟩⟩
    rfl
  ·
    refine KB ?_
    refine KA (KL (o':=18) Try.underlying60 rfl rfl rfl sz_4 (by decide)) (Nb rfl) ?_
    refine LOps.det (KJ rfl (by repeat (first|exact Mh _|apply Mt)) (KV Try.underlying4 rfl (by exact pt_gt _ _ _))) (Nb rfl) ?_
    refine KA (KD rfl) (Nb rfl) ?_
    refine Kf rfl rfl (KL (o':=18) Try.underlying60 rfl rfl rfl sz_4 (by decide)) (Nb rfl) ?_
    refine KAU rfl rfl (KJ rfl (by repeat (first|exact Mh _|apply Mt)) (KV Try.underlying4 rfl (by exact pt_gt _ _ _))) (Nb rfl) ?_
    refine KA (KAF rfl rfl) (Nb rfl) ?_
    refine KA (KD rfl) (Nb rfl) ?_
    refine Kx rfl rfl rfl (Nb rfl) ?_
    refine Kx rfl rfl rfl (Nb rfl) ?_
    refine KA (KAE rfl rfl) (Nb rfl) ?_
    refine KA (KD rfl) (Nb rfl) ?_
    refine Kx rfl rfl rfl (Nb rfl) ?_
    refine Kx rfl rfl rfl (Nb rfl) ?_
    refine Kx rfl rfl rfl (Nb rfl) ?_
    refine KA (KAE rfl rfl) (Nb rfl) ?_
    refine KG ?_
    refine KAB rfl ?_
    refine KE (KB ?_)
    refine KA (KF rfl) (Nb rfl) ?_
    refine KG (KZ ?_)
    refine ⟨[_],.cons rfl .nil,fun a w' hr=>⟨?_,hr.fr.below⟩⟩
    rfl
  ·
    refine KB ?_
    refine KA (KL (o':=18) Try.underlying60 rfl rfl rfl sz_4 (by decide)) (Nb rfl) ?_
    refine LOps.det (KJ rfl (by repeat (first|exact Mh _|apply Mt)) (KV Try.underlying4 rfl (by exact pt_gt _ _ _))) (Nb rfl) ?_
    refine KA (KD rfl) (Nb rfl) ?_
    refine Kf rfl rfl (KL (o':=18) Try.underlying60 rfl rfl rfl sz_4 (by decide)) (Nb rfl) ?_
    refine KAU rfl rfl (KJ rfl (by repeat (first|exact Mh _|apply Mt)) (KV Try.underlying4 rfl (by exact pt_gt _ _ _))) (Nb rfl) ?_
    refine KA (KAF rfl rfl) (Nb rfl) ?_
    refine KA (KD rfl) (Nb rfl) ?_
    refine Kf rfl rfl (KL (o':=18) Try.underlying60 rfl rfl rfl sz_4 (by decide)) (Nb rfl) ?_
    refine KAU rfl rfl (KJ rfl (by repeat (first|exact Mh _|apply Mt)) (KV Try.underlying4 rfl (by exact pt_gt _ _ _))) (Nb rfl) ?_
    refine KA (KAF rfl rfl) (Nb rfl) ?_
    refine KA (KD rfl) (Nb rfl) ?_
    refine Kx rfl rfl rfl (Nb rfl) ?_
    refine Kx rfl rfl rfl (Nb rfl) ?_
    refine Kx rfl rfl rfl (Nb rfl) ?_
    refine KA (KAE rfl rfl) (Nb rfl) ?_
    refine KG ?_
    refine KAB rfl ?_
    refine KE (KB ?_)
    refine KA (KF rfl) (Nb rfl) ?_
    refine KG (KZ ?_)
    refine ⟨[_],.cons rfl .nil,fun a w' hr=>⟨?_,hr.fr.below⟩⟩
    rfl
  ·
    refine KB ?_
    refine KA (KL (o':=18) Try.underlying60 rfl rfl rfl sz_4 (by decide)) (Nb rfl) ?_
    refine LOps.det (KJ rfl (by repeat (first|exact Mh _|apply Mt)) (KV Try.underlying4 rfl (by exact pt_gt _ _ _))) (Nb rfl) ?_
    refine KA (KD rfl) (Nb rfl) ?_
    refine Kf rfl rfl (KL (o':=18) Try.underlying60 rfl rfl rfl sz_4 (by decide)) (Nb rfl) ?_
    refine KAU rfl rfl (KJ rfl (by repeat (first|exact Mh _|apply Mt)) (KV Try.underlying4 rfl (by exact pt_gt _ _ _))) (Nb rfl) ?_
    refine KA (KAF rfl rfl) (Nb rfl) ?_
    refine KA (KD rfl) (Nb rfl) ?_
    refine Kf rfl rfl (KL (o':=18) Try.underlying60 rfl rfl rfl sz_4 (by decide)) (Nb rfl) ?_
    refine KAU rfl rfl (KJ rfl (by repeat (first|exact Mh _|apply Mt)) (KV Try.underlying4 rfl (by exact pt_gt _ _ _))) (Nb rfl) ?_
    refine KA (KAF rfl rfl) (Nb rfl) ?_
    refine KA (KD rfl) (Nb rfl) ?_
    refine KAU rfl rfl (KJ rfl (by repeat (first|exact Mh _|apply Mt)) (by exact KM Try.underlying60 rfl sz_60)) (Nb rfl) ?_
    refine KAU rfl rfl (KJ rfl (by repeat (first|exact Mh _|apply Mt)) (by exact KM Try.underlying60 rfl sz_60)) (Nb rfl) ?_
    refine Kf rfl rfl (KW (Det.eqa (by kernel_rfl) (fun w=>eq_ptP_t hok (P:=(.aff x1 y1:Pt V.p)) (Q:=(.aff x2 y2:Pt V.p)) (he) 10000 (by decide) w) rfl rfl) (show _ = Value.bool true by rfl)) (Nb rfl) ?_
    refine KA (KAF rfl rfl) (Nb rfl) ?_
    refine KG ?_
    refine KAB rfl ?_
    refine KE (KB ?_)
    refine KA (KF rfl) (Nb rfl) ?_
    refine KG (KZ ?_)
    refine ⟨[_],.cons rfl .nil,fun a w' hr=>⟨?_,hr.fr.below⟩⟩
    rfl
  ·
    refine KB ?_
    refine KA (KL (o':=18) Try.underlying60 rfl rfl rfl sz_4 (by decide)) (Nb rfl) ?_
    refine LOps.det (KJ rfl (by repeat (first|exact Mh _|apply Mt)) (KV Try.underlying4 rfl (by exact pt_gt _ _ _))) (Nb rfl) ?_
    refine KA (KD rfl) (Nb rfl) ?_
    refine Kf rfl rfl (KL (o':=18) Try.underlying60 rfl rfl rfl sz_4 (by decide)) (Nb rfl) ?_
    refine KAU rfl rfl (KJ rfl (by repeat (first|exact Mh _|apply Mt)) (KV Try.underlying4 rfl (by exact pt_gt _ _ _))) (Nb rfl) ?_
    refine KA (KAF rfl rfl) (Nb rfl) ?_
    refine KA (KD rfl) (Nb rfl) ?_
    refine Kf rfl rfl (KL (o':=18) Try.underlying60 rfl rfl rfl sz_4 (by decide)) (Nb rfl) ?_
    refine KAU rfl rfl (KJ rfl (by repeat (first|exact Mh _|apply Mt)) (KV Try.underlying4 rfl (by exact pt_gt _ _ _))) (Nb rfl) ?_
    refine KA (KAF rfl rfl) (Nb rfl) ?_
    refine KA (KD rfl) (Nb rfl) ?_
    refine KAU rfl rfl (KJ rfl (by repeat (first|exact Mh _|apply Mt)) (by exact KM Try.underlying60 rfl sz_60)) (Nb rfl) ?_
    refine KAU rfl rfl (KJ rfl (by repeat (first|exact Mh _|apply Mt)) (by exact KM Try.underlying60 rfl sz_60)) (Nb rfl) ?_
    refine Kf rfl rfl (KW (Det.eqa (by kernel_rfl) (fun w=>eq_ptP_f hok (P:=(.aff x1 y1:Pt V.p)) (Q:=(.aff x2 y2:Pt V.p)) hne 10000 (by decide) w) rfl rfl) (show _ = Value.bool false by rfl)) (Nb rfl) ?_
    refine KA (KAF rfl rfl) (Nb rfl) ?_
    refine KG ?_
    refine Kn rfl ?_
    refine Kh ?_
    refine KE ?_
    refine Ka [9,10,11] (by kernel_rfl) ?_
    refine LAny.take 0 rfl (by kernel_rfl) (Nb rfl) (KJ rfl (by repeat (first|exact Mh _|apply Mt)) (by exact KM Try.underlying60 rfl sz_60)) ?_
    refine LAny.takeW [3,5,9,10,11] 2 rfl (by kernel_rfl) (Nb rfl) (KJ rfl (by repeat (first|exact Mh _|apply Mt)) (by exact KM Try.underlying60 rfl sz_60)) ?_
    refine LAny.takeW [5,9,10,11] 4 rfl (by kernel_rfl) (Nb rfl) (KJ rfl (by repeat (first|exact Mh _|apply Mt)) (by exact KM Try.underlying60 rfl sz_60)) ?_
    refine KAj ?_
    refine KAN 6 rfl (.inl zr_73) (Nb rfl) rfl rfl rfl ?_
    refine KAN 7 rfl (.inl zr_73) (Nb rfl) rfl rfl rfl ?_
    refine KAN 8 rfl (.inl zr_73) (Nb rfl) rfl rfl rfl ?_
    refine Kv 1 rfl rfl rfl (Nb rfl) (by kernel_rfl) rfl (LExt.callZ (first:=[]) rfl en_63 rfl (fun w hw hs=>(c_r_InP V hok ((.aff x1 y1:Pt V.p)) w).mono fun e w' h=>Num2R.q (Old.nil _) hs h)) ?_
    rintro _ _ ⟨qpa,qpb,rfl,rfl,hnpa,hnpb⟩
    refine Kv 3 rfl rfl rfl (Nb rfl) (by kernel_rfl) rfl (LExt.callZ (first:=[]) rfl en_63 rfl (fun w hw hs=>(c_r_InP V hok ((.aff x2 y2:Pt V.p)) w).mono fun e w' h=>Num2R.q (Old.nil _) hs h)) ?_
    rintro _ _ ⟨qra,qrb,rfl,rfl,hnra,hnrb⟩
    refine Kv 5 rfl rfl rfl (Nb rfl) (by kernel_rfl) rfl (LExt.callZ (first:=[]) rfl en_63 rfl (fun w hw hs=>(c_r_InP V hok ((.aff x3 y3:Pt V.p)) w).mono fun e w' h=>Num2R.q (Old.nil _) hs h)) ?_
    rintro _ _ ⟨qma,qmb,rfl,rfl,hnma,hnmb⟩
    refine KAX (by kernel_rfl) (fun b21=>?_)
    refine KAX (by kernel_rfl) (fun b20=>?_)
    refine KAX (by kernel_rfl) (fun b19=>?_)
    refine KAW ?_
    refine Ko 9 rfl rfl (by kernel_rfl) (by kernel_rfl) (KP rfl rfl sz_73 (by repeat (first|exact KY|refine KS rfl ?_)) (by repeat (first|exact Sh _|apply St_)) (by rfl) ?_)
    refine Ko 10 rfl rfl (by kernel_rfl) (by kernel_rfl) (KP rfl rfl sz_73 (by repeat (first|exact KY|refine KS rfl ?_)) (by repeat (first|exact Sh _|apply St_)) (by rfl) ?_)
    refine Ko 11 rfl rfl (by kernel_rfl) (by kernel_rfl) (KP rfl rfl sz_73 (by repeat (first|exact KY|refine KS rfl ?_)) (by repeat (first|exact Sh _|apply St_)) (by rfl) ?_)
    refine Km (by kernel_rfl) ?_
    refine KE ?_
    refine Ka [] (by kernel_rfl) ?_
    refine KC 0 rfl (by kernel_rfl) (Nb rfl) (KL (o':=1) Try.underlying73 rfl rfl rfl sz_29 (by decide)) ?_
    refine LAny.take 1 rfl (by kernel_rfl) (Nb rfl) (KJ rfl (by repeat (first|exact Mh _|apply Mt)) (KV Try.underlying29 rfl (by first|rfl|exact Ks _ _ _ (by omega)|exact Kr _ (by omega)|exact Kq _ (by omega)|exact dv_m _ _ _ (by omega)))) ?_
    refine KC 2 rfl (by kernel_rfl) (Nb rfl) (KL (o':=1) Try.underlying73 rfl rfl rfl sz_29 (by decide)) ?_
    refine LAny.take 3 rfl (by kernel_rfl) (Nb rfl) (KJ rfl (by repeat (first|exact Mh _|apply Mt)) (KV Try.underlying29 rfl (by first|rfl|exact Ks _ _ _ (by omega)|exact Kr _ (by omega)|exact Kq _ (by omega)|exact dv_m _ _ _ (by omega)))) ?_
    refine KC 4 rfl (by kernel_rfl) (Nb rfl) (KL (o':=1) Try.underlying31 rfl rfl rfl sz_29 (by decide)) ?_
    refine LAny.take 5 rfl (by kernel_rfl) (Nb rfl) (KJ rfl (by repeat (first|exact Mh _|apply Mt)) (KV Try.underlying29 rfl (by first|rfl|exact Ks _ _ _ (by omega)|exact Kr _ (by omega)|exact Kq _ (by omega)|exact dv_m _ _ _ (by omega)))) ?_
    refine KC 7 rfl (by kernel_rfl) (Nb rfl) (KL (o':=0) Try.underlying73 rfl rfl rfl sz_29 (by decide)) ?_
    refine LAny.take 8 rfl (by kernel_rfl) (Nb rfl) (KJ rfl (by repeat (first|exact Mh _|apply Mt)) (KV Try.underlying29 rfl (by first|rfl|exact Ks _ _ _ (by omega)|exact Kr _ (by omega)|exact Kq _ (by omega)|exact dv_m _ _ _ (by omega)))) ?_
    refine KC 9 rfl (by kernel_rfl) (Nb rfl) (KL (o':=0) Try.underlying73 rfl rfl rfl sz_29 (by decide)) ?_
    refine LAny.take 10 rfl (by kernel_rfl) (Nb rfl) (KJ rfl (by repeat (first|exact Mh _|apply Mt)) (KV Try.underlying29 rfl (by first|rfl|exact Ks _ _ _ (by omega)|exact Kr _ (by omega)|exact Kq _ (by omega)|exact dv_m _ _ _ (by omega)))) ?_
    refine KC 11 rfl (by kernel_rfl) (Nb rfl) (KL (o':=1) Try.underlying31 rfl rfl rfl sz_29 (by decide)) ?_
    refine LAny.take 12 rfl (by kernel_rfl) (Nb rfl) (KJ rfl (by repeat (first|exact Mh _|apply Mt)) (KV Try.underlying29 rfl (by first|rfl|exact Ks _ _ _ (by omega)|exact Kr _ (by omega)|exact Kq _ (by omega)|exact dv_m _ _ _ (by omega)))) ?_
    refine KC 14 rfl (by kernel_rfl) (Nb rfl) (KL (o':=1) Try.underlying31 rfl rfl rfl sz_29 (by decide)) ?_
    refine LAny.take 15 rfl (by kernel_rfl) (Nb rfl) (KJ rfl (by repeat (first|exact Mh _|apply Mt)) (KV Try.underlying29 rfl (by first|rfl|exact Ks _ _ _ (by omega)|exact Kr _ (by omega)|exact Kq _ (by omega)|exact dv_m _ _ _ (by omega)))) ?_
    refine Kt 6 rfl rfl (by kernel_rfl) (Kz (first:=[]) rfl en_93 rfl (Nb rfl) (fun w hw hs=>(c_n_SubMod qrb qpb Q.p (y2.val) (y1.val) V.p w (hw _ (by repeat (first|exact Mh _|apply Mt))) (hw _ (by repeat (first|exact Mh _|apply Mt))) (crvI_p (hw _ (by repeat (first|exact Mh _|apply Mt)))) (h17 y2.isLt) (by omega) y1.isLt).mono fun e w' h=>KAm (Old.nil _) hs h) ?_)
    rintro _ _ ⟨q1,rfl,rfl,hn1⟩
    refine Kt 13 rfl rfl (by kernel_rfl) (Kz (first:=[]) rfl en_93 rfl (Nb rfl) (fun w hw hs=>(c_n_SubMod qma qpa Q.p (x3.val) (x1.val) V.p w (hw _ (by repeat (first|exact Mh _|apply Mt))) (hw _ (by repeat (first|exact Mh _|apply Mt))) (crvI_p (hw _ (by repeat (first|exact Mh _|apply Mt)))) (h17 x3.isLt) (by omega) x1.isLt).mono fun e w' h=>KAm (Old.nil _) hs h) ?_)
    rintro _ _ ⟨q2,rfl,rfl,hn2⟩
    refine Kt 16 rfl rfl (by kernel_rfl) (Kz (first:=[]) rfl en_71 rfl (Nb rfl) (fun w hw hs=>(c_n_MulMod q1 q2 Q.p (lessM y2.val y1.val V.p) (lessM x3.val x1.val V.p) V.p hp0 w (hw _ (by repeat (first|exact Mh _|apply Mt))) (hw _ (by repeat (first|exact Mh _|apply Mt))) (crvI_p (hw _ (by repeat (first|exact Mh _|apply Mt)))) (h17 (lessM_lt (Fin.isLt _) (Fin.isLt _))) (h17 (lessM_lt (Fin.isLt _) (Fin.isLt _)))).mono fun e w' h=>KAm (Old.nil _) hs h) ?_)
    rintro _ _ ⟨q3,rfl,rfl,hn3⟩
    refine KC 17 rfl (by kernel_rfl) (Nb rfl) (KF rfl) ?_
    refine Km (by kernel_rfl) ?_
    refine KE ?_
    refine Ka [] (by kernel_rfl) ?_
    refine KC 0 rfl (by kernel_rfl) (Nb rfl) (KL (o':=1) Try.underlying73 rfl rfl rfl sz_29 (by decide)) ?_
    refine LAny.take 1 rfl (by kernel_rfl) (Nb rfl) (KJ rfl (by repeat (first|exact Mh _|apply Mt)) (KV Try.underlying29 rfl (by first|rfl|exact Ks _ _ _ (by omega)|exact Kr _ (by omega)|exact Kq _ (by omega)|exact dv_m _ _ _ (by omega)))) ?_
    refine KC 2 rfl (by kernel_rfl) (Nb rfl) (KL (o':=1) Try.underlying73 rfl rfl rfl sz_29 (by decide)) ?_
    refine LAny.take 3 rfl (by kernel_rfl) (Nb rfl) (KJ rfl (by repeat (first|exact Mh _|apply Mt)) (KV Try.underlying29 rfl (by first|rfl|exact Ks _ _ _ (by omega)|exact Kr _ (by omega)|exact Kq _ (by omega)|exact dv_m _ _ _ (by omega)))) ?_
    refine KC 4 rfl (by kernel_rfl) (Nb rfl) (KL (o':=1) Try.underlying31 rfl rfl rfl sz_29 (by decide)) ?_
    refine LAny.take 5 rfl (by kernel_rfl) (Nb rfl) (KJ rfl (by repeat (first|exact Mh _|apply Mt)) (KV Try.underlying29 rfl (by first|rfl|exact Ks _ _ _ (by omega)|exact Kr _ (by omega)|exact Kq _ (by omega)|exact dv_m _ _ _ (by omega)))) ?_
    refine KC 7 rfl (by kernel_rfl) (Nb rfl) (KL (o':=0) Try.underlying73 rfl rfl rfl sz_29 (by decide)) ?_
    refine LAny.take 8 rfl (by kernel_rfl) (Nb rfl) (KJ rfl (by repeat (first|exact Mh _|apply Mt)) (KV Try.underlying29 rfl (by first|rfl|exact Ks _ _ _ (by omega)|exact Kr _ (by omega)|exact Kq _ (by omega)|exact dv_m _ _ _ (by omega)))) ?_
    refine KC 9 rfl (by kernel_rfl) (Nb rfl) (KL (o':=0) Try.underlying73 rfl rfl rfl sz_29 (by decide)) ?_
    refine LAny.take 10 rfl (by kernel_rfl) (Nb rfl) (KJ rfl (by repeat (first|exact Mh _|apply Mt)) (KV Try.underlying29 rfl (by first|rfl|exact Ks _ _ _ (by omega)|exact Kr _ (by omega)|exact Kq _ (by omega)|exact dv_m _ _ _ (by omega)))) ?_
    refine KC 11 rfl (by kernel_rfl) (Nb rfl) (KL (o':=1) Try.underlying31 rfl rfl rfl sz_29 (by decide)) ?_
    refine LAny.take 12 rfl (by kernel_rfl) (Nb rfl) (KJ rfl (by repeat (first|exact Mh _|apply Mt)) (KV Try.underlying29 rfl (by first|rfl|exact Ks _ _ _ (by omega)|exact Kr _ (by omega)|exact Kq _ (by omega)|exact dv_m _ _ _ (by omega)))) ?_
    refine KC 14 rfl (by kernel_rfl) (Nb rfl) (KL (o':=1) Try.underlying31 rfl rfl rfl sz_29 (by decide)) ?_
    refine LAny.take 15 rfl (by kernel_rfl) (Nb rfl) (KJ rfl (by repeat (first|exact Mh _|apply Mt)) (KV Try.underlying29 rfl (by first|rfl|exact Ks _ _ _ (by omega)|exact Kr _ (by omega)|exact Kq _ (by omega)|exact dv_m _ _ _ (by omega)))) ?_
    refine Kt 6 rfl rfl (by kernel_rfl) (Kz (first:=[]) rfl en_93 rfl (Nb rfl) (fun w hw hs=>(c_n_SubMod qmb qpb Q.p (y3.val) (y1.val) V.p w (hw _ (by repeat (first|exact Mh _|apply Mt))) (hw _ (by repeat (first|exact Mh _|apply Mt))) (crvI_p (hw _ (by repeat (first|exact Mh _|apply Mt)))) (h17 y3.isLt) (by omega) y1.isLt).mono fun e w' h=>KAm (Old.nil _) hs h) ?_)
    rintro _ _ ⟨q4,rfl,rfl,hn4⟩
    refine Kt 13 rfl rfl (by kernel_rfl) (Kz (first:=[]) rfl en_93 rfl (Nb rfl) (fun w hw hs=>(c_n_SubMod qra qpa Q.p (x2.val) (x1.val) V.p w (hw _ (by repeat (first|exact Mh _|apply Mt))) (hw _ (by repeat (first|exact Mh _|apply Mt))) (crvI_p (hw _ (by repeat (first|exact Mh _|apply Mt)))) (h17 x2.isLt) (by omega) x1.isLt).mono fun e w' h=>KAm (Old.nil _) hs h) ?_)
    rintro _ _ ⟨q5,rfl,rfl,hn5⟩
    refine Kt 16 rfl rfl (by kernel_rfl) (Kz (first:=[]) rfl en_71 rfl (Nb rfl) (fun w hw hs=>(c_n_MulMod q4 q5 Q.p (lessM y3.val y1.val V.p) (lessM x2.val x1.val V.p) V.p hp0 w (hw _ (by repeat (first|exact Mh _|apply Mt))) (hw _ (by repeat (first|exact Mh _|apply Mt))) (crvI_p (hw _ (by repeat (first|exact Mh _|apply Mt)))) (h17 (lessM_lt (Fin.isLt _) (Fin.isLt _))) (h17 (lessM_lt (Fin.isLt _) (Fin.isLt _)))).mono fun e w' h=>KAm (Old.nil _) hs h) ?_)
    rintro _ _ ⟨q6,rfl,rfl,hn6⟩
    refine KC 17 rfl (by kernel_rfl) (Nb rfl) (KF rfl) ?_
    refine Km (by kernel_rfl) ?_
    refine KE (KB ?_)
    refine KA (KD rfl) (Nb rfl) ?_
    refine KA (KD rfl) (Nb rfl) ?_
    refine KI rfl (KU (KR (first:=[]) rfl en_70 rfl (Nb rfl) (fun w hw=>c_n_Cmp q3 q6 ((lessM y2.val y1.val V.p)*(lessM x3.val x1.val V.p)%V.p) ((lessM y3.val y1.val V.p)*(lessM x2.val x1.val V.p)%V.p) w (hw _ (by repeat (first|exact Mh _|apply Mt))) (hw _ (by repeat (first|exact Mh _|apply Mt))) (Nat.le_trans (h17 (Nat.mod_lt _ hpp)) (by decide))) ?_))
    refine KA (KO (v:=.bool true) rfl rfl (br_t cmp_eql (line_eq hok hPo hRo hne (hDe ▸ hMe)))) (Nb rfl) ?_
    refine KA (KF rfl) (Nb rfl) ?_
    refine KG (KZ ?_)
    refine ⟨[_],.cons rfl .nil,fun a w' hr=>⟨?_,hr.fr.below⟩⟩
    rfl
end Go.Proofs.Ytljblbgogjieaaa
