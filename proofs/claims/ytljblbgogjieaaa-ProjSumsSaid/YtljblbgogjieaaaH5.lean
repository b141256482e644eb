/- Part 5 of what the proof leans on: a symbolic execution of the model, walks of the program's functions, and the mathematics. No condition. -/
import Derived.WalkKit
import Derived.Orders
import Derived.Laws.StructEq
import Derived.WalkSpells
import Derived.OrdersHeld
import Derived.KernelRfl
import Derived.Laws.Externs
import Derived.Laws.Bits64
import Derived.Laws.MakeOwn
import Derived.Laws.BytesString
import Derived.Carry
import Derived.WideShapes
import GoSem.Claim
import Derived.Test.YtljblbgogjieaaaProg
import Derived.Laws.AppendOwn
import Derived.Test.YtljblbgogjieaaaRows
import Derived.ProofKit
import Derived.OpenShut
import Derived.Test.YtljblbgogjieaaaH4
set_option linter.unusedVariables false
set_option linter.unusedSimpArgs false
set_option maxRecDepth 20000
namespace Go.Proofs.Ytljblbgogjieaaa
open Go Go.RowKit
open Grp
def pjF {p:Nat} (T:Fin p×Fin p×Fin p):Value:=pjV T.1.val T.2.1.val T.2.2.val
theorem pj_zero':(vec .u64 9 (fun _=>0)++(vec .u64 9 (fun _=>0)++vec .u64 9 (fun _=>0)):List Value) = pjL 0 0 0:=by unfold pjL natL; rw [vec_zeros 9]
theorem pj_zero:Value.agg (vec .u64 9 (fun _=>0)++(vec .u64 9 (fun _=>0)++vec .u64 9 (fun _=>0)):List Value).toArray = pjV 0 0 0:=by rw [pj_zero']; rfl
theorem fill_pj (X Y Z:Nat):fillL [(0,9),(9,9),(18,9)] (vec .u64 9 (fun _=>0)++(vec .u64 9 (fun _=>0)++vec .u64 9 (fun _=>0))) [(0,natV X),(1,natV Y),(2,natV Z)] = some (pjL X Y Z):=by
  refine KAY (A:=[]) (B:=vec .u64 9 (fun _=>0)) (D:=vec .u64 9 (fun _=>0)++vec .u64 9 (fun _=>0)) (cs:=natL X) rfl rfl (KH _) rfl rfl (KM _ _ _) ?_
  refine KAY (A:=natL X) (B:=vec .u64 9 (fun _=>0)) (D:=vec .u64 9 (fun _=>0)) (cs:=natL Y) rfl rfl (KH _) (by simp) (KH _) (KM _ _ _) ?_
  refine (KAY (A:=natL X++natL Y) (B:=vec .u64 9 (fun _=>0)) (D:=[]) (cs:=natL Z) rfl rfl (KH _) (by simp) (by simp [KH]) (KM _ _ _) rfl).trans ?_
  simp [pjL]
theorem fill_pjN (Y:Nat):fillL [(0,9),(9,9),(18,9)] (vec .u64 9 (fun _=>0)++(vec .u64 9 (fun _=>0)++vec .u64 9 (fun _=>0))) [(1,natV Y)] = some (pjL 0 Y 0):=by
  refine (KAY (A:=vec .u64 9 (fun _=>0)) (B:=vec .u64 9 (fun _=>0)) (D:=vec .u64 9 (fun _=>0)) (cs:=natL Y) rfl rfl (KH _) rfl (KM _ _ _) (KM _ _ _) rfl).trans ?_
  simp [pjL,natL,vec_zeros 9]
theorem c_None  (w:World)  : Calls Try.prog 158 ([]:List Value).toArray w (fun e w'=>e = .returned (pjV 0 1 0)∧Below w.heap.size w w'):=by
  refine Kz (N:=3) (rs:=[.cell 0 91]) [] Try.func158 rfl Try.ntmps158 Try.results158 (Nb rfl) trivial rfl ?_
  show LCode _ _ _ ⟨_,_⟩ _
  refine KE (KB ?_)
  refine KI rfl (KT (KR (Ke zr_91) (Nb rfl) (fun b0=>?_)))
  refine KG ?_
  refine KE (KB ?_)
  refine KI rfl (KT (KQ (first:=[]) rfl en_150 rfl (Nb rfl) (fun w hw=>c_nat_Small 1 (by decide) w) ?_))
  refine KA (KW (KAR pl_91 zr_91 rfl (fill_pjN 1)) rfl) (Nb rfl) ?_
  refine KI rfl (KP rfl rfl sz_91 (by repeat (first|exact Kl _|exact Ks _ _ _|exact Kj _|exact Ko _ _ _|exact Kq _ _ _|exact KX|refine KS rfl ?_|refine KV ?_ ?_)) (by repeat (first|exact Sh _|apply St_)) (by first|exact KH _|exact KM _ _ _|exact KJ _|exact KU _ _ _|exact KZ _ _ _|rfl|simp [KM,KH,KJ]) ?_)
  refine KG (KY ?_)
  refine ⟨[_],.cons ⟨_,_,_,rfl,(by repeat (first|exact Mh _|apply Mt)),by exact KN Try.underlying91 rfl sz_91⟩ .nil,fun a w' hr=>⟨?_,hr.fr.below⟩⟩
  rfl
theorem c_NoneF {V:Cv} (hok:V.Ok) (w:World):Calls Try.prog 158 ([]:List Value).toArray w (fun e w'=>e = .returned (pjF (tripF (.inf:Pt V.p)))∧Below w.heap.size w w'):=by
  have h:=c_None w
  have e:pjF (tripF (.inf:Pt V.p)) = pjV 0 1 0:=by
    unfold pjF tripF
    rw [fin_one (show 1<V.p from hok.prime.1)]
    rfl
  rwa [e]
theorem c_Triple (V:Cv) (hok:V.Ok) (P:Pt V.p) (w:World)  : Calls Try.prog 129 ([ptP P]:List Value).toArray w (fun e w'=>e = .returned (pjF (tripF P))∧Below w.heap.size w w'):=by
  refine Kz (N:=12) (rs:=[.cell 2 91]) [] Try.func129 rfl Try.ntmps129 Try.results129 (Nb rfl) trivial rfl ?_
  show LCode _ _ _ ⟨_,_⟩ _
  refine KE (KB ?_)
  refine KI rfl (KT (KR (Ky rfl) (Nb rfl) (fun b1=>?_)))
  refine KI rfl (KT (KR (Ke zr_91) (Nb rfl) (fun b2=>?_)))
  refine KG ?_
  refine KE ?_
  refine KE ?_
  rcases P with _|⟨x,y⟩
  ·
    refine KB ?_
    refine KA (KL (o':=18) Try.underlying60 rfl rfl rfl sz_4 (by decide)) (Nb rfl) ?_
    refine LOps.det (KK rfl (by repeat (first|exact Mh _|apply Mt)) (Ka Try.underlying4 rfl (by exact pt_gt _ _ _))) (Nb rfl) ?_
    refine KG ?_
    refine Kw rfl ?_
    refine KE (KB ?_)
    refine KI rfl (KT (KQ (first:=[]) rfl en_158 rfl (Nb rfl) (fun w hw=>c_NoneF hok w) ?_))
    refine KI rfl (KP rfl rfl sz_91 (by repeat (first|exact Kl _|exact Ks _ _ _|exact Kj _|exact Ko _ _ _|exact Kq _ _ _|exact KX|refine KS rfl ?_|refine KV ?_ ?_)) (by repeat (first|exact Sh _|apply St_)) (by first|exact KH _|exact KM _ _ _|exact KJ _|exact KU _ _ _|exact KZ _ _ _|rfl|simp [KM,KH,KJ]) ?_)
    refine KG (KY ?_)
    refine ⟨[_],.cons ⟨_,_,_,rfl,(by repeat (first|exact Mh _|apply Mt)),by exact KN Try.underlying91 rfl sz_91⟩ .nil,fun a w' hr=>⟨?_,hr.fr.below⟩⟩
    rfl
  ·
    refine KB ?_
    refine KA (KL (o':=18) Try.underlying60 rfl rfl rfl sz_4 (by decide)) (Nb rfl) ?_
    refine LOps.det (KK rfl (by repeat (first|exact Mh _|apply Mt)) (Ka Try.underlying4 rfl (by exact pt_gt _ _ _))) (Nb rfl) ?_
    refine KG ?_
    refine Km rfl ?_
    refine Kh ?_
    refine KE ?_
    refine Kd [6] (by kernel_rfl) ?_
    refine KC 0 rfl (by kernel_rfl) (Nb rfl) (KL (o':=0) Try.underlying60 rfl rfl rfl sz_25 (by decide)) ?_
    refine LAny.take 1 rfl (by kernel_rfl) (Nb rfl) (KK rfl (by repeat (first|exact Mh _|apply Mt)) (by exact KAH Try.underlying25 rfl sz_25 rfl (KH _))) ?_
    refine KC 2 rfl (by kernel_rfl) (Nb rfl) (KL (o':=9) Try.underlying60 rfl rfl rfl sz_25 (by decide)) ?_
    refine LAny.take 3 rfl (by kernel_rfl) (Nb rfl) (KK rfl (by repeat (first|exact Mh _|apply Mt)) (by exact pt_ld1 _ _ _ _ _ _)) ?_
    refine Kx 4 rfl rfl (by kernel_rfl) (KQ (first:=[]) rfl en_150 rfl (Nb rfl) (fun w hw=>c_nat_Small 1 (by decide) w) ?_)
    refine KC 5 rfl (by kernel_rfl) (Nb rfl) (KW (KAR pl_91 zr_91 rfl (fill_pj _ _ _)) rfl) ?_
    refine Kp 6 rfl rfl (by kernel_rfl) (by kernel_rfl) (KP rfl rfl sz_91 (by repeat (first|exact Kl _|exact Ks _ _ _|exact Kj _|exact Ko _ _ _|exact Kq _ _ _|exact KX|refine KS rfl ?_|refine KV ?_ ?_)) (by repeat (first|exact Sh _|apply St_)) (by first|exact KH _|exact KM _ _ _|exact KJ _|exact KU _ _ _|exact KZ _ _ _|rfl|simp [KM,KH,KJ]) ?_)
    refine Kn (by kernel_rfl) ?_
    refine KY ?_
    refine ⟨[_],.cons ⟨_,_,_,rfl,(by repeat (first|exact Mh _|apply Mt)),by exact KN Try.underlying91 rfl sz_91⟩ .nil,fun a w' hr=>⟨?_,hr.fr.below⟩⟩
    show _ = Ending.returned (pjV x.val y.val (1:Fin V.p).val)
    rw [fin_one (show 1<V.p from hok.prime.1)]
    rfl
theorem c_Plain (V:Cv) (b f bd:Nat) (hok:V.Ok) (X Y Z:Fin V.p) (w:World) (hb:(Item.blk b ⟨false,opL V f,147,(0,0)⟩).holds w) (hf:(Item.blk f ⟨false,fldL V.p bd,194,(0,0)⟩).holds w) (hbd:(Item.blk bd ⟨false,dvL V.p,241,(0,0)⟩).holds w):Calls Try.prog 127 ([.pointer (some ⟨b,0,none⟩),pjV X.val Y.val Z.val]:List Value).toArray w (fun e w'=>e = .returned (ptP (plainP X Y Z))∧Below w.heap.size w w'):=by
  have hbb:=hok.bounds
  have hpW:V.p<W9:=w9_521 hbb.2.1
  refine Kz (N:=35) (rs:=[.cell 4 60]) [.blk b ⟨false,opL V f,147,(0,0)⟩,.blk f ⟨false,fldL V.p bd,194,(0,0)⟩,.blk bd ⟨false,dvL V.p,241,(0,0)⟩] Try.func127 rfl Try.ntmps127 Try.results127 (Nb rfl) ⟨hb,hf,hbd,trivial⟩ rfl ?_
  show LCode _ _ _ ⟨_,_⟩ _
  refine KE (KB ?_)
  refine KI rfl (KT (KR (Ky rfl) (Nb rfl) (fun b3=>?_)))
  refine KI rfl (KT (KR (Ke zr_60) (Nb rfl) (fun b4=>?_)))
  refine KG ?_
  refine KE ?_
  refine KE ?_
  by_cases hz:Z = 0
  ·
    refine KB ?_
    refine KA (KL (o':=18) Try.underlying91 rfl rfl rfl sz_25 (by decide)) (Nb rfl) ?_
    refine LOps.det (KK rfl (by repeat (first|exact Mh _|apply Mt)) (by exact pj_ld2 _ _ _ _ _ _)) (Nb rfl) ?_
    refine KA (KW (KAR pl_25 zr_25 rfl rfl) (show _ = natV 0 by unfold natV natL; rw [← vec_zeros 9])) (Nb rfl) ?_
    refine KA (KW (Det.eqa (by kernel_rfl) (fun w=>eq_nat Z.val 0 (Nat.lt_trans Z.isLt hpW) zero_w9 10000 (by decide) w) rfl rfl) (show _ = Value.bool true by rw [decide_eq_true (by rw [hz]; rfl)])) (Nb rfl) ?_
    refine KG ?_
    refine Kw rfl ?_
    refine KE (KB ?_)
    refine KA (KW (KAR pl_60 zr_60 rfl fill_ptInf) rfl) (Nb rfl) ?_
    refine KI rfl (KP rfl rfl sz_60 (by repeat (first|exact Kl _|exact Ks _ _ _|exact Kj _|exact Ko _ _ _|exact Kq _ _ _|exact KX|refine KS rfl ?_|refine KV ?_ ?_)) (by repeat (first|exact Sh _|apply St_)) (by first|exact KH _|exact KM _ _ _|exact KJ _|exact KU _ _ _|exact KZ _ _ _|rfl|simp [KM,KH,KJ]) ?_)
    refine KG (KY ?_)
    refine ⟨[_],.cons ⟨_,_,_,rfl,(by repeat (first|exact Mh _|apply Mt)),by exact KN Try.underlying60 rfl sz_60⟩ .nil,fun a w' hr=>⟨?_,hr.fr.below⟩⟩
    rw [hz,plain_inf]
    rfl
  ·
    refine KB ?_
    refine KA (KL (o':=18) Try.underlying91 rfl rfl rfl sz_25 (by decide)) (Nb rfl) ?_
    refine LOps.det (KK rfl (by repeat (first|exact Mh _|apply Mt)) (by exact pj_ld2 _ _ _ _ _ _)) (Nb rfl) ?_
    refine KA (KW (KAR pl_25 zr_25 rfl rfl) (show _ = natV 0 by unfold natV natL; rw [← vec_zeros 9])) (Nb rfl) ?_
    refine KA (KW (Det.eqa (by kernel_rfl) (fun w=>eq_nat Z.val 0 (Nat.lt_trans Z.isLt hpW) zero_w9 10000 (by decide) w) rfl rfl) (show _ = Value.bool false by rw [decide_eq_false (show ¬ Z.val = 0 from fun e=>hz (Fin.ext e))])) (Nb rfl) ?_
    refine KG ?_
    refine Km rfl ?_
    refine Kh ?_
    refine KE ?_
    refine Kd [8] (by kernel_rfl) ?_
    refine KC 0 rfl (by kernel_rfl) (Nb rfl) (KD rfl) ?_
    refine KC 1 rfl (by kernel_rfl) (Nb rfl) (Kb rfl) ?_
    refine KC 2 rfl (by kernel_rfl) (Nb rfl) (KL (o':=59) Try.underlying147 rfl rfl rfl sz_145 (by decide)) ?_
    refine LAny.take 3 rfl (by kernel_rfl) (Nb rfl) (KK rfl (by repeat (first|exact Mh _|apply Mt)) (Ka Try.underlying145 rfl (by exact cvC_gt_F _ _ _ _ _ _ _ _ _ _ _ _ _))) ?_
    refine KC 4 rfl (by kernel_rfl) (Nb rfl) (KL (o':=18) Try.underlying91 rfl rfl rfl sz_25 (by decide)) ?_
    refine LAny.take 5 rfl (by kernel_rfl) (Nb rfl) (KK rfl (by repeat (first|exact Mh _|apply Mt)) (by exact pj_ld2 _ _ _ _ _ _)) ?_
    refine LAny.toP ?_
    refine KAV 7 rfl (.inl zr_25) (Nb rfl) rfl rfl rfl ?_
    refine KAB 6 rfl rfl rfl (Nb rfl) (by kernel_rfl) rfl (KAG (first:=[]) rfl en_160 rfl (fun w hw=>c_F_Inv V hok f bd _ w (hw _ (by repeat (first|exact Mh _|apply Mt))))) ?_
    rintro _ _ ⟨rfl,rfl⟩
    refine KAo (by kernel_rfl) (fun b5=>?_)
    refine KAi ?_
    refine Kp 8 rfl rfl (by kernel_rfl) (by kernel_rfl) (KP rfl rfl sz_25 (by repeat (first|exact Kl _|exact Ks _ _ _|exact Kj _|exact Ko _ _ _|exact Kq _ _ _|exact KX|refine KS rfl ?_|refine KV ?_ ?_)) (by repeat (first|exact Sh _|apply St_)) (by first|exact KH _|exact KM _ _ _|exact KJ _|exact KU _ _ _|exact KZ _ _ _|rfl|simp [KM,KH,KJ]) ?_)
    refine Kn (by kernel_rfl) ?_
    refine KE ?_
    refine Kd [17] (by kernel_rfl) ?_
    refine KC 0 rfl (by kernel_rfl) (Nb rfl) (KD rfl) ?_
    refine KC 1 rfl (by kernel_rfl) (Nb rfl) (Kb rfl) ?_
    refine KC 2 rfl (by kernel_rfl) (Nb rfl) (KL (o':=59) Try.underlying147 rfl rfl rfl sz_145 (by decide)) ?_
    refine LAny.take 3 rfl (by kernel_rfl) (Nb rfl) (KK rfl (by repeat (first|exact Mh _|apply Mt)) (Ka Try.underlying145 rfl (by exact cvC_gt_F _ _ _ _ _ _ _ _ _ _ _ _ _))) ?_
    refine KC 4 rfl (by kernel_rfl) (Nb rfl) (KL (o':=0) Try.underlying91 rfl rfl rfl sz_25 (by decide)) ?_
    refine LAny.take 5 rfl (by kernel_rfl) (Nb rfl) (KK rfl (by repeat (first|exact Mh _|apply Mt)) (by exact KAH Try.underlying25 rfl sz_25 rfl (KH _))) ?_
    refine LAny.take 6 rfl (by kernel_rfl) (Nb rfl) (KK rfl (by repeat (first|exact Mh _|apply Mt)) (by exact KN Try.underlying25 rfl sz_25)) ?_
    refine KC 8 rfl (by kernel_rfl) (Nb rfl) (KD rfl) ?_
    refine KC 9 rfl (by kernel_rfl) (Nb rfl) (Kb rfl) ?_
    refine KC 10 rfl (by kernel_rfl) (Nb rfl) (KL (o':=59) Try.underlying147 rfl rfl rfl sz_145 (by decide)) ?_
    refine LAny.take 11 rfl (by kernel_rfl) (Nb rfl) (KK rfl (by repeat (first|exact Mh _|apply Mt)) (Ka Try.underlying145 rfl (by exact cvC_gt_F _ _ _ _ _ _ _ _ _ _ _ _ _))) ?_
    refine KC 12 rfl (by kernel_rfl) (Nb rfl) (KL (o':=9) Try.underlying91 rfl rfl rfl sz_25 (by decide)) ?_
    refine LAny.take 13 rfl (by kernel_rfl) (Nb rfl) (KK rfl (by repeat (first|exact Mh _|apply Mt)) (by exact KAj Try.underlying25 rfl sz_25 rfl (KH _) (KH _))) ?_
    refine LAny.take 14 rfl (by kernel_rfl) (Nb rfl) (KK rfl (by repeat (first|exact Mh _|apply Mt)) (by exact KN Try.underlying25 rfl sz_25)) ?_
    refine Kx 7 rfl rfl (by kernel_rfl) (KQ (first:=[]) rfl KAr rfl (Nb rfl) (fun w hw=>KAW V hok f bd _ _ w (hw _ (by repeat (first|exact Mh _|apply Mt))) (hw _ (by repeat (first|exact Mh _|apply Mt)))) ?_)
    refine Kx 15 rfl rfl (by kernel_rfl) (KQ (first:=[]) rfl KAr rfl (Nb rfl) (fun w hw=>KAW V hok f bd _ _ w (hw _ (by repeat (first|exact Mh _|apply Mt))) (hw _ (by repeat (first|exact Mh _|apply Mt)))) ?_)
    refine KC 16 rfl (by kernel_rfl) (Nb rfl) (KW (KAR pl_60 zr_60 rfl (fill_pt _ _)) rfl) ?_
    refine Kp 17 rfl rfl (by kernel_rfl) (by kernel_rfl) (KP rfl rfl sz_60 (by repeat (first|exact Kl _|exact Ks _ _ _|exact Kj _|exact Ko _ _ _|exact Kq _ _ _|exact KX|refine KS rfl ?_|refine KV ?_ ?_)) (by repeat (first|exact Sh _|apply St_)) (by first|exact KH _|exact KM _ _ _|exact KJ _|exact KU _ _ _|exact KZ _ _ _|rfl|simp [KM,KH,KJ]) ?_)
    refine Kn (by kernel_rfl) ?_
    refine KY ?_
    refine ⟨[_],.cons ⟨_,_,_,rfl,(by repeat (first|exact Mh _|apply Mt)),by exact KN Try.underlying60 rfl sz_60⟩ .nil,fun a w' hr=>⟨?_,hr.fr.below⟩⟩
    rw [plain_aff hz]
    rfl
theorem c_Sum (V:Cv) (b f bd:Nat) (hok:V.Ok) (X1 Y1 Z1 X2 Y2 Z2:Fin V.p) (w:World) (hb:(Item.blk b ⟨false,opL V f,147,(0,0)⟩).holds w) (hf:(Item.blk f ⟨false,fldL V.p bd,194,(0,0)⟩).holds w) (hbd:(Item.blk bd ⟨false,dvL V.p,241,(0,0)⟩).holds w):Calls Try.prog 128 ([.pointer (some ⟨b,0,none⟩),pjV X1.val Y1.val Z1.val,pjV X2.val Y2.val Z2.val]:List Value).toArray w (fun e w'=>e = .returned (pjF (sum3 V.A (V.B+V.B+V.B) X1 Y1 Z1 X2 Y2 Z2))∧Below w.heap.size w w'):=by
  have hbb:=hok.bounds
  have hpW:V.p<W9:=w9_521 hbb.2.1
  refine Kz (N:=213) (rs:=[.cell 6 91]) [.blk b ⟨false,opL V f,147,(0,0)⟩,.blk f ⟨false,fldL V.p bd,194,(0,0)⟩,.blk bd ⟨false,dvL V.p,241,(0,0)⟩] Try.func128 rfl Try.ntmps128 Try.results128 (Nb rfl) ⟨hb,hf,hbd,trivial⟩ rfl ?_
  show LCode _ _ _ ⟨_,_⟩ _
  refine KE (KB ?_)
  refine KI rfl (KT (KR (Ky rfl) (Nb rfl) (fun b4=>?_)))
  refine KI rfl (KT (KR (Ky rfl) (Nb rfl) (fun b5=>?_)))
  refine KI rfl (KT (KR (Ke zr_91) (Nb rfl) (fun b6=>?_)))
  refine KG ?_
  refine KE ?_
  refine Kd [] (by kernel_rfl) ?_
  refine KC 0 rfl (by kernel_rfl) (Nb rfl) (KD rfl) ?_
  refine KC 1 rfl (by kernel_rfl) (Nb rfl) (Kb rfl) ?_
  refine KC 2 rfl (by kernel_rfl) (Nb rfl) (KL (o':=59) Try.underlying147 rfl rfl rfl sz_145 (by decide)) ?_
  refine LAny.take 3 rfl (by kernel_rfl) (Nb rfl) (KK rfl (by repeat (first|exact Mh _|apply Mt)) (Ka Try.underlying145 rfl (by exact cvC_gt_F _ _ _ _ _ _ _ _ _ _ _ _ _))) ?_
  refine KC 4 rfl (by kernel_rfl) (Nb rfl) (Det.makeFunc1 rfl) ?_
  refine KC 5 rfl (by kernel_rfl) (Nb rfl) (KD rfl) ?_
  refine KC 6 rfl (by kernel_rfl) (Nb rfl) (Kb rfl) ?_
  refine KC 7 rfl (by kernel_rfl) (Nb rfl) (KL (o':=59) Try.underlying147 rfl rfl rfl sz_145 (by decide)) ?_
  refine LAny.take 8 rfl (by kernel_rfl) (Nb rfl) (KK rfl (by repeat (first|exact Mh _|apply Mt)) (Ka Try.underlying145 rfl (by exact cvC_gt_F _ _ _ _ _ _ _ _ _ _ _ _ _))) ?_
  refine KC 9 rfl (by kernel_rfl) (Nb rfl) (Det.makeFunc1 rfl) ?_
  refine KC 10 rfl (by kernel_rfl) (Nb rfl) (KD rfl) ?_
  refine KC 11 rfl (by kernel_rfl) (Nb rfl) (Kb rfl) ?_
  refine KC 12 rfl (by kernel_rfl) (Nb rfl) (KL (o':=59) Try.underlying147 rfl rfl rfl sz_145 (by decide)) ?_
  refine LAny.take 13 rfl (by kernel_rfl) (Nb rfl) (KK rfl (by repeat (first|exact Mh _|apply Mt)) (Ka Try.underlying145 rfl (by exact cvC_gt_F _ _ _ _ _ _ _ _ _ _ _ _ _))) ?_
  refine KC 14 rfl (by kernel_rfl) (Nb rfl) (Det.makeFunc1 rfl) ?_
  refine KC 15 rfl (by kernel_rfl) (Nb rfl) (KF rfl) ?_
  refine KC 16 rfl (by kernel_rfl) (Nb rfl) (KF rfl) ?_
  refine KC 17 rfl (by kernel_rfl) (Nb rfl) (KF rfl) ?_
  refine Kn (by kernel_rfl) ?_
  refine KE ?_
  refine Kd [21,22,23] (by kernel_rfl) ?_
  refine KC 0 rfl (by kernel_rfl) (Nb rfl) (KD rfl) ?_
  refine KC 1 rfl (by kernel_rfl) (Nb rfl) (KL (o':=0) Try.underlying91 rfl rfl rfl sz_25 (by decide)) ?_
  refine LAny.take 2 rfl (by kernel_rfl) (Nb rfl) (KK rfl (by repeat (first|exact Mh _|apply Mt)) (by exact KAH Try.underlying25 rfl sz_25 rfl (KH _))) ?_
  refine KC 3 rfl (by kernel_rfl) (Nb rfl) (KL (o':=0) Try.underlying91 rfl rfl rfl sz_25 (by decide)) ?_
  refine LAny.take 4 rfl (by kernel_rfl) (Nb rfl) (KK rfl (by repeat (first|exact Mh _|apply Mt)) (by exact KAH Try.underlying25 rfl sz_25 rfl (KH _))) ?_
  refine KC 6 rfl (by kernel_rfl) (Nb rfl) (KD rfl) ?_
  refine KC 7 rfl (by kernel_rfl) (Nb rfl) (KL (o':=9) Try.underlying91 rfl rfl rfl sz_25 (by decide)) ?_
  refine KC 9 rfl (by kernel_rfl) (Nb rfl) (KL (o':=9) Try.underlying91 rfl rfl rfl sz_25 (by decide)) ?_
  refine KC 12 rfl (by kernel_rfl) (Nb rfl) (KD rfl) ?_
  refine KC 13 rfl (by kernel_rfl) (Nb rfl) (KL (o':=18) Try.underlying91 rfl rfl rfl sz_25 (by decide)) ?_
  refine KC 15 rfl (by kernel_rfl) (Nb rfl) (KL (o':=18) Try.underlying91 rfl rfl rfl sz_25 (by decide)) ?_
  refine LAny.takeW [11,17,21,22,23] 8 rfl (by kernel_rfl) (Nb rfl) (KK rfl (by repeat (first|exact Mh _|apply Mt)) (by exact KAj Try.underlying25 rfl sz_25 rfl (KH _) (KH _))) ?_
  refine LAny.takeW [11,17,21,22,23] 10 rfl (by kernel_rfl) (Nb rfl) (KK rfl (by repeat (first|exact Mh _|apply Mt)) (by exact KAj Try.underlying25 rfl sz_25 rfl (KH _) (KH _))) ?_
  refine LAny.takeW [17,21,22,23] 14 rfl (by kernel_rfl) (Nb rfl) (KK rfl (by repeat (first|exact Mh _|apply Mt)) (by exact pj_ld2 _ _ _ _ _ _)) ?_
  refine LAny.takeW [17,21,22,23] 16 rfl (by kernel_rfl) (Nb rfl) (KK rfl (by repeat (first|exact Mh _|apply Mt)) (by exact pj_ld2 _ _ _ _ _ _)) ?_
  refine LAny.toP ?_
  refine KAV 18 rfl (.inl zr_25) (Nb rfl) rfl rfl rfl ?_
  refine KAV 19 rfl (.inl zr_25) (Nb rfl) rfl rfl rfl ?_
  refine KAV 20 rfl (.inl zr_25) (Nb rfl) rfl rfl rfl ?_
  refine KAB 5 rfl rfl rfl (Nb rfl) (by kernel_rfl) rfl (KAG (first:=[_]) rfl KAr rfl (fun w hw=>KAW V hok f bd _ _ w (hw _ (by repeat (first|exact Mh _|apply Mt))) (hw _ (by repeat (first|exact Mh _|apply Mt))))) ?_
  rintro _ _ ⟨rfl,rfl⟩
  refine KAB 11 rfl rfl rfl (Nb rfl) (by kernel_rfl) rfl (KAG (first:=[_]) rfl KAr rfl (fun w hw=>KAW V hok f bd _ _ w (hw _ (by repeat (first|exact Mh _|apply Mt))) (hw _ (by repeat (first|exact Mh _|apply Mt))))) ?_
  rintro _ _ ⟨rfl,rfl⟩
  refine KAB 17 rfl rfl rfl (Nb rfl) (by kernel_rfl) rfl (KAG (first:=[_]) rfl KAr rfl (fun w hw=>KAW V hok f bd _ _ w (hw _ (by repeat (first|exact Mh _|apply Mt))) (hw _ (by repeat (first|exact Mh _|apply Mt))))) ?_
  rintro _ _ ⟨rfl,rfl⟩
  refine KAo (by kernel_rfl) (fun b12=>?_)
  refine KAo (by kernel_rfl) (fun b11=>?_)
  refine KAo (by kernel_rfl) (fun b10=>?_)
  refine KAi ?_
  refine Kp 21 rfl rfl (by kernel_rfl) (by kernel_rfl) (KP rfl rfl sz_25 (by repeat (first|exact Kl _|exact Ks _ _ _|exact Kj _|exact Ko _ _ _|exact Kq _ _ _|exact KX|refine KS rfl ?_|refine KV ?_ ?_)) (by repeat (first|exact Sh _|apply St_)) (by first|exact KH _|exact KM _ _ _|exact KJ _|exact KU _ _ _|exact KZ _ _ _|rfl|simp [KM,KH,KJ]) ?_)
  refine Kp 22 rfl rfl (by kernel_rfl) (by kernel_rfl) (KP rfl rfl sz_25 (by repeat (first|exact Kl _|exact Ks _ _ _|exact Kj _|exact Ko _ _ _|exact Kq _ _ _|exact KX|refine KS rfl ?_|refine KV ?_ ?_)) (by repeat (first|exact Sh _|apply St_)) (by first|exact KH _|exact KM _ _ _|exact KJ _|exact KU _ _ _|exact KZ _ _ _|rfl|simp [KM,KH,KJ]) ?_)
  refine Kp 23 rfl rfl (by kernel_rfl) (by kernel_rfl) (KP rfl rfl sz_25 (by repeat (first|exact Kl _|exact Ks _ _ _|exact Kj _|exact Ko _ _ _|exact Kq _ _ _|exact KX|refine KS rfl ?_|refine KV ?_ ?_)) (by repeat (first|exact Sh _|apply St_)) (by first|exact KH _|exact KM _ _ _|exact KJ _|exact KU _ _ _|exact KZ _ _ _|rfl|simp [KM,KH,KJ]) ?_)
  refine Kn (by kernel_rfl) ?_
  refine KE ?_
  refine Kd [21] (by kernel_rfl) ?_
  refine KC 0 rfl (by kernel_rfl) (Nb rfl) (KD rfl) ?_
  refine KC 1 rfl (by kernel_rfl) (Nb rfl) (KD rfl) ?_
  refine KC 2 rfl (by kernel_rfl) (Nb rfl) (KD rfl) ?_
  refine KC 3 rfl (by kernel_rfl) (Nb rfl) (KL (o':=0) Try.underlying91 rfl rfl rfl sz_25 (by decide)) ?_
  refine LAny.take 4 rfl (by kernel_rfl) (Nb rfl) (KK rfl (by repeat (first|exact Mh _|apply Mt)) (by exact KAH Try.underlying25 rfl sz_25 rfl (KH _))) ?_
  refine KC 5 rfl (by kernel_rfl) (Nb rfl) (KL (o':=9) Try.underlying91 rfl rfl rfl sz_25 (by decide)) ?_
  refine LAny.take 6 rfl (by kernel_rfl) (Nb rfl) (KK rfl (by repeat (first|exact Mh _|apply Mt)) (by exact KAj Try.underlying25 rfl sz_25 rfl (KH _) (KH _))) ?_
  refine KC 8 rfl (by kernel_rfl) (Nb rfl) (KD rfl) ?_
  refine KC 9 rfl (by kernel_rfl) (Nb rfl) (KL (o':=0) Try.underlying91 rfl rfl rfl sz_25 (by decide)) ?_
  refine LAny.take 10 rfl (by kernel_rfl) (Nb rfl) (KK rfl (by repeat (first|exact Mh _|apply Mt)) (by exact KAH Try.underlying25 rfl sz_25 rfl (KH _))) ?_
  refine KC 11 rfl (by kernel_rfl) (Nb rfl) (KL (o':=9) Try.underlying91 rfl rfl rfl sz_25 (by decide)) ?_
  refine LAny.take 12 rfl (by kernel_rfl) (Nb rfl) (KK rfl (by repeat (first|exact Mh _|apply Mt)) (by exact KAj Try.underlying25 rfl sz_25 rfl (KH _) (KH _))) ?_
  refine KC 15 rfl (by kernel_rfl) (Nb rfl) (KD rfl) ?_
  refine LAny.take 16 rfl (by kernel_rfl) (Nb rfl) (KK rfl (by repeat (first|exact Mh _|apply Mt)) (by exact KN Try.underlying25 rfl sz_25)) ?_
  refine LAny.take 17 rfl (by kernel_rfl) (Nb rfl) (KK rfl (by repeat (first|exact Mh _|apply Mt)) (by exact KN Try.underlying25 rfl sz_25)) ?_
  refine LAny.toP ?_
  refine KAV 20 rfl (.inl zr_25) (Nb rfl) rfl rfl rfl ?_
  refine KAB 7 rfl rfl rfl (Nb rfl) (by kernel_rfl) rfl (KAG (first:=[_]) rfl en_152 rfl (fun w hw=>c_F_Add V hok f bd _ _ w (hw _ (by repeat (first|exact Mh _|apply Mt))))) ?_
  rintro _ _ ⟨rfl,rfl⟩
  refine KAB 13 rfl rfl rfl (Nb rfl) (by kernel_rfl) rfl (KAG (first:=[_]) rfl en_152 rfl (fun w hw=>c_F_Add V hok f bd _ _ w (hw _ (by repeat (first|exact Mh _|apply Mt))))) ?_
  rintro _ _ ⟨rfl,rfl⟩
  refine KAB 14 rfl rfl rfl (Nb rfl) (by kernel_rfl) rfl (KAG (first:=[_]) rfl KAr rfl (fun w hw=>KAW V hok f bd _ _ w (hw _ (by repeat (first|exact Mh _|apply Mt))) (hw _ (by repeat (first|exact Mh _|apply Mt))))) ?_
  rintro _ _ ⟨rfl,rfl⟩
  refine KAB 18 rfl rfl rfl (Nb rfl) (by kernel_rfl) rfl (KAG (first:=[_]) rfl en_152 rfl (fun w hw=>c_F_Add V hok f bd _ _ w (hw _ (by repeat (first|exact Mh _|apply Mt))))) ?_
  rintro _ _ ⟨rfl,rfl⟩
  refine KAB 19 rfl rfl rfl (Nb rfl) (by kernel_rfl) rfl (KAG (first:=[_]) rfl en_161 rfl (fun w hw=>c_F_Sub V hok f bd _ _ w (hw _ (by repeat (first|exact Mh _|apply Mt))))) ?_
  rintro _ _ ⟨rfl,rfl⟩
  refine KAo (by kernel_rfl) (fun b13=>?_)
  refine KAi ?_
  refine Kp 21 rfl rfl (by kernel_rfl) (by kernel_rfl) (KP rfl rfl sz_25 (by repeat (first|exact Kl _|exact Ks _ _ _|exact Kj _|exact Ko _ _ _|exact Kq _ _ _|exact KX|refine KS rfl ?_|refine KV ?_ ?_)) (by repeat (first|exact Sh _|apply St_)) (by first|exact KH _|exact KM _ _ _|exact KJ _|exact KU _ _ _|exact KZ _ _ _|rfl|simp [KM,KH,KJ]) ?_)
  refine Kn (by kernel_rfl) ?_
  refine KE ?_
  refine Kd [21] (by kernel_rfl) ?_
  refine KC 0 rfl (by kernel_rfl) (Nb rfl) (KD rfl) ?_
  refine KC 1 rfl (by kernel_rfl) (Nb rfl) (KD rfl) ?_
  refine KC 2 rfl (by kernel_rfl) (Nb rfl) (KD rfl) ?_
  refine KC 3 rfl (by kernel_rfl) (Nb rfl) (KL (o':=0) Try.underlying91 rfl rfl rfl sz_25 (by decide)) ?_
  refine LAny.take 4 rfl (by kernel_rfl) (Nb rfl) (KK rfl (by repeat (first|exact Mh _|apply Mt)) (by exact KAH Try.underlying25 rfl sz_25 rfl (KH _))) ?_
  refine KC 5 rfl (by kernel_rfl) (Nb rfl) (KL (o':=18) Try.underlying91 rfl rfl rfl sz_25 (by decide)) ?_
  refine LAny.take 6 rfl (by kernel_rfl) (Nb rfl) (KK rfl (by repeat (first|exact Mh _|apply Mt)) (by exact pj_ld2 _ _ _ _ _ _)) ?_
  refine KC 8 rfl (by kernel_rfl) (Nb rfl) (KD rfl) ?_
  refine KC 9 rfl (by kernel_rfl) (Nb rfl) (KL (o':=0) Try.underlying91 rfl rfl rfl sz_25 (by decide)) ?_
  refine LAny.take 10 rfl (by kernel_rfl) (Nb rfl) (KK rfl (by repeat (first|exact Mh _|apply Mt)) (by exact KAH Try.underlying25 rfl sz_25 rfl (KH _))) ?_
  refine KC 11 rfl (by kernel_rfl) (Nb rfl) (KL (o':=18) Try.underlying91 rfl rfl rfl sz_25 (by decide)) ?_
  refine LAny.take 12 rfl (by kernel_rfl) (Nb rfl) (KK rfl (by repeat (first|exact Mh _|apply Mt)) (by exact pj_ld2 _ _ _ _ _ _)) ?_
  refine KC 15 rfl (by kernel_rfl) (Nb rfl) (KD rfl) ?_
  refine LAny.take 16 rfl (by kernel_rfl) (Nb rfl) (KK rfl (by repeat (first|exact Mh _|apply Mt)) (by exact KN Try.underlying25 rfl sz_25)) ?_
  refine LAny.take 17 rfl (by kernel_rfl) (Nb rfl) (KK rfl (by repeat (first|exact Mh _|apply Mt)) (by exact KN Try.underlying25 rfl sz_25)) ?_
  refine LAny.toP ?_
  refine KAV 20 rfl (.inl zr_25) (Nb rfl) rfl rfl rfl ?_
  refine KAB 7 rfl rfl rfl (Nb rfl) (by kernel_rfl) rfl (KAG (first:=[_]) rfl en_152 rfl (fun w hw=>c_F_Add V hok f bd _ _ w (hw _ (by repeat (first|exact Mh _|apply Mt))))) ?_
  rintro _ _ ⟨rfl,rfl⟩
  refine KAB 13 rfl rfl rfl (Nb rfl) (by kernel_rfl) rfl (KAG (first:=[_]) rfl en_152 rfl (fun w hw=>c_F_Add V hok f bd _ _ w (hw _ (by repeat (first|exact Mh _|apply Mt))))) ?_
  rintro _ _ ⟨rfl,rfl⟩
  refine KAB 14 rfl rfl rfl (Nb rfl) (by kernel_rfl) rfl (KAG (first:=[_]) rfl KAr rfl (fun w hw=>KAW V hok f bd _ _ w (hw _ (by repeat (first|exact Mh _|apply Mt))) (hw _ (by repeat (first|exact Mh _|apply Mt))))) ?_
  rintro _ _ ⟨rfl,rfl⟩
  refine KAB 18 rfl rfl rfl (Nb rfl) (by kernel_rfl) rfl (KAG (first:=[_]) rfl en_152 rfl (fun w hw=>c_F_Add V hok f bd _ _ w (hw _ (by repeat (first|exact Mh _|apply Mt))))) ?_
  rintro _ _ ⟨rfl,rfl⟩
  refine KAB 19 rfl rfl rfl (Nb rfl) (by kernel_rfl) rfl (KAG (first:=[_]) rfl en_161 rfl (fun w hw=>c_F_Sub V hok f bd _ _ w (hw _ (by repeat (first|exact Mh _|apply Mt))))) ?_
  rintro _ _ ⟨rfl,rfl⟩
  refine KAo (by kernel_rfl) (fun b14=>?_)
  refine KAi ?_
  refine Kp 21 rfl rfl (by kernel_rfl) (by kernel_rfl) (KP rfl rfl sz_25 (by repeat (first|exact Kl _|exact Ks _ _ _|exact Kj _|exact Ko _ _ _|exact Kq _ _ _|exact KX|refine KS rfl ?_|refine KV ?_ ?_)) (by repeat (first|exact Sh _|apply St_)) (by first|exact KH _|exact KM _ _ _|exact KJ _|exact KU _ _ _|exact KZ _ _ _|rfl|simp [KM,KH,KJ]) ?_)
  refine Kn (by kernel_rfl) ?_
  refine KE ?_
  refine Kd [21] (by kernel_rfl) ?_
  refine KC 0 rfl (by kernel_rfl) (Nb rfl) (KD rfl) ?_
  refine KC 1 rfl (by kernel_rfl) (Nb rfl) (KD rfl) ?_
  refine KC 2 rfl (by kernel_rfl) (Nb rfl) (KD rfl) ?_
  refine KC 3 rfl (by kernel_rfl) (Nb rfl) (KL (o':=9) Try.underlying91 rfl rfl rfl sz_25 (by decide)) ?_
  refine LAny.take 4 rfl (by kernel_rfl) (Nb rfl) (KK rfl (by repeat (first|exact Mh _|apply Mt)) (by exact KAj Try.underlying25 rfl sz_25 rfl (KH _) (KH _))) ?_
  refine KC 5 rfl (by kernel_rfl) (Nb rfl) (KL (o':=18) Try.underlying91 rfl rfl rfl sz_25 (by decide)) ?_
  refine LAny.take 6 rfl (by kernel_rfl) (Nb rfl) (KK rfl (by repeat (first|exact Mh _|apply Mt)) (by exact pj_ld2 _ _ _ _ _ _)) ?_
  refine KC 8 rfl (by kernel_rfl) (Nb rfl) (KD rfl) ?_
  refine KC 9 rfl (by kernel_rfl) (Nb rfl) (KL (o':=9) Try.underlying91 rfl rfl rfl sz_25 (by decide)) ?_
  refine LAny.take 10 rfl (by kernel_rfl) (Nb rfl) (KK rfl (by repeat (first|exact Mh _|apply Mt)) (by exact KAj Try.underlying25 rfl sz_25 rfl (KH _) (KH _))) ?_
  refine KC 11 rfl (by kernel_rfl) (Nb rfl) (KL (o':=18) Try.underlying91 rfl rfl rfl sz_25 (by decide)) ?_
  refine LAny.take 12 rfl (by kernel_rfl) (Nb rfl) (KK rfl (by repeat (first|exact Mh _|apply Mt)) (by exact pj_ld2 _ _ _ _ _ _)) ?_
  refine KC 15 rfl (by kernel_rfl) (Nb rfl) (KD rfl) ?_
  refine LAny.take 16 rfl (by kernel_rfl) (Nb rfl) (KK rfl (by repeat (first|exact Mh _|apply Mt)) (by exact KN Try.underlying25 rfl sz_25)) ?_
  refine LAny.take 17 rfl (by kernel_rfl) (Nb rfl) (KK rfl (by repeat (first|exact Mh _|apply Mt)) (by exact KN Try.underlying25 rfl sz_25)) ?_
  refine LAny.toP ?_
  refine KAV 20 rfl (.inl zr_25) (Nb rfl) rfl rfl rfl ?_
  refine KAB 7 rfl rfl rfl (Nb rfl) (by kernel_rfl) rfl (KAG (first:=[_]) rfl en_152 rfl (fun w hw=>c_F_Add V hok f bd _ _ w (hw _ (by repeat (first|exact Mh _|apply Mt))))) ?_
  rintro _ _ ⟨rfl,rfl⟩
  refine KAB 13 rfl rfl rfl (Nb rfl) (by kernel_rfl) rfl (KAG (first:=[_]) rfl en_152 rfl (fun w hw=>c_F_Add V hok f bd _ _ w (hw _ (by repeat (first|exact Mh _|apply Mt))))) ?_
  rintro _ _ ⟨rfl,rfl⟩
  refine KAB 14 rfl rfl rfl (Nb rfl) (by kernel_rfl) rfl (KAG (first:=[_]) rfl KAr rfl (fun w hw=>KAW V hok f bd _ _ w (hw _ (by repeat (first|exact Mh _|apply Mt))) (hw _ (by repeat (first|exact Mh _|apply Mt))))) ?_
  rintro _ _ ⟨rfl,rfl⟩
  refine KAB 18 rfl rfl rfl (Nb rfl) (by kernel_rfl) rfl (KAG (first:=[_]) rfl en_152 rfl (fun w hw=>c_F_Add V hok f bd _ _ w (hw _ (by repeat (first|exact Mh _|apply Mt))))) ?_
  rintro _ _ ⟨rfl,rfl⟩
  refine KAB 19 rfl rfl rfl (Nb rfl) (by kernel_rfl) rfl (KAG (first:=[_]) rfl en_161 rfl (fun w hw=>c_F_Sub V hok f bd _ _ w (hw _ (by repeat (first|exact Mh _|apply Mt))))) ?_
  rintro _ _ ⟨rfl,rfl⟩
  refine KAo (by kernel_rfl) (fun b15=>?_)
  refine KAi ?_
  refine Kp 21 rfl rfl (by kernel_rfl) (by kernel_rfl) (KP rfl rfl sz_25 (by repeat (first|exact Kl _|exact Ks _ _ _|exact Kj _|exact Ko _ _ _|exact Kq _ _ _|exact KX|refine KS rfl ?_|refine KV ?_ ?_)) (by repeat (first|exact Sh _|apply St_)) (by first|exact KH _|exact KM _ _ _|exact KJ _|exact KU _ _ _|exact KZ _ _ _|rfl|simp [KM,KH,KJ]) ?_)
  refine Kn (by kernel_rfl) ?_
  refine KE ?_
  refine Kd [18] (by kernel_rfl) ?_
  refine KC 0 rfl (by kernel_rfl) (Nb rfl) (KD rfl) ?_
  refine KC 1 rfl (by kernel_rfl) (Nb rfl) (KD rfl) ?_
  refine KC 2 rfl (by kernel_rfl) (Nb rfl) (KD rfl) ?_
  refine KC 3 rfl (by kernel_rfl) (Nb rfl) (Kb rfl) ?_
  refine KC 4 rfl (by kernel_rfl) (Nb rfl) (KL (o':=60) Try.underlying147 rfl rfl rfl sz_25 (by decide)) ?_
  refine LAny.take 5 rfl (by kernel_rfl) (Nb rfl) (Det.cast (KK rfl (by repeat (first|exact Mh _|apply Mt)) (by exact cvC_ld_t3 _ _ _ _ _ _ _ _ _ _ _ _ _ _ _ _)) (t_val hok)) ?_
  refine LAny.take 6 rfl (by kernel_rfl) (Nb rfl) (KK rfl (by repeat (first|exact Mh _|apply Mt)) (by exact KN Try.underlying25 rfl sz_25)) ?_
  refine KC 8 rfl (by kernel_rfl) (Nb rfl) (KD rfl) ?_
  refine KC 9 rfl (by kernel_rfl) (Nb rfl) (KD rfl) ?_
  refine KC 10 rfl (by kernel_rfl) (Nb rfl) (Kb rfl) ?_
  refine KC 11 rfl (by kernel_rfl) (Nb rfl) (KL (o':=0) Try.underlying147 rfl rfl rfl sz_62 (by decide)) ?_
  refine KC 12 rfl (by kernel_rfl) (Nb rfl) (KL (o':=10) Try.underlying62 rfl rfl rfl sz_25 (by decide)) ?_
  refine LAny.take 13 rfl (by kernel_rfl) (Nb rfl) (Det.cast (KK rfl (by repeat (first|exact Mh _|apply Mt)) (by exact cvC_ld_a _ _ _ _ _ _ _ _ _ _ _ _ _ _ _ _)) (a_val hok)) ?_
  refine LAny.take 14 rfl (by kernel_rfl) (Nb rfl) (KK rfl (by repeat (first|exact Mh _|apply Mt)) (by exact KN Try.underlying25 rfl sz_25)) ?_
  refine LAny.toP ?_
  refine KAV 17 rfl (.inl zr_25) (Nb rfl) rfl rfl rfl ?_
  refine KAB 7 rfl rfl rfl (Nb rfl) (by kernel_rfl) rfl (KAG (first:=[_]) rfl KAr rfl (fun w hw=>KAW V hok f bd _ _ w (hw _ (by repeat (first|exact Mh _|apply Mt))) (hw _ (by repeat (first|exact Mh _|apply Mt))))) ?_
  rintro _ _ ⟨rfl,rfl⟩
  refine KAB 15 rfl rfl rfl (Nb rfl) (by kernel_rfl) rfl (KAG (first:=[_]) rfl KAr rfl (fun w hw=>KAW V hok f bd _ _ w (hw _ (by repeat (first|exact Mh _|apply Mt))) (hw _ (by repeat (first|exact Mh _|apply Mt))))) ?_
  rintro _ _ ⟨rfl,rfl⟩
  refine KAB 16 rfl rfl rfl (Nb rfl) (by kernel_rfl) rfl (KAG (first:=[_]) rfl en_152 rfl (fun w hw=>c_F_Add V hok f bd _ _ w (hw _ (by repeat (first|exact Mh _|apply Mt))))) ?_
  rintro _ _ ⟨rfl,rfl⟩
  refine KAo (by kernel_rfl) (fun b16=>?_)
  refine KAi ?_
  refine Kp 18 rfl rfl (by kernel_rfl) (by kernel_rfl) (KP rfl rfl sz_25 (by repeat (first|exact Kl _|exact Ks _ _ _|exact Kj _|exact Ko _ _ _|exact Kq _ _ _|exact KX|refine KS rfl ?_|refine KV ?_ ?_)) (by repeat (first|exact Sh _|apply St_)) (by first|exact KH _|exact KM _ _ _|exact KJ _|exact KU _ _ _|exact KZ _ _ _|rfl|simp [KM,KH,KJ]) ?_)
  refine Kn (by kernel_rfl) ?_
  refine KE (KB ?_)
  refine KA (KD rfl) (Nb rfl) ?_
  refine LOps.det (KK rfl (by repeat (first|exact Mh _|apply Mt)) (by exact KN Try.underlying25 rfl sz_25)) (Nb rfl) ?_
  refine LOps.det (KK rfl (by repeat (first|exact Mh _|apply Mt)) (by exact KN Try.underlying25 rfl sz_25)) (Nb rfl) ?_
  refine KI rfl (KT (KQ (first:=[_]) rfl en_161 rfl (Nb rfl) (fun w hw=>c_F_Sub V hok f bd _ _ w (hw _ (by repeat (first|exact Mh _|apply Mt)))) ?_))
  refine KI rfl (KT (KR (Ke zr_25) (Nb rfl) (fun b17=>?_)))
  refine KI rfl (KP rfl rfl sz_25 (by repeat (first|exact Kl _|exact Ks _ _ _|exact Kj _|exact Ko _ _ _|exact Kq _ _ _|exact KX|refine KS rfl ?_|refine KV ?_ ?_)) (by repeat (first|exact Sh _|apply St_)) (by first|exact KH _|exact KM _ _ _|exact KJ _|exact KU _ _ _|exact KZ _ _ _|rfl|simp [KM,KH,KJ]) ?_)
  refine KG ?_
  refine KE (KB ?_)
  refine KA (KD rfl) (Nb rfl) ?_
  refine LOps.det (KK rfl (by repeat (first|exact Mh _|apply Mt)) (by exact KN Try.underlying25 rfl sz_25)) (Nb rfl) ?_
  refine LOps.det (KK rfl (by repeat (first|exact Mh _|apply Mt)) (by exact KN Try.underlying25 rfl sz_25)) (Nb rfl) ?_
  refine KI rfl (KT (KQ (first:=[_]) rfl en_152 rfl (Nb rfl) (fun w hw=>c_F_Add V hok f bd _ _ w (hw _ (by repeat (first|exact Mh _|apply Mt)))) ?_))
  refine KI rfl (KP rfl rfl sz_25 (by repeat (first|exact Kl _|exact Ks _ _ _|exact Kj _|exact Ko _ _ _|exact Kq _ _ _|exact KX|refine KS rfl ?_|refine KV ?_ ?_)) (by repeat (first|exact Sh _|apply St_)) (by first|exact KH _|exact KM _ _ _|exact KJ _|exact KU _ _ _|exact KZ _ _ _|rfl|simp [KM,KH,KJ]) ?_)
  refine KG ?_
  refine KE (KB ?_)
  refine KA (KD rfl) (Nb rfl) ?_
  refine LOps.det (KK rfl (by repeat (first|exact Mh _|apply Mt)) (by exact KN Try.underlying25 rfl sz_25)) (Nb rfl) ?_
  refine LOps.det (KK rfl (by repeat (first|exact Mh _|apply Mt)) (by exact KN Try.underlying25 rfl sz_25)) (Nb rfl) ?_
  refine KI rfl (KT (KQ (first:=[_]) rfl KAr rfl (Nb rfl) (fun w hw=>KAW V hok f bd _ _ w (hw _ (by repeat (first|exact Mh _|apply Mt))) (hw _ (by repeat (first|exact Mh _|apply Mt)))) ?_))
  refine KI rfl (KT (KR (Ke zr_25) (Nb rfl) (fun b18=>?_)))
  refine KI rfl (KP rfl rfl sz_25 (by repeat (first|exact Kl _|exact Ks _ _ _|exact Kj _|exact Ko _ _ _|exact Kq _ _ _|exact KX|refine KS rfl ?_|refine KV ?_ ?_)) (by repeat (first|exact Sh _|apply St_)) (by first|exact KH _|exact KM _ _ _|exact KJ _|exact KU _ _ _|exact KZ _ _ _|rfl|simp [KM,KH,KJ]) ?_)
  refine KG ?_
  refine KE ?_
  refine Kd [7] (by kernel_rfl) ?_
  refine KC 0 rfl (by kernel_rfl) (Nb rfl) (KD rfl) ?_
  refine KC 1 rfl (by kernel_rfl) (Nb rfl) (KD rfl) ?_
  refine LAny.take 2 rfl (by kernel_rfl) (Nb rfl) (KK rfl (by repeat (first|exact Mh _|apply Mt)) (by exact KN Try.underlying25 rfl sz_25)) ?_
  refine LAny.take 3 rfl (by kernel_rfl) (Nb rfl) (KK rfl (by repeat (first|exact Mh _|apply Mt)) (by exact KN Try.underlying25 rfl sz_25)) ?_
  refine LAny.take 5 rfl (by kernel_rfl) (Nb rfl) (KK rfl (by repeat (first|exact Mh _|apply Mt)) (by exact KN Try.underlying25 rfl sz_25)) ?_
  refine Kx 4 rfl rfl (by kernel_rfl) (KQ (first:=[_]) rfl en_152 rfl (Nb rfl) (fun w hw=>c_F_Add V hok f bd _ _ w (hw _ (by repeat (first|exact Mh _|apply Mt)))) ?_)
  refine Kx 6 rfl rfl (by kernel_rfl) (KQ (first:=[_]) rfl en_152 rfl (Nb rfl) (fun w hw=>c_F_Add V hok f bd _ _ w (hw _ (by repeat (first|exact Mh _|apply Mt)))) ?_)
  refine Kp 7 rfl rfl (by kernel_rfl) (by kernel_rfl) (KP rfl rfl sz_25 (by repeat (first|exact Kl _|exact Ks _ _ _|exact Kj _|exact Ko _ _ _|exact Kq _ _ _|exact KX|refine KS rfl ?_|refine KV ?_ ?_)) (by repeat (first|exact Sh _|apply St_)) (by first|exact KH _|exact KM _ _ _|exact KJ _|exact KU _ _ _|exact KZ _ _ _|rfl|simp [KM,KH,KJ]) ?_)
  refine Kn (by kernel_rfl) ?_
  refine KE ?_
  refine Kd [8] (by kernel_rfl) ?_
  refine KC 0 rfl (by kernel_rfl) (Nb rfl) (KD rfl) ?_
  refine KC 1 rfl (by kernel_rfl) (Nb rfl) (KD rfl) ?_
  refine KC 2 rfl (by kernel_rfl) (Nb rfl) (Kb rfl) ?_
  refine KC 3 rfl (by kernel_rfl) (Nb rfl) (KL (o':=0) Try.underlying147 rfl rfl rfl sz_62 (by decide)) ?_
  refine KC 4 rfl (by kernel_rfl) (Nb rfl) (KL (o':=10) Try.underlying62 rfl rfl rfl sz_25 (by decide)) ?_
  refine LAny.take 5 rfl (by kernel_rfl) (Nb rfl) (Det.cast (KK rfl (by repeat (first|exact Mh _|apply Mt)) (by exact cvC_ld_a _ _ _ _ _ _ _ _ _ _ _ _ _ _ _ _)) (a_val hok)) ?_
  refine LAny.take 6 rfl (by kernel_rfl) (Nb rfl) (KK rfl (by repeat (first|exact Mh _|apply Mt)) (by exact KN Try.underlying25 rfl sz_25)) ?_
  refine Kx 7 rfl rfl (by kernel_rfl) (KQ (first:=[_]) rfl KAr rfl (Nb rfl) (fun w hw=>KAW V hok f bd _ _ w (hw _ (by repeat (first|exact Mh _|apply Mt))) (hw _ (by repeat (first|exact Mh _|apply Mt)))) ?_)
  refine Kp 8 rfl rfl (by kernel_rfl) (by kernel_rfl) (KP rfl rfl sz_25 (by repeat (first|exact Kl _|exact Ks _ _ _|exact Kj _|exact Ko _ _ _|exact Kq _ _ _|exact KX|refine KS rfl ?_|refine KV ?_ ?_)) (by repeat (first|exact Sh _|apply St_)) (by first|exact KH _|exact KM _ _ _|exact KJ _|exact KU _ _ _|exact KZ _ _ _|rfl|simp [KM,KH,KJ]) ?_)
  refine Kn (by kernel_rfl) ?_
  refine KE ?_
  refine Kd [7] (by kernel_rfl) ?_
  refine KC 0 rfl (by kernel_rfl) (Nb rfl) (KD rfl) ?_
  refine KC 1 rfl (by kernel_rfl) (Nb rfl) (KD rfl) ?_
  refine KC 2 rfl (by kernel_rfl) (Nb rfl) (Kb rfl) ?_
  refine KC 3 rfl (by kernel_rfl) (Nb rfl) (KL (o':=60) Try.underlying147 rfl rfl rfl sz_25 (by decide)) ?_
  refine LAny.take 4 rfl (by kernel_rfl) (Nb rfl) (Det.cast (KK rfl (by repeat (first|exact Mh _|apply Mt)) (by exact cvC_ld_t3 _ _ _ _ _ _ _ _ _ _ _ _ _ _ _ _)) (t_val hok)) ?_
  refine LAny.take 5 rfl (by kernel_rfl) (Nb rfl) (KK rfl (by repeat (first|exact Mh _|apply Mt)) (by exact KN Try.underlying25 rfl sz_25)) ?_
  refine Kx 6 rfl rfl (by kernel_rfl) (KQ (first:=[_]) rfl KAr rfl (Nb rfl) (fun w hw=>KAW V hok f bd _ _ w (hw _ (by repeat (first|exact Mh _|apply Mt))) (hw _ (by repeat (first|exact Mh _|apply Mt)))) ?_)
  refine Kp 7 rfl rfl (by kernel_rfl) (by kernel_rfl) (KP rfl rfl sz_25 (by repeat (first|exact Kl _|exact Ks _ _ _|exact Kj _|exact Ko _ _ _|exact Kq _ _ _|exact KX|refine KS rfl ?_|refine KV ?_ ?_)) (by repeat (first|exact Sh _|apply St_)) (by first|exact KH _|exact KM _ _ _|exact KJ _|exact KU _ _ _|exact KZ _ _ _|rfl|simp [KM,KH,KJ]) ?_)
  refine Kn (by kernel_rfl) ?_
  refine KE (KB ?_)
  refine KA (KD rfl) (Nb rfl) ?_
  refine LOps.det (KK rfl (by repeat (first|exact Mh _|apply Mt)) (by exact KN Try.underlying25 rfl sz_25)) (Nb rfl) ?_
  refine LOps.det (KK rfl (by repeat (first|exact Mh _|apply Mt)) (by exact KN Try.underlying25 rfl sz_25)) (Nb rfl) ?_
  refine KI rfl (KT (KQ (first:=[_]) rfl en_152 rfl (Nb rfl) (fun w hw=>c_F_Add V hok f bd _ _ w (hw _ (by repeat (first|exact Mh _|apply Mt)))) ?_))
  refine KI rfl (KP rfl rfl sz_25 (by repeat (first|exact Kl _|exact Ks _ _ _|exact Kj _|exact Ko _ _ _|exact Kq _ _ _|exact KX|refine KS rfl ?_|refine KV ?_ ?_)) (by repeat (first|exact Sh _|apply St_)) (by first|exact KH _|exact KM _ _ _|exact KJ _|exact KU _ _ _|exact KZ _ _ _|rfl|simp [KM,KH,KJ]) ?_)
  refine KG ?_
  refine KE ?_
  refine Kd [11] (by kernel_rfl) ?_
  refine KC 0 rfl (by kernel_rfl) (Nb rfl) (KD rfl) ?_
  refine KC 1 rfl (by kernel_rfl) (Nb rfl) (KD rfl) ?_
  refine KC 2 rfl (by kernel_rfl) (Nb rfl) (Kb rfl) ?_
  refine KC 3 rfl (by kernel_rfl) (Nb rfl) (KL (o':=0) Try.underlying147 rfl rfl rfl sz_62 (by decide)) ?_
  refine KC 4 rfl (by kernel_rfl) (Nb rfl) (KL (o':=10) Try.underlying62 rfl rfl rfl sz_25 (by decide)) ?_
  refine LAny.take 5 rfl (by kernel_rfl) (Nb rfl) (Det.cast (KK rfl (by repeat (first|exact Mh _|apply Mt)) (by exact cvC_ld_a _ _ _ _ _ _ _ _ _ _ _ _ _ _ _ _)) (a_val hok)) ?_
  refine KC 6 rfl (by kernel_rfl) (Nb rfl) (KD rfl) ?_
  refine LAny.take 7 rfl (by kernel_rfl) (Nb rfl) (KK rfl (by repeat (first|exact Mh _|apply Mt)) (by exact KN Try.underlying25 rfl sz_25)) ?_
  refine LAny.take 8 rfl (by kernel_rfl) (Nb rfl) (KK rfl (by repeat (first|exact Mh _|apply Mt)) (by exact KN Try.underlying25 rfl sz_25)) ?_
  refine Kx 9 rfl rfl (by kernel_rfl) (KQ (first:=[_]) rfl en_161 rfl (Nb rfl) (fun w hw=>c_F_Sub V hok f bd _ _ w (hw _ (by repeat (first|exact Mh _|apply Mt)))) ?_)
  refine Kx 10 rfl rfl (by kernel_rfl) (KQ (first:=[_]) rfl KAr rfl (Nb rfl) (fun w hw=>KAW V hok f bd _ _ w (hw _ (by repeat (first|exact Mh _|apply Mt))) (hw _ (by repeat (first|exact Mh _|apply Mt)))) ?_)
  refine Kp 11 rfl rfl (by kernel_rfl) (by kernel_rfl) (KP rfl rfl sz_25 (by repeat (first|exact Kl _|exact Ks _ _ _|exact Kj _|exact Ko _ _ _|exact Kq _ _ _|exact KX|refine KS rfl ?_|refine KV ?_ ?_)) (by repeat (first|exact Sh _|apply St_)) (by first|exact KH _|exact KM _ _ _|exact KJ _|exact KU _ _ _|exact KZ _ _ _|rfl|simp [KM,KH,KJ]) ?_)
  refine Kn (by kernel_rfl) ?_
  refine KE (KB ?_)
  refine KA (KD rfl) (Nb rfl) ?_
  refine LOps.det (KK rfl (by repeat (first|exact Mh _|apply Mt)) (by exact KN Try.underlying25 rfl sz_25)) (Nb rfl) ?_
  refine LOps.det (KK rfl (by repeat (first|exact Mh _|apply Mt)) (by exact KN Try.underlying25 rfl sz_25)) (Nb rfl) ?_
  refine KI rfl (KT (KQ (first:=[_]) rfl en_152 rfl (Nb rfl) (fun w hw=>c_F_Add V hok f bd _ _ w (hw _ (by repeat (first|exact Mh _|apply Mt)))) ?_))
  refine KI rfl (KP rfl rfl sz_25 (by repeat (first|exact Kl _|exact Ks _ _ _|exact Kj _|exact Ko _ _ _|exact Kq _ _ _|exact KX|refine KS rfl ?_|refine KV ?_ ?_)) (by repeat (first|exact Sh _|apply St_)) (by first|exact KH _|exact KM _ _ _|exact KJ _|exact KU _ _ _|exact KZ _ _ _|rfl|simp [KM,KH,KJ]) ?_)
  refine KG ?_
  refine KE ?_
  refine Kd [7] (by kernel_rfl) ?_
  refine KC 0 rfl (by kernel_rfl) (Nb rfl) (KD rfl) ?_
  refine LAny.take 1 rfl (by kernel_rfl) (Nb rfl) (KK rfl (by repeat (first|exact Mh _|apply Mt)) (by exact KN Try.underlying25 rfl sz_25)) ?_
  refine KC 2 rfl (by kernel_rfl) (Nb rfl) (KD rfl) ?_
  refine LAny.take 3 rfl (by kernel_rfl) (Nb rfl) (KK rfl (by repeat (first|exact Mh _|apply Mt)) (by exact KN Try.underlying25 rfl sz_25)) ?_
  refine LAny.take 4 rfl (by kernel_rfl) (Nb rfl) (KK rfl (by repeat (first|exact Mh _|apply Mt)) (by exact KN Try.underlying25 rfl sz_25)) ?_
  refine Kx 5 rfl rfl (by kernel_rfl) (KQ (first:=[_]) rfl KAr rfl (Nb rfl) (fun w hw=>KAW V hok f bd _ _ w (hw _ (by repeat (first|exact Mh _|apply Mt))) (hw _ (by repeat (first|exact Mh _|apply Mt)))) ?_)
  refine Kx 6 rfl rfl (by kernel_rfl) (KQ (first:=[_]) rfl en_152 rfl (Nb rfl) (fun w hw=>c_F_Add V hok f bd _ _ w (hw _ (by repeat (first|exact Mh _|apply Mt)))) ?_)
  refine Kp 7 rfl rfl (by kernel_rfl) (by kernel_rfl) (KP rfl rfl sz_25 (by repeat (first|exact Kl _|exact Ks _ _ _|exact Kj _|exact Ko _ _ _|exact Kq _ _ _|exact KX|refine KS rfl ?_|refine KV ?_ ?_)) (by repeat (first|exact Sh _|apply St_)) (by first|exact KH _|exact KM _ _ _|exact KJ _|exact KU _ _ _|exact KZ _ _ _|rfl|simp [KM,KH,KJ]) ?_)
  refine Kn (by kernel_rfl) ?_
  refine KE ?_
  refine Kd [10] (by kernel_rfl) ?_
  refine KC 0 rfl (by kernel_rfl) (Nb rfl) (KD rfl) ?_
  refine KC 1 rfl (by kernel_rfl) (Nb rfl) (KD rfl) ?_
  refine LAny.take 2 rfl (by kernel_rfl) (Nb rfl) (KK rfl (by repeat (first|exact Mh _|apply Mt)) (by exact KN Try.underlying25 rfl sz_25)) ?_
  refine LAny.take 3 rfl (by kernel_rfl) (Nb rfl) (KK rfl (by repeat (first|exact Mh _|apply Mt)) (by exact KN Try.underlying25 rfl sz_25)) ?_
  refine KC 5 rfl (by kernel_rfl) (Nb rfl) (KD rfl) ?_
  refine LAny.take 6 rfl (by kernel_rfl) (Nb rfl) (KK rfl (by repeat (first|exact Mh _|apply Mt)) (by exact KN Try.underlying25 rfl sz_25)) ?_
  refine LAny.take 7 rfl (by kernel_rfl) (Nb rfl) (KK rfl (by repeat (first|exact Mh _|apply Mt)) (by exact KN Try.underlying25 rfl sz_25)) ?_
  refine Kx 4 rfl rfl (by kernel_rfl) (KQ (first:=[_]) rfl KAr rfl (Nb rfl) (fun w hw=>KAW V hok f bd _ _ w (hw _ (by repeat (first|exact Mh _|apply Mt))) (hw _ (by repeat (first|exact Mh _|apply Mt)))) ?_)
  refine Kx 8 rfl rfl (by kernel_rfl) (KQ (first:=[_]) rfl KAr rfl (Nb rfl) (fun w hw=>KAW V hok f bd _ _ w (hw _ (by repeat (first|exact Mh _|apply Mt))) (hw _ (by repeat (first|exact Mh _|apply Mt)))) ?_)
  refine Kx 9 rfl rfl (by kernel_rfl) (KQ (first:=[_]) rfl en_161 rfl (Nb rfl) (fun w hw=>c_F_Sub V hok f bd _ _ w (hw _ (by repeat (first|exact Mh _|apply Mt)))) ?_)
  refine Kp 10 rfl rfl (by kernel_rfl) (by kernel_rfl) (KP rfl rfl sz_25 (by repeat (first|exact Kl _|exact Ks _ _ _|exact Kj _|exact Ko _ _ _|exact Kq _ _ _|exact KX|refine KS rfl ?_|refine KV ?_ ?_)) (by repeat (first|exact Sh _|apply St_)) (by first|exact KH _|exact KM _ _ _|exact KJ _|exact KU _ _ _|exact KZ _ _ _|rfl|simp [KM,KH,KJ]) ?_)
  refine Kn (by kernel_rfl) ?_
  refine KE ?_
  refine Kd [10] (by kernel_rfl) ?_
  refine KC 0 rfl (by kernel_rfl) (Nb rfl) (KD rfl) ?_
  refine KC 1 rfl (by kernel_rfl) (Nb rfl) (KD rfl) ?_
  refine LAny.take 2 rfl (by kernel_rfl) (Nb rfl) (KK rfl (by repeat (first|exact Mh _|apply Mt)) (by exact KN Try.underlying25 rfl sz_25)) ?_
  refine LAny.take 3 rfl (by kernel_rfl) (Nb rfl) (KK rfl (by repeat (first|exact Mh _|apply Mt)) (by exact KN Try.underlying25 rfl sz_25)) ?_
  refine KC 5 rfl (by kernel_rfl) (Nb rfl) (KD rfl) ?_
  refine LAny.take 6 rfl (by kernel_rfl) (Nb rfl) (KK rfl (by repeat (first|exact Mh _|apply Mt)) (by exact KN Try.underlying25 rfl sz_25)) ?_
  refine LAny.take 7 rfl (by kernel_rfl) (Nb rfl) (KK rfl (by repeat (first|exact Mh _|apply Mt)) (by exact KN Try.underlying25 rfl sz_25)) ?_
  refine Kx 4 rfl rfl (by kernel_rfl) (KQ (first:=[_]) rfl KAr rfl (Nb rfl) (fun w hw=>KAW V hok f bd _ _ w (hw _ (by repeat (first|exact Mh _|apply Mt))) (hw _ (by repeat (first|exact Mh _|apply Mt)))) ?_)
  refine Kx 8 rfl rfl (by kernel_rfl) (KQ (first:=[_]) rfl KAr rfl (Nb rfl) (fun w hw=>KAW V hok f bd _ _ w (hw _ (by repeat (first|exact Mh _|apply Mt))) (hw _ (by repeat (first|exact Mh _|apply Mt)))) ?_)
  refine Kx 9 rfl rfl (by kernel_rfl) (KQ (first:=[_]) rfl en_152 rfl (Nb rfl) (fun w hw=>c_F_Add V hok f bd _ _ w (hw _ (by repeat (first|exact Mh _|apply Mt)))) ?_)
  refine Kp 10 rfl rfl (by kernel_rfl) (by kernel_rfl) (KP rfl rfl sz_25 (by repeat (first|exact Kl _|exact Ks _ _ _|exact Kj _|exact Ko _ _ _|exact Kq _ _ _|exact KX|refine KS rfl ?_|refine KV ?_ ?_)) (by repeat (first|exact Sh _|apply St_)) (by first|exact KH _|exact KM _ _ _|exact KJ _|exact KU _ _ _|exact KZ _ _ _|rfl|simp [KM,KH,KJ]) ?_)
  refine Kn (by kernel_rfl) ?_
  refine KE (KB ?_)
  refine LOps.det (KK rfl (by repeat (first|exact Mh _|apply Mt)) (by exact KN Try.underlying25 rfl sz_25)) (Nb rfl) ?_
  refine LOps.det (KK rfl (by repeat (first|exact Mh _|apply Mt)) (by exact KN Try.underlying25 rfl sz_25)) (Nb rfl) ?_
  refine LOps.det (KK rfl (by repeat (first|exact Mh _|apply Mt)) (by exact KN Try.underlying25 rfl sz_25)) (Nb rfl) ?_
  refine KA (KW (KAR pl_91 zr_91 rfl (fill_pj _ _ _)) rfl) (Nb rfl) ?_
  refine KI rfl (KP rfl rfl sz_91 (by repeat (first|exact Kl _|exact Ks _ _ _|exact Kj _|exact Ko _ _ _|exact Kq _ _ _|exact KX|refine KS rfl ?_|refine KV ?_ ?_)) (by repeat (first|exact Sh _|apply St_)) (by first|exact KH _|exact KM _ _ _|exact KJ _|exact KU _ _ _|exact KZ _ _ _|rfl|simp [KM,KH,KJ]) ?_)
  refine KG (KY ?_)
  refine ⟨[_],.cons ⟨_,_,_,rfl,(by repeat (first|exact Mh _|apply Mt)),by exact KN Try.underlying91 rfl sz_91⟩ .nil,fun a w' hr=>⟨?_,hr.fr.below⟩⟩
  rfl
end Go.Proofs.Ytljblbgogjieaaa
set_option linter.unusedVariables false
set_option linter.unusedSimpArgs false
set_option maxRecDepth 20000
namespace Go.Proofs.Ytljblbgogjieaaa
open Go Go.RowKit
open Grp
theorem pm_top (V:Cv) (P:Pt V.p) (K:Nat):pmul V.A P (K/2^blen K) = .inf:=by rw [Nat.div_eq_of_lt (lt_blen K)]; rfl
theorem pm_T {V:Cv} (hok:V.Ok) {P:Pt V.p} (hP:On V.A V.B P) {K y:Nat} (h:K/2^y%2 = 1):padd V.A (padd V.A (pmul V.A P (K/2^(y+1))) (pmul V.A P (K/2^(y+1)))) P = pmul V.A P (K/2^y):=by
  have:=pmul_bit hok.crv hP K y
  rwa [if_pos h] at this
theorem pm_F {V:Cv} (hok:V.Ok) {P:Pt V.p} (hP:On V.A V.B P) {K y:Nat} (h:¬ K/2^y%2 = 1):padd V.A (pmul V.A P (K/2^(y+1))) (pmul V.A P (K/2^(y+1))) = pmul V.A P (K/2^y):=by
  have:=pmul_bit hok.crv hP K y
  rwa [if_neg h] at this
theorem c_r_Times (Q:CQ) (V:Cv) (qk:NV) (K:Nat) (q r:NV) (P R:Pt V.p) (w:World) (hc:(crvI Q V).holds w) (hok:V.Ok) (hk:(numT qk K).holds w) (hK:D.nw K≤1000) (hq:(numT q (xv P)).holds w) (hr:(numT r (yv P)).holds w) (hP:On V.A V.B P) (hR:pmul V.A P K = R):Calls Try.prog 64 ([.agg (crvL Q V).toArray,numV qk K,rpV (numV q (xv P)) (numV r (yv P)) (iv P)]:List Value).toArray w (fun e w'=>Num2R w (fp2 q r P []) (xv R) (yv R) (fun u v=>rpV u v (iv R)) e w'):=by
  obtain ⟨hb5,hb521,hba,hbb,hbx,hby,hbn,hbo,hbo2,hbb1,hbn1⟩:=hok.bounds
  have hsz:=hok.sz
  have hsp:=hsz.p
  have hsa:=hsz.a
  have hsb:=hsz.b
  have hp0:V.p≠0:=by omega
  have hpp:0<V.p:=by omega
  have hm17:∀ k,D.nw (k%V.p)≤17:=fun k=>Nat.le_trans (D.nw_mono (Nat.le_of_lt (Nat.mod_lt k hpp))) hsp
  refine Kz (N:=30) (rs:=[.cell 6 73]) [crvI Q V,numT qk K,numT q (xv P),numT r (yv P)] Try.func64 rfl Try.ntmps64 Try.results64 (Nb rfl) ⟨hc,hk,hq,hr,trivial⟩ rfl ?_
  show LCode _ _ _ ⟨_,_⟩ _
  refine KE (KB ?_)
  refine KI rfl (KT (KR (Ky rfl) (Nb rfl) (fun b3=>?_)))
  refine KI rfl (KT (KR (Ky rfl) (Nb rfl) (fun b5=>?_)))
  refine KI rfl (KT (KR (Ke zr_73) (Nb rfl) (fun b6=>?_)))
  refine KG ?_
  refine KE (KB ?_)
  refine KA (KW (KAR pl_73 zr_73 rfl rfl) (show _ = rpV (.slice none 0 0) (.slice none 0 0) (true) from rfl)) (Nb rfl) ?_
  refine KI rfl (KT (KR (Ke zr_73) (Nb rfl) (fun b7=>?_)))
  refine KI rfl (KP rfl rfl sz_73 (by repeat (first|exact KX|refine KS rfl ?_)) (by repeat (first|exact Sh _|apply St_)) (by rfl) ?_)
  refine KG ?_
  refine KE ?_
  refine KE ?_
  have hbk:=blen_nw K
  refine LCode.zeroNum ?_
  refine LCode.zeroNum ?_
  refine KB ?_
  refine KA (KD rfl) (Nb rfl) ?_
  refine KI rfl (KT (KQ (first:=[]) rfl en_76 rfl (Nb rfl) (fun w hw=>c_n_Bits qk K w (hw _ (by repeat (first|exact Mh _|apply Mt))) (by omega)) ?_))
  refine KA (KO (v:=.int .i64 (((blen K:Nat):Int)-1)) rfl rfl (br_subI (by omega) (by omega))) (Nb rfl) ?_
  refine KA (KF rfl) (Nb rfl) ?_
  refine KG ?_
  refine LCode.block ?_
  refine KAO (α:=Nat×NV×NV) (fun x=>x.1≤blen K∧NFr w.heap.size (fp2 q r P []) x.2.1 (D.nw (xv (pmul V.A P (K/2^x.1))))∧NFr w.heap.size (fp2 q r P []) x.2.2 (D.nw (yv (pmul V.A P (K/2^x.1))))) (fun x=>⟨[(1,numV qk K),(3,.pointer (some ⟨b3,0,none⟩)),(5,.pointer (some ⟨b5,0,none⟩)),(6,.pointer (some ⟨b6,0,none⟩)),(7,.pointer (some ⟨b7,0,none⟩)),(8,.int .i64 (((x.1:Nat):Int)-1))],[.blk b7 ⟨true,rpL (numV x.2.1 (xv (pmul V.A P (K/2^x.1)))) (numV x.2.2 (yv (pmul V.A P (K/2^x.1)))) (iv (pmul V.A P (K/2^x.1))),73,(0,0)⟩,.blk b6 ⟨true,[.slice none 0 0,.slice none 0 0,.bool false],73,(0,0)⟩,.blk b5 ⟨true,rpL (numV q (xv P)) (numV r (yv P)) (iv P),73,(0,0)⟩,.blk b3 ⟨true,crvL Q V,31,(0,0)⟩,numT x.2.1 (xv (pmul V.A P (K/2^x.1))),numT x.2.2 (yv (pmul V.A P (K/2^x.1))),crvI Q V,numT qk K,numT q (xv P),numT r (yv P)]⟩) (fun x=>x.1) ((blen K,⟨true,0,0⟩,⟨true,0,0⟩)) (⟨Nat.le_refl _,by dsimp only; rw [pm_top]; exact nfr_zero _ _,by dsimp only; rw [pm_top]; exact nfr_zero _ _⟩) (by dsimp only; rw [pm_top]; exact KAm (Sub.cells (b:=b7) (cs':=rpL (numV ⟨true,0,0⟩ (xv (Pt.inf:Pt V.p))) (numV ⟨true,0,0⟩ (yv (Pt.inf:Pt V.p))) (iv (Pt.inf:Pt V.p))) (by repeat (first|exact Sh _|apply St_)) rp_nil) (KAL ⟨rfl,rfl,rfl,rfl,rfl,rfl,trivial⟩ (by repeat (first|exact Sel.nil _|refine Sel.cons (by repeat (first|exact Ph _|apply Pt_)) ?_)))) ?_
  rintro x ⟨hx1,hx2,hx3⟩
  refine KE ?_
  refine KE ?_
  rcases Nat.eq_zero_or_pos x.1 with h0|h0
  ·
    refine KB ?_
    refine KA (KD rfl) (Nb rfl) ?_
    refine KA (KO (v:=.bool false) rfl rfl (by rw [h0]; rfl)) (Nb rfl) ?_
    refine KG ?_
    refine Km rfl ?_
    refine KAM ?_
    refine KE ?_
    have eR:pmul V.A P (K/2^x.1) = R:=by rw [h0,Nat.pow_zero,Nat.div_one]; exact hR
    rw [eR] at hx2 hx3 ⊢
    refine KB ?_
    refine LOps.det (KK rfl (by repeat (first|exact Mh _|apply Mt)) (by exact KN Try.underlying73 rfl sz_73)) (Nb rfl) ?_
    refine KI rfl (KP rfl rfl sz_73 (by repeat (first|exact KX|refine KS rfl ?_)) (by repeat (first|exact Sh _|apply St_)) (by rfl) ?_)
    refine KG (KY ?_)
    refine ⟨[_],.cons ⟨_,_,_,rfl,(by repeat (first|exact Mh _|apply Mt)),by exact KN Try.underlying73 rfl sz_73⟩ .nil,fun a w' hr=>hr.num2Q (by repeat (first|exact Mh _|apply Mt)) hx2 (by repeat (first|exact Mh _|apply Mt)) hx3⟩
  ·
    obtain ⟨y,hy⟩:∃ y,x.1 = y+1:=⟨x.1-1,by omega⟩
    rw [hy] at hx2 hx3 ⊢
    refine KB ?_
    refine KA (KD rfl) (Nb rfl) ?_
    refine KA (KO (v:=.bool true) rfl rfl (by simp [KAU] <;> omega)) (Nb rfl) ?_
    refine KG ?_
    refine Kw rfl ?_
    refine Kh ?_
    refine KE ?_
    refine LCode.block ?_
    refine KE (KB ?_)
    refine LOps.det (KK rfl (by repeat (first|exact Mh _|apply Mt)) (by exact KN Try.underlying31 rfl sz_31)) (Nb rfl) ?_
    refine LOps.det (KK rfl (by repeat (first|exact Mh _|apply Mt)) (by exact KN Try.underlying73 rfl sz_73)) (Nb rfl) ?_
    refine LOps.det (KK rfl (by repeat (first|exact Mh _|apply Mt)) (by exact KN Try.underlying73 rfl sz_73)) (Nb rfl) ?_
    refine KI rfl (KT (KAA (first:=[]) rfl en_79 rfl (Nb rfl) (fun w hw hs=>(c_r_Plus Q V x.2.1 x.2.2 x.2.1 x.2.2 (pmul V.A P (K/2^(y+1))) (pmul V.A P (K/2^(y+1))) (padd V.A (pmul V.A P (K/2^(y+1))) (pmul V.A P (K/2^(y+1)))) w (hw _ (by repeat (first|exact Mh _|apply Mt))) hok (hw _ (by repeat (first|exact Mh _|apply Mt))) (hw _ (by repeat (first|exact Mh _|apply Mt))) (hw _ (by repeat (first|exact Mh _|apply Mt))) (hw _ (by repeat (first|exact Mh _|apply Mt))) (hok.mul hP _) (hok.mul hP _) rfl).mono fun e w' h=>Num2R.q (Old.pt (by repeat (first|exact Mh _|apply Mt)) (by repeat (first|exact Mh _|apply Mt)) (Old.pt (by repeat (first|exact Mh _|apply Mt)) (by repeat (first|exact Mh _|apply Mt)) (Old.nil _))) hs h) ?_))
    rintro _ _ ⟨qda,qdb,rfl,rfl,hnda,hndb⟩
    refine KI rfl (KP rfl rfl sz_73 (by repeat (first|exact KX|refine KS rfl ?_)) (by repeat (first|exact Sh _|apply St_)) (by rfl) ?_)
    refine KG ?_
    refine KE (KB ?_)
    refine KA (KD rfl) (Nb rfl) ?_
    refine KA (KD (v:=.int .i64 ((y:Nat):Int)) (by show some _ = some _; congr 2; omega)) (Nb rfl) ?_
    refine KI rfl (KT (KQ (first:=[]) rfl en_69 rfl (Nb rfl) (fun w hw=>c_n_Bit qk K (D.nw K) y w (hw _ (by repeat (first|exact Mh _|apply Mt))) (by omega)) ?_))
    refine KA (KO rfl rfl (br_eql (b:=1))) (Nb rfl) ?_
    refine KG ?_
    first|refine Kf rfl (fun hbit=>?_) (fun hbit=>?_)|refine Ki rfl (fun hbit=>?_) (fun hbit=>?_)
    ·
      have hbit:K/2^y%2 = 1:=hbit
      refine KB ?_
      refine LOps.det (KK rfl (by repeat (first|exact Mh _|apply Mt)) (by exact KN Try.underlying31 rfl sz_31)) (Nb rfl) ?_
      refine LOps.det (KK rfl (by repeat (first|exact Mh _|apply Mt)) (by exact KN Try.underlying73 rfl sz_73)) (Nb rfl) ?_
      refine LOps.det (KK rfl (by repeat (first|exact Mh _|apply Mt)) (by exact KN Try.underlying73 rfl sz_73)) (Nb rfl) ?_
      refine KI rfl (KT (KAA (first:=[]) rfl en_79 rfl (Nb rfl) (fun w hw hs=>(c_r_Plus Q V qda qdb q r (padd V.A (pmul V.A P (K/2^(y+1))) (pmul V.A P (K/2^(y+1)))) P (pmul V.A P (K/2^y)) w (hw _ (by repeat (first|exact Mh _|apply Mt))) hok (hw _ (by repeat (first|exact Mh _|apply Mt))) (hw _ (by repeat (first|exact Mh _|apply Mt))) (hw _ (by repeat (first|exact Mh _|apply Mt))) (hw _ (by repeat (first|exact Mh _|apply Mt))) (hok.sum (hok.mul hP _) (hok.mul hP _)) hP (pm_T hok hP hbit)).mono fun e w' h=>Num2R.q (Old.pt (by repeat (first|exact Mh _|apply Mt)) (by repeat (first|exact Mh _|apply Mt)) (Old.pt (by repeat (first|exact Mh _|apply Mt)) (by repeat (first|exact Mh _|apply Mt)) (Old.nil _))) hs h) ?_))
      rintro _ _ ⟨qea,qeb,rfl,rfl,hnea,hneb⟩
      refine KI rfl (KP rfl rfl sz_73 (by repeat (first|exact KX|refine KS rfl ?_)) (by repeat (first|exact Sh _|apply St_)) (by rfl) ?_)
      refine KG ?_
      refine KB ?_
      refine KA (KD (v:=.int .i64 ((y:Nat):Int)) (by show some _ = some _; congr 2; omega)) (Nb rfl) ?_
      refine KA (KO (v:=.int .i64 (((y:Nat):Int)-1)) rfl rfl (br_subI (by omega) (by omega))) (Nb rfl) ?_
      refine KA (KF rfl) (Nb rfl) ?_
      refine KG ?_
      exact ⟨(y,qea,qeb),⟨by dsimp only; omega,NFr.two hnea (NFr.two hnda hx2 hx3 hx2 hx3) (NFr.two hndb hx2 hx3 hx2 hx3) (fp2_q _) (fp2_r _),NFr.two hneb (NFr.two hnda hx2 hx3 hx2 hx3) (NFr.two hndb hx2 hx3 hx2 hx3) (fp2_q _) (fp2_r _)⟩,by dsimp only; omega,KAL ⟨rfl,rfl,rfl,rfl,rfl,rfl,trivial⟩ (by repeat (first|exact Sel.nil _|refine Sel.cons (by repeat (first|exact Ph _|apply Pt_)) ?_))⟩
    ·
      have hbit:¬ K/2^y%2 = 1:=hbit
      refine Kh ?_
      refine KB ?_
      refine KA (KD (v:=.int .i64 ((y:Nat):Int)) (by show some _ = some _; congr 2; omega)) (Nb rfl) ?_
      refine KA (KO (v:=.int .i64 (((y:Nat):Int)-1)) rfl rfl (br_subI (by omega) (by omega))) (Nb rfl) ?_
      refine KA (KF rfl) (Nb rfl) ?_
      refine KG ?_
      rw [pm_F hok hP hbit] at hnda hndb ⊢
      exact ⟨(y,qda,qdb),⟨by dsimp only; omega,NFr.two hnda hx2 hx3 hx2 hx3,NFr.two hndb hx2 hx3 hx2 hx3⟩,by dsimp only; omega,KAL ⟨rfl,rfl,rfl,rfl,rfl,rfl,trivial⟩ (by repeat (first|exact Sel.nil _|refine Sel.cons (by repeat (first|exact Ph _|apply Pt_)) ?_))⟩
def sumT (V:Cv) (T U:Fin V.p×Fin V.p×Fin V.p):Fin V.p×Fin V.p×Fin V.p:=sum3 V.A (V.B+V.B+V.B) T.1 T.2.1 T.2.2 U.1 U.2.1 U.2.2
structure RepT (V:Cv) (T:Fin V.p×Fin V.p×Fin V.p) (P:Pt V.p):Prop where
  rep:Rep T.1 T.2.1 T.2.2 P
  on:On V.A V.B P
theorem RepT.sum {V:Cv} (hok:V.Ok) {T U:Fin V.p×Fin V.p×Fin V.p} {P R:Pt V.p} (h:RepT V T P) (k:RepT V U R):RepT V (sumT V T U) (padd V.A P R):=⟨hok.rep_sum h.rep k.rep h.on k.on,hok.sum h.on k.on⟩
theorem RepT.trip {V:Cv} (hok:V.Ok) {P:Pt V.p} (hP:On V.A V.B P):RepT V (tripF P) P:=⟨hok.rep_trip P,hP⟩
theorem c_SumT (V:Cv) (b f bd:Nat) (hok:V.Ok) (T U:Fin V.p×Fin V.p×Fin V.p) (w:World) (hb:(Item.blk b ⟨false,opL V f,147,(0,0)⟩).holds w) (hf:(Item.blk f ⟨false,fldL V.p bd,194,(0,0)⟩).holds w) (hbd:(Item.blk bd ⟨false,dvL V.p,241,(0,0)⟩).holds w):Calls Try.prog 128 ([.pointer (some ⟨b,0,none⟩),pjF T,pjF U]:List Value).toArray w (fun e w'=>e = .returned (pjF (sumT V T U))∧Below w.heap.size w w') :=
  c_Sum V b f bd hok T.1 T.2.1 T.2.2 U.1 U.2.1 U.2.2 w hb hf hbd
theorem c_PlainT (V:Cv) (b f bd:Nat) (hok:V.Ok) (T:Fin V.p×Fin V.p×Fin V.p) (P:Pt V.p) (w:World) (hb:(Item.blk b ⟨false,opL V f,147,(0,0)⟩).holds w) (hf:(Item.blk f ⟨false,fldL V.p bd,194,(0,0)⟩).holds w) (hbd:(Item.blk bd ⟨false,dvL V.p,241,(0,0)⟩).holds w) (h:RepT V T P):Calls Try.prog 127 ([.pointer (some ⟨b,0,none⟩),pjF T]:List Value).toArray w (fun e w'=>e = .returned (ptP P)∧Below w.heap.size w w'):=by
  have:=c_Plain V b f bd hok T.1 T.2.1 T.2.2 w hb hf hbd
  rwa [Rep.plain hok.prime h.rep] at this
end Go.Proofs.Ytljblbgogjieaaa
set_option linter.unusedVariables false
set_option linter.unusedSimpArgs false
set_option maxRecDepth 20000
namespace Go.Proofs.Ytljblbgogjieaaa
open Go Go.RowKit
def uidx (x:Int):Nat:=(x%18446744073709551616).toNat
theorem uidx_eq (x:Int):Value.int .u64 (IntKind.u64.wrap x) = Value.int .u64 ((uidx x:Nat):Int):=by
  unfold uidx
  rw [wrap_u64,Int.toNat_of_nonneg (Int.emod_nonneg _ (by decide))]
theorem cvI_idx (x:Int):∃ V,cvI ((1+uidx x%15:Nat):Int) = some V:=by
  rw [cvI_nat]; exact cvOf_some (by omega) (by omega)
theorem cvI_id {id:Int} {V:Cv} (h:cvI id = some V):cvI ((V.id:Nat):Int) = some V:=by rw [(cvI_ok h).2]; exact h
end Go.Proofs.Ytljblbgogjieaaa
set_option linter.unusedVariables false
set_option linter.unusedSimpArgs false
set_option maxRecDepth 20000
namespace Go.Proofs.Ytljblbgogjieaaa
open Go Go.RowKit
open Grp
theorem Brings.own {w w':World} {H:List Item} {b:Nat} {cs:List Value} {e:TypeId} (hb:Below w.heap.size w w') (h:(Item.blk b ⟨true,cs,e,(0,0)⟩).holds w') (hn:w.heap.size≤b):Brings w H [.blk b ⟨true,cs,e,(0,0)⟩] w' :=
  ⟨hb,(by intro x hx; simp at hx; subst hx; exact h),(by intro x hx k hk; simp at hx; subst hx; simp [Item.fp] at hk; subst hk; exact .inl hn),(by intro x hx _ k hk; simp at hx; subst hx; simp [Item.fp] at hk; subst hk; exact hn),List.pairwise_singleton _ _⟩
end Go.Proofs.Ytljblbgogjieaaa
set_option linter.unusedVariables false
set_option linter.unusedSimpArgs false
set_option maxRecDepth 20000
namespace Go.Proofs.Ytljblbgogjieaaa
open Go Go.RowKit
open Grp
theorem xG {V:Cv} (hok:V.Ok):xv V.G = V.x:=val_c hok.bounds.2.2.2.2.1
theorem yG {V:Cv} (hok:V.Ok):yv V.G = V.y:=val_c hok.bounds.2.2.2.2.2.1
end Go.Proofs.Ytljblbgogjieaaa
set_option linter.unusedVariables false
set_option linter.unusedSimpArgs false
set_option maxRecDepth 20000
namespace Go.Proofs.Ytljblbgogjieaaa
open Go Go.RowKit
open Grp
theorem c_cOnB (V:Cv) (b f bd:Nat) (hok:V.Ok) (X Y:Nat) (i r:Bool) (w:World) (hb:(Item.blk b ⟨false,opL V f,147,(0,0)⟩).holds w) (hf:(Item.blk f ⟨false,fldL V.p bd,194,(0,0)⟩).holds w) (hbd:(Item.blk bd ⟨false,dvL V.p,241,(0,0)⟩).holds w) (hX:X<W9) (hY:Y<W9) (hr:onB V.p V.a V.b X Y i = r):Calls Try.prog 122 ([.pointer (some ⟨b,0,none⟩),ptV X Y i]:List Value).toArray w (fun e w'=>e = .returned (.bool r)∧Below w.heap.size w w'):=by
  have:=c_cOn V b f bd hok X Y i w hb hf hbd hX hY
  rwa [hr] at this
theorem c_cOnP (V:Cv) (b f bd:Nat) (hok:V.Ok) (P:Pt V.p) (w:World) (hb:(Item.blk b ⟨false,opL V f,147,(0,0)⟩).holds w) (hf:(Item.blk f ⟨false,fldL V.p bd,194,(0,0)⟩).holds w) (hbd:(Item.blk bd ⟨false,dvL V.p,241,(0,0)⟩).holds w) (hP:On V.A V.B P):Calls Try.prog 122 ([.pointer (some ⟨b,0,none⟩),ptP P]:List Value).toArray w (fun e w'=>e = .returned (.bool true)∧Below w.heap.size w w') :=
  c_cOnB V b f bd hok (xv P) (yv P) (iv P) true w hb hf hbd (pt_w9 hok P).1 (pt_w9 hok P).2 (onB_on hP)
end Go.Proofs.Ytljblbgogjieaaa
set_option linter.unusedVariables false
set_option linter.unusedSimpArgs false
set_option maxRecDepth 20000
namespace Go.Proofs.Ytljblbgogjieaaa
open Go Go.RowKit
open Grp
section
variable {P:Program} {C:Ctx} {d:Nat} {ty:TypeId} {pos:String} {aft:Array Edge} {K:St→Prop} {x:Operand} {v:Value}
end
theorem c_slope (V:Cv) (b f bd:Nat) (hok:V.Ok) (l x1 y1 x2 y2:Fin V.p) (i j:Bool) (w:World) (hb:(Item.blk b ⟨false,opL V f,147,(0,0)⟩).holds w) (hf:(Item.blk f ⟨false,fldL V.p bd,194,(0,0)⟩).holds w) (hbd:(Item.blk bd ⟨false,dvL V.p,241,(0,0)⟩).holds w):Calls Try.prog 162 ([.agg ([.pointer (some ⟨b,0,none⟩)]:List Value).toArray,natV l.val,ptV x1.val y1.val i,ptV x2.val y2.val j]:List Value).toArray w (fun e w'=>e = .returned (ptV (l*l-x1-x2).val (l*(x1-(l*l-x1-x2))-y1).val false)∧Below w.heap.size w w'):=by
  have hbb:=hok.bounds
  have hpW:V.p<W9:=w9_521 hbb.2.1
  refine Kz (N:=42) (rs:=[.cell 8 60]) [.blk b ⟨false,opL V f,147,(0,0)⟩,.blk f ⟨false,fldL V.p bd,194,(0,0)⟩,.blk bd ⟨false,dvL V.p,241,(0,0)⟩] Try.func162 rfl Try.ntmps162 Try.results162 (Nb rfl) ⟨hb,hf,hbd,trivial⟩ rfl ?_
  show LCode _ _ _ ⟨_,_⟩ _
  refine KE (KB ?_)
  refine KI rfl (KT (KR (Ky rfl) (Nb rfl) (fun b4=>?_)))
  refine KI rfl (KT (KR (Ky rfl) (Nb rfl) (fun b5=>?_)))
  refine KI rfl (KT (KR (Ky rfl) (Nb rfl) (fun b6=>?_)))
  refine KI rfl (KT (KR (Ky rfl) (Nb rfl) (fun b7=>?_)))
  refine KI rfl (KT (KR (Ke zr_60) (Nb rfl) (fun b8=>?_)))
  refine KG ?_
  refine KE (KB ?_)
  refine KA (KL (o':=0) Try.underlying169 rfl rfl rfl sz_142 (by decide)) (Nb rfl) ?_
  refine LOps.det (KK rfl (by repeat (first|exact Mh _|apply Mt)) (Ka Try.underlying142 rfl (by first|rfl|exact Kv _ _ _ (by omega)|exact Ku _ (by omega)|exact Kt _ (by omega)|exact dv_m _ _ _ (by omega)))) (Nb rfl) ?_
  refine KA (Kb rfl) (Nb rfl) ?_
  refine KA (KL (o':=59) Try.underlying147 rfl rfl rfl sz_145 (by decide)) (Nb rfl) ?_
  refine LOps.det (KK rfl (by repeat (first|exact Mh _|apply Mt)) (Ka Try.underlying145 rfl (by exact cvC_gt_F _ _ _ _ _ _ _ _ _ _ _ _ _))) (Nb rfl) ?_
  refine KA (KF rfl) (Nb rfl) ?_
  refine KG ?_
  refine KE ?_
  refine Kd [13] (by kernel_rfl) ?_
  refine KC 0 rfl (by kernel_rfl) (Nb rfl) (KD rfl) ?_
  refine KC 1 rfl (by kernel_rfl) (Nb rfl) (KD rfl) ?_
  refine KC 2 rfl (by kernel_rfl) (Nb rfl) (KD rfl) ?_
  refine LAny.take 3 rfl (by kernel_rfl) (Nb rfl) (KK rfl (by repeat (first|exact Mh _|apply Mt)) (by exact KN Try.underlying25 rfl sz_25)) ?_
  refine LAny.take 4 rfl (by kernel_rfl) (Nb rfl) (KK rfl (by repeat (first|exact Mh _|apply Mt)) (by exact KN Try.underlying25 rfl sz_25)) ?_
  refine KC 6 rfl (by kernel_rfl) (Nb rfl) (KL (o':=0) Try.underlying60 rfl rfl rfl sz_25 (by decide)) ?_
  refine LAny.take 7 rfl (by kernel_rfl) (Nb rfl) (KK rfl (by repeat (first|exact Mh _|apply Mt)) (by exact KAH Try.underlying25 rfl sz_25 rfl (KH _))) ?_
  refine KC 9 rfl (by kernel_rfl) (Nb rfl) (KL (o':=0) Try.underlying60 rfl rfl rfl sz_25 (by decide)) ?_
  refine LAny.take 10 rfl (by kernel_rfl) (Nb rfl) (KK rfl (by repeat (first|exact Mh _|apply Mt)) (by exact KAH Try.underlying25 rfl sz_25 rfl (KH _))) ?_
  refine LAny.toP ?_
  refine KAV 12 rfl (.inl zr_25) (Nb rfl) rfl rfl rfl ?_
  refine KAB 5 rfl rfl rfl (Nb rfl) (by kernel_rfl) rfl (KAG (first:=[]) rfl KAr rfl (fun w hw=>KAW V hok f bd _ _ w (hw _ (by repeat (first|exact Mh _|apply Mt))) (hw _ (by repeat (first|exact Mh _|apply Mt))))) ?_
  rintro _ _ ⟨rfl,rfl⟩
  refine KAB 8 rfl rfl rfl (Nb rfl) (by kernel_rfl) rfl (KAG (first:=[]) rfl en_161 rfl (fun w hw=>c_F_Sub V hok f bd _ _ w (hw _ (by repeat (first|exact Mh _|apply Mt))))) ?_
  rintro _ _ ⟨rfl,rfl⟩
  refine KAB 11 rfl rfl rfl (Nb rfl) (by kernel_rfl) rfl (KAG (first:=[]) rfl en_161 rfl (fun w hw=>c_F_Sub V hok f bd _ _ w (hw _ (by repeat (first|exact Mh _|apply Mt))))) ?_
  rintro _ _ ⟨rfl,rfl⟩
  refine KAo (by kernel_rfl) (fun b10=>?_)
  refine KAi ?_
  refine Kp 13 rfl rfl (by kernel_rfl) (by kernel_rfl) (KP rfl rfl sz_25 (by repeat (first|exact Kl _|exact Ks _ _ _|exact Kj _|exact Ko _ _ _|exact Kq _ _ _|exact KX|refine KS rfl ?_|refine KV ?_ ?_)) (by repeat (first|exact Sh _|apply St_)) (by first|exact KH _|exact KM _ _ _|exact KJ _|exact KU _ _ _|exact KZ _ _ _|rfl|simp [KM,KH,KJ]) ?_)
  refine Kn (by kernel_rfl) ?_
  refine KE ?_
  refine Kd [14] (by kernel_rfl) ?_
  refine LAny.take 0 rfl (by kernel_rfl) (Nb rfl) (KK rfl (by repeat (first|exact Mh _|apply Mt)) (by exact KN Try.underlying25 rfl sz_25)) ?_
  refine KC 1 rfl (by kernel_rfl) (Nb rfl) (KD rfl) ?_
  refine KC 2 rfl (by kernel_rfl) (Nb rfl) (KD rfl) ?_
  refine LAny.take 3 rfl (by kernel_rfl) (Nb rfl) (KK rfl (by repeat (first|exact Mh _|apply Mt)) (by exact KN Try.underlying25 rfl sz_25)) ?_
  refine KC 4 rfl (by kernel_rfl) (Nb rfl) (KD rfl) ?_
  refine KC 5 rfl (by kernel_rfl) (Nb rfl) (KL (o':=0) Try.underlying60 rfl rfl rfl sz_25 (by decide)) ?_
  refine LAny.take 6 rfl (by kernel_rfl) (Nb rfl) (KK rfl (by repeat (first|exact Mh _|apply Mt)) (by exact KAH Try.underlying25 rfl sz_25 rfl (KH _))) ?_
  refine LAny.take 7 rfl (by kernel_rfl) (Nb rfl) (KK rfl (by repeat (first|exact Mh _|apply Mt)) (by exact KN Try.underlying25 rfl sz_25)) ?_
  refine KC 10 rfl (by kernel_rfl) (Nb rfl) (KL (o':=9) Try.underlying60 rfl rfl rfl sz_25 (by decide)) ?_
  refine LAny.take 11 rfl (by kernel_rfl) (Nb rfl) (KK rfl (by repeat (first|exact Mh _|apply Mt)) (by exact pt_ld1 _ _ _ _ _ _)) ?_
  refine Kx 8 rfl rfl (by kernel_rfl) (KQ (first:=[]) rfl en_161 rfl (Nb rfl) (fun w hw=>c_F_Sub V hok f bd _ _ w (hw _ (by repeat (first|exact Mh _|apply Mt)))) ?_)
  refine Kx 9 rfl rfl (by kernel_rfl) (KQ (first:=[]) rfl KAr rfl (Nb rfl) (fun w hw=>KAW V hok f bd _ _ w (hw _ (by repeat (first|exact Mh _|apply Mt))) (hw _ (by repeat (first|exact Mh _|apply Mt)))) ?_)
  refine Kx 12 rfl rfl (by kernel_rfl) (KQ (first:=[]) rfl en_161 rfl (Nb rfl) (fun w hw=>c_F_Sub V hok f bd _ _ w (hw _ (by repeat (first|exact Mh _|apply Mt)))) ?_)
  refine KC 13 rfl (by kernel_rfl) (Nb rfl) (KW (KAR pl_60 zr_60 rfl (fill_pt _ _)) rfl) ?_
  refine Kp 14 rfl rfl (by kernel_rfl) (by kernel_rfl) (KP rfl rfl sz_60 (by repeat (first|exact Kl _|exact Ks _ _ _|exact Kj _|exact Ko _ _ _|exact Kq _ _ _|exact KX|refine KS rfl ?_|refine KV ?_ ?_)) (by repeat (first|exact Sh _|apply St_)) (by first|exact KH _|exact KM _ _ _|exact KJ _|exact KU _ _ _|exact KZ _ _ _|rfl|simp [KM,KH,KJ]) ?_)
  refine Kn (by kernel_rfl) ?_
  refine KY ?_
  refine ⟨[_],.cons ⟨_,_,_,rfl,(by repeat (first|exact Mh _|apply Mt)),by exact KN Try.underlying60 rfl sz_60⟩ .nil,fun a w' hr=>⟨?_,hr.fr.below⟩⟩
  rfl
theorem c_gadd (V:Cv) (b f bd:Nat) (hok:V.Ok) (P P2 R:Pt V.p) (w:World) (hb:(Item.blk b ⟨false,opL V f,147,(0,0)⟩).holds w) (hf:(Item.blk f ⟨false,fldL V.p bd,194,(0,0)⟩).holds w) (hbd:(Item.blk bd ⟨false,dvL V.p,241,(0,0)⟩).holds w) (hP:On V.A V.B P) (hP2:On V.A V.B P2) (hR:padd V.A P P2 = R):Calls Try.prog 131 ([.agg ([.pointer (some ⟨b,0,none⟩)]:List Value).toArray,ptP P,ptP P2]:List Value).toArray w (fun e w'=>e = .returned (ptP R)∧Below w.heap.size w w'):=by
  have hbb:=hok.bounds
  have hpW:V.p<W9:=w9_521 hbb.2.1
  refine Kz (N:=96) (rs:=[.cell 6 60]) [.blk b ⟨false,opL V f,147,(0,0)⟩,.blk f ⟨false,fldL V.p bd,194,(0,0)⟩,.blk bd ⟨false,dvL V.p,241,(0,0)⟩] Try.func131 rfl Try.ntmps131 Try.results131 (Nb rfl) ⟨hb,hf,hbd,trivial⟩ rfl ?_
  show LCode _ _ _ ⟨_,_⟩ _
  refine KE (KB ?_)
  refine KI rfl (KT (KR (Ky rfl) (Nb rfl) (fun b3=>?_)))
  refine KI rfl (KT (KR (Ky rfl) (Nb rfl) (fun b4=>?_)))
  refine KI rfl (KT (KR (Ky rfl) (Nb rfl) (fun b5=>?_)))
  refine KI rfl (KT (KR (Ke zr_60) (Nb rfl) (fun b6=>?_)))
  refine KG ?_
  refine KE ?_
  rcases P with _|⟨x1,y1⟩
  ·
    have eR:=(hok.inf_add hP2).symm.trans hR
    subst eR
    refine KB ?_
    refine KA (KL (o':=0) Try.underlying169 rfl rfl rfl sz_142 (by decide)) (Nb rfl) ?_
    refine LOps.det (KK rfl (by repeat (first|exact Mh _|apply Mt)) (Ka Try.underlying142 rfl (by first|rfl|exact Kv _ _ _ (by omega)|exact Ku _ (by omega)|exact Kt _ (by omega)|exact dv_m _ _ _ (by omega)))) (Nb rfl) ?_
    refine KA (Kb rfl) (Nb rfl) ?_
    refine KA (KL (o':=59) Try.underlying147 rfl rfl rfl sz_145 (by decide)) (Nb rfl) ?_
    refine LOps.det (KK rfl (by repeat (first|exact Mh _|apply Mt)) (Ka Try.underlying145 rfl (by exact cvC_gt_F _ _ _ _ _ _ _ _ _ _ _ _ _))) (Nb rfl) ?_
    refine KA (KF rfl) (Nb rfl) ?_
    refine KG ?_
    refine KE ?_
    refine LCode.block ?_
    refine KE (KB ?_)
    refine KA (KL (o':=18) Try.underlying60 rfl rfl rfl sz_4 (by decide)) (Nb rfl) ?_
    refine LOps.det (KK rfl (by repeat (first|exact Mh _|apply Mt)) (Ka Try.underlying4 rfl (by exact pt_gt _ _ _))) (Nb rfl) ?_
    refine KA (KF rfl) (Nb rfl) ?_
    refine KG ?_
    refine Kw rfl ?_
    refine KE (KB ?_)
    refine LOps.det (KK rfl (by repeat (first|exact Mh _|apply Mt)) (by exact KN Try.underlying60 rfl sz_60)) (Nb rfl) ?_
    refine KI rfl (KP rfl rfl sz_60 (by repeat (first|exact Kl _|exact Ks _ _ _|exact Kj _|exact Ko _ _ _|exact Kq _ _ _|exact KX|refine KS rfl ?_|refine KV ?_ ?_)) (by repeat (first|exact Sh _|apply St_)) (by first|exact KH _|exact KM _ _ _|exact KJ _|exact KU _ _ _|exact KZ _ _ _|rfl|simp [KM,KH,KJ]) ?_)
    refine KG (KY ?_)
    refine ⟨[_],.cons ⟨_,_,_,rfl,(by repeat (first|exact Mh _|apply Mt)),by exact KN Try.underlying60 rfl sz_60⟩ .nil,fun a w' hr=>⟨?_,hr.fr.below⟩⟩
    rfl
  ·
    refine KB ?_
    refine KA (KL (o':=0) Try.underlying169 rfl rfl rfl sz_142 (by decide)) (Nb rfl) ?_
    refine LOps.det (KK rfl (by repeat (first|exact Mh _|apply Mt)) (Ka Try.underlying142 rfl (by first|rfl|exact Kv _ _ _ (by omega)|exact Ku _ (by omega)|exact Kt _ (by omega)|exact dv_m _ _ _ (by omega)))) (Nb rfl) ?_
    refine KA (Kb rfl) (Nb rfl) ?_
    refine KA (KL (o':=59) Try.underlying147 rfl rfl rfl sz_145 (by decide)) (Nb rfl) ?_
    refine LOps.det (KK rfl (by repeat (first|exact Mh _|apply Mt)) (Ka Try.underlying145 rfl (by exact cvC_gt_F _ _ _ _ _ _ _ _ _ _ _ _ _))) (Nb rfl) ?_
    refine KA (KF rfl) (Nb rfl) ?_
    refine KG ?_
    refine KE ?_
    refine LCode.block ?_
    refine KE (KB ?_)
    refine KA (KL (o':=18) Try.underlying60 rfl rfl rfl sz_4 (by decide)) (Nb rfl) ?_
    refine LOps.det (KK rfl (by repeat (first|exact Mh _|apply Mt)) (Ka Try.underlying4 rfl (by exact pt_gt _ _ _))) (Nb rfl) ?_
    refine KA (KF rfl) (Nb rfl) ?_
    refine KG ?_
    refine Km rfl ?_
    refine KE ?_
    rcases P2 with _|⟨x2,y2⟩
    ·
      have eR:=(hok.add_inf hP).symm.trans hR
      subst eR
      refine KB ?_
      refine KA (KL (o':=18) Try.underlying60 rfl rfl rfl sz_4 (by decide)) (Nb rfl) ?_
      refine LOps.det (KK rfl (by repeat (first|exact Mh _|apply Mt)) (Ka Try.underlying4 rfl (by exact pt_gt _ _ _))) (Nb rfl) ?_
      refine KA (KF rfl) (Nb rfl) ?_
      refine KG ?_
      refine Kw rfl ?_
      refine KE (KB ?_)
      refine LOps.det (KK rfl (by repeat (first|exact Mh _|apply Mt)) (by exact KN Try.underlying60 rfl sz_60)) (Nb rfl) ?_
      refine KI rfl (KP rfl rfl sz_60 (by repeat (first|exact Kl _|exact Ks _ _ _|exact Kj _|exact Ko _ _ _|exact Kq _ _ _|exact KX|refine KS rfl ?_|refine KV ?_ ?_)) (by repeat (first|exact Sh _|apply St_)) (by first|exact KH _|exact KM _ _ _|exact KJ _|exact KU _ _ _|exact KZ _ _ _|rfl|simp [KM,KH,KJ]) ?_)
      refine KG (KY ?_)
      refine ⟨[_],.cons ⟨_,_,_,rfl,(by repeat (first|exact Mh _|apply Mt)),by exact KN Try.underlying60 rfl sz_60⟩ .nil,fun a w' hr=>⟨?_,hr.fr.below⟩⟩
      rfl
    ·
      refine KB ?_
      refine KA (KL (o':=18) Try.underlying60 rfl rfl rfl sz_4 (by decide)) (Nb rfl) ?_
      refine LOps.det (KK rfl (by repeat (first|exact Mh _|apply Mt)) (Ka Try.underlying4 rfl (by exact pt_gt _ _ _))) (Nb rfl) ?_
      refine KA (KF rfl) (Nb rfl) ?_
      refine KG ?_
      refine Km rfl ?_
      refine KE ?_
      by_cases hx:x1 = x2
      ·
        refine KB ?_
        refine KA (KL (o':=0) Try.underlying60 rfl rfl rfl sz_25 (by decide)) (Nb rfl) ?_
        refine LOps.det (KK rfl (by repeat (first|exact Mh _|apply Mt)) (by exact KAH Try.underlying25 rfl sz_25 rfl (KH _))) (Nb rfl) ?_
        refine KA (KL (o':=0) Try.underlying60 rfl rfl rfl sz_25 (by decide)) (Nb rfl) ?_
        refine LOps.det (KK rfl (by repeat (first|exact Mh _|apply Mt)) (by exact KAH Try.underlying25 rfl sz_25 rfl (KH _))) (Nb rfl) ?_
        refine KA (KW (Det.nea (by kernel_rfl) (fun w=>eq_nat x1.val x2.val (Nat.lt_trans x1.isLt hpW) (Nat.lt_trans x2.isLt hpW) 10000 (by decide) w) rfl rfl) (show _ = Value.bool false by rw [decide_eq_true (congrArg Fin.val hx)]; rfl)) (Nb rfl) ?_
        refine KA (KF rfl) (Nb rfl) ?_
        refine KG ?_
        refine Km rfl ?_
        refine KE ?_
        by_cases hy:y1 = y2
        ·
          have hy0:¬ y1.val = 0:=y_pos hok hP
          refine KB ?_
          refine KA (KL (o':=9) Try.underlying60 rfl rfl rfl sz_25 (by decide)) (Nb rfl) ?_
          refine LOps.det (KK rfl (by repeat (first|exact Mh _|apply Mt)) (by exact pt_ld1 _ _ _ _ _ _)) (Nb rfl) ?_
          refine KA (KL (o':=9) Try.underlying60 rfl rfl rfl sz_25 (by decide)) (Nb rfl) ?_
          refine LOps.det (KK rfl (by repeat (first|exact Mh _|apply Mt)) (by exact pt_ld1 _ _ _ _ _ _)) (Nb rfl) ?_
          refine KA (KW (Det.nea (by kernel_rfl) (fun w=>eq_nat y1.val y2.val (Nat.lt_trans y1.isLt hpW) (Nat.lt_trans y2.isLt hpW) 10000 (by decide) w) rfl rfl) (show _ = Value.bool false by rw [decide_eq_true (congrArg Fin.val hy)]; rfl)) (Nb rfl) ?_
          refine KA (KD rfl) (Nb rfl) ?_
          refine Kg rfl rfl (KL (o':=9) Try.underlying60 rfl rfl rfl sz_25 (by decide)) (Nb rfl) ?_
          refine KAZ rfl rfl (KK rfl (by repeat (first|exact Mh _|apply Mt)) (by exact pt_ld1 _ _ _ _ _ _)) (Nb rfl) ?_
          refine Kg rfl rfl (KW (KAR pl_25 zr_25 rfl rfl) (show _ = natV 0 by unfold natV natL; rw [← vec_zeros 9])) (Nb rfl) ?_
          refine Kg rfl rfl (KW (Det.eqa (by kernel_rfl) (fun w=>eq_nat y1.val 0 (Nat.lt_trans y1.isLt hpW) zero_w9 10000 (by decide) w) rfl rfl) (show _ = Value.bool false by rw [decide_eq_false hy0])) (Nb rfl) ?_
          refine KA (KAC rfl rfl) (Nb rfl) ?_
          refine KA (KF rfl) (Nb rfl) ?_
          refine KG ?_
          refine Km rfl ?_
          refine Kh ?_
          refine KE ?_
          subst hx hy
          have eR:=(add_tangF hok.prime hok.fld hP (fin_ne0 hy0)).symm.trans hR
          subst eR
          refine KB ?_
          refine KA (KD rfl) (Nb rfl) ?_
          refine KA (KL (o':=0) Try.underlying60 rfl rfl rfl sz_25 (by decide)) (Nb rfl) ?_
          refine LOps.det (KK rfl (by repeat (first|exact Mh _|apply Mt)) (by exact KAH Try.underlying25 rfl sz_25 rfl (KH _))) (Nb rfl) ?_
          refine KA (KL (o':=0) Try.underlying60 rfl rfl rfl sz_25 (by decide)) (Nb rfl) ?_
          refine LOps.det (KK rfl (by repeat (first|exact Mh _|apply Mt)) (by exact KAH Try.underlying25 rfl sz_25 rfl (KH _))) (Nb rfl) ?_
          refine KI rfl (KT (KQ (first:=[]) rfl KAr rfl (Nb rfl) (fun w hw=>KAW V hok f bd _ _ w (hw _ (by repeat (first|exact Mh _|apply Mt))) (hw _ (by repeat (first|exact Mh _|apply Mt)))) ?_))
          refine KI rfl (KT (KR (Ke zr_25) (Nb rfl) (fun b8=>?_)))
          refine KI rfl (KP rfl rfl sz_25 (by repeat (first|exact Kl _|exact Ks _ _ _|exact Kj _|exact Ko _ _ _|exact Kq _ _ _|exact KX|refine KS rfl ?_|refine KV ?_ ?_)) (by repeat (first|exact Sh _|apply St_)) (by first|exact KH _|exact KM _ _ _|exact KJ _|exact KU _ _ _|exact KZ _ _ _|rfl|simp [KM,KH,KJ]) ?_)
          refine KG ?_
          refine KE ?_
          refine Kd [29] (by kernel_rfl) ?_
          refine LAny.take 0 rfl (by kernel_rfl) (Nb rfl) (KK rfl (by repeat (first|exact Mh _|apply Mt)) (by exact KN Try.underlying169 rfl sz_169)) ?_
          refine KC 1 rfl (by kernel_rfl) (Nb rfl) (KD rfl) ?_
          refine KC 2 rfl (by kernel_rfl) (Nb rfl) (KD rfl) ?_
          refine KC 3 rfl (by kernel_rfl) (Nb rfl) (KD rfl) ?_
          refine KC 4 rfl (by kernel_rfl) (Nb rfl) (KD rfl) ?_
          refine LAny.take 5 rfl (by kernel_rfl) (Nb rfl) (KK rfl (by repeat (first|exact Mh _|apply Mt)) (by exact KN Try.underlying25 rfl sz_25)) ?_
          refine LAny.take 6 rfl (by kernel_rfl) (Nb rfl) (KK rfl (by repeat (first|exact Mh _|apply Mt)) (by exact KN Try.underlying25 rfl sz_25)) ?_
          refine LAny.take 8 rfl (by kernel_rfl) (Nb rfl) (KK rfl (by repeat (first|exact Mh _|apply Mt)) (by exact KN Try.underlying25 rfl sz_25)) ?_
          refine KC 10 rfl (by kernel_rfl) (Nb rfl) (KL (o':=0) Try.underlying169 rfl rfl rfl sz_142 (by decide)) ?_
          refine LAny.take 11 rfl (by kernel_rfl) (Nb rfl) (KK rfl (by repeat (first|exact Mh _|apply Mt)) (Ka Try.underlying142 rfl (by first|rfl|exact Kv _ _ _ (by omega)|exact Ku _ (by omega)|exact Kt _ (by omega)|exact dv_m _ _ _ (by omega)))) ?_
          refine KC 12 rfl (by kernel_rfl) (Nb rfl) (Kb rfl) ?_
          refine KC 13 rfl (by kernel_rfl) (Nb rfl) (KL (o':=0) Try.underlying147 rfl rfl rfl sz_62 (by decide)) ?_
          refine KC 14 rfl (by kernel_rfl) (Nb rfl) (KL (o':=10) Try.underlying62 rfl rfl rfl sz_25 (by decide)) ?_
          refine LAny.take 15 rfl (by kernel_rfl) (Nb rfl) (Det.cast (KK rfl (by repeat (first|exact Mh _|apply Mt)) (by exact cvC_ld_a _ _ _ _ _ _ _ _ _ _ _ _ _ _ _ _)) (a_val hok)) ?_
          refine KC 17 rfl (by kernel_rfl) (Nb rfl) (KD rfl) ?_
          refine KC 18 rfl (by kernel_rfl) (Nb rfl) (KD rfl) ?_
          refine KC 19 rfl (by kernel_rfl) (Nb rfl) (KL (o':=9) Try.underlying60 rfl rfl rfl sz_25 (by decide)) ?_
          refine LAny.take 20 rfl (by kernel_rfl) (Nb rfl) (KK rfl (by repeat (first|exact Mh _|apply Mt)) (by exact pt_ld1 _ _ _ _ _ _)) ?_
          refine KC 21 rfl (by kernel_rfl) (Nb rfl) (KL (o':=9) Try.underlying60 rfl rfl rfl sz_25 (by decide)) ?_
          refine LAny.take 22 rfl (by kernel_rfl) (Nb rfl) (KK rfl (by repeat (first|exact Mh _|apply Mt)) (by exact pt_ld1 _ _ _ _ _ _)) ?_
          refine LAny.take 26 rfl (by kernel_rfl) (Nb rfl) (KK rfl (by repeat (first|exact Mh _|apply Mt)) (by exact KN Try.underlying60 rfl sz_60)) ?_
          refine LAny.take 27 rfl (by kernel_rfl) (Nb rfl) (KK rfl (by repeat (first|exact Mh _|apply Mt)) (by exact KN Try.underlying60 rfl sz_60)) ?_
          refine Kx 7 rfl rfl (by kernel_rfl) (KQ (first:=[]) rfl en_152 rfl (Nb rfl) (fun w hw=>c_F_Add V hok f bd _ _ w (hw _ (by repeat (first|exact Mh _|apply Mt)))) ?_)
          refine Kx 9 rfl rfl (by kernel_rfl) (KQ (first:=[]) rfl en_152 rfl (Nb rfl) (fun w hw=>c_F_Add V hok f bd _ _ w (hw _ (by repeat (first|exact Mh _|apply Mt)))) ?_)
          refine Kx 16 rfl rfl (by kernel_rfl) (KQ (first:=[]) rfl en_152 rfl (Nb rfl) (fun w hw=>c_F_Add V hok f bd _ _ w (hw _ (by repeat (first|exact Mh _|apply Mt)))) ?_)
          refine Kx 23 rfl rfl (by kernel_rfl) (KQ (first:=[]) rfl en_152 rfl (Nb rfl) (fun w hw=>c_F_Add V hok f bd _ _ w (hw _ (by repeat (first|exact Mh _|apply Mt)))) ?_)
          refine Kx 24 rfl rfl (by kernel_rfl) (KQ (first:=[]) rfl en_160 rfl (Nb rfl) (fun w hw=>c_F_Inv V hok f bd _ w (hw _ (by repeat (first|exact Mh _|apply Mt)))) ?_)
          refine Kx 25 rfl rfl (by kernel_rfl) (KQ (first:=[]) rfl KAr rfl (Nb rfl) (fun w hw=>KAW V hok f bd _ _ w (hw _ (by repeat (first|exact Mh _|apply Mt))) (hw _ (by repeat (first|exact Mh _|apply Mt)))) ?_)
          refine Kx 28 rfl rfl (by kernel_rfl) (KQ (first:=[]) rfl en_162 rfl (Nb rfl) (fun w hw=>c_slope V b f bd hok ((x1*x1+x1*x1+x1*x1+V.A)*finv (y1+y1)) x1 y1 x1 y1 false false w (hw _ (by repeat (first|exact Mh _|apply Mt))) (hw _ (by repeat (first|exact Mh _|apply Mt))) (hw _ (by repeat (first|exact Mh _|apply Mt)))) ?_)
          refine Kp 29 rfl rfl (by kernel_rfl) (by kernel_rfl) (KP rfl rfl sz_60 (by repeat (first|exact Kl _|exact Ks _ _ _|exact Kj _|exact Ko _ _ _|exact Kq _ _ _|exact KX|refine KS rfl ?_|refine KV ?_ ?_)) (by repeat (first|exact Sh _|apply St_)) (by first|exact KH _|exact KM _ _ _|exact KJ _|exact KU _ _ _|exact KZ _ _ _|rfl|simp [KM,KH,KJ]) ?_)
          refine Kn (by kernel_rfl) ?_
          refine KY ?_
          refine ⟨[_],.cons ⟨_,_,_,rfl,(by repeat (first|exact Mh _|apply Mt)),by exact KN Try.underlying60 rfl sz_60⟩ .nil,fun a w' hr=>⟨?_,hr.fr.below⟩⟩
          rfl
        ·
          have eR:=(add_opp hok.fld hP hP2 hx hy).symm.trans hR
          subst eR
          refine KB ?_
          refine KA (KL (o':=9) Try.underlying60 rfl rfl rfl sz_25 (by decide)) (Nb rfl) ?_
          refine LOps.det (KK rfl (by repeat (first|exact Mh _|apply Mt)) (by exact pt_ld1 _ _ _ _ _ _)) (Nb rfl) ?_
          refine KA (KL (o':=9) Try.underlying60 rfl rfl rfl sz_25 (by decide)) (Nb rfl) ?_
          refine LOps.det (KK rfl (by repeat (first|exact Mh _|apply Mt)) (by exact pt_ld1 _ _ _ _ _ _)) (Nb rfl) ?_
          refine KA (KW (Det.nea (by kernel_rfl) (fun w=>eq_nat y1.val y2.val (Nat.lt_trans y1.isLt hpW) (Nat.lt_trans y2.isLt hpW) 10000 (by decide) w) rfl rfl) (show _ = Value.bool true by rw [decide_eq_false (fun e=>hy (Fin.ext e))]; rfl)) (Nb rfl) ?_
          refine KA (KD rfl) (Nb rfl) ?_
          refine Kr rfl rfl rfl (Nb rfl) ?_
          refine Kr rfl rfl rfl (Nb rfl) ?_
          refine Kr rfl rfl rfl (Nb rfl) ?_
          refine Kr rfl rfl rfl (Nb rfl) ?_
          refine KA (KAI rfl rfl) (Nb rfl) ?_
          refine KA (KF rfl) (Nb rfl) ?_
          refine KG ?_
          refine Kw rfl ?_
          refine KE (KB ?_)
          refine KA (KW (KAR pl_60 zr_60 rfl fill_ptInf) rfl) (Nb rfl) ?_
          refine KI rfl (KP rfl rfl sz_60 (by repeat (first|exact Kl _|exact Ks _ _ _|exact Kj _|exact Ko _ _ _|exact Kq _ _ _|exact KX|refine KS rfl ?_|refine KV ?_ ?_)) (by repeat (first|exact Sh _|apply St_)) (by first|exact KH _|exact KM _ _ _|exact KJ _|exact KU _ _ _|exact KZ _ _ _|rfl|simp [KM,KH,KJ]) ?_)
          refine KG (KY ?_)
          refine ⟨[_],.cons ⟨_,_,_,rfl,(by repeat (first|exact Mh _|apply Mt)),by exact KN Try.underlying60 rfl sz_60⟩ .nil,fun a w' hr=>⟨?_,hr.fr.below⟩⟩
          rfl
      ·
        refine KB ?_
        refine KA (KL (o':=0) Try.underlying60 rfl rfl rfl sz_25 (by decide)) (Nb rfl) ?_
        refine LOps.det (KK rfl (by repeat (first|exact Mh _|apply Mt)) (by exact KAH Try.underlying25 rfl sz_25 rfl (KH _))) (Nb rfl) ?_
        refine KA (KL (o':=0) Try.underlying60 rfl rfl rfl sz_25 (by decide)) (Nb rfl) ?_
        refine LOps.det (KK rfl (by repeat (first|exact Mh _|apply Mt)) (by exact KAH Try.underlying25 rfl sz_25 rfl (KH _))) (Nb rfl) ?_
        refine KA (KW (Det.nea (by kernel_rfl) (fun w=>eq_nat x1.val x2.val (Nat.lt_trans x1.isLt hpW) (Nat.lt_trans x2.isLt hpW) 10000 (by decide) w) rfl rfl) (show _ = Value.bool true by rw [decide_eq_false (fun e=>hx (Fin.ext e))]; rfl)) (Nb rfl) ?_
        refine KA (KF rfl) (Nb rfl) ?_
        refine KG ?_
        refine Kw rfl ?_
        refine KE ?_
        have eR:=(add_chordF hok.prime hok.fld hP hP2 hx).symm.trans hR
        subst eR
        refine Kd [20] (by kernel_rfl) ?_
        refine LAny.take 0 rfl (by kernel_rfl) (Nb rfl) (KK rfl (by repeat (first|exact Mh _|apply Mt)) (by exact KN Try.underlying169 rfl sz_169)) ?_
        refine KC 1 rfl (by kernel_rfl) (Nb rfl) (KD rfl) ?_
        refine KC 2 rfl (by kernel_rfl) (Nb rfl) (KD rfl) ?_
        refine KC 3 rfl (by kernel_rfl) (Nb rfl) (KL (o':=9) Try.underlying60 rfl rfl rfl sz_25 (by decide)) ?_
        refine LAny.take 4 rfl (by kernel_rfl) (Nb rfl) (KK rfl (by repeat (first|exact Mh _|apply Mt)) (by exact pt_ld1 _ _ _ _ _ _)) ?_
        refine KC 5 rfl (by kernel_rfl) (Nb rfl) (KL (o':=9) Try.underlying60 rfl rfl rfl sz_25 (by decide)) ?_
        refine LAny.take 6 rfl (by kernel_rfl) (Nb rfl) (KK rfl (by repeat (first|exact Mh _|apply Mt)) (by exact pt_ld1 _ _ _ _ _ _)) ?_
        refine KC 8 rfl (by kernel_rfl) (Nb rfl) (KD rfl) ?_
        refine KC 9 rfl (by kernel_rfl) (Nb rfl) (KD rfl) ?_
        refine KC 10 rfl (by kernel_rfl) (Nb rfl) (KL (o':=0) Try.underlying60 rfl rfl rfl sz_25 (by decide)) ?_
        refine LAny.take 11 rfl (by kernel_rfl) (Nb rfl) (KK rfl (by repeat (first|exact Mh _|apply Mt)) (by exact KAH Try.underlying25 rfl sz_25 rfl (KH _))) ?_
        refine KC 12 rfl (by kernel_rfl) (Nb rfl) (KL (o':=0) Try.underlying60 rfl rfl rfl sz_25 (by decide)) ?_
        refine LAny.take 13 rfl (by kernel_rfl) (Nb rfl) (KK rfl (by repeat (first|exact Mh _|apply Mt)) (by exact KAH Try.underlying25 rfl sz_25 rfl (KH _))) ?_
        refine LAny.take 17 rfl (by kernel_rfl) (Nb rfl) (KK rfl (by repeat (first|exact Mh _|apply Mt)) (by exact KN Try.underlying60 rfl sz_60)) ?_
        refine LAny.take 18 rfl (by kernel_rfl) (Nb rfl) (KK rfl (by repeat (first|exact Mh _|apply Mt)) (by exact KN Try.underlying60 rfl sz_60)) ?_
        refine Kx 7 rfl rfl (by kernel_rfl) (KQ (first:=[]) rfl en_161 rfl (Nb rfl) (fun w hw=>c_F_Sub V hok f bd _ _ w (hw _ (by repeat (first|exact Mh _|apply Mt)))) ?_)
        refine Kx 14 rfl rfl (by kernel_rfl) (KQ (first:=[]) rfl en_161 rfl (Nb rfl) (fun w hw=>c_F_Sub V hok f bd _ _ w (hw _ (by repeat (first|exact Mh _|apply Mt)))) ?_)
        refine Kx 15 rfl rfl (by kernel_rfl) (KQ (first:=[]) rfl en_160 rfl (Nb rfl) (fun w hw=>c_F_Inv V hok f bd _ w (hw _ (by repeat (first|exact Mh _|apply Mt)))) ?_)
        refine Kx 16 rfl rfl (by kernel_rfl) (KQ (first:=[]) rfl KAr rfl (Nb rfl) (fun w hw=>KAW V hok f bd _ _ w (hw _ (by repeat (first|exact Mh _|apply Mt))) (hw _ (by repeat (first|exact Mh _|apply Mt)))) ?_)
        refine Kx 19 rfl rfl (by kernel_rfl) (KQ (first:=[]) rfl en_162 rfl (Nb rfl) (fun w hw=>c_slope V b f bd hok ((y2-y1)*finv (x2-x1)) x1 y1 x2 y2 false false w (hw _ (by repeat (first|exact Mh _|apply Mt))) (hw _ (by repeat (first|exact Mh _|apply Mt))) (hw _ (by repeat (first|exact Mh _|apply Mt)))) ?_)
        refine Kp 20 rfl rfl (by kernel_rfl) (by kernel_rfl) (KP rfl rfl sz_60 (by repeat (first|exact Kl _|exact Ks _ _ _|exact Kj _|exact Ko _ _ _|exact Kq _ _ _|exact KX|refine KS rfl ?_|refine KV ?_ ?_)) (by repeat (first|exact Sh _|apply St_)) (by first|exact KH _|exact KM _ _ _|exact KJ _|exact KU _ _ _|exact KZ _ _ _|rfl|simp [KM,KH,KJ]) ?_)
        refine Kn (by kernel_rfl) ?_
        refine KY ?_
        refine ⟨[_],.cons ⟨_,_,_,rfl,(by repeat (first|exact Mh _|apply Mt)),by exact KN Try.underlying60 rfl sz_60⟩ .nil,fun a w' hr=>⟨?_,hr.fr.below⟩⟩
        rfl
theorem c_do_ok (id:Int) (V:Cv) (P P2 R:Pt V.p) (fid:FuncId) (w:World) (h:cvI id = some V) (hP:On V.A V.B P) (hP2:On V.A V.B P2) (he:KAP Try.prog fid) (hc:∀ b f bd (w:World),(Item.blk b ⟨false,opL V f,147,(0,0)⟩).holds w→(Item.blk f ⟨false,fldL V.p bd,194,(0,0)⟩).holds w→(Item.blk bd ⟨false,dvL V.p,241,(0,0)⟩).holds w→Calls Try.prog fid ([.agg ([.pointer (some ⟨b,0,none⟩)]:List Value).toArray,ptP P,ptP P2]:List Value).toArray w (fun e w'=>e = .returned (ptP R)∧Below w.heap.size w w')):Calls Try.prog 130 ([.int .i64 id,ptP P,ptP P2,.func (.func fid) #[] #[]]:List Value).toArray w (fun e w'=>e = .returned (.tuple #[ptP R,.int .i64 ((0:Nat):Int)])∧Below w.heap.size w w'):=by
  obtain ⟨hok,hid⟩:=cvI_ok h
  have hbb:=hok.bounds
  have hpW:V.p<W9:=w9_521 hbb.2.1
  have hnW:V.n<W9:=w9_521 hbb.2.2.2.2.2.2.1
  have hbl:=blen_w9 hnW
  have hnb:nby V.n≤72:=by (unfold nby; omega)
  refine Kz (N:=35) (rs:=[.cell 8 60,.tmp 9]) [] Try.func130 rfl Try.ntmps130 Try.results130 (Nb rfl) trivial rfl ?_
  show LCode _ _ _ ⟨_,_⟩ _
  refine KE (KB ?_)
  refine KI rfl (KT (KR (Ky rfl) (Nb rfl) (fun b5=>?_)))
  refine KI rfl (KT (KR (Ky rfl) (Nb rfl) (fun b6=>?_)))
  refine KI rfl (KT (KR (Ke zr_60) (Nb rfl) (fun b8=>?_)))
  refine KA (KF (v:=.int .i64 ((0:Nat):Int)) rfl) (Nb rfl) ?_
  refine KG ?_
  refine KE (KB ?_)
  refine KA (KD rfl) (Nb rfl) ?_
  refine KI rfl (KT (KAA (Post:=fun v its=>∃ b f bd,v = .pointer (some ⟨b,0,none⟩)∧its = [.blk b ⟨false,opL V f,147,(0,0)⟩,.blk f ⟨false,fldL V.p bd,194,(0,0)⟩,.blk bd ⟨false,dvL V.p,241,(0,0)⟩]) (first:=[]) rfl en_112 rfl (Nb rfl) (fun w1 hw hs=>(c_Open _ V w1 h).mono fun e w' ⟨b,f,bd,h1,h2,h3,h4,h5,h6,h7,h8⟩=>⟨_,_,⟨b,f,bd,rfl,rfl⟩,h1,Brings.nums h8 (by intro x hx; simp at hx; rcases hx with rfl|rfl|rfl; exact h2; exact h3; exact h4) (by intro x hx; simp at hx; rcases hx with rfl|rfl|rfl <;> rfl) (by intro x hx k hk; simp at hx; rcases hx with rfl|rfl|rfl <;> simp [Item.fp] at hk <;> subst hk; exact .inl h5; exact .inl h6; exact .inl h7)⟩) ?_))
  rintro _ _ ⟨b,f,bd,rfl,rfl⟩
  refine KA (KF rfl) (Nb rfl) ?_
  refine KG ?_
  refine KE ?_
  refine LCode.block ?_
  refine KE (KB ?_)
  refine KA (KD rfl) (Nb rfl) ?_
  refine KA (KW (Det.eqp Try.underlying142 rfl rfl) (show _ = Value.bool false from rfl)) (Nb rfl) ?_
  refine KA (KF rfl) (Nb rfl) ?_
  refine KG ?_
  refine Km rfl ?_
  refine KE (KB ?_)
  refine KA (KD rfl) (Nb rfl) ?_
  refine LOps.det (KK rfl (by repeat (first|exact Mh _|apply Mt)) (by exact KN Try.underlying60 rfl sz_60)) (Nb rfl) ?_
  refine KI rfl (KT (KQ (first:=[]) rfl en_122 rfl (Nb rfl) (fun w hw=>c_cOnP V b f bd hok (P) w (hw _ (by repeat (first|exact Mh _|apply Mt))) (hw _ (by repeat (first|exact Mh _|apply Mt))) (hw _ (by repeat (first|exact Mh _|apply Mt))) hP) ?_))
  refine KA (KW (KAs rfl) (show _ = Value.bool false from rfl)) (Nb rfl) ?_
  refine KA (KD rfl) (Nb rfl) ?_
  refine Kg rfl rfl (KD rfl) (Nb rfl) ?_
  refine KAZ rfl rfl (KK rfl (by repeat (first|exact Mh _|apply Mt)) (by exact KN Try.underlying60 rfl sz_60)) (Nb rfl) ?_
  refine LOps.stepG rfl rfl rfl (KT (KQ (first:=[]) rfl en_122 rfl (Nb rfl) (fun w hw=>c_cOnP V b f bd hok (P2) w (hw _ (by repeat (first|exact Mh _|apply Mt))) (hw _ (by repeat (first|exact Mh _|apply Mt))) (hw _ (by repeat (first|exact Mh _|apply Mt))) hP2) ?_))
  refine Kg rfl rfl (KW (KAs rfl) (show _ = Value.bool false from rfl)) (Nb rfl) ?_
  refine KA (KAC rfl rfl) (Nb rfl) ?_
  refine KA (KF rfl) (Nb rfl) ?_
  refine KG ?_
  refine Km rfl ?_
  refine Kh ?_
  refine KE (KB ?_)
  refine KA (KD rfl) (Nb rfl) ?_
  refine KA (KD rfl) (Nb rfl) ?_
  refine KA (KW (KAR pl_169 zr_169 rfl rfl) (show _ = Value.agg ([.pointer (some ⟨b,0,none⟩)]:List Value).toArray from rfl)) (Nb rfl) ?_
  refine LOps.det (KK rfl (by repeat (first|exact Mh _|apply Mt)) (by exact KN Try.underlying60 rfl sz_60)) (Nb rfl) ?_
  refine LOps.det (KK rfl (by repeat (first|exact Mh _|apply Mt)) (by exact KN Try.underlying60 rfl sz_60)) (Nb rfl) ?_
  refine KI rfl (KT (KQ (first:=[]) rfl he rfl (Nb rfl) (fun w hw=>hc b f bd w (hw _ (by repeat (first|exact Mh _|apply Mt))) (hw _ (by repeat (first|exact Mh _|apply Mt))) (hw _ (by repeat (first|exact Mh _|apply Mt)))) ?_))
  refine KI rfl (KP rfl rfl sz_60 (by repeat (first|exact Kl _|exact Ks _ _ _|exact Kj _|exact Ko _ _ _|exact Kq _ _ _|exact KX|refine KS rfl ?_|refine KV ?_ ?_)) (by repeat (first|exact Sh _|apply St_)) (by first|exact KH _|exact KM _ _ _|exact KJ _|exact KU _ _ _|exact KZ _ _ _|rfl|simp [KM,KH,KJ]) ?_)
  refine KA (KF (v:=.int .i64 ((0:Nat):Int)) rfl) (Nb rfl) ?_
  refine KG (KY ?_)
  refine ⟨[_,_],.cons ⟨_,_,_,rfl,(by repeat (first|exact Mh _|apply Mt)),by exact KN Try.underlying60 rfl sz_60⟩ (.cons rfl .nil),fun a w' hr=>⟨?_,hr.fr.below⟩⟩
  rfl
theorem c_affAdd (id:Int) (V:Cv) (P P2 R:Pt V.p) (w:World) (h:cvI id = some V) (hP:On V.A V.B P) (hP2:On V.A V.B P2) (hR:padd V.A P P2 = R):Calls Try.prog 88 ([.int .i64 id,ptP P,ptP P2]:List Value).toArray w (fun e w'=>e = .returned (.tuple #[ptP R,.int .i64 ((0:Nat):Int)])∧Below w.heap.size w w'):=by
  obtain ⟨hok,hid⟩:=cvI_ok h
  refine Kz (N:=14) (rs:=[.cell 6 60,.tmp 7]) [] Try.func88 rfl Try.ntmps88 Try.results88 (Nb rfl) trivial rfl ?_
  show LCode _ _ _ ⟨_,_⟩ _
  refine KE (KB ?_)
  refine KI rfl (KT (KR (Ky rfl) (Nb rfl) (fun b4=>?_)))
  refine KI rfl (KT (KR (Ky rfl) (Nb rfl) (fun b5=>?_)))
  refine KI rfl (KT (KR (Ke zr_60) (Nb rfl) (fun b6=>?_)))
  refine KA (KF (v:=.int .i64 ((0:Nat):Int)) rfl) (Nb rfl) ?_
  refine KG ?_
  refine KE (KB ?_)
  refine KA (KD rfl) (Nb rfl) ?_
  refine LOps.det (KK rfl (by repeat (first|exact Mh _|apply Mt)) (by exact KN Try.underlying60 rfl sz_60)) (Nb rfl) ?_
  refine LOps.det (KK rfl (by repeat (first|exact Mh _|apply Mt)) (by exact KN Try.underlying60 rfl sz_60)) (Nb rfl) ?_
  refine KI rfl (KT (KQ (first:=[]) rfl en_130 rfl (Nb rfl) (fun w hw=>c_do_ok id V P P2 R 131 w h hP hP2 en_131 (fun b f bd w h1 h2 h3=>c_gadd V b f bd hok P P2 R w h1 h2 h3 hP hP2 hR)) ?_))
  refine KA (Kc rfl rfl) (Nb rfl) ?_
  refine KA (Kc rfl rfl) (Nb rfl) ?_
  refine KI rfl (KP rfl rfl sz_60 (by repeat (first|exact Kl _|exact Ks _ _ _|exact Kj _|exact Ko _ _ _|exact Kq _ _ _|exact KX|refine KS rfl ?_|refine KV ?_ ?_)) (by repeat (first|exact Sh _|apply St_)) (by first|exact KH _|exact KM _ _ _|exact KJ _|exact KU _ _ _|exact KZ _ _ _|rfl|simp [KM,KH,KJ]) ?_)
  refine KA (KF rfl) (Nb rfl) ?_
  refine KG (KY ?_)
  refine ⟨[_,_],.cons ⟨_,_,_,rfl,(by repeat (first|exact Mh _|apply Mt)),by exact KN Try.underlying60 rfl sz_60⟩ (.cons rfl .nil),fun a w' hr=>⟨?_,hr.fr.below⟩⟩
  rfl
end Go.Proofs.Ytljblbgogjieaaa
set_option linter.unusedVariables false
set_option linter.unusedSimpArgs false
set_option maxRecDepth 20000
namespace Go.Proofs.Ytljblbgogjieaaa
open Go Go.RowKit
open Grp
theorem c_r_GP (Q:CQ) (V:Cv) (w:World) (hc:(crvI Q V).holds w) (hok:V.Ok):Calls Try.prog 80 ([.agg (crvL Q V).toArray]:List Value).toArray w (fun e w'=>Num2R w (crvI Q V).fp (xv V.G) (yv V.G) (fun u v=>rpV u v (iv V.G)) e w'):=by
  rw [xG hok,yG hok]
  exact c_r_G Q V w hc
theorem c_r_OutP (V:Cv) (q r:NV) (P:Pt V.p) (w:World) (hq:(numT q (xv P)).holds w) (hr:(numT r (yv P)).holds w):Calls Try.prog 66 ([rpV (numV q (xv P)) (numV r (yv P)) (iv P)]:List Value).toArray w (fun e w'=>e = .returned (ptP P)∧Below w.heap.size w w'):=c_r_Out q r (xv P) (yv P) (iv P) w hq hr
end Go.Proofs.Ytljblbgogjieaaa
set_option linter.unusedVariables false
set_option linter.unusedSimpArgs false
set_option maxRecDepth 20000
namespace Go.Proofs.Ytljblbgogjieaaa
open Go Go.RowKit
open Grp
theorem two_mul {V:Cv} (hok:V.Ok) {P:Pt V.p} (hP:On V.A V.B P):padd V.A P P = pmul V.A P 2:=by
  show _ = padd V.A (padd V.A .inf P) P
  rw [hok.inf_add hP]
end Go.Proofs.Ytljblbgogjieaaa
set_option linter.unusedVariables false
set_option linter.unusedSimpArgs false
set_option maxRecDepth 20000
namespace Go.Proofs.Ytljblbgogjieaaa
open Go Go.RowKit
open Grp
theorem add_mod {V:Cv} (hok:V.Ok) (i j:Nat):padd V.A (pmul V.A V.G i) (pmul V.A V.G j) = pmul V.A V.G ((i+j)%V.n):=by
  rw [← pmul_mod hok.crv hok.on hok.ord,pmul_add hok.crv hok.on]
end Go.Proofs.Ytljblbgogjieaaa
set_option linter.unusedVariables false
set_option linter.unusedSimpArgs false
set_option maxRecDepth 20000
namespace Go.Proofs.Ytljblbgogjieaaa
open Go Go.RowKit
open Grp
theorem eq_pj (X Y Z X' Y' Z':Nat) (hX:X<W9) (hY:Y<W9) (hZ:Z<W9) (hX':X' < W9) (hY':Y' < W9) (hZ':Z' < W9):EqD 4 Try.prog 91 (pjV X Y Z) (pjV X' Y' Z') (decide (X = X') && (decide (Y = Y') && (decide (Z = Z') && true))):=by
  have d1:∀ A B E,((pjL A B E).drop 0).take 9 = natL A:=fun A B E=>by
    rw [List.drop_zero]; unfold pjL; rw [List.take_left' (KH A)]
  have d2:∀ A B E,((pjL A B E).drop 9).take 9 = natL B:=fun A B E=>by
    unfold pjL; rw [List.drop_left' (KH A),List.take_left' (KH B)]
  have d3:∀ A B E,((pjL A B E).drop 18).take 9 = natL E:=fun A B E=>by
    unfold pjL; rw [← List.append_assoc,List.drop_left' (by simp [KH]),take_all]
  exact EqD.struct (fs:=[_,_,_]) Try.underlying91 (by kernel_rfl) (EqFs.cons (by decide) (PartOf.agg Try.underlying25 rfl sz_25 (d1 X Y Z)) (PartOf.agg Try.underlying25 rfl sz_25 (d1 X' Y' Z')) (eq_nat X X' hX hX')
    (EqFs.cons (by decide) (PartOf.agg Try.underlying25 rfl sz_25 (d2 X Y Z)) (PartOf.agg Try.underlying25 rfl sz_25 (d2 X' Y' Z')) (eq_nat Y Y' hY hY')
    (EqFs.cons (by decide) (PartOf.agg Try.underlying25 rfl sz_25 (d3 X Y Z)) (PartOf.agg Try.underlying25 rfl sz_25 (d3 X' Y' Z')) (eq_nat Z Z' hZ hZ') EqFs.nil)))
def TrHas (V:Cv) (X Y Z:Nat):Prop:=∃ T:Fin V.p×Fin V.p×Fin V.p,T.1.val = X∧T.2.1.val = Y∧T.2.2.val = Z∧HasF V.A V.B T.1 T.2.1 T.2.2
theorem RepT.has {V:Cv} {T:Fin V.p×Fin V.p×Fin V.p} {P:Pt V.p} (h:RepT V T P):TrHas V T.1.val T.2.1.val T.2.2.val:=⟨T,rfl,rfl,rfl,Rep.has h.rep h.on⟩
theorem TrHas.rep {V:Cv} (hok:V.Ok) {X Y Z:Nat} (h:TrHas V X Y Z):∃ (T:Fin V.p×Fin V.p×Fin V.p) (P:Pt V.p),T.1.val = X∧T.2.1.val = Y∧T.2.2.val = Z∧RepT V T P:=by
  obtain ⟨T,h1,h2,h3,h4⟩:=h
  obtain ⟨h5,h6⟩:=h4.rep hok.prime hok.fld
  exact ⟨T,_,h1,h2,h3,h5,h6⟩
theorem c_hasT (V:Cv) (b f bd:Nat) (hok:V.Ok) (T:Fin V.p×Fin V.p×Fin V.p) (w:World) (hb:(Item.blk b ⟨false,opL V f,147,(0,0)⟩).holds w) (hf:(Item.blk f ⟨false,fldL V.p bd,194,(0,0)⟩).holds w) (hbd:(Item.blk bd ⟨false,dvL V.p,241,(0,0)⟩).holds w) (hT:HasF V.A V.B T.1 T.2.1 T.2.2):Calls Try.prog 159 ([.pointer (some ⟨b,0,none⟩),pjF T]:List Value).toArray w (fun e w'=>e = .returned (.bool true)∧Below w.heap.size w w'):=by
  have hbb:=hok.bounds
  have hpW:V.p<W9:=w9_521 hbb.2.1
  obtain ⟨x,y,z⟩:=T
  obtain ⟨hz,he⟩:=hT
  dsimp only at hz he
  have hz0:(decide (x.val = 0) && (decide (y.val = 0) && (decide (z.val = 0) && true))) = false:=by
    cases h0:(decide (x.val = 0) && (decide (y.val = 0) && (decide (z.val = 0) && true))) with
    | false=>rfl
    | true =>
      simp only [Bool.and_true,Bool.and_eq_true,decide_eq_true_eq] at h0
      exact absurd ⟨Fin.ext h0.1,Fin.ext h0.2.1,Fin.ext h0.2.2⟩ hz
  refine Kz (N:=90) (rs:=[.tmp 4]) [.blk b ⟨false,opL V f,147,(0,0)⟩,.blk f ⟨false,fldL V.p bd,194,(0,0)⟩,.blk bd ⟨false,dvL V.p,241,(0,0)⟩] Try.func159 rfl Try.ntmps159 Try.results159 (Nb rfl) ⟨hb,hf,hbd,trivial⟩ rfl ?_
  show LCode _ _ _ ⟨_,_⟩ _
  refine KE (KB ?_)
  refine KI rfl (KT (KR (Ky rfl) (Nb rfl) (fun b3=>?_)))
  refine KA (KF rfl) (Nb rfl) ?_
  refine KG ?_
  refine KE (KB ?_)
  refine KA (KD rfl) (Nb rfl) ?_
  refine KA (Kb rfl) (Nb rfl) ?_
  refine KA (KL (o':=59) Try.underlying147 rfl rfl rfl sz_145 (by decide)) (Nb rfl) ?_
  refine LOps.det (KK rfl (by repeat (first|exact Mh _|apply Mt)) (Ka Try.underlying145 rfl (by exact cvC_gt_F _ _ _ _ _ _ _ _ _ _ _ _ _))) (Nb rfl) ?_
  refine KA (KF rfl) (Nb rfl) ?_
  refine KG ?_
  refine KE ?_
  refine KE (KB ?_)
  refine KA (KD rfl) (Nb rfl) ?_
  refine KA (KL (o':=0) Try.underlying91 rfl rfl rfl sz_25 (by decide)) (Nb rfl) ?_
  refine LOps.det (KK rfl (by repeat (first|exact Mh _|apply Mt)) (by exact KAH Try.underlying25 rfl sz_25 rfl (KH _))) (Nb rfl) ?_
  refine KI rfl (KT (KQ (first:=[]) rfl en_155 rfl (Nb rfl) (fun w hw=>c_HasT V f bd x.val w (hw _ (by repeat (first|exact Mh _|apply Mt))) (Nat.lt_trans x.isLt hpW) hpW x.isLt) ?_))
  refine KA (KW (KAs rfl) (show _ = Value.bool false from rfl)) (Nb rfl) ?_
  refine KA (KD rfl) (Nb rfl) ?_
  refine Kg rfl rfl (KD rfl) (Nb rfl) ?_
  refine Kg rfl rfl (KL (o':=9) Try.underlying91 rfl rfl rfl sz_25 (by decide)) (Nb rfl) ?_
  refine KAZ rfl rfl (KK rfl (by repeat (first|exact Mh _|apply Mt)) (by exact KAj Try.underlying25 rfl sz_25 rfl (KH _) (KH _))) (Nb rfl) ?_
  refine LOps.stepG rfl rfl rfl (KT (KQ (first:=[]) rfl en_155 rfl (Nb rfl) (fun w hw=>c_HasT V f bd y.val w (hw _ (by repeat (first|exact Mh _|apply Mt))) (Nat.lt_trans y.isLt hpW) hpW y.isLt) ?_))
  refine Kg rfl rfl (KW (KAs rfl) (show _ = Value.bool false from rfl)) (Nb rfl) ?_
  refine KA (KAC rfl rfl) (Nb rfl) ?_
  refine KA (KD rfl) (Nb rfl) ?_
  refine Kg rfl rfl (KD rfl) (Nb rfl) ?_
  refine Kg rfl rfl (KL (o':=18) Try.underlying91 rfl rfl rfl sz_25 (by decide)) (Nb rfl) ?_
  refine KAZ rfl rfl (KK rfl (by repeat (first|exact Mh _|apply Mt)) (by exact pj_ld2 _ _ _ _ _ _)) (Nb rfl) ?_
  refine LOps.stepG rfl rfl rfl (KT (KQ (first:=[]) rfl en_155 rfl (Nb rfl) (fun w hw=>c_HasT V f bd z.val w (hw _ (by repeat (first|exact Mh _|apply Mt))) (Nat.lt_trans z.isLt hpW) hpW z.isLt) ?_))
  refine Kg rfl rfl (KW (KAs rfl) (show _ = Value.bool false from rfl)) (Nb rfl) ?_
  refine KA (KAC rfl rfl) (Nb rfl) ?_
  refine KA (KD rfl) (Nb rfl) ?_
  refine KAZ rfl rfl (KK rfl (by repeat (first|exact Mh _|apply Mt)) (by exact KN Try.underlying91 rfl sz_91)) (Nb rfl) ?_
  refine Kg rfl rfl (KW (KAR pl_91 zr_91 rfl rfl) (show _ = pjV 0 0 0 from pj_zero)) (Nb rfl) ?_
  refine Kg rfl rfl (KW (Det.eqa (by kernel_rfl) (fun w=>eq_pj x.val y.val z.val 0 0 0 (Nat.lt_trans x.isLt hpW) (Nat.lt_trans y.isLt hpW) (Nat.lt_trans z.isLt hpW) zero_w9 zero_w9 zero_w9 10000 (by decide) w) rfl rfl) (show _ = Value.bool false by rw [hz0])) (Nb rfl) ?_
  refine KA (KAC rfl rfl) (Nb rfl) ?_
  refine KG ?_
  refine Km rfl ?_
  refine Kh ?_
  refine KE (KB ?_)
  refine KA (KD rfl) (Nb rfl) ?_
  refine KA (KL (o':=18) Try.underlying91 rfl rfl rfl sz_25 (by decide)) (Nb rfl) ?_
  refine LOps.det (KK rfl (by repeat (first|exact Mh _|apply Mt)) (by exact pj_ld2 _ _ _ _ _ _)) (Nb rfl) ?_
  refine KA (KL (o':=18) Try.underlying91 rfl rfl rfl sz_25 (by decide)) (Nb rfl) ?_
  refine LOps.det (KK rfl (by repeat (first|exact Mh _|apply Mt)) (by exact pj_ld2 _ _ _ _ _ _)) (Nb rfl) ?_
  refine KI rfl (KT (KQ (first:=[]) rfl KAr rfl (Nb rfl) (fun w hw=>KAW V hok f bd _ _ w (hw _ (by repeat (first|exact Mh _|apply Mt))) (hw _ (by repeat (first|exact Mh _|apply Mt)))) ?_))
  refine KI rfl (KT (KR (Ke zr_25) (Nb rfl) (fun b6=>?_)))
  refine KI rfl (KP rfl rfl sz_25 (by repeat (first|exact Kl _|exact Ks _ _ _|exact Kj _|exact Ko _ _ _|exact Kq _ _ _|exact KX|refine KS rfl ?_|refine KV ?_ ?_)) (by repeat (first|exact Sh _|apply St_)) (by first|exact KH _|exact KM _ _ _|exact KJ _|exact KU _ _ _|exact KZ _ _ _|rfl|simp [KM,KH,KJ]) ?_)
  refine KG ?_
  refine KE ?_
  refine Kd [11] (by kernel_rfl) ?_
  refine KC 0 rfl (by kernel_rfl) (Nb rfl) (KD rfl) ?_
  refine KC 1 rfl (by kernel_rfl) (Nb rfl) (KD rfl) ?_
  refine KC 2 rfl (by kernel_rfl) (Nb rfl) (KL (o':=9) Try.underlying91 rfl rfl rfl sz_25 (by decide)) ?_
  refine LAny.take 3 rfl (by kernel_rfl) (Nb rfl) (KK rfl (by repeat (first|exact Mh _|apply Mt)) (by exact KAj Try.underlying25 rfl sz_25 rfl (KH _) (KH _))) ?_
  refine KC 4 rfl (by kernel_rfl) (Nb rfl) (KL (o':=9) Try.underlying91 rfl rfl rfl sz_25 (by decide)) ?_
  refine LAny.take 5 rfl (by kernel_rfl) (Nb rfl) (KK rfl (by repeat (first|exact Mh _|apply Mt)) (by exact KAj Try.underlying25 rfl sz_25 rfl (KH _) (KH _))) ?_
  refine KC 7 rfl (by kernel_rfl) (Nb rfl) (KL (o':=18) Try.underlying91 rfl rfl rfl sz_25 (by decide)) ?_
  refine LAny.take 8 rfl (by kernel_rfl) (Nb rfl) (KK rfl (by repeat (first|exact Mh _|apply Mt)) (by exact pj_ld2 _ _ _ _ _ _)) ?_
  refine LAny.toP ?_
  refine KAV 10 rfl (.inl zr_25) (Nb rfl) rfl rfl rfl ?_
  refine KAB 6 rfl rfl rfl (Nb rfl) (by kernel_rfl) rfl (KAG (first:=[]) rfl KAr rfl (fun w hw=>KAW V hok f bd _ _ w (hw _ (by repeat (first|exact Mh _|apply Mt))) (hw _ (by repeat (first|exact Mh _|apply Mt))))) ?_
  rintro _ _ ⟨rfl,rfl⟩
  refine KAB 9 rfl rfl rfl (Nb rfl) (by kernel_rfl) rfl (KAG (first:=[]) rfl KAr rfl (fun w hw=>KAW V hok f bd _ _ w (hw _ (by repeat (first|exact Mh _|apply Mt))) (hw _ (by repeat (first|exact Mh _|apply Mt))))) ?_
  rintro _ _ ⟨rfl,rfl⟩
  refine KAo (by kernel_rfl) (fun b7=>?_)
  refine KAi ?_
  refine Kp 11 rfl rfl (by kernel_rfl) (by kernel_rfl) (KP rfl rfl sz_25 (by repeat (first|exact Kl _|exact Ks _ _ _|exact Kj _|exact Ko _ _ _|exact Kq _ _ _|exact KX|refine KS rfl ?_|refine KV ?_ ?_)) (by repeat (first|exact Sh _|apply St_)) (by first|exact KH _|exact KM _ _ _|exact KJ _|exact KU _ _ _|exact KZ _ _ _|rfl|simp [KM,KH,KJ]) ?_)
  refine Kn (by kernel_rfl) ?_
  refine KE ?_
  refine Kd [35] (by kernel_rfl) ?_
  refine KC 0 rfl (by kernel_rfl) (Nb rfl) (KD rfl) ?_
  refine KC 1 rfl (by kernel_rfl) (Nb rfl) (KD rfl) ?_
  refine KC 2 rfl (by kernel_rfl) (Nb rfl) (KD rfl) ?_
  refine KC 3 rfl (by kernel_rfl) (Nb rfl) (KD rfl) ?_
  refine KC 4 rfl (by kernel_rfl) (Nb rfl) (KL (o':=0) Try.underlying91 rfl rfl rfl sz_25 (by decide)) ?_
  refine LAny.take 5 rfl (by kernel_rfl) (Nb rfl) (KK rfl (by repeat (first|exact Mh _|apply Mt)) (by exact KAH Try.underlying25 rfl sz_25 rfl (KH _))) ?_
  refine KC 6 rfl (by kernel_rfl) (Nb rfl) (KL (o':=0) Try.underlying91 rfl rfl rfl sz_25 (by decide)) ?_
  refine LAny.take 7 rfl (by kernel_rfl) (Nb rfl) (KK rfl (by repeat (first|exact Mh _|apply Mt)) (by exact KAH Try.underlying25 rfl sz_25 rfl (KH _))) ?_
  refine KC 9 rfl (by kernel_rfl) (Nb rfl) (KD rfl) ?_
  refine KC 10 rfl (by kernel_rfl) (Nb rfl) (KD rfl) ?_
  refine KC 11 rfl (by kernel_rfl) (Nb rfl) (Kb rfl) ?_
  refine KC 12 rfl (by kernel_rfl) (Nb rfl) (KL (o':=0) Try.underlying147 rfl rfl rfl sz_62 (by decide)) ?_
  refine KC 13 rfl (by kernel_rfl) (Nb rfl) (KL (o':=10) Try.underlying62 rfl rfl rfl sz_25 (by decide)) ?_
  refine LAny.take 14 rfl (by kernel_rfl) (Nb rfl) (Det.cast (KK rfl (by repeat (first|exact Mh _|apply Mt)) (by exact cvC_ld_a _ _ _ _ _ _ _ _ _ _ _ _ _ _ _ _)) (a_val hok)) ?_
  refine LAny.take 15 rfl (by kernel_rfl) (Nb rfl) (KK rfl (by repeat (first|exact Mh _|apply Mt)) (by exact KN Try.underlying25 rfl sz_25)) ?_
  refine KC 18 rfl (by kernel_rfl) (Nb rfl) (KL (o':=0) Try.underlying91 rfl rfl rfl sz_25 (by decide)) ?_
  refine LAny.take 19 rfl (by kernel_rfl) (Nb rfl) (KK rfl (by repeat (first|exact Mh _|apply Mt)) (by exact KAH Try.underlying25 rfl sz_25 rfl (KH _))) ?_
  refine KC 21 rfl (by kernel_rfl) (Nb rfl) (KD rfl) ?_
  refine KC 22 rfl (by kernel_rfl) (Nb rfl) (KD rfl) ?_
  refine KC 23 rfl (by kernel_rfl) (Nb rfl) (Kb rfl) ?_
  refine KC 24 rfl (by kernel_rfl) (Nb rfl) (KL (o':=0) Try.underlying147 rfl rfl rfl sz_62 (by decide)) ?_
  refine KC 25 rfl (by kernel_rfl) (Nb rfl) (KL (o':=19) Try.underlying62 rfl rfl rfl sz_25 (by decide)) ?_
  refine LAny.take 26 rfl (by kernel_rfl) (Nb rfl) (Det.cast (KK rfl (by repeat (first|exact Mh _|apply Mt)) (by exact cvC_ld_b _ _ _ _ _ _ _ _ _ _ _ _ _ _ _ _)) (b_val hok)) ?_
  refine KC 27 rfl (by kernel_rfl) (Nb rfl) (KD rfl) ?_
  refine LAny.take 28 rfl (by kernel_rfl) (Nb rfl) (KK rfl (by repeat (first|exact Mh _|apply Mt)) (by exact KN Try.underlying25 rfl sz_25)) ?_
  refine KC 29 rfl (by kernel_rfl) (Nb rfl) (KL (o':=18) Try.underlying91 rfl rfl rfl sz_25 (by decide)) ?_
  refine LAny.take 30 rfl (by kernel_rfl) (Nb rfl) (KK rfl (by repeat (first|exact Mh _|apply Mt)) (by exact pj_ld2 _ _ _ _ _ _)) ?_
  refine LAny.toP ?_
  refine KAV 34 rfl (.inl zr_25) (Nb rfl) rfl rfl rfl ?_
  refine KAB 8 rfl rfl rfl (Nb rfl) (by kernel_rfl) rfl (KAG (first:=[]) rfl KAr rfl (fun w hw=>KAW V hok f bd _ _ w (hw _ (by repeat (first|exact Mh _|apply Mt))) (hw _ (by repeat (first|exact Mh _|apply Mt))))) ?_
  rintro _ _ ⟨rfl,rfl⟩
  refine KAB 16 rfl rfl rfl (Nb rfl) (by kernel_rfl) rfl (KAG (first:=[]) rfl KAr rfl (fun w hw=>KAW V hok f bd _ _ w (hw _ (by repeat (first|exact Mh _|apply Mt))) (hw _ (by repeat (first|exact Mh _|apply Mt))))) ?_
  rintro _ _ ⟨rfl,rfl⟩
  refine KAB 17 rfl rfl rfl (Nb rfl) (by kernel_rfl) rfl (KAG (first:=[]) rfl en_152 rfl (fun w hw=>c_F_Add V hok f bd _ _ w (hw _ (by repeat (first|exact Mh _|apply Mt))))) ?_
  rintro _ _ ⟨rfl,rfl⟩
  refine KAB 20 rfl rfl rfl (Nb rfl) (by kernel_rfl) rfl (KAG (first:=[]) rfl KAr rfl (fun w hw=>KAW V hok f bd _ _ w (hw _ (by repeat (first|exact Mh _|apply Mt))) (hw _ (by repeat (first|exact Mh _|apply Mt))))) ?_
  rintro _ _ ⟨rfl,rfl⟩
  refine KAB 31 rfl rfl rfl (Nb rfl) (by kernel_rfl) rfl (KAG (first:=[]) rfl KAr rfl (fun w hw=>KAW V hok f bd _ _ w (hw _ (by repeat (first|exact Mh _|apply Mt))) (hw _ (by repeat (first|exact Mh _|apply Mt))))) ?_
  rintro _ _ ⟨rfl,rfl⟩
  refine KAB 32 rfl rfl rfl (Nb rfl) (by kernel_rfl) rfl (KAG (first:=[]) rfl KAr rfl (fun w hw=>KAW V hok f bd _ _ w (hw _ (by repeat (first|exact Mh _|apply Mt))) (hw _ (by repeat (first|exact Mh _|apply Mt))))) ?_
  rintro _ _ ⟨rfl,rfl⟩
  refine KAB 33 rfl rfl rfl (Nb rfl) (by kernel_rfl) rfl (KAG (first:=[]) rfl en_152 rfl (fun w hw=>c_F_Add V hok f bd _ _ w (hw _ (by repeat (first|exact Mh _|apply Mt))))) ?_
  rintro _ _ ⟨rfl,rfl⟩
  refine KAo (by kernel_rfl) (fun b8=>?_)
  refine KAi ?_
  refine Kp 35 rfl rfl (by kernel_rfl) (by kernel_rfl) (KP rfl rfl sz_25 (by repeat (first|exact Kl _|exact Ks _ _ _|exact Kj _|exact Ko _ _ _|exact Kq _ _ _|exact KX|refine KS rfl ?_|refine KV ?_ ?_)) (by repeat (first|exact Sh _|apply St_)) (by first|exact KH _|exact KM _ _ _|exact KJ _|exact KU _ _ _|exact KZ _ _ _|rfl|simp [KM,KH,KJ]) ?_)
  refine Kn (by kernel_rfl) ?_
  refine KE (KB ?_)
  refine LOps.det (KK rfl (by repeat (first|exact Mh _|apply Mt)) (by exact KN Try.underlying25 rfl sz_25)) (Nb rfl) ?_
  refine LOps.det (KK rfl (by repeat (first|exact Mh _|apply Mt)) (by exact KN Try.underlying25 rfl sz_25)) (Nb rfl) ?_
  refine KA (KW (Det.eqa (by kernel_rfl) (fun w=>eq_nat (y*y*z).val ((x*x+V.A*(z*z))*x+V.B*(z*z*z)).val (Nat.lt_trans (y*y*z).isLt hpW) (Nat.lt_trans ((x*x+V.A*(z*z))*x+V.B*(z*z*z)).isLt hpW) 10000 (by decide) w) rfl rfl) (show _ = Value.bool true by rw [decide_eq_true (congrArg Fin.val he)])) (Nb rfl) ?_
  refine KA (KF rfl) (Nb rfl) ?_
  refine KG (KY ?_)
  refine ⟨[_],.cons rfl .nil,fun a w' hr=>⟨?_,hr.fr.below⟩⟩
  rfl
theorem c_hasF (V:Cv) (b f bd:Nat) (hok:V.Ok) (X Y Z:Nat) (w:World) (hb:(Item.blk b ⟨false,opL V f,147,(0,0)⟩).holds w) (hf:(Item.blk f ⟨false,fldL V.p bd,194,(0,0)⟩).holds w) (hbd:(Item.blk bd ⟨false,dvL V.p,241,(0,0)⟩).holds w) (hX:X<W9) (hY:Y<W9) (hZ:Z<W9) (hn:¬ TrHas V X Y Z):Calls Try.prog 159 ([.pointer (some ⟨b,0,none⟩),pjV X Y Z]:List Value).toArray w (fun e w'=>e = .returned (.bool false)∧Below w.heap.size w w'):=by
  have hbb:=hok.bounds
  have hpW:V.p<W9:=w9_521 hbb.2.1
  refine Kz (N:=90) (rs:=[.tmp 4]) [.blk b ⟨false,opL V f,147,(0,0)⟩,.blk f ⟨false,fldL V.p bd,194,(0,0)⟩,.blk bd ⟨false,dvL V.p,241,(0,0)⟩] Try.func159 rfl Try.ntmps159 Try.results159 (Nb rfl) ⟨hb,hf,hbd,trivial⟩ rfl ?_
  show LCode _ _ _ ⟨_,_⟩ _
  refine KE (KB ?_)
  refine KI rfl (KT (KR (Ky rfl) (Nb rfl) (fun b3=>?_)))
  refine KA (KF rfl) (Nb rfl) ?_
  refine KG ?_
  refine KE (KB ?_)
  refine KA (KD rfl) (Nb rfl) ?_
  refine KA (Kb rfl) (Nb rfl) ?_
  refine KA (KL (o':=59) Try.underlying147 rfl rfl rfl sz_145 (by decide)) (Nb rfl) ?_
  refine LOps.det (KK rfl (by repeat (first|exact Mh _|apply Mt)) (Ka Try.underlying145 rfl (by exact cvC_gt_F _ _ _ _ _ _ _ _ _ _ _ _ _))) (Nb rfl) ?_
  refine KA (KF rfl) (Nb rfl) ?_
  refine KG ?_
  refine KE ?_
  refine KE ?_
  rcases (show (¬ X<V.p)∨(X<V.p∧¬ Y<V.p)∨(X<V.p∧Y<V.p∧¬ Z<V.p)∨((X<V.p∧Y<V.p∧Z<V.p)∧(X = 0∧Y = 0∧Z = 0))∨((X<V.p∧Y<V.p∧Z<V.p)∧¬ (X = 0∧Y = 0∧Z = 0)) by omega) with h1|⟨h1,h2⟩|⟨h1,h2,h3⟩|⟨⟨h1,h2,h3⟩,h4⟩|⟨⟨h1,h2,h3⟩,h4⟩
  ·
    refine KB ?_
    refine KA (KD rfl) (Nb rfl) ?_
    refine KA (KL (o':=0) Try.underlying91 rfl rfl rfl sz_25 (by decide)) (Nb rfl) ?_
    refine LOps.det (KK rfl (by repeat (first|exact Mh _|apply Mt)) (by exact KAH Try.underlying25 rfl sz_25 rfl (KH _))) (Nb rfl) ?_
    refine KI rfl (KT (KQ (first:=[]) rfl en_155 rfl (Nb rfl) (fun w hw=>c_HasF V f bd X w (hw _ (by repeat (first|exact Mh _|apply Mt))) hX hpW h1) ?_))
    refine KA (KW (KAs rfl) (show _ = Value.bool true from rfl)) (Nb rfl) ?_
    refine KA (KD rfl) (Nb rfl) ?_
    refine Kr rfl rfl rfl (Nb rfl) ?_
    refine Kr rfl rfl rfl (Nb rfl) ?_
    refine Kr rfl rfl rfl (Nb rfl) ?_
    refine Kr rfl rfl rfl (Nb rfl) ?_
    refine Kr rfl rfl rfl (Nb rfl) ?_
    refine KA (KAI rfl rfl) (Nb rfl) ?_
    refine KA (KD rfl) (Nb rfl) ?_
    refine Kr rfl rfl rfl (Nb rfl) ?_
    refine Kr rfl rfl rfl (Nb rfl) ?_
    refine Kr rfl rfl rfl (Nb rfl) ?_
    refine Kr rfl rfl rfl (Nb rfl) ?_
    refine Kr rfl rfl rfl (Nb rfl) ?_
    refine KA (KAI rfl rfl) (Nb rfl) ?_
    refine KA (KD rfl) (Nb rfl) ?_
    refine Kr rfl rfl rfl (Nb rfl) ?_
    refine Kr rfl rfl rfl (Nb rfl) ?_
    refine Kr rfl rfl rfl (Nb rfl) ?_
    refine KA (KAI rfl rfl) (Nb rfl) ?_
    refine KG ?_
    refine Kw rfl ?_
    refine KE (KB ?_)
    refine KA (KF rfl) (Nb rfl) ?_
    refine KG (KY ?_)
    refine ⟨[_],.cons rfl .nil,fun a w' hr=>⟨?_,hr.fr.below⟩⟩
    rfl
  ·
    obtain ⟨x,rfl⟩:∃ x:Fin V.p,x.val = X:=⟨⟨X,h1⟩,rfl⟩
    refine KB ?_
    refine KA (KD rfl) (Nb rfl) ?_
    refine KA (KL (o':=0) Try.underlying91 rfl rfl rfl sz_25 (by decide)) (Nb rfl) ?_
    refine LOps.det (KK rfl (by repeat (first|exact Mh _|apply Mt)) (by exact KAH Try.underlying25 rfl sz_25 rfl (KH _))) (Nb rfl) ?_
    refine KI rfl (KT (KQ (first:=[]) rfl en_155 rfl (Nb rfl) (fun w hw=>c_HasT V f bd x.val w (hw _ (by repeat (first|exact Mh _|apply Mt))) (Nat.lt_trans x.isLt hpW) hpW x.isLt) ?_))
    refine KA (KW (KAs rfl) (show _ = Value.bool false from rfl)) (Nb rfl) ?_
    refine KA (KD rfl) (Nb rfl) ?_
    refine Kg rfl rfl (KD rfl) (Nb rfl) ?_
    refine Kg rfl rfl (KL (o':=9) Try.underlying91 rfl rfl rfl sz_25 (by decide)) (Nb rfl) ?_
    refine KAZ rfl rfl (KK rfl (by repeat (first|exact Mh _|apply Mt)) (by exact KAj Try.underlying25 rfl sz_25 rfl (KH _) (KH _))) (Nb rfl) ?_
    refine LOps.stepG rfl rfl rfl (KT (KQ (first:=[]) rfl en_155 rfl (Nb rfl) (fun w hw=>c_HasF V f bd Y w (hw _ (by repeat (first|exact Mh _|apply Mt))) hY hpW h2) ?_))
    refine Kg rfl rfl (KW (KAs rfl) (show _ = Value.bool true from rfl)) (Nb rfl) ?_
    refine KA (KAC rfl rfl) (Nb rfl) ?_
    refine KA (KD rfl) (Nb rfl) ?_
    refine Kr rfl rfl rfl (Nb rfl) ?_
    refine Kr rfl rfl rfl (Nb rfl) ?_
    refine Kr rfl rfl rfl (Nb rfl) ?_
    refine Kr rfl rfl rfl (Nb rfl) ?_
    refine Kr rfl rfl rfl (Nb rfl) ?_
    refine KA (KAI rfl rfl) (Nb rfl) ?_
    refine KA (KD rfl) (Nb rfl) ?_
    refine Kr rfl rfl rfl (Nb rfl) ?_
    refine Kr rfl rfl rfl (Nb rfl) ?_
    refine Kr rfl rfl rfl (Nb rfl) ?_
    refine KA (KAI rfl rfl) (Nb rfl) ?_
    refine KG ?_
    refine Kw rfl ?_
    refine KE (KB ?_)
    refine KA (KF rfl) (Nb rfl) ?_
    refine KG (KY ?_)
    refine ⟨[_],.cons rfl .nil,fun a w' hr=>⟨?_,hr.fr.below⟩⟩
    rfl
  ·
    obtain ⟨x,rfl⟩:∃ x:Fin V.p,x.val = X:=⟨⟨X,h1⟩,rfl⟩
    obtain ⟨y,rfl⟩:∃ y:Fin V.p,y.val = Y:=⟨⟨Y,h2⟩,rfl⟩
    refine KB ?_
    refine KA (KD rfl) (Nb rfl) ?_
    refine KA (KL (o':=0) Try.underlying91 rfl rfl rfl sz_25 (by decide)) (Nb rfl) ?_
    refine LOps.det (KK rfl (by repeat (first|exact Mh _|apply Mt)) (by exact KAH Try.underlying25 rfl sz_25 rfl (KH _))) (Nb rfl) ?_
    refine KI rfl (KT (KQ (first:=[]) rfl en_155 rfl (Nb rfl) (fun w hw=>c_HasT V f bd x.val w (hw _ (by repeat (first|exact Mh _|apply Mt))) (Nat.lt_trans x.isLt hpW) hpW x.isLt) ?_))
    refine KA (KW (KAs rfl) (show _ = Value.bool false from rfl)) (Nb rfl) ?_
    refine KA (KD rfl) (Nb rfl) ?_
    refine Kg rfl rfl (KD rfl) (Nb rfl) ?_
    refine Kg rfl rfl (KL (o':=9) Try.underlying91 rfl rfl rfl sz_25 (by decide)) (Nb rfl) ?_
    refine KAZ rfl rfl (KK rfl (by repeat (first|exact Mh _|apply Mt)) (by exact KAj Try.underlying25 rfl sz_25 rfl (KH _) (KH _))) (Nb rfl) ?_
    refine LOps.stepG rfl rfl rfl (KT (KQ (first:=[]) rfl en_155 rfl (Nb rfl) (fun w hw=>c_HasT V f bd y.val w (hw _ (by repeat (first|exact Mh _|apply Mt))) (Nat.lt_trans y.isLt hpW) hpW y.isLt) ?_))
    refine Kg rfl rfl (KW (KAs rfl) (show _ = Value.bool false from rfl)) (Nb rfl) ?_
    refine KA (KAC rfl rfl) (Nb rfl) ?_
    refine KA (KD rfl) (Nb rfl) ?_
    refine Kg rfl rfl (KD rfl) (Nb rfl) ?_
    refine Kg rfl rfl (KL (o':=18) Try.underlying91 rfl rfl rfl sz_25 (by decide)) (Nb rfl) ?_
    refine KAZ rfl rfl (KK rfl (by repeat (first|exact Mh _|apply Mt)) (by exact pj_ld2 _ _ _ _ _ _)) (Nb rfl) ?_
    refine LOps.stepG rfl rfl rfl (KT (KQ (first:=[]) rfl en_155 rfl (Nb rfl) (fun w hw=>c_HasF V f bd Z w (hw _ (by repeat (first|exact Mh _|apply Mt))) hZ hpW h3) ?_))
    refine Kg rfl rfl (KW (KAs rfl) (show _ = Value.bool true from rfl)) (Nb rfl) ?_
    refine KA (KAC rfl rfl) (Nb rfl) ?_
    refine KA (KD rfl) (Nb rfl) ?_
    refine Kr rfl rfl rfl (Nb rfl) ?_
    refine Kr rfl rfl rfl (Nb rfl) ?_
    refine Kr rfl rfl rfl (Nb rfl) ?_
    refine KA (KAI rfl rfl) (Nb rfl) ?_
    refine KG ?_
    refine Kw rfl ?_
    refine KE (KB ?_)
    refine KA (KF rfl) (Nb rfl) ?_
    refine KG (KY ?_)
    refine ⟨[_],.cons rfl .nil,fun a w' hr=>⟨?_,hr.fr.below⟩⟩
    rfl
  ·
    obtain ⟨x,rfl⟩:∃ x:Fin V.p,x.val = X:=⟨⟨X,h1⟩,rfl⟩
    obtain ⟨y,rfl⟩:∃ y:Fin V.p,y.val = Y:=⟨⟨Y,h2⟩,rfl⟩
    obtain ⟨z,rfl⟩:∃ z:Fin V.p,z.val = Z:=⟨⟨Z,h3⟩,rfl⟩
    refine KB ?_
    refine KA (KD rfl) (Nb rfl) ?_
    refine KA (KL (o':=0) Try.underlying91 rfl rfl rfl sz_25 (by decide)) (Nb rfl) ?_
    refine LOps.det (KK rfl (by repeat (first|exact Mh _|apply Mt)) (by exact KAH Try.underlying25 rfl sz_25 rfl (KH _))) (Nb rfl) ?_
    refine KI rfl (KT (KQ (first:=[]) rfl en_155 rfl (Nb rfl) (fun w hw=>c_HasT V f bd x.val w (hw _ (by repeat (first|exact Mh _|apply Mt))) (Nat.lt_trans x.isLt hpW) hpW x.isLt) ?_))
    refine KA (KW (KAs rfl) (show _ = Value.bool false from rfl)) (Nb rfl) ?_
    refine KA (KD rfl) (Nb rfl) ?_
    refine Kg rfl rfl (KD rfl) (Nb rfl) ?_
    refine Kg rfl rfl (KL (o':=9) Try.underlying91 rfl rfl rfl sz_25 (by decide)) (Nb rfl) ?_
    refine KAZ rfl rfl (KK rfl (by repeat (first|exact Mh _|apply Mt)) (by exact KAj Try.underlying25 rfl sz_25 rfl (KH _) (KH _))) (Nb rfl) ?_
    refine LOps.stepG rfl rfl rfl (KT (KQ (first:=[]) rfl en_155 rfl (Nb rfl) (fun w hw=>c_HasT V f bd y.val w (hw _ (by repeat (first|exact Mh _|apply Mt))) (Nat.lt_trans y.isLt hpW) hpW y.isLt) ?_))
    refine Kg rfl rfl (KW (KAs rfl) (show _ = Value.bool false from rfl)) (Nb rfl) ?_
    refine KA (KAC rfl rfl) (Nb rfl) ?_
    refine KA (KD rfl) (Nb rfl) ?_
    refine Kg rfl rfl (KD rfl) (Nb rfl) ?_
    refine Kg rfl rfl (KL (o':=18) Try.underlying91 rfl rfl rfl sz_25 (by decide)) (Nb rfl) ?_
    refine KAZ rfl rfl (KK rfl (by repeat (first|exact Mh _|apply Mt)) (by exact pj_ld2 _ _ _ _ _ _)) (Nb rfl) ?_
    refine LOps.stepG rfl rfl rfl (KT (KQ (first:=[]) rfl en_155 rfl (Nb rfl) (fun w hw=>c_HasT V f bd z.val w (hw _ (by repeat (first|exact Mh _|apply Mt))) (Nat.lt_trans z.isLt hpW) hpW z.isLt) ?_))
    refine Kg rfl rfl (KW (KAs rfl) (show _ = Value.bool false from rfl)) (Nb rfl) ?_
    refine KA (KAC rfl rfl) (Nb rfl) ?_
    refine KA (KD rfl) (Nb rfl) ?_
    refine KAZ rfl rfl (KK rfl (by repeat (first|exact Mh _|apply Mt)) (by exact KN Try.underlying91 rfl sz_91)) (Nb rfl) ?_
    refine Kg rfl rfl (KW (KAR pl_91 zr_91 rfl rfl) (show _ = pjV 0 0 0 from pj_zero)) (Nb rfl) ?_
    refine Kg rfl rfl (KW (Det.eqa (by kernel_rfl) (fun w=>eq_pj x.val y.val z.val 0 0 0 (Nat.lt_trans x.isLt hpW) (Nat.lt_trans y.isLt hpW) (Nat.lt_trans z.isLt hpW) zero_w9 zero_w9 zero_w9 10000 (by decide) w) rfl rfl) (show _ = Value.bool true by rw [decide_eq_true h4.1,decide_eq_true h4.2.1,decide_eq_true h4.2.2]; rfl)) (Nb rfl) ?_
    refine KA (KAC rfl rfl) (Nb rfl) ?_
    refine KG ?_
    refine Kw rfl ?_
    refine KE (KB ?_)
    refine KA (KF rfl) (Nb rfl) ?_
    refine KG (KY ?_)
    refine ⟨[_],.cons rfl .nil,fun a w' hr=>⟨?_,hr.fr.below⟩⟩
    rfl
  ·
    obtain ⟨x,rfl⟩:∃ x:Fin V.p,x.val = X:=⟨⟨X,h1⟩,rfl⟩
    obtain ⟨y,rfl⟩:∃ y:Fin V.p,y.val = Y:=⟨⟨Y,h2⟩,rfl⟩
    obtain ⟨z,rfl⟩:∃ z:Fin V.p,z.val = Z:=⟨⟨Z,h3⟩,rfl⟩
    have hz0:(decide (x.val = 0) && (decide (y.val = 0) && (decide (z.val = 0) && true))) = false:=by
      cases h0:(decide (x.val = 0) && (decide (y.val = 0) && (decide (z.val = 0) && true))) with
      | false=>rfl
      | true =>
        simp only [Bool.and_true,Bool.and_eq_true,decide_eq_true_eq] at h0
        exact absurd h0 h4
    have he:(y*y*z).val≠((x*x+V.A*(z*z))*x+V.B*(z*z*z)).val:=fun e=>hn ⟨(x,y,z),rfl,rfl,rfl,fun h=>h4 ⟨congrArg Fin.val h.1,congrArg Fin.val h.2.1,congrArg Fin.val h.2.2⟩,Fin.ext e⟩
    refine KB ?_
    refine KA (KD rfl) (Nb rfl) ?_
    refine KA (KL (o':=0) Try.underlying91 rfl rfl rfl sz_25 (by decide)) (Nb rfl) ?_
    refine LOps.det (KK rfl (by repeat (first|exact Mh _|apply Mt)) (by exact KAH Try.underlying25 rfl sz_25 rfl (KH _))) (Nb rfl) ?_
    refine KI rfl (KT (KQ (first:=[]) rfl en_155 rfl (Nb rfl) (fun w hw=>c_HasT V f bd x.val w (hw _ (by repeat (first|exact Mh _|apply Mt))) (Nat.lt_trans x.isLt hpW) hpW x.isLt) ?_))
    refine KA (KW (KAs rfl) (show _ = Value.bool false from rfl)) (Nb rfl) ?_
    refine KA (KD rfl) (Nb rfl) ?_
    refine Kg rfl rfl (KD rfl) (Nb rfl) ?_
    refine Kg rfl rfl (KL (o':=9) Try.underlying91 rfl rfl rfl sz_25 (by decide)) (Nb rfl) ?_
    refine KAZ rfl rfl (KK rfl (by repeat (first|exact Mh _|apply Mt)) (by exact KAj Try.underlying25 rfl sz_25 rfl (KH _) (KH _))) (Nb rfl) ?_
    refine LOps.stepG rfl rfl rfl (KT (KQ (first:=[]) rfl en_155 rfl (Nb rfl) (fun w hw=>c_HasT V f bd y.val w (hw _ (by repeat (first|exact Mh _|apply Mt))) (Nat.lt_trans y.isLt hpW) hpW y.isLt) ?_))
    refine Kg rfl rfl (KW (KAs rfl) (show _ = Value.bool false from rfl)) (Nb rfl) ?_
    refine KA (KAC rfl rfl) (Nb rfl) ?_
    refine KA (KD rfl) (Nb rfl) ?_
    refine Kg rfl rfl (KD rfl) (Nb rfl) ?_
    refine Kg rfl rfl (KL (o':=18) Try.underlying91 rfl rfl rfl sz_25 (by decide)) (Nb rfl) ?_
    refine KAZ rfl rfl (KK rfl (by repeat (first|exact Mh _|apply Mt)) (by exact pj_ld2 _ _ _ _ _ _)) (Nb rfl) ?_
    refine LOps.stepG rfl rfl rfl (KT (KQ (first:=[]) rfl en_155 rfl (Nb rfl) (fun w hw=>c_HasT V f bd z.val w (hw _ (by repeat (first|exact Mh _|apply Mt))) (Nat.lt_trans z.isLt hpW) hpW z.isLt) ?_))
    refine Kg rfl rfl (KW (KAs rfl) (show _ = Value.bool false from rfl)) (Nb rfl) ?_
    refine KA (KAC rfl rfl) (Nb rfl) ?_
    refine KA (KD rfl) (Nb rfl) ?_
    refine KAZ rfl rfl (KK rfl (by repeat (first|exact Mh _|apply Mt)) (by exact KN Try.underlying91 rfl sz_91)) (Nb rfl) ?_
    refine Kg rfl rfl (KW (KAR pl_91 zr_91 rfl rfl) (show _ = pjV 0 0 0 from pj_zero)) (Nb rfl) ?_
    refine Kg rfl rfl (KW (Det.eqa (by kernel_rfl) (fun w=>eq_pj x.val y.val z.val 0 0 0 (Nat.lt_trans x.isLt hpW) (Nat.lt_trans y.isLt hpW) (Nat.lt_trans z.isLt hpW) zero_w9 zero_w9 zero_w9 10000 (by decide) w) rfl rfl) (show _ = Value.bool false by rw [hz0])) (Nb rfl) ?_
    refine KA (KAC rfl rfl) (Nb rfl) ?_
    refine KG ?_
    refine Km rfl ?_
    refine Kh ?_
    refine KE (KB ?_)
    refine KA (KD rfl) (Nb rfl) ?_
    refine KA (KL (o':=18) Try.underlying91 rfl rfl rfl sz_25 (by decide)) (Nb rfl) ?_
    refine LOps.det (KK rfl (by repeat (first|exact Mh _|apply Mt)) (by exact pj_ld2 _ _ _ _ _ _)) (Nb rfl) ?_
    refine KA (KL (o':=18) Try.underlying91 rfl rfl rfl sz_25 (by decide)) (Nb rfl) ?_
    refine LOps.det (KK rfl (by repeat (first|exact Mh _|apply Mt)) (by exact pj_ld2 _ _ _ _ _ _)) (Nb rfl) ?_
    refine KI rfl (KT (KQ (first:=[]) rfl KAr rfl (Nb rfl) (fun w hw=>KAW V hok f bd _ _ w (hw _ (by repeat (first|exact Mh _|apply Mt))) (hw _ (by repeat (first|exact Mh _|apply Mt)))) ?_))
    refine KI rfl (KT (KR (Ke zr_25) (Nb rfl) (fun b6=>?_)))
    refine KI rfl (KP rfl rfl sz_25 (by repeat (first|exact Kl _|exact Ks _ _ _|exact Kj _|exact Ko _ _ _|exact Kq _ _ _|exact KX|refine KS rfl ?_|refine KV ?_ ?_)) (by repeat (first|exact Sh _|apply St_)) (by first|exact KH _|exact KM _ _ _|exact KJ _|exact KU _ _ _|exact KZ _ _ _|rfl|simp [KM,KH,KJ]) ?_)
    refine KG ?_
    refine KE ?_
    refine Kd [11] (by kernel_rfl) ?_
    refine KC 0 rfl (by kernel_rfl) (Nb rfl) (KD rfl) ?_
    refine KC 1 rfl (by kernel_rfl) (Nb rfl) (KD rfl) ?_
    refine KC 2 rfl (by kernel_rfl) (Nb rfl) (KL (o':=9) Try.underlying91 rfl rfl rfl sz_25 (by decide)) ?_
    refine LAny.take 3 rfl (by kernel_rfl) (Nb rfl) (KK rfl (by repeat (first|exact Mh _|apply Mt)) (by exact KAj Try.underlying25 rfl sz_25 rfl (KH _) (KH _))) ?_
    refine KC 4 rfl (by kernel_rfl) (Nb rfl) (KL (o':=9) Try.underlying91 rfl rfl rfl sz_25 (by decide)) ?_
    refine LAny.take 5 rfl (by kernel_rfl) (Nb rfl) (KK rfl (by repeat (first|exact Mh _|apply Mt)) (by exact KAj Try.underlying25 rfl sz_25 rfl (KH _) (KH _))) ?_
    refine KC 7 rfl (by kernel_rfl) (Nb rfl) (KL (o':=18) Try.underlying91 rfl rfl rfl sz_25 (by decide)) ?_
    refine LAny.take 8 rfl (by kernel_rfl) (Nb rfl) (KK rfl (by repeat (first|exact Mh _|apply Mt)) (by exact pj_ld2 _ _ _ _ _ _)) ?_
    refine LAny.toP ?_
    refine KAV 10 rfl (.inl zr_25) (Nb rfl) rfl rfl rfl ?_
    refine KAB 6 rfl rfl rfl (Nb rfl) (by kernel_rfl) rfl (KAG (first:=[]) rfl KAr rfl (fun w hw=>KAW V hok f bd _ _ w (hw _ (by repeat (first|exact Mh _|apply Mt))) (hw _ (by repeat (first|exact Mh _|apply Mt))))) ?_
    rintro _ _ ⟨rfl,rfl⟩
    refine KAB 9 rfl rfl rfl (Nb rfl) (by kernel_rfl) rfl (KAG (first:=[]) rfl KAr rfl (fun w hw=>KAW V hok f bd _ _ w (hw _ (by repeat (first|exact Mh _|apply Mt))) (hw _ (by repeat (first|exact Mh _|apply Mt))))) ?_
    rintro _ _ ⟨rfl,rfl⟩
    refine KAo (by kernel_rfl) (fun b7=>?_)
    refine KAi ?_
    refine Kp 11 rfl rfl (by kernel_rfl) (by kernel_rfl) (KP rfl rfl sz_25 (by repeat (first|exact Kl _|exact Ks _ _ _|exact Kj _|exact Ko _ _ _|exact Kq _ _ _|exact KX|refine KS rfl ?_|refine KV ?_ ?_)) (by repeat (first|exact Sh _|apply St_)) (by first|exact KH _|exact KM _ _ _|exact KJ _|exact KU _ _ _|exact KZ _ _ _|rfl|simp [KM,KH,KJ]) ?_)
    refine Kn (by kernel_rfl) ?_
    refine KE ?_
    refine Kd [35] (by kernel_rfl) ?_
    refine KC 0 rfl (by kernel_rfl) (Nb rfl) (KD rfl) ?_
    refine KC 1 rfl (by kernel_rfl) (Nb rfl) (KD rfl) ?_
    refine KC 2 rfl (by kernel_rfl) (Nb rfl) (KD rfl) ?_
    refine KC 3 rfl (by kernel_rfl) (Nb rfl) (KD rfl) ?_
    refine KC 4 rfl (by kernel_rfl) (Nb rfl) (KL (o':=0) Try.underlying91 rfl rfl rfl sz_25 (by decide)) ?_
    refine LAny.take 5 rfl (by kernel_rfl) (Nb rfl) (KK rfl (by repeat (first|exact Mh _|apply Mt)) (by exact KAH Try.underlying25 rfl sz_25 rfl (KH _))) ?_
    refine KC 6 rfl (by kernel_rfl) (Nb rfl) (KL (o':=0) Try.underlying91 rfl rfl rfl sz_25 (by decide)) ?_
    refine LAny.take 7 rfl (by kernel_rfl) (Nb rfl) (KK rfl (by repeat (first|exact Mh _|apply Mt)) (by exact KAH Try.underlying25 rfl sz_25 rfl (KH _))) ?_
    refine KC 9 rfl (by kernel_rfl) (Nb rfl) (KD rfl) ?_
    refine KC 10 rfl (by kernel_rfl) (Nb rfl) (KD rfl) ?_
    refine KC 11 rfl (by kernel_rfl) (Nb rfl) (Kb rfl) ?_
    refine KC 12 rfl (by kernel_rfl) (Nb rfl) (KL (o':=0) Try.underlying147 rfl rfl rfl sz_62 (by decide)) ?_
    refine KC 13 rfl (by kernel_rfl) (Nb rfl) (KL (o':=10) Try.underlying62 rfl rfl rfl sz_25 (by decide)) ?_
    refine LAny.take 14 rfl (by kernel_rfl) (Nb rfl) (Det.cast (KK rfl (by repeat (first|exact Mh _|apply Mt)) (by exact cvC_ld_a _ _ _ _ _ _ _ _ _ _ _ _ _ _ _ _)) (a_val hok)) ?_
    refine LAny.take 15 rfl (by kernel_rfl) (Nb rfl) (KK rfl (by repeat (first|exact Mh _|apply Mt)) (by exact KN Try.underlying25 rfl sz_25)) ?_
    refine KC 18 rfl (by kernel_rfl) (Nb rfl) (KL (o':=0) Try.underlying91 rfl rfl rfl sz_25 (by decide)) ?_
    refine LAny.take 19 rfl (by kernel_rfl) (Nb rfl) (KK rfl (by repeat (first|exact Mh _|apply Mt)) (by exact KAH Try.underlying25 rfl sz_25 rfl (KH _))) ?_
    refine KC 21 rfl (by kernel_rfl) (Nb rfl) (KD rfl) ?_
    refine KC 22 rfl (by kernel_rfl) (Nb rfl) (KD rfl) ?_
    refine KC 23 rfl (by kernel_rfl) (Nb rfl) (Kb rfl) ?_
    refine KC 24 rfl (by kernel_rfl) (Nb rfl) (KL (o':=0) Try.underlying147 rfl rfl rfl sz_62 (by decide)) ?_
    refine KC 25 rfl (by kernel_rfl) (Nb rfl) (KL (o':=19) Try.underlying62 rfl rfl rfl sz_25 (by decide)) ?_
    refine LAny.take 26 rfl (by kernel_rfl) (Nb rfl) (Det.cast (KK rfl (by repeat (first|exact Mh _|apply Mt)) (by exact cvC_ld_b _ _ _ _ _ _ _ _ _ _ _ _ _ _ _ _)) (b_val hok)) ?_
    refine KC 27 rfl (by kernel_rfl) (Nb rfl) (KD rfl) ?_
    refine LAny.take 28 rfl (by kernel_rfl) (Nb rfl) (KK rfl (by repeat (first|exact Mh _|apply Mt)) (by exact KN Try.underlying25 rfl sz_25)) ?_
    refine KC 29 rfl (by kernel_rfl) (Nb rfl) (KL (o':=18) Try.underlying91 rfl rfl rfl sz_25 (by decide)) ?_
    refine LAny.take 30 rfl (by kernel_rfl) (Nb rfl) (KK rfl (by repeat (first|exact Mh _|apply Mt)) (by exact pj_ld2 _ _ _ _ _ _)) ?_
    refine LAny.toP ?_
    refine KAV 34 rfl (.inl zr_25) (Nb rfl) rfl rfl rfl ?_
    refine KAB 8 rfl rfl rfl (Nb rfl) (by kernel_rfl) rfl (KAG (first:=[]) rfl KAr rfl (fun w hw=>KAW V hok f bd _ _ w (hw _ (by repeat (first|exact Mh _|apply Mt))) (hw _ (by repeat (first|exact Mh _|apply Mt))))) ?_
    rintro _ _ ⟨rfl,rfl⟩
    refine KAB 16 rfl rfl rfl (Nb rfl) (by kernel_rfl) rfl (KAG (first:=[]) rfl KAr rfl (fun w hw=>KAW V hok f bd _ _ w (hw _ (by repeat (first|exact Mh _|apply Mt))) (hw _ (by repeat (first|exact Mh _|apply Mt))))) ?_
    rintro _ _ ⟨rfl,rfl⟩
    refine KAB 17 rfl rfl rfl (Nb rfl) (by kernel_rfl) rfl (KAG (first:=[]) rfl en_152 rfl (fun w hw=>c_F_Add V hok f bd _ _ w (hw _ (by repeat (first|exact Mh _|apply Mt))))) ?_
    rintro _ _ ⟨rfl,rfl⟩
    refine KAB 20 rfl rfl rfl (Nb rfl) (by kernel_rfl) rfl (KAG (first:=[]) rfl KAr rfl (fun w hw=>KAW V hok f bd _ _ w (hw _ (by repeat (first|exact Mh _|apply Mt))) (hw _ (by repeat (first|exact Mh _|apply Mt))))) ?_
    rintro _ _ ⟨rfl,rfl⟩
    refine KAB 31 rfl rfl rfl (Nb rfl) (by kernel_rfl) rfl (KAG (first:=[]) rfl KAr rfl (fun w hw=>KAW V hok f bd _ _ w (hw _ (by repeat (first|exact Mh _|apply Mt))) (hw _ (by repeat (first|exact Mh _|apply Mt))))) ?_
    rintro _ _ ⟨rfl,rfl⟩
    refine KAB 32 rfl rfl rfl (Nb rfl) (by kernel_rfl) rfl (KAG (first:=[]) rfl KAr rfl (fun w hw=>KAW V hok f bd _ _ w (hw _ (by repeat (first|exact Mh _|apply Mt))) (hw _ (by repeat (first|exact Mh _|apply Mt))))) ?_
    rintro _ _ ⟨rfl,rfl⟩
    refine KAB 33 rfl rfl rfl (Nb rfl) (by kernel_rfl) rfl (KAG (first:=[]) rfl en_152 rfl (fun w hw=>c_F_Add V hok f bd _ _ w (hw _ (by repeat (first|exact Mh _|apply Mt))))) ?_
    rintro _ _ ⟨rfl,rfl⟩
    refine KAo (by kernel_rfl) (fun b8=>?_)
    refine KAi ?_
    refine Kp 35 rfl rfl (by kernel_rfl) (by kernel_rfl) (KP rfl rfl sz_25 (by repeat (first|exact Kl _|exact Ks _ _ _|exact Kj _|exact Ko _ _ _|exact Kq _ _ _|exact KX|refine KS rfl ?_|refine KV ?_ ?_)) (by repeat (first|exact Sh _|apply St_)) (by first|exact KH _|exact KM _ _ _|exact KJ _|exact KU _ _ _|exact KZ _ _ _|rfl|simp [KM,KH,KJ]) ?_)
    refine Kn (by kernel_rfl) ?_
    refine KE (KB ?_)
    refine LOps.det (KK rfl (by repeat (first|exact Mh _|apply Mt)) (by exact KN Try.underlying25 rfl sz_25)) (Nb rfl) ?_
    refine LOps.det (KK rfl (by repeat (first|exact Mh _|apply Mt)) (by exact KN Try.underlying25 rfl sz_25)) (Nb rfl) ?_
    refine KA (KW (Det.eqa (by kernel_rfl) (fun w=>eq_nat (y*y*z).val ((x*x+V.A*(z*z))*x+V.B*(z*z*z)).val (Nat.lt_trans (y*y*z).isLt hpW) (Nat.lt_trans ((x*x+V.A*(z*z))*x+V.B*(z*z*z)).isLt hpW) 10000 (by decide) w) rfl rfl) (show _ = Value.bool false by rw [decide_eq_false he])) (Nb rfl) ?_
    refine KA (KF rfl) (Nb rfl) ?_
    refine KG (KY ?_)
    refine ⟨[_],.cons rfl .nil,fun a w' hr=>⟨?_,hr.fr.below⟩⟩
    rfl
def trL (l:List (Nat×Nat×Nat)):List Value:=l.flatMap fun t=>pjL t.1 t.2.1 t.2.2
theorem trL_length:∀ l,(trL l).length = 27*l.length
  | []=>rfl
  | t :: l=>by
    have:=trL_length l
    unfold trL at *
    rw [List.flatMap_cons,List.length_append,KZ,this,List.length_cons]; omega
theorem trL_at (l:List (Nat×Nat×Nat)) {x:Nat} {t:Nat×Nat×Nat} (h:l[x]? = some t):trL l = trL (l.take x)++(pjL t.1 t.2.1 t.2.2++trL (l.drop (x+1))):=by
  have hx:x<l.length:=by
    rcases Nat.lt_or_ge x l.length with h'|h'
    · exact h'
    · rw [List.getElem?_eq_none h'] at h; cases h
  have e:l = l.take x++t :: l.drop (x+1):=by
    conv=>lhs; rw [← List.take_append_drop x l]
    congr 1
    rw [List.drop_eq_getElem_cons hx]
    congr 1
    rw [List.getElem?_eq_getElem hx] at h
    exact Option.some.inj h
  conv=>lhs; rw [e]
  unfold trL
  rw [List.flatMap_append,List.flatMap_cons]
theorem tr_ld (l:List (Nat×Nat×Nat)) {x:Nat} {t:Nat×Nat×Nat} (h:l[x]? = some t) (wr:Bool) (e:TypeId) (fz:Nat×Nat):LoadV Try.prog 91 ⟨wr,trL l,e,fz⟩ (0+((x:Nat):Int).toNat*27) (pjV t.1 t.2.1 t.2.2) :=
  KAj Try.underlying91 rfl sz_91 (trL_at l h) (by
    have hx:x<l.length:=by
      rcases Nat.lt_or_ge x l.length with h'|h'
      · exact h'
      · rw [List.getElem?_eq_none h'] at h; cases h
    rw [trL_length,List.length_take,Nat.min_eq_left (Nat.le_of_lt hx)]; omega) (KZ _ _ _)
theorem c_popen_none (id:Int) (sv:Value) (w:World) (h:cvI id = none):Calls Try.prog 126 ([.int .i64 id,sv]:List Value).toArray w (fun e w'=>e = .returned (.tuple #[.pointer none,.int .i64 ((1500:Nat):Int)])∧Below w.heap.size w w'):=by
  refine Kz (N:=25) (rs:=[.tmp 4,.tmp 5]) [] Try.func126 rfl Try.ntmps126 Try.results126 (Nb rfl) trivial rfl ?_
  show LCode _ _ _ ⟨_,_⟩ _
  refine KE (KB ?_)
  refine KA (KF rfl) (Nb rfl) ?_
  refine KA (KF (v:=.int .i64 ((0:Nat):Int)) rfl) (Nb rfl) ?_
  refine KG ?_
  refine KE (KB ?_)
  refine KA (KD rfl) (Nb rfl) ?_
  refine KI rfl (KT (KQ (first:=[]) rfl en_112 rfl (Nb rfl) (fun w hw=>c_Open_none id w h) ?_))
  refine KA (KF rfl) (Nb rfl) ?_
  refine KG ?_
  refine KE ?_
  refine KE (KB ?_)
  refine KA (KD rfl) (Nb rfl) ?_
  refine KA (KW (Det.eqp Try.underlying142 rfl rfl) (show _ = Value.bool true from rfl)) (Nb rfl) ?_
  refine KG ?_
  refine Kw rfl ?_
  refine KE (KB ?_)
  refine KA (KF rfl) (Nb rfl) ?_
  refine KA (KF (v:=.int .i64 ((1500:Nat):Int)) rfl) (Nb rfl) ?_
  refine KG (KY ?_)
  refine ⟨[_,_],.cons rfl (.cons rfl .nil),fun a w' hr=>⟨?_,hr.fr.below⟩⟩
  rfl
theorem c_popen0 (id:Int) (V:Cv) (w:World) (h:cvI id = some V):Calls Try.prog 126 ([.int .i64 id,.slice none 0 0]:List Value).toArray w (fun e w'=>∃ b f bd,e = .returned (.tuple #[.pointer (some ⟨b,0,none⟩),.int .i64 ((0:Nat):Int)])∧(Item.blk b ⟨false,opL V f,147,(0,0)⟩).holds w'∧(Item.blk f ⟨false,fldL V.p bd,194,(0,0)⟩).holds w'∧(Item.blk bd ⟨false,dvL V.p,241,(0,0)⟩).holds w'∧w.heap.size≤b∧w.heap.size≤f∧w.heap.size≤bd∧Below w.heap.size w w'):=by
  obtain ⟨hok,hid⟩:=cvI_ok h
  have hbb:=hok.bounds
  have hpW:V.p<W9:=w9_521 hbb.2.1
  have hnW:V.n<W9:=w9_521 hbb.2.2.2.2.2.2.1
  have hbl:=blen_w9 hnW
  have hnb:nby V.n≤72:=by (unfold nby; omega)
  refine Kz (N:=25) (rs:=[.tmp 4,.tmp 5]) [] Try.func126 rfl Try.ntmps126 Try.results126 (Nb rfl) trivial rfl ?_
  show LCode _ _ _ ⟨_,_⟩ _
  refine KE (KB ?_)
  refine KA (KF rfl) (Nb rfl) ?_
  refine KA (KF (v:=.int .i64 ((0:Nat):Int)) rfl) (Nb rfl) ?_
  refine KG ?_
  refine KE (KB ?_)
  refine KA (KD rfl) (Nb rfl) ?_
  refine KI rfl (KT (KAA (Post:=fun v its=>∃ b f bd,v = .pointer (some ⟨b,0,none⟩)∧its = [.blk b ⟨false,opL V f,147,(0,0)⟩,.blk f ⟨false,fldL V.p bd,194,(0,0)⟩,.blk bd ⟨false,dvL V.p,241,(0,0)⟩]∧w.heap.size≤b∧w.heap.size≤f∧w.heap.size≤bd) (first:=[]) rfl en_112 rfl (Nb rfl) (fun w1 hw hs=>(c_Open _ V w1 h).mono fun e w' ⟨b,f,bd,h1,h2,h3,h4,h5,h6,h7,h8⟩=>⟨_,_,⟨b,f,bd,rfl,rfl,Nat.le_trans hs h5,Nat.le_trans hs h6,Nat.le_trans hs h7⟩,h1,Brings.nums h8 (by intro x hx; simp at hx; rcases hx with rfl|rfl|rfl; exact h2; exact h3; exact h4) (by intro x hx; simp at hx; rcases hx with rfl|rfl|rfl <;> rfl) (by intro x hx k hk; simp at hx; rcases hx with rfl|rfl|rfl <;> simp [Item.fp] at hk <;> subst hk; exact .inl h5; exact .inl h6; exact .inl h7)⟩) ?_))
  rintro _ _ ⟨b,f,bd,rfl,rfl,hbn,hfn,hdn⟩
  refine KA (KF rfl) (Nb rfl) ?_
  refine KG ?_
  refine KE ?_
  refine KE (KB ?_)
  refine KA (KD rfl) (Nb rfl) ?_
  refine KA (KW (Det.eqp Try.underlying142 rfl rfl) (show _ = Value.bool false from rfl)) (Nb rfl) ?_
  refine KG ?_
  refine Km rfl ?_
  refine Kh ?_
  refine KE ?_
  refine KE (KB ?_)
  refine KA (KD rfl) (Nb rfl) ?_
  refine KA (KAa Try.underlying103 rfl) (Nb rfl) ?_
  refine KA (KD (v:=.int .i64 ((0:Nat):Int)) rfl) (Nb rfl) ?_
  refine KG ?_
  refine LCode.block ?_
  refine KAO (α:=Unit) (fun x=>True) (fun x=>⟨[(6,.pointer (some ⟨b,0,none⟩)),(13,.slice none 0 0),(14,.int .i64 ((0:Nat):Int)),(15,.int .i64 ((0:Nat):Int))],[.blk b ⟨false,opL V f,147,(0,0)⟩,.blk f ⟨false,fldL V.p bd,194,(0,0)⟩,.blk bd ⟨false,dvL V.p,241,(0,0)⟩]⟩) (fun x=>0) (()) (trivial) (KAL ⟨rfl,rfl,rfl,rfl,trivial⟩ (by repeat (first|exact Sel.nil _|refine Sel.cons (by repeat (first|exact Ph _|apply Pt_)) ?_))) ?_
  intro x hx
  refine KE (KB ?_)
  refine KA (KO (v:=.bool false) rfl rfl (br_f br_lss (Nat.lt_irrefl 0))) (Nb rfl) ?_
  refine KG ?_
  refine KE ?_
  refine Km rfl ?_
  refine KAM ?_
  refine KE (KB ?_)
  refine KA (KD rfl) (Nb rfl) ?_
  refine KA (KF rfl) (Nb rfl) ?_
  refine KA (KF (v:=.int .i64 ((0:Nat):Int)) rfl) (Nb rfl) ?_
  refine KG (KY ?_)
  refine ⟨[_,_],.cons rfl (.cons rfl .nil),fun a w' hr=>⟨b,f,bd,rfl,hr.hp _ (by repeat (first|exact Mh _|apply Mt)),hr.hp _ (by repeat (first|exact Mh _|apply Mt)),hr.hp _ (by repeat (first|exact Mh _|apply Mt)),hbn,hfn,hdn,hr.fr.below⟩⟩
theorem c_popen (id:Int) (V:Cv) (l:List (Nat×Nat×Nat)) (bs:Nat) (w:World) (h:cvI id = some V) (hps:(Item.blk bs ⟨false,trL l,91,(0,0)⟩).holds w) (hlen:l.length<1000) (hl9:∀ t,t∈l→t.1<W9∧t.2.1<W9∧t.2.2<W9) (hall:∀ t,t∈l→TrHas V t.1 t.2.1 t.2.2):Calls Try.prog 126 ([.int .i64 id,.slice (some ⟨bs,0,none⟩) l.length l.length]:List Value).toArray w (fun e w'=>∃ b f bd,e = .returned (.tuple #[.pointer (some ⟨b,0,none⟩),.int .i64 ((0:Nat):Int)])∧(Item.blk b ⟨false,opL V f,147,(0,0)⟩).holds w'∧(Item.blk f ⟨false,fldL V.p bd,194,(0,0)⟩).holds w'∧(Item.blk bd ⟨false,dvL V.p,241,(0,0)⟩).holds w'∧w.heap.size≤b∧w.heap.size≤f∧w.heap.size≤bd∧Below w.heap.size w w'):=by
  obtain ⟨hok,hid⟩:=cvI_ok h
  have hbb:=hok.bounds
  have hpW:V.p<W9:=w9_521 hbb.2.1
  have hnW:V.n<W9:=w9_521 hbb.2.2.2.2.2.2.1
  have hbl:=blen_w9 hnW
  have hnb:nby V.n≤72:=by (unfold nby; omega)
  refine Kz (N:=25) (rs:=[.tmp 4,.tmp 5]) [.blk bs ⟨false,trL l,91,(0,0)⟩] Try.func126 rfl Try.ntmps126 Try.results126 (Nb rfl) ⟨hps,trivial⟩ rfl ?_
  show LCode _ _ _ ⟨_,_⟩ _
  refine KE (KB ?_)
  refine KA (KF rfl) (Nb rfl) ?_
  refine KA (KF (v:=.int .i64 ((0:Nat):Int)) rfl) (Nb rfl) ?_
  refine KG ?_
  refine KE (KB ?_)
  refine KA (KD rfl) (Nb rfl) ?_
  refine KI rfl (KT (KAA (Post:=fun v its=>∃ b f bd,v = .pointer (some ⟨b,0,none⟩)∧its = [.blk b ⟨false,opL V f,147,(0,0)⟩,.blk f ⟨false,fldL V.p bd,194,(0,0)⟩,.blk bd ⟨false,dvL V.p,241,(0,0)⟩]∧w.heap.size≤b∧w.heap.size≤f∧w.heap.size≤bd) (first:=[]) rfl en_112 rfl (Nb rfl) (fun w1 hw hs=>(c_Open _ V w1 h).mono fun e w' ⟨b,f,bd,h1,h2,h3,h4,h5,h6,h7,h8⟩=>⟨_,_,⟨b,f,bd,rfl,rfl,Nat.le_trans hs h5,Nat.le_trans hs h6,Nat.le_trans hs h7⟩,h1,Brings.nums h8 (by intro x hx; simp at hx; rcases hx with rfl|rfl|rfl; exact h2; exact h3; exact h4) (by intro x hx; simp at hx; rcases hx with rfl|rfl|rfl <;> rfl) (by intro x hx k hk; simp at hx; rcases hx with rfl|rfl|rfl <;> simp [Item.fp] at hk <;> subst hk; exact .inl h5; exact .inl h6; exact .inl h7)⟩) ?_))
  rintro _ _ ⟨b,f,bd,rfl,rfl,hbn,hfn,hdn⟩
  refine KA (KF rfl) (Nb rfl) ?_
  refine KG ?_
  refine KE ?_
  refine KE (KB ?_)
  refine KA (KD rfl) (Nb rfl) ?_
  refine KA (KW (Det.eqp Try.underlying142 rfl rfl) (show _ = Value.bool false from rfl)) (Nb rfl) ?_
  refine KG ?_
  refine Km rfl ?_
  refine Kh ?_
  refine KE ?_
  refine KE (KB ?_)
  refine KA (KD rfl) (Nb rfl) ?_
  refine KA (KAa Try.underlying103 rfl) (Nb rfl) ?_
  refine KA (KD (v:=.int .i64 ((0:Nat):Int)) rfl) (Nb rfl) ?_
  refine KG ?_
  refine LCode.block ?_
  refine KAO (α:=Nat) (fun x=>x≤l.length) (fun x=>⟨[(6,.pointer (some ⟨b,0,none⟩)),(13,.slice (some ⟨bs,0,none⟩) l.length l.length),(14,.int .i64 ((l.length:Nat):Int)),(15,.int .i64 ((x:Nat):Int))],[.blk bs ⟨false,trL l,91,(0,0)⟩,.blk b ⟨false,opL V f,147,(0,0)⟩,.blk f ⟨false,fldL V.p bd,194,(0,0)⟩,.blk bd ⟨false,dvL V.p,241,(0,0)⟩]⟩) (fun x=>l.length-x) (0) (Nat.zero_le _) (KAL ⟨rfl,rfl,rfl,rfl,trivial⟩ (by repeat (first|exact Sel.nil _|refine Sel.cons (by repeat (first|exact Ph _|apply Pt_)) ?_))) ?_
  intro x hx1
  refine KE (KB ?_)
  refine KA (KO rfl rfl (br_lss)) (Nb rfl) ?_
  refine KG ?_
  refine KE ?_
  first|refine Kf rfl (fun h16=>?_) (fun h16=>?_)|refine Ki rfl (fun h16=>?_) (fun h16=>?_)
  ·
    have h16:x<l.length:=h16
    obtain ⟨t,hlx⟩:∃ t,l[x]? = some t:=⟨_,List.getElem?_eq_getElem h16⟩
    have ht9:=hl9 t (List.mem_of_getElem? hlx)
    refine Kh ?_
    refine KE ?_
    refine LCode.block ?_
    refine KE (KB ?_)
    refine KA (Det.indexSl Try.underlying103 sz_91 rfl rfl (by omega) (by omega)) (Nb rfl) ?_
    refine LOps.det (KK rfl (by repeat (first|exact Mh _|apply Mt)) (by exact tr_ld l hlx _ _ _)) (Nb rfl) ?_
    refine KI rfl (KT (KR (Ke zr_91) (Nb rfl) (fun b8=>?_)))
    refine KI rfl (KP rfl rfl sz_91 (by exact Kq _ _ _) (by repeat (first|exact Sh _|apply St_)) (by exact KZ _ _ _) ?_)
    refine KG ?_
    refine KE ?_
    obtain ⟨T,hT1,hT2,hT3,hT4⟩:=hall t (List.mem_of_getElem? hlx)
    obtain ⟨t1,t2,t3⟩:=t
    dsimp only at hT1 hT2 hT3
    subst hT1 hT2 hT3
    refine KB ?_
    refine KA (KD rfl) (Nb rfl) ?_
    refine LOps.det (KK rfl (by repeat (first|exact Mh _|apply Mt)) (by exact KN Try.underlying91 rfl sz_91)) (Nb rfl) ?_
    refine KI rfl (KT (KQ (first:=[]) rfl en_159 rfl (Nb rfl) (fun w hw=>c_hasT V b f bd hok T w (hw _ (by repeat (first|exact Mh _|apply Mt))) (hw _ (by repeat (first|exact Mh _|apply Mt))) (hw _ (by repeat (first|exact Mh _|apply Mt))) hT4) ?_))
    refine KA (KW (KAs rfl) (show _ = Value.bool false from rfl)) (Nb rfl) ?_
    refine KG ?_
    refine Km rfl ?_
    refine Kh ?_
    refine KB ?_
    refine KA (KO rfl rfl (KAQ (b:=1) (by omega))) (Nb rfl) ?_
    refine KA (KD rfl) (Nb rfl) ?_
    refine KG ?_
    exact ⟨x+1,by omega,by omega,KAL ⟨rfl,rfl,rfl,rfl,trivial⟩ (by repeat (first|exact Sel.nil _|refine Sel.cons (by repeat (first|exact Ph _|apply Pt_)) ?_))⟩
  ·
    have h16:¬ x<l.length:=h16
    refine KAM ?_
    refine KE (KB ?_)
    refine KA (KD rfl) (Nb rfl) ?_
    refine KA (KF rfl) (Nb rfl) ?_
    refine KA (KF (v:=.int .i64 ((0:Nat):Int)) rfl) (Nb rfl) ?_
    refine KG (KY ?_)
    refine ⟨[_,_],.cons rfl (.cons rfl .nil),fun a w' hr=>⟨b,f,bd,rfl,hr.hp _ (by repeat (first|exact Mh _|apply Mt)),hr.hp _ (by repeat (first|exact Mh _|apply Mt)),hr.hp _ (by repeat (first|exact Mh _|apply Mt)),hbn,hfn,hdn,hr.fr.below⟩⟩
theorem c_popen_bad (id:Int) (V:Cv) (l:List (Nat×Nat×Nat)) (bs:Nat) (w:World) (h:cvI id = some V) (hps:(Item.blk bs ⟨false,trL l,91,(0,0)⟩).holds w) (hlen:l.length<1000) (hl9:∀ t,t∈l→t.1<W9∧t.2.1<W9∧t.2.2<W9) (hbad:∃ t,t∈l∧¬ TrHas V t.1 t.2.1 t.2.2):Calls Try.prog 126 ([.int .i64 id,.slice (some ⟨bs,0,none⟩) l.length l.length]:List Value).toArray w (fun e w'=>e = .returned (.tuple #[.pointer none,.int .i64 ((1501:Nat):Int)])∧Below w.heap.size w w'):=by
  obtain ⟨hok,hid⟩:=cvI_ok h
  have hbb:=hok.bounds
  have hpW:V.p<W9:=w9_521 hbb.2.1
  have hnW:V.n<W9:=w9_521 hbb.2.2.2.2.2.2.1
  have hbl:=blen_w9 hnW
  have hnb:nby V.n≤72:=by (unfold nby; omega)
  refine Kz (N:=25) (rs:=[.tmp 4,.tmp 5]) [.blk bs ⟨false,trL l,91,(0,0)⟩] Try.func126 rfl Try.ntmps126 Try.results126 (Nb rfl) ⟨hps,trivial⟩ rfl ?_
  show LCode _ _ _ ⟨_,_⟩ _
  refine KE (KB ?_)
  refine KA (KF rfl) (Nb rfl) ?_
  refine KA (KF (v:=.int .i64 ((0:Nat):Int)) rfl) (Nb rfl) ?_
  refine KG ?_
  refine KE (KB ?_)
  refine KA (KD rfl) (Nb rfl) ?_
  refine KI rfl (KT (KAA (Post:=fun v its=>∃ b f bd,v = .pointer (some ⟨b,0,none⟩)∧its = [.blk b ⟨false,opL V f,147,(0,0)⟩,.blk f ⟨false,fldL V.p bd,194,(0,0)⟩,.blk bd ⟨false,dvL V.p,241,(0,0)⟩]∧w.heap.size≤b∧w.heap.size≤f∧w.heap.size≤bd) (first:=[]) rfl en_112 rfl (Nb rfl) (fun w1 hw hs=>(c_Open _ V w1 h).mono fun e w' ⟨b,f,bd,h1,h2,h3,h4,h5,h6,h7,h8⟩=>⟨_,_,⟨b,f,bd,rfl,rfl,Nat.le_trans hs h5,Nat.le_trans hs h6,Nat.le_trans hs h7⟩,h1,Brings.nums h8 (by intro x hx; simp at hx; rcases hx with rfl|rfl|rfl; exact h2; exact h3; exact h4) (by intro x hx; simp at hx; rcases hx with rfl|rfl|rfl <;> rfl) (by intro x hx k hk; simp at hx; rcases hx with rfl|rfl|rfl <;> simp [Item.fp] at hk <;> subst hk; exact .inl h5; exact .inl h6; exact .inl h7)⟩) ?_))
  rintro _ _ ⟨b,f,bd,rfl,rfl,hbn,hfn,hdn⟩
  refine KA (KF rfl) (Nb rfl) ?_
  refine KG ?_
  refine KE ?_
  refine KE (KB ?_)
  refine KA (KD rfl) (Nb rfl) ?_
  refine KA (KW (Det.eqp Try.underlying142 rfl rfl) (show _ = Value.bool false from rfl)) (Nb rfl) ?_
  refine KG ?_
  refine Km rfl ?_
  refine Kh ?_
  refine KE ?_
  refine KE (KB ?_)
  refine KA (KD rfl) (Nb rfl) ?_
  refine KA (KAa Try.underlying103 rfl) (Nb rfl) ?_
  refine KA (KD (v:=.int .i64 ((0:Nat):Int)) rfl) (Nb rfl) ?_
  refine KG ?_
  refine LCode.block ?_
  refine KAO (α:=Nat) (fun x=>x≤l.length∧∀ y,y<x→∀ t,l[y]? = some t→TrHas V t.1 t.2.1 t.2.2) (fun x=>⟨[(6,.pointer (some ⟨b,0,none⟩)),(13,.slice (some ⟨bs,0,none⟩) l.length l.length),(14,.int .i64 ((l.length:Nat):Int)),(15,.int .i64 ((x:Nat):Int))],[.blk bs ⟨false,trL l,91,(0,0)⟩,.blk b ⟨false,opL V f,147,(0,0)⟩,.blk f ⟨false,fldL V.p bd,194,(0,0)⟩,.blk bd ⟨false,dvL V.p,241,(0,0)⟩]⟩) (fun x=>l.length-x) (0) (⟨Nat.zero_le _,fun y hy=>absurd hy (Nat.not_lt_zero _)⟩) (KAL ⟨rfl,rfl,rfl,rfl,trivial⟩ (by repeat (first|exact Sel.nil _|refine Sel.cons (by repeat (first|exact Ph _|apply Pt_)) ?_))) ?_
  rintro x ⟨hx1,hx2⟩
  refine KE (KB ?_)
  refine KA (KO rfl rfl (br_lss)) (Nb rfl) ?_
  refine KG ?_
  refine KE ?_
  first|refine Kf rfl (fun h16=>?_) (fun h16=>?_)|refine Ki rfl (fun h16=>?_) (fun h16=>?_)
  ·
    have h16:x<l.length:=h16
    obtain ⟨t,hlx⟩:∃ t,l[x]? = some t:=⟨_,List.getElem?_eq_getElem h16⟩
    have ht9:=hl9 t (List.mem_of_getElem? hlx)
    refine Kh ?_
    refine KE ?_
    refine LCode.block ?_
    refine KE (KB ?_)
    refine KA (Det.indexSl Try.underlying103 sz_91 rfl rfl (by omega) (by omega)) (Nb rfl) ?_
    refine LOps.det (KK rfl (by repeat (first|exact Mh _|apply Mt)) (by exact tr_ld l hlx _ _ _)) (Nb rfl) ?_
    refine KI rfl (KT (KR (Ke zr_91) (Nb rfl) (fun b8=>?_)))
    refine KI rfl (KP rfl rfl sz_91 (by exact Kq _ _ _) (by repeat (first|exact Sh _|apply St_)) (by exact KZ _ _ _) ?_)
    refine KG ?_
    refine KE ?_
    by_cases hh:TrHas V t.1 t.2.1 t.2.2
    ·
      obtain ⟨T,hT1,hT2,hT3,hT4⟩:=(show TrHas V t.1 t.2.1 t.2.2 from hh)
      obtain ⟨t1,t2,t3⟩:=t
      dsimp only at hT1 hT2 hT3
      subst hT1 hT2 hT3
      refine KB ?_
      refine KA (KD rfl) (Nb rfl) ?_
      refine LOps.det (KK rfl (by repeat (first|exact Mh _|apply Mt)) (by exact KN Try.underlying91 rfl sz_91)) (Nb rfl) ?_
      refine KI rfl (KT (KQ (first:=[]) rfl en_159 rfl (Nb rfl) (fun w hw=>c_hasT V b f bd hok T w (hw _ (by repeat (first|exact Mh _|apply Mt))) (hw _ (by repeat (first|exact Mh _|apply Mt))) (hw _ (by repeat (first|exact Mh _|apply Mt))) hT4) ?_))
      refine KA (KW (KAs rfl) (show _ = Value.bool false from rfl)) (Nb rfl) ?_
      refine KG ?_
      refine Km rfl ?_
      refine Kh ?_
      refine KB ?_
      refine KA (KO rfl rfl (KAQ (b:=1) (by omega))) (Nb rfl) ?_
      refine KA (KD rfl) (Nb rfl) ?_
      refine KG ?_
      exact ⟨x+1,⟨by omega,fun y hy t' ht'=>by
        rcases Nat.lt_or_ge y x with h'|h'
        · exact hx2 y h' t' ht'
        · obtain rfl:y = x:=by omega
          rw [hlx] at ht'; cases ht'; exact hh⟩,by omega,KAL ⟨rfl,rfl,rfl,rfl,trivial⟩ (by repeat (first|exact Sel.nil _|refine Sel.cons (by repeat (first|exact Ph _|apply Pt_)) ?_))⟩
    ·
      refine KB ?_
      refine KA (KD rfl) (Nb rfl) ?_
      refine LOps.det (KK rfl (by repeat (first|exact Mh _|apply Mt)) (by exact KN Try.underlying91 rfl sz_91)) (Nb rfl) ?_
      refine KI rfl (KT (KQ (first:=[]) rfl en_159 rfl (Nb rfl) (fun w hw=>c_hasF V b f bd hok t.1 t.2.1 t.2.2 w (hw _ (by repeat (first|exact Mh _|apply Mt))) (hw _ (by repeat (first|exact Mh _|apply Mt))) (hw _ (by repeat (first|exact Mh _|apply Mt))) ht9.1 ht9.2.1 ht9.2.2 hh) ?_))
      refine KA (KW (KAs rfl) (show _ = Value.bool true from rfl)) (Nb rfl) ?_
      refine KG ?_
      refine Kw rfl ?_
      refine KE (KB ?_)
      refine KA (KF rfl) (Nb rfl) ?_
      refine KA (KF (v:=.int .i64 ((1501:Nat):Int)) rfl) (Nb rfl) ?_
      refine KG (KY ?_)
      refine ⟨[_,_],.cons rfl (.cons rfl .nil),fun a w' hr=>⟨rfl,hr.fr.below⟩⟩
  ·
    have h16:¬ x<l.length:=h16
    refine KAM ?_
    refine KE (KB ?_)
    refine KA (KD rfl) (Nb rfl) ?_
    refine KA (KF rfl) (Nb rfl) ?_
    refine KA (KF (v:=.int .i64 ((0:Nat):Int)) rfl) (Nb rfl) ?_
    refine KG (KY ?_)
    exfalso
    obtain ⟨t,hm,hno⟩:=hbad
    obtain ⟨y,hy⟩:=List.getElem?_of_mem hm
    refine hno (hx2 y ?_ t hy)
    rcases Nat.lt_or_ge y l.length with h'|h'
    · omega
    · rw [List.getElem?_eq_none h'] at hy; cases hy
end Go.Proofs.Ytljblbgogjieaaa
set_option linter.unusedVariables false
set_option linter.unusedSimpArgs false
set_option maxRecDepth 20000
namespace Go.Proofs.Ytljblbgogjieaaa
open Go Go.RowKit
open Grp
theorem inf_pj:infOf Try.prog 91 = some (.agg ((vec .u64 9 (fun _=>0)++(vec .u64 9 (fun _=>0)++(vec .u64 9 (fun _=>0)))):List Value).toArray,27,216):=by kernel_rfl
theorem row_pj1:((Array.range (1*27)).map fun i=>(Value.agg ((vec .u64 9 (fun _=>0)++(vec .u64 9 (fun _=>0)++(vec .u64 9 (fun _=>0)))):List Value).toArray).cells[i%(Value.agg ((vec .u64 9 (fun _=>0)++(vec .u64 9 (fun _=>0)++(vec .u64 9 (fun _=>0)))):List Value).toArray).cells.size]!) = ((vec .u64 9 (fun _=>0)++(vec .u64 9 (fun _=>0)++(vec .u64 9 (fun _=>0)))):List Value).toArray:=by kernel_rfl
theorem row_pj2:((Array.range (2*27)).map fun i=>(Value.agg ((vec .u64 9 (fun _=>0)++(vec .u64 9 (fun _=>0)++(vec .u64 9 (fun _=>0)))):List Value).toArray).cells[i%(Value.agg ((vec .u64 9 (fun _=>0)++(vec .u64 9 (fun _=>0)++(vec .u64 9 (fun _=>0)))):List Value).toArray).cells.size]!) = ((vec .u64 9 (fun _=>0)++(vec .u64 9 (fun _=>0)++(vec .u64 9 (fun _=>0)++(vec .u64 9 (fun _=>0)++(vec .u64 9 (fun _=>0)++(vec .u64 9 (fun _=>0))))))):List Value).toArray:=by kernel_rfl
theorem fill_tr1 (X Y Z:Nat):fillL ((List.range 1).map fun i=>(i*27,27)) (vec .u64 9 (fun _=>0)++(vec .u64 9 (fun _=>0)++(vec .u64 9 (fun _=>0)))) [(0,pjV X Y Z)] = some (trL [(X,Y,Z)]):=by
  refine (KAY (A:=[]) (B:=(vec .u64 9 (fun _=>0)++(vec .u64 9 (fun _=>0)++(vec .u64 9 (fun _=>0))))) (D:=[]) (cs:=pjL X Y Z) rfl rfl (KZ _ _ _) (by simp) rfl (by simp [KM]) rfl).trans ?_
  simp [trL]
theorem fill_tr2 (X Y Z X' Y' Z':Nat):fillL ((List.range 2).map fun i=>(i*27,27)) (vec .u64 9 (fun _=>0)++(vec .u64 9 (fun _=>0)++(vec .u64 9 (fun _=>0)++(vec .u64 9 (fun _=>0)++(vec .u64 9 (fun _=>0)++(vec .u64 9 (fun _=>0))))))) [(0,pjV X Y Z),(1,pjV X' Y' Z')] = some (trL [(X,Y,Z),(X',Y',Z')]):=by
  refine KAY (A:=[]) (B:=(vec .u64 9 (fun _=>0)++(vec .u64 9 (fun _=>0)++(vec .u64 9 (fun _=>0))))) (D:=(vec .u64 9 (fun _=>0)++(vec .u64 9 (fun _=>0)++(vec .u64 9 (fun _=>0))))) (cs:=pjL X Y Z) rfl rfl (KZ _ _ _) (by simp only [List.append_assoc,List.nil_append]) rfl (by simp [KM]) ?_
  refine (KAY (A:=pjL X Y Z) (B:=(vec .u64 9 (fun _=>0)++(vec .u64 9 (fun _=>0)++(vec .u64 9 (fun _=>0))))) (D:=[]) (cs:=pjL X' Y' Z') rfl rfl (KZ _ _ _) (by simp only [List.append_assoc,List.nil_append,List.append_nil]) (KZ _ _ _) (by simp [KM]) rfl).trans ?_
  simp [trL]
theorem c_projTo_bad (id:Int) (V:Cv) (X Y Z:Nat) (w:World) (h:cvI id = some V) (hX:X<W9) (hY:Y<W9) (hZ:Z<W9) (hn:¬ TrHas V X Y Z):Calls Try.prog 81 ([.int .i64 id,pjV X Y Z]:List Value).toArray w (fun e w'=>e = .returned (.tuple #[ptV 0 0 false,.int .i64 ((1501:Nat):Int)])∧Below w.heap.size w w'):=by
  refine Kz (N:=22) (rs:=[.cell 4 60,.tmp 5]) [] Try.func81 rfl Try.ntmps81 Try.results81 (Nb rfl) trivial rfl ?_
  show LCode _ _ _ ⟨_,_⟩ _
  refine KE (KB ?_)
  refine KI rfl (KT (KR (Ky rfl) (Nb rfl) (fun b3=>?_)))
  refine KI rfl (KT (KR (Ke zr_60) (Nb rfl) (fun b4=>?_)))
  refine KA (KF (v:=.int .i64 ((0:Nat):Int)) rfl) (Nb rfl) ?_
  refine KG ?_
  refine KE (KB ?_)
  refine KA (KD rfl) (Nb rfl) ?_
  refine LOps.det (KK rfl (by repeat (first|exact Mh _|apply Mt)) (by exact KN Try.underlying91 rfl sz_91)) (Nb rfl) ?_
  refine KI rfl (KT (KR (Makes.row Try.underlying103 inf_pj (by decide) row_pj1 rfl (fill_tr1 _ _ _) (fun h=>by cases h)) (Nb rfl) (fun b11=>?_)))
  refine KI rfl (KT (KQ (first:=[]) rfl en_126 rfl (Nb rfl) (fun w hw=>c_popen_bad id V [(X,Y,Z)] b11 w h (show (Item.blk b11 ⟨true,_,_,_⟩).holds w from hw _ (by repeat (first|exact Mh _|apply Mt))) (show 1<1000 by decide) (by intro t ht; simp at ht; subst ht; exact ⟨hX,hY,hZ⟩) ⟨_,.head _,hn⟩) ?_))
  refine KA (KD rfl) (Nb rfl) ?_
  refine KA (Kc rfl rfl) (Nb rfl) ?_
  refine KA (Kc rfl rfl) (Nb rfl) ?_
  refine KA (KF rfl) (Nb rfl) ?_
  refine KA (KF rfl) (Nb rfl) ?_
  refine KG ?_
  refine KE ?_
  refine KE (KB ?_)
  refine KA (KD rfl) (Nb rfl) ?_
  refine KA (KO (v:=.bool true) rfl rfl (br_t (br_neq (b:=0)) (by decide))) (Nb rfl) ?_
  refine KG ?_
  refine Kw rfl ?_
  refine KE (KB ?_)
  refine KA (KW (KAR pl_60 zr_60 rfl rfl) (show _ = ptV 0 0 false from pt_zero)) (Nb rfl) ?_
  refine KA (KD rfl) (Nb rfl) ?_
  refine KI rfl (KP rfl rfl sz_60 (by repeat (first|exact Kl _|exact Ks _ _ _|exact Kj _|exact Ko _ _ _|exact Kq _ _ _|exact KX|refine KS rfl ?_|refine KV ?_ ?_)) (by repeat (first|exact Sh _|apply St_)) (by first|exact KH _|exact KM _ _ _|exact KJ _|exact KU _ _ _|exact KZ _ _ _|rfl|simp [KM,KH,KJ]) ?_)
  refine KA (KF rfl) (Nb rfl) ?_
  refine KG (KY ?_)
  refine ⟨[_,_],.cons ⟨_,_,_,rfl,(by repeat (first|exact Mh _|apply Mt)),by exact KN Try.underlying60 rfl sz_60⟩ (.cons rfl .nil),fun a w' hr=>⟨?_,hr.fr.below⟩⟩
  rfl
theorem c_projTo (id:Int) (V:Cv) (T:Fin V.p×Fin V.p×Fin V.p) (P:Pt V.p) (w:World) (h:cvI id = some V) (hT:RepT V T P):Calls Try.prog 81 ([.int .i64 id,pjF T]:List Value).toArray w (fun e w'=>e = .returned (.tuple #[ptP P,.int .i64 ((0:Nat):Int)])∧Below w.heap.size w w'):=by
  obtain ⟨hok,hid⟩:=cvI_ok h
  have hbb:=hok.bounds
  have hpW:V.p<W9:=w9_521 hbb.2.1
  have hnW:V.n<W9:=w9_521 hbb.2.2.2.2.2.2.1
  have hbl:=blen_w9 hnW
  have hnb:nby V.n≤72:=by (unfold nby; omega)
  refine Kz (N:=22) (rs:=[.cell 4 60,.tmp 5]) [] Try.func81 rfl Try.ntmps81 Try.results81 (Nb rfl) trivial rfl ?_
  show LCode _ _ _ ⟨_,_⟩ _
  refine KE (KB ?_)
  refine KI rfl (KT (KR (Ky rfl) (Nb rfl) (fun b3=>?_)))
  refine KI rfl (KT (KR (Ke zr_60) (Nb rfl) (fun b4=>?_)))
  refine KA (KF (v:=.int .i64 ((0:Nat):Int)) rfl) (Nb rfl) ?_
  refine KG ?_
  refine KE (KB ?_)
  refine KA (KD rfl) (Nb rfl) ?_
  refine LOps.det (KK rfl (by repeat (first|exact Mh _|apply Mt)) (by exact KN Try.underlying91 rfl sz_91)) (Nb rfl) ?_
  refine KI rfl (KT (KR (Makes.row Try.underlying103 inf_pj (by decide) row_pj1 rfl (fill_tr1 _ _ _) (fun h=>by cases h)) (Nb rfl) (fun b11=>?_)))
  refine KI rfl (KT (KAA (Post:=fun v its=>∃ b f bd,v = .tuple #[.pointer (some ⟨b,0,none⟩),.int .i64 ((0:Nat):Int)]∧its = [.blk b ⟨false,opL V f,147,(0,0)⟩,.blk f ⟨false,fldL V.p bd,194,(0,0)⟩,.blk bd ⟨false,dvL V.p,241,(0,0)⟩]) (first:=[]) rfl en_126 rfl (Nb rfl) (fun w hw hs=>(c_popen id V [(T.1.val,T.2.1.val,T.2.2.val)] b11 w h (show (Item.blk b11 ⟨true,_,_,_⟩).holds w from hw _ (by repeat (first|exact Mh _|apply Mt))) (show 1<1000 by decide) (by intro t ht; simp at ht; subst ht; exact ⟨Nat.lt_trans T.1.isLt hpW,Nat.lt_trans T.2.1.isLt hpW,Nat.lt_trans T.2.2.isLt hpW⟩) (by intro t ht; simp at ht; subst ht; exact hT.has)).mono fun e w' ⟨b,f,bd,h1,h2,h3,h4,h5,h6,h7,h8⟩=>⟨_,_,⟨b,f,bd,rfl,rfl⟩,h1,Brings.nums h8 (by intro x hx; simp at hx; rcases hx with rfl|rfl|rfl; exact h2; exact h3; exact h4) (by intro x hx; simp at hx; rcases hx with rfl|rfl|rfl <;> rfl) (by intro x hx k hk; simp at hx; rcases hx with rfl|rfl|rfl <;> simp [Item.fp] at hk <;> subst hk; exact .inl h5; exact .inl h6; exact .inl h7)⟩) ?_))
  rintro _ _ ⟨b,f,bd,rfl,rfl⟩
  refine KA (KD rfl) (Nb rfl) ?_
  refine KA (Kc rfl rfl) (Nb rfl) ?_
  refine KA (Kc rfl rfl) (Nb rfl) ?_
  refine KA (KF rfl) (Nb rfl) ?_
  refine KA (KF rfl) (Nb rfl) ?_
  refine KG ?_
  refine KE ?_
  refine KE (KB ?_)
  refine KA (KD rfl) (Nb rfl) ?_
  refine KA (KO (v:=.bool false) rfl rfl (br_f (br_neq (b:=0)) (fun e=>e rfl))) (Nb rfl) ?_
  refine KG ?_
  refine Km rfl ?_
  refine Kh ?_
  refine KE (KB ?_)
  refine KA (KD rfl) (Nb rfl) ?_
  refine LOps.det (KK rfl (by repeat (first|exact Mh _|apply Mt)) (by exact KN Try.underlying91 rfl sz_91)) (Nb rfl) ?_
  refine KI rfl (KT (KQ (first:=[]) rfl en_127 rfl (Nb rfl) (fun w hw=>c_PlainT V b f bd hok (T) (P) w (hw _ (by repeat (first|exact Mh _|apply Mt))) (hw _ (by repeat (first|exact Mh _|apply Mt))) (hw _ (by repeat (first|exact Mh _|apply Mt))) (hT)) ?_))
  refine KI rfl (KP rfl rfl sz_60 (by repeat (first|exact Kl _|exact Ks _ _ _|exact Kj _|exact Ko _ _ _|exact Kq _ _ _|exact KX|refine KS rfl ?_|refine KV ?_ ?_)) (by repeat (first|exact Sh _|apply St_)) (by first|exact KH _|exact KM _ _ _|exact KJ _|exact KU _ _ _|exact KZ _ _ _|rfl|simp [KM,KH,KJ]) ?_)
  refine KA (KF (v:=.int .i64 ((0:Nat):Int)) rfl) (Nb rfl) ?_
  refine KG (KY ?_)
  refine ⟨[_,_],.cons ⟨_,_,_,rfl,(by repeat (first|exact Mh _|apply Mt)),by exact KN Try.underlying60 rfl sz_60⟩ (.cons rfl .nil),fun a w' hr=>⟨?_,hr.fr.below⟩⟩
  rfl
theorem c_projAdd (id:Int) (V:Cv) (T U:Fin V.p×Fin V.p×Fin V.p) (P R:Pt V.p) (w:World) (h:cvI id = some V) (hT:RepT V T P) (hU:RepT V U R):Calls Try.prog 82 ([.int .i64 id,pjF T,pjF U]:List Value).toArray w (fun e w'=>e = .returned (.tuple #[pjF (sumT V T U),.int .i64 ((0:Nat):Int)])∧Below w.heap.size w w'):=by
  obtain ⟨hok,hid⟩:=cvI_ok h
  have hbb:=hok.bounds
  have hpW:V.p<W9:=w9_521 hbb.2.1
  have hnW:V.n<W9:=w9_521 hbb.2.2.2.2.2.2.1
  have hbl:=blen_w9 hnW
  have hnb:nby V.n≤72:=by (unfold nby; omega)
  refine Kz (N:=26) (rs:=[.cell 6 91,.tmp 7]) [] Try.func82 rfl Try.ntmps82 Try.results82 (Nb rfl) trivial rfl ?_
  show LCode _ _ _ ⟨_,_⟩ _
  refine KE (KB ?_)
  refine KI rfl (KT (KR (Ky rfl) (Nb rfl) (fun b4=>?_)))
  refine KI rfl (KT (KR (Ky rfl) (Nb rfl) (fun b5=>?_)))
  refine KI rfl (KT (KR (Ke zr_91) (Nb rfl) (fun b6=>?_)))
  refine KA (KF (v:=.int .i64 ((0:Nat):Int)) rfl) (Nb rfl) ?_
  refine KG ?_
  refine KE (KB ?_)
  refine KA (KD rfl) (Nb rfl) ?_
  refine LOps.det (KK rfl (by repeat (first|exact Mh _|apply Mt)) (by exact KN Try.underlying91 rfl sz_91)) (Nb rfl) ?_
  refine LOps.det (KK rfl (by repeat (first|exact Mh _|apply Mt)) (by exact KN Try.underlying91 rfl sz_91)) (Nb rfl) ?_
  refine KI rfl (KT (KR (Makes.row Try.underlying103 inf_pj (by decide) row_pj2 rfl (fill_tr2 _ _ _ _ _ _) (fun h=>by cases h)) (Nb rfl) (fun b14=>?_)))
  refine KI rfl (KT (KAA (Post:=fun v its=>∃ b f bd,v = .tuple #[.pointer (some ⟨b,0,none⟩),.int .i64 ((0:Nat):Int)]∧its = [.blk b ⟨false,opL V f,147,(0,0)⟩,.blk f ⟨false,fldL V.p bd,194,(0,0)⟩,.blk bd ⟨false,dvL V.p,241,(0,0)⟩]) (first:=[]) rfl en_126 rfl (Nb rfl) (fun w hw hs=>(c_popen id V [(T.1.val,T.2.1.val,T.2.2.val),(U.1.val,U.2.1.val,U.2.2.val)] b14 w h (show (Item.blk b14 ⟨true,_,_,_⟩).holds w from hw _ (by repeat (first|exact Mh _|apply Mt))) (show 2<1000 by decide) (by intro t ht; simp at ht; rcases ht with rfl|rfl; exact ⟨Nat.lt_trans T.1.isLt hpW,Nat.lt_trans T.2.1.isLt hpW,Nat.lt_trans T.2.2.isLt hpW⟩; exact ⟨Nat.lt_trans U.1.isLt hpW,Nat.lt_trans U.2.1.isLt hpW,Nat.lt_trans U.2.2.isLt hpW⟩) (by intro t ht; simp at ht; rcases ht with rfl|rfl; exact hT.has; exact hU.has)).mono fun e w' ⟨b,f,bd,h1,h2,h3,h4,h5,h6,h7,h8⟩=>⟨_,_,⟨b,f,bd,rfl,rfl⟩,h1,Brings.nums h8 (by intro x hx; simp at hx; rcases hx with rfl|rfl|rfl; exact h2; exact h3; exact h4) (by intro x hx; simp at hx; rcases hx with rfl|rfl|rfl <;> rfl) (by intro x hx k hk; simp at hx; rcases hx with rfl|rfl|rfl <;> simp [Item.fp] at hk <;> subst hk; exact .inl h5; exact .inl h6; exact .inl h7)⟩) ?_))
  rintro _ _ ⟨b,f,bd,rfl,rfl⟩
  refine KA (KD rfl) (Nb rfl) ?_
  refine KA (Kc rfl rfl) (Nb rfl) ?_
  refine KA (Kc rfl rfl) (Nb rfl) ?_
  refine KA (KF rfl) (Nb rfl) ?_
  refine KA (KF rfl) (Nb rfl) ?_
  refine KG ?_
  refine KE ?_
  refine KE (KB ?_)
  refine KA (KD rfl) (Nb rfl) ?_
  refine KA (KO (v:=.bool false) rfl rfl (br_f (br_neq (b:=0)) (fun e=>e rfl))) (Nb rfl) ?_
  refine KG ?_
  refine Km rfl ?_
  refine Kh ?_
  refine KE (KB ?_)
  refine KA (KD rfl) (Nb rfl) ?_
  refine LOps.det (KK rfl (by repeat (first|exact Mh _|apply Mt)) (by exact KN Try.underlying91 rfl sz_91)) (Nb rfl) ?_
  refine LOps.det (KK rfl (by repeat (first|exact Mh _|apply Mt)) (by exact KN Try.underlying91 rfl sz_91)) (Nb rfl) ?_
  refine KI rfl (KT (KQ (first:=[]) rfl en_128 rfl (Nb rfl) (fun w hw=>c_SumT V b f bd hok (T) (U) w (hw _ (by repeat (first|exact Mh _|apply Mt))) (hw _ (by repeat (first|exact Mh _|apply Mt))) (hw _ (by repeat (first|exact Mh _|apply Mt)))) ?_))
  refine KI rfl (KP rfl rfl sz_91 (by repeat (first|exact Kl _|exact Ks _ _ _|exact Kj _|exact Ko _ _ _|exact Kq _ _ _|exact KX|refine KS rfl ?_|refine KV ?_ ?_)) (by repeat (first|exact Sh _|apply St_)) (by first|exact KH _|exact KM _ _ _|exact KJ _|exact KU _ _ _|exact KZ _ _ _|rfl|simp [KM,KH,KJ]) ?_)
  refine KA (KF (v:=.int .i64 ((0:Nat):Int)) rfl) (Nb rfl) ?_
  refine KG (KY ?_)
  refine ⟨[_,_],.cons ⟨_,_,_,rfl,(by repeat (first|exact Mh _|apply Mt)),by exact KN Try.underlying91 rfl sz_91⟩ (.cons rfl .nil),fun a w' hr=>⟨?_,hr.fr.below⟩⟩
  rfl
theorem c_projDouble (id:Int) (V:Cv) (T:Fin V.p×Fin V.p×Fin V.p) (P:Pt V.p) (w:World) (h:cvI id = some V) (hT:RepT V T P):Calls Try.prog 83 ([.int .i64 id,pjF T]:List Value).toArray w (fun e w'=>e = .returned (.tuple #[pjF (sumT V T T),.int .i64 ((0:Nat):Int)])∧Below w.heap.size w w'):=by
  refine Kz (N:=12) (rs:=[.cell 4 91,.tmp 5]) [] Try.func83 rfl Try.ntmps83 Try.results83 (Nb rfl) trivial rfl ?_
  show LCode _ _ _ ⟨_,_⟩ _
  refine KE (KB ?_)
  refine KI rfl (KT (KR (Ky rfl) (Nb rfl) (fun b3=>?_)))
  refine KI rfl (KT (KR (Ke zr_91) (Nb rfl) (fun b4=>?_)))
  refine KA (KF (v:=.int .i64 ((0:Nat):Int)) rfl) (Nb rfl) ?_
  refine KG ?_
  refine KE (KB ?_)
  refine KA (KD rfl) (Nb rfl) ?_
  refine LOps.det (KK rfl (by repeat (first|exact Mh _|apply Mt)) (by exact KN Try.underlying91 rfl sz_91)) (Nb rfl) ?_
  refine LOps.det (KK rfl (by repeat (first|exact Mh _|apply Mt)) (by exact KN Try.underlying91 rfl sz_91)) (Nb rfl) ?_
  refine KI rfl (KT (KQ (first:=[]) rfl en_82 rfl (Nb rfl) (fun w hw=>c_projAdd id V T T P P w h hT hT) ?_))
  refine KA (Kc rfl rfl) (Nb rfl) ?_
  refine KA (Kc rfl rfl) (Nb rfl) ?_
  refine KI rfl (KP rfl rfl sz_91 (by repeat (first|exact Kl _|exact Ks _ _ _|exact Kj _|exact Ko _ _ _|exact Kq _ _ _|exact KX|refine KS rfl ?_|refine KV ?_ ?_)) (by repeat (first|exact Sh _|apply St_)) (by first|exact KH _|exact KM _ _ _|exact KJ _|exact KU _ _ _|exact KZ _ _ _|rfl|simp [KM,KH,KJ]) ?_)
  refine KA (KF rfl) (Nb rfl) ?_
  refine KG (KY ?_)
  refine ⟨[_,_],.cons ⟨_,_,_,rfl,(by repeat (first|exact Mh _|apply Mt)),by exact KN Try.underlying91 rfl sz_91⟩ (.cons rfl .nil),fun a w' hr=>⟨?_,hr.fr.below⟩⟩
  rfl
theorem c_projFrom_none (id:Int) (X Y:Nat) (i:Bool) (w:World) (h:cvI id = none):Calls Try.prog 86 ([.int .i64 id,ptV X Y i]:List Value).toArray w (fun e w'=>e = .returned (.tuple #[pjV 0 0 0,.int .i64 ((1500:Nat):Int)])∧Below w.heap.size w w'):=by
  refine Kz (N:=26) (rs:=[.cell 4 91,.tmp 5]) [] Try.func86 rfl Try.ntmps86 Try.results86 (Nb rfl) trivial rfl ?_
  show LCode _ _ _ ⟨_,_⟩ _
  refine KE (KB ?_)
  refine KI rfl (KT (KR (Ky rfl) (Nb rfl) (fun b3=>?_)))
  refine KI rfl (KT (KR (Ke zr_91) (Nb rfl) (fun b4=>?_)))
  refine KA (KF (v:=.int .i64 ((0:Nat):Int)) rfl) (Nb rfl) ?_
  refine KG ?_
  refine KE (KB ?_)
  refine KA (KD rfl) (Nb rfl) ?_
  refine KI rfl (KT (KQ (first:=[]) rfl en_126 rfl (Nb rfl) (fun w hw=>c_popen_none id _ w h) ?_))
  refine KA (KD rfl) (Nb rfl) ?_
  refine KA (Kc rfl rfl) (Nb rfl) ?_
  refine KA (Kc rfl rfl) (Nb rfl) ?_
  refine KA (KF rfl) (Nb rfl) ?_
  refine KA (KF rfl) (Nb rfl) ?_
  refine KG ?_
  refine KE ?_
  refine LCode.block ?_
  refine KE (KB ?_)
  refine KA (KD rfl) (Nb rfl) ?_
  refine KA (KO (v:=.bool true) rfl rfl (br_t (br_neq (b:=0)) (by decide))) (Nb rfl) ?_
  refine KA (KF rfl) (Nb rfl) ?_
  refine KG ?_
  refine Kw rfl ?_
  refine KE (KB ?_)
  refine KA (KW (KAR pl_91 zr_91 rfl rfl) (show _ = pjV 0 0 0 from pj_zero)) (Nb rfl) ?_
  refine KA (KD rfl) (Nb rfl) ?_
  refine KI rfl (KP rfl rfl sz_91 (by repeat (first|exact Kl _|exact Ks _ _ _|exact Kj _|exact Ko _ _ _|exact Kq _ _ _|exact KX|refine KS rfl ?_|refine KV ?_ ?_)) (by repeat (first|exact Sh _|apply St_)) (by first|exact KH _|exact KM _ _ _|exact KJ _|exact KU _ _ _|exact KZ _ _ _|rfl|simp [KM,KH,KJ]) ?_)
  refine KA (KF rfl) (Nb rfl) ?_
  refine KG (KY ?_)
  refine ⟨[_,_],.cons ⟨_,_,_,rfl,(by repeat (first|exact Mh _|apply Mt)),by exact KN Try.underlying91 rfl sz_91⟩ (.cons rfl .nil),fun a w' hr=>⟨?_,hr.fr.below⟩⟩
  rfl
theorem c_projFrom (id:Int) (V:Cv) (P:Pt V.p) (w:World) (h:cvI id = some V) (hP:On V.A V.B P):Calls Try.prog 86 ([.int .i64 id,ptP P]:List Value).toArray w (fun e w'=>e = .returned (.tuple #[pjF (tripF P),.int .i64 ((0:Nat):Int)])∧Below w.heap.size w w'):=by
  obtain ⟨hok,hid⟩:=cvI_ok h
  have hbb:=hok.bounds
  have hpW:V.p<W9:=w9_521 hbb.2.1
  have hnW:V.n<W9:=w9_521 hbb.2.2.2.2.2.2.1
  have hbl:=blen_w9 hnW
  have hnb:nby V.n≤72:=by (unfold nby; omega)
  refine Kz (N:=26) (rs:=[.cell 4 91,.tmp 5]) [] Try.func86 rfl Try.ntmps86 Try.results86 (Nb rfl) trivial rfl ?_
  show LCode _ _ _ ⟨_,_⟩ _
  refine KE (KB ?_)
  refine KI rfl (KT (KR (Ky rfl) (Nb rfl) (fun b3=>?_)))
  refine KI rfl (KT (KR (Ke zr_91) (Nb rfl) (fun b4=>?_)))
  refine KA (KF (v:=.int .i64 ((0:Nat):Int)) rfl) (Nb rfl) ?_
  refine KG ?_
  refine KE (KB ?_)
  refine KA (KD rfl) (Nb rfl) ?_
  refine KI rfl (KT (KAA (Post:=fun v its=>∃ b f bd,v = .tuple #[.pointer (some ⟨b,0,none⟩),.int .i64 ((0:Nat):Int)]∧its = [.blk b ⟨false,opL V f,147,(0,0)⟩,.blk f ⟨false,fldL V.p bd,194,(0,0)⟩,.blk bd ⟨false,dvL V.p,241,(0,0)⟩]) (first:=[]) rfl en_126 rfl (Nb rfl) (fun w hw hs=>(c_popen0 id V w h).mono fun e w' ⟨b,f,bd,h1,h2,h3,h4,h5,h6,h7,h8⟩=>⟨_,_,⟨b,f,bd,rfl,rfl⟩,h1,Brings.nums h8 (by intro x hx; simp at hx; rcases hx with rfl|rfl|rfl; exact h2; exact h3; exact h4) (by intro x hx; simp at hx; rcases hx with rfl|rfl|rfl <;> rfl) (by intro x hx k hk; simp at hx; rcases hx with rfl|rfl|rfl <;> simp [Item.fp] at hk <;> subst hk; exact .inl h5; exact .inl h6; exact .inl h7)⟩) ?_))
  rintro _ _ ⟨b,f,bd,rfl,rfl⟩
  refine KA (KD rfl) (Nb rfl) ?_
  refine KA (Kc rfl rfl) (Nb rfl) ?_
  refine KA (Kc rfl rfl) (Nb rfl) ?_
  refine KA (KF rfl) (Nb rfl) ?_
  refine KA (KF rfl) (Nb rfl) ?_
  refine KG ?_
  refine KE ?_
  refine LCode.block ?_
  refine KE (KB ?_)
  refine KA (KD rfl) (Nb rfl) ?_
  refine KA (KO (v:=.bool false) rfl rfl (br_f (br_neq (b:=0)) (fun e=>e rfl))) (Nb rfl) ?_
  refine KA (KF rfl) (Nb rfl) ?_
  refine KG ?_
  refine Km rfl ?_
  refine KE (KB ?_)
  refine KA (KD rfl) (Nb rfl) ?_
  refine LOps.det (KK rfl (by repeat (first|exact Mh _|apply Mt)) (by exact KN Try.underlying60 rfl sz_60)) (Nb rfl) ?_
  refine KI rfl (KT (KQ (first:=[]) rfl en_122 rfl (Nb rfl) (fun w hw=>c_cOnP V b f bd hok (P) w (hw _ (by repeat (first|exact Mh _|apply Mt))) (hw _ (by repeat (first|exact Mh _|apply Mt))) (hw _ (by repeat (first|exact Mh _|apply Mt))) hP) ?_))
  refine KA (KW (KAs rfl) (show _ = Value.bool false from rfl)) (Nb rfl) ?_
  refine KA (KF rfl) (Nb rfl) ?_
  refine KG ?_
  refine Km rfl ?_
  refine Kh ?_
  refine KE (KB ?_)
  refine LOps.det (KK rfl (by repeat (first|exact Mh _|apply Mt)) (by exact KN Try.underlying60 rfl sz_60)) (Nb rfl) ?_
  refine KI rfl (KT (KQ (first:=[]) rfl en_129 rfl (Nb rfl) (fun w hw=>c_Triple V hok P w) ?_))
  refine KI rfl (KP rfl rfl sz_91 (by repeat (first|exact Kl _|exact Ks _ _ _|exact Kj _|exact Ko _ _ _|exact Kq _ _ _|exact KX|refine KS rfl ?_|refine KV ?_ ?_)) (by repeat (first|exact Sh _|apply St_)) (by first|exact KH _|exact KM _ _ _|exact KJ _|exact KU _ _ _|exact KZ _ _ _|rfl|simp [KM,KH,KJ]) ?_)
  refine KA (KF (v:=.int .i64 ((0:Nat):Int)) rfl) (Nb rfl) ?_
  refine KG (KY ?_)
  refine ⟨[_,_],.cons ⟨_,_,_,rfl,(by repeat (first|exact Mh _|apply Mt)),by exact KN Try.underlying91 rfl sz_91⟩ (.cons rfl .nil),fun a w' hr=>⟨?_,hr.fr.below⟩⟩
  rfl
end Go.Proofs.Ytljblbgogjieaaa
set_option linter.unusedVariables false
set_option linter.unusedSimpArgs false
set_option maxRecDepth 20000
namespace Go.Proofs.Ytljblbgogjieaaa
open Go Go.RowKit
open Grp
theorem no_zero (V:Cv):¬ TrHas V 0 0 0:=fun ⟨T,h1,h2,h3,h4⟩=>h4.1 ⟨Fin.ext h1,Fin.ext h2,Fin.ext h3⟩
theorem c_awake15  (w:World)  : Calls Try.prog 84 ([]:List Value).toArray w (fun e w'=>e = .returned (.bool true)∧Below w.heap.size w w'):=by
  obtain ⟨V,hV⟩:∃ V,V = cv13:=⟨_,rfl⟩
  have h:cvI 13 = some V:=by rw [hV]; rfl
  obtain ⟨hok,hid⟩:=cvI_ok h
  have hn13:V.n = 223:=by rw [hV]; rfl
  obtain ⟨hb5,hb521,hba,hbb,hbx,hby,hbn,hbo,hbo2,hbb1,hbn1⟩:=hok.bounds
  have hsz:=hok.sz
  have hsp:=hsz.p
  have hsa:=hsz.a
  have hsb:=hsz.b
  have hp0:V.p≠0:=by omega
  have hpp:0<V.p:=by omega
  have hm17:∀ k,D.nw (k%V.p)≤17:=fun k=>Nat.le_trans (D.nw_mono (Nat.le_of_lt (Nat.mod_lt k hpp))) hsp
  refine Kz (N:=92) (rs:=[.tmp 0]) [] Try.func84 rfl Try.ntmps84 Try.results84 (Nb rfl) trivial rfl ?_
  show LCode _ _ _ ⟨_,_⟩ _
  refine KE (KB ?_)
  refine KA (KF rfl) (Nb rfl) ?_
  refine KG ?_
  refine KE (KB ?_)
  refine KI rfl (KT (KAA (Post:=fun v its=>∃ Q,v = .tuple #[.agg (crvL Q V).toArray,.bool true]∧its = [crvI Q V]) (first:=[]) rfl en_43 rfl (Nb rfl) (fun w1 hw hs=>(c_r_Get _ V w1 h).mono fun e w' ⟨Q,h1,h2,h3,h4⟩=>⟨_,_,⟨Q,rfl,rfl⟩,h1,Brings.nums h4 (by intro x hx; simp at hx; subst hx; exact h2) (by intro x hx; simp at hx; subst hx; rfl) (by intro x hx k hk; simp at hx; subst hx; exact .inl (h3 k hk))⟩) ?_))
  rintro _ _ ⟨Q,rfl,rfl⟩
  refine KA (KD rfl) (Nb rfl) ?_
  refine KA (Kc rfl rfl) (Nb rfl) ?_
  refine KA (Kc rfl rfl) (Nb rfl) ?_
  refine KI rfl (KT (KR (Ke zr_31) (Nb rfl) (fun b1=>?_)))
  refine KI rfl (KP rfl rfl sz_31 (by repeat (first|exact KX|refine KS rfl ?_)) (by repeat (first|exact Sh _|apply St_)) (by rfl) ?_)
  refine KA (KF rfl) (Nb rfl) ?_
  refine KG ?_
  refine KE (KB ?_)
  refine LOps.det (KK rfl (by repeat (first|exact Mh _|apply Mt)) (by exact KN Try.underlying31 rfl sz_31)) (Nb rfl) ?_
  refine KI rfl (KT (KAA (first:=[]) rfl en_80 rfl (Nb rfl) (fun w hw hs=>(c_r_GP Q V w (hw _ (by repeat (first|exact Mh _|apply Mt))) hok).mono fun e w' h=>Num2R.q (Old.one (x:=crvI Q V) (by repeat (first|exact Mh _|apply Mt)) rfl) hs h) ?_))
  rintro _ _ ⟨qga,qgb,rfl,rfl,hnga,hngb⟩
  refine KI rfl (KT (KQ (first:=[]) rfl en_66 rfl (Nb rfl) (fun w hw=>c_r_OutP V qga qgb (V.G) w (hw _ (by repeat (first|exact Mh _|apply Mt))) (hw _ (by repeat (first|exact Mh _|apply Mt)))) ?_))
  refine KI rfl (KT (KR (Ke zr_60) (Nb rfl) (fun b3=>?_)))
  refine KI rfl (KP rfl rfl sz_60 (by exact Ko _ _ _) (by repeat (first|exact Sh _|apply St_)) (by exact KU _ _ _) ?_)
  refine KG ?_
  refine KE (KB ?_)
  refine LOps.det (KK rfl (by repeat (first|exact Mh _|apply Mt)) (by exact KN Try.underlying60 rfl sz_60)) (Nb rfl) ?_
  refine KI rfl (KT (KQ (first:=[]) rfl en_86 rfl (Nb rfl) (fun w hw=>c_projFrom 13 V V.G w h hok.on) ?_))
  refine KA (KD rfl) (Nb rfl) ?_
  refine KA (Kc rfl rfl) (Nb rfl) ?_
  refine KA (Kc rfl rfl) (Nb rfl) ?_
  refine KI rfl (KT (KR (Ke zr_91) (Nb rfl) (fun b4=>?_)))
  refine KI rfl (KP rfl rfl sz_91 (by exact Kq _ _ _) (by repeat (first|exact Sh _|apply St_)) (by exact KZ _ _ _) ?_)
  refine KA (KF rfl) (Nb rfl) ?_
  refine KG ?_
  refine KE (KB ?_)
  refine LOps.det (KK rfl (by repeat (first|exact Mh _|apply Mt)) (by exact KN Try.underlying91 rfl sz_91)) (Nb rfl) ?_
  refine KI rfl (KT (KQ (first:=[]) rfl en_81 rfl (Nb rfl) (fun w hw=>c_projTo 13 V (tripF V.G) V.G w h (RepT.trip hok hok.on)) ?_))
  refine KA (KD rfl) (Nb rfl) ?_
  refine KA (Kc rfl rfl) (Nb rfl) ?_
  refine KA (Kc rfl rfl) (Nb rfl) ?_
  refine KI rfl (KT (KR (Ke zr_60) (Nb rfl) (fun b6=>?_)))
  refine KI rfl (KP rfl rfl sz_60 (by exact Ko _ _ _) (by repeat (first|exact Sh _|apply St_)) (by exact KU _ _ _) ?_)
  refine KA (KF rfl) (Nb rfl) ?_
  refine KG ?_
  refine KE (KB ?_)
  refine LOps.det (KK rfl (by repeat (first|exact Mh _|apply Mt)) (by exact KN Try.underlying91 rfl sz_91)) (Nb rfl) ?_
  refine KI rfl (KT (KQ (first:=[]) rfl en_83 rfl (Nb rfl) (fun w hw=>c_projDouble 13 V (tripF V.G) V.G w h (RepT.trip hok hok.on)) ?_))
  refine KA (KD rfl) (Nb rfl) ?_
  refine KA (Kc rfl rfl) (Nb rfl) ?_
  refine KA (Kc rfl rfl) (Nb rfl) ?_
  refine KI rfl (KT (KR (Ke zr_91) (Nb rfl) (fun b8=>?_)))
  refine KI rfl (KP rfl rfl sz_91 (by exact Kq _ _ _) (by repeat (first|exact Sh _|apply St_)) (by exact KZ _ _ _) ?_)
  refine KA (KF rfl) (Nb rfl) ?_
  refine KG ?_
  refine KE (KB ?_)
  refine LOps.det (KK rfl (by repeat (first|exact Mh _|apply Mt)) (by exact KN Try.underlying91 rfl sz_91)) (Nb rfl) ?_
  refine KI rfl (KT (KQ (first:=[]) rfl en_81 rfl (Nb rfl) (fun w hw=>c_projTo 13 V (sumT V (tripF V.G) (tripF V.G)) (padd V.A V.G V.G) w h (RepT.sum hok (RepT.trip hok hok.on) (RepT.trip hok hok.on))) ?_))
  refine KA (KD rfl) (Nb rfl) ?_
  refine KA (Kc rfl rfl) (Nb rfl) ?_
  refine KA (Kc rfl rfl) (Nb rfl) ?_
  refine KI rfl (KT (KR (Ke zr_60) (Nb rfl) (fun b10=>?_)))
  refine KI rfl (KP rfl rfl sz_60 (by exact Ko _ _ _) (by repeat (first|exact Sh _|apply St_)) (by exact KU _ _ _) ?_)
  refine KA (KF rfl) (Nb rfl) ?_
  refine KG ?_
  refine KE (KB ?_)
  refine KA (KW (KAR pl_91 zr_91 rfl rfl) (show _ = pjV 0 0 0 from pj_zero)) (Nb rfl) ?_
  refine KI rfl (KT (KQ (first:=[]) rfl en_81 rfl (Nb rfl) (fun w hw=>c_projTo_bad 13 V 0 0 0 w h zero_w9 zero_w9 zero_w9 (no_zero V)) ?_))
  refine KA (KD rfl) (Nb rfl) ?_
  refine KA (Kc rfl rfl) (Nb rfl) ?_
  refine KA (Kc rfl rfl) (Nb rfl) ?_
  refine KI rfl (KT (KR (Ke zr_60) (Nb rfl) (fun b12=>?_)))
  refine KI rfl (KP rfl rfl sz_60 (by exact Ko _ _ _) (by repeat (first|exact Sh _|apply St_)) (by exact KU _ _ _) ?_)
  refine KA (KF rfl) (Nb rfl) ?_
  refine KG ?_
  refine KE (KB ?_)
  refine LOps.det (KK rfl (by repeat (first|exact Mh _|apply Mt)) (by exact KN Try.underlying60 rfl sz_60)) (Nb rfl) ?_
  refine KI rfl (KT (KQ (first:=[]) rfl en_86 rfl (Nb rfl) (fun w hw=>c_projFrom_none 0 (xv V.G) (yv V.G) (iv V.G) w rfl) ?_))
  refine KA (KD rfl) (Nb rfl) ?_
  refine KA (Kc rfl rfl) (Nb rfl) ?_
  refine KA (Kc rfl rfl) (Nb rfl) ?_
  refine KI rfl (KT (KR (Ke zr_91) (Nb rfl) (fun b14=>?_)))
  refine KI rfl (KP rfl rfl sz_91 (by exact Kq _ _ _) (by repeat (first|exact Sh _|apply St_)) (by exact KZ _ _ _) ?_)
  refine KA (KF rfl) (Nb rfl) ?_
  refine KG ?_
  refine KE ?_
  refine Kd [] (by kernel_rfl) ?_
  refine KC 0 rfl (by kernel_rfl) (Nb rfl) (KD rfl) ?_
  refine Kx 1 rfl rfl (by kernel_rfl) (KQ (first:=[]) rfl en_46 rfl (Nb rfl) (fun w hw=>c_Num _ w) ?_)
  refine KC 2 rfl (by kernel_rfl) (Nb rfl) (KO (v:=.bool true) rfl rfl (br_t (br_eql (b:=0)) (by first|rfl|assumption|omega|(simp; done)))) ?_
  refine KC 3 rfl (by kernel_rfl) (Nb rfl) (KD rfl) ?_
  refine KAp 4 rfl rfl rfl (by kernel_rfl) (Nb rfl) (KK rfl (by repeat (first|exact Mh _|apply Mt)) (by exact KN Try.underlying60 rfl sz_60)) ?_
  refine KAp 5 rfl rfl rfl (by kernel_rfl) (Nb rfl) (KK rfl (by repeat (first|exact Mh _|apply Mt)) (by exact KN Try.underlying60 rfl sz_60)) ?_
  refine KAF 6 rfl rfl rfl (by kernel_rfl) (Nb rfl) (KW (Det.eqa (by kernel_rfl) (fun w=>eq_ptP_t hok (P:=V.G) (Q:=V.G) (rfl) 10000 (by decide) w) rfl rfl) (show _ = Value.bool true by rfl)) ?_
  refine KC 7 rfl (by kernel_rfl) (Nb rfl) (KAI rfl rfl) ?_
  refine KC 8 rfl (by kernel_rfl) (Nb rfl) (KD rfl) ?_
  refine KAF 9 rfl rfl rfl (by kernel_rfl) (Nb rfl) (KD rfl) ?_
  refine LAny.oneG 10 rfl rfl rfl rfl (by kernel_rfl) (KQ (first:=[]) rfl en_46 rfl (Nb rfl) (fun w hw=>c_Num _ w) ?_)
  refine KAF 11 rfl rfl rfl (by kernel_rfl) (Nb rfl) (KO (v:=.bool true) rfl rfl (br_t (br_eql (b:=0)) (by first|rfl|assumption|omega|(simp; done)))) ?_
  refine KC 12 rfl (by kernel_rfl) (Nb rfl) (KAI rfl rfl) ?_
  refine KC 13 rfl (by kernel_rfl) (Nb rfl) (KD rfl) ?_
  refine KAF 14 rfl rfl rfl (by kernel_rfl) (Nb rfl) (KD rfl) ?_
  refine LAny.oneG 15 rfl rfl rfl rfl (by kernel_rfl) (KQ (first:=[]) rfl en_46 rfl (Nb rfl) (fun w hw=>c_Num _ w) ?_)
  refine KAF 16 rfl rfl rfl (by kernel_rfl) (Nb rfl) (KO (v:=.bool true) rfl rfl (br_t (br_eql (b:=0)) (by first|rfl|assumption|omega|(simp; done)))) ?_
  refine KC 17 rfl (by kernel_rfl) (Nb rfl) (KAI rfl rfl) ?_
  refine KC 18 rfl (by kernel_rfl) (Nb rfl) (KD rfl) ?_
  refine KAp 19 rfl rfl rfl (by kernel_rfl) (Nb rfl) (KK rfl (by repeat (first|exact Mh _|apply Mt)) (by exact KN Try.underlying60 rfl sz_60)) ?_
  refine KAp 20 rfl rfl rfl (by kernel_rfl) (Nb rfl) (KK rfl (by repeat (first|exact Mh _|apply Mt)) (by exact KN Try.underlying31 rfl sz_31)) ?_
  refine KAp 21 rfl rfl rfl (by kernel_rfl) (Nb rfl) (KK rfl (by repeat (first|exact Mh _|apply Mt)) (by exact KN Try.underlying31 rfl sz_31)) ?_
  refine KAp 23 rfl rfl rfl (by kernel_rfl) (Nb rfl) (KK rfl (by repeat (first|exact Mh _|apply Mt)) (by exact KN Try.underlying31 rfl sz_31)) ?_
  refine LAny.oneG 22 rfl rfl rfl rfl (by kernel_rfl) (KAA (first:=[]) rfl en_80 rfl (Nb rfl) (fun w hw hs=>(c_r_GP Q V w (hw _ (by repeat (first|exact Mh _|apply Mt))) hok).mono fun e w' h=>Num2R.q (Old.one (x:=crvI Q V) (by repeat (first|exact Mh _|apply Mt)) rfl) hs h) ?_)
  rintro _ _ ⟨qka,qkb,rfl,rfl,hnka,hnkb⟩
  refine LAny.oneG 24 rfl rfl rfl rfl (by kernel_rfl) (KAA (first:=[]) rfl en_80 rfl (Nb rfl) (fun w hw hs=>(c_r_GP Q V w (hw _ (by repeat (first|exact Mh _|apply Mt))) hok).mono fun e w' h=>Num2R.q (Old.one (x:=crvI Q V) (by repeat (first|exact Mh _|apply Mt)) rfl) hs h) ?_)
  rintro _ _ ⟨qla,qlb,rfl,rfl,hnla,hnlb⟩
  refine LAny.oneG 25 rfl rfl rfl rfl (by kernel_rfl) (KAA (first:=[]) rfl en_79 rfl (Nb rfl) (fun w hw hs=>(c_r_Plus Q V qka qkb qla qlb (V.G) (V.G) (padd V.A V.G V.G) w (hw _ (by repeat (first|exact Mh _|apply Mt))) hok (hw _ (by repeat (first|exact Mh _|apply Mt))) (hw _ (by repeat (first|exact Mh _|apply Mt))) (hw _ (by repeat (first|exact Mh _|apply Mt))) (hw _ (by repeat (first|exact Mh _|apply Mt))) (hok.on) (hok.on) (rfl)).mono fun e w' h=>Num2R.q (Old.pt (by repeat (first|exact Mh _|apply Mt)) (by repeat (first|exact Mh _|apply Mt)) (Old.pt (by repeat (first|exact Mh _|apply Mt)) (by repeat (first|exact Mh _|apply Mt)) (Old.nil _))) hs h) ?_)
  rintro _ _ ⟨qsa,qsb,rfl,rfl,hnsa,hnsb⟩
  refine LAny.oneG 26 rfl rfl rfl rfl (by kernel_rfl) (KQ (first:=[]) rfl en_66 rfl (Nb rfl) (fun w hw=>c_r_OutP V qsa qsb (padd V.A V.G V.G) w (hw _ (by repeat (first|exact Mh _|apply Mt))) (hw _ (by repeat (first|exact Mh _|apply Mt)))) ?_)
  refine KAF 27 rfl rfl rfl (by kernel_rfl) (Nb rfl) (KW (Det.eqa (by kernel_rfl) (fun w=>eq_ptP_t hok (P:=padd V.A V.G V.G) (Q:=padd V.A V.G V.G) (rfl) 10000 (by decide) w) rfl rfl) (show _ = Value.bool true by rfl)) ?_
  refine KC 28 rfl (by kernel_rfl) (Nb rfl) (KAI rfl rfl) ?_
  refine KC 29 rfl (by kernel_rfl) (Nb rfl) (KD rfl) ?_
  refine KAF 30 rfl rfl rfl (by kernel_rfl) (Nb rfl) (KD rfl) ?_
  refine LAny.oneG 31 rfl rfl rfl rfl (by kernel_rfl) (KQ (first:=[]) rfl en_46 rfl (Nb rfl) (fun w hw=>c_Num _ w) ?_)
  refine KAF 32 rfl rfl rfl (by kernel_rfl) (Nb rfl) (KO (v:=.bool true) rfl rfl (br_t (br_eql (b:=1501)) (by first|rfl|assumption|omega|(simp; done)))) ?_
  refine KC 33 rfl (by kernel_rfl) (Nb rfl) (KAI rfl rfl) ?_
  refine KC 34 rfl (by kernel_rfl) (Nb rfl) (KD rfl) ?_
  refine KAF 35 rfl rfl rfl (by kernel_rfl) (Nb rfl) (KD rfl) ?_
  refine LAny.oneG 36 rfl rfl rfl rfl (by kernel_rfl) (KQ (first:=[]) rfl en_46 rfl (Nb rfl) (fun w hw=>c_Num _ w) ?_)
  refine KAF 37 rfl rfl rfl (by kernel_rfl) (Nb rfl) (KO (v:=.bool true) rfl rfl (br_t (br_eql (b:=1500)) (by first|rfl|assumption|omega|(simp; done)))) ?_
  refine KC 38 rfl (by kernel_rfl) (Nb rfl) (KAI rfl rfl) ?_
  refine KC 39 rfl (by kernel_rfl) (Nb rfl) (KF rfl) ?_
  refine Kn (by kernel_rfl) ?_
  refine KY ?_
  refine ⟨[_],.cons rfl .nil,fun a w' hr=>⟨?_,hr.fr.below⟩⟩
  rfl
theorem c_drawn (Q:CQ) (V:Cv) (k:Nat) (w:World) (hc:(crvI Q V).holds w) (hok:V.Ok) (h2:cvI ((V.id:Nat):Int) = some V) (hk:k<18446744073709551616):Calls Try.prog 87 ([.agg (crvL Q V).toArray,.int .u64 ((k:Nat):Int)]:List Value).toArray w (fun e w'=>e = .returned (.tuple #[pjF (tripF (pmul V.A V.G k)),ptP (pmul V.A V.G k),.bool true])∧Below w.heap.size w w'):=by
  have hdk:=nw_w9_dig (u64_w9 hk)
  refine Kz (N:=30) (rs:=[.cell 4 91,.cell 5 60,.tmp 6]) [crvI Q V] Try.func87 rfl Try.ntmps87 Try.results87 (Nb rfl) ⟨hc,trivial⟩ rfl ?_
  show LCode _ _ _ ⟨_,_⟩ _
  refine KE (KB ?_)
  refine KI rfl (KT (KR (Ky rfl) (Nb rfl) (fun b2=>?_)))
  refine KI rfl (KT (KR (Ke zr_91) (Nb rfl) (fun b4=>?_)))
  refine KI rfl (KT (KR (Ke zr_60) (Nb rfl) (fun b5=>?_)))
  refine KA (KF rfl) (Nb rfl) ?_
  refine KG ?_
  refine KE ?_
  refine Kd [9] (by kernel_rfl) ?_
  refine LAny.take 0 rfl (by kernel_rfl) (Nb rfl) (KK rfl (by repeat (first|exact Mh _|apply Mt)) (by exact KN Try.underlying31 rfl sz_31)) ?_
  refine KC 1 rfl (by kernel_rfl) (Nb rfl) (KD rfl) ?_
  refine LAny.take 4 rfl (by kernel_rfl) (Nb rfl) (KK rfl (by repeat (first|exact Mh _|apply Mt)) (by exact KN Try.underlying31 rfl sz_31)) ?_
  refine LAny.toP ?_
  refine KAV 8 rfl (.inl zr_60) (Nb rfl) rfl rfl rfl ?_
  refine KAB 2 rfl rfl rfl (Nb rfl) (by kernel_rfl) rfl (KAG (first:=[]) rfl en_55 rfl (fun w hw=>c_One k w hk)) ?_
  rintro _ _ ⟨rfl,rfl⟩
  refine KAB 3 rfl rfl rfl (Nb rfl) (by kernel_rfl) rfl (LExt.callZ (first:=[]) rfl en_52 rfl (fun w hw hs=>(c_n_From (k) (u64_w9 hk) w).mono fun e w' h=>NumR.q (Old.nil _) hs h)) ?_
  rintro _ _ ⟨qk,rfl,rfl,hnk⟩
  refine KAB 5 rfl rfl rfl (Nb rfl) (by kernel_rfl) rfl (LExt.callZ (first:=[]) rfl en_80 rfl (fun w hw hs=>(c_r_GP Q V w (hw _ (by repeat (first|exact Mh _|apply Mt))) hok).mono fun e w' h=>Num2R.q (Old.one (x:=crvI Q V) (by repeat (first|exact Mh _|apply Mt)) rfl) hs h)) ?_
  rintro _ _ ⟨qga,qgb,rfl,rfl,hnga,hngb⟩
  refine KAB 6 rfl rfl rfl (Nb rfl) (by kernel_rfl) rfl (LExt.callZ (first:=[]) rfl en_64 rfl (fun w hw hs=>(c_r_Times Q V qk (k) qga qgb (V.G) (pmul V.A V.G k) w (hw _ (by repeat (first|exact Mh _|apply Mt))) hok (hw _ (by repeat (first|exact Mh _|apply Mt))) (by omega) (hw _ (by repeat (first|exact Mh _|apply Mt))) (hw _ (by repeat (first|exact Mh _|apply Mt))) (hok.on) (rfl)).mono fun e w' h=>Num2R.q (Old.pt (by repeat (first|exact Mh _|apply Mt)) (by repeat (first|exact Mh _|apply Mt)) (Old.nil _)) hs h)) ?_
  rintro _ _ ⟨qpa,qpb,rfl,rfl,hnpa,hnpb⟩
  refine KAB 7 rfl rfl rfl (Nb rfl) (by kernel_rfl) rfl (KAG (first:=[]) rfl en_66 rfl (fun w hw=>c_r_OutP V qpa qpb (pmul V.A V.G k) w (hw _ (by repeat (first|exact Mh _|apply Mt))) (hw _ (by repeat (first|exact Mh _|apply Mt))))) ?_
  rintro _ _ ⟨rfl,rfl⟩
  refine KAo (by kernel_rfl) (fun b7=>?_)
  refine KAi ?_
  refine Kp 9 rfl rfl (by kernel_rfl) (by kernel_rfl) (KP rfl rfl sz_60 (by exact Ko _ _ _) (by repeat (first|exact Sh _|apply St_)) (by exact KU _ _ _) ?_)
  refine Kn (by kernel_rfl) ?_
  refine KE (KB ?_)
  refine KA (KL (o':=0) Try.underlying31 rfl rfl rfl sz_3 (by decide)) (Nb rfl) ?_
  refine LOps.det (KK rfl (by repeat (first|exact Mh _|apply Mt)) (Ka Try.underlying3 rfl (by first|rfl|exact Kv _ _ _ (by omega)|exact Ku _ (by omega)|exact Kt _ (by omega)|exact dv_m _ _ _ (by omega)))) (Nb rfl) ?_
  refine LOps.det (KK rfl (by repeat (first|exact Mh _|apply Mt)) (by exact KN Try.underlying60 rfl sz_60)) (Nb rfl) ?_
  refine KI rfl (KT (KQ (first:=[]) rfl en_86 rfl (Nb rfl) (fun w hw=>c_projFrom _ V (pmul V.A V.G k) w h2 (hok.mul hok.on _)) ?_))
  refine KA (KD rfl) (Nb rfl) ?_
  refine KA (Kc rfl rfl) (Nb rfl) ?_
  refine KA (Kc rfl rfl) (Nb rfl) ?_
  refine KI rfl (KT (KR (Ke zr_91) (Nb rfl) (fun b8=>?_)))
  refine KI rfl (KP rfl rfl sz_91 (by exact Kq _ _ _) (by repeat (first|exact Sh _|apply St_)) (by exact KZ _ _ _) ?_)
  refine KA (KF rfl) (Nb rfl) ?_
  refine KG ?_
  refine KE ?_
  refine Kd [5,6] (by kernel_rfl) ?_
  refine LAny.take 0 rfl (by kernel_rfl) (Nb rfl) (KK rfl (by repeat (first|exact Mh _|apply Mt)) (by exact KN Try.underlying91 rfl sz_91)) ?_
  refine KC 2 rfl (by kernel_rfl) (Nb rfl) (KD rfl) ?_
  refine LAny.twoX 1 3 rfl rfl rfl rfl (by kernel_rfl) (.inr (LStep.det (KK rfl (by repeat (first|exact Mh _|apply Mt)) (by exact KN Try.underlying60 rfl sz_60)) (Nb rfl) ?_)) (.inr (KQ (first:=[]) rfl en_46 rfl (Nb rfl) (fun w hw=>c_Num _ w) ?_))
  ·
    refine Kx 3 rfl rfl (by kernel_rfl) (KQ (first:=[]) rfl en_46 rfl (Nb rfl) (fun w hw=>c_Num _ w) ?_)
    refine KC 4 rfl (by kernel_rfl) (Nb rfl) (KO (v:=.bool true) rfl rfl (br_t (br_eql (b:=0)) (by first|rfl|assumption|omega|(simp; done)))) ?_
    refine Kp 5 rfl rfl (by kernel_rfl) (by kernel_rfl) (KP rfl rfl sz_91 (by exact Kq _ _ _) (by repeat (first|exact Sh _|apply St_)) (by exact KZ _ _ _) ?_)
    refine Kp 6 rfl rfl (by kernel_rfl) (by kernel_rfl) (KP rfl rfl sz_60 (by exact Ko _ _ _) (by repeat (first|exact Sh _|apply St_)) (by exact KU _ _ _) ?_)
    refine KC 7 rfl (by kernel_rfl) (Nb rfl) (KF rfl) ?_
    refine Kn (by kernel_rfl) ?_
    refine KY ?_
    refine ⟨[_,_,_],.cons ⟨_,_,_,rfl,(by repeat (first|exact Mh _|apply Mt)),by exact KN Try.underlying91 rfl sz_91⟩ (.cons ⟨_,_,_,rfl,(by repeat (first|exact Mh _|apply Mt)),by exact KN Try.underlying60 rfl sz_60⟩ (.cons rfl .nil)),fun a w' hr=>⟨?_,hr.fr.below⟩⟩
    rfl
  ·
    refine KC 4 rfl (by kernel_rfl) (Nb rfl) (KO (v:=.bool true) rfl rfl (br_t (br_eql (b:=0)) (by first|rfl|assumption|omega|(simp; done)))) ?_
    refine LAny.twoX 1 5 rfl rfl rfl rfl (by kernel_rfl) (.inr (LStep.det (KK rfl (by repeat (first|exact Mh _|apply Mt)) (by exact KN Try.underlying60 rfl sz_60)) (Nb rfl) ?_)) (.inl ⟨rfl,KP rfl rfl sz_91 (by exact Kq _ _ _) (by repeat (first|exact Sh _|apply St_)) (by exact KZ _ _ _) ?_⟩)
    ·
      refine Kp 5 rfl rfl (by kernel_rfl) (by kernel_rfl) (KP rfl rfl sz_91 (by exact Kq _ _ _) (by repeat (first|exact Sh _|apply St_)) (by exact KZ _ _ _) ?_)
      refine Kp 6 rfl rfl (by kernel_rfl) (by kernel_rfl) (KP rfl rfl sz_60 (by exact Ko _ _ _) (by repeat (first|exact Sh _|apply St_)) (by exact KU _ _ _) ?_)
      refine KC 7 rfl (by kernel_rfl) (Nb rfl) (KF rfl) ?_
      refine Kn (by kernel_rfl) ?_
      refine KY ?_
      refine ⟨[_,_,_],.cons ⟨_,_,_,rfl,(by repeat (first|exact Mh _|apply Mt)),by exact KN Try.underlying91 rfl sz_91⟩ (.cons ⟨_,_,_,rfl,(by repeat (first|exact Mh _|apply Mt)),by exact KN Try.underlying60 rfl sz_60⟩ (.cons rfl .nil)),fun a w' hr=>⟨?_,hr.fr.below⟩⟩
      rfl
    ·
      refine LAny.take 1 rfl (by kernel_rfl) (Nb rfl) (KK rfl (by repeat (first|exact Mh _|apply Mt)) (by exact KN Try.underlying60 rfl sz_60)) ?_
      refine Kp 6 rfl rfl (by kernel_rfl) (by kernel_rfl) (KP rfl rfl sz_60 (by exact Ko _ _ _) (by repeat (first|exact Sh _|apply St_)) (by exact KU _ _ _) ?_)
      refine KC 7 rfl (by kernel_rfl) (Nb rfl) (KF rfl) ?_
      refine Kn (by kernel_rfl) ?_
      refine KY ?_
      refine ⟨[_,_,_],.cons ⟨_,_,_,rfl,(by repeat (first|exact Mh _|apply Mt)),by exact KN Try.underlying91 rfl sz_91⟩ (.cons ⟨_,_,_,rfl,(by repeat (first|exact Mh _|apply Mt)),by exact KN Try.underlying60 rfl sz_60⟩ (.cons rfl .nil)),fun a w' hr=>⟨?_,hr.fr.below⟩⟩
      rfl
end Go.Proofs.Ytljblbgogjieaaa
set_option linter.unusedVariables false
set_option linter.unusedSimpArgs false
set_option maxRecDepth 20000
namespace Go.Proofs.Ytljblbgogjieaaa
open Go Go.RowKit
open Grp
theorem c_drawnT (Q:CQ) (V:Cv) (k:Nat) (P:Pt V.p) (T:Fin V.p×Fin V.p×Fin V.p) (hP:pmul V.A V.G k = P) (hT:tripF P = T) (w:World) (hc:(crvI Q V).holds w) (hok:V.Ok) (h2:cvI ((V.id:Nat):Int) = some V) (hk:k<18446744073709551616):Calls Try.prog 87 ([.agg (crvL Q V).toArray,.int .u64 ((k:Nat):Int)]:List Value).toArray w (fun e w'=>e = .returned (.tuple #[pjF T,ptP P,.bool true])∧Below w.heap.size w w'):=by
  subst hP; subst hT; exact c_drawn Q V k w hc hok h2 hk
end Go.Proofs.Ytljblbgogjieaaa
set_option linter.unusedVariables false
set_option linter.unusedSimpArgs false
set_option maxRecDepth 20000
namespace Go.Proofs.Ytljblbgogjieaaa
open Go Go.RowKit
open Grp
theorem c_ProjSums (id:Int) (i j k:Nat) (w:World) (hi:i<18446744073709551616) (hj:j<18446744073709551616) (hk:k<18446744073709551616):Calls Try.prog 33 ([.int .i64 id,.int .u64 ((i:Nat):Int),.int .u64 ((j:Nat):Int),.int .u64 ((k:Nat):Int)]:List Value).toArray w (fun e w'=>e = .returned (.bool true)∧Below w.heap.size w w'):=by
  obtain ⟨V,h⟩:=cvI_idx id
  obtain ⟨hok,hid⟩:=cvI_ok h
  have h2:=cvI_id h
  obtain ⟨hb5,hb521,hba,hbb,hbx,hby,hbn,hbo,hbo2,hbb1,hbn1⟩:=hok.bounds
  have hsz:=hok.sz
  have hsp:=hsz.p
  have hsa:=hsz.a
  have hsb:=hsz.b
  have hp0:V.p≠0:=by omega
  have hpp:0<V.p:=by omega
  have hm17:∀ k,D.nw (k%V.p)≤17:=fun k=>Nat.le_trans (D.nw_mono (Nat.le_of_lt (Nat.mod_lt k hpp))) hsp
  have hpW:V.p<W9:=w9_521 hb521
  have hnW:V.n<W9:=w9_521 hbn
  have hxW:=Nat.lt_trans hbx hpW
  have hyW:=Nat.lt_trans hby hpW
  have hsn:=hsz.n
  have h17:∀ {A:Nat},A<V.p→D.nw A≤100000:=fun h=>Nat.le_trans (nw_521 (Nat.lt_trans h hb521)) (by decide)
  have hPq:=hok.mul hok.on (i)
  obtain ⟨P,hPe⟩:∃ P,pmul V.A V.G (i) = P:=⟨_,rfl⟩
  have hPo:On V.A V.B P:=hPe ▸ hPq
  obtain ⟨TP,hTPe⟩:∃ T,tripF P = T:=⟨_,rfl⟩
  have hTPr:RepT V TP P:=hTPe ▸ RepT.trip hok hPo
  have hRq:=hok.mul hok.on (j)
  obtain ⟨R,hRe⟩:∃ P,pmul V.A V.G (j) = P:=⟨_,rfl⟩
  have hRo:On V.A V.B R:=hRe ▸ hRq
  obtain ⟨TR,hTRe⟩:∃ T,tripF R = T:=⟨_,rfl⟩
  have hTRr:RepT V TR R:=hTRe ▸ RepT.trip hok hRo
  have hOq:=hok.mul hok.on (k)
  obtain ⟨O,hOe⟩:∃ P,pmul V.A V.G (k) = P:=⟨_,rfl⟩
  have hOo:On V.A V.B O:=hOe ▸ hOq
  obtain ⟨TO,hTOe⟩:∃ T,tripF O = T:=⟨_,rfl⟩
  have hTOr:RepT V TO O:=hTOe ▸ RepT.trip hok hOo
  refine Kz (N:=171) (rs:=[.tmp 8]) [] Try.func33 rfl Try.ntmps33 Try.results33 (Nb rfl) trivial rfl ?_
  show LCode _ _ _ ⟨_,_⟩ _
  refine KE (KB ?_)
  refine KA (KF rfl) (Nb rfl) ?_
  refine KG ?_
  refine KE ?_
  refine KE (KB ?_)
  refine KI rfl (KT (KQ (first:=[]) rfl en_84 rfl (Nb rfl) (fun w hw=>c_awake15 w) ?_))
  refine KA (KW (KAs rfl) (show _ = Value.bool false from rfl)) (Nb rfl) ?_
  refine KG ?_
  refine Km rfl ?_
  refine Kh ?_
  refine KE (KB ?_)
  refine KA (KD rfl) (Nb rfl) ?_
  refine KA (KW (Det.conv Try.underlying3 Try.underlying46 rfl) (uidx_eq _)) (Nb rfl) ?_
  refine KA (KO rfl rfl (br_rem64 (b:=15) (by omega))) (Nb rfl) ?_
  refine KA (Det.convi Try.underlying46 Try.underlying3 rfl (by omega)) (Nb rfl) ?_
  refine KA (KO rfl rfl (KAQ (a:=1) (by omega))) (Nb rfl) ?_
  refine KI rfl (KT (KAA (Post:=fun v its=>∃ Q,v = .tuple #[.agg (crvL Q V).toArray,.bool true]∧its = [crvI Q V]) (first:=[]) rfl en_43 rfl (Nb rfl) (fun w1 hw hs=>(c_r_Get _ V w1 h).mono fun e w' ⟨Q,h1,h2,h3,h4⟩=>⟨_,_,⟨Q,rfl,rfl⟩,h1,Brings.nums h4 (by intro x hx; simp at hx; subst hx; exact h2) (by intro x hx; simp at hx; subst hx; rfl) (by intro x hx k hk; simp at hx; subst hx; exact .inl (h3 k hk))⟩) ?_))
  rintro _ _ ⟨Q,rfl,rfl⟩
  refine KA (KD rfl) (Nb rfl) ?_
  refine KA (Kc rfl rfl) (Nb rfl) ?_
  refine KA (Kc rfl rfl) (Nb rfl) ?_
  refine KI rfl (KT (KR (Ke zr_31) (Nb rfl) (fun b9=>?_)))
  refine KI rfl (KP rfl rfl sz_31 (by repeat (first|exact KX|refine KS rfl ?_)) (by repeat (first|exact Sh _|apply St_)) (by rfl) ?_)
  refine KA (KF rfl) (Nb rfl) ?_
  refine KG ?_
  refine KE (KB ?_)
  refine LOps.det (KK rfl (by repeat (first|exact Mh _|apply Mt)) (by exact KN Try.underlying31 rfl sz_31)) (Nb rfl) ?_
  refine KA (KD rfl) (Nb rfl) ?_
  refine KI rfl (KT (KQ (first:=[]) rfl en_87 rfl (Nb rfl) (fun w hw=>c_drawnT Q V (i) P TP hPe hTPe w (hw _ (by repeat (first|exact Mh _|apply Mt))) hok h2 hi) ?_))
  refine KA (KD rfl) (Nb rfl) ?_
  refine KA (Kc rfl rfl) (Nb rfl) ?_
  refine KA (Kc rfl rfl) (Nb rfl) ?_
  refine KA (Kc rfl rfl) (Nb rfl) ?_
  refine KI rfl (KT (KR (Ke zr_91) (Nb rfl) (fun b11=>?_)))
  refine KI rfl (KT (KR (Ke zr_60) (Nb rfl) (fun b12=>?_)))
  refine KI rfl (KP rfl rfl sz_91 (by exact Kq _ _ _) (by repeat (first|exact Sh _|apply St_)) (by exact KZ _ _ _) ?_)
  refine KI rfl (KP rfl rfl sz_60 (by exact Ko _ _ _) (by repeat (first|exact Sh _|apply St_)) (by exact KU _ _ _) ?_)
  refine KA (KF rfl) (Nb rfl) ?_
  refine KG ?_
  refine KE (KB ?_)
  refine LOps.det (KK rfl (by repeat (first|exact Mh _|apply Mt)) (by exact KN Try.underlying31 rfl sz_31)) (Nb rfl) ?_
  refine KA (KD rfl) (Nb rfl) ?_
  refine KI rfl (KT (KQ (first:=[]) rfl en_87 rfl (Nb rfl) (fun w hw=>c_drawnT Q V (j) R TR hRe hTRe w (hw _ (by repeat (first|exact Mh _|apply Mt))) hok h2 hj) ?_))
  refine KA (KD rfl) (Nb rfl) ?_
  refine KA (Kc rfl rfl) (Nb rfl) ?_
  refine KA (Kc rfl rfl) (Nb rfl) ?_
  refine KA (Kc rfl rfl) (Nb rfl) ?_
  refine KI rfl (KT (KR (Ke zr_91) (Nb rfl) (fun b14=>?_)))
  refine KI rfl (KT (KR (Ke zr_60) (Nb rfl) (fun b15=>?_)))
  refine KI rfl (KP rfl rfl sz_91 (by exact Kq _ _ _) (by repeat (first|exact Sh _|apply St_)) (by exact KZ _ _ _) ?_)
  refine KI rfl (KP rfl rfl sz_60 (by exact Ko _ _ _) (by repeat (first|exact Sh _|apply St_)) (by exact KU _ _ _) ?_)
  refine KA (KF rfl) (Nb rfl) ?_
  refine KG ?_
  refine KE (KB ?_)
  refine LOps.det (KK rfl (by repeat (first|exact Mh _|apply Mt)) (by exact KN Try.underlying31 rfl sz_31)) (Nb rfl) ?_
  refine KA (KD rfl) (Nb rfl) ?_
  refine KI rfl (KT (KQ (first:=[]) rfl en_87 rfl (Nb rfl) (fun w hw=>c_drawnT Q V (k) O TO hOe hTOe w (hw _ (by repeat (first|exact Mh _|apply Mt))) hok h2 hk) ?_))
  refine KA (KD rfl) (Nb rfl) ?_
  refine KA (Kc rfl rfl) (Nb rfl) ?_
  refine KA (Kc rfl rfl) (Nb rfl) ?_
  refine KA (Kc rfl rfl) (Nb rfl) ?_
  refine KI rfl (KT (KR (Ke zr_91) (Nb rfl) (fun b17=>?_)))
  refine KI rfl (KT (KR (Ke zr_60) (Nb rfl) (fun b18=>?_)))
  refine KI rfl (KP rfl rfl sz_91 (by exact Kq _ _ _) (by repeat (first|exact Sh _|apply St_)) (by exact KZ _ _ _) ?_)
  refine KI rfl (KP rfl rfl sz_60 (by exact Ko _ _ _) (by repeat (first|exact Sh _|apply St_)) (by exact KU _ _ _) ?_)
  refine KA (KF rfl) (Nb rfl) ?_
  refine KG ?_
  refine KE ?_
  refine KE (KB ?_)
  refine KA (KD rfl) (Nb rfl) ?_
  refine KA (KW (KAs rfl) (show _ = Value.bool false from rfl)) (Nb rfl) ?_
  refine KA (KD rfl) (Nb rfl) ?_
  refine Kg rfl rfl (KD rfl) (Nb rfl) ?_
  refine Kg rfl rfl (KW (KAs rfl) (show _ = Value.bool false from rfl)) (Nb rfl) ?_
  refine KA (KAC rfl rfl) (Nb rfl) ?_
  refine KA (KD rfl) (Nb rfl) ?_
  refine Kg rfl rfl (KD rfl) (Nb rfl) ?_
  refine Kg rfl rfl (KW (KAs rfl) (show _ = Value.bool false from rfl)) (Nb rfl) ?_
  refine KA (KAC rfl rfl) (Nb rfl) ?_
  refine KA (KD rfl) (Nb rfl) ?_
  refine Kg rfl rfl (KD rfl) (Nb rfl) ?_
  refine Kg rfl rfl (KW (KAs rfl) (show _ = Value.bool false from rfl)) (Nb rfl) ?_
  refine KA (KAC rfl rfl) (Nb rfl) ?_
  refine KG ?_
  refine Km rfl ?_
  refine Kh ?_
  refine KE (KB ?_)
  refine KA (KL (o':=0) Try.underlying31 rfl rfl rfl sz_3 (by decide)) (Nb rfl) ?_
  refine LOps.det (KK rfl (by repeat (first|exact Mh _|apply Mt)) (Ka Try.underlying3 rfl (by first|rfl|exact Kv _ _ _ (by omega)|exact Ku _ (by omega)|exact Kt _ (by omega)|exact dv_m _ _ _ (by omega)))) (Nb rfl) ?_
  refine LOps.det (KK rfl (by repeat (first|exact Mh _|apply Mt)) (by exact KN Try.underlying91 rfl sz_91)) (Nb rfl) ?_
  refine LOps.det (KK rfl (by repeat (first|exact Mh _|apply Mt)) (by exact KN Try.underlying91 rfl sz_91)) (Nb rfl) ?_
  refine KI rfl (KT (KQ (first:=[]) rfl en_82 rfl (Nb rfl) (fun w hw=>c_projAdd _ V TP TR (P) (R) w h2 hTPr hTRr) ?_))
  refine KA (KD rfl) (Nb rfl) ?_
  refine KA (Kc rfl rfl) (Nb rfl) ?_
  refine KA (Kc rfl rfl) (Nb rfl) ?_
  refine KI rfl (KT (KR (Ke zr_91) (Nb rfl) (fun b20=>?_)))
  refine KI rfl (KP rfl rfl sz_91 (by exact Kq _ _ _) (by repeat (first|exact Sh _|apply St_)) (by exact KZ _ _ _) ?_)
  refine KA (KF rfl) (Nb rfl) ?_
  refine KG ?_
  refine KE (KB ?_)
  refine KA (KL (o':=0) Try.underlying31 rfl rfl rfl sz_3 (by decide)) (Nb rfl) ?_
  refine LOps.det (KK rfl (by repeat (first|exact Mh _|apply Mt)) (Ka Try.underlying3 rfl (by first|rfl|exact Kv _ _ _ (by omega)|exact Ku _ (by omega)|exact Kt _ (by omega)|exact dv_m _ _ _ (by omega)))) (Nb rfl) ?_
  refine LOps.det (KK rfl (by repeat (first|exact Mh _|apply Mt)) (by exact KN Try.underlying91 rfl sz_91)) (Nb rfl) ?_
  refine LOps.det (KK rfl (by repeat (first|exact Mh _|apply Mt)) (by exact KN Try.underlying91 rfl sz_91)) (Nb rfl) ?_
  refine KI rfl (KT (KQ (first:=[]) rfl en_82 rfl (Nb rfl) (fun w hw=>c_projAdd _ V (sumT V TP TR) TO (padd V.A (P) (R)) (O) w h2 (RepT.sum hok hTPr hTRr) hTOr) ?_))
  refine KA (KD rfl) (Nb rfl) ?_
  refine KA (Kc rfl rfl) (Nb rfl) ?_
  refine KA (Kc rfl rfl) (Nb rfl) ?_
  refine KI rfl (KT (KR (Ke zr_91) (Nb rfl) (fun b22=>?_)))
  refine KI rfl (KP rfl rfl sz_91 (by exact Kq _ _ _) (by repeat (first|exact Sh _|apply St_)) (by exact KZ _ _ _) ?_)
  refine KA (KF rfl) (Nb rfl) ?_
  refine KG ?_
  refine KE (KB ?_)
  refine KA (KL (o':=0) Try.underlying31 rfl rfl rfl sz_3 (by decide)) (Nb rfl) ?_
  refine LOps.det (KK rfl (by repeat (first|exact Mh _|apply Mt)) (Ka Try.underlying3 rfl (by first|rfl|exact Kv _ _ _ (by omega)|exact Ku _ (by omega)|exact Kt _ (by omega)|exact dv_m _ _ _ (by omega)))) (Nb rfl) ?_
  refine LOps.det (KK rfl (by repeat (first|exact Mh _|apply Mt)) (by exact KN Try.underlying91 rfl sz_91)) (Nb rfl) ?_
  refine LOps.det (KK rfl (by repeat (first|exact Mh _|apply Mt)) (by exact KN Try.underlying91 rfl sz_91)) (Nb rfl) ?_
  refine KI rfl (KT (KQ (first:=[]) rfl en_82 rfl (Nb rfl) (fun w hw=>c_projAdd _ V TR TO (R) (O) w h2 hTRr hTOr) ?_))
  refine KA (KD rfl) (Nb rfl) ?_
  refine KA (Kc rfl rfl) (Nb rfl) ?_
  refine KA (Kc rfl rfl) (Nb rfl) ?_
  refine KI rfl (KT (KR (Ke zr_91) (Nb rfl) (fun b24=>?_)))
  refine KI rfl (KP rfl rfl sz_91 (by exact Kq _ _ _) (by repeat (first|exact Sh _|apply St_)) (by exact KZ _ _ _) ?_)
  refine KA (KF rfl) (Nb rfl) ?_
  refine KG ?_
  refine KE (KB ?_)
  refine KA (KL (o':=0) Try.underlying31 rfl rfl rfl sz_3 (by decide)) (Nb rfl) ?_
  refine LOps.det (KK rfl (by repeat (first|exact Mh _|apply Mt)) (Ka Try.underlying3 rfl (by first|rfl|exact Kv _ _ _ (by omega)|exact Ku _ (by omega)|exact Kt _ (by omega)|exact dv_m _ _ _ (by omega)))) (Nb rfl) ?_
  refine LOps.det (KK rfl (by repeat (first|exact Mh _|apply Mt)) (by exact KN Try.underlying91 rfl sz_91)) (Nb rfl) ?_
  refine LOps.det (KK rfl (by repeat (first|exact Mh _|apply Mt)) (by exact KN Try.underlying91 rfl sz_91)) (Nb rfl) ?_
  refine KI rfl (KT (KQ (first:=[]) rfl en_82 rfl (Nb rfl) (fun w hw=>c_projAdd _ V (sumT V TR TO) TP (padd V.A (R) (O)) (P) w h2 (RepT.sum hok hTRr hTOr) hTPr) ?_))
  refine KA (KD rfl) (Nb rfl) ?_
  refine KA (Kc rfl rfl) (Nb rfl) ?_
  refine KA (Kc rfl rfl) (Nb rfl) ?_
  refine KI rfl (KT (KR (Ke zr_91) (Nb rfl) (fun b26=>?_)))
  refine KI rfl (KP rfl rfl sz_91 (by exact Kq _ _ _) (by repeat (first|exact Sh _|apply St_)) (by exact KZ _ _ _) ?_)
  refine KA (KF rfl) (Nb rfl) ?_
  refine KG ?_
  refine KE (KB ?_)
  refine KA (KL (o':=0) Try.underlying31 rfl rfl rfl sz_3 (by decide)) (Nb rfl) ?_
  refine LOps.det (KK rfl (by repeat (first|exact Mh _|apply Mt)) (Ka Try.underlying3 rfl (by first|rfl|exact Kv _ _ _ (by omega)|exact Ku _ (by omega)|exact Kt _ (by omega)|exact dv_m _ _ _ (by omega)))) (Nb rfl) ?_
  refine LOps.det (KK rfl (by repeat (first|exact Mh _|apply Mt)) (by exact KN Try.underlying91 rfl sz_91)) (Nb rfl) ?_
  refine KI rfl (KT (KQ (first:=[]) rfl en_81 rfl (Nb rfl) (fun w hw=>c_projTo _ V (sumT V (sumT V TP TR) TO) (padd V.A (padd V.A (P) (R)) (O)) w h2 (RepT.sum hok (RepT.sum hok hTPr hTRr) hTOr)) ?_))
  refine KA (KD rfl) (Nb rfl) ?_
  refine KA (Kc rfl rfl) (Nb rfl) ?_
  refine KA (Kc rfl rfl) (Nb rfl) ?_
  refine KI rfl (KT (KR (Ke zr_60) (Nb rfl) (fun b28=>?_)))
  refine KI rfl (KP rfl rfl sz_60 (by exact Ko _ _ _) (by repeat (first|exact Sh _|apply St_)) (by exact KU _ _ _) ?_)
  refine KA (KF rfl) (Nb rfl) ?_
  refine KG ?_
  refine KE (KB ?_)
  refine KA (KL (o':=0) Try.underlying31 rfl rfl rfl sz_3 (by decide)) (Nb rfl) ?_
  refine LOps.det (KK rfl (by repeat (first|exact Mh _|apply Mt)) (Ka Try.underlying3 rfl (by first|rfl|exact Kv _ _ _ (by omega)|exact Ku _ (by omega)|exact Kt _ (by omega)|exact dv_m _ _ _ (by omega)))) (Nb rfl) ?_
  refine LOps.det (KK rfl (by repeat (first|exact Mh _|apply Mt)) (by exact KN Try.underlying91 rfl sz_91)) (Nb rfl) ?_
  refine KI rfl (KT (KQ (first:=[]) rfl en_81 rfl (Nb rfl) (fun w hw=>c_projTo _ V (sumT V (sumT V TR TO) TP) (padd V.A (padd V.A (R) (O)) (P)) w h2 (RepT.sum hok (RepT.sum hok hTRr hTOr) hTPr)) ?_))
  refine KA (KD rfl) (Nb rfl) ?_
  refine KA (Kc rfl rfl) (Nb rfl) ?_
  refine KA (Kc rfl rfl) (Nb rfl) ?_
  refine KI rfl (KT (KR (Ke zr_60) (Nb rfl) (fun b30=>?_)))
  refine KI rfl (KP rfl rfl sz_60 (by exact Ko _ _ _) (by repeat (first|exact Sh _|apply St_)) (by exact KU _ _ _) ?_)
  refine KA (KF rfl) (Nb rfl) ?_
  refine KG ?_
  refine KE (KB ?_)
  refine KA (KL (o':=0) Try.underlying31 rfl rfl rfl sz_3 (by decide)) (Nb rfl) ?_
  refine LOps.det (KK rfl (by repeat (first|exact Mh _|apply Mt)) (Ka Try.underlying3 rfl (by first|rfl|exact Kv _ _ _ (by omega)|exact Ku _ (by omega)|exact Kt _ (by omega)|exact dv_m _ _ _ (by omega)))) (Nb rfl) ?_
  refine LOps.det (KK rfl (by repeat (first|exact Mh _|apply Mt)) (by exact KN Try.underlying91 rfl sz_91)) (Nb rfl) ?_
  refine KI rfl (KT (KQ (first:=[]) rfl en_81 rfl (Nb rfl) (fun w hw=>c_projTo _ V (sumT V TP TR) (padd V.A (P) (R)) w h2 (RepT.sum hok hTPr hTRr)) ?_))
  refine KA (KD rfl) (Nb rfl) ?_
  refine KA (Kc rfl rfl) (Nb rfl) ?_
  refine KA (Kc rfl rfl) (Nb rfl) ?_
  refine KI rfl (KT (KR (Ke zr_60) (Nb rfl) (fun b32=>?_)))
  refine KI rfl (KP rfl rfl sz_60 (by exact Ko _ _ _) (by repeat (first|exact Sh _|apply St_)) (by exact KU _ _ _) ?_)
  refine KA (KF rfl) (Nb rfl) ?_
  refine KG ?_
  refine KE (KB ?_)
  refine KA (KL (o':=0) Try.underlying31 rfl rfl rfl sz_3 (by decide)) (Nb rfl) ?_
  refine LOps.det (KK rfl (by repeat (first|exact Mh _|apply Mt)) (Ka Try.underlying3 rfl (by first|rfl|exact Kv _ _ _ (by omega)|exact Ku _ (by omega)|exact Kt _ (by omega)|exact dv_m _ _ _ (by omega)))) (Nb rfl) ?_
  refine LOps.det (KK rfl (by repeat (first|exact Mh _|apply Mt)) (by exact KN Try.underlying60 rfl sz_60)) (Nb rfl) ?_
  refine LOps.det (KK rfl (by repeat (first|exact Mh _|apply Mt)) (by exact KN Try.underlying60 rfl sz_60)) (Nb rfl) ?_
  refine KI rfl (KT (KQ (first:=[]) rfl en_88 rfl (Nb rfl) (fun w hw=>c_affAdd _ V (P) (R) (padd V.A (P) (R)) w h2 hPo hRo (rfl)) ?_))
  refine KA (KD rfl) (Nb rfl) ?_
  refine KA (Kc rfl rfl) (Nb rfl) ?_
  refine KA (Kc rfl rfl) (Nb rfl) ?_
  refine KI rfl (KT (KR (Ke zr_60) (Nb rfl) (fun b34=>?_)))
  refine KI rfl (KP rfl rfl sz_60 (by exact Ko _ _ _) (by repeat (first|exact Sh _|apply St_)) (by exact KU _ _ _) ?_)
  refine KA (KF rfl) (Nb rfl) ?_
  refine KG ?_
  refine KE (KB ?_)
  refine KA (KD rfl) (Nb rfl) ?_
  refine KI rfl (KT (KQ (first:=[]) rfl en_46 rfl (Nb rfl) (fun w hw=>c_Num _ w) ?_))
  refine KA (KO (v:=.bool true) rfl rfl (br_t (br_eql (b:=0)) (by first|rfl|assumption|omega|(simp; done)))) (Nb rfl) ?_
  refine KA (KD rfl) (Nb rfl) ?_
  refine Kg rfl rfl (KD rfl) (Nb rfl) ?_
  refine LOps.stepG rfl rfl rfl (KT (KQ (first:=[]) rfl en_46 rfl (Nb rfl) (fun w hw=>c_Num _ w) ?_))
  refine Kg rfl rfl (KO (v:=.bool true) rfl rfl (br_t (br_eql (b:=0)) (by first|rfl|assumption|omega|(simp; done)))) (Nb rfl) ?_
  refine KA (KAI rfl rfl) (Nb rfl) ?_
  refine KA (KD rfl) (Nb rfl) ?_
  refine Kg rfl rfl (KD rfl) (Nb rfl) ?_
  refine LOps.stepG rfl rfl rfl (KT (KQ (first:=[]) rfl en_46 rfl (Nb rfl) (fun w hw=>c_Num _ w) ?_))
  refine Kg rfl rfl (KO (v:=.bool true) rfl rfl (br_t (br_eql (b:=0)) (by first|rfl|assumption|omega|(simp; done)))) (Nb rfl) ?_
  refine KA (KAI rfl rfl) (Nb rfl) ?_
  refine KA (KD rfl) (Nb rfl) ?_
  refine Kg rfl rfl (KD rfl) (Nb rfl) ?_
  refine LOps.stepG rfl rfl rfl (KT (KQ (first:=[]) rfl en_46 rfl (Nb rfl) (fun w hw=>c_Num _ w) ?_))
  refine Kg rfl rfl (KO (v:=.bool true) rfl rfl (br_t (br_eql (b:=0)) (by first|rfl|assumption|omega|(simp; done)))) (Nb rfl) ?_
  refine KA (KAI rfl rfl) (Nb rfl) ?_
  refine KA (KD rfl) (Nb rfl) ?_
  refine KAZ rfl rfl (KK rfl (by repeat (first|exact Mh _|apply Mt)) (by exact KN Try.underlying60 rfl sz_60)) (Nb rfl) ?_
  refine KAZ rfl rfl (KK rfl (by repeat (first|exact Mh _|apply Mt)) (by exact KN Try.underlying60 rfl sz_60)) (Nb rfl) ?_
  refine Kg rfl rfl (KW (Det.eqa (by kernel_rfl) (fun w=>eq_ptP_t hok (P:=padd V.A (padd V.A (P) (R)) (O)) (Q:=padd V.A (padd V.A (R) (O)) (P)) ((padd_assoc hok.crv hPo hRo hOo).trans (padd_comm hok.fld hPo (hok.sum hRo hOo))) 10000 (by decide) w) rfl rfl) (show _ = Value.bool true by rfl)) (Nb rfl) ?_
  refine KA (KAI rfl rfl) (Nb rfl) ?_
  refine KA (KD rfl) (Nb rfl) ?_
  refine KAZ rfl rfl (KK rfl (by repeat (first|exact Mh _|apply Mt)) (by exact KN Try.underlying60 rfl sz_60)) (Nb rfl) ?_
  refine KAZ rfl rfl (KK rfl (by repeat (first|exact Mh _|apply Mt)) (by exact KN Try.underlying60 rfl sz_60)) (Nb rfl) ?_
  refine Kg rfl rfl (KW (Det.eqa (by kernel_rfl) (fun w=>eq_ptP_t hok (P:=padd V.A (P) (R)) (Q:=padd V.A (P) (R)) (rfl) 10000 (by decide) w) rfl rfl) (show _ = Value.bool true by rfl)) (Nb rfl) ?_
  refine KA (KAI rfl rfl) (Nb rfl) ?_
  refine KA (KF rfl) (Nb rfl) ?_
  refine KG (KY ?_)
  refine ⟨[_],.cons rfl .nil,fun a w' hr=>⟨?_,hr.fr.below⟩⟩
  rfl
open Grp
end Go.Proofs.Ytljblbgogjieaaa
set_option maxRecDepth 100000
namespace Go.Proofs.Ytljblbgogjieaaa
open Go
def ioChars:List Char:=([104,97,114,110,101,115,115,32,102,51,57,52,54,98,99,101,49,54,101,56,99,51,102,52,49,56,48,97,55,101,53,50,100,97,98,100,56,55,98,56,54,57,51,56,100,57,50,50,100,99,56,97,98,97,101,55,102,48,56,57,55,57,99,51,48,57,101,52,56,98,54,48,32,99,117,116,32,97,116,32,99,117,114,118,101,116,47,99,117,114,118,101,116,108,97,119,50,51,46,82,97,119,115,32,99,117,114,118,101,116,47,99,117,114,118,101,116,108,97,119,50,51,46,82,97,119,66,97,99,107,32,99,117,114,118,101,116,47,99,117,114,118,101,116,108,97,119,50,51,46,82,97,119,76,101,110,103,116,104,115,32,99,117,114,118,101,116,47,99,117,114,118,101,116,108,97,119,50,51,46,82,97,119,84,105,110,121,32,99,117,114,118,101,116,47,99,117,114,118,101,116,108,97,119,49,51,46,67,117,114,118,101,115,32,99,117,114,118,101,116,47,99,117,114,118,101,116,108,97,119,49,51,46,67,117,114,118,101,79,110,115,32,99,117,114,118,101,116,47,99,117,114,118,101,116,108,97,119,49,51,46,67,117,114,118,101,83,111,117,110,100,32,99,117,114,118,101,116,47,99,117,114,118,101,116,108,97,119,49,51,46,67,117,114,118,101,78,117,109,98,101,114,115,32,99,117,114,118,101,116,47,99,117,114,118,101,116,108,97,119,49,51,46,67,117,114,118,101,79,102,102,32,99,117,114,118,101,116,47,99,117,114,118,101,116,108,97,119,49,51,46,67,117,114,118,101,84,105,110,121,32,99,117,114,118,101,116,47,99,117,114,118,101,116,108,97,119,50,48,46,68,117,97,108,115,32,99,117,114,118,101,116,47,99,117,114,118,101,116,108,97,119,50,48,46,68,117,97,108,84,105,110,121,32,99,117,114,118,101,116,47,99,117,114,118,101,116,108,97,119,49,53,46,80,114,111,106,115,32,99,117,114,118,101,116,47,99,117,114,118,101,116,108,97,119,49,53,46,80,114,111,106,70,114,111,109,32,99,117,114,118,101,116,47,99,117,114,118,101,116,108,97,119,49,53,46,80,114,111,106,83,99,97,108,101,100,32,99,117,114,118,101,116,47,99,117,114,118,101,116,108,97,119,49,53,46,80,114,111,106,68,111,117,98,108,101,115,32,99,117,114,118,101,116,47,99,117,114,118,101,116,108,97,119,49,53,46,80,114,111,106,78,111,110,101,32,99,117,114,118,101,116,47,99,117,114,118,101,116,108,97,119,49,53,46,80,114,111,106,84,105,110,121,32,99,117,114,118,101,116,47,99,117,114,118,101,116,108,97,119,49,52,46,65,102,102,105,110,101,115,32,99,117,114,118,101,116,47,99,117,114,118,101,116,108,97,119,49,52,46,65,102,102,105,110,101,84,105,109,101,115,32,99,117,114,118,101,116,47,99,117,114,118,101,116,108,97,119,49,52,46,65,102,102,105,110,101,71,114,111,117,112,32,99,117,114,118,101,116,47,99,117,114,118,101,116,108,97,119,49,52,46,65,102,102,105,110,101,79,114,100,101,114,32,99,117,114,118,101,116,47,99,117,114,118,101,116,108,97,119,49,52,46,65,102,102,105,110,101,76,105,110,101,32,99,117,114,118,101,116,47,99,117,114,118,101,116,108,97,119,49,52,46,65,102,102,105,110,101,79,112,112,111,115,105,116,101,32,99,117,114,118,101,116,47,99,117,114,118,101,116,108,97,119,49,52,46,65,102,102,105,110,101,84,105,110,121,32,99,117,114,118,101,116,47,99,117,114,118,101,116,108,97,119,49,52,46,65,102,102,105,110,101,83,112,108,105,116,115,32,99,117,114,118,101,116,47,99,117,114,118,101,116,108,97,119,49,52,46,65,102,102,105,110,101,87,97,108,107,32,99,117,114,118,101,116,47,99,117,114,118,101,116,108,97,119,50,48,46,68,117,97,108,80,97,114,116,115,32,99,117,114,118,101,116,47,99,117,114,118,101,116,108,97,119,49,54,46,84,97,98,108,101,83,105,122,101,115,32,99,117,114,118,101,116,47,99,117,114,118,101,116,108,97,119,49,54,46,84,97,98,108,101,78,105,108,32,99,117,114,118,101,116,47,99,117,114,118,101,116,108,97,119,49,53,46,80,114,111,106,83,117,109,115,32,99,117,114,118,101,116,47,99,117,114,118,101,116,108,97,119,50,49,46,83,101,99,49,115,32,99,117,114,118,101,116,47,99,117,114,118,101,116,108,97,119,50,49,46,83,101,99,49,66,97,99,107,32,99,117,114,118,101,116,47,99,117,114,118,101,116,108,97,119,50,49,46,83,101,99,49,84,105,110,121,32,99,117,114,118,101,116,47,99,117,114,118,101,116,108,97,119,50,49,46,83,101,99,49,66,111,116,104,32,99,117,114,118,101,116,47,99,117,114,118,101,116,108,97,119,50,49,46,83,101,99,49,76,101,110,103,116,104,115,32,99,117,114,118,101,116,47,99,117,114,118,101,116,108,97,119,50,49,46,83,101,99,49,87,104,111,108,101,32,99,117,114,118,101,116,47,99,117,114,118,101,116,108,97,119,50,49,46,83,101,99,49,71,114,101,97,116,32,99,117,114,118,101,116,47,99,117,114,118,101,116,108,97,119,49,54,46,84,97,98,108,101,115,32,99,117,114,118,101,116,47,99,117,114,118,101,116,108,97,119,49,57,46,66,97,115,101,115]:List Nat).map Char.ofNat
theorem io_lit:Try.prog.initOrder = String.ofList ioChars:=by kernel_rfl
theorem io_list:Try.prog.initOrder.toList = ioChars:=by rw [io_lit,String.toList_ofList]
def cutW:List Char:=([99,117,116]:List Nat).map Char.ofNat
def ioRest:List (List Char):=(wordsSigns ioChars).drop 3
theorem io_words:behindMainWord (wordsSigns ioChars) = cutW :: ioRest:=by kernel_rfl
theorem io_strip (r:List (List Char)):stripLifts liftWords (cutW :: r) = ([],cutW :: r):=by kernel_rfl
theorem no_later:Try.prog.laysLater = false:=by kernel_rfl
theorem no_reflect:Try.prog.bearsReflect = false:=by kernel_rfl
theorem door_fits:Try.prog.doorFits [] = true:=by kernel_rfl
theorem and2 {a b:Bool} (h:a = true) (k:b = true):(a && b) = true:=by rw [h,k]; rfl
theorem or_right {a b:Bool} (h:b = true):(a || b) = true:=by rw [h]; cases a <;> rfl
theorem cut_is : (cutW == "cut".toList) = true := by kernel_rfl
theorem cut_gc : (cutW == "gc".toList) = false := by kernel_rfl
theorem cut_spec : (cutW == "spec".toList) = false := by kernel_rfl
theorem cut_carried : (cutW == "carried".toList) = false := by kernel_rfl
theorem head_carried (r : List (List Char)) : ((cutW :: r).head? == some "carried".toList) = false := cut_carried
theorem enter_of (P:Program) {r:List (List Char)} (h:behindMainWord (wordsSigns P.initOrder.toList) = cutW :: r) (h1:P.laysLater = false) (h2:P.bearsReflect = false) (h3:P.doorFits [] = true):P.mayEnter = true:=by
  unfold Program.mayEnter
  rw [h]
  dsimp only
  refine or_right (and2 (and2 (and2 (and2 ?_ ?_) ?_) ?_) ?_)
  · rw [io_strip]; exact cut_is
  · rw [io_strip,h1]; rfl
  · rw [io_strip,h2]; rfl
  · rw [io_strip]; rfl
  · rw [io_strip]; exact h3
theorem lifts_of (P:Program) {r:List (List Char)} (h:behindMainWord (wordsSigns P.initOrder.toList) = cutW :: r):(false == P.liftsFinal) = true:=by
  have hl:P.headLifts = []:=by
    unfold Program.headLifts
    rw [h,io_strip]
    simp only [ite_self]
  unfold Program.liftsFinal
  rw [h,hl]
  dsimp only
  rw [head_carried,Bool.false_and]
  rfl
theorem make_of (P:Program) {r:List (List Char)} (h:behindMainWord (wordsSigns P.initOrder.toList) = cutW :: r):(P.make == some .cut) = true:=by
  have:P.make = some .cut:=by
    unfold Program.make
    rw [h]
    dsimp only
    rw [if_neg (by rw [cut_gc,cut_spec]; exact fun h=>by cases h),if_pos (by rw [cut_is]; rfl)]
  rw [this]; rfl
theorem io_all:behindMainWord (wordsSigns Try.prog.initOrder.toList) = cutW :: ioRest:=by rw [io_list,io_words]
theorem fact_enter:Try.prog.mayEnter = true:=enter_of _ io_all no_later no_reflect door_fits
theorem fact_lifts:(false == Try.prog.liftsFinal) = true:=lifts_of _ io_all
theorem fact_make:(Try.prog.make == some .cut) = true:=make_of _ io_all
theorem fact_laid:laidOutB Try.prog = true:=by kernel_rfl
theorem fact_maps:mapsRowed Try.prog = true:=by kernel_rfl
theorem fact_heard:Try.prog.stopsHeard = true:=by kernel_rfl
end Go.Proofs.Ytljblbgogjieaaa
