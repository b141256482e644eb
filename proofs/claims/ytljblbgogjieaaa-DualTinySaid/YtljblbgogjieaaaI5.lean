/- Part 5 of what the proof leans on: a symbolic execution of the model, walks of the program's functions, and the mathematics. No condition. -/
import Derived.WalkKit
import Derived.Orders
import Derived.Laws.StructEq
import Derived.WalkSpells
import Derived.OrdersHeld
import Derived.KernelRfl
import Derived.Laws.Externs
import Derived.Laws.Bits64
import Derived.Laws.MakeOwn
import Derived.Laws.BytesString
import Derived.Carry
import Derived.WideShapes
import GoSem.Claim
import Derived.Test.YtljblbgogjieaaaProg
import Derived.Laws.AppendOwn
import Derived.Test.YtljblbgogjieaaaRows
import Derived.ProofKit
import Derived.OpenShut
import Derived.Test.YtljblbgogjieaaaI4
set_option linter.unusedVariables false
set_option linter.unusedSimpArgs false
set_option maxRecDepth 20000
namespace Go.Proofs.Ytljblbgogjieaaa
open Go Go.RowKit
open Grp
def pjF {p:Nat} (T:Fin p×Fin p×Fin p):Value:=pjV T.1.val T.2.1.val T.2.2.val
def pjFL {p:Nat} (T:Fin p×Fin p×Fin p):List Value:=pjL T.1.val T.2.1.val T.2.2.val
theorem fill_pj (X Y Z:Nat):fillL [(0,9),(9,9),(18,9)] (vec .u64 9 (fun _=>0)++(vec .u64 9 (fun _=>0)++vec .u64 9 (fun _=>0))) [(0,natV X),(1,natV Y),(2,natV Z)] = some (pjL X Y Z):=by
  refine KAd (A:=[]) (B:=vec .u64 9 (fun _=>0)) (D:=vec .u64 9 (fun _=>0)++vec .u64 9 (fun _=>0)) (cs:=natL X) rfl rfl (KH _) rfl rfl (KO _ _ _) ?_
  refine KAd (A:=natL X) (B:=vec .u64 9 (fun _=>0)) (D:=vec .u64 9 (fun _=>0)) (cs:=natL Y) rfl rfl (KH _) (by simp) (KH _) (KO _ _ _) ?_
  refine (KAd (A:=natL X++natL Y) (B:=vec .u64 9 (fun _=>0)) (D:=[]) (cs:=natL Z) rfl rfl (KH _) (by simp) (by simp [KH]) (KO _ _ _) rfl).trans ?_
  simp [pjL]
theorem fill_pjN (Y:Nat):fillL [(0,9),(9,9),(18,9)] (vec .u64 9 (fun _=>0)++(vec .u64 9 (fun _=>0)++vec .u64 9 (fun _=>0))) [(1,natV Y)] = some (pjL 0 Y 0):=by
  refine (KAd (A:=vec .u64 9 (fun _=>0)) (B:=vec .u64 9 (fun _=>0)) (D:=vec .u64 9 (fun _=>0)) (cs:=natL Y) rfl rfl (KH _) rfl (KO _ _ _) (KO _ _ _) rfl).trans ?_
  simp [pjL,natL,vec_zeros 9]
theorem c_None  (w:World)  : Calls Try.prog 158 ([]:List Value).toArray w (fun e w'=>e = .returned (pjV 0 1 0)∧Below w.heap.size w w'):=by
  refine KAE (N:=3) (rs:=[.cell 0 91]) [] Try.func158 rfl Try.ntmps158 Try.results158 (Nb rfl) trivial rfl ?_
  show LCode _ _ _ ⟨_,_⟩ _
  refine KD (KB ?_)
  refine KI rfl (KU (KQ (Kh zr_91) (Nb rfl) (fun b0=>?_)))
  refine KG ?_
  refine KD (KB ?_)
  refine KI rfl (KU (KR (first:=[]) rfl en_150 rfl (Nb rfl) (fun w hw=>c_nat_Small 1 (by decide) w) ?_))
  refine KA (KV (KAU pl_91 zr_91 rfl (fill_pjN 1)) rfl) (Nb rfl) ?_
  refine KI rfl (KP rfl rfl sz_91 (by repeat (first|exact Kl _|exact Kz _ _ _|exact Kn _|exact Ko _ _ _|exact Ky _ _ _|exact KX|refine KT rfl ?_|refine KW ?_ ?_)) (by repeat (first|exact Sh _|apply St_)) (by first|exact KH _|exact KO _ _ _|exact KJ _|exact KS _ _ _|exact Kf _ _ _|rfl|simp [KO,KH,KJ]) ?_)
  refine KG (KZ ?_)
  refine ⟨[_],.cons ⟨_,_,_,rfl,(by repeat (first|exact Mh _|apply Mt)),by exact KN Try.underlying91 rfl sz_91⟩ .nil,fun a w' hr=>⟨?_,hr.fr.below⟩⟩
  rfl
theorem c_NoneF {V:Cv} (hok:V.Ok) (w:World):Calls Try.prog 158 ([]:List Value).toArray w (fun e w'=>e = .returned (pjF (tripF (.inf:Pt V.p)))∧Below w.heap.size w w'):=by
  have h:=c_None w
  have e:pjF (tripF (.inf:Pt V.p)) = pjV 0 1 0:=by
    unfold pjF tripF
    rw [fin_one (show 1<V.p from hok.prime.1)]
    rfl
  rwa [e]
theorem c_Triple (V:Cv) (hok:V.Ok) (P:Pt V.p) (w:World)  : Calls Try.prog 129 ([ptP P]:List Value).toArray w (fun e w'=>e = .returned (pjF (tripF P))∧Below w.heap.size w w'):=by
  refine KAE (N:=12) (rs:=[.cell 2 91]) [] Try.func129 rfl Try.ntmps129 Try.results129 (Nb rfl) trivial rfl ?_
  show LCode _ _ _ ⟨_,_⟩ _
  refine KD (KB ?_)
  refine KI rfl (KU (KQ (Kw rfl) (Nb rfl) (fun b1=>?_)))
  refine KI rfl (KU (KQ (Kh zr_91) (Nb rfl) (fun b2=>?_)))
  refine KG ?_
  refine KD ?_
  refine KD ?_
  rcases P with _|⟨x,y⟩
  ·
    refine KB ?_
    refine KA (KM (o':=18) Try.underlying60 rfl rfl rfl sz_4 (by decide)) (Nb rfl) ?_
    refine LOps.det (KK rfl (by repeat (first|exact Mh _|apply Mt)) (KY Try.underlying4 rfl (by exact pt_gt _ _ _))) (Nb rfl) ?_
    refine KG ?_
    refine KAB rfl ?_
    refine KD (KB ?_)
    refine KI rfl (KU (KR (first:=[]) rfl en_158 rfl (Nb rfl) (fun w hw=>c_NoneF hok w) ?_))
    refine KI rfl (KP rfl rfl sz_91 (by repeat (first|exact Kl _|exact Kz _ _ _|exact Kn _|exact Ko _ _ _|exact Ky _ _ _|exact KX|refine KT rfl ?_|refine KW ?_ ?_)) (by repeat (first|exact Sh _|apply St_)) (by first|exact KH _|exact KO _ _ _|exact KJ _|exact KS _ _ _|exact Kf _ _ _|rfl|simp [KO,KH,KJ]) ?_)
    refine KG (KZ ?_)
    refine ⟨[_],.cons ⟨_,_,_,rfl,(by repeat (first|exact Mh _|apply Mt)),by exact KN Try.underlying91 rfl sz_91⟩ .nil,fun a w' hr=>⟨?_,hr.fr.below⟩⟩
    rfl
  ·
    refine KB ?_
    refine KA (KM (o':=18) Try.underlying60 rfl rfl rfl sz_4 (by decide)) (Nb rfl) ?_
    refine LOps.det (KK rfl (by repeat (first|exact Mh _|apply Mt)) (KY Try.underlying4 rfl (by exact pt_gt _ _ _))) (Nb rfl) ?_
    refine KG ?_
    refine Ki rfl ?_
    refine Kd ?_
    refine KD ?_
    refine Ka [6] (by kernel_rfl) ?_
    refine KC 0 rfl (by kernel_rfl) (Nb rfl) (KM (o':=0) Try.underlying60 rfl rfl rfl sz_25 (by decide)) ?_
    refine LAny.take 1 rfl (by kernel_rfl) (Nb rfl) (KK rfl (by repeat (first|exact Mh _|apply Mt)) (by exact KAS Try.underlying25 rfl sz_25 rfl (KH _))) ?_
    refine KC 2 rfl (by kernel_rfl) (Nb rfl) (KM (o':=9) Try.underlying60 rfl rfl rfl sz_25 (by decide)) ?_
    refine LAny.take 3 rfl (by kernel_rfl) (Nb rfl) (KK rfl (by repeat (first|exact Mh _|apply Mt)) (by exact pt_ld1 _ _ _ _ _ _)) ?_
    refine Kr 4 rfl rfl (by kernel_rfl) (KR (first:=[]) rfl en_150 rfl (Nb rfl) (fun w hw=>c_nat_Small 1 (by decide) w) ?_)
    refine KC 5 rfl (by kernel_rfl) (Nb rfl) (KV (KAU pl_91 zr_91 rfl (fill_pj _ _ _)) rfl) ?_
    refine Km 6 rfl rfl (by kernel_rfl) (by kernel_rfl) (KP rfl rfl sz_91 (by repeat (first|exact Kl _|exact Kz _ _ _|exact Kn _|exact Ko _ _ _|exact Ky _ _ _|exact KX|refine KT rfl ?_|refine KW ?_ ?_)) (by repeat (first|exact Sh _|apply St_)) (by first|exact KH _|exact KO _ _ _|exact KJ _|exact KS _ _ _|exact Kf _ _ _|rfl|simp [KO,KH,KJ]) ?_)
    refine Kj (by kernel_rfl) ?_
    refine KZ ?_
    refine ⟨[_],.cons ⟨_,_,_,rfl,(by repeat (first|exact Mh _|apply Mt)),by exact KN Try.underlying91 rfl sz_91⟩ .nil,fun a w' hr=>⟨?_,hr.fr.below⟩⟩
    show _ = Ending.returned (pjV x.val y.val (1:Fin V.p).val)
    rw [fin_one (show 1<V.p from hok.prime.1)]
    rfl
theorem c_Plain (V:Cv) (b f bd:Nat) (hok:V.Ok) (X Y Z:Fin V.p) (w:World) (hb:(Item.blk b ⟨false,opL V f,147,(0,0)⟩).holds w) (hf:(Item.blk f ⟨false,fldL V.p bd,194,(0,0)⟩).holds w) (hbd:(Item.blk bd ⟨false,dvL V.p,241,(0,0)⟩).holds w):Calls Try.prog 127 ([.pointer (some ⟨b,0,none⟩),pjV X.val Y.val Z.val]:List Value).toArray w (fun e w'=>e = .returned (ptP (plainP X Y Z))∧Below w.heap.size w w'):=by
  have hbb:=hok.bounds
  have hpW:V.p<W9:=w9_521 hbb.2.1
  refine KAE (N:=35) (rs:=[.cell 4 60]) [.blk b ⟨false,opL V f,147,(0,0)⟩,.blk f ⟨false,fldL V.p bd,194,(0,0)⟩,.blk bd ⟨false,dvL V.p,241,(0,0)⟩] Try.func127 rfl Try.ntmps127 Try.results127 (Nb rfl) ⟨hb,hf,hbd,trivial⟩ rfl ?_
  show LCode _ _ _ ⟨_,_⟩ _
  refine KD (KB ?_)
  refine KI rfl (KU (KQ (Kw rfl) (Nb rfl) (fun b3=>?_)))
  refine KI rfl (KU (KQ (Kh zr_60) (Nb rfl) (fun b4=>?_)))
  refine KG ?_
  refine KD ?_
  refine KD ?_
  by_cases hz:Z = 0
  ·
    refine KB ?_
    refine KA (KM (o':=18) Try.underlying91 rfl rfl rfl sz_25 (by decide)) (Nb rfl) ?_
    refine LOps.det (KK rfl (by repeat (first|exact Mh _|apply Mt)) (by exact pj_ld2 _ _ _ _ _ _)) (Nb rfl) ?_
    refine KA (KV (KAU pl_25 zr_25 rfl rfl) (show _ = natV 0 by unfold natV natL; rw [← vec_zeros 9])) (Nb rfl) ?_
    refine KA (KV (Det.eqa (by kernel_rfl) (fun w=>eq_nat Z.val 0 (Nat.lt_trans Z.isLt hpW) zero_w9 10000 (by decide) w) rfl rfl) (show _ = Value.bool true by rw [decide_eq_true (by rw [hz]; rfl)])) (Nb rfl) ?_
    refine KG ?_
    refine KAB rfl ?_
    refine KD (KB ?_)
    refine KA (KV (KAU pl_60 zr_60 rfl fill_ptInf) rfl) (Nb rfl) ?_
    refine KI rfl (KP rfl rfl sz_60 (by repeat (first|exact Kl _|exact Kz _ _ _|exact Kn _|exact Ko _ _ _|exact Ky _ _ _|exact KX|refine KT rfl ?_|refine KW ?_ ?_)) (by repeat (first|exact Sh _|apply St_)) (by first|exact KH _|exact KO _ _ _|exact KJ _|exact KS _ _ _|exact Kf _ _ _|rfl|simp [KO,KH,KJ]) ?_)
    refine KG (KZ ?_)
    refine ⟨[_],.cons ⟨_,_,_,rfl,(by repeat (first|exact Mh _|apply Mt)),by exact KN Try.underlying60 rfl sz_60⟩ .nil,fun a w' hr=>⟨?_,hr.fr.below⟩⟩
    rw [hz,plain_inf]
    rfl
  ·
    refine KB ?_
    refine KA (KM (o':=18) Try.underlying91 rfl rfl rfl sz_25 (by decide)) (Nb rfl) ?_
    refine LOps.det (KK rfl (by repeat (first|exact Mh _|apply Mt)) (by exact pj_ld2 _ _ _ _ _ _)) (Nb rfl) ?_
    refine KA (KV (KAU pl_25 zr_25 rfl rfl) (show _ = natV 0 by unfold natV natL; rw [← vec_zeros 9])) (Nb rfl) ?_
    refine KA (KV (Det.eqa (by kernel_rfl) (fun w=>eq_nat Z.val 0 (Nat.lt_trans Z.isLt hpW) zero_w9 10000 (by decide) w) rfl rfl) (show _ = Value.bool false by rw [decide_eq_false (show ¬ Z.val = 0 from fun e=>hz (Fin.ext e))])) (Nb rfl) ?_
    refine KG ?_
    refine Ki rfl ?_
    refine Kd ?_
    refine KD ?_
    refine Ka [8] (by kernel_rfl) ?_
    refine KC 0 rfl (by kernel_rfl) (Nb rfl) (KE rfl) ?_
    refine KC 1 rfl (by kernel_rfl) (Nb rfl) (Kc rfl) ?_
    refine KC 2 rfl (by kernel_rfl) (Nb rfl) (KM (o':=59) Try.underlying147 rfl rfl rfl sz_145 (by decide)) ?_
    refine LAny.take 3 rfl (by kernel_rfl) (Nb rfl) (KK rfl (by repeat (first|exact Mh _|apply Mt)) (KY Try.underlying145 rfl (by exact cvC_gt_F _ _ _ _ _ _ _ _ _ _ _ _ _))) ?_
    refine KC 4 rfl (by kernel_rfl) (Nb rfl) (KM (o':=18) Try.underlying91 rfl rfl rfl sz_25 (by decide)) ?_
    refine LAny.take 5 rfl (by kernel_rfl) (Nb rfl) (KK rfl (by repeat (first|exact Mh _|apply Mt)) (by exact pj_ld2 _ _ _ _ _ _)) ?_
    refine KAk ?_
    refine KAP 7 rfl (.inl zr_25) (Nb rfl) rfl rfl rfl ?_
    refine Kq 6 rfl rfl rfl (Nb rfl) (by kernel_rfl) rfl (Kt (first:=[]) rfl en_160 rfl (fun w hw=>c_F_Inv V hok f bd _ w (hw _ (by repeat (first|exact Mh _|apply Mt))))) ?_
    rintro _ _ ⟨rfl,rfl⟩
    refine KAZ (by kernel_rfl) (fun b5=>?_)
    refine KAV ?_
    refine Km 8 rfl rfl (by kernel_rfl) (by kernel_rfl) (KP rfl rfl sz_25 (by repeat (first|exact Kl _|exact Kz _ _ _|exact Kn _|exact Ko _ _ _|exact Ky _ _ _|exact KX|refine KT rfl ?_|refine KW ?_ ?_)) (by repeat (first|exact Sh _|apply St_)) (by first|exact KH _|exact KO _ _ _|exact KJ _|exact KS _ _ _|exact Kf _ _ _|rfl|simp [KO,KH,KJ]) ?_)
    refine Kj (by kernel_rfl) ?_
    refine KD ?_
    refine Ka [17] (by kernel_rfl) ?_
    refine KC 0 rfl (by kernel_rfl) (Nb rfl) (KE rfl) ?_
    refine KC 1 rfl (by kernel_rfl) (Nb rfl) (Kc rfl) ?_
    refine KC 2 rfl (by kernel_rfl) (Nb rfl) (KM (o':=59) Try.underlying147 rfl rfl rfl sz_145 (by decide)) ?_
    refine LAny.take 3 rfl (by kernel_rfl) (Nb rfl) (KK rfl (by repeat (first|exact Mh _|apply Mt)) (KY Try.underlying145 rfl (by exact cvC_gt_F _ _ _ _ _ _ _ _ _ _ _ _ _))) ?_
    refine KC 4 rfl (by kernel_rfl) (Nb rfl) (KM (o':=0) Try.underlying91 rfl rfl rfl sz_25 (by decide)) ?_
    refine LAny.take 5 rfl (by kernel_rfl) (Nb rfl) (KK rfl (by repeat (first|exact Mh _|apply Mt)) (by exact KAS Try.underlying25 rfl sz_25 rfl (KH _))) ?_
    refine LAny.take 6 rfl (by kernel_rfl) (Nb rfl) (KK rfl (by repeat (first|exact Mh _|apply Mt)) (by exact KN Try.underlying25 rfl sz_25)) ?_
    refine KC 8 rfl (by kernel_rfl) (Nb rfl) (KE rfl) ?_
    refine KC 9 rfl (by kernel_rfl) (Nb rfl) (Kc rfl) ?_
    refine KC 10 rfl (by kernel_rfl) (Nb rfl) (KM (o':=59) Try.underlying147 rfl rfl rfl sz_145 (by decide)) ?_
    refine LAny.take 11 rfl (by kernel_rfl) (Nb rfl) (KK rfl (by repeat (first|exact Mh _|apply Mt)) (KY Try.underlying145 rfl (by exact cvC_gt_F _ _ _ _ _ _ _ _ _ _ _ _ _))) ?_
    refine KC 12 rfl (by kernel_rfl) (Nb rfl) (KM (o':=9) Try.underlying91 rfl rfl rfl sz_25 (by decide)) ?_
    refine LAny.take 13 rfl (by kernel_rfl) (Nb rfl) (KK rfl (by repeat (first|exact Mh _|apply Mt)) (by exact LoadV.mid Try.underlying25 rfl sz_25 rfl (KH _) (KH _))) ?_
    refine LAny.take 14 rfl (by kernel_rfl) (Nb rfl) (KK rfl (by repeat (first|exact Mh _|apply Mt)) (by exact KN Try.underlying25 rfl sz_25)) ?_
    refine Kr 7 rfl rfl (by kernel_rfl) (KR (first:=[]) rfl en_156 rfl (Nb rfl) (fun w hw=>c_F_Mul V hok f bd _ _ w (hw _ (by repeat (first|exact Mh _|apply Mt))) (hw _ (by repeat (first|exact Mh _|apply Mt)))) ?_)
    refine Kr 15 rfl rfl (by kernel_rfl) (KR (first:=[]) rfl en_156 rfl (Nb rfl) (fun w hw=>c_F_Mul V hok f bd _ _ w (hw _ (by repeat (first|exact Mh _|apply Mt))) (hw _ (by repeat (first|exact Mh _|apply Mt)))) ?_)
    refine KC 16 rfl (by kernel_rfl) (Nb rfl) (KV (KAU pl_60 zr_60 rfl (fill_pt _ _)) rfl) ?_
    refine Km 17 rfl rfl (by kernel_rfl) (by kernel_rfl) (KP rfl rfl sz_60 (by repeat (first|exact Kl _|exact Kz _ _ _|exact Kn _|exact Ko _ _ _|exact Ky _ _ _|exact KX|refine KT rfl ?_|refine KW ?_ ?_)) (by repeat (first|exact Sh _|apply St_)) (by first|exact KH _|exact KO _ _ _|exact KJ _|exact KS _ _ _|exact Kf _ _ _|rfl|simp [KO,KH,KJ]) ?_)
    refine Kj (by kernel_rfl) ?_
    refine KZ ?_
    refine ⟨[_],.cons ⟨_,_,_,rfl,(by repeat (first|exact Mh _|apply Mt)),by exact KN Try.underlying60 rfl sz_60⟩ .nil,fun a w' hr=>⟨?_,hr.fr.below⟩⟩
    rw [plain_aff hz]
    rfl
theorem c_Sum (V:Cv) (b f bd:Nat) (hok:V.Ok) (X1 Y1 Z1 X2 Y2 Z2:Fin V.p) (w:World) (hb:(Item.blk b ⟨false,opL V f,147,(0,0)⟩).holds w) (hf:(Item.blk f ⟨false,fldL V.p bd,194,(0,0)⟩).holds w) (hbd:(Item.blk bd ⟨false,dvL V.p,241,(0,0)⟩).holds w):Calls Try.prog 128 ([.pointer (some ⟨b,0,none⟩),pjV X1.val Y1.val Z1.val,pjV X2.val Y2.val Z2.val]:List Value).toArray w (fun e w'=>e = .returned (pjF (sum3 V.A (V.B+V.B+V.B) X1 Y1 Z1 X2 Y2 Z2))∧Below w.heap.size w w'):=by
  have hbb:=hok.bounds
  have hpW:V.p<W9:=w9_521 hbb.2.1
  refine KAE (N:=213) (rs:=[.cell 6 91]) [.blk b ⟨false,opL V f,147,(0,0)⟩,.blk f ⟨false,fldL V.p bd,194,(0,0)⟩,.blk bd ⟨false,dvL V.p,241,(0,0)⟩] Try.func128 rfl Try.ntmps128 Try.results128 (Nb rfl) ⟨hb,hf,hbd,trivial⟩ rfl ?_
  show LCode _ _ _ ⟨_,_⟩ _
  refine KD (KB ?_)
  refine KI rfl (KU (KQ (Kw rfl) (Nb rfl) (fun b4=>?_)))
  refine KI rfl (KU (KQ (Kw rfl) (Nb rfl) (fun b5=>?_)))
  refine KI rfl (KU (KQ (Kh zr_91) (Nb rfl) (fun b6=>?_)))
  refine KG ?_
  refine KD ?_
  refine Ka [] (by kernel_rfl) ?_
  refine KC 0 rfl (by kernel_rfl) (Nb rfl) (KE rfl) ?_
  refine KC 1 rfl (by kernel_rfl) (Nb rfl) (Kc rfl) ?_
  refine KC 2 rfl (by kernel_rfl) (Nb rfl) (KM (o':=59) Try.underlying147 rfl rfl rfl sz_145 (by decide)) ?_
  refine LAny.take 3 rfl (by kernel_rfl) (Nb rfl) (KK rfl (by repeat (first|exact Mh _|apply Mt)) (KY Try.underlying145 rfl (by exact cvC_gt_F _ _ _ _ _ _ _ _ _ _ _ _ _))) ?_
  refine KC 4 rfl (by kernel_rfl) (Nb rfl) (Det.makeFunc1 rfl) ?_
  refine KC 5 rfl (by kernel_rfl) (Nb rfl) (KE rfl) ?_
  refine KC 6 rfl (by kernel_rfl) (Nb rfl) (Kc rfl) ?_
  refine KC 7 rfl (by kernel_rfl) (Nb rfl) (KM (o':=59) Try.underlying147 rfl rfl rfl sz_145 (by decide)) ?_
  refine LAny.take 8 rfl (by kernel_rfl) (Nb rfl) (KK rfl (by repeat (first|exact Mh _|apply Mt)) (KY Try.underlying145 rfl (by exact cvC_gt_F _ _ _ _ _ _ _ _ _ _ _ _ _))) ?_
  refine KC 9 rfl (by kernel_rfl) (Nb rfl) (Det.makeFunc1 rfl) ?_
  refine KC 10 rfl (by kernel_rfl) (Nb rfl) (KE rfl) ?_
  refine KC 11 rfl (by kernel_rfl) (Nb rfl) (Kc rfl) ?_
  refine KC 12 rfl (by kernel_rfl) (Nb rfl) (KM (o':=59) Try.underlying147 rfl rfl rfl sz_145 (by decide)) ?_
  refine LAny.take 13 rfl (by kernel_rfl) (Nb rfl) (KK rfl (by repeat (first|exact Mh _|apply Mt)) (KY Try.underlying145 rfl (by exact cvC_gt_F _ _ _ _ _ _ _ _ _ _ _ _ _))) ?_
  refine KC 14 rfl (by kernel_rfl) (Nb rfl) (Det.makeFunc1 rfl) ?_
  refine KC 15 rfl (by kernel_rfl) (Nb rfl) (KF rfl) ?_
  refine KC 16 rfl (by kernel_rfl) (Nb rfl) (KF rfl) ?_
  refine KC 17 rfl (by kernel_rfl) (Nb rfl) (KF rfl) ?_
  refine Kj (by kernel_rfl) ?_
  refine KD ?_
  refine Ka [21,22,23] (by kernel_rfl) ?_
  refine KC 0 rfl (by kernel_rfl) (Nb rfl) (KE rfl) ?_
  refine KC 1 rfl (by kernel_rfl) (Nb rfl) (KM (o':=0) Try.underlying91 rfl rfl rfl sz_25 (by decide)) ?_
  refine LAny.take 2 rfl (by kernel_rfl) (Nb rfl) (KK rfl (by repeat (first|exact Mh _|apply Mt)) (by exact KAS Try.underlying25 rfl sz_25 rfl (KH _))) ?_
  refine KC 3 rfl (by kernel_rfl) (Nb rfl) (KM (o':=0) Try.underlying91 rfl rfl rfl sz_25 (by decide)) ?_
  refine LAny.take 4 rfl (by kernel_rfl) (Nb rfl) (KK rfl (by repeat (first|exact Mh _|apply Mt)) (by exact KAS Try.underlying25 rfl sz_25 rfl (KH _))) ?_
  refine KC 6 rfl (by kernel_rfl) (Nb rfl) (KE rfl) ?_
  refine KC 7 rfl (by kernel_rfl) (Nb rfl) (KM (o':=9) Try.underlying91 rfl rfl rfl sz_25 (by decide)) ?_
  refine KC 9 rfl (by kernel_rfl) (Nb rfl) (KM (o':=9) Try.underlying91 rfl rfl rfl sz_25 (by decide)) ?_
  refine KC 12 rfl (by kernel_rfl) (Nb rfl) (KE rfl) ?_
  refine KC 13 rfl (by kernel_rfl) (Nb rfl) (KM (o':=18) Try.underlying91 rfl rfl rfl sz_25 (by decide)) ?_
  refine KC 15 rfl (by kernel_rfl) (Nb rfl) (KM (o':=18) Try.underlying91 rfl rfl rfl sz_25 (by decide)) ?_
  refine LAny.takeW [11,17,21,22,23] 8 rfl (by kernel_rfl) (Nb rfl) (KK rfl (by repeat (first|exact Mh _|apply Mt)) (by exact LoadV.mid Try.underlying25 rfl sz_25 rfl (KH _) (KH _))) ?_
  refine LAny.takeW [11,17,21,22,23] 10 rfl (by kernel_rfl) (Nb rfl) (KK rfl (by repeat (first|exact Mh _|apply Mt)) (by exact LoadV.mid Try.underlying25 rfl sz_25 rfl (KH _) (KH _))) ?_
  refine LAny.takeW [17,21,22,23] 14 rfl (by kernel_rfl) (Nb rfl) (KK rfl (by repeat (first|exact Mh _|apply Mt)) (by exact pj_ld2 _ _ _ _ _ _)) ?_
  refine LAny.takeW [17,21,22,23] 16 rfl (by kernel_rfl) (Nb rfl) (KK rfl (by repeat (first|exact Mh _|apply Mt)) (by exact pj_ld2 _ _ _ _ _ _)) ?_
  refine KAk ?_
  refine KAP 18 rfl (.inl zr_25) (Nb rfl) rfl rfl rfl ?_
  refine KAP 19 rfl (.inl zr_25) (Nb rfl) rfl rfl rfl ?_
  refine KAP 20 rfl (.inl zr_25) (Nb rfl) rfl rfl rfl ?_
  refine Kq 5 rfl rfl rfl (Nb rfl) (by kernel_rfl) rfl (Kt (first:=[_]) rfl en_156 rfl (fun w hw=>c_F_Mul V hok f bd _ _ w (hw _ (by repeat (first|exact Mh _|apply Mt))) (hw _ (by repeat (first|exact Mh _|apply Mt))))) ?_
  rintro _ _ ⟨rfl,rfl⟩
  refine Kq 11 rfl rfl rfl (Nb rfl) (by kernel_rfl) rfl (Kt (first:=[_]) rfl en_156 rfl (fun w hw=>c_F_Mul V hok f bd _ _ w (hw _ (by repeat (first|exact Mh _|apply Mt))) (hw _ (by repeat (first|exact Mh _|apply Mt))))) ?_
  rintro _ _ ⟨rfl,rfl⟩
  refine Kq 17 rfl rfl rfl (Nb rfl) (by kernel_rfl) rfl (Kt (first:=[_]) rfl en_156 rfl (fun w hw=>c_F_Mul V hok f bd _ _ w (hw _ (by repeat (first|exact Mh _|apply Mt))) (hw _ (by repeat (first|exact Mh _|apply Mt))))) ?_
  rintro _ _ ⟨rfl,rfl⟩
  refine KAZ (by kernel_rfl) (fun b12=>?_)
  refine KAZ (by kernel_rfl) (fun b11=>?_)
  refine KAZ (by kernel_rfl) (fun b10=>?_)
  refine KAV ?_
  refine Km 21 rfl rfl (by kernel_rfl) (by kernel_rfl) (KP rfl rfl sz_25 (by repeat (first|exact Kl _|exact Kz _ _ _|exact Kn _|exact Ko _ _ _|exact Ky _ _ _|exact KX|refine KT rfl ?_|refine KW ?_ ?_)) (by repeat (first|exact Sh _|apply St_)) (by first|exact KH _|exact KO _ _ _|exact KJ _|exact KS _ _ _|exact Kf _ _ _|rfl|simp [KO,KH,KJ]) ?_)
  refine Km 22 rfl rfl (by kernel_rfl) (by kernel_rfl) (KP rfl rfl sz_25 (by repeat (first|exact Kl _|exact Kz _ _ _|exact Kn _|exact Ko _ _ _|exact Ky _ _ _|exact KX|refine KT rfl ?_|refine KW ?_ ?_)) (by repeat (first|exact Sh _|apply St_)) (by first|exact KH _|exact KO _ _ _|exact KJ _|exact KS _ _ _|exact Kf _ _ _|rfl|simp [KO,KH,KJ]) ?_)
  refine Km 23 rfl rfl (by kernel_rfl) (by kernel_rfl) (KP rfl rfl sz_25 (by repeat (first|exact Kl _|exact Kz _ _ _|exact Kn _|exact Ko _ _ _|exact Ky _ _ _|exact KX|refine KT rfl ?_|refine KW ?_ ?_)) (by repeat (first|exact Sh _|apply St_)) (by first|exact KH _|exact KO _ _ _|exact KJ _|exact KS _ _ _|exact Kf _ _ _|rfl|simp [KO,KH,KJ]) ?_)
  refine Kj (by kernel_rfl) ?_
  refine KD ?_
  refine Ka [21] (by kernel_rfl) ?_
  refine KC 0 rfl (by kernel_rfl) (Nb rfl) (KE rfl) ?_
  refine KC 1 rfl (by kernel_rfl) (Nb rfl) (KE rfl) ?_
  refine KC 2 rfl (by kernel_rfl) (Nb rfl) (KE rfl) ?_
  refine KC 3 rfl (by kernel_rfl) (Nb rfl) (KM (o':=0) Try.underlying91 rfl rfl rfl sz_25 (by decide)) ?_
  refine LAny.take 4 rfl (by kernel_rfl) (Nb rfl) (KK rfl (by repeat (first|exact Mh _|apply Mt)) (by exact KAS Try.underlying25 rfl sz_25 rfl (KH _))) ?_
  refine KC 5 rfl (by kernel_rfl) (Nb rfl) (KM (o':=9) Try.underlying91 rfl rfl rfl sz_25 (by decide)) ?_
  refine LAny.take 6 rfl (by kernel_rfl) (Nb rfl) (KK rfl (by repeat (first|exact Mh _|apply Mt)) (by exact LoadV.mid Try.underlying25 rfl sz_25 rfl (KH _) (KH _))) ?_
  refine KC 8 rfl (by kernel_rfl) (Nb rfl) (KE rfl) ?_
  refine KC 9 rfl (by kernel_rfl) (Nb rfl) (KM (o':=0) Try.underlying91 rfl rfl rfl sz_25 (by decide)) ?_
  refine LAny.take 10 rfl (by kernel_rfl) (Nb rfl) (KK rfl (by repeat (first|exact Mh _|apply Mt)) (by exact KAS Try.underlying25 rfl sz_25 rfl (KH _))) ?_
  refine KC 11 rfl (by kernel_rfl) (Nb rfl) (KM (o':=9) Try.underlying91 rfl rfl rfl sz_25 (by decide)) ?_
  refine LAny.take 12 rfl (by kernel_rfl) (Nb rfl) (KK rfl (by repeat (first|exact Mh _|apply Mt)) (by exact LoadV.mid Try.underlying25 rfl sz_25 rfl (KH _) (KH _))) ?_
  refine KC 15 rfl (by kernel_rfl) (Nb rfl) (KE rfl) ?_
  refine LAny.take 16 rfl (by kernel_rfl) (Nb rfl) (KK rfl (by repeat (first|exact Mh _|apply Mt)) (by exact KN Try.underlying25 rfl sz_25)) ?_
  refine LAny.take 17 rfl (by kernel_rfl) (Nb rfl) (KK rfl (by repeat (first|exact Mh _|apply Mt)) (by exact KN Try.underlying25 rfl sz_25)) ?_
  refine KAk ?_
  refine KAP 20 rfl (.inl zr_25) (Nb rfl) rfl rfl rfl ?_
  refine Kq 7 rfl rfl rfl (Nb rfl) (by kernel_rfl) rfl (Kt (first:=[_]) rfl en_152 rfl (fun w hw=>c_F_Add V hok f bd _ _ w (hw _ (by repeat (first|exact Mh _|apply Mt))))) ?_
  rintro _ _ ⟨rfl,rfl⟩
  refine Kq 13 rfl rfl rfl (Nb rfl) (by kernel_rfl) rfl (Kt (first:=[_]) rfl en_152 rfl (fun w hw=>c_F_Add V hok f bd _ _ w (hw _ (by repeat (first|exact Mh _|apply Mt))))) ?_
  rintro _ _ ⟨rfl,rfl⟩
  refine Kq 14 rfl rfl rfl (Nb rfl) (by kernel_rfl) rfl (Kt (first:=[_]) rfl en_156 rfl (fun w hw=>c_F_Mul V hok f bd _ _ w (hw _ (by repeat (first|exact Mh _|apply Mt))) (hw _ (by repeat (first|exact Mh _|apply Mt))))) ?_
  rintro _ _ ⟨rfl,rfl⟩
  refine Kq 18 rfl rfl rfl (Nb rfl) (by kernel_rfl) rfl (Kt (first:=[_]) rfl en_152 rfl (fun w hw=>c_F_Add V hok f bd _ _ w (hw _ (by repeat (first|exact Mh _|apply Mt))))) ?_
  rintro _ _ ⟨rfl,rfl⟩
  refine Kq 19 rfl rfl rfl (Nb rfl) (by kernel_rfl) rfl (Kt (first:=[_]) rfl en_161 rfl (fun w hw=>c_F_Sub V hok f bd _ _ w (hw _ (by repeat (first|exact Mh _|apply Mt))))) ?_
  rintro _ _ ⟨rfl,rfl⟩
  refine KAZ (by kernel_rfl) (fun b13=>?_)
  refine KAV ?_
  refine Km 21 rfl rfl (by kernel_rfl) (by kernel_rfl) (KP rfl rfl sz_25 (by repeat (first|exact Kl _|exact Kz _ _ _|exact Kn _|exact Ko _ _ _|exact Ky _ _ _|exact KX|refine KT rfl ?_|refine KW ?_ ?_)) (by repeat (first|exact Sh _|apply St_)) (by first|exact KH _|exact KO _ _ _|exact KJ _|exact KS _ _ _|exact Kf _ _ _|rfl|simp [KO,KH,KJ]) ?_)
  refine Kj (by kernel_rfl) ?_
  refine KD ?_
  refine Ka [21] (by kernel_rfl) ?_
  refine KC 0 rfl (by kernel_rfl) (Nb rfl) (KE rfl) ?_
  refine KC 1 rfl (by kernel_rfl) (Nb rfl) (KE rfl) ?_
  refine KC 2 rfl (by kernel_rfl) (Nb rfl) (KE rfl) ?_
  refine KC 3 rfl (by kernel_rfl) (Nb rfl) (KM (o':=0) Try.underlying91 rfl rfl rfl sz_25 (by decide)) ?_
  refine LAny.take 4 rfl (by kernel_rfl) (Nb rfl) (KK rfl (by repeat (first|exact Mh _|apply Mt)) (by exact KAS Try.underlying25 rfl sz_25 rfl (KH _))) ?_
  refine KC 5 rfl (by kernel_rfl) (Nb rfl) (KM (o':=18) Try.underlying91 rfl rfl rfl sz_25 (by decide)) ?_
  refine LAny.take 6 rfl (by kernel_rfl) (Nb rfl) (KK rfl (by repeat (first|exact Mh _|apply Mt)) (by exact pj_ld2 _ _ _ _ _ _)) ?_
  refine KC 8 rfl (by kernel_rfl) (Nb rfl) (KE rfl) ?_
  refine KC 9 rfl (by kernel_rfl) (Nb rfl) (KM (o':=0) Try.underlying91 rfl rfl rfl sz_25 (by decide)) ?_
  refine LAny.take 10 rfl (by kernel_rfl) (Nb rfl) (KK rfl (by repeat (first|exact Mh _|apply Mt)) (by exact KAS Try.underlying25 rfl sz_25 rfl (KH _))) ?_
  refine KC 11 rfl (by kernel_rfl) (Nb rfl) (KM (o':=18) Try.underlying91 rfl rfl rfl sz_25 (by decide)) ?_
  refine LAny.take 12 rfl (by kernel_rfl) (Nb rfl) (KK rfl (by repeat (first|exact Mh _|apply Mt)) (by exact pj_ld2 _ _ _ _ _ _)) ?_
  refine KC 15 rfl (by kernel_rfl) (Nb rfl) (KE rfl) ?_
  refine LAny.take 16 rfl (by kernel_rfl) (Nb rfl) (KK rfl (by repeat (first|exact Mh _|apply Mt)) (by exact KN Try.underlying25 rfl sz_25)) ?_
  refine LAny.take 17 rfl (by kernel_rfl) (Nb rfl) (KK rfl (by repeat (first|exact Mh _|apply Mt)) (by exact KN Try.underlying25 rfl sz_25)) ?_
  refine KAk ?_
  refine KAP 20 rfl (.inl zr_25) (Nb rfl) rfl rfl rfl ?_
  refine Kq 7 rfl rfl rfl (Nb rfl) (by kernel_rfl) rfl (Kt (first:=[_]) rfl en_152 rfl (fun w hw=>c_F_Add V hok f bd _ _ w (hw _ (by repeat (first|exact Mh _|apply Mt))))) ?_
  rintro _ _ ⟨rfl,rfl⟩
  refine Kq 13 rfl rfl rfl (Nb rfl) (by kernel_rfl) rfl (Kt (first:=[_]) rfl en_152 rfl (fun w hw=>c_F_Add V hok f bd _ _ w (hw _ (by repeat (first|exact Mh _|apply Mt))))) ?_
  rintro _ _ ⟨rfl,rfl⟩
  refine Kq 14 rfl rfl rfl (Nb rfl) (by kernel_rfl) rfl (Kt (first:=[_]) rfl en_156 rfl (fun w hw=>c_F_Mul V hok f bd _ _ w (hw _ (by repeat (first|exact Mh _|apply Mt))) (hw _ (by repeat (first|exact Mh _|apply Mt))))) ?_
  rintro _ _ ⟨rfl,rfl⟩
  refine Kq 18 rfl rfl rfl (Nb rfl) (by kernel_rfl) rfl (Kt (first:=[_]) rfl en_152 rfl (fun w hw=>c_F_Add V hok f bd _ _ w (hw _ (by repeat (first|exact Mh _|apply Mt))))) ?_
  rintro _ _ ⟨rfl,rfl⟩
  refine Kq 19 rfl rfl rfl (Nb rfl) (by kernel_rfl) rfl (Kt (first:=[_]) rfl en_161 rfl (fun w hw=>c_F_Sub V hok f bd _ _ w (hw _ (by repeat (first|exact Mh _|apply Mt))))) ?_
  rintro _ _ ⟨rfl,rfl⟩
  refine KAZ (by kernel_rfl) (fun b14=>?_)
  refine KAV ?_
  refine Km 21 rfl rfl (by kernel_rfl) (by kernel_rfl) (KP rfl rfl sz_25 (by repeat (first|exact Kl _|exact Kz _ _ _|exact Kn _|exact Ko _ _ _|exact Ky _ _ _|exact KX|refine KT rfl ?_|refine KW ?_ ?_)) (by repeat (first|exact Sh _|apply St_)) (by first|exact KH _|exact KO _ _ _|exact KJ _|exact KS _ _ _|exact Kf _ _ _|rfl|simp [KO,KH,KJ]) ?_)
  refine Kj (by kernel_rfl) ?_
  refine KD ?_
  refine Ka [21] (by kernel_rfl) ?_
  refine KC 0 rfl (by kernel_rfl) (Nb rfl) (KE rfl) ?_
  refine KC 1 rfl (by kernel_rfl) (Nb rfl) (KE rfl) ?_
  refine KC 2 rfl (by kernel_rfl) (Nb rfl) (KE rfl) ?_
  refine KC 3 rfl (by kernel_rfl) (Nb rfl) (KM (o':=9) Try.underlying91 rfl rfl rfl sz_25 (by decide)) ?_
  refine LAny.take 4 rfl (by kernel_rfl) (Nb rfl) (KK rfl (by repeat (first|exact Mh _|apply Mt)) (by exact LoadV.mid Try.underlying25 rfl sz_25 rfl (KH _) (KH _))) ?_
  refine KC 5 rfl (by kernel_rfl) (Nb rfl) (KM (o':=18) Try.underlying91 rfl rfl rfl sz_25 (by decide)) ?_
  refine LAny.take 6 rfl (by kernel_rfl) (Nb rfl) (KK rfl (by repeat (first|exact Mh _|apply Mt)) (by exact pj_ld2 _ _ _ _ _ _)) ?_
  refine KC 8 rfl (by kernel_rfl) (Nb rfl) (KE rfl) ?_
  refine KC 9 rfl (by kernel_rfl) (Nb rfl) (KM (o':=9) Try.underlying91 rfl rfl rfl sz_25 (by decide)) ?_
  refine LAny.take 10 rfl (by kernel_rfl) (Nb rfl) (KK rfl (by repeat (first|exact Mh _|apply Mt)) (by exact LoadV.mid Try.underlying25 rfl sz_25 rfl (KH _) (KH _))) ?_
  refine KC 11 rfl (by kernel_rfl) (Nb rfl) (KM (o':=18) Try.underlying91 rfl rfl rfl sz_25 (by decide)) ?_
  refine LAny.take 12 rfl (by kernel_rfl) (Nb rfl) (KK rfl (by repeat (first|exact Mh _|apply Mt)) (by exact pj_ld2 _ _ _ _ _ _)) ?_
  refine KC 15 rfl (by kernel_rfl) (Nb rfl) (KE rfl) ?_
  refine LAny.take 16 rfl (by kernel_rfl) (Nb rfl) (KK rfl (by repeat (first|exact Mh _|apply Mt)) (by exact KN Try.underlying25 rfl sz_25)) ?_
  refine LAny.take 17 rfl (by kernel_rfl) (Nb rfl) (KK rfl (by repeat (first|exact Mh _|apply Mt)) (by exact KN Try.underlying25 rfl sz_25)) ?_
  refine KAk ?_
  refine KAP 20 rfl (.inl zr_25) (Nb rfl) rfl rfl rfl ?_
  refine Kq 7 rfl rfl rfl (Nb rfl) (by kernel_rfl) rfl (Kt (first:=[_]) rfl en_152 rfl (fun w hw=>c_F_Add V hok f bd _ _ w (hw _ (by repeat (first|exact Mh _|apply Mt))))) ?_
  rintro _ _ ⟨rfl,rfl⟩
  refine Kq 13 rfl rfl rfl (Nb rfl) (by kernel_rfl) rfl (Kt (first:=[_]) rfl en_152 rfl (fun w hw=>c_F_Add V hok f bd _ _ w (hw _ (by repeat (first|exact Mh _|apply Mt))))) ?_
  rintro _ _ ⟨rfl,rfl⟩
  refine Kq 14 rfl rfl rfl (Nb rfl) (by kernel_rfl) rfl (Kt (first:=[_]) rfl en_156 rfl (fun w hw=>c_F_Mul V hok f bd _ _ w (hw _ (by repeat (first|exact Mh _|apply Mt))) (hw _ (by repeat (first|exact Mh _|apply Mt))))) ?_
  rintro _ _ ⟨rfl,rfl⟩
  refine Kq 18 rfl rfl rfl (Nb rfl) (by kernel_rfl) rfl (Kt (first:=[_]) rfl en_152 rfl (fun w hw=>c_F_Add V hok f bd _ _ w (hw _ (by repeat (first|exact Mh _|apply Mt))))) ?_
  rintro _ _ ⟨rfl,rfl⟩
  refine Kq 19 rfl rfl rfl (Nb rfl) (by kernel_rfl) rfl (Kt (first:=[_]) rfl en_161 rfl (fun w hw=>c_F_Sub V hok f bd _ _ w (hw _ (by repeat (first|exact Mh _|apply Mt))))) ?_
  rintro _ _ ⟨rfl,rfl⟩
  refine KAZ (by kernel_rfl) (fun b15=>?_)
  refine KAV ?_
  refine Km 21 rfl rfl (by kernel_rfl) (by kernel_rfl) (KP rfl rfl sz_25 (by repeat (first|exact Kl _|exact Kz _ _ _|exact Kn _|exact Ko _ _ _|exact Ky _ _ _|exact KX|refine KT rfl ?_|refine KW ?_ ?_)) (by repeat (first|exact Sh _|apply St_)) (by first|exact KH _|exact KO _ _ _|exact KJ _|exact KS _ _ _|exact Kf _ _ _|rfl|simp [KO,KH,KJ]) ?_)
  refine Kj (by kernel_rfl) ?_
  refine KD ?_
  refine Ka [18] (by kernel_rfl) ?_
  refine KC 0 rfl (by kernel_rfl) (Nb rfl) (KE rfl) ?_
  refine KC 1 rfl (by kernel_rfl) (Nb rfl) (KE rfl) ?_
  refine KC 2 rfl (by kernel_rfl) (Nb rfl) (KE rfl) ?_
  refine KC 3 rfl (by kernel_rfl) (Nb rfl) (Kc rfl) ?_
  refine KC 4 rfl (by kernel_rfl) (Nb rfl) (KM (o':=60) Try.underlying147 rfl rfl rfl sz_25 (by decide)) ?_
  refine LAny.take 5 rfl (by kernel_rfl) (Nb rfl) (Det.cast (KK rfl (by repeat (first|exact Mh _|apply Mt)) (by exact cvC_ld_t3 _ _ _ _ _ _ _ _ _ _ _ _ _ _ _ _)) (t_val hok)) ?_
  refine LAny.take 6 rfl (by kernel_rfl) (Nb rfl) (KK rfl (by repeat (first|exact Mh _|apply Mt)) (by exact KN Try.underlying25 rfl sz_25)) ?_
  refine KC 8 rfl (by kernel_rfl) (Nb rfl) (KE rfl) ?_
  refine KC 9 rfl (by kernel_rfl) (Nb rfl) (KE rfl) ?_
  refine KC 10 rfl (by kernel_rfl) (Nb rfl) (Kc rfl) ?_
  refine KC 11 rfl (by kernel_rfl) (Nb rfl) (KM (o':=0) Try.underlying147 rfl rfl rfl sz_62 (by decide)) ?_
  refine KC 12 rfl (by kernel_rfl) (Nb rfl) (KM (o':=10) Try.underlying62 rfl rfl rfl sz_25 (by decide)) ?_
  refine LAny.take 13 rfl (by kernel_rfl) (Nb rfl) (Det.cast (KK rfl (by repeat (first|exact Mh _|apply Mt)) (by exact cvC_ld_a _ _ _ _ _ _ _ _ _ _ _ _ _ _ _ _)) (a_val hok)) ?_
  refine LAny.take 14 rfl (by kernel_rfl) (Nb rfl) (KK rfl (by repeat (first|exact Mh _|apply Mt)) (by exact KN Try.underlying25 rfl sz_25)) ?_
  refine KAk ?_
  refine KAP 17 rfl (.inl zr_25) (Nb rfl) rfl rfl rfl ?_
  refine Kq 7 rfl rfl rfl (Nb rfl) (by kernel_rfl) rfl (Kt (first:=[_]) rfl en_156 rfl (fun w hw=>c_F_Mul V hok f bd _ _ w (hw _ (by repeat (first|exact Mh _|apply Mt))) (hw _ (by repeat (first|exact Mh _|apply Mt))))) ?_
  rintro _ _ ⟨rfl,rfl⟩
  refine Kq 15 rfl rfl rfl (Nb rfl) (by kernel_rfl) rfl (Kt (first:=[_]) rfl en_156 rfl (fun w hw=>c_F_Mul V hok f bd _ _ w (hw _ (by repeat (first|exact Mh _|apply Mt))) (hw _ (by repeat (first|exact Mh _|apply Mt))))) ?_
  rintro _ _ ⟨rfl,rfl⟩
  refine Kq 16 rfl rfl rfl (Nb rfl) (by kernel_rfl) rfl (Kt (first:=[_]) rfl en_152 rfl (fun w hw=>c_F_Add V hok f bd _ _ w (hw _ (by repeat (first|exact Mh _|apply Mt))))) ?_
  rintro _ _ ⟨rfl,rfl⟩
  refine KAZ (by kernel_rfl) (fun b16=>?_)
  refine KAV ?_
  refine Km 18 rfl rfl (by kernel_rfl) (by kernel_rfl) (KP rfl rfl sz_25 (by repeat (first|exact Kl _|exact Kz _ _ _|exact Kn _|exact Ko _ _ _|exact Ky _ _ _|exact KX|refine KT rfl ?_|refine KW ?_ ?_)) (by repeat (first|exact Sh _|apply St_)) (by first|exact KH _|exact KO _ _ _|exact KJ _|exact KS _ _ _|exact Kf _ _ _|rfl|simp [KO,KH,KJ]) ?_)
  refine Kj (by kernel_rfl) ?_
  refine KD (KB ?_)
  refine KA (KE rfl) (Nb rfl) ?_
  refine LOps.det (KK rfl (by repeat (first|exact Mh _|apply Mt)) (by exact KN Try.underlying25 rfl sz_25)) (Nb rfl) ?_
  refine LOps.det (KK rfl (by repeat (first|exact Mh _|apply Mt)) (by exact KN Try.underlying25 rfl sz_25)) (Nb rfl) ?_
  refine KI rfl (KU (KR (first:=[_]) rfl en_161 rfl (Nb rfl) (fun w hw=>c_F_Sub V hok f bd _ _ w (hw _ (by repeat (first|exact Mh _|apply Mt)))) ?_))
  refine KI rfl (KU (KQ (Kh zr_25) (Nb rfl) (fun b17=>?_)))
  refine KI rfl (KP rfl rfl sz_25 (by repeat (first|exact Kl _|exact Kz _ _ _|exact Kn _|exact Ko _ _ _|exact Ky _ _ _|exact KX|refine KT rfl ?_|refine KW ?_ ?_)) (by repeat (first|exact Sh _|apply St_)) (by first|exact KH _|exact KO _ _ _|exact KJ _|exact KS _ _ _|exact Kf _ _ _|rfl|simp [KO,KH,KJ]) ?_)
  refine KG ?_
  refine KD (KB ?_)
  refine KA (KE rfl) (Nb rfl) ?_
  refine LOps.det (KK rfl (by repeat (first|exact Mh _|apply Mt)) (by exact KN Try.underlying25 rfl sz_25)) (Nb rfl) ?_
  refine LOps.det (KK rfl (by repeat (first|exact Mh _|apply Mt)) (by exact KN Try.underlying25 rfl sz_25)) (Nb rfl) ?_
  refine KI rfl (KU (KR (first:=[_]) rfl en_152 rfl (Nb rfl) (fun w hw=>c_F_Add V hok f bd _ _ w (hw _ (by repeat (first|exact Mh _|apply Mt)))) ?_))
  refine KI rfl (KP rfl rfl sz_25 (by repeat (first|exact Kl _|exact Kz _ _ _|exact Kn _|exact Ko _ _ _|exact Ky _ _ _|exact KX|refine KT rfl ?_|refine KW ?_ ?_)) (by repeat (first|exact Sh _|apply St_)) (by first|exact KH _|exact KO _ _ _|exact KJ _|exact KS _ _ _|exact Kf _ _ _|rfl|simp [KO,KH,KJ]) ?_)
  refine KG ?_
  refine KD (KB ?_)
  refine KA (KE rfl) (Nb rfl) ?_
  refine LOps.det (KK rfl (by repeat (first|exact Mh _|apply Mt)) (by exact KN Try.underlying25 rfl sz_25)) (Nb rfl) ?_
  refine LOps.det (KK rfl (by repeat (first|exact Mh _|apply Mt)) (by exact KN Try.underlying25 rfl sz_25)) (Nb rfl) ?_
  refine KI rfl (KU (KR (first:=[_]) rfl en_156 rfl (Nb rfl) (fun w hw=>c_F_Mul V hok f bd _ _ w (hw _ (by repeat (first|exact Mh _|apply Mt))) (hw _ (by repeat (first|exact Mh _|apply Mt)))) ?_))
  refine KI rfl (KU (KQ (Kh zr_25) (Nb rfl) (fun b18=>?_)))
  refine KI rfl (KP rfl rfl sz_25 (by repeat (first|exact Kl _|exact Kz _ _ _|exact Kn _|exact Ko _ _ _|exact Ky _ _ _|exact KX|refine KT rfl ?_|refine KW ?_ ?_)) (by repeat (first|exact Sh _|apply St_)) (by first|exact KH _|exact KO _ _ _|exact KJ _|exact KS _ _ _|exact Kf _ _ _|rfl|simp [KO,KH,KJ]) ?_)
  refine KG ?_
  refine KD ?_
  refine Ka [7] (by kernel_rfl) ?_
  refine KC 0 rfl (by kernel_rfl) (Nb rfl) (KE rfl) ?_
  refine KC 1 rfl (by kernel_rfl) (Nb rfl) (KE rfl) ?_
  refine LAny.take 2 rfl (by kernel_rfl) (Nb rfl) (KK rfl (by repeat (first|exact Mh _|apply Mt)) (by exact KN Try.underlying25 rfl sz_25)) ?_
  refine LAny.take 3 rfl (by kernel_rfl) (Nb rfl) (KK rfl (by repeat (first|exact Mh _|apply Mt)) (by exact KN Try.underlying25 rfl sz_25)) ?_
  refine LAny.take 5 rfl (by kernel_rfl) (Nb rfl) (KK rfl (by repeat (first|exact Mh _|apply Mt)) (by exact KN Try.underlying25 rfl sz_25)) ?_
  refine Kr 4 rfl rfl (by kernel_rfl) (KR (first:=[_]) rfl en_152 rfl (Nb rfl) (fun w hw=>c_F_Add V hok f bd _ _ w (hw _ (by repeat (first|exact Mh _|apply Mt)))) ?_)
  refine Kr 6 rfl rfl (by kernel_rfl) (KR (first:=[_]) rfl en_152 rfl (Nb rfl) (fun w hw=>c_F_Add V hok f bd _ _ w (hw _ (by repeat (first|exact Mh _|apply Mt)))) ?_)
  refine Km 7 rfl rfl (by kernel_rfl) (by kernel_rfl) (KP rfl rfl sz_25 (by repeat (first|exact Kl _|exact Kz _ _ _|exact Kn _|exact Ko _ _ _|exact Ky _ _ _|exact KX|refine KT rfl ?_|refine KW ?_ ?_)) (by repeat (first|exact Sh _|apply St_)) (by first|exact KH _|exact KO _ _ _|exact KJ _|exact KS _ _ _|exact Kf _ _ _|rfl|simp [KO,KH,KJ]) ?_)
  refine Kj (by kernel_rfl) ?_
  refine KD ?_
  refine Ka [8] (by kernel_rfl) ?_
  refine KC 0 rfl (by kernel_rfl) (Nb rfl) (KE rfl) ?_
  refine KC 1 rfl (by kernel_rfl) (Nb rfl) (KE rfl) ?_
  refine KC 2 rfl (by kernel_rfl) (Nb rfl) (Kc rfl) ?_
  refine KC 3 rfl (by kernel_rfl) (Nb rfl) (KM (o':=0) Try.underlying147 rfl rfl rfl sz_62 (by decide)) ?_
  refine KC 4 rfl (by kernel_rfl) (Nb rfl) (KM (o':=10) Try.underlying62 rfl rfl rfl sz_25 (by decide)) ?_
  refine LAny.take 5 rfl (by kernel_rfl) (Nb rfl) (Det.cast (KK rfl (by repeat (first|exact Mh _|apply Mt)) (by exact cvC_ld_a _ _ _ _ _ _ _ _ _ _ _ _ _ _ _ _)) (a_val hok)) ?_
  refine LAny.take 6 rfl (by kernel_rfl) (Nb rfl) (KK rfl (by repeat (first|exact Mh _|apply Mt)) (by exact KN Try.underlying25 rfl sz_25)) ?_
  refine Kr 7 rfl rfl (by kernel_rfl) (KR (first:=[_]) rfl en_156 rfl (Nb rfl) (fun w hw=>c_F_Mul V hok f bd _ _ w (hw _ (by repeat (first|exact Mh _|apply Mt))) (hw _ (by repeat (first|exact Mh _|apply Mt)))) ?_)
  refine Km 8 rfl rfl (by kernel_rfl) (by kernel_rfl) (KP rfl rfl sz_25 (by repeat (first|exact Kl _|exact Kz _ _ _|exact Kn _|exact Ko _ _ _|exact Ky _ _ _|exact KX|refine KT rfl ?_|refine KW ?_ ?_)) (by repeat (first|exact Sh _|apply St_)) (by first|exact KH _|exact KO _ _ _|exact KJ _|exact KS _ _ _|exact Kf _ _ _|rfl|simp [KO,KH,KJ]) ?_)
  refine Kj (by kernel_rfl) ?_
  refine KD ?_
  refine Ka [7] (by kernel_rfl) ?_
  refine KC 0 rfl (by kernel_rfl) (Nb rfl) (KE rfl) ?_
  refine KC 1 rfl (by kernel_rfl) (Nb rfl) (KE rfl) ?_
  refine KC 2 rfl (by kernel_rfl) (Nb rfl) (Kc rfl) ?_
  refine KC 3 rfl (by kernel_rfl) (Nb rfl) (KM (o':=60) Try.underlying147 rfl rfl rfl sz_25 (by decide)) ?_
  refine LAny.take 4 rfl (by kernel_rfl) (Nb rfl) (Det.cast (KK rfl (by repeat (first|exact Mh _|apply Mt)) (by exact cvC_ld_t3 _ _ _ _ _ _ _ _ _ _ _ _ _ _ _ _)) (t_val hok)) ?_
  refine LAny.take 5 rfl (by kernel_rfl) (Nb rfl) (KK rfl (by repeat (first|exact Mh _|apply Mt)) (by exact KN Try.underlying25 rfl sz_25)) ?_
  refine Kr 6 rfl rfl (by kernel_rfl) (KR (first:=[_]) rfl en_156 rfl (Nb rfl) (fun w hw=>c_F_Mul V hok f bd _ _ w (hw _ (by repeat (first|exact Mh _|apply Mt))) (hw _ (by repeat (first|exact Mh _|apply Mt)))) ?_)
  refine Km 7 rfl rfl (by kernel_rfl) (by kernel_rfl) (KP rfl rfl sz_25 (by repeat (first|exact Kl _|exact Kz _ _ _|exact Kn _|exact Ko _ _ _|exact Ky _ _ _|exact KX|refine KT rfl ?_|refine KW ?_ ?_)) (by repeat (first|exact Sh _|apply St_)) (by first|exact KH _|exact KO _ _ _|exact KJ _|exact KS _ _ _|exact Kf _ _ _|rfl|simp [KO,KH,KJ]) ?_)
  refine Kj (by kernel_rfl) ?_
  refine KD (KB ?_)
  refine KA (KE rfl) (Nb rfl) ?_
  refine LOps.det (KK rfl (by repeat (first|exact Mh _|apply Mt)) (by exact KN Try.underlying25 rfl sz_25)) (Nb rfl) ?_
  refine LOps.det (KK rfl (by repeat (first|exact Mh _|apply Mt)) (by exact KN Try.underlying25 rfl sz_25)) (Nb rfl) ?_
  refine KI rfl (KU (KR (first:=[_]) rfl en_152 rfl (Nb rfl) (fun w hw=>c_F_Add V hok f bd _ _ w (hw _ (by repeat (first|exact Mh _|apply Mt)))) ?_))
  refine KI rfl (KP rfl rfl sz_25 (by repeat (first|exact Kl _|exact Kz _ _ _|exact Kn _|exact Ko _ _ _|exact Ky _ _ _|exact KX|refine KT rfl ?_|refine KW ?_ ?_)) (by repeat (first|exact Sh _|apply St_)) (by first|exact KH _|exact KO _ _ _|exact KJ _|exact KS _ _ _|exact Kf _ _ _|rfl|simp [KO,KH,KJ]) ?_)
  refine KG ?_
  refine KD ?_
  refine Ka [11] (by kernel_rfl) ?_
  refine KC 0 rfl (by kernel_rfl) (Nb rfl) (KE rfl) ?_
  refine KC 1 rfl (by kernel_rfl) (Nb rfl) (KE rfl) ?_
  refine KC 2 rfl (by kernel_rfl) (Nb rfl) (Kc rfl) ?_
  refine KC 3 rfl (by kernel_rfl) (Nb rfl) (KM (o':=0) Try.underlying147 rfl rfl rfl sz_62 (by decide)) ?_
  refine KC 4 rfl (by kernel_rfl) (Nb rfl) (KM (o':=10) Try.underlying62 rfl rfl rfl sz_25 (by decide)) ?_
  refine LAny.take 5 rfl (by kernel_rfl) (Nb rfl) (Det.cast (KK rfl (by repeat (first|exact Mh _|apply Mt)) (by exact cvC_ld_a _ _ _ _ _ _ _ _ _ _ _ _ _ _ _ _)) (a_val hok)) ?_
  refine KC 6 rfl (by kernel_rfl) (Nb rfl) (KE rfl) ?_
  refine LAny.take 7 rfl (by kernel_rfl) (Nb rfl) (KK rfl (by repeat (first|exact Mh _|apply Mt)) (by exact KN Try.underlying25 rfl sz_25)) ?_
  refine LAny.take 8 rfl (by kernel_rfl) (Nb rfl) (KK rfl (by repeat (first|exact Mh _|apply Mt)) (by exact KN Try.underlying25 rfl sz_25)) ?_
  refine Kr 9 rfl rfl (by kernel_rfl) (KR (first:=[_]) rfl en_161 rfl (Nb rfl) (fun w hw=>c_F_Sub V hok f bd _ _ w (hw _ (by repeat (first|exact Mh _|apply Mt)))) ?_)
  refine Kr 10 rfl rfl (by kernel_rfl) (KR (first:=[_]) rfl en_156 rfl (Nb rfl) (fun w hw=>c_F_Mul V hok f bd _ _ w (hw _ (by repeat (first|exact Mh _|apply Mt))) (hw _ (by repeat (first|exact Mh _|apply Mt)))) ?_)
  refine Km 11 rfl rfl (by kernel_rfl) (by kernel_rfl) (KP rfl rfl sz_25 (by repeat (first|exact Kl _|exact Kz _ _ _|exact Kn _|exact Ko _ _ _|exact Ky _ _ _|exact KX|refine KT rfl ?_|refine KW ?_ ?_)) (by repeat (first|exact Sh _|apply St_)) (by first|exact KH _|exact KO _ _ _|exact KJ _|exact KS _ _ _|exact Kf _ _ _|rfl|simp [KO,KH,KJ]) ?_)
  refine Kj (by kernel_rfl) ?_
  refine KD (KB ?_)
  refine KA (KE rfl) (Nb rfl) ?_
  refine LOps.det (KK rfl (by repeat (first|exact Mh _|apply Mt)) (by exact KN Try.underlying25 rfl sz_25)) (Nb rfl) ?_
  refine LOps.det (KK rfl (by repeat (first|exact Mh _|apply Mt)) (by exact KN Try.underlying25 rfl sz_25)) (Nb rfl) ?_
  refine KI rfl (KU (KR (first:=[_]) rfl en_152 rfl (Nb rfl) (fun w hw=>c_F_Add V hok f bd _ _ w (hw _ (by repeat (first|exact Mh _|apply Mt)))) ?_))
  refine KI rfl (KP rfl rfl sz_25 (by repeat (first|exact Kl _|exact Kz _ _ _|exact Kn _|exact Ko _ _ _|exact Ky _ _ _|exact KX|refine KT rfl ?_|refine KW ?_ ?_)) (by repeat (first|exact Sh _|apply St_)) (by first|exact KH _|exact KO _ _ _|exact KJ _|exact KS _ _ _|exact Kf _ _ _|rfl|simp [KO,KH,KJ]) ?_)
  refine KG ?_
  refine KD ?_
  refine Ka [7] (by kernel_rfl) ?_
  refine KC 0 rfl (by kernel_rfl) (Nb rfl) (KE rfl) ?_
  refine LAny.take 1 rfl (by kernel_rfl) (Nb rfl) (KK rfl (by repeat (first|exact Mh _|apply Mt)) (by exact KN Try.underlying25 rfl sz_25)) ?_
  refine KC 2 rfl (by kernel_rfl) (Nb rfl) (KE rfl) ?_
  refine LAny.take 3 rfl (by kernel_rfl) (Nb rfl) (KK rfl (by repeat (first|exact Mh _|apply Mt)) (by exact KN Try.underlying25 rfl sz_25)) ?_
  refine LAny.take 4 rfl (by kernel_rfl) (Nb rfl) (KK rfl (by repeat (first|exact Mh _|apply Mt)) (by exact KN Try.underlying25 rfl sz_25)) ?_
  refine Kr 5 rfl rfl (by kernel_rfl) (KR (first:=[_]) rfl en_156 rfl (Nb rfl) (fun w hw=>c_F_Mul V hok f bd _ _ w (hw _ (by repeat (first|exact Mh _|apply Mt))) (hw _ (by repeat (first|exact Mh _|apply Mt)))) ?_)
  refine Kr 6 rfl rfl (by kernel_rfl) (KR (first:=[_]) rfl en_152 rfl (Nb rfl) (fun w hw=>c_F_Add V hok f bd _ _ w (hw _ (by repeat (first|exact Mh _|apply Mt)))) ?_)
  refine Km 7 rfl rfl (by kernel_rfl) (by kernel_rfl) (KP rfl rfl sz_25 (by repeat (first|exact Kl _|exact Kz _ _ _|exact Kn _|exact Ko _ _ _|exact Ky _ _ _|exact KX|refine KT rfl ?_|refine KW ?_ ?_)) (by repeat (first|exact Sh _|apply St_)) (by first|exact KH _|exact KO _ _ _|exact KJ _|exact KS _ _ _|exact Kf _ _ _|rfl|simp [KO,KH,KJ]) ?_)
  refine Kj (by kernel_rfl) ?_
  refine KD ?_
  refine Ka [10] (by kernel_rfl) ?_
  refine KC 0 rfl (by kernel_rfl) (Nb rfl) (KE rfl) ?_
  refine KC 1 rfl (by kernel_rfl) (Nb rfl) (KE rfl) ?_
  refine LAny.take 2 rfl (by kernel_rfl) (Nb rfl) (KK rfl (by repeat (first|exact Mh _|apply Mt)) (by exact KN Try.underlying25 rfl sz_25)) ?_
  refine LAny.take 3 rfl (by kernel_rfl) (Nb rfl) (KK rfl (by repeat (first|exact Mh _|apply Mt)) (by exact KN Try.underlying25 rfl sz_25)) ?_
  refine KC 5 rfl (by kernel_rfl) (Nb rfl) (KE rfl) ?_
  refine LAny.take 6 rfl (by kernel_rfl) (Nb rfl) (KK rfl (by repeat (first|exact Mh _|apply Mt)) (by exact KN Try.underlying25 rfl sz_25)) ?_
  refine LAny.take 7 rfl (by kernel_rfl) (Nb rfl) (KK rfl (by repeat (first|exact Mh _|apply Mt)) (by exact KN Try.underlying25 rfl sz_25)) ?_
  refine Kr 4 rfl rfl (by kernel_rfl) (KR (first:=[_]) rfl en_156 rfl (Nb rfl) (fun w hw=>c_F_Mul V hok f bd _ _ w (hw _ (by repeat (first|exact Mh _|apply Mt))) (hw _ (by repeat (first|exact Mh _|apply Mt)))) ?_)
  refine Kr 8 rfl rfl (by kernel_rfl) (KR (first:=[_]) rfl en_156 rfl (Nb rfl) (fun w hw=>c_F_Mul V hok f bd _ _ w (hw _ (by repeat (first|exact Mh _|apply Mt))) (hw _ (by repeat (first|exact Mh _|apply Mt)))) ?_)
  refine Kr 9 rfl rfl (by kernel_rfl) (KR (first:=[_]) rfl en_161 rfl (Nb rfl) (fun w hw=>c_F_Sub V hok f bd _ _ w (hw _ (by repeat (first|exact Mh _|apply Mt)))) ?_)
  refine Km 10 rfl rfl (by kernel_rfl) (by kernel_rfl) (KP rfl rfl sz_25 (by repeat (first|exact Kl _|exact Kz _ _ _|exact Kn _|exact Ko _ _ _|exact Ky _ _ _|exact KX|refine KT rfl ?_|refine KW ?_ ?_)) (by repeat (first|exact Sh _|apply St_)) (by first|exact KH _|exact KO _ _ _|exact KJ _|exact KS _ _ _|exact Kf _ _ _|rfl|simp [KO,KH,KJ]) ?_)
  refine Kj (by kernel_rfl) ?_
  refine KD ?_
  refine Ka [10] (by kernel_rfl) ?_
  refine KC 0 rfl (by kernel_rfl) (Nb rfl) (KE rfl) ?_
  refine KC 1 rfl (by kernel_rfl) (Nb rfl) (KE rfl) ?_
  refine LAny.take 2 rfl (by kernel_rfl) (Nb rfl) (KK rfl (by repeat (first|exact Mh _|apply Mt)) (by exact KN Try.underlying25 rfl sz_25)) ?_
  refine LAny.take 3 rfl (by kernel_rfl) (Nb rfl) (KK rfl (by repeat (first|exact Mh _|apply Mt)) (by exact KN Try.underlying25 rfl sz_25)) ?_
  refine KC 5 rfl (by kernel_rfl) (Nb rfl) (KE rfl) ?_
  refine LAny.take 6 rfl (by kernel_rfl) (Nb rfl) (KK rfl (by repeat (first|exact Mh _|apply Mt)) (by exact KN Try.underlying25 rfl sz_25)) ?_
  refine LAny.take 7 rfl (by kernel_rfl) (Nb rfl) (KK rfl (by repeat (first|exact Mh _|apply Mt)) (by exact KN Try.underlying25 rfl sz_25)) ?_
  refine Kr 4 rfl rfl (by kernel_rfl) (KR (first:=[_]) rfl en_156 rfl (Nb rfl) (fun w hw=>c_F_Mul V hok f bd _ _ w (hw _ (by repeat (first|exact Mh _|apply Mt))) (hw _ (by repeat (first|exact Mh _|apply Mt)))) ?_)
  refine Kr 8 rfl rfl (by kernel_rfl) (KR (first:=[_]) rfl en_156 rfl (Nb rfl) (fun w hw=>c_F_Mul V hok f bd _ _ w (hw _ (by repeat (first|exact Mh _|apply Mt))) (hw _ (by repeat (first|exact Mh _|apply Mt)))) ?_)
  refine Kr 9 rfl rfl (by kernel_rfl) (KR (first:=[_]) rfl en_152 rfl (Nb rfl) (fun w hw=>c_F_Add V hok f bd _ _ w (hw _ (by repeat (first|exact Mh _|apply Mt)))) ?_)
  refine Km 10 rfl rfl (by kernel_rfl) (by kernel_rfl) (KP rfl rfl sz_25 (by repeat (first|exact Kl _|exact Kz _ _ _|exact Kn _|exact Ko _ _ _|exact Ky _ _ _|exact KX|refine KT rfl ?_|refine KW ?_ ?_)) (by repeat (first|exact Sh _|apply St_)) (by first|exact KH _|exact KO _ _ _|exact KJ _|exact KS _ _ _|exact Kf _ _ _|rfl|simp [KO,KH,KJ]) ?_)
  refine Kj (by kernel_rfl) ?_
  refine KD (KB ?_)
  refine LOps.det (KK rfl (by repeat (first|exact Mh _|apply Mt)) (by exact KN Try.underlying25 rfl sz_25)) (Nb rfl) ?_
  refine LOps.det (KK rfl (by repeat (first|exact Mh _|apply Mt)) (by exact KN Try.underlying25 rfl sz_25)) (Nb rfl) ?_
  refine LOps.det (KK rfl (by repeat (first|exact Mh _|apply Mt)) (by exact KN Try.underlying25 rfl sz_25)) (Nb rfl) ?_
  refine KA (KV (KAU pl_91 zr_91 rfl (fill_pj _ _ _)) rfl) (Nb rfl) ?_
  refine KI rfl (KP rfl rfl sz_91 (by repeat (first|exact Kl _|exact Kz _ _ _|exact Kn _|exact Ko _ _ _|exact Ky _ _ _|exact KX|refine KT rfl ?_|refine KW ?_ ?_)) (by repeat (first|exact Sh _|apply St_)) (by first|exact KH _|exact KO _ _ _|exact KJ _|exact KS _ _ _|exact Kf _ _ _|rfl|simp [KO,KH,KJ]) ?_)
  refine KG (KZ ?_)
  refine ⟨[_],.cons ⟨_,_,_,rfl,(by repeat (first|exact Mh _|apply Mt)),by exact KN Try.underlying91 rfl sz_91⟩ .nil,fun a w' hr=>⟨?_,hr.fr.below⟩⟩
  rfl
end Go.Proofs.Ytljblbgogjieaaa
set_option linter.unusedVariables false
set_option linter.unusedSimpArgs false
set_option maxRecDepth 20000
namespace Go.Proofs.Ytljblbgogjieaaa
open Go Go.RowKit
open Grp
theorem pm_top (V:Cv) (P:Pt V.p) (K:Nat):pmul V.A P (K/2^blen K) = .inf:=by rw [Nat.div_eq_of_lt (lt_blen K)]; rfl
theorem pm_T {V:Cv} (hok:V.Ok) {P:Pt V.p} (hP:On V.A V.B P) {K y:Nat} (h:K/2^y%2 = 1):padd V.A (padd V.A (pmul V.A P (K/2^(y+1))) (pmul V.A P (K/2^(y+1)))) P = pmul V.A P (K/2^y):=by
  have:=pmul_bit hok.crv hP K y
  rwa [if_pos h] at this
theorem pm_F {V:Cv} (hok:V.Ok) {P:Pt V.p} (hP:On V.A V.B P) {K y:Nat} (h:¬ K/2^y%2 = 1):padd V.A (pmul V.A P (K/2^(y+1))) (pmul V.A P (K/2^(y+1))) = pmul V.A P (K/2^y):=by
  have:=pmul_bit hok.crv hP K y
  rwa [if_neg h] at this
theorem c_r_Times (Q:CQ) (V:Cv) (qk:NV) (K:Nat) (q r:NV) (P R:Pt V.p) (w:World) (hc:(crvI Q V).holds w) (hok:V.Ok) (hk:(numT qk K).holds w) (hK:D.nw K≤1000) (hq:(numT q (xv P)).holds w) (hr:(numT r (yv P)).holds w) (hP:On V.A V.B P) (hR:pmul V.A P K = R):Calls Try.prog 64 ([.agg (crvL Q V).toArray,numV qk K,rpV (numV q (xv P)) (numV r (yv P)) (iv P)]:List Value).toArray w (fun e w'=>Num2R w (fp2 q r P []) (xv R) (yv R) (fun u v=>rpV u v (iv R)) e w'):=by
  obtain ⟨hb5,hb521,hba,hbb,hbx,hby,hbn,hbo,hbo2,hbb1,hbn1⟩:=hok.bounds
  have hsz:=hok.sz
  have hsp:=hsz.p
  have hsa:=hsz.a
  have hsb:=hsz.b
  have hp0:V.p≠0:=by omega
  have hpp:0<V.p:=by omega
  have hm17:∀ k,D.nw (k%V.p)≤17:=fun k=>Nat.le_trans (D.nw_mono (Nat.le_of_lt (Nat.mod_lt k hpp))) hsp
  refine KAE (N:=30) (rs:=[.cell 6 73]) [crvI Q V,numT qk K,numT q (xv P),numT r (yv P)] Try.func64 rfl Try.ntmps64 Try.results64 (Nb rfl) ⟨hc,hk,hq,hr,trivial⟩ rfl ?_
  show LCode _ _ _ ⟨_,_⟩ _
  refine KD (KB ?_)
  refine KI rfl (KU (KQ (Kw rfl) (Nb rfl) (fun b3=>?_)))
  refine KI rfl (KU (KQ (Kw rfl) (Nb rfl) (fun b5=>?_)))
  refine KI rfl (KU (KQ (Kh zr_73) (Nb rfl) (fun b6=>?_)))
  refine KG ?_
  refine KD (KB ?_)
  refine KA (KV (KAU pl_73 zr_73 rfl rfl) (show _ = rpV (.slice none 0 0) (.slice none 0 0) (true) from rfl)) (Nb rfl) ?_
  refine KI rfl (KU (KQ (Kh zr_73) (Nb rfl) (fun b7=>?_)))
  refine KI rfl (KP rfl rfl sz_73 (by repeat (first|exact KX|refine KT rfl ?_)) (by repeat (first|exact Sh _|apply St_)) (by rfl) ?_)
  refine KG ?_
  refine KD ?_
  refine KD ?_
  have hbk:=blen_nw K
  refine LCode.zeroNum ?_
  refine LCode.zeroNum ?_
  refine KB ?_
  refine KA (KE rfl) (Nb rfl) ?_
  refine KI rfl (KU (KR (first:=[]) rfl en_76 rfl (Nb rfl) (fun w hw=>c_n_Bits qk K w (hw _ (by repeat (first|exact Mh _|apply Mt))) (by omega)) ?_))
  refine KA (KL (v:=.int .i64 (((blen K:Nat):Int)-1)) rfl rfl (br_subI (by omega) (by omega))) (Nb rfl) ?_
  refine KA (KF rfl) (Nb rfl) ?_
  refine KG ?_
  refine LCode.block ?_
  refine KAL (α:=Nat×NV×NV) (fun x=>x.1≤blen K∧NFr w.heap.size (fp2 q r P []) x.2.1 (D.nw (xv (pmul V.A P (K/2^x.1))))∧NFr w.heap.size (fp2 q r P []) x.2.2 (D.nw (yv (pmul V.A P (K/2^x.1))))) (fun x=>⟨[(1,numV qk K),(3,.pointer (some ⟨b3,0,none⟩)),(5,.pointer (some ⟨b5,0,none⟩)),(6,.pointer (some ⟨b6,0,none⟩)),(7,.pointer (some ⟨b7,0,none⟩)),(8,.int .i64 (((x.1:Nat):Int)-1))],[.blk b7 ⟨true,rpL (numV x.2.1 (xv (pmul V.A P (K/2^x.1)))) (numV x.2.2 (yv (pmul V.A P (K/2^x.1)))) (iv (pmul V.A P (K/2^x.1))),73,(0,0)⟩,.blk b6 ⟨true,[.slice none 0 0,.slice none 0 0,.bool false],73,(0,0)⟩,.blk b5 ⟨true,rpL (numV q (xv P)) (numV r (yv P)) (iv P),73,(0,0)⟩,.blk b3 ⟨true,crvL Q V,31,(0,0)⟩,numT x.2.1 (xv (pmul V.A P (K/2^x.1))),numT x.2.2 (yv (pmul V.A P (K/2^x.1))),crvI Q V,numT qk K,numT q (xv P),numT r (yv P)]⟩) (fun x=>x.1) ((blen K,⟨true,0,0⟩,⟨true,0,0⟩)) (⟨Nat.le_refl _,by dsimp only; rw [pm_top]; exact nfr_zero _ _,by dsimp only; rw [pm_top]; exact nfr_zero _ _⟩) (by dsimp only; rw [pm_top]; exact KAo (Sub.cells (b:=b7) (cs':=rpL (numV ⟨true,0,0⟩ (xv (Pt.inf:Pt V.p))) (numV ⟨true,0,0⟩ (yv (Pt.inf:Pt V.p))) (iv (Pt.inf:Pt V.p))) (by repeat (first|exact Sh _|apply St_)) rp_nil) (KAC ⟨rfl,rfl,rfl,rfl,rfl,rfl,trivial⟩ (by repeat (first|exact Sel.nil _|refine Sel.cons (by repeat (first|exact Ph _|apply Pt_)) ?_)))) ?_
  rintro x ⟨hx1,hx2,hx3⟩
  refine KD ?_
  refine KD ?_
  rcases Nat.eq_zero_or_pos x.1 with h0|h0
  ·
    refine KB ?_
    refine KA (KE rfl) (Nb rfl) ?_
    refine KA (KL (v:=.bool false) rfl rfl (by rw [h0]; rfl)) (Nb rfl) ?_
    refine KG ?_
    refine Ki rfl ?_
    refine KAG ?_
    refine KD ?_
    have eR:pmul V.A P (K/2^x.1) = R:=by rw [h0,Nat.pow_zero,Nat.div_one]; exact hR
    rw [eR] at hx2 hx3 ⊢
    refine KB ?_
    refine LOps.det (KK rfl (by repeat (first|exact Mh _|apply Mt)) (by exact KN Try.underlying73 rfl sz_73)) (Nb rfl) ?_
    refine KI rfl (KP rfl rfl sz_73 (by repeat (first|exact KX|refine KT rfl ?_)) (by repeat (first|exact Sh _|apply St_)) (by rfl) ?_)
    refine KG (KZ ?_)
    refine ⟨[_],.cons ⟨_,_,_,rfl,(by repeat (first|exact Mh _|apply Mt)),by exact KN Try.underlying73 rfl sz_73⟩ .nil,fun a w' hr=>hr.num2Q (by repeat (first|exact Mh _|apply Mt)) hx2 (by repeat (first|exact Mh _|apply Mt)) hx3⟩
  ·
    obtain ⟨y,hy⟩:∃ y,x.1 = y+1:=⟨x.1-1,by omega⟩
    rw [hy] at hx2 hx3 ⊢
    refine KB ?_
    refine KA (KE rfl) (Nb rfl) ?_
    refine KA (KL (v:=.bool true) rfl rfl (by simp [KAX] <;> omega)) (Nb rfl) ?_
    refine KG ?_
    refine KAB rfl ?_
    refine Kd ?_
    refine KD ?_
    refine LCode.block ?_
    refine KD (KB ?_)
    refine LOps.det (KK rfl (by repeat (first|exact Mh _|apply Mt)) (by exact KN Try.underlying31 rfl sz_31)) (Nb rfl) ?_
    refine LOps.det (KK rfl (by repeat (first|exact Mh _|apply Mt)) (by exact KN Try.underlying73 rfl sz_73)) (Nb rfl) ?_
    refine LOps.det (KK rfl (by repeat (first|exact Mh _|apply Mt)) (by exact KN Try.underlying73 rfl sz_73)) (Nb rfl) ?_
    refine KI rfl (KU (Kx (first:=[]) rfl en_79 rfl (Nb rfl) (fun w hw hs=>(c_r_Plus Q V x.2.1 x.2.2 x.2.1 x.2.2 (pmul V.A P (K/2^(y+1))) (pmul V.A P (K/2^(y+1))) (padd V.A (pmul V.A P (K/2^(y+1))) (pmul V.A P (K/2^(y+1)))) w (hw _ (by repeat (first|exact Mh _|apply Mt))) hok (hw _ (by repeat (first|exact Mh _|apply Mt))) (hw _ (by repeat (first|exact Mh _|apply Mt))) (hw _ (by repeat (first|exact Mh _|apply Mt))) (hw _ (by repeat (first|exact Mh _|apply Mt))) (hok.mul hP _) (hok.mul hP _) rfl).mono fun e w' h=>Num2R.q (Old.pt (by repeat (first|exact Mh _|apply Mt)) (by repeat (first|exact Mh _|apply Mt)) (Old.pt (by repeat (first|exact Mh _|apply Mt)) (by repeat (first|exact Mh _|apply Mt)) (Old.nil _))) hs h) ?_))
    rintro _ _ ⟨qda,qdb,rfl,rfl,hnda,hndb⟩
    refine KI rfl (KP rfl rfl sz_73 (by repeat (first|exact KX|refine KT rfl ?_)) (by repeat (first|exact Sh _|apply St_)) (by rfl) ?_)
    refine KG ?_
    refine KD (KB ?_)
    refine KA (KE rfl) (Nb rfl) ?_
    refine KA (KE (v:=.int .i64 ((y:Nat):Int)) (by show some _ = some _; congr 2; omega)) (Nb rfl) ?_
    refine KI rfl (KU (KR (first:=[]) rfl en_69 rfl (Nb rfl) (fun w hw=>c_n_Bit qk K (D.nw K) y w (hw _ (by repeat (first|exact Mh _|apply Mt))) (by omega)) ?_))
    refine KA (KL rfl rfl (br_eql (b:=1))) (Nb rfl) ?_
    refine KG ?_
    first|refine Kb rfl (fun hbit=>?_) (fun hbit=>?_)|refine Ke rfl (fun hbit=>?_) (fun hbit=>?_)
    ·
      have hbit:K/2^y%2 = 1:=hbit
      refine KB ?_
      refine LOps.det (KK rfl (by repeat (first|exact Mh _|apply Mt)) (by exact KN Try.underlying31 rfl sz_31)) (Nb rfl) ?_
      refine LOps.det (KK rfl (by repeat (first|exact Mh _|apply Mt)) (by exact KN Try.underlying73 rfl sz_73)) (Nb rfl) ?_
      refine LOps.det (KK rfl (by repeat (first|exact Mh _|apply Mt)) (by exact KN Try.underlying73 rfl sz_73)) (Nb rfl) ?_
      refine KI rfl (KU (Kx (first:=[]) rfl en_79 rfl (Nb rfl) (fun w hw hs=>(c_r_Plus Q V qda qdb q r (padd V.A (pmul V.A P (K/2^(y+1))) (pmul V.A P (K/2^(y+1)))) P (pmul V.A P (K/2^y)) w (hw _ (by repeat (first|exact Mh _|apply Mt))) hok (hw _ (by repeat (first|exact Mh _|apply Mt))) (hw _ (by repeat (first|exact Mh _|apply Mt))) (hw _ (by repeat (first|exact Mh _|apply Mt))) (hw _ (by repeat (first|exact Mh _|apply Mt))) (hok.sum (hok.mul hP _) (hok.mul hP _)) hP (pm_T hok hP hbit)).mono fun e w' h=>Num2R.q (Old.pt (by repeat (first|exact Mh _|apply Mt)) (by repeat (first|exact Mh _|apply Mt)) (Old.pt (by repeat (first|exact Mh _|apply Mt)) (by repeat (first|exact Mh _|apply Mt)) (Old.nil _))) hs h) ?_))
      rintro _ _ ⟨qea,qeb,rfl,rfl,hnea,hneb⟩
      refine KI rfl (KP rfl rfl sz_73 (by repeat (first|exact KX|refine KT rfl ?_)) (by repeat (first|exact Sh _|apply St_)) (by rfl) ?_)
      refine KG ?_
      refine KB ?_
      refine KA (KE (v:=.int .i64 ((y:Nat):Int)) (by show some _ = some _; congr 2; omega)) (Nb rfl) ?_
      refine KA (KL (v:=.int .i64 (((y:Nat):Int)-1)) rfl rfl (br_subI (by omega) (by omega))) (Nb rfl) ?_
      refine KA (KF rfl) (Nb rfl) ?_
      refine KG ?_
      exact ⟨(y,qea,qeb),⟨by dsimp only; omega,NFr.two hnea (NFr.two hnda hx2 hx3 hx2 hx3) (NFr.two hndb hx2 hx3 hx2 hx3) (fp2_q _) (fp2_r _),NFr.two hneb (NFr.two hnda hx2 hx3 hx2 hx3) (NFr.two hndb hx2 hx3 hx2 hx3) (fp2_q _) (fp2_r _)⟩,by dsimp only; omega,KAC ⟨rfl,rfl,rfl,rfl,rfl,rfl,trivial⟩ (by repeat (first|exact Sel.nil _|refine Sel.cons (by repeat (first|exact Ph _|apply Pt_)) ?_))⟩
    ·
      have hbit:¬ K/2^y%2 = 1:=hbit
      refine Kd ?_
      refine KB ?_
      refine KA (KE (v:=.int .i64 ((y:Nat):Int)) (by show some _ = some _; congr 2; omega)) (Nb rfl) ?_
      refine KA (KL (v:=.int .i64 (((y:Nat):Int)-1)) rfl rfl (br_subI (by omega) (by omega))) (Nb rfl) ?_
      refine KA (KF rfl) (Nb rfl) ?_
      refine KG ?_
      rw [pm_F hok hP hbit] at hnda hndb ⊢
      exact ⟨(y,qda,qdb),⟨by dsimp only; omega,NFr.two hnda hx2 hx3 hx2 hx3,NFr.two hndb hx2 hx3 hx2 hx3⟩,by dsimp only; omega,KAC ⟨rfl,rfl,rfl,rfl,rfl,rfl,trivial⟩ (by repeat (first|exact Sel.nil _|refine Sel.cons (by repeat (first|exact Ph _|apply Pt_)) ?_))⟩
def sumT (V:Cv) (T U:Fin V.p×Fin V.p×Fin V.p):Fin V.p×Fin V.p×Fin V.p:=sum3 V.A (V.B+V.B+V.B) T.1 T.2.1 T.2.2 U.1 U.2.1 U.2.2
structure RepT (V:Cv) (T:Fin V.p×Fin V.p×Fin V.p) (P:Pt V.p):Prop where
  rep:Rep T.1 T.2.1 T.2.2 P
  on:On V.A V.B P
theorem RepT.sum {V:Cv} (hok:V.Ok) {T U:Fin V.p×Fin V.p×Fin V.p} {P R:Pt V.p} (h:RepT V T P) (k:RepT V U R):RepT V (sumT V T U) (padd V.A P R):=⟨hok.rep_sum h.rep k.rep h.on k.on,hok.sum h.on k.on⟩
theorem RepT.trip {V:Cv} (hok:V.Ok) {P:Pt V.p} (hP:On V.A V.B P):RepT V (tripF P) P:=⟨hok.rep_trip P,hP⟩
theorem c_SumT (V:Cv) (b f bd:Nat) (hok:V.Ok) (T U:Fin V.p×Fin V.p×Fin V.p) (w:World) (hb:(Item.blk b ⟨false,opL V f,147,(0,0)⟩).holds w) (hf:(Item.blk f ⟨false,fldL V.p bd,194,(0,0)⟩).holds w) (hbd:(Item.blk bd ⟨false,dvL V.p,241,(0,0)⟩).holds w):Calls Try.prog 128 ([.pointer (some ⟨b,0,none⟩),pjF T,pjF U]:List Value).toArray w (fun e w'=>e = .returned (pjF (sumT V T U))∧Below w.heap.size w w') :=
  c_Sum V b f bd hok T.1 T.2.1 T.2.2 U.1 U.2.1 U.2.2 w hb hf hbd
theorem c_PlainT (V:Cv) (b f bd:Nat) (hok:V.Ok) (T:Fin V.p×Fin V.p×Fin V.p) (P:Pt V.p) (w:World) (hb:(Item.blk b ⟨false,opL V f,147,(0,0)⟩).holds w) (hf:(Item.blk f ⟨false,fldL V.p bd,194,(0,0)⟩).holds w) (hbd:(Item.blk bd ⟨false,dvL V.p,241,(0,0)⟩).holds w) (h:RepT V T P):Calls Try.prog 127 ([.pointer (some ⟨b,0,none⟩),pjF T]:List Value).toArray w (fun e w'=>e = .returned (ptP P)∧Below w.heap.size w w'):=by
  have:=c_Plain V b f bd hok T.1 T.2.1 T.2.2 w hb hf hbd
  rwa [Rep.plain hok.prime h.rep] at this
theorem c_cTimes (V:Cv) (b f bd:Nat) (hok:V.Ok) (K:Nat) (hK:K<W9) (T:Fin V.p×Fin V.p×Fin V.p) (P:Pt V.p) (w:World) (hb:(Item.blk b ⟨false,opL V f,147,(0,0)⟩).holds w) (hf:(Item.blk f ⟨false,fldL V.p bd,194,(0,0)⟩).holds w) (hbd:(Item.blk bd ⟨false,dvL V.p,241,(0,0)⟩).holds w) (hrep:RepT V T P):Calls Try.prog 134 ([.pointer (some ⟨b,0,none⟩),natV K,pjF T]:List Value).toArray w (fun e w'=>∃ v,(∃ U,RepT V U (pmul V.A P K)∧v = pjF U)∧e = .returned v∧Below w.heap.size w w'):=by
  have hbl:=blen_w9 hK
  refine KAE (N:=30) (rs:=[.cell 6 91]) [.blk b ⟨false,opL V f,147,(0,0)⟩,.blk f ⟨false,fldL V.p bd,194,(0,0)⟩,.blk bd ⟨false,dvL V.p,241,(0,0)⟩] Try.func134 rfl Try.ntmps134 Try.results134 (Nb rfl) ⟨hb,hf,hbd,trivial⟩ rfl ?_
  show LCode _ _ _ ⟨_,_⟩ _
  refine KD (KB ?_)
  refine KI rfl (KU (KQ (Kw rfl) (Nb rfl) (fun b4=>?_)))
  refine KI rfl (KU (KQ (Kw rfl) (Nb rfl) (fun b5=>?_)))
  refine KI rfl (KU (KQ (Kh zr_91) (Nb rfl) (fun b6=>?_)))
  refine KG ?_
  refine KD (KB ?_)
  refine KI rfl (KU (KR (first:=[]) rfl en_158 rfl (Nb rfl) (fun w hw=>c_NoneF hok w) ?_))
  refine KI rfl (KU (KQ (Kh zr_91) (Nb rfl) (fun b7=>?_)))
  refine KI rfl (KP rfl rfl sz_91 (by exact Ky _ _ _) (by repeat (first|exact Sh _|apply St_)) (by exact Kf _ _ _) ?_)
  refine KG ?_
  refine KD ?_
  refine KD (KB ?_)
  refine LOps.det (KK rfl (by repeat (first|exact Mh _|apply Mt)) (by exact KN Try.underlying25 rfl sz_25)) (Nb rfl) ?_
  refine KI rfl (KU (KR (first:=[]) rfl en_151 rfl (Nb rfl) (fun w hw=>c_nat_Bits K hK w) ?_))
  refine KA (KL (v:=.int .i64 (((blen K:Nat):Int)-1)) rfl rfl (br_subI (by omega) (by omega))) (Nb rfl) ?_
  refine KA (KF rfl) (Nb rfl) ?_
  refine KG ?_
  refine LCode.block ?_
  refine KAL (α:=Nat×(Fin V.p×Fin V.p×Fin V.p)) (fun x=>x.1≤blen K∧RepT V x.2 (pmul V.A P (K/2^x.1))) (fun x=>⟨[(0,.pointer (some ⟨b,0,none⟩)),(4,.pointer (some ⟨b4,0,none⟩)),(5,.pointer (some ⟨b5,0,none⟩)),(6,.pointer (some ⟨b6,0,none⟩)),(7,.pointer (some ⟨b7,0,none⟩)),(8,.int .i64 (((x.1:Nat):Int)-1))],[.blk b7 ⟨true,pjFL x.2,91,(0,0)⟩,.blk b6 ⟨true,(vec .u64 9 (fun _=>0)++(vec .u64 9 (fun _=>0)++vec .u64 9 (fun _=>0))),91,(0,0)⟩,.blk b5 ⟨true,pjFL T,91,(0,0)⟩,.blk b4 ⟨true,natL K,25,(0,0)⟩,.blk b ⟨false,opL V f,147,(0,0)⟩,.blk f ⟨false,fldL V.p bd,194,(0,0)⟩,.blk bd ⟨false,dvL V.p,241,(0,0)⟩]⟩) (fun x=>x.1) ((blen K,tripF (.inf:Pt V.p))) (⟨Nat.le_refl _,by dsimp only; rw [pm_top]; exact RepT.trip hok trivial⟩) (KAC ⟨rfl,rfl,rfl,rfl,rfl,rfl,trivial⟩ (by repeat (first|exact Sel.nil _|refine Sel.cons (by repeat (first|exact Ph _|apply Pt_)) ?_))) ?_
  rintro x ⟨hx1,hx2⟩
  refine KD ?_
  refine KD ?_
  rcases Nat.eq_zero_or_pos x.1 with h0|h0
  ·
    refine KB ?_
    refine KA (KE rfl) (Nb rfl) ?_
    refine KA (KL (v:=.bool false) rfl rfl (by rw [h0]; rfl)) (Nb rfl) ?_
    refine KG ?_
    refine Ki rfl ?_
    refine KAG ?_
    refine KD ?_
    have eR:pmul V.A P (K/2^x.1) = pmul V.A P K:=by rw [h0,Nat.pow_zero,Nat.div_one]
    rw [eR] at hx2
    refine KB ?_
    refine LOps.det (KK rfl (by repeat (first|exact Mh _|apply Mt)) (by exact KN Try.underlying91 rfl sz_91)) (Nb rfl) ?_
    refine KI rfl (KP rfl rfl sz_91 (by exact Ky _ _ _) (by repeat (first|exact Sh _|apply St_)) (by exact Kf _ _ _) ?_)
    refine KG (KZ ?_)
    refine ⟨[_],.cons ⟨_,_,_,rfl,(by repeat (first|exact Mh _|apply Mt)),by exact KN Try.underlying91 rfl (by have:=sz_91; exact this)⟩ .nil,fun a w' hr=>⟨_,⟨x.2,hx2,rfl⟩,rfl,hr.fr.below⟩⟩
  ·
    obtain ⟨y,hy⟩:∃ y,x.1 = y+1:=⟨x.1-1,by omega⟩
    rw [hy] at hx2
    refine KB ?_
    refine KA (KE rfl) (Nb rfl) ?_
    refine KA (KL (v:=.bool true) rfl rfl (by rw [hy]; simp [KAX] <;> omega)) (Nb rfl) ?_
    refine KG ?_
    refine KAB rfl ?_
    refine Kd ?_
    refine KD ?_
    refine LCode.block ?_
    refine KD (KB ?_)
    refine KA (KE rfl) (Nb rfl) ?_
    refine LOps.det (KK rfl (by repeat (first|exact Mh _|apply Mt)) (by exact KN Try.underlying91 rfl sz_91)) (Nb rfl) ?_
    refine LOps.det (KK rfl (by repeat (first|exact Mh _|apply Mt)) (by exact KN Try.underlying91 rfl sz_91)) (Nb rfl) ?_
    refine KI rfl (KU (KR (first:=[]) rfl en_128 rfl (Nb rfl) (fun w hw=>c_SumT V b f bd hok (x.2) (x.2) w (hw _ (by repeat (first|exact Mh _|apply Mt))) (hw _ (by repeat (first|exact Mh _|apply Mt))) (hw _ (by repeat (first|exact Mh _|apply Mt)))) ?_))
    refine KI rfl (KP rfl rfl sz_91 (by exact Ky _ _ _) (by repeat (first|exact Sh _|apply St_)) (by exact Kf _ _ _) ?_)
    refine KG ?_
    refine KD (KB ?_)
    refine LOps.det (KK rfl (by repeat (first|exact Mh _|apply Mt)) (by exact KN Try.underlying25 rfl sz_25)) (Nb rfl) ?_
    refine KA (KE (v:=.int .i64 ((y:Nat):Int)) (by show some _ = some _; congr 2; omega)) (Nb rfl) ?_
    refine KI rfl (KU (KR (first:=[]) rfl en_139 rfl (Nb rfl) (fun w hw=>c_nat_Bit K y hK (by omega) w) ?_))
    refine KA (KL rfl rfl (br_eql (b:=1))) (Nb rfl) ?_
    refine KG ?_
    first|refine Kb rfl (fun hbit=>?_) (fun hbit=>?_)|refine Ke rfl (fun hbit=>?_) (fun hbit=>?_)
    ·
      have hbit:K/2^y%2 = 1:=hbit
      refine KB ?_
      refine KA (KE rfl) (Nb rfl) ?_
      refine LOps.det (KK rfl (by repeat (first|exact Mh _|apply Mt)) (by exact KN Try.underlying91 rfl sz_91)) (Nb rfl) ?_
      refine LOps.det (KK rfl (by repeat (first|exact Mh _|apply Mt)) (by exact KN Try.underlying91 rfl sz_91)) (Nb rfl) ?_
      refine KI rfl (KU (KR (first:=[]) rfl en_128 rfl (Nb rfl) (fun w hw=>c_SumT V b f bd hok (sumT V x.2 x.2) (T) w (hw _ (by repeat (first|exact Mh _|apply Mt))) (hw _ (by repeat (first|exact Mh _|apply Mt))) (hw _ (by repeat (first|exact Mh _|apply Mt)))) ?_))
      refine KI rfl (KP rfl rfl sz_91 (by exact Ky _ _ _) (by repeat (first|exact Sh _|apply St_)) (by exact Kf _ _ _) ?_)
      refine KG ?_
      refine KB ?_
      refine KA (KE (v:=.int .i64 ((y:Nat):Int)) (by show some _ = some _; congr 2; omega)) (Nb rfl) ?_
      refine KA (KL (v:=.int .i64 (((y:Nat):Int)-1)) rfl rfl (br_subI (by omega) (by omega))) (Nb rfl) ?_
      refine KA (KF rfl) (Nb rfl) ?_
      refine KG ?_
      exact ⟨(y,sumT V (sumT V x.2 x.2) T),⟨by dsimp only; omega,by have:=RepT.sum hok (RepT.sum hok hx2 hx2) hrep; rw [pm_T hok hrep.on hbit] at this; exact this⟩,by dsimp only; omega,KAC ⟨rfl,rfl,rfl,rfl,rfl,rfl,trivial⟩ (by repeat (first|exact Sel.nil _|refine Sel.cons (by repeat (first|exact Ph _|apply Pt_)) ?_))⟩
    ·
      have hbit:¬ K/2^y%2 = 1:=hbit
      refine Kd ?_
      refine KB ?_
      refine KA (KE (v:=.int .i64 ((y:Nat):Int)) (by show some _ = some _; congr 2; omega)) (Nb rfl) ?_
      refine KA (KL (v:=.int .i64 (((y:Nat):Int)-1)) rfl rfl (br_subI (by omega) (by omega))) (Nb rfl) ?_
      refine KA (KF rfl) (Nb rfl) ?_
      refine KG ?_
      exact ⟨(y,sumT V x.2 x.2),⟨by dsimp only; omega,by have:=RepT.sum hok hx2 hx2; rw [pm_F hok hrep.on hbit] at this; exact this⟩,by dsimp only; omega,KAC ⟨rfl,rfl,rfl,rfl,rfl,rfl,trivial⟩ (by repeat (first|exact Sel.nil _|refine Sel.cons (by repeat (first|exact Ph _|apply Pt_)) ?_))⟩
end Go.Proofs.Ytljblbgogjieaaa
set_option linter.unusedVariables false
set_option linter.unusedSimpArgs false
set_option maxRecDepth 20000
namespace Go.Proofs.Ytljblbgogjieaaa
open Go Go.RowKit
def uidx (x:Int):Nat:=(x%18446744073709551616).toNat
theorem uidx_eq (x:Int):Value.int .u64 (IntKind.u64.wrap x) = Value.int .u64 ((uidx x:Nat):Int):=by
  unfold uidx
  rw [wrap_u64,Int.toNat_of_nonneg (Int.emod_nonneg _ (by decide))]
theorem cvI_idx (x:Int):∃ V,cvI ((1+uidx x%15:Nat):Int) = some V:=by
  rw [cvI_nat]; exact cvOf_some (by omega) (by omega)
theorem cvI_id {id:Int} {V:Cv} (h:cvI id = some V):cvI ((V.id:Nat):Int) = some V:=by rw [(cvI_ok h).2]; exact h
end Go.Proofs.Ytljblbgogjieaaa
set_option linter.unusedVariables false
set_option linter.unusedSimpArgs false
set_option maxRecDepth 20000
namespace Go.Proofs.Ytljblbgogjieaaa
open Go Go.RowKit
open Grp
theorem Brings.own {w w':World} {H:List Item} {b:Nat} {cs:List Value} {e:TypeId} (hb:Below w.heap.size w w') (h:(Item.blk b ⟨true,cs,e,(0,0)⟩).holds w') (hn:w.heap.size≤b):Brings w H [.blk b ⟨true,cs,e,(0,0)⟩] w' :=
  ⟨hb,(by intro x hx; simp at hx; subst hx; exact h),(by intro x hx k hk; simp at hx; subst hx; simp [Item.fp] at hk; subst hk; exact .inl hn),(by intro x hx _ k hk; simp at hx; subst hx; simp [Item.fp] at hk; subst hk; exact hn),List.pairwise_singleton _ _⟩
end Go.Proofs.Ytljblbgogjieaaa
set_option linter.unusedVariables false
set_option linter.unusedSimpArgs false
set_option maxRecDepth 20000
namespace Go.Proofs.Ytljblbgogjieaaa
open Go Go.RowKit
open Grp
theorem xG {V:Cv} (hok:V.Ok):xv V.G = V.x:=val_c hok.bounds.2.2.2.2.1
theorem yG {V:Cv} (hok:V.Ok):yv V.G = V.y:=val_c hok.bounds.2.2.2.2.2.1
end Go.Proofs.Ytljblbgogjieaaa
set_option linter.unusedVariables false
set_option linter.unusedSimpArgs false
set_option maxRecDepth 20000
namespace Go.Proofs.Ytljblbgogjieaaa
open Go Go.RowKit
open Grp
theorem Det.indexArrN {P : Program} {C : Ctx} {st : St} {d : Option Tmp} {ty : TypeId} {pos : String} {aft : Array Edge} {g : Option (Nat × Bool)} {t : TypeId} {x y : Operand} {n s : Nat} {e : TypeId} {k : IntKind} {i : Nat} {b o : Nat} (ht : P.underlying t = some (.array n e)) (he : szOf P e = some s) (hx : evT st.T x = some (.pointer (some ⟨b, o, none⟩)))
    (hy:evT st.T y = some (.int k (i:Int))) (h1:i<n):Slots P C ⟨d,.indexAddr t x y,ty,pos,aft,g⟩ st (.pointer (some ⟨b,o+i*s,none⟩)):=by
  unfold Slots
  intro a w hr
  have hb:(0≤(i:Int)∧(i:Int)<(n:Int)):=⟨by omega,by omega⟩
  simp [execOp,hr _ _ hx,hr _ _ hy,Instr.indexAt,asIntOf,run_underlying ht,Instr.sureAddr,hb,run_sizeOf he,Addr.add,h1]
theorem g_val {V:Cv} (hok:V.Ok):Value.agg (ptL V.x V.y false).toArray = ptP V.G:=by
  unfold ptP ptV
  rw [xG hok,yG hok]
  rfl
theorem c_cOnB (V:Cv) (b f bd:Nat) (hok:V.Ok) (X Y:Nat) (i r:Bool) (w:World) (hb:(Item.blk b ⟨false,opL V f,147,(0,0)⟩).holds w) (hf:(Item.blk f ⟨false,fldL V.p bd,194,(0,0)⟩).holds w) (hbd:(Item.blk bd ⟨false,dvL V.p,241,(0,0)⟩).holds w) (hX:X<W9) (hY:Y<W9) (hr:onB V.p V.a V.b X Y i = r):Calls Try.prog 122 ([.pointer (some ⟨b,0,none⟩),ptV X Y i]:List Value).toArray w (fun e w'=>e = .returned (.bool r)∧Below w.heap.size w w'):=by
  have:=c_cOn V b f bd hok X Y i w hb hf hbd hX hY
  rwa [hr] at this
theorem c_cOnP (V:Cv) (b f bd:Nat) (hok:V.Ok) (P:Pt V.p) (w:World) (hb:(Item.blk b ⟨false,opL V f,147,(0,0)⟩).holds w) (hf:(Item.blk f ⟨false,fldL V.p bd,194,(0,0)⟩).holds w) (hbd:(Item.blk bd ⟨false,dvL V.p,241,(0,0)⟩).holds w) (hP:On V.A V.B P):Calls Try.prog 122 ([.pointer (some ⟨b,0,none⟩),ptP P]:List Value).toArray w (fun e w'=>e = .returned (.bool true)∧Below w.heap.size w w') :=
  c_cOnB V b f bd hok (xv P) (yv P) (iv P) true w hb hf hbd (pt_w9 hok P).1 (pt_w9 hok P).2 (onB_on hP)
def arr4 {p:Nat} (a b c d:Fin p×Fin p×Fin p):List Value:=pjFL a++(pjFL b++(pjFL c++pjFL d))
theorem KAc {p:Nat} (T:Fin p×Fin p×Fin p):(pjFL T).length = 27:=Kf _ _ _
theorem pjFL_one {p:Nat} (T:Fin p×Fin p×Fin p):AllOne (pjFL T):=Ky _ _ _
theorem arr4_length {p:Nat} (a b c d:Fin p×Fin p×Fin p):(arr4 a b c d).length = 108:=by simp [arr4,KAc]
theorem arr4_one {p:Nat} (a b c d:Fin p×Fin p×Fin p):AllOne (arr4 a b c d):=KW (pjFL_one _) (KW (pjFL_one _) (KW (pjFL_one _) (pjFL_one _)))
theorem fill_arr4 {p:Nat} (a b c d:Fin p×Fin p×Fin p):fillL ((List.range 4).map fun i=>(i*27,27)) (vec .u64 9 (fun _=>0)++(vec .u64 9 (fun _=>0)++(vec .u64 9 (fun _=>0)++(vec .u64 9 (fun _=>0)++(vec .u64 9 (fun _=>0)++(vec .u64 9 (fun _=>0)++(vec .u64 9 (fun _=>0)++(vec .u64 9 (fun _=>0)++(vec .u64 9 (fun _=>0)++(vec .u64 9 (fun _=>0)++(vec .u64 9 (fun _=>0)++(vec .u64 9 (fun _=>0))))))))))))) [(0,pjF a),(1,pjF b),(2,pjF c),(3,pjF d)] = some (arr4 a b c d):=by
  refine KAd (A:=[]) (B:=vec .u64 9 (fun _=>0)++(vec .u64 9 (fun _=>0)++(vec .u64 9 (fun _=>0)))) (D:=vec .u64 9 (fun _=>0)++(vec .u64 9 (fun _=>0)++(vec .u64 9 (fun _=>0)++(vec .u64 9 (fun _=>0)++(vec .u64 9 (fun _=>0)++(vec .u64 9 (fun _=>0)++(vec .u64 9 (fun _=>0)++(vec .u64 9 (fun _=>0)++(vec .u64 9 (fun _=>0)))))))))) (cs:=pjFL a) rfl rfl (KAc _) (by simp only [List.append_assoc,List.nil_append,List.append_nil]) rfl (by simp [KO]) ?_
  refine KAd (A:=pjFL a) (B:=vec .u64 9 (fun _=>0)++(vec .u64 9 (fun _=>0)++(vec .u64 9 (fun _=>0)))) (D:=vec .u64 9 (fun _=>0)++(vec .u64 9 (fun _=>0)++(vec .u64 9 (fun _=>0)++(vec .u64 9 (fun _=>0)++(vec .u64 9 (fun _=>0)++(vec .u64 9 (fun _=>0))))))) (cs:=pjFL b) rfl rfl (KAc _) (by simp only [List.append_assoc,List.nil_append,List.append_nil]) (KAc _) (by simp [KO]) ?_
  refine KAd (A:=pjFL a++pjFL b) (B:=vec .u64 9 (fun _=>0)++(vec .u64 9 (fun _=>0)++(vec .u64 9 (fun _=>0)))) (D:=vec .u64 9 (fun _=>0)++(vec .u64 9 (fun _=>0)++(vec .u64 9 (fun _=>0)))) (cs:=pjFL c) rfl rfl (KAc _) (by simp only [List.append_assoc,List.nil_append,List.append_nil]) (by simp [KAc]) (by simp [KO]) ?_
  refine (KAd (A:=pjFL a++(pjFL b++pjFL c)) (B:=vec .u64 9 (fun _=>0)++(vec .u64 9 (fun _=>0)++(vec .u64 9 (fun _=>0)))) (D:=[]) (cs:=pjFL d) rfl rfl (KAc _) (by simp only [List.append_assoc,List.nil_append,List.append_nil]) (by simp [KAc]) (by simp [KO]) rfl).trans ?_
  simp [arr4]
theorem arr4_1 {p:Nat} (a b c d:Fin p×Fin p×Fin p) (wr:Bool) (e:TypeId) (fz:Nat×Nat):LoadV Try.prog 91 ⟨wr,arr4 a b c d,e,fz⟩ 27 (pjF b):=LoadV.mid (pre:=pjFL a) (cs:=pjFL b) (post:=pjFL c++pjFL d) Try.underlying91 rfl sz_91 rfl (KAc _) (KAc _)
theorem arr4_2 {p:Nat} (a b c d:Fin p×Fin p×Fin p) (wr:Bool) (e:TypeId) (fz:Nat×Nat):LoadV Try.prog 91 ⟨wr,arr4 a b c d,e,fz⟩ 54 (pjF c):=LoadV.mid (pre:=pjFL a++pjFL b) (cs:=pjFL c) (post:=pjFL d) Try.underlying91 rfl sz_91 (by simp [arr4]) (by simp [KAc]) (KAc _)
theorem arr4_3 {p:Nat} (a b c d:Fin p×Fin p×Fin p) (wr:Bool) (e:TypeId) (fz:Nat×Nat):LoadV Try.prog 91 ⟨wr,arr4 a b c d,e,fz⟩ 81 (pjF d):=LoadV.last (pre:=pjFL a++(pjFL b++pjFL c)) (cs:=pjFL d) Try.underlying91 rfl sz_91 (by simp [arr4]) (by simp [KAc]) (KAc _)
noncomputable def dualP (V:Cv) (U W:Nat) (Q:Pt V.p):Pt V.p:=padd V.A (pmul V.A V.G U) (pmul V.A Q W)
theorem dual_step {V:Cv} (hok:V.Ok) {Q:Pt V.p} (hQ:On V.A V.B Q) {U W y bu bv:Nat} {T Tk:Fin V.p×Fin V.p×Fin V.p} (h1:U/2^y%2 = bu) (h2:W/2^y%2 = bv) (hT:RepT V T (dualP V (U/2^(y+1)) (W/2^(y+1)) Q)) (hk:RepT V Tk (dualP V bu bv Q)):RepT V (sumT V (sumT V T T) Tk) (dualP V (U/2^y) (W/2^y) Q):=by
  have:=RepT.sum hok (RepT.sum hok hT hT) hk
  subst h1 h2
  unfold dualP at *
  rwa [hok.dual_bit hok.on hQ] at this
theorem dual_zero {V:Cv} (hok:V.Ok) {Q:Pt V.p} (hQ:On V.A V.B Q) {U W y:Nat} {T:Fin V.p×Fin V.p×Fin V.p} (h1:U/2^y%2 = 0) (h2:W/2^y%2 = 0) (hT:RepT V T (dualP V (U/2^(y+1)) (W/2^(y+1)) Q)):RepT V (sumT V T T) (dualP V (U/2^y) (W/2^y) Q):=by
  have h:=RepT.sum hok hT hT
  have e:=hok.dual_bit hok.on hQ U W y
  rw [h1,h2,pmul_zero,pmul_zero,hok.add_inf (show On V.A V.B (.inf:Pt V.p) from trivial)] at e
  unfold dualP at *
  rw [hok.add_inf (hok.sum (hok.sum (hok.mul hok.on _) (hok.mul hQ _)) (hok.sum (hok.mul hok.on _) (hok.mul hQ _)))] at e
  rwa [e] at h
theorem dual_10 {V:Cv} (hok:V.Ok) {Q:Pt V.p} (hQ:On V.A V.B Q):RepT V (tripF V.G) (dualP V 1 0 Q):=by
  unfold dualP
  rw [pmul_one hok.fld hok.on,pmul_zero,hok.add_inf hok.on]
  exact RepT.trip hok hok.on
theorem dual_01 {V:Cv} (hok:V.Ok) {Q:Pt V.p} (hQ:On V.A V.B Q):RepT V (tripF Q) (dualP V 0 1 Q):=by
  unfold dualP
  rw [pmul_one hok.fld hQ,pmul_zero,hok.inf_add hQ]
  exact RepT.trip hok hQ
theorem dual_11 {V:Cv} (hok:V.Ok) {Q:Pt V.p} (hQ:On V.A V.B Q):RepT V (sumT V (tripF V.G) (tripF Q)) (dualP V 1 1 Q):=by
  unfold dualP
  rw [pmul_one hok.fld hQ,pmul_one hok.fld hok.on]
  exact RepT.sum hok (RepT.trip hok hok.on) (RepT.trip hok hQ)
theorem dual_top {V:Cv} (hok:V.Ok) {Q:Pt V.p} {U W:Nat} (hU:U<V.n) (hW:W<V.n):dualP V (U/2^blen V.n) (W/2^blen V.n) Q = .inf:=by
  have hn:=lt_blen V.n
  unfold dualP
  rw [Nat.div_eq_of_lt (Nat.lt_trans hU hn),Nat.div_eq_of_lt (Nat.lt_trans hW hn),pmul_zero,pmul_zero,hok.add_inf (show On V.A V.B (.inf:Pt V.p) from trivial)]
theorem c_dualTimes (V:Cv) (b f bd:Nat) (hok:V.Ok) (U W:Nat) (Q:Pt V.p) (hQ:On V.A V.B Q) (hU:U<V.n) (hW:W<V.n) (w:World) (hb:(Item.blk b ⟨false,opL V f,147,(0,0)⟩).holds w) (hf:(Item.blk f ⟨false,fldL V.p bd,194,(0,0)⟩).holds w) (hbd:(Item.blk bd ⟨false,dvL V.p,241,(0,0)⟩).holds w):Calls Try.prog 124 ([.pointer (some ⟨b,0,none⟩),natV U,natV W,ptP Q]:List Value).toArray w (fun e w'=>e = .returned (ptP (dualP V U W Q))∧Below w.heap.size w w'):=by
  have hbb:=hok.bounds
  have hnW:V.n<W9:=w9_521 hbb.2.2.2.2.2.2.1
  have hbl:=blen_w9 hnW
  have hU9:=Nat.lt_trans hU hnW
  have hW9:=Nat.lt_trans hW hnW
  refine KAE (N:=65) (rs:=[.cell 8 60]) [.blk b ⟨false,opL V f,147,(0,0)⟩,.blk f ⟨false,fldL V.p bd,194,(0,0)⟩,.blk bd ⟨false,dvL V.p,241,(0,0)⟩] Try.func124 rfl Try.ntmps124 Try.results124 (Nb rfl) ⟨hb,hf,hbd,trivial⟩ rfl ?_
  show LCode _ _ _ ⟨_,_⟩ _
  refine KD (KB ?_)
  refine KI rfl (KU (KQ (Kw rfl) (Nb rfl) (fun b5=>?_)))
  refine KI rfl (KU (KQ (Kw rfl) (Nb rfl) (fun b6=>?_)))
  refine KI rfl (KU (KQ (Kw rfl) (Nb rfl) (fun b7=>?_)))
  refine KI rfl (KU (KQ (Kh zr_60) (Nb rfl) (fun b8=>?_)))
  refine KG ?_
  refine KD ?_
  refine Ka [10,11] (by kernel_rfl) ?_
  refine KC 0 rfl (by kernel_rfl) (Nb rfl) (KE rfl) ?_
  refine KC 1 rfl (by kernel_rfl) (Nb rfl) (Kc rfl) ?_
  refine KC 2 rfl (by kernel_rfl) (Nb rfl) (KM (o':=0) Try.underlying147 rfl rfl rfl sz_62 (by decide)) ?_
  refine KC 3 rfl (by kernel_rfl) (Nb rfl) (KM (o':=37) Try.underlying62 rfl rfl rfl sz_60 (by decide)) ?_
  refine LAny.take 4 rfl (by kernel_rfl) (Nb rfl) (Det.cast (KK rfl (by repeat (first|exact Mh _|apply Mt)) (by exact cvC_ld_g _ _ _ _ _ _ _ _ _ _ _ _ _ _ _ _)) (g_val hok)) ?_
  refine LAny.takeW [7,10,11] 6 rfl (by kernel_rfl) (Nb rfl) (KK rfl (by repeat (first|exact Mh _|apply Mt)) (by exact KN Try.underlying60 rfl sz_60)) ?_
  refine KAk ?_
  refine KAP 8 rfl (.inl zr_91) (Nb rfl) rfl rfl rfl ?_
  refine KAP 9 rfl (.inl zr_91) (Nb rfl) rfl rfl rfl ?_
  refine Kq 5 rfl rfl rfl (Nb rfl) (by kernel_rfl) rfl (Kt (first:=[]) rfl en_129 rfl (fun w hw=>c_Triple V hok V.G w)) ?_
  rintro _ _ ⟨rfl,rfl⟩
  refine Kq 7 rfl rfl rfl (Nb rfl) (by kernel_rfl) rfl (Kt (first:=[]) rfl en_129 rfl (fun w hw=>c_Triple V hok Q w)) ?_
  rintro _ _ ⟨rfl,rfl⟩
  refine KAZ (by kernel_rfl) (fun b10=>?_)
  refine KAZ (by kernel_rfl) (fun b9=>?_)
  refine KAV ?_
  refine Km 10 rfl rfl (by kernel_rfl) (by kernel_rfl) (KP rfl rfl sz_91 (by exact pjFL_one _) (by repeat (first|exact Sh _|apply St_)) (by exact KAc _) ?_)
  refine Km 11 rfl rfl (by kernel_rfl) (by kernel_rfl) (KP rfl rfl sz_91 (by exact pjFL_one _) (by repeat (first|exact Sh _|apply St_)) (by exact KAc _) ?_)
  refine Kj (by kernel_rfl) ?_
  refine KD ?_
  refine Ka [9] (by kernel_rfl) ?_
  refine LAny.take 1 rfl (by kernel_rfl) (Nb rfl) (KK rfl (by repeat (first|exact Mh _|apply Mt)) (by exact KN Try.underlying91 rfl sz_91)) ?_
  refine LAny.take 2 rfl (by kernel_rfl) (Nb rfl) (KK rfl (by repeat (first|exact Mh _|apply Mt)) (by exact KN Try.underlying91 rfl sz_91)) ?_
  refine KC 3 rfl (by kernel_rfl) (Nb rfl) (KE rfl) ?_
  refine LAny.take 4 rfl (by kernel_rfl) (Nb rfl) (KK rfl (by repeat (first|exact Mh _|apply Mt)) (by exact KN Try.underlying91 rfl sz_91)) ?_
  refine LAny.take 5 rfl (by kernel_rfl) (Nb rfl) (KK rfl (by repeat (first|exact Mh _|apply Mt)) (by exact KN Try.underlying91 rfl sz_91)) ?_
  refine KAk ?_
  refine KAP 8 rfl (.inl zr_206) (Nb rfl) rfl rfl rfl ?_
  refine Kq 0 rfl rfl rfl (Nb rfl) (by kernel_rfl) rfl (Kt (first:=[]) rfl en_158 rfl (fun w hw=>c_NoneF hok w)) ?_
  rintro _ _ ⟨rfl,rfl⟩
  refine Kq 6 rfl rfl rfl (Nb rfl) (by kernel_rfl) rfl (Kt (first:=[]) rfl en_128 rfl (fun w hw=>c_SumT V b f bd hok (tripF V.G) (tripF Q) w (hw _ (by repeat (first|exact Mh _|apply Mt))) (hw _ (by repeat (first|exact Mh _|apply Mt))) (hw _ (by repeat (first|exact Mh _|apply Mt))))) ?_
  rintro _ _ ⟨rfl,rfl⟩
  refine KAA 7 rfl (by kernel_rfl) (Nb rfl) rfl (KV (KAU pl_206 zr_206 rfl (fill_arr4 _ _ _ _)) rfl) ?_
  refine KAZ (by kernel_rfl) (fun b11=>?_)
  refine KAV ?_
  refine Km 9 rfl rfl (by kernel_rfl) (by kernel_rfl) (KP rfl rfl sz_206 (by exact arr4_one _ _ _ _) (by repeat (first|exact Sh _|apply St_)) (by exact arr4_length _ _ _ _) ?_)
  refine Kj (by kernel_rfl) ?_
  refine KD (KB ?_)
  refine KI rfl (KU (KR (first:=[]) rfl en_158 rfl (Nb rfl) (fun w hw=>c_NoneF hok w) ?_))
  refine KI rfl (KU (KQ (Kh zr_91) (Nb rfl) (fun b12=>?_)))
  refine KI rfl (KP rfl rfl sz_91 (by exact pjFL_one _) (by repeat (first|exact Sh _|apply St_)) (by exact KAc _) ?_)
  refine KG ?_
  refine KD ?_
  refine KD (KB ?_)
  refine KA (KE rfl) (Nb rfl) ?_
  refine KA (Kc rfl) (Nb rfl) ?_
  refine KA (KM (o':=0) Try.underlying147 rfl rfl rfl sz_62 (by decide)) (Nb rfl) ?_
  refine KA (KM (o':=56) Try.underlying62 rfl rfl rfl sz_3 (by decide)) (Nb rfl) ?_
  refine LOps.det (KK rfl (by repeat (first|exact Mh _|apply Mt)) (KY Try.underlying3 rfl (by exact cvC_gt_bits _ _ _ _ _ _ _ _ _ _ _ _ _))) (Nb rfl) ?_
  refine KA (KL (v:=.int .i64 (((blen V.n:Nat):Int)-1)) rfl rfl (br_subI (by omega) (by omega))) (Nb rfl) ?_
  refine KA (KF rfl) (Nb rfl) ?_
  refine KG ?_
  refine LCode.block ?_
  refine KAL (α:=Nat×(Fin V.p×Fin V.p×Fin V.p)) (fun x=>x.1≤blen V.n∧RepT V x.2 (dualP V (U/2^x.1) (W/2^x.1) Q)) (fun x=>⟨[(0,.pointer (some ⟨b,0,none⟩)),(5,.pointer (some ⟨b5,0,none⟩)),(6,.pointer (some ⟨b6,0,none⟩)),(7,.pointer (some ⟨b7,0,none⟩)),(8,.pointer (some ⟨b8,0,none⟩)),(11,.pointer (some ⟨b11,0,none⟩)),(12,.pointer (some ⟨b12,0,none⟩)),(13,.int .i64 (((x.1:Nat):Int)-1))],[.blk b12 ⟨true,pjFL x.2,91,(0,0)⟩,.blk b11 ⟨true,arr4 (tripF (.inf:Pt V.p)) (tripF V.G) (tripF Q) (sumT V (tripF V.G) (tripF Q)),206,(0,0)⟩,.blk b8 ⟨true,(vec .u64 9 (fun _=>0)++(vec .u64 9 (fun _=>0)++[Value.bool false])),60,(0,0)⟩,.blk b7 ⟨true,ptL (xv Q) (yv Q) (iv Q),60,(0,0)⟩,.blk b6 ⟨true,natL W,25,(0,0)⟩,.blk b5 ⟨true,natL U,25,(0,0)⟩,.blk b ⟨false,opL V f,147,(0,0)⟩,.blk f ⟨false,fldL V.p bd,194,(0,0)⟩,.blk bd ⟨false,dvL V.p,241,(0,0)⟩]⟩) (fun x=>x.1) ((blen V.n,tripF (.inf:Pt V.p))) (⟨Nat.le_refl _,by dsimp only; rw [dual_top hok hU hW]; exact RepT.trip hok trivial⟩) (KAC ⟨rfl,rfl,rfl,rfl,rfl,rfl,rfl,rfl,trivial⟩ (by repeat (first|exact Sel.nil _|refine Sel.cons (by repeat (first|exact Ph _|apply Pt_)) ?_))) ?_
  rintro x ⟨hx1,hx2⟩
  refine KD ?_
  refine KD ?_
  rcases Nat.eq_zero_or_pos x.1 with h0|h0
  ·
    refine KB ?_
    refine KA (KE rfl) (Nb rfl) ?_
    refine KA (KL (v:=.bool false) rfl rfl (by rw [h0]; rfl)) (Nb rfl) ?_
    refine KG ?_
    refine Ki rfl ?_
    refine KAG ?_
    refine KD ?_
    have eR:dualP V (U/2^x.1) (W/2^x.1) Q = dualP V U W Q:=by rw [h0,Nat.pow_zero,Nat.div_one,Nat.div_one]
    rw [eR] at hx2
    refine KB ?_
    refine KA (KE rfl) (Nb rfl) ?_
    refine LOps.det (KK rfl (by repeat (first|exact Mh _|apply Mt)) (by exact KN Try.underlying91 rfl sz_91)) (Nb rfl) ?_
    refine KI rfl (KU (KR (first:=[]) rfl en_127 rfl (Nb rfl) (fun w hw=>c_PlainT V b f bd hok (x.2) (dualP V U W Q) w (hw _ (by repeat (first|exact Mh _|apply Mt))) (hw _ (by repeat (first|exact Mh _|apply Mt))) (hw _ (by repeat (first|exact Mh _|apply Mt))) (hx2)) ?_))
    refine KI rfl (KP rfl rfl sz_60 (by repeat (first|exact Kl _|exact Kz _ _ _|exact Kn _|exact Ko _ _ _|exact Ky _ _ _|exact KX|refine KT rfl ?_|refine KW ?_ ?_)) (by repeat (first|exact Sh _|apply St_)) (by first|exact KH _|exact KO _ _ _|exact KJ _|exact KS _ _ _|exact Kf _ _ _|rfl|simp [KO,KH,KJ]) ?_)
    refine KG (KZ ?_)
    refine ⟨[_],.cons ⟨_,_,_,rfl,(by repeat (first|exact Mh _|apply Mt)),by exact KN Try.underlying60 rfl sz_60⟩ .nil,fun a w' hr=>⟨?_,hr.fr.below⟩⟩
    rfl
  ·
    obtain ⟨y,hy⟩:∃ y,x.1 = y+1:=⟨x.1-1,by omega⟩
    rw [hy] at hx2
    refine KB ?_
    refine KA (KE rfl) (Nb rfl) ?_
    refine KA (KL (v:=.bool true) rfl rfl (by rw [hy]; simp [KAX] <;> omega)) (Nb rfl) ?_
    refine KG ?_
    refine KAB rfl ?_
    refine Kd ?_
    refine KD ?_
    refine LCode.block ?_
    refine KD (KB ?_)
    refine KA (KE rfl) (Nb rfl) ?_
    refine LOps.det (KK rfl (by repeat (first|exact Mh _|apply Mt)) (by exact KN Try.underlying91 rfl sz_91)) (Nb rfl) ?_
    refine LOps.det (KK rfl (by repeat (first|exact Mh _|apply Mt)) (by exact KN Try.underlying91 rfl sz_91)) (Nb rfl) ?_
    refine KI rfl (KU (KR (first:=[]) rfl en_128 rfl (Nb rfl) (fun w hw=>c_SumT V b f bd hok (x.2) (x.2) w (hw _ (by repeat (first|exact Mh _|apply Mt))) (hw _ (by repeat (first|exact Mh _|apply Mt))) (hw _ (by repeat (first|exact Mh _|apply Mt)))) ?_))
    refine KI rfl (KP rfl rfl sz_91 (by exact pjFL_one _) (by repeat (first|exact Sh _|apply St_)) (by exact KAc _) ?_)
    refine KG ?_
    refine KD ?_
    refine Ka [] (by kernel_rfl) ?_
    refine LAny.take 0 rfl (by kernel_rfl) (Nb rfl) (KK rfl (by repeat (first|exact Mh _|apply Mt)) (by exact KN Try.underlying25 rfl sz_25)) ?_
    refine KC 1 rfl (by kernel_rfl) (Nb rfl) (KE (v:=.int .i64 ((y:Nat):Int)) (by show some _ = some _; congr 2; omega)) ?_
    refine LAny.take 3 rfl (by kernel_rfl) (Nb rfl) (KK rfl (by repeat (first|exact Mh _|apply Mt)) (by exact KN Try.underlying25 rfl sz_25)) ?_
    refine KC 4 rfl (by kernel_rfl) (Nb rfl) (KE (v:=.int .i64 ((y:Nat):Int)) (by show some _ = some _; congr 2; omega)) ?_
    refine Kr 2 rfl rfl (by kernel_rfl) (KR (first:=[]) rfl en_139 rfl (Nb rfl) (fun w hw=>c_nat_Bit U y hU9 (by omega) w) ?_)
    refine Kr 5 rfl rfl (by kernel_rfl) (KR (first:=[]) rfl en_139 rfl (Nb rfl) (fun w hw=>c_nat_Bit W y hW9 (by omega) w) ?_)
    refine KC 6 rfl (by kernel_rfl) (Nb rfl) (KL rfl rfl (br_mul (a:=2) (by omega))) ?_
    refine KC 7 rfl (by kernel_rfl) (Nb rfl) (KL rfl rfl (KAN (by omega))) ?_
    refine KC 8 rfl (by kernel_rfl) (Nb rfl) (KF rfl) ?_
    refine Kj (by kernel_rfl) ?_
    refine KD ?_
    rcases (show (U/2^y%2 = 0∧W/2^y%2 = 0)∨(U/2^y%2 = 1∧W/2^y%2 = 0)∨(U/2^y%2 = 0∧W/2^y%2 = 1)∨(U/2^y%2 = 1∧W/2^y%2 = 1) by omega) with ⟨k1,k2⟩|⟨k1,k2⟩|⟨k1,k2⟩|⟨k1,k2⟩
    ·
      refine KB ?_
      refine KA (KE (v:=.int .i64 ((0:Nat):Int)) (by show some _ = some _; congr 2; omega)) (Nb rfl) ?_
      refine KA (KL (v:=.bool false) rfl rfl (br_f (br_gtr (b:=0)) (by decide))) (Nb rfl) ?_
      refine KG ?_
      refine Ki rfl ?_
      refine Kd ?_
      refine KB ?_
      refine KA (KE (v:=.int .i64 ((y:Nat):Int)) (by show some _ = some _; congr 2; omega)) (Nb rfl) ?_
      refine KA (KL (v:=.int .i64 (((y:Nat):Int)-1)) rfl rfl (br_subI (by omega) (by omega))) (Nb rfl) ?_
      refine KA (KF rfl) (Nb rfl) ?_
      refine KG ?_
      exact ⟨(y,sumT V x.2 x.2),⟨by dsimp only; omega,dual_zero hok hQ k1 k2 hx2⟩,by dsimp only; omega,KAC ⟨rfl,rfl,rfl,rfl,rfl,rfl,rfl,rfl,trivial⟩ (by repeat (first|exact Sel.nil _|refine Sel.cons (by repeat (first|exact Ph _|apply Pt_)) ?_))⟩
    ·
      refine KB ?_
      refine KA (KE (v:=.int .i64 ((1:Nat):Int)) (by show some _ = some _; congr 2; omega)) (Nb rfl) ?_
      refine KA (KL (v:=.bool true) rfl rfl (br_t (br_gtr (b:=0)) (by decide))) (Nb rfl) ?_
      refine KG ?_
      refine KAB rfl ?_
      refine Ka [6] (by kernel_rfl) ?_
      refine KC 0 rfl (by kernel_rfl) (Nb rfl) (KE rfl) ?_
      refine LAny.take 1 rfl (by kernel_rfl) (Nb rfl) (KK rfl (by repeat (first|exact Mh _|apply Mt)) (by exact KN Try.underlying91 rfl sz_91)) ?_
      refine KC 2 rfl (by kernel_rfl) (Nb rfl) (KE (v:=.int .i64 ((1:Nat):Int)) (by show some _ = some _; congr 2; omega)) ?_
      refine KC 3 rfl (by kernel_rfl) (Nb rfl) (Det.indexArrN Try.underlying206 sz_91 rfl rfl (by decide)) ?_
      refine LAny.take 4 rfl (by kernel_rfl) (Nb rfl) (KK rfl (by repeat (first|exact Mh _|apply Mt)) (by exact arr4_1 _ _ _ _ _ _ _)) ?_
      refine Kr 5 rfl rfl (by kernel_rfl) (KR (first:=[]) rfl en_128 rfl (Nb rfl) (fun w hw=>c_SumT V b f bd hok (sumT V x.2 x.2) (tripF V.G) w (hw _ (by repeat (first|exact Mh _|apply Mt))) (hw _ (by repeat (first|exact Mh _|apply Mt))) (hw _ (by repeat (first|exact Mh _|apply Mt)))) ?_)
      refine Km 6 rfl rfl (by kernel_rfl) (by kernel_rfl) (KP rfl rfl sz_91 (by exact pjFL_one _) (by repeat (first|exact Sh _|apply St_)) (by exact KAc _) ?_)
      refine Kj (by kernel_rfl) ?_
      refine KB ?_
      refine KA (KE (v:=.int .i64 ((y:Nat):Int)) (by show some _ = some _; congr 2; omega)) (Nb rfl) ?_
      refine KA (KL (v:=.int .i64 (((y:Nat):Int)-1)) rfl rfl (br_subI (by omega) (by omega))) (Nb rfl) ?_
      refine KA (KF rfl) (Nb rfl) ?_
      refine KG ?_
      exact ⟨(y,sumT V (sumT V x.2 x.2) (tripF V.G)),⟨by dsimp only; omega,dual_step hok hQ k1 k2 hx2 (dual_10 hok hQ)⟩,by dsimp only; omega,KAC ⟨rfl,rfl,rfl,rfl,rfl,rfl,rfl,rfl,trivial⟩ (by repeat (first|exact Sel.nil _|refine Sel.cons (by repeat (first|exact Ph _|apply Pt_)) ?_))⟩
    ·
      refine KB ?_
      refine KA (KE (v:=.int .i64 ((2:Nat):Int)) (by show some _ = some _; congr 2; omega)) (Nb rfl) ?_
      refine KA (KL (v:=.bool true) rfl rfl (br_t (br_gtr (b:=0)) (by decide))) (Nb rfl) ?_
      refine KG ?_
      refine KAB rfl ?_
      refine Ka [6] (by kernel_rfl) ?_
      refine KC 0 rfl (by kernel_rfl) (Nb rfl) (KE rfl) ?_
      refine LAny.take 1 rfl (by kernel_rfl) (Nb rfl) (KK rfl (by repeat (first|exact Mh _|apply Mt)) (by exact KN Try.underlying91 rfl sz_91)) ?_
      refine KC 2 rfl (by kernel_rfl) (Nb rfl) (KE (v:=.int .i64 ((2:Nat):Int)) (by show some _ = some _; congr 2; omega)) ?_
      refine KC 3 rfl (by kernel_rfl) (Nb rfl) (Det.indexArrN Try.underlying206 sz_91 rfl rfl (by decide)) ?_
      refine LAny.take 4 rfl (by kernel_rfl) (Nb rfl) (KK rfl (by repeat (first|exact Mh _|apply Mt)) (by exact arr4_2 _ _ _ _ _ _ _)) ?_
      refine Kr 5 rfl rfl (by kernel_rfl) (KR (first:=[]) rfl en_128 rfl (Nb rfl) (fun w hw=>c_SumT V b f bd hok (sumT V x.2 x.2) (tripF Q) w (hw _ (by repeat (first|exact Mh _|apply Mt))) (hw _ (by repeat (first|exact Mh _|apply Mt))) (hw _ (by repeat (first|exact Mh _|apply Mt)))) ?_)
      refine Km 6 rfl rfl (by kernel_rfl) (by kernel_rfl) (KP rfl rfl sz_91 (by exact pjFL_one _) (by repeat (first|exact Sh _|apply St_)) (by exact KAc _) ?_)
      refine Kj (by kernel_rfl) ?_
      refine KB ?_
      refine KA (KE (v:=.int .i64 ((y:Nat):Int)) (by show some _ = some _; congr 2; omega)) (Nb rfl) ?_
      refine KA (KL (v:=.int .i64 (((y:Nat):Int)-1)) rfl rfl (br_subI (by omega) (by omega))) (Nb rfl) ?_
      refine KA (KF rfl) (Nb rfl) ?_
      refine KG ?_
      exact ⟨(y,sumT V (sumT V x.2 x.2) (tripF Q)),⟨by dsimp only; omega,dual_step hok hQ k1 k2 hx2 (dual_01 hok hQ)⟩,by dsimp only; omega,KAC ⟨rfl,rfl,rfl,rfl,rfl,rfl,rfl,rfl,trivial⟩ (by repeat (first|exact Sel.nil _|refine Sel.cons (by repeat (first|exact Ph _|apply Pt_)) ?_))⟩
    ·
      refine KB ?_
      refine KA (KE (v:=.int .i64 ((3:Nat):Int)) (by show some _ = some _; congr 2; omega)) (Nb rfl) ?_
      refine KA (KL (v:=.bool true) rfl rfl (br_t (br_gtr (b:=0)) (by decide))) (Nb rfl) ?_
      refine KG ?_
      refine KAB rfl ?_
      refine Ka [6] (by kernel_rfl) ?_
      refine KC 0 rfl (by kernel_rfl) (Nb rfl) (KE rfl) ?_
      refine LAny.take 1 rfl (by kernel_rfl) (Nb rfl) (KK rfl (by repeat (first|exact Mh _|apply Mt)) (by exact KN Try.underlying91 rfl sz_91)) ?_
      refine KC 2 rfl (by kernel_rfl) (Nb rfl) (KE (v:=.int .i64 ((3:Nat):Int)) (by show some _ = some _; congr 2; omega)) ?_
      refine KC 3 rfl (by kernel_rfl) (Nb rfl) (Det.indexArrN Try.underlying206 sz_91 rfl rfl (by decide)) ?_
      refine LAny.take 4 rfl (by kernel_rfl) (Nb rfl) (KK rfl (by repeat (first|exact Mh _|apply Mt)) (by exact arr4_3 _ _ _ _ _ _ _)) ?_
      refine Kr 5 rfl rfl (by kernel_rfl) (KR (first:=[]) rfl en_128 rfl (Nb rfl) (fun w hw=>c_SumT V b f bd hok (sumT V x.2 x.2) (sumT V (tripF V.G) (tripF Q)) w (hw _ (by repeat (first|exact Mh _|apply Mt))) (hw _ (by repeat (first|exact Mh _|apply Mt))) (hw _ (by repeat (first|exact Mh _|apply Mt)))) ?_)
      refine Km 6 rfl rfl (by kernel_rfl) (by kernel_rfl) (KP rfl rfl sz_91 (by exact pjFL_one _) (by repeat (first|exact Sh _|apply St_)) (by exact KAc _) ?_)
      refine Kj (by kernel_rfl) ?_
      refine KB ?_
      refine KA (KE (v:=.int .i64 ((y:Nat):Int)) (by show some _ = some _; congr 2; omega)) (Nb rfl) ?_
      refine KA (KL (v:=.int .i64 (((y:Nat):Int)-1)) rfl rfl (br_subI (by omega) (by omega))) (Nb rfl) ?_
      refine KA (KF rfl) (Nb rfl) ?_
      refine KG ?_
      exact ⟨(y,sumT V (sumT V x.2 x.2) (sumT V (tripF V.G) (tripF Q))),⟨by dsimp only; omega,dual_step hok hQ k1 k2 hx2 (dual_11 hok hQ)⟩,by dsimp only; omega,KAC ⟨rfl,rfl,rfl,rfl,rfl,rfl,rfl,rfl,trivial⟩ (by repeat (first|exact Sel.nil _|refine Sel.cons (by repeat (first|exact Ph _|apply Pt_)) ?_))⟩
theorem c_dualMul_none (id:Int) (U W X Y:Nat) (i:Bool) (w:World) (h:cvI id = none):Calls Try.prog 77 ([.int .i64 id,natV U,natV W,ptV X Y i]:List Value).toArray w (fun e w'=>e = .returned (.tuple #[ptV 0 0 false,.int .i64 ((2000:Nat):Int)])∧Below w.heap.size w w'):=by
  refine KAE (N:=48) (rs:=[.cell 8 60,.tmp 9]) [] Try.func77 rfl Try.ntmps77 Try.results77 (Nb rfl) trivial rfl ?_
  show LCode _ _ _ ⟨_,_⟩ _
  refine KD (KB ?_)
  refine KI rfl (KU (KQ (Kw rfl) (Nb rfl) (fun b5=>?_)))
  refine KI rfl (KU (KQ (Kw rfl) (Nb rfl) (fun b6=>?_)))
  refine KI rfl (KU (KQ (Kw rfl) (Nb rfl) (fun b7=>?_)))
  refine KI rfl (KU (KQ (Kh zr_60) (Nb rfl) (fun b8=>?_)))
  refine KA (KF (v:=.int .i64 ((0:Nat):Int)) rfl) (Nb rfl) ?_
  refine KG ?_
  refine KD (KB ?_)
  refine KA (KE rfl) (Nb rfl) ?_
  refine KI rfl (KU (KR (first:=[]) rfl en_112 rfl (Nb rfl) (fun w hw=>c_Open_none id w h) ?_))
  refine KA (KF rfl) (Nb rfl) ?_
  refine KG ?_
  refine KD ?_
  refine LCode.block ?_
  refine KD (KB ?_)
  refine KA (KE rfl) (Nb rfl) ?_
  refine KA (KV (Det.eqp Try.underlying142 rfl rfl) (show _ = Value.bool true from rfl)) (Nb rfl) ?_
  refine KA (KF rfl) (Nb rfl) ?_
  refine KG ?_
  refine KAB rfl ?_
  refine KD (KB ?_)
  refine KA (KV (KAU pl_60 zr_60 rfl rfl) (show _ = ptV 0 0 false from pt_zero)) (Nb rfl) ?_
  refine KI rfl (KP rfl rfl sz_60 (by repeat (first|exact Kl _|exact Kz _ _ _|exact Kn _|exact Ko _ _ _|exact Ky _ _ _|exact KX|refine KT rfl ?_|refine KW ?_ ?_)) (by repeat (first|exact Sh _|apply St_)) (by first|exact KH _|exact KO _ _ _|exact KJ _|exact KS _ _ _|exact Kf _ _ _|rfl|simp [KO,KH,KJ]) ?_)
  refine KA (KF (v:=.int .i64 ((2000:Nat):Int)) rfl) (Nb rfl) ?_
  refine KG (KZ ?_)
  refine ⟨[_,_],.cons ⟨_,_,_,rfl,(by repeat (first|exact Mh _|apply Mt)),by exact KN Try.underlying60 rfl sz_60⟩ (.cons rfl .nil),fun a w' hr=>⟨?_,hr.fr.below⟩⟩
  rfl
theorem c_dualMul_range (id:Int) (V:Cv) (U W:Nat) (Q:Pt V.p) (w:World) (h:cvI id = some V) (hQ:On V.A V.B Q) (hU9:U<W9) (hW9:W<W9) (hr:V.n≤U∨V.n≤W):Calls Try.prog 77 ([.int .i64 id,natV U,natV W,ptP Q]:List Value).toArray w (fun e w'=>e = .returned (.tuple #[ptV 0 0 false,.int .i64 ((2002:Nat):Int)])∧Below w.heap.size w w'):=by
  obtain ⟨hok,hid⟩:=cvI_ok h
  have hbb:=hok.bounds
  have hpW:V.p<W9:=w9_521 hbb.2.1
  have hnW:V.n<W9:=w9_521 hbb.2.2.2.2.2.2.1
  have hbl:=blen_w9 hnW
  have hnb:nby V.n≤72:=by (unfold nby; omega)
  refine KAE (N:=48) (rs:=[.cell 8 60,.tmp 9]) [] Try.func77 rfl Try.ntmps77 Try.results77 (Nb rfl) trivial rfl ?_
  show LCode _ _ _ ⟨_,_⟩ _
  refine KD (KB ?_)
  refine KI rfl (KU (KQ (Kw rfl) (Nb rfl) (fun b5=>?_)))
  refine KI rfl (KU (KQ (Kw rfl) (Nb rfl) (fun b6=>?_)))
  refine KI rfl (KU (KQ (Kw rfl) (Nb rfl) (fun b7=>?_)))
  refine KI rfl (KU (KQ (Kh zr_60) (Nb rfl) (fun b8=>?_)))
  refine KA (KF (v:=.int .i64 ((0:Nat):Int)) rfl) (Nb rfl) ?_
  refine KG ?_
  refine KD (KB ?_)
  refine KA (KE rfl) (Nb rfl) ?_
  refine KI rfl (KU (Kx (Post:=fun v its=>∃ b f bd,v = .pointer (some ⟨b,0,none⟩)∧its = [.blk b ⟨false,opL V f,147,(0,0)⟩,.blk f ⟨false,fldL V.p bd,194,(0,0)⟩,.blk bd ⟨false,dvL V.p,241,(0,0)⟩]) (first:=[]) rfl en_112 rfl (Nb rfl) (fun w1 hw hs=>(c_Open _ V w1 h).mono fun e w' ⟨b,f,bd,h1,h2,h3,h4,h5,h6,h7,h8⟩=>⟨_,_,⟨b,f,bd,rfl,rfl⟩,h1,Brings.nums h8 (by intro x hx; simp at hx; rcases hx with rfl|rfl|rfl; exact h2; exact h3; exact h4) (by intro x hx; simp at hx; rcases hx with rfl|rfl|rfl <;> rfl) (by intro x hx k hk; simp at hx; rcases hx with rfl|rfl|rfl <;> simp [Item.fp] at hk <;> subst hk; exact .inl h5; exact .inl h6; exact .inl h7)⟩) ?_))
  rintro _ _ ⟨b,f,bd,rfl,rfl⟩
  refine KA (KF rfl) (Nb rfl) ?_
  refine KG ?_
  refine KD ?_
  refine LCode.block ?_
  refine KD (KB ?_)
  refine KA (KE rfl) (Nb rfl) ?_
  refine KA (KV (Det.eqp Try.underlying142 rfl rfl) (show _ = Value.bool false from rfl)) (Nb rfl) ?_
  refine KA (KF rfl) (Nb rfl) ?_
  refine KG ?_
  refine Ki rfl ?_
  refine KD (KB ?_)
  refine KA (KE rfl) (Nb rfl) ?_
  refine LOps.det (KK rfl (by repeat (first|exact Mh _|apply Mt)) (by exact KN Try.underlying60 rfl sz_60)) (Nb rfl) ?_
  refine KI rfl (KU (KR (first:=[]) rfl en_122 rfl (Nb rfl) (fun w hw=>c_cOnP V b f bd hok (Q) w (hw _ (by repeat (first|exact Mh _|apply Mt))) (hw _ (by repeat (first|exact Mh _|apply Mt))) (hw _ (by repeat (first|exact Mh _|apply Mt))) hQ) ?_))
  refine KA (KV (Det.not rfl) (show _ = Value.bool false from rfl)) (Nb rfl) ?_
  refine KA (KF rfl) (Nb rfl) ?_
  refine KG ?_
  refine Ki rfl ?_
  refine KD ?_
  rcases (show V.n≤U∨(U<V.n∧V.n≤W) by omega) with h1|⟨h1,h2⟩
  ·
    refine Ka [] (by kernel_rfl) ?_
    refine LAny.take 0 rfl (by kernel_rfl) (Nb rfl) (KK rfl (by repeat (first|exact Mh _|apply Mt)) (by exact KN Try.underlying25 rfl sz_25)) ?_
    refine KC 1 rfl (by kernel_rfl) (Nb rfl) (KE rfl) ?_
    refine KC 2 rfl (by kernel_rfl) (Nb rfl) (Kc rfl) ?_
    refine KC 3 rfl (by kernel_rfl) (Nb rfl) (KM (o':=0) Try.underlying147 rfl rfl rfl sz_62 (by decide)) ?_
    refine KC 4 rfl (by kernel_rfl) (Nb rfl) (KM (o':=28) Try.underlying62 rfl rfl rfl sz_25 (by decide)) ?_
    refine LAny.take 5 rfl (by kernel_rfl) (Nb rfl) (KK rfl (by repeat (first|exact Mh _|apply Mt)) (by exact cvC_ld_n _ _ _ _ _ _ _ _ _ _ _ _ _ _ _ _)) ?_
    refine Kr 6 rfl rfl (by kernel_rfl) (KR (first:=[]) rfl en_113 rfl (Nb rfl) (fun w hw=>c_nat_Cmp U V.n hU9 hnW w) ?_)
    refine KC 7 rfl (by kernel_rfl) (Nb rfl) (KL (v:=.bool true) rfl rfl (br_t cmp_geq (h1))) ?_
    refine KC 8 rfl (by kernel_rfl) (Nb rfl) (KE rfl) ?_
    refine KAI 9 rfl rfl rfl rfl (by kernel_rfl) (Nb rfl) ?_
    refine KAI 10 rfl rfl rfl rfl (by kernel_rfl) (Nb rfl) ?_
    refine KAI 11 rfl rfl rfl rfl (by kernel_rfl) (Nb rfl) ?_
    refine KAI 12 rfl rfl rfl rfl (by kernel_rfl) (Nb rfl) ?_
    refine KAI 13 rfl rfl rfl rfl (by kernel_rfl) (Nb rfl) ?_
    refine KAI 14 rfl rfl rfl rfl (by kernel_rfl) (Nb rfl) ?_
    refine KAI 15 rfl rfl rfl rfl (by kernel_rfl) (Nb rfl) ?_
    refine KAI 16 rfl rfl rfl rfl (by kernel_rfl) (Nb rfl) ?_
    refine KC 17 rfl (by kernel_rfl) (Nb rfl) (KAQ rfl rfl) ?_
    refine KC 18 rfl (by kernel_rfl) (Nb rfl) (KF rfl) ?_
    refine Kj (by kernel_rfl) ?_
    refine KAB rfl ?_
    refine KD (KB ?_)
    refine KA (KV (KAU pl_60 zr_60 rfl rfl) (show _ = ptV 0 0 false from pt_zero)) (Nb rfl) ?_
    refine KI rfl (KP rfl rfl sz_60 (by repeat (first|exact Kl _|exact Kz _ _ _|exact Kn _|exact Ko _ _ _|exact Ky _ _ _|exact KX|refine KT rfl ?_|refine KW ?_ ?_)) (by repeat (first|exact Sh _|apply St_)) (by first|exact KH _|exact KO _ _ _|exact KJ _|exact KS _ _ _|exact Kf _ _ _|rfl|simp [KO,KH,KJ]) ?_)
    refine KA (KF (v:=.int .i64 ((2002:Nat):Int)) rfl) (Nb rfl) ?_
    refine KG (KZ ?_)
    refine ⟨[_,_],.cons ⟨_,_,_,rfl,(by repeat (first|exact Mh _|apply Mt)),by exact KN Try.underlying60 rfl sz_60⟩ (.cons rfl .nil),fun a w' hr=>⟨?_,hr.fr.below⟩⟩
    rfl
  ·
    refine Ka [] (by kernel_rfl) ?_
    refine LAny.take 0 rfl (by kernel_rfl) (Nb rfl) (KK rfl (by repeat (first|exact Mh _|apply Mt)) (by exact KN Try.underlying25 rfl sz_25)) ?_
    refine KC 1 rfl (by kernel_rfl) (Nb rfl) (KE rfl) ?_
    refine KC 2 rfl (by kernel_rfl) (Nb rfl) (Kc rfl) ?_
    refine KC 3 rfl (by kernel_rfl) (Nb rfl) (KM (o':=0) Try.underlying147 rfl rfl rfl sz_62 (by decide)) ?_
    refine KC 4 rfl (by kernel_rfl) (Nb rfl) (KM (o':=28) Try.underlying62 rfl rfl rfl sz_25 (by decide)) ?_
    refine LAny.take 5 rfl (by kernel_rfl) (Nb rfl) (KK rfl (by repeat (first|exact Mh _|apply Mt)) (by exact cvC_ld_n _ _ _ _ _ _ _ _ _ _ _ _ _ _ _ _)) ?_
    refine Kr 6 rfl rfl (by kernel_rfl) (KR (first:=[]) rfl en_113 rfl (Nb rfl) (fun w hw=>c_nat_Cmp U V.n hU9 hnW w) ?_)
    refine KC 7 rfl (by kernel_rfl) (Nb rfl) (KL (v:=.bool false) rfl rfl (br_f cmp_geq (Nat.not_le_of_gt h1))) ?_
    refine KC 8 rfl (by kernel_rfl) (Nb rfl) (KE rfl) ?_
    refine KAm 9 rfl rfl rfl (by kernel_rfl) (Nb rfl) (KK rfl (by repeat (first|exact Mh _|apply Mt)) (by exact KN Try.underlying25 rfl sz_25)) ?_
    refine KAF 10 rfl rfl rfl (by kernel_rfl) (Nb rfl) (KE rfl) ?_
    refine KAF 11 rfl rfl rfl (by kernel_rfl) (Nb rfl) (Kc rfl) ?_
    refine KAF 12 rfl rfl rfl (by kernel_rfl) (Nb rfl) (KM (o':=0) Try.underlying147 rfl rfl rfl sz_62 (by decide)) ?_
    refine KAF 13 rfl rfl rfl (by kernel_rfl) (Nb rfl) (KM (o':=28) Try.underlying62 rfl rfl rfl sz_25 (by decide)) ?_
    refine KAm 14 rfl rfl rfl (by kernel_rfl) (Nb rfl) (KK rfl (by repeat (first|exact Mh _|apply Mt)) (by exact cvC_ld_n _ _ _ _ _ _ _ _ _ _ _ _ _ _ _ _)) ?_
    refine LAny.oneG 15 rfl rfl rfl rfl (by kernel_rfl) (KR (first:=[]) rfl en_113 rfl (Nb rfl) (fun w hw=>c_nat_Cmp W V.n hW9 hnW w) ?_)
    refine KAF 16 rfl rfl rfl (by kernel_rfl) (Nb rfl) (KL (v:=.bool true) rfl rfl (br_t cmp_geq (h2))) ?_
    refine KC 17 rfl (by kernel_rfl) (Nb rfl) (KAO rfl rfl) ?_
    refine KC 18 rfl (by kernel_rfl) (Nb rfl) (KF rfl) ?_
    refine Kj (by kernel_rfl) ?_
    refine KAB rfl ?_
    refine KD (KB ?_)
    refine KA (KV (KAU pl_60 zr_60 rfl rfl) (show _ = ptV 0 0 false from pt_zero)) (Nb rfl) ?_
    refine KI rfl (KP rfl rfl sz_60 (by repeat (first|exact Kl _|exact Kz _ _ _|exact Kn _|exact Ko _ _ _|exact Ky _ _ _|exact KX|refine KT rfl ?_|refine KW ?_ ?_)) (by repeat (first|exact Sh _|apply St_)) (by first|exact KH _|exact KO _ _ _|exact KJ _|exact KS _ _ _|exact Kf _ _ _|rfl|simp [KO,KH,KJ]) ?_)
    refine KA (KF (v:=.int .i64 ((2002:Nat):Int)) rfl) (Nb rfl) ?_
    refine KG (KZ ?_)
    refine ⟨[_,_],.cons ⟨_,_,_,rfl,(by repeat (first|exact Mh _|apply Mt)),by exact KN Try.underlying60 rfl sz_60⟩ (.cons rfl .nil),fun a w' hr=>⟨?_,hr.fr.below⟩⟩
    rfl
theorem c_dualMul (id:Int) (V:Cv) (U W:Nat) (Q:Pt V.p) (w:World) (h:cvI id = some V) (hQ:On V.A V.B Q) (hU:U<V.n) (hW:W<V.n):Calls Try.prog 77 ([.int .i64 id,natV U,natV W,ptP Q]:List Value).toArray w (fun e w'=>e = .returned (.tuple #[ptP (dualP V U W Q),.int .i64 ((0:Nat):Int)])∧Below w.heap.size w w'):=by
  obtain ⟨hok,hid⟩:=cvI_ok h
  have hbb:=hok.bounds
  have hpW:V.p<W9:=w9_521 hbb.2.1
  have hnW:V.n<W9:=w9_521 hbb.2.2.2.2.2.2.1
  have hbl:=blen_w9 hnW
  have hnb:nby V.n≤72:=by (unfold nby; omega)
  have hU9:=Nat.lt_trans hU hnW
  have hW9:=Nat.lt_trans hW hnW
  refine KAE (N:=48) (rs:=[.cell 8 60,.tmp 9]) [] Try.func77 rfl Try.ntmps77 Try.results77 (Nb rfl) trivial rfl ?_
  show LCode _ _ _ ⟨_,_⟩ _
  refine KD (KB ?_)
  refine KI rfl (KU (KQ (Kw rfl) (Nb rfl) (fun b5=>?_)))
  refine KI rfl (KU (KQ (Kw rfl) (Nb rfl) (fun b6=>?_)))
  refine KI rfl (KU (KQ (Kw rfl) (Nb rfl) (fun b7=>?_)))
  refine KI rfl (KU (KQ (Kh zr_60) (Nb rfl) (fun b8=>?_)))
  refine KA (KF (v:=.int .i64 ((0:Nat):Int)) rfl) (Nb rfl) ?_
  refine KG ?_
  refine KD (KB ?_)
  refine KA (KE rfl) (Nb rfl) ?_
  refine KI rfl (KU (Kx (Post:=fun v its=>∃ b f bd,v = .pointer (some ⟨b,0,none⟩)∧its = [.blk b ⟨false,opL V f,147,(0,0)⟩,.blk f ⟨false,fldL V.p bd,194,(0,0)⟩,.blk bd ⟨false,dvL V.p,241,(0,0)⟩]) (first:=[]) rfl en_112 rfl (Nb rfl) (fun w1 hw hs=>(c_Open _ V w1 h).mono fun e w' ⟨b,f,bd,h1,h2,h3,h4,h5,h6,h7,h8⟩=>⟨_,_,⟨b,f,bd,rfl,rfl⟩,h1,Brings.nums h8 (by intro x hx; simp at hx; rcases hx with rfl|rfl|rfl; exact h2; exact h3; exact h4) (by intro x hx; simp at hx; rcases hx with rfl|rfl|rfl <;> rfl) (by intro x hx k hk; simp at hx; rcases hx with rfl|rfl|rfl <;> simp [Item.fp] at hk <;> subst hk; exact .inl h5; exact .inl h6; exact .inl h7)⟩) ?_))
  rintro _ _ ⟨b,f,bd,rfl,rfl⟩
  refine KA (KF rfl) (Nb rfl) ?_
  refine KG ?_
  refine KD ?_
  refine LCode.block ?_
  refine KD (KB ?_)
  refine KA (KE rfl) (Nb rfl) ?_
  refine KA (KV (Det.eqp Try.underlying142 rfl rfl) (show _ = Value.bool false from rfl)) (Nb rfl) ?_
  refine KA (KF rfl) (Nb rfl) ?_
  refine KG ?_
  refine Ki rfl ?_
  refine KD (KB ?_)
  refine KA (KE rfl) (Nb rfl) ?_
  refine LOps.det (KK rfl (by repeat (first|exact Mh _|apply Mt)) (by exact KN Try.underlying60 rfl sz_60)) (Nb rfl) ?_
  refine KI rfl (KU (KR (first:=[]) rfl en_122 rfl (Nb rfl) (fun w hw=>c_cOnP V b f bd hok (Q) w (hw _ (by repeat (first|exact Mh _|apply Mt))) (hw _ (by repeat (first|exact Mh _|apply Mt))) (hw _ (by repeat (first|exact Mh _|apply Mt))) hQ) ?_))
  refine KA (KV (Det.not rfl) (show _ = Value.bool false from rfl)) (Nb rfl) ?_
  refine KA (KF rfl) (Nb rfl) ?_
  refine KG ?_
  refine Ki rfl ?_
  refine KD ?_
  refine Ka [] (by kernel_rfl) ?_
  refine LAny.take 0 rfl (by kernel_rfl) (Nb rfl) (KK rfl (by repeat (first|exact Mh _|apply Mt)) (by exact KN Try.underlying25 rfl sz_25)) ?_
  refine KC 1 rfl (by kernel_rfl) (Nb rfl) (KE rfl) ?_
  refine KC 2 rfl (by kernel_rfl) (Nb rfl) (Kc rfl) ?_
  refine KC 3 rfl (by kernel_rfl) (Nb rfl) (KM (o':=0) Try.underlying147 rfl rfl rfl sz_62 (by decide)) ?_
  refine KC 4 rfl (by kernel_rfl) (Nb rfl) (KM (o':=28) Try.underlying62 rfl rfl rfl sz_25 (by decide)) ?_
  refine LAny.take 5 rfl (by kernel_rfl) (Nb rfl) (KK rfl (by repeat (first|exact Mh _|apply Mt)) (by exact cvC_ld_n _ _ _ _ _ _ _ _ _ _ _ _ _ _ _ _)) ?_
  refine Kr 6 rfl rfl (by kernel_rfl) (KR (first:=[]) rfl en_113 rfl (Nb rfl) (fun w hw=>c_nat_Cmp U V.n hU9 hnW w) ?_)
  refine KC 7 rfl (by kernel_rfl) (Nb rfl) (KL (v:=.bool false) rfl rfl (br_f cmp_geq (Nat.not_le_of_gt hU))) ?_
  refine KC 8 rfl (by kernel_rfl) (Nb rfl) (KE rfl) ?_
  refine KAm 9 rfl rfl rfl (by kernel_rfl) (Nb rfl) (KK rfl (by repeat (first|exact Mh _|apply Mt)) (by exact KN Try.underlying25 rfl sz_25)) ?_
  refine KAF 10 rfl rfl rfl (by kernel_rfl) (Nb rfl) (KE rfl) ?_
  refine KAF 11 rfl rfl rfl (by kernel_rfl) (Nb rfl) (Kc rfl) ?_
  refine KAF 12 rfl rfl rfl (by kernel_rfl) (Nb rfl) (KM (o':=0) Try.underlying147 rfl rfl rfl sz_62 (by decide)) ?_
  refine KAF 13 rfl rfl rfl (by kernel_rfl) (Nb rfl) (KM (o':=28) Try.underlying62 rfl rfl rfl sz_25 (by decide)) ?_
  refine KAm 14 rfl rfl rfl (by kernel_rfl) (Nb rfl) (KK rfl (by repeat (first|exact Mh _|apply Mt)) (by exact cvC_ld_n _ _ _ _ _ _ _ _ _ _ _ _ _ _ _ _)) ?_
  refine LAny.oneG 15 rfl rfl rfl rfl (by kernel_rfl) (KR (first:=[]) rfl en_113 rfl (Nb rfl) (fun w hw=>c_nat_Cmp W V.n hW9 hnW w) ?_)
  refine KAF 16 rfl rfl rfl (by kernel_rfl) (Nb rfl) (KL (v:=.bool false) rfl rfl (br_f cmp_geq (Nat.not_le_of_gt hW))) ?_
  refine KC 17 rfl (by kernel_rfl) (Nb rfl) (KAO rfl rfl) ?_
  refine KC 18 rfl (by kernel_rfl) (Nb rfl) (KF rfl) ?_
  refine Kj (by kernel_rfl) ?_
  refine Ki rfl ?_
  refine Kd ?_
  refine KD (KB ?_)
  refine KA (KE rfl) (Nb rfl) ?_
  refine LOps.det (KK rfl (by repeat (first|exact Mh _|apply Mt)) (by exact KN Try.underlying25 rfl sz_25)) (Nb rfl) ?_
  refine LOps.det (KK rfl (by repeat (first|exact Mh _|apply Mt)) (by exact KN Try.underlying25 rfl sz_25)) (Nb rfl) ?_
  refine LOps.det (KK rfl (by repeat (first|exact Mh _|apply Mt)) (by exact KN Try.underlying60 rfl sz_60)) (Nb rfl) ?_
  refine KI rfl (KU (KR (first:=[]) rfl en_124 rfl (Nb rfl) (fun w hw=>c_dualTimes V b f bd hok U W Q hQ hU hW w (hw _ (by repeat (first|exact Mh _|apply Mt))) (hw _ (by repeat (first|exact Mh _|apply Mt))) (hw _ (by repeat (first|exact Mh _|apply Mt)))) ?_))
  refine KI rfl (KP rfl rfl sz_60 (by repeat (first|exact Kl _|exact Kz _ _ _|exact Kn _|exact Ko _ _ _|exact Ky _ _ _|exact KX|refine KT rfl ?_|refine KW ?_ ?_)) (by repeat (first|exact Sh _|apply St_)) (by first|exact KH _|exact KO _ _ _|exact KJ _|exact KS _ _ _|exact Kf _ _ _|rfl|simp [KO,KH,KJ]) ?_)
  refine KA (KF (v:=.int .i64 ((0:Nat):Int)) rfl) (Nb rfl) ?_
  refine KG (KZ ?_)
  refine ⟨[_,_],.cons ⟨_,_,_,rfl,(by repeat (first|exact Mh _|apply Mt)),by exact KN Try.underlying60 rfl sz_60⟩ (.cons rfl .nil),fun a w' hr=>⟨?_,hr.fr.below⟩⟩
  rfl
end Go.Proofs.Ytljblbgogjieaaa
set_option linter.unusedVariables false
set_option linter.unusedSimpArgs false
set_option maxRecDepth 20000
namespace Go.Proofs.Ytljblbgogjieaaa
open Go Go.RowKit
open Grp
section
variable {P:Program} {C:Ctx} {d:Nat} {ty:TypeId} {pos:String} {aft:Array Edge} {K:St→Prop} {x:Operand} {v:Value}
theorem LStep.callK {T : List (Nat × Value)} {H : List Item} {f : FuncId} {xs : List Operand} {vs caps : List Value} {ats : Array TypeId} {g : Option (Nat × Bool)} (hf : evT T x = some (.func (.func f) #[] caps.toArray)) (he : KAR P f) (ha : evL T xs = some vs) (hd : d < C.N)
    (hc:∀ w,(∀ x,x∈H→x.holds w)→Calls P f (vs++caps).toArray w (fun e w'=>e = .returned v∧Below w.heap.size w w'))
    (h:K ⟨(d,v) :: T,H⟩):LStep P C ⟨some d,.call { callee:=.value x,args:=xs.toArray,argTypes:=ats },ty,pos,aft,g⟩ ⟨T,H⟩ K:=by
  unfold LStep; intro a w hr Qr
  obtain ⟨fn,h1,h2,h3⟩:=he
  refine wp_callee (vs:=vs++caps) ?_ (hc w hr.hp) ?_
  · have:=hr.evs ha
    simp [execOp,resolve,hr.ev hf,Deferred.ofValue,invoke,run_call h1 h2 h3,this]
  · rintro e w' ⟨rfl,hb⟩
    exact ⟨v,rfl,hb,_,h,(hr.below hb).put hd v⟩
end
theorem c_slope (V:Cv) (b f bd:Nat) (hok:V.Ok) (l x1 y1 x2 y2:Fin V.p) (i j:Bool) (w:World) (hb:(Item.blk b ⟨false,opL V f,147,(0,0)⟩).holds w) (hf:(Item.blk f ⟨false,fldL V.p bd,194,(0,0)⟩).holds w) (hbd:(Item.blk bd ⟨false,dvL V.p,241,(0,0)⟩).holds w):Calls Try.prog 162 ([.agg ([.pointer (some ⟨b,0,none⟩)]:List Value).toArray,natV l.val,ptV x1.val y1.val i,ptV x2.val y2.val j]:List Value).toArray w (fun e w'=>e = .returned (ptV (l*l-x1-x2).val (l*(x1-(l*l-x1-x2))-y1).val false)∧Below w.heap.size w w'):=by
  have hbb:=hok.bounds
  have hpW:V.p<W9:=w9_521 hbb.2.1
  refine KAE (N:=42) (rs:=[.cell 8 60]) [.blk b ⟨false,opL V f,147,(0,0)⟩,.blk f ⟨false,fldL V.p bd,194,(0,0)⟩,.blk bd ⟨false,dvL V.p,241,(0,0)⟩] Try.func162 rfl Try.ntmps162 Try.results162 (Nb rfl) ⟨hb,hf,hbd,trivial⟩ rfl ?_
  show LCode _ _ _ ⟨_,_⟩ _
  refine KD (KB ?_)
  refine KI rfl (KU (KQ (Kw rfl) (Nb rfl) (fun b4=>?_)))
  refine KI rfl (KU (KQ (Kw rfl) (Nb rfl) (fun b5=>?_)))
  refine KI rfl (KU (KQ (Kw rfl) (Nb rfl) (fun b6=>?_)))
  refine KI rfl (KU (KQ (Kw rfl) (Nb rfl) (fun b7=>?_)))
  refine KI rfl (KU (KQ (Kh zr_60) (Nb rfl) (fun b8=>?_)))
  refine KG ?_
  refine KD (KB ?_)
  refine KA (KM (o':=0) Try.underlying169 rfl rfl rfl sz_142 (by decide)) (Nb rfl) ?_
  refine LOps.det (KK rfl (by repeat (first|exact Mh _|apply Mt)) (KY Try.underlying142 rfl (by first|rfl|exact Kv _ _ _ (by omega)|exact Ku _ (by omega)|exact Ks _ (by omega)|exact dv_m _ _ _ (by omega)))) (Nb rfl) ?_
  refine KA (Kc rfl) (Nb rfl) ?_
  refine KA (KM (o':=59) Try.underlying147 rfl rfl rfl sz_145 (by decide)) (Nb rfl) ?_
  refine LOps.det (KK rfl (by repeat (first|exact Mh _|apply Mt)) (KY Try.underlying145 rfl (by exact cvC_gt_F _ _ _ _ _ _ _ _ _ _ _ _ _))) (Nb rfl) ?_
  refine KA (KF rfl) (Nb rfl) ?_
  refine KG ?_
  refine KD ?_
  refine Ka [13] (by kernel_rfl) ?_
  refine KC 0 rfl (by kernel_rfl) (Nb rfl) (KE rfl) ?_
  refine KC 1 rfl (by kernel_rfl) (Nb rfl) (KE rfl) ?_
  refine KC 2 rfl (by kernel_rfl) (Nb rfl) (KE rfl) ?_
  refine LAny.take 3 rfl (by kernel_rfl) (Nb rfl) (KK rfl (by repeat (first|exact Mh _|apply Mt)) (by exact KN Try.underlying25 rfl sz_25)) ?_
  refine LAny.take 4 rfl (by kernel_rfl) (Nb rfl) (KK rfl (by repeat (first|exact Mh _|apply Mt)) (by exact KN Try.underlying25 rfl sz_25)) ?_
  refine KC 6 rfl (by kernel_rfl) (Nb rfl) (KM (o':=0) Try.underlying60 rfl rfl rfl sz_25 (by decide)) ?_
  refine LAny.take 7 rfl (by kernel_rfl) (Nb rfl) (KK rfl (by repeat (first|exact Mh _|apply Mt)) (by exact KAS Try.underlying25 rfl sz_25 rfl (KH _))) ?_
  refine KC 9 rfl (by kernel_rfl) (Nb rfl) (KM (o':=0) Try.underlying60 rfl rfl rfl sz_25 (by decide)) ?_
  refine LAny.take 10 rfl (by kernel_rfl) (Nb rfl) (KK rfl (by repeat (first|exact Mh _|apply Mt)) (by exact KAS Try.underlying25 rfl sz_25 rfl (KH _))) ?_
  refine KAk ?_
  refine KAP 12 rfl (.inl zr_25) (Nb rfl) rfl rfl rfl ?_
  refine Kq 5 rfl rfl rfl (Nb rfl) (by kernel_rfl) rfl (Kt (first:=[]) rfl en_156 rfl (fun w hw=>c_F_Mul V hok f bd _ _ w (hw _ (by repeat (first|exact Mh _|apply Mt))) (hw _ (by repeat (first|exact Mh _|apply Mt))))) ?_
  rintro _ _ ⟨rfl,rfl⟩
  refine Kq 8 rfl rfl rfl (Nb rfl) (by kernel_rfl) rfl (Kt (first:=[]) rfl en_161 rfl (fun w hw=>c_F_Sub V hok f bd _ _ w (hw _ (by repeat (first|exact Mh _|apply Mt))))) ?_
  rintro _ _ ⟨rfl,rfl⟩
  refine Kq 11 rfl rfl rfl (Nb rfl) (by kernel_rfl) rfl (Kt (first:=[]) rfl en_161 rfl (fun w hw=>c_F_Sub V hok f bd _ _ w (hw _ (by repeat (first|exact Mh _|apply Mt))))) ?_
  rintro _ _ ⟨rfl,rfl⟩
  refine KAZ (by kernel_rfl) (fun b10=>?_)
  refine KAV ?_
  refine Km 13 rfl rfl (by kernel_rfl) (by kernel_rfl) (KP rfl rfl sz_25 (by repeat (first|exact Kl _|exact Kz _ _ _|exact Kn _|exact Ko _ _ _|exact Ky _ _ _|exact KX|refine KT rfl ?_|refine KW ?_ ?_)) (by repeat (first|exact Sh _|apply St_)) (by first|exact KH _|exact KO _ _ _|exact KJ _|exact KS _ _ _|exact Kf _ _ _|rfl|simp [KO,KH,KJ]) ?_)
  refine Kj (by kernel_rfl) ?_
  refine KD ?_
  refine Ka [14] (by kernel_rfl) ?_
  refine LAny.take 0 rfl (by kernel_rfl) (Nb rfl) (KK rfl (by repeat (first|exact Mh _|apply Mt)) (by exact KN Try.underlying25 rfl sz_25)) ?_
  refine KC 1 rfl (by kernel_rfl) (Nb rfl) (KE rfl) ?_
  refine KC 2 rfl (by kernel_rfl) (Nb rfl) (KE rfl) ?_
  refine LAny.take 3 rfl (by kernel_rfl) (Nb rfl) (KK rfl (by repeat (first|exact Mh _|apply Mt)) (by exact KN Try.underlying25 rfl sz_25)) ?_
  refine KC 4 rfl (by kernel_rfl) (Nb rfl) (KE rfl) ?_
  refine KC 5 rfl (by kernel_rfl) (Nb rfl) (KM (o':=0) Try.underlying60 rfl rfl rfl sz_25 (by decide)) ?_
  refine LAny.take 6 rfl (by kernel_rfl) (Nb rfl) (KK rfl (by repeat (first|exact Mh _|apply Mt)) (by exact KAS Try.underlying25 rfl sz_25 rfl (KH _))) ?_
  refine LAny.take 7 rfl (by kernel_rfl) (Nb rfl) (KK rfl (by repeat (first|exact Mh _|apply Mt)) (by exact KN Try.underlying25 rfl sz_25)) ?_
  refine KC 10 rfl (by kernel_rfl) (Nb rfl) (KM (o':=9) Try.underlying60 rfl rfl rfl sz_25 (by decide)) ?_
  refine LAny.take 11 rfl (by kernel_rfl) (Nb rfl) (KK rfl (by repeat (first|exact Mh _|apply Mt)) (by exact pt_ld1 _ _ _ _ _ _)) ?_
  refine Kr 8 rfl rfl (by kernel_rfl) (KR (first:=[]) rfl en_161 rfl (Nb rfl) (fun w hw=>c_F_Sub V hok f bd _ _ w (hw _ (by repeat (first|exact Mh _|apply Mt)))) ?_)
  refine Kr 9 rfl rfl (by kernel_rfl) (KR (first:=[]) rfl en_156 rfl (Nb rfl) (fun w hw=>c_F_Mul V hok f bd _ _ w (hw _ (by repeat (first|exact Mh _|apply Mt))) (hw _ (by repeat (first|exact Mh _|apply Mt)))) ?_)
  refine Kr 12 rfl rfl (by kernel_rfl) (KR (first:=[]) rfl en_161 rfl (Nb rfl) (fun w hw=>c_F_Sub V hok f bd _ _ w (hw _ (by repeat (first|exact Mh _|apply Mt)))) ?_)
  refine KC 13 rfl (by kernel_rfl) (Nb rfl) (KV (KAU pl_60 zr_60 rfl (fill_pt _ _)) rfl) ?_
  refine Km 14 rfl rfl (by kernel_rfl) (by kernel_rfl) (KP rfl rfl sz_60 (by repeat (first|exact Kl _|exact Kz _ _ _|exact Kn _|exact Ko _ _ _|exact Ky _ _ _|exact KX|refine KT rfl ?_|refine KW ?_ ?_)) (by repeat (first|exact Sh _|apply St_)) (by first|exact KH _|exact KO _ _ _|exact KJ _|exact KS _ _ _|exact Kf _ _ _|rfl|simp [KO,KH,KJ]) ?_)
  refine Kj (by kernel_rfl) ?_
  refine KZ ?_
  refine ⟨[_],.cons ⟨_,_,_,rfl,(by repeat (first|exact Mh _|apply Mt)),by exact KN Try.underlying60 rfl sz_60⟩ .nil,fun a w' hr=>⟨?_,hr.fr.below⟩⟩
  rfl
theorem c_gadd (V:Cv) (b f bd:Nat) (hok:V.Ok) (P P2 R:Pt V.p) (w:World) (hb:(Item.blk b ⟨false,opL V f,147,(0,0)⟩).holds w) (hf:(Item.blk f ⟨false,fldL V.p bd,194,(0,0)⟩).holds w) (hbd:(Item.blk bd ⟨false,dvL V.p,241,(0,0)⟩).holds w) (hP:On V.A V.B P) (hP2:On V.A V.B P2) (hR:padd V.A P P2 = R):Calls Try.prog 131 ([.agg ([.pointer (some ⟨b,0,none⟩)]:List Value).toArray,ptP P,ptP P2]:List Value).toArray w (fun e w'=>e = .returned (ptP R)∧Below w.heap.size w w'):=by
  have hbb:=hok.bounds
  have hpW:V.p<W9:=w9_521 hbb.2.1
  refine KAE (N:=96) (rs:=[.cell 6 60]) [.blk b ⟨false,opL V f,147,(0,0)⟩,.blk f ⟨false,fldL V.p bd,194,(0,0)⟩,.blk bd ⟨false,dvL V.p,241,(0,0)⟩] Try.func131 rfl Try.ntmps131 Try.results131 (Nb rfl) ⟨hb,hf,hbd,trivial⟩ rfl ?_
  show LCode _ _ _ ⟨_,_⟩ _
  refine KD (KB ?_)
  refine KI rfl (KU (KQ (Kw rfl) (Nb rfl) (fun b3=>?_)))
  refine KI rfl (KU (KQ (Kw rfl) (Nb rfl) (fun b4=>?_)))
  refine KI rfl (KU (KQ (Kw rfl) (Nb rfl) (fun b5=>?_)))
  refine KI rfl (KU (KQ (Kh zr_60) (Nb rfl) (fun b6=>?_)))
  refine KG ?_
  refine KD ?_
  rcases P with _|⟨x1,y1⟩
  ·
    have eR:=(hok.inf_add hP2).symm.trans hR
    subst eR
    refine KB ?_
    refine KA (KM (o':=0) Try.underlying169 rfl rfl rfl sz_142 (by decide)) (Nb rfl) ?_
    refine LOps.det (KK rfl (by repeat (first|exact Mh _|apply Mt)) (KY Try.underlying142 rfl (by first|rfl|exact Kv _ _ _ (by omega)|exact Ku _ (by omega)|exact Ks _ (by omega)|exact dv_m _ _ _ (by omega)))) (Nb rfl) ?_
    refine KA (Kc rfl) (Nb rfl) ?_
    refine KA (KM (o':=59) Try.underlying147 rfl rfl rfl sz_145 (by decide)) (Nb rfl) ?_
    refine LOps.det (KK rfl (by repeat (first|exact Mh _|apply Mt)) (KY Try.underlying145 rfl (by exact cvC_gt_F _ _ _ _ _ _ _ _ _ _ _ _ _))) (Nb rfl) ?_
    refine KA (KF rfl) (Nb rfl) ?_
    refine KG ?_
    refine KD ?_
    refine LCode.block ?_
    refine KD (KB ?_)
    refine KA (KM (o':=18) Try.underlying60 rfl rfl rfl sz_4 (by decide)) (Nb rfl) ?_
    refine LOps.det (KK rfl (by repeat (first|exact Mh _|apply Mt)) (KY Try.underlying4 rfl (by exact pt_gt _ _ _))) (Nb rfl) ?_
    refine KA (KF rfl) (Nb rfl) ?_
    refine KG ?_
    refine KAB rfl ?_
    refine KD (KB ?_)
    refine LOps.det (KK rfl (by repeat (first|exact Mh _|apply Mt)) (by exact KN Try.underlying60 rfl sz_60)) (Nb rfl) ?_
    refine KI rfl (KP rfl rfl sz_60 (by repeat (first|exact Kl _|exact Kz _ _ _|exact Kn _|exact Ko _ _ _|exact Ky _ _ _|exact KX|refine KT rfl ?_|refine KW ?_ ?_)) (by repeat (first|exact Sh _|apply St_)) (by first|exact KH _|exact KO _ _ _|exact KJ _|exact KS _ _ _|exact Kf _ _ _|rfl|simp [KO,KH,KJ]) ?_)
    refine KG (KZ ?_)
    refine ⟨[_],.cons ⟨_,_,_,rfl,(by repeat (first|exact Mh _|apply Mt)),by exact KN Try.underlying60 rfl sz_60⟩ .nil,fun a w' hr=>⟨?_,hr.fr.below⟩⟩
    rfl
  ·
    refine KB ?_
    refine KA (KM (o':=0) Try.underlying169 rfl rfl rfl sz_142 (by decide)) (Nb rfl) ?_
    refine LOps.det (KK rfl (by repeat (first|exact Mh _|apply Mt)) (KY Try.underlying142 rfl (by first|rfl|exact Kv _ _ _ (by omega)|exact Ku _ (by omega)|exact Ks _ (by omega)|exact dv_m _ _ _ (by omega)))) (Nb rfl) ?_
    refine KA (Kc rfl) (Nb rfl) ?_
    refine KA (KM (o':=59) Try.underlying147 rfl rfl rfl sz_145 (by decide)) (Nb rfl) ?_
    refine LOps.det (KK rfl (by repeat (first|exact Mh _|apply Mt)) (KY Try.underlying145 rfl (by exact cvC_gt_F _ _ _ _ _ _ _ _ _ _ _ _ _))) (Nb rfl) ?_
    refine KA (KF rfl) (Nb rfl) ?_
    refine KG ?_
    refine KD ?_
    refine LCode.block ?_
    refine KD (KB ?_)
    refine KA (KM (o':=18) Try.underlying60 rfl rfl rfl sz_4 (by decide)) (Nb rfl) ?_
    refine LOps.det (KK rfl (by repeat (first|exact Mh _|apply Mt)) (KY Try.underlying4 rfl (by exact pt_gt _ _ _))) (Nb rfl) ?_
    refine KA (KF rfl) (Nb rfl) ?_
    refine KG ?_
    refine Ki rfl ?_
    refine KD ?_
    rcases P2 with _|⟨x2,y2⟩
    ·
      have eR:=(hok.add_inf hP).symm.trans hR
      subst eR
      refine KB ?_
      refine KA (KM (o':=18) Try.underlying60 rfl rfl rfl sz_4 (by decide)) (Nb rfl) ?_
      refine LOps.det (KK rfl (by repeat (first|exact Mh _|apply Mt)) (KY Try.underlying4 rfl (by exact pt_gt _ _ _))) (Nb rfl) ?_
      refine KA (KF rfl) (Nb rfl) ?_
      refine KG ?_
      refine KAB rfl ?_
      refine KD (KB ?_)
      refine LOps.det (KK rfl (by repeat (first|exact Mh _|apply Mt)) (by exact KN Try.underlying60 rfl sz_60)) (Nb rfl) ?_
      refine KI rfl (KP rfl rfl sz_60 (by repeat (first|exact Kl _|exact Kz _ _ _|exact Kn _|exact Ko _ _ _|exact Ky _ _ _|exact KX|refine KT rfl ?_|refine KW ?_ ?_)) (by repeat (first|exact Sh _|apply St_)) (by first|exact KH _|exact KO _ _ _|exact KJ _|exact KS _ _ _|exact Kf _ _ _|rfl|simp [KO,KH,KJ]) ?_)
      refine KG (KZ ?_)
      refine ⟨[_],.cons ⟨_,_,_,rfl,(by repeat (first|exact Mh _|apply Mt)),by exact KN Try.underlying60 rfl sz_60⟩ .nil,fun a w' hr=>⟨?_,hr.fr.below⟩⟩
      rfl
    ·
      refine KB ?_
      refine KA (KM (o':=18) Try.underlying60 rfl rfl rfl sz_4 (by decide)) (Nb rfl) ?_
      refine LOps.det (KK rfl (by repeat (first|exact Mh _|apply Mt)) (KY Try.underlying4 rfl (by exact pt_gt _ _ _))) (Nb rfl) ?_
      refine KA (KF rfl) (Nb rfl) ?_
      refine KG ?_
      refine Ki rfl ?_
      refine KD ?_
      by_cases hx:x1 = x2
      ·
        refine KB ?_
        refine KA (KM (o':=0) Try.underlying60 rfl rfl rfl sz_25 (by decide)) (Nb rfl) ?_
        refine LOps.det (KK rfl (by repeat (first|exact Mh _|apply Mt)) (by exact KAS Try.underlying25 rfl sz_25 rfl (KH _))) (Nb rfl) ?_
        refine KA (KM (o':=0) Try.underlying60 rfl rfl rfl sz_25 (by decide)) (Nb rfl) ?_
        refine LOps.det (KK rfl (by repeat (first|exact Mh _|apply Mt)) (by exact KAS Try.underlying25 rfl sz_25 rfl (KH _))) (Nb rfl) ?_
        refine KA (KV (Det.nea (by kernel_rfl) (fun w=>eq_nat x1.val x2.val (Nat.lt_trans x1.isLt hpW) (Nat.lt_trans x2.isLt hpW) 10000 (by decide) w) rfl rfl) (show _ = Value.bool false by rw [decide_eq_true (congrArg Fin.val hx)]; rfl)) (Nb rfl) ?_
        refine KA (KF rfl) (Nb rfl) ?_
        refine KG ?_
        refine Ki rfl ?_
        refine KD ?_
        by_cases hy:y1 = y2
        ·
          have hy0:¬ y1.val = 0:=y_pos hok hP
          refine KB ?_
          refine KA (KM (o':=9) Try.underlying60 rfl rfl rfl sz_25 (by decide)) (Nb rfl) ?_
          refine LOps.det (KK rfl (by repeat (first|exact Mh _|apply Mt)) (by exact pt_ld1 _ _ _ _ _ _)) (Nb rfl) ?_
          refine KA (KM (o':=9) Try.underlying60 rfl rfl rfl sz_25 (by decide)) (Nb rfl) ?_
          refine LOps.det (KK rfl (by repeat (first|exact Mh _|apply Mt)) (by exact pt_ld1 _ _ _ _ _ _)) (Nb rfl) ?_
          refine KA (KV (Det.nea (by kernel_rfl) (fun w=>eq_nat y1.val y2.val (Nat.lt_trans y1.isLt hpW) (Nat.lt_trans y2.isLt hpW) 10000 (by decide) w) rfl rfl) (show _ = Value.bool false by rw [decide_eq_true (congrArg Fin.val hy)]; rfl)) (Nb rfl) ?_
          refine KA (KE rfl) (Nb rfl) ?_
          refine Kp rfl rfl (KM (o':=9) Try.underlying60 rfl rfl rfl sz_25 (by decide)) (Nb rfl) ?_
          refine LOps.detG rfl rfl (KK rfl (by repeat (first|exact Mh _|apply Mt)) (by exact pt_ld1 _ _ _ _ _ _)) (Nb rfl) ?_
          refine Kp rfl rfl (KV (KAU pl_25 zr_25 rfl rfl) (show _ = natV 0 by unfold natV natL; rw [← vec_zeros 9])) (Nb rfl) ?_
          refine Kp rfl rfl (KV (Det.eqa (by kernel_rfl) (fun w=>eq_nat y1.val 0 (Nat.lt_trans y1.isLt hpW) zero_w9 10000 (by decide) w) rfl rfl) (show _ = Value.bool false by rw [decide_eq_false hy0])) (Nb rfl) ?_
          refine KA (KAO rfl rfl) (Nb rfl) ?_
          refine KA (KF rfl) (Nb rfl) ?_
          refine KG ?_
          refine Ki rfl ?_
          refine Kd ?_
          refine KD ?_
          subst hx hy
          have eR:=(add_tangF hok.prime hok.fld hP (fin_ne0 hy0)).symm.trans hR
          subst eR
          refine KB ?_
          refine KA (KE rfl) (Nb rfl) ?_
          refine KA (KM (o':=0) Try.underlying60 rfl rfl rfl sz_25 (by decide)) (Nb rfl) ?_
          refine LOps.det (KK rfl (by repeat (first|exact Mh _|apply Mt)) (by exact KAS Try.underlying25 rfl sz_25 rfl (KH _))) (Nb rfl) ?_
          refine KA (KM (o':=0) Try.underlying60 rfl rfl rfl sz_25 (by decide)) (Nb rfl) ?_
          refine LOps.det (KK rfl (by repeat (first|exact Mh _|apply Mt)) (by exact KAS Try.underlying25 rfl sz_25 rfl (KH _))) (Nb rfl) ?_
          refine KI rfl (KU (KR (first:=[]) rfl en_156 rfl (Nb rfl) (fun w hw=>c_F_Mul V hok f bd _ _ w (hw _ (by repeat (first|exact Mh _|apply Mt))) (hw _ (by repeat (first|exact Mh _|apply Mt)))) ?_))
          refine KI rfl (KU (KQ (Kh zr_25) (Nb rfl) (fun b8=>?_)))
          refine KI rfl (KP rfl rfl sz_25 (by repeat (first|exact Kl _|exact Kz _ _ _|exact Kn _|exact Ko _ _ _|exact Ky _ _ _|exact KX|refine KT rfl ?_|refine KW ?_ ?_)) (by repeat (first|exact Sh _|apply St_)) (by first|exact KH _|exact KO _ _ _|exact KJ _|exact KS _ _ _|exact Kf _ _ _|rfl|simp [KO,KH,KJ]) ?_)
          refine KG ?_
          refine KD ?_
          refine Ka [29] (by kernel_rfl) ?_
          refine LAny.take 0 rfl (by kernel_rfl) (Nb rfl) (KK rfl (by repeat (first|exact Mh _|apply Mt)) (by exact KN Try.underlying169 rfl sz_169)) ?_
          refine KC 1 rfl (by kernel_rfl) (Nb rfl) (KE rfl) ?_
          refine KC 2 rfl (by kernel_rfl) (Nb rfl) (KE rfl) ?_
          refine KC 3 rfl (by kernel_rfl) (Nb rfl) (KE rfl) ?_
          refine KC 4 rfl (by kernel_rfl) (Nb rfl) (KE rfl) ?_
          refine LAny.take 5 rfl (by kernel_rfl) (Nb rfl) (KK rfl (by repeat (first|exact Mh _|apply Mt)) (by exact KN Try.underlying25 rfl sz_25)) ?_
          refine LAny.take 6 rfl (by kernel_rfl) (Nb rfl) (KK rfl (by repeat (first|exact Mh _|apply Mt)) (by exact KN Try.underlying25 rfl sz_25)) ?_
          refine LAny.take 8 rfl (by kernel_rfl) (Nb rfl) (KK rfl (by repeat (first|exact Mh _|apply Mt)) (by exact KN Try.underlying25 rfl sz_25)) ?_
          refine KC 10 rfl (by kernel_rfl) (Nb rfl) (KM (o':=0) Try.underlying169 rfl rfl rfl sz_142 (by decide)) ?_
          refine LAny.take 11 rfl (by kernel_rfl) (Nb rfl) (KK rfl (by repeat (first|exact Mh _|apply Mt)) (KY Try.underlying142 rfl (by first|rfl|exact Kv _ _ _ (by omega)|exact Ku _ (by omega)|exact Ks _ (by omega)|exact dv_m _ _ _ (by omega)))) ?_
          refine KC 12 rfl (by kernel_rfl) (Nb rfl) (Kc rfl) ?_
          refine KC 13 rfl (by kernel_rfl) (Nb rfl) (KM (o':=0) Try.underlying147 rfl rfl rfl sz_62 (by decide)) ?_
          refine KC 14 rfl (by kernel_rfl) (Nb rfl) (KM (o':=10) Try.underlying62 rfl rfl rfl sz_25 (by decide)) ?_
          refine LAny.take 15 rfl (by kernel_rfl) (Nb rfl) (Det.cast (KK rfl (by repeat (first|exact Mh _|apply Mt)) (by exact cvC_ld_a _ _ _ _ _ _ _ _ _ _ _ _ _ _ _ _)) (a_val hok)) ?_
          refine KC 17 rfl (by kernel_rfl) (Nb rfl) (KE rfl) ?_
          refine KC 18 rfl (by kernel_rfl) (Nb rfl) (KE rfl) ?_
          refine KC 19 rfl (by kernel_rfl) (Nb rfl) (KM (o':=9) Try.underlying60 rfl rfl rfl sz_25 (by decide)) ?_
          refine LAny.take 20 rfl (by kernel_rfl) (Nb rfl) (KK rfl (by repeat (first|exact Mh _|apply Mt)) (by exact pt_ld1 _ _ _ _ _ _)) ?_
          refine KC 21 rfl (by kernel_rfl) (Nb rfl) (KM (o':=9) Try.underlying60 rfl rfl rfl sz_25 (by decide)) ?_
          refine LAny.take 22 rfl (by kernel_rfl) (Nb rfl) (KK rfl (by repeat (first|exact Mh _|apply Mt)) (by exact pt_ld1 _ _ _ _ _ _)) ?_
          refine LAny.take 26 rfl (by kernel_rfl) (Nb rfl) (KK rfl (by repeat (first|exact Mh _|apply Mt)) (by exact KN Try.underlying60 rfl sz_60)) ?_
          refine LAny.take 27 rfl (by kernel_rfl) (Nb rfl) (KK rfl (by repeat (first|exact Mh _|apply Mt)) (by exact KN Try.underlying60 rfl sz_60)) ?_
          refine Kr 7 rfl rfl (by kernel_rfl) (KR (first:=[]) rfl en_152 rfl (Nb rfl) (fun w hw=>c_F_Add V hok f bd _ _ w (hw _ (by repeat (first|exact Mh _|apply Mt)))) ?_)
          refine Kr 9 rfl rfl (by kernel_rfl) (KR (first:=[]) rfl en_152 rfl (Nb rfl) (fun w hw=>c_F_Add V hok f bd _ _ w (hw _ (by repeat (first|exact Mh _|apply Mt)))) ?_)
          refine Kr 16 rfl rfl (by kernel_rfl) (KR (first:=[]) rfl en_152 rfl (Nb rfl) (fun w hw=>c_F_Add V hok f bd _ _ w (hw _ (by repeat (first|exact Mh _|apply Mt)))) ?_)
          refine Kr 23 rfl rfl (by kernel_rfl) (KR (first:=[]) rfl en_152 rfl (Nb rfl) (fun w hw=>c_F_Add V hok f bd _ _ w (hw _ (by repeat (first|exact Mh _|apply Mt)))) ?_)
          refine Kr 24 rfl rfl (by kernel_rfl) (KR (first:=[]) rfl en_160 rfl (Nb rfl) (fun w hw=>c_F_Inv V hok f bd _ w (hw _ (by repeat (first|exact Mh _|apply Mt)))) ?_)
          refine Kr 25 rfl rfl (by kernel_rfl) (KR (first:=[]) rfl en_156 rfl (Nb rfl) (fun w hw=>c_F_Mul V hok f bd _ _ w (hw _ (by repeat (first|exact Mh _|apply Mt))) (hw _ (by repeat (first|exact Mh _|apply Mt)))) ?_)
          refine Kr 28 rfl rfl (by kernel_rfl) (KR (first:=[]) rfl en_162 rfl (Nb rfl) (fun w hw=>c_slope V b f bd hok ((x1*x1+x1*x1+x1*x1+V.A)*finv (y1+y1)) x1 y1 x1 y1 false false w (hw _ (by repeat (first|exact Mh _|apply Mt))) (hw _ (by repeat (first|exact Mh _|apply Mt))) (hw _ (by repeat (first|exact Mh _|apply Mt)))) ?_)
          refine Km 29 rfl rfl (by kernel_rfl) (by kernel_rfl) (KP rfl rfl sz_60 (by repeat (first|exact Kl _|exact Kz _ _ _|exact Kn _|exact Ko _ _ _|exact Ky _ _ _|exact KX|refine KT rfl ?_|refine KW ?_ ?_)) (by repeat (first|exact Sh _|apply St_)) (by first|exact KH _|exact KO _ _ _|exact KJ _|exact KS _ _ _|exact Kf _ _ _|rfl|simp [KO,KH,KJ]) ?_)
          refine Kj (by kernel_rfl) ?_
          refine KZ ?_
          refine ⟨[_],.cons ⟨_,_,_,rfl,(by repeat (first|exact Mh _|apply Mt)),by exact KN Try.underlying60 rfl sz_60⟩ .nil,fun a w' hr=>⟨?_,hr.fr.below⟩⟩
          rfl
        ·
          have eR:=(add_opp hok.fld hP hP2 hx hy).symm.trans hR
          subst eR
          refine KB ?_
          refine KA (KM (o':=9) Try.underlying60 rfl rfl rfl sz_25 (by decide)) (Nb rfl) ?_
          refine LOps.det (KK rfl (by repeat (first|exact Mh _|apply Mt)) (by exact pt_ld1 _ _ _ _ _ _)) (Nb rfl) ?_
          refine KA (KM (o':=9) Try.underlying60 rfl rfl rfl sz_25 (by decide)) (Nb rfl) ?_
          refine LOps.det (KK rfl (by repeat (first|exact Mh _|apply Mt)) (by exact pt_ld1 _ _ _ _ _ _)) (Nb rfl) ?_
          refine KA (KV (Det.nea (by kernel_rfl) (fun w=>eq_nat y1.val y2.val (Nat.lt_trans y1.isLt hpW) (Nat.lt_trans y2.isLt hpW) 10000 (by decide) w) rfl rfl) (show _ = Value.bool true by rw [decide_eq_false (fun e=>hy (Fin.ext e))]; rfl)) (Nb rfl) ?_
          refine KA (KE rfl) (Nb rfl) ?_
          refine KAD rfl rfl rfl (Nb rfl) ?_
          refine KAD rfl rfl rfl (Nb rfl) ?_
          refine KAD rfl rfl rfl (Nb rfl) ?_
          refine KAD rfl rfl rfl (Nb rfl) ?_
          refine KA (KAQ rfl rfl) (Nb rfl) ?_
          refine KA (KF rfl) (Nb rfl) ?_
          refine KG ?_
          refine KAB rfl ?_
          refine KD (KB ?_)
          refine KA (KV (KAU pl_60 zr_60 rfl fill_ptInf) rfl) (Nb rfl) ?_
          refine KI rfl (KP rfl rfl sz_60 (by repeat (first|exact Kl _|exact Kz _ _ _|exact Kn _|exact Ko _ _ _|exact Ky _ _ _|exact KX|refine KT rfl ?_|refine KW ?_ ?_)) (by repeat (first|exact Sh _|apply St_)) (by first|exact KH _|exact KO _ _ _|exact KJ _|exact KS _ _ _|exact Kf _ _ _|rfl|simp [KO,KH,KJ]) ?_)
          refine KG (KZ ?_)
          refine ⟨[_],.cons ⟨_,_,_,rfl,(by repeat (first|exact Mh _|apply Mt)),by exact KN Try.underlying60 rfl sz_60⟩ .nil,fun a w' hr=>⟨?_,hr.fr.below⟩⟩
          rfl
      ·
        refine KB ?_
        refine KA (KM (o':=0) Try.underlying60 rfl rfl rfl sz_25 (by decide)) (Nb rfl) ?_
        refine LOps.det (KK rfl (by repeat (first|exact Mh _|apply Mt)) (by exact KAS Try.underlying25 rfl sz_25 rfl (KH _))) (Nb rfl) ?_
        refine KA (KM (o':=0) Try.underlying60 rfl rfl rfl sz_25 (by decide)) (Nb rfl) ?_
        refine LOps.det (KK rfl (by repeat (first|exact Mh _|apply Mt)) (by exact KAS Try.underlying25 rfl sz_25 rfl (KH _))) (Nb rfl) ?_
        refine KA (KV (Det.nea (by kernel_rfl) (fun w=>eq_nat x1.val x2.val (Nat.lt_trans x1.isLt hpW) (Nat.lt_trans x2.isLt hpW) 10000 (by decide) w) rfl rfl) (show _ = Value.bool true by rw [decide_eq_false (fun e=>hx (Fin.ext e))]; rfl)) (Nb rfl) ?_
        refine KA (KF rfl) (Nb rfl) ?_
        refine KG ?_
        refine KAB rfl ?_
        refine KD ?_
        have eR:=(add_chordF hok.prime hok.fld hP hP2 hx).symm.trans hR
        subst eR
        refine Ka [20] (by kernel_rfl) ?_
        refine LAny.take 0 rfl (by kernel_rfl) (Nb rfl) (KK rfl (by repeat (first|exact Mh _|apply Mt)) (by exact KN Try.underlying169 rfl sz_169)) ?_
        refine KC 1 rfl (by kernel_rfl) (Nb rfl) (KE rfl) ?_
        refine KC 2 rfl (by kernel_rfl) (Nb rfl) (KE rfl) ?_
        refine KC 3 rfl (by kernel_rfl) (Nb rfl) (KM (o':=9) Try.underlying60 rfl rfl rfl sz_25 (by decide)) ?_
        refine LAny.take 4 rfl (by kernel_rfl) (Nb rfl) (KK rfl (by repeat (first|exact Mh _|apply Mt)) (by exact pt_ld1 _ _ _ _ _ _)) ?_
        refine KC 5 rfl (by kernel_rfl) (Nb rfl) (KM (o':=9) Try.underlying60 rfl rfl rfl sz_25 (by decide)) ?_
        refine LAny.take 6 rfl (by kernel_rfl) (Nb rfl) (KK rfl (by repeat (first|exact Mh _|apply Mt)) (by exact pt_ld1 _ _ _ _ _ _)) ?_
        refine KC 8 rfl (by kernel_rfl) (Nb rfl) (KE rfl) ?_
        refine KC 9 rfl (by kernel_rfl) (Nb rfl) (KE rfl) ?_
        refine KC 10 rfl (by kernel_rfl) (Nb rfl) (KM (o':=0) Try.underlying60 rfl rfl rfl sz_25 (by decide)) ?_
        refine LAny.take 11 rfl (by kernel_rfl) (Nb rfl) (KK rfl (by repeat (first|exact Mh _|apply Mt)) (by exact KAS Try.underlying25 rfl sz_25 rfl (KH _))) ?_
        refine KC 12 rfl (by kernel_rfl) (Nb rfl) (KM (o':=0) Try.underlying60 rfl rfl rfl sz_25 (by decide)) ?_
        refine LAny.take 13 rfl (by kernel_rfl) (Nb rfl) (KK rfl (by repeat (first|exact Mh _|apply Mt)) (by exact KAS Try.underlying25 rfl sz_25 rfl (KH _))) ?_
        refine LAny.take 17 rfl (by kernel_rfl) (Nb rfl) (KK rfl (by repeat (first|exact Mh _|apply Mt)) (by exact KN Try.underlying60 rfl sz_60)) ?_
        refine LAny.take 18 rfl (by kernel_rfl) (Nb rfl) (KK rfl (by repeat (first|exact Mh _|apply Mt)) (by exact KN Try.underlying60 rfl sz_60)) ?_
        refine Kr 7 rfl rfl (by kernel_rfl) (KR (first:=[]) rfl en_161 rfl (Nb rfl) (fun w hw=>c_F_Sub V hok f bd _ _ w (hw _ (by repeat (first|exact Mh _|apply Mt)))) ?_)
        refine Kr 14 rfl rfl (by kernel_rfl) (KR (first:=[]) rfl en_161 rfl (Nb rfl) (fun w hw=>c_F_Sub V hok f bd _ _ w (hw _ (by repeat (first|exact Mh _|apply Mt)))) ?_)
        refine Kr 15 rfl rfl (by kernel_rfl) (KR (first:=[]) rfl en_160 rfl (Nb rfl) (fun w hw=>c_F_Inv V hok f bd _ w (hw _ (by repeat (first|exact Mh _|apply Mt)))) ?_)
        refine Kr 16 rfl rfl (by kernel_rfl) (KR (first:=[]) rfl en_156 rfl (Nb rfl) (fun w hw=>c_F_Mul V hok f bd _ _ w (hw _ (by repeat (first|exact Mh _|apply Mt))) (hw _ (by repeat (first|exact Mh _|apply Mt)))) ?_)
        refine Kr 19 rfl rfl (by kernel_rfl) (KR (first:=[]) rfl en_162 rfl (Nb rfl) (fun w hw=>c_slope V b f bd hok ((y2-y1)*finv (x2-x1)) x1 y1 x2 y2 false false w (hw _ (by repeat (first|exact Mh _|apply Mt))) (hw _ (by repeat (first|exact Mh _|apply Mt))) (hw _ (by repeat (first|exact Mh _|apply Mt)))) ?_)
        refine Km 20 rfl rfl (by kernel_rfl) (by kernel_rfl) (KP rfl rfl sz_60 (by repeat (first|exact Kl _|exact Kz _ _ _|exact Kn _|exact Ko _ _ _|exact Ky _ _ _|exact KX|refine KT rfl ?_|refine KW ?_ ?_)) (by repeat (first|exact Sh _|apply St_)) (by first|exact KH _|exact KO _ _ _|exact KJ _|exact KS _ _ _|exact Kf _ _ _|rfl|simp [KO,KH,KJ]) ?_)
        refine Kj (by kernel_rfl) ?_
        refine KZ ?_
        refine ⟨[_],.cons ⟨_,_,_,rfl,(by repeat (first|exact Mh _|apply Mt)),by exact KN Try.underlying60 rfl sz_60⟩ .nil,fun a w' hr=>⟨?_,hr.fr.below⟩⟩
        rfl
theorem c_gmul (V:Cv) (b f bd:Nat) (hok:V.Ok) (K bk:Nat) (hK:K<W9) (P:Pt V.p) (X Y:Nat) (i:Bool) (w:World) (hb:(Item.blk b ⟨false,opL V f,147,(0,0)⟩).holds w) (hf:(Item.blk f ⟨false,fldL V.p bd,194,(0,0)⟩).holds w) (hbd:(Item.blk bd ⟨false,dvL V.p,241,(0,0)⟩).holds w) (hP:On V.A V.B P) (hk:(Item.blk bk ⟨false,natL K,25,(0,0)⟩).holds w):Calls Try.prog 133 ([.agg ([.pointer (some ⟨b,0,none⟩)]:List Value).toArray,ptP P,ptV X Y i,.pointer (some ⟨bk,0,none⟩)]:List Value).toArray w (fun e w'=>e = .returned (ptP (pmul V.A P K))∧Below w.heap.size w w'):=by
  have hbb:=hok.bounds
  have hpW:V.p<W9:=w9_521 hbb.2.1
  refine KAE (N:=17) (rs:=[.cell 7 60]) [.blk b ⟨false,opL V f,147,(0,0)⟩,.blk f ⟨false,fldL V.p bd,194,(0,0)⟩,.blk bd ⟨false,dvL V.p,241,(0,0)⟩,.blk bk ⟨false,natL K,25,(0,0)⟩] Try.func133 rfl Try.ntmps133 Try.results133 (Nb rfl) ⟨hb,hf,hbd,hk,trivial⟩ rfl ?_
  show LCode _ _ _ ⟨_,_⟩ _
  refine KD (KB ?_)
  refine KI rfl (KU (KQ (Kw rfl) (Nb rfl) (fun b4=>?_)))
  refine KI rfl (KU (KQ (Kw rfl) (Nb rfl) (fun b5=>?_)))
  refine KI rfl (KU (KQ (Kw rfl) (Nb rfl) (fun b6=>?_)))
  refine KI rfl (KU (KQ (Kh zr_60) (Nb rfl) (fun b7=>?_)))
  refine KG ?_
  refine KD ?_
  refine Ka [9] (by kernel_rfl) ?_
  refine KC 0 rfl (by kernel_rfl) (Nb rfl) (KM (o':=0) Try.underlying169 rfl rfl rfl sz_142 (by decide)) ?_
  refine LAny.take 1 rfl (by kernel_rfl) (Nb rfl) (KK rfl (by repeat (first|exact Mh _|apply Mt)) (KY Try.underlying142 rfl (by first|rfl|exact Kv _ _ _ (by omega)|exact Ku _ (by omega)|exact Ks _ (by omega)|exact dv_m _ _ _ (by omega)))) ?_
  refine KC 2 rfl (by kernel_rfl) (Nb rfl) (KM (o':=0) Try.underlying169 rfl rfl rfl sz_142 (by decide)) ?_
  refine LAny.take 3 rfl (by kernel_rfl) (Nb rfl) (KK rfl (by repeat (first|exact Mh _|apply Mt)) (KY Try.underlying142 rfl (by first|rfl|exact Kv _ _ _ (by omega)|exact Ku _ (by omega)|exact Ks _ (by omega)|exact dv_m _ _ _ (by omega)))) ?_
  refine LAny.take 4 rfl (by kernel_rfl) (Nb rfl) (KK rfl (by repeat (first|exact Mh _|apply Mt)) (by exact KN Try.underlying25 rfl sz_25)) ?_
  refine LAny.take 5 rfl (by kernel_rfl) (Nb rfl) (KK rfl (by repeat (first|exact Mh _|apply Mt)) (by exact KN Try.underlying60 rfl sz_60)) ?_
  refine Kr 6 rfl rfl (by kernel_rfl) (KR (first:=[]) rfl en_129 rfl (Nb rfl) (fun w hw=>c_Triple V hok P w) ?_)
  refine Kr 7 rfl rfl (by kernel_rfl) (LStep.callV (first:=[]) rfl en_134 rfl (Nb rfl) (fun w hw=>c_cTimes V b f bd hok K hK _ P w (hw _ (by repeat (first|exact Mh _|apply Mt))) (hw _ (by repeat (first|exact Mh _|apply Mt))) (hw _ (by repeat (first|exact Mh _|apply Mt))) (RepT.trip hok hP)) ?_)
  rintro _ ⟨U,hU,rfl⟩
  refine Kr 8 rfl rfl (by kernel_rfl) (KR (first:=[]) rfl en_127 rfl (Nb rfl) (fun w hw=>c_PlainT V b f bd hok (U) (pmul V.A P K) w (hw _ (by repeat (first|exact Mh _|apply Mt))) (hw _ (by repeat (first|exact Mh _|apply Mt))) (hw _ (by repeat (first|exact Mh _|apply Mt))) (hU)) ?_)
  refine Km 9 rfl rfl (by kernel_rfl) (by kernel_rfl) (KP rfl rfl sz_60 (by repeat (first|exact Kl _|exact Kz _ _ _|exact Kn _|exact Ko _ _ _|exact Ky _ _ _|exact KX|refine KT rfl ?_|refine KW ?_ ?_)) (by repeat (first|exact Sh _|apply St_)) (by first|exact KH _|exact KO _ _ _|exact KJ _|exact KS _ _ _|exact Kf _ _ _|rfl|simp [KO,KH,KJ]) ?_)
  refine Kj (by kernel_rfl) ?_
  refine KZ ?_
  refine ⟨[_],.cons ⟨_,_,_,rfl,(by repeat (first|exact Mh _|apply Mt)),by exact KN Try.underlying60 rfl sz_60⟩ .nil,fun a w' hr=>⟨?_,hr.fr.below⟩⟩
  rfl
theorem c_do_ok (id:Int) (V:Cv) (P P2 R:Pt V.p) (fid:FuncId) (w:World) (h:cvI id = some V) (hP:On V.A V.B P) (hP2:On V.A V.B P2) (he:KAR Try.prog fid) (hc:∀ b f bd (w:World),(Item.blk b ⟨false,opL V f,147,(0,0)⟩).holds w→(Item.blk f ⟨false,fldL V.p bd,194,(0,0)⟩).holds w→(Item.blk bd ⟨false,dvL V.p,241,(0,0)⟩).holds w→Calls Try.prog fid ([.agg ([.pointer (some ⟨b,0,none⟩)]:List Value).toArray,ptP P,ptP P2]:List Value).toArray w (fun e w'=>e = .returned (ptP R)∧Below w.heap.size w w')):Calls Try.prog 130 ([.int .i64 id,ptP P,ptP P2,.func (.func fid) #[] #[]]:List Value).toArray w (fun e w'=>e = .returned (.tuple #[ptP R,.int .i64 ((0:Nat):Int)])∧Below w.heap.size w w'):=by
  obtain ⟨hok,hid⟩:=cvI_ok h
  have hbb:=hok.bounds
  have hpW:V.p<W9:=w9_521 hbb.2.1
  have hnW:V.n<W9:=w9_521 hbb.2.2.2.2.2.2.1
  have hbl:=blen_w9 hnW
  have hnb:nby V.n≤72:=by (unfold nby; omega)
  refine KAE (N:=35) (rs:=[.cell 8 60,.tmp 9]) [] Try.func130 rfl Try.ntmps130 Try.results130 (Nb rfl) trivial rfl ?_
  show LCode _ _ _ ⟨_,_⟩ _
  refine KD (KB ?_)
  refine KI rfl (KU (KQ (Kw rfl) (Nb rfl) (fun b5=>?_)))
  refine KI rfl (KU (KQ (Kw rfl) (Nb rfl) (fun b6=>?_)))
  refine KI rfl (KU (KQ (Kh zr_60) (Nb rfl) (fun b8=>?_)))
  refine KA (KF (v:=.int .i64 ((0:Nat):Int)) rfl) (Nb rfl) ?_
  refine KG ?_
  refine KD (KB ?_)
  refine KA (KE rfl) (Nb rfl) ?_
  refine KI rfl (KU (Kx (Post:=fun v its=>∃ b f bd,v = .pointer (some ⟨b,0,none⟩)∧its = [.blk b ⟨false,opL V f,147,(0,0)⟩,.blk f ⟨false,fldL V.p bd,194,(0,0)⟩,.blk bd ⟨false,dvL V.p,241,(0,0)⟩]) (first:=[]) rfl en_112 rfl (Nb rfl) (fun w1 hw hs=>(c_Open _ V w1 h).mono fun e w' ⟨b,f,bd,h1,h2,h3,h4,h5,h6,h7,h8⟩=>⟨_,_,⟨b,f,bd,rfl,rfl⟩,h1,Brings.nums h8 (by intro x hx; simp at hx; rcases hx with rfl|rfl|rfl; exact h2; exact h3; exact h4) (by intro x hx; simp at hx; rcases hx with rfl|rfl|rfl <;> rfl) (by intro x hx k hk; simp at hx; rcases hx with rfl|rfl|rfl <;> simp [Item.fp] at hk <;> subst hk; exact .inl h5; exact .inl h6; exact .inl h7)⟩) ?_))
  rintro _ _ ⟨b,f,bd,rfl,rfl⟩
  refine KA (KF rfl) (Nb rfl) ?_
  refine KG ?_
  refine KD ?_
  refine LCode.block ?_
  refine KD (KB ?_)
  refine KA (KE rfl) (Nb rfl) ?_
  refine KA (KV (Det.eqp Try.underlying142 rfl rfl) (show _ = Value.bool false from rfl)) (Nb rfl) ?_
  refine KA (KF rfl) (Nb rfl) ?_
  refine KG ?_
  refine Ki rfl ?_
  refine KD (KB ?_)
  refine KA (KE rfl) (Nb rfl) ?_
  refine LOps.det (KK rfl (by repeat (first|exact Mh _|apply Mt)) (by exact KN Try.underlying60 rfl sz_60)) (Nb rfl) ?_
  refine KI rfl (KU (KR (first:=[]) rfl en_122 rfl (Nb rfl) (fun w hw=>c_cOnP V b f bd hok (P) w (hw _ (by repeat (first|exact Mh _|apply Mt))) (hw _ (by repeat (first|exact Mh _|apply Mt))) (hw _ (by repeat (first|exact Mh _|apply Mt))) hP) ?_))
  refine KA (KV (Det.not rfl) (show _ = Value.bool false from rfl)) (Nb rfl) ?_
  refine KA (KE rfl) (Nb rfl) ?_
  refine Kp rfl rfl (KE rfl) (Nb rfl) ?_
  refine LOps.detG rfl rfl (KK rfl (by repeat (first|exact Mh _|apply Mt)) (by exact KN Try.underlying60 rfl sz_60)) (Nb rfl) ?_
  refine LOps.stepG rfl rfl rfl (KU (KR (first:=[]) rfl en_122 rfl (Nb rfl) (fun w hw=>c_cOnP V b f bd hok (P2) w (hw _ (by repeat (first|exact Mh _|apply Mt))) (hw _ (by repeat (first|exact Mh _|apply Mt))) (hw _ (by repeat (first|exact Mh _|apply Mt))) hP2) ?_))
  refine Kp rfl rfl (KV (Det.not rfl) (show _ = Value.bool false from rfl)) (Nb rfl) ?_
  refine KA (KAO rfl rfl) (Nb rfl) ?_
  refine KA (KF rfl) (Nb rfl) ?_
  refine KG ?_
  refine Ki rfl ?_
  refine Kd ?_
  refine KD (KB ?_)
  refine KA (KE rfl) (Nb rfl) ?_
  refine KA (KE rfl) (Nb rfl) ?_
  refine KA (KV (KAU pl_169 zr_169 rfl rfl) (show _ = Value.agg ([.pointer (some ⟨b,0,none⟩)]:List Value).toArray from rfl)) (Nb rfl) ?_
  refine LOps.det (KK rfl (by repeat (first|exact Mh _|apply Mt)) (by exact KN Try.underlying60 rfl sz_60)) (Nb rfl) ?_
  refine LOps.det (KK rfl (by repeat (first|exact Mh _|apply Mt)) (by exact KN Try.underlying60 rfl sz_60)) (Nb rfl) ?_
  refine KI rfl (KU (KR (first:=[]) rfl he rfl (Nb rfl) (fun w hw=>hc b f bd w (hw _ (by repeat (first|exact Mh _|apply Mt))) (hw _ (by repeat (first|exact Mh _|apply Mt))) (hw _ (by repeat (first|exact Mh _|apply Mt)))) ?_))
  refine KI rfl (KP rfl rfl sz_60 (by repeat (first|exact Kl _|exact Kz _ _ _|exact Kn _|exact Ko _ _ _|exact Ky _ _ _|exact KX|refine KT rfl ?_|refine KW ?_ ?_)) (by repeat (first|exact Sh _|apply St_)) (by first|exact KH _|exact KO _ _ _|exact KJ _|exact KS _ _ _|exact Kf _ _ _|rfl|simp [KO,KH,KJ]) ?_)
  refine KA (KF (v:=.int .i64 ((0:Nat):Int)) rfl) (Nb rfl) ?_
  refine KG (KZ ?_)
  refine ⟨[_,_],.cons ⟨_,_,_,rfl,(by repeat (first|exact Mh _|apply Mt)),by exact KN Try.underlying60 rfl sz_60⟩ (.cons rfl .nil),fun a w' hr=>⟨?_,hr.fr.below⟩⟩
  rfl
theorem c_do_okK (id:Int) (V:Cv) (P P2 R:Pt V.p) (fid:FuncId) (K bk:Nat) (w:World) (h:cvI id = some V) (hP:On V.A V.B P) (hP2:On V.A V.B P2) (he:KAR Try.prog fid) (hc:∀ b f bd (w:World),(Item.blk b ⟨false,opL V f,147,(0,0)⟩).holds w→(Item.blk f ⟨false,fldL V.p bd,194,(0,0)⟩).holds w→(Item.blk bd ⟨false,dvL V.p,241,(0,0)⟩).holds w→(Item.blk bk ⟨false,natL K,25,(0,0)⟩).holds w→Calls Try.prog fid ([.agg ([.pointer (some ⟨b,0,none⟩)]:List Value).toArray,ptP P,ptP P2,.pointer (some ⟨bk,0,none⟩)]:List Value).toArray w (fun e w'=>e = .returned (ptP R)∧Below w.heap.size w w')) (hk:(Item.blk bk ⟨false,natL K,25,(0,0)⟩).holds w):Calls Try.prog 130 ([.int .i64 id,ptP P,ptP P2,.func (.func fid) #[] #[.pointer (some ⟨bk,0,none⟩)]]:List Value).toArray w (fun e w'=>e = .returned (.tuple #[ptP R,.int .i64 ((0:Nat):Int)])∧Below w.heap.size w w'):=by
  obtain ⟨hok,hid⟩:=cvI_ok h
  have hbb:=hok.bounds
  have hpW:V.p<W9:=w9_521 hbb.2.1
  have hnW:V.n<W9:=w9_521 hbb.2.2.2.2.2.2.1
  have hbl:=blen_w9 hnW
  have hnb:nby V.n≤72:=by (unfold nby; omega)
  refine KAE (N:=35) (rs:=[.cell 8 60,.tmp 9]) [.blk bk ⟨false,natL K,25,(0,0)⟩] Try.func130 rfl Try.ntmps130 Try.results130 (Nb rfl) ⟨hk,trivial⟩ rfl ?_
  show LCode _ _ _ ⟨_,_⟩ _
  refine KD (KB ?_)
  refine KI rfl (KU (KQ (Kw rfl) (Nb rfl) (fun b5=>?_)))
  refine KI rfl (KU (KQ (Kw rfl) (Nb rfl) (fun b6=>?_)))
  refine KI rfl (KU (KQ (Kh zr_60) (Nb rfl) (fun b8=>?_)))
  refine KA (KF (v:=.int .i64 ((0:Nat):Int)) rfl) (Nb rfl) ?_
  refine KG ?_
  refine KD (KB ?_)
  refine KA (KE rfl) (Nb rfl) ?_
  refine KI rfl (KU (Kx (Post:=fun v its=>∃ b f bd,v = .pointer (some ⟨b,0,none⟩)∧its = [.blk b ⟨false,opL V f,147,(0,0)⟩,.blk f ⟨false,fldL V.p bd,194,(0,0)⟩,.blk bd ⟨false,dvL V.p,241,(0,0)⟩]) (first:=[]) rfl en_112 rfl (Nb rfl) (fun w1 hw hs=>(c_Open _ V w1 h).mono fun e w' ⟨b,f,bd,h1,h2,h3,h4,h5,h6,h7,h8⟩=>⟨_,_,⟨b,f,bd,rfl,rfl⟩,h1,Brings.nums h8 (by intro x hx; simp at hx; rcases hx with rfl|rfl|rfl; exact h2; exact h3; exact h4) (by intro x hx; simp at hx; rcases hx with rfl|rfl|rfl <;> rfl) (by intro x hx k hk; simp at hx; rcases hx with rfl|rfl|rfl <;> simp [Item.fp] at hk <;> subst hk; exact .inl h5; exact .inl h6; exact .inl h7)⟩) ?_))
  rintro _ _ ⟨b,f,bd,rfl,rfl⟩
  refine KA (KF rfl) (Nb rfl) ?_
  refine KG ?_
  refine KD ?_
  refine LCode.block ?_
  refine KD (KB ?_)
  refine KA (KE rfl) (Nb rfl) ?_
  refine KA (KV (Det.eqp Try.underlying142 rfl rfl) (show _ = Value.bool false from rfl)) (Nb rfl) ?_
  refine KA (KF rfl) (Nb rfl) ?_
  refine KG ?_
  refine Ki rfl ?_
  refine KD (KB ?_)
  refine KA (KE rfl) (Nb rfl) ?_
  refine LOps.det (KK rfl (by repeat (first|exact Mh _|apply Mt)) (by exact KN Try.underlying60 rfl sz_60)) (Nb rfl) ?_
  refine KI rfl (KU (KR (first:=[]) rfl en_122 rfl (Nb rfl) (fun w hw=>c_cOnP V b f bd hok (P) w (hw _ (by repeat (first|exact Mh _|apply Mt))) (hw _ (by repeat (first|exact Mh _|apply Mt))) (hw _ (by repeat (first|exact Mh _|apply Mt))) hP) ?_))
  refine KA (KV (Det.not rfl) (show _ = Value.bool false from rfl)) (Nb rfl) ?_
  refine KA (KE rfl) (Nb rfl) ?_
  refine Kp rfl rfl (KE rfl) (Nb rfl) ?_
  refine LOps.detG rfl rfl (KK rfl (by repeat (first|exact Mh _|apply Mt)) (by exact KN Try.underlying60 rfl sz_60)) (Nb rfl) ?_
  refine LOps.stepG rfl rfl rfl (KU (KR (first:=[]) rfl en_122 rfl (Nb rfl) (fun w hw=>c_cOnP V b f bd hok (P2) w (hw _ (by repeat (first|exact Mh _|apply Mt))) (hw _ (by repeat (first|exact Mh _|apply Mt))) (hw _ (by repeat (first|exact Mh _|apply Mt))) hP2) ?_))
  refine Kp rfl rfl (KV (Det.not rfl) (show _ = Value.bool false from rfl)) (Nb rfl) ?_
  refine KA (KAO rfl rfl) (Nb rfl) ?_
  refine KA (KF rfl) (Nb rfl) ?_
  refine KG ?_
  refine Ki rfl ?_
  refine Kd ?_
  refine KD (KB ?_)
  refine KA (KE rfl) (Nb rfl) ?_
  refine KA (KE rfl) (Nb rfl) ?_
  refine KA (KV (KAU pl_169 zr_169 rfl rfl) (show _ = Value.agg ([.pointer (some ⟨b,0,none⟩)]:List Value).toArray from rfl)) (Nb rfl) ?_
  refine LOps.det (KK rfl (by repeat (first|exact Mh _|apply Mt)) (by exact KN Try.underlying60 rfl sz_60)) (Nb rfl) ?_
  refine LOps.det (KK rfl (by repeat (first|exact Mh _|apply Mt)) (by exact KN Try.underlying60 rfl sz_60)) (Nb rfl) ?_
  refine KI rfl (KU (LStep.callK (caps:=[.pointer (some ⟨bk,0,none⟩)]) rfl he rfl (Nb rfl) (fun w hw=>hc b f bd w (hw _ (by repeat (first|exact Mh _|apply Mt))) (hw _ (by repeat (first|exact Mh _|apply Mt))) (hw _ (by repeat (first|exact Mh _|apply Mt))) (hw _ (by repeat (first|exact Mh _|apply Mt)))) ?_))
  refine KI rfl (KP rfl rfl sz_60 (by repeat (first|exact Kl _|exact Kz _ _ _|exact Kn _|exact Ko _ _ _|exact Ky _ _ _|exact KX|refine KT rfl ?_|refine KW ?_ ?_)) (by repeat (first|exact Sh _|apply St_)) (by first|exact KH _|exact KO _ _ _|exact KJ _|exact KS _ _ _|exact Kf _ _ _|rfl|simp [KO,KH,KJ]) ?_)
  refine KA (KF (v:=.int .i64 ((0:Nat):Int)) rfl) (Nb rfl) ?_
  refine KG (KZ ?_)
  refine ⟨[_,_],.cons ⟨_,_,_,rfl,(by repeat (first|exact Mh _|apply Mt)),by exact KN Try.underlying60 rfl sz_60⟩ (.cons rfl .nil),fun a w' hr=>⟨?_,hr.fr.below⟩⟩
  rfl
theorem c_affAdd (id:Int) (V:Cv) (P P2 R:Pt V.p) (w:World) (h:cvI id = some V) (hP:On V.A V.B P) (hP2:On V.A V.B P2) (hR:padd V.A P P2 = R):Calls Try.prog 88 ([.int .i64 id,ptP P,ptP P2]:List Value).toArray w (fun e w'=>e = .returned (.tuple #[ptP R,.int .i64 ((0:Nat):Int)])∧Below w.heap.size w w'):=by
  obtain ⟨hok,hid⟩:=cvI_ok h
  refine KAE (N:=14) (rs:=[.cell 6 60,.tmp 7]) [] Try.func88 rfl Try.ntmps88 Try.results88 (Nb rfl) trivial rfl ?_
  show LCode _ _ _ ⟨_,_⟩ _
  refine KD (KB ?_)
  refine KI rfl (KU (KQ (Kw rfl) (Nb rfl) (fun b4=>?_)))
  refine KI rfl (KU (KQ (Kw rfl) (Nb rfl) (fun b5=>?_)))
  refine KI rfl (KU (KQ (Kh zr_60) (Nb rfl) (fun b6=>?_)))
  refine KA (KF (v:=.int .i64 ((0:Nat):Int)) rfl) (Nb rfl) ?_
  refine KG ?_
  refine KD (KB ?_)
  refine KA (KE rfl) (Nb rfl) ?_
  refine LOps.det (KK rfl (by repeat (first|exact Mh _|apply Mt)) (by exact KN Try.underlying60 rfl sz_60)) (Nb rfl) ?_
  refine LOps.det (KK rfl (by repeat (first|exact Mh _|apply Mt)) (by exact KN Try.underlying60 rfl sz_60)) (Nb rfl) ?_
  refine KI rfl (KU (KR (first:=[]) rfl en_130 rfl (Nb rfl) (fun w hw=>c_do_ok id V P P2 R 131 w h hP hP2 en_131 (fun b f bd w h1 h2 h3=>c_gadd V b f bd hok P P2 R w h1 h2 h3 hP hP2 hR)) ?_))
  refine KA (Kg rfl rfl) (Nb rfl) ?_
  refine KA (Kg rfl rfl) (Nb rfl) ?_
  refine KI rfl (KP rfl rfl sz_60 (by repeat (first|exact Kl _|exact Kz _ _ _|exact Kn _|exact Ko _ _ _|exact Ky _ _ _|exact KX|refine KT rfl ?_|refine KW ?_ ?_)) (by repeat (first|exact Sh _|apply St_)) (by first|exact KH _|exact KO _ _ _|exact KJ _|exact KS _ _ _|exact Kf _ _ _|rfl|simp [KO,KH,KJ]) ?_)
  refine KA (KF rfl) (Nb rfl) ?_
  refine KG (KZ ?_)
  refine ⟨[_,_],.cons ⟨_,_,_,rfl,(by repeat (first|exact Mh _|apply Mt)),by exact KN Try.underlying60 rfl sz_60⟩ (.cons rfl .nil),fun a w' hr=>⟨?_,hr.fr.below⟩⟩
  rfl
theorem c_affMul (id:Int) (V:Cv) (K:Nat) (P:Pt V.p) (w:World) (h:cvI id = some V) (hP:On V.A V.B P) (hK:K<W9):Calls Try.prog 91 ([.int .i64 id,natV K,ptP P]:List Value).toArray w (fun e w'=>e = .returned (.tuple #[ptP (pmul V.A P K),.int .i64 ((0:Nat):Int)])∧Below w.heap.size w w'):=by
  obtain ⟨hok,hid⟩:=cvI_ok h
  refine KAE (N:=15) (rs:=[.cell 6 60,.tmp 7]) [] Try.func91 rfl Try.ntmps91 Try.results91 (Nb rfl) trivial rfl ?_
  show LCode _ _ _ ⟨_,_⟩ _
  refine KD (KB ?_)
  refine KI rfl (KU (KQ (Kw rfl) (Nb rfl) (fun b4=>?_)))
  refine KI rfl (KU (KQ (Kw rfl) (Nb rfl) (fun b5=>?_)))
  refine KI rfl (KU (KQ (Kh zr_60) (Nb rfl) (fun b6=>?_)))
  refine KA (KF (v:=.int .i64 ((0:Nat):Int)) rfl) (Nb rfl) ?_
  refine KG ?_
  refine KD (KB ?_)
  refine KA (KE rfl) (Nb rfl) ?_
  refine LOps.det (KK rfl (by repeat (first|exact Mh _|apply Mt)) (by exact KN Try.underlying60 rfl sz_60)) (Nb rfl) ?_
  refine LOps.det (KK rfl (by repeat (first|exact Mh _|apply Mt)) (by exact KN Try.underlying60 rfl sz_60)) (Nb rfl) ?_
  refine KA (Det.makeFuncC1 rfl) (Nb rfl) ?_
  refine KI rfl (KU (KR (first:=[]) rfl en_130 rfl (Nb rfl) (fun w hw=>c_do_okK id V P P (pmul V.A P K) 133 K b4 w h hP hP en_133 (fun b f bd w h1 h2 h3 hk=>c_gmul V b f bd hok K b4 hK P _ _ _ w h1 h2 h3 hP hk) (show (Item.blk b4 ⟨true,_,_,_⟩).holds w from hw _ (by repeat (first|exact Mh _|apply Mt)))) ?_))
  refine KA (Kg rfl rfl) (Nb rfl) ?_
  refine KA (Kg rfl rfl) (Nb rfl) ?_
  refine KI rfl (KP rfl rfl sz_60 (by repeat (first|exact Kl _|exact Kz _ _ _|exact Kn _|exact Ko _ _ _|exact Ky _ _ _|exact KX|refine KT rfl ?_|refine KW ?_ ?_)) (by repeat (first|exact Sh _|apply St_)) (by first|exact KH _|exact KO _ _ _|exact KJ _|exact KS _ _ _|exact Kf _ _ _|rfl|simp [KO,KH,KJ]) ?_)
  refine KA (KF rfl) (Nb rfl) ?_
  refine KG (KZ ?_)
  refine ⟨[_,_],.cons ⟨_,_,_,rfl,(by repeat (first|exact Mh _|apply Mt)),by exact KN Try.underlying60 rfl sz_60⟩ (.cons rfl .nil),fun a w' hr=>⟨?_,hr.fr.below⟩⟩
  rfl
end Go.Proofs.Ytljblbgogjieaaa
set_option linter.unusedVariables false
set_option linter.unusedSimpArgs false
set_option maxRecDepth 20000
namespace Go.Proofs.Ytljblbgogjieaaa
open Go Go.RowKit
open Grp
theorem c_r_GP (Q:CQ) (V:Cv) (w:World) (hc:(crvI Q V).holds w) (hok:V.Ok):Calls Try.prog 80 ([.agg (crvL Q V).toArray]:List Value).toArray w (fun e w'=>Num2R w (crvI Q V).fp (xv V.G) (yv V.G) (fun u v=>rpV u v (iv V.G)) e w'):=by
  rw [xG hok,yG hok]
  exact c_r_G Q V w hc
theorem c_r_OutP (V:Cv) (q r:NV) (P:Pt V.p) (w:World) (hq:(numT q (xv P)).holds w) (hr:(numT r (yv P)).holds w):Calls Try.prog 66 ([rpV (numV q (xv P)) (numV r (yv P)) (iv P)]:List Value).toArray w (fun e w'=>e = .returned (ptP P)∧Below w.heap.size w w'):=c_r_Out q r (xv P) (yv P) (iv P) w hq hr
theorem c_awake20  (w:World)  : Calls Try.prog 78 ([]:List Value).toArray w (fun e w'=>e = .returned (.bool true)∧Below w.heap.size w w'):=by
  obtain ⟨V,hV⟩:∃ V,V = cv13:=⟨_,rfl⟩
  have h:cvI 13 = some V:=by rw [hV]; rfl
  obtain ⟨hok,hid⟩:=cvI_ok h
  have hn13:V.n = 223:=by rw [hV]; rfl
  obtain ⟨hb5,hb521,hba,hbb,hbx,hby,hbn,hbo,hbo2,hbb1,hbn1⟩:=hok.bounds
  have hsz:=hok.sz
  have hsp:=hsz.p
  have hsa:=hsz.a
  have hsb:=hsz.b
  have hp0:V.p≠0:=by omega
  have hpp:0<V.p:=by omega
  have hm17:∀ k,D.nw (k%V.p)≤17:=fun k=>Nat.le_trans (D.nw_mono (Nat.le_of_lt (Nat.mod_lt k hpp))) hsp
  refine KAE (N:=62) (rs:=[.tmp 0]) [] Try.func78 rfl Try.ntmps78 Try.results78 (Nb rfl) trivial rfl ?_
  show LCode _ _ _ ⟨_,_⟩ _
  refine KD (KB ?_)
  refine KA (KF rfl) (Nb rfl) ?_
  refine KG ?_
  refine KD (KB ?_)
  refine KI rfl (KU (Kx (Post:=fun v its=>∃ Q,v = .tuple #[.agg (crvL Q V).toArray,.bool true]∧its = [crvI Q V]) (first:=[]) rfl en_43 rfl (Nb rfl) (fun w1 hw hs=>(c_r_Get _ V w1 h).mono fun e w' ⟨Q,h1,h2,h3,h4⟩=>⟨_,_,⟨Q,rfl,rfl⟩,h1,Brings.nums h4 (by intro x hx; simp at hx; subst hx; exact h2) (by intro x hx; simp at hx; subst hx; rfl) (by intro x hx k hk; simp at hx; subst hx; exact .inl (h3 k hk))⟩) ?_))
  rintro _ _ ⟨Q,rfl,rfl⟩
  refine KA (KE rfl) (Nb rfl) ?_
  refine KA (Kg rfl rfl) (Nb rfl) ?_
  refine KA (Kg rfl rfl) (Nb rfl) ?_
  refine KI rfl (KU (KQ (Kh zr_31) (Nb rfl) (fun b1=>?_)))
  refine KI rfl (KP rfl rfl sz_31 (by repeat (first|exact KX|refine KT rfl ?_)) (by repeat (first|exact Sh _|apply St_)) (by rfl) ?_)
  refine KA (KF rfl) (Nb rfl) ?_
  refine KG ?_
  refine KD (KB ?_)
  refine LOps.det (KK rfl (by repeat (first|exact Mh _|apply Mt)) (by exact KN Try.underlying31 rfl sz_31)) (Nb rfl) ?_
  refine KI rfl (KU (Kx (first:=[]) rfl en_80 rfl (Nb rfl) (fun w hw hs=>(c_r_GP Q V w (hw _ (by repeat (first|exact Mh _|apply Mt))) hok).mono fun e w' h=>Num2R.q (Old.one (x:=crvI Q V) (by repeat (first|exact Mh _|apply Mt)) rfl) hs h) ?_))
  rintro _ _ ⟨qga,qgb,rfl,rfl,hnga,hngb⟩
  refine KI rfl (KU (KR (first:=[]) rfl en_66 rfl (Nb rfl) (fun w hw=>c_r_OutP V qga qgb (V.G) w (hw _ (by repeat (first|exact Mh _|apply Mt))) (hw _ (by repeat (first|exact Mh _|apply Mt)))) ?_))
  refine KI rfl (KU (KQ (Kh zr_60) (Nb rfl) (fun b3=>?_)))
  refine KI rfl (KP rfl rfl sz_60 (by exact Ko _ _ _) (by repeat (first|exact Sh _|apply St_)) (by exact KS _ _ _) ?_)
  refine KG ?_
  refine KD ?_
  refine Ka [8] (by kernel_rfl) ?_
  refine LAny.take 2 rfl (by kernel_rfl) (Nb rfl) (KK rfl (by repeat (first|exact Mh _|apply Mt)) (by exact KN Try.underlying60 rfl sz_60)) ?_
  refine KAk ?_
  refine KAP 7 rfl (.inl zr_60) (Nb rfl) rfl rfl rfl ?_
  refine Kq 0 rfl rfl rfl (Nb rfl) (by kernel_rfl) rfl (Kt (first:=[]) rfl en_55 rfl (fun w hw=>c_One _ w (by first|omega|decide))) ?_
  rintro _ _ ⟨rfl,rfl⟩
  refine Kq 1 rfl rfl rfl (Nb rfl) (by kernel_rfl) rfl (Kt (first:=[]) rfl en_55 rfl (fun w hw=>c_One _ w (by first|omega|decide))) ?_
  rintro _ _ ⟨rfl,rfl⟩
  refine Kq 3 rfl rfl rfl (Nb rfl) (by kernel_rfl) rfl (Kt (first:=[]) rfl en_77 rfl (fun w hw=>c_dualMul 13 V 1 1 V.G w h hok.on (by omega) (by omega))) ?_
  rintro _ _ ⟨rfl,rfl⟩
  refine KAA 4 rfl (by kernel_rfl) (Nb rfl) rfl (KE rfl) ?_
  refine KAA 5 rfl (by kernel_rfl) (Nb rfl) rfl (Kg rfl rfl) ?_
  refine KAA 6 rfl (by kernel_rfl) (Nb rfl) rfl (Kg rfl rfl) ?_
  refine KAZ (by kernel_rfl) (fun b4=>?_)
  refine KAV ?_
  refine Km 8 rfl rfl (by kernel_rfl) (by kernel_rfl) (KP rfl rfl sz_60 (by exact Ko _ _ _) (by repeat (first|exact Sh _|apply St_)) (by exact KS _ _ _) ?_)
  refine KC 9 rfl (by kernel_rfl) (Nb rfl) (KF rfl) ?_
  refine Kj (by kernel_rfl) ?_
  refine KD ?_
  refine Ka [8] (by kernel_rfl) ?_
  refine LAny.take 2 rfl (by kernel_rfl) (Nb rfl) (KK rfl (by repeat (first|exact Mh _|apply Mt)) (by exact KN Try.underlying60 rfl sz_60)) ?_
  refine KAk ?_
  refine KAP 7 rfl (.inl zr_60) (Nb rfl) rfl rfl rfl ?_
  refine Kq 0 rfl rfl rfl (Nb rfl) (by kernel_rfl) rfl (Kt (first:=[]) rfl en_55 rfl (fun w hw=>c_One _ w (by first|omega|decide))) ?_
  rintro _ _ ⟨rfl,rfl⟩
  refine Kq 1 rfl rfl rfl (Nb rfl) (by kernel_rfl) rfl (Kt (first:=[]) rfl en_55 rfl (fun w hw=>c_One _ w (by first|omega|decide))) ?_
  rintro _ _ ⟨rfl,rfl⟩
  refine Kq 3 rfl rfl rfl (Nb rfl) (by kernel_rfl) rfl (Kt (first:=[]) rfl en_77 rfl (fun w hw=>c_dualMul_range 13 V 223 1 V.G w h hok.on (u64_w9 (by decide)) (u64_w9 (by decide)) (.inl (by omega)))) ?_
  rintro _ _ ⟨rfl,rfl⟩
  refine KAA 4 rfl (by kernel_rfl) (Nb rfl) rfl (KE rfl) ?_
  refine KAA 5 rfl (by kernel_rfl) (Nb rfl) rfl (Kg rfl rfl) ?_
  refine KAA 6 rfl (by kernel_rfl) (Nb rfl) rfl (Kg rfl rfl) ?_
  refine KAZ (by kernel_rfl) (fun b6=>?_)
  refine KAV ?_
  refine Km 8 rfl rfl (by kernel_rfl) (by kernel_rfl) (KP rfl rfl sz_60 (by exact Ko _ _ _) (by repeat (first|exact Sh _|apply St_)) (by exact KS _ _ _) ?_)
  refine KC 9 rfl (by kernel_rfl) (Nb rfl) (KF rfl) ?_
  refine Kj (by kernel_rfl) ?_
  refine KD ?_
  refine Ka [8] (by kernel_rfl) ?_
  refine LAny.take 2 rfl (by kernel_rfl) (Nb rfl) (KK rfl (by repeat (first|exact Mh _|apply Mt)) (by exact KN Try.underlying60 rfl sz_60)) ?_
  refine KAk ?_
  refine KAP 7 rfl (.inl zr_60) (Nb rfl) rfl rfl rfl ?_
  refine Kq 0 rfl rfl rfl (Nb rfl) (by kernel_rfl) rfl (Kt (first:=[]) rfl en_55 rfl (fun w hw=>c_One _ w (by first|omega|decide))) ?_
  rintro _ _ ⟨rfl,rfl⟩
  refine Kq 1 rfl rfl rfl (Nb rfl) (by kernel_rfl) rfl (Kt (first:=[]) rfl en_55 rfl (fun w hw=>c_One _ w (by first|omega|decide))) ?_
  rintro _ _ ⟨rfl,rfl⟩
  refine Kq 3 rfl rfl rfl (Nb rfl) (by kernel_rfl) rfl (Kt (first:=[]) rfl en_77 rfl (fun w hw=>c_dualMul_none 0 1 1 (xv V.G) (yv V.G) (iv V.G) w rfl)) ?_
  rintro _ _ ⟨rfl,rfl⟩
  refine KAA 4 rfl (by kernel_rfl) (Nb rfl) rfl (KE rfl) ?_
  refine KAA 5 rfl (by kernel_rfl) (Nb rfl) rfl (Kg rfl rfl) ?_
  refine KAA 6 rfl (by kernel_rfl) (Nb rfl) rfl (Kg rfl rfl) ?_
  refine KAZ (by kernel_rfl) (fun b8=>?_)
  refine KAV ?_
  refine Km 8 rfl rfl (by kernel_rfl) (by kernel_rfl) (KP rfl rfl sz_60 (by exact Ko _ _ _) (by repeat (first|exact Sh _|apply St_)) (by exact KS _ _ _) ?_)
  refine KC 9 rfl (by kernel_rfl) (Nb rfl) (KF rfl) ?_
  refine Kj (by kernel_rfl) ?_
  refine KD ?_
  refine Ka [] (by kernel_rfl) ?_
  refine KC 0 rfl (by kernel_rfl) (Nb rfl) (KE rfl) ?_
  refine Kr 1 rfl rfl (by kernel_rfl) (KR (first:=[]) rfl en_46 rfl (Nb rfl) (fun w hw=>c_Num _ w) ?_)
  refine KC 2 rfl (by kernel_rfl) (Nb rfl) (KL (v:=.bool true) rfl rfl (br_t (br_eql (b:=0)) (by first|rfl|assumption|omega|(simp; done)))) ?_
  refine KC 3 rfl (by kernel_rfl) (Nb rfl) (KE rfl) ?_
  refine KAm 4 rfl rfl rfl (by kernel_rfl) (Nb rfl) (KK rfl (by repeat (first|exact Mh _|apply Mt)) (by exact KN Try.underlying60 rfl sz_60)) ?_
  refine KAm 5 rfl rfl rfl (by kernel_rfl) (Nb rfl) (KK rfl (by repeat (first|exact Mh _|apply Mt)) (by exact KN Try.underlying31 rfl sz_31)) ?_
  refine KAm 6 rfl rfl rfl (by kernel_rfl) (Nb rfl) (KK rfl (by repeat (first|exact Mh _|apply Mt)) (by exact KN Try.underlying31 rfl sz_31)) ?_
  refine KAm 8 rfl rfl rfl (by kernel_rfl) (Nb rfl) (KK rfl (by repeat (first|exact Mh _|apply Mt)) (by exact KN Try.underlying31 rfl sz_31)) ?_
  refine LAny.oneG 7 rfl rfl rfl rfl (by kernel_rfl) (Kx (first:=[]) rfl en_80 rfl (Nb rfl) (fun w hw hs=>(c_r_GP Q V w (hw _ (by repeat (first|exact Mh _|apply Mt))) hok).mono fun e w' h=>Num2R.q (Old.one (x:=crvI Q V) (by repeat (first|exact Mh _|apply Mt)) rfl) hs h) ?_)
  rintro _ _ ⟨qka,qkb,rfl,rfl,hnka,hnkb⟩
  refine LAny.oneG 9 rfl rfl rfl rfl (by kernel_rfl) (Kx (first:=[]) rfl en_80 rfl (Nb rfl) (fun w hw hs=>(c_r_GP Q V w (hw _ (by repeat (first|exact Mh _|apply Mt))) hok).mono fun e w' h=>Num2R.q (Old.one (x:=crvI Q V) (by repeat (first|exact Mh _|apply Mt)) rfl) hs h) ?_)
  rintro _ _ ⟨qla,qlb,rfl,rfl,hnla,hnlb⟩
  refine LAny.oneG 10 rfl rfl rfl rfl (by kernel_rfl) (Kx (first:=[]) rfl en_79 rfl (Nb rfl) (fun w hw hs=>(c_r_Plus Q V qka qkb qla qlb (V.G) (V.G) (padd V.A V.G V.G) w (hw _ (by repeat (first|exact Mh _|apply Mt))) hok (hw _ (by repeat (first|exact Mh _|apply Mt))) (hw _ (by repeat (first|exact Mh _|apply Mt))) (hw _ (by repeat (first|exact Mh _|apply Mt))) (hw _ (by repeat (first|exact Mh _|apply Mt))) (hok.on) (hok.on) (rfl)).mono fun e w' h=>Num2R.q (Old.pt (by repeat (first|exact Mh _|apply Mt)) (by repeat (first|exact Mh _|apply Mt)) (Old.pt (by repeat (first|exact Mh _|apply Mt)) (by repeat (first|exact Mh _|apply Mt)) (Old.nil _))) hs h) ?_)
  rintro _ _ ⟨qsa,qsb,rfl,rfl,hnsa,hnsb⟩
  refine LAny.oneG 11 rfl rfl rfl rfl (by kernel_rfl) (KR (first:=[]) rfl en_66 rfl (Nb rfl) (fun w hw=>c_r_OutP V qsa qsb (padd V.A V.G V.G) w (hw _ (by repeat (first|exact Mh _|apply Mt))) (hw _ (by repeat (first|exact Mh _|apply Mt)))) ?_)
  refine KAF 12 rfl rfl rfl (by kernel_rfl) (Nb rfl) (KV (Det.eqa (by kernel_rfl) (fun w=>eq_ptP_t hok (P:=dualP V 1 1 V.G) (Q:=padd V.A V.G V.G) (by unfold dualP; rw [pmul_one hok.fld hok.on]) 10000 (by decide) w) rfl rfl) (show _ = Value.bool true by rfl)) ?_
  refine KC 13 rfl (by kernel_rfl) (Nb rfl) (KAQ rfl rfl) ?_
  refine KC 14 rfl (by kernel_rfl) (Nb rfl) (KE rfl) ?_
  refine KAF 15 rfl rfl rfl (by kernel_rfl) (Nb rfl) (KE rfl) ?_
  refine LAny.oneG 16 rfl rfl rfl rfl (by kernel_rfl) (KR (first:=[]) rfl en_46 rfl (Nb rfl) (fun w hw=>c_Num _ w) ?_)
  refine KAF 17 rfl rfl rfl (by kernel_rfl) (Nb rfl) (KL (v:=.bool true) rfl rfl (br_t (br_eql (b:=2002)) (by first|rfl|assumption|omega|(simp; done)))) ?_
  refine KC 18 rfl (by kernel_rfl) (Nb rfl) (KAQ rfl rfl) ?_
  refine KC 19 rfl (by kernel_rfl) (Nb rfl) (KE rfl) ?_
  refine KAF 20 rfl rfl rfl (by kernel_rfl) (Nb rfl) (KE rfl) ?_
  refine LAny.oneG 21 rfl rfl rfl rfl (by kernel_rfl) (KR (first:=[]) rfl en_46 rfl (Nb rfl) (fun w hw=>c_Num _ w) ?_)
  refine KAF 22 rfl rfl rfl (by kernel_rfl) (Nb rfl) (KL (v:=.bool true) rfl rfl (br_t (br_eql (b:=2000)) (by first|rfl|assumption|omega|(simp; done)))) ?_
  refine KC 23 rfl (by kernel_rfl) (Nb rfl) (KAQ rfl rfl) ?_
  refine KC 24 rfl (by kernel_rfl) (Nb rfl) (KF rfl) ?_
  refine Kj (by kernel_rfl) ?_
  refine KZ ?_
  refine ⟨[_],.cons rfl .nil,fun a w' hr=>⟨?_,hr.fr.below⟩⟩
  rfl
end Go.Proofs.Ytljblbgogjieaaa
set_option linter.unusedVariables false
set_option linter.unusedSimpArgs false
set_option maxRecDepth 20000
namespace Go.Proofs.Ytljblbgogjieaaa
open Go Go.RowKit
open Grp
theorem c_affMulR (id:Int) (V:Cv) (K:Nat) (P R:Pt V.p) (w:World) (h:cvI id = some V) (hP:On V.A V.B P) (hK:K<W9) (hR:pmul V.A P K = R):Calls Try.prog 91 ([.int .i64 id,natV K,ptP P]:List Value).toArray w (fun e w'=>e = .returned (.tuple #[ptP R,.int .i64 ((0:Nat):Int)])∧Below w.heap.size w w'):=hR ▸ c_affMul id V K P w h hP hK
theorem two_mul {V:Cv} (hok:V.Ok) {P:Pt V.p} (hP:On V.A V.B P):padd V.A P P = pmul V.A P 2:=by
  show _ = padd V.A (padd V.A .inf P) P
  rw [hok.inf_add hP]
end Go.Proofs.Ytljblbgogjieaaa
set_option linter.unusedVariables false
set_option linter.unusedSimpArgs false
set_option maxRecDepth 20000
namespace Go.Proofs.Ytljblbgogjieaaa
open Go Go.RowKit
open Grp
theorem add_mod {V:Cv} (hok:V.Ok) (i j:Nat):padd V.A (pmul V.A V.G i) (pmul V.A V.G j) = pmul V.A V.G ((i+j)%V.n):=by
  rw [← pmul_mod hok.crv hok.on hok.ord,pmul_add hok.crv hok.on]
end Go.Proofs.Ytljblbgogjieaaa
set_option linter.unusedVariables false
set_option linter.unusedSimpArgs false
set_option maxRecDepth 20000
namespace Go.Proofs.Ytljblbgogjieaaa
open Go Go.RowKit
open Grp
def TrHas (V:Cv) (X Y Z:Nat):Prop:=∃ T:Fin V.p×Fin V.p×Fin V.p,T.1.val = X∧T.2.1.val = Y∧T.2.2.val = Z∧HasF V.A V.B T.1 T.2.1 T.2.2
theorem RepT.has {V:Cv} {T:Fin V.p×Fin V.p×Fin V.p} {P:Pt V.p} (h:RepT V T P):TrHas V T.1.val T.2.1.val T.2.2.val:=⟨T,rfl,rfl,rfl,Rep.has h.rep h.on⟩
theorem TrHas.rep {V:Cv} (hok:V.Ok) {X Y Z:Nat} (h:TrHas V X Y Z):∃ (T:Fin V.p×Fin V.p×Fin V.p) (P:Pt V.p),T.1.val = X∧T.2.1.val = Y∧T.2.2.val = Z∧RepT V T P:=by
  obtain ⟨T,h1,h2,h3,h4⟩:=h
  obtain ⟨h5,h6⟩:=h4.rep hok.prime hok.fld
  exact ⟨T,_,h1,h2,h3,h5,h6⟩
end Go.Proofs.Ytljblbgogjieaaa
set_option linter.unusedVariables false
set_option linter.unusedSimpArgs false
set_option maxRecDepth 20000
namespace Go.Proofs.Ytljblbgogjieaaa
open Go Go.RowKit
open Grp
theorem c_DualParts (id:Int) (u v k:Nat) (w:World) (hu:u<18446744073709551616) (hv:v<18446744073709551616) (hk:k<18446744073709551616):Calls Try.prog 30 ([.int .i64 id,.int .u64 ((u:Nat):Int),.int .u64 ((v:Nat):Int),.int .u64 ((k:Nat):Int)]:List Value).toArray w (fun e w'=>e = .returned (.bool true)∧Below w.heap.size w w'):=by
  obtain ⟨V,h⟩:=cvI_idx id
  obtain ⟨hok,hid⟩:=cvI_ok h
  have h2:=cvI_id h
  obtain ⟨hb5,hb521,hba,hbb,hbx,hby,hbn,hbo,hbo2,hbb1,hbn1⟩:=hok.bounds
  have hsz:=hok.sz
  have hsp:=hsz.p
  have hsa:=hsz.a
  have hsb:=hsz.b
  have hp0:V.p≠0:=by omega
  have hpp:0<V.p:=by omega
  have hm17:∀ k,D.nw (k%V.p)≤17:=fun k=>Nat.le_trans (D.nw_mono (Nat.le_of_lt (Nat.mod_lt k hpp))) hsp
  have hpW:V.p<W9:=w9_521 hb521
  have hnW:V.n<W9:=w9_521 hbn
  have hxW:=Nat.lt_trans hbx hpW
  have hyW:=Nat.lt_trans hby hpW
  have hsn:=hsz.n
  have h17:∀ {A:Nat},A<V.p→D.nw A≤100000:=fun h=>Nat.le_trans (nw_521 (Nat.lt_trans h hb521)) (by decide)
  have hRq:=hok.mul hok.on (k)
  obtain ⟨R,hRe⟩:∃ P,pmul V.A V.G (k) = P:=⟨_,rfl⟩
  have hRo:On V.A V.B R:=hRe ▸ hRq
  have hd1:=nw_w9_dig (u64_w9 hu)
  have hd2:=nw_w9_dig (u64_w9 hv)
  have hn0:V.n≠0:=by omega
  have hnp:0<V.n:=by omega
  have hXn:=Nat.mod_lt u hnp
  have hYn:=Nat.mod_lt v hnp
  refine KAE (N:=135) (rs:=[.tmp 8]) [] Try.func30 rfl Try.ntmps30 Try.results30 (Nb rfl) trivial rfl ?_
  show LCode _ _ _ ⟨_,_⟩ _
  refine KD (KB ?_)
  refine KA (KF rfl) (Nb rfl) ?_
  refine KG ?_
  refine KD ?_
  refine KD (KB ?_)
  refine KI rfl (KU (KR (first:=[]) rfl en_78 rfl (Nb rfl) (fun w hw=>c_awake20 w) ?_))
  refine KA (KV (Det.not rfl) (show _ = Value.bool false from rfl)) (Nb rfl) ?_
  refine KG ?_
  refine Ki rfl ?_
  refine Kd ?_
  refine KD (KB ?_)
  refine KA (KE rfl) (Nb rfl) ?_
  refine KA (KV (Det.conv Try.underlying3 Try.underlying46 rfl) (uidx_eq _)) (Nb rfl) ?_
  refine KA (KL rfl rfl (br_rem64 (b:=15) (by omega))) (Nb rfl) ?_
  refine KA (Det.convi Try.underlying46 Try.underlying3 rfl (by omega)) (Nb rfl) ?_
  refine KA (KL rfl rfl (KAN (a:=1) (by omega))) (Nb rfl) ?_
  refine KI rfl (KU (Kx (Post:=fun v its=>∃ Q,v = .tuple #[.agg (crvL Q V).toArray,.bool true]∧its = [crvI Q V]) (first:=[]) rfl en_43 rfl (Nb rfl) (fun w1 hw hs=>(c_r_Get _ V w1 h).mono fun e w' ⟨Q,h1,h2,h3,h4⟩=>⟨_,_,⟨Q,rfl,rfl⟩,h1,Brings.nums h4 (by intro x hx; simp at hx; subst hx; exact h2) (by intro x hx; simp at hx; subst hx; rfl) (by intro x hx k hk; simp at hx; subst hx; exact .inl (h3 k hk))⟩) ?_))
  rintro _ _ ⟨Q,rfl,rfl⟩
  refine KA (KE rfl) (Nb rfl) ?_
  refine KA (Kg rfl rfl) (Nb rfl) ?_
  refine KA (Kg rfl rfl) (Nb rfl) ?_
  refine KI rfl (KU (KQ (Kh zr_31) (Nb rfl) (fun b9=>?_)))
  refine KI rfl (KP rfl rfl sz_31 (by repeat (first|exact KX|refine KT rfl ?_)) (by repeat (first|exact Sh _|apply St_)) (by rfl) ?_)
  refine KA (KF rfl) (Nb rfl) ?_
  refine KG ?_
  refine KD ?_
  refine KD (KB ?_)
  refine KA (KE rfl) (Nb rfl) ?_
  refine KA (KV (Det.not rfl) (show _ = Value.bool false from rfl)) (Nb rfl) ?_
  refine KG ?_
  refine Ki rfl ?_
  refine Kd ?_
  refine KD ?_
  refine Ka [16,17] (by kernel_rfl) ?_
  refine KC 0 rfl (by kernel_rfl) (Nb rfl) (KE rfl) ?_
  refine KC 3 rfl (by kernel_rfl) (Nb rfl) (KM (o':=4) Try.underlying31 rfl rfl rfl sz_29 (by decide)) ?_
  refine LAny.take 4 rfl (by kernel_rfl) (Nb rfl) (KK rfl (by repeat (first|exact Mh _|apply Mt)) (KY Try.underlying29 rfl (by first|rfl|exact Kv _ _ _ (by omega)|exact Ku _ (by omega)|exact Ks _ (by omega)|exact dv_m _ _ _ (by omega)))) ?_
  refine KC 7 rfl (by kernel_rfl) (Nb rfl) (KE rfl) ?_
  refine KC 10 rfl (by kernel_rfl) (Nb rfl) (KM (o':=4) Try.underlying31 rfl rfl rfl sz_29 (by decide)) ?_
  refine LAny.takeW [12,13,16,17] 11 rfl (by kernel_rfl) (Nb rfl) (KK rfl (by repeat (first|exact Mh _|apply Mt)) (KY Try.underlying29 rfl (by first|rfl|exact Kv _ _ _ (by omega)|exact Ku _ (by omega)|exact Ks _ (by omega)|exact dv_m _ _ _ (by omega)))) ?_
  refine KAk ?_
  refine KAP 14 rfl (.inl zr_25) (Nb rfl) rfl rfl rfl ?_
  refine KAP 15 rfl (.inl zr_25) (Nb rfl) rfl rfl rfl ?_
  refine Kq 1 rfl rfl rfl (Nb rfl) (by kernel_rfl) rfl (Kt (first:=[]) rfl en_55 rfl (fun w hw=>c_One u w hu)) ?_
  rintro _ _ ⟨rfl,rfl⟩
  refine Kq 2 rfl rfl rfl (Nb rfl) (by kernel_rfl) rfl (LExt.callZ (first:=[]) rfl en_52 rfl (fun w hw hs=>(c_n_From (u) (u64_w9 hu) w).mono fun e w' h=>KAq (Old.nil _) hs h)) ?_
  rintro _ _ ⟨qu,rfl,rfl,hnu⟩
  refine Kq 5 rfl rfl rfl (Nb rfl) (by kernel_rfl) rfl (LExt.callZ (first:=[]) rfl en_51 rfl (fun w hw hs=>(c_n_Mod qu Q.n u V.n hn0 w (hw _ (by repeat (first|exact Mh _|apply Mt))) (crvI_n (hw _ (by repeat (first|exact Mh _|apply Mt)))) (by omega)).mono fun e w' h=>KAq (Old.one (x:=numT qu u) (by repeat (first|exact Mh _|apply Mt)) rfl) hs h)) ?_
  rintro _ _ ⟨qx,rfl,rfl,hnx⟩
  refine Kq 6 rfl rfl rfl (Nb rfl) (by kernel_rfl) rfl (Kt (first:=[]) rfl en_50 rfl (fun w hw=>c_n_Nat qx (u%V.n) (D.nw (u%V.n)) w (hw _ (by repeat (first|exact Mh _|apply Mt))))) ?_
  rintro _ _ ⟨rfl,rfl⟩
  refine Kq 8 rfl rfl rfl (Nb rfl) (by kernel_rfl) rfl (Kt (first:=[]) rfl en_55 rfl (fun w hw=>c_One v w hv)) ?_
  rintro _ _ ⟨rfl,rfl⟩
  refine Kq 9 rfl rfl rfl (Nb rfl) (by kernel_rfl) rfl (LExt.callZ (first:=[]) rfl en_52 rfl (fun w hw hs=>(c_n_From (v) (u64_w9 hv) w).mono fun e w' h=>KAq (Old.nil _) hs h)) ?_
  rintro _ _ ⟨qv,rfl,rfl,hnv⟩
  refine Kq 12 rfl rfl rfl (Nb rfl) (by kernel_rfl) rfl (LExt.callZ (first:=[]) rfl en_51 rfl (fun w hw hs=>(c_n_Mod qv Q.n v V.n hn0 w (hw _ (by repeat (first|exact Mh _|apply Mt))) (crvI_n (hw _ (by repeat (first|exact Mh _|apply Mt)))) (by omega)).mono fun e w' h=>KAq (Old.one (x:=numT qv v) (by repeat (first|exact Mh _|apply Mt)) rfl) hs h)) ?_
  rintro _ _ ⟨qy,rfl,rfl,hny⟩
  refine Kq 13 rfl rfl rfl (Nb rfl) (by kernel_rfl) rfl (Kt (first:=[]) rfl en_50 rfl (fun w hw=>c_n_Nat qy (v%V.n) (D.nw (v%V.n)) w (hw _ (by repeat (first|exact Mh _|apply Mt))))) ?_
  rintro _ _ ⟨rfl,rfl⟩
  refine KAZ (by kernel_rfl) (fun b12=>?_)
  refine KAZ (by kernel_rfl) (fun b11=>?_)
  refine KAV ?_
  refine Km 16 rfl rfl (by kernel_rfl) (by kernel_rfl) (KP rfl rfl sz_25 (by exact Kl _) (by repeat (first|exact Sh _|apply St_)) (by exact KH _) ?_)
  refine Km 17 rfl rfl (by kernel_rfl) (by kernel_rfl) (KP rfl rfl sz_25 (by exact Kl _) (by repeat (first|exact Sh _|apply St_)) (by exact KH _) ?_)
  refine Kj (by kernel_rfl) ?_
  refine KD (KB ?_)
  refine LOps.det (KK rfl (by repeat (first|exact Mh _|apply Mt)) (by exact KN Try.underlying31 rfl sz_31)) (Nb rfl) ?_
  refine KI rfl (KU (Kx (first:=[]) rfl en_80 rfl (Nb rfl) (fun w hw hs=>(c_r_GP Q V w (hw _ (by repeat (first|exact Mh _|apply Mt))) hok).mono fun e w' h=>Num2R.q (Old.one (x:=crvI Q V) (by repeat (first|exact Mh _|apply Mt)) rfl) hs h) ?_))
  rintro _ _ ⟨qga,qgb,rfl,rfl,hnga,hngb⟩
  refine KI rfl (KU (KR (first:=[]) rfl en_66 rfl (Nb rfl) (fun w hw=>c_r_OutP V qga qgb (V.G) w (hw _ (by repeat (first|exact Mh _|apply Mt))) (hw _ (by repeat (first|exact Mh _|apply Mt)))) ?_))
  refine KI rfl (KU (KQ (Kh zr_60) (Nb rfl) (fun b13=>?_)))
  refine KI rfl (KP rfl rfl sz_60 (by exact Ko _ _ _) (by repeat (first|exact Sh _|apply St_)) (by exact KS _ _ _) ?_)
  refine KG ?_
  refine KD ?_
  refine Ka [10] (by kernel_rfl) ?_
  refine KC 0 rfl (by kernel_rfl) (Nb rfl) (KM (o':=0) Try.underlying31 rfl rfl rfl sz_3 (by decide)) ?_
  refine LAny.take 1 rfl (by kernel_rfl) (Nb rfl) (KK rfl (by repeat (first|exact Mh _|apply Mt)) (KY Try.underlying3 rfl (by first|rfl|exact Kv _ _ _ (by omega)|exact Ku _ (by omega)|exact Ks _ (by omega)|exact dv_m _ _ _ (by omega)))) ?_
  refine KC 2 rfl (by kernel_rfl) (Nb rfl) (KE rfl) ?_
  refine LAny.take 4 rfl (by kernel_rfl) (Nb rfl) (KK rfl (by repeat (first|exact Mh _|apply Mt)) (by exact KN Try.underlying60 rfl sz_60)) ?_
  refine KAk ?_
  refine KAP 9 rfl (.inl zr_60) (Nb rfl) rfl rfl rfl ?_
  refine Kq 3 rfl rfl rfl (Nb rfl) (by kernel_rfl) rfl (Kt (first:=[]) rfl en_55 rfl (fun w hw=>c_One k w hk)) ?_
  rintro _ _ ⟨rfl,rfl⟩
  refine Kq 5 rfl rfl rfl (Nb rfl) (by kernel_rfl) rfl (Kt (first:=[]) rfl en_91 rfl (fun w hw=>c_affMulR _ V k V.G R w h2 hok.on (u64_w9 hk) hRe)) ?_
  rintro _ _ ⟨rfl,rfl⟩
  refine KAA 6 rfl (by kernel_rfl) (Nb rfl) rfl (KE rfl) ?_
  refine KAA 7 rfl (by kernel_rfl) (Nb rfl) rfl (Kg rfl rfl) ?_
  refine KAA 8 rfl (by kernel_rfl) (Nb rfl) rfl (Kg rfl rfl) ?_
  refine KAZ (by kernel_rfl) (fun b14=>?_)
  refine KAV ?_
  refine Km 10 rfl rfl (by kernel_rfl) (by kernel_rfl) (KP rfl rfl sz_60 (by exact Ko _ _ _) (by repeat (first|exact Sh _|apply St_)) (by exact KS _ _ _) ?_)
  refine KC 11 rfl (by kernel_rfl) (Nb rfl) (KF rfl) ?_
  refine Kj (by kernel_rfl) ?_
  refine KD (KB ?_)
  refine KA (KM (o':=0) Try.underlying31 rfl rfl rfl sz_3 (by decide)) (Nb rfl) ?_
  refine LOps.det (KK rfl (by repeat (first|exact Mh _|apply Mt)) (KY Try.underlying3 rfl (by first|rfl|exact Kv _ _ _ (by omega)|exact Ku _ (by omega)|exact Ks _ (by omega)|exact dv_m _ _ _ (by omega)))) (Nb rfl) ?_
  refine LOps.det (KK rfl (by repeat (first|exact Mh _|apply Mt)) (by exact KN Try.underlying25 rfl sz_25)) (Nb rfl) ?_
  refine LOps.det (KK rfl (by repeat (first|exact Mh _|apply Mt)) (by exact KN Try.underlying25 rfl sz_25)) (Nb rfl) ?_
  refine LOps.det (KK rfl (by repeat (first|exact Mh _|apply Mt)) (by exact KN Try.underlying60 rfl sz_60)) (Nb rfl) ?_
  refine KI rfl (KU (KR (first:=[]) rfl en_77 rfl (Nb rfl) (fun w hw=>c_dualMul _ V (u%V.n) (v%V.n) R w h2 hRo hXn hYn) ?_))
  refine KA (KE rfl) (Nb rfl) ?_
  refine KA (Kg rfl rfl) (Nb rfl) ?_
  refine KA (Kg rfl rfl) (Nb rfl) ?_
  refine KI rfl (KU (KQ (Kh zr_60) (Nb rfl) (fun b16=>?_)))
  refine KI rfl (KP rfl rfl sz_60 (by exact Ko _ _ _) (by repeat (first|exact Sh _|apply St_)) (by exact KS _ _ _) ?_)
  refine KA (KF rfl) (Nb rfl) ?_
  refine KG ?_
  refine KD (KB ?_)
  refine KA (KM (o':=0) Try.underlying31 rfl rfl rfl sz_3 (by decide)) (Nb rfl) ?_
  refine LOps.det (KK rfl (by repeat (first|exact Mh _|apply Mt)) (KY Try.underlying3 rfl (by first|rfl|exact Kv _ _ _ (by omega)|exact Ku _ (by omega)|exact Ks _ (by omega)|exact dv_m _ _ _ (by omega)))) (Nb rfl) ?_
  refine LOps.det (KK rfl (by repeat (first|exact Mh _|apply Mt)) (by exact KN Try.underlying25 rfl sz_25)) (Nb rfl) ?_
  refine LOps.det (KK rfl (by repeat (first|exact Mh _|apply Mt)) (by exact KN Try.underlying60 rfl sz_60)) (Nb rfl) ?_
  refine KI rfl (KU (KR (first:=[]) rfl en_91 rfl (Nb rfl) (fun w hw=>c_affMul _ V (u%V.n) (V.G) w h2 hok.on (Nat.lt_trans hXn hnW)) ?_))
  refine KA (KE rfl) (Nb rfl) ?_
  refine KA (Kg rfl rfl) (Nb rfl) ?_
  refine KA (Kg rfl rfl) (Nb rfl) ?_
  refine KI rfl (KU (KQ (Kh zr_60) (Nb rfl) (fun b18=>?_)))
  refine KI rfl (KP rfl rfl sz_60 (by exact Ko _ _ _) (by repeat (first|exact Sh _|apply St_)) (by exact KS _ _ _) ?_)
  refine KA (KF rfl) (Nb rfl) ?_
  refine KG ?_
  refine KD (KB ?_)
  refine KA (KM (o':=0) Try.underlying31 rfl rfl rfl sz_3 (by decide)) (Nb rfl) ?_
  refine LOps.det (KK rfl (by repeat (first|exact Mh _|apply Mt)) (KY Try.underlying3 rfl (by first|rfl|exact Kv _ _ _ (by omega)|exact Ku _ (by omega)|exact Ks _ (by omega)|exact dv_m _ _ _ (by omega)))) (Nb rfl) ?_
  refine LOps.det (KK rfl (by repeat (first|exact Mh _|apply Mt)) (by exact KN Try.underlying25 rfl sz_25)) (Nb rfl) ?_
  refine LOps.det (KK rfl (by repeat (first|exact Mh _|apply Mt)) (by exact KN Try.underlying60 rfl sz_60)) (Nb rfl) ?_
  refine KI rfl (KU (KR (first:=[]) rfl en_91 rfl (Nb rfl) (fun w hw=>c_affMul _ V (v%V.n) (R) w h2 hRo (Nat.lt_trans hYn hnW)) ?_))
  refine KA (KE rfl) (Nb rfl) ?_
  refine KA (Kg rfl rfl) (Nb rfl) ?_
  refine KA (Kg rfl rfl) (Nb rfl) ?_
  refine KI rfl (KU (KQ (Kh zr_60) (Nb rfl) (fun b20=>?_)))
  refine KI rfl (KP rfl rfl sz_60 (by exact Ko _ _ _) (by repeat (first|exact Sh _|apply St_)) (by exact KS _ _ _) ?_)
  refine KA (KF rfl) (Nb rfl) ?_
  refine KG ?_
  refine KD (KB ?_)
  refine KA (KM (o':=0) Try.underlying31 rfl rfl rfl sz_3 (by decide)) (Nb rfl) ?_
  refine LOps.det (KK rfl (by repeat (first|exact Mh _|apply Mt)) (KY Try.underlying3 rfl (by first|rfl|exact Kv _ _ _ (by omega)|exact Ku _ (by omega)|exact Ks _ (by omega)|exact dv_m _ _ _ (by omega)))) (Nb rfl) ?_
  refine LOps.det (KK rfl (by repeat (first|exact Mh _|apply Mt)) (by exact KN Try.underlying60 rfl sz_60)) (Nb rfl) ?_
  refine LOps.det (KK rfl (by repeat (first|exact Mh _|apply Mt)) (by exact KN Try.underlying60 rfl sz_60)) (Nb rfl) ?_
  refine KI rfl (KU (KR (first:=[]) rfl en_88 rfl (Nb rfl) (fun w hw=>c_affAdd _ V (pmul V.A V.G (u%V.n)) (pmul V.A R (v%V.n)) (padd V.A (pmul V.A V.G (u%V.n)) (pmul V.A R (v%V.n))) w h2 (hok.mul hok.on _) (hok.mul hRo _) (rfl)) ?_))
  refine KA (KE rfl) (Nb rfl) ?_
  refine KA (Kg rfl rfl) (Nb rfl) ?_
  refine KA (Kg rfl rfl) (Nb rfl) ?_
  refine KI rfl (KU (KQ (Kh zr_60) (Nb rfl) (fun b22=>?_)))
  refine KI rfl (KP rfl rfl sz_60 (by exact Ko _ _ _) (by repeat (first|exact Sh _|apply St_)) (by exact KS _ _ _) ?_)
  refine KA (KF rfl) (Nb rfl) ?_
  refine KG ?_
  refine KD (KB ?_)
  refine KA (KM (o':=0) Try.underlying31 rfl rfl rfl sz_3 (by decide)) (Nb rfl) ?_
  refine LOps.det (KK rfl (by repeat (first|exact Mh _|apply Mt)) (KY Try.underlying3 rfl (by first|rfl|exact Kv _ _ _ (by omega)|exact Ku _ (by omega)|exact Ks _ (by omega)|exact dv_m _ _ _ (by omega)))) (Nb rfl) ?_
  refine KA (KV (KAU pl_25 zr_25 rfl rfl) (show _ = natV 0 by unfold natV natL; rw [← vec_zeros 9])) (Nb rfl) ?_
  refine KA (KV (KAU pl_25 zr_25 rfl rfl) (show _ = natV 0 by unfold natV natL; rw [← vec_zeros 9])) (Nb rfl) ?_
  refine LOps.det (KK rfl (by repeat (first|exact Mh _|apply Mt)) (by exact KN Try.underlying60 rfl sz_60)) (Nb rfl) ?_
  refine KI rfl (KU (KR (first:=[]) rfl en_77 rfl (Nb rfl) (fun w hw=>c_dualMul _ V 0 0 R w h2 hRo hnp hnp) ?_))
  refine KA (KE rfl) (Nb rfl) ?_
  refine KA (Kg rfl rfl) (Nb rfl) ?_
  refine KA (Kg rfl rfl) (Nb rfl) ?_
  refine KI rfl (KU (KQ (Kh zr_60) (Nb rfl) (fun b24=>?_)))
  refine KI rfl (KP rfl rfl sz_60 (by exact Ko _ _ _) (by repeat (first|exact Sh _|apply St_)) (by exact KS _ _ _) ?_)
  refine KA (KF rfl) (Nb rfl) ?_
  refine KG ?_
  refine KD (KB ?_)
  refine KA (KE rfl) (Nb rfl) ?_
  refine KI rfl (KU (KR (first:=[]) rfl en_46 rfl (Nb rfl) (fun w hw=>c_Num _ w) ?_))
  refine KA (KL (v:=.bool true) rfl rfl (br_t (br_eql (b:=0)) (by first|rfl|assumption|omega|(simp; done)))) (Nb rfl) ?_
  refine KA (KE rfl) (Nb rfl) ?_
  refine Kp rfl rfl (KE rfl) (Nb rfl) ?_
  refine LOps.stepG rfl rfl rfl (KU (KR (first:=[]) rfl en_46 rfl (Nb rfl) (fun w hw=>c_Num _ w) ?_))
  refine Kp rfl rfl (KL (v:=.bool true) rfl rfl (br_t (br_eql (b:=0)) (by first|rfl|assumption|omega|(simp; done)))) (Nb rfl) ?_
  refine KA (KAQ rfl rfl) (Nb rfl) ?_
  refine KA (KE rfl) (Nb rfl) ?_
  refine Kp rfl rfl (KE rfl) (Nb rfl) ?_
  refine LOps.stepG rfl rfl rfl (KU (KR (first:=[]) rfl en_46 rfl (Nb rfl) (fun w hw=>c_Num _ w) ?_))
  refine Kp rfl rfl (KL (v:=.bool true) rfl rfl (br_t (br_eql (b:=0)) (by first|rfl|assumption|omega|(simp; done)))) (Nb rfl) ?_
  refine KA (KAQ rfl rfl) (Nb rfl) ?_
  refine KA (KE rfl) (Nb rfl) ?_
  refine Kp rfl rfl (KE rfl) (Nb rfl) ?_
  refine LOps.stepG rfl rfl rfl (KU (KR (first:=[]) rfl en_46 rfl (Nb rfl) (fun w hw=>c_Num _ w) ?_))
  refine Kp rfl rfl (KL (v:=.bool true) rfl rfl (br_t (br_eql (b:=0)) (by first|rfl|assumption|omega|(simp; done)))) (Nb rfl) ?_
  refine KA (KAQ rfl rfl) (Nb rfl) ?_
  refine KA (KE rfl) (Nb rfl) ?_
  refine LOps.detG rfl rfl (KK rfl (by repeat (first|exact Mh _|apply Mt)) (by exact KN Try.underlying60 rfl sz_60)) (Nb rfl) ?_
  refine LOps.detG rfl rfl (KK rfl (by repeat (first|exact Mh _|apply Mt)) (by exact KN Try.underlying60 rfl sz_60)) (Nb rfl) ?_
  refine Kp rfl rfl (KV (Det.eqa (by kernel_rfl) (fun w=>eq_ptP_t hok (P:=dualP V (u%V.n) (v%V.n) R) (Q:=padd V.A (pmul V.A V.G (u%V.n)) (pmul V.A R (v%V.n))) (rfl) 10000 (by decide) w) rfl rfl) (show _ = Value.bool true by rfl)) (Nb rfl) ?_
  refine KA (KAQ rfl rfl) (Nb rfl) ?_
  refine KA (KE rfl) (Nb rfl) ?_
  refine LOps.detG rfl rfl (KK rfl (by repeat (first|exact Mh _|apply Mt)) (by exact KN Try.underlying60 rfl sz_60)) (Nb rfl) ?_
  refine Kp rfl rfl (KV (KAU pl_60 zr_60 rfl fill_ptInf) rfl) (Nb rfl) ?_
  refine Kp rfl rfl (KV (Det.eqa (by kernel_rfl) (fun w=>eq_ptP_t hok (P:=dualP V 0 0 R) (Q:=(.inf:Pt V.p)) (hok.add_inf trivial) 10000 (by decide) w) rfl rfl) (show _ = Value.bool true by rfl)) (Nb rfl) ?_
  refine KA (KAQ rfl rfl) (Nb rfl) ?_
  refine KA (KF rfl) (Nb rfl) ?_
  refine KG (KZ ?_)
  refine ⟨[_],.cons rfl .nil,fun a w' hr=>⟨?_,hr.fr.below⟩⟩
  rfl
open Grp
end Go.Proofs.Ytljblbgogjieaaa
set_option maxRecDepth 100000
namespace Go.Proofs.Ytljblbgogjieaaa
open Go
def ioChars:List Char:=([104,97,114,110,101,115,115,32,102,51,57,52,54,98,99,101,49,54,101,56,99,51,102,52,49,56,48,97,55,101,53,50,100,97,98,100,56,55,98,56,54,57,51,56,100,57,50,50,100,99,56,97,98,97,101,55,102,48,56,57,55,57,99,51,48,57,101,52,56,98,54,48,32,99,117,116,32,97,116,32,99,117,114,118,101,116,47,99,117,114,118,101,116,108,97,119,50,51,46,82,97,119,115,32,99,117,114,118,101,116,47,99,117,114,118,101,116,108,97,119,50,51,46,82,97,119,66,97,99,107,32,99,117,114,118,101,116,47,99,117,114,118,101,116,108,97,119,50,51,46,82,97,119,76,101,110,103,116,104,115,32,99,117,114,118,101,116,47,99,117,114,118,101,116,108,97,119,50,51,46,82,97,119,84,105,110,121,32,99,117,114,118,101,116,47,99,117,114,118,101,116,108,97,119,49,51,46,67,117,114,118,101,115,32,99,117,114,118,101,116,47,99,117,114,118,101,116,108,97,119,49,51,46,67,117,114,118,101,79,110,115,32,99,117,114,118,101,116,47,99,117,114,118,101,116,108,97,119,49,51,46,67,117,114,118,101,83,111,117,110,100,32,99,117,114,118,101,116,47,99,117,114,118,101,116,108,97,119,49,51,46,67,117,114,118,101,78,117,109,98,101,114,115,32,99,117,114,118,101,116,47,99,117,114,118,101,116,108,97,119,49,51,46,67,117,114,118,101,79,102,102,32,99,117,114,118,101,116,47,99,117,114,118,101,116,108,97,119,49,51,46,67,117,114,118,101,84,105,110,121,32,99,117,114,118,101,116,47,99,117,114,118,101,116,108,97,119,50,48,46,68,117,97,108,115,32,99,117,114,118,101,116,47,99,117,114,118,101,116,108,97,119,50,48,46,68,117,97,108,84,105,110,121,32,99,117,114,118,101,116,47,99,117,114,118,101,116,108,97,119,49,53,46,80,114,111,106,115,32,99,117,114,118,101,116,47,99,117,114,118,101,116,108,97,119,49,53,46,80,114,111,106,70,114,111,109,32,99,117,114,118,101,116,47,99,117,114,118,101,116,108,97,119,49,53,46,80,114,111,106,83,99,97,108,101,100,32,99,117,114,118,101,116,47,99,117,114,118,101,116,108,97,119,49,53,46,80,114,111,106,68,111,117,98,108,101,115,32,99,117,114,118,101,116,47,99,117,114,118,101,116,108,97,119,49,53,46,80,114,111,106,78,111,110,101,32,99,117,114,118,101,116,47,99,117,114,118,101,116,108,97,119,49,53,46,80,114,111,106,84,105,110,121,32,99,117,114,118,101,116,47,99,117,114,118,101,116,108,97,119,49,52,46,65,102,102,105,110,101,115,32,99,117,114,118,101,116,47,99,117,114,118,101,116,108,97,119,49,52,46,65,102,102,105,110,101,84,105,109,101,115,32,99,117,114,118,101,116,47,99,117,114,118,101,116,108,97,119,49,52,46,65,102,102,105,110,101,71,114,111,117,112,32,99,117,114,118,101,116,47,99,117,114,118,101,116,108,97,119,49,52,46,65,102,102,105,110,101,79,114,100,101,114,32,99,117,114,118,101,116,47,99,117,114,118,101,116,108,97,119,49,52,46,65,102,102,105,110,101,76,105,110,101,32,99,117,114,118,101,116,47,99,117,114,118,101,116,108,97,119,49,52,46,65,102,102,105,110,101,79,112,112,111,115,105,116,101,32,99,117,114,118,101,116,47,99,117,114,118,101,116,108,97,119,49,52,46,65,102,102,105,110,101,84,105,110,121,32,99,117,114,118,101,116,47,99,117,114,118,101,116,108,97,119,49,52,46,65,102,102,105,110,101,83,112,108,105,116,115,32,99,117,114,118,101,116,47,99,117,114,118,101,116,108,97,119,49,52,46,65,102,102,105,110,101,87,97,108,107,32,99,117,114,118,101,116,47,99,117,114,118,101,116,108,97,119,50,48,46,68,117,97,108,80,97,114,116,115,32,99,117,114,118,101,116,47,99,117,114,118,101,116,108,97,119,49,54,46,84,97,98,108,101,83,105,122,101,115,32,99,117,114,118,101,116,47,99,117,114,118,101,116,108,97,119,49,54,46,84,97,98,108,101,78,105,108,32,99,117,114,118,101,116,47,99,117,114,118,101,116,108,97,119,49,53,46,80,114,111,106,83,117,109,115,32,99,117,114,118,101,116,47,99,117,114,118,101,116,108,97,119,50,49,46,83,101,99,49,115,32,99,117,114,118,101,116,47,99,117,114,118,101,116,108,97,119,50,49,46,83,101,99,49,66,97,99,107,32,99,117,114,118,101,116,47,99,117,114,118,101,116,108,97,119,50,49,46,83,101,99,49,84,105,110,121,32,99,117,114,118,101,116,47,99,117,114,118,101,116,108,97,119,50,49,46,83,101,99,49,66,111,116,104,32,99,117,114,118,101,116,47,99,117,114,118,101,116,108,97,119,50,49,46,83,101,99,49,76,101,110,103,116,104,115,32,99,117,114,118,101,116,47,99,117,114,118,101,116,108,97,119,50,49,46,83,101,99,49,87,104,111,108,101,32,99,117,114,118,101,116,47,99,117,114,118,101,116,108,97,119,50,49,46,83,101,99,49,71,114,101,97,116,32,99,117,114,118,101,116,47,99,117,114,118,101,116,108,97,119,49,54,46,84,97,98,108,101,115,32,99,117,114,118,101,116,47,99,117,114,118,101,116,108,97,119,49,57,46,66,97,115,101,115]:List Nat).map Char.ofNat
theorem io_lit:Try.prog.initOrder = String.ofList ioChars:=by kernel_rfl
theorem io_list:Try.prog.initOrder.toList = ioChars:=by rw [io_lit,String.toList_ofList]
def cutW:List Char:=([99,117,116]:List Nat).map Char.ofNat
def ioRest:List (List Char):=(wordsSigns ioChars).drop 3
theorem io_words:behindMainWord (wordsSigns ioChars) = cutW :: ioRest:=by kernel_rfl
theorem io_strip (r:List (List Char)):stripLifts liftWords (cutW :: r) = ([],cutW :: r):=by kernel_rfl
theorem no_later:Try.prog.laysLater = false:=by kernel_rfl
theorem no_reflect:Try.prog.bearsReflect = false:=by kernel_rfl
theorem door_fits:Try.prog.doorFits [] = true:=by kernel_rfl
theorem and2 {a b:Bool} (h:a = true) (k:b = true):(a && b) = true:=by rw [h,k]; rfl
theorem or_right {a b:Bool} (h:b = true):(a || b) = true:=by rw [h]; cases a <;> rfl
theorem cut_is : (cutW == "cut".toList) = true := by kernel_rfl
theorem cut_gc : (cutW == "gc".toList) = false := by kernel_rfl
theorem cut_spec : (cutW == "spec".toList) = false := by kernel_rfl
theorem cut_carried : (cutW == "carried".toList) = false := by kernel_rfl
theorem head_carried (r : List (List Char)) : ((cutW :: r).head? == some "carried".toList) = false := cut_carried
theorem enter_of (P:Program) {r:List (List Char)} (h:behindMainWord (wordsSigns P.initOrder.toList) = cutW :: r) (h1:P.laysLater = false) (h2:P.bearsReflect = false) (h3:P.doorFits [] = true):P.mayEnter = true:=by
  unfold Program.mayEnter
  rw [h]
  dsimp only
  refine or_right (and2 (and2 (and2 (and2 ?_ ?_) ?_) ?_) ?_)
  · rw [io_strip]; exact cut_is
  · rw [io_strip,h1]; rfl
  · rw [io_strip,h2]; rfl
  · rw [io_strip]; rfl
  · rw [io_strip]; exact h3
theorem lifts_of (P:Program) {r:List (List Char)} (h:behindMainWord (wordsSigns P.initOrder.toList) = cutW :: r):(false == P.liftsFinal) = true:=by
  have hl:P.headLifts = []:=by
    unfold Program.headLifts
    rw [h,io_strip]
    simp only [ite_self]
  unfold Program.liftsFinal
  rw [h,hl]
  dsimp only
  rw [head_carried,Bool.false_and]
  rfl
theorem make_of (P:Program) {r:List (List Char)} (h:behindMainWord (wordsSigns P.initOrder.toList) = cutW :: r):(P.make == some .cut) = true:=by
  have:P.make = some .cut:=by
    unfold Program.make
    rw [h]
    dsimp only
    rw [if_neg (by rw [cut_gc,cut_spec]; exact fun h=>by cases h),if_pos (by rw [cut_is]; rfl)]
  rw [this]; rfl
theorem io_all:behindMainWord (wordsSigns Try.prog.initOrder.toList) = cutW :: ioRest:=by rw [io_list,io_words]
theorem fact_enter:Try.prog.mayEnter = true:=enter_of _ io_all no_later no_reflect door_fits
theorem fact_lifts:(false == Try.prog.liftsFinal) = true:=lifts_of _ io_all
theorem fact_make:(Try.prog.make == some .cut) = true:=make_of _ io_all
theorem fact_laid:laidOutB Try.prog = true:=by kernel_rfl
theorem fact_maps:mapsRowed Try.prog = true:=by kernel_rfl
theorem fact_heard:Try.prog.stopsHeard = true:=by kernel_rfl
end Go.Proofs.Ytljblbgogjieaaa
set_option linter.unusedVariables false
set_option linter.unusedSimpArgs false
set_option maxRecDepth 20000
namespace Go.Proofs.Ytljblbgogjieaaa
open Go Go.RowKit
open Grp
theorem nw1 {a:Nat} (h0:a≠0) (h:a<4294967296):D.nw a = 1:=D.nw_eq (n:=1) (by simpa using h) (.inr (by simp; omega))
theorem c_r_TimesS (Q:CQ) (V:Cv) (b c K:Nat) {wr:Bool} {ty:TypeId} {fz:Nat×Nat} (q r:NV) (P R:Pt V.p) (w:World) (hc:(crvI Q V).holds w) (hok:V.Ok) (hb:(Item.blk b ⟨wr,[Value.int .u32 ((K:Nat):Int)],ty,fz⟩).holds w) (h0:K≠0) (h32:K<4294967296) (hq:(numT q (xv P)).holds w) (hr:(numT r (yv P)).holds w) (hP:On V.A V.B P) (hR:pmul V.A P K = R):Calls Try.prog 64 ([.agg (crvL Q V).toArray,.slice (some ⟨b,0,none⟩) 1 c,rpV (numV q (xv P)) (numV r (yv P)) (iv P)]:List Value).toArray w (fun e w'=>Num2R w (fp2 q r P []) (xv R) (yv R) (fun u v=>rpV u v (iv R)) e w'):=by
  have e:Value.slice (some ⟨b,0,none⟩) 1 c = numV ⟨false,b,c⟩ K:=by
    show _ = slV _ (D.nw K)
    rw [nw1 h0 h32]; rfl
  rw [e]
  exact c_r_Times Q V ⟨false,b,c⟩ K q r P R w hc hok (n1_blk hb h32) (by rw [nw1 h0 h32]; decide) hq hr hP hR
noncomputable def cntD (V:Cv) (U:Nat) (Q:Pt V.p):Nat→Nat
  | 0=>0
  | v+1=>if iv (dualP V U v Q) = true then cntD V U Q v+1 else cntD V U Q v
theorem cntD_le (V:Cv) (U:Nat) (Q:Pt V.p):∀ v,cntD V U Q v≤v
  | 0=>Nat.le_refl _
  | v+1=>by
    have:=cntD_le V U Q v
    unfold cntD; split <;> omega
theorem cntD_only {V:Cv} {U n z:Nat} {Q:Pt V.p} (h:∀ v,v<n→(iv (dualP V U v Q) = true↔v = z)):∀ m,m≤n→cntD V U Q m = if z<m then 1 else 0
  | 0,_=>by simp [cntD]
  | m+1,hm=>by
    have ih:=cntD_only h m (by omega)
    have hk:=h m (by omega)
    unfold cntD
    by_cases e:m = z
    · rw [if_pos (hk.2 e),ih,if_neg (by omega),if_pos (by omega)]
    · rw [if_neg (fun h=>e (hk.1 h)),ih]
      by_cases l:z<m
      · rw [if_pos l,if_pos (by omega)]
      · rw [if_neg l,if_neg (by omega)]
theorem iv_inf {p:Nat} (P:Pt p):iv P = true↔P = .inf:=by
  rcases P with _|⟨x,y⟩
  · exact ⟨fun _=>rfl,fun _=>rfl⟩
  · exact ⟨fun h=>absurd (show false = true from h) (by decide),fun h=>(by cases h)⟩
theorem g_ne {V:Cv}:V.G≠.inf:=fun h=>by unfold Cv.G at h; cases h
theorem dual_inf {V:Cv} (hok:V.Ok) (U j v:Nat):iv (dualP V U v (pmul V.A V.G j)) = true↔V.n ∣ U+j*v:=by
  have e:dualP V U v (pmul V.A V.G j) = pmul V.A V.G (U+j*v):=by
    unfold dualP
    rw [← pmul_mul hok.crv hok.on,← pmul_add hok.crv hok.on]
  rw [e,iv_inf]
  constructor
  · exact fun h=>pmul_order hok.crv hok.on hok.order g_ne hok.ord h
  · rintro ⟨c,hc⟩
    rw [hc,pmul_mul hok.crv hok.on,hok.ord,pmul_inf (b:=V.B) hok.fld]
theorem cntD_one {V:Cv} (hok:V.Ok) (U j:Nat) (hj0:0<j) (hjn:j<V.n):cntD V U (pmul V.A V.G j) V.n = 1:=by
  have hcop:Nat.gcd j V.n = 1:=hok.order.cop (fun hd=>by have:=Nat.le_of_dvd hj0 hd; omega)
  have hn1:=hok.order.1
  obtain ⟨s,_,hs⟩:=inv_mod hcop (show 1<V.n by omega)
  have hz:V.n ∣ U+j*((V.n-U%V.n)*s%V.n):=by
    refine Nat.dvd_of_mod_eq_zero ?_
    rw [Nat.add_mod,Nat.mul_mod j,Nat.mod_mod,← Nat.mul_mod,show j*((V.n-U%V.n)*s) = (V.n-U%V.n)*(j*s) by rw [Nat.mul_left_comm],Nat.mul_mod _ (j*s),hs,Nat.mul_one,Nat.mod_mod,← Nat.add_mod]
    have h1:=Nat.div_add_mod U V.n
    have h2:=Nat.mod_lt U (show 0<V.n by omega)
    rw [show U+(V.n-U%V.n) = V.n*(U/V.n+1) by rw [Nat.mul_succ]; omega,Nat.mul_mod_right]
  have key:∀ v z,z≤v→v<V.n→V.n ∣ U+j*v→V.n ∣ U+j*z→v = z:=fun v z hle hv h1 h2=>by
    have h3:=Nat.dvd_sub h1 h2
    rw [Nat.add_sub_add_left,← Nat.mul_sub] at h3
    have h4:=Nat.Coprime.dvd_of_dvd_mul_left (Nat.Coprime.symm hcop) h3
    rcases Nat.eq_zero_or_pos (v-z) with h5|h5
    · omega
    · have:=Nat.le_of_dvd h5 h4; omega
  have hzn:=Nat.mod_lt ((V.n-U%V.n)*s) (show 0<V.n by omega)
  generalize (V.n-U%V.n)*s%V.n = z at *
  rw [cntD_only (n:=V.n) (z:=z) (fun v hv=>?_) V.n (Nat.le_refl _),if_pos hzn]
  rw [dual_inf hok]
  constructor
  · intro h
    rcases Nat.le_total z v with hle|hle
    · exact key v z hle hv h hz
    · exact (key z v hle hzn hz h).symm
  · rintro rfl; exact hz
theorem cvI_tinyD (x:Int):∃ V,cvI ((13+uidx x%3:Nat):Int) = some V∧V.n≤255∧201≤V.n∧D.nw V.n = 1:=by
  have h:uidx x%3 = 0∨uidx x%3 = 1∨uidx x%3 = 2:=by omega
  rcases h with h|h|h <;> rw [h]
  · exact ⟨cv13,rfl,by decide,by decide,by decide⟩
  · exact ⟨cv14,rfl,by decide,by decide,by decide⟩
  · exact ⟨cv15,rfl,by decide,by decide,by decide⟩
theorem c_DualTiny (which:Int) (k u:Nat) (w:World) (hk:k<18446744073709551616) (hu:u<18446744073709551616):Calls Try.prog 14 ([.int .i64 which,.int .u64 ((k:Nat):Int),.int .u64 ((u:Nat):Int)]:List Value).toArray w (fun e w'=>e = .returned (.bool true)∧Below w.heap.size w w'):=by
  obtain ⟨V,h,hn255,hn1,hnw1⟩:=cvI_tinyD which
  obtain ⟨hok,hid⟩:=cvI_ok h
  have h2:=cvI_id h
  obtain ⟨hb5,hb521,hba,hbb,hbx,hby,hbn,hbo,hbo2,hbb1,hbn1⟩:=hok.bounds
  have hsz:=hok.sz
  have hsp:=hsz.p
  have hsa:=hsz.a
  have hsb:=hsz.b
  have hp0:V.p≠0:=by omega
  have hpp:0<V.p:=by omega
  have hm17:∀ k,D.nw (k%V.p)≤17:=fun k=>Nat.le_trans (D.nw_mono (Nat.le_of_lt (Nat.mod_lt k hpp))) hsp
  have hun:=Nat.mod_lt u (show 0<V.n by omega)
  have hRq:=hok.mul hok.on (1+k%200)
  obtain ⟨R,hRe⟩:∃ P,pmul V.A V.G (1+k%200) = P:=⟨_,rfl⟩
  have hRo:On V.A V.B R:=hRe ▸ hRq
  refine KAE (N:=70) (rs:=[.tmp 6]) [] Try.func14 rfl Try.ntmps14 Try.results14 (Nb rfl) trivial rfl ?_
  show LCode _ _ _ ⟨_,_⟩ _
  refine KD (KB ?_)
  refine KA (KF rfl) (Nb rfl) ?_
  refine KG ?_
  refine KD ?_
  refine KD (KB ?_)
  refine KI rfl (KU (KR (first:=[]) rfl en_78 rfl (Nb rfl) (fun w hw=>c_awake20 w) ?_))
  refine KA (KV (Det.not rfl) (show _ = Value.bool false from rfl)) (Nb rfl) ?_
  refine KG ?_
  refine Ki rfl ?_
  refine Kd ?_
  refine KD (KB ?_)
  refine KA (KE rfl) (Nb rfl) ?_
  refine KA (KV (Det.conv Try.underlying3 Try.underlying46 rfl) (uidx_eq _)) (Nb rfl) ?_
  refine KA (KL rfl rfl (br_rem64 (b:=3) (by omega))) (Nb rfl) ?_
  refine KA (Det.convi Try.underlying46 Try.underlying3 rfl (by omega)) (Nb rfl) ?_
  refine KA (KL rfl rfl (KAN (a:=13) (by omega))) (Nb rfl) ?_
  refine KI rfl (KU (Kx (Post:=fun v its=>∃ Q,v = .tuple #[.agg (crvL Q V).toArray,.bool true]∧its = [crvI Q V]) (first:=[]) rfl en_43 rfl (Nb rfl) (fun w1 hw hs=>(c_r_Get _ V w1 h).mono fun e w' ⟨Q,h1,h2,h3,h4⟩=>⟨_,_,⟨Q,rfl,rfl⟩,h1,Brings.nums h4 (by intro x hx; simp at hx; subst hx; exact h2) (by intro x hx; simp at hx; subst hx; rfl) (by intro x hx k hk; simp at hx; subst hx; exact .inl (h3 k hk))⟩) ?_))
  rintro _ _ ⟨Q,rfl,rfl⟩
  refine KA (KE rfl) (Nb rfl) ?_
  refine KA (Kg rfl rfl) (Nb rfl) ?_
  refine KA (Kg rfl rfl) (Nb rfl) ?_
  refine KI rfl (KU (KQ (Kh zr_31) (Nb rfl) (fun b7=>?_)))
  refine KI rfl (KP rfl rfl sz_31 (by repeat (first|exact KX|refine KT rfl ?_)) (by repeat (first|exact Sh _|apply St_)) (by rfl) ?_)
  refine KA (KF rfl) (Nb rfl) ?_
  refine KG ?_
  refine KD ?_
  refine KD (KB ?_)
  refine KA (KE rfl) (Nb rfl) ?_
  refine KA (KV (Det.not rfl) (show _ = Value.bool false from rfl)) (Nb rfl) ?_
  refine KG ?_
  refine Ki rfl ?_
  refine Kd ?_
  refine KD (KB ?_)
  refine KA (KM (o':=4) Try.underlying31 rfl rfl rfl sz_29 (by decide)) (Nb rfl) ?_
  refine LOps.det (KK rfl (by repeat (first|exact Mh _|apply Mt)) (KY Try.underlying29 rfl (by first|rfl|exact Kv _ _ _ (by omega)|exact Ku _ (by omega)|exact Ks _ (by omega)|exact dv_m _ _ _ (by omega)))) (Nb rfl) ?_
  refine KA (KAp (i:=0) Try.underlying29 sz_56 rfl rfl (by omega)) (Nb rfl) ?_
  refine LOps.det (Det.loadF (n:=D.nw V.n) Try.underlying56 rfl rfl (fun w hw=>crvI_n (hw _ (by repeat (first|exact Mh _|apply Mt)))) (by omega)) (Nb rfl) ?_
  refine KA (KV (KAb Try.underlying56 Try.underlying22 rfl (Nat.lt_trans (D.limb_lt _ _) (by decide))) (vi (b:=V.n) (one_digit hnw1))) (Nb rfl) ?_
  refine KA (KF rfl) (Nb rfl) ?_
  refine KG ?_
  refine KD ?_
  refine Ka [11] (by kernel_rfl) ?_
  refine LAny.take 0 rfl (by kernel_rfl) (Nb rfl) (KK rfl (by repeat (first|exact Mh _|apply Mt)) (by exact KN Try.underlying31 rfl sz_31)) ?_
  refine KC 1 rfl (by kernel_rfl) (Nb rfl) (KE rfl) ?_
  refine KC 2 rfl (by kernel_rfl) (Nb rfl) (KL rfl rfl (br_rem64 (b:=200) (by omega))) ?_
  refine KC 3 rfl (by kernel_rfl) (Nb rfl) (KV (KAn Try.underlying22 Try.underlying56 rfl) (vi (b:=k%200) (Nat.mod_eq_of_lt (by omega)))) ?_
  refine KC 4 rfl (by kernel_rfl) (Nb rfl) (KL rfl rfl (br_add32 (a:=1) (b:=k%200) (by omega))) ?_
  refine LAny.take 6 rfl (by kernel_rfl) (Nb rfl) (KK rfl (by repeat (first|exact Mh _|apply Mt)) (by exact KN Try.underlying31 rfl sz_31)) ?_
  refine LAny.threeX 5 7 10 rfl rfl rfl rfl rfl rfl (by kernel_rfl) (.inr (KQ (KAa Try.underlying28 inf_56 rfl rfl rfl rfl (by decide) rfl) (Nb rfl) (fun b38=>?_))) (.inr (Kx (first:=[]) rfl en_80 rfl (Nb rfl) (fun w hw hs=>(c_r_GP Q V w (hw _ (by repeat (first|exact Mh _|apply Mt))) hok).mono fun e w' h=>Num2R.q (Old.one (x:=crvI Q V) (by repeat (first|exact Mh _|apply Mt)) rfl) hs h) ?_)) (.inr (KQ (Kh zr_60) (Nb rfl) (fun b10=>?_)))
  ·
    refine LAny.twoX 7 10 rfl rfl rfl rfl (by kernel_rfl) (.inr (Kx (first:=[]) rfl en_80 rfl (Nb rfl) (fun w hw hs=>(c_r_GP Q V w (hw _ (by repeat (first|exact Mh _|apply Mt))) hok).mono fun e w' h=>Num2R.q (Old.one (x:=crvI Q V) (by repeat (first|exact Mh _|apply Mt)) rfl) hs h) ?_)) (.inr (KQ (Kh zr_60) (Nb rfl) (fun b10=>?_)))
    ·
      rintro _ _ ⟨qga,qgb,rfl,rfl,hnga,hngb⟩
      refine LAny.twoX 8 10 rfl rfl rfl rfl (by kernel_rfl) (.inr (Kx (first:=[]) rfl en_64 rfl (Nb rfl) (fun w hw hs=>(c_r_TimesS Q V b38 1 (1+k%200) qga qgb V.G R w (hw _ (by repeat (first|exact Mh _|apply Mt))) hok (hw _ (by repeat (first|exact Mh _|apply Mt))) (by omega) (by omega) (hw _ (by repeat (first|exact Mh _|apply Mt))) (hw _ (by repeat (first|exact Mh _|apply Mt))) hok.on hRe).mono fun e w' h=>Num2R.q (Old.pt (by repeat (first|exact Mh _|apply Mt)) (by repeat (first|exact Mh _|apply Mt)) (Old.nil _)) hs h) ?_)) (.inr (KQ (Kh zr_60) (Nb rfl) (fun b10=>?_)))
      ·
        rintro _ _ ⟨qpa,qpb,rfl,rfl,hnpa,hnpb⟩
        refine LAny.twoX 9 10 rfl rfl rfl rfl (by kernel_rfl) (.inr (KR (first:=[]) rfl en_66 rfl (Nb rfl) (fun w hw=>c_r_OutP V qpa qpb (R) w (hw _ (by repeat (first|exact Mh _|apply Mt))) (hw _ (by repeat (first|exact Mh _|apply Mt)))) ?_)) (.inr (KQ (Kh zr_60) (Nb rfl) (fun b10=>?_)))
        ·
          refine Kr 10 rfl rfl (by kernel_rfl) (KQ (Kh zr_60) (Nb rfl) (fun b10=>?_))
          refine Km 11 rfl rfl (by kernel_rfl) (by kernel_rfl) (KP rfl rfl sz_60 (by exact Ko _ _ _) (by repeat (first|exact Sh _|apply St_)) (by exact KS _ _ _) ?_)
          refine Kj (by kernel_rfl) ?_
          refine KD (KB ?_)
          refine KA (KF (v:=.int .i64 ((0:Nat):Int)) rfl) (Nb rfl) ?_
          refine KG ?_
          refine KD ?_
          refine KD (KB ?_)
          refine KA (KF (v:=.int .u64 ((0:Nat):Int)) rfl) (Nb rfl) ?_
          refine KG ?_
          refine LCode.block ?_
          refine KAL (α:=Nat×Nat) (fun x=>x.1≤V.n∧x.2 = cntD V (u%V.n) R x.1) (fun x=>⟨[(2,.int .u64 ((u:Nat):Int)),(7,.pointer (some ⟨b7,0,none⟩)),(9,.int .u64 ((V.n:Nat):Int)),(10,.pointer (some ⟨b10,0,none⟩)),(11,.int .i64 ((x.2:Nat):Int)),(12,.int .u64 ((x.1:Nat):Int))],[.blk b10 ⟨true,ptL (xv R) (yv R) (iv R),60,(0,0)⟩,.blk b7 ⟨true,crvL Q V,31,(0,0)⟩,crvI Q V]⟩) (fun x=>V.n-x.1) ((0,0)) (⟨Nat.zero_le _,rfl⟩) (KAC ⟨rfl,rfl,rfl,rfl,rfl,rfl,trivial⟩ (by repeat (first|exact Sel.nil _|refine Sel.cons (by repeat (first|exact Ph _|apply Pt_)) ?_))) ?_
          rintro x ⟨hx1,hx2⟩
          refine KD ?_
          refine KD (KB ?_)
          refine KA (KE rfl) (Nb rfl) ?_
          refine KA (KE rfl) (Nb rfl) ?_
          refine KA (KL rfl rfl (KAr)) (Nb rfl) ?_
          refine KG ?_
          first|refine Kb rfl (fun h45=>?_) (fun h45=>?_)|refine Ke rfl (fun h45=>?_) (fun h45=>?_)
          ·
            have h45:x.1<V.n:=h45
            have hcl:=cntD_le V (u%V.n) R x.1
            have hcs:cntD V (u%V.n) R (x.1+1) = if iv (dualP V (u%V.n) x.1 R) = true then cntD V (u%V.n) R x.1+1 else cntD V (u%V.n) R x.1:=rfl
            refine Kd ?_
            refine KD ?_
            refine LCode.block ?_
            refine KD ?_
            refine Ka [14] (by kernel_rfl) ?_
            refine KC 0 rfl (by kernel_rfl) (Nb rfl) (KM (o':=0) Try.underlying31 rfl rfl rfl sz_3 (by decide)) ?_
            refine LAny.take 1 rfl (by kernel_rfl) (Nb rfl) (KK rfl (by repeat (first|exact Mh _|apply Mt)) (KY Try.underlying3 rfl (by first|rfl|exact Kv _ _ _ (by omega)|exact Ku _ (by omega)|exact Ks _ (by omega)|exact dv_m _ _ _ (by omega)))) ?_
            refine KC 2 rfl (by kernel_rfl) (Nb rfl) (KE rfl) ?_
            refine KC 3 rfl (by kernel_rfl) (Nb rfl) (KE rfl) ?_
            refine KC 4 rfl (by kernel_rfl) (Nb rfl) (KL rfl rfl (br_rem64 (by omega))) ?_
            refine KC 6 rfl (by kernel_rfl) (Nb rfl) (KE rfl) ?_
            refine LAny.take 8 rfl (by kernel_rfl) (Nb rfl) (KK rfl (by repeat (first|exact Mh _|apply Mt)) (by exact KN Try.underlying60 rfl sz_60)) ?_
            refine KAk ?_
            refine KAP 13 rfl (.inl zr_60) (Nb rfl) rfl rfl rfl ?_
            refine Kq 5 rfl rfl rfl (Nb rfl) (by kernel_rfl) rfl (Kt (first:=[]) rfl en_55 rfl (fun w hw=>c_One (u%V.n) w (by omega))) ?_
            rintro _ _ ⟨rfl,rfl⟩
            refine Kq 7 rfl rfl rfl (Nb rfl) (by kernel_rfl) rfl (Kt (first:=[]) rfl en_55 rfl (fun w hw=>c_One x.1 w (by omega))) ?_
            rintro _ _ ⟨rfl,rfl⟩
            refine Kq 9 rfl rfl rfl (Nb rfl) (by kernel_rfl) rfl (Kt (first:=[]) rfl en_77 rfl (fun w hw=>c_dualMul _ V (u%V.n) x.1 R w h2 hRo hun h45)) ?_
            rintro _ _ ⟨rfl,rfl⟩
            refine KAA 10 rfl (by kernel_rfl) (Nb rfl) rfl (KE rfl) ?_
            refine KAA 11 rfl (by kernel_rfl) (Nb rfl) rfl (Kg rfl rfl) ?_
            refine KAA 12 rfl (by kernel_rfl) (Nb rfl) rfl (Kg rfl rfl) ?_
            refine KAZ (by kernel_rfl) (fun b13=>?_)
            refine KAV ?_
            refine Km 14 rfl rfl (by kernel_rfl) (by kernel_rfl) (KP rfl rfl sz_60 (by exact Ko _ _ _) (by repeat (first|exact Sh _|apply St_)) (by exact KS _ _ _) ?_)
            refine KC 15 rfl (by kernel_rfl) (Nb rfl) (KF rfl) ?_
            refine Kj (by kernel_rfl) ?_
            refine KD ?_
            refine KD (KB ?_)
            refine KA (KE rfl) (Nb rfl) ?_
            refine KI rfl (KU (KR (first:=[]) rfl en_46 rfl (Nb rfl) (fun w hw=>c_Num _ w) ?_))
            refine KA (KL (v:=.bool false) rfl rfl (br_f (br_neq (b:=0)) (by first|exact (fun e=>e rfl)|(simp; done)|omega))) (Nb rfl) ?_
            refine KG ?_
            refine Ki rfl ?_
            refine Kd ?_
            refine KD (KB ?_)
            refine KA (KM (o':=18) Try.underlying60 rfl rfl rfl sz_4 (by decide)) (Nb rfl) ?_
            refine LOps.det (KK rfl (by repeat (first|exact Mh _|apply Mt)) (KY Try.underlying4 rfl (by exact pt_gt _ _ _))) (Nb rfl) ?_
            refine KG ?_
            first|refine Kb rfl (fun h65=>?_) (fun h65=>?_)|refine Ke rfl (fun h65=>?_) (fun h65=>?_)
            ·
              have h65:iv (dualP V (u%V.n) x.1 R) = true:=h65
              rw [if_pos h65] at hcs
              refine KB ?_
              refine KA (KE rfl) (Nb rfl) ?_
              refine KA (KL rfl rfl (KAN (b:=1) (by omega))) (Nb rfl) ?_
              refine KA (KF rfl) (Nb rfl) ?_
              refine KG ?_
              refine KB ?_
              refine KA (KE rfl) (Nb rfl) ?_
              refine KA (KV (KL rfl rfl (KAT (b:=1))) (vi (b:=x.1+1) (by omega))) (Nb rfl) ?_
              refine KA (KF rfl) (Nb rfl) ?_
              refine KG ?_
              exact ⟨(x.1+1,x.2+1),⟨by dsimp only; omega,by dsimp only; omega⟩,by dsimp only; omega,KAC ⟨rfl,rfl,rfl,rfl,rfl,rfl,trivial⟩ (by repeat (first|exact Sel.nil _|refine Sel.cons (by repeat (first|exact Ph _|apply Pt_)) ?_))⟩
            ·
              have h65:iv (dualP V (u%V.n) x.1 R) = false:=h65
              rw [if_neg (by rw [h65]; decide)] at hcs
              refine Kd ?_
              refine KB ?_
              refine KA (KE rfl) (Nb rfl) ?_
              refine KA (KV (KL rfl rfl (KAT (b:=1))) (vi (b:=x.1+1) (by omega))) (Nb rfl) ?_
              refine KA (KF rfl) (Nb rfl) ?_
              refine KG ?_
              exact ⟨(x.1+1,x.2),⟨by dsimp only; omega,by dsimp only; omega⟩,by dsimp only; omega,KAC ⟨rfl,rfl,rfl,rfl,rfl,rfl,trivial⟩ (by repeat (first|exact Sel.nil _|refine Sel.cons (by repeat (first|exact Ph _|apply Pt_)) ?_))⟩
          ·
            have h45:¬ x.1<V.n:=h45
            refine KAG ?_
            refine KD ?_
            have hx1n:x.1 = V.n:=by omega
            rw [hx1n,← hRe,cntD_one hok _ _ (by omega) (by omega)] at hx2
            refine KB ?_
            refine KA (KE rfl) (Nb rfl) ?_
            refine KA (KL (v:=.bool true) rfl rfl (br_t (br_eql (b:=1)) (hx2))) (Nb rfl) ?_
            refine KA (KF rfl) (Nb rfl) ?_
            refine KG (KZ ?_)
            refine ⟨[_],.cons rfl .nil,fun a w' hr=>⟨?_,hr.fr.below⟩⟩
            rfl
        ·
          refine Kr 9 rfl rfl (by kernel_rfl) (KR (first:=[]) rfl en_66 rfl (Nb rfl) (fun w hw=>c_r_OutP V qpa qpb (R) w (hw _ (by repeat (first|exact Mh _|apply Mt))) (hw _ (by repeat (first|exact Mh _|apply Mt)))) ?_)
          refine Km 11 rfl rfl (by kernel_rfl) (by kernel_rfl) (KP rfl rfl sz_60 (by exact Ko _ _ _) (by repeat (first|exact Sh _|apply St_)) (by exact KS _ _ _) ?_)
          refine Kj (by kernel_rfl) ?_
          refine KD (KB ?_)
          refine KA (KF (v:=.int .i64 ((0:Nat):Int)) rfl) (Nb rfl) ?_
          refine KG ?_
          refine KD ?_
          refine KD (KB ?_)
          refine KA (KF (v:=.int .u64 ((0:Nat):Int)) rfl) (Nb rfl) ?_
          refine KG ?_
          refine LCode.block ?_
          refine KAL (α:=Nat×Nat) (fun x=>x.1≤V.n∧x.2 = cntD V (u%V.n) R x.1) (fun x=>⟨[(2,.int .u64 ((u:Nat):Int)),(7,.pointer (some ⟨b7,0,none⟩)),(9,.int .u64 ((V.n:Nat):Int)),(10,.pointer (some ⟨b10,0,none⟩)),(11,.int .i64 ((x.2:Nat):Int)),(12,.int .u64 ((x.1:Nat):Int))],[.blk b10 ⟨true,ptL (xv R) (yv R) (iv R),60,(0,0)⟩,.blk b7 ⟨true,crvL Q V,31,(0,0)⟩,crvI Q V]⟩) (fun x=>V.n-x.1) ((0,0)) (⟨Nat.zero_le _,rfl⟩) (KAC ⟨rfl,rfl,rfl,rfl,rfl,rfl,trivial⟩ (by repeat (first|exact Sel.nil _|refine Sel.cons (by repeat (first|exact Ph _|apply Pt_)) ?_))) ?_
          rintro x ⟨hx1,hx2⟩
          refine KD ?_
          refine KD (KB ?_)
          refine KA (KE rfl) (Nb rfl) ?_
          refine KA (KE rfl) (Nb rfl) ?_
          refine KA (KL rfl rfl (KAr)) (Nb rfl) ?_
          refine KG ?_
          first|refine Kb rfl (fun h45=>?_) (fun h45=>?_)|refine Ke rfl (fun h45=>?_) (fun h45=>?_)
          ·
            have h45:x.1<V.n:=h45
            have hcl:=cntD_le V (u%V.n) R x.1
            have hcs:cntD V (u%V.n) R (x.1+1) = if iv (dualP V (u%V.n) x.1 R) = true then cntD V (u%V.n) R x.1+1 else cntD V (u%V.n) R x.1:=rfl
            refine Kd ?_
            refine KD ?_
            refine LCode.block ?_
            refine KD ?_
            refine Ka [14] (by kernel_rfl) ?_
            refine KC 0 rfl (by kernel_rfl) (Nb rfl) (KM (o':=0) Try.underlying31 rfl rfl rfl sz_3 (by decide)) ?_
            refine LAny.take 1 rfl (by kernel_rfl) (Nb rfl) (KK rfl (by repeat (first|exact Mh _|apply Mt)) (KY Try.underlying3 rfl (by first|rfl|exact Kv _ _ _ (by omega)|exact Ku _ (by omega)|exact Ks _ (by omega)|exact dv_m _ _ _ (by omega)))) ?_
            refine KC 2 rfl (by kernel_rfl) (Nb rfl) (KE rfl) ?_
            refine KC 3 rfl (by kernel_rfl) (Nb rfl) (KE rfl) ?_
            refine KC 4 rfl (by kernel_rfl) (Nb rfl) (KL rfl rfl (br_rem64 (by omega))) ?_
            refine KC 6 rfl (by kernel_rfl) (Nb rfl) (KE rfl) ?_
            refine LAny.take 8 rfl (by kernel_rfl) (Nb rfl) (KK rfl (by repeat (first|exact Mh _|apply Mt)) (by exact KN Try.underlying60 rfl sz_60)) ?_
            refine KAk ?_
            refine KAP 13 rfl (.inl zr_60) (Nb rfl) rfl rfl rfl ?_
            refine Kq 5 rfl rfl rfl (Nb rfl) (by kernel_rfl) rfl (Kt (first:=[]) rfl en_55 rfl (fun w hw=>c_One (u%V.n) w (by omega))) ?_
            rintro _ _ ⟨rfl,rfl⟩
            refine Kq 7 rfl rfl rfl (Nb rfl) (by kernel_rfl) rfl (Kt (first:=[]) rfl en_55 rfl (fun w hw=>c_One x.1 w (by omega))) ?_
            rintro _ _ ⟨rfl,rfl⟩
            refine Kq 9 rfl rfl rfl (Nb rfl) (by kernel_rfl) rfl (Kt (first:=[]) rfl en_77 rfl (fun w hw=>c_dualMul _ V (u%V.n) x.1 R w h2 hRo hun h45)) ?_
            rintro _ _ ⟨rfl,rfl⟩
            refine KAA 10 rfl (by kernel_rfl) (Nb rfl) rfl (KE rfl) ?_
            refine KAA 11 rfl (by kernel_rfl) (Nb rfl) rfl (Kg rfl rfl) ?_
            refine KAA 12 rfl (by kernel_rfl) (Nb rfl) rfl (Kg rfl rfl) ?_
            refine KAZ (by kernel_rfl) (fun b13=>?_)
            refine KAV ?_
            refine Km 14 rfl rfl (by kernel_rfl) (by kernel_rfl) (KP rfl rfl sz_60 (by exact Ko _ _ _) (by repeat (first|exact Sh _|apply St_)) (by exact KS _ _ _) ?_)
            refine KC 15 rfl (by kernel_rfl) (Nb rfl) (KF rfl) ?_
            refine Kj (by kernel_rfl) ?_
            refine KD ?_
            refine KD (KB ?_)
            refine KA (KE rfl) (Nb rfl) ?_
            refine KI rfl (KU (KR (first:=[]) rfl en_46 rfl (Nb rfl) (fun w hw=>c_Num _ w) ?_))
            refine KA (KL (v:=.bool false) rfl rfl (br_f (br_neq (b:=0)) (by first|exact (fun e=>e rfl)|(simp; done)|omega))) (Nb rfl) ?_
            refine KG ?_
            refine Ki rfl ?_
            refine Kd ?_
            refine KD (KB ?_)
            refine KA (KM (o':=18) Try.underlying60 rfl rfl rfl sz_4 (by decide)) (Nb rfl) ?_
            refine LOps.det (KK rfl (by repeat (first|exact Mh _|apply Mt)) (KY Try.underlying4 rfl (by exact pt_gt _ _ _))) (Nb rfl) ?_
            refine KG ?_
            first|refine Kb rfl (fun h65=>?_) (fun h65=>?_)|refine Ke rfl (fun h65=>?_) (fun h65=>?_)
            ·
              have h65:iv (dualP V (u%V.n) x.1 R) = true:=h65
              rw [if_pos h65] at hcs
              refine KB ?_
              refine KA (KE rfl) (Nb rfl) ?_
              refine KA (KL rfl rfl (KAN (b:=1) (by omega))) (Nb rfl) ?_
              refine KA (KF rfl) (Nb rfl) ?_
              refine KG ?_
              refine KB ?_
              refine KA (KE rfl) (Nb rfl) ?_
              refine KA (KV (KL rfl rfl (KAT (b:=1))) (vi (b:=x.1+1) (by omega))) (Nb rfl) ?_
              refine KA (KF rfl) (Nb rfl) ?_
              refine KG ?_
              exact ⟨(x.1+1,x.2+1),⟨by dsimp only; omega,by dsimp only; omega⟩,by dsimp only; omega,KAC ⟨rfl,rfl,rfl,rfl,rfl,rfl,trivial⟩ (by repeat (first|exact Sel.nil _|refine Sel.cons (by repeat (first|exact Ph _|apply Pt_)) ?_))⟩
            ·
              have h65:iv (dualP V (u%V.n) x.1 R) = false:=h65
              rw [if_neg (by rw [h65]; decide)] at hcs
              refine Kd ?_
              refine KB ?_
              refine KA (KE rfl) (Nb rfl) ?_
              refine KA (KV (KL rfl rfl (KAT (b:=1))) (vi (b:=x.1+1) (by omega))) (Nb rfl) ?_
              refine KA (KF rfl) (Nb rfl) ?_
              refine KG ?_
              exact ⟨(x.1+1,x.2),⟨by dsimp only; omega,by dsimp only; omega⟩,by dsimp only; omega,KAC ⟨rfl,rfl,rfl,rfl,rfl,rfl,trivial⟩ (by repeat (first|exact Sel.nil _|refine Sel.cons (by repeat (first|exact Ph _|apply Pt_)) ?_))⟩
          ·
            have h45:¬ x.1<V.n:=h45
            refine KAG ?_
            refine KD ?_
            have hx1n:x.1 = V.n:=by omega
            rw [hx1n,← hRe,cntD_one hok _ _ (by omega) (by omega)] at hx2
            refine KB ?_
            refine KA (KE rfl) (Nb rfl) ?_
            refine KA (KL (v:=.bool true) rfl rfl (br_t (br_eql (b:=1)) (hx2))) (Nb rfl) ?_
            refine KA (KF rfl) (Nb rfl) ?_
            refine KG (KZ ?_)
            refine ⟨[_],.cons rfl .nil,fun a w' hr=>⟨?_,hr.fr.below⟩⟩
            rfl
      ·
        refine Kr 8 rfl rfl (by kernel_rfl) (Kx (first:=[]) rfl en_64 rfl (Nb rfl) (fun w hw hs=>(c_r_TimesS Q V b38 1 (1+k%200) qga qgb V.G R w (hw _ (by repeat (first|exact Mh _|apply Mt))) hok (hw _ (by repeat (first|exact Mh _|apply Mt))) (by omega) (by omega) (hw _ (by repeat (first|exact Mh _|apply Mt))) (hw _ (by repeat (first|exact Mh _|apply Mt))) hok.on hRe).mono fun e w' h=>Num2R.q (Old.pt (by repeat (first|exact Mh _|apply Mt)) (by repeat (first|exact Mh _|apply Mt)) (Old.nil _)) hs h) ?_)
        rintro _ _ ⟨qpa,qpb,rfl,rfl,hnpa,hnpb⟩
        refine Kr 9 rfl rfl (by kernel_rfl) (KR (first:=[]) rfl en_66 rfl (Nb rfl) (fun w hw=>c_r_OutP V qpa qpb (R) w (hw _ (by repeat (first|exact Mh _|apply Mt))) (hw _ (by repeat (first|exact Mh _|apply Mt)))) ?_)
        refine Km 11 rfl rfl (by kernel_rfl) (by kernel_rfl) (KP rfl rfl sz_60 (by exact Ko _ _ _) (by repeat (first|exact Sh _|apply St_)) (by exact KS _ _ _) ?_)
        refine Kj (by kernel_rfl) ?_
        refine KD (KB ?_)
        refine KA (KF (v:=.int .i64 ((0:Nat):Int)) rfl) (Nb rfl) ?_
        refine KG ?_
        refine KD ?_
        refine KD (KB ?_)
        refine KA (KF (v:=.int .u64 ((0:Nat):Int)) rfl) (Nb rfl) ?_
        refine KG ?_
        refine LCode.block ?_
        refine KAL (α:=Nat×Nat) (fun x=>x.1≤V.n∧x.2 = cntD V (u%V.n) R x.1) (fun x=>⟨[(2,.int .u64 ((u:Nat):Int)),(7,.pointer (some ⟨b7,0,none⟩)),(9,.int .u64 ((V.n:Nat):Int)),(10,.pointer (some ⟨b10,0,none⟩)),(11,.int .i64 ((x.2:Nat):Int)),(12,.int .u64 ((x.1:Nat):Int))],[.blk b10 ⟨true,ptL (xv R) (yv R) (iv R),60,(0,0)⟩,.blk b7 ⟨true,crvL Q V,31,(0,0)⟩,crvI Q V]⟩) (fun x=>V.n-x.1) ((0,0)) (⟨Nat.zero_le _,rfl⟩) (KAC ⟨rfl,rfl,rfl,rfl,rfl,rfl,trivial⟩ (by repeat (first|exact Sel.nil _|refine Sel.cons (by repeat (first|exact Ph _|apply Pt_)) ?_))) ?_
        rintro x ⟨hx1,hx2⟩
        refine KD ?_
        refine KD (KB ?_)
        refine KA (KE rfl) (Nb rfl) ?_
        refine KA (KE rfl) (Nb rfl) ?_
        refine KA (KL rfl rfl (KAr)) (Nb rfl) ?_
        refine KG ?_
        first|refine Kb rfl (fun h45=>?_) (fun h45=>?_)|refine Ke rfl (fun h45=>?_) (fun h45=>?_)
        ·
          have h45:x.1<V.n:=h45
          have hcl:=cntD_le V (u%V.n) R x.1
          have hcs:cntD V (u%V.n) R (x.1+1) = if iv (dualP V (u%V.n) x.1 R) = true then cntD V (u%V.n) R x.1+1 else cntD V (u%V.n) R x.1:=rfl
          refine Kd ?_
          refine KD ?_
          refine LCode.block ?_
          refine KD ?_
          refine Ka [14] (by kernel_rfl) ?_
          refine KC 0 rfl (by kernel_rfl) (Nb rfl) (KM (o':=0) Try.underlying31 rfl rfl rfl sz_3 (by decide)) ?_
          refine LAny.take 1 rfl (by kernel_rfl) (Nb rfl) (KK rfl (by repeat (first|exact Mh _|apply Mt)) (KY Try.underlying3 rfl (by first|rfl|exact Kv _ _ _ (by omega)|exact Ku _ (by omega)|exact Ks _ (by omega)|exact dv_m _ _ _ (by omega)))) ?_
          refine KC 2 rfl (by kernel_rfl) (Nb rfl) (KE rfl) ?_
          refine KC 3 rfl (by kernel_rfl) (Nb rfl) (KE rfl) ?_
          refine KC 4 rfl (by kernel_rfl) (Nb rfl) (KL rfl rfl (br_rem64 (by omega))) ?_
          refine KC 6 rfl (by kernel_rfl) (Nb rfl) (KE rfl) ?_
          refine LAny.take 8 rfl (by kernel_rfl) (Nb rfl) (KK rfl (by repeat (first|exact Mh _|apply Mt)) (by exact KN Try.underlying60 rfl sz_60)) ?_
          refine KAk ?_
          refine KAP 13 rfl (.inl zr_60) (Nb rfl) rfl rfl rfl ?_
          refine Kq 5 rfl rfl rfl (Nb rfl) (by kernel_rfl) rfl (Kt (first:=[]) rfl en_55 rfl (fun w hw=>c_One (u%V.n) w (by omega))) ?_
          rintro _ _ ⟨rfl,rfl⟩
          refine Kq 7 rfl rfl rfl (Nb rfl) (by kernel_rfl) rfl (Kt (first:=[]) rfl en_55 rfl (fun w hw=>c_One x.1 w (by omega))) ?_
          rintro _ _ ⟨rfl,rfl⟩
          refine Kq 9 rfl rfl rfl (Nb rfl) (by kernel_rfl) rfl (Kt (first:=[]) rfl en_77 rfl (fun w hw=>c_dualMul _ V (u%V.n) x.1 R w h2 hRo hun h45)) ?_
          rintro _ _ ⟨rfl,rfl⟩
          refine KAA 10 rfl (by kernel_rfl) (Nb rfl) rfl (KE rfl) ?_
          refine KAA 11 rfl (by kernel_rfl) (Nb rfl) rfl (Kg rfl rfl) ?_
          refine KAA 12 rfl (by kernel_rfl) (Nb rfl) rfl (Kg rfl rfl) ?_
          refine KAZ (by kernel_rfl) (fun b13=>?_)
          refine KAV ?_
          refine Km 14 rfl rfl (by kernel_rfl) (by kernel_rfl) (KP rfl rfl sz_60 (by exact Ko _ _ _) (by repeat (first|exact Sh _|apply St_)) (by exact KS _ _ _) ?_)
          refine KC 15 rfl (by kernel_rfl) (Nb rfl) (KF rfl) ?_
          refine Kj (by kernel_rfl) ?_
          refine KD ?_
          refine KD (KB ?_)
          refine KA (KE rfl) (Nb rfl) ?_
          refine KI rfl (KU (KR (first:=[]) rfl en_46 rfl (Nb rfl) (fun w hw=>c_Num _ w) ?_))
          refine KA (KL (v:=.bool false) rfl rfl (br_f (br_neq (b:=0)) (by first|exact (fun e=>e rfl)|(simp; done)|omega))) (Nb rfl) ?_
          refine KG ?_
          refine Ki rfl ?_
          refine Kd ?_
          refine KD (KB ?_)
          refine KA (KM (o':=18) Try.underlying60 rfl rfl rfl sz_4 (by decide)) (Nb rfl) ?_
          refine LOps.det (KK rfl (by repeat (first|exact Mh _|apply Mt)) (KY Try.underlying4 rfl (by exact pt_gt _ _ _))) (Nb rfl) ?_
          refine KG ?_
          first|refine Kb rfl (fun h65=>?_) (fun h65=>?_)|refine Ke rfl (fun h65=>?_) (fun h65=>?_)
          ·
            have h65:iv (dualP V (u%V.n) x.1 R) = true:=h65
            rw [if_pos h65] at hcs
            refine KB ?_
            refine KA (KE rfl) (Nb rfl) ?_
            refine KA (KL rfl rfl (KAN (b:=1) (by omega))) (Nb rfl) ?_
            refine KA (KF rfl) (Nb rfl) ?_
            refine KG ?_
            refine KB ?_
            refine KA (KE rfl) (Nb rfl) ?_
            refine KA (KV (KL rfl rfl (KAT (b:=1))) (vi (b:=x.1+1) (by omega))) (Nb rfl) ?_
            refine KA (KF rfl) (Nb rfl) ?_
            refine KG ?_
            exact ⟨(x.1+1,x.2+1),⟨by dsimp only; omega,by dsimp only; omega⟩,by dsimp only; omega,KAC ⟨rfl,rfl,rfl,rfl,rfl,rfl,trivial⟩ (by repeat (first|exact Sel.nil _|refine Sel.cons (by repeat (first|exact Ph _|apply Pt_)) ?_))⟩
          ·
            have h65:iv (dualP V (u%V.n) x.1 R) = false:=h65
            rw [if_neg (by rw [h65]; decide)] at hcs
            refine Kd ?_
            refine KB ?_
            refine KA (KE rfl) (Nb rfl) ?_
            refine KA (KV (KL rfl rfl (KAT (b:=1))) (vi (b:=x.1+1) (by omega))) (Nb rfl) ?_
            refine KA (KF rfl) (Nb rfl) ?_
            refine KG ?_
            exact ⟨(x.1+1,x.2),⟨by dsimp only; omega,by dsimp only; omega⟩,by dsimp only; omega,KAC ⟨rfl,rfl,rfl,rfl,rfl,rfl,trivial⟩ (by repeat (first|exact Sel.nil _|refine Sel.cons (by repeat (first|exact Ph _|apply Pt_)) ?_))⟩
        ·
          have h45:¬ x.1<V.n:=h45
          refine KAG ?_
          refine KD ?_
          have hx1n:x.1 = V.n:=by omega
          rw [hx1n,← hRe,cntD_one hok _ _ (by omega) (by omega)] at hx2
          refine KB ?_
          refine KA (KE rfl) (Nb rfl) ?_
          refine KA (KL (v:=.bool true) rfl rfl (br_t (br_eql (b:=1)) (hx2))) (Nb rfl) ?_
          refine KA (KF rfl) (Nb rfl) ?_
          refine KG (KZ ?_)
          refine ⟨[_],.cons rfl .nil,fun a w' hr=>⟨?_,hr.fr.below⟩⟩
          rfl
    ·
      refine Kr 7 rfl rfl (by kernel_rfl) (Kx (first:=[]) rfl en_80 rfl (Nb rfl) (fun w hw hs=>(c_r_GP Q V w (hw _ (by repeat (first|exact Mh _|apply Mt))) hok).mono fun e w' h=>Num2R.q (Old.one (x:=crvI Q V) (by repeat (first|exact Mh _|apply Mt)) rfl) hs h) ?_)
      rintro _ _ ⟨qga,qgb,rfl,rfl,hnga,hngb⟩
      refine Kr 8 rfl rfl (by kernel_rfl) (Kx (first:=[]) rfl en_64 rfl (Nb rfl) (fun w hw hs=>(c_r_TimesS Q V b38 1 (1+k%200) qga qgb V.G R w (hw _ (by repeat (first|exact Mh _|apply Mt))) hok (hw _ (by repeat (first|exact Mh _|apply Mt))) (by omega) (by omega) (hw _ (by repeat (first|exact Mh _|apply Mt))) (hw _ (by repeat (first|exact Mh _|apply Mt))) hok.on hRe).mono fun e w' h=>Num2R.q (Old.pt (by repeat (first|exact Mh _|apply Mt)) (by repeat (first|exact Mh _|apply Mt)) (Old.nil _)) hs h) ?_)
      rintro _ _ ⟨qpa,qpb,rfl,rfl,hnpa,hnpb⟩
      refine Kr 9 rfl rfl (by kernel_rfl) (KR (first:=[]) rfl en_66 rfl (Nb rfl) (fun w hw=>c_r_OutP V qpa qpb (R) w (hw _ (by repeat (first|exact Mh _|apply Mt))) (hw _ (by repeat (first|exact Mh _|apply Mt)))) ?_)
      refine Km 11 rfl rfl (by kernel_rfl) (by kernel_rfl) (KP rfl rfl sz_60 (by exact Ko _ _ _) (by repeat (first|exact Sh _|apply St_)) (by exact KS _ _ _) ?_)
      refine Kj (by kernel_rfl) ?_
      refine KD (KB ?_)
      refine KA (KF (v:=.int .i64 ((0:Nat):Int)) rfl) (Nb rfl) ?_
      refine KG ?_
      refine KD ?_
      refine KD (KB ?_)
      refine KA (KF (v:=.int .u64 ((0:Nat):Int)) rfl) (Nb rfl) ?_
      refine KG ?_
      refine LCode.block ?_
      refine KAL (α:=Nat×Nat) (fun x=>x.1≤V.n∧x.2 = cntD V (u%V.n) R x.1) (fun x=>⟨[(2,.int .u64 ((u:Nat):Int)),(7,.pointer (some ⟨b7,0,none⟩)),(9,.int .u64 ((V.n:Nat):Int)),(10,.pointer (some ⟨b10,0,none⟩)),(11,.int .i64 ((x.2:Nat):Int)),(12,.int .u64 ((x.1:Nat):Int))],[.blk b10 ⟨true,ptL (xv R) (yv R) (iv R),60,(0,0)⟩,.blk b7 ⟨true,crvL Q V,31,(0,0)⟩,crvI Q V]⟩) (fun x=>V.n-x.1) ((0,0)) (⟨Nat.zero_le _,rfl⟩) (KAC ⟨rfl,rfl,rfl,rfl,rfl,rfl,trivial⟩ (by repeat (first|exact Sel.nil _|refine Sel.cons (by repeat (first|exact Ph _|apply Pt_)) ?_))) ?_
      rintro x ⟨hx1,hx2⟩
      refine KD ?_
      refine KD (KB ?_)
      refine KA (KE rfl) (Nb rfl) ?_
      refine KA (KE rfl) (Nb rfl) ?_
      refine KA (KL rfl rfl (KAr)) (Nb rfl) ?_
      refine KG ?_
      first|refine Kb rfl (fun h45=>?_) (fun h45=>?_)|refine Ke rfl (fun h45=>?_) (fun h45=>?_)
      ·
        have h45:x.1<V.n:=h45
        have hcl:=cntD_le V (u%V.n) R x.1
        have hcs:cntD V (u%V.n) R (x.1+1) = if iv (dualP V (u%V.n) x.1 R) = true then cntD V (u%V.n) R x.1+1 else cntD V (u%V.n) R x.1:=rfl
        refine Kd ?_
        refine KD ?_
        refine LCode.block ?_
        refine KD ?_
        refine Ka [14] (by kernel_rfl) ?_
        refine KC 0 rfl (by kernel_rfl) (Nb rfl) (KM (o':=0) Try.underlying31 rfl rfl rfl sz_3 (by decide)) ?_
        refine LAny.take 1 rfl (by kernel_rfl) (Nb rfl) (KK rfl (by repeat (first|exact Mh _|apply Mt)) (KY Try.underlying3 rfl (by first|rfl|exact Kv _ _ _ (by omega)|exact Ku _ (by omega)|exact Ks _ (by omega)|exact dv_m _ _ _ (by omega)))) ?_
        refine KC 2 rfl (by kernel_rfl) (Nb rfl) (KE rfl) ?_
        refine KC 3 rfl (by kernel_rfl) (Nb rfl) (KE rfl) ?_
        refine KC 4 rfl (by kernel_rfl) (Nb rfl) (KL rfl rfl (br_rem64 (by omega))) ?_
        refine KC 6 rfl (by kernel_rfl) (Nb rfl) (KE rfl) ?_
        refine LAny.take 8 rfl (by kernel_rfl) (Nb rfl) (KK rfl (by repeat (first|exact Mh _|apply Mt)) (by exact KN Try.underlying60 rfl sz_60)) ?_
        refine KAk ?_
        refine KAP 13 rfl (.inl zr_60) (Nb rfl) rfl rfl rfl ?_
        refine Kq 5 rfl rfl rfl (Nb rfl) (by kernel_rfl) rfl (Kt (first:=[]) rfl en_55 rfl (fun w hw=>c_One (u%V.n) w (by omega))) ?_
        rintro _ _ ⟨rfl,rfl⟩
        refine Kq 7 rfl rfl rfl (Nb rfl) (by kernel_rfl) rfl (Kt (first:=[]) rfl en_55 rfl (fun w hw=>c_One x.1 w (by omega))) ?_
        rintro _ _ ⟨rfl,rfl⟩
        refine Kq 9 rfl rfl rfl (Nb rfl) (by kernel_rfl) rfl (Kt (first:=[]) rfl en_77 rfl (fun w hw=>c_dualMul _ V (u%V.n) x.1 R w h2 hRo hun h45)) ?_
        rintro _ _ ⟨rfl,rfl⟩
        refine KAA 10 rfl (by kernel_rfl) (Nb rfl) rfl (KE rfl) ?_
        refine KAA 11 rfl (by kernel_rfl) (Nb rfl) rfl (Kg rfl rfl) ?_
        refine KAA 12 rfl (by kernel_rfl) (Nb rfl) rfl (Kg rfl rfl) ?_
        refine KAZ (by kernel_rfl) (fun b13=>?_)
        refine KAV ?_
        refine Km 14 rfl rfl (by kernel_rfl) (by kernel_rfl) (KP rfl rfl sz_60 (by exact Ko _ _ _) (by repeat (first|exact Sh _|apply St_)) (by exact KS _ _ _) ?_)
        refine KC 15 rfl (by kernel_rfl) (Nb rfl) (KF rfl) ?_
        refine Kj (by kernel_rfl) ?_
        refine KD ?_
        refine KD (KB ?_)
        refine KA (KE rfl) (Nb rfl) ?_
        refine KI rfl (KU (KR (first:=[]) rfl en_46 rfl (Nb rfl) (fun w hw=>c_Num _ w) ?_))
        refine KA (KL (v:=.bool false) rfl rfl (br_f (br_neq (b:=0)) (by first|exact (fun e=>e rfl)|(simp; done)|omega))) (Nb rfl) ?_
        refine KG ?_
        refine Ki rfl ?_
        refine Kd ?_
        refine KD (KB ?_)
        refine KA (KM (o':=18) Try.underlying60 rfl rfl rfl sz_4 (by decide)) (Nb rfl) ?_
        refine LOps.det (KK rfl (by repeat (first|exact Mh _|apply Mt)) (KY Try.underlying4 rfl (by exact pt_gt _ _ _))) (Nb rfl) ?_
        refine KG ?_
        first|refine Kb rfl (fun h65=>?_) (fun h65=>?_)|refine Ke rfl (fun h65=>?_) (fun h65=>?_)
        ·
          have h65:iv (dualP V (u%V.n) x.1 R) = true:=h65
          rw [if_pos h65] at hcs
          refine KB ?_
          refine KA (KE rfl) (Nb rfl) ?_
          refine KA (KL rfl rfl (KAN (b:=1) (by omega))) (Nb rfl) ?_
          refine KA (KF rfl) (Nb rfl) ?_
          refine KG ?_
          refine KB ?_
          refine KA (KE rfl) (Nb rfl) ?_
          refine KA (KV (KL rfl rfl (KAT (b:=1))) (vi (b:=x.1+1) (by omega))) (Nb rfl) ?_
          refine KA (KF rfl) (Nb rfl) ?_
          refine KG ?_
          exact ⟨(x.1+1,x.2+1),⟨by dsimp only; omega,by dsimp only; omega⟩,by dsimp only; omega,KAC ⟨rfl,rfl,rfl,rfl,rfl,rfl,trivial⟩ (by repeat (first|exact Sel.nil _|refine Sel.cons (by repeat (first|exact Ph _|apply Pt_)) ?_))⟩
        ·
          have h65:iv (dualP V (u%V.n) x.1 R) = false:=h65
          rw [if_neg (by rw [h65]; decide)] at hcs
          refine Kd ?_
          refine KB ?_
          refine KA (KE rfl) (Nb rfl) ?_
          refine KA (KV (KL rfl rfl (KAT (b:=1))) (vi (b:=x.1+1) (by omega))) (Nb rfl) ?_
          refine KA (KF rfl) (Nb rfl) ?_
          refine KG ?_
          exact ⟨(x.1+1,x.2),⟨by dsimp only; omega,by dsimp only; omega⟩,by dsimp only; omega,KAC ⟨rfl,rfl,rfl,rfl,rfl,rfl,trivial⟩ (by repeat (first|exact Sel.nil _|refine Sel.cons (by repeat (first|exact Ph _|apply Pt_)) ?_))⟩
      ·
        have h45:¬ x.1<V.n:=h45
        refine KAG ?_
        refine KD ?_
        have hx1n:x.1 = V.n:=by omega
        rw [hx1n,← hRe,cntD_one hok _ _ (by omega) (by omega)] at hx2
        refine KB ?_
        refine KA (KE rfl) (Nb rfl) ?_
        refine KA (KL (v:=.bool true) rfl rfl (br_t (br_eql (b:=1)) (hx2))) (Nb rfl) ?_
        refine KA (KF rfl) (Nb rfl) ?_
        refine KG (KZ ?_)
        refine ⟨[_],.cons rfl .nil,fun a w' hr=>⟨?_,hr.fr.below⟩⟩
        rfl
  ·
    rintro _ _ ⟨qga,qgb,rfl,rfl,hnga,hngb⟩
    refine LAny.twoX 5 10 rfl rfl rfl rfl (by kernel_rfl) (.inr (KQ (KAa Try.underlying28 inf_56 rfl rfl rfl rfl (by decide) rfl) (Nb rfl) (fun b38=>?_))) (.inr (KQ (Kh zr_60) (Nb rfl) (fun b10=>?_)))
    ·
      refine LAny.twoX 8 10 rfl rfl rfl rfl (by kernel_rfl) (.inr (Kx (first:=[]) rfl en_64 rfl (Nb rfl) (fun w hw hs=>(c_r_TimesS Q V b38 1 (1+k%200) qga qgb V.G R w (hw _ (by repeat (first|exact Mh _|apply Mt))) hok (hw _ (by repeat (first|exact Mh _|apply Mt))) (by omega) (by omega) (hw _ (by repeat (first|exact Mh _|apply Mt))) (hw _ (by repeat (first|exact Mh _|apply Mt))) hok.on hRe).mono fun e w' h=>Num2R.q (Old.pt (by repeat (first|exact Mh _|apply Mt)) (by repeat (first|exact Mh _|apply Mt)) (Old.nil _)) hs h) ?_)) (.inr (KQ (Kh zr_60) (Nb rfl) (fun b10=>?_)))
      ·
        rintro _ _ ⟨qpa,qpb,rfl,rfl,hnpa,hnpb⟩
        refine LAny.twoX 9 10 rfl rfl rfl rfl (by kernel_rfl) (.inr (KR (first:=[]) rfl en_66 rfl (Nb rfl) (fun w hw=>c_r_OutP V qpa qpb (R) w (hw _ (by repeat (first|exact Mh _|apply Mt))) (hw _ (by repeat (first|exact Mh _|apply Mt)))) ?_)) (.inr (KQ (Kh zr_60) (Nb rfl) (fun b10=>?_)))
        ·
          refine Kr 10 rfl rfl (by kernel_rfl) (KQ (Kh zr_60) (Nb rfl) (fun b10=>?_))
          refine Km 11 rfl rfl (by kernel_rfl) (by kernel_rfl) (KP rfl rfl sz_60 (by exact Ko _ _ _) (by repeat (first|exact Sh _|apply St_)) (by exact KS _ _ _) ?_)
          refine Kj (by kernel_rfl) ?_
          refine KD (KB ?_)
          refine KA (KF (v:=.int .i64 ((0:Nat):Int)) rfl) (Nb rfl) ?_
          refine KG ?_
          refine KD ?_
          refine KD (KB ?_)
          refine KA (KF (v:=.int .u64 ((0:Nat):Int)) rfl) (Nb rfl) ?_
          refine KG ?_
          refine LCode.block ?_
          refine KAL (α:=Nat×Nat) (fun x=>x.1≤V.n∧x.2 = cntD V (u%V.n) R x.1) (fun x=>⟨[(2,.int .u64 ((u:Nat):Int)),(7,.pointer (some ⟨b7,0,none⟩)),(9,.int .u64 ((V.n:Nat):Int)),(10,.pointer (some ⟨b10,0,none⟩)),(11,.int .i64 ((x.2:Nat):Int)),(12,.int .u64 ((x.1:Nat):Int))],[.blk b10 ⟨true,ptL (xv R) (yv R) (iv R),60,(0,0)⟩,.blk b7 ⟨true,crvL Q V,31,(0,0)⟩,crvI Q V]⟩) (fun x=>V.n-x.1) ((0,0)) (⟨Nat.zero_le _,rfl⟩) (KAC ⟨rfl,rfl,rfl,rfl,rfl,rfl,trivial⟩ (by repeat (first|exact Sel.nil _|refine Sel.cons (by repeat (first|exact Ph _|apply Pt_)) ?_))) ?_
          rintro x ⟨hx1,hx2⟩
          refine KD ?_
          refine KD (KB ?_)
          refine KA (KE rfl) (Nb rfl) ?_
          refine KA (KE rfl) (Nb rfl) ?_
          refine KA (KL rfl rfl (KAr)) (Nb rfl) ?_
          refine KG ?_
          first|refine Kb rfl (fun h45=>?_) (fun h45=>?_)|refine Ke rfl (fun h45=>?_) (fun h45=>?_)
          ·
            have h45:x.1<V.n:=h45
            have hcl:=cntD_le V (u%V.n) R x.1
            have hcs:cntD V (u%V.n) R (x.1+1) = if iv (dualP V (u%V.n) x.1 R) = true then cntD V (u%V.n) R x.1+1 else cntD V (u%V.n) R x.1:=rfl
            refine Kd ?_
            refine KD ?_
            refine LCode.block ?_
            refine KD ?_
            refine Ka [14] (by kernel_rfl) ?_
            refine KC 0 rfl (by kernel_rfl) (Nb rfl) (KM (o':=0) Try.underlying31 rfl rfl rfl sz_3 (by decide)) ?_
            refine LAny.take 1 rfl (by kernel_rfl) (Nb rfl) (KK rfl (by repeat (first|exact Mh _|apply Mt)) (KY Try.underlying3 rfl (by first|rfl|exact Kv _ _ _ (by omega)|exact Ku _ (by omega)|exact Ks _ (by omega)|exact dv_m _ _ _ (by omega)))) ?_
            refine KC 2 rfl (by kernel_rfl) (Nb rfl) (KE rfl) ?_
            refine KC 3 rfl (by kernel_rfl) (Nb rfl) (KE rfl) ?_
            refine KC 4 rfl (by kernel_rfl) (Nb rfl) (KL rfl rfl (br_rem64 (by omega))) ?_
            refine KC 6 rfl (by kernel_rfl) (Nb rfl) (KE rfl) ?_
            refine LAny.take 8 rfl (by kernel_rfl) (Nb rfl) (KK rfl (by repeat (first|exact Mh _|apply Mt)) (by exact KN Try.underlying60 rfl sz_60)) ?_
            refine KAk ?_
            refine KAP 13 rfl (.inl zr_60) (Nb rfl) rfl rfl rfl ?_
            refine Kq 5 rfl rfl rfl (Nb rfl) (by kernel_rfl) rfl (Kt (first:=[]) rfl en_55 rfl (fun w hw=>c_One (u%V.n) w (by omega))) ?_
            rintro _ _ ⟨rfl,rfl⟩
            refine Kq 7 rfl rfl rfl (Nb rfl) (by kernel_rfl) rfl (Kt (first:=[]) rfl en_55 rfl (fun w hw=>c_One x.1 w (by omega))) ?_
            rintro _ _ ⟨rfl,rfl⟩
            refine Kq 9 rfl rfl rfl (Nb rfl) (by kernel_rfl) rfl (Kt (first:=[]) rfl en_77 rfl (fun w hw=>c_dualMul _ V (u%V.n) x.1 R w h2 hRo hun h45)) ?_
            rintro _ _ ⟨rfl,rfl⟩
            refine KAA 10 rfl (by kernel_rfl) (Nb rfl) rfl (KE rfl) ?_
            refine KAA 11 rfl (by kernel_rfl) (Nb rfl) rfl (Kg rfl rfl) ?_
            refine KAA 12 rfl (by kernel_rfl) (Nb rfl) rfl (Kg rfl rfl) ?_
            refine KAZ (by kernel_rfl) (fun b13=>?_)
            refine KAV ?_
            refine Km 14 rfl rfl (by kernel_rfl) (by kernel_rfl) (KP rfl rfl sz_60 (by exact Ko _ _ _) (by repeat (first|exact Sh _|apply St_)) (by exact KS _ _ _) ?_)
            refine KC 15 rfl (by kernel_rfl) (Nb rfl) (KF rfl) ?_
            refine Kj (by kernel_rfl) ?_
            refine KD ?_
            refine KD (KB ?_)
            refine KA (KE rfl) (Nb rfl) ?_
            refine KI rfl (KU (KR (first:=[]) rfl en_46 rfl (Nb rfl) (fun w hw=>c_Num _ w) ?_))
            refine KA (KL (v:=.bool false) rfl rfl (br_f (br_neq (b:=0)) (by first|exact (fun e=>e rfl)|(simp; done)|omega))) (Nb rfl) ?_
            refine KG ?_
            refine Ki rfl ?_
            refine Kd ?_
            refine KD (KB ?_)
            refine KA (KM (o':=18) Try.underlying60 rfl rfl rfl sz_4 (by decide)) (Nb rfl) ?_
            refine LOps.det (KK rfl (by repeat (first|exact Mh _|apply Mt)) (KY Try.underlying4 rfl (by exact pt_gt _ _ _))) (Nb rfl) ?_
            refine KG ?_
            first|refine Kb rfl (fun h65=>?_) (fun h65=>?_)|refine Ke rfl (fun h65=>?_) (fun h65=>?_)
            ·
              have h65:iv (dualP V (u%V.n) x.1 R) = true:=h65
              rw [if_pos h65] at hcs
              refine KB ?_
              refine KA (KE rfl) (Nb rfl) ?_
              refine KA (KL rfl rfl (KAN (b:=1) (by omega))) (Nb rfl) ?_
              refine KA (KF rfl) (Nb rfl) ?_
              refine KG ?_
              refine KB ?_
              refine KA (KE rfl) (Nb rfl) ?_
              refine KA (KV (KL rfl rfl (KAT (b:=1))) (vi (b:=x.1+1) (by omega))) (Nb rfl) ?_
              refine KA (KF rfl) (Nb rfl) ?_
              refine KG ?_
              exact ⟨(x.1+1,x.2+1),⟨by dsimp only; omega,by dsimp only; omega⟩,by dsimp only; omega,KAC ⟨rfl,rfl,rfl,rfl,rfl,rfl,trivial⟩ (by repeat (first|exact Sel.nil _|refine Sel.cons (by repeat (first|exact Ph _|apply Pt_)) ?_))⟩
            ·
              have h65:iv (dualP V (u%V.n) x.1 R) = false:=h65
              rw [if_neg (by rw [h65]; decide)] at hcs
              refine Kd ?_
              refine KB ?_
              refine KA (KE rfl) (Nb rfl) ?_
              refine KA (KV (KL rfl rfl (KAT (b:=1))) (vi (b:=x.1+1) (by omega))) (Nb rfl) ?_
              refine KA (KF rfl) (Nb rfl) ?_
              refine KG ?_
              exact ⟨(x.1+1,x.2),⟨by dsimp only; omega,by dsimp only; omega⟩,by dsimp only; omega,KAC ⟨rfl,rfl,rfl,rfl,rfl,rfl,trivial⟩ (by repeat (first|exact Sel.nil _|refine Sel.cons (by repeat (first|exact Ph _|apply Pt_)) ?_))⟩
          ·
            have h45:¬ x.1<V.n:=h45
            refine KAG ?_
            refine KD ?_
            have hx1n:x.1 = V.n:=by omega
            rw [hx1n,← hRe,cntD_one hok _ _ (by omega) (by omega)] at hx2
            refine KB ?_
            refine KA (KE rfl) (Nb rfl) ?_
            refine KA (KL (v:=.bool true) rfl rfl (br_t (br_eql (b:=1)) (hx2))) (Nb rfl) ?_
            refine KA (KF rfl) (Nb rfl) ?_
            refine KG (KZ ?_)
            refine ⟨[_],.cons rfl .nil,fun a w' hr=>⟨?_,hr.fr.below⟩⟩
            rfl
        ·
          refine Kr 9 rfl rfl (by kernel_rfl) (KR (first:=[]) rfl en_66 rfl (Nb rfl) (fun w hw=>c_r_OutP V qpa qpb (R) w (hw _ (by repeat (first|exact Mh _|apply Mt))) (hw _ (by repeat (first|exact Mh _|apply Mt)))) ?_)
          refine Km 11 rfl rfl (by kernel_rfl) (by kernel_rfl) (KP rfl rfl sz_60 (by exact Ko _ _ _) (by repeat (first|exact Sh _|apply St_)) (by exact KS _ _ _) ?_)
          refine Kj (by kernel_rfl) ?_
          refine KD (KB ?_)
          refine KA (KF (v:=.int .i64 ((0:Nat):Int)) rfl) (Nb rfl) ?_
          refine KG ?_
          refine KD ?_
          refine KD (KB ?_)
          refine KA (KF (v:=.int .u64 ((0:Nat):Int)) rfl) (Nb rfl) ?_
          refine KG ?_
          refine LCode.block ?_
          refine KAL (α:=Nat×Nat) (fun x=>x.1≤V.n∧x.2 = cntD V (u%V.n) R x.1) (fun x=>⟨[(2,.int .u64 ((u:Nat):Int)),(7,.pointer (some ⟨b7,0,none⟩)),(9,.int .u64 ((V.n:Nat):Int)),(10,.pointer (some ⟨b10,0,none⟩)),(11,.int .i64 ((x.2:Nat):Int)),(12,.int .u64 ((x.1:Nat):Int))],[.blk b10 ⟨true,ptL (xv R) (yv R) (iv R),60,(0,0)⟩,.blk b7 ⟨true,crvL Q V,31,(0,0)⟩,crvI Q V]⟩) (fun x=>V.n-x.1) ((0,0)) (⟨Nat.zero_le _,rfl⟩) (KAC ⟨rfl,rfl,rfl,rfl,rfl,rfl,trivial⟩ (by repeat (first|exact Sel.nil _|refine Sel.cons (by repeat (first|exact Ph _|apply Pt_)) ?_))) ?_
          rintro x ⟨hx1,hx2⟩
          refine KD ?_
          refine KD (KB ?_)
          refine KA (KE rfl) (Nb rfl) ?_
          refine KA (KE rfl) (Nb rfl) ?_
          refine KA (KL rfl rfl (KAr)) (Nb rfl) ?_
          refine KG ?_
          first|refine Kb rfl (fun h45=>?_) (fun h45=>?_)|refine Ke rfl (fun h45=>?_) (fun h45=>?_)
          ·
            have h45:x.1<V.n:=h45
            have hcl:=cntD_le V (u%V.n) R x.1
            have hcs:cntD V (u%V.n) R (x.1+1) = if iv (dualP V (u%V.n) x.1 R) = true then cntD V (u%V.n) R x.1+1 else cntD V (u%V.n) R x.1:=rfl
            refine Kd ?_
            refine KD ?_
            refine LCode.block ?_
            refine KD ?_
            refine Ka [14] (by kernel_rfl) ?_
            refine KC 0 rfl (by kernel_rfl) (Nb rfl) (KM (o':=0) Try.underlying31 rfl rfl rfl sz_3 (by decide)) ?_
            refine LAny.take 1 rfl (by kernel_rfl) (Nb rfl) (KK rfl (by repeat (first|exact Mh _|apply Mt)) (KY Try.underlying3 rfl (by first|rfl|exact Kv _ _ _ (by omega)|exact Ku _ (by omega)|exact Ks _ (by omega)|exact dv_m _ _ _ (by omega)))) ?_
            refine KC 2 rfl (by kernel_rfl) (Nb rfl) (KE rfl) ?_
            refine KC 3 rfl (by kernel_rfl) (Nb rfl) (KE rfl) ?_
            refine KC 4 rfl (by kernel_rfl) (Nb rfl) (KL rfl rfl (br_rem64 (by omega))) ?_
            refine KC 6 rfl (by kernel_rfl) (Nb rfl) (KE rfl) ?_
            refine LAny.take 8 rfl (by kernel_rfl) (Nb rfl) (KK rfl (by repeat (first|exact Mh _|apply Mt)) (by exact KN Try.underlying60 rfl sz_60)) ?_
            refine KAk ?_
            refine KAP 13 rfl (.inl zr_60) (Nb rfl) rfl rfl rfl ?_
            refine Kq 5 rfl rfl rfl (Nb rfl) (by kernel_rfl) rfl (Kt (first:=[]) rfl en_55 rfl (fun w hw=>c_One (u%V.n) w (by omega))) ?_
            rintro _ _ ⟨rfl,rfl⟩
            refine Kq 7 rfl rfl rfl (Nb rfl) (by kernel_rfl) rfl (Kt (first:=[]) rfl en_55 rfl (fun w hw=>c_One x.1 w (by omega))) ?_
            rintro _ _ ⟨rfl,rfl⟩
            refine Kq 9 rfl rfl rfl (Nb rfl) (by kernel_rfl) rfl (Kt (first:=[]) rfl en_77 rfl (fun w hw=>c_dualMul _ V (u%V.n) x.1 R w h2 hRo hun h45)) ?_
            rintro _ _ ⟨rfl,rfl⟩
            refine KAA 10 rfl (by kernel_rfl) (Nb rfl) rfl (KE rfl) ?_
            refine KAA 11 rfl (by kernel_rfl) (Nb rfl) rfl (Kg rfl rfl) ?_
            refine KAA 12 rfl (by kernel_rfl) (Nb rfl) rfl (Kg rfl rfl) ?_
            refine KAZ (by kernel_rfl) (fun b13=>?_)
            refine KAV ?_
            refine Km 14 rfl rfl (by kernel_rfl) (by kernel_rfl) (KP rfl rfl sz_60 (by exact Ko _ _ _) (by repeat (first|exact Sh _|apply St_)) (by exact KS _ _ _) ?_)
            refine KC 15 rfl (by kernel_rfl) (Nb rfl) (KF rfl) ?_
            refine Kj (by kernel_rfl) ?_
            refine KD ?_
            refine KD (KB ?_)
            refine KA (KE rfl) (Nb rfl) ?_
            refine KI rfl (KU (KR (first:=[]) rfl en_46 rfl (Nb rfl) (fun w hw=>c_Num _ w) ?_))
            refine KA (KL (v:=.bool false) rfl rfl (br_f (br_neq (b:=0)) (by first|exact (fun e=>e rfl)|(simp; done)|omega))) (Nb rfl) ?_
            refine KG ?_
            refine Ki rfl ?_
            refine Kd ?_
            refine KD (KB ?_)
            refine KA (KM (o':=18) Try.underlying60 rfl rfl rfl sz_4 (by decide)) (Nb rfl) ?_
            refine LOps.det (KK rfl (by repeat (first|exact Mh _|apply Mt)) (KY Try.underlying4 rfl (by exact pt_gt _ _ _))) (Nb rfl) ?_
            refine KG ?_
            first|refine Kb rfl (fun h65=>?_) (fun h65=>?_)|refine Ke rfl (fun h65=>?_) (fun h65=>?_)
            ·
              have h65:iv (dualP V (u%V.n) x.1 R) = true:=h65
              rw [if_pos h65] at hcs
              refine KB ?_
              refine KA (KE rfl) (Nb rfl) ?_
              refine KA (KL rfl rfl (KAN (b:=1) (by omega))) (Nb rfl) ?_
              refine KA (KF rfl) (Nb rfl) ?_
              refine KG ?_
              refine KB ?_
              refine KA (KE rfl) (Nb rfl) ?_
              refine KA (KV (KL rfl rfl (KAT (b:=1))) (vi (b:=x.1+1) (by omega))) (Nb rfl) ?_
              refine KA (KF rfl) (Nb rfl) ?_
              refine KG ?_
              exact ⟨(x.1+1,x.2+1),⟨by dsimp only; omega,by dsimp only; omega⟩,by dsimp only; omega,KAC ⟨rfl,rfl,rfl,rfl,rfl,rfl,trivial⟩ (by repeat (first|exact Sel.nil _|refine Sel.cons (by repeat (first|exact Ph _|apply Pt_)) ?_))⟩
            ·
              have h65:iv (dualP V (u%V.n) x.1 R) = false:=h65
              rw [if_neg (by rw [h65]; decide)] at hcs
              refine Kd ?_
              refine KB ?_
              refine KA (KE rfl) (Nb rfl) ?_
              refine KA (KV (KL rfl rfl (KAT (b:=1))) (vi (b:=x.1+1) (by omega))) (Nb rfl) ?_
              refine KA (KF rfl) (Nb rfl) ?_
              refine KG ?_
              exact ⟨(x.1+1,x.2),⟨by dsimp only; omega,by dsimp only; omega⟩,by dsimp only; omega,KAC ⟨rfl,rfl,rfl,rfl,rfl,rfl,trivial⟩ (by repeat (first|exact Sel.nil _|refine Sel.cons (by repeat (first|exact Ph _|apply Pt_)) ?_))⟩
          ·
            have h45:¬ x.1<V.n:=h45
            refine KAG ?_
            refine KD ?_
            have hx1n:x.1 = V.n:=by omega
            rw [hx1n,← hRe,cntD_one hok _ _ (by omega) (by omega)] at hx2
            refine KB ?_
            refine KA (KE rfl) (Nb rfl) ?_
            refine KA (KL (v:=.bool true) rfl rfl (br_t (br_eql (b:=1)) (hx2))) (Nb rfl) ?_
            refine KA (KF rfl) (Nb rfl) ?_
            refine KG (KZ ?_)
            refine ⟨[_],.cons rfl .nil,fun a w' hr=>⟨?_,hr.fr.below⟩⟩
            rfl
      ·
        refine Kr 8 rfl rfl (by kernel_rfl) (Kx (first:=[]) rfl en_64 rfl (Nb rfl) (fun w hw hs=>(c_r_TimesS Q V b38 1 (1+k%200) qga qgb V.G R w (hw _ (by repeat (first|exact Mh _|apply Mt))) hok (hw _ (by repeat (first|exact Mh _|apply Mt))) (by omega) (by omega) (hw _ (by repeat (first|exact Mh _|apply Mt))) (hw _ (by repeat (first|exact Mh _|apply Mt))) hok.on hRe).mono fun e w' h=>Num2R.q (Old.pt (by repeat (first|exact Mh _|apply Mt)) (by repeat (first|exact Mh _|apply Mt)) (Old.nil _)) hs h) ?_)
        rintro _ _ ⟨qpa,qpb,rfl,rfl,hnpa,hnpb⟩
        refine Kr 9 rfl rfl (by kernel_rfl) (KR (first:=[]) rfl en_66 rfl (Nb rfl) (fun w hw=>c_r_OutP V qpa qpb (R) w (hw _ (by repeat (first|exact Mh _|apply Mt))) (hw _ (by repeat (first|exact Mh _|apply Mt)))) ?_)
        refine Km 11 rfl rfl (by kernel_rfl) (by kernel_rfl) (KP rfl rfl sz_60 (by exact Ko _ _ _) (by repeat (first|exact Sh _|apply St_)) (by exact KS _ _ _) ?_)
        refine Kj (by kernel_rfl) ?_
        refine KD (KB ?_)
        refine KA (KF (v:=.int .i64 ((0:Nat):Int)) rfl) (Nb rfl) ?_
        refine KG ?_
        refine KD ?_
        refine KD (KB ?_)
        refine KA (KF (v:=.int .u64 ((0:Nat):Int)) rfl) (Nb rfl) ?_
        refine KG ?_
        refine LCode.block ?_
        refine KAL (α:=Nat×Nat) (fun x=>x.1≤V.n∧x.2 = cntD V (u%V.n) R x.1) (fun x=>⟨[(2,.int .u64 ((u:Nat):Int)),(7,.pointer (some ⟨b7,0,none⟩)),(9,.int .u64 ((V.n:Nat):Int)),(10,.pointer (some ⟨b10,0,none⟩)),(11,.int .i64 ((x.2:Nat):Int)),(12,.int .u64 ((x.1:Nat):Int))],[.blk b10 ⟨true,ptL (xv R) (yv R) (iv R),60,(0,0)⟩,.blk b7 ⟨true,crvL Q V,31,(0,0)⟩,crvI Q V]⟩) (fun x=>V.n-x.1) ((0,0)) (⟨Nat.zero_le _,rfl⟩) (KAC ⟨rfl,rfl,rfl,rfl,rfl,rfl,trivial⟩ (by repeat (first|exact Sel.nil _|refine Sel.cons (by repeat (first|exact Ph _|apply Pt_)) ?_))) ?_
        rintro x ⟨hx1,hx2⟩
        refine KD ?_
        refine KD (KB ?_)
        refine KA (KE rfl) (Nb rfl) ?_
        refine KA (KE rfl) (Nb rfl) ?_
        refine KA (KL rfl rfl (KAr)) (Nb rfl) ?_
        refine KG ?_
        first|refine Kb rfl (fun h45=>?_) (fun h45=>?_)|refine Ke rfl (fun h45=>?_) (fun h45=>?_)
        ·
          have h45:x.1<V.n:=h45
          have hcl:=cntD_le V (u%V.n) R x.1
          have hcs:cntD V (u%V.n) R (x.1+1) = if iv (dualP V (u%V.n) x.1 R) = true then cntD V (u%V.n) R x.1+1 else cntD V (u%V.n) R x.1:=rfl
          refine Kd ?_
          refine KD ?_
          refine LCode.block ?_
          refine KD ?_
          refine Ka [14] (by kernel_rfl) ?_
          refine KC 0 rfl (by kernel_rfl) (Nb rfl) (KM (o':=0) Try.underlying31 rfl rfl rfl sz_3 (by decide)) ?_
          refine LAny.take 1 rfl (by kernel_rfl) (Nb rfl) (KK rfl (by repeat (first|exact Mh _|apply Mt)) (KY Try.underlying3 rfl (by first|rfl|exact Kv _ _ _ (by omega)|exact Ku _ (by omega)|exact Ks _ (by omega)|exact dv_m _ _ _ (by omega)))) ?_
          refine KC 2 rfl (by kernel_rfl) (Nb rfl) (KE rfl) ?_
          refine KC 3 rfl (by kernel_rfl) (Nb rfl) (KE rfl) ?_
          refine KC 4 rfl (by kernel_rfl) (Nb rfl) (KL rfl rfl (br_rem64 (by omega))) ?_
          refine KC 6 rfl (by kernel_rfl) (Nb rfl) (KE rfl) ?_
          refine LAny.take 8 rfl (by kernel_rfl) (Nb rfl) (KK rfl (by repeat (first|exact Mh _|apply Mt)) (by exact KN Try.underlying60 rfl sz_60)) ?_
          refine KAk ?_
          refine KAP 13 rfl (.inl zr_60) (Nb rfl) rfl rfl rfl ?_
          refine Kq 5 rfl rfl rfl (Nb rfl) (by kernel_rfl) rfl (Kt (first:=[]) rfl en_55 rfl (fun w hw=>c_One (u%V.n) w (by omega))) ?_
          rintro _ _ ⟨rfl,rfl⟩
          refine Kq 7 rfl rfl rfl (Nb rfl) (by kernel_rfl) rfl (Kt (first:=[]) rfl en_55 rfl (fun w hw=>c_One x.1 w (by omega))) ?_
          rintro _ _ ⟨rfl,rfl⟩
          refine Kq 9 rfl rfl rfl (Nb rfl) (by kernel_rfl) rfl (Kt (first:=[]) rfl en_77 rfl (fun w hw=>c_dualMul _ V (u%V.n) x.1 R w h2 hRo hun h45)) ?_
          rintro _ _ ⟨rfl,rfl⟩
          refine KAA 10 rfl (by kernel_rfl) (Nb rfl) rfl (KE rfl) ?_
          refine KAA 11 rfl (by kernel_rfl) (Nb rfl) rfl (Kg rfl rfl) ?_
          refine KAA 12 rfl (by kernel_rfl) (Nb rfl) rfl (Kg rfl rfl) ?_
          refine KAZ (by kernel_rfl) (fun b13=>?_)
          refine KAV ?_
          refine Km 14 rfl rfl (by kernel_rfl) (by kernel_rfl) (KP rfl rfl sz_60 (by exact Ko _ _ _) (by repeat (first|exact Sh _|apply St_)) (by exact KS _ _ _) ?_)
          refine KC 15 rfl (by kernel_rfl) (Nb rfl) (KF rfl) ?_
          refine Kj (by kernel_rfl) ?_
          refine KD ?_
          refine KD (KB ?_)
          refine KA (KE rfl) (Nb rfl) ?_
          refine KI rfl (KU (KR (first:=[]) rfl en_46 rfl (Nb rfl) (fun w hw=>c_Num _ w) ?_))
          refine KA (KL (v:=.bool false) rfl rfl (br_f (br_neq (b:=0)) (by first|exact (fun e=>e rfl)|(simp; done)|omega))) (Nb rfl) ?_
          refine KG ?_
          refine Ki rfl ?_
          refine Kd ?_
          refine KD (KB ?_)
          refine KA (KM (o':=18) Try.underlying60 rfl rfl rfl sz_4 (by decide)) (Nb rfl) ?_
          refine LOps.det (KK rfl (by repeat (first|exact Mh _|apply Mt)) (KY Try.underlying4 rfl (by exact pt_gt _ _ _))) (Nb rfl) ?_
          refine KG ?_
          first|refine Kb rfl (fun h65=>?_) (fun h65=>?_)|refine Ke rfl (fun h65=>?_) (fun h65=>?_)
          ·
            have h65:iv (dualP V (u%V.n) x.1 R) = true:=h65
            rw [if_pos h65] at hcs
            refine KB ?_
            refine KA (KE rfl) (Nb rfl) ?_
            refine KA (KL rfl rfl (KAN (b:=1) (by omega))) (Nb rfl) ?_
            refine KA (KF rfl) (Nb rfl) ?_
            refine KG ?_
            refine KB ?_
            refine KA (KE rfl) (Nb rfl) ?_
            refine KA (KV (KL rfl rfl (KAT (b:=1))) (vi (b:=x.1+1) (by omega))) (Nb rfl) ?_
            refine KA (KF rfl) (Nb rfl) ?_
            refine KG ?_
            exact ⟨(x.1+1,x.2+1),⟨by dsimp only; omega,by dsimp only; omega⟩,by dsimp only; omega,KAC ⟨rfl,rfl,rfl,rfl,rfl,rfl,trivial⟩ (by repeat (first|exact Sel.nil _|refine Sel.cons (by repeat (first|exact Ph _|apply Pt_)) ?_))⟩
          ·
            have h65:iv (dualP V (u%V.n) x.1 R) = false:=h65
            rw [if_neg (by rw [h65]; decide)] at hcs
            refine Kd ?_
            refine KB ?_
            refine KA (KE rfl) (Nb rfl) ?_
            refine KA (KV (KL rfl rfl (KAT (b:=1))) (vi (b:=x.1+1) (by omega))) (Nb rfl) ?_
            refine KA (KF rfl) (Nb rfl) ?_
            refine KG ?_
            exact ⟨(x.1+1,x.2),⟨by dsimp only; omega,by dsimp only; omega⟩,by dsimp only; omega,KAC ⟨rfl,rfl,rfl,rfl,rfl,rfl,trivial⟩ (by repeat (first|exact Sel.nil _|refine Sel.cons (by repeat (first|exact Ph _|apply Pt_)) ?_))⟩
        ·
          have h45:¬ x.1<V.n:=h45
          refine KAG ?_
          refine KD ?_
          have hx1n:x.1 = V.n:=by omega
          rw [hx1n,← hRe,cntD_one hok _ _ (by omega) (by omega)] at hx2
          refine KB ?_
          refine KA (KE rfl) (Nb rfl) ?_
          refine KA (KL (v:=.bool true) rfl rfl (br_t (br_eql (b:=1)) (hx2))) (Nb rfl) ?_
          refine KA (KF rfl) (Nb rfl) ?_
          refine KG (KZ ?_)
          refine ⟨[_],.cons rfl .nil,fun a w' hr=>⟨?_,hr.fr.below⟩⟩
          rfl
    ·
      refine Kr 5 rfl rfl (by kernel_rfl) (KQ (KAa Try.underlying28 inf_56 rfl rfl rfl rfl (by decide) rfl) (Nb rfl) (fun b38=>?_))
      refine Kr 8 rfl rfl (by kernel_rfl) (Kx (first:=[]) rfl en_64 rfl (Nb rfl) (fun w hw hs=>(c_r_TimesS Q V b38 1 (1+k%200) qga qgb V.G R w (hw _ (by repeat (first|exact Mh _|apply Mt))) hok (hw _ (by repeat (first|exact Mh _|apply Mt))) (by omega) (by omega) (hw _ (by repeat (first|exact Mh _|apply Mt))) (hw _ (by repeat (first|exact Mh _|apply Mt))) hok.on hRe).mono fun e w' h=>Num2R.q (Old.pt (by repeat (first|exact Mh _|apply Mt)) (by repeat (first|exact Mh _|apply Mt)) (Old.nil _)) hs h) ?_)
      rintro _ _ ⟨qpa,qpb,rfl,rfl,hnpa,hnpb⟩
      refine Kr 9 rfl rfl (by kernel_rfl) (KR (first:=[]) rfl en_66 rfl (Nb rfl) (fun w hw=>c_r_OutP V qpa qpb (R) w (hw _ (by repeat (first|exact Mh _|apply Mt))) (hw _ (by repeat (first|exact Mh _|apply Mt)))) ?_)
      refine Km 11 rfl rfl (by kernel_rfl) (by kernel_rfl) (KP rfl rfl sz_60 (by exact Ko _ _ _) (by repeat (first|exact Sh _|apply St_)) (by exact KS _ _ _) ?_)
      refine Kj (by kernel_rfl) ?_
      refine KD (KB ?_)
      refine KA (KF (v:=.int .i64 ((0:Nat):Int)) rfl) (Nb rfl) ?_
      refine KG ?_
      refine KD ?_
      refine KD (KB ?_)
      refine KA (KF (v:=.int .u64 ((0:Nat):Int)) rfl) (Nb rfl) ?_
      refine KG ?_
      refine LCode.block ?_
      refine KAL (α:=Nat×Nat) (fun x=>x.1≤V.n∧x.2 = cntD V (u%V.n) R x.1) (fun x=>⟨[(2,.int .u64 ((u:Nat):Int)),(7,.pointer (some ⟨b7,0,none⟩)),(9,.int .u64 ((V.n:Nat):Int)),(10,.pointer (some ⟨b10,0,none⟩)),(11,.int .i64 ((x.2:Nat):Int)),(12,.int .u64 ((x.1:Nat):Int))],[.blk b10 ⟨true,ptL (xv R) (yv R) (iv R),60,(0,0)⟩,.blk b7 ⟨true,crvL Q V,31,(0,0)⟩,crvI Q V]⟩) (fun x=>V.n-x.1) ((0,0)) (⟨Nat.zero_le _,rfl⟩) (KAC ⟨rfl,rfl,rfl,rfl,rfl,rfl,trivial⟩ (by repeat (first|exact Sel.nil _|refine Sel.cons (by repeat (first|exact Ph _|apply Pt_)) ?_))) ?_
      rintro x ⟨hx1,hx2⟩
      refine KD ?_
      refine KD (KB ?_)
      refine KA (KE rfl) (Nb rfl) ?_
      refine KA (KE rfl) (Nb rfl) ?_
      refine KA (KL rfl rfl (KAr)) (Nb rfl) ?_
      refine KG ?_
      first|refine Kb rfl (fun h45=>?_) (fun h45=>?_)|refine Ke rfl (fun h45=>?_) (fun h45=>?_)
      ·
        have h45:x.1<V.n:=h45
        have hcl:=cntD_le V (u%V.n) R x.1
        have hcs:cntD V (u%V.n) R (x.1+1) = if iv (dualP V (u%V.n) x.1 R) = true then cntD V (u%V.n) R x.1+1 else cntD V (u%V.n) R x.1:=rfl
        refine Kd ?_
        refine KD ?_
        refine LCode.block ?_
        refine KD ?_
        refine Ka [14] (by kernel_rfl) ?_
        refine KC 0 rfl (by kernel_rfl) (Nb rfl) (KM (o':=0) Try.underlying31 rfl rfl rfl sz_3 (by decide)) ?_
        refine LAny.take 1 rfl (by kernel_rfl) (Nb rfl) (KK rfl (by repeat (first|exact Mh _|apply Mt)) (KY Try.underlying3 rfl (by first|rfl|exact Kv _ _ _ (by omega)|exact Ku _ (by omega)|exact Ks _ (by omega)|exact dv_m _ _ _ (by omega)))) ?_
        refine KC 2 rfl (by kernel_rfl) (Nb rfl) (KE rfl) ?_
        refine KC 3 rfl (by kernel_rfl) (Nb rfl) (KE rfl) ?_
        refine KC 4 rfl (by kernel_rfl) (Nb rfl) (KL rfl rfl (br_rem64 (by omega))) ?_
        refine KC 6 rfl (by kernel_rfl) (Nb rfl) (KE rfl) ?_
        refine LAny.take 8 rfl (by kernel_rfl) (Nb rfl) (KK rfl (by repeat (first|exact Mh _|apply Mt)) (by exact KN Try.underlying60 rfl sz_60)) ?_
        refine KAk ?_
        refine KAP 13 rfl (.inl zr_60) (Nb rfl) rfl rfl rfl ?_
        refine Kq 5 rfl rfl rfl (Nb rfl) (by kernel_rfl) rfl (Kt (first:=[]) rfl en_55 rfl (fun w hw=>c_One (u%V.n) w (by omega))) ?_
        rintro _ _ ⟨rfl,rfl⟩
        refine Kq 7 rfl rfl rfl (Nb rfl) (by kernel_rfl) rfl (Kt (first:=[]) rfl en_55 rfl (fun w hw=>c_One x.1 w (by omega))) ?_
        rintro _ _ ⟨rfl,rfl⟩
        refine Kq 9 rfl rfl rfl (Nb rfl) (by kernel_rfl) rfl (Kt (first:=[]) rfl en_77 rfl (fun w hw=>c_dualMul _ V (u%V.n) x.1 R w h2 hRo hun h45)) ?_
        rintro _ _ ⟨rfl,rfl⟩
        refine KAA 10 rfl (by kernel_rfl) (Nb rfl) rfl (KE rfl) ?_
        refine KAA 11 rfl (by kernel_rfl) (Nb rfl) rfl (Kg rfl rfl) ?_
        refine KAA 12 rfl (by kernel_rfl) (Nb rfl) rfl (Kg rfl rfl) ?_
        refine KAZ (by kernel_rfl) (fun b13=>?_)
        refine KAV ?_
        refine Km 14 rfl rfl (by kernel_rfl) (by kernel_rfl) (KP rfl rfl sz_60 (by exact Ko _ _ _) (by repeat (first|exact Sh _|apply St_)) (by exact KS _ _ _) ?_)
        refine KC 15 rfl (by kernel_rfl) (Nb rfl) (KF rfl) ?_
        refine Kj (by kernel_rfl) ?_
        refine KD ?_
        refine KD (KB ?_)
        refine KA (KE rfl) (Nb rfl) ?_
        refine KI rfl (KU (KR (first:=[]) rfl en_46 rfl (Nb rfl) (fun w hw=>c_Num _ w) ?_))
        refine KA (KL (v:=.bool false) rfl rfl (br_f (br_neq (b:=0)) (by first|exact (fun e=>e rfl)|(simp; done)|omega))) (Nb rfl) ?_
        refine KG ?_
        refine Ki rfl ?_
        refine Kd ?_
        refine KD (KB ?_)
        refine KA (KM (o':=18) Try.underlying60 rfl rfl rfl sz_4 (by decide)) (Nb rfl) ?_
        refine LOps.det (KK rfl (by repeat (first|exact Mh _|apply Mt)) (KY Try.underlying4 rfl (by exact pt_gt _ _ _))) (Nb rfl) ?_
        refine KG ?_
        first|refine Kb rfl (fun h65=>?_) (fun h65=>?_)|refine Ke rfl (fun h65=>?_) (fun h65=>?_)
        ·
          have h65:iv (dualP V (u%V.n) x.1 R) = true:=h65
          rw [if_pos h65] at hcs
          refine KB ?_
          refine KA (KE rfl) (Nb rfl) ?_
          refine KA (KL rfl rfl (KAN (b:=1) (by omega))) (Nb rfl) ?_
          refine KA (KF rfl) (Nb rfl) ?_
          refine KG ?_
          refine KB ?_
          refine KA (KE rfl) (Nb rfl) ?_
          refine KA (KV (KL rfl rfl (KAT (b:=1))) (vi (b:=x.1+1) (by omega))) (Nb rfl) ?_
          refine KA (KF rfl) (Nb rfl) ?_
          refine KG ?_
          exact ⟨(x.1+1,x.2+1),⟨by dsimp only; omega,by dsimp only; omega⟩,by dsimp only; omega,KAC ⟨rfl,rfl,rfl,rfl,rfl,rfl,trivial⟩ (by repeat (first|exact Sel.nil _|refine Sel.cons (by repeat (first|exact Ph _|apply Pt_)) ?_))⟩
        ·
          have h65:iv (dualP V (u%V.n) x.1 R) = false:=h65
          rw [if_neg (by rw [h65]; decide)] at hcs
          refine Kd ?_
          refine KB ?_
          refine KA (KE rfl) (Nb rfl) ?_
          refine KA (KV (KL rfl rfl (KAT (b:=1))) (vi (b:=x.1+1) (by omega))) (Nb rfl) ?_
          refine KA (KF rfl) (Nb rfl) ?_
          refine KG ?_
          exact ⟨(x.1+1,x.2),⟨by dsimp only; omega,by dsimp only; omega⟩,by dsimp only; omega,KAC ⟨rfl,rfl,rfl,rfl,rfl,rfl,trivial⟩ (by repeat (first|exact Sel.nil _|refine Sel.cons (by repeat (first|exact Ph _|apply Pt_)) ?_))⟩
      ·
        have h45:¬ x.1<V.n:=h45
        refine KAG ?_
        refine KD ?_
        have hx1n:x.1 = V.n:=by omega
        rw [hx1n,← hRe,cntD_one hok _ _ (by omega) (by omega)] at hx2
        refine KB ?_
        refine KA (KE rfl) (Nb rfl) ?_
        refine KA (KL (v:=.bool true) rfl rfl (br_t (br_eql (b:=1)) (hx2))) (Nb rfl) ?_
        refine KA (KF rfl) (Nb rfl) ?_
        refine KG (KZ ?_)
        refine ⟨[_],.cons rfl .nil,fun a w' hr=>⟨?_,hr.fr.below⟩⟩
        rfl
  ·
    refine LAny.twoX 5 7 rfl rfl rfl rfl (by kernel_rfl) (.inr (KQ (KAa Try.underlying28 inf_56 rfl rfl rfl rfl (by decide) rfl) (Nb rfl) (fun b38=>?_))) (.inr (Kx (first:=[]) rfl en_80 rfl (Nb rfl) (fun w hw hs=>(c_r_GP Q V w (hw _ (by repeat (first|exact Mh _|apply Mt))) hok).mono fun e w' h=>Num2R.q (Old.one (x:=crvI Q V) (by repeat (first|exact Mh _|apply Mt)) rfl) hs h) ?_))
    ·
      refine Kr 7 rfl rfl (by kernel_rfl) (Kx (first:=[]) rfl en_80 rfl (Nb rfl) (fun w hw hs=>(c_r_GP Q V w (hw _ (by repeat (first|exact Mh _|apply Mt))) hok).mono fun e w' h=>Num2R.q (Old.one (x:=crvI Q V) (by repeat (first|exact Mh _|apply Mt)) rfl) hs h) ?_)
      rintro _ _ ⟨qga,qgb,rfl,rfl,hnga,hngb⟩
      refine Kr 8 rfl rfl (by kernel_rfl) (Kx (first:=[]) rfl en_64 rfl (Nb rfl) (fun w hw hs=>(c_r_TimesS Q V b38 1 (1+k%200) qga qgb V.G R w (hw _ (by repeat (first|exact Mh _|apply Mt))) hok (hw _ (by repeat (first|exact Mh _|apply Mt))) (by omega) (by omega) (hw _ (by repeat (first|exact Mh _|apply Mt))) (hw _ (by repeat (first|exact Mh _|apply Mt))) hok.on hRe).mono fun e w' h=>Num2R.q (Old.pt (by repeat (first|exact Mh _|apply Mt)) (by repeat (first|exact Mh _|apply Mt)) (Old.nil _)) hs h) ?_)
      rintro _ _ ⟨qpa,qpb,rfl,rfl,hnpa,hnpb⟩
      refine Kr 9 rfl rfl (by kernel_rfl) (KR (first:=[]) rfl en_66 rfl (Nb rfl) (fun w hw=>c_r_OutP V qpa qpb (R) w (hw _ (by repeat (first|exact Mh _|apply Mt))) (hw _ (by repeat (first|exact Mh _|apply Mt)))) ?_)
      refine Km 11 rfl rfl (by kernel_rfl) (by kernel_rfl) (KP rfl rfl sz_60 (by exact Ko _ _ _) (by repeat (first|exact Sh _|apply St_)) (by exact KS _ _ _) ?_)
      refine Kj (by kernel_rfl) ?_
      refine KD (KB ?_)
      refine KA (KF (v:=.int .i64 ((0:Nat):Int)) rfl) (Nb rfl) ?_
      refine KG ?_
      refine KD ?_
      refine KD (KB ?_)
      refine KA (KF (v:=.int .u64 ((0:Nat):Int)) rfl) (Nb rfl) ?_
      refine KG ?_
      refine LCode.block ?_
      refine KAL (α:=Nat×Nat) (fun x=>x.1≤V.n∧x.2 = cntD V (u%V.n) R x.1) (fun x=>⟨[(2,.int .u64 ((u:Nat):Int)),(7,.pointer (some ⟨b7,0,none⟩)),(9,.int .u64 ((V.n:Nat):Int)),(10,.pointer (some ⟨b10,0,none⟩)),(11,.int .i64 ((x.2:Nat):Int)),(12,.int .u64 ((x.1:Nat):Int))],[.blk b10 ⟨true,ptL (xv R) (yv R) (iv R),60,(0,0)⟩,.blk b7 ⟨true,crvL Q V,31,(0,0)⟩,crvI Q V]⟩) (fun x=>V.n-x.1) ((0,0)) (⟨Nat.zero_le _,rfl⟩) (KAC ⟨rfl,rfl,rfl,rfl,rfl,rfl,trivial⟩ (by repeat (first|exact Sel.nil _|refine Sel.cons (by repeat (first|exact Ph _|apply Pt_)) ?_))) ?_
      rintro x ⟨hx1,hx2⟩
      refine KD ?_
      refine KD (KB ?_)
      refine KA (KE rfl) (Nb rfl) ?_
      refine KA (KE rfl) (Nb rfl) ?_
      refine KA (KL rfl rfl (KAr)) (Nb rfl) ?_
      refine KG ?_
      first|refine Kb rfl (fun h45=>?_) (fun h45=>?_)|refine Ke rfl (fun h45=>?_) (fun h45=>?_)
      ·
        have h45:x.1<V.n:=h45
        have hcl:=cntD_le V (u%V.n) R x.1
        have hcs:cntD V (u%V.n) R (x.1+1) = if iv (dualP V (u%V.n) x.1 R) = true then cntD V (u%V.n) R x.1+1 else cntD V (u%V.n) R x.1:=rfl
        refine Kd ?_
        refine KD ?_
        refine LCode.block ?_
        refine KD ?_
        refine Ka [14] (by kernel_rfl) ?_
        refine KC 0 rfl (by kernel_rfl) (Nb rfl) (KM (o':=0) Try.underlying31 rfl rfl rfl sz_3 (by decide)) ?_
        refine LAny.take 1 rfl (by kernel_rfl) (Nb rfl) (KK rfl (by repeat (first|exact Mh _|apply Mt)) (KY Try.underlying3 rfl (by first|rfl|exact Kv _ _ _ (by omega)|exact Ku _ (by omega)|exact Ks _ (by omega)|exact dv_m _ _ _ (by omega)))) ?_
        refine KC 2 rfl (by kernel_rfl) (Nb rfl) (KE rfl) ?_
        refine KC 3 rfl (by kernel_rfl) (Nb rfl) (KE rfl) ?_
        refine KC 4 rfl (by kernel_rfl) (Nb rfl) (KL rfl rfl (br_rem64 (by omega))) ?_
        refine KC 6 rfl (by kernel_rfl) (Nb rfl) (KE rfl) ?_
        refine LAny.take 8 rfl (by kernel_rfl) (Nb rfl) (KK rfl (by repeat (first|exact Mh _|apply Mt)) (by exact KN Try.underlying60 rfl sz_60)) ?_
        refine KAk ?_
        refine KAP 13 rfl (.inl zr_60) (Nb rfl) rfl rfl rfl ?_
        refine Kq 5 rfl rfl rfl (Nb rfl) (by kernel_rfl) rfl (Kt (first:=[]) rfl en_55 rfl (fun w hw=>c_One (u%V.n) w (by omega))) ?_
        rintro _ _ ⟨rfl,rfl⟩
        refine Kq 7 rfl rfl rfl (Nb rfl) (by kernel_rfl) rfl (Kt (first:=[]) rfl en_55 rfl (fun w hw=>c_One x.1 w (by omega))) ?_
        rintro _ _ ⟨rfl,rfl⟩
        refine Kq 9 rfl rfl rfl (Nb rfl) (by kernel_rfl) rfl (Kt (first:=[]) rfl en_77 rfl (fun w hw=>c_dualMul _ V (u%V.n) x.1 R w h2 hRo hun h45)) ?_
        rintro _ _ ⟨rfl,rfl⟩
        refine KAA 10 rfl (by kernel_rfl) (Nb rfl) rfl (KE rfl) ?_
        refine KAA 11 rfl (by kernel_rfl) (Nb rfl) rfl (Kg rfl rfl) ?_
        refine KAA 12 rfl (by kernel_rfl) (Nb rfl) rfl (Kg rfl rfl) ?_
        refine KAZ (by kernel_rfl) (fun b13=>?_)
        refine KAV ?_
        refine Km 14 rfl rfl (by kernel_rfl) (by kernel_rfl) (KP rfl rfl sz_60 (by exact Ko _ _ _) (by repeat (first|exact Sh _|apply St_)) (by exact KS _ _ _) ?_)
        refine KC 15 rfl (by kernel_rfl) (Nb rfl) (KF rfl) ?_
        refine Kj (by kernel_rfl) ?_
        refine KD ?_
        refine KD (KB ?_)
        refine KA (KE rfl) (Nb rfl) ?_
        refine KI rfl (KU (KR (first:=[]) rfl en_46 rfl (Nb rfl) (fun w hw=>c_Num _ w) ?_))
        refine KA (KL (v:=.bool false) rfl rfl (br_f (br_neq (b:=0)) (by first|exact (fun e=>e rfl)|(simp; done)|omega))) (Nb rfl) ?_
        refine KG ?_
        refine Ki rfl ?_
        refine Kd ?_
        refine KD (KB ?_)
        refine KA (KM (o':=18) Try.underlying60 rfl rfl rfl sz_4 (by decide)) (Nb rfl) ?_
        refine LOps.det (KK rfl (by repeat (first|exact Mh _|apply Mt)) (KY Try.underlying4 rfl (by exact pt_gt _ _ _))) (Nb rfl) ?_
        refine KG ?_
        first|refine Kb rfl (fun h65=>?_) (fun h65=>?_)|refine Ke rfl (fun h65=>?_) (fun h65=>?_)
        ·
          have h65:iv (dualP V (u%V.n) x.1 R) = true:=h65
          rw [if_pos h65] at hcs
          refine KB ?_
          refine KA (KE rfl) (Nb rfl) ?_
          refine KA (KL rfl rfl (KAN (b:=1) (by omega))) (Nb rfl) ?_
          refine KA (KF rfl) (Nb rfl) ?_
          refine KG ?_
          refine KB ?_
          refine KA (KE rfl) (Nb rfl) ?_
          refine KA (KV (KL rfl rfl (KAT (b:=1))) (vi (b:=x.1+1) (by omega))) (Nb rfl) ?_
          refine KA (KF rfl) (Nb rfl) ?_
          refine KG ?_
          exact ⟨(x.1+1,x.2+1),⟨by dsimp only; omega,by dsimp only; omega⟩,by dsimp only; omega,KAC ⟨rfl,rfl,rfl,rfl,rfl,rfl,trivial⟩ (by repeat (first|exact Sel.nil _|refine Sel.cons (by repeat (first|exact Ph _|apply Pt_)) ?_))⟩
        ·
          have h65:iv (dualP V (u%V.n) x.1 R) = false:=h65
          rw [if_neg (by rw [h65]; decide)] at hcs
          refine Kd ?_
          refine KB ?_
          refine KA (KE rfl) (Nb rfl) ?_
          refine KA (KV (KL rfl rfl (KAT (b:=1))) (vi (b:=x.1+1) (by omega))) (Nb rfl) ?_
          refine KA (KF rfl) (Nb rfl) ?_
          refine KG ?_
          exact ⟨(x.1+1,x.2),⟨by dsimp only; omega,by dsimp only; omega⟩,by dsimp only; omega,KAC ⟨rfl,rfl,rfl,rfl,rfl,rfl,trivial⟩ (by repeat (first|exact Sel.nil _|refine Sel.cons (by repeat (first|exact Ph _|apply Pt_)) ?_))⟩
      ·
        have h45:¬ x.1<V.n:=h45
        refine KAG ?_
        refine KD ?_
        have hx1n:x.1 = V.n:=by omega
        rw [hx1n,← hRe,cntD_one hok _ _ (by omega) (by omega)] at hx2
        refine KB ?_
        refine KA (KE rfl) (Nb rfl) ?_
        refine KA (KL (v:=.bool true) rfl rfl (br_t (br_eql (b:=1)) (hx2))) (Nb rfl) ?_
        refine KA (KF rfl) (Nb rfl) ?_
        refine KG (KZ ?_)
        refine ⟨[_],.cons rfl .nil,fun a w' hr=>⟨?_,hr.fr.below⟩⟩
        rfl
    ·
      rintro _ _ ⟨qga,qgb,rfl,rfl,hnga,hngb⟩
      refine Kr 5 rfl rfl (by kernel_rfl) (KQ (KAa Try.underlying28 inf_56 rfl rfl rfl rfl (by decide) rfl) (Nb rfl) (fun b38=>?_))
      refine Kr 8 rfl rfl (by kernel_rfl) (Kx (first:=[]) rfl en_64 rfl (Nb rfl) (fun w hw hs=>(c_r_TimesS Q V b38 1 (1+k%200) qga qgb V.G R w (hw _ (by repeat (first|exact Mh _|apply Mt))) hok (hw _ (by repeat (first|exact Mh _|apply Mt))) (by omega) (by omega) (hw _ (by repeat (first|exact Mh _|apply Mt))) (hw _ (by repeat (first|exact Mh _|apply Mt))) hok.on hRe).mono fun e w' h=>Num2R.q (Old.pt (by repeat (first|exact Mh _|apply Mt)) (by repeat (first|exact Mh _|apply Mt)) (Old.nil _)) hs h) ?_)
      rintro _ _ ⟨qpa,qpb,rfl,rfl,hnpa,hnpb⟩
      refine Kr 9 rfl rfl (by kernel_rfl) (KR (first:=[]) rfl en_66 rfl (Nb rfl) (fun w hw=>c_r_OutP V qpa qpb (R) w (hw _ (by repeat (first|exact Mh _|apply Mt))) (hw _ (by repeat (first|exact Mh _|apply Mt)))) ?_)
      refine Km 11 rfl rfl (by kernel_rfl) (by kernel_rfl) (KP rfl rfl sz_60 (by exact Ko _ _ _) (by repeat (first|exact Sh _|apply St_)) (by exact KS _ _ _) ?_)
      refine Kj (by kernel_rfl) ?_
      refine KD (KB ?_)
      refine KA (KF (v:=.int .i64 ((0:Nat):Int)) rfl) (Nb rfl) ?_
      refine KG ?_
      refine KD ?_
      refine KD (KB ?_)
      refine KA (KF (v:=.int .u64 ((0:Nat):Int)) rfl) (Nb rfl) ?_
      refine KG ?_
      refine LCode.block ?_
      refine KAL (α:=Nat×Nat) (fun x=>x.1≤V.n∧x.2 = cntD V (u%V.n) R x.1) (fun x=>⟨[(2,.int .u64 ((u:Nat):Int)),(7,.pointer (some ⟨b7,0,none⟩)),(9,.int .u64 ((V.n:Nat):Int)),(10,.pointer (some ⟨b10,0,none⟩)),(11,.int .i64 ((x.2:Nat):Int)),(12,.int .u64 ((x.1:Nat):Int))],[.blk b10 ⟨true,ptL (xv R) (yv R) (iv R),60,(0,0)⟩,.blk b7 ⟨true,crvL Q V,31,(0,0)⟩,crvI Q V]⟩) (fun x=>V.n-x.1) ((0,0)) (⟨Nat.zero_le _,rfl⟩) (KAC ⟨rfl,rfl,rfl,rfl,rfl,rfl,trivial⟩ (by repeat (first|exact Sel.nil _|refine Sel.cons (by repeat (first|exact Ph _|apply Pt_)) ?_))) ?_
      rintro x ⟨hx1,hx2⟩
      refine KD ?_
      refine KD (KB ?_)
      refine KA (KE rfl) (Nb rfl) ?_
      refine KA (KE rfl) (Nb rfl) ?_
      refine KA (KL rfl rfl (KAr)) (Nb rfl) ?_
      refine KG ?_
      first|refine Kb rfl (fun h45=>?_) (fun h45=>?_)|refine Ke rfl (fun h45=>?_) (fun h45=>?_)
      ·
        have h45:x.1<V.n:=h45
        have hcl:=cntD_le V (u%V.n) R x.1
        have hcs:cntD V (u%V.n) R (x.1+1) = if iv (dualP V (u%V.n) x.1 R) = true then cntD V (u%V.n) R x.1+1 else cntD V (u%V.n) R x.1:=rfl
        refine Kd ?_
        refine KD ?_
        refine LCode.block ?_
        refine KD ?_
        refine Ka [14] (by kernel_rfl) ?_
        refine KC 0 rfl (by kernel_rfl) (Nb rfl) (KM (o':=0) Try.underlying31 rfl rfl rfl sz_3 (by decide)) ?_
        refine LAny.take 1 rfl (by kernel_rfl) (Nb rfl) (KK rfl (by repeat (first|exact Mh _|apply Mt)) (KY Try.underlying3 rfl (by first|rfl|exact Kv _ _ _ (by omega)|exact Ku _ (by omega)|exact Ks _ (by omega)|exact dv_m _ _ _ (by omega)))) ?_
        refine KC 2 rfl (by kernel_rfl) (Nb rfl) (KE rfl) ?_
        refine KC 3 rfl (by kernel_rfl) (Nb rfl) (KE rfl) ?_
        refine KC 4 rfl (by kernel_rfl) (Nb rfl) (KL rfl rfl (br_rem64 (by omega))) ?_
        refine KC 6 rfl (by kernel_rfl) (Nb rfl) (KE rfl) ?_
        refine LAny.take 8 rfl (by kernel_rfl) (Nb rfl) (KK rfl (by repeat (first|exact Mh _|apply Mt)) (by exact KN Try.underlying60 rfl sz_60)) ?_
        refine KAk ?_
        refine KAP 13 rfl (.inl zr_60) (Nb rfl) rfl rfl rfl ?_
        refine Kq 5 rfl rfl rfl (Nb rfl) (by kernel_rfl) rfl (Kt (first:=[]) rfl en_55 rfl (fun w hw=>c_One (u%V.n) w (by omega))) ?_
        rintro _ _ ⟨rfl,rfl⟩
        refine Kq 7 rfl rfl rfl (Nb rfl) (by kernel_rfl) rfl (Kt (first:=[]) rfl en_55 rfl (fun w hw=>c_One x.1 w (by omega))) ?_
        rintro _ _ ⟨rfl,rfl⟩
        refine Kq 9 rfl rfl rfl (Nb rfl) (by kernel_rfl) rfl (Kt (first:=[]) rfl en_77 rfl (fun w hw=>c_dualMul _ V (u%V.n) x.1 R w h2 hRo hun h45)) ?_
        rintro _ _ ⟨rfl,rfl⟩
        refine KAA 10 rfl (by kernel_rfl) (Nb rfl) rfl (KE rfl) ?_
        refine KAA 11 rfl (by kernel_rfl) (Nb rfl) rfl (Kg rfl rfl) ?_
        refine KAA 12 rfl (by kernel_rfl) (Nb rfl) rfl (Kg rfl rfl) ?_
        refine KAZ (by kernel_rfl) (fun b13=>?_)
        refine KAV ?_
        refine Km 14 rfl rfl (by kernel_rfl) (by kernel_rfl) (KP rfl rfl sz_60 (by exact Ko _ _ _) (by repeat (first|exact Sh _|apply St_)) (by exact KS _ _ _) ?_)
        refine KC 15 rfl (by kernel_rfl) (Nb rfl) (KF rfl) ?_
        refine Kj (by kernel_rfl) ?_
        refine KD ?_
        refine KD (KB ?_)
        refine KA (KE rfl) (Nb rfl) ?_
        refine KI rfl (KU (KR (first:=[]) rfl en_46 rfl (Nb rfl) (fun w hw=>c_Num _ w) ?_))
        refine KA (KL (v:=.bool false) rfl rfl (br_f (br_neq (b:=0)) (by first|exact (fun e=>e rfl)|(simp; done)|omega))) (Nb rfl) ?_
        refine KG ?_
        refine Ki rfl ?_
        refine Kd ?_
        refine KD (KB ?_)
        refine KA (KM (o':=18) Try.underlying60 rfl rfl rfl sz_4 (by decide)) (Nb rfl) ?_
        refine LOps.det (KK rfl (by repeat (first|exact Mh _|apply Mt)) (KY Try.underlying4 rfl (by exact pt_gt _ _ _))) (Nb rfl) ?_
        refine KG ?_
        first|refine Kb rfl (fun h65=>?_) (fun h65=>?_)|refine Ke rfl (fun h65=>?_) (fun h65=>?_)
        ·
          have h65:iv (dualP V (u%V.n) x.1 R) = true:=h65
          rw [if_pos h65] at hcs
          refine KB ?_
          refine KA (KE rfl) (Nb rfl) ?_
          refine KA (KL rfl rfl (KAN (b:=1) (by omega))) (Nb rfl) ?_
          refine KA (KF rfl) (Nb rfl) ?_
          refine KG ?_
          refine KB ?_
          refine KA (KE rfl) (Nb rfl) ?_
          refine KA (KV (KL rfl rfl (KAT (b:=1))) (vi (b:=x.1+1) (by omega))) (Nb rfl) ?_
          refine KA (KF rfl) (Nb rfl) ?_
          refine KG ?_
          exact ⟨(x.1+1,x.2+1),⟨by dsimp only; omega,by dsimp only; omega⟩,by dsimp only; omega,KAC ⟨rfl,rfl,rfl,rfl,rfl,rfl,trivial⟩ (by repeat (first|exact Sel.nil _|refine Sel.cons (by repeat (first|exact Ph _|apply Pt_)) ?_))⟩
        ·
          have h65:iv (dualP V (u%V.n) x.1 R) = false:=h65
          rw [if_neg (by rw [h65]; decide)] at hcs
          refine Kd ?_
          refine KB ?_
          refine KA (KE rfl) (Nb rfl) ?_
          refine KA (KV (KL rfl rfl (KAT (b:=1))) (vi (b:=x.1+1) (by omega))) (Nb rfl) ?_
          refine KA (KF rfl) (Nb rfl) ?_
          refine KG ?_
          exact ⟨(x.1+1,x.2),⟨by dsimp only; omega,by dsimp only; omega⟩,by dsimp only; omega,KAC ⟨rfl,rfl,rfl,rfl,rfl,rfl,trivial⟩ (by repeat (first|exact Sel.nil _|refine Sel.cons (by repeat (first|exact Ph _|apply Pt_)) ?_))⟩
      ·
        have h45:¬ x.1<V.n:=h45
        refine KAG ?_
        refine KD ?_
        have hx1n:x.1 = V.n:=by omega
        rw [hx1n,← hRe,cntD_one hok _ _ (by omega) (by omega)] at hx2
        refine KB ?_
        refine KA (KE rfl) (Nb rfl) ?_
        refine KA (KL (v:=.bool true) rfl rfl (br_t (br_eql (b:=1)) (hx2))) (Nb rfl) ?_
        refine KA (KF rfl) (Nb rfl) ?_
        refine KG (KZ ?_)
        refine ⟨[_],.cons rfl .nil,fun a w' hr=>⟨?_,hr.fr.below⟩⟩
        rfl
end Go.Proofs.Ytljblbgogjieaaa
