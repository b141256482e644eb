/- Part 4 of what the proof leans on: a symbolic execution of the model, walks of the program's functions, and the mathematics. No condition. -/
import Derived.WalkKit
import Derived.Orders
import Derived.Laws.StructEq
import Derived.WalkSpells
import Derived.OrdersHeld
import Derived.KernelRfl
import Derived.Laws.Externs
import Derived.Laws.Bits64
import Derived.Laws.MakeOwn
import Derived.Laws.BytesString
import Derived.Carry
import Derived.WideShapes
import GoSem.Claim
import Derived.Test.YtlmiolnccgjjjaaProg
import Derived.Laws.AppendOwn
import Derived.Test.YtlmiolnccgjjjaaRows
import Derived.ProofKit
import Derived.OpenShut
import Derived.Test.YtlmiolnccgjjjaaC3
set_option linter.unusedVariables false
set_option linter.unusedSimpArgs false
set_option maxRecDepth 20000
namespace Go.Proofs.Ytlmiolnccgjjjaa
open Go Go.RowKit
def nby (N:Nat):Nat:=(blen N+7)/8
theorem nby_le {A N:Nat} (h:A<N):¬ 8*nby N<blen A:=by
  have:blen A≤blen N:=blen_le (Nat.lt_trans h (lt_blen N))
  unfold nby; omega
theorem blen_nw (A:Nat):blen A≤32*D.nw A:=by unfold D.nw; omega
theorem c_nat_BytesOK (A n:Nat) (w:World) (hA:A<W9) (hn:n≤72) (hf:¬ 8*n<blen A):Calls Try.prog 88 ([natV A,.int .i64 ((n:Nat):Int)]:List Value).toArray w (fun e w'=>e = .returned (.tuple #[.string (strOf (beBytes n A)),.int .i64 ((0:Nat):Int)])∧Below w.heap.size w w'):=by
  have h:=c_nat_Bytes A n hA hn w
  rwa [if_neg hf] at h
theorem c_r_Size (Q:CQ) (V:Cv) (w:World) (hc:(crvI Q V).holds w) (hsz:V.Sz):Calls Try.prog 48 ([.agg (crvL Q V).toArray]:List Value).toArray w (fun e w'=>e = .returned (.int .i64 ((nby V.p:Nat):Int))∧Below w.heap.size w w'):=by
  have hsn:=hsz.p
  refine Kf (N:=8) (rs:=[.tmp 2]) [crvI Q V] Try.func48 rfl Try.ntmps48 Try.results48 (Nb rfl) ⟨hc,trivial⟩ rfl ?_
  show LCode _ _ _ ⟨_,_⟩ _
  refine KB (KA ?_)
  refine oS (mB (fun b1=>?_))
  refine oP (KX (v:=.int .i64 ((0:Nat):Int)) rfl) ?_
  refine KC ?_
  refine KB ?_
  have hbn:=blen_nw V.p
  refine KA ?_
  refine oP (KI (o':=1) Try.underlying26 rfl rfl rfl sz_24 (by decide)) ?_
  refine oD (dL rfl (hv:=KW Try.underlying24 rfl (by first|rfl|exact Kr _ _ _ (by omega)|exact Kt _ (by omega)|exact Kz _ (by omega)|exact dv_m _ _ _ (by omega)))) ?_
  refine oS (cF rfl en_70 rfl (fun w hw=>c_n_Bits Q.p V.p w (crvI_p (mC hw)) (by omega)) ?_)
  refine oP (KH rfl rfl (Kv (b:=7) (by omega))) ?_
  refine oP (KH rfl rfl (br_quo (b:=8) (by omega) (by omega))) ?_
  refine oA ?_
  refine KC (KO ?_)
  refine ⟨[_],.cons rfl .nil,fun a w' hr=>⟨?_,hr.fr.below⟩⟩
  rfl
theorem str_size (n A:Nat):(strOf (beBytes n A)).size = n:=by
  show (beBytes n A).toArray.size = n
  rw [List.size_toArray,beBytes_length]
theorem ext_size (s:ByteArray) (i j:Nat) (hj:j≤s.size):(s.extract i j).size = j-i:=by
  simp [ByteArray.size_extract]; omega
end Go.Proofs.Ytlmiolnccgjjjaa
set_option linter.unusedVariables false
set_option linter.unusedSimpArgs false
set_option maxRecDepth 20000
namespace Go.Proofs.Ytlmiolnccgjjjaa
open Go Go.RowKit
theorem c_Inverse (a m:Nat) (hm0:m≠0) (w:World) (ha:a<W9) (hm:m<W9):Calls Try.prog 151 ([natV a,natV m]:List Value).toArray w (fun e w'=>e = .returned (.tuple #[natV (invM a m),.int .i64 ((if Nat.gcd a m = 1∧m≠1 then 0 else 401:Nat):Int)])∧Below w.heap.size w w'):=by
  refine Kf (N:=75) (rs:=[.cell 4 33,.tmp 5]) [] Try.func151 rfl Try.ntmps151 Try.results151 (Nb rfl) trivial rfl ?_
  show LCode _ _ _ ⟨_,_⟩ _
  refine KB (KA ?_)
  refine oS (mB (fun b2=>?_))
  refine oS (mB (fun b3=>?_))
  refine oS (mk (KS zr_33) (fun b4=>?_))
  refine oP (KX (v:=.int .i64 ((0:Nat):Int)) rfl) ?_
  refine KC ?_
  refine KB ?_
  refine KB (KA ?_)
  refine oS (cF rfl en_159 rfl (fun w hw=>c_zeroN m b3 _ hm0 w (mC hw) hm) ?_)
  refine KC ?_
  refine KQ rfl ?_
  refine KR ?_
  refine KB (KA ?_)
  refine oD (dL rfl (hv:=by exact KG Try.underlying33 rfl sz_33)) ?_
  refine oD (dL rfl (hv:=by exact KG Try.underlying33 rfl sz_33)) ?_
  refine oS (cF rfl en_160 rfl (fun w hw=>c_Div a m hm0 w ha hm) ?_)
  refine oM ?_
  refine oP (Det.extract rfl rfl) ?_
  refine oP (Det.extract rfl rfl) ?_
  refine oP (Det.extract rfl rfl) ?_
  refine oS (mk (KS zr_33) (fun b6=>?_))
  refine oS (mk (KS zr_33) (fun b7=>?_))
  refine KU rfl (sA rfl rfl sz_33 (by repeat (first|exact KY _|exact Kc _ _ _|exact Ka _|exact Kb _ _ _|exact Kd _ _ _|exact KN|refine KL rfl ?_|refine KM ?_ ?_)) (hl:=by first|exact KD _|exact KF _ _ _|exact KE _|exact KJ _ _ _|exact KT _ _ _|rfl|simp [KF,KD,KE]) (h:=?_))
  refine KU rfl (sA rfl rfl sz_33 (by repeat (first|exact KY _|exact Kc _ _ _|exact Ka _|exact Kb _ _ _|exact Kd _ _ _|exact KN|refine KL rfl ?_|refine KM ?_ ?_)) (hl:=by first|exact KD _|exact KF _ _ _|exact KE _|exact KJ _ _ _|exact KT _ _ _|rfl|simp [KF,KD,KE]) (h:=?_))
  refine oA ?_
  refine KC ?_
  refine LCode.cut (α:=Nat×Nat) (fun _=>True) (fun x=>⟨[(2,.pointer (some ⟨b2,0,none⟩)),(3,.pointer (some ⟨b3,0,none⟩)),(4,.pointer (some ⟨b4,0,none⟩)),(9,.pointer (some ⟨x.1,0,none⟩)),(10,.pointer (some ⟨x.2,0,none⟩))],[.blk x.1 ⟨true,natL (m),33,(0,0)⟩,.blk x.2 ⟨true,natL (a%m),33,(0,0)⟩,.blk b4 ⟨true,vec .u64 9 (fun _=>0),33,(0,0)⟩,.blk b3 ⟨true,natL (m),33,(0,0)⟩,.blk b2 ⟨true,natL (a),33,(0,0)⟩]⟩) ?_ ?_
  ·
    refine rD [4,5] ?_
    refine aD 0 rfl (dL rfl (hv:=by exact KG Try.underlying33 rfl sz_33)) ?_
    refine LAny.threeX 1 2 3 rfl rfl rfl rfl rfl rfl (by kernel_rfl) (.inr (LStep.det (dL rfl (hv:=by exact KG Try.underlying33 rfl sz_33)) (Nb rfl) ?_)) (.inr (mk (KS zr_33) (fun b9=>?_))) (.inr (mk (KS zr_33) (fun b10=>?_)))
    ·
      refine LAny.twoX 2 3 rfl rfl rfl rfl (by kernel_rfl) (.inr (mk (KS zr_33) (fun b9=>?_))) (.inr (mk (KS zr_33) (fun b10=>?_)))
      ·
        refine aO 3 rfl (mk (KS zr_33) (fun b10=>?_))
        refine aL 4 rfl (sA rfl rfl sz_33 (by repeat (first|exact KY _|exact Kc _ _ _|exact Ka _|exact Kb _ _ _|exact Kd _ _ _|exact KN|refine KL rfl ?_|refine KM ?_ ?_)) (hl:=by first|exact KD _|exact KF _ _ _|exact KE _|exact KJ _ _ _|exact KT _ _ _|rfl|simp [KF,KD,KE]) (h:=?_))
        refine aL 5 rfl (sA rfl rfl sz_33 (by repeat (first|exact KY _|exact Kc _ _ _|exact Ka _|exact Kb _ _ _|exact Kd _ _ _|exact KN|refine KL rfl ?_|refine KM ?_ ?_)) (hl:=by first|exact KD _|exact KF _ _ _|exact KE _|exact KJ _ _ _|exact KT _ _ _|rfl|simp [KF,KD,KE]) (h:=?_))
        refine aE ?_
        exact ⟨(b9,b10),trivial,Kj ⟨rfl,rfl,rfl,rfl,rfl,trivial⟩ (by repeat (first|exact Sel.nil _|refine Sel.cons (by repeat (first|exact Ph _|apply Pt_)) ?_))⟩
      ·
        refine aO 2 rfl (mk (KS zr_33) (fun b9=>?_))
        refine aL 4 rfl (sA rfl rfl sz_33 (by repeat (first|exact KY _|exact Kc _ _ _|exact Ka _|exact Kb _ _ _|exact Kd _ _ _|exact KN|refine KL rfl ?_|refine KM ?_ ?_)) (hl:=by first|exact KD _|exact KF _ _ _|exact KE _|exact KJ _ _ _|exact KT _ _ _|rfl|simp [KF,KD,KE]) (h:=?_))
        refine aL 5 rfl (sA rfl rfl sz_33 (by repeat (first|exact KY _|exact Kc _ _ _|exact Ka _|exact Kb _ _ _|exact Kd _ _ _|exact KN|refine KL rfl ?_|refine KM ?_ ?_)) (hl:=by first|exact KD _|exact KF _ _ _|exact KE _|exact KJ _ _ _|exact KT _ _ _|rfl|simp [KF,KD,KE]) (h:=?_))
        refine aE ?_
        exact ⟨(b9,b10),trivial,Kj ⟨rfl,rfl,rfl,rfl,rfl,trivial⟩ (by repeat (first|exact Sel.nil _|refine Sel.cons (by repeat (first|exact Ph _|apply Pt_)) ?_))⟩
    ·
      refine LAny.twoX 1 3 rfl rfl rfl rfl (by kernel_rfl) (.inr (LStep.det (dL rfl (hv:=by exact KG Try.underlying33 rfl sz_33)) (Nb rfl) ?_)) (.inr (mk (KS zr_33) (fun b10=>?_)))
      ·
        refine aO 3 rfl (mk (KS zr_33) (fun b10=>?_))
        refine aL 4 rfl (sA rfl rfl sz_33 (by repeat (first|exact KY _|exact Kc _ _ _|exact Ka _|exact Kb _ _ _|exact Kd _ _ _|exact KN|refine KL rfl ?_|refine KM ?_ ?_)) (hl:=by first|exact KD _|exact KF _ _ _|exact KE _|exact KJ _ _ _|exact KT _ _ _|rfl|simp [KF,KD,KE]) (h:=?_))
        refine aL 5 rfl (sA rfl rfl sz_33 (by repeat (first|exact KY _|exact Kc _ _ _|exact Ka _|exact Kb _ _ _|exact Kd _ _ _|exact KN|refine KL rfl ?_|refine KM ?_ ?_)) (hl:=by first|exact KD _|exact KF _ _ _|exact KE _|exact KJ _ _ _|exact KT _ _ _|rfl|simp [KF,KD,KE]) (h:=?_))
        refine aE ?_
        exact ⟨(b9,b10),trivial,Kj ⟨rfl,rfl,rfl,rfl,rfl,trivial⟩ (by repeat (first|exact Sel.nil _|refine Sel.cons (by repeat (first|exact Ph _|apply Pt_)) ?_))⟩
      ·
        refine LAny.twoX 1 4 rfl rfl rfl rfl (by kernel_rfl) (.inr (LStep.det (dL rfl (hv:=by exact KG Try.underlying33 rfl sz_33)) (Nb rfl) ?_)) (.inl ⟨rfl,sA rfl rfl sz_33 (by repeat (first|exact KY _|exact Kc _ _ _|exact Ka _|exact Kb _ _ _|exact Kd _ _ _|exact KN|refine KL rfl ?_|refine KM ?_ ?_)) (hl:=by first|exact KD _|exact KF _ _ _|exact KE _|exact KJ _ _ _|exact KT _ _ _|rfl|simp [KF,KD,KE]) (h:=?_)⟩)
        ·
          refine aL 4 rfl (sA rfl rfl sz_33 (by repeat (first|exact KY _|exact Kc _ _ _|exact Ka _|exact Kb _ _ _|exact Kd _ _ _|exact KN|refine KL rfl ?_|refine KM ?_ ?_)) (hl:=by first|exact KD _|exact KF _ _ _|exact KE _|exact KJ _ _ _|exact KT _ _ _|rfl|simp [KF,KD,KE]) (h:=?_))
          refine aL 5 rfl (sA rfl rfl sz_33 (by repeat (first|exact KY _|exact Kc _ _ _|exact Ka _|exact Kb _ _ _|exact Kd _ _ _|exact KN|refine KL rfl ?_|refine KM ?_ ?_)) (hl:=by first|exact KD _|exact KF _ _ _|exact KE _|exact KJ _ _ _|exact KT _ _ _|rfl|simp [KF,KD,KE]) (h:=?_))
          refine aE ?_
          exact ⟨(b9,b10),trivial,Kj ⟨rfl,rfl,rfl,rfl,rfl,trivial⟩ (by repeat (first|exact Sel.nil _|refine Sel.cons (by repeat (first|exact Ph _|apply Pt_)) ?_))⟩
        ·
          refine aD 1 rfl (dL rfl (hv:=by exact KG Try.underlying33 rfl sz_33)) ?_
          refine aL 5 rfl (sA rfl rfl sz_33 (by repeat (first|exact KY _|exact Kc _ _ _|exact Ka _|exact Kb _ _ _|exact Kd _ _ _|exact KN|refine KL rfl ?_|refine KM ?_ ?_)) (hl:=by first|exact KD _|exact KF _ _ _|exact KE _|exact KJ _ _ _|exact KT _ _ _|rfl|simp [KF,KD,KE]) (h:=?_))
          refine aE ?_
          exact ⟨(b9,b10),trivial,Kj ⟨rfl,rfl,rfl,rfl,rfl,trivial⟩ (by repeat (first|exact Sel.nil _|refine Sel.cons (by repeat (first|exact Ph _|apply Pt_)) ?_))⟩
    ·
      refine LAny.twoX 1 2 rfl rfl rfl rfl (by kernel_rfl) (.inr (LStep.det (dL rfl (hv:=by exact KG Try.underlying33 rfl sz_33)) (Nb rfl) ?_)) (.inr (mk (KS zr_33) (fun b9=>?_)))
      ·
        refine aO 2 rfl (mk (KS zr_33) (fun b9=>?_))
        refine aL 4 rfl (sA rfl rfl sz_33 (by repeat (first|exact KY _|exact Kc _ _ _|exact Ka _|exact Kb _ _ _|exact Kd _ _ _|exact KN|refine KL rfl ?_|refine KM ?_ ?_)) (hl:=by first|exact KD _|exact KF _ _ _|exact KE _|exact KJ _ _ _|exact KT _ _ _|rfl|simp [KF,KD,KE]) (h:=?_))
        refine aL 5 rfl (sA rfl rfl sz_33 (by repeat (first|exact KY _|exact Kc _ _ _|exact Ka _|exact Kb _ _ _|exact Kd _ _ _|exact KN|refine KL rfl ?_|refine KM ?_ ?_)) (hl:=by first|exact KD _|exact KF _ _ _|exact KE _|exact KJ _ _ _|exact KT _ _ _|rfl|simp [KF,KD,KE]) (h:=?_))
        refine aE ?_
        exact ⟨(b9,b10),trivial,Kj ⟨rfl,rfl,rfl,rfl,rfl,trivial⟩ (by repeat (first|exact Sel.nil _|refine Sel.cons (by repeat (first|exact Ph _|apply Pt_)) ?_))⟩
      ·
        refine LAny.twoX 1 4 rfl rfl rfl rfl (by kernel_rfl) (.inr (LStep.det (dL rfl (hv:=by exact KG Try.underlying33 rfl sz_33)) (Nb rfl) ?_)) (.inl ⟨rfl,sA rfl rfl sz_33 (by repeat (first|exact KY _|exact Kc _ _ _|exact Ka _|exact Kb _ _ _|exact Kd _ _ _|exact KN|refine KL rfl ?_|refine KM ?_ ?_)) (hl:=by first|exact KD _|exact KF _ _ _|exact KE _|exact KJ _ _ _|exact KT _ _ _|rfl|simp [KF,KD,KE]) (h:=?_)⟩)
        ·
          refine aL 4 rfl (sA rfl rfl sz_33 (by repeat (first|exact KY _|exact Kc _ _ _|exact Ka _|exact Kb _ _ _|exact Kd _ _ _|exact KN|refine KL rfl ?_|refine KM ?_ ?_)) (hl:=by first|exact KD _|exact KF _ _ _|exact KE _|exact KJ _ _ _|exact KT _ _ _|rfl|simp [KF,KD,KE]) (h:=?_))
          refine aL 5 rfl (sA rfl rfl sz_33 (by repeat (first|exact KY _|exact Kc _ _ _|exact Ka _|exact Kb _ _ _|exact Kd _ _ _|exact KN|refine KL rfl ?_|refine KM ?_ ?_)) (hl:=by first|exact KD _|exact KF _ _ _|exact KE _|exact KJ _ _ _|exact KT _ _ _|rfl|simp [KF,KD,KE]) (h:=?_))
          refine aE ?_
          exact ⟨(b9,b10),trivial,Kj ⟨rfl,rfl,rfl,rfl,rfl,trivial⟩ (by repeat (first|exact Sel.nil _|refine Sel.cons (by repeat (first|exact Ph _|apply Pt_)) ?_))⟩
        ·
          refine aD 1 rfl (dL rfl (hv:=by exact KG Try.underlying33 rfl sz_33)) ?_
          refine aL 5 rfl (sA rfl rfl sz_33 (by repeat (first|exact KY _|exact Kc _ _ _|exact Ka _|exact Kb _ _ _|exact Kd _ _ _|exact KN|refine KL rfl ?_|refine KM ?_ ?_)) (hl:=by first|exact KD _|exact KF _ _ _|exact KE _|exact KJ _ _ _|exact KT _ _ _|rfl|simp [KF,KD,KE]) (h:=?_))
          refine aE ?_
          exact ⟨(b9,b10),trivial,Kj ⟨rfl,rfl,rfl,rfl,rfl,trivial⟩ (by repeat (first|exact Sel.nil _|refine Sel.cons (by repeat (first|exact Ph _|apply Pt_)) ?_))⟩
  ·
    rintro ⟨b9,b10⟩ _
    dsimp only
    refine KB (KA ?_)
    refine oP (KK (Kw pl_33 zr_33 rfl rfl) (show _ = natV 0 by unfold natV natL; rw [← vec_zeros 9])) ?_
    refine oS (cF rfl en_116 rfl (fun w hw=>c_nat_Small 1 (by decide) w) ?_)
    refine oS (mk (KS zr_33) (fun b11=>?_))
    refine oS (mk (KS zr_33) (fun b12=>?_))
    refine KU rfl (sA rfl rfl sz_33 (by repeat (first|exact KY _|exact Kc _ _ _|exact Ka _|exact Kb _ _ _|exact Kd _ _ _|exact KN|refine KL rfl ?_|refine KM ?_ ?_)) (hl:=by first|exact KD _|exact KF _ _ _|exact KE _|exact KJ _ _ _|exact KT _ _ _|rfl|simp [KF,KD,KE]) (h:=?_))
    refine KU rfl (sA rfl rfl sz_33 (by repeat (first|exact KY _|exact Kc _ _ _|exact Ka _|exact Kb _ _ _|exact Kd _ _ _|exact KN|refine KL rfl ?_|refine KM ?_ ?_)) (hl:=by first|exact KD _|exact KF _ _ _|exact KE _|exact KJ _ _ _|exact KT _ _ _|rfl|simp [KF,KD,KE]) (h:=?_))
    refine KC ?_
    refine KB (KA ?_)
    refine oD (dL rfl (hv:=by exact KG Try.underlying33 rfl sz_33)) ?_
    refine oS (LStep.call (Post:=fun v its=>∃ b,v = .agg [.pointer (some ⟨b,0,none⟩)].toArray∧its = [.blk b ⟨false,dvL m,212,(0,0)⟩]) (first:=[]) rfl en_140 rfl (Nb rfl) (fun w hw=>(c_By m hm0 hm w).mono fun e w' ⟨b,h1,h2,h3,h4⟩=>⟨_,_,⟨b,rfl,rfl⟩,h1,Brings.blk1 h4 h2 h3⟩) ?_)
    rintro _ _ ⟨bd,rfl,rfl⟩
    refine oS (mk (KS zr_160) (fun b13=>?_))
    refine KU rfl (sA rfl rfl sz_160 (by repeat (first|exact KY _|exact Kc _ _ _|exact Ka _|exact Kb _ _ _|exact Kd _ _ _|exact KN|refine KL rfl ?_|refine KM ?_ ?_)) (hl:=by first|exact KD _|exact KF _ _ _|exact KE _|exact KJ _ _ _|exact KT _ _ _|rfl|simp [KF,KD,KE]) (h:=?_))
    refine KC ?_
    refine KB ?_
    refine LCode.block ?_
    refine Kp (α:=Nat×Nat×Nat×Nat) (fun x=>x.1≤m∧x.2.1<m∧x.2.2.1<m∧(1<m→x.2.2.2<m)∧(m = 1→x.2.1 = 0)∧a*x.2.2.1%m = x.1%m∧a*x.2.2.2%m = x.2.1%m∧Nat.gcd x.1 x.2.1 = Nat.gcd m a) (fun x=>⟨[(2,.pointer (some ⟨b2,0,none⟩)),(3,.pointer (some ⟨b3,0,none⟩)),(4,.pointer (some ⟨b4,0,none⟩)),(9,.pointer (some ⟨b9,0,none⟩)),(10,.pointer (some ⟨b10,0,none⟩)),(11,.pointer (some ⟨b11,0,none⟩)),(12,.pointer (some ⟨b12,0,none⟩)),(13,.pointer (some ⟨b13,0,none⟩))],[.blk b9 ⟨true,natL (x.1),33,(0,0)⟩,.blk b10 ⟨true,natL (x.2.1),33,(0,0)⟩,.blk b11 ⟨true,natL (x.2.2.1),33,(0,0)⟩,.blk b12 ⟨true,natL (x.2.2.2),33,(0,0)⟩,.blk b13 ⟨true,[.pointer (some ⟨bd,0,none⟩)],160,(0,0)⟩,.blk b4 ⟨true,vec .u64 9 (fun _=>0),33,(0,0)⟩,.blk b3 ⟨true,natL (m),33,(0,0)⟩,.blk b2 ⟨true,natL (a),33,(0,0)⟩,.blk bd ⟨false,dvL m,212,(0,0)⟩]⟩) (fun x=>x.2.1) ((m,a%m,0,1)) (⟨Nat.le_refl _,Nat.mod_lt _ (by omega),by dsimp only; omega,fun h=>h,fun h=>by subst h; exact Nat.mod_one _,by dsimp only; rw [Nat.mul_zero,Nat.zero_mod,Nat.mod_self],by dsimp only; rw [Nat.mul_one,Nat.mod_mod],by dsimp only; rw [Nat.gcd_comm m (a%m),← Nat.gcd_rec]⟩) (Kj ⟨rfl,rfl,rfl,rfl,rfl,rfl,rfl,rfl,trivial⟩ (by repeat (first|exact Sel.nil _|refine Sel.cons (by repeat (first|exact Ph _|apply Pt_)) ?_))) ?_
    intro x ⟨hx1,hx2,hx3,hx6,hx9,hx5,hx7,hx8⟩
    refine KB ?_
    refine KB ?_
    rcases Nat.eq_zero_or_pos x.2.1 with h0|h0
    ·
      refine KA ?_
      refine oS (cF rfl en_159 rfl (fun w hw=>c_zero x.2.1 b10 _ w (mC hw) (by omega)) ?_)
      refine oP (KK (Det.not rfl) (show _ = Value.bool false by rw [decide_eq_true h0]; rfl)) ?_
      refine KC ?_
      have hg:Nat.gcd a m = x.1:=by rw [h0,Nat.gcd_zero_right] at hx8; rw [Nat.gcd_comm,hx8]
      refine KQ rfl ?_
      refine Kl ?_
      refine KB ?_
      refine KB ?_
      rcases (show (x.1 = 1∧m≠1)∨(x.1 = 1∧m = 1)∨x.1≠1 by omega) with ⟨hd1,hd2⟩|⟨hd1,hd2⟩|hd1
      ·
        refine rD [] ?_
        refine aD 0 rfl (dL rfl (hv:=by exact KG Try.underlying33 rfl sz_33)) ?_
        refine aO 1 rfl (cF rfl en_116 rfl (fun w hw=>c_nat_Small 1 (by decide) w) ?_)
        refine aP 2 rfl (KK (Det.nea (by kernel_rfl) (fun w=>eq_nat x.1 1 (by omega) one_w9 10000 (by decide) w) rfl rfl) (show _ = Value.bool false by rw [decide_eq_true hd1]; rfl)) ?_
        refine aM 3 ?_
        refine aGD 4 rfl (dL rfl (hv:=by exact KG Try.underlying33 rfl sz_33)) ?_
        refine aGO 5 rfl (cF rfl en_116 rfl (fun w hw=>c_nat_Small 1 (by decide) w) ?_)
        refine aGP 6 rfl (KK (Det.eqa (by kernel_rfl) (fun w=>eq_nat m 1 hm one_w9 10000 (by decide) w) rfl rfl) (show _ = Value.bool false by rw [decide_eq_false hd2])) ?_
        refine aP 7 rfl (Ki rfl rfl) ?_
        refine aE ?_
        refine KQ rfl ?_
        refine KR ?_
        refine KB (KA ?_)
        refine oD (dL rfl (hv:=by exact KG Try.underlying33 rfl sz_33)) ?_
        refine KU rfl (sA rfl rfl sz_33 (by repeat (first|exact KY _|exact Kc _ _ _|exact Ka _|exact Kb _ _ _|exact Kd _ _ _|exact KN|refine KL rfl ?_|refine KM ?_ ?_)) (hl:=by first|exact KD _|exact KF _ _ _|exact KE _|exact KJ _ _ _|exact KT _ _ _|rfl|simp [KF,KD,KE]) (h:=?_))
        refine oP (KX (v:=.int .i64 ((0:Nat):Int)) rfl) ?_
        refine KC (KO ?_)
        have hgd:Nat.gcd a m = 1∧m≠1:=⟨hg.trans hd1,hd2⟩
        have hia:invM a m = x.2.2.1:=invM_eq hx3 (by rw [hx5,hd1]; exact Nat.mod_eq_of_lt (by omega))
        refine ⟨[_,_],.cons ⟨_,_,_,rfl,(by repeat (first|exact Mh _|apply Mt)),by exact KG Try.underlying33 rfl sz_33⟩ (.cons rfl .nil),fun a' w' hr=>⟨?_,hr.fr.below⟩⟩
        rw [hia,if_pos hgd]
        rfl
      ·
        refine rD [] ?_
        refine aD 0 rfl (dL rfl (hv:=by exact KG Try.underlying33 rfl sz_33)) ?_
        refine aO 1 rfl (cF rfl en_116 rfl (fun w hw=>c_nat_Small 1 (by decide) w) ?_)
        refine aP 2 rfl (KK (Det.nea (by kernel_rfl) (fun w=>eq_nat x.1 1 (by omega) one_w9 10000 (by decide) w) rfl rfl) (show _ = Value.bool false by rw [decide_eq_true hd1]; rfl)) ?_
        refine aM 3 ?_
        refine aGD 4 rfl (dL rfl (hv:=by exact KG Try.underlying33 rfl sz_33)) ?_
        refine aGO 5 rfl (cF rfl en_116 rfl (fun w hw=>c_nat_Small 1 (by decide) w) ?_)
        refine aGP 6 rfl (KK (Det.eqa (by kernel_rfl) (fun w=>eq_nat m 1 hm one_w9 10000 (by decide) w) rfl rfl) (show _ = Value.bool true by rw [decide_eq_true hd2])) ?_
        refine aP 7 rfl (Ki rfl rfl) ?_
        refine aE ?_
        refine Ke rfl ?_
        refine KB (KA ?_)
        refine oP (Kw pl_33 zr_33 rfl rfl) ?_
        refine KU rfl (sA rfl rfl sz_33 (by repeat (first|exact KY _|exact Kc _ _ _|exact Ka _|exact Kb _ _ _|exact Kd _ _ _|exact KN|refine KL rfl ?_|refine KM ?_ ?_)) (hl:=by first|exact KD _|exact KF _ _ _|exact KE _|exact KJ _ _ _|exact KT _ _ _|rfl|simp [KF,KD,KE]) (h:=?_))
        refine oP (KX (v:=.int .i64 ((401:Nat):Int)) rfl) ?_
        refine KC (KO ?_)
        have hng:¬ (Nat.gcd a m = 1∧m≠1):=by rw [hg]; exact fun h=>h.2 hd2
        refine ⟨[_,_],.cons ⟨_,_,_,rfl,(by repeat (first|exact Mh _|apply Mt)),by exact KG Try.underlying33 rfl sz_33⟩ (.cons rfl .nil),fun a' w' hr=>⟨?_,hr.fr.below⟩⟩
        rw [invM_none hng,if_neg hng]
        refine congrArg (fun l:List Value=>Ending.returned (.tuple #[.agg l.toArray,_])) ?_
        exact vec_zeros 9
      ·
        refine rD [] ?_
        refine aD 0 rfl (dL rfl (hv:=by exact KG Try.underlying33 rfl sz_33)) ?_
        refine aO 1 rfl (cF rfl en_116 rfl (fun w hw=>c_nat_Small 1 (by decide) w) ?_)
        refine aP 2 rfl (KK (Det.nea (by kernel_rfl) (fun w=>eq_nat x.1 1 (by omega) one_w9 10000 (by decide) w) rfl rfl) (show _ = Value.bool true by rw [decide_eq_false hd1]; rfl)) ?_
        refine aM 3 ?_
        refine aK 4 ?_
        refine aK 5 ?_
        refine aK 6 ?_
        refine aP 7 rfl (Kn rfl rfl) ?_
        refine aE ?_
        refine Ke rfl ?_
        refine KB (KA ?_)
        refine oP (Kw pl_33 zr_33 rfl rfl) ?_
        refine KU rfl (sA rfl rfl sz_33 (by repeat (first|exact KY _|exact Kc _ _ _|exact Ka _|exact Kb _ _ _|exact Kd _ _ _|exact KN|refine KL rfl ?_|refine KM ?_ ?_)) (hl:=by first|exact KD _|exact KF _ _ _|exact KE _|exact KJ _ _ _|exact KT _ _ _|rfl|simp [KF,KD,KE]) (h:=?_))
        refine oP (KX (v:=.int .i64 ((401:Nat):Int)) rfl) ?_
        refine KC (KO ?_)
        have hng:¬ (Nat.gcd a m = 1∧m≠1):=by rw [hg]; exact fun h=>hd1 h.1
        refine ⟨[_,_],.cons ⟨_,_,_,rfl,(by repeat (first|exact Mh _|apply Mt)),by exact KG Try.underlying33 rfl sz_33⟩ (.cons rfl .nil),fun a' w' hr=>⟨?_,hr.fr.below⟩⟩
        rw [invM_none hng,if_neg hng]
        refine congrArg (fun l:List Value=>Ending.returned (.tuple #[.agg l.toArray,_])) ?_
        exact vec_zeros 9
    ·
      refine KA ?_
      refine oS (cF rfl en_159 rfl (fun w hw=>c_zero x.2.1 b10 _ w (mC hw) (by omega)) ?_)
      refine oP (KK (Det.not rfl) (show _ = Value.bool true by rw [decide_eq_false (by omega)]; rfl)) ?_
      refine KC ?_
      have h0:x.2.1≠0:=by omega
      have hm1:1<m:=by
        rcases Nat.lt_or_ge 1 m with h|h
        · exact h
        · exact absurd (hx9 (by omega)) h0
      refine Ke rfl ?_
      refine KR ?_
      refine LCode.block ?_
      refine KB (KA ?_)
      refine oD (dL rfl (hv:=by exact KG Try.underlying33 rfl sz_33)) ?_
      refine oD (dL rfl (hv:=by exact KG Try.underlying33 rfl sz_33)) ?_
      refine oS (cF rfl en_160 rfl (fun w hw=>c_Div x.1 x.2.1 h0 w (by omega) (by omega)) ?_)
      refine oM ?_
      refine oP (Det.extract rfl rfl) ?_
      refine oP (Det.extract rfl rfl) ?_
      refine oP (Det.extract rfl rfl) ?_
      refine oS (mk (KS zr_33) (fun b14=>?_))
      refine oS (mk (KS zr_33) (fun b15=>?_))
      refine KU rfl (sA rfl rfl sz_33 (by repeat (first|exact KY _|exact Kc _ _ _|exact Ka _|exact Kb _ _ _|exact Kd _ _ _|exact KN|refine KL rfl ?_|refine KM ?_ ?_)) (hl:=by first|exact KD _|exact KF _ _ _|exact KE _|exact KJ _ _ _|exact KT _ _ _|rfl|simp [KF,KD,KE]) (h:=?_))
      refine KU rfl (sA rfl rfl sz_33 (by repeat (first|exact KY _|exact Kc _ _ _|exact Ka _|exact Kb _ _ _|exact Kd _ _ _|exact KN|refine KL rfl ?_|refine KM ?_ ?_)) (hl:=by first|exact KD _|exact KF _ _ _|exact KE _|exact KJ _ _ _|exact KT _ _ _|rfl|simp [KF,KD,KE]) (h:=?_))
      refine oA ?_
      refine KC ?_
      refine LCode.cut (α:=Unit) (fun _=>True) (fun _=>⟨[(2,.pointer (some ⟨b2,0,none⟩)),(3,.pointer (some ⟨b3,0,none⟩)),(4,.pointer (some ⟨b4,0,none⟩)),(9,.pointer (some ⟨b9,0,none⟩)),(10,.pointer (some ⟨b10,0,none⟩)),(11,.pointer (some ⟨b11,0,none⟩)),(12,.pointer (some ⟨b12,0,none⟩)),(13,.pointer (some ⟨b13,0,none⟩)),(14,.pointer (some ⟨b14,0,none⟩))],[.blk b9 ⟨true,natL (x.2.1),33,(0,0)⟩,.blk b10 ⟨true,natL (x.1%x.2.1),33,(0,0)⟩,.blk b11 ⟨true,natL (x.2.2.1),33,(0,0)⟩,.blk b12 ⟨true,natL (x.2.2.2),33,(0,0)⟩,.blk b14 ⟨true,natL (x.1/x.2.1),33,(0,0)⟩,.blk b13 ⟨true,[.pointer (some ⟨bd,0,none⟩)],160,(0,0)⟩,.blk b4 ⟨true,vec .u64 9 (fun _=>0),33,(0,0)⟩,.blk b3 ⟨true,natL (m),33,(0,0)⟩,.blk b2 ⟨true,natL (a),33,(0,0)⟩,.blk bd ⟨false,dvL m,212,(0,0)⟩]⟩) ?_ ?_
      ·
        refine rD [2,3] ?_
        refine aD 0 rfl (dL rfl (hv:=by exact KG Try.underlying33 rfl sz_33)) ?_
        refine LAny.twoX 1 2 rfl rfl rfl rfl (by kernel_rfl) (.inr (LStep.det (dL rfl (hv:=by exact KG Try.underlying33 rfl sz_33)) (Nb rfl) ?_)) (.inl ⟨rfl,sA rfl rfl sz_33 (by repeat (first|exact KY _|exact Kc _ _ _|exact Ka _|exact Kb _ _ _|exact Kd _ _ _|exact KN|refine KL rfl ?_|refine KM ?_ ?_)) (hl:=by first|exact KD _|exact KF _ _ _|exact KE _|exact KJ _ _ _|exact KT _ _ _|rfl|simp [KF,KD,KE]) (h:=?_)⟩)
        ·
          refine aL 2 rfl (sA rfl rfl sz_33 (by repeat (first|exact KY _|exact Kc _ _ _|exact Ka _|exact Kb _ _ _|exact Kd _ _ _|exact KN|refine KL rfl ?_|refine KM ?_ ?_)) (hl:=by first|exact KD _|exact KF _ _ _|exact KE _|exact KJ _ _ _|exact KT _ _ _|rfl|simp [KF,KD,KE]) (h:=?_))
          refine aL 3 rfl (sA rfl rfl sz_33 (by repeat (first|exact KY _|exact Kc _ _ _|exact Ka _|exact Kb _ _ _|exact Kd _ _ _|exact KN|refine KL rfl ?_|refine KM ?_ ?_)) (hl:=by first|exact KD _|exact KF _ _ _|exact KE _|exact KJ _ _ _|exact KT _ _ _|rfl|simp [KF,KD,KE]) (h:=?_))
          refine aE ?_
          exact ⟨(),trivial,Kj ⟨rfl,rfl,rfl,rfl,rfl,rfl,rfl,rfl,rfl,trivial⟩ (by repeat (first|exact Sel.nil _|refine Sel.cons (by repeat (first|exact Ph _|apply Pt_)) ?_))⟩
        ·
          refine aD 1 rfl (dL rfl (hv:=by exact KG Try.underlying33 rfl sz_33)) ?_
          refine aL 3 rfl (sA rfl rfl sz_33 (by repeat (first|exact KY _|exact Kc _ _ _|exact Ka _|exact Kb _ _ _|exact Kd _ _ _|exact KN|refine KL rfl ?_|refine KM ?_ ?_)) (hl:=by first|exact KD _|exact KF _ _ _|exact KE _|exact KJ _ _ _|exact KT _ _ _|rfl|simp [KF,KD,KE]) (h:=?_))
          refine aE ?_
          exact ⟨(),trivial,Kj ⟨rfl,rfl,rfl,rfl,rfl,rfl,rfl,rfl,rfl,trivial⟩ (by repeat (first|exact Sel.nil _|refine Sel.cons (by repeat (first|exact Ph _|apply Pt_)) ?_))⟩
      ·
        rintro _ _
        refine KB (KA ?_)
        refine oD (dL rfl (hv:=by exact KG Try.underlying160 rfl sz_160)) ?_
        refine oD (dL rfl (hv:=by exact KG Try.underlying33 rfl sz_33)) ?_
        refine oD (dL rfl (hv:=by exact KG Try.underlying33 rfl sz_33)) ?_
        refine oS (cF rfl en_145 rfl (fun w hw=>c_Mul m (x.1/x.2.1) x.2.2.2 bd hm0 hm w (mC hw) (Nat.lt_of_le_of_lt (Nat.div_le_self _ _) (by omega)) (by have:=hx6 hm1; omega)) ?_)
        refine oS (mk (KS zr_33) (fun b17=>?_))
        refine KU rfl (sA rfl rfl sz_33 (by repeat (first|exact KY _|exact Kc _ _ _|exact Ka _|exact Kb _ _ _|exact Kd _ _ _|exact KN|refine KL rfl ?_|refine KM ?_ ?_)) (hl:=by first|exact KD _|exact KF _ _ _|exact KE _|exact KJ _ _ _|exact KT _ _ _|rfl|simp [KF,KD,KE]) (h:=?_))
        refine KC ?_
        refine KB (KA ?_)
        refine oD (dL rfl (hv:=by exact KG Try.underlying33 rfl sz_33)) ?_
        refine oD (dL rfl (hv:=by exact KG Try.underlying33 rfl sz_33)) ?_
        refine oS (cF rfl en_115 rfl (fun w hw=>c_nat_Sub x.2.2.1 (x.1/x.2.1*x.2.2.2%m) (by omega) (mod_w9 hm0 hm) w) ?_)
        refine oM ?_
        refine oP (Det.extract rfl rfl) ?_
        refine oP (Det.extract rfl rfl) ?_
        refine oS (mk (KS zr_33) (fun b18=>?_))
        refine KU rfl (sA rfl rfl sz_33 (by repeat (first|exact KY _|exact Kc _ _ _|exact Ka _|exact Kb _ _ _|exact Kd _ _ _|exact KN|refine KL rfl ?_|refine KM ?_ ?_)) (hl:=by first|exact KD _|exact KF _ _ _|exact KE _|exact KJ _ _ _|exact KT _ _ _|rfl|simp [KF,KD,KE]) (h:=?_))
        refine oA ?_
        refine KC ?_
        refine KB ?_
        refine KB (KA ?_)
        refine oM ?_
        refine KC ?_
        first|refine KV rfl (fun h56=>?_) (fun h56=>?_)|refine KZ rfl (fun h56=>?_) (fun h56=>?_)
        ·
          have h56:x.2.2.1<x.1/x.2.1*x.2.2.2%m:=h56
          refine KA ?_
          refine oD (dL rfl (hv:=by exact KG Try.underlying33 rfl sz_33)) ?_
          refine oD (dL rfl (hv:=by exact KG Try.underlying33 rfl sz_33)) ?_
          refine oS (cF rfl en_144 rfl (fun w hw=>c_nat_Add (dif x.2.2.1 (x.1/x.2.1*x.2.2.2%m)) m (dif_lt _ _) hm w) ?_)
          refine oM ?_
          refine oP (Det.extract rfl rfl) ?_
          refine oP (Det.extract rfl rfl) ?_
          refine KU rfl (sA rfl rfl sz_33 (by repeat (first|exact KY _|exact Kc _ _ _|exact Ka _|exact Kb _ _ _|exact Kd _ _ _|exact KN|refine KL rfl ?_|refine KM ?_ ?_)) (hl:=by first|exact KD _|exact KF _ _ _|exact KE _|exact KJ _ _ _|exact KT _ _ _|rfl|simp [KF,KD,KE]) (h:=?_))
          refine KC ?_
          refine rD [2,3] ?_
          refine aD 0 rfl (dL rfl (hv:=by exact KG Try.underlying33 rfl sz_33)) ?_
          refine LAny.twoX 1 2 rfl rfl rfl rfl (by kernel_rfl) (.inr (LStep.det (dL rfl (hv:=by exact KG Try.underlying33 rfl sz_33)) (Nb rfl) ?_)) (.inl ⟨rfl,sA rfl rfl sz_33 (by repeat (first|exact KY _|exact Kc _ _ _|exact Ka _|exact Kb _ _ _|exact Kd _ _ _|exact KN|refine KL rfl ?_|refine KM ?_ ?_)) (hl:=by first|exact KD _|exact KF _ _ _|exact KE _|exact KJ _ _ _|exact KT _ _ _|rfl|simp [KF,KD,KE]) (h:=?_)⟩)
          ·
            refine aL 2 rfl (sA rfl rfl sz_33 (by repeat (first|exact KY _|exact Kc _ _ _|exact Ka _|exact Kb _ _ _|exact Kd _ _ _|exact KN|refine KL rfl ?_|refine KM ?_ ?_)) (hl:=by first|exact KD _|exact KF _ _ _|exact KE _|exact KJ _ _ _|exact KT _ _ _|rfl|simp [KF,KD,KE]) (h:=?_))
            refine aL 3 rfl (sA rfl rfl sz_33 (by repeat (first|exact KY _|exact Kc _ _ _|exact Ka _|exact Kb _ _ _|exact Kd _ _ _|exact KN|refine KL rfl ?_|refine KM ?_ ?_)) (hl:=by first|exact KD _|exact KF _ _ _|exact KE _|exact KJ _ _ _|exact KT _ _ _|rfl|simp [KF,KD,KE]) (h:=?_))
            refine aE ?_
            refine ⟨(x.2.1,x.1%x.2.1,x.2.2.2,lessM x.2.2.1 (x.1/x.2.1*x.2.2.2%m) m),⟨by dsimp only; omega,by dsimp only; have:=Nat.mod_lt x.1 (show 0<x.2.1 by omega); omega,hx6 hm1,fun _=>lessM_lt hx3 (Nat.mod_lt _ (by omega)),fun h=>absurd h (by omega),hx7,inv_step rfl hx3 (by omega) hx5 hx7,by show Nat.gcd x.2.1 (x.1%x.2.1) = _; rw [← hx8,Nat.gcd_comm x.2.1,← Nat.gcd_rec,Nat.gcd_comm]⟩,Nat.mod_lt _ (by omega),KAG (Sub.cells (b:=b12) (cs':=natL (lessM x.2.2.1 (x.1/x.2.1*x.2.2.2%m) m)) (by repeat (first|exact Sh _|apply St_)) ?_) (Kj ⟨rfl,rfl,rfl,rfl,rfl,rfl,rfl,rfl,trivial⟩ (by repeat (first|exact Sel.nil _|refine Sel.cons (by repeat (first|exact Ph _|apply Pt_)) ?_)))⟩
            rw [← less_word hx3 (Nat.mod_lt _ (by omega)) hm,if_pos h56]
          ·
            refine aD 1 rfl (dL rfl (hv:=by exact KG Try.underlying33 rfl sz_33)) ?_
            refine aL 3 rfl (sA rfl rfl sz_33 (by repeat (first|exact KY _|exact Kc _ _ _|exact Ka _|exact Kb _ _ _|exact Kd _ _ _|exact KN|refine KL rfl ?_|refine KM ?_ ?_)) (hl:=by first|exact KD _|exact KF _ _ _|exact KE _|exact KJ _ _ _|exact KT _ _ _|rfl|simp [KF,KD,KE]) (h:=?_))
            refine aE ?_
            refine ⟨(x.2.1,x.1%x.2.1,x.2.2.2,lessM x.2.2.1 (x.1/x.2.1*x.2.2.2%m) m),⟨by dsimp only; omega,by dsimp only; have:=Nat.mod_lt x.1 (show 0<x.2.1 by omega); omega,hx6 hm1,fun _=>lessM_lt hx3 (Nat.mod_lt _ (by omega)),fun h=>absurd h (by omega),hx7,inv_step rfl hx3 (by omega) hx5 hx7,by show Nat.gcd x.2.1 (x.1%x.2.1) = _; rw [← hx8,Nat.gcd_comm x.2.1,← Nat.gcd_rec,Nat.gcd_comm]⟩,Nat.mod_lt _ (by omega),KAG (Sub.cells (b:=b12) (cs':=natL (lessM x.2.2.1 (x.1/x.2.1*x.2.2.2%m) m)) (by repeat (first|exact Sh _|apply St_)) ?_) (Kj ⟨rfl,rfl,rfl,rfl,rfl,rfl,rfl,rfl,trivial⟩ (by repeat (first|exact Sel.nil _|refine Sel.cons (by repeat (first|exact Ph _|apply Pt_)) ?_)))⟩
            rw [← less_word hx3 (Nat.mod_lt _ (by omega)) hm,if_pos h56]
        ·
          have h56:¬ x.2.2.1<x.1/x.2.1*x.2.2.2%m:=h56
          refine KR ?_
          refine rD [2,3] ?_
          refine aD 0 rfl (dL rfl (hv:=by exact KG Try.underlying33 rfl sz_33)) ?_
          refine LAny.twoX 1 2 rfl rfl rfl rfl (by kernel_rfl) (.inr (LStep.det (dL rfl (hv:=by exact KG Try.underlying33 rfl sz_33)) (Nb rfl) ?_)) (.inl ⟨rfl,sA rfl rfl sz_33 (by repeat (first|exact KY _|exact Kc _ _ _|exact Ka _|exact Kb _ _ _|exact Kd _ _ _|exact KN|refine KL rfl ?_|refine KM ?_ ?_)) (hl:=by first|exact KD _|exact KF _ _ _|exact KE _|exact KJ _ _ _|exact KT _ _ _|rfl|simp [KF,KD,KE]) (h:=?_)⟩)
          ·
            refine aL 2 rfl (sA rfl rfl sz_33 (by repeat (first|exact KY _|exact Kc _ _ _|exact Ka _|exact Kb _ _ _|exact Kd _ _ _|exact KN|refine KL rfl ?_|refine KM ?_ ?_)) (hl:=by first|exact KD _|exact KF _ _ _|exact KE _|exact KJ _ _ _|exact KT _ _ _|rfl|simp [KF,KD,KE]) (h:=?_))
            refine aL 3 rfl (sA rfl rfl sz_33 (by repeat (first|exact KY _|exact Kc _ _ _|exact Ka _|exact Kb _ _ _|exact Kd _ _ _|exact KN|refine KL rfl ?_|refine KM ?_ ?_)) (hl:=by first|exact KD _|exact KF _ _ _|exact KE _|exact KJ _ _ _|exact KT _ _ _|rfl|simp [KF,KD,KE]) (h:=?_))
            refine aE ?_
            refine ⟨(x.2.1,x.1%x.2.1,x.2.2.2,lessM x.2.2.1 (x.1/x.2.1*x.2.2.2%m) m),⟨by dsimp only; omega,by dsimp only; have:=Nat.mod_lt x.1 (show 0<x.2.1 by omega); omega,hx6 hm1,fun _=>lessM_lt hx3 (Nat.mod_lt _ (by omega)),fun h=>absurd h (by omega),hx7,inv_step rfl hx3 (by omega) hx5 hx7,by show Nat.gcd x.2.1 (x.1%x.2.1) = _; rw [← hx8,Nat.gcd_comm x.2.1,← Nat.gcd_rec,Nat.gcd_comm]⟩,Nat.mod_lt _ (by omega),KAG (Sub.cells (b:=b12) (cs':=natL (lessM x.2.2.1 (x.1/x.2.1*x.2.2.2%m) m)) (by repeat (first|exact Sh _|apply St_)) ?_) (Kj ⟨rfl,rfl,rfl,rfl,rfl,rfl,rfl,rfl,trivial⟩ (by repeat (first|exact Sel.nil _|refine Sel.cons (by repeat (first|exact Ph _|apply Pt_)) ?_)))⟩
            rw [← less_word hx3 (Nat.mod_lt _ (by omega)) hm,if_neg h56]
          ·
            refine aD 1 rfl (dL rfl (hv:=by exact KG Try.underlying33 rfl sz_33)) ?_
            refine aL 3 rfl (sA rfl rfl sz_33 (by repeat (first|exact KY _|exact Kc _ _ _|exact Ka _|exact Kb _ _ _|exact Kd _ _ _|exact KN|refine KL rfl ?_|refine KM ?_ ?_)) (hl:=by first|exact KD _|exact KF _ _ _|exact KE _|exact KJ _ _ _|exact KT _ _ _|rfl|simp [KF,KD,KE]) (h:=?_))
            refine aE ?_
            refine ⟨(x.2.1,x.1%x.2.1,x.2.2.2,lessM x.2.2.1 (x.1/x.2.1*x.2.2.2%m) m),⟨by dsimp only; omega,by dsimp only; have:=Nat.mod_lt x.1 (show 0<x.2.1 by omega); omega,hx6 hm1,fun _=>lessM_lt hx3 (Nat.mod_lt _ (by omega)),fun h=>absurd h (by omega),hx7,inv_step rfl hx3 (by omega) hx5 hx7,by show Nat.gcd x.2.1 (x.1%x.2.1) = _; rw [← hx8,Nat.gcd_comm x.2.1,← Nat.gcd_rec,Nat.gcd_comm]⟩,Nat.mod_lt _ (by omega),KAG (Sub.cells (b:=b12) (cs':=natL (lessM x.2.2.1 (x.1/x.2.1*x.2.2.2%m) m)) (by repeat (first|exact Sh _|apply St_)) ?_) (Kj ⟨rfl,rfl,rfl,rfl,rfl,rfl,rfl,rfl,trivial⟩ (by repeat (first|exact Sel.nil _|refine Sel.cons (by repeat (first|exact Ph _|apply Pt_)) ?_)))⟩
            rw [← less_word hx3 (Nat.mod_lt _ (by omega)) hm,if_neg h56]
end Go.Proofs.Ytlmiolnccgjjjaa
set_option linter.unusedVariables false
set_option linter.unusedSimpArgs false
set_option maxRecDepth 20000
namespace Go.Proofs.Ytlmiolnccgjjjaa
open Go Go.RowKit
def fldL (p bd:Nat):List Value:=natL p++[.pointer (some ⟨bd,0,none⟩)]
theorem cmp_lt {A B:Nat}:KAB .lss .i64 (cmpI A B) .i64 0 = some (.bool (decide (A<B))):=by
  unfold cmpI
  by_cases h:A<B
  · rw [if_pos h,decide_eq_true h]; rfl
  · rw [if_neg h,decide_eq_false h]; split <;> rfl
theorem c_nat_AddS (A B:Nat) (w:World) (h:A+B<W9):Calls Try.prog 144 ([natV A,natV B]:List Value).toArray w (fun e w'=>e = .returned (.tuple #[natV (A+B),.bool false])∧Below w.heap.size w w'):=by
  have h1:=c_nat_Add A B (by omega) (by omega) w
  rwa [Nat.mod_eq_of_lt h,decide_eq_false (by omega)] at h1
theorem c_nat_SubS (A B:Nat) (w:World) (hA:A<W9) (h:B≤A):Calls Try.prog 115 ([natV A,natV B]:List Value).toArray w (fun e w'=>e = .returned (.tuple #[natV (A-B),.bool false])∧Below w.heap.size w w'):=by
  have h1:=c_nat_Sub A B hA (by omega) w
  have e:dif A B = A-B:=by
    unfold dif
    generalize W9 = M at *
    rw [show A+M-B = A-B+M by omega,Nat.add_mod_right,Nat.mod_eq_of_lt (by omega)]
  rwa [e,decide_eq_false (by omega)] at h1
theorem c_nat_SubU (A B:Nat) (w:World) (hB:B<W9) (h:A<B):Calls Try.prog 115 ([natV A,natV B]:List Value).toArray w (fun e w'=>e = .returned (.tuple #[natV (dif A B),.bool true])∧Below w.heap.size w w'):=by
  have h1:=c_nat_Sub A B (by omega) hB w
  rwa [decide_eq_true h] at h1
theorem dif_back {A B p:Nat} (hp:p<W9) (hB:B<p) (h:A<B):(dif A B+p)%W9 = A+p-B:=by
  unfold dif
  generalize W9 = M at *
  rw [Nat.mod_eq_of_lt (show A+M-B<M by omega),show A+M-B+p = A+p-B+M by omega,Nat.add_mod_right,Nat.mod_eq_of_lt (by omega)]
theorem w9_half {p:Nat} (h:p<P521):p+p<W9:=by
  obtain ⟨j,hj⟩:∃ j:Nat,j = 65:=⟨65,rfl⟩
  obtain ⟨k,hk⟩:∃ k:Nat,k = 9:=⟨9,rfl⟩
  rw [← p521 hj] at h
  rw [← w9 hk]
  have h2:2^(8*j+1+1)≤2^(64*k):=Nat.pow_le_pow_right (by decide) (by omega)
  rw [Nat.pow_succ] at h2
  omega
theorem c_prime (id:Int) (w:World)  : Calls Try.prog 139 ([.int .i64 id]:List Value).toArray w (fun e w'=>(∃ V,cvI id = some V∧∃ s,e = .returned (.string s)∧(hexB s V.p && !s.data.toList.isEmpty) = true∧Below w.heap.size w w')∨(cvI id = none∧e = .returned (.string ⟨#[]⟩)∧Below w.heap.size w w')):=by
  refine Kf (N:=34) (rs:=[.tmp 2]) [] Try.func139 rfl Try.ntmps139 Try.results139 (Nb rfl) trivial rfl ?_
  show LCode _ _ _ ⟨_,_⟩ _
  refine KB (KA ?_)
  refine oA ?_
  refine KC ?_
  refine KB ?_
  refine KB (KA ?_)
  refine oM ?_
  refine KC ?_
  refine LCode.block ?_
  refine KB (KA ?_)
  refine oP (KH (v:=.bool (decide (id = 1))) rfl rfl KAT) ?_
  refine oA ?_
  refine KC ?_
  first|refine KV rfl (fun hk1=>?_) (fun hk1=>?_)|refine KZ rfl (fun hk1=>?_) (fun hk1=>?_)
  ·
    refine KB (KA ?_)
    refine oA ?_
    refine KC (KO ?_)
    refine ⟨[_],.cons rfl .nil,fun a w' hr=>.inl ⟨cv1,by rw [hk1]; rfl,_,rfl,by kernel_rfl,hr.fr.below⟩⟩
  ·
    refine KB (KA ?_)
    refine oP (KH (v:=.bool (decide (id = 2))) rfl rfl KAT) ?_
    refine oA ?_
    refine KC ?_
    first|refine KV rfl (fun hk2=>?_) (fun hk2=>?_)|refine KZ rfl (fun hk2=>?_) (fun hk2=>?_)
    ·
      refine KB (KA ?_)
      refine oA ?_
      refine KC (KO ?_)
      refine ⟨[_],.cons rfl .nil,fun a w' hr=>.inl ⟨cv2,by rw [hk2]; rfl,_,rfl,by kernel_rfl,hr.fr.below⟩⟩
    ·
      refine KB (KA ?_)
      refine oP (KH (v:=.bool (decide (id = 3))) rfl rfl KAT) ?_
      refine oA ?_
      refine KC ?_
      first|refine KV rfl (fun hk3=>?_) (fun hk3=>?_)|refine KZ rfl (fun hk3=>?_) (fun hk3=>?_)
      ·
        refine KB (KA ?_)
        refine oA ?_
        refine KC (KO ?_)
        refine ⟨[_],.cons rfl .nil,fun a w' hr=>.inl ⟨cv3,by rw [hk3]; rfl,_,rfl,by kernel_rfl,hr.fr.below⟩⟩
      ·
        refine KB (KA ?_)
        refine oP (KH (v:=.bool (decide (id = 4))) rfl rfl KAT) ?_
        refine oA ?_
        refine KC ?_
        first|refine KV rfl (fun hk4=>?_) (fun hk4=>?_)|refine KZ rfl (fun hk4=>?_) (fun hk4=>?_)
        ·
          refine KB (KA ?_)
          refine oA ?_
          refine KC (KO ?_)
          refine ⟨[_],.cons rfl .nil,fun a w' hr=>.inl ⟨cv4,by rw [hk4]; rfl,_,rfl,by kernel_rfl,hr.fr.below⟩⟩
        ·
          refine KB (KA ?_)
          refine oP (KH (v:=.bool (decide (id = 5))) rfl rfl KAT) ?_
          refine oA ?_
          refine KC ?_
          first|refine KV rfl (fun hk5=>?_) (fun hk5=>?_)|refine KZ rfl (fun hk5=>?_) (fun hk5=>?_)
          ·
            refine KB (KA ?_)
            refine oA ?_
            refine KC (KO ?_)
            refine ⟨[_],.cons rfl .nil,fun a w' hr=>.inl ⟨cv5,by rw [hk5]; rfl,_,rfl,by kernel_rfl,hr.fr.below⟩⟩
          ·
            refine KB (KA ?_)
            refine oP (KH (v:=.bool (decide (id = 6))) rfl rfl KAT) ?_
            refine oA ?_
            refine KC ?_
            first|refine KV rfl (fun hk6=>?_) (fun hk6=>?_)|refine KZ rfl (fun hk6=>?_) (fun hk6=>?_)
            ·
              refine KB (KA ?_)
              refine oA ?_
              refine KC (KO ?_)
              refine ⟨[_],.cons rfl .nil,fun a w' hr=>.inl ⟨cv6,by rw [hk6]; rfl,_,rfl,by kernel_rfl,hr.fr.below⟩⟩
            ·
              refine KB (KA ?_)
              refine oP (KH (v:=.bool (decide (id = 7))) rfl rfl KAT) ?_
              refine oA ?_
              refine KC ?_
              first|refine KV rfl (fun hk7=>?_) (fun hk7=>?_)|refine KZ rfl (fun hk7=>?_) (fun hk7=>?_)
              ·
                refine KB (KA ?_)
                refine oA ?_
                refine KC (KO ?_)
                refine ⟨[_],.cons rfl .nil,fun a w' hr=>.inl ⟨cv7,by rw [hk7]; rfl,_,rfl,by kernel_rfl,hr.fr.below⟩⟩
              ·
                refine KB (KA ?_)
                refine oP (KH (v:=.bool (decide (id = 8))) rfl rfl KAT) ?_
                refine oA ?_
                refine KC ?_
                first|refine KV rfl (fun hk8=>?_) (fun hk8=>?_)|refine KZ rfl (fun hk8=>?_) (fun hk8=>?_)
                ·
                  refine KB (KA ?_)
                  refine oA ?_
                  refine KC (KO ?_)
                  refine ⟨[_],.cons rfl .nil,fun a w' hr=>.inl ⟨cv8,by rw [hk8]; rfl,_,rfl,by kernel_rfl,hr.fr.below⟩⟩
                ·
                  refine KB (KA ?_)
                  refine oP (KH (v:=.bool (decide (id = 9))) rfl rfl KAT) ?_
                  refine oA ?_
                  refine KC ?_
                  first|refine KV rfl (fun hk9=>?_) (fun hk9=>?_)|refine KZ rfl (fun hk9=>?_) (fun hk9=>?_)
                  ·
                    refine KB (KA ?_)
                    refine oA ?_
                    refine KC (KO ?_)
                    refine ⟨[_],.cons rfl .nil,fun a w' hr=>.inl ⟨cv9,by rw [hk9]; rfl,_,rfl,by kernel_rfl,hr.fr.below⟩⟩
                  ·
                    refine KB (KA ?_)
                    refine oP (KH (v:=.bool (decide (id = 10))) rfl rfl KAT) ?_
                    refine oA ?_
                    refine KC ?_
                    first|refine KV rfl (fun hk10=>?_) (fun hk10=>?_)|refine KZ rfl (fun hk10=>?_) (fun hk10=>?_)
                    ·
                      refine KB (KA ?_)
                      refine oA ?_
                      refine KC (KO ?_)
                      refine ⟨[_],.cons rfl .nil,fun a w' hr=>.inl ⟨cv10,by rw [hk10]; rfl,_,rfl,by kernel_rfl,hr.fr.below⟩⟩
                    ·
                      refine KB (KA ?_)
                      refine oP (KH (v:=.bool (decide (id = 11))) rfl rfl KAT) ?_
                      refine oA ?_
                      refine KC ?_
                      first|refine KV rfl (fun hk11=>?_) (fun hk11=>?_)|refine KZ rfl (fun hk11=>?_) (fun hk11=>?_)
                      ·
                        refine KB (KA ?_)
                        refine oA ?_
                        refine KC (KO ?_)
                        refine ⟨[_],.cons rfl .nil,fun a w' hr=>.inl ⟨cv11,by rw [hk11]; rfl,_,rfl,by kernel_rfl,hr.fr.below⟩⟩
                      ·
                        refine KB (KA ?_)
                        refine oP (KH (v:=.bool (decide (id = 12))) rfl rfl KAT) ?_
                        refine oA ?_
                        refine KC ?_
                        first|refine KV rfl (fun hk12=>?_) (fun hk12=>?_)|refine KZ rfl (fun hk12=>?_) (fun hk12=>?_)
                        ·
                          refine KB (KA ?_)
                          refine oA ?_
                          refine KC (KO ?_)
                          refine ⟨[_],.cons rfl .nil,fun a w' hr=>.inl ⟨cv12,by rw [hk12]; rfl,_,rfl,by kernel_rfl,hr.fr.below⟩⟩
                        ·
                          refine KB (KA ?_)
                          refine oP (KH (v:=.bool (decide (id = 13))) rfl rfl KAT) ?_
                          refine oA ?_
                          refine KC ?_
                          first|refine KV rfl (fun hk13=>?_) (fun hk13=>?_)|refine KZ rfl (fun hk13=>?_) (fun hk13=>?_)
                          ·
                            refine KB (KA ?_)
                            refine oA ?_
                            refine KC (KO ?_)
                            refine ⟨[_],.cons rfl .nil,fun a w' hr=>.inl ⟨cv13,by rw [hk13]; rfl,_,rfl,by kernel_rfl,hr.fr.below⟩⟩
                          ·
                            refine KB (KA ?_)
                            refine oP (KH (v:=.bool (decide (id = 14))) rfl rfl KAT) ?_
                            refine oA ?_
                            refine KC ?_
                            first|refine KV rfl (fun hk14=>?_) (fun hk14=>?_)|refine KZ rfl (fun hk14=>?_) (fun hk14=>?_)
                            ·
                              refine KB (KA ?_)
                              refine oA ?_
                              refine KC (KO ?_)
                              refine ⟨[_],.cons rfl .nil,fun a w' hr=>.inl ⟨cv14,by rw [hk14]; rfl,_,rfl,by kernel_rfl,hr.fr.below⟩⟩
                            ·
                              refine KB (KA ?_)
                              refine oP (KH (v:=.bool (decide (id = 15))) rfl rfl KAT) ?_
                              refine oA ?_
                              refine KC ?_
                              first|refine KV rfl (fun hk15=>?_) (fun hk15=>?_)|refine KZ rfl (fun hk15=>?_) (fun hk15=>?_)
                              ·
                                refine KB (KA ?_)
                                refine oA ?_
                                refine KC (KO ?_)
                                refine ⟨[_],.cons rfl .nil,fun a w' hr=>.inl ⟨cv15,by rw [hk15]; rfl,_,rfl,by kernel_rfl,hr.fr.below⟩⟩
                              ·
                                refine KR ?_
                                refine KB (KA ?_)
                                refine oA ?_
                                refine KC (KO ?_)
                                refine ⟨[_],.cons rfl .nil,fun a w' hr=>.inr ⟨cvI_none hk1 hk2 hk3 hk4 hk5 hk6 hk7 hk8 hk9 hk10 hk11 hk12 hk13 hk14 hk15,rfl,hr.fr.below⟩⟩
theorem c_prime_none (id:Int) (w:World) (h:cvI id = none):Calls Try.prog 139 ([.int .i64 id]:List Value).toArray w (fun e w'=>e = .returned (.string ⟨#[]⟩)∧Below w.heap.size w w') :=
  (c_prime id w).mono fun e w' h'=>by
    rcases h' with ⟨V,hV,_⟩|⟨_,h1,h2⟩
    · rw [h] at hV; cases hV
    · exact ⟨h1,h2⟩
theorem c_prime_some (id:Int) (V:Cv) (w:World) (h:cvI id = some V):Calls Try.prog 139 ([.int .i64 id]:List Value).toArray w (fun e w'=>∃ v,(∃ s,v = .string s∧hexB s V.p = true∧s.data.toList≠[])∧e = .returned v∧Below w.heap.size w w') :=
  (c_prime id w).mono fun e w' h'=>by
    rcases h' with ⟨V',hV,s,h1,h2,h3⟩|⟨h1,_⟩
    · rw [h] at hV; cases hV
      simp only [Bool.and_eq_true] at h2
      exact ⟨_,⟨s,rfl,h2.1,fun e=>by rw [e] at h2; cases h2.2⟩,h1,h3⟩
    · rw [h] at h1; cases h1
theorem hex_step {l:List UInt8} {x:Nat} (h:x<l.length):hexVal (l.drop (l.length-(x+1))) = hexD (l.getD (l.length-1-x) 0).toNat*16^x+hexVal (l.drop (l.length-x)):=by
  rw [drop_step h,hexVal,List.length_drop,show l.length-(l.length-x) = x by omega]
theorem hex_drop {l:List UInt8} (hok:hexOK l = true) (x:Nat) (h:x≤l.length):hexVal (l.drop (l.length-x))<16^x:=by
  have:=hexVal_lt (hexOK_drop hok (l.length-x))
  rwa [List.length_drop,show l.length-(l.length-x) = x by omega] at this
theorem c_f_Hex (s:ByteArray) (w:World) (hok:hexOK s.data.toList = true) (hs:s.size≤144):Calls Try.prog 114 ([.string s]:List Value).toArray w (fun e w'=>e = .returned (natV (hexVal s.data.toList))∧Below w.heap.size w w'):=by
  refine Kf (N:=47) (rs:=[.cell 2 33]) [] Try.func114 rfl Try.ntmps114 Try.results114 (Nb rfl) trivial rfl ?_
  show LCode _ _ _ ⟨_,_⟩ _
  refine KB (KA ?_)
  refine oS (mk (KS zr_33) (fun b2=>?_))
  refine KC ?_
  refine KB (KA ?_)
  refine oS (mk (KS zr_33) (fun b3=>?_))
  refine KC ?_
  refine KB ?_
  refine KB (KA ?_)
  refine oM ?_
  refine oP (Det.lens Try.underlying9 rfl) ?_
  refine oP (Kx (v:=.int .i64 ((0:Nat):Int)) rfl) ?_
  refine KC ?_
  refine LCode.block ?_
  refine Kp (α:=Nat) (fun x=>x≤s.size) (fun x=>⟨[(0,.string s),(2,.pointer (some ⟨b2,0,none⟩)),(3,.pointer (some ⟨b3,0,none⟩)),(8,.int .i64 ((s.size:Nat):Int)),(9,.int .i64 ((x:Nat):Int))],[.blk b3 ⟨true,natL (hexVal (s.data.toList.drop (s.size-(x)))),33,(0,0)⟩,.blk b2 ⟨true,vec .u64 9 (fun _=>0),33,(0,0)⟩]⟩) (fun x=>s.size-x) (0) (Nat.zero_le _) (KAG (Sub.cells (b:=b3) (cs':=natL (hexVal (s.data.toList.drop (s.size-(0))))) (by repeat (first|exact Sh _|apply St_)) (by rw [Nat.sub_zero,← size_list,List.drop_length]; exact vec_zeros 9)) (Kj ⟨rfl,rfl,rfl,rfl,rfl,trivial⟩ (by repeat (first|exact Sel.nil _|refine Sel.cons (by repeat (first|exact Ph _|apply Pt_)) ?_)))) ?_
  intro x hx
  refine KB (KA ?_)
  refine oP (KH rfl rfl (KAZ)) ?_
  refine KC ?_
  refine KB ?_
  first|refine KV rfl (fun h10=>?_) (fun h10=>?_)|refine KZ rfl (fun h10=>?_) (fun h10=>?_)
  ·
    have h10:x<s.size:=h10
    refine KR ?_
    refine KB ?_
    refine LCode.block ?_
    refine KB ?_
    have hdg:=hexOK_get hok (x:=s.size-1-x) (by show s.size-1-x<s.size; omega)
    refine KA ?_
    refine oM ?_
    refine oA ?_
    refine KC ?_
    refine KB (KA ?_)
    refine oM ?_
    refine oP (Det.lens Try.underlying9 rfl) ?_
    refine oP (KH rfl rfl (KAY (b:=1) (by omega) (by omega))) ?_
    refine oM ?_
    refine oP (KH rfl rfl (KAY (by omega) (by omega))) ?_
    refine oA ?_
    refine KC ?_
    refine KB (KA ?_)
    refine oM ?_
    refine oM ?_
    refine oP (KK (KAH Try.underlying9 rfl rfl (by omega) (by omega)) (vi (b:=(s.data.toList.getD (s.size-1-x) 0).toNat) (by rw [Int.toNat_natCast]))) ?_
    refine oP (KH (v:=.int .u8 (((s.data.toList.getD (s.size-1-x) 0).toNat-48:Nat):Int)) rfl rfl (br_sub8 (a:=(s.data.toList.getD (s.size-1-x) 0).toNat) (b:=48) (by omega) (by omega))) ?_
    refine oP (KAO Try.underlying5 Try.underlying30 rfl (by first|omega|exact Nat.lt_trans (D.limb_lt _ _) (by decide))) ?_
    refine oA ?_
    refine KC ?_
    refine KB ?_
    refine KB (KA ?_)
    refine oM ?_
    refine oM ?_
    refine oP (KK (KAH Try.underlying9 rfl rfl (by omega) (by omega)) (vi (b:=(s.data.toList.getD (s.size-1-x) 0).toNat) (by rw [Int.toNat_natCast]))) ?_
    refine oP (KH rfl rfl (br_geq (b:=97))) ?_
    refine KC ?_
    first|refine KV rfl (fun h25=>?_) (fun h25=>?_)|refine KZ rfl (fun h25=>?_) (fun h25=>?_)
    ·
      have h25:97≤(s.data.toList.getD (s.size-1-x) 0).toNat:=by have:=h25; omega
      refine KA ?_
      refine oM ?_
      refine oM ?_
      refine oP (KK (KAH Try.underlying9 rfl rfl (by omega) (by omega)) (vi (b:=(s.data.toList.getD (s.size-1-x) 0).toNat) (by rw [Int.toNat_natCast]))) ?_
      refine oP (KH (v:=.int .u8 (((s.data.toList.getD (s.size-1-x) 0).toNat-97:Nat):Int)) rfl rfl (br_sub8 (a:=(s.data.toList.getD (s.size-1-x) 0).toNat) (b:=97) (by omega) (by omega))) ?_
      refine oP (KAO Try.underlying5 Try.underlying30 rfl (by first|omega|exact Nat.lt_trans (D.limb_lt _ _) (by decide))) ?_
      refine oP (KH rfl rfl (KAU (b:=10))) ?_
      refine oA ?_
      refine KC ?_
      refine rD [13] ?_
      refine aM 0 ?_
      refine aP 1 rfl (KH rfl rfl (br_quo (b:=16) (by omega) (by omega))) ?_
      refine aP 2 rfl (KI (o':=0) Try.underlying33 rfl rfl rfl sz_31 (by decide)) ?_
      refine aP 3 rfl (Kh Try.underlying31 sz_30 rfl rfl (by omega)) ?_
      refine aD 4 rfl (dL rfl (hv:=KW Try.underlying30 rfl (by exact Kt _ (show x/16<9 by omega)))) ?_
      refine aM 5 ?_
      refine aM 6 ?_
      refine aP 7 rfl (KH rfl rfl (br_rem (b:=16) (by omega))) ?_
      refine aP 8 rfl (KH rfl rfl (br_mul (a:=4) (by omega))) ?_
      refine aP 9 rfl (KH rfl rfl (br_shl64)) ?_
      refine aP 10 rfl (KH rfl rfl (br_or64 (limb_lt _ _) (Nat.mod_lt _ (by decide)))) ?_
      refine aP 11 rfl (KI (o':=0) Try.underlying33 rfl rfl rfl sz_31 (by decide)) ?_
      refine aP 12 rfl (Kh Try.underlying31 sz_30 rfl rfl (by omega)) ?_
      refine aL 13 rfl (Kg rfl rfl rfl sz_30 (by repeat (first|exact Sh _|apply St_)) (by first|(simp only [KF,KD,KE,Kq]; omega)|(simp; done)|(simp; omega)) (by first|exact KAE _ _ _ _ _|exact KAJ _ _ _ _ (by omega)|exact KAI _ _ _ _|rfl) (by simp) ?_)
      refine aE ?_
      refine KA ?_
      refine oP (KH rfl rfl (Kv (b:=1) (by omega))) ?_
      refine oM ?_
      refine KC ?_
      have hb:=limb_piece64 (V:=hexVal (s.data.toList.drop (s.size-(x)))) (y:=hexD (s.data.toList.getD (s.size-1-x) 0).toNat) (s:=4) (w:=16) (i:=x/16) (k:=x%16) rfl (Nat.mod_lt _ (by decide)) (by rw [show 16*(x/16)+x%16 = x by omega,← pow16]; exact hex_drop hok x hx) (hexD_lt hok (by show s.size-1-x<s.size; omega))
      refine ⟨x+1,by omega,by omega,KAG (Sub.cells (b:=b3) (cs':=natL (hexVal (s.data.toList.drop (s.size-(x+1))))) (by repeat (first|exact Sh _|apply St_)) ?_) (Kj ⟨rfl,rfl,rfl,rfl,rfl,trivial⟩ (by repeat (first|exact Sel.nil _|refine Sel.cons (by repeat (first|exact Ph _|apply Pt_)) ?_)))⟩
      have hs:=hex_step (l:=s.data.toList) (x:=x) h10
      rw [size_list] at hs
      rw [hs]
      have e:16^x = 2^(4*(16*(x/16)+x%16)):=by rw [show 16*(x/16)+x%16 = x by omega,pow16]
      rw [e]
      refine Ky fun j _=>?_
      rw [hb.2 j]
      unfold hexD
      rw [if_pos h25,show ((s.data.toList.getD (s.size-1-x) 0).toNat-97+10)%18446744073709551616 = (s.data.toList.getD (s.size-1-x) 0).toNat-87 by omega]
    ·
      have h25:¬ 97≤(s.data.toList.getD (s.size-1-x) 0).toNat:=by have:=h25; omega
      refine KR ?_
      refine rD [13] ?_
      refine aM 0 ?_
      refine aP 1 rfl (KH rfl rfl (br_quo (b:=16) (by omega) (by omega))) ?_
      refine aP 2 rfl (KI (o':=0) Try.underlying33 rfl rfl rfl sz_31 (by decide)) ?_
      refine aP 3 rfl (Kh Try.underlying31 sz_30 rfl rfl (by omega)) ?_
      refine aD 4 rfl (dL rfl (hv:=KW Try.underlying30 rfl (by exact Kt _ (show x/16<9 by omega)))) ?_
      refine aM 5 ?_
      refine aM 6 ?_
      refine aP 7 rfl (KH rfl rfl (br_rem (b:=16) (by omega))) ?_
      refine aP 8 rfl (KH rfl rfl (br_mul (a:=4) (by omega))) ?_
      refine aP 9 rfl (KH rfl rfl (br_shl64)) ?_
      refine aP 10 rfl (KH rfl rfl (br_or64 (limb_lt _ _) (Nat.mod_lt _ (by decide)))) ?_
      refine aP 11 rfl (KI (o':=0) Try.underlying33 rfl rfl rfl sz_31 (by decide)) ?_
      refine aP 12 rfl (Kh Try.underlying31 sz_30 rfl rfl (by omega)) ?_
      refine aL 13 rfl (Kg rfl rfl rfl sz_30 (by repeat (first|exact Sh _|apply St_)) (by first|(simp only [KF,KD,KE,Kq]; omega)|(simp; done)|(simp; omega)) (by first|exact KAE _ _ _ _ _|exact KAJ _ _ _ _ (by omega)|exact KAI _ _ _ _|rfl) (by simp) ?_)
      refine aE ?_
      refine KA ?_
      refine oP (KH rfl rfl (Kv (b:=1) (by omega))) ?_
      refine oM ?_
      refine KC ?_
      have hb:=limb_piece64 (V:=hexVal (s.data.toList.drop (s.size-(x)))) (y:=hexD (s.data.toList.getD (s.size-1-x) 0).toNat) (s:=4) (w:=16) (i:=x/16) (k:=x%16) rfl (Nat.mod_lt _ (by decide)) (by rw [show 16*(x/16)+x%16 = x by omega,← pow16]; exact hex_drop hok x hx) (hexD_lt hok (by show s.size-1-x<s.size; omega))
      refine ⟨x+1,by omega,by omega,KAG (Sub.cells (b:=b3) (cs':=natL (hexVal (s.data.toList.drop (s.size-(x+1))))) (by repeat (first|exact Sh _|apply St_)) ?_) (Kj ⟨rfl,rfl,rfl,rfl,rfl,trivial⟩ (by repeat (first|exact Sel.nil _|refine Sel.cons (by repeat (first|exact Ph _|apply Pt_)) ?_)))⟩
      have hs:=hex_step (l:=s.data.toList) (x:=x) h10
      rw [size_list] at hs
      rw [hs]
      have e:16^x = 2^(4*(16*(x/16)+x%16)):=by rw [show 16*(x/16)+x%16 = x by omega,pow16]
      rw [e]
      refine Ky fun j _=>?_
      rw [hb.2 j]
      unfold hexD
      rw [if_neg h25]
  ·
    have h10:¬ x<s.size:=h10
    refine Kl ?_
    refine KB (KA ?_)
    refine oD (dL rfl (hv:=by exact KG Try.underlying33 rfl sz_33)) ?_
    refine KU rfl (sA rfl rfl sz_33 (by repeat (first|exact KY _|exact Kc _ _ _|exact Ka _|exact Kb _ _ _|exact Kd _ _ _|exact KN|refine KL rfl ?_|refine KM ?_ ?_)) (hl:=by first|exact KD _|exact KF _ _ _|exact KE _|exact KJ _ _ _|exact KT _ _ _|rfl|simp [KF,KD,KE]) (h:=?_))
    refine KC (KO ?_)
    have hx9:x = s.size:=by omega
    subst hx9
    refine ⟨[_],.cons ⟨_,_,_,rfl,(by repeat (first|exact Mh _|apply Mt)),by exact KG Try.underlying33 rfl sz_33⟩ .nil,fun a w' hr=>⟨?_,hr.fr.below⟩⟩
    rw [Nat.sub_self,List.drop_zero]
    rfl
theorem fhex (s:ByteArray) (n:Nat) (w:World) (h:hexB s n = true):Calls Try.prog 114 ([.string s]:List Value).toArray w (fun e w'=>e = .returned (natV n)∧Below w.heap.size w w'):=by
  obtain ⟨h1,h2,h3⟩:=hexB_spec h
  have:=c_f_Hex s w h1 h3
  rwa [h2] at this
theorem c_f_Of_none (id:Int) (w:World) (h:cvI id = none):Calls Try.prog 112 ([.int .i64 id]:List Value).toArray w (fun e w'=>e = .returned (.pointer none)∧Below w.heap.size w w'):=by
  refine Kf (N:=16) (rs:=[.tmp 2]) [] Try.func112 rfl Try.ntmps112 Try.results112 (Nb rfl) trivial rfl ?_
  show LCode _ _ _ ⟨_,_⟩ _
  refine KB (KA ?_)
  refine oA ?_
  refine KC ?_
  refine KB (KA ?_)
  refine oM ?_
  refine oS (cF rfl en_139 rfl (fun w hw=>c_prime_none id w h) ?_)
  refine oA ?_
  refine KC ?_
  refine KB ?_
  refine KB (KA ?_)
  refine oM ?_
  refine oP (KK (Det.eqs rfl rfl) (congrArg Value.bool (eq_str_t rfl))) ?_
  refine KC ?_
  refine Ke rfl ?_
  refine KB (KA ?_)
  refine oA ?_
  refine KC (KO ?_)
  refine ⟨[_],.cons rfl .nil,fun a w' hr=>⟨?_,hr.fr.below⟩⟩
  rfl
theorem fill_fld (p bd:Nat):fillL [(0,9),(9,1)] (vec .u64 9 (fun _=>0)++[Value.pointer none]) [(0,natV p),(1,.agg [.pointer (some ⟨bd,0,none⟩)].toArray)] = some (fldL p bd):=by
  refine KAX (A:=[]) (B:=vec .u64 9 (fun _=>0)) (D:=[.pointer none]) (cs:=natL p) rfl rfl (KD _) rfl rfl (KF _ _ _) ?_
  refine (KAX (A:=natL p) (B:=[.pointer none]) (D:=[]) (cs:=[.pointer (some ⟨bd,0,none⟩)]) rfl rfl rfl (by simp) (KD _) rfl rfl).trans ?_
  simp [fldL]
theorem c_f_Of (id:Int) (V:Cv) (w:World) (h:cvI id = some V):Calls Try.prog 112 ([.int .i64 id]:List Value).toArray w (fun e w'=>∃ f bd,e = .returned (.pointer (some ⟨f,0,none⟩))∧(Item.blk f ⟨false,fldL V.p bd,162,(0,0)⟩).holds w'∧(Item.blk bd ⟨false,dvL V.p,212,(0,0)⟩).holds w'∧w.heap.size≤f∧w.heap.size≤bd∧Below w.heap.size w w'):=by
  obtain ⟨hok,hid⟩:=cvI_ok h
  refine Kf (N:=16) (rs:=[.tmp 2]) [] Try.func112 rfl Try.ntmps112 Try.results112 (Nb rfl) trivial rfl ?_
  show LCode _ _ _ ⟨_,_⟩ _
  refine KB (KA ?_)
  refine oA ?_
  refine KC ?_
  refine KB (KA ?_)
  refine oM ?_
  refine oS (LStep.callV (first:=[]) rfl en_139 rfl (Nb rfl) (fun w hw=>c_prime_some id V w h) ?_)
  rintro _ ⟨s,rfl,hB,hne⟩
  refine oA ?_
  refine KC ?_
  refine KB ?_
  refine KB (KA ?_)
  refine oM ?_
  refine oP (KK (Det.eqs rfl rfl) (congrArg Value.bool (eq_str_f hne))) ?_
  refine KC ?_
  refine KQ rfl ?_
  refine KR ?_
  refine KB (KA ?_)
  refine oM ?_
  refine oS (cF rfl en_114 rfl (fun w hw=>fhex s V.p w hB) ?_)
  refine oS (mk (KS zr_33) (fun b4=>?_))
  refine KU rfl (sA rfl rfl sz_33 (by repeat (first|exact KY _|exact Kc _ _ _|exact Ka _|exact Kb _ _ _|exact Kd _ _ _|exact KN|refine KL rfl ?_|refine KM ?_ ?_)) (hl:=by first|exact KD _|exact KF _ _ _|exact KE _|exact KJ _ _ _|exact KT _ _ _|rfl|simp [KF,KD,KE]) (h:=?_))
  refine KC ?_
  refine KB ?_
  have hbb:=hok.bounds
  have hpW:V.p<W9:=KAF hbb.2.1
  have hp0:V.p≠0:=by omega
  refine rD [] ?_
  refine aD 0 rfl (dL rfl (hv:=by exact KG Try.underlying33 rfl sz_33)) ?_
  refine aD 1 rfl (dL rfl (hv:=by exact KG Try.underlying33 rfl sz_33)) ?_
  refine aO 2 rfl (KAK (Post:=fun v its=>∃ b,v = .agg [.pointer (some ⟨b,0,none⟩)].toArray∧its = [.blk b ⟨false,dvL V.p,212,(0,0)⟩]∧w.heap.size≤b) (first:=[]) rfl en_140 rfl (Nb rfl) (fun w1 hw hs=>(c_By V.p hp0 hpW w1).mono fun e w' ⟨b,h1,h2,h3,h4⟩=>⟨_,_,⟨b,rfl,rfl,Nat.le_trans hs h2⟩,h1,Brings.blk1 h4 h2 h3⟩) ?_)
  rintro _ _ ⟨bd,rfl,rfl,hnbd⟩
  refine aP 3 rfl (KK (Kw pl_162 zr_162 rfl (fill_fld _ _)) rfl) ?_
  refine aO 4 rfl (mB (fun b15=>?_))
  refine aA 5 ?_
  refine aE ?_
  refine KO ?_
  refine ⟨[_],.cons rfl .nil,fun a w' hr=>⟨b15,bd,rfl,(show (Item.blk b15 ⟨true,_,_,_⟩).holds w' from hr.hp _ (by repeat (first|exact Mh _|apply Mt))),hr.hp _ (by repeat (first|exact Mh _|apply Mt)),hr.new (B:=⟨true,_,_,_⟩) (by repeat (first|exact Mh _|apply Mt)) rfl,hnbd,hr.fr.below⟩⟩
theorem c_f_Has (V:Cv) (f bd A:Nat) (w:World) (hf:(Item.blk f ⟨false,fldL V.p bd,162,(0,0)⟩).holds w) (hA:A<W9) (hpW:V.p<W9):Calls Try.prog 119 ([.pointer (some ⟨f,0,none⟩),natV A]:List Value).toArray w (fun e w'=>e = .returned (.bool (decide (A<V.p)))∧Below w.heap.size w w'):=by
  refine Kf (N:=12) (rs:=[.tmp 4]) [.blk f ⟨false,fldL V.p bd,162,(0,0)⟩] Try.func119 rfl Try.ntmps119 Try.results119 (Nb rfl) ⟨hf,trivial⟩ rfl ?_
  show LCode _ _ _ ⟨_,_⟩ _
  refine KB (KA ?_)
  refine oS (mB (fun b3=>?_))
  refine oA ?_
  refine KC ?_
  refine KB ?_
  refine rD [] ?_
  refine aD 0 rfl (dL rfl (hv:=by exact KG Try.underlying33 rfl sz_33)) ?_
  refine aM 1 ?_
  refine aP 2 rfl (KP rfl) ?_
  refine aP 3 rfl (KI (o':=0) Try.underlying162 rfl rfl rfl sz_33 (by decide)) ?_
  refine aD 4 rfl (dL rfl (hv:=by exact KAC Try.underlying33 rfl sz_33 rfl (KD _))) ?_
  refine aO 5 rfl (cF rfl en_97 rfl (fun w hw=>c_nat_Cmp A V.p hA hpW w) ?_)
  refine aP 6 rfl (KH rfl rfl (cmp_lt)) ?_
  refine aA 7 ?_
  refine aE ?_
  refine KO ?_
  refine ⟨[_],.cons rfl .nil,fun a w' hr=>⟨?_,hr.fr.below⟩⟩
  rfl
theorem c_f_Add (V:Cv) (f bd A B:Nat) (w:World) (hf:(Item.blk f ⟨false,fldL V.p bd,162,(0,0)⟩).holds w) (hp:V.p<P521) (hA:A<V.p) (hB:B<V.p):Calls Try.prog 118 ([.pointer (some ⟨f,0,none⟩),natV A,natV B]:List Value).toArray w (fun e w'=>e = .returned (natV ((A+B)%V.p))∧Below w.heap.size w w'):=by
  have hpp:=w9_half hp
  have hW:A+B<W9:=by omega
  refine Kf (N:=33) (rs:=[.cell 6 33]) [.blk f ⟨false,fldL V.p bd,162,(0,0)⟩] Try.func118 rfl Try.ntmps118 Try.results118 (Nb rfl) ⟨hf,trivial⟩ rfl ?_
  show LCode _ _ _ ⟨_,_⟩ _
  refine KB (KA ?_)
  refine oS (mB (fun b4=>?_))
  refine oS (mB (fun b5=>?_))
  refine oS (mk (KS zr_33) (fun b6=>?_))
  refine KC ?_
  refine KB (KA ?_)
  refine oD (dL rfl (hv:=by exact KG Try.underlying33 rfl sz_33)) ?_
  refine oD (dL rfl (hv:=by exact KG Try.underlying33 rfl sz_33)) ?_
  refine oS (cF rfl en_144 rfl (fun w hw=>c_nat_AddS A B w hW) ?_)
  refine oM ?_
  refine oP (Det.extract rfl rfl) ?_
  refine oP (Det.extract rfl rfl) ?_
  refine oS (mk (KS zr_33) (fun b7=>?_))
  refine KU rfl (sA rfl rfl sz_33 (by repeat (first|exact KY _|exact Kc _ _ _|exact Ka _|exact Kb _ _ _|exact Kd _ _ _|exact KN|refine KL rfl ?_|refine KM ?_ ?_)) (hl:=by first|exact KD _|exact KF _ _ _|exact KE _|exact KJ _ _ _|exact KT _ _ _|rfl|simp [KF,KD,KE]) (h:=?_))
  refine oA ?_
  refine KC ?_
  refine KB ?_
  refine KB ?_
  rcases Nat.lt_or_ge (A+B) V.p with hl|hg
  ·
    refine rD [10] ?_
    refine aD 0 rfl (dL rfl (hv:=by exact KG Try.underlying33 rfl sz_33)) ?_
    refine aM 1 ?_
    refine aP 2 rfl (KP rfl) ?_
    refine aP 3 rfl (KI (o':=0) Try.underlying162 rfl rfl rfl sz_33 (by decide)) ?_
    refine aD 4 rfl (dL rfl (hv:=by exact KAC Try.underlying33 rfl sz_33 rfl (KD _))) ?_
    refine LAny.toP ?_
    refine KAD 9 rfl (.inl zr_33) (Nb rfl) rfl rfl rfl ?_
    refine Ko 5 rfl rfl rfl (Nb rfl) (by kernel_rfl) rfl (Ks (first:=[]) rfl en_115 rfl (fun w hw=>c_nat_SubU (A+B) V.p w (by omega) hl)) ?_
    rintro _ _ ⟨rfl,rfl⟩
    refine pM 6 ?_
    refine pP 7 rfl (Det.extract rfl rfl) ?_
    refine pP 8 rfl (Det.extract rfl rfl) ?_
    refine pE (fun b9=>?_)
    refine KAP ?_
    refine aL 10 rfl (sA rfl rfl sz_33 (by repeat (first|exact KY _|exact Kc _ _ _|exact Ka _|exact Kb _ _ _|exact Kd _ _ _|exact KN|refine KL rfl ?_|refine KM ?_ ?_)) (hl:=by first|exact KD _|exact KF _ _ _|exact KE _|exact KJ _ _ _|exact KT _ _ _|rfl|simp [KF,KD,KE]) (h:=?_))
    refine aA 11 ?_
    refine aE ?_
    refine KB (KA ?_)
    refine oM ?_
    refine oM ?_
    refine oGM ?_
    refine oGP (KK (Det.not rfl) (show _ = Value.bool false from rfl)) ?_
    refine oP (Ki rfl rfl) ?_
    refine KC ?_
    refine KQ rfl ?_
    refine KR ?_
    refine KB (KA ?_)
    refine oD (dL rfl (hv:=by exact KG Try.underlying33 rfl sz_33)) ?_
    refine KU rfl (sA rfl rfl sz_33 (by repeat (first|exact KY _|exact Kc _ _ _|exact Ka _|exact Kb _ _ _|exact Kd _ _ _|exact KN|refine KL rfl ?_|refine KM ?_ ?_)) (hl:=by first|exact KD _|exact KF _ _ _|exact KE _|exact KJ _ _ _|exact KT _ _ _|rfl|simp [KF,KD,KE]) (h:=?_))
    refine KC (KO ?_)
    refine ⟨[_],.cons ⟨_,_,_,rfl,(by repeat (first|exact Mh _|apply Mt)),by exact KG Try.underlying33 rfl sz_33⟩ .nil,fun a w' hr=>⟨?_,hr.fr.below⟩⟩
    rw [Nat.mod_eq_of_lt hl]
    rfl
  ·
    refine rD [10] ?_
    refine aD 0 rfl (dL rfl (hv:=by exact KG Try.underlying33 rfl sz_33)) ?_
    refine aM 1 ?_
    refine aP 2 rfl (KP rfl) ?_
    refine aP 3 rfl (KI (o':=0) Try.underlying162 rfl rfl rfl sz_33 (by decide)) ?_
    refine aD 4 rfl (dL rfl (hv:=by exact KAC Try.underlying33 rfl sz_33 rfl (KD _))) ?_
    refine LAny.toP ?_
    refine KAD 9 rfl (.inl zr_33) (Nb rfl) rfl rfl rfl ?_
    refine Ko 5 rfl rfl rfl (Nb rfl) (by kernel_rfl) rfl (Ks (first:=[]) rfl en_115 rfl (fun w hw=>c_nat_SubS (A+B) V.p w hW hg)) ?_
    rintro _ _ ⟨rfl,rfl⟩
    refine pM 6 ?_
    refine pP 7 rfl (Det.extract rfl rfl) ?_
    refine pP 8 rfl (Det.extract rfl rfl) ?_
    refine pE (fun b9=>?_)
    refine KAP ?_
    refine aL 10 rfl (sA rfl rfl sz_33 (by repeat (first|exact KY _|exact Kc _ _ _|exact Ka _|exact Kb _ _ _|exact Kd _ _ _|exact KN|refine KL rfl ?_|refine KM ?_ ?_)) (hl:=by first|exact KD _|exact KF _ _ _|exact KE _|exact KJ _ _ _|exact KT _ _ _|rfl|simp [KF,KD,KE]) (h:=?_))
    refine aA 11 ?_
    refine aE ?_
    refine KB (KA ?_)
    refine oM ?_
    refine oM ?_
    refine oGM ?_
    refine oGP (KK (Det.not rfl) (show _ = Value.bool true from rfl)) ?_
    refine oP (Ki rfl rfl) ?_
    refine KC ?_
    refine Ke rfl ?_
    refine KB (KA ?_)
    refine oD (dL rfl (hv:=by exact KG Try.underlying33 rfl sz_33)) ?_
    refine KU rfl (sA rfl rfl sz_33 (by repeat (first|exact KY _|exact Kc _ _ _|exact Ka _|exact Kb _ _ _|exact Kd _ _ _|exact KN|refine KL rfl ?_|refine KM ?_ ?_)) (hl:=by first|exact KD _|exact KF _ _ _|exact KE _|exact KJ _ _ _|exact KT _ _ _|rfl|simp [KF,KD,KE]) (h:=?_))
    refine KC (KO ?_)
    refine ⟨[_],.cons ⟨_,_,_,rfl,(by repeat (first|exact Mh _|apply Mt)),by exact KG Try.underlying33 rfl sz_33⟩ .nil,fun a w' hr=>⟨?_,hr.fr.below⟩⟩
    rw [Nat.mod_eq_sub_mod hg,Nat.mod_eq_of_lt (by omega)]
    rfl
theorem c_f_Sub (V:Cv) (f bd A B:Nat) (w:World) (hf:(Item.blk f ⟨false,fldL V.p bd,162,(0,0)⟩).holds w) (hp:V.p<P521) (hA:A<V.p) (hB:B<V.p):Calls Try.prog 130 ([.pointer (some ⟨f,0,none⟩),natV A,natV B]:List Value).toArray w (fun e w'=>e = .returned (natV ((A+V.p-B)%V.p))∧Below w.heap.size w w'):=by
  have hpp:=w9_half hp
  refine Kf (N:=26) (rs:=[.cell 6 33]) [.blk f ⟨false,fldL V.p bd,162,(0,0)⟩] Try.func130 rfl Try.ntmps130 Try.results130 (Nb rfl) ⟨hf,trivial⟩ rfl ?_
  show LCode _ _ _ ⟨_,_⟩ _
  refine KB (KA ?_)
  refine oS (mB (fun b4=>?_))
  refine oS (mB (fun b5=>?_))
  refine oS (mk (KS zr_33) (fun b6=>?_))
  refine KC ?_
  refine KB ?_
  rcases Nat.lt_or_ge A B with hl|hg
  ·
    refine KA ?_
    refine oD (dL rfl (hv:=by exact KG Try.underlying33 rfl sz_33)) ?_
    refine oD (dL rfl (hv:=by exact KG Try.underlying33 rfl sz_33)) ?_
    refine oS (cF rfl en_115 rfl (fun w hw=>c_nat_SubU A B w (by omega) hl) ?_)
    refine oM ?_
    refine oP (Det.extract rfl rfl) ?_
    refine oP (Det.extract rfl rfl) ?_
    refine oS (mk (KS zr_33) (fun b7=>?_))
    refine KU rfl (sA rfl rfl sz_33 (by repeat (first|exact KY _|exact Kc _ _ _|exact Ka _|exact Kb _ _ _|exact Kd _ _ _|exact KN|refine KL rfl ?_|refine KM ?_ ?_)) (hl:=by first|exact KD _|exact KF _ _ _|exact KE _|exact KJ _ _ _|exact KT _ _ _|rfl|simp [KF,KD,KE]) (h:=?_))
    refine oA ?_
    refine KC ?_
    refine KB ?_
    refine KB (KA ?_)
    refine oM ?_
    refine KC ?_
    refine Ke rfl ?_
    refine rD [9] ?_
    refine aD 0 rfl (dL rfl (hv:=by exact KG Try.underlying33 rfl sz_33)) ?_
    refine aM 1 ?_
    refine aP 2 rfl (KP rfl) ?_
    refine aP 3 rfl (KI (o':=0) Try.underlying162 rfl rfl rfl sz_33 (by decide)) ?_
    refine aD 4 rfl (dL rfl (hv:=by exact KAC Try.underlying33 rfl sz_33 rfl (KD _))) ?_
    refine aO 5 rfl (cF rfl en_144 rfl (fun w hw=>c_nat_Add (dif A B) V.p (dif_lt _ _) (by omega) w) ?_)
    refine aM 6 ?_
    refine aP 7 rfl (Det.extract rfl rfl) ?_
    refine aP 8 rfl (Det.extract rfl rfl) ?_
    refine aL 9 rfl (sA rfl rfl sz_33 (by repeat (first|exact KY _|exact Kc _ _ _|exact Ka _|exact Kb _ _ _|exact Kd _ _ _|exact KN|refine KL rfl ?_|refine KM ?_ ?_)) (hl:=by first|exact KD _|exact KF _ _ _|exact KE _|exact KJ _ _ _|exact KT _ _ _|rfl|simp [KF,KD,KE]) (h:=?_))
    refine aE ?_
    refine KB (KA ?_)
    refine oD (dL rfl (hv:=by exact KG Try.underlying33 rfl sz_33)) ?_
    refine KU rfl (sA rfl rfl sz_33 (by repeat (first|exact KY _|exact Kc _ _ _|exact Ka _|exact Kb _ _ _|exact Kd _ _ _|exact KN|refine KL rfl ?_|refine KM ?_ ?_)) (hl:=by first|exact KD _|exact KF _ _ _|exact KE _|exact KJ _ _ _|exact KT _ _ _|rfl|simp [KF,KD,KE]) (h:=?_))
    refine KC (KO ?_)
    refine ⟨[_],.cons ⟨_,_,_,rfl,(by repeat (first|exact Mh _|apply Mt)),by exact KG Try.underlying33 rfl sz_33⟩ .nil,fun a w' hr=>⟨?_,hr.fr.below⟩⟩
    rw [dif_back (by omega) hB hl,Nat.mod_eq_of_lt (show A+V.p-B<V.p by omega)]
    rfl
  ·
    refine KA ?_
    refine oD (dL rfl (hv:=by exact KG Try.underlying33 rfl sz_33)) ?_
    refine oD (dL rfl (hv:=by exact KG Try.underlying33 rfl sz_33)) ?_
    refine oS (cF rfl en_115 rfl (fun w hw=>c_nat_SubS A B w (by omega) hg) ?_)
    refine oM ?_
    refine oP (Det.extract rfl rfl) ?_
    refine oP (Det.extract rfl rfl) ?_
    refine oS (mk (KS zr_33) (fun b7=>?_))
    refine KU rfl (sA rfl rfl sz_33 (by repeat (first|exact KY _|exact Kc _ _ _|exact Ka _|exact Kb _ _ _|exact Kd _ _ _|exact KN|refine KL rfl ?_|refine KM ?_ ?_)) (hl:=by first|exact KD _|exact KF _ _ _|exact KE _|exact KJ _ _ _|exact KT _ _ _|rfl|simp [KF,KD,KE]) (h:=?_))
    refine oA ?_
    refine KC ?_
    refine KB ?_
    refine KB (KA ?_)
    refine oM ?_
    refine KC ?_
    refine KQ rfl ?_
    refine KR ?_
    refine KB (KA ?_)
    refine oD (dL rfl (hv:=by exact KG Try.underlying33 rfl sz_33)) ?_
    refine KU rfl (sA rfl rfl sz_33 (by repeat (first|exact KY _|exact Kc _ _ _|exact Ka _|exact Kb _ _ _|exact Kd _ _ _|exact KN|refine KL rfl ?_|refine KM ?_ ?_)) (hl:=by first|exact KD _|exact KF _ _ _|exact KE _|exact KJ _ _ _|exact KT _ _ _|rfl|simp [KF,KD,KE]) (h:=?_))
    refine KC (KO ?_)
    refine ⟨[_],.cons ⟨_,_,_,rfl,(by repeat (first|exact Mh _|apply Mt)),by exact KG Try.underlying33 rfl sz_33⟩ .nil,fun a w' hr=>⟨?_,hr.fr.below⟩⟩
    rw [show A+V.p-B = A-B+V.p by omega,Nat.add_mod_right,Nat.mod_eq_of_lt (by omega)]
    rfl
theorem c_f_Mul (V:Cv) (f bd A B:Nat) (w:World) (hf:(Item.blk f ⟨false,fldL V.p bd,162,(0,0)⟩).holds w) (hbd:(Item.blk bd ⟨false,dvL V.p,212,(0,0)⟩).holds w) (hp0:V.p≠0) (hpW:V.p<W9) (hA:A<W9) (hB:B<W9):Calls Try.prog 120 ([.pointer (some ⟨f,0,none⟩),natV A,natV B]:List Value).toArray w (fun e w'=>e = .returned (natV (A*B%V.p))∧Below w.heap.size w w'):=by
  refine Kf (N:=14) (rs:=[.cell 6 33]) [.blk f ⟨false,fldL V.p bd,162,(0,0)⟩,.blk bd ⟨false,dvL V.p,212,(0,0)⟩] Try.func120 rfl Try.ntmps120 Try.results120 (Nb rfl) ⟨hf,hbd,trivial⟩ rfl ?_
  show LCode _ _ _ ⟨_,_⟩ _
  refine KB (KA ?_)
  refine oS (mB (fun b4=>?_))
  refine oS (mB (fun b5=>?_))
  refine oS (mk (KS zr_33) (fun b6=>?_))
  refine KC ?_
  refine KB ?_
  refine rD [7] ?_
  refine aM 0 ?_
  refine aP 1 rfl (KP rfl) ?_
  refine aP 2 rfl (KI (o':=9) Try.underlying162 rfl rfl rfl sz_160 (by decide)) ?_
  refine aD 3 rfl (dL rfl (hv:=by exact LoadV.last Try.underlying160 rfl sz_160 rfl (KD _) rfl)) ?_
  refine aD 4 rfl (dL rfl (hv:=by exact KG Try.underlying33 rfl sz_33)) ?_
  refine aD 5 rfl (dL rfl (hv:=by exact KG Try.underlying33 rfl sz_33)) ?_
  refine aO 6 rfl (cF rfl en_145 rfl (fun w hw=>c_Mul V.p A B bd hp0 hpW w (mC hw) hA hB) ?_)
  refine aL 7 rfl (sA rfl rfl sz_33 (by repeat (first|exact KY _|exact Kc _ _ _|exact Ka _|exact Kb _ _ _|exact Kd _ _ _|exact KN|refine KL rfl ?_|refine KM ?_ ?_)) (hl:=by first|exact KD _|exact KF _ _ _|exact KE _|exact KJ _ _ _|exact KT _ _ _|rfl|simp [KF,KD,KE]) (h:=?_))
  refine aE ?_
  refine KO ?_
  refine ⟨[_],.cons ⟨_,_,_,rfl,(by repeat (first|exact Mh _|apply Mt)),by exact KG Try.underlying33 rfl sz_33⟩ .nil,fun a w' hr=>⟨?_,hr.fr.below⟩⟩
  rfl
theorem c_f_Inv (V:Cv) (f bd A:Nat) (w:World) (hf:(Item.blk f ⟨false,fldL V.p bd,162,(0,0)⟩).holds w) (hp0:V.p≠0) (hpW:V.p<W9) (hA:A<W9):Calls Try.prog 136 ([.pointer (some ⟨f,0,none⟩),natV A]:List Value).toArray w (fun e w'=>e = .returned (natV (invM A V.p))∧Below w.heap.size w w'):=by
  refine Kf (N:=17) (rs:=[.cell 4 33]) [.blk f ⟨false,fldL V.p bd,162,(0,0)⟩] Try.func136 rfl Try.ntmps136 Try.results136 (Nb rfl) ⟨hf,trivial⟩ rfl ?_
  show LCode _ _ _ ⟨_,_⟩ _
  refine KB (KA ?_)
  refine oS (mB (fun b3=>?_))
  refine oS (mk (KS zr_33) (fun b4=>?_))
  refine KC ?_
  refine KB ?_
  refine rD [10] ?_
  refine aD 0 rfl (dL rfl (hv:=by exact KG Try.underlying33 rfl sz_33)) ?_
  refine aM 1 ?_
  refine aP 2 rfl (KP rfl) ?_
  refine aP 3 rfl (KI (o':=0) Try.underlying162 rfl rfl rfl sz_33 (by decide)) ?_
  refine aD 4 rfl (dL rfl (hv:=by exact KAC Try.underlying33 rfl sz_33 rfl (KD _))) ?_
  refine LAny.toP ?_
  refine KAD 9 rfl (.inl zr_33) (Nb rfl) rfl rfl rfl ?_
  refine Ko 5 rfl rfl rfl (Nb rfl) (by kernel_rfl) rfl (Ks (first:=[]) rfl en_151 rfl (fun w hw=>c_Inverse A V.p hp0 w hA hpW)) ?_
  rintro _ _ ⟨rfl,rfl⟩
  refine pM 6 ?_
  refine pP 7 rfl (Det.extract rfl rfl) ?_
  refine pP 8 rfl (Det.extract rfl rfl) ?_
  refine pE (fun b5=>?_)
  refine KAP ?_
  refine aL 10 rfl (sA rfl rfl sz_33 (by repeat (first|exact KY _|exact Kc _ _ _|exact Ka _|exact Kb _ _ _|exact Kd _ _ _|exact KN|refine KL rfl ?_|refine KM ?_ ?_)) (hl:=by first|exact KD _|exact KF _ _ _|exact KE _|exact KJ _ _ _|exact KT _ _ _|rfl|simp [KF,KD,KE]) (h:=?_))
  refine aA 11 ?_
  refine aE ?_
  refine KB (KA ?_)
  refine oD (dL rfl (hv:=by exact KG Try.underlying33 rfl sz_33)) ?_
  refine KU rfl (sA rfl rfl sz_33 (by repeat (first|exact KY _|exact Kc _ _ _|exact Ka _|exact Kb _ _ _|exact Kd _ _ _|exact KN|refine KL rfl ?_|refine KM ?_ ?_)) (hl:=by first|exact KD _|exact KF _ _ _|exact KE _|exact KJ _ _ _|exact KT _ _ _|rfl|simp [KF,KD,KE]) (h:=?_))
  refine KC (KO ?_)
  refine ⟨[_],.cons ⟨_,_,_,rfl,(by repeat (first|exact Mh _|apply Mt)),by exact KG Try.underlying33 rfl sz_33⟩ .nil,fun a w' hr=>⟨?_,hr.fr.below⟩⟩
  rfl
end Go.Proofs.Ytlmiolnccgjjjaa
set_option linter.unusedVariables false
set_option linter.unusedSimpArgs false
set_option maxRecDepth 20000
namespace Go.Proofs.Ytlmiolnccgjjjaa
open Go Go.RowKit
def cvC (id:Nat) (p:Nat) (a:Nat) (b:Nat) (n:Nat) (gx gy:Nat) (inf:Bool) (bits:Nat) (size:Nat) (leg:Bool) (F:Value) (t3:Nat):List Value:=[.int .i64 ((id:Nat):Int)]++(natL p++(natL a++(natL b++(natL n++(ptL gx gy inf++([.int .i64 ((bits:Nat):Int)]++([.int .i64 ((size:Nat):Int)]++([.bool leg]++([F]++(natL t3))))))))))
theorem cvC_at_id (id:Nat) (p:Nat) (a:Nat) (b:Nat) (n:Nat) (gx gy:Nat) (inf:Bool) (bits:Nat) (size:Nat) (leg:Bool) (F:Value) (t3:Nat):cvC id p a b n gx gy inf bits size leg F t3 = ([])++(([.int .i64 ((id:Nat):Int)])++(natL p++(natL a++(natL b++(natL n++(ptL gx gy inf++([.int .i64 ((bits:Nat):Int)]++([.int .i64 ((size:Nat):Int)]++([.bool leg]++([F]++(natL t3))))))))))):=by simp only [cvC,List.append_assoc,List.append_nil,List.nil_append]
theorem cvC_len_id  : ([]:List Value).length = 0:=by simp [KD,KJ]
theorem cvC_set_id (id:Nat) (p:Nat) (a:Nat) (b:Nat) (n:Nat) (gx gy:Nat) (inf:Bool) (bits:Nat) (size:Nat) (leg:Bool) (F:Value) (t3:Nat) (id':Nat):splice (cvC id p a b n gx gy inf bits size leg F t3) 0 ([.int .i64 ((id':Nat):Int)]) = cvC id' p a b n gx gy inf bits size leg F t3:=splice_mid (cvC_at_id id p a b n gx gy inf bits size leg F t3) (cvC_len_id) (by simp [KD,KJ]) (cvC_at_id id' p a b n gx gy inf bits size leg F t3)
theorem cvC_at_p (id:Nat) (p:Nat) (a:Nat) (b:Nat) (n:Nat) (gx gy:Nat) (inf:Bool) (bits:Nat) (size:Nat) (leg:Bool) (F:Value) (t3:Nat):cvC id p a b n gx gy inf bits size leg F t3 = ([.int .i64 ((id:Nat):Int)])++((natL p)++(natL a++(natL b++(natL n++(ptL gx gy inf++([.int .i64 ((bits:Nat):Int)]++([.int .i64 ((size:Nat):Int)]++([.bool leg]++([F]++(natL t3)))))))))):=by simp only [cvC,List.append_assoc,List.append_nil,List.nil_append]
theorem cvC_len_p (id:Nat):([.int .i64 ((id:Nat):Int)]:List Value).length = 1:=by simp [KD,KJ]
theorem cvC_set_p (id:Nat) (p:Nat) (a:Nat) (b:Nat) (n:Nat) (gx gy:Nat) (inf:Bool) (bits:Nat) (size:Nat) (leg:Bool) (F:Value) (t3:Nat) (p':Nat):splice (cvC id p a b n gx gy inf bits size leg F t3) 1 (natL p') = cvC id p' a b n gx gy inf bits size leg F t3:=splice_mid (cvC_at_p id p a b n gx gy inf bits size leg F t3) (cvC_len_p id) (by simp [KD,KJ]) (cvC_at_p id p' a b n gx gy inf bits size leg F t3)
theorem cvC_at_a (id:Nat) (p:Nat) (a:Nat) (b:Nat) (n:Nat) (gx gy:Nat) (inf:Bool) (bits:Nat) (size:Nat) (leg:Bool) (F:Value) (t3:Nat):cvC id p a b n gx gy inf bits size leg F t3 = ([.int .i64 ((id:Nat):Int)]++(natL p))++((natL a)++(natL b++(natL n++(ptL gx gy inf++([.int .i64 ((bits:Nat):Int)]++([.int .i64 ((size:Nat):Int)]++([.bool leg]++([F]++(natL t3))))))))):=by simp only [cvC,List.append_assoc,List.append_nil,List.nil_append]
theorem cvC_len_a (id:Nat) (p:Nat):([.int .i64 ((id:Nat):Int)]++(natL p):List Value).length = 10:=by simp [KD,KJ]
theorem cvC_set_a (id:Nat) (p:Nat) (a:Nat) (b:Nat) (n:Nat) (gx gy:Nat) (inf:Bool) (bits:Nat) (size:Nat) (leg:Bool) (F:Value) (t3:Nat) (a':Nat):splice (cvC id p a b n gx gy inf bits size leg F t3) 10 (natL a') = cvC id p a' b n gx gy inf bits size leg F t3:=splice_mid (cvC_at_a id p a b n gx gy inf bits size leg F t3) (cvC_len_a id p) (by simp [KD,KJ]) (cvC_at_a id p a' b n gx gy inf bits size leg F t3)
theorem cvC_at_b (id:Nat) (p:Nat) (a:Nat) (b:Nat) (n:Nat) (gx gy:Nat) (inf:Bool) (bits:Nat) (size:Nat) (leg:Bool) (F:Value) (t3:Nat):cvC id p a b n gx gy inf bits size leg F t3 = ([.int .i64 ((id:Nat):Int)]++(natL p++(natL a)))++((natL b)++(natL n++(ptL gx gy inf++([.int .i64 ((bits:Nat):Int)]++([.int .i64 ((size:Nat):Int)]++([.bool leg]++([F]++(natL t3)))))))):=by simp only [cvC,List.append_assoc,List.append_nil,List.nil_append]
theorem cvC_len_b (id:Nat) (p:Nat) (a:Nat):([.int .i64 ((id:Nat):Int)]++(natL p++(natL a)):List Value).length = 19:=by simp [KD,KJ]
theorem cvC_set_b (id:Nat) (p:Nat) (a:Nat) (b:Nat) (n:Nat) (gx gy:Nat) (inf:Bool) (bits:Nat) (size:Nat) (leg:Bool) (F:Value) (t3:Nat) (b':Nat):splice (cvC id p a b n gx gy inf bits size leg F t3) 19 (natL b') = cvC id p a b' n gx gy inf bits size leg F t3:=splice_mid (cvC_at_b id p a b n gx gy inf bits size leg F t3) (cvC_len_b id p a) (by simp [KD,KJ]) (cvC_at_b id p a b' n gx gy inf bits size leg F t3)
theorem cvC_at_n (id:Nat) (p:Nat) (a:Nat) (b:Nat) (n:Nat) (gx gy:Nat) (inf:Bool) (bits:Nat) (size:Nat) (leg:Bool) (F:Value) (t3:Nat):cvC id p a b n gx gy inf bits size leg F t3 = ([.int .i64 ((id:Nat):Int)]++(natL p++(natL a++(natL b))))++((natL n)++(ptL gx gy inf++([.int .i64 ((bits:Nat):Int)]++([.int .i64 ((size:Nat):Int)]++([.bool leg]++([F]++(natL t3))))))):=by simp only [cvC,List.append_assoc,List.append_nil,List.nil_append]
theorem cvC_len_n (id:Nat) (p:Nat) (a:Nat) (b:Nat):([.int .i64 ((id:Nat):Int)]++(natL p++(natL a++(natL b))):List Value).length = 28:=by simp [KD,KJ]
theorem cvC_set_n (id:Nat) (p:Nat) (a:Nat) (b:Nat) (n:Nat) (gx gy:Nat) (inf:Bool) (bits:Nat) (size:Nat) (leg:Bool) (F:Value) (t3:Nat) (n':Nat):splice (cvC id p a b n gx gy inf bits size leg F t3) 28 (natL n') = cvC id p a b n' gx gy inf bits size leg F t3:=splice_mid (cvC_at_n id p a b n gx gy inf bits size leg F t3) (cvC_len_n id p a b) (by simp [KD,KJ]) (cvC_at_n id p a b n' gx gy inf bits size leg F t3)
theorem cvC_at_g (id:Nat) (p:Nat) (a:Nat) (b:Nat) (n:Nat) (gx gy:Nat) (inf:Bool) (bits:Nat) (size:Nat) (leg:Bool) (F:Value) (t3:Nat):cvC id p a b n gx gy inf bits size leg F t3 = ([.int .i64 ((id:Nat):Int)]++(natL p++(natL a++(natL b++(natL n)))))++((ptL gx gy inf)++([.int .i64 ((bits:Nat):Int)]++([.int .i64 ((size:Nat):Int)]++([.bool leg]++([F]++(natL t3)))))):=by simp only [cvC,List.append_assoc,List.append_nil,List.nil_append]
theorem cvC_len_g (id:Nat) (p:Nat) (a:Nat) (b:Nat) (n:Nat):([.int .i64 ((id:Nat):Int)]++(natL p++(natL a++(natL b++(natL n)))):List Value).length = 37:=by simp [KD,KJ]
theorem cvC_set_g (id:Nat) (p:Nat) (a:Nat) (b:Nat) (n:Nat) (gx gy:Nat) (inf:Bool) (bits:Nat) (size:Nat) (leg:Bool) (F:Value) (t3:Nat) (gx' gy':Nat) (inf':Bool):splice (cvC id p a b n gx gy inf bits size leg F t3) 37 (ptL gx' gy' inf') = cvC id p a b n gx' gy' inf' bits size leg F t3:=splice_mid (cvC_at_g id p a b n gx gy inf bits size leg F t3) (cvC_len_g id p a b n) (by simp [KD,KJ]) (cvC_at_g id p a b n gx' gy' inf' bits size leg F t3)
theorem cvC_at_bits (id:Nat) (p:Nat) (a:Nat) (b:Nat) (n:Nat) (gx gy:Nat) (inf:Bool) (bits:Nat) (size:Nat) (leg:Bool) (F:Value) (t3:Nat):cvC id p a b n gx gy inf bits size leg F t3 = ([.int .i64 ((id:Nat):Int)]++(natL p++(natL a++(natL b++(natL n++(ptL gx gy inf))))))++(([.int .i64 ((bits:Nat):Int)])++([.int .i64 ((size:Nat):Int)]++([.bool leg]++([F]++(natL t3))))):=by simp only [cvC,List.append_assoc,List.append_nil,List.nil_append]
theorem cvC_len_bits (id:Nat) (p:Nat) (a:Nat) (b:Nat) (n:Nat) (gx gy:Nat) (inf:Bool):([.int .i64 ((id:Nat):Int)]++(natL p++(natL a++(natL b++(natL n++(ptL gx gy inf))))):List Value).length = 56:=by simp [KD,KJ]
theorem cvC_set_bits (id:Nat) (p:Nat) (a:Nat) (b:Nat) (n:Nat) (gx gy:Nat) (inf:Bool) (bits:Nat) (size:Nat) (leg:Bool) (F:Value) (t3:Nat) (bits':Nat):splice (cvC id p a b n gx gy inf bits size leg F t3) 56 ([.int .i64 ((bits':Nat):Int)]) = cvC id p a b n gx gy inf bits' size leg F t3:=splice_mid (cvC_at_bits id p a b n gx gy inf bits size leg F t3) (cvC_len_bits id p a b n gx gy inf) (by simp [KD,KJ]) (cvC_at_bits id p a b n gx gy inf bits' size leg F t3)
theorem cvC_at_size (id:Nat) (p:Nat) (a:Nat) (b:Nat) (n:Nat) (gx gy:Nat) (inf:Bool) (bits:Nat) (size:Nat) (leg:Bool) (F:Value) (t3:Nat):cvC id p a b n gx gy inf bits size leg F t3 = ([.int .i64 ((id:Nat):Int)]++(natL p++(natL a++(natL b++(natL n++(ptL gx gy inf++([.int .i64 ((bits:Nat):Int)])))))))++(([.int .i64 ((size:Nat):Int)])++([.bool leg]++([F]++(natL t3)))):=by simp only [cvC,List.append_assoc,List.append_nil,List.nil_append]
theorem cvC_len_size (id:Nat) (p:Nat) (a:Nat) (b:Nat) (n:Nat) (gx gy:Nat) (inf:Bool) (bits:Nat):([.int .i64 ((id:Nat):Int)]++(natL p++(natL a++(natL b++(natL n++(ptL gx gy inf++([.int .i64 ((bits:Nat):Int)])))))):List Value).length = 57:=by simp [KD,KJ]
theorem cvC_set_size (id:Nat) (p:Nat) (a:Nat) (b:Nat) (n:Nat) (gx gy:Nat) (inf:Bool) (bits:Nat) (size:Nat) (leg:Bool) (F:Value) (t3:Nat) (size':Nat):splice (cvC id p a b n gx gy inf bits size leg F t3) 57 ([.int .i64 ((size':Nat):Int)]) = cvC id p a b n gx gy inf bits size' leg F t3:=splice_mid (cvC_at_size id p a b n gx gy inf bits size leg F t3) (cvC_len_size id p a b n gx gy inf bits) (by simp [KD,KJ]) (cvC_at_size id p a b n gx gy inf bits size' leg F t3)
theorem cvC_at_leg (id:Nat) (p:Nat) (a:Nat) (b:Nat) (n:Nat) (gx gy:Nat) (inf:Bool) (bits:Nat) (size:Nat) (leg:Bool) (F:Value) (t3:Nat):cvC id p a b n gx gy inf bits size leg F t3 = ([.int .i64 ((id:Nat):Int)]++(natL p++(natL a++(natL b++(natL n++(ptL gx gy inf++([.int .i64 ((bits:Nat):Int)]++([.int .i64 ((size:Nat):Int)]))))))))++(([.bool leg])++([F]++(natL t3))):=by simp only [cvC,List.append_assoc,List.append_nil,List.nil_append]
theorem cvC_len_leg (id:Nat) (p:Nat) (a:Nat) (b:Nat) (n:Nat) (gx gy:Nat) (inf:Bool) (bits:Nat) (size:Nat):([.int .i64 ((id:Nat):Int)]++(natL p++(natL a++(natL b++(natL n++(ptL gx gy inf++([.int .i64 ((bits:Nat):Int)]++([.int .i64 ((size:Nat):Int)]))))))):List Value).length = 58:=by simp [KD,KJ]
theorem cvC_set_leg (id:Nat) (p:Nat) (a:Nat) (b:Nat) (n:Nat) (gx gy:Nat) (inf:Bool) (bits:Nat) (size:Nat) (leg:Bool) (F:Value) (t3:Nat) (leg':Bool):splice (cvC id p a b n gx gy inf bits size leg F t3) 58 ([.bool leg']) = cvC id p a b n gx gy inf bits size leg' F t3:=splice_mid (cvC_at_leg id p a b n gx gy inf bits size leg F t3) (cvC_len_leg id p a b n gx gy inf bits size) (by simp [KD,KJ]) (cvC_at_leg id p a b n gx gy inf bits size leg' F t3)
theorem cvC_at_F (id:Nat) (p:Nat) (a:Nat) (b:Nat) (n:Nat) (gx gy:Nat) (inf:Bool) (bits:Nat) (size:Nat) (leg:Bool) (F:Value) (t3:Nat):cvC id p a b n gx gy inf bits size leg F t3 = ([.int .i64 ((id:Nat):Int)]++(natL p++(natL a++(natL b++(natL n++(ptL gx gy inf++([.int .i64 ((bits:Nat):Int)]++([.int .i64 ((size:Nat):Int)]++([.bool leg])))))))))++(([F])++(natL t3)):=by simp only [cvC,List.append_assoc,List.append_nil,List.nil_append]
theorem cvC_len_F (id:Nat) (p:Nat) (a:Nat) (b:Nat) (n:Nat) (gx gy:Nat) (inf:Bool) (bits:Nat) (size:Nat) (leg:Bool):([.int .i64 ((id:Nat):Int)]++(natL p++(natL a++(natL b++(natL n++(ptL gx gy inf++([.int .i64 ((bits:Nat):Int)]++([.int .i64 ((size:Nat):Int)]++([.bool leg])))))))):List Value).length = 59:=by simp [KD,KJ]
theorem cvC_at_t3 (id:Nat) (p:Nat) (a:Nat) (b:Nat) (n:Nat) (gx gy:Nat) (inf:Bool) (bits:Nat) (size:Nat) (leg:Bool) (F:Value) (t3:Nat):cvC id p a b n gx gy inf bits size leg F t3 = ([.int .i64 ((id:Nat):Int)]++(natL p++(natL a++(natL b++(natL n++(ptL gx gy inf++([.int .i64 ((bits:Nat):Int)]++([.int .i64 ((size:Nat):Int)]++([.bool leg]++([F]))))))))))++((natL t3)++([])):=by simp only [cvC,List.append_assoc,List.append_nil,List.nil_append]
theorem cvC_len_t3 (id:Nat) (p:Nat) (a:Nat) (b:Nat) (n:Nat) (gx gy:Nat) (inf:Bool) (bits:Nat) (size:Nat) (leg:Bool) (F:Value):([.int .i64 ((id:Nat):Int)]++(natL p++(natL a++(natL b++(natL n++(ptL gx gy inf++([.int .i64 ((bits:Nat):Int)]++([.int .i64 ((size:Nat):Int)]++([.bool leg]++([F]))))))))):List Value).length = 60:=by simp [KD,KJ]
theorem cvC_set_t3 (id:Nat) (p:Nat) (a:Nat) (b:Nat) (n:Nat) (gx gy:Nat) (inf:Bool) (bits:Nat) (size:Nat) (leg:Bool) (F:Value) (t3:Nat) (t3':Nat):splice (cvC id p a b n gx gy inf bits size leg F t3) 60 (natL t3') = cvC id p a b n gx gy inf bits size leg F t3':=splice_mid (cvC_at_t3 id p a b n gx gy inf bits size leg F t3) (cvC_len_t3 id p a b n gx gy inf bits size leg F) (by simp [KD,KJ]) (cvC_at_t3 id p a b n gx gy inf bits size leg F t3')
theorem KAV (id:Nat) (p:Nat) (a:Nat) (b:Nat) (n:Nat) (gx gy:Nat) (inf:Bool) (bits:Nat) (size:Nat) (leg:Bool) (F:Value) (t3:Nat):(cvC id p a b n gx gy inf bits size leg F t3).length = 69:=by simp [cvC,KD,KJ]
theorem cvC_zero:([Value.int .i64 ((0:Nat):Int)]++(vec .u64 9 (fun _=>0)++(vec .u64 9 (fun _=>0)++(vec .u64 9 (fun _=>0)++(vec .u64 9 (fun _=>0)++(vec .u64 9 (fun _=>0)++(vec .u64 9 (fun _=>0)++([Value.bool false,Value.int .i64 ((0:Nat):Int),Value.int .i64 ((0:Nat):Int),Value.bool false,Value.pointer none]++(vec .u64 9 (fun _=>0))))))))):List Value) = cvC 0 0 0 0 0 0 0 false 0 0 false (.pointer none) 0:=by
  simp only [cvC,natL,ptL,vec_zeros 9,List.append_assoc,List.cons_append,List.nil_append]
theorem fillF (F:Value) (h1:F.cells = #[F]):fillL [(0,59),(59,1),(60,9)] ([Value.int .i64 ((0:Nat):Int)]++(vec .u64 9 (fun _=>0)++(vec .u64 9 (fun _=>0)++(vec .u64 9 (fun _=>0)++(vec .u64 9 (fun _=>0)++(vec .u64 9 (fun _=>0)++(vec .u64 9 (fun _=>0)++([Value.bool false,Value.int .i64 ((0:Nat):Int),Value.int .i64 ((0:Nat):Int),Value.bool false,Value.pointer none]++(vec .u64 9 (fun _=>0))))))))) ) [(1,F)] = some (cvC 0 0 0 0 0 0 0 false 0 0 false F 0):=by
  rw [cvC_zero]
  refine KAX (cs:=[F]) rfl (by rw [h1]) rfl (cvC_at_F _ _ _ _ _ _ _ _ _ _ _ _ _) (cvC_len_F _ _ _ _ _ _ _ _ _ _ _) rfl ?_
  unfold fillL
  rw [cvC_at_F]
theorem cvC_ld_a (id:Nat) (p:Nat) (a:Nat) (b:Nat) (n:Nat) (gx gy:Nat) (inf:Bool) (bits:Nat) (size:Nat) (leg:Bool) (F:Value) (t3:Nat) (wr:Bool) (e:TypeId) (fz:Nat×Nat):LoadV Try.prog 33 ⟨wr,cvC id p a b n gx gy inf bits size leg F t3,e,fz⟩ 10 (.agg (natL a).toArray):=LoadV.mid Try.underlying33 rfl sz_33 (cvC_at_a id p a b n gx gy inf bits size leg F t3) (cvC_len_a id p) (by simp [KD,KJ])
theorem cvC_ld_b (id:Nat) (p:Nat) (a:Nat) (b:Nat) (n:Nat) (gx gy:Nat) (inf:Bool) (bits:Nat) (size:Nat) (leg:Bool) (F:Value) (t3:Nat) (wr:Bool) (e:TypeId) (fz:Nat×Nat):LoadV Try.prog 33 ⟨wr,cvC id p a b n gx gy inf bits size leg F t3,e,fz⟩ 19 (.agg (natL b).toArray):=LoadV.mid Try.underlying33 rfl sz_33 (cvC_at_b id p a b n gx gy inf bits size leg F t3) (cvC_len_b id p a) (by simp [KD,KJ])
theorem cvC_ld_n (id:Nat) (p:Nat) (a:Nat) (b:Nat) (n:Nat) (gx gy:Nat) (inf:Bool) (bits:Nat) (size:Nat) (leg:Bool) (F:Value) (t3:Nat) (wr:Bool) (e:TypeId) (fz:Nat×Nat):LoadV Try.prog 33 ⟨wr,cvC id p a b n gx gy inf bits size leg F t3,e,fz⟩ 28 (.agg (natL n).toArray):=LoadV.mid Try.underlying33 rfl sz_33 (cvC_at_n id p a b n gx gy inf bits size leg F t3) (cvC_len_n id p a b) (by simp [KD,KJ])
theorem cvC_ld_g (id:Nat) (p:Nat) (a:Nat) (b:Nat) (n:Nat) (gx gy:Nat) (inf:Bool) (bits:Nat) (size:Nat) (leg:Bool) (F:Value) (t3:Nat) (wr:Bool) (e:TypeId) (fz:Nat×Nat):LoadV Try.prog 35 ⟨wr,cvC id p a b n gx gy inf bits size leg F t3,e,fz⟩ 37 (.agg (ptL gx gy inf).toArray):=LoadV.mid Try.underlying35 rfl sz_35 (cvC_at_g id p a b n gx gy inf bits size leg F t3) (cvC_len_g id p a b n) (by simp [KD,KJ])
theorem cvC_gt_bits (id:Nat) (p:Nat) (a:Nat) (b:Nat) (n:Nat) (gx gy:Nat) (inf:Bool) (bits:Nat) (size:Nat) (leg:Bool) (F:Value) (t3:Nat):(cvC id p a b n gx gy inf bits size leg F t3)[56]? = some (.int .i64 ((bits:Nat):Int)):=get_mid (cvC_at_bits id p a b n gx gy inf bits size leg F t3) (cvC_len_bits id p a b n gx gy inf)
theorem cvC_gt_size (id:Nat) (p:Nat) (a:Nat) (b:Nat) (n:Nat) (gx gy:Nat) (inf:Bool) (bits:Nat) (size:Nat) (leg:Bool) (F:Value) (t3:Nat):(cvC id p a b n gx gy inf bits size leg F t3)[57]? = some (.int .i64 ((size:Nat):Int)):=get_mid (cvC_at_size id p a b n gx gy inf bits size leg F t3) (cvC_len_size id p a b n gx gy inf bits)
theorem cvC_gt_F (id:Nat) (p:Nat) (a:Nat) (b:Nat) (n:Nat) (gx gy:Nat) (inf:Bool) (bits:Nat) (size:Nat) (leg:Bool) (F:Value) (t3:Nat):(cvC id p a b n gx gy inf bits size leg F t3)[59]? = some (F):=get_mid (cvC_at_F id p a b n gx gy inf bits size leg F t3) (cvC_len_F id p a b n gx gy inf bits size leg)
theorem cvC_ld_t3 (id:Nat) (p:Nat) (a:Nat) (b:Nat) (n:Nat) (gx gy:Nat) (inf:Bool) (bits:Nat) (size:Nat) (leg:Bool) (F:Value) (t3:Nat) (wr:Bool) (e:TypeId) (fz:Nat×Nat):LoadV Try.prog 33 ⟨wr,cvC id p a b n gx gy inf bits size leg F t3,e,fz⟩ 60 (.agg (natL t3).toArray):=LoadV.mid Try.underlying33 rfl sz_33 (cvC_at_t3 id p a b n gx gy inf bits size leg F t3) (cvC_len_t3 id p a b n gx gy inf bits size leg F) (by simp [KD,KJ])
def rowsB (V:Cv) (s0 s1 s2 s3 s4:ByteArray):Bool:=(if s0.data.toList = [45,51] then Nat.beq (V.a+3) V.p else hexB s0 V.a) && hexB s1 V.b && hexB s2 V.n && hexB s3 V.x && hexB s4 V.y
theorem rowsB_spec {V:Cv} {s0 s1 s2 s3 s4:ByteArray} (h:rowsB V s0 s1 s2 s3 s4 = true):((s0.data.toList = [45,51]∧V.a+3 = V.p)∨(s0.data.toList≠[45,51]∧hexB s0 V.a = true))∧hexB s1 V.b = true∧hexB s2 V.n = true∧hexB s3 V.x = true∧hexB s4 V.y = true:=by
  simp only [rowsB,Bool.and_eq_true] at h
  obtain ⟨⟨⟨⟨h1,h2⟩,h3⟩,h4⟩,h5⟩:=h
  refine ⟨?_,h2,h3,h4,h5⟩
  split at h1
  · exact .inl ⟨by assumption,Nat.eq_of_beq_eq_true h1⟩
  · exact .inr ⟨by assumption,h1⟩
theorem c_rows (id:Int) (w:World)  : Calls Try.prog 113 ([.int .i64 id]:List Value).toArray w (fun e w'=>(∃ V,cvI id = some V∧∃ v,(∃ s0 s1 s2 s3 s4,v = .agg [.string s0,.string s1,.string s2,.string s3,.string s4].toArray∧rowsB V s0 s1 s2 s3 s4 = true)∧e = .returned v∧Below w.heap.size w w')∨cvI id = none):=by
  refine Kf (N:=50) (rs:=[.cell 2 156]) [] Try.func113 rfl Try.ntmps113 Try.results113 (Nb rfl) trivial rfl ?_
  show LCode _ _ _ ⟨_,_⟩ _
  refine KB (KA ?_)
  refine oS (mk (KS zr_156) (fun b2=>?_))
  refine KC ?_
  refine KB ?_
  refine KB (KA ?_)
  refine oM ?_
  refine KC ?_
  refine LCode.block ?_
  refine KB (KA ?_)
  refine oP (KH (v:=.bool (decide (id = 1))) rfl rfl KAT) ?_
  refine oA ?_
  refine KC ?_
  first|refine KV rfl (fun hk1=>?_) (fun hk1=>?_)|refine KZ rfl (fun hk1=>?_) (fun hk1=>?_)
  ·
    refine KB (KA ?_)
    refine oP (Det.buildN (n:=5) pl_156 zr_156 rfl rfl rfl rfl rfl) ?_
    refine KU rfl (sA rfl rfl sz_156 (by repeat (first|exact KN|refine KL rfl ?_)) (hl:=by rfl) (h:=?_))
    refine KC (KO ?_)
    refine ⟨[_],.cons ⟨_,_,_,rfl,(by repeat (first|exact Mh _|apply Mt)),by exact KG Try.underlying156 rfl sz_156⟩ .nil,fun a w' hr=>?_⟩
    exact .inl ⟨cv1,by rw [hk1]; rfl,_,⟨_,_,_,_,_,rfl,by kernel_rfl⟩,rfl,hr.fr.below⟩
  ·
    refine KB (KA ?_)
    refine oP (KH (v:=.bool (decide (id = 2))) rfl rfl KAT) ?_
    refine oA ?_
    refine KC ?_
    first|refine KV rfl (fun hk2=>?_) (fun hk2=>?_)|refine KZ rfl (fun hk2=>?_) (fun hk2=>?_)
    ·
      refine KB (KA ?_)
      refine oP (Det.buildN (n:=5) pl_156 zr_156 rfl rfl rfl rfl rfl) ?_
      refine KU rfl (sA rfl rfl sz_156 (by repeat (first|exact KN|refine KL rfl ?_)) (hl:=by rfl) (h:=?_))
      refine KC (KO ?_)
      refine ⟨[_],.cons ⟨_,_,_,rfl,(by repeat (first|exact Mh _|apply Mt)),by exact KG Try.underlying156 rfl sz_156⟩ .nil,fun a w' hr=>?_⟩
      exact .inl ⟨cv2,by rw [hk2]; rfl,_,⟨_,_,_,_,_,rfl,by kernel_rfl⟩,rfl,hr.fr.below⟩
    ·
      refine KB (KA ?_)
      refine oP (KH (v:=.bool (decide (id = 3))) rfl rfl KAT) ?_
      refine oA ?_
      refine KC ?_
      first|refine KV rfl (fun hk3=>?_) (fun hk3=>?_)|refine KZ rfl (fun hk3=>?_) (fun hk3=>?_)
      ·
        refine KB (KA ?_)
        refine oP (Det.buildN (n:=5) pl_156 zr_156 rfl rfl rfl rfl rfl) ?_
        refine KU rfl (sA rfl rfl sz_156 (by repeat (first|exact KN|refine KL rfl ?_)) (hl:=by rfl) (h:=?_))
        refine KC (KO ?_)
        refine ⟨[_],.cons ⟨_,_,_,rfl,(by repeat (first|exact Mh _|apply Mt)),by exact KG Try.underlying156 rfl sz_156⟩ .nil,fun a w' hr=>?_⟩
        exact .inl ⟨cv3,by rw [hk3]; rfl,_,⟨_,_,_,_,_,rfl,by kernel_rfl⟩,rfl,hr.fr.below⟩
      ·
        refine KB (KA ?_)
        refine oP (KH (v:=.bool (decide (id = 4))) rfl rfl KAT) ?_
        refine oA ?_
        refine KC ?_
        first|refine KV rfl (fun hk4=>?_) (fun hk4=>?_)|refine KZ rfl (fun hk4=>?_) (fun hk4=>?_)
        ·
          refine KB (KA ?_)
          refine oP (Det.buildN (n:=5) pl_156 zr_156 rfl rfl rfl rfl rfl) ?_
          refine KU rfl (sA rfl rfl sz_156 (by repeat (first|exact KN|refine KL rfl ?_)) (hl:=by rfl) (h:=?_))
          refine KC (KO ?_)
          refine ⟨[_],.cons ⟨_,_,_,rfl,(by repeat (first|exact Mh _|apply Mt)),by exact KG Try.underlying156 rfl sz_156⟩ .nil,fun a w' hr=>?_⟩
          exact .inl ⟨cv4,by rw [hk4]; rfl,_,⟨_,_,_,_,_,rfl,by kernel_rfl⟩,rfl,hr.fr.below⟩
        ·
          refine KB (KA ?_)
          refine oP (KH (v:=.bool (decide (id = 5))) rfl rfl KAT) ?_
          refine oA ?_
          refine KC ?_
          first|refine KV rfl (fun hk5=>?_) (fun hk5=>?_)|refine KZ rfl (fun hk5=>?_) (fun hk5=>?_)
          ·
            refine KB (KA ?_)
            refine oP (Det.buildN (n:=5) pl_156 zr_156 rfl rfl rfl rfl rfl) ?_
            refine KU rfl (sA rfl rfl sz_156 (by repeat (first|exact KN|refine KL rfl ?_)) (hl:=by rfl) (h:=?_))
            refine KC (KO ?_)
            refine ⟨[_],.cons ⟨_,_,_,rfl,(by repeat (first|exact Mh _|apply Mt)),by exact KG Try.underlying156 rfl sz_156⟩ .nil,fun a w' hr=>?_⟩
            exact .inl ⟨cv5,by rw [hk5]; rfl,_,⟨_,_,_,_,_,rfl,by kernel_rfl⟩,rfl,hr.fr.below⟩
          ·
            refine KB (KA ?_)
            refine oP (KH (v:=.bool (decide (id = 6))) rfl rfl KAT) ?_
            refine oA ?_
            refine KC ?_
            first|refine KV rfl (fun hk6=>?_) (fun hk6=>?_)|refine KZ rfl (fun hk6=>?_) (fun hk6=>?_)
            ·
              refine KB (KA ?_)
              refine oP (Det.buildN (n:=5) pl_156 zr_156 rfl rfl rfl rfl rfl) ?_
              refine KU rfl (sA rfl rfl sz_156 (by repeat (first|exact KN|refine KL rfl ?_)) (hl:=by rfl) (h:=?_))
              refine KC (KO ?_)
              refine ⟨[_],.cons ⟨_,_,_,rfl,(by repeat (first|exact Mh _|apply Mt)),by exact KG Try.underlying156 rfl sz_156⟩ .nil,fun a w' hr=>?_⟩
              exact .inl ⟨cv6,by rw [hk6]; rfl,_,⟨_,_,_,_,_,rfl,by kernel_rfl⟩,rfl,hr.fr.below⟩
            ·
              refine KB (KA ?_)
              refine oP (KH (v:=.bool (decide (id = 7))) rfl rfl KAT) ?_
              refine oA ?_
              refine KC ?_
              first|refine KV rfl (fun hk7=>?_) (fun hk7=>?_)|refine KZ rfl (fun hk7=>?_) (fun hk7=>?_)
              ·
                refine KB (KA ?_)
                refine oP (Det.buildN (n:=5) pl_156 zr_156 rfl rfl rfl rfl rfl) ?_
                refine KU rfl (sA rfl rfl sz_156 (by repeat (first|exact KN|refine KL rfl ?_)) (hl:=by rfl) (h:=?_))
                refine KC (KO ?_)
                refine ⟨[_],.cons ⟨_,_,_,rfl,(by repeat (first|exact Mh _|apply Mt)),by exact KG Try.underlying156 rfl sz_156⟩ .nil,fun a w' hr=>?_⟩
                exact .inl ⟨cv7,by rw [hk7]; rfl,_,⟨_,_,_,_,_,rfl,by kernel_rfl⟩,rfl,hr.fr.below⟩
              ·
                refine KB (KA ?_)
                refine oP (KH (v:=.bool (decide (id = 8))) rfl rfl KAT) ?_
                refine oA ?_
                refine KC ?_
                first|refine KV rfl (fun hk8=>?_) (fun hk8=>?_)|refine KZ rfl (fun hk8=>?_) (fun hk8=>?_)
                ·
                  refine KB (KA ?_)
                  refine oP (Det.buildN (n:=5) pl_156 zr_156 rfl rfl rfl rfl rfl) ?_
                  refine KU rfl (sA rfl rfl sz_156 (by repeat (first|exact KN|refine KL rfl ?_)) (hl:=by rfl) (h:=?_))
                  refine KC (KO ?_)
                  refine ⟨[_],.cons ⟨_,_,_,rfl,(by repeat (first|exact Mh _|apply Mt)),by exact KG Try.underlying156 rfl sz_156⟩ .nil,fun a w' hr=>?_⟩
                  exact .inl ⟨cv8,by rw [hk8]; rfl,_,⟨_,_,_,_,_,rfl,by kernel_rfl⟩,rfl,hr.fr.below⟩
                ·
                  refine KB (KA ?_)
                  refine oP (KH (v:=.bool (decide (id = 9))) rfl rfl KAT) ?_
                  refine oA ?_
                  refine KC ?_
                  first|refine KV rfl (fun hk9=>?_) (fun hk9=>?_)|refine KZ rfl (fun hk9=>?_) (fun hk9=>?_)
                  ·
                    refine KB (KA ?_)
                    refine oP (Det.buildN (n:=5) pl_156 zr_156 rfl rfl rfl rfl rfl) ?_
                    refine KU rfl (sA rfl rfl sz_156 (by repeat (first|exact KN|refine KL rfl ?_)) (hl:=by rfl) (h:=?_))
                    refine KC (KO ?_)
                    refine ⟨[_],.cons ⟨_,_,_,rfl,(by repeat (first|exact Mh _|apply Mt)),by exact KG Try.underlying156 rfl sz_156⟩ .nil,fun a w' hr=>?_⟩
                    exact .inl ⟨cv9,by rw [hk9]; rfl,_,⟨_,_,_,_,_,rfl,by kernel_rfl⟩,rfl,hr.fr.below⟩
                  ·
                    refine KB (KA ?_)
                    refine oP (KH (v:=.bool (decide (id = 10))) rfl rfl KAT) ?_
                    refine oA ?_
                    refine KC ?_
                    first|refine KV rfl (fun hk10=>?_) (fun hk10=>?_)|refine KZ rfl (fun hk10=>?_) (fun hk10=>?_)
                    ·
                      refine KB (KA ?_)
                      refine oP (Det.buildN (n:=5) pl_156 zr_156 rfl rfl rfl rfl rfl) ?_
                      refine KU rfl (sA rfl rfl sz_156 (by repeat (first|exact KN|refine KL rfl ?_)) (hl:=by rfl) (h:=?_))
                      refine KC (KO ?_)
                      refine ⟨[_],.cons ⟨_,_,_,rfl,(by repeat (first|exact Mh _|apply Mt)),by exact KG Try.underlying156 rfl sz_156⟩ .nil,fun a w' hr=>?_⟩
                      exact .inl ⟨cv10,by rw [hk10]; rfl,_,⟨_,_,_,_,_,rfl,by kernel_rfl⟩,rfl,hr.fr.below⟩
                    ·
                      refine KB (KA ?_)
                      refine oP (KH (v:=.bool (decide (id = 11))) rfl rfl KAT) ?_
                      refine oA ?_
                      refine KC ?_
                      first|refine KV rfl (fun hk11=>?_) (fun hk11=>?_)|refine KZ rfl (fun hk11=>?_) (fun hk11=>?_)
                      ·
                        refine KB (KA ?_)
                        refine oP (Det.buildN (n:=5) pl_156 zr_156 rfl rfl rfl rfl rfl) ?_
                        refine KU rfl (sA rfl rfl sz_156 (by repeat (first|exact KN|refine KL rfl ?_)) (hl:=by rfl) (h:=?_))
                        refine KC (KO ?_)
                        refine ⟨[_],.cons ⟨_,_,_,rfl,(by repeat (first|exact Mh _|apply Mt)),by exact KG Try.underlying156 rfl sz_156⟩ .nil,fun a w' hr=>?_⟩
                        exact .inl ⟨cv11,by rw [hk11]; rfl,_,⟨_,_,_,_,_,rfl,by kernel_rfl⟩,rfl,hr.fr.below⟩
                      ·
                        refine KB (KA ?_)
                        refine oP (KH (v:=.bool (decide (id = 12))) rfl rfl KAT) ?_
                        refine oA ?_
                        refine KC ?_
                        first|refine KV rfl (fun hk12=>?_) (fun hk12=>?_)|refine KZ rfl (fun hk12=>?_) (fun hk12=>?_)
                        ·
                          refine KB (KA ?_)
                          refine oP (Det.buildN (n:=5) pl_156 zr_156 rfl rfl rfl rfl rfl) ?_
                          refine KU rfl (sA rfl rfl sz_156 (by repeat (first|exact KN|refine KL rfl ?_)) (hl:=by rfl) (h:=?_))
                          refine KC (KO ?_)
                          refine ⟨[_],.cons ⟨_,_,_,rfl,(by repeat (first|exact Mh _|apply Mt)),by exact KG Try.underlying156 rfl sz_156⟩ .nil,fun a w' hr=>?_⟩
                          exact .inl ⟨cv12,by rw [hk12]; rfl,_,⟨_,_,_,_,_,rfl,by kernel_rfl⟩,rfl,hr.fr.below⟩
                        ·
                          refine KB (KA ?_)
                          refine oP (KH (v:=.bool (decide (id = 13))) rfl rfl KAT) ?_
                          refine oA ?_
                          refine KC ?_
                          first|refine KV rfl (fun hk13=>?_) (fun hk13=>?_)|refine KZ rfl (fun hk13=>?_) (fun hk13=>?_)
                          ·
                            refine KB (KA ?_)
                            refine oP (Det.buildN (n:=5) pl_156 zr_156 rfl rfl rfl rfl rfl) ?_
                            refine KU rfl (sA rfl rfl sz_156 (by repeat (first|exact KN|refine KL rfl ?_)) (hl:=by rfl) (h:=?_))
                            refine KC (KO ?_)
                            refine ⟨[_],.cons ⟨_,_,_,rfl,(by repeat (first|exact Mh _|apply Mt)),by exact KG Try.underlying156 rfl sz_156⟩ .nil,fun a w' hr=>?_⟩
                            exact .inl ⟨cv13,by rw [hk13]; rfl,_,⟨_,_,_,_,_,rfl,by kernel_rfl⟩,rfl,hr.fr.below⟩
                          ·
                            refine KB (KA ?_)
                            refine oP (KH (v:=.bool (decide (id = 14))) rfl rfl KAT) ?_
                            refine oA ?_
                            refine KC ?_
                            first|refine KV rfl (fun hk14=>?_) (fun hk14=>?_)|refine KZ rfl (fun hk14=>?_) (fun hk14=>?_)
                            ·
                              refine KB (KA ?_)
                              refine oP (Det.buildN (n:=5) pl_156 zr_156 rfl rfl rfl rfl rfl) ?_
                              refine KU rfl (sA rfl rfl sz_156 (by repeat (first|exact KN|refine KL rfl ?_)) (hl:=by rfl) (h:=?_))
                              refine KC (KO ?_)
                              refine ⟨[_],.cons ⟨_,_,_,rfl,(by repeat (first|exact Mh _|apply Mt)),by exact KG Try.underlying156 rfl sz_156⟩ .nil,fun a w' hr=>?_⟩
                              exact .inl ⟨cv14,by rw [hk14]; rfl,_,⟨_,_,_,_,_,rfl,by kernel_rfl⟩,rfl,hr.fr.below⟩
                            ·
                              refine KB (KA ?_)
                              refine oP (KH (v:=.bool (decide (id = 15))) rfl rfl KAT) ?_
                              refine oA ?_
                              refine KC ?_
                              first|refine KV rfl (fun hk15=>?_) (fun hk15=>?_)|refine KZ rfl (fun hk15=>?_) (fun hk15=>?_)
                              ·
                                refine KB (KA ?_)
                                refine oP (Det.buildN (n:=5) pl_156 zr_156 rfl rfl rfl rfl rfl) ?_
                                refine KU rfl (sA rfl rfl sz_156 (by repeat (first|exact KN|refine KL rfl ?_)) (hl:=by rfl) (h:=?_))
                                refine KC (KO ?_)
                                refine ⟨[_],.cons ⟨_,_,_,rfl,(by repeat (first|exact Mh _|apply Mt)),by exact KG Try.underlying156 rfl sz_156⟩ .nil,fun a w' hr=>?_⟩
                                exact .inl ⟨cv15,by rw [hk15]; rfl,_,⟨_,_,_,_,_,rfl,by kernel_rfl⟩,rfl,hr.fr.below⟩
                              ·
                                refine KR ?_
                                refine KB (KA ?_)
                                refine oP (KK (Kw pl_156 zr_156 rfl rfl) (show _ = Value.agg [.string ⟨#[]⟩,.string ⟨#[]⟩,.string ⟨#[]⟩,.string ⟨#[]⟩,.string ⟨#[]⟩].toArray from rfl)) ?_
                                refine KU rfl (sA rfl rfl sz_156 (by repeat (first|exact KN|refine KL rfl ?_)) (hl:=by rfl) (h:=?_))
                                refine KC (KO ?_)
                                refine ⟨[_],.cons ⟨_,_,_,rfl,(by repeat (first|exact Mh _|apply Mt)),by exact KG Try.underlying156 rfl sz_156⟩ .nil,fun a w' hr=>?_⟩
                                exact .inr (cvI_none hk1 hk2 hk3 hk4 hk5 hk6 hk7 hk8 hk9 hk10 hk11 hk12 hk13 hk14 hk15)
theorem c_rows_some (id:Int) (V:Cv) (w:World) (h:cvI id = some V):Calls Try.prog 113 ([.int .i64 id]:List Value).toArray w (fun e w'=>∃ v,(∃ s0 s1 s2 s3 s4,v = .agg [.string s0,.string s1,.string s2,.string s3,.string s4].toArray∧rowsB V s0 s1 s2 s3 s4 = true)∧e = .returned v∧Below w.heap.size w w') :=
  (c_rows id w).mono fun e w' h'=>by
    rcases h' with ⟨V',hV,h1⟩|h1
    · rw [h] at hV; cases hV; exact h1
    · rw [h] at h1; cases h1
end Go.Proofs.Ytlmiolnccgjjjaa
set_option linter.unusedVariables false
set_option linter.unusedSimpArgs false
set_option maxRecDepth 20000
namespace Go.Proofs.Ytlmiolnccgjjjaa
open Go Go.RowKit
theorem KAe {A:Nat} (h:A<W9):blen A≤576:=by
  obtain ⟨k,hk⟩:∃ k:Nat,k = 9:=⟨9,rfl⟩
  have:=blen_le (lt_w9_pow h k hk)
  omega
def legB (V:Cv):Bool:=decide (V.id = 1∨V.id = 7)
def thr (V:Cv):Nat:=((V.b+V.b)%V.p+V.b)%V.p
def opL (V:Cv) (f:Nat):List Value:=cvC V.id V.p V.a V.b V.n V.x V.y false (blen V.n) (nby V.p) (legB V) (.pointer (some ⟨f,0,none⟩)) (thr V)
theorem fill_pt (X Y:Nat):fillL [(0,9),(9,9),(18,1)] (vec .u64 9 (fun _=>0)++(vec .u64 9 (fun _=>0)++[Value.bool false])) [(0,natV X),(1,natV Y)] = some (ptL X Y false):=by
  refine KAX (A:=[]) (B:=vec .u64 9 (fun _=>0)) (D:=vec .u64 9 (fun _=>0)++[Value.bool false]) (cs:=natL X) rfl rfl (KD _) rfl rfl (KF _ _ _) ?_
  refine (KAX (A:=natL X) (B:=vec .u64 9 (fun _=>0)) (D:=[Value.bool false]) (cs:=natL Y) rfl rfl (KD _) (by simp) (KD _) (KF _ _ _) rfl).trans ?_
  simp [ptL]
theorem c_Open_none (id:Int) (w:World) (h:cvI id = none):Calls Try.prog 80 ([.int .i64 id]:List Value).toArray w (fun e w'=>e = .returned (.pointer none)∧Below w.heap.size w w'):=by
  refine Kf (N:=130) (rs:=[.tmp 2]) [] Try.func80 rfl Try.ntmps80 Try.results80 (Nb rfl) trivial rfl ?_
  show LCode _ _ _ ⟨_,_⟩ _
  refine KB (KA ?_)
  refine oA ?_
  refine KC ?_
  refine KB (KA ?_)
  refine oM ?_
  refine oS (cF rfl en_112 rfl (fun w hw=>c_f_Of_none id w h) ?_)
  refine oA ?_
  refine KC ?_
  refine KB ?_
  refine KB (KA ?_)
  refine oM ?_
  refine oP (KK (Det.eqp Try.underlying127 rfl rfl) (show _ = Value.bool true from rfl)) ?_
  refine KC ?_
  refine Ke rfl ?_
  refine KB (KA ?_)
  refine oA ?_
  refine KC (KO ?_)
  refine ⟨[_],.cons rfl .nil,fun a w' hr=>⟨?_,hr.fr.below⟩⟩
  rfl
theorem c_Open (id:Int) (V:Cv) (w:World) (h:cvI id = some V):Calls Try.prog 80 ([.int .i64 id]:List Value).toArray w (fun e w'=>∃ b f bd,e = .returned (.pointer (some ⟨b,0,none⟩))∧(Item.blk b ⟨false,opL V f,129,(0,0)⟩).holds w'∧(Item.blk f ⟨false,fldL V.p bd,162,(0,0)⟩).holds w'∧(Item.blk bd ⟨false,dvL V.p,212,(0,0)⟩).holds w'∧w.heap.size≤b∧w.heap.size≤f∧w.heap.size≤bd∧Below w.heap.size w w'):=by
  obtain ⟨hok,rfl⟩:=cvI_ok h
  refine Kf (N:=130) (rs:=[.tmp 2]) [] Try.func80 rfl Try.ntmps80 Try.results80 (Nb rfl) trivial rfl ?_
  show LCode _ _ _ ⟨_,_⟩ _
  refine KB (KA ?_)
  refine oA ?_
  refine KC ?_
  refine KB (KA ?_)
  refine oM ?_
  refine oS (KAK (Post:=fun v its=>∃ f bd,v = .pointer (some ⟨f,0,none⟩)∧its = [.blk f ⟨false,fldL V.p bd,162,(0,0)⟩,.blk bd ⟨false,dvL V.p,212,(0,0)⟩]∧w.heap.size≤f∧w.heap.size≤bd) (first:=[]) rfl en_112 rfl (Nb rfl) (fun w1 hw hs=>(c_f_Of _ V w1 h).mono fun e w' ⟨f,bd,h1,h2,h3,h4,h5,h6⟩=>⟨_,_,⟨f,bd,rfl,rfl,Nat.le_trans hs h4,Nat.le_trans hs h5⟩,h1,KAN h6 (by intro x hx; simp at hx; rcases hx with rfl|rfl; exact h2; exact h3) (by intro x hx; simp at hx; rcases hx with rfl|rfl <;> rfl) (by intro x hx k hk; simp at hx; rcases hx with rfl|rfl <;> simp [Item.fp] at hk <;> subst hk; exact .inl h4; exact .inl h5)⟩) ?_)
  rintro _ _ ⟨f,bd,rfl,rfl,hnf,hnbd⟩
  refine oA ?_
  refine KC ?_
  refine KB ?_
  refine KB (KA ?_)
  refine oM ?_
  refine oP (KK (Det.eqp Try.underlying127 rfl rfl) (show _ = Value.bool false from rfl)) ?_
  refine KC ?_
  refine KQ rfl ?_
  refine KR ?_
  refine KB ?_
  have hbb:=hok.bounds
  have hpW:V.p<W9:=KAF hbb.2.1
  have hnW:V.n<W9:=KAF hbb.2.2.2.2.2.2.1
  have hbln:=KAe hnW
  have hblp:=KAe hpW
  refine KA ?_
  refine oM ?_
  refine oS (LStep.callV (first:=[]) rfl en_113 rfl (Nb rfl) (fun w hw=>c_rows_some _ V w h) ?_)
  rintro _ ⟨s0,s1,s2,s3,s4,rfl,hrow⟩
  obtain ⟨hA,hB,hN,hX,hY⟩:=rowsB_spec hrow
  clear hrow
  refine oS (mk (KS zr_156) (fun b4=>?_))
  refine KU rfl (sA rfl rfl sz_156 (by repeat (first|exact KN|refine KL rfl ?_)) (hl:=by rfl) (h:=?_))
  refine KC ?_
  refine KB (KA ?_)
  refine oM ?_
  refine oP (KK (Kw pl_129 zr_129 rfl (fillF (.pointer (some ⟨f,0,none⟩)) rfl)) rfl) ?_
  refine oS (mB (fun b14=>?_))
  refine oA ?_
  refine KC ?_
  refine LCode.cut (α:=Unit) (fun _=>True) (fun _=>⟨[(0,.int .i64 ((V.id:Nat):Int)),(3,.pointer (some ⟨f,0,none⟩)),(4,.pointer (some ⟨b4,0,none⟩)),(5,.pointer (some ⟨b14,0,none⟩))],[.blk b14 ⟨true,cvC V.id V.p 0 V.b V.n 0 0 false 0 0 false (.pointer (some ⟨f,0,none⟩)) 0,129,(0,0)⟩,.blk b4 ⟨true,[.string s0,.string s1,.string s2,.string s3,.string s4],156,(0,0)⟩,.blk f ⟨false,fldL V.p bd,162,(0,0)⟩,.blk bd ⟨false,dvL V.p,212,(0,0)⟩]⟩) ?_ ?_
  ·
    refine rD [18,22,26,30] ?_
    refine aM 0 ?_
    refine aM 1 ?_
    refine aM 2 ?_
    refine aM 3 ?_
    refine aM 4 ?_
    refine aM 5 ?_
    refine aP 6 rfl (KP rfl) ?_
    refine aP 7 rfl (KI (o':=0) Try.underlying162 rfl rfl rfl sz_33 (by decide)) ?_
    refine aD 8 rfl (dL rfl (hv:=by exact KAC Try.underlying33 rfl sz_33 rfl (KD _))) ?_
    refine aP 9 rfl (KI (o':=1) Try.underlying156 rfl rfl rfl sz_9 (by decide)) ?_
    refine aP 12 rfl (KI (o':=2) Try.underlying156 rfl rfl rfl sz_9 (by decide)) ?_
    refine KAb [11,14,15,16,17,18,19,20,21,22,23,24,25,26,27,28,29,30] 10 rfl (by kernel_rfl) (Nb rfl) (dL rfl (hv:=KW Try.underlying9 rfl (by first|rfl|exact Kr _ _ _ (by omega)|exact Kt _ (by omega)|exact Kz _ (by omega)|exact dv_m _ _ _ (by omega)))) ?_
    refine KAb [14,15,16,17,18,19,20,21,22,23,24,25,26,27,28,29,30] 13 rfl (by kernel_rfl) (Nb rfl) (dL rfl (hv:=KW Try.underlying9 rfl (by first|rfl|exact Kr _ _ _ (by omega)|exact Kt _ (by omega)|exact Kz _ (by omega)|exact dv_m _ _ _ (by omega)))) ?_
    refine aO 11 rfl (cF rfl en_114 rfl (fun w hw=>fhex s1 V.b w hB) ?_)
    refine aO 14 rfl (cF rfl en_114 rfl (fun w hw=>fhex s2 V.n w hN) ?_)
    refine aP 15 rfl (KP rfl) ?_
    refine aP 16 rfl (KI (o':=0) Try.underlying129 rfl rfl rfl KAS (by decide)) ?_
    refine aP 17 rfl (KI (o':=0) Try.underlying126 rfl rfl rfl sz_3 (by decide)) ?_
    refine aL 18 rfl (KAA rfl rfl rfl sz_3 (by first|exact KD _|exact KJ _ _ _|rfl) (by first|exact KY _|exact Kb _ _ _|exact KL rfl KN) (by repeat (first|exact Sh _|apply St_)) (by simp only [KAV]; decide) (cvC_set_id _ _ _ _ _ _ _ _ _ _ _ _ _ _) (by simp) ?_)
    refine aP 19 rfl (KP rfl) ?_
    refine aP 20 rfl (KI (o':=0) Try.underlying129 rfl rfl rfl KAS (by decide)) ?_
    refine aP 21 rfl (KI (o':=1) Try.underlying126 rfl rfl rfl sz_33 (by decide)) ?_
    refine aL 22 rfl (KAA rfl rfl rfl sz_33 (by first|exact KD _|exact KJ _ _ _|rfl) (by first|exact KY _|exact Kb _ _ _|exact KL rfl KN) (by repeat (first|exact Sh _|apply St_)) (by simp only [KAV]; decide) (cvC_set_p _ _ _ _ _ _ _ _ _ _ _ _ _ _) (by simp) ?_)
    refine aP 23 rfl (KP rfl) ?_
    refine aP 24 rfl (KI (o':=0) Try.underlying129 rfl rfl rfl KAS (by decide)) ?_
    refine aP 25 rfl (KI (o':=19) Try.underlying126 rfl rfl rfl sz_33 (by decide)) ?_
    refine aL 26 rfl (KAA rfl rfl rfl sz_33 (by first|exact KD _|exact KJ _ _ _|rfl) (by first|exact KY _|exact Kb _ _ _|exact KL rfl KN) (by repeat (first|exact Sh _|apply St_)) (by simp only [KAV]; decide) (cvC_set_b _ _ _ _ _ _ _ _ _ _ _ _ _ _) (by simp) ?_)
    refine aP 27 rfl (KP rfl) ?_
    refine aP 28 rfl (KI (o':=0) Try.underlying129 rfl rfl rfl KAS (by decide)) ?_
    refine aP 29 rfl (KI (o':=28) Try.underlying126 rfl rfl rfl sz_33 (by decide)) ?_
    refine aL 30 rfl (KAA rfl rfl rfl sz_33 (by first|exact KD _|exact KJ _ _ _|rfl) (by first|exact KY _|exact Kb _ _ _|exact KL rfl KN) (by repeat (first|exact Sh _|apply St_)) (by simp only [KAV]; decide) (cvC_set_n _ _ _ _ _ _ _ _ _ _ _ _ _ _) (by simp) ?_)
    refine aE ?_
    exact ⟨(),trivial,Kj ⟨rfl,rfl,rfl,rfl,trivial⟩ (by repeat (first|exact Sel.nil _|refine Sel.cons (by repeat (first|exact Ph _|apply Pt_)) ?_))⟩
  ·
    rintro _ _
    refine KB ?_
    refine KB ?_
    rcases hA with ⟨hA0,hVa⟩|⟨hA0,hA1⟩
    ·
      refine KA ?_
      refine oP (KI (o':=0) Try.underlying156 rfl rfl rfl sz_9 (by decide)) ?_
      refine oD (dL rfl (hv:=KW Try.underlying9 rfl (by first|rfl|exact Kr _ _ _ (by omega)|exact Kt _ (by omega)|exact Kz _ (by omega)|exact dv_m _ _ _ (by omega)))) ?_
      refine oP (KK (Det.eqs rfl rfl) (congrArg Value.bool (eq_str_t hA0))) ?_
      refine KC ?_
      refine Ke rfl ?_
      refine rD [13] ?_
      refine aM 0 ?_
      refine aM 1 ?_
      refine aP 2 rfl (KP rfl) ?_
      refine aP 3 rfl (KI (o':=0) Try.underlying162 rfl rfl rfl sz_33 (by decide)) ?_
      refine aD 4 rfl (dL rfl (hv:=by exact KAC Try.underlying33 rfl sz_33 rfl (KD _))) ?_
      refine aO 5 rfl (cF rfl en_116 rfl (fun w hw=>c_nat_Small 3 (by decide) w) ?_)
      refine aO 6 rfl (cF rfl en_115 rfl (fun w hw=>c_nat_SubS V.p 3 w (by omega) (by omega)) ?_)
      refine aM 7 ?_
      refine aP 8 rfl (Det.extract rfl rfl) ?_
      refine aP 9 rfl (Det.extract rfl rfl) ?_
      refine aP 10 rfl (KP rfl) ?_
      refine aP 11 rfl (KI (o':=0) Try.underlying129 rfl rfl rfl KAS (by decide)) ?_
      refine aP 12 rfl (KI (o':=10) Try.underlying126 rfl rfl rfl sz_33 (by decide)) ?_
      refine aL 13 rfl (KAA rfl rfl rfl sz_33 (by first|exact KD _|exact KJ _ _ _|rfl) (by first|exact KY _|exact Kb _ _ _|exact KL rfl KN) (by repeat (first|exact Sh _|apply St_)) (by simp only [KAV]; decide) (cvC_set_a _ _ _ _ _ _ _ _ _ _ _ _ _ _) (by simp) ?_)
      refine aE ?_
      refine KB ?_
      refine rD [11] ?_
      refine aM 0 ?_
      refine aP 1 rfl (KI (o':=3) Try.underlying156 rfl rfl rfl sz_9 (by decide)) ?_
      refine aD 2 rfl (dL rfl (hv:=KW Try.underlying9 rfl (by first|rfl|exact Kr _ _ _ (by omega)|exact Kt _ (by omega)|exact Kz _ (by omega)|exact dv_m _ _ _ (by omega)))) ?_
      refine aP 4 rfl (KI (o':=4) Try.underlying156 rfl rfl rfl sz_9 (by decide)) ?_
      refine aD 5 rfl (dL rfl (hv:=KW Try.underlying9 rfl (by first|rfl|exact Kr _ _ _ (by omega)|exact Kt _ (by omega)|exact Kz _ (by omega)|exact dv_m _ _ _ (by omega)))) ?_
      refine aO 3 rfl (cF rfl en_114 rfl (fun w hw=>fhex s3 V.x w hX) ?_)
      refine aO 6 rfl (cF rfl en_114 rfl (fun w hw=>fhex s4 V.y w hY) ?_)
      refine aP 7 rfl (KK (Kw pl_35 zr_35 rfl (fill_pt _ _)) rfl) ?_
      refine aP 8 rfl (KP rfl) ?_
      refine aP 9 rfl (KI (o':=0) Try.underlying129 rfl rfl rfl KAS (by decide)) ?_
      refine aP 10 rfl (KI (o':=37) Try.underlying126 rfl rfl rfl sz_35 (by decide)) ?_
      refine aL 11 rfl (KAA rfl rfl rfl sz_35 (by first|exact KD _|exact KJ _ _ _|rfl) (by first|exact KY _|exact Kb _ _ _|exact KL rfl KN) (by repeat (first|exact Sh _|apply St_)) (by simp only [KAV]; decide) (cvC_set_g _ _ _ _ _ _ _ _ _ _ _ _ _ _ _ _) (by simp) ?_)
      refine aE ?_
      refine KB ?_
      refine rD [18,22] ?_
      refine aM 0 ?_
      refine aM 1 ?_
      refine aM 2 ?_
      refine aP 3 rfl (KP rfl) ?_
      refine aP 4 rfl (KI (o':=0) Try.underlying129 rfl rfl rfl KAS (by decide)) ?_
      refine aP 5 rfl (KI (o':=28) Try.underlying126 rfl rfl rfl sz_33 (by decide)) ?_
      refine aD 6 rfl (dL rfl (hv:=by exact cvC_ld_n _ _ _ _ _ _ _ _ _ _ _ _ _ _ _ _)) ?_
      refine aM 8 ?_
      refine aP 9 rfl (KP rfl) ?_
      refine aP 10 rfl (KI (o':=0) Try.underlying162 rfl rfl rfl sz_33 (by decide)) ?_
      refine aD 11 rfl (dL rfl (hv:=by exact KAC Try.underlying33 rfl sz_33 rfl (KD _))) ?_
      refine aO 7 rfl (cF rfl en_117 rfl (fun w hw=>c_nat_Bits V.n hnW w) ?_)
      refine aO 12 rfl (cF rfl en_117 rfl (fun w hw=>c_nat_Bits V.p hpW w) ?_)
      refine aP 13 rfl (KH rfl rfl (Kv (b:=7) (by omega))) ?_
      refine aP 14 rfl (KH rfl rfl (br_quo (b:=8) (by omega) (by omega))) ?_
      refine aP 15 rfl (KP rfl) ?_
      refine aP 16 rfl (KI (o':=0) Try.underlying129 rfl rfl rfl KAS (by decide)) ?_
      refine aP 17 rfl (KI (o':=56) Try.underlying126 rfl rfl rfl sz_3 (by decide)) ?_
      refine aL 18 rfl (KAA rfl rfl rfl sz_3 (by first|exact KD _|exact KJ _ _ _|rfl) (by first|exact KY _|exact Kb _ _ _|exact KL rfl KN) (by repeat (first|exact Sh _|apply St_)) (by simp only [KAV]; decide) (cvC_set_bits _ _ _ _ _ _ _ _ _ _ _ _ _ _) (by simp) ?_)
      refine aP 19 rfl (KP rfl) ?_
      refine aP 20 rfl (KI (o':=0) Try.underlying129 rfl rfl rfl KAS (by decide)) ?_
      refine aP 21 rfl (KI (o':=57) Try.underlying126 rfl rfl rfl sz_3 (by decide)) ?_
      refine aL 22 rfl (KAA rfl rfl rfl sz_3 (by first|exact KD _|exact KJ _ _ _|rfl) (by first|exact KY _|exact Kb _ _ _|exact KL rfl KN) (by repeat (first|exact Sh _|apply St_)) (by simp only [KAV]; decide) (cvC_set_size _ _ _ _ _ _ _ _ _ _ _ _ _ _) (by simp) ?_)
      refine aE ?_
      refine KB ?_
      by_cases hi1:((V.id:Nat):Int) = 1
      ·
        refine KA ?_
        refine oM ?_
        refine oM ?_
        refine oP (KH (v:=.bool true) rfl rfl (br_t KAT hi1)) ?_
        refine oM ?_
        refine oK ?_
        refine oK ?_
        refine oP (Kn rfl rfl) ?_
        refine oP (KP rfl) ?_
        refine oP (KI (o':=0) Try.underlying129 rfl rfl rfl KAS (by decide)) ?_
        refine oP (KI (o':=58) Try.underlying126 rfl rfl rfl sz_4 (by decide)) ?_
        refine KU rfl (KAA rfl rfl rfl sz_4 (by first|exact KD _|exact KJ _ _ _|rfl) (by first|exact KY _|exact Kb _ _ _|exact KL rfl KN) (by repeat (first|exact Sh _|apply St_)) (by simp only [KAV]; decide) (cvC_set_leg _ _ _ _ _ _ _ _ _ _ _ _ _ _) (by simp) ?_)
        refine KC ?_
        refine KB ?_
        refine rD [22] ?_
        refine aM 0 ?_
        refine aM 1 ?_
        refine aM 2 ?_
        refine aM 3 ?_
        refine aP 4 rfl (KP rfl) ?_
        refine aP 5 rfl (KI (o':=0) Try.underlying129 rfl rfl rfl KAS (by decide)) ?_
        refine aP 6 rfl (KI (o':=19) Try.underlying126 rfl rfl rfl sz_33 (by decide)) ?_
        refine aD 7 rfl (dL rfl (hv:=by exact cvC_ld_b _ _ _ _ _ _ _ _ _ _ _ _ _ _ _ _)) ?_
        refine aM 8 ?_
        refine aP 9 rfl (KP rfl) ?_
        refine aP 10 rfl (KI (o':=0) Try.underlying129 rfl rfl rfl KAS (by decide)) ?_
        refine aP 11 rfl (KI (o':=19) Try.underlying126 rfl rfl rfl sz_33 (by decide)) ?_
        refine aD 12 rfl (dL rfl (hv:=by exact cvC_ld_b _ _ _ _ _ _ _ _ _ _ _ _ _ _ _ _)) ?_
        refine aM 14 ?_
        refine aP 15 rfl (KP rfl) ?_
        refine aP 16 rfl (KI (o':=0) Try.underlying129 rfl rfl rfl KAS (by decide)) ?_
        refine aP 17 rfl (KI (o':=19) Try.underlying126 rfl rfl rfl sz_33 (by decide)) ?_
        refine aD 18 rfl (dL rfl (hv:=by exact cvC_ld_b _ _ _ _ _ _ _ _ _ _ _ _ _ _ _ _)) ?_
        refine aO 13 rfl (cF rfl en_118 rfl (fun w hw=>c_f_Add V f bd V.b V.b w (mC hw) hbb.2.1 (by omega) (by omega)) ?_)
        refine aO 19 rfl (cF rfl en_118 rfl (fun w hw=>c_f_Add V f bd ((V.b+V.b)%V.p) V.b w (mC hw) hbb.2.1 (Nat.mod_lt _ (by omega)) (by omega)) ?_)
        refine aP 20 rfl (KP rfl) ?_
        refine aP 21 rfl (KI (o':=60) Try.underlying129 rfl rfl rfl sz_33 (by decide)) ?_
        refine aL 22 rfl (KAA rfl rfl rfl sz_33 (by first|exact KD _|exact KJ _ _ _|rfl) (by first|exact KY _|exact Kb _ _ _|exact KL rfl KN) (by repeat (first|exact Sh _|apply St_)) (by simp only [KAV]; decide) (cvC_set_t3 _ _ _ _ _ _ _ _ _ _ _ _ _ _) (by simp) ?_)
        refine aE ?_
        refine KB (KA ?_)
        refine oM ?_
        refine oA ?_
        refine KC (KO ?_)
        refine ⟨[_],.cons rfl .nil,fun a w' hr=>⟨b14,f,bd,rfl,?_,hr.hp _ (by repeat (first|exact Mh _|apply Mt)),hr.hp _ (by repeat (first|exact Mh _|apply Mt)),hr.new (B:=⟨true,_,_,_⟩) (by repeat (first|exact Mh _|apply Mt)) rfl,hnf,hnbd,hr.fr.below⟩⟩
        have hcv:=hr.hp _ (show Item.blk b14 ⟨true,cvC V.id V.p (V.p-3) V.b V.n V.x V.y false (blen V.n) (nby V.p) true (.pointer (some ⟨f,0,none⟩)) (thr V),129,(0,0)⟩∈_ from (by repeat (first|exact Mh _|apply Mt)))
        have hl:legB V = true:=by unfold legB; exact decide_eq_true (by omega)
        have ha:V.a = V.p-3:=by omega
        rw [← ha] at hcv
        unfold opL
        rw [hl]
        exact hcv
      ·
        refine KA ?_
        refine oM ?_
        refine oM ?_
        refine oP (KH (v:=.bool false) rfl rfl (br_f KAT hi1)) ?_
        refine oM ?_
        refine oGM ?_
        refine oGP (KH (v:=.bool (decide (((V.id:Nat):Int) = 7))) rfl rfl KAT) ?_
        refine oP (Ki rfl rfl) ?_
        refine oP (KP rfl) ?_
        refine oP (KI (o':=0) Try.underlying129 rfl rfl rfl KAS (by decide)) ?_
        refine oP (KI (o':=58) Try.underlying126 rfl rfl rfl sz_4 (by decide)) ?_
        refine KU rfl (KAA rfl rfl rfl sz_4 (by first|exact KD _|exact KJ _ _ _|rfl) (by first|exact KY _|exact Kb _ _ _|exact KL rfl KN) (by repeat (first|exact Sh _|apply St_)) (by simp only [KAV]; decide) (cvC_set_leg _ _ _ _ _ _ _ _ _ _ _ _ _ _) (by simp) ?_)
        refine KC ?_
        refine KB ?_
        refine rD [22] ?_
        refine aM 0 ?_
        refine aM 1 ?_
        refine aM 2 ?_
        refine aM 3 ?_
        refine aP 4 rfl (KP rfl) ?_
        refine aP 5 rfl (KI (o':=0) Try.underlying129 rfl rfl rfl KAS (by decide)) ?_
        refine aP 6 rfl (KI (o':=19) Try.underlying126 rfl rfl rfl sz_33 (by decide)) ?_
        refine aD 7 rfl (dL rfl (hv:=by exact cvC_ld_b _ _ _ _ _ _ _ _ _ _ _ _ _ _ _ _)) ?_
        refine aM 8 ?_
        refine aP 9 rfl (KP rfl) ?_
        refine aP 10 rfl (KI (o':=0) Try.underlying129 rfl rfl rfl KAS (by decide)) ?_
        refine aP 11 rfl (KI (o':=19) Try.underlying126 rfl rfl rfl sz_33 (by decide)) ?_
        refine aD 12 rfl (dL rfl (hv:=by exact cvC_ld_b _ _ _ _ _ _ _ _ _ _ _ _ _ _ _ _)) ?_
        refine aM 14 ?_
        refine aP 15 rfl (KP rfl) ?_
        refine aP 16 rfl (KI (o':=0) Try.underlying129 rfl rfl rfl KAS (by decide)) ?_
        refine aP 17 rfl (KI (o':=19) Try.underlying126 rfl rfl rfl sz_33 (by decide)) ?_
        refine aD 18 rfl (dL rfl (hv:=by exact cvC_ld_b _ _ _ _ _ _ _ _ _ _ _ _ _ _ _ _)) ?_
        refine aO 13 rfl (cF rfl en_118 rfl (fun w hw=>c_f_Add V f bd V.b V.b w (mC hw) hbb.2.1 (by omega) (by omega)) ?_)
        refine aO 19 rfl (cF rfl en_118 rfl (fun w hw=>c_f_Add V f bd ((V.b+V.b)%V.p) V.b w (mC hw) hbb.2.1 (Nat.mod_lt _ (by omega)) (by omega)) ?_)
        refine aP 20 rfl (KP rfl) ?_
        refine aP 21 rfl (KI (o':=60) Try.underlying129 rfl rfl rfl sz_33 (by decide)) ?_
        refine aL 22 rfl (KAA rfl rfl rfl sz_33 (by first|exact KD _|exact KJ _ _ _|rfl) (by first|exact KY _|exact Kb _ _ _|exact KL rfl KN) (by repeat (first|exact Sh _|apply St_)) (by simp only [KAV]; decide) (cvC_set_t3 _ _ _ _ _ _ _ _ _ _ _ _ _ _) (by simp) ?_)
        refine aE ?_
        refine KB (KA ?_)
        refine oM ?_
        refine oA ?_
        refine KC (KO ?_)
        refine ⟨[_],.cons rfl .nil,fun a w' hr=>⟨b14,f,bd,rfl,?_,hr.hp _ (by repeat (first|exact Mh _|apply Mt)),hr.hp _ (by repeat (first|exact Mh _|apply Mt)),hr.new (B:=⟨true,_,_,_⟩) (by repeat (first|exact Mh _|apply Mt)) rfl,hnf,hnbd,hr.fr.below⟩⟩
        have hcv:=hr.hp _ (show Item.blk b14 ⟨true,cvC V.id V.p (V.p-3) V.b V.n V.x V.y false (blen V.n) (nby V.p) (decide (((V.id:Nat):Int) = 7)) (.pointer (some ⟨f,0,none⟩)) (thr V),129,(0,0)⟩∈_ from (by repeat (first|exact Mh _|apply Mt)))
        have hl:legB V = (decide (((V.id:Nat):Int) = 7)):=by unfold legB; by_cases h7:V.id = 7 <;> simp [h7]; omega
        have ha:V.a = V.p-3:=by omega
        rw [← ha] at hcv
        unfold opL
        rw [hl]
        exact hcv
    ·
      refine KA ?_
      refine oP (KI (o':=0) Try.underlying156 rfl rfl rfl sz_9 (by decide)) ?_
      refine oD (dL rfl (hv:=KW Try.underlying9 rfl (by first|rfl|exact Kr _ _ _ (by omega)|exact Kt _ (by omega)|exact Kz _ (by omega)|exact dv_m _ _ _ (by omega)))) ?_
      refine oP (KK (Det.eqs rfl rfl) (congrArg Value.bool (eq_str_f hA0))) ?_
      refine KC ?_
      refine KQ rfl ?_
      refine KA ?_
      refine oM ?_
      refine oP (KI (o':=0) Try.underlying156 rfl rfl rfl sz_9 (by decide)) ?_
      refine oD (dL rfl (hv:=KW Try.underlying9 rfl (by first|rfl|exact Kr _ _ _ (by omega)|exact Kt _ (by omega)|exact Kz _ (by omega)|exact dv_m _ _ _ (by omega)))) ?_
      refine oS (cF rfl en_114 rfl (fun w hw=>fhex s0 V.a w hA1) ?_)
      refine oP (KP rfl) ?_
      refine oP (KI (o':=0) Try.underlying129 rfl rfl rfl KAS (by decide)) ?_
      refine oP (KI (o':=10) Try.underlying126 rfl rfl rfl sz_33 (by decide)) ?_
      refine KU rfl (KAA rfl rfl rfl sz_33 (by first|exact KD _|exact KJ _ _ _|rfl) (by first|exact KY _|exact Kb _ _ _|exact KL rfl KN) (by repeat (first|exact Sh _|apply St_)) (by simp only [KAV]; decide) (cvC_set_a _ _ _ _ _ _ _ _ _ _ _ _ _ _) (by simp) ?_)
      refine KC ?_
      refine KB ?_
      refine rD [11] ?_
      refine aM 0 ?_
      refine aP 1 rfl (KI (o':=3) Try.underlying156 rfl rfl rfl sz_9 (by decide)) ?_
      refine aD 2 rfl (dL rfl (hv:=KW Try.underlying9 rfl (by first|rfl|exact Kr _ _ _ (by omega)|exact Kt _ (by omega)|exact Kz _ (by omega)|exact dv_m _ _ _ (by omega)))) ?_
      refine aP 4 rfl (KI (o':=4) Try.underlying156 rfl rfl rfl sz_9 (by decide)) ?_
      refine aD 5 rfl (dL rfl (hv:=KW Try.underlying9 rfl (by first|rfl|exact Kr _ _ _ (by omega)|exact Kt _ (by omega)|exact Kz _ (by omega)|exact dv_m _ _ _ (by omega)))) ?_
      refine aO 3 rfl (cF rfl en_114 rfl (fun w hw=>fhex s3 V.x w hX) ?_)
      refine aO 6 rfl (cF rfl en_114 rfl (fun w hw=>fhex s4 V.y w hY) ?_)
      refine aP 7 rfl (KK (Kw pl_35 zr_35 rfl (fill_pt _ _)) rfl) ?_
      refine aP 8 rfl (KP rfl) ?_
      refine aP 9 rfl (KI (o':=0) Try.underlying129 rfl rfl rfl KAS (by decide)) ?_
      refine aP 10 rfl (KI (o':=37) Try.underlying126 rfl rfl rfl sz_35 (by decide)) ?_
      refine aL 11 rfl (KAA rfl rfl rfl sz_35 (by first|exact KD _|exact KJ _ _ _|rfl) (by first|exact KY _|exact Kb _ _ _|exact KL rfl KN) (by repeat (first|exact Sh _|apply St_)) (by simp only [KAV]; decide) (cvC_set_g _ _ _ _ _ _ _ _ _ _ _ _ _ _ _ _) (by simp) ?_)
      refine aE ?_
      refine KB ?_
      refine rD [18,22] ?_
      refine aM 0 ?_
      refine aM 1 ?_
      refine aM 2 ?_
      refine aP 3 rfl (KP rfl) ?_
      refine aP 4 rfl (KI (o':=0) Try.underlying129 rfl rfl rfl KAS (by decide)) ?_
      refine aP 5 rfl (KI (o':=28) Try.underlying126 rfl rfl rfl sz_33 (by decide)) ?_
      refine aD 6 rfl (dL rfl (hv:=by exact cvC_ld_n _ _ _ _ _ _ _ _ _ _ _ _ _ _ _ _)) ?_
      refine aM 8 ?_
      refine aP 9 rfl (KP rfl) ?_
      refine aP 10 rfl (KI (o':=0) Try.underlying162 rfl rfl rfl sz_33 (by decide)) ?_
      refine aD 11 rfl (dL rfl (hv:=by exact KAC Try.underlying33 rfl sz_33 rfl (KD _))) ?_
      refine aO 7 rfl (cF rfl en_117 rfl (fun w hw=>c_nat_Bits V.n hnW w) ?_)
      refine aO 12 rfl (cF rfl en_117 rfl (fun w hw=>c_nat_Bits V.p hpW w) ?_)
      refine aP 13 rfl (KH rfl rfl (Kv (b:=7) (by omega))) ?_
      refine aP 14 rfl (KH rfl rfl (br_quo (b:=8) (by omega) (by omega))) ?_
      refine aP 15 rfl (KP rfl) ?_
      refine aP 16 rfl (KI (o':=0) Try.underlying129 rfl rfl rfl KAS (by decide)) ?_
      refine aP 17 rfl (KI (o':=56) Try.underlying126 rfl rfl rfl sz_3 (by decide)) ?_
      refine aL 18 rfl (KAA rfl rfl rfl sz_3 (by first|exact KD _|exact KJ _ _ _|rfl) (by first|exact KY _|exact Kb _ _ _|exact KL rfl KN) (by repeat (first|exact Sh _|apply St_)) (by simp only [KAV]; decide) (cvC_set_bits _ _ _ _ _ _ _ _ _ _ _ _ _ _) (by simp) ?_)
      refine aP 19 rfl (KP rfl) ?_
      refine aP 20 rfl (KI (o':=0) Try.underlying129 rfl rfl rfl KAS (by decide)) ?_
      refine aP 21 rfl (KI (o':=57) Try.underlying126 rfl rfl rfl sz_3 (by decide)) ?_
      refine aL 22 rfl (KAA rfl rfl rfl sz_3 (by first|exact KD _|exact KJ _ _ _|rfl) (by first|exact KY _|exact Kb _ _ _|exact KL rfl KN) (by repeat (first|exact Sh _|apply St_)) (by simp only [KAV]; decide) (cvC_set_size _ _ _ _ _ _ _ _ _ _ _ _ _ _) (by simp) ?_)
      refine aE ?_
      refine KB ?_
      by_cases hi1:((V.id:Nat):Int) = 1
      ·
        refine KA ?_
        refine oM ?_
        refine oM ?_
        refine oP (KH (v:=.bool true) rfl rfl (br_t KAT hi1)) ?_
        refine oM ?_
        refine oK ?_
        refine oK ?_
        refine oP (Kn rfl rfl) ?_
        refine oP (KP rfl) ?_
        refine oP (KI (o':=0) Try.underlying129 rfl rfl rfl KAS (by decide)) ?_
        refine oP (KI (o':=58) Try.underlying126 rfl rfl rfl sz_4 (by decide)) ?_
        refine KU rfl (KAA rfl rfl rfl sz_4 (by first|exact KD _|exact KJ _ _ _|rfl) (by first|exact KY _|exact Kb _ _ _|exact KL rfl KN) (by repeat (first|exact Sh _|apply St_)) (by simp only [KAV]; decide) (cvC_set_leg _ _ _ _ _ _ _ _ _ _ _ _ _ _) (by simp) ?_)
        refine KC ?_
        refine KB ?_
        refine rD [22] ?_
        refine aM 0 ?_
        refine aM 1 ?_
        refine aM 2 ?_
        refine aM 3 ?_
        refine aP 4 rfl (KP rfl) ?_
        refine aP 5 rfl (KI (o':=0) Try.underlying129 rfl rfl rfl KAS (by decide)) ?_
        refine aP 6 rfl (KI (o':=19) Try.underlying126 rfl rfl rfl sz_33 (by decide)) ?_
        refine aD 7 rfl (dL rfl (hv:=by exact cvC_ld_b _ _ _ _ _ _ _ _ _ _ _ _ _ _ _ _)) ?_
        refine aM 8 ?_
        refine aP 9 rfl (KP rfl) ?_
        refine aP 10 rfl (KI (o':=0) Try.underlying129 rfl rfl rfl KAS (by decide)) ?_
        refine aP 11 rfl (KI (o':=19) Try.underlying126 rfl rfl rfl sz_33 (by decide)) ?_
        refine aD 12 rfl (dL rfl (hv:=by exact cvC_ld_b _ _ _ _ _ _ _ _ _ _ _ _ _ _ _ _)) ?_
        refine aM 14 ?_
        refine aP 15 rfl (KP rfl) ?_
        refine aP 16 rfl (KI (o':=0) Try.underlying129 rfl rfl rfl KAS (by decide)) ?_
        refine aP 17 rfl (KI (o':=19) Try.underlying126 rfl rfl rfl sz_33 (by decide)) ?_
        refine aD 18 rfl (dL rfl (hv:=by exact cvC_ld_b _ _ _ _ _ _ _ _ _ _ _ _ _ _ _ _)) ?_
        refine aO 13 rfl (cF rfl en_118 rfl (fun w hw=>c_f_Add V f bd V.b V.b w (mC hw) hbb.2.1 (by omega) (by omega)) ?_)
        refine aO 19 rfl (cF rfl en_118 rfl (fun w hw=>c_f_Add V f bd ((V.b+V.b)%V.p) V.b w (mC hw) hbb.2.1 (Nat.mod_lt _ (by omega)) (by omega)) ?_)
        refine aP 20 rfl (KP rfl) ?_
        refine aP 21 rfl (KI (o':=60) Try.underlying129 rfl rfl rfl sz_33 (by decide)) ?_
        refine aL 22 rfl (KAA rfl rfl rfl sz_33 (by first|exact KD _|exact KJ _ _ _|rfl) (by first|exact KY _|exact Kb _ _ _|exact KL rfl KN) (by repeat (first|exact Sh _|apply St_)) (by simp only [KAV]; decide) (cvC_set_t3 _ _ _ _ _ _ _ _ _ _ _ _ _ _) (by simp) ?_)
        refine aE ?_
        refine KB (KA ?_)
        refine oM ?_
        refine oA ?_
        refine KC (KO ?_)
        refine ⟨[_],.cons rfl .nil,fun a w' hr=>⟨b14,f,bd,rfl,?_,hr.hp _ (by repeat (first|exact Mh _|apply Mt)),hr.hp _ (by repeat (first|exact Mh _|apply Mt)),hr.new (B:=⟨true,_,_,_⟩) (by repeat (first|exact Mh _|apply Mt)) rfl,hnf,hnbd,hr.fr.below⟩⟩
        have hcv:=hr.hp _ (show Item.blk b14 ⟨true,cvC V.id V.p V.a V.b V.n V.x V.y false (blen V.n) (nby V.p) true (.pointer (some ⟨f,0,none⟩)) (thr V),129,(0,0)⟩∈_ from (by repeat (first|exact Mh _|apply Mt)))
        have hl:legB V = true:=by unfold legB; exact decide_eq_true (by omega)
        unfold opL
        rw [hl]
        exact hcv
      ·
        refine KA ?_
        refine oM ?_
        refine oM ?_
        refine oP (KH (v:=.bool false) rfl rfl (br_f KAT hi1)) ?_
        refine oM ?_
        refine oGM ?_
        refine oGP (KH (v:=.bool (decide (((V.id:Nat):Int) = 7))) rfl rfl KAT) ?_
        refine oP (Ki rfl rfl) ?_
        refine oP (KP rfl) ?_
        refine oP (KI (o':=0) Try.underlying129 rfl rfl rfl KAS (by decide)) ?_
        refine oP (KI (o':=58) Try.underlying126 rfl rfl rfl sz_4 (by decide)) ?_
        refine KU rfl (KAA rfl rfl rfl sz_4 (by first|exact KD _|exact KJ _ _ _|rfl) (by first|exact KY _|exact Kb _ _ _|exact KL rfl KN) (by repeat (first|exact Sh _|apply St_)) (by simp only [KAV]; decide) (cvC_set_leg _ _ _ _ _ _ _ _ _ _ _ _ _ _) (by simp) ?_)
        refine KC ?_
        refine KB ?_
        refine rD [22] ?_
        refine aM 0 ?_
        refine aM 1 ?_
        refine aM 2 ?_
        refine aM 3 ?_
        refine aP 4 rfl (KP rfl) ?_
        refine aP 5 rfl (KI (o':=0) Try.underlying129 rfl rfl rfl KAS (by decide)) ?_
        refine aP 6 rfl (KI (o':=19) Try.underlying126 rfl rfl rfl sz_33 (by decide)) ?_
        refine aD 7 rfl (dL rfl (hv:=by exact cvC_ld_b _ _ _ _ _ _ _ _ _ _ _ _ _ _ _ _)) ?_
        refine aM 8 ?_
        refine aP 9 rfl (KP rfl) ?_
        refine aP 10 rfl (KI (o':=0) Try.underlying129 rfl rfl rfl KAS (by decide)) ?_
        refine aP 11 rfl (KI (o':=19) Try.underlying126 rfl rfl rfl sz_33 (by decide)) ?_
        refine aD 12 rfl (dL rfl (hv:=by exact cvC_ld_b _ _ _ _ _ _ _ _ _ _ _ _ _ _ _ _)) ?_
        refine aM 14 ?_
        refine aP 15 rfl (KP rfl) ?_
        refine aP 16 rfl (KI (o':=0) Try.underlying129 rfl rfl rfl KAS (by decide)) ?_
        refine aP 17 rfl (KI (o':=19) Try.underlying126 rfl rfl rfl sz_33 (by decide)) ?_
        refine aD 18 rfl (dL rfl (hv:=by exact cvC_ld_b _ _ _ _ _ _ _ _ _ _ _ _ _ _ _ _)) ?_
        refine aO 13 rfl (cF rfl en_118 rfl (fun w hw=>c_f_Add V f bd V.b V.b w (mC hw) hbb.2.1 (by omega) (by omega)) ?_)
        refine aO 19 rfl (cF rfl en_118 rfl (fun w hw=>c_f_Add V f bd ((V.b+V.b)%V.p) V.b w (mC hw) hbb.2.1 (Nat.mod_lt _ (by omega)) (by omega)) ?_)
        refine aP 20 rfl (KP rfl) ?_
        refine aP 21 rfl (KI (o':=60) Try.underlying129 rfl rfl rfl sz_33 (by decide)) ?_
        refine aL 22 rfl (KAA rfl rfl rfl sz_33 (by first|exact KD _|exact KJ _ _ _|rfl) (by first|exact KY _|exact Kb _ _ _|exact KL rfl KN) (by repeat (first|exact Sh _|apply St_)) (by simp only [KAV]; decide) (cvC_set_t3 _ _ _ _ _ _ _ _ _ _ _ _ _ _) (by simp) ?_)
        refine aE ?_
        refine KB (KA ?_)
        refine oM ?_
        refine oA ?_
        refine KC (KO ?_)
        refine ⟨[_],.cons rfl .nil,fun a w' hr=>⟨b14,f,bd,rfl,?_,hr.hp _ (by repeat (first|exact Mh _|apply Mt)),hr.hp _ (by repeat (first|exact Mh _|apply Mt)),hr.new (B:=⟨true,_,_,_⟩) (by repeat (first|exact Mh _|apply Mt)) rfl,hnf,hnbd,hr.fr.below⟩⟩
        have hcv:=hr.hp _ (show Item.blk b14 ⟨true,cvC V.id V.p V.a V.b V.n V.x V.y false (blen V.n) (nby V.p) (decide (((V.id:Nat):Int) = 7)) (.pointer (some ⟨f,0,none⟩)) (thr V),129,(0,0)⟩∈_ from (by repeat (first|exact Mh _|apply Mt)))
        have hl:legB V = (decide (((V.id:Nat):Int) = 7)):=by unfold legB; by_cases h7:V.id = 7 <;> simp [h7]; omega
        unfold opL
        rw [hl]
        exact hcv
end Go.Proofs.Ytlmiolnccgjjjaa
set_option linter.unusedVariables false
set_option linter.unusedSimpArgs false
set_option maxRecDepth 20000
namespace Go.Proofs.Ytlmiolnccgjjjaa
open Go Go.RowKit
theorem c_nat_OfOK (s:ByteArray) (w:World) (h:s.size≤72):Calls Try.prog 90 ([.string s]:List Value).toArray w (fun e w'=>e = .returned (.tuple #[natV (beVal s.data.toList),.int .i64 ((0:Nat):Int)])∧Below w.heap.size w w'):=by
  have h1:=c_nat_Of s (by omega) w
  rwa [if_neg (by omega)] at h1
end Go.Proofs.Ytlmiolnccgjjjaa
set_option linter.unusedVariables false
set_option linter.unusedSimpArgs false
set_option maxRecDepth 20000
namespace Go.Proofs.Ytlmiolnccgjjjaa
open Go Go.RowKit
theorem c_Num (x:Int) (w:World)  : Calls Try.prog 33 ([.int .i64 x]:List Value).toArray w (fun e w'=>e = .returned (.int .i64 x)∧Below w.heap.size w w'):=by
  refine Kf (N:=4) (rs:=[.tmp 2]) [] Try.func33 rfl Try.ntmps33 Try.results33 (Nb rfl) trivial rfl ?_
  show LCode _ _ _ ⟨_,_⟩ _
  refine KB (KA ?_)
  refine oP (KX (v:=.int .i64 ((0:Nat):Int)) rfl) ?_
  refine KC ?_
  refine KB (KA ?_)
  refine oM ?_
  refine oA ?_
  refine KC (KO ?_)
  refine ⟨[_],.cons rfl .nil,fun a w' hr=>⟨?_,hr.fr.below⟩⟩
  rfl
theorem one_cells9 {x:Nat} (hx:x<18446744073709551616):vec .u64 9 (fun j=>if j = 0 then x else 0) = natL x:=Ky fun i _=>by rw [limb_small hx]
theorem c_One (x:Nat) (w:World) (hx:x<18446744073709551616):Calls Try.prog 47 ([.int .u64 ((x:Nat):Int)]:List Value).toArray w (fun e w'=>e = .returned (natV x)∧Below w.heap.size w w'):=by
  refine Kf (N:=8) (rs:=[.cell 2 33]) [] Try.func47 rfl Try.ntmps47 Try.results47 (Nb rfl) trivial rfl ?_
  show LCode _ _ _ ⟨_,_⟩ _
  refine KB (KA ?_)
  refine oS (mk (KS zr_33) (fun b2=>?_))
  refine KC ?_
  refine KB (KA ?_)
  refine oS (mk (KS zr_33) (fun b3=>?_))
  refine KC ?_
  refine KB (KA ?_)
  refine oM ?_
  refine oP (KI (o':=0) Try.underlying33 rfl rfl rfl sz_31 (by decide)) ?_
  refine oP (Kh (i:=0) Try.underlying31 sz_30 rfl rfl (by decide)) ?_
  refine KU rfl (Kg rfl rfl rfl sz_30 (by repeat (first|exact Sh _|apply St_)) (by first|(simp only [KF,KD,KE,Kq]; omega)|(simp; done)|(simp; omega)) (by first|exact KAE _ _ _ _ _|exact KAJ _ _ _ _ (by omega)|exact KAI _ _ _ _|rfl) (by simp) ?_)
  refine KC ?_
  refine KB ?_
  refine LCode.sub (Sub.cells (b:=b3) (cs':=natL x) (by repeat (first|exact Sh _|apply St_)) (one_cells9 hx)) ?_
  refine KA ?_
  refine oD (dL rfl (hv:=by exact KG Try.underlying33 rfl sz_33)) ?_
  refine KU rfl (sA rfl rfl sz_33 (by repeat (first|exact KY _|exact Kc _ _ _|exact Ka _|exact Kb _ _ _|exact Kd _ _ _|exact KN|refine KL rfl ?_|refine KM ?_ ?_)) (hl:=by first|exact KD _|exact KF _ _ _|exact KE _|exact KJ _ _ _|exact KT _ _ _|rfl|simp [KF,KD,KE]) (h:=?_))
  refine KC (KO ?_)
  refine ⟨[_],.cons ⟨_,_,_,rfl,(by repeat (first|exact Mh _|apply Mt)),by exact KG Try.underlying33 rfl sz_33⟩ .nil,fun a w' hr=>⟨?_,hr.fr.below⟩⟩
  rfl
theorem zero_w9:0<W9:=w9_pos
theorem cv13_is:cvI 13 = some cv13:=rfl
theorem ext_data (s:ByteArray) (i j:Nat):(s.extract i j).data.toList = (s.data.toList.take j).drop i:=by
  rw [ByteArray.data_extract,Array.toList_extract]
  simp only [List.extract_eq_take_drop,List.take_drop]
  by_cases h:i≤j
  · rw [show i+(j-i) = j by omega]
  · rw [List.drop_of_length_le (by simp; omega),List.drop_of_length_le (by simp; omega)]
end Go.Proofs.Ytlmiolnccgjjjaa
set_option linter.unusedVariables false
set_option linter.unusedSimpArgs false
set_option maxRecDepth 20000
namespace Go.Proofs.Ytlmiolnccgjjjaa
open Go Go.RowKit
open Grp
theorem pt_ld1 (X Y:Nat) (i:Bool) (wr:Bool) (e:TypeId) (fz:Nat×Nat):LoadV Try.prog 33 ⟨wr,ptL X Y i,e,fz⟩ 9 (natV Y):=LoadV.mid Try.underlying33 rfl sz_33 (show ptL X Y i = natL X++(natL Y++[.bool i]) from rfl) (KD _) (KD _)
theorem pj_ld2 (X Y Z:Nat) (wr:Bool) (e:TypeId) (fz:Nat×Nat):LoadV Try.prog 33 ⟨wr,pjL X Y Z,e,fz⟩ 18 (natV Z):=LoadV.last Try.underlying33 rfl sz_33 (show pjL X Y Z = (natL X++natL Y)++natL Z by simp [pjL]) (by simp [KD]) (KD _)
theorem pt_gt (X Y:Nat) (i:Bool):(ptL X Y i)[18]? = some (.bool i):=get_mid (A:=natL X++natL Y) (D:=[]) (by simp [ptL]) (by simp [KD])
theorem eq_pt (X Y:Nat) (i:Bool) (X' Y':Nat) (i':Bool) (hX:X<W9) (hY:Y<W9) (hX':X' < W9) (hY':Y' < W9):EqD 4 Try.prog 35 (ptV X Y i) (ptV X' Y' i') (decide (X = X') && (decide (Y = Y') && ((i == i') && true))):=by
  have d1:∀ A B i,((ptL A B i).drop 0).take 9 = natL A:=fun A B i=>by
    rw [List.drop_zero]; unfold ptL; rw [List.take_left' (KD A)]
  have d2:∀ A B i,((ptL A B i).drop 9).take 9 = natL B:=fun A B i=>by
    unfold ptL; rw [List.drop_left' (KD A),List.take_left' (KD B)]
  exact EqD.struct (fs:=[_,_,_]) Try.underlying35 (by kernel_rfl) (EqFs.cons (by decide) (PartOf.agg Try.underlying33 rfl sz_33 (d1 X Y i)) (PartOf.agg Try.underlying33 rfl sz_33 (d1 X' Y' i')) (eq_nat X X' hX hX')
    (EqFs.cons (by decide) (PartOf.agg Try.underlying33 rfl sz_33 (d2 X Y i)) (PartOf.agg Try.underlying33 rfl sz_33 (d2 X' Y' i')) (eq_nat Y Y' hY hY')
    (EqFs.cons (by decide) (PartOf.one Try.underlying4 rfl (pt_gt X Y i)) (PartOf.one Try.underlying4 rfl (pt_gt X' Y' i')) ((EqD.bool Try.underlying4).mono (by decide)) EqFs.nil)))
theorem pt_w9 {V:Cv} (hok:V.Ok) (P:Grp.Pt V.p):xv P<W9∧yv P<W9:=⟨KAF (Nat.lt_trans (xv_lt P) hok.bounds.2.1),KAF (Nat.lt_trans (yv_lt P) hok.bounds.2.1)⟩
def ptP {p:Nat} (P:Grp.Pt p):Value:=ptV (xv P) (yv P) (iv P)
theorem fill_ptInf:fillL [(0,9),(9,9),(18,1)] (vec .u64 9 (fun _=>0)++(vec .u64 9 (fun _=>0)++[Value.bool false])) [(2,.bool true)] = some (ptL 0 0 true):=by
  refine (KAX (A:=vec .u64 9 (fun _=>0)++vec .u64 9 (fun _=>0)) (B:=[Value.bool false]) (D:=[]) (cs:=[Value.bool true]) rfl rfl rfl (by simp) (by simp [KF]) rfl rfl).trans ?_
  simp [ptL,natL,vec_zeros 9]
theorem pt_zero:Value.agg (vec .u64 9 (fun _=>0)++(vec .u64 9 (fun _=>0)++[Value.bool false]):List Value).toArray = ptV 0 0 false:=by
  unfold ptV ptL natL; rw [vec_zeros 9]
section
variable (V:Cv) (hok:V.Ok) (f bd:Nat)
include hok
theorem c_F_Add (X Y:Fin V.p) (w:World) (hf:(Item.blk f ⟨false,fldL V.p bd,162,(0,0)⟩).holds w):Calls Try.prog 118 ([.pointer (some ⟨f,0,none⟩),natV X.val,natV Y.val]:List Value).toArray w (fun e w'=>e = .returned (natV (X+Y).val)∧Below w.heap.size w w'):=by
  have:=c_f_Add V f bd X.val Y.val w hf hok.bounds.2.1 X.isLt Y.isLt
  rwa [← Fin.val_add] at this
theorem c_F_Sub (X Y:Fin V.p) (w:World) (hf:(Item.blk f ⟨false,fldL V.p bd,162,(0,0)⟩).holds w):Calls Try.prog 130 ([.pointer (some ⟨f,0,none⟩),natV X.val,natV Y.val]:List Value).toArray w (fun e w'=>e = .returned (natV (X-Y).val)∧Below w.heap.size w w'):=by
  have:=c_f_Sub V f bd X.val Y.val w hf hok.bounds.2.1 X.isLt Y.isLt
  rwa [← fin_subv] at this
theorem c_F_Mul (X Y:Fin V.p) (w:World) (hf:(Item.blk f ⟨false,fldL V.p bd,162,(0,0)⟩).holds w) (hbd:(Item.blk bd ⟨false,dvL V.p,212,(0,0)⟩).holds w):Calls Try.prog 120 ([.pointer (some ⟨f,0,none⟩),natV X.val,natV Y.val]:List Value).toArray w (fun e w'=>e = .returned (natV (X*Y).val)∧Below w.heap.size w w'):=by
  have hb:=hok.bounds
  have hpW:=KAF hb.2.1
  have:=c_f_Mul V f bd X.val Y.val w hf hbd (by omega) hpW (Nat.lt_trans X.isLt hpW) (Nat.lt_trans Y.isLt hpW)
  rwa [← Fin.val_mul] at this
theorem c_F_Inv (X:Fin V.p) (w:World) (hf:(Item.blk f ⟨false,fldL V.p bd,162,(0,0)⟩).holds w):Calls Try.prog 136 ([.pointer (some ⟨f,0,none⟩),natV X.val]:List Value).toArray w (fun e w'=>e = .returned (natV (finv X).val)∧Below w.heap.size w w'):=by
  have hb:=hok.bounds
  have hpW:=KAF hb.2.1
  have:=c_f_Inv V f bd X.val w hf (by omega) hpW (Nat.lt_trans X.isLt hpW)
  rwa [← finv_val] at this
end
theorem a_val {V:Cv} (hok:V.Ok):natV V.a = natV V.A.val:=by rw [hok.A_val hok.bounds.2.2.1]
theorem b_val {V:Cv} (hok:V.Ok):natV V.b = natV V.B.val:=by rw [hok.B_val hok.bounds.2.2.2.1]
theorem t_val {V:Cv} (hok:V.Ok):natV (thr V) = natV (V.B+V.B+V.B).val:=by
  rw [Fin.val_add,Fin.val_add,hok.B_val hok.bounds.2.2.2.1]; rfl
end Go.Proofs.Ytlmiolnccgjjjaa
set_option linter.unusedVariables false
set_option linter.unusedSimpArgs false
set_option maxRecDepth 20000
namespace Go.Proofs.Ytlmiolnccgjjjaa
open Go Go.RowKit
theorem NFr.in {lo:Nat} {old:List Nat} {q:NV} {n:Nat} (h:∀ k,k∈fpz q n→k∈old):NFr lo old q n:=fun k hk=>.inr (h k hk)
theorem NFr.le {lo:Nat} {old old':List Nat} {q:NV} {n:Nat} (h:NFr lo old q n) (hs:∀ k,k∈old→k∈old'):NFr lo old' q n:=fun k hk=>(h k hk).imp id (hs k)
end Go.Proofs.Ytlmiolnccgjjjaa
set_option linter.unusedVariables false
set_option linter.unusedSimpArgs false
set_option maxRecDepth 20000
namespace Go.Proofs.Ytlmiolnccgjjjaa
open Go Go.RowKit
open Grp
def fp2 {p:Nat} (q r:NV) (P:Pt p) (l:List Nat):List Nat:=fpz q (D.nw (xv P))++(fpz r (D.nw (yv P))++l)
theorem NFr.two {p:Nat} {q1 r1 q2 r2 u:NV} {P P2:Pt p} {lo n:Nat} {old:List Nat} (h:NFr lo (fp2 q1 r1 P (fp2 q2 r2 P2 [])) u n) (h1:NFr lo old q1 (D.nw (xv P))) (h2:NFr lo old r1 (D.nw (yv P))) (h3:NFr lo old q2 (D.nw (xv P2))) (h4:NFr lo old r2 (D.nw (yv P2))):NFr lo old u n:=fun k hk=>by
  rcases h k hk with h|h
  · exact .inl h
  · rcases List.mem_append.1 h with h|h
    · exact h1 k h
    · rcases List.mem_append.1 h with h|h
      · exact h2 k h
      · rcases List.mem_append.1 h with h|h
        · exact h3 k h
        · rcases List.mem_append.1 h with h|h
          · exact h4 k h
          · cases h
end Go.Proofs.Ytlmiolnccgjjjaa
set_option linter.unusedVariables false
set_option linter.unusedSimpArgs false
set_option maxRecDepth 20000
namespace Go.Proofs.Ytlmiolnccgjjjaa
open Go Go.RowKit
theorem c_Right (V:Cv) (b f bd:Nat) (hok:V.Ok) (X:Fin V.p) (w:World) (hb:(Item.blk b ⟨false,opL V f,129,(0,0)⟩).holds w) (hf:(Item.blk f ⟨false,fldL V.p bd,162,(0,0)⟩).holds w) (hbd:(Item.blk bd ⟨false,dvL V.p,212,(0,0)⟩).holds w):Calls Try.prog 121 ([.pointer (some ⟨b,0,none⟩),natV X.val]:List Value).toArray w (fun e w'=>e = .returned (natV ((X*X+V.A)*X+V.B).val)∧Below w.heap.size w w'):=by
  have hbb:=hok.bounds
  have hpW:V.p<W9:=KAF hbb.2.1
  refine Kf (N:=31) (rs:=[.cell 4 33]) [.blk b ⟨false,opL V f,129,(0,0)⟩,.blk f ⟨false,fldL V.p bd,162,(0,0)⟩,.blk bd ⟨false,dvL V.p,212,(0,0)⟩] Try.func121 rfl Try.ntmps121 Try.results121 (Nb rfl) ⟨hb,hf,hbd,trivial⟩ rfl ?_
  show LCode _ _ _ ⟨_,_⟩ _
  refine KB (KA ?_)
  refine oS (mB (fun b3=>?_))
  refine oS (mk (KS zr_33) (fun b4=>?_))
  refine KC ?_
  refine KB (KA ?_)
  refine oM ?_
  refine oP (KP rfl) ?_
  refine oP (KI (o':=59) Try.underlying129 rfl rfl rfl sz_127 (by decide)) ?_
  refine oD (dL rfl (hv:=KW Try.underlying127 rfl (by exact cvC_gt_F _ _ _ _ _ _ _ _ _ _ _ _ _))) ?_
  refine oA ?_
  refine KC ?_
  refine KB ?_
  refine rD [21] ?_
  refine aM 0 ?_
  refine aM 1 ?_
  refine aM 2 ?_
  refine aM 3 ?_
  refine aD 4 rfl (dL rfl (hv:=by exact KG Try.underlying33 rfl sz_33)) ?_
  refine aD 5 rfl (dL rfl (hv:=by exact KG Try.underlying33 rfl sz_33)) ?_
  refine aM 7 ?_
  refine aP 8 rfl (KP rfl) ?_
  refine aP 9 rfl (KI (o':=0) Try.underlying129 rfl rfl rfl KAS (by decide)) ?_
  refine aP 10 rfl (KI (o':=10) Try.underlying126 rfl rfl rfl sz_33 (by decide)) ?_
  refine aD 11 rfl (Det.cast (dL rfl (hv:=by exact cvC_ld_a _ _ _ _ _ _ _ _ _ _ _ _ _ _ _ _)) (a_val hok)) ?_
  refine aD 13 rfl (dL rfl (hv:=by exact KG Try.underlying33 rfl sz_33)) ?_
  refine aM 15 ?_
  refine aP 16 rfl (KP rfl) ?_
  refine aP 17 rfl (KI (o':=0) Try.underlying129 rfl rfl rfl KAS (by decide)) ?_
  refine aP 18 rfl (KI (o':=19) Try.underlying126 rfl rfl rfl sz_33 (by decide)) ?_
  refine aD 19 rfl (Det.cast (dL rfl (hv:=by exact cvC_ld_b _ _ _ _ _ _ _ _ _ _ _ _ _ _ _ _)) (b_val hok)) ?_
  refine aO 6 rfl (cF rfl en_120 rfl (fun w hw=>c_F_Mul V hok f bd _ _ w (mC hw) (mC hw)) ?_)
  refine aO 12 rfl (cF rfl en_118 rfl (fun w hw=>c_F_Add V hok f bd _ _ w (mC hw)) ?_)
  refine aO 14 rfl (cF rfl en_120 rfl (fun w hw=>c_F_Mul V hok f bd _ _ w (mC hw) (mC hw)) ?_)
  refine aO 20 rfl (cF rfl en_118 rfl (fun w hw=>c_F_Add V hok f bd _ _ w (mC hw)) ?_)
  refine aL 21 rfl (sA rfl rfl sz_33 (by repeat (first|exact KY _|exact Kc _ _ _|exact Ka _|exact Kb _ _ _|exact Kd _ _ _|exact KN|refine KL rfl ?_|refine KM ?_ ?_)) (hl:=by first|exact KD _|exact KF _ _ _|exact KE _|exact KJ _ _ _|exact KT _ _ _|rfl|simp [KF,KD,KE]) (h:=?_))
  refine aE ?_
  refine KO ?_
  refine ⟨[_],.cons ⟨_,_,_,rfl,(by repeat (first|exact Mh _|apply Mt)),by exact KG Try.underlying33 rfl sz_33⟩ .nil,fun a w' hr=>⟨?_,hr.fr.below⟩⟩
  rfl
theorem c_HasT (V:Cv) (f bd A:Nat) (w:World) (hf:(Item.blk f ⟨false,fldL V.p bd,162,(0,0)⟩).holds w) (hA:A<W9) (hpW:V.p<W9) (h:A<V.p):Calls Try.prog 119 ([.pointer (some ⟨f,0,none⟩),natV A]:List Value).toArray w (fun e w'=>e = .returned (.bool true)∧Below w.heap.size w w'):=by
  have:=c_f_Has V f bd A w hf hA hpW
  rwa [decide_eq_true h] at this
theorem c_HasF (V:Cv) (f bd A:Nat) (w:World) (hf:(Item.blk f ⟨false,fldL V.p bd,162,(0,0)⟩).holds w) (hA:A<W9) (hpW:V.p<W9) (h:¬ A<V.p):Calls Try.prog 119 ([.pointer (some ⟨f,0,none⟩),natV A]:List Value).toArray w (fun e w'=>e = .returned (.bool false)∧Below w.heap.size w w'):=by
  have:=c_f_Has V f bd A w hf hA hpW
  rwa [decide_eq_false h] at this
theorem right_val {V:Cv} (hok:V.Ok) (x:Fin V.p):rightN V.p V.a V.b x.val = ((x*x+V.A)*x+V.B).val:=by
  unfold rightN
  rw [Fin.val_add,Fin.val_mul,Fin.val_add,Fin.val_mul,hok.A_val hok.bounds.2.2.1,hok.B_val hok.bounds.2.2.2.1]
theorem on_x' {p a b X Y:Nat} (h:¬ X<p):onB p a b X Y false = false:=by
  unfold onB; rw [if_neg (by decide),decide_eq_false h,Bool.false_and]
theorem on_yy' {p a b X Y:Nat} (h:¬ Y<p):onB p a b X Y false = false:=by
  unfold onB; rw [if_neg (by decide),decide_eq_false h,Bool.false_and,Bool.and_false]
theorem on_fin {V:Cv} (hok:V.Ok) (x y:Fin V.p):onB V.p V.a V.b x.val y.val false = decide ((y*y).val = ((x*x+V.A)*x+V.B).val):=by
  unfold onB
  rw [if_neg (by decide),decide_eq_true x.isLt,decide_eq_true y.isLt,Bool.true_and,Bool.true_and,right_val hok,Fin.val_mul]
theorem on_inf' {p a b X Y:Nat}:onB p a b X Y true = (decide (X = 0) && decide (Y = 0)):=if_pos rfl
theorem c_cOn (V:Cv) (b f bd:Nat) (hok:V.Ok) (X Y:Nat) (i:Bool) (w:World) (hb:(Item.blk b ⟨false,opL V f,129,(0,0)⟩).holds w) (hf:(Item.blk f ⟨false,fldL V.p bd,162,(0,0)⟩).holds w) (hbd:(Item.blk bd ⟨false,dvL V.p,212,(0,0)⟩).holds w) (hX:X<W9) (hY:Y<W9):Calls Try.prog 81 ([.pointer (some ⟨b,0,none⟩),ptV X Y i]:List Value).toArray w (fun e w'=>e = .returned (.bool (onB V.p V.a V.b X Y i))∧Below w.heap.size w w'):=by
  have hbb:=hok.bounds
  have hpW:V.p<W9:=KAF hbb.2.1
  refine Kf (N:=42) (rs:=[.tmp 4]) [.blk b ⟨false,opL V f,129,(0,0)⟩,.blk f ⟨false,fldL V.p bd,162,(0,0)⟩,.blk bd ⟨false,dvL V.p,212,(0,0)⟩] Try.func81 rfl Try.ntmps81 Try.results81 (Nb rfl) ⟨hb,hf,hbd,trivial⟩ rfl ?_
  show LCode _ _ _ ⟨_,_⟩ _
  refine KB (KA ?_)
  refine oS (mB (fun b3=>?_))
  refine oA ?_
  refine KC ?_
  refine KB ?_
  refine KB ?_
  cases i
  ·
    refine KA ?_
    refine oP (KI (o':=18) Try.underlying35 rfl rfl rfl sz_4 (by decide)) ?_
    refine oD (dL rfl (hv:=KW Try.underlying4 rfl (by exact pt_gt _ _ _))) ?_
    refine KC ?_
    refine KQ rfl ?_
    refine KR ?_
    refine KB ?_
    rcases (show (¬ X<V.p)∨(X<V.p∧¬ Y<V.p)∨(X<V.p∧Y<V.p) by omega) with h1|⟨h1,h2⟩|⟨h1,h2⟩
    ·
      refine rD [] ?_
      refine aM 0 ?_
      refine aP 1 rfl (KP rfl) ?_
      refine aP 2 rfl (KI (o':=59) Try.underlying129 rfl rfl rfl sz_127 (by decide)) ?_
      refine aD 3 rfl (dL rfl (hv:=KW Try.underlying127 rfl (by exact cvC_gt_F _ _ _ _ _ _ _ _ _ _ _ _ _))) ?_
      refine aP 4 rfl (KI (o':=0) Try.underlying35 rfl rfl rfl sz_33 (by decide)) ?_
      refine aD 5 rfl (dL rfl (hv:=by exact KAC Try.underlying33 rfl sz_33 rfl (KD _))) ?_
      refine aO 6 rfl (cF rfl en_119 rfl (fun w hw=>c_HasF V f bd X w (mC hw) hX hpW h1) ?_)
      refine aM 7 ?_
      refine aK 8 ?_
      refine aK 9 ?_
      refine aK 10 ?_
      refine aK 11 ?_
      refine aK 12 ?_
      refine aK 13 ?_
      refine aK 14 ?_
      refine aP 15 rfl (Ki rfl rfl) ?_
      refine aM 16 ?_
      refine aK 17 ?_
      refine aK 18 ?_
      refine aK 19 ?_
      refine aK 20 ?_
      refine aK 21 ?_
      refine aK 22 ?_
      refine aK 23 ?_
      refine aK 24 ?_
      refine aK 25 ?_
      refine aK 26 ?_
      refine aK 27 ?_
      refine aK 28 ?_
      refine aK 29 ?_
      refine aK 30 ?_
      refine aP 31 rfl (Ki rfl rfl) ?_
      refine aA 32 ?_
      refine aE ?_
      refine KO ?_
      refine ⟨[_],.cons rfl .nil,fun a w' hr=>⟨?_,hr.fr.below⟩⟩
      rw [on_x' h1]
      rfl
    ·
      refine rD [] ?_
      refine aM 0 ?_
      refine aP 1 rfl (KP rfl) ?_
      refine aP 2 rfl (KI (o':=59) Try.underlying129 rfl rfl rfl sz_127 (by decide)) ?_
      refine aD 3 rfl (dL rfl (hv:=KW Try.underlying127 rfl (by exact cvC_gt_F _ _ _ _ _ _ _ _ _ _ _ _ _))) ?_
      refine aP 4 rfl (KI (o':=0) Try.underlying35 rfl rfl rfl sz_33 (by decide)) ?_
      refine aD 5 rfl (dL rfl (hv:=by exact KAC Try.underlying33 rfl sz_33 rfl (KD _))) ?_
      refine aO 6 rfl (cF rfl en_119 rfl (fun w hw=>c_HasT V f bd X w (mC hw) hX hpW h1) ?_)
      refine aM 7 ?_
      refine aGM 8 ?_
      refine aGP 9 rfl (KP rfl) ?_
      refine aGP 10 rfl (KI (o':=59) Try.underlying129 rfl rfl rfl sz_127 (by decide)) ?_
      refine aGD 11 rfl (dL rfl (hv:=KW Try.underlying127 rfl (by exact cvC_gt_F _ _ _ _ _ _ _ _ _ _ _ _ _))) ?_
      refine aGP 12 rfl (KI (o':=9) Try.underlying35 rfl rfl rfl sz_33 (by decide)) ?_
      refine aGD 13 rfl (dL rfl (hv:=by exact pt_ld1 _ _ _ _ _ _)) ?_
      refine aGO 14 rfl (cF rfl en_119 rfl (fun w hw=>c_HasF V f bd Y w (mC hw) hY hpW h2) ?_)
      refine aP 15 rfl (Kn rfl rfl) ?_
      refine aM 16 ?_
      refine aK 17 ?_
      refine aK 18 ?_
      refine aK 19 ?_
      refine aK 20 ?_
      refine aK 21 ?_
      refine aK 22 ?_
      refine aK 23 ?_
      refine aK 24 ?_
      refine aK 25 ?_
      refine aK 26 ?_
      refine aK 27 ?_
      refine aK 28 ?_
      refine aK 29 ?_
      refine aK 30 ?_
      refine aP 31 rfl (Ki rfl rfl) ?_
      refine aA 32 ?_
      refine aE ?_
      refine KO ?_
      refine ⟨[_],.cons rfl .nil,fun a w' hr=>⟨?_,hr.fr.below⟩⟩
      rw [on_yy' h2]
      rfl
    ·
      obtain ⟨x,rfl⟩:∃ x:Fin V.p,x.val = X:=⟨⟨X,h1⟩,rfl⟩
      obtain ⟨y,rfl⟩:∃ y:Fin V.p,y.val = Y:=⟨⟨Y,h2⟩,rfl⟩
      refine rD [] ?_
      refine aM 0 ?_
      refine aP 1 rfl (KP rfl) ?_
      refine aP 2 rfl (KI (o':=59) Try.underlying129 rfl rfl rfl sz_127 (by decide)) ?_
      refine aD 3 rfl (dL rfl (hv:=KW Try.underlying127 rfl (by exact cvC_gt_F _ _ _ _ _ _ _ _ _ _ _ _ _))) ?_
      refine aP 4 rfl (KI (o':=0) Try.underlying35 rfl rfl rfl sz_33 (by decide)) ?_
      refine aD 5 rfl (dL rfl (hv:=by exact KAC Try.underlying33 rfl sz_33 rfl (KD _))) ?_
      refine aO 6 rfl (cF rfl en_119 rfl (fun w hw=>c_HasT V f bd x.val w (mC hw) (Nat.lt_trans x.isLt hpW) hpW x.isLt) ?_)
      refine aM 7 ?_
      refine aGM 8 ?_
      refine aGP 9 rfl (KP rfl) ?_
      refine aGP 10 rfl (KI (o':=59) Try.underlying129 rfl rfl rfl sz_127 (by decide)) ?_
      refine aGD 11 rfl (dL rfl (hv:=KW Try.underlying127 rfl (by exact cvC_gt_F _ _ _ _ _ _ _ _ _ _ _ _ _))) ?_
      refine aGP 12 rfl (KI (o':=9) Try.underlying35 rfl rfl rfl sz_33 (by decide)) ?_
      refine aGD 13 rfl (dL rfl (hv:=by exact pt_ld1 _ _ _ _ _ _)) ?_
      refine aGO 14 rfl (cF rfl en_119 rfl (fun w hw=>c_HasT V f bd y.val w (mC hw) (Nat.lt_trans y.isLt hpW) hpW y.isLt) ?_)
      refine aP 15 rfl (Kn rfl rfl) ?_
      refine aM 16 ?_
      refine aGM 17 ?_
      refine aGP 18 rfl (KP rfl) ?_
      refine aGP 19 rfl (KI (o':=59) Try.underlying129 rfl rfl rfl sz_127 (by decide)) ?_
      refine aGD 20 rfl (dL rfl (hv:=KW Try.underlying127 rfl (by exact cvC_gt_F _ _ _ _ _ _ _ _ _ _ _ _ _))) ?_
      refine aGP 21 rfl (KI (o':=9) Try.underlying35 rfl rfl rfl sz_33 (by decide)) ?_
      refine aGD 22 rfl (dL rfl (hv:=by exact pt_ld1 _ _ _ _ _ _)) ?_
      refine aGP 23 rfl (KI (o':=9) Try.underlying35 rfl rfl rfl sz_33 (by decide)) ?_
      refine aGD 24 rfl (dL rfl (hv:=by exact pt_ld1 _ _ _ _ _ _)) ?_
      refine aGM 26 ?_
      refine aGP 27 rfl (KI (o':=0) Try.underlying35 rfl rfl rfl sz_33 (by decide)) ?_
      refine aGD 28 rfl (dL rfl (hv:=by exact KAC Try.underlying33 rfl sz_33 rfl (KD _))) ?_
      refine aGO 25 rfl (cF rfl en_120 rfl (fun w hw=>c_F_Mul V hok f bd _ _ w (mC hw) (mC hw)) ?_)
      refine aGO 29 rfl (cF rfl en_121 rfl (fun w hw=>c_Right V b f bd hok _ w (mC hw) (mC hw) (mC hw)) ?_)
      refine aGP 30 rfl (Det.eqa (by kernel_rfl) (fun w=>eq_nat (y*y).val ((x*x+V.A)*x+V.B).val (Nat.lt_trans (y*y).isLt hpW) (Nat.lt_trans ((x*x+V.A)*x+V.B).isLt hpW) 10000 (by decide) w) rfl rfl) ?_
      refine aP 31 rfl (Kn rfl rfl) ?_
      refine aA 32 ?_
      refine aE ?_
      refine KO ?_
      refine ⟨[_],.cons rfl .nil,fun a w' hr=>⟨?_,hr.fr.below⟩⟩
      rw [on_fin hok]
      rfl
  ·
    refine KA ?_
    refine oP (KI (o':=18) Try.underlying35 rfl rfl rfl sz_4 (by decide)) ?_
    refine oD (dL rfl (hv:=KW Try.underlying4 rfl (by exact pt_gt _ _ _))) ?_
    refine KC ?_
    refine Ke rfl ?_
    refine KB (KA ?_)
    refine oD (dL rfl (hv:=by exact KG Try.underlying35 rfl sz_35)) ?_
    refine oP (KK (Kw pl_35 zr_35 rfl fill_ptInf) rfl) ?_
    refine oP (Det.eqa (by kernel_rfl) (fun w=>eq_pt X Y true 0 0 true hX hY zero_w9 zero_w9 10000 (by decide) w) rfl rfl) ?_
    refine oA ?_
    refine KC (KO ?_)
    refine ⟨[_],.cons rfl .nil,fun a w' hr=>⟨?_,hr.fr.below⟩⟩
    rw [on_inf',show (decide (X = 0) && decide (Y = 0)) = (decide (X = 0) && (decide (Y = 0) && ((true == true) && true))) by simp]
    rfl
end Go.Proofs.Ytlmiolnccgjjjaa
set_option linter.unusedVariables false
set_option linter.unusedSimpArgs false
set_option maxRecDepth 20000
namespace Go.Proofs.Ytlmiolnccgjjjaa
open Go Go.RowKit
open Grp
def pjF {p:Nat} (T:Fin p×Fin p×Fin p):Value:=pjV T.1.val T.2.1.val T.2.2.val
def pjFL {p:Nat} (T:Fin p×Fin p×Fin p):List Value:=pjL T.1.val T.2.1.val T.2.2.val
theorem fill_pj (X Y Z:Nat):fillL [(0,9),(9,9),(18,9)] (vec .u64 9 (fun _=>0)++(vec .u64 9 (fun _=>0)++vec .u64 9 (fun _=>0))) [(0,natV X),(1,natV Y),(2,natV Z)] = some (pjL X Y Z):=by
  refine KAX (A:=[]) (B:=vec .u64 9 (fun _=>0)) (D:=vec .u64 9 (fun _=>0)++vec .u64 9 (fun _=>0)) (cs:=natL X) rfl rfl (KD _) rfl rfl (KF _ _ _) ?_
  refine KAX (A:=natL X) (B:=vec .u64 9 (fun _=>0)) (D:=vec .u64 9 (fun _=>0)) (cs:=natL Y) rfl rfl (KD _) (by simp) (KD _) (KF _ _ _) ?_
  refine (KAX (A:=natL X++natL Y) (B:=vec .u64 9 (fun _=>0)) (D:=[]) (cs:=natL Z) rfl rfl (KD _) (by simp) (by simp [KD]) (KF _ _ _) rfl).trans ?_
  simp [pjL]
theorem fill_pjN (Y:Nat):fillL [(0,9),(9,9),(18,9)] (vec .u64 9 (fun _=>0)++(vec .u64 9 (fun _=>0)++vec .u64 9 (fun _=>0))) [(1,natV Y)] = some (pjL 0 Y 0):=by
  refine (KAX (A:=vec .u64 9 (fun _=>0)) (B:=vec .u64 9 (fun _=>0)) (D:=vec .u64 9 (fun _=>0)) (cs:=natL Y) rfl rfl (KD _) rfl (KF _ _ _) (KF _ _ _) rfl).trans ?_
  simp [pjL,natL,vec_zeros 9]
theorem c_None  (w:World)  : Calls Try.prog 123 ([]:List Value).toArray w (fun e w'=>e = .returned (pjV 0 1 0)∧Below w.heap.size w w'):=by
  refine Kf (N:=3) (rs:=[.cell 0 172]) [] Try.func123 rfl Try.ntmps123 Try.results123 (Nb rfl) trivial rfl ?_
  show LCode _ _ _ ⟨_,_⟩ _
  refine KB (KA ?_)
  refine oS (mk (KS zr_172) (fun b0=>?_))
  refine KC ?_
  refine KB (KA ?_)
  refine oS (cF rfl en_116 rfl (fun w hw=>c_nat_Small 1 (by decide) w) ?_)
  refine oP (KK (Kw pl_172 zr_172 rfl (fill_pjN 1)) rfl) ?_
  refine KU rfl (sA rfl rfl sz_172 (by repeat (first|exact KY _|exact Kc _ _ _|exact Ka _|exact Kb _ _ _|exact Kd _ _ _|exact KN|refine KL rfl ?_|refine KM ?_ ?_)) (hl:=by first|exact KD _|exact KF _ _ _|exact KE _|exact KJ _ _ _|exact KT _ _ _|rfl|simp [KF,KD,KE]) (h:=?_))
  refine KC (KO ?_)
  refine ⟨[_],.cons ⟨_,_,_,rfl,(by repeat (first|exact Mh _|apply Mt)),by exact KG Try.underlying172 rfl sz_172⟩ .nil,fun a w' hr=>⟨?_,hr.fr.below⟩⟩
  rfl
theorem c_NoneF {V:Cv} (hok:V.Ok) (w:World):Calls Try.prog 123 ([]:List Value).toArray w (fun e w'=>e = .returned (pjF (tripF (.inf:Pt V.p)))∧Below w.heap.size w w'):=by
  have h:=c_None w
  have e:pjF (tripF (.inf:Pt V.p)) = pjV 0 1 0:=by
    unfold pjF tripF
    rw [fin_one (show 1<V.p from hok.prime.1)]
    rfl
  rwa [e]
theorem c_Triple (V:Cv) (hok:V.Ok) (P:Pt V.p) (w:World)  : Calls Try.prog 122 ([ptP P]:List Value).toArray w (fun e w'=>e = .returned (pjF (tripF P))∧Below w.heap.size w w'):=by
  refine Kf (N:=12) (rs:=[.cell 2 172]) [] Try.func122 rfl Try.ntmps122 Try.results122 (Nb rfl) trivial rfl ?_
  show LCode _ _ _ ⟨_,_⟩ _
  refine KB (KA ?_)
  refine oS (mB (fun b1=>?_))
  refine oS (mk (KS zr_172) (fun b2=>?_))
  refine KC ?_
  refine KB ?_
  refine KB ?_
  rcases P with _|⟨x,y⟩
  ·
    refine KA ?_
    refine oP (KI (o':=18) Try.underlying35 rfl rfl rfl sz_4 (by decide)) ?_
    refine oD (dL rfl (hv:=KW Try.underlying4 rfl (by exact pt_gt _ _ _))) ?_
    refine KC ?_
    refine Ke rfl ?_
    refine KB (KA ?_)
    refine oS (cF rfl en_123 rfl (fun w hw=>c_NoneF hok w) ?_)
    refine KU rfl (sA rfl rfl sz_172 (by repeat (first|exact KY _|exact Kc _ _ _|exact Ka _|exact Kb _ _ _|exact Kd _ _ _|exact KN|refine KL rfl ?_|refine KM ?_ ?_)) (hl:=by first|exact KD _|exact KF _ _ _|exact KE _|exact KJ _ _ _|exact KT _ _ _|rfl|simp [KF,KD,KE]) (h:=?_))
    refine KC (KO ?_)
    refine ⟨[_],.cons ⟨_,_,_,rfl,(by repeat (first|exact Mh _|apply Mt)),by exact KG Try.underlying172 rfl sz_172⟩ .nil,fun a w' hr=>⟨?_,hr.fr.below⟩⟩
    rfl
  ·
    refine KA ?_
    refine oP (KI (o':=18) Try.underlying35 rfl rfl rfl sz_4 (by decide)) ?_
    refine oD (dL rfl (hv:=KW Try.underlying4 rfl (by exact pt_gt _ _ _))) ?_
    refine KC ?_
    refine KQ rfl ?_
    refine KR ?_
    refine KB ?_
    refine rD [6] ?_
    refine aP 0 rfl (KI (o':=0) Try.underlying35 rfl rfl rfl sz_33 (by decide)) ?_
    refine aD 1 rfl (dL rfl (hv:=by exact KAC Try.underlying33 rfl sz_33 rfl (KD _))) ?_
    refine aP 2 rfl (KI (o':=9) Try.underlying35 rfl rfl rfl sz_33 (by decide)) ?_
    refine aD 3 rfl (dL rfl (hv:=by exact pt_ld1 _ _ _ _ _ _)) ?_
    refine aO 4 rfl (cF rfl en_116 rfl (fun w hw=>c_nat_Small 1 (by decide) w) ?_)
    refine aP 5 rfl (KK (Kw pl_172 zr_172 rfl (fill_pj _ _ _)) rfl) ?_
    refine aL 6 rfl (sA rfl rfl sz_172 (by repeat (first|exact KY _|exact Kc _ _ _|exact Ka _|exact Kb _ _ _|exact Kd _ _ _|exact KN|refine KL rfl ?_|refine KM ?_ ?_)) (hl:=by first|exact KD _|exact KF _ _ _|exact KE _|exact KJ _ _ _|exact KT _ _ _|rfl|simp [KF,KD,KE]) (h:=?_))
    refine aE ?_
    refine KO ?_
    refine ⟨[_],.cons ⟨_,_,_,rfl,(by repeat (first|exact Mh _|apply Mt)),by exact KG Try.underlying172 rfl sz_172⟩ .nil,fun a w' hr=>⟨?_,hr.fr.below⟩⟩
    show _ = Ending.returned (pjV x.val y.val (1:Fin V.p).val)
    rw [fin_one (show 1<V.p from hok.prime.1)]
    rfl
theorem c_Plain (V:Cv) (b f bd:Nat) (hok:V.Ok) (X Y Z:Fin V.p) (w:World) (hb:(Item.blk b ⟨false,opL V f,129,(0,0)⟩).holds w) (hf:(Item.blk f ⟨false,fldL V.p bd,162,(0,0)⟩).holds w) (hbd:(Item.blk bd ⟨false,dvL V.p,212,(0,0)⟩).holds w):Calls Try.prog 124 ([.pointer (some ⟨b,0,none⟩),pjV X.val Y.val Z.val]:List Value).toArray w (fun e w'=>e = .returned (ptP (plainP X Y Z))∧Below w.heap.size w w'):=by
  have hbb:=hok.bounds
  have hpW:V.p<W9:=KAF hbb.2.1
  refine Kf (N:=35) (rs:=[.cell 4 35]) [.blk b ⟨false,opL V f,129,(0,0)⟩,.blk f ⟨false,fldL V.p bd,162,(0,0)⟩,.blk bd ⟨false,dvL V.p,212,(0,0)⟩] Try.func124 rfl Try.ntmps124 Try.results124 (Nb rfl) ⟨hb,hf,hbd,trivial⟩ rfl ?_
  show LCode _ _ _ ⟨_,_⟩ _
  refine KB (KA ?_)
  refine oS (mB (fun b3=>?_))
  refine oS (mk (KS zr_35) (fun b4=>?_))
  refine KC ?_
  refine KB ?_
  refine KB ?_
  by_cases hz:Z = 0
  ·
    refine KA ?_
    refine oP (KI (o':=18) Try.underlying172 rfl rfl rfl sz_33 (by decide)) ?_
    refine oD (dL rfl (hv:=by exact pj_ld2 _ _ _ _ _ _)) ?_
    refine oP (KK (Kw pl_33 zr_33 rfl rfl) (show _ = natV 0 by unfold natV natL; rw [← vec_zeros 9])) ?_
    refine oP (KK (Det.eqa (by kernel_rfl) (fun w=>eq_nat Z.val 0 (Nat.lt_trans Z.isLt hpW) zero_w9 10000 (by decide) w) rfl rfl) (show _ = Value.bool true by rw [decide_eq_true (by rw [hz]; rfl)])) ?_
    refine KC ?_
    refine Ke rfl ?_
    refine KB (KA ?_)
    refine oP (KK (Kw pl_35 zr_35 rfl fill_ptInf) rfl) ?_
    refine KU rfl (sA rfl rfl sz_35 (by repeat (first|exact KY _|exact Kc _ _ _|exact Ka _|exact Kb _ _ _|exact Kd _ _ _|exact KN|refine KL rfl ?_|refine KM ?_ ?_)) (hl:=by first|exact KD _|exact KF _ _ _|exact KE _|exact KJ _ _ _|exact KT _ _ _|rfl|simp [KF,KD,KE]) (h:=?_))
    refine KC (KO ?_)
    refine ⟨[_],.cons ⟨_,_,_,rfl,(by repeat (first|exact Mh _|apply Mt)),by exact KG Try.underlying35 rfl sz_35⟩ .nil,fun a w' hr=>⟨?_,hr.fr.below⟩⟩
    rw [hz,plain_inf]
    rfl
  ·
    refine KA ?_
    refine oP (KI (o':=18) Try.underlying172 rfl rfl rfl sz_33 (by decide)) ?_
    refine oD (dL rfl (hv:=by exact pj_ld2 _ _ _ _ _ _)) ?_
    refine oP (KK (Kw pl_33 zr_33 rfl rfl) (show _ = natV 0 by unfold natV natL; rw [← vec_zeros 9])) ?_
    refine oP (KK (Det.eqa (by kernel_rfl) (fun w=>eq_nat Z.val 0 (Nat.lt_trans Z.isLt hpW) zero_w9 10000 (by decide) w) rfl rfl) (show _ = Value.bool false by rw [decide_eq_false (show ¬ Z.val = 0 from fun e=>hz (Fin.ext e))])) ?_
    refine KC ?_
    refine KQ rfl ?_
    refine KR ?_
    refine KB ?_
    refine rD [8] ?_
    refine aM 0 ?_
    refine aP 1 rfl (KP rfl) ?_
    refine aP 2 rfl (KI (o':=59) Try.underlying129 rfl rfl rfl sz_127 (by decide)) ?_
    refine aD 3 rfl (dL rfl (hv:=KW Try.underlying127 rfl (by exact cvC_gt_F _ _ _ _ _ _ _ _ _ _ _ _ _))) ?_
    refine aP 4 rfl (KI (o':=18) Try.underlying172 rfl rfl rfl sz_33 (by decide)) ?_
    refine aD 5 rfl (dL rfl (hv:=by exact pj_ld2 _ _ _ _ _ _)) ?_
    refine LAny.toP ?_
    refine KAD 7 rfl (.inl zr_33) (Nb rfl) rfl rfl rfl ?_
    refine Ko 6 rfl rfl rfl (Nb rfl) (by kernel_rfl) rfl (Ks (first:=[]) rfl en_136 rfl (fun w hw=>c_F_Inv V hok f bd _ w (mC hw))) ?_
    rintro _ _ ⟨rfl,rfl⟩
    refine pE (fun b5=>?_)
    refine KAP ?_
    refine aL 8 rfl (sA rfl rfl sz_33 (by repeat (first|exact KY _|exact Kc _ _ _|exact Ka _|exact Kb _ _ _|exact Kd _ _ _|exact KN|refine KL rfl ?_|refine KM ?_ ?_)) (hl:=by first|exact KD _|exact KF _ _ _|exact KE _|exact KJ _ _ _|exact KT _ _ _|rfl|simp [KF,KD,KE]) (h:=?_))
    refine aE ?_
    refine KB ?_
    refine rD [17] ?_
    refine aM 0 ?_
    refine aP 1 rfl (KP rfl) ?_
    refine aP 2 rfl (KI (o':=59) Try.underlying129 rfl rfl rfl sz_127 (by decide)) ?_
    refine aD 3 rfl (dL rfl (hv:=KW Try.underlying127 rfl (by exact cvC_gt_F _ _ _ _ _ _ _ _ _ _ _ _ _))) ?_
    refine aP 4 rfl (KI (o':=0) Try.underlying172 rfl rfl rfl sz_33 (by decide)) ?_
    refine aD 5 rfl (dL rfl (hv:=by exact KAC Try.underlying33 rfl sz_33 rfl (KD _))) ?_
    refine aD 6 rfl (dL rfl (hv:=by exact KG Try.underlying33 rfl sz_33)) ?_
    refine aM 8 ?_
    refine aP 9 rfl (KP rfl) ?_
    refine aP 10 rfl (KI (o':=59) Try.underlying129 rfl rfl rfl sz_127 (by decide)) ?_
    refine aD 11 rfl (dL rfl (hv:=KW Try.underlying127 rfl (by exact cvC_gt_F _ _ _ _ _ _ _ _ _ _ _ _ _))) ?_
    refine aP 12 rfl (KI (o':=9) Try.underlying172 rfl rfl rfl sz_33 (by decide)) ?_
    refine aD 13 rfl (dL rfl (hv:=by exact LoadV.mid Try.underlying33 rfl sz_33 rfl (KD _) (KD _))) ?_
    refine aD 14 rfl (dL rfl (hv:=by exact KG Try.underlying33 rfl sz_33)) ?_
    refine aO 7 rfl (cF rfl en_120 rfl (fun w hw=>c_F_Mul V hok f bd _ _ w (mC hw) (mC hw)) ?_)
    refine aO 15 rfl (cF rfl en_120 rfl (fun w hw=>c_F_Mul V hok f bd _ _ w (mC hw) (mC hw)) ?_)
    refine aP 16 rfl (KK (Kw pl_35 zr_35 rfl (fill_pt _ _)) rfl) ?_
    refine aL 17 rfl (sA rfl rfl sz_35 (by repeat (first|exact KY _|exact Kc _ _ _|exact Ka _|exact Kb _ _ _|exact Kd _ _ _|exact KN|refine KL rfl ?_|refine KM ?_ ?_)) (hl:=by first|exact KD _|exact KF _ _ _|exact KE _|exact KJ _ _ _|exact KT _ _ _|rfl|simp [KF,KD,KE]) (h:=?_))
    refine aE ?_
    refine KO ?_
    refine ⟨[_],.cons ⟨_,_,_,rfl,(by repeat (first|exact Mh _|apply Mt)),by exact KG Try.underlying35 rfl sz_35⟩ .nil,fun a w' hr=>⟨?_,hr.fr.below⟩⟩
    rw [plain_aff hz]
    rfl
theorem c_Sum (V:Cv) (b f bd:Nat) (hok:V.Ok) (X1 Y1 Z1 X2 Y2 Z2:Fin V.p) (w:World) (hb:(Item.blk b ⟨false,opL V f,129,(0,0)⟩).holds w) (hf:(Item.blk f ⟨false,fldL V.p bd,162,(0,0)⟩).holds w) (hbd:(Item.blk bd ⟨false,dvL V.p,212,(0,0)⟩).holds w):Calls Try.prog 125 ([.pointer (some ⟨b,0,none⟩),pjV X1.val Y1.val Z1.val,pjV X2.val Y2.val Z2.val]:List Value).toArray w (fun e w'=>e = .returned (pjF (sum3 V.A (V.B+V.B+V.B) X1 Y1 Z1 X2 Y2 Z2))∧Below w.heap.size w w'):=by
  have hbb:=hok.bounds
  have hpW:V.p<W9:=KAF hbb.2.1
  refine Kf (N:=213) (rs:=[.cell 6 172]) [.blk b ⟨false,opL V f,129,(0,0)⟩,.blk f ⟨false,fldL V.p bd,162,(0,0)⟩,.blk bd ⟨false,dvL V.p,212,(0,0)⟩] Try.func125 rfl Try.ntmps125 Try.results125 (Nb rfl) ⟨hb,hf,hbd,trivial⟩ rfl ?_
  show LCode _ _ _ ⟨_,_⟩ _
  refine KB (KA ?_)
  refine oS (mB (fun b4=>?_))
  refine oS (mB (fun b5=>?_))
  refine oS (mk (KS zr_172) (fun b6=>?_))
  refine KC ?_
  refine KB ?_
  refine rD [] ?_
  refine aM 0 ?_
  refine aP 1 rfl (KP rfl) ?_
  refine aP 2 rfl (KI (o':=59) Try.underlying129 rfl rfl rfl sz_127 (by decide)) ?_
  refine aD 3 rfl (dL rfl (hv:=KW Try.underlying127 rfl (by exact cvC_gt_F _ _ _ _ _ _ _ _ _ _ _ _ _))) ?_
  refine aP 4 rfl (Det.makeFunc1 rfl) ?_
  refine aM 5 ?_
  refine aP 6 rfl (KP rfl) ?_
  refine aP 7 rfl (KI (o':=59) Try.underlying129 rfl rfl rfl sz_127 (by decide)) ?_
  refine aD 8 rfl (dL rfl (hv:=KW Try.underlying127 rfl (by exact cvC_gt_F _ _ _ _ _ _ _ _ _ _ _ _ _))) ?_
  refine aP 9 rfl (Det.makeFunc1 rfl) ?_
  refine aM 10 ?_
  refine aP 11 rfl (KP rfl) ?_
  refine aP 12 rfl (KI (o':=59) Try.underlying129 rfl rfl rfl sz_127 (by decide)) ?_
  refine aD 13 rfl (dL rfl (hv:=KW Try.underlying127 rfl (by exact cvC_gt_F _ _ _ _ _ _ _ _ _ _ _ _ _))) ?_
  refine aP 14 rfl (Det.makeFunc1 rfl) ?_
  refine aA 15 ?_
  refine aA 16 ?_
  refine aA 17 ?_
  refine aE ?_
  refine KB ?_
  refine rD [21,22,23] ?_
  refine aM 0 ?_
  refine aP 1 rfl (KI (o':=0) Try.underlying172 rfl rfl rfl sz_33 (by decide)) ?_
  refine aD 2 rfl (dL rfl (hv:=by exact KAC Try.underlying33 rfl sz_33 rfl (KD _))) ?_
  refine aP 3 rfl (KI (o':=0) Try.underlying172 rfl rfl rfl sz_33 (by decide)) ?_
  refine aD 4 rfl (dL rfl (hv:=by exact KAC Try.underlying33 rfl sz_33 rfl (KD _))) ?_
  refine aM 6 ?_
  refine aP 7 rfl (KI (o':=9) Try.underlying172 rfl rfl rfl sz_33 (by decide)) ?_
  refine aP 9 rfl (KI (o':=9) Try.underlying172 rfl rfl rfl sz_33 (by decide)) ?_
  refine aM 12 ?_
  refine aP 13 rfl (KI (o':=18) Try.underlying172 rfl rfl rfl sz_33 (by decide)) ?_
  refine aP 15 rfl (KI (o':=18) Try.underlying172 rfl rfl rfl sz_33 (by decide)) ?_
  refine KAb [11,17,21,22,23] 8 rfl (by kernel_rfl) (Nb rfl) (dL rfl (hv:=by exact LoadV.mid Try.underlying33 rfl sz_33 rfl (KD _) (KD _))) ?_
  refine KAb [11,17,21,22,23] 10 rfl (by kernel_rfl) (Nb rfl) (dL rfl (hv:=by exact LoadV.mid Try.underlying33 rfl sz_33 rfl (KD _) (KD _))) ?_
  refine KAb [17,21,22,23] 14 rfl (by kernel_rfl) (Nb rfl) (dL rfl (hv:=by exact pj_ld2 _ _ _ _ _ _)) ?_
  refine KAb [17,21,22,23] 16 rfl (by kernel_rfl) (Nb rfl) (dL rfl (hv:=by exact pj_ld2 _ _ _ _ _ _)) ?_
  refine LAny.toP ?_
  refine KAD 18 rfl (.inl zr_33) (Nb rfl) rfl rfl rfl ?_
  refine KAD 19 rfl (.inl zr_33) (Nb rfl) rfl rfl rfl ?_
  refine KAD 20 rfl (.inl zr_33) (Nb rfl) rfl rfl rfl ?_
  refine Ko 5 rfl rfl rfl (Nb rfl) (by kernel_rfl) rfl (Ks (first:=[_]) rfl en_120 rfl (fun w hw=>c_F_Mul V hok f bd _ _ w (mC hw) (mC hw))) ?_
  rintro _ _ ⟨rfl,rfl⟩
  refine Ko 11 rfl rfl rfl (Nb rfl) (by kernel_rfl) rfl (Ks (first:=[_]) rfl en_120 rfl (fun w hw=>c_F_Mul V hok f bd _ _ w (mC hw) (mC hw))) ?_
  rintro _ _ ⟨rfl,rfl⟩
  refine Ko 17 rfl rfl rfl (Nb rfl) (by kernel_rfl) rfl (Ks (first:=[_]) rfl en_120 rfl (fun w hw=>c_F_Mul V hok f bd _ _ w (mC hw) (mC hw))) ?_
  rintro _ _ ⟨rfl,rfl⟩
  refine pE (fun b12=>?_)
  refine pE (fun b11=>?_)
  refine pE (fun b10=>?_)
  refine KAP ?_
  refine aL 21 rfl (sA rfl rfl sz_33 (by repeat (first|exact KY _|exact Kc _ _ _|exact Ka _|exact Kb _ _ _|exact Kd _ _ _|exact KN|refine KL rfl ?_|refine KM ?_ ?_)) (hl:=by first|exact KD _|exact KF _ _ _|exact KE _|exact KJ _ _ _|exact KT _ _ _|rfl|simp [KF,KD,KE]) (h:=?_))
  refine aL 22 rfl (sA rfl rfl sz_33 (by repeat (first|exact KY _|exact Kc _ _ _|exact Ka _|exact Kb _ _ _|exact Kd _ _ _|exact KN|refine KL rfl ?_|refine KM ?_ ?_)) (hl:=by first|exact KD _|exact KF _ _ _|exact KE _|exact KJ _ _ _|exact KT _ _ _|rfl|simp [KF,KD,KE]) (h:=?_))
  refine aL 23 rfl (sA rfl rfl sz_33 (by repeat (first|exact KY _|exact Kc _ _ _|exact Ka _|exact Kb _ _ _|exact Kd _ _ _|exact KN|refine KL rfl ?_|refine KM ?_ ?_)) (hl:=by first|exact KD _|exact KF _ _ _|exact KE _|exact KJ _ _ _|exact KT _ _ _|rfl|simp [KF,KD,KE]) (h:=?_))
  refine aE ?_
  refine KB ?_
  refine rD [21] ?_
  refine aM 0 ?_
  refine aM 1 ?_
  refine aM 2 ?_
  refine aP 3 rfl (KI (o':=0) Try.underlying172 rfl rfl rfl sz_33 (by decide)) ?_
  refine aD 4 rfl (dL rfl (hv:=by exact KAC Try.underlying33 rfl sz_33 rfl (KD _))) ?_
  refine aP 5 rfl (KI (o':=9) Try.underlying172 rfl rfl rfl sz_33 (by decide)) ?_
  refine aD 6 rfl (dL rfl (hv:=by exact LoadV.mid Try.underlying33 rfl sz_33 rfl (KD _) (KD _))) ?_
  refine aM 8 ?_
  refine aP 9 rfl (KI (o':=0) Try.underlying172 rfl rfl rfl sz_33 (by decide)) ?_
  refine aD 10 rfl (dL rfl (hv:=by exact KAC Try.underlying33 rfl sz_33 rfl (KD _))) ?_
  refine aP 11 rfl (KI (o':=9) Try.underlying172 rfl rfl rfl sz_33 (by decide)) ?_
  refine aD 12 rfl (dL rfl (hv:=by exact LoadV.mid Try.underlying33 rfl sz_33 rfl (KD _) (KD _))) ?_
  refine aM 15 ?_
  refine aD 16 rfl (dL rfl (hv:=by exact KG Try.underlying33 rfl sz_33)) ?_
  refine aD 17 rfl (dL rfl (hv:=by exact KG Try.underlying33 rfl sz_33)) ?_
  refine LAny.toP ?_
  refine KAD 20 rfl (.inl zr_33) (Nb rfl) rfl rfl rfl ?_
  refine Ko 7 rfl rfl rfl (Nb rfl) (by kernel_rfl) rfl (Ks (first:=[_]) rfl en_118 rfl (fun w hw=>c_F_Add V hok f bd _ _ w (mC hw))) ?_
  rintro _ _ ⟨rfl,rfl⟩
  refine Ko 13 rfl rfl rfl (Nb rfl) (by kernel_rfl) rfl (Ks (first:=[_]) rfl en_118 rfl (fun w hw=>c_F_Add V hok f bd _ _ w (mC hw))) ?_
  rintro _ _ ⟨rfl,rfl⟩
  refine Ko 14 rfl rfl rfl (Nb rfl) (by kernel_rfl) rfl (Ks (first:=[_]) rfl en_120 rfl (fun w hw=>c_F_Mul V hok f bd _ _ w (mC hw) (mC hw))) ?_
  rintro _ _ ⟨rfl,rfl⟩
  refine Ko 18 rfl rfl rfl (Nb rfl) (by kernel_rfl) rfl (Ks (first:=[_]) rfl en_118 rfl (fun w hw=>c_F_Add V hok f bd _ _ w (mC hw))) ?_
  rintro _ _ ⟨rfl,rfl⟩
  refine Ko 19 rfl rfl rfl (Nb rfl) (by kernel_rfl) rfl (Ks (first:=[_]) rfl en_130 rfl (fun w hw=>c_F_Sub V hok f bd _ _ w (mC hw))) ?_
  rintro _ _ ⟨rfl,rfl⟩
  refine pE (fun b13=>?_)
  refine KAP ?_
  refine aL 21 rfl (sA rfl rfl sz_33 (by repeat (first|exact KY _|exact Kc _ _ _|exact Ka _|exact Kb _ _ _|exact Kd _ _ _|exact KN|refine KL rfl ?_|refine KM ?_ ?_)) (hl:=by first|exact KD _|exact KF _ _ _|exact KE _|exact KJ _ _ _|exact KT _ _ _|rfl|simp [KF,KD,KE]) (h:=?_))
  refine aE ?_
  refine KB ?_
  refine rD [21] ?_
  refine aM 0 ?_
  refine aM 1 ?_
  refine aM 2 ?_
  refine aP 3 rfl (KI (o':=0) Try.underlying172 rfl rfl rfl sz_33 (by decide)) ?_
  refine aD 4 rfl (dL rfl (hv:=by exact KAC Try.underlying33 rfl sz_33 rfl (KD _))) ?_
  refine aP 5 rfl (KI (o':=18) Try.underlying172 rfl rfl rfl sz_33 (by decide)) ?_
  refine aD 6 rfl (dL rfl (hv:=by exact pj_ld2 _ _ _ _ _ _)) ?_
  refine aM 8 ?_
  refine aP 9 rfl (KI (o':=0) Try.underlying172 rfl rfl rfl sz_33 (by decide)) ?_
  refine aD 10 rfl (dL rfl (hv:=by exact KAC Try.underlying33 rfl sz_33 rfl (KD _))) ?_
  refine aP 11 rfl (KI (o':=18) Try.underlying172 rfl rfl rfl sz_33 (by decide)) ?_
  refine aD 12 rfl (dL rfl (hv:=by exact pj_ld2 _ _ _ _ _ _)) ?_
  refine aM 15 ?_
  refine aD 16 rfl (dL rfl (hv:=by exact KG Try.underlying33 rfl sz_33)) ?_
  refine aD 17 rfl (dL rfl (hv:=by exact KG Try.underlying33 rfl sz_33)) ?_
  refine LAny.toP ?_
  refine KAD 20 rfl (.inl zr_33) (Nb rfl) rfl rfl rfl ?_
  refine Ko 7 rfl rfl rfl (Nb rfl) (by kernel_rfl) rfl (Ks (first:=[_]) rfl en_118 rfl (fun w hw=>c_F_Add V hok f bd _ _ w (mC hw))) ?_
  rintro _ _ ⟨rfl,rfl⟩
  refine Ko 13 rfl rfl rfl (Nb rfl) (by kernel_rfl) rfl (Ks (first:=[_]) rfl en_118 rfl (fun w hw=>c_F_Add V hok f bd _ _ w (mC hw))) ?_
  rintro _ _ ⟨rfl,rfl⟩
  refine Ko 14 rfl rfl rfl (Nb rfl) (by kernel_rfl) rfl (Ks (first:=[_]) rfl en_120 rfl (fun w hw=>c_F_Mul V hok f bd _ _ w (mC hw) (mC hw))) ?_
  rintro _ _ ⟨rfl,rfl⟩
  refine Ko 18 rfl rfl rfl (Nb rfl) (by kernel_rfl) rfl (Ks (first:=[_]) rfl en_118 rfl (fun w hw=>c_F_Add V hok f bd _ _ w (mC hw))) ?_
  rintro _ _ ⟨rfl,rfl⟩
  refine Ko 19 rfl rfl rfl (Nb rfl) (by kernel_rfl) rfl (Ks (first:=[_]) rfl en_130 rfl (fun w hw=>c_F_Sub V hok f bd _ _ w (mC hw))) ?_
  rintro _ _ ⟨rfl,rfl⟩
  refine pE (fun b14=>?_)
  refine KAP ?_
  refine aL 21 rfl (sA rfl rfl sz_33 (by repeat (first|exact KY _|exact Kc _ _ _|exact Ka _|exact Kb _ _ _|exact Kd _ _ _|exact KN|refine KL rfl ?_|refine KM ?_ ?_)) (hl:=by first|exact KD _|exact KF _ _ _|exact KE _|exact KJ _ _ _|exact KT _ _ _|rfl|simp [KF,KD,KE]) (h:=?_))
  refine aE ?_
  refine KB ?_
  refine rD [21] ?_
  refine aM 0 ?_
  refine aM 1 ?_
  refine aM 2 ?_
  refine aP 3 rfl (KI (o':=9) Try.underlying172 rfl rfl rfl sz_33 (by decide)) ?_
  refine aD 4 rfl (dL rfl (hv:=by exact LoadV.mid Try.underlying33 rfl sz_33 rfl (KD _) (KD _))) ?_
  refine aP 5 rfl (KI (o':=18) Try.underlying172 rfl rfl rfl sz_33 (by decide)) ?_
  refine aD 6 rfl (dL rfl (hv:=by exact pj_ld2 _ _ _ _ _ _)) ?_
  refine aM 8 ?_
  refine aP 9 rfl (KI (o':=9) Try.underlying172 rfl rfl rfl sz_33 (by decide)) ?_
  refine aD 10 rfl (dL rfl (hv:=by exact LoadV.mid Try.underlying33 rfl sz_33 rfl (KD _) (KD _))) ?_
  refine aP 11 rfl (KI (o':=18) Try.underlying172 rfl rfl rfl sz_33 (by decide)) ?_
  refine aD 12 rfl (dL rfl (hv:=by exact pj_ld2 _ _ _ _ _ _)) ?_
  refine aM 15 ?_
  refine aD 16 rfl (dL rfl (hv:=by exact KG Try.underlying33 rfl sz_33)) ?_
  refine aD 17 rfl (dL rfl (hv:=by exact KG Try.underlying33 rfl sz_33)) ?_
  refine LAny.toP ?_
  refine KAD 20 rfl (.inl zr_33) (Nb rfl) rfl rfl rfl ?_
  refine Ko 7 rfl rfl rfl (Nb rfl) (by kernel_rfl) rfl (Ks (first:=[_]) rfl en_118 rfl (fun w hw=>c_F_Add V hok f bd _ _ w (mC hw))) ?_
  rintro _ _ ⟨rfl,rfl⟩
  refine Ko 13 rfl rfl rfl (Nb rfl) (by kernel_rfl) rfl (Ks (first:=[_]) rfl en_118 rfl (fun w hw=>c_F_Add V hok f bd _ _ w (mC hw))) ?_
  rintro _ _ ⟨rfl,rfl⟩
  refine Ko 14 rfl rfl rfl (Nb rfl) (by kernel_rfl) rfl (Ks (first:=[_]) rfl en_120 rfl (fun w hw=>c_F_Mul V hok f bd _ _ w (mC hw) (mC hw))) ?_
  rintro _ _ ⟨rfl,rfl⟩
  refine Ko 18 rfl rfl rfl (Nb rfl) (by kernel_rfl) rfl (Ks (first:=[_]) rfl en_118 rfl (fun w hw=>c_F_Add V hok f bd _ _ w (mC hw))) ?_
  rintro _ _ ⟨rfl,rfl⟩
  refine Ko 19 rfl rfl rfl (Nb rfl) (by kernel_rfl) rfl (Ks (first:=[_]) rfl en_130 rfl (fun w hw=>c_F_Sub V hok f bd _ _ w (mC hw))) ?_
  rintro _ _ ⟨rfl,rfl⟩
  refine pE (fun b15=>?_)
  refine KAP ?_
  refine aL 21 rfl (sA rfl rfl sz_33 (by repeat (first|exact KY _|exact Kc _ _ _|exact Ka _|exact Kb _ _ _|exact Kd _ _ _|exact KN|refine KL rfl ?_|refine KM ?_ ?_)) (hl:=by first|exact KD _|exact KF _ _ _|exact KE _|exact KJ _ _ _|exact KT _ _ _|rfl|simp [KF,KD,KE]) (h:=?_))
  refine aE ?_
  refine KB ?_
  refine rD [18] ?_
  refine aM 0 ?_
  refine aM 1 ?_
  refine aM 2 ?_
  refine aP 3 rfl (KP rfl) ?_
  refine aP 4 rfl (KI (o':=60) Try.underlying129 rfl rfl rfl sz_33 (by decide)) ?_
  refine aD 5 rfl (Det.cast (dL rfl (hv:=by exact cvC_ld_t3 _ _ _ _ _ _ _ _ _ _ _ _ _ _ _ _)) (t_val hok)) ?_
  refine aD 6 rfl (dL rfl (hv:=by exact KG Try.underlying33 rfl sz_33)) ?_
  refine aM 8 ?_
  refine aM 9 ?_
  refine aP 10 rfl (KP rfl) ?_
  refine aP 11 rfl (KI (o':=0) Try.underlying129 rfl rfl rfl KAS (by decide)) ?_
  refine aP 12 rfl (KI (o':=10) Try.underlying126 rfl rfl rfl sz_33 (by decide)) ?_
  refine aD 13 rfl (Det.cast (dL rfl (hv:=by exact cvC_ld_a _ _ _ _ _ _ _ _ _ _ _ _ _ _ _ _)) (a_val hok)) ?_
  refine aD 14 rfl (dL rfl (hv:=by exact KG Try.underlying33 rfl sz_33)) ?_
  refine LAny.toP ?_
  refine KAD 17 rfl (.inl zr_33) (Nb rfl) rfl rfl rfl ?_
  refine Ko 7 rfl rfl rfl (Nb rfl) (by kernel_rfl) rfl (Ks (first:=[_]) rfl en_120 rfl (fun w hw=>c_F_Mul V hok f bd _ _ w (mC hw) (mC hw))) ?_
  rintro _ _ ⟨rfl,rfl⟩
  refine Ko 15 rfl rfl rfl (Nb rfl) (by kernel_rfl) rfl (Ks (first:=[_]) rfl en_120 rfl (fun w hw=>c_F_Mul V hok f bd _ _ w (mC hw) (mC hw))) ?_
  rintro _ _ ⟨rfl,rfl⟩
  refine Ko 16 rfl rfl rfl (Nb rfl) (by kernel_rfl) rfl (Ks (first:=[_]) rfl en_118 rfl (fun w hw=>c_F_Add V hok f bd _ _ w (mC hw))) ?_
  rintro _ _ ⟨rfl,rfl⟩
  refine pE (fun b16=>?_)
  refine KAP ?_
  refine aL 18 rfl (sA rfl rfl sz_33 (by repeat (first|exact KY _|exact Kc _ _ _|exact Ka _|exact Kb _ _ _|exact Kd _ _ _|exact KN|refine KL rfl ?_|refine KM ?_ ?_)) (hl:=by first|exact KD _|exact KF _ _ _|exact KE _|exact KJ _ _ _|exact KT _ _ _|rfl|simp [KF,KD,KE]) (h:=?_))
  refine aE ?_
  refine KB (KA ?_)
  refine oM ?_
  refine oD (dL rfl (hv:=by exact KG Try.underlying33 rfl sz_33)) ?_
  refine oD (dL rfl (hv:=by exact KG Try.underlying33 rfl sz_33)) ?_
  refine oS (KAL (first:=[_]) rfl en_130 rfl (Nb rfl) (fun w hw=>c_F_Sub V hok f bd _ _ w (mC hw)) ?_)
  refine oS (mk (KS zr_33) (fun b17=>?_))
  refine KU rfl (sA rfl rfl sz_33 (by repeat (first|exact KY _|exact Kc _ _ _|exact Ka _|exact Kb _ _ _|exact Kd _ _ _|exact KN|refine KL rfl ?_|refine KM ?_ ?_)) (hl:=by first|exact KD _|exact KF _ _ _|exact KE _|exact KJ _ _ _|exact KT _ _ _|rfl|simp [KF,KD,KE]) (h:=?_))
  refine KC ?_
  refine KB (KA ?_)
  refine oM ?_
  refine oD (dL rfl (hv:=by exact KG Try.underlying33 rfl sz_33)) ?_
  refine oD (dL rfl (hv:=by exact KG Try.underlying33 rfl sz_33)) ?_
  refine oS (KAL (first:=[_]) rfl en_118 rfl (Nb rfl) (fun w hw=>c_F_Add V hok f bd _ _ w (mC hw)) ?_)
  refine KU rfl (sA rfl rfl sz_33 (by repeat (first|exact KY _|exact Kc _ _ _|exact Ka _|exact Kb _ _ _|exact Kd _ _ _|exact KN|refine KL rfl ?_|refine KM ?_ ?_)) (hl:=by first|exact KD _|exact KF _ _ _|exact KE _|exact KJ _ _ _|exact KT _ _ _|rfl|simp [KF,KD,KE]) (h:=?_))
  refine KC ?_
  refine KB (KA ?_)
  refine oM ?_
  refine oD (dL rfl (hv:=by exact KG Try.underlying33 rfl sz_33)) ?_
  refine oD (dL rfl (hv:=by exact KG Try.underlying33 rfl sz_33)) ?_
  refine oS (KAL (first:=[_]) rfl en_120 rfl (Nb rfl) (fun w hw=>c_F_Mul V hok f bd _ _ w (mC hw) (mC hw)) ?_)
  refine oS (mk (KS zr_33) (fun b18=>?_))
  refine KU rfl (sA rfl rfl sz_33 (by repeat (first|exact KY _|exact Kc _ _ _|exact Ka _|exact Kb _ _ _|exact Kd _ _ _|exact KN|refine KL rfl ?_|refine KM ?_ ?_)) (hl:=by first|exact KD _|exact KF _ _ _|exact KE _|exact KJ _ _ _|exact KT _ _ _|rfl|simp [KF,KD,KE]) (h:=?_))
  refine KC ?_
  refine KB ?_
  refine rD [7] ?_
  refine aM 0 ?_
  refine aM 1 ?_
  refine aD 2 rfl (dL rfl (hv:=by exact KG Try.underlying33 rfl sz_33)) ?_
  refine aD 3 rfl (dL rfl (hv:=by exact KG Try.underlying33 rfl sz_33)) ?_
  refine aD 5 rfl (dL rfl (hv:=by exact KG Try.underlying33 rfl sz_33)) ?_
  refine aO 4 rfl (KAL (first:=[_]) rfl en_118 rfl (Nb rfl) (fun w hw=>c_F_Add V hok f bd _ _ w (mC hw)) ?_)
  refine aO 6 rfl (KAL (first:=[_]) rfl en_118 rfl (Nb rfl) (fun w hw=>c_F_Add V hok f bd _ _ w (mC hw)) ?_)
  refine aL 7 rfl (sA rfl rfl sz_33 (by repeat (first|exact KY _|exact Kc _ _ _|exact Ka _|exact Kb _ _ _|exact Kd _ _ _|exact KN|refine KL rfl ?_|refine KM ?_ ?_)) (hl:=by first|exact KD _|exact KF _ _ _|exact KE _|exact KJ _ _ _|exact KT _ _ _|rfl|simp [KF,KD,KE]) (h:=?_))
  refine aE ?_
  refine KB ?_
  refine rD [8] ?_
  refine aM 0 ?_
  refine aM 1 ?_
  refine aP 2 rfl (KP rfl) ?_
  refine aP 3 rfl (KI (o':=0) Try.underlying129 rfl rfl rfl KAS (by decide)) ?_
  refine aP 4 rfl (KI (o':=10) Try.underlying126 rfl rfl rfl sz_33 (by decide)) ?_
  refine aD 5 rfl (Det.cast (dL rfl (hv:=by exact cvC_ld_a _ _ _ _ _ _ _ _ _ _ _ _ _ _ _ _)) (a_val hok)) ?_
  refine aD 6 rfl (dL rfl (hv:=by exact KG Try.underlying33 rfl sz_33)) ?_
  refine aO 7 rfl (KAL (first:=[_]) rfl en_120 rfl (Nb rfl) (fun w hw=>c_F_Mul V hok f bd _ _ w (mC hw) (mC hw)) ?_)
  refine aL 8 rfl (sA rfl rfl sz_33 (by repeat (first|exact KY _|exact Kc _ _ _|exact Ka _|exact Kb _ _ _|exact Kd _ _ _|exact KN|refine KL rfl ?_|refine KM ?_ ?_)) (hl:=by first|exact KD _|exact KF _ _ _|exact KE _|exact KJ _ _ _|exact KT _ _ _|rfl|simp [KF,KD,KE]) (h:=?_))
  refine aE ?_
  refine KB ?_
  refine rD [7] ?_
  refine aM 0 ?_
  refine aM 1 ?_
  refine aP 2 rfl (KP rfl) ?_
  refine aP 3 rfl (KI (o':=60) Try.underlying129 rfl rfl rfl sz_33 (by decide)) ?_
  refine aD 4 rfl (Det.cast (dL rfl (hv:=by exact cvC_ld_t3 _ _ _ _ _ _ _ _ _ _ _ _ _ _ _ _)) (t_val hok)) ?_
  refine aD 5 rfl (dL rfl (hv:=by exact KG Try.underlying33 rfl sz_33)) ?_
  refine aO 6 rfl (KAL (first:=[_]) rfl en_120 rfl (Nb rfl) (fun w hw=>c_F_Mul V hok f bd _ _ w (mC hw) (mC hw)) ?_)
  refine aL 7 rfl (sA rfl rfl sz_33 (by repeat (first|exact KY _|exact Kc _ _ _|exact Ka _|exact Kb _ _ _|exact Kd _ _ _|exact KN|refine KL rfl ?_|refine KM ?_ ?_)) (hl:=by first|exact KD _|exact KF _ _ _|exact KE _|exact KJ _ _ _|exact KT _ _ _|rfl|simp [KF,KD,KE]) (h:=?_))
  refine aE ?_
  refine KB (KA ?_)
  refine oM ?_
  refine oD (dL rfl (hv:=by exact KG Try.underlying33 rfl sz_33)) ?_
  refine oD (dL rfl (hv:=by exact KG Try.underlying33 rfl sz_33)) ?_
  refine oS (KAL (first:=[_]) rfl en_118 rfl (Nb rfl) (fun w hw=>c_F_Add V hok f bd _ _ w (mC hw)) ?_)
  refine KU rfl (sA rfl rfl sz_33 (by repeat (first|exact KY _|exact Kc _ _ _|exact Ka _|exact Kb _ _ _|exact Kd _ _ _|exact KN|refine KL rfl ?_|refine KM ?_ ?_)) (hl:=by first|exact KD _|exact KF _ _ _|exact KE _|exact KJ _ _ _|exact KT _ _ _|rfl|simp [KF,KD,KE]) (h:=?_))
  refine KC ?_
  refine KB ?_
  refine rD [11] ?_
  refine aM 0 ?_
  refine aM 1 ?_
  refine aP 2 rfl (KP rfl) ?_
  refine aP 3 rfl (KI (o':=0) Try.underlying129 rfl rfl rfl KAS (by decide)) ?_
  refine aP 4 rfl (KI (o':=10) Try.underlying126 rfl rfl rfl sz_33 (by decide)) ?_
  refine aD 5 rfl (Det.cast (dL rfl (hv:=by exact cvC_ld_a _ _ _ _ _ _ _ _ _ _ _ _ _ _ _ _)) (a_val hok)) ?_
  refine aM 6 ?_
  refine aD 7 rfl (dL rfl (hv:=by exact KG Try.underlying33 rfl sz_33)) ?_
  refine aD 8 rfl (dL rfl (hv:=by exact KG Try.underlying33 rfl sz_33)) ?_
  refine aO 9 rfl (KAL (first:=[_]) rfl en_130 rfl (Nb rfl) (fun w hw=>c_F_Sub V hok f bd _ _ w (mC hw)) ?_)
  refine aO 10 rfl (KAL (first:=[_]) rfl en_120 rfl (Nb rfl) (fun w hw=>c_F_Mul V hok f bd _ _ w (mC hw) (mC hw)) ?_)
  refine aL 11 rfl (sA rfl rfl sz_33 (by repeat (first|exact KY _|exact Kc _ _ _|exact Ka _|exact Kb _ _ _|exact Kd _ _ _|exact KN|refine KL rfl ?_|refine KM ?_ ?_)) (hl:=by first|exact KD _|exact KF _ _ _|exact KE _|exact KJ _ _ _|exact KT _ _ _|rfl|simp [KF,KD,KE]) (h:=?_))
  refine aE ?_
  refine KB (KA ?_)
  refine oM ?_
  refine oD (dL rfl (hv:=by exact KG Try.underlying33 rfl sz_33)) ?_
  refine oD (dL rfl (hv:=by exact KG Try.underlying33 rfl sz_33)) ?_
  refine oS (KAL (first:=[_]) rfl en_118 rfl (Nb rfl) (fun w hw=>c_F_Add V hok f bd _ _ w (mC hw)) ?_)
  refine KU rfl (sA rfl rfl sz_33 (by repeat (first|exact KY _|exact Kc _ _ _|exact Ka _|exact Kb _ _ _|exact Kd _ _ _|exact KN|refine KL rfl ?_|refine KM ?_ ?_)) (hl:=by first|exact KD _|exact KF _ _ _|exact KE _|exact KJ _ _ _|exact KT _ _ _|rfl|simp [KF,KD,KE]) (h:=?_))
  refine KC ?_
  refine KB ?_
  refine rD [7] ?_
  refine aM 0 ?_
  refine aD 1 rfl (dL rfl (hv:=by exact KG Try.underlying33 rfl sz_33)) ?_
  refine aM 2 ?_
  refine aD 3 rfl (dL rfl (hv:=by exact KG Try.underlying33 rfl sz_33)) ?_
  refine aD 4 rfl (dL rfl (hv:=by exact KG Try.underlying33 rfl sz_33)) ?_
  refine aO 5 rfl (KAL (first:=[_]) rfl en_120 rfl (Nb rfl) (fun w hw=>c_F_Mul V hok f bd _ _ w (mC hw) (mC hw)) ?_)
  refine aO 6 rfl (KAL (first:=[_]) rfl en_118 rfl (Nb rfl) (fun w hw=>c_F_Add V hok f bd _ _ w (mC hw)) ?_)
  refine aL 7 rfl (sA rfl rfl sz_33 (by repeat (first|exact KY _|exact Kc _ _ _|exact Ka _|exact Kb _ _ _|exact Kd _ _ _|exact KN|refine KL rfl ?_|refine KM ?_ ?_)) (hl:=by first|exact KD _|exact KF _ _ _|exact KE _|exact KJ _ _ _|exact KT _ _ _|rfl|simp [KF,KD,KE]) (h:=?_))
  refine aE ?_
  refine KB ?_
  refine rD [10] ?_
  refine aM 0 ?_
  refine aM 1 ?_
  refine aD 2 rfl (dL rfl (hv:=by exact KG Try.underlying33 rfl sz_33)) ?_
  refine aD 3 rfl (dL rfl (hv:=by exact KG Try.underlying33 rfl sz_33)) ?_
  refine aM 5 ?_
  refine aD 6 rfl (dL rfl (hv:=by exact KG Try.underlying33 rfl sz_33)) ?_
  refine aD 7 rfl (dL rfl (hv:=by exact KG Try.underlying33 rfl sz_33)) ?_
  refine aO 4 rfl (KAL (first:=[_]) rfl en_120 rfl (Nb rfl) (fun w hw=>c_F_Mul V hok f bd _ _ w (mC hw) (mC hw)) ?_)
  refine aO 8 rfl (KAL (first:=[_]) rfl en_120 rfl (Nb rfl) (fun w hw=>c_F_Mul V hok f bd _ _ w (mC hw) (mC hw)) ?_)
  refine aO 9 rfl (KAL (first:=[_]) rfl en_130 rfl (Nb rfl) (fun w hw=>c_F_Sub V hok f bd _ _ w (mC hw)) ?_)
  refine aL 10 rfl (sA rfl rfl sz_33 (by repeat (first|exact KY _|exact Kc _ _ _|exact Ka _|exact Kb _ _ _|exact Kd _ _ _|exact KN|refine KL rfl ?_|refine KM ?_ ?_)) (hl:=by first|exact KD _|exact KF _ _ _|exact KE _|exact KJ _ _ _|exact KT _ _ _|rfl|simp [KF,KD,KE]) (h:=?_))
  refine aE ?_
  refine KB ?_
  refine rD [10] ?_
  refine aM 0 ?_
  refine aM 1 ?_
  refine aD 2 rfl (dL rfl (hv:=by exact KG Try.underlying33 rfl sz_33)) ?_
  refine aD 3 rfl (dL rfl (hv:=by exact KG Try.underlying33 rfl sz_33)) ?_
  refine aM 5 ?_
  refine aD 6 rfl (dL rfl (hv:=by exact KG Try.underlying33 rfl sz_33)) ?_
  refine aD 7 rfl (dL rfl (hv:=by exact KG Try.underlying33 rfl sz_33)) ?_
  refine aO 4 rfl (KAL (first:=[_]) rfl en_120 rfl (Nb rfl) (fun w hw=>c_F_Mul V hok f bd _ _ w (mC hw) (mC hw)) ?_)
  refine aO 8 rfl (KAL (first:=[_]) rfl en_120 rfl (Nb rfl) (fun w hw=>c_F_Mul V hok f bd _ _ w (mC hw) (mC hw)) ?_)
  refine aO 9 rfl (KAL (first:=[_]) rfl en_118 rfl (Nb rfl) (fun w hw=>c_F_Add V hok f bd _ _ w (mC hw)) ?_)
  refine aL 10 rfl (sA rfl rfl sz_33 (by repeat (first|exact KY _|exact Kc _ _ _|exact Ka _|exact Kb _ _ _|exact Kd _ _ _|exact KN|refine KL rfl ?_|refine KM ?_ ?_)) (hl:=by first|exact KD _|exact KF _ _ _|exact KE _|exact KJ _ _ _|exact KT _ _ _|rfl|simp [KF,KD,KE]) (h:=?_))
  refine aE ?_
  refine KB (KA ?_)
  refine oD (dL rfl (hv:=by exact KG Try.underlying33 rfl sz_33)) ?_
  refine oD (dL rfl (hv:=by exact KG Try.underlying33 rfl sz_33)) ?_
  refine oD (dL rfl (hv:=by exact KG Try.underlying33 rfl sz_33)) ?_
  refine oP (KK (Kw pl_172 zr_172 rfl (fill_pj _ _ _)) rfl) ?_
  refine KU rfl (sA rfl rfl sz_172 (by repeat (first|exact KY _|exact Kc _ _ _|exact Ka _|exact Kb _ _ _|exact Kd _ _ _|exact KN|refine KL rfl ?_|refine KM ?_ ?_)) (hl:=by first|exact KD _|exact KF _ _ _|exact KE _|exact KJ _ _ _|exact KT _ _ _|rfl|simp [KF,KD,KE]) (h:=?_))
  refine KC (KO ?_)
  refine ⟨[_],.cons ⟨_,_,_,rfl,(by repeat (first|exact Mh _|apply Mt)),by exact KG Try.underlying172 rfl sz_172⟩ .nil,fun a w' hr=>⟨?_,hr.fr.below⟩⟩
  rfl
end Go.Proofs.Ytlmiolnccgjjjaa
set_option linter.unusedVariables false
set_option linter.unusedSimpArgs false
set_option maxRecDepth 20000
namespace Go.Proofs.Ytlmiolnccgjjjaa
open Go Go.RowKit
open Grp
def sumT (V:Cv) (T U:Fin V.p×Fin V.p×Fin V.p):Fin V.p×Fin V.p×Fin V.p:=sum3 V.A (V.B+V.B+V.B) T.1 T.2.1 T.2.2 U.1 U.2.1 U.2.2
structure RepT (V:Cv) (T:Fin V.p×Fin V.p×Fin V.p) (P:Pt V.p):Prop where
  rep:Rep T.1 T.2.1 T.2.2 P
  on:On V.A V.B P
theorem RepT.sum {V:Cv} (hok:V.Ok) {T U:Fin V.p×Fin V.p×Fin V.p} {P R:Pt V.p} (h:RepT V T P) (k:RepT V U R):RepT V (sumT V T U) (padd V.A P R):=⟨hok.rep_sum h.rep k.rep h.on k.on,hok.sum h.on k.on⟩
theorem RepT.trip {V:Cv} (hok:V.Ok) {P:Pt V.p} (hP:On V.A V.B P):RepT V (tripF P) P:=⟨hok.rep_trip P,hP⟩
theorem c_SumT (V:Cv) (b f bd:Nat) (hok:V.Ok) (T U:Fin V.p×Fin V.p×Fin V.p) (w:World) (hb:(Item.blk b ⟨false,opL V f,129,(0,0)⟩).holds w) (hf:(Item.blk f ⟨false,fldL V.p bd,162,(0,0)⟩).holds w) (hbd:(Item.blk bd ⟨false,dvL V.p,212,(0,0)⟩).holds w):Calls Try.prog 125 ([.pointer (some ⟨b,0,none⟩),pjF T,pjF U]:List Value).toArray w (fun e w'=>e = .returned (pjF (sumT V T U))∧Below w.heap.size w w') :=
  c_Sum V b f bd hok T.1 T.2.1 T.2.2 U.1 U.2.1 U.2.2 w hb hf hbd
theorem c_PlainT (V:Cv) (b f bd:Nat) (hok:V.Ok) (T:Fin V.p×Fin V.p×Fin V.p) (P:Pt V.p) (w:World) (hb:(Item.blk b ⟨false,opL V f,129,(0,0)⟩).holds w) (hf:(Item.blk f ⟨false,fldL V.p bd,162,(0,0)⟩).holds w) (hbd:(Item.blk bd ⟨false,dvL V.p,212,(0,0)⟩).holds w) (h:RepT V T P):Calls Try.prog 124 ([.pointer (some ⟨b,0,none⟩),pjF T]:List Value).toArray w (fun e w'=>e = .returned (ptP P)∧Below w.heap.size w w'):=by
  have:=c_Plain V b f bd hok T.1 T.2.1 T.2.2 w hb hf hbd
  rwa [Rep.plain hok.prime h.rep] at this
end Go.Proofs.Ytlmiolnccgjjjaa
set_option linter.unusedVariables false
set_option linter.unusedSimpArgs false
set_option maxRecDepth 20000
namespace Go.Proofs.Ytlmiolnccgjjjaa
open Go Go.RowKit
open Grp
theorem fpow_val {p:Nat} [NeZero p] (x:Fin p):∀ e,(fpow x e).val = x.val^e%p
  | 0=>rfl
  | e+1=>by
    show (fpow x e*x).val = _
    rw [Fin.val_mul,fpow_val x e,Nat.pow_succ,Nat.mul_mod,Nat.mod_mod,← Nat.mul_mod]
def sqN (p a:Nat):Option Nat:=(List.range p).find? fun r=>Nat.beq (r*r%p) a && Nat.beq (r%2) 0
theorem sqN_some {p a r:Nat} (h:sqN p a = some r):r<p∧r*r%p = a∧r%2 = 0:=by
  unfold sqN at h
  have h1:=List.find?_some h
  have h2:=List.mem_of_find?_eq_some h
  simp only [Bool.and_eq_true] at h1
  exact ⟨List.mem_range.1 h2,Nat.eq_of_beq_eq_true h1.1,Nat.eq_of_beq_eq_true h1.2⟩
theorem sqN_none {p a:Nat} (h:sqN p a = none) {r:Nat} (hr:r<p) (h1:r*r%p = a):r%2 = 1:=by
  unfold sqN at h
  have h2:=List.find?_eq_none.1 h r (List.mem_range.2 hr)
  rcases Nat.mod_two_eq_zero_or_one r with h3|h3
  · exact absurd (by rw [h1,h3]; simp) h2
  · exact h3
theorem fin_neg_val {p:Nat} [NeZero p] (x:Fin p) (h:x.val≠0):(0-x).val = p-x.val:=by
  have:=x.isLt
  rw [Fin.sub_def]
  show (p-x.val+(0:Fin p).val)%p = _
  rw [Fin.val_zero,Nat.add_zero,Nat.mod_eq_of_lt (by omega)]
theorem neg_sq {p:Nat} [NeZero p] (x:Fin p):(0-x)*(0-x) = x*x:=by grind -lia
def evenR {p:Nat} [NeZero p] (x:Fin p):Fin p:=if x.val%2 = 1 then 0-x else x
theorem evenR_sq {p:Nat} [NeZero p] (x:Fin p):evenR x*evenR x = x*x:=by
  unfold evenR; split
  · exact neg_sq x
  · rfl
theorem evenR_even {p:Nat} [NeZero p] (hodd:p%2 = 1) (x:Fin p):(evenR x).val%2 = 0:=by
  unfold evenR; split
  · rename_i h
    have:=x.isLt
    rw [fin_neg_val x (by omega)]; omega
  · omega
theorem sqN_eq {p:Nat} [NeZero p] (hf:Fld p) (hodd:p%2 = 1) (x:Fin p):sqN p (x*x).val = some (evenR x).val:=by
  cases h:sqN p (x*x).val with
  | none =>
    have h1:=sqN_none h (evenR x).isLt (by rw [← Fin.val_mul,evenR_sq])
    have h2:=evenR_even hodd x
    omega
  | some r =>
    obtain ⟨h1,h2,h3⟩:=sqN_some h
    have e:(⟨r,h1⟩:Fin p) = evenR x:=even_root hf hodd (by rw [evenR_sq]; exact Fin.ext (by rw [Fin.val_mul]; exact h2)) h3 (evenR_even hodd x)
    rw [← e]
theorem p_odd {V:Cv} (hok:V.Ok):V.p%2 = 1:=by
  exact hok.bounds.2.2.2.2.2.2.2.1
theorem Cv.Ok.zbounds {V:Cv} (h:V.Ok):2≤V.z∧V.z<V.p:=by
  have cs:=h.cs
  simp only [Bool.and_eq_true] at cs
  exact ⟨Nb cs.1.1.1.1.1.1.1.2,Nb cs.1.1.1.1.1.1.2⟩
theorem sqN_no {V:Cv} (hok:V.Ok) {a:Fin V.p} (h0:a≠0) (h:fpow a ((V.p-1)/2)≠1):sqN V.p a.val = none:=by
  cases h1:sqN V.p a.val with
  | none=>rfl
  | some r =>
    obtain ⟨h2,h3,h4⟩:=sqN_some h1
    have hb:=hok.bounds
    have hod:=p_odd hok
    have e:a = (⟨r,h2⟩:Fin V.p)*⟨r,h2⟩:=Fin.ext (by rw [Fin.val_mul]; exact h3.symm)
    refine absurd ?_ h
    have hr:(⟨r,h2⟩:Fin V.p)≠0:=fun e0=>h0 (by rw [e,e0]; grind -lia)
    have:=fermat hok.fld (by omega) hr
    rw [show V.p-1 = (V.p-1)/2+(V.p-1)/2 by omega,fpow_add,← mul_fpow,← e] at this
    exact this
theorem sqN_zero {p:Nat} (hp:0<p):sqN p 0 = some 0:=by
  unfold sqN
  obtain ⟨n,rfl⟩:∃ n,p = n+1:=⟨p-1,by omega⟩
  rw [List.range_succ_eq_map,List.find?_cons]
  simp
theorem two_lt {k m B:Nat} (h:2^k*m = B) (hm:0<m) (hB:B<W9):k<576:=by
  refine Nat.lt_of_not_le fun hk=>?_
  obtain ⟨q,hq⟩:∃ q:Nat,q = 9:=⟨9,rfl⟩
  have h1:2^(64*q)≤2^k:=Nat.pow_le_pow_right (by decide) (by omega)
  have h2:2^k*1≤2^k*m:=Nat.mul_le_mul_left _ hm
  rw [w9 hq] at h1
  omega
theorem val_one {V:Cv} (hok:V.Ok):(1:Fin V.p).val = 1:=by
  have:=hok.bounds
  show 1%V.p = 1
  exact Nat.mod_eq_of_lt (by omega)
theorem ne_iff1 {V:Cv} (hok:V.Ok) {x:Fin V.p}:x.val = 1↔x = 1:=⟨fun h=>Fin.ext (h.trans (val_one hok).symm),fun h=>h ▸ val_one hok⟩
theorem fpow_succ2 {p:Nat} [NeZero p] (x:Fin p) (k:Nat):fpow x (2^k)*fpow x (2^k) = fpow x (2^(k+1)):=by rw [← fpow_add,← Nat.mul_two,← Nat.pow_succ]
theorem c_F_Pow (V:Cv) (hok:V.Ok) (bd:Nat) (X:Fin V.p) (E:Nat) (w:World) (hbd:(Item.blk bd ⟨false,dvL V.p,212,(0,0)⟩).holds w) (hE:E<W9):Calls Try.prog 148 ([.agg [.pointer (some ⟨bd,0,none⟩)].toArray,natV X.val,natV E]:List Value).toArray w (fun e w'=>e = .returned (natV (fpow X E).val)∧Below w.heap.size w w'):=by
  have hb:=hok.bounds
  have hpW:=KAF hb.2.1
  have:=c_Pow V.p X.val E bd (by omega) hpW w hbd (Nat.lt_trans X.isLt hpW) hE
  rwa [← fpow_val] at this
theorem c_one  (w:World)  : Calls Try.prog 147 ([]:List Value).toArray w (fun e w'=>e = .returned (natV 1)∧Below w.heap.size w w'):=by
  refine Kf (N:=2) (rs:=[.cell 0 33]) [] Try.func147 rfl Try.ntmps147 Try.results147 (Nb rfl) trivial rfl ?_
  show LCode _ _ _ ⟨_,_⟩ _
  refine KB (KA ?_)
  refine oS (mk (KS zr_33) (fun b0=>?_))
  refine KC ?_
  refine KB (KA ?_)
  refine oS (cF rfl en_116 rfl (fun w hw=>c_nat_Small 1 (by decide) w) ?_)
  refine KU rfl (sA rfl rfl sz_33 (by repeat (first|exact KY _|exact Kc _ _ _|exact Ka _|exact Kb _ _ _|exact Kd _ _ _|exact KN|refine KL rfl ?_|refine KM ?_ ?_)) (hl:=by first|exact KD _|exact KF _ _ _|exact KE _|exact KJ _ _ _|exact KT _ _ _|rfl|simp [KF,KD,KE]) (h:=?_))
  refine KC (KO ?_)
  refine ⟨[_],.cons ⟨_,_,_,rfl,(by repeat (first|exact Mh _|apply Mt)),by exact KG Try.underlying33 rfl sz_33⟩ .nil,fun a w' hr=>⟨?_,hr.fr.below⟩⟩
  rfl
theorem c_half (A:Nat) (hA:A<W9) (w:World)  : Calls Try.prog 149 ([natV A]:List Value).toArray w (fun e w'=>e = .returned (natV (A/2))∧Below w.heap.size w w'):=by
  refine Kf (N:=11) (rs:=[.cell 2 33]) [] Try.func149 rfl Try.ntmps149 Try.results149 (Nb rfl) trivial rfl ?_
  show LCode _ _ _ ⟨_,_⟩ _
  refine KB (KA ?_)
  refine oS (mB (fun b1=>?_))
  refine oS (mk (KS zr_33) (fun b2=>?_))
  refine KC ?_
  refine KB (KA ?_)
  refine oD (dL rfl (hv:=by exact KG Try.underlying33 rfl sz_33)) ?_
  refine oS (cF rfl en_153 rfl (fun w hw=>c_nat_Shr A 1 hA (by decide) w) ?_)
  refine oM ?_
  refine oP (Det.extract rfl rfl) ?_
  refine oP (Det.extract rfl rfl) ?_
  refine oS (mk (KS zr_33) (fun b3=>?_))
  refine KU rfl (sA rfl rfl sz_33 (by repeat (first|exact KY _|exact Kc _ _ _|exact Ka _|exact Kb _ _ _|exact Kd _ _ _|exact KN|refine KL rfl ?_|refine KM ?_ ?_)) (hl:=by first|exact KD _|exact KF _ _ _|exact KE _|exact KJ _ _ _|exact KT _ _ _|rfl|simp [KF,KD,KE]) (h:=?_))
  refine oA ?_
  refine KC ?_
  refine KB (KA ?_)
  refine oD (dL rfl (hv:=by exact KG Try.underlying33 rfl sz_33)) ?_
  refine KU rfl (sA rfl rfl sz_33 (by repeat (first|exact KY _|exact Kc _ _ _|exact Ka _|exact Kb _ _ _|exact Kd _ _ _|exact KN|refine KL rfl ?_|refine KM ?_ ?_)) (hl:=by first|exact KD _|exact KF _ _ _|exact KE _|exact KJ _ _ _|exact KT _ _ _|rfl|simp [KF,KD,KE]) (h:=?_))
  refine KC (KO ?_)
  refine ⟨[_],.cons ⟨_,_,_,rfl,(by repeat (first|exact Mh _|apply Mt)),by exact KG Try.underlying33 rfl sz_33⟩ .nil,fun a w' hr=>⟨?_,hr.fr.below⟩⟩
  rw [Nat.pow_one]
  rfl
theorem c_f_AddS (V:Cv) (f bd z:Nat) (w:World) (hf:(Item.blk f ⟨false,fldL V.p bd,162,(0,0)⟩).holds w) (hok:V.Ok) (hz:z+1<V.p):Calls Try.prog 118 ([.pointer (some ⟨f,0,none⟩),natV z,natV 1]:List Value).toArray w (fun e w'=>e = .returned (natV (z+1))∧Below w.heap.size w w'):=by
  have:=c_f_Add V f bd z 1 w hf hok.bounds.2.1 (by omega) (by omega)
  rwa [Nat.mod_eq_of_lt hz] at this
theorem c_F_PowN (V:Cv) (hok:V.Ok) (bd z:Nat) (E:Nat) (w:World) (hbd:(Item.blk bd ⟨false,dvL V.p,212,(0,0)⟩).holds w) (hE:E<W9) (hz:z<V.p):Calls Try.prog 148 ([.agg [.pointer (some ⟨bd,0,none⟩)].toArray,natV z,natV E]:List Value).toArray w (fun e w'=>e = .returned (natV (fpow (c V.p z) E).val)∧Below w.heap.size w w'):=by
  have:=c_F_Pow V hok bd (c V.p z) E w hbd hE
  rwa [show (c V.p z).val = z from Nat.mod_eq_of_lt hz] at this
theorem neg_one_val {p:Nat} [NeZero p] (h:2≤p):(-1:Fin p).val = p-1:=by
  have h1:(-1:Fin p) = 0-1:=by grind -lia
  have h2:(1:Fin p).val = 1:=by show 1%p = 1; exact Nat.mod_eq_of_lt (by omega)
  rw [h1,fin_neg_val 1 (by omega),h2]
theorem fpow_cval {p:Nat} [NeZero p] (z E:Nat):(fpow (c p z) E).val = z^E%p:=by
  rw [← c_pow]; rfl
theorem half_of {p o s:Nat} (h:o*2^s = p-1) (hp:p%2 = 1) (h2:2≤p) (ho:o%2 = 1):0<s∧o*2^(s-1) = (p-1)/2:=by
  cases s with
  | zero=>rw [Nat.pow_zero,Nat.mul_one] at h; omega
  | succ k =>
    rw [Nat.pow_succ,← Nat.mul_assoc] at h
    refine ⟨Nat.succ_pos k,?_⟩
    show o*2^k = _
    omega
theorem c_root (V:Cv) (f bd:Nat) (hok:V.Ok) (a:Fin V.p) (w:World) (hf:(Item.blk f ⟨false,fldL V.p bd,162,(0,0)⟩).holds w) (hbd:(Item.blk bd ⟨false,dvL V.p,212,(0,0)⟩).holds w) (ha:fpow a ((V.p-1)/2) = 1):Calls Try.prog 150 ([.pointer (some ⟨f,0,none⟩),natV a.val]:List Value).toArray w (fun e w'=>∃ v,(∃ x:Fin V.p,x*x = a∧v = natV x.val)∧e = .returned v∧Below w.heap.size w w'):=by
  have hbb:=hok.bounds
  have hpW:V.p<W9:=KAF hbb.2.1
  have hz:=hok.zbounds
  refine Kf (N:=118) (rs:=[.cell 4 33]) [.blk f ⟨false,fldL V.p bd,162,(0,0)⟩,.blk bd ⟨false,dvL V.p,212,(0,0)⟩] Try.func150 rfl Try.ntmps150 Try.results150 (Nb rfl) ⟨hf,hbd,trivial⟩ rfl ?_
  show LCode _ _ _ ⟨_,_⟩ _
  refine KB (KA ?_)
  refine oS (mB (fun b3=>?_))
  refine oS (mk (KS zr_33) (fun b4=>?_))
  refine KC ?_
  refine KB ?_
  refine rD [10] ?_
  refine aM 0 ?_
  refine aP 1 rfl (KP rfl) ?_
  refine aP 2 rfl (KI (o':=0) Try.underlying162 rfl rfl rfl sz_33 (by decide)) ?_
  refine aD 3 rfl (dL rfl (hv:=by exact KAC Try.underlying33 rfl sz_33 rfl (KD _))) ?_
  refine LAny.toP ?_
  refine KAD 9 rfl (.inl zr_33) (Nb rfl) rfl rfl rfl ?_
  refine Ko 4 rfl rfl rfl (Nb rfl) (by kernel_rfl) rfl (Ks (first:=[]) rfl en_147 rfl (fun w hw=>c_one w)) ?_
  rintro _ _ ⟨rfl,rfl⟩
  refine Ko 5 rfl rfl rfl (Nb rfl) (by kernel_rfl) rfl (Ks (first:=[]) rfl en_115 rfl (fun w hw=>c_nat_SubS V.p 1 w hpW (by omega))) ?_
  rintro _ _ ⟨rfl,rfl⟩
  refine pM 6 ?_
  refine pP 7 rfl (Det.extract rfl rfl) ?_
  refine pP 8 rfl (Det.extract rfl rfl) ?_
  refine pE (fun b5=>?_)
  refine KAP ?_
  refine aL 10 rfl (sA rfl rfl sz_33 (by repeat (first|exact KY _|exact Kc _ _ _|exact Ka _|exact Kb _ _ _|exact Kd _ _ _|exact KN|refine KL rfl ?_|refine KM ?_ ?_)) (hl:=by first|exact KD _|exact KF _ _ _|exact KE _|exact KJ _ _ _|exact KT _ _ _|rfl|simp [KF,KD,KE]) (h:=?_))
  refine aA 11 ?_
  refine aE ?_
  refine KB (KA ?_)
  refine oD (dL rfl (hv:=by exact KG Try.underlying33 rfl sz_33)) ?_
  refine oS (mk (KS zr_33) (fun b7=>?_))
  refine KU rfl (sA rfl rfl sz_33 (by repeat (first|exact KY _|exact Kc _ _ _|exact Ka _|exact Kb _ _ _|exact Kd _ _ _|exact KN|refine KL rfl ?_|refine KM ?_ ?_)) (hl:=by first|exact KD _|exact KF _ _ _|exact KE _|exact KJ _ _ _|exact KT _ _ _|rfl|simp [KF,KD,KE]) (h:=?_))
  refine oP (KX (v:=.int .i64 ((0:Nat):Int)) rfl) ?_
  refine KC ?_
  refine KB ?_
  refine LCode.block ?_
  refine Kp (α:=Nat×Nat) (fun x=>x.1*2^x.2 = V.p-1∧0<x.1) (fun x=>⟨[(0,.pointer (some ⟨f,0,none⟩)),(3,.pointer (some ⟨b3,0,none⟩)),(4,.pointer (some ⟨b4,0,none⟩)),(5,.pointer (some ⟨b5,0,none⟩)),(7,.pointer (some ⟨b7,0,none⟩)),(8,.int .i64 ((x.2:Nat):Int))],[.blk b7 ⟨true,natL x.1,33,(0,0)⟩,.blk b5 ⟨true,natL (V.p-1),33,(0,0)⟩,.blk b4 ⟨true,vec .u64 9 (fun _=>0),33,(0,0)⟩,.blk b3 ⟨true,natL a.val,33,(0,0)⟩,.blk f ⟨false,fldL V.p bd,162,(0,0)⟩,.blk bd ⟨false,dvL V.p,212,(0,0)⟩]⟩) (fun x=>x.1) ((V.p-1,0)) (⟨by dsimp only; omega,by dsimp only; omega⟩) (Kj ⟨rfl,rfl,rfl,rfl,rfl,rfl,trivial⟩ (by repeat (first|exact Sel.nil _|refine Sel.cons (by repeat (first|exact Ph _|apply Pt_)) ?_))) ?_
  rintro o ⟨ho1,ho2⟩
  refine KB ?_
  refine KB ?_
  have ho3:o.1≤V.p-1:=by
    have h2:o.1*1≤o.1*2^o.2:=Nat.mul_le_mul_left _ Nat.one_le_two_pow
    omega
  have ho4:o.2<576:=two_lt ((Nat.mul_comm _ _).trans ho1) ho2 (by omega)
  refine KA ?_
  refine oD (dL rfl (hv:=by exact KG Try.underlying33 rfl sz_33)) ?_
  refine oS (cF rfl en_89 rfl (fun w hw=>c_nat_Bit o.1 0 (by omega) (by decide) w) ?_)
  refine oP (KH rfl rfl (KAR (b:=0))) ?_
  refine KC ?_
  first|refine KV rfl (fun h30=>?_) (fun h30=>?_)|refine KZ rfl (fun h30=>?_) (fun h30=>?_)
  ·
    have h30:o.1/2^0%2 = 0:=h30
    rw [Nat.pow_zero,Nat.div_one] at h30
    refine KR ?_
    refine LCode.block ?_
    refine KA ?_
    refine oD (dL rfl (hv:=by exact KG Try.underlying33 rfl sz_33)) ?_
    refine oS (cF rfl en_149 rfl (fun w hw=>c_half o.1 (by omega) w) ?_)
    refine oM ?_
    refine oP (KH rfl rfl (Kv (b:=1) (by omega))) ?_
    refine KU rfl (sA rfl rfl sz_33 (by repeat (first|exact KY _|exact Kc _ _ _|exact Ka _|exact Kb _ _ _|exact Kd _ _ _|exact KN|refine KL rfl ?_|refine KM ?_ ?_)) (hl:=by first|exact KD _|exact KF _ _ _|exact KE _|exact KJ _ _ _|exact KT _ _ _|rfl|simp [KF,KD,KE]) (h:=?_))
    refine oA ?_
    refine KC ?_
    exact ⟨(o.1/2,o.2+1),⟨by dsimp only; rw [Nat.pow_succ,Nat.mul_comm (2^o.2) 2,← Nat.mul_assoc,show o.1/2*2 = o.1 by omega]; exact ho1,by dsimp only; omega⟩,by dsimp only; omega,Kj ⟨rfl,rfl,rfl,rfl,rfl,rfl,trivial⟩ (by repeat (first|exact Sel.nil _|refine Sel.cons (by repeat (first|exact Ph _|apply Pt_)) ?_))⟩
  ·
    have h30:¬ o.1/2^0%2 = 0:=h30
    rw [Nat.pow_zero,Nat.div_one] at h30
    refine Kl ?_
    refine KB (KA ?_)
    refine oS (cF rfl en_116 rfl (fun w hw=>c_nat_Small 2 (by decide) w) ?_)
    refine oS (mk (KS zr_33) (fun b9=>?_))
    refine KU rfl (sA rfl rfl sz_33 (by repeat (first|exact KY _|exact Kc _ _ _|exact Ka _|exact Kb _ _ _|exact Kd _ _ _|exact KN|refine KL rfl ?_|refine KM ?_ ?_)) (hl:=by first|exact KD _|exact KF _ _ _|exact KE _|exact KJ _ _ _|exact KT _ _ _|rfl|simp [KF,KD,KE]) (h:=?_))
    refine KC ?_
    refine KB ?_
    refine LCode.block ?_
    refine Kp (α:=Nat) (fun x=>2≤x∧x≤V.z) (fun x=>⟨[(0,.pointer (some ⟨f,0,none⟩)),(3,.pointer (some ⟨b3,0,none⟩)),(4,.pointer (some ⟨b4,0,none⟩)),(5,.pointer (some ⟨b5,0,none⟩)),(7,.pointer (some ⟨b7,0,none⟩)),(8,.int .i64 ((o.2:Nat):Int)),(9,.pointer (some ⟨b9,0,none⟩))],[.blk b9 ⟨true,natL x,33,(0,0)⟩,.blk b7 ⟨true,natL o.1,33,(0,0)⟩,.blk b5 ⟨true,natL (V.p-1),33,(0,0)⟩,.blk b4 ⟨true,vec .u64 9 (fun _=>0),33,(0,0)⟩,.blk b3 ⟨true,natL a.val,33,(0,0)⟩,.blk f ⟨false,fldL V.p bd,162,(0,0)⟩,.blk bd ⟨false,dvL V.p,212,(0,0)⟩]⟩) (fun x=>V.z-x) (2) (⟨Nat.le_refl _,hz.1⟩) (Kj ⟨rfl,rfl,rfl,rfl,rfl,rfl,rfl,trivial⟩ (by repeat (first|exact Sel.nil _|refine Sel.cons (by repeat (first|exact Ph _|apply Pt_)) ?_))) ?_
    rintro z ⟨hz1,hz2⟩
    refine KB ?_
    refine KB ?_
    refine rD [] ?_
    refine aM 0 ?_
    refine aP 1 rfl (KP rfl) ?_
    refine aP 2 rfl (KI (o':=9) Try.underlying162 rfl rfl rfl sz_160 (by decide)) ?_
    refine aD 3 rfl (dL rfl (hv:=by exact LoadV.last Try.underlying160 rfl sz_160 rfl (KD _) rfl)) ?_
    refine aD 4 rfl (dL rfl (hv:=by exact KG Try.underlying33 rfl sz_33)) ?_
    refine aD 5 rfl (dL rfl (hv:=by exact KG Try.underlying33 rfl sz_33)) ?_
    refine aD 8 rfl (dL rfl (hv:=by exact KG Try.underlying33 rfl sz_33)) ?_
    refine aO 6 rfl (cF rfl en_149 rfl (fun w hw=>c_half (V.p-1) (by omega) w) ?_)
    refine aO 7 rfl (cF rfl en_148 rfl (fun w hw=>c_Pow V.p z ((V.p-1)/2) bd (by omega) hpW w (mC hw) (by omega) (by omega)) ?_)
    refine aP 9 rfl (Det.nea (by kernel_rfl) (fun w=>eq_nat (z^((V.p-1)/2)%V.p) (V.p-1) (Nat.lt_trans (Nat.mod_lt _ (by omega)) hpW) (by omega) 10000 (by decide) w) rfl rfl) ?_
    refine aE ?_
    first|refine KV rfl (fun h45=>?_) (fun h45=>?_)|refine KZ rfl (fun h45=>?_) (fun h45=>?_)
    ·
      have h45:z^((V.p-1)/2)%V.p≠V.p-1:=by simpa using h45
      refine KR ?_
      refine LCode.block ?_
      have hzz:z≠V.z:=fun h=>h45 (by have:=congrArg Fin.val hok.none; rw [fpow_cval,neg_one_val (by omega)] at this; rw [h]; exact this)
      refine rD [4] ?_
      refine aM 0 ?_
      refine aD 1 rfl (dL rfl (hv:=by exact KG Try.underlying33 rfl sz_33)) ?_
      refine aO 2 rfl (cF rfl en_147 rfl (fun w hw=>c_one w) ?_)
      refine aO 3 rfl (cF rfl en_118 rfl (fun w hw=>c_f_AddS V f bd z w (mC hw) hok (by omega)) ?_)
      refine aL 4 rfl (sA rfl rfl sz_33 (by repeat (first|exact KY _|exact Kc _ _ _|exact Ka _|exact Kb _ _ _|exact Kd _ _ _|exact KN|refine KL rfl ?_|refine KM ?_ ?_)) (hl:=by first|exact KD _|exact KF _ _ _|exact KE _|exact KJ _ _ _|exact KT _ _ _|rfl|simp [KF,KD,KE]) (h:=?_))
      refine aE ?_
      exact ⟨z+1,⟨by omega,by omega⟩,by omega,Kj ⟨rfl,rfl,rfl,rfl,rfl,rfl,rfl,trivial⟩ (by repeat (first|exact Sel.nil _|refine Sel.cons (by repeat (first|exact Ph _|apply Pt_)) ?_))⟩
    ·
      have h45:z^((V.p-1)/2)%V.p = V.p-1:=by simpa using h45
      refine Kl ?_
      refine KB ?_
      have hz3:fpow (c V.p z) ((V.p-1)/2) = -1:=Fin.ext (by rw [fpow_cval,neg_one_val (by omega)]; exact h45)
      obtain ⟨hs1,hs2⟩:=half_of ho1 (p_odd hok) (by omega) (by omega)
      refine rD [7] ?_
      refine aD 0 rfl (dL rfl (hv:=by exact KG Try.underlying33 rfl sz_33)) ?_
      refine LAny.toP ?_
      refine KAD 6 rfl (.inl zr_33) (Nb rfl) rfl rfl rfl ?_
      refine Ko 1 rfl rfl rfl (Nb rfl) (by kernel_rfl) rfl (Ks (first:=[]) rfl en_147 rfl (fun w hw=>c_one w)) ?_
      rintro _ _ ⟨rfl,rfl⟩
      refine Ko 2 rfl rfl rfl (Nb rfl) (by kernel_rfl) rfl (Ks (first:=[]) rfl en_144 rfl (fun w hw=>c_nat_AddS o.1 1 w (by omega))) ?_
      rintro _ _ ⟨rfl,rfl⟩
      refine pM 3 ?_
      refine pP 4 rfl (Det.extract rfl rfl) ?_
      refine pP 5 rfl (Det.extract rfl rfl) ?_
      refine pE (fun b10=>?_)
      refine KAP ?_
      refine aL 7 rfl (sA rfl rfl sz_33 (by repeat (first|exact KY _|exact Kc _ _ _|exact Ka _|exact Kb _ _ _|exact Kd _ _ _|exact KN|refine KL rfl ?_|refine KM ?_ ?_)) (hl:=by first|exact KD _|exact KF _ _ _|exact KE _|exact KJ _ _ _|exact KT _ _ _|rfl|simp [KF,KD,KE]) (h:=?_))
      refine aA 8 ?_
      refine aE ?_
      refine KB ?_
      refine rD [25,26,27] ?_
      refine aM 0 ?_
      refine aP 1 rfl (KP rfl) ?_
      refine aP 2 rfl (KI (o':=9) Try.underlying162 rfl rfl rfl sz_160 (by decide)) ?_
      refine aD 3 rfl (dL rfl (hv:=by exact LoadV.last Try.underlying160 rfl sz_160 rfl (KD _) rfl)) ?_
      refine aD 4 rfl (dL rfl (hv:=by exact KG Try.underlying33 rfl sz_33)) ?_
      refine aD 5 rfl (dL rfl (hv:=by exact KG Try.underlying33 rfl sz_33)) ?_
      refine aM 7 ?_
      refine aP 8 rfl (KP rfl) ?_
      refine aP 9 rfl (KI (o':=9) Try.underlying162 rfl rfl rfl sz_160 (by decide)) ?_
      refine aM 15 ?_
      refine aP 16 rfl (KP rfl) ?_
      refine aP 17 rfl (KI (o':=9) Try.underlying162 rfl rfl rfl sz_160 (by decide)) ?_
      refine KAb [14,21,25,26,27] 10 rfl (by kernel_rfl) (Nb rfl) (dL rfl (hv:=by exact LoadV.last Try.underlying160 rfl sz_160 rfl (KD _) rfl)) ?_
      refine KAb [14,21,25,26,27] 11 rfl (by kernel_rfl) (Nb rfl) (dL rfl (hv:=by exact KG Try.underlying33 rfl sz_33)) ?_
      refine KAb [13,14,21,25,26,27] 12 rfl (by kernel_rfl) (Nb rfl) (dL rfl (hv:=by exact KG Try.underlying33 rfl sz_33)) ?_
      refine KAb [21,25,26,27] 18 rfl (by kernel_rfl) (Nb rfl) (dL rfl (hv:=by exact LoadV.last Try.underlying160 rfl sz_160 rfl (KD _) rfl)) ?_
      refine KAb [21,25,26,27] 19 rfl (by kernel_rfl) (Nb rfl) (dL rfl (hv:=by exact KG Try.underlying33 rfl sz_33)) ?_
      refine KAb [21,25,26,27] 20 rfl (by kernel_rfl) (Nb rfl) (dL rfl (hv:=by exact KG Try.underlying33 rfl sz_33)) ?_
      refine LAny.toP ?_
      refine KAD 22 rfl (.inl zr_33) (Nb rfl) rfl rfl rfl ?_
      refine KAD 23 rfl (.inl zr_33) (Nb rfl) rfl rfl rfl ?_
      refine KAD 24 rfl (.inl zr_33) (Nb rfl) rfl rfl rfl ?_
      refine Ko 6 rfl rfl rfl (Nb rfl) (by kernel_rfl) rfl (Ks (first:=[]) rfl en_148 rfl (fun w hw=>c_F_PowN V hok bd z o.1 w (mC hw) (by omega) (by omega))) ?_
      rintro _ _ ⟨rfl,rfl⟩
      refine Ko 13 rfl rfl rfl (Nb rfl) (by kernel_rfl) rfl (Ks (first:=[]) rfl en_149 rfl (fun w hw=>c_half (o.1+1) (by omega) w)) ?_
      rintro _ _ ⟨rfl,rfl⟩
      refine Ko 14 rfl rfl rfl (Nb rfl) (by kernel_rfl) rfl (Ks (first:=[]) rfl en_148 rfl (fun w hw=>c_F_Pow V hok bd a ((o.1+1)/2) w (mC hw) (by omega))) ?_
      rintro _ _ ⟨rfl,rfl⟩
      refine Ko 21 rfl rfl rfl (Nb rfl) (by kernel_rfl) rfl (Ks (first:=[]) rfl en_148 rfl (fun w hw=>c_F_Pow V hok bd a o.1 w (mC hw) (by omega))) ?_
      rintro _ _ ⟨rfl,rfl⟩
      refine pE (fun b14=>?_)
      refine pE (fun b13=>?_)
      refine pE (fun b12=>?_)
      refine KAP ?_
      refine aL 25 rfl (sA rfl rfl sz_33 (by repeat (first|exact KY _|exact Kc _ _ _|exact Ka _|exact Kb _ _ _|exact Kd _ _ _|exact KN|refine KL rfl ?_|refine KM ?_ ?_)) (hl:=by first|exact KD _|exact KF _ _ _|exact KE _|exact KJ _ _ _|exact KT _ _ _|rfl|simp [KF,KD,KE]) (h:=?_))
      refine aL 26 rfl (sA rfl rfl sz_33 (by repeat (first|exact KY _|exact Kc _ _ _|exact Ka _|exact Kb _ _ _|exact Kd _ _ _|exact KN|refine KL rfl ?_|refine KM ?_ ?_)) (hl:=by first|exact KD _|exact KF _ _ _|exact KE _|exact KJ _ _ _|exact KT _ _ _|rfl|simp [KF,KD,KE]) (h:=?_))
      refine aL 27 rfl (sA rfl rfl sz_33 (by repeat (first|exact KY _|exact Kc _ _ _|exact Ka _|exact Kb _ _ _|exact Kd _ _ _|exact KN|refine KL rfl ?_|refine KM ?_ ?_)) (hl:=by first|exact KD _|exact KF _ _ _|exact KE _|exact KJ _ _ _|exact KT _ _ _|rfl|simp [KF,KD,KE]) (h:=?_))
      refine aE ?_
      refine KB ?_
      refine LCode.block ?_
      refine Kp (α:=Fin V.p×Fin V.p×Fin V.p×Nat) (fun x=>TS a x.1 x.2.1 x.2.2.1 x.2.2.2∧x.2.2.2<576) (fun x=>⟨[(0,.pointer (some ⟨f,0,none⟩)),(4,.pointer (some ⟨b4,0,none⟩)),(8,.int .i64 ((x.2.2.2:Nat):Int)),(12,.pointer (some ⟨b12,0,none⟩)),(13,.pointer (some ⟨b13,0,none⟩)),(14,.pointer (some ⟨b14,0,none⟩))],[.blk b12 ⟨true,natL x.2.1.val,33,(0,0)⟩,.blk b13 ⟨true,natL x.1.val,33,(0,0)⟩,.blk b14 ⟨true,natL x.2.2.1.val,33,(0,0)⟩,.blk b4 ⟨true,vec .u64 9 (fun _=>0),33,(0,0)⟩,.blk f ⟨false,fldL V.p bd,162,(0,0)⟩,.blk bd ⟨false,dvL V.p,212,(0,0)⟩]⟩) (fun x=>x.2.2.2) ((fpow a ((o.1+1)/2),fpow (c V.p z) o.1,fpow a o.1,o.2)) (⟨TS.init hs1 (by omega) (by rw [hs2]; exact hz3) (by rw [hs2]; exact ha),ho4⟩) (Kj ⟨rfl,rfl,rfl,rfl,rfl,rfl,trivial⟩ (by repeat (first|exact Sel.nil _|refine Sel.cons (by repeat (first|exact Ph _|apply Pt_)) ?_))) ?_
      rintro y ⟨hy1,hy2⟩
      refine KB ?_
      refine KB ?_
      refine rD [] ?_
      refine aD 0 rfl (dL rfl (hv:=by exact KG Try.underlying33 rfl sz_33)) ?_
      refine aO 1 rfl (cF rfl en_147 rfl (fun w hw=>c_one w) ?_)
      refine aP 2 rfl (Det.nea (by kernel_rfl) (fun w=>eq_nat y.2.2.1.val 1 (Nat.lt_trans y.2.2.1.isLt hpW) one_w9 10000 (by decide) w) rfl rfl) ?_
      refine aE ?_
      first|refine KV rfl (fun h80=>?_) (fun h80=>?_)|refine KZ rfl (fun h80=>?_) (fun h80=>?_)
      ·
        have h80:y.2.2.1≠1:=fun h=>by simp [(ne_iff1 hok).2 h] at h80
        refine KR ?_
        refine LCode.block ?_
        refine KB (KA ?_)
        refine oP (KX (v:=.int .i64 ((0:Nat):Int)) rfl) ?_
        refine KC ?_
        refine KB ?_
        refine KB (KA ?_)
        refine oD (dL rfl (hv:=by exact KG Try.underlying33 rfl sz_33)) ?_
        refine oS (mk (KS zr_33) (fun b16=>?_))
        refine KU rfl (sA rfl rfl sz_33 (by repeat (first|exact KY _|exact Kc _ _ _|exact Ka _|exact Kb _ _ _|exact Kd _ _ _|exact KN|refine KL rfl ?_|refine KM ?_ ?_)) (hl:=by first|exact KD _|exact KF _ _ _|exact KE _|exact KJ _ _ _|exact KT _ _ _|rfl|simp [KF,KD,KE]) (h:=?_))
        refine KC ?_
        refine LCode.block ?_
        refine Kp (α:=Nat×Nat) (fun x=>∀ j,j<x.1→fpow y.2.2.1 (2^j)≠1) (fun x=>⟨[(0,.pointer (some ⟨f,0,none⟩)),(4,.pointer (some ⟨b4,0,none⟩)),(8,.int .i64 ((y.2.2.2:Nat):Int)),(12,.pointer (some ⟨b12,0,none⟩)),(13,.pointer (some ⟨b13,0,none⟩)),(14,.pointer (some ⟨b14,0,none⟩)),(15,.int .i64 ((x.1:Nat):Int)),(16,.pointer (some ⟨x.2,0,none⟩))],[.blk x.2 ⟨true,natL (fpow y.2.2.1 (2^x.1)).val,33,(0,0)⟩,.blk b12 ⟨true,natL y.2.1.val,33,(0,0)⟩,.blk b13 ⟨true,natL y.1.val,33,(0,0)⟩,.blk b14 ⟨true,natL y.2.2.1.val,33,(0,0)⟩,.blk b4 ⟨true,vec .u64 9 (fun _=>0),33,(0,0)⟩,.blk f ⟨false,fldL V.p bd,162,(0,0)⟩,.blk bd ⟨false,dvL V.p,212,(0,0)⟩]⟩) (fun x=>y.2.2.2-x.1) ((0,b16)) (fun j hj=>absurd hj (Nat.not_lt_zero _)) (KAG (Sub.cells (b:=b16) (cs':=natL (fpow y.2.2.1 (2^0)).val) (by repeat (first|exact Sh _|apply St_)) (by rw [Nat.pow_zero,fpow_one])) (Kj ⟨rfl,rfl,rfl,rfl,rfl,rfl,rfl,rfl,trivial⟩ (by repeat (first|exact Sel.nil _|refine Sel.cons (by repeat (first|exact Ph _|apply Pt_)) ?_)))) ?_
        rintro k hk
        refine KB ?_
        refine KB ?_
        have hkm0:=TS.less hok.fld.dom hy1 hk
        refine rD [] ?_
        refine aD 0 rfl (dL rfl (hv:=by exact KG Try.underlying33 rfl sz_33)) ?_
        refine aO 1 rfl (cF rfl en_147 rfl (fun w hw=>c_one w) ?_)
        refine aP 2 rfl (Det.nea (by kernel_rfl) (fun w=>eq_nat (fpow y.2.2.1 (2^k.1)).val 1 (Nat.lt_trans (fpow y.2.2.1 (2^k.1)).isLt hpW) one_w9 10000 (by decide) w) rfl rfl) ?_
        refine aE ?_
        first|refine KV rfl (fun h84=>?_) (fun h84=>?_)|refine KZ rfl (fun h84=>?_) (fun h84=>?_)
        ·
          have h84:fpow y.2.2.1 (2^k.1)≠1:=fun h=>by simp [(ne_iff1 hok).2 h] at h84
          refine KR ?_
          refine KB ?_
          refine LCode.block ?_
          refine KA ?_
          refine oM ?_
          refine oP (KH rfl rfl (Kv (b:=1) (by omega))) ?_
          refine oA ?_
          refine KC ?_
          refine KB ?_
          refine KB (KA ?_)
          refine oD (dL rfl (hv:=by exact KG Try.underlying33 rfl sz_33)) ?_
          refine KC ?_
          refine KA ?_
          refine oS (mk (KS zr_33) (fun b16=>?_))
          refine KU rfl (sA rfl rfl sz_33 (by repeat (first|exact KY _|exact Kc _ _ _|exact Ka _|exact Kb _ _ _|exact Kd _ _ _|exact KN|refine KL rfl ?_|refine KM ?_ ?_)) (hl:=by first|exact KD _|exact KF _ _ _|exact KE _|exact KJ _ _ _|exact KT _ _ _|rfl|simp [KF,KD,KE]) (h:=?_))
          refine KC ?_
          refine KA ?_
          refine oM ?_
          refine oD (dL rfl (hv:=by exact KG Try.underlying33 rfl sz_33)) ?_
          refine oD (dL rfl (hv:=by exact KG Try.underlying33 rfl sz_33)) ?_
          refine oS (cF rfl en_120 rfl (fun w hw=>c_F_Mul V hok f bd _ _ w (mC hw) (mC hw)) ?_)
          refine KU rfl (sA rfl rfl sz_33 (by repeat (first|exact KY _|exact Kc _ _ _|exact Ka _|exact Kb _ _ _|exact Kd _ _ _|exact KN|refine KL rfl ?_|refine KM ?_ ?_)) (hl:=by first|exact KD _|exact KF _ _ _|exact KE _|exact KJ _ _ _|exact KT _ _ _|rfl|simp [KF,KD,KE]) (h:=?_))
          refine KC ?_
          have hk':∀ j,j<k.1+1→fpow y.2.2.1 (2^j)≠1:=fun j hj=>by
            rcases Nat.lt_or_eq_of_le (Nat.le_of_lt_succ hj) with h|rfl
            · exact hk j h
            · exact h84
          have hkm:=TS.less hok.fld.dom hy1 hk'
          exact ⟨(k.1+1,b16),hk',by dsimp only; omega,KAG (Sub.cells (b:=b16) (cs':=natL (fpow y.2.2.1 (2^(k.1+1))).val) (by repeat (first|exact Sh _|apply St_)) (by rw [fpow_succ2])) (Kj ⟨rfl,rfl,rfl,rfl,rfl,rfl,rfl,rfl,trivial⟩ (by repeat (first|exact Sel.nil _|refine Sel.cons (by repeat (first|exact Ph _|apply Pt_)) ?_)))⟩
        ·
          have h84:fpow y.2.2.1 (2^k.1) = 1:=(ne_iff1 hok).1 (by simpa using h84)
          refine Kl ?_
          refine KB ?_
          obtain ⟨hn1,hn2,-⟩:=TS.next hok.fld.dom hy1 h80 hk h84
          refine KA ?_
          refine oD (dL rfl (hv:=by exact KG Try.underlying33 rfl sz_33)) ?_
          refine oS (mk (KS zr_33) (fun b17=>?_))
          refine KU rfl (sA rfl rfl sz_33 (by repeat (first|exact KY _|exact Kc _ _ _|exact Ka _|exact Kb _ _ _|exact Kd _ _ _|exact KN|refine KL rfl ?_|refine KM ?_ ?_)) (hl:=by first|exact KD _|exact KF _ _ _|exact KE _|exact KJ _ _ _|exact KT _ _ _|rfl|simp [KF,KD,KE]) (h:=?_))
          refine KC ?_
          refine KB ?_
          refine KB (KA ?_)
          refine oM ?_
          refine oM ?_
          refine oP (KH (v:=.int .i64 (((y.2.2.2-k.1):Nat):Int)) rfl rfl ((br_subI (by omega) (by omega)).trans (by congr 2; omega))) ?_
          refine oP (KH (v:=.int .i64 (((y.2.2.2-k.1-1):Nat):Int)) rfl rfl ((br_subI (by omega) (by omega)).trans (by congr 2; omega))) ?_
          refine oP (Kx (v:=.int .i64 ((0:Nat):Int)) rfl) ?_
          refine KC ?_
          refine LCode.block ?_
          refine Kp (α:=Nat) (fun x=>x≤y.2.2.2-k.1-1) (fun x=>⟨[(0,.pointer (some ⟨f,0,none⟩)),(4,.pointer (some ⟨b4,0,none⟩)),(8,.int .i64 ((y.2.2.2:Nat):Int)),(12,.pointer (some ⟨b12,0,none⟩)),(13,.pointer (some ⟨b13,0,none⟩)),(14,.pointer (some ⟨b14,0,none⟩)),(15,.int .i64 ((k.1:Nat):Int)),(17,.pointer (some ⟨b17,0,none⟩)),(96,.int .i64 (((y.2.2.2-k.1-1):Nat):Int)),(97,.int .i64 ((x:Nat):Int))],[.blk b17 ⟨true,natL (fpow y.2.1 (2^x)).val,33,(0,0)⟩,.blk b12 ⟨true,natL y.2.1.val,33,(0,0)⟩,.blk b13 ⟨true,natL y.1.val,33,(0,0)⟩,.blk b14 ⟨true,natL y.2.2.1.val,33,(0,0)⟩,.blk b4 ⟨true,vec .u64 9 (fun _=>0),33,(0,0)⟩,.blk f ⟨false,fldL V.p bd,162,(0,0)⟩,.blk bd ⟨false,dvL V.p,212,(0,0)⟩]⟩) (fun x=>y.2.2.2-k.1-1-x) (0) (Nat.zero_le _) (KAG (Sub.cells (b:=b17) (cs':=natL (fpow y.2.1 (2^0)).val) (by repeat (first|exact Sh _|apply St_)) (by rw [Nat.pow_zero,fpow_one])) (Kj ⟨rfl,rfl,rfl,rfl,rfl,rfl,rfl,rfl,rfl,rfl,trivial⟩ (by repeat (first|exact Sel.nil _|refine Sel.cons (by repeat (first|exact Ph _|apply Pt_)) ?_)))) ?_
          rintro i hi
          refine KB (KA ?_)
          refine oP (KH rfl rfl (KAZ)) ?_
          refine KC ?_
          refine KB ?_
          first|refine KV rfl (fun h98=>?_) (fun h98=>?_)|refine KZ rfl (fun h98=>?_) (fun h98=>?_)
          ·
            refine KR ?_
            refine KB ?_
            refine LCode.block ?_
            refine KA ?_
            refine oM ?_
            refine oD (dL rfl (hv:=by exact KG Try.underlying33 rfl sz_33)) ?_
            refine oD (dL rfl (hv:=by exact KG Try.underlying33 rfl sz_33)) ?_
            refine oS (cF rfl en_120 rfl (fun w hw=>c_F_Mul V hok f bd _ _ w (mC hw) (mC hw)) ?_)
            refine KU rfl (sA rfl rfl sz_33 (by repeat (first|exact KY _|exact Kc _ _ _|exact Ka _|exact Kb _ _ _|exact Kd _ _ _|exact KN|refine KL rfl ?_|refine KM ?_ ?_)) (hl:=by first|exact KD _|exact KF _ _ _|exact KE _|exact KJ _ _ _|exact KT _ _ _|rfl|simp [KF,KD,KE]) (h:=?_))
            refine KC ?_
            refine KA ?_
            refine oP (KH rfl rfl (Kv (b:=1) (by omega))) ?_
            refine oM ?_
            refine KC ?_
            exact ⟨i+1,by omega,by omega,KAG (Sub.cells (b:=b17) (cs':=natL (fpow y.2.1 (2^(i+1))).val) (by repeat (first|exact Sh _|apply St_)) (by rw [fpow_succ2])) (Kj ⟨rfl,rfl,rfl,rfl,rfl,rfl,rfl,rfl,rfl,rfl,trivial⟩ (by repeat (first|exact Sel.nil _|refine Sel.cons (by repeat (first|exact Ph _|apply Pt_)) ?_)))⟩
          ·
            refine Kl ?_
            refine KB ?_
            obtain rfl:i = y.2.2.2-k.1-1:=by omega
            refine rD [8,9] ?_
            refine aM 0 ?_
            refine aD 1 rfl (dL rfl (hv:=by exact KG Try.underlying33 rfl sz_33)) ?_
            refine aD 2 rfl (dL rfl (hv:=by exact KG Try.underlying33 rfl sz_33)) ?_
            refine aM 4 ?_
            refine KAb [7,8,9] 5 rfl (by kernel_rfl) (Nb rfl) (dL rfl (hv:=by exact KG Try.underlying33 rfl sz_33)) ?_
            refine KAb [7,8,9] 6 rfl (by kernel_rfl) (Nb rfl) (dL rfl (hv:=by exact KG Try.underlying33 rfl sz_33)) ?_
            refine aO 3 rfl (cF rfl en_120 rfl (fun w hw=>c_F_Mul V hok f bd _ _ w (mC hw) (mC hw)) ?_)
            refine aO 7 rfl (cF rfl en_120 rfl (fun w hw=>c_F_Mul V hok f bd _ _ w (mC hw) (mC hw)) ?_)
            refine aL 8 rfl (sA rfl rfl sz_33 (by repeat (first|exact KY _|exact Kc _ _ _|exact Ka _|exact Kb _ _ _|exact Kd _ _ _|exact KN|refine KL rfl ?_|refine KM ?_ ?_)) (hl:=by first|exact KD _|exact KF _ _ _|exact KE _|exact KJ _ _ _|exact KT _ _ _|rfl|simp [KF,KD,KE]) (h:=?_))
            refine aL 9 rfl (sA rfl rfl sz_33 (by repeat (first|exact KY _|exact Kc _ _ _|exact Ka _|exact Kb _ _ _|exact Kd _ _ _|exact KN|refine KL rfl ?_|refine KM ?_ ?_)) (hl:=by first|exact KD _|exact KF _ _ _|exact KE _|exact KJ _ _ _|exact KT _ _ _|rfl|simp [KF,KD,KE]) (h:=?_))
            refine aE ?_
            refine KA ?_
            refine oM ?_
            refine oD (dL rfl (hv:=by exact KG Try.underlying33 rfl sz_33)) ?_
            refine oD (dL rfl (hv:=by exact KG Try.underlying33 rfl sz_33)) ?_
            refine oS (cF rfl en_120 rfl (fun w hw=>c_F_Mul V hok f bd _ _ w (mC hw) (mC hw)) ?_)
            refine oM ?_
            refine KU rfl (sA rfl rfl sz_33 (by repeat (first|exact KY _|exact Kc _ _ _|exact Ka _|exact Kb _ _ _|exact Kd _ _ _|exact KN|refine KL rfl ?_|refine KM ?_ ?_)) (hl:=by first|exact KD _|exact KF _ _ _|exact KE _|exact KJ _ _ _|exact KT _ _ _|rfl|simp [KF,KD,KE]) (h:=?_))
            refine oA ?_
            refine KC ?_
            obtain ⟨hn1,hn2,hn3⟩:=TS.next hok.fld.dom hy1 h80 hk h84
            exact ⟨(y.1*(fpow y.2.1 (2^(y.2.2.2-k.1-1))),(fpow y.2.1 (2^(y.2.2.2-k.1-1)))*(fpow y.2.1 (2^(y.2.2.2-k.1-1))),y.2.2.1*((fpow y.2.1 (2^(y.2.2.2-k.1-1)))*(fpow y.2.1 (2^(y.2.2.2-k.1-1)))),k.1),⟨hn3,by dsimp only; omega⟩,by dsimp only; omega,Kj ⟨rfl,rfl,rfl,rfl,rfl,rfl,trivial⟩ (by repeat (first|exact Sel.nil _|refine Sel.cons (by repeat (first|exact Ph _|apply Pt_)) ?_))⟩
      ·
        have h80:y.2.2.1 = 1:=(ne_iff1 hok).1 (by simpa using h80)
        refine Kl ?_
        refine KB (KA ?_)
        refine oD (dL rfl (hv:=by exact KG Try.underlying33 rfl sz_33)) ?_
        refine KU rfl (sA rfl rfl sz_33 (by repeat (first|exact KY _|exact Kc _ _ _|exact Ka _|exact Kb _ _ _|exact Kd _ _ _|exact KN|refine KL rfl ?_|refine KM ?_ ?_)) (hl:=by first|exact KD _|exact KF _ _ _|exact KE _|exact KJ _ _ _|exact KT _ _ _|rfl|simp [KF,KD,KE]) (h:=?_))
        refine KC (KO ?_)
        refine ⟨[_],.cons ⟨_,_,_,rfl,(by repeat (first|exact Mh _|apply Mt)),by exact KG Try.underlying33 rfl sz_33⟩ .nil,fun a w' hr=>⟨_,⟨y.1,hy1.done h80,rfl⟩,rfl,hr.fr.below⟩⟩
def sqV (p a:Nat):Value:=match sqN p a with
  | some r=>.tuple #[natV r,.bool true]
  | none=>.tuple #[natV 0,.bool false]
theorem sqV_some {p a r:Nat} (h:sqN p a = some r):sqV p a = .tuple #[natV r,.bool true]:=by unfold sqV; rw [h]
theorem sqV_none {p a:Nat} (h:sqN p a = none):sqV p a = .tuple #[natV 0,.bool false]:=by unfold sqV; rw [h]
theorem c_F_Sqrt (V:Cv) (f bd:Nat) (hok:V.Ok) (a:Fin V.p) (w:World) (hf:(Item.blk f ⟨false,fldL V.p bd,162,(0,0)⟩).holds w) (hbd:(Item.blk bd ⟨false,dvL V.p,212,(0,0)⟩).holds w):Calls Try.prog 129 ([.pointer (some ⟨f,0,none⟩),natV a.val]:List Value).toArray w (fun e w'=>e = .returned (sqV V.p a.val)∧Below w.heap.size w w'):=by
  have hbb:=hok.bounds
  have hpW:V.p<W9:=KAF hbb.2.1
  refine Kf (N:=44) (rs:=[.cell 4 33,.tmp 5]) [.blk f ⟨false,fldL V.p bd,162,(0,0)⟩,.blk bd ⟨false,dvL V.p,212,(0,0)⟩] Try.func129 rfl Try.ntmps129 Try.results129 (Nb rfl) ⟨hf,hbd,trivial⟩ rfl ?_
  show LCode _ _ _ ⟨_,_⟩ _
  refine KB (KA ?_)
  refine oS (mB (fun b3=>?_))
  refine oS (mk (KS zr_33) (fun b4=>?_))
  refine oA ?_
  refine KC ?_
  refine KB ?_
  refine KB (KA ?_)
  refine oD (dL rfl (hv:=by exact KG Try.underlying33 rfl sz_33)) ?_
  refine oP (KK (Kw pl_33 zr_33 rfl rfl) (show _ = natV 0 by unfold natV natL; rw [← vec_zeros 9])) ?_
  refine oP (Det.eqa (by kernel_rfl) (fun w=>eq_nat a.val 0 (Nat.lt_trans a.isLt hpW) zero_w9 10000 (by decide) w) rfl rfl) ?_
  refine KC ?_
  first|refine KV rfl (fun h11=>?_) (fun h11=>?_)|refine KZ rfl (fun h11=>?_) (fun h11=>?_)
  ·
    have h11:a.val = 0:=by simpa using h11
    refine KB (KA ?_)
    refine oD (dL rfl (hv:=by exact KG Try.underlying33 rfl sz_33)) ?_
    refine KU rfl (sA rfl rfl sz_33 (by repeat (first|exact KY _|exact Kc _ _ _|exact Ka _|exact Kb _ _ _|exact Kd _ _ _|exact KN|refine KL rfl ?_|refine KM ?_ ?_)) (hl:=by first|exact KD _|exact KF _ _ _|exact KE _|exact KJ _ _ _|exact KT _ _ _|rfl|simp [KF,KD,KE]) (h:=?_))
    refine oA ?_
    refine KC (KO ?_)
    refine ⟨[_,_],.cons ⟨_,_,_,rfl,(by repeat (first|exact Mh _|apply Mt)),by exact KG Try.underlying33 rfl sz_33⟩ (.cons rfl .nil),fun a' w' hr=>⟨?_,hr.fr.below⟩⟩
    rw [h11,sqV_some (sqN_zero (by omega))]
    rfl
  ·
    have h11:a≠0:=fun h=>by rw [h] at h11; simp at h11
    refine KR ?_
    refine KB ?_
    refine rD [10] ?_
    refine aM 0 ?_
    refine aP 1 rfl (KP rfl) ?_
    refine aP 2 rfl (KI (o':=0) Try.underlying162 rfl rfl rfl sz_33 (by decide)) ?_
    refine aD 3 rfl (dL rfl (hv:=by exact KAC Try.underlying33 rfl sz_33 rfl (KD _))) ?_
    refine LAny.toP ?_
    refine KAD 9 rfl (.inl zr_33) (Nb rfl) rfl rfl rfl ?_
    refine Ko 4 rfl rfl rfl (Nb rfl) (by kernel_rfl) rfl (Ks (first:=[]) rfl en_147 rfl (fun w hw=>c_one w)) ?_
    rintro _ _ ⟨rfl,rfl⟩
    refine Ko 5 rfl rfl rfl (Nb rfl) (by kernel_rfl) rfl (Ks (first:=[]) rfl en_115 rfl (fun w hw=>c_nat_SubS V.p 1 w hpW (by omega))) ?_
    rintro _ _ ⟨rfl,rfl⟩
    refine pM 6 ?_
    refine pP 7 rfl (Det.extract rfl rfl) ?_
    refine pP 8 rfl (Det.extract rfl rfl) ?_
    refine pE (fun b6=>?_)
    refine KAP ?_
    refine aL 10 rfl (sA rfl rfl sz_33 (by repeat (first|exact KY _|exact Kc _ _ _|exact Ka _|exact Kb _ _ _|exact Kd _ _ _|exact KN|refine KL rfl ?_|refine KM ?_ ?_)) (hl:=by first|exact KD _|exact KF _ _ _|exact KE _|exact KJ _ _ _|exact KT _ _ _|rfl|simp [KF,KD,KE]) (h:=?_))
    refine aA 11 ?_
    refine aE ?_
    refine KB ?_
    refine KB ?_
    refine rD [] ?_
    refine aM 0 ?_
    refine aP 1 rfl (KP rfl) ?_
    refine aP 2 rfl (KI (o':=9) Try.underlying162 rfl rfl rfl sz_160 (by decide)) ?_
    refine aD 3 rfl (dL rfl (hv:=by exact LoadV.last Try.underlying160 rfl sz_160 rfl (KD _) rfl)) ?_
    refine aD 4 rfl (dL rfl (hv:=by exact KG Try.underlying33 rfl sz_33)) ?_
    refine aD 5 rfl (dL rfl (hv:=by exact KG Try.underlying33 rfl sz_33)) ?_
    refine aO 6 rfl (cF rfl en_149 rfl (fun w hw=>c_half (V.p-1) (by omega) w) ?_)
    refine aO 7 rfl (cF rfl en_148 rfl (fun w hw=>c_F_Pow V hok bd a ((V.p-1)/2) w (mC hw) (by omega)) ?_)
    refine aO 8 rfl (cF rfl en_147 rfl (fun w hw=>c_one w) ?_)
    refine aP 9 rfl (Det.nea (by kernel_rfl) (fun w=>eq_nat (fpow a ((V.p-1)/2)).val 1 (Nat.lt_trans (fpow a ((V.p-1)/2)).isLt hpW) one_w9 10000 (by decide) w) rfl rfl) ?_
    refine aE ?_
    first|refine KV rfl (fun h31=>?_) (fun h31=>?_)|refine KZ rfl (fun h31=>?_) (fun h31=>?_)
    ·
      have h31:fpow a ((V.p-1)/2)≠1:=fun h=>by simp [(ne_iff1 hok).2 h] at h31
      refine KB (KA ?_)
      refine oP (KK (Kw pl_33 zr_33 rfl rfl) (show _ = natV 0 by unfold natV natL; rw [← vec_zeros 9])) ?_
      refine KU rfl (sA rfl rfl sz_33 (by repeat (first|exact KY _|exact Kc _ _ _|exact Ka _|exact Kb _ _ _|exact Kd _ _ _|exact KN|refine KL rfl ?_|refine KM ?_ ?_)) (hl:=by first|exact KD _|exact KF _ _ _|exact KE _|exact KJ _ _ _|exact KT _ _ _|rfl|simp [KF,KD,KE]) (h:=?_))
      refine oA ?_
      refine KC (KO ?_)
      refine ⟨[_,_],.cons ⟨_,_,_,rfl,(by repeat (first|exact Mh _|apply Mt)),by exact KG Try.underlying33 rfl sz_33⟩ (.cons rfl .nil),fun a' w' hr=>⟨?_,hr.fr.below⟩⟩
      rw [sqV_none (sqN_no hok h11 h31)]
      rfl
    ·
      have h31:fpow a ((V.p-1)/2) = 1:=(ne_iff1 hok).1 (by simpa using h31)
      refine KR ?_
      refine KB (KA ?_)
      refine oM ?_
      refine oD (dL rfl (hv:=by exact KG Try.underlying33 rfl sz_33)) ?_
      refine oS (LStep.callV (first:=[]) rfl en_150 rfl (Nb rfl) (fun w hw=>c_root V f bd hok a w (mC hw) (mC hw) h31) ?_)
      rintro _ ⟨x,hx,rfl⟩
      refine oS (mk (KS zr_33) (fun b8=>?_))
      refine KU rfl (sA rfl rfl sz_33 (by repeat (first|exact KY _|exact Kc _ _ _|exact Ka _|exact Kb _ _ _|exact Kd _ _ _|exact KN|refine KL rfl ?_|refine KM ?_ ?_)) (hl:=by first|exact KD _|exact KF _ _ _|exact KE _|exact KJ _ _ _|exact KT _ _ _|rfl|simp [KF,KD,KE]) (h:=?_))
      refine KC ?_
      refine KB ?_
      refine KB (KA ?_)
      refine oD (dL rfl (hv:=by exact KG Try.underlying33 rfl sz_33)) ?_
      refine oS (cF rfl en_89 rfl (fun w hw=>c_nat_Bit x.val 0 (Nat.lt_trans x.isLt hpW) (by decide) w) ?_)
      refine oP (KH rfl rfl (KAR (b:=1))) ?_
      refine KC ?_
      first|refine KV rfl (fun h38=>?_) (fun h38=>?_)|refine KZ rfl (fun h38=>?_) (fun h38=>?_)
      ·
        have h38:x.val/2^0%2 = 1:=h38
        rw [Nat.pow_zero,Nat.div_one] at h38
        refine KA ?_
        refine oM ?_
        refine oP (KK (Kw pl_33 zr_33 rfl rfl) (show _ = natV 0 by unfold natV natL; rw [← vec_zeros 9])) ?_
        refine oD (dL rfl (hv:=by exact KG Try.underlying33 rfl sz_33)) ?_
        refine oS (cF rfl en_130 rfl (fun w hw=>c_F_Sub V hok f bd 0 x w (mC hw)) ?_)
        refine KU rfl (sA rfl rfl sz_33 (by repeat (first|exact KY _|exact Kc _ _ _|exact Ka _|exact Kb _ _ _|exact Kd _ _ _|exact KN|refine KL rfl ?_|refine KM ?_ ?_)) (hl:=by first|exact KD _|exact KF _ _ _|exact KE _|exact KJ _ _ _|exact KT _ _ _|rfl|simp [KF,KD,KE]) (h:=?_))
        refine KC ?_
        refine KB (KA ?_)
        refine oD (dL rfl (hv:=by exact KG Try.underlying33 rfl sz_33)) ?_
        refine KU rfl (sA rfl rfl sz_33 (by repeat (first|exact KY _|exact Kc _ _ _|exact Ka _|exact Kb _ _ _|exact Kd _ _ _|exact KN|refine KL rfl ?_|refine KM ?_ ?_)) (hl:=by first|exact KD _|exact KF _ _ _|exact KE _|exact KJ _ _ _|exact KT _ _ _|rfl|simp [KF,KD,KE]) (h:=?_))
        refine oA ?_
        refine KC (KO ?_)
        refine ⟨[_,_],.cons ⟨_,_,_,rfl,(by repeat (first|exact Mh _|apply Mt)),by exact KG Try.underlying33 rfl sz_33⟩ (.cons rfl .nil),fun a' w' hr=>⟨?_,hr.fr.below⟩⟩
        rw [← hx,sqV_some (sqN_eq hok.fld (p_odd hok) x),evenR,if_pos h38]
        rfl
      ·
        have h38:¬ x.val/2^0%2 = 1:=h38
        rw [Nat.pow_zero,Nat.div_one] at h38
        refine KR ?_
        refine KB (KA ?_)
        refine oD (dL rfl (hv:=by exact KG Try.underlying33 rfl sz_33)) ?_
        refine KU rfl (sA rfl rfl sz_33 (by repeat (first|exact KY _|exact Kc _ _ _|exact Ka _|exact Kb _ _ _|exact Kd _ _ _|exact KN|refine KL rfl ?_|refine KM ?_ ?_)) (hl:=by first|exact KD _|exact KF _ _ _|exact KE _|exact KJ _ _ _|exact KT _ _ _|rfl|simp [KF,KD,KE]) (h:=?_))
        refine oA ?_
        refine KC (KO ?_)
        refine ⟨[_,_],.cons ⟨_,_,_,rfl,(by repeat (first|exact Mh _|apply Mt)),by exact KG Try.underlying33 rfl sz_33⟩ (.cons rfl .nil),fun a' w' hr=>⟨?_,hr.fr.below⟩⟩
        rw [← hx,sqV_some (sqN_eq hok.fld (p_odd hok) x),evenR,if_neg h38]
        rfl
end Go.Proofs.Ytlmiolnccgjjjaa
set_option linter.unusedVariables false
set_option linter.unusedSimpArgs false
set_option maxRecDepth 20000
namespace Go.Proofs.Ytlmiolnccgjjjaa
open Go Go.RowKit
def uidx (x:Int):Nat:=(x%18446744073709551616).toNat
theorem uidx_eq (x:Int):Value.int .u64 (IntKind.u64.wrap x) = Value.int .u64 ((uidx x:Nat):Int):=by
  unfold uidx
  rw [wrap_u64,Int.toNat_of_nonneg (Int.emod_nonneg _ (by decide))]
theorem cvI_idx (x:Int):∃ V,cvI ((1+uidx x%15:Nat):Int) = some V:=by
  rw [cvI_nat]; exact cvOf_some (by omega) (by omega)
theorem cvI_id {id:Int} {V:Cv} (h:cvI id = some V):cvI ((V.id:Nat):Int) = some V:=by rw [(cvI_ok h).2]; exact h
end Go.Proofs.Ytlmiolnccgjjjaa
set_option linter.unusedVariables false
set_option linter.unusedSimpArgs false
set_option maxRecDepth 20000
namespace Go.Proofs.Ytlmiolnccgjjjaa
open Go Go.RowKit
open Grp
theorem Brings.own {w w':World} {H:List Item} {b:Nat} {cs:List Value} {e:TypeId} (hb:Below w.heap.size w w') (h:(Item.blk b ⟨true,cs,e,(0,0)⟩).holds w') (hn:w.heap.size≤b):Brings w H [.blk b ⟨true,cs,e,(0,0)⟩] w' :=
  ⟨hb,(by intro x hx; simp at hx; subst hx; exact h),(by intro x hx k hk; simp at hx; subst hx; simp [Item.fp] at hk; subst hk; exact .inl hn),(by intro x hx _ k hk; simp at hx; subst hx; simp [Item.fp] at hk; subst hk; exact hn),List.pairwise_singleton _ _⟩
end Go.Proofs.Ytlmiolnccgjjjaa
set_option linter.unusedVariables false
set_option linter.unusedSimpArgs false
set_option maxRecDepth 20000
namespace Go.Proofs.Ytlmiolnccgjjjaa
open Go Go.RowKit
open Grp
theorem xG {V:Cv} (hok:V.Ok):xv V.G = V.x:=val_c hok.bounds.2.2.2.2.1
theorem yG {V:Cv} (hok:V.Ok):yv V.G = V.y:=val_c hok.bounds.2.2.2.2.2.1
end Go.Proofs.Ytlmiolnccgjjjaa
set_option linter.unusedVariables false
set_option linter.unusedSimpArgs false
set_option maxRecDepth 20000
namespace Go.Proofs.Ytlmiolnccgjjjaa
open Go Go.RowKit
open Grp
theorem g_val {V:Cv} (hok:V.Ok):Value.agg (ptL V.x V.y false).toArray = ptP V.G:=by
  unfold ptP ptV
  rw [xG hok,yG hok]
  rfl
theorem c_cOnB (V:Cv) (b f bd:Nat) (hok:V.Ok) (X Y:Nat) (i r:Bool) (w:World) (hb:(Item.blk b ⟨false,opL V f,129,(0,0)⟩).holds w) (hf:(Item.blk f ⟨false,fldL V.p bd,162,(0,0)⟩).holds w) (hbd:(Item.blk bd ⟨false,dvL V.p,212,(0,0)⟩).holds w) (hX:X<W9) (hY:Y<W9) (hr:onB V.p V.a V.b X Y i = r):Calls Try.prog 81 ([.pointer (some ⟨b,0,none⟩),ptV X Y i]:List Value).toArray w (fun e w'=>e = .returned (.bool r)∧Below w.heap.size w w'):=by
  have:=c_cOn V b f bd hok X Y i w hb hf hbd hX hY
  rwa [hr] at this
theorem c_cOnP (V:Cv) (b f bd:Nat) (hok:V.Ok) (P:Pt V.p) (w:World) (hb:(Item.blk b ⟨false,opL V f,129,(0,0)⟩).holds w) (hf:(Item.blk f ⟨false,fldL V.p bd,162,(0,0)⟩).holds w) (hbd:(Item.blk bd ⟨false,dvL V.p,212,(0,0)⟩).holds w) (hP:On V.A V.B P):Calls Try.prog 81 ([.pointer (some ⟨b,0,none⟩),ptP P]:List Value).toArray w (fun e w'=>e = .returned (.bool true)∧Below w.heap.size w w') :=
  c_cOnB V b f bd hok (xv P) (yv P) (iv P) true w hb hf hbd (pt_w9 hok P).1 (pt_w9 hok P).2 (onB_on hP)
theorem pjFL_length {p:Nat} (T:Fin p×Fin p×Fin p):(pjFL T).length = 27:=KT _ _ _
theorem pjFL_one {p:Nat} (T:Fin p×Fin p×Fin p):AllOne (pjFL T):=Kd _ _ _
end Go.Proofs.Ytlmiolnccgjjjaa
set_option linter.unusedVariables false
set_option linter.unusedSimpArgs false
set_option maxRecDepth 20000
namespace Go.Proofs.Ytlmiolnccgjjjaa
open Go Go.RowKit
def pfx (x:Nat):ByteArray:=strOf ((List.range 1).map fun i=>UInt8.ofNat ((fun _=>x) i))
def coB (V:Cv) (X:Nat):ByteArray:=strOf (beBytes (nby V.p) X)
def putS (V:Cv) (X Y:Nat) (sh:Bool):ByteArray:=if sh then pfx (2+Y%2)++coB V X else pfx 4++coB V X++coB V Y
def putV (V:Cv) (X Y:Nat) (i sh:Bool):Value:=if (onB V.p V.a V.b X Y i && !i) = true then .tuple #[.string (putS V X Y sh),.int .i64 ((0:Nat):Int)] else .tuple #[.string ⟨#[]⟩,.int .i64 ((2101:Nat):Int)]
theorem putV_off {V:Cv} {X Y:Nat} {i:Bool} (sh:Bool) (h:onB V.p V.a V.b X Y i = false):putV V X Y i sh = .tuple #[.string ⟨#[]⟩,.int .i64 ((2101:Nat):Int)]:=by unfold putV; rw [h]; rfl
theorem putV_inf (V:Cv) (X Y:Nat) (sh:Bool):putV V X Y true sh = .tuple #[.string ⟨#[]⟩,.int .i64 ((2101:Nat):Int)]:=by unfold putV; rw [Bool.not_true,Bool.and_false]; rfl
theorem putV_on {V:Cv} {X Y:Nat} (sh:Bool) (h:onB V.p V.a V.b X Y false = true):putV V X Y false sh = .tuple #[.string (putS V X Y sh),.int .i64 ((0:Nat):Int)]:=by unfold putV; rw [h]; rfl
theorem pfx_mod (y:Nat):pfx ((2+y/2^0%2)%256) = pfx (2+y%2):=by
  rw [Nat.pow_zero,Nat.div_one,Nat.mod_eq_of_lt (by omega)]
theorem coB_size (V:Cv) (X:Nat):(coB V X).size = nby V.p:=str_size _ _
theorem on_lt {V:Cv} {X Y:Nat} (h:onB V.p V.a V.b X Y false = true):X<V.p∧Y<V.p:=by
  unfold onB at h
  rw [if_neg (by decide)] at h
  simp only [Bool.and_eq_true,decide_eq_true_eq] at h
  exact ⟨h.1,h.2.1⟩
theorem c_cOnV (v:Bool) (V:Cv) (b f bd:Nat) (hok:V.Ok) (X Y:Nat) (i:Bool) (w:World) (hb:(Item.blk b ⟨false,opL V f,129,(0,0)⟩).holds w) (hf:(Item.blk f ⟨false,fldL V.p bd,162,(0,0)⟩).holds w) (hbd:(Item.blk bd ⟨false,dvL V.p,212,(0,0)⟩).holds w) (hX:X<W9) (hY:Y<W9) (h:onB V.p V.a V.b X Y i = v):Calls Try.prog 81 ([.pointer (some ⟨b,0,none⟩),ptV X Y i]:List Value).toArray w (fun e w'=>e = .returned (.bool v)∧Below w.heap.size w w'):=h ▸ c_cOn V b f bd hok X Y i w hb hf hbd hX hY
theorem c_s_Put (id:Int) (V:Cv) (X Y:Nat) (i sh:Bool) (w:World) (h:cvI id = some V) (hX:X<W9) (hY:Y<W9):Calls Try.prog 40 ([.int .i64 id,ptV X Y i,.bool sh]:List Value).toArray w (fun e w'=>e = .returned (putV V X Y i sh)∧Below w.heap.size w w'):=by
  obtain ⟨hok,hid⟩:=cvI_ok h
  have hbb:=hok.bounds
  have hpW:V.p<W9:=KAF hbb.2.1
  have hnW:V.n<W9:=KAF hbb.2.2.2.2.2.2.1
  have hbl:=KAe hnW
  have hnb:nby V.n≤72:=by (unfold nby; omega)
  have hnp:nby V.p≤72:=by have:=KAe (KAF hbb.2.1); (unfold nby; omega)
  refine Kf (N:=65) (rs:=[.tmp 6,.tmp 7]) [] Try.func40 rfl Try.ntmps40 Try.results40 (Nb rfl) trivial rfl ?_
  show LCode _ _ _ ⟨_,_⟩ _
  refine KB (KA ?_)
  refine oS (mB (fun b4=>?_))
  refine oA ?_
  refine oP (KX (v:=.int .i64 ((0:Nat):Int)) rfl) ?_
  refine KC ?_
  refine KB (KA ?_)
  refine oM ?_
  refine oS (KAK (Post:=fun v its=>∃ b f bd,v = .pointer (some ⟨b,0,none⟩)∧its = [.blk b ⟨false,opL V f,129,(0,0)⟩,.blk f ⟨false,fldL V.p bd,162,(0,0)⟩,.blk bd ⟨false,dvL V.p,212,(0,0)⟩]) (first:=[]) rfl en_80 rfl (Nb rfl) (fun w1 hw hs=>(c_Open _ V w1 h).mono fun e w' ⟨b,f,bd,h1,h2,h3,h4,h5,h6,h7,h8⟩=>⟨_,_,⟨b,f,bd,rfl,rfl⟩,h1,KAN h8 (by intro x hx; simp at hx; rcases hx with rfl|rfl|rfl; exact h2; exact h3; exact h4) (by intro x hx; simp at hx; rcases hx with rfl|rfl|rfl <;> rfl) (by intro x hx k hk; simp at hx; rcases hx with rfl|rfl|rfl <;> simp [Item.fp] at hk <;> subst hk; exact .inl h5; exact .inl h6; exact .inl h7)⟩) ?_)
  rintro _ _ ⟨b,f,bd,rfl,rfl⟩
  refine oA ?_
  refine KC ?_
  refine KB ?_
  refine LCode.block ?_
  refine KB (KA ?_)
  refine oM ?_
  refine oP (KK (Det.eqp Try.underlying110 rfl rfl) (show _ = Value.bool false from rfl)) ?_
  refine oA ?_
  refine KC ?_
  refine KQ rfl ?_
  refine KB ?_
  rcases (show i = true∨(i = false∧onB V.p V.a V.b X Y false = false)∨(i = false∧onB V.p V.a V.b X Y false = true) by cases i <;> cases onB V.p V.a V.b X Y false <;> simp) with rfl|⟨rfl,h1⟩|⟨rfl,h1⟩
  ·
    refine KA ?_
    refine oP (KI (o':=18) Try.underlying35 rfl rfl rfl sz_4 (by decide)) ?_
    refine oD (dL rfl (hv:=KW Try.underlying4 rfl (by exact pt_gt _ _ _))) ?_
    refine oM ?_
    refine oK ?_
    refine oK ?_
    refine oK ?_
    refine oK ?_
    refine oP (Kn rfl rfl) ?_
    refine oA ?_
    refine KC ?_
    refine Ke rfl ?_
    refine KB (KA ?_)
    refine oA ?_
    refine oP (KX (v:=.int .i64 ((2101:Nat):Int)) rfl) ?_
    refine KC (KO ?_)
    refine ⟨[_,_],.cons rfl (.cons rfl .nil),fun a w' hr=>⟨?_,hr.fr.below⟩⟩
    rw [putV_inf]
    rfl
  ·
    refine KA ?_
    refine oP (KI (o':=18) Try.underlying35 rfl rfl rfl sz_4 (by decide)) ?_
    refine oD (dL rfl (hv:=KW Try.underlying4 rfl (by exact pt_gt _ _ _))) ?_
    refine oM ?_
    refine oGM ?_
    refine KAa rfl rfl (dL rfl (hv:=by exact KG Try.underlying35 rfl sz_35)) (Nb rfl) ?_
    refine oGS (cF rfl en_81 rfl (fun w hw=>c_cOnV false V b f bd hok X Y false w (mC hw) (mC hw) (mC hw) hX hY h1) ?_)
    refine oGP (KK (Det.not rfl) (show _ = Value.bool true from rfl)) ?_
    refine oP (Ki rfl rfl) ?_
    refine oA ?_
    refine KC ?_
    refine Ke rfl ?_
    refine KB (KA ?_)
    refine oA ?_
    refine oP (KX (v:=.int .i64 ((2101:Nat):Int)) rfl) ?_
    refine KC (KO ?_)
    refine ⟨[_,_],.cons rfl (.cons rfl .nil),fun a w' hr=>⟨?_,hr.fr.below⟩⟩
    rw [putV_off sh h1]
    rfl
  ·
    refine KA ?_
    refine oP (KI (o':=18) Try.underlying35 rfl rfl rfl sz_4 (by decide)) ?_
    refine oD (dL rfl (hv:=KW Try.underlying4 rfl (by exact pt_gt _ _ _))) ?_
    refine oM ?_
    refine oGM ?_
    refine KAa rfl rfl (dL rfl (hv:=by exact KG Try.underlying35 rfl sz_35)) (Nb rfl) ?_
    refine oGS (cF rfl en_81 rfl (fun w hw=>c_cOnV true V b f bd hok X Y false w (mC hw) (mC hw) (mC hw) hX hY h1) ?_)
    refine oGP (KK (Det.not rfl) (show _ = Value.bool false from rfl)) ?_
    refine oP (Ki rfl rfl) ?_
    refine oA ?_
    refine KC ?_
    refine KQ rfl ?_
    refine KR ?_
    refine KB ?_
    obtain ⟨hXp,hYp⟩:=on_lt h1
    refine rD [] ?_
    refine aP 0 rfl (KI (o':=0) Try.underlying35 rfl rfl rfl sz_33 (by decide)) ?_
    refine aD 1 rfl (dL rfl (hv:=by exact KAC Try.underlying33 rfl sz_33 rfl (KD _))) ?_
    refine aM 2 ?_
    refine aP 3 rfl (KP rfl) ?_
    refine aP 4 rfl (KI (o':=0) Try.underlying129 rfl rfl rfl KAS (by decide)) ?_
    refine aP 5 rfl (KI (o':=57) Try.underlying126 rfl rfl rfl sz_3 (by decide)) ?_
    refine aD 6 rfl (dL rfl (hv:=KW Try.underlying3 rfl (by exact cvC_gt_size _ _ _ _ _ _ _ _ _ _ _ _ _))) ?_
    refine aO 7 rfl (cF rfl en_88 rfl (fun w hw=>c_nat_BytesOK X (nby V.p) w (by omega) hnp (nby_le hXp)) ?_)
    refine aM 8 ?_
    refine aP 9 rfl (Det.extract rfl rfl) ?_
    refine aP 10 rfl (Det.extract rfl rfl) ?_
    refine aA 11 ?_
    refine aA 12 ?_
    refine aE ?_
    refine KB ?_
    refine KB (KA ?_)
    refine oM ?_
    refine KC ?_
    first|refine KV rfl (fun hsh=>?_) (fun hsh=>?_)|refine KZ rfl (fun hsh=>?_) (fun hsh=>?_)
    ·
      subst hsh
      refine KB (KA ?_)
      refine oP (KI (o':=9) Try.underlying35 rfl rfl rfl sz_33 (by decide)) ?_
      refine oD (dL rfl (hv:=by exact pt_ld1 _ _ _ _ _ _)) ?_
      refine oS (cF rfl en_89 rfl (fun w hw=>c_nat_Bit Y 0 hY (by decide) w) ?_)
      refine oP (KH rfl rfl (Kv (a:=2) (by omega))) ?_
      refine oP (Det.conv8 Try.underlying3 Try.underlying5 rfl) ?_
      refine oS (mk (KAM Try.underlying66 inf_5 rfl rfl rfl rfl (by decide) rfl) (fun b44=>?_))
      refine oD (Det.bytesStr (f:=fun _=>(2+Y/2^0%2)%256) Try.underlying66 Try.underlying5 Try.underlying9 rfl (by repeat (first|exact Mh _|apply Mt)) (by rfl)) ?_
      refine oM ?_
      refine oP (Det.cat rfl rfl (by have h2:=str_size (nby V.p) X; have h3:=str_size (nby V.p) Y; have h4:∀ x,(strOf ((List.range 1).map fun i=>UInt8.ofNat ((fun _=>x) i))).size = 1:=fun _=>rfl; have h5:(⟨#[4]⟩:ByteArray).size = 1:=rfl; try simp only [ByteArray.size_append,h4,h2,h3,h5]; omega)) ?_
      refine oA ?_
      refine oP (KX (v:=.int .i64 ((0:Nat):Int)) rfl) ?_
      refine KC (KO ?_)
      refine ⟨[_,_],.cons rfl (.cons rfl .nil),fun a w' hr=>⟨?_,hr.fr.below⟩⟩
      rw [putV_on _ h1,putS,if_pos rfl,← pfx_mod]
      rfl
    ·
      subst hsh
      refine KR ?_
      refine KB ?_
      refine rD [] ?_
      refine aP 0 rfl (KI (o':=9) Try.underlying35 rfl rfl rfl sz_33 (by decide)) ?_
      refine aD 1 rfl (dL rfl (hv:=by exact pt_ld1 _ _ _ _ _ _)) ?_
      refine aM 2 ?_
      refine aP 3 rfl (KP rfl) ?_
      refine aP 4 rfl (KI (o':=0) Try.underlying129 rfl rfl rfl KAS (by decide)) ?_
      refine aP 5 rfl (KI (o':=57) Try.underlying126 rfl rfl rfl sz_3 (by decide)) ?_
      refine aD 6 rfl (dL rfl (hv:=KW Try.underlying3 rfl (by exact cvC_gt_size _ _ _ _ _ _ _ _ _ _ _ _ _))) ?_
      refine aO 7 rfl (cF rfl en_88 rfl (fun w hw=>c_nat_BytesOK Y (nby V.p) w (by omega) hnp (nby_le hYp)) ?_)
      refine aM 8 ?_
      refine aP 9 rfl (Det.extract rfl rfl) ?_
      refine aP 10 rfl (Det.extract rfl rfl) ?_
      refine aA 11 ?_
      refine aA 12 ?_
      refine aE ?_
      refine KB (KA ?_)
      refine oS (mk (KAM Try.underlying66 inf_5 rfl rfl rfl rfl (by decide) rfl) (fun b59=>?_))
      refine oD (Det.bytesStr (f:=fun _=>4) Try.underlying66 Try.underlying5 Try.underlying9 rfl (by repeat (first|exact Mh _|apply Mt)) (by rfl)) ?_
      refine oM ?_
      refine oP (Det.cat rfl rfl (by have h2:=str_size (nby V.p) X; have h3:=str_size (nby V.p) Y; have h4:∀ x,(strOf ((List.range 1).map fun i=>UInt8.ofNat ((fun _=>x) i))).size = 1:=fun _=>rfl; have h5:(⟨#[4]⟩:ByteArray).size = 1:=rfl; try simp only [ByteArray.size_append,h4,h2,h3,h5]; omega)) ?_
      refine oM ?_
      refine oP (Det.cat rfl rfl (by have h2:=str_size (nby V.p) X; have h3:=str_size (nby V.p) Y; have h4:∀ x,(strOf ((List.range 1).map fun i=>UInt8.ofNat ((fun _=>x) i))).size = 1:=fun _=>rfl; have h5:(⟨#[4]⟩:ByteArray).size = 1:=rfl; try simp only [ByteArray.size_append,h4,h2,h3,h5]; omega)) ?_
      refine oA ?_
      refine oP (KX (v:=.int .i64 ((0:Nat):Int)) rfl) ?_
      refine KC (KO ?_)
      refine ⟨[_,_],.cons rfl (.cons rfl .nil),fun a w' hr=>⟨?_,hr.fr.below⟩⟩
      rw [putV_on _ h1,putS,if_neg (by decide)]
      rfl
def liftT (V:Cv) (X odd:Nat):Nat×Nat×Bool:=if X<V.p then (match sqN V.p (rightN V.p V.a V.b X) with
  | none=>(0,0,false)
  | some r=>if odd = 0 then (X,r,true) else if r = 0 then (X,0,false) else (X,V.p-r,true)) else (0,0,false)
theorem lift_far {V:Cv} {X odd:Nat} (h:¬ X<V.p):liftT V X odd = (0,0,false):=if_neg h
theorem lift_no {V:Cv} {X odd:Nat} (h:X<V.p) (h1:sqN V.p (rightN V.p V.a V.b X) = none):liftT V X odd = (0,0,false):=by unfold liftT; rw [if_pos h,h1]
theorem lift_even {V:Cv} {X r:Nat} (h:X<V.p) (h1:sqN V.p (rightN V.p V.a V.b X) = some r):liftT V X 0 = (X,r,true):=by unfold liftT; rw [if_pos h,h1]; rfl
theorem lift_zero {V:Cv} {X:Nat} (h:X<V.p) (h1:sqN V.p (rightN V.p V.a V.b X) = some 0):liftT V X 1 = (X,0,false):=by unfold liftT; rw [if_pos h,h1]; rfl
theorem lift_odd {V:Cv} {X r:Nat} (h:X<V.p) (h1:sqN V.p (rightN V.p V.a V.b X) = some r) (h0:r≠0):liftT V X 1 = (X,V.p-r,true):=by unfold liftT; rw [if_pos h,h1]; simp [h0]
theorem c_RightN (R X:Nat) (V:Cv) (b f bd:Nat) (hok:V.Ok) (w:World) (hb:(Item.blk b ⟨false,opL V f,129,(0,0)⟩).holds w) (hf:(Item.blk f ⟨false,fldL V.p bd,162,(0,0)⟩).holds w) (hbd:(Item.blk bd ⟨false,dvL V.p,212,(0,0)⟩).holds w) (hX:X<V.p) (hR:rightN V.p V.a V.b X = R):Calls Try.prog 121 ([.pointer (some ⟨b,0,none⟩),natV X]:List Value).toArray w (fun e w'=>e = .returned (natV R)∧Below w.heap.size w w'):=by
  have h1:=c_Right V b f bd hok ⟨X,hX⟩ w hb hf hbd
  rw [← right_val hok] at h1
  rw [← hR]
  exact h1
theorem right_ltV {V:Cv} (hok:V.Ok) (X:Nat):rightN V.p V.a V.b X<V.p:=Nat.mod_lt _ (by have:=hok.bounds; omega)
theorem c_F_SqrtN (V:Cv) (f bd:Nat) (hok:V.Ok) (R:Nat) (w:World) (hf:(Item.blk f ⟨false,fldL V.p bd,162,(0,0)⟩).holds w) (hbd:(Item.blk bd ⟨false,dvL V.p,212,(0,0)⟩).holds w) (hR:R<V.p) (h:sqN V.p R = none):Calls Try.prog 129 ([.pointer (some ⟨f,0,none⟩),natV R]:List Value).toArray w (fun e w'=>e = .returned (.tuple #[natV 0,.bool false])∧Below w.heap.size w w'):=by
  have h1:=c_F_Sqrt V f bd hok ⟨R,hR⟩ w hf hbd
  rw [sqV_none h] at h1
  exact h1
theorem c_F_SqrtS (r:Nat) (V:Cv) (f bd:Nat) (hok:V.Ok) (R:Nat) (w:World) (hf:(Item.blk f ⟨false,fldL V.p bd,162,(0,0)⟩).holds w) (hbd:(Item.blk bd ⟨false,dvL V.p,212,(0,0)⟩).holds w) (hR:R<V.p) (h:sqN V.p R = some r):Calls Try.prog 129 ([.pointer (some ⟨f,0,none⟩),natV R]:List Value).toArray w (fun e w'=>e = .returned (.tuple #[natV r,.bool true])∧Below w.heap.size w w'):=by
  have h1:=c_F_Sqrt V f bd hok ⟨R,hR⟩ w hf hbd
  rw [sqV_some h] at h1
  exact h1
theorem c_bit0 (v A:Nat) (w:World) (hA:A<W9) (h:A%2 = v):Calls Try.prog 89 ([natV A,.int .i64 0]:List Value).toArray w (fun e w'=>e = .returned (.int .i64 ((v:Nat):Int))∧Below w.heap.size w w'):=by
  have h1:=c_nat_Bit A 0 hA (by decide) w
  rw [Nat.pow_zero,Nat.div_one,h] at h1
  exact h1
theorem c_f_neg (V:Cv) (hok:V.Ok) (f bd r:Nat) (w:World) (hf:(Item.blk f ⟨false,fldL V.p bd,162,(0,0)⟩).holds w) (h0:r≠0) (h:r<V.p):Calls Try.prog 130 ([.pointer (some ⟨f,0,none⟩),natV 0,natV r]:List Value).toArray w (fun e w'=>e = .returned (natV (V.p-r))∧Below w.heap.size w w'):=by
  have h1:=c_f_Sub V f bd 0 r w hf hok.bounds.2.1 (by omega) h
  rwa [Nat.zero_add,Nat.mod_eq_of_lt (by omega)] at h1
theorem c_f_neg0 (V:Cv) (hok:V.Ok) (f bd:Nat) (w:World) (hf:(Item.blk f ⟨false,fldL V.p bd,162,(0,0)⟩).holds w):Calls Try.prog 130 ([.pointer (some ⟨f,0,none⟩),natV 0,natV 0]:List Value).toArray w (fun e w'=>e = .returned (natV 0)∧Below w.heap.size w w'):=by
  have hb:=hok.bounds
  have h1:=c_f_Sub V f bd 0 0 w hf hb.2.1 (by omega) (by omega)
  rwa [Nat.zero_add,Nat.sub_zero,Nat.mod_self] at h1
theorem fill_ptI2 (X Y:Nat):fillL [(0,9),(9,9),(18,1)] (vec .u64 9 (fun _=>0)++(vec .u64 9 (fun _=>0)++[Value.bool false])) [(0,natV X),(1,natV Y)] = some (ptL X Y false):=by
  refine KAX (A:=[]) (B:=vec .u64 9 (fun _=>0)) (D:=vec .u64 9 (fun _=>0)++[Value.bool false]) (cs:=natL X) rfl rfl (KD _) rfl rfl (KF _ _ _) ?_
  refine (KAX (A:=natL X) (B:=vec .u64 9 (fun _=>0)) (D:=[Value.bool false]) (cs:=natL Y) rfl rfl (KD _) (by simp) (KD _) (KF _ _ _) rfl).trans ?_
  simp [ptL]
theorem c_lift (V:Cv) (b f bd:Nat) (hok:V.Ok) (X odd:Nat) (w:World) (hb:(Item.blk b ⟨false,opL V f,129,(0,0)⟩).holds w) (hf:(Item.blk f ⟨false,fldL V.p bd,162,(0,0)⟩).holds w) (hbd:(Item.blk bd ⟨false,dvL V.p,212,(0,0)⟩).holds w) (hX:X<W9) (hodd:odd≤1):Calls Try.prog 91 ([.pointer (some ⟨b,0,none⟩),natV X,.int .i64 ((odd:Nat):Int)]:List Value).toArray w (fun e w'=>e = .returned (.tuple #[ptV (liftT V X odd).1 (liftT V X odd).2.1 false,.bool (liftT V X odd).2.2])∧Below w.heap.size w w'):=by
  have hbb:=hok.bounds
  have hpW:V.p<W9:=KAF hbb.2.1
  have hpo:=p_odd hok
  refine Kf (N:=50) (rs:=[.cell 6 35,.tmp 7]) [.blk b ⟨false,opL V f,129,(0,0)⟩,.blk f ⟨false,fldL V.p bd,162,(0,0)⟩,.blk bd ⟨false,dvL V.p,212,(0,0)⟩] Try.func91 rfl Try.ntmps91 Try.results91 (Nb rfl) ⟨hb,hf,hbd,trivial⟩ rfl ?_
  show LCode _ _ _ ⟨_,_⟩ _
  refine KB (KA ?_)
  refine oS (mB (fun b4=>?_))
  refine oS (mk (KS zr_35) (fun b6=>?_))
  refine oA ?_
  refine KC ?_
  refine KB ?_
  refine KB ?_
  rcases (show (¬ X<V.p)∨X<V.p by omega) with h1|hXp
  ·
    refine rD [] ?_
    refine aM 0 ?_
    refine aP 1 rfl (KP rfl) ?_
    refine aP 2 rfl (KI (o':=59) Try.underlying129 rfl rfl rfl sz_127 (by decide)) ?_
    refine aD 3 rfl (dL rfl (hv:=KW Try.underlying127 rfl (by exact cvC_gt_F _ _ _ _ _ _ _ _ _ _ _ _ _))) ?_
    refine aD 4 rfl (dL rfl (hv:=by exact KG Try.underlying33 rfl sz_33)) ?_
    refine aO 5 rfl (cF rfl en_119 rfl (fun w hw=>c_HasF V f bd X w (mC hw) hX hpW h1) ?_)
    refine aP 6 rfl (KK (Det.not rfl) (show _ = Value.bool true from rfl)) ?_
    refine aE ?_
    refine Ke rfl ?_
    refine KB (KA ?_)
    refine oP (KK (Kw pl_35 zr_35 rfl rfl) pt_zero) ?_
    refine KU rfl (sA rfl rfl sz_35 (by exact Kb _ _ _) (hl:=by exact KJ _ _ _) (h:=?_))
    refine oA ?_
    refine KC (KO ?_)
    refine ⟨[_,_],.cons ⟨_,_,_,rfl,(by repeat (first|exact Mh _|apply Mt)),by exact KG Try.underlying35 rfl sz_35⟩ (.cons rfl .nil),fun a' w' hr=>⟨?_,hr.fr.below⟩⟩
    rw [lift_far h1]
    rfl
  ·
    refine rD [] ?_
    refine aM 0 ?_
    refine aP 1 rfl (KP rfl) ?_
    refine aP 2 rfl (KI (o':=59) Try.underlying129 rfl rfl rfl sz_127 (by decide)) ?_
    refine aD 3 rfl (dL rfl (hv:=KW Try.underlying127 rfl (by exact cvC_gt_F _ _ _ _ _ _ _ _ _ _ _ _ _))) ?_
    refine aD 4 rfl (dL rfl (hv:=by exact KG Try.underlying33 rfl sz_33)) ?_
    refine aO 5 rfl (cF rfl en_119 rfl (fun w hw=>c_HasT V f bd X w (mC hw) hX hpW hXp) ?_)
    refine aP 6 rfl (KK (Det.not rfl) (show _ = Value.bool false from rfl)) ?_
    refine aE ?_
    refine KQ rfl ?_
    refine KR ?_
    refine KB ?_
    obtain ⟨R,hR⟩:∃ R,rightN V.p V.a V.b X = R:=⟨_,rfl⟩
    have hRp:R<V.p:=hR ▸ right_ltV hok X
    rcases h1:sqN V.p R with _|r
    ·
      refine rD [12] ?_
      refine aM 0 ?_
      refine aP 1 rfl (KP rfl) ?_
      refine aP 2 rfl (KI (o':=59) Try.underlying129 rfl rfl rfl sz_127 (by decide)) ?_
      refine aD 3 rfl (dL rfl (hv:=KW Try.underlying127 rfl (by exact cvC_gt_F _ _ _ _ _ _ _ _ _ _ _ _ _))) ?_
      refine aM 4 ?_
      refine aD 5 rfl (dL rfl (hv:=by exact KG Try.underlying33 rfl sz_33)) ?_
      refine LAny.toP ?_
      refine KAD 11 rfl (.inl zr_33) (Nb rfl) rfl rfl rfl ?_
      refine Ko 6 rfl rfl rfl (Nb rfl) (by kernel_rfl) rfl (Ks (first:=[]) rfl en_121 rfl (fun w hw=>c_RightN R X V b f bd hok w (mC hw) (mC hw) (mC hw) hXp hR)) ?_
      rintro _ _ ⟨rfl,rfl⟩
      refine Ko 7 rfl rfl rfl (Nb rfl) (by kernel_rfl) rfl (Ks (first:=[]) rfl en_129 rfl (fun w hw=>c_F_SqrtN V f bd hok R w (mC hw) (mC hw) hRp h1)) ?_
      rintro _ _ ⟨rfl,rfl⟩
      refine pM 8 ?_
      refine pP 9 rfl (Det.extract rfl rfl) ?_
      refine pP 10 rfl (Det.extract rfl rfl) ?_
      refine pE (fun b8=>?_)
      refine KAP ?_
      refine aL 12 rfl (sA rfl rfl sz_33 (by exact KY _) (hl:=by exact KD _) (h:=?_))
      refine aA 13 ?_
      refine aE ?_
      refine KB ?_
      refine KB (KA ?_)
      refine oM ?_
      refine oP (KK (Det.not rfl) (show _ = Value.bool true from rfl)) ?_
      refine KC ?_
      refine Ke rfl ?_
      refine KB (KA ?_)
      refine oP (KK (Kw pl_35 zr_35 rfl rfl) pt_zero) ?_
      refine KU rfl (sA rfl rfl sz_35 (by exact Kb _ _ _) (hl:=by exact KJ _ _ _) (h:=?_))
      refine oA ?_
      refine KC (KO ?_)
      refine ⟨[_,_],.cons ⟨_,_,_,rfl,(by repeat (first|exact Mh _|apply Mt)),by exact KG Try.underlying35 rfl sz_35⟩ (.cons rfl .nil),fun a' w' hr=>⟨?_,hr.fr.below⟩⟩
      rw [← hR] at h1
      rw [lift_no hXp h1]
      rfl
    ·
      refine rD [12] ?_
      refine aM 0 ?_
      refine aP 1 rfl (KP rfl) ?_
      refine aP 2 rfl (KI (o':=59) Try.underlying129 rfl rfl rfl sz_127 (by decide)) ?_
      refine aD 3 rfl (dL rfl (hv:=KW Try.underlying127 rfl (by exact cvC_gt_F _ _ _ _ _ _ _ _ _ _ _ _ _))) ?_
      refine aM 4 ?_
      refine aD 5 rfl (dL rfl (hv:=by exact KG Try.underlying33 rfl sz_33)) ?_
      refine LAny.toP ?_
      refine KAD 11 rfl (.inl zr_33) (Nb rfl) rfl rfl rfl ?_
      refine Ko 6 rfl rfl rfl (Nb rfl) (by kernel_rfl) rfl (Ks (first:=[]) rfl en_121 rfl (fun w hw=>c_RightN R X V b f bd hok w (mC hw) (mC hw) (mC hw) hXp hR)) ?_
      rintro _ _ ⟨rfl,rfl⟩
      refine Ko 7 rfl rfl rfl (Nb rfl) (by kernel_rfl) rfl (Ks (first:=[]) rfl en_129 rfl (fun w hw=>c_F_SqrtS r V f bd hok R w (mC hw) (mC hw) hRp h1)) ?_
      rintro _ _ ⟨rfl,rfl⟩
      refine pM 8 ?_
      refine pP 9 rfl (Det.extract rfl rfl) ?_
      refine pP 10 rfl (Det.extract rfl rfl) ?_
      refine pE (fun b8=>?_)
      refine KAP ?_
      refine aL 12 rfl (sA rfl rfl sz_33 (by exact KY _) (hl:=by exact KD _) (h:=?_))
      refine aA 13 ?_
      refine aE ?_
      refine KB ?_
      refine KB (KA ?_)
      refine oM ?_
      refine oP (KK (Det.not rfl) (show _ = Value.bool false from rfl)) ?_
      refine KC ?_
      refine KQ rfl ?_
      refine KR ?_
      refine KB ?_
      refine KB ?_
      obtain ⟨hr1,hr2,hr3⟩:=sqN_some h1
      rcases (show odd = 0∨(odd = 1∧r = 0)∨(odd = 1∧r≠0) by omega) with rfl|⟨rfl,rfl⟩|⟨rfl,hr0⟩
      ·
        refine KA ?_
        refine oD (dL rfl (hv:=by exact KG Try.underlying33 rfl sz_33)) ?_
        refine oS (cF rfl en_89 rfl (fun w hw=>c_bit0 0 r w (by omega) hr3) ?_)
        refine oM ?_
        refine oP (KH (v:=.bool false) rfl rfl (by rfl)) ?_
        refine KC ?_
        refine KQ rfl ?_
        refine KR ?_
        refine KB ?_
        refine rD [7] ?_
        refine aD 0 rfl (dL rfl (hv:=by exact KG Try.underlying33 rfl sz_33)) ?_
        refine aD 1 rfl (dL rfl (hv:=by exact KG Try.underlying33 rfl sz_33)) ?_
        refine aP 2 rfl (KK (Kw pl_35 zr_35 rfl (fill_ptI2 _ _)) rfl) ?_
        refine aM 5 ?_
        refine aO 3 rfl (LStep.det (dL rfl (hv:=by exact KG Try.underlying33 rfl sz_33)) (Nb rfl) ?_)
        refine aO 4 rfl (cF rfl en_89 rfl (fun w hw=>c_bit0 0 r w (by omega) hr3) ?_)
        refine aP 6 rfl (KH (v:=.bool true) rfl rfl (by rfl)) ?_
        refine aL 7 rfl (sA rfl rfl sz_35 (by exact Kb _ _ _) (hl:=by exact KJ _ _ _) (h:=?_))
        refine aA 8 ?_
        refine aE ?_
        refine KO ?_
        refine ⟨[_,_],.cons ⟨_,_,_,rfl,(by repeat (first|exact Mh _|apply Mt)),by exact KG Try.underlying35 rfl sz_35⟩ (.cons rfl .nil),fun a' w' hr=>⟨?_,hr.fr.below⟩⟩
        rw [← hR] at h1
        rw [lift_even hXp h1]
        rfl
      ·
        refine KA ?_
        refine oD (dL rfl (hv:=by exact KG Try.underlying33 rfl sz_33)) ?_
        refine oS (cF rfl en_89 rfl (fun w hw=>c_bit0 0 0 w (by omega) rfl) ?_)
        refine oM ?_
        refine oP (KH (v:=.bool true) rfl rfl (by rfl)) ?_
        refine KC ?_
        refine Ke rfl ?_
        refine rD [7] ?_
        refine aM 0 ?_
        refine aP 1 rfl (KP rfl) ?_
        refine aP 2 rfl (KI (o':=59) Try.underlying129 rfl rfl rfl sz_127 (by decide)) ?_
        refine aD 3 rfl (dL rfl (hv:=KW Try.underlying127 rfl (by exact cvC_gt_F _ _ _ _ _ _ _ _ _ _ _ _ _))) ?_
        refine aP 4 rfl (KK (Kw pl_33 zr_33 rfl rfl) (show _ = natV 0 by unfold natV natL; rw [← vec_zeros 9])) ?_
        refine aD 5 rfl (dL rfl (hv:=by exact KG Try.underlying33 rfl sz_33)) ?_
        refine aO 6 rfl (cF rfl en_130 rfl (fun w hw=>c_f_neg0 V hok f bd w (mC hw)) ?_)
        refine aL 7 rfl (sA rfl rfl sz_33 (by exact KY _) (hl:=by exact KD _) (h:=?_))
        refine aE ?_
        refine KB ?_
        refine rD [7] ?_
        refine aD 0 rfl (dL rfl (hv:=by exact KG Try.underlying33 rfl sz_33)) ?_
        refine aD 1 rfl (dL rfl (hv:=by exact KG Try.underlying33 rfl sz_33)) ?_
        refine aP 2 rfl (KK (Kw pl_35 zr_35 rfl (fill_ptI2 _ _)) rfl) ?_
        refine aM 5 ?_
        refine aO 3 rfl (LStep.det (dL rfl (hv:=by exact KG Try.underlying33 rfl sz_33)) (Nb rfl) ?_)
        refine aO 4 rfl (cF rfl en_89 rfl (fun w hw=>c_bit0 0 0 w (by omega) rfl) ?_)
        refine aP 6 rfl (KH (v:=.bool false) rfl rfl (by rfl)) ?_
        refine aL 7 rfl (sA rfl rfl sz_35 (by exact Kb _ _ _) (hl:=by exact KJ _ _ _) (h:=?_))
        refine aA 8 ?_
        refine aE ?_
        refine KO ?_
        refine ⟨[_,_],.cons ⟨_,_,_,rfl,(by repeat (first|exact Mh _|apply Mt)),by exact KG Try.underlying35 rfl sz_35⟩ (.cons rfl .nil),fun a' w' hr=>⟨?_,hr.fr.below⟩⟩
        rw [← hR] at h1
        rw [lift_zero hXp h1]
        rfl
      ·
        refine KA ?_
        refine oD (dL rfl (hv:=by exact KG Try.underlying33 rfl sz_33)) ?_
        refine oS (cF rfl en_89 rfl (fun w hw=>c_bit0 0 r w (by omega) hr3) ?_)
        refine oM ?_
        refine oP (KH (v:=.bool true) rfl rfl (by rfl)) ?_
        refine KC ?_
        refine Ke rfl ?_
        refine rD [7] ?_
        refine aM 0 ?_
        refine aP 1 rfl (KP rfl) ?_
        refine aP 2 rfl (KI (o':=59) Try.underlying129 rfl rfl rfl sz_127 (by decide)) ?_
        refine aD 3 rfl (dL rfl (hv:=KW Try.underlying127 rfl (by exact cvC_gt_F _ _ _ _ _ _ _ _ _ _ _ _ _))) ?_
        refine aP 4 rfl (KK (Kw pl_33 zr_33 rfl rfl) (show _ = natV 0 by unfold natV natL; rw [← vec_zeros 9])) ?_
        refine aD 5 rfl (dL rfl (hv:=by exact KG Try.underlying33 rfl sz_33)) ?_
        refine aO 6 rfl (cF rfl en_130 rfl (fun w hw=>c_f_neg V hok f bd r w (mC hw) hr0 hr1) ?_)
        refine aL 7 rfl (sA rfl rfl sz_33 (by exact KY _) (hl:=by exact KD _) (h:=?_))
        refine aE ?_
        refine KB ?_
        refine rD [7] ?_
        refine aD 0 rfl (dL rfl (hv:=by exact KG Try.underlying33 rfl sz_33)) ?_
        refine aD 1 rfl (dL rfl (hv:=by exact KG Try.underlying33 rfl sz_33)) ?_
        refine aP 2 rfl (KK (Kw pl_35 zr_35 rfl (fill_ptI2 _ _)) rfl) ?_
        refine aM 5 ?_
        refine aO 3 rfl (LStep.det (dL rfl (hv:=by exact KG Try.underlying33 rfl sz_33)) (Nb rfl) ?_)
        refine aO 4 rfl (cF rfl en_89 rfl (fun w hw=>c_bit0 1 (V.p-r) w (by omega) (by omega)) ?_)
        refine aP 6 rfl (KH (v:=.bool true) rfl rfl (by rfl)) ?_
        refine aL 7 rfl (sA rfl rfl sz_35 (by exact Kb _ _ _) (hl:=by exact KJ _ _ _) (h:=?_))
        refine aA 8 ?_
        refine aE ?_
        refine KO ?_
        refine ⟨[_,_],.cons ⟨_,_,_,rfl,(by repeat (first|exact Mh _|apply Mt)),by exact KG Try.underlying35 rfl sz_35⟩ (.cons rfl .nil),fun a' w' hr=>⟨?_,hr.fr.below⟩⟩
        rw [← hR] at h1
        rw [lift_odd hXp h1 hr0]
        rfl
end Go.Proofs.Ytlmiolnccgjjjaa
