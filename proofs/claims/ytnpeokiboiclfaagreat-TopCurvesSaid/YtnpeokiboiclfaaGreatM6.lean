/- Part 6 of what the proof leans on: a symbolic execution of the model, walks of the program's functions, and the mathematics. No condition. -/
import Derived.WalkKit
import Derived.Orders
import Derived.Laws.StructEq
import Derived.WalkSpells
import Derived.OrdersHeld
import Derived.KernelRfl
import Derived.Laws.Externs
import Derived.Laws.Bits64
import Derived.Laws.MakeOwn
import Derived.Laws.BytesString
import Derived.Carry
import Derived.WideShapes
import GoSem.Claim
import Derived.Test.YtnpeokiboiclfaaGreatProg
import Derived.Laws.AppendOwn
import Derived.Deep.Upon
import Derived.Shelf.Strings.Repeat
import Derived.Ground.NamesProg
import Derived.Lib.Agree
import Derived.Lib.ConvBytes
import Derived.Laws.CopyRow
import Derived.Test.YtnpeokiboiclfaaGreatRows
import Derived.ProofKit
import Derived.OpenShut
import Derived.SizedLaws
import Derived.ChangeMaps5
import Derived.Test.YtnpeokiboiclfaaGreatM5
set_option linter.unusedVariables false
set_option linter.unusedSimpArgs false
set_option maxRecDepth 20000
namespace Go.Proofs.YtnpeokiboiclfaaGreat
open Go Go.RowKit
open Grp
theorem Cv.Ok.mt {V:Cv} (h:V.Ok):MtOk V.n (nw V.n) (mtL0 V.n):=by
  have cs:=h.cs
  simp only [Bool.and_eq_true] at cs
  have h1:=Nat.eq_of_beq_eq_true cs.1.1.1.2
  have h2:=Nb cs.1.2
  exact mtOk_of h1 om (KAE h.bounds.2.2.2.2.2.2.1)
theorem c_cKeyB (V:Cv) (b f X:Nat) (hok:V.Ok) (w:World) (hb:(Item.blk b ⟨false,opL V f,100,(0,0)⟩).holds w) (hX:X<W9):Calls Tryz.prog 38 ([.pointer (some ⟨b,0,none⟩),natV X]:List Value).toArray w (fun e w'=>e = .returned (.bool (decide (X≠0∧X<V.n)))∧Below w.heap.size w w'):=by
  have hnW:=hok.mt.lt9
  by_cases h0:X = 0
  · subst h0
    rw [decide_eq_false (fun h=>h.1 rfl)]
    exact c_cKeyZ V b f w hb
  · by_cases hn:X<V.n
    · rw [decide_eq_true ⟨h0,hn⟩]
      exact c_cKeyT V b f X w hb hX hnW h0 hn
    · rw [decide_eq_false (fun h=>hn h.2)]
      exact c_cKeyF V b f X w hb hX hnW h0 om
def digE (V:Cv) (k:Nat) (msg:ByteArray):Nat:=beVal (toS (hashL k (ofS msg))).data.toList/2^(8*hsize k-blen V.n)%V.n
def tryE (V:Cv) (s:ByteArray):Nat:=beVal s.data.toList/2^(8*nby V.n-blen V.n)
theorem c_eRest (V:Cv) (b f:Nat) (hok:V.Ok) (a:Nat) (ha:a<W9) (w:World) (hb:(Item.blk b ⟨false,opL V f,100,(0,0)⟩).holds w):Calls Tryz.prog 41 ([.pointer (some ⟨b,0,none⟩),natV a]:List Value).toArray w (fun e w'=>e = .returned (natV (a%V.n))∧Below w.heap.size w w'):=by
  have hmo:=hok.mt
  have hnW:=hmo.lt9
  have hn3:=hmo.three
  have hn0:V.n≠0:=by omega
  have hnp:0<V.n:=by omega
  refine KX (N:=20) (rs:=[.cell 4 33]) [.blk b ⟨false,opL V f,100,(0,0)⟩] Tryz.func41 rfl Tryz.ntmps41 Tryz.results41 (Nb rfl) ⟨hb,trivial⟩ rfl ?_
  refine KB (KA ?_);refine oS (mB (fun b3=>?_));refine oS (mk (KL zr_33) (fun b4=>?_));refine KC (KB ?_);refine rD [13,14] ?_;refine aD 0 rfl dNa ?_;refine aM 1 ?_;refine aP 2 rfl (KG rfl) ?_;refine aP 3 rfl (KE (o':=0) u100 rfl rfl rfl sz_53 dc) ?_;refine aP 4 rfl (KE (o':=28) u53 rfl rfl rfl sz_33 dc) ?_;refine aD 5 rfl (dL rfl (hv:=by exact cvC_ld_n _ _ _ _ _ _ _ _ _ _ _ _ _ _ _ _)) ?_;refine KAR ?_;refine Kp 11 rfl (.inl zr_33) (Nb rfl) rfl rfl rfl ?_;refine Kp 12 rfl (.inl zr_33) (Nb rfl) rfl rfl rfl ?_;refine LAnyP.step 6 rfl rfl rfl (Nb rfl) (by kernel_rfl) rfl (Kg (first:=[]) rfl en_86 rfl (fun w hw=>c_Div a V.n hn0 w ha hnW)) ?_
  rintro _ _ ⟨rfl,rfl⟩
  refine pM 7 ?_;refine pP 8 rfl (Det.extract rfl rfl) ?_;refine pP 9 rfl (Det.extract rfl rfl) ?_;refine pP 10 rfl (Det.extract rfl rfl) ?_;refine pE (fun b6=>?_);refine pE (fun b5=>?_);refine Kw ?_;refine aL 13 rfl (sA rfl rfl sz_33 mO (hl:=mL) (h:=?_));refine aL 14 rfl (sA rfl rfl sz_33 mO (hl:=mL) (h:=?_));refine aA 15 ?_;refine aE ?_;refine KB (KA ?_);refine oD dNa ?_;refine LOps.step rfl (sA rfl rfl sz_33 mO (hl:=mL) (h:=?_));refine KC (KM ?_);refine ⟨[_],.cons ⟨_,_,_,rfl,mM,by exact KD u33 rfl sz_33⟩ .nil,fun a w' hr=>⟨?_,hr.fr.below⟩⟩
  rfl
theorem c_eDigest (V:Cv) (b f:Nat) (hok:V.Ok) (k:Nat) (hk:k = 1∨k = 2∨k = 3∨k = 4) (msg:ByteArray) (hmsg:msg.size≤140737488351232) (w:World) (hb:(Item.blk b ⟨false,opL V f,100,(0,0)⟩).holds w):Calls Tryz.prog 40 ([.pointer (some ⟨b,0,none⟩),.int .i64 ((k:Nat):Int),.string msg]:List Value).toArray w (fun e w'=>e = .returned (natV (digE V k msg))∧Below w.heap.size w w'):=by
  have hmo:=hok.mt
  have hnW:=hmo.lt9
  have hn3:=hmo.three
  have hn0:V.n≠0:=by omega
  have hnp:0<V.n:=by omega
  have hs8:=hsize_le hk
  have hbl:=KAQ hnW
  have hsz:(toS (hashL k (ofS msg))).size = hsize k:=by rw [toS_size,hashL_length hk]
  have hbe:∀ s:ByteArray,s.size≤72→beVal s.data.toList<W9:=fun s hs=>beVal_w9 (by exact hs)
  refine KX (N:=40) (rs:=[.cell 6 33]) [.blk b ⟨false,opL V f,100,(0,0)⟩] Tryz.func40 rfl Tryz.ntmps40 Tryz.results40 (Nb rfl) ⟨hb,trivial⟩ rfl ?_
  refine KB (KA ?_);refine oS (mk (KL zr_33) (fun b6=>?_));refine KC (KB (KA (oM (oM ?_))));refine oS (cF rfl en_85 rfl (fun w hw=>c_hOf k hk msg hmsg w) ?_);refine oM ?_;refine oP (Det.extract rfl rfl) ?_;refine oP (Det.extract rfl rfl) ?_;refine oA (oA (KC (KB (KA (oM ?_)))));refine oS (cF rfl en_49 rfl (fun w hw=>c_nat_OfOK _ w (by rw [hsz]; omega)) ?_);refine oM ?_;refine oP (Det.extract rfl rfl) ?_;refine oP (Det.extract rfl rfl) ?_;refine oS (mk (KL zr_33) (fun b9=>?_));refine LOps.step rfl (sA rfl rfl sz_33 mO (hl:=mL) (h:=?_));refine oA (KC (KB ?_));refine rD [15] ?_;refine aD 0 rfl dNa ?_;refine aM 1 ?_;refine aP 2 rfl (KK (KAZ u9 rfl) (show _ = .int .i64 ((hsize k:Nat):Int) by rw [hsz])) ?_;refine aP 3 rfl (KF rfl rfl (br_mul (a:=8) om)) ?_;refine aM 4 ?_;refine aP 5 rfl (KG rfl) ?_;refine aP 6 rfl (KE (o':=0) u100 rfl rfl rfl sz_53 dc) ?_
  refine aP 7 rfl (KE (o':=56) u53 rfl rfl rfl sz_3 dc) ?_;refine aD 8 rfl (dL rfl (hv:=KJ u3 rfl (by exact cvC_gt_bits _ _ _ _ _ _ _ _ _ _ _ _ _))) ?_;refine aP 9 rfl (KF rfl rfl (br_subI om om)) ?_;refine aP 10 rfl (KK (Det.max rfl rfl) (show _ = .int .i64 ((8*hsize k-blen V.n:Nat):Int) by congr 1; split <;> omega)) ?_;refine aO 11 rfl (cF rfl en_83 rfl (fun w hw=>c_nat_Shr _ _ (hbe _ (by rw [hsz]; omega)) om w) ?_);refine aM 12 ?_;refine aP 13 rfl (Det.extract rfl rfl) ?_;refine aP 14 rfl (Det.extract rfl rfl) ?_;refine aL 15 rfl (sA rfl rfl sz_33 mO (hl:=mL) (h:=?_));refine aE ?_;refine KB (KA (oM ?_));refine oD dNa ?_;refine oS (cF rfl en_41 rfl (fun w hw=>c_eRest V b f hok _ (shr_w9 (hbe _ (by rw [hsz]; omega))) w (mC hw)) ?_);refine LOps.step rfl (sA rfl rfl sz_33 mO (hl:=mL) (h:=?_));refine KC (KM ?_);refine ⟨[_],.cons ⟨_,_,_,rfl,mM,by exact KD u33 rfl sz_33⟩ .nil,fun a w' hr=>⟨?_,hr.fr.below⟩⟩
  rfl
theorem c_eOf (V:Cv) (b f:Nat) (hok:V.Ok) (w:World) (hH:∀ x,x∈([]++[.blk b ⟨false,opL V f,100,(0,0)⟩]:List Item)→x.holds w) (hd:([]++[.blk b ⟨false,opL V f,100,(0,0)⟩]:List Item).Pairwise Apart)  : Calls Tryz.prog 39 ([.pointer (some ⟨b,0,none⟩)]:List Value).toArray w (fun e w'=>∃ (u:Value) (x':Item),(∃ bm,u = .agg ([.pointer (some ⟨b,0,none⟩),.pointer (some ⟨bm,0,none⟩)]:List Value).toArray∧x' = .blk bm ⟨true,mtL V.n (nw V.n) (mtL0 V.n) (mtR (nw V.n)*mtR (nw V.n)%V.n),201,(0,0)⟩)∧e = .returned u∧Outcome w [] [x'] w'):=by
  have hmo:=hok.mt
  have hnW:=hmo.lt9
  have hn3:=hmo.three
  have hn0:V.n≠0:=by omega
  have hnp:0<V.n:=by omega
  refine KAW [.blk b ⟨false,opL V f,100,(0,0)⟩] (N:=17) (rs:=[.cell 2 90]) Tryz.func39 rfl Tryz.ntmps39 Tryz.results39 (Nb rfl) hH hd rfl rfl ?_
  refine KB (KA ?_);refine oS (mk (KL zr_90) (fun b2=>?_));refine KC (KB (KA (oM ?_)));refine oP (KG rfl) ?_;refine oP (KE (o':=0) u100 rfl rfl rfl sz_53 dc) ?_;refine oP (KE (o':=28) u53 rfl rfl rfl sz_33 dc) ?_;refine oD (dL rfl (hv:=by exact cvC_ld_n _ _ _ _ _ _ _ _ _ _ _ _ _ _ _ _)) ?_;refine LOps.step rfl (Km (first:=[]) (caps:=[]) (X:=[]) (RO:=[]) rfl en_84 rfl (Nb rfl) sR wK (fun w hH hd=>c_mtNew V.n hmo.odd hmo.three hmo.lt9 w hH hd) ?_)
  rintro _ _ ⟨bm,rfl,rfl⟩
  refine oM ?_;refine oP (Det.extract rfl rfl) ?_;refine oP (Det.extract rfl rfl) ?_;refine oA (oA (KC (KB (KA (oM (oM ?_))))));refine oP (Kd pl_90 zr_90 rfl (fT (r':=([Value.pointer (some ⟨b,0,none⟩)]++([Value.pointer (some ⟨bm,0,none⟩)]))) (fS (A:=([]:List Value)) (B:=([Value.pointer none])) (D:=([Value.pointer none])) (cs:=[Value.pointer (some ⟨b,0,none⟩)]) (fS (A:=([Value.pointer (some ⟨b,0,none⟩)])) (B:=([Value.pointer none])) (D:=([]:List Value)) (cs:=[Value.pointer (some ⟨bm,0,none⟩)]) rfl)))) ?_;refine LOps.step rfl (sA rfl rfl sz_90 mO (hl:=mL) (h:=?_));refine KC (KM ?_);refine ⟨[_],.cons ⟨_,_,_,rfl,mM,by exact KD u90 rfl sz_90⟩ .nil,fun a w' hr=>⟨_,_,⟨bm,rfl,rfl⟩,rfl,hr.out mS rfl⟩⟩
theorem c_eMul (V:Cv) (b f bm:Nat) (hok:V.Ok) (a c:Nat) (ha:a<V.n) (hc:c<V.n) (w:World) (hb:(Item.blk b ⟨false,opL V f,100,(0,0)⟩).holds w) (hX:(Item.blk bm ⟨false,mtL V.n (nw V.n) (mtL0 V.n) (mtR (nw V.n)*mtR (nw V.n)%V.n),201,(0,0)⟩).holds w):Calls Tryz.prog 43 ([.agg ([.pointer (some ⟨b,0,none⟩),.pointer (some ⟨bm,0,none⟩)]:List Value).toArray,natV a,natV c]:List Value).toArray w (fun e w'=>e = .returned (natV (a*c%V.n))∧Below w.heap.size w w'):=by
  have hmo:=hok.mt
  have hnW:=hmo.lt9
  have hn3:=hmo.three
  have hn0:V.n≠0:=by omega
  have hnp:0<V.n:=by omega
  refine KX (N:=31) (rs:=[.cell 6 33]) [.blk b ⟨false,opL V f,100,(0,0)⟩,.blk bm ⟨false,mtL V.n (nw V.n) (mtL0 V.n) (mtR (nw V.n)*mtR (nw V.n)%V.n),201,(0,0)⟩] Tryz.func43 rfl Tryz.ntmps43 Tryz.results43 (Nb rfl) ⟨hb,hX,trivial⟩ rfl ?_
  refine KB (KA ?_);refine oS (mB (fun b3=>?_));refine oS (mB (fun b4=>?_));refine oS (mB (fun b5=>?_));refine oS (mk (KL zr_33) (fun b6=>?_));refine KC (KB ?_);refine rD [] ?_;refine aP 0 rfl (KE (o':=1) u90 rfl rfl rfl sz_88 dc) ?_;refine aD 1 rfl (dL rfl (hv:=KJ u88 rfl (by first|rfl|exact KU _ _ _ om|exact KY _ om|exact Kb _ om|exact dv_m _ _ _ om))) ?_;refine aP 2 rfl (KAS rfl) ?_;refine aP 3 rfl (KE (o':=1) u90 rfl rfl rfl sz_88 dc) ?_;refine aD 4 rfl (dL rfl (hv:=KJ u88 rfl (by first|rfl|exact KU _ _ _ om|exact KY _ om|exact Kb _ om|exact dv_m _ _ _ om))) ?_;refine aP 5 rfl (KAS rfl) ?_;refine aA 6 ?_;refine aA 7 ?_;refine aE ?_;refine KB (KA (oM ?_));refine oD dNa ?_;refine oS (Ky (first:=[_]) rfl en_89 rfl (Nb rfl) (fun w hw=>c_mTo V.n (nw V.n) (mtL0 V.n) hmo bm a ha w (mC hw)) ?_)
  refine oM ?_;refine oP (Det.extract rfl rfl) ?_;refine oP (Det.extract rfl rfl) ?_;refine oS (mk (KL zr_33) (fun b9=>?_));refine LOps.step rfl (sA rfl rfl sz_33 mO (hl:=mL) (h:=?_));refine oA (KC (KB (KA (oM ?_))));refine oD dNa ?_;refine oD dNa ?_;refine oS (Ky (first:=[_]) rfl en_90 rfl (Nb rfl) (fun w hw=>c_mtMul V.n (nw V.n) (mtL0 V.n) hmo bm (a*mtR (nw V.n)%V.n) c (a*c%V.n) (Nat.mod_lt _ hnp) hc (Nat.mod_lt _ hnp) mt_mul w (mC hw)) ?_);refine oM ?_;refine oP (Det.extract rfl rfl) ?_;refine oP (Det.extract rfl rfl) ?_;refine LOps.step rfl (sA rfl rfl sz_33 mO (hl:=mL) (h:=?_));refine KC (KB (KA ?_));refine oD dNa ?_;refine LOps.step rfl (sA rfl rfl sz_33 mO (hl:=mL) (h:=?_));refine KC (KM ?_);refine ⟨[_],.cons ⟨_,_,_,rfl,mM,by exact KD u33 rfl sz_33⟩ .nil,fun a w' hr=>⟨?_,hr.fr.below⟩⟩
  rfl
theorem pt_x0 (X Y:Nat) (i:Bool):((ptL X Y i).drop 0).take 9 = natL X:=by
  rw [List.drop_zero]; unfold ptL; rw [List.take_left' (KI X)]
theorem mt_inv_y {m n a v:Nat} (hm:m%2 = 1) (h3:3≤m) (h:a*v%m = 1):∃ y,y<m∧(a*mtR n%m)*y%m = 1∧v*mtR n%m = y*mtR n%m*mtR n%m:=by
  have hc:Nat.gcd (a*mtR n%m) m = 1:=by
    rw [← Nat.gcd_rec,Nat.gcd_comm]
    exact Nat.Coprime.mul_left (gcd_of_inv h) (odd_cop hm).symm
  obtain ⟨y,hy,e⟩:=inv_mod hc om
  refine ⟨y,hy,e,?_⟩
  have e1:a*v*(mtR n*y*mtR n)%m = v*mtR n*(a*mtR n*y)%m:=by congr 1; ac_rfl
  have e2:a*mtR n*y%m = 1:=by rw [← Nat.mod_mul_mod]; exact e
  rw [Nat.mul_mod,h,Nat.one_mul,Nat.mod_mod,Nat.mul_mod (v*mtR n),e2,Nat.mul_one,Nat.mod_mod] at e1
  rw [← e1,Nat.mod_mul_mod]
  congr 1; ac_rfl
theorem invM_mul {x n:Nat} (hp:Pr n) (h0:x≠0) (h:x<n):invM x n<n∧x*invM x n%n = 1:=by
  have hc:=hp.cop (x:=x) (fun hd=>by have:=Nat.le_of_dvd om hd; omega)
  obtain ⟨s,hs,e⟩:=inv_mod hc (by have:=hp.1; omega)
  rw [invM_eq hs e]
  exact ⟨hs,e⟩
theorem c_eInv (V:Cv) (b f bm:Nat) (hok:V.Ok) (a:Nat) (h0:a≠0) (ha:a<V.n) (w:World) (hb:(Item.blk b ⟨false,opL V f,100,(0,0)⟩).holds w) (hX:(Item.blk bm ⟨false,mtL V.n (nw V.n) (mtL0 V.n) (mtR (nw V.n)*mtR (nw V.n)%V.n),201,(0,0)⟩).holds w):Calls Tryz.prog 45 ([.agg ([.pointer (some ⟨b,0,none⟩),.pointer (some ⟨bm,0,none⟩)]:List Value).toArray,natV a]:List Value).toArray w (fun e w'=>e = .returned (natV (invM a V.n))∧Below w.heap.size w w'):=by
  have hmo:=hok.mt
  have hnW:=hmo.lt9
  have hn3:=hmo.three
  have hn0:V.n≠0:=by omega
  have hnp:0<V.n:=by omega
  obtain ⟨hv1,hv2⟩:=invM_mul hok.order h0 ha
  obtain ⟨y,hy1,hy2,hy3⟩:=mt_inv_y (n:=nw V.n) hmo.odd hmo.three hv2
  refine KX (N:=29) (rs:=[.cell 4 33]) [.blk b ⟨false,opL V f,100,(0,0)⟩,.blk bm ⟨false,mtL V.n (nw V.n) (mtL0 V.n) (mtR (nw V.n)*mtR (nw V.n)%V.n),201,(0,0)⟩] Tryz.func45 rfl Tryz.ntmps45 Tryz.results45 (Nb rfl) ⟨hb,hX,trivial⟩ rfl ?_
  refine KB (KA ?_);refine oS (mB (fun b2=>?_));refine oS (mB (fun b3=>?_));refine oS (mk (KL zr_33) (fun b4=>?_));refine KC (KB (KA ?_));refine oP (KE (o':=1) u90 rfl rfl rfl sz_88 dc) ?_;refine oD (dL rfl (hv:=KJ u88 rfl (by first|rfl|exact KU _ _ _ om|exact KY _ om|exact Kb _ om|exact dv_m _ _ _ om))) ?_;refine oD dNa ?_;refine oS (cF rfl en_89 rfl (fun w hw=>c_mTo V.n (nw V.n) (mtL0 V.n) hmo bm a ha w (mC hw)) ?_);refine oM ?_;refine oP (Det.extract rfl rfl) ?_;refine oP (Det.extract rfl rfl) ?_;refine oS (mk (KL zr_33) (fun b5=>?_));refine LOps.step rfl (sA rfl rfl sz_33 mO (hl:=mL) (h:=?_));refine oA (KC (KB (KA ?_)));refine oP (KE (o':=1) u90 rfl rfl rfl sz_88 dc) ?_;refine oD (dL rfl (hv:=KJ u88 rfl (by first|rfl|exact KU _ _ _ om|exact KY _ om|exact Kb _ om|exact dv_m _ _ _ om))) ?_
  refine oD dNa ?_;refine oS (cF rfl en_92 rfl (fun w hw=>c_mInvR V.n (nw V.n) (mtL0 V.n) hmo bm (a*mtR (nw V.n)%V.n) y (Nat.mod_lt _ hnp) hy1 hy2 w (mC hw)) ?_);refine oM ?_;refine oP (Det.extract rfl rfl) ?_;refine oP (Det.extract rfl rfl) ?_;refine LOps.step rfl (sA rfl rfl sz_33 mO (hl:=mL) (h:=?_));refine KC (KB (KA ?_));refine oP (KE (o':=1) u90 rfl rfl rfl sz_88 dc) ?_;refine oD (dL rfl (hv:=KJ u88 rfl (by first|rfl|exact KU _ _ _ om|exact KY _ om|exact Kb _ om|exact dv_m _ _ _ om))) ?_;refine oD dNa ?_;refine oS (cF rfl en_93 rfl (fun w hw=>c_mFrom V.n (nw V.n) (mtL0 V.n) hmo bm (y*mtR (nw V.n)%V.n*mtR (nw V.n)%V.n) (invM a V.n) (Nat.mod_lt _ hnp) hv1 hy3 w (mC hw)) ?_);refine oM ?_;refine oP (Det.extract rfl rfl) ?_;refine oP (Det.extract rfl rfl) ?_;refine LOps.step rfl (sA rfl rfl sz_33 mO (hl:=mL) (h:=?_))
  refine KC (KB (KA ?_));refine oD dNa ?_;refine LOps.step rfl (sA rfl rfl sz_33 mO (hl:=mL) (h:=?_));refine KC (KM ?_);refine ⟨[_],.cons ⟨_,_,_,rfl,mM,by exact KD u33 rfl sz_33⟩ .nil,fun a w' hr=>⟨?_,hr.fr.below⟩⟩
  rfl
theorem c_eAdd (V:Cv) (b f bm:Nat) (hok:V.Ok) (a c:Nat) (ha:a<V.n) (hc:c<V.n) (w:World) (hb:(Item.blk b ⟨false,opL V f,100,(0,0)⟩).holds w) (hX:(Item.blk bm ⟨false,mtL V.n (nw V.n) (mtL0 V.n) (mtR (nw V.n)*mtR (nw V.n)%V.n),201,(0,0)⟩).holds w):Calls Tryz.prog 44 ([.agg ([.pointer (some ⟨b,0,none⟩),.pointer (some ⟨bm,0,none⟩)]:List Value).toArray,natV a,natV c]:List Value).toArray w (fun e w'=>e = .returned (natV ((a+c)%V.n))∧Below w.heap.size w w'):=by
  have hmo:=hok.mt
  have hnW:=hmo.lt9
  have hn3:=hmo.three
  have hn0:V.n≠0:=by omega
  have hnp:0<V.n:=by omega
  have hW2:V.n+V.n≤W9:=Nat.le_of_lt (w9_half hok.bounds.2.2.2.2.2.2.1)
  refine KX (N:=32) (rs:=[.cell 6 33]) [.blk b ⟨false,opL V f,100,(0,0)⟩,.blk bm ⟨false,mtL V.n (nw V.n) (mtL0 V.n) (mtR (nw V.n)*mtR (nw V.n)%V.n),201,(0,0)⟩] Tryz.func44 rfl Tryz.ntmps44 Tryz.results44 (Nb rfl) ⟨hb,hX,trivial⟩ rfl ?_
  refine KB (KA ?_);refine oS (mB (fun b3=>?_));refine oS (mB (fun b4=>?_));refine oS (mB (fun b5=>?_));refine oS (mk (KL zr_33) (fun b6=>?_));refine KC (KB (KA ?_));refine oD dNa ?_;refine oD dNa ?_;refine oS (cF rfl en_91 rfl (fun w hw=>c_nat_AddS a c w om) ?_);refine oM ?_;refine oP (Det.extract rfl rfl) ?_;refine oP (Det.extract rfl rfl) ?_;refine oS (mk (KL zr_33) (fun b7=>?_));refine LOps.step rfl (sA rfl rfl sz_33 mO (hl:=mL) (h:=?_));refine oA (KC (KB (KB ?_)))
  rcases (show V.n≤a+c∨a+c<V.n by omega) with hq|hq
  ·
   refine rD [12] ?_;refine aD 0 rfl dNa ?_;refine aP 1 rfl (KE (o':=0) u90 rfl rfl rfl sz_81 dc) ?_;refine aD 2 rfl (dL rfl (hv:=KJ u81 rfl (by first|rfl|exact KU _ _ _ om|exact KY _ om|exact Kb _ om|exact dv_m _ _ _ om))) ?_;refine aP 3 rfl (KG rfl) ?_;refine aP 4 rfl (KE (o':=0) u100 rfl rfl rfl sz_53 dc) ?_;refine aP 5 rfl (KE (o':=28) u53 rfl rfl rfl sz_33 dc) ?_;refine aD 6 rfl (dL rfl (hv:=by exact cvC_ld_n _ _ _ _ _ _ _ _ _ _ _ _ _ _ _ _)) ?_;refine KAR ?_;refine Kp 11 rfl (.inl zr_33) (Nb rfl) rfl rfl rfl ?_;refine LAnyP.step 7 rfl rfl rfl (Nb rfl) (by kernel_rfl) rfl (Kg (first:=[]) rfl en_79 rfl (fun w hw=>c_nat_SubS (a+c) V.n w om hq)) ?_
   rintro _ _ ⟨rfl,rfl⟩
   refine pM 8 ?_;refine pP 9 rfl (Det.extract rfl rfl) ?_;refine pP 10 rfl (Det.extract rfl rfl) ?_;refine pE (fun b9=>?_);refine Kw ?_;refine aL 12 rfl (sA rfl rfl sz_33 mO (hl:=mL) (h:=?_));refine aA 13 ?_;refine aE ?_;refine KB (KA (oM ?_));refine oP (KAK rfl) ?_;refine KC ?_;refine KT rfl ?_;refine KB ?_
   rw [show (a+c)%V.n = a+c-V.n from by rw [Nat.mod_eq_sub_mod hq,Nat.mod_eq_of_lt om]]
   refine KA ?_;refine oD dNa ?_;refine LOps.step rfl (sA rfl rfl sz_33 mO (hl:=mL) (h:=?_));refine KC (KM ?_);refine ⟨[_],.cons ⟨_,_,_,rfl,mM,by exact KD u33 rfl sz_33⟩ .nil,fun a w' hr=>⟨?_,hr.fr.below⟩⟩
   rfl
  refine rD [12] ?_;refine aD 0 rfl dNa ?_;refine aP 1 rfl (KE (o':=0) u90 rfl rfl rfl sz_81 dc) ?_;refine aD 2 rfl (dL rfl (hv:=KJ u81 rfl (by first|rfl|exact KU _ _ _ om|exact KY _ om|exact Kb _ om|exact dv_m _ _ _ om))) ?_;refine aP 3 rfl (KG rfl) ?_;refine aP 4 rfl (KE (o':=0) u100 rfl rfl rfl sz_53 dc) ?_;refine aP 5 rfl (KE (o':=28) u53 rfl rfl rfl sz_33 dc) ?_;refine aD 6 rfl (dL rfl (hv:=by exact cvC_ld_n _ _ _ _ _ _ _ _ _ _ _ _ _ _ _ _)) ?_;refine KAR ?_;refine Kp 11 rfl (.inl zr_33) (Nb rfl) rfl rfl rfl ?_;refine LAnyP.step 7 rfl rfl rfl (Nb rfl) (by kernel_rfl) rfl (Kg (first:=[]) rfl en_79 rfl (fun w hw=>c_nat_SubU (a+c) V.n w hnW hq)) ?_
  rintro _ _ ⟨rfl,rfl⟩
  refine pM 8 ?_;refine pP 9 rfl (Det.extract rfl rfl) ?_;refine pP 10 rfl (Det.extract rfl rfl) ?_;refine pE (fun b9=>?_);refine Kw ?_;refine aL 12 rfl (sA rfl rfl sz_33 mO (hl:=mL) (h:=?_));refine aA 13 ?_;refine aE ?_;refine KB (KA (oM ?_));refine oP (KAK rfl) ?_;refine KC ?_;refine KH rfl ?_;refine KN (KB ?_)
  rw [Nat.mod_eq_of_lt hq]
  refine KA ?_;refine oD dNa ?_;refine LOps.step rfl (sA rfl rfl sz_33 mO (hl:=mL) (h:=?_));refine KC (KM ?_);refine ⟨[_],.cons ⟨_,_,_,rfl,mM,by exact KD u33 rfl sz_33⟩ .nil,fun a w' hr=>⟨?_,hr.fr.below⟩⟩
  rfl
theorem c_kTry (V:Cv) (b f:Nat) (hok:V.Ok) (dk:Nat) (hdk:dk = 1∨dk = 2∨dk = 3∨dk = 4) (d n:Nat) (K U:ByteArray) (hK:K.size≤64) (hU:U.size≤64) (hn:n≤64) (w:World) (hH:∀ x,x∈([.blk d ⟨true,gnL dk K U (n),79,(0,0)⟩]++[.blk b ⟨false,opL V f,100,(0,0)⟩]:List Item)→x.holds w) (hd:([.blk d ⟨true,gnL dk K U (n),79,(0,0)⟩]++[.blk b ⟨false,opL V f,100,(0,0)⟩]:List Item).Pairwise Apart)  : Calls Tryz.prog 37 ([.pointer (some ⟨b,0,none⟩),.func (.func 36) #[.pointer (some ⟨d,0,none⟩)] #[]]:List Value).toArray w (fun e w'=>∃ (u:Value) (x':Item),(u = .tuple #[natV (tryE V (genB dk K U (nby V.n))),.bool (decide (tryE V (genB dk K U (nby V.n))≠0∧tryE V (genB dk K U (nby V.n))<V.n)),.int .i64 ((0:Nat):Int)]∧x' = .blk d ⟨true,gnL dk (genS dk K U (nby V.n)).1 (genS dk K U (nby V.n)).2 (n+1),79,(0,0)⟩)∧e = .returned u∧Outcome w [.blk d ⟨true,gnL dk K U (n),79,(0,0)⟩] [x'] w'):=by
  have hmo:=hok.mt
  have hnW:=hmo.lt9
  have hn3:=hmo.three
  have hn0:V.n≠0:=by omega
  have hnp:0<V.n:=by omega
  have hnb:nby V.n≤72:=by have:=KAQ hnW; unfold nby; omega
  have hbl:=KAQ hnW
  have hn8:blen V.n≤8*nby V.n:=by unfold nby; omega
  have hgz:(genB dk K U (nby V.n)).size = nby V.n:=genB_size hdk K hU (nby V.n)
  have hgb:=beVal_w9 (l:=(genB dk K U (nby V.n)).data.toList) (by show (genB dk K U (nby V.n)).size≤72; omega)
  refine KAW [.blk d ⟨true,gnL dk K U (n),79,(0,0)⟩,.blk b ⟨false,opL V f,100,(0,0)⟩] (N:=45) (rs:=[.cell 4 33,.tmp 5,.tmp 6]) Tryz.func37 rfl Tryz.ntmps37 Tryz.results37 (Nb rfl) hH hd rfl rfl ?_
  refine KB (KA ?_);refine oS (mk (KL zr_33) (fun b4=>?_));refine oA ?_;refine oP (KO (v:=.int .i64 ((0:Nat):Int)) rfl) ?_;refine KC (KB (KA (oM (oM ?_))));refine oS (cF rfl en_48 rfl (fun w hw=>c_cBytes V b f w (mC hw) hbl) ?_);refine LOps.step rfl (Km (first:=[.pointer (some ⟨d,0,none⟩)]) (caps:=[]) rfl en_36 rfl (Nb rfl) sR wK (fun w hH hd=>c_dgen dk hdk d n K U hK hU (nby V.n) om hn w hH hd) ?_)
  rintro _ _ ⟨rfl,rfl⟩
  refine oM ?_;refine oP (Det.extract rfl rfl) ?_;refine oP (Det.extract rfl rfl) ?_;refine oA (oA (KC (KB (KB (KA (oM ?_))))));refine oP (KF (v:=.bool false) rfl rfl (br_f (br_neq (b:=0)) dc)) ?_;refine KC ?_;refine KH rfl ?_;refine KN (KB (KA (oM ?_)));refine oS (cF rfl en_49 rfl (fun w hw=>c_nat_OfOK (genB dk K U (nby V.n)) w (by rw [hgz]; omega)) ?_);refine oM ?_;refine oP (Det.extract rfl rfl) ?_;refine oP (Det.extract rfl rfl) ?_;refine oS (mk (KL zr_33) (fun b9=>?_));refine LOps.step rfl (sA rfl rfl sz_33 mO (hl:=mL) (h:=?_));refine oA (KC (KB ?_));refine rD [14] ?_;refine aD 0 rfl dNa ?_;refine aM 1 ?_;refine aM 4 ?_;refine aP 5 rfl (KG rfl) ?_;refine aP 6 rfl (KE (o':=0) u100 rfl rfl rfl sz_53 dc) ?_;refine aP 7 rfl (KE (o':=56) u53 rfl rfl rfl sz_3 dc) ?_;refine aD 8 rfl (dL rfl (hv:=KJ u3 rfl (by exact cvC_gt_bits _ _ _ _ _ _ _ _ _ _ _ _ _))) ?_
  refine aO 2 rfl (cF rfl en_48 rfl (fun w hw=>c_cBytes V b f w (mC hw) hbl) ?_);refine aP 3 rfl (KF rfl rfl (br_mul (a:=8) om)) ?_;refine aP 9 rfl (KF rfl rfl (KAb om om)) ?_;refine aO 10 rfl (cF rfl en_83 rfl (fun w hw=>c_nat_Shr _ _ hgb (by unfold nby; omega) w) ?_);refine aM 11 ?_;refine aP 12 rfl (Det.extract rfl rfl) ?_;refine aP 13 rfl (Det.extract rfl rfl) ?_;refine aL 14 rfl (sA rfl rfl sz_33 mO (hl:=mL) (h:=?_));refine aE ?_;refine KB ?_;refine rD [4] ?_;refine aD 0 rfl dNa ?_;refine aM 1 ?_;refine aO 2 rfl (LStep.det dNa (Nb rfl) ?_);refine aO 3 rfl (cF rfl en_38 rfl (fun w hw=>c_cKeyB V b f _ hok w (mC hw) (shr_w9 hgb)) ?_);refine aL 4 rfl (sA rfl rfl sz_33 mO (hl:=mL) (h:=?_));refine aA 5 ?_;refine aP 6 rfl (KO (v:=.int .i64 ((0:Nat):Int)) rfl) ?_;refine aE ?_;refine KM ?_;refine ⟨[_,_,_],.cons ⟨_,_,_,rfl,mM,by exact KD u33 rfl sz_33⟩ (.cons rfl (.cons rfl .nil)),fun a w' hr=>⟨_,_,⟨rfl,rfl⟩,rfl,hr.out mS rfl⟩⟩
theorem c_kTryX (V:Cv) (b f:Nat) (hok:V.Ok) (dk:Nat) (hdk:dk = 1∨dk = 2∨dk = 3∨dk = 4) (d n:Nat) (K U:ByteArray) (hK:K.size≤64) (hU:U.size≤64) (hn:64<n) (w:World) (hH:∀ x,x∈([.blk d ⟨true,gnL dk K U (n),79,(0,0)⟩]++[.blk b ⟨false,opL V f,100,(0,0)⟩]:List Item)→x.holds w) (hd:([.blk d ⟨true,gnL dk K U (n),79,(0,0)⟩]++[.blk b ⟨false,opL V f,100,(0,0)⟩]:List Item).Pairwise Apart)  : Calls Tryz.prog 37 ([.pointer (some ⟨b,0,none⟩),.func (.func 36) #[.pointer (some ⟨d,0,none⟩)] #[]]:List Value).toArray w (fun e w'=>∃ (u:Value) (x':Item),(u = .tuple #[natV 0,.bool false,.int .i64 ((1103:Nat):Int)]∧x' = .blk d ⟨true,gnL dk K U (n),79,(0,0)⟩)∧e = .returned u∧Outcome w [.blk d ⟨true,gnL dk K U (n),79,(0,0)⟩] [x'] w'):=by
  have hmo:=hok.mt
  have hnW:=hmo.lt9
  have hn3:=hmo.three
  have hn0:V.n≠0:=by omega
  have hnp:0<V.n:=by omega
  have hnb:nby V.n≤72:=by have:=KAQ hnW; unfold nby; omega
  have hbl:=KAQ hnW
  have hn8:blen V.n≤8*nby V.n:=by unfold nby; omega
  refine KAW [.blk d ⟨true,gnL dk K U (n),79,(0,0)⟩,.blk b ⟨false,opL V f,100,(0,0)⟩] (N:=45) (rs:=[.cell 4 33,.tmp 5,.tmp 6]) Tryz.func37 rfl Tryz.ntmps37 Tryz.results37 (Nb rfl) hH hd rfl rfl ?_
  refine KB (KA ?_);refine oS (mk (KL zr_33) (fun b4=>?_));refine oA ?_;refine oP (KO (v:=.int .i64 ((0:Nat):Int)) rfl) ?_;refine KC (KB (KA (oM (oM ?_))));refine oS (cF rfl en_48 rfl (fun w hw=>c_cBytes V b f w (mC hw) hbl) ?_);refine LOps.step rfl (Km (first:=[.pointer (some ⟨d,0,none⟩)]) (caps:=[]) rfl en_36 rfl (Nb rfl) sR wK (fun w hH hd=>c_dgenX dk hdk d n K U (nby V.n) om hn w hH hd) ?_)
  rintro _ _ ⟨rfl,rfl⟩
  refine oM ?_;refine oP (Det.extract rfl rfl) ?_;refine oP (Det.extract rfl rfl) ?_;refine oA (oA (KC (KB (KB (KA (oM ?_))))));refine oP (KF (v:=.bool true) rfl rfl (br_t (br_neq (b:=0)) dc)) ?_;refine KC ?_;refine KT rfl ?_;refine KB (KA ?_);refine oP (KK (Kd pl_33 zr_33 rfl rfl) (show _ = natV 0 by unfold natV natL; rw [← vec_zeros 9])) ?_;refine oM ?_;refine LOps.step rfl (sA rfl rfl sz_33 mO (hl:=mL) (h:=?_));refine oA (oA (KC (KM ?_)));refine ⟨[_,_,_],.cons ⟨_,_,_,rfl,mM,by exact KD u33 rfl sz_33⟩ (.cons rfl (.cons rfl .nil)),fun a w' hr=>⟨_,_,⟨rfl,rfl⟩,rfl,hr.out mS rfl⟩⟩
noncomputable def sgR (V:Cv) (x:Nat):Nat:=xv (pmul V.A V.G x)%V.n
noncomputable def sgS (V:Cv) (z D x:Nat):Nat:=(z+sgR V x*D%V.n)%V.n*invM x V.n%V.n
abbrev sgK (V:Cv) (x:Nat):Prop:=x≠0∧x<V.n
def sgO (V:Cv) (z D x:Nat):Prop:=sgR V x≠0∧sgS V z D x≠0
open Classical in
noncomputable def sgE (V:Cv) (dk z D:Nat):Nat→Nat→ByteArray→ByteArray→Nat→(Nat×Nat×Nat×Nat)×ByteArray×ByteArray×Nat
  | 0,i,K,U,n=>((0,0,64,2604),K,U,n)
  | q+1,i,K,U,n =>
    if 64<n then ((0,0,i,2603),K,U,n) else
    if sgK V (tryE V (genB dk K U (nby V.n)))∧sgO V z D (tryE V (genB dk K U (nby V.n))) then ((sgR V (tryE V (genB dk K U (nby V.n))),sgS V z D (tryE V (genB dk K U (nby V.n))),i+1,0),(genS dk K U (nby V.n)).1,(genS dk K U (nby V.n)).2,n+1)
    else sgE V dk z D q (i+1) (genS dk K U (nby V.n)).1 (genS dk K U (nby V.n)).2 (n+1)
theorem sgE_full {V:Cv} {dk z D q i n:Nat} {K U:ByteArray} (h:64<n):sgE V dk z D (q+1) i K U n = ((0,0,i,2603),K,U,n):=if_pos h
theorem sgE_got {V:Cv} {dk z D q i n x:Nat} {K U:ByteArray} (hx:tryE V (genB dk K U (nby V.n)) = x) (h:¬ 64<n) (h2:sgK V x) (h3:sgO V z D x):sgE V dk z D (q+1) i K U n = ((sgR V x,sgS V z D x,i+1,0),(genS dk K U (nby V.n)).1,(genS dk K U (nby V.n)).2,n+1):=by
  subst hx; exact (if_neg h).trans (if_pos ⟨h2,h3⟩)
theorem sgE_next {V:Cv} {dk z D q i n x:Nat} {K U:ByteArray} (hx:tryE V (genB dk K U (nby V.n)) = x) (h:¬ 64<n) (h2:¬ (sgK V x∧sgO V z D x)):sgE V dk z D (q+1) i K U n = sgE V dk z D q (i+1) (genS dk K U (nby V.n)).1 (genS dk K U (nby V.n)).2 (n+1):=by
  subst hx; exact (if_neg h).trans (if_neg h2)
theorem sg_cases (n:Nat) (V:Cv) (x:Nat):64<n∨(¬ 64<n∧¬ sgK V x)∨(¬ 64<n∧sgK V x):=by
  rcases Nat.lt_or_ge 64 n with h|h
  · exact .inl h
  · rcases Classical.em (sgK V x) with h2|h2
    · exact .inr (.inr ⟨by omega,h2⟩)
    · exact .inr (.inl ⟨by omega,h2⟩)
theorem sg_cases2 (V:Cv) (z D x:Nat):sgR V x = 0∨(sgR V x≠0∧sgS V z D x = 0)∨sgO V z D x:=by
  rcases Classical.em (sgR V x = 0) with h|h
  · exact .inl h
  · rcases Classical.em (sgS V z D x = 0) with h2|h2
    · exact .inr (.inl ⟨h,h2⟩)
    · exact .inr (.inr ⟨h,h2⟩)
theorem c_eSign (tb:Option Nat) (tr:TrRow) (l:List Nat) (id:Int) (V:Cv) (D:Nat) (hD:D≠0∧D<V.n) (k:Nat) (hk:k = 1∨k = 2∨k = 3∨k = 4) (msg:ByteArray) (hmsg:msg.size≤140737488351232) (dk:Nat) (hdk:dk = 1∨dk = 2∨dk = 3∨dk = 4) (d n:Nat) (K U:ByteArray) (hK:K.size≤64) (hU:U.size≤64) (R S T E:Nat) (K2 U2:ByteArray) (n2:Nat) (w:World) (hH:∀ x,x∈([.blk d ⟨true,gnL dk K U (n),79,(0,0)⟩,trI tb tr l]++[]:List Item)→x.holds w) (hd:([.blk d ⟨true,gnL dk K U (n),79,(0,0)⟩,trI tb tr l]++[]:List Item).Pairwise Apart) (h:cvI id = some V) (hm:sgE V dk (digE V k msg) D 64 0 K U n = ((R,S,T,E),K2,U2,n2)) (hl:l.length≤70000000):Calls Tryz.prog 15 ([trV tb,.int .i64 id,.int .i64 ((k:Nat):Int),natV D,.string msg,.pointer (some ⟨d,0,none⟩)]:List Value).toArray w (fun e w'=>∃ (u:Value) (x':Item) (y':Item),(u = .tuple #[sgV R S,.int .i64 ((T:Nat):Int),.int .i64 ((E:Nat):Int)]∧x' = .blk d ⟨true,gnL dk K2 U2 (n2),79,(0,0)⟩∧∃ tr2 l2,y' = trI tb tr2 l2∧l2.length≤l.length+64*2500)∧e = .returned u∧Outcome w [.blk d ⟨true,gnL dk K U (n),79,(0,0)⟩,trI tb tr l] [x',y'] w'):=by
  obtain ⟨hok,hid⟩:=cvI_ok h
  have hbb:=hok.bounds
  have hpW:V.p<W9:=KAE hbb.2.1
  have hnW:V.n<W9:=KAE hbb.2.2.2.2.2.2.1
  have hbl:=KAQ hnW
  have hnb:nby V.n≤72:=by (unfold nby; omega)
  have hmo:=hok.mt
  have hn3:=hmo.three
  have hn0:V.n≠0:=by omega
  have hnp:0<V.n:=by omega
  have hs8:=hsize_le hk
  obtain ⟨m,hmv⟩:∃ m,(blen V.n+3)/4 = m:=⟨_,rfl⟩
  have hm144:m≤144:=by omega
  refine KAW [.blk d ⟨true,gnL dk K U (n),79,(0,0)⟩,trI tb tr l] (N:=102) (rs:=[.cell 12 37,.tmp 13,.tmp 14]) Tryz.func15 rfl Tryz.ntmps15 Tryz.results15 (Nb rfl) hH hd rfl rfl ?_
  refine KB (KA ?_);refine oS (mB (fun b9=>?_));refine oS (mk (KL zr_37) (fun b12=>?_));refine oP (KO (v:=.int .i64 ((0:Nat):Int)) rfl) ?_;refine oP (KO (v:=.int .i64 ((0:Nat):Int)) rfl) ?_;refine KC (KB (KA (oM ?_)));refine oS (oOpen h rfl rfl (fun b f bd=>?_));refine oA (KC (KB (LCode.block (KB (KA (oM ?_))))));refine oP (KK (KAN u24 rfl rfl) (show _ = Value.bool false from rfl)) ?_;refine oA (KC ?_);refine KH rfl ?_;refine KB (KA (oM ?_));refine oP (KK (KAN u81 rfl rfl) (show _ = Value.bool false from rfl)) ?_;refine oA (KC ?_);refine KH rfl ?_;refine KB (KA (oM ?_));refine oS (cF rfl en_31 rfl (fun w hw=>c_hSize k hk w) ?_);refine oP (KF (v:=.bool false) rfl rfl (br_f (Kz (b:=0)) om)) ?_;refine oA (KC ?_);refine KH rfl ?_;refine KB (KA (oM ?_));refine oD dNa ?_;refine oS (cF rfl en_38 rfl (fun w hw=>c_cKeyT V b f D w (mC hw) (Nat.lt_trans hD.2 hnW) hnW hD.1 hD.2) ?_)
  refine oP (KK (KAK rfl) (show _ = Value.bool false from rfl)) ?_;refine oA (KC ?_);refine KH rfl ?_;refine KN (KB (KA (oM ?_)));refine LOps.step rfl (Km (first:=[]) (caps:=[]) rfl en_39 rfl (Nb rfl) sR wK (fun w hH hd=>c_eOf V b f hok w hH hd) ?_)
  rintro _ _ ⟨bm,rfl,rfl⟩
  refine oM (oM (oM ?_));refine oS (cF rfl en_40 rfl (fun w hw=>c_eDigest V b f hok k hk msg hmsg w (mC hw)) ?_);refine oS (mk (KL zr_90) (fun b16=>?_));refine oS (mk (KL zr_33) (fun b17=>?_));refine LOps.step rfl (sA rfl rfl sz_90 mO (hl:=mL) (h:=?_));refine LOps.step rfl (sA rfl rfl sz_33 mO (hl:=mL) (h:=?_));refine KC (KB (KB (KA ?_)));refine oP (Ki (v:=.int .i64 ((0:Nat):Int)) rfl) ?_;refine KC (LCode.block ?_);refine Ke (α:=Nat×ByteArray×ByteArray×Nat×TrRow×List Nat) (fun x=>x.1≤64∧x.2.1.size≤64∧x.2.2.1.size≤64∧x.2.2.2.2.2.length≤l.length+x.1*2500∧sgE V dk (digE V k msg) D (64-x.1) x.1 x.2.1 x.2.2.1 x.2.2.2.1 = ((R,S,T,E),K2,U2,n2)) (fun x=>⟨[(0,trV tb),(2,.int .i64 ((k:Nat):Int)),(5,.pointer (some ⟨d,0,none⟩)),(9,.pointer (some ⟨b9,0,none⟩)),(12,.pointer (some ⟨b12,0,none⟩)),(15,.pointer (some ⟨b,0,none⟩)),(16,.pointer (some ⟨b16,0,none⟩)),(17,.pointer (some ⟨b17,0,none⟩)),(51,.int .i64 ((x.1:Nat):Int))],[.blk d ⟨true,gnL dk x.2.1 x.2.2.1 (x.2.2.2.1),79,(0,0)⟩,trI tb x.2.2.2.2.1 x.2.2.2.2.2,.blk b ⟨false,opL V f,100,(0,0)⟩,.blk f ⟨false,fldL V.p bd,165,(0,0)⟩,.blk bd ⟨false,dvL V.p,269,(0,0)⟩,.blk bm ⟨true,mtL V.n (nw V.n) (mtL0 V.n) (mtR (nw V.n)*mtR (nw V.n)%V.n),201,(0,0)⟩,.blk b16 ⟨true,[Value.pointer (some ⟨b,0,none⟩),Value.pointer (some ⟨bm,0,none⟩)],90,(0,0)⟩,.blk b9 ⟨true,natL D,33,(0,0)⟩,.blk b17 ⟨true,natL (digE V k msg),33,(0,0)⟩,.blk b12 ⟨true,vec .u64 9 (fun _=>0)++vec .u64 9 (fun _=>0),37,(0,0)⟩]⟩) (fun x=>64-x.1) ((0,K,U,n,tr,l)) (⟨Nat.zero_le _,hK,hU,by dsimp only; omega,hm⟩) (Ka ⟨rfl,rfl,rfl,rfl,rfl,rfl,rfl,rfl,rfl,trivial⟩ mS) ?_
  rintro ⟨i,K1,U1,n1,tr1,l1⟩ ⟨hi,hK1,hU1,hl1,hm1⟩
  dsimp only at hi hK1 hU1 hl1 hm1 ⊢
  refine KB (KA ?_);refine oP (KF rfl rfl (KAF (b:=64))) ?_;refine KC (KB ?_)
  first|refine KR rfl (fun h52=>?_) (fun h52=>?_)|refine KS rfl (fun h52=>?_) (fun h52=>?_)
  ·
   have h52:i<64:=h52
   obtain ⟨q,hq⟩:∃ q,64-i = q+1:=⟨63-i,by omega⟩
   have hm0:=hm1
   rw [hq] at hm0
   obtain ⟨x0,hx0⟩:∃ x0,tryE V (genB dk K1 U1 (nby V.n)) = x0:=⟨_,rfl⟩
   refine KN (KB (LCode.block (KB (KA (oM (oA (KC (KB ?_))))))))
   rcases sg_cases n1 V x0 with hn1|⟨hn1,hx1⟩|⟨hn1,hx1⟩
   ·
    refine KA (oM (oM ?_));refine oP (KAS rfl) ?_;refine LOps.step rfl (Km (first:=[]) (caps:=[]) rfl en_37 rfl (Nb rfl) sR wK (fun w hH hd=>c_kTryX V b f hok dk hdk d n1 K1 U1 hK1 hU1 hn1 w hH hd) ?_)
    rintro _ _ ⟨rfl,rfl⟩
    refine oM ?_;refine oP (Det.extract rfl rfl) ?_;refine oP (Det.extract rfl rfl) ?_;refine oP (Det.extract rfl rfl) ?_;refine oS (mk (KL zr_33) (fun b19=>?_));refine LOps.step rfl (sA rfl rfl sz_33 mO (hl:=mL) (h:=?_));refine oA (oA (KC (KB (KB (KA (oM ?_))))));refine oP (KF (v:=.bool true) rfl rfl (br_t (br_neq (b:=0)) dc)) ?_;refine KC ?_;refine KT rfl ?_;refine KB ?_
    have he:=(hm0.symm.trans (sgE_full hn1)).symm
    simp only [Prod.mk.injEq] at he
    obtain ⟨⟨rfl,rfl,rfl,rfl⟩,rfl,rfl,rfl⟩:=he
    refine KA ?_;refine oP (KK (Kd pl_37 zr_37 rfl rfl) (show _ = sgV 0 0 from sg_zero)) ?_;refine oM ?_;refine LOps.step rfl (sA rfl rfl sz_37 (by exact sgL_one _ _) (hl:=by exact sgL_length _ _) (h:=?_));refine oA ?_;refine oP (KO (v:=.int .i64 ((2603:Nat):Int)) rfl) ?_;refine KC (KM ?_);refine ⟨[_,_,_],.cons ⟨_,_,_,rfl,mM,by exact KD u37 rfl sz_37⟩ (.cons rfl (.cons rfl .nil)),fun a w' hr=>⟨_,_,_,⟨rfl,rfl,tr1,l1,rfl,by omega⟩,rfl,hr.out mS rfl⟩⟩
   ·
    refine KA (oM (oM ?_));refine oP (KAS rfl) ?_;refine LOps.step rfl (Km (first:=[]) (caps:=[]) rfl en_37 rfl (Nb rfl) sR wK (fun w hH hd=>c_kTry V b f hok dk hdk d n1 K1 U1 hK1 hU1 om w hH hd) ?_)
    rintro _ _ ⟨rfl,rfl⟩
    rw [hx0,decide_eq_false hx1]
    refine oM ?_;refine oP (Det.extract rfl rfl) ?_;refine oP (Det.extract rfl rfl) ?_;refine oP (Det.extract rfl rfl) ?_;refine oS (mk (KL zr_33) (fun b19=>?_));refine LOps.step rfl (sA rfl rfl sz_33 mO (hl:=mL) (h:=?_));refine oA (oA (KC (KB (KB (KA (oM ?_))))));refine oP (KF (v:=.bool false) rfl rfl (br_f (br_neq (b:=0)) dc)) ?_;refine KC ?_;refine KH rfl ?_;refine KN (KB (KB (KA (oM ?_))));refine oP (KAK rfl) ?_;refine KC ?_;refine KT rfl ?_;refine Kc (KA ?_);refine oP (KF rfl rfl (Ko (b:=1) om)) ?_;refine oM (KC ?_);refine ⟨(i+1,_,_,n1+1,tr1,l1),⟨by dsimp only; omega,(genS_size hdk K1 hK1 hU1 _).1,(genS_size hdk K1 hK1 hU1 _).2,by dsimp only; omega,?_⟩,by dsimp only; omega,Ka ⟨rfl,rfl,rfl,rfl,rfl,rfl,rfl,rfl,rfl,trivial⟩ mS⟩
    dsimp only
    rw [show 64-(i+1) = q from by omega]
    exact (sgE_next hx0 hn1 (fun h=>hx1 h.1)).symm.trans hm0
   refine KA (oM (oM ?_));refine oP (KAS rfl) ?_;refine LOps.step rfl (Km (first:=[]) (caps:=[]) rfl en_37 rfl (Nb rfl) sR wK (fun w hH hd=>c_kTry V b f hok dk hdk d n1 K1 U1 hK1 hU1 om w hH hd) ?_)
   rintro _ _ ⟨rfl,rfl⟩
   rw [hx0,decide_eq_true hx1]
   refine oM ?_;refine oP (Det.extract rfl rfl) ?_;refine oP (Det.extract rfl rfl) ?_;refine oP (Det.extract rfl rfl) ?_;refine oS (mk (KL zr_33) (fun b19=>?_));refine LOps.step rfl (sA rfl rfl sz_33 mO (hl:=mL) (h:=?_));refine oA (oA (KC (KB (KB (KA (oM ?_))))));refine oP (KF (v:=.bool false) rfl rfl (br_f (br_neq (b:=0)) dc)) ?_;refine KC ?_;refine KH rfl ?_;refine KN (KB (KB (KA (oM ?_))));refine oP (KAK rfl) ?_;refine KC ?_;refine KH rfl ?_;refine KN (KB (KA (oM (oM (oM ?_)))));refine oD dNa ?_;refine LOps.step rfl (LStepW.callT (first:=[]) (r:=tr1) (l:=l1) (l':=l1++evN m) rfl en_42 rfl (Nb rfl) mP (fun w hw hn=>c_bTimes tb tr1 l1 V b f bd hok x0 hx1.2 m hmv w (mC hw) om (mC hw) (mC hw) (mC hw) (hn _ mM) (hn _ mM) (hn _ mM)) ?_)
   intro r1
   refine oP (Det.field u47 rfl rfl (PartOf.agg u33 rfl sz_33 (pt_x0 _ _ _))) ?_;refine oS (cF rfl en_41 rfl (fun w hw=>c_eRest V b f hok _ (Nat.lt_trans (xv_lt _) hpW) w (mC hw)) ?_);refine oS (mk (KL zr_33) (fun b22=>?_));refine LOps.step rfl (sA rfl rfl sz_33 mO (hl:=mL) (h:=?_));refine KC (KB ?_);refine rD [13] ?_;refine aD 0 rfl (dL rfl (hv:=by exact KD u90 rfl sz_90)) ?_;refine aD 1 rfl (dL rfl (hv:=by exact KD u90 rfl sz_90)) ?_;refine aD 2 rfl dNa ?_;refine aD 3 rfl (dL rfl (hv:=by exact KD u90 rfl sz_90)) ?_;refine aD 4 rfl dNa ?_;refine aD 5 rfl dNa ?_;refine aD 8 rfl (dL rfl (hv:=by exact KD u90 rfl sz_90)) ?_;refine aD 9 rfl dNa ?_
   refine KAR ?_;refine Kp 12 rfl (.inl zr_33) (Nb rfl) rfl rfl rfl ?_;refine LAnyP.step 6 rfl rfl rfl (Nb rfl) (by kernel_rfl) rfl (Kg (first:=[]) rfl en_43 rfl (fun w hw=>c_eMul V b f bm hok (sgR V x0) D (Nat.mod_lt _ hnp) hD.2 w (mC hw) (show (Item.blk bm ⟨false,mtL V.n (nw V.n) (mtL0 V.n) (mtR (nw V.n)*mtR (nw V.n)%V.n),201,(0,0)⟩).holds w from hw (.blk bm ⟨true,mtL V.n (nw V.n) (mtL0 V.n) (mtR (nw V.n)*mtR (nw V.n)%V.n),201,(0,0)⟩) mM))) ?_
   rintro _ _ ⟨rfl,rfl⟩
   refine LAnyP.step 7 rfl rfl rfl (Nb rfl) (by kernel_rfl) rfl (Kg (first:=[]) rfl en_44 rfl (fun w hw=>c_eAdd V b f bm hok (digE V k msg) (sgR V x0*D%V.n) (Nat.mod_lt _ hnp) (Nat.mod_lt _ hnp) w (mC hw) (show (Item.blk bm ⟨false,mtL V.n (nw V.n) (mtL0 V.n) (mtR (nw V.n)*mtR (nw V.n)%V.n),201,(0,0)⟩).holds w from hw (.blk bm ⟨true,mtL V.n (nw V.n) (mtL0 V.n) (mtR (nw V.n)*mtR (nw V.n)%V.n),201,(0,0)⟩) mM))) ?_
   rintro _ _ ⟨rfl,rfl⟩
   refine LAnyP.step 10 rfl rfl rfl (Nb rfl) (by kernel_rfl) rfl (Kg (first:=[]) rfl en_45 rfl (fun w hw=>c_eInv V b f bm hok x0 hx1.1 hx1.2 w (mC hw) (show (Item.blk bm ⟨false,mtL V.n (nw V.n) (mtL0 V.n) (mtR (nw V.n)*mtR (nw V.n)%V.n),201,(0,0)⟩).holds w from hw (.blk bm ⟨true,mtL V.n (nw V.n) (mtL0 V.n) (mtR (nw V.n)*mtR (nw V.n)%V.n),201,(0,0)⟩) mM))) ?_
   rintro _ _ ⟨rfl,rfl⟩
   refine LAnyP.step 11 rfl rfl rfl (Nb rfl) (by kernel_rfl) rfl (Kg (first:=[]) rfl en_43 rfl (fun w hw=>c_eMul V b f bm hok ((digE V k msg+sgR V x0*D%V.n)%V.n) (invM x0 V.n) (Nat.mod_lt _ hnp) (invM_lt hnp) w (mC hw) (show (Item.blk bm ⟨false,mtL V.n (nw V.n) (mtL0 V.n) (mtR (nw V.n)*mtR (nw V.n)%V.n),201,(0,0)⟩).holds w from hw (.blk bm ⟨true,mtL V.n (nw V.n) (mtL0 V.n) (mtR (nw V.n)*mtR (nw V.n)%V.n),201,(0,0)⟩) mM))) ?_
   rintro _ _ ⟨rfl,rfl⟩
   refine pE (fun b23=>?_);refine Kw ?_;refine aL 13 rfl (sA rfl rfl sz_33 mO (hl:=mL) (h:=?_));refine aE ?_;refine KB ?_
   rcases sg_cases2 V (digE V k msg) D x0 with hz1|⟨hz0,hz2⟩|hz
   ·
    have hRw:sgR V x0<W9:=Nat.lt_trans (Nat.mod_lt _ hnp) hnW
    have hSw:sgS V (digE V k msg) D x0<W9:=Nat.lt_trans (Nat.mod_lt _ hnp) hnW
    refine KA ?_;refine oD dNa ?_;refine oP (KK (Kd pl_33 zr_33 rfl rfl) (show _ = natV 0 by unfold natV natL; rw [← vec_zeros 9])) ?_;refine oP (KK (Det.nea (by kernel_rfl) (fun w=>eq_nat (sgR V x0) 0 hRw zero_w9 10000 dc w) rfl rfl) (show _ = Value.bool false by rw [decide_eq_true hz1]; rfl)) ?_;refine oM ?_;refine oK ?_;refine oK ?_;refine oK ?_;refine oP (KV rfl rfl) ?_;refine KC ?_;refine KH rfl ?_;refine KN (KA ?_);refine oP (KF rfl rfl (Ko (b:=1) om)) ?_;refine oM (KC ?_);refine ⟨(i+1,_,_,n1+1,r1,l1++evN m),⟨by dsimp only; omega,(genS_size hdk K1 hK1 hU1 _).1,(genS_size hdk K1 hK1 hU1 _).2,by simp only [List.length_append,evN_length]; omega,?_⟩,by dsimp only; omega,Ka ⟨rfl,rfl,rfl,rfl,rfl,rfl,rfl,rfl,rfl,trivial⟩ mS⟩
    dsimp only
    rw [show 64-(i+1) = q from by omega]
    exact (sgE_next hx0 hn1 (fun h=>h.2.1 hz1)).symm.trans hm0
   ·
    have hRw:sgR V x0<W9:=Nat.lt_trans (Nat.mod_lt _ hnp) hnW
    have hSw:sgS V (digE V k msg) D x0<W9:=Nat.lt_trans (Nat.mod_lt _ hnp) hnW
    refine KA ?_;refine oD dNa ?_;refine oP (KK (Kd pl_33 zr_33 rfl rfl) (show _ = natV 0 by unfold natV natL; rw [← vec_zeros 9])) ?_;refine oP (KK (Det.nea (by kernel_rfl) (fun w=>eq_nat (sgR V x0) 0 hRw zero_w9 10000 dc w) rfl rfl) (show _ = Value.bool true by rw [decide_eq_false hz0]; rfl)) ?_;refine oM ?_;refine KAA rfl rfl dNa (Nb rfl) ?_;refine oGP (KK (Kd pl_33 zr_33 rfl rfl) (show _ = natV 0 by unfold natV natL; rw [← vec_zeros 9])) ?_;refine oGP (KK (Det.nea (by kernel_rfl) (fun w=>eq_nat (sgS V (digE V k msg) D x0) 0 hSw zero_w9 10000 dc w) rfl rfl) (show _ = Value.bool false by rw [decide_eq_true hz2]; rfl)) ?_;refine oP (Kj rfl rfl) ?_;refine KC ?_;refine KH rfl ?_;refine KN (KA ?_);refine oP (KF rfl rfl (Ko (b:=1) om)) ?_;refine oM (KC ?_);refine ⟨(i+1,_,_,n1+1,r1,l1++evN m),⟨by dsimp only; omega,(genS_size hdk K1 hK1 hU1 _).1,(genS_size hdk K1 hK1 hU1 _).2,by simp only [List.length_append,evN_length]; omega,?_⟩,by dsimp only; omega,Ka ⟨rfl,rfl,rfl,rfl,rfl,rfl,rfl,rfl,rfl,trivial⟩ mS⟩
    dsimp only
    rw [show 64-(i+1) = q from by omega]
    exact (sgE_next hx0 hn1 (fun h=>h.2.2 hz2)).symm.trans hm0
   have hRw:sgR V x0<W9:=Nat.lt_trans (Nat.mod_lt _ hnp) hnW
   have hSw:sgS V (digE V k msg) D x0<W9:=Nat.lt_trans (Nat.mod_lt _ hnp) hnW
   refine KA ?_;refine oD dNa ?_;refine oP (KK (Kd pl_33 zr_33 rfl rfl) (show _ = natV 0 by unfold natV natL; rw [← vec_zeros 9])) ?_;refine oP (KK (Det.nea (by kernel_rfl) (fun w=>eq_nat (sgR V x0) 0 hRw zero_w9 10000 dc w) rfl rfl) (show _ = Value.bool true by rw [decide_eq_false hz.1]; rfl)) ?_;refine oM ?_;refine KAA rfl rfl dNa (Nb rfl) ?_;refine oGP (KK (Kd pl_33 zr_33 rfl rfl) (show _ = natV 0 by unfold natV natL; rw [← vec_zeros 9])) ?_;refine oGP (KK (Det.nea (by kernel_rfl) (fun w=>eq_nat (sgS V (digE V k msg) D x0) 0 hSw zero_w9 10000 dc w) rfl rfl) (show _ = Value.bool true by rw [decide_eq_false hz.2]; rfl)) ?_;refine oP (Kj rfl rfl) ?_;refine KC ?_;refine KT rfl ?_;refine KB ?_
   have he:=(hm0.symm.trans (sgE_got hx0 hn1 hx1 hz)).symm
   simp only [Prod.mk.injEq] at he
   obtain ⟨⟨rfl,rfl,rfl,rfl⟩,rfl,rfl,rfl⟩:=he
   refine KA ?_;refine oD dNa ?_;refine oD dNa ?_;refine oP (Kd pl_37 zr_37 rfl (fT (r':=(natL (sgR V x0)++(natL (sgS V (digE V k msg) D x0)))) (fS (A:=([]:List Value)) (B:=(vec .u64 9 (fun _=>0))) (D:=(vec .u64 9 (fun _=>0))) (cs:=natL (sgR V x0)) (fS (A:=(natL (sgR V x0))) (B:=(vec .u64 9 (fun _=>0))) (D:=([]:List Value)) (cs:=natL (sgS V (digE V k msg) D x0)) rfl)))) ?_;refine oM ?_;refine oP (KF rfl rfl (Ko (b:=1) om)) ?_;refine LOps.step rfl (sA rfl rfl sz_37 (by exact sgL_one _ _) (hl:=by exact sgL_length _ _) (h:=?_));refine oA ?_;refine oP (KO (v:=.int .i64 ((0:Nat):Int)) rfl) ?_;refine KC (KM ?_);refine ⟨[_,_,_],.cons ⟨_,_,_,rfl,mM,by exact KD u37 rfl sz_37⟩ (.cons rfl (.cons rfl .nil)),fun a w' hr=>⟨_,_,_,⟨rfl,rfl,r1,l1++evN m,rfl,by simp only [List.length_append,evN_length]; omega⟩,rfl,hr.out mS rfl⟩⟩
  have h52:¬ i<64:=h52
  obtain rfl:i = 64:=by omega
  have he:=(show ((0,0,64,2604),K1,U1,n1) = ((R,S,T,E),K2,U2,n2) from hm1)
  simp only [Prod.mk.injEq] at he
  obtain ⟨⟨rfl,rfl,rfl,rfl⟩,rfl,rfl,rfl⟩:=he
  refine Kc (KB (KA ?_));refine oP (KK (Kd pl_37 zr_37 rfl rfl) (show _ = sgV 0 0 from sg_zero)) ?_;refine LOps.step rfl (sA rfl rfl sz_37 (by exact sgL_one _ _) (hl:=by exact sgL_length _ _) (h:=?_));refine oP (KO (v:=.int .i64 ((64:Nat):Int)) rfl) ?_;refine oP (KO (v:=.int .i64 ((2604:Nat):Int)) rfl) ?_;refine KC (KM ?_);refine ⟨[_,_,_],.cons ⟨_,_,_,rfl,mM,by exact KD u37 rfl sz_37⟩ (.cons rfl (.cons rfl .nil)),fun a w' hr=>⟨_,_,_,⟨rfl,rfl,tr1,l1,rfl,by omega⟩,rfl,hr.out mS rfl⟩⟩
noncomputable def verE (V:Cv) (P:Pt V.p) (R:Nat):Bool:=!(iv P) && decide (xv P%V.n = R)
theorem c_eVer (id:Int) (V:Cv) (k:Nat) (hk:k = 1∨k = 2∨k = 3∨k = 4) (msg:ByteArray) (hmsg:msg.size≤140737488351232) (x y:Fin V.p) (hQ:On V.A V.B (.aff x y)) (R S:Nat) (w:World) (h:cvI id = some V) (h2:sgK V R) (h3:sgK V S):Calls Tryz.prog 21 ([.int .i64 id,.int .i64 ((k:Nat):Int),ptP (.aff x y:Pt V.p),.string msg,sgV R S]:List Value).toArray w (fun e w'=>e = .returned (.bool (verE V (dualP V (digE V k msg*invM S V.n%V.n) (R*invM S V.n%V.n) (.aff x y)) R))∧Below w.heap.size w w'):=by
  obtain ⟨hok,hid⟩:=cvI_ok h
  have hbb:=hok.bounds
  have hpW:V.p<W9:=KAE hbb.2.1
  have hnW:V.n<W9:=KAE hbb.2.2.2.2.2.2.1
  have hbl:=KAQ hnW
  have hnb:nby V.n≤72:=by (unfold nby; omega)
  have hmo:=hok.mt
  have hn3:=hmo.three
  have hn0:V.n≠0:=by omega
  have hnp:0<V.n:=by omega
  have hs8:=hsize_le hk
  have hR:=Nat.lt_trans h2.2 hnW
  have hS:=Nat.lt_trans h3.2 hnW
  have hX:=(pt_w9 hok (.aff x y)).1
  have hY:=(pt_w9 hok (.aff x y)).2
  have h1:onB V.p V.a V.b x.val y.val false = true:=onB_on hQ
  refine KX (N:=81) (rs:=[.tmp 10]) [] Tryz.func21 rfl Tryz.ntmps21 Tryz.results21 (Nb rfl) trivial rfl ?_
  refine KB (KA ?_);refine oS (mB (fun b7=>?_));refine oS (mB (fun b9=>?_));refine oA (KC (KB (KA (oM ?_))));refine oS (oOpen h rfl rfl (fun b f bd=>?_));refine oA (KC (KB (KB ?_)))
  rcases (show True from trivial) with _
  refine KA (oM ?_);refine oP (KK (KAN u81 rfl rfl) (show _ = Value.bool false from rfl)) ?_;refine oM ?_;refine oGM ?_;refine oGS (cF rfl en_31 rfl (fun w hw=>c_hSize k hk w) ?_);refine oGP (KK (KF rfl rfl rfl) (show _ = Value.bool false by rw [beq_eq_false_iff_ne.2 (show ((hsize k:Nat):Int)≠0 by omega)])) ?_;refine oP (KV rfl rfl) ?_;refine oM ?_;refine oGP (KE (o':=18) u47 rfl rfl rfl sz_4 dc) ?_;refine KAA rfl rfl (dL rfl (hv:=KJ u4 rfl (by exact pt_gt _ _ _))) (Nb rfl) ?_;refine oP (KV rfl rfl) ?_;refine oM ?_;refine oGM ?_;refine KAA rfl rfl dNb (Nb rfl) ?_;refine oGS (cF rfl en_55 rfl (fun w hw=>c_cOnB V b f bd hok x.val y.val false true w (mC hw) (mC hw) (mC hw) hX hY h1) ?_);refine oGP (KK (KAK rfl) (show _ = Value.bool false from rfl)) ?_;refine oP (KV rfl rfl) ?_;refine oM ?_;refine oGM ?_
  refine oGP (KE (o':=0) u37 rfl rfl rfl sz_33 dc) ?_;refine KAA rfl rfl (dL rfl (hv:=by exact Kv u33 rfl sz_33 rfl (KI _))) (Nb rfl) ?_;refine oGS (cF rfl en_38 rfl (fun w hw=>c_cKeyB V b f R hok w (mC hw) hR) ?_);refine oGP (KK (KAK rfl) (show _ = Value.bool false by rw [decide_eq_true h2]; rfl)) ?_;refine oP (KV rfl rfl) ?_;refine oM ?_;refine oGM ?_;refine oGP (KE (o':=9) u37 rfl rfl rfl sz_33 dc) ?_;refine KAA rfl rfl (dL rfl (hv:=by exact LoadV.last u33 rfl sz_33 rfl (KI _) (KI _))) (Nb rfl) ?_;refine oGS (cF rfl en_38 rfl (fun w hw=>c_cKeyB V b f S hok w (mC hw) hS) ?_);refine oGP (KK (KAK rfl) (show _ = Value.bool false by rw [decide_eq_true h3]; rfl)) ?_;refine oP (KV rfl rfl) ?_;refine KC ?_;refine KH rfl ?_;refine KN (KB (KA (oM ?_)));refine LOps.step rfl (Km (first:=[]) (caps:=[]) rfl en_39 rfl (Nb rfl) sR wK (fun w hH hd=>c_eOf V b f hok w hH hd) ?_)
  rintro _ _ ⟨bm,rfl,rfl⟩
  refine oS (mk (KL zr_90) (fun b12=>?_));refine LOps.step rfl (sA rfl rfl sz_90 mO (hl:=mL) (h:=?_));refine KC (KB (KA ?_));refine oD (dL rfl (hv:=by exact KD u90 rfl sz_90)) ?_;refine oP (KE (o':=9) u37 rfl rfl rfl sz_33 dc) ?_;refine oD (dL rfl (hv:=by exact LoadV.last u33 rfl sz_33 rfl (KI _) (KI _))) ?_;refine oS (cF rfl en_45 rfl (fun w hw=>c_eInv V b f bm hok S h3.1 h3.2 w (mC hw) (show (Item.blk bm ⟨false,mtL V.n (nw V.n) (mtL0 V.n) (mtR (nw V.n)*mtR (nw V.n)%V.n),201,(0,0)⟩).holds w from hw (.blk bm ⟨true,mtL V.n (nw V.n) (mtL0 V.n) (mtR (nw V.n)*mtR (nw V.n)%V.n),201,(0,0)⟩) mM)) ?_);refine oS (mk (KL zr_33) (fun b13=>?_));refine LOps.step rfl (sA rfl rfl sz_33 mO (hl:=mL) (h:=?_));refine KC (KB ?_);refine rD [16] ?_;refine aM 0 ?_;refine aD 1 rfl (dL rfl (hv:=by exact KD u90 rfl sz_90)) ?_;refine aM 2 ?_;refine aM 3 ?_;refine aM 4 ?_
  refine aD 6 rfl dNa ?_;refine aD 8 rfl (dL rfl (hv:=by exact KD u90 rfl sz_90)) ?_;refine aP 9 rfl (KE (o':=0) u37 rfl rfl rfl sz_33 dc) ?_;refine aD 10 rfl (dL rfl (hv:=by exact Kv u33 rfl sz_33 rfl (KI _))) ?_;refine aD 11 rfl dNa ?_;refine aD 13 rfl dNb ?_;refine KAR ?_;refine Kp 15 rfl (.inl zr_47) (Nb rfl) rfl rfl rfl ?_;refine LAnyP.step 5 rfl rfl rfl (Nb rfl) (by kernel_rfl) rfl (Kg (first:=[]) rfl en_40 rfl (fun w hw=>c_eDigest V b f hok k hk msg hmsg w (mC hw))) ?_
  rintro _ _ ⟨rfl,rfl⟩
  refine LAnyP.step 7 rfl rfl rfl (Nb rfl) (by kernel_rfl) rfl (Kg (first:=[]) rfl en_43 rfl (fun w hw=>c_eMul V b f bm hok (digE V k msg) (invM S V.n) (Nat.mod_lt _ hnp) (invM_lt hnp) w (mC hw) (show (Item.blk bm ⟨false,mtL V.n (nw V.n) (mtL0 V.n) (mtR (nw V.n)*mtR (nw V.n)%V.n),201,(0,0)⟩).holds w from hw (.blk bm ⟨true,mtL V.n (nw V.n) (mtL0 V.n) (mtR (nw V.n)*mtR (nw V.n)%V.n),201,(0,0)⟩) mM))) ?_
  rintro _ _ ⟨rfl,rfl⟩
  refine LAnyP.step 12 rfl rfl rfl (Nb rfl) (by kernel_rfl) rfl (Kg (first:=[]) rfl en_43 rfl (fun w hw=>c_eMul V b f bm hok R (invM S V.n) h2.2 (invM_lt hnp) w (mC hw) (show (Item.blk bm ⟨false,mtL V.n (nw V.n) (mtL0 V.n) (mtR (nw V.n)*mtR (nw V.n)%V.n),201,(0,0)⟩).holds w from hw (.blk bm ⟨true,mtL V.n (nw V.n) (mtL0 V.n) (mtR (nw V.n)*mtR (nw V.n)%V.n),201,(0,0)⟩) mM))) ?_
  rintro _ _ ⟨rfl,rfl⟩
  refine LAnyP.step 14 rfl rfl rfl (Nb rfl) (by kernel_rfl) rfl (Kg (first:=[]) rfl en_56 rfl (fun w hw=>c_dualTimes V b f bd hok (digE V k msg*invM S V.n%V.n) (R*invM S V.n%V.n) (.aff x y) hQ (Nat.mod_lt _ hnp) (Nat.mod_lt _ hnp) w (mC hw) (mC hw) (mC hw))) ?_
  rintro _ _ ⟨rfl,rfl⟩
  refine pE (fun b14=>?_);refine Kw ?_;refine aL 16 rfl (sA rfl rfl sz_47 mO (hl:=mL) (h:=?_));refine aE ?_;refine KB ?_
  unfold verE
  obtain ⟨Pr0,hPr⟩:∃ P,dualP V (digE V k msg*invM S V.n%V.n) (R*invM S V.n%V.n) (.aff x y) = P:=⟨_,rfl⟩
  rw [hPr]
  rcases (show iv Pr0 = true∨iv Pr0 = false by cases iv Pr0 <;> simp) with hi|hi
  ·
   rw [hi]
   refine rD [] ?_;refine aP 0 rfl (KE (o':=18) u47 rfl rfl rfl sz_4 dc) ?_;refine aD 1 rfl (dL rfl (hv:=KJ u4 rfl (by exact pt_gt _ _ _))) ?_;refine aP 2 rfl (KK (KAK rfl) (show _ = Value.bool false from rfl)) ?_;refine aM 3 ?_;refine aK 4 ?_;refine aK 5 ?_;refine aK 6 ?_;refine aK 7 ?_;refine aK 8 ?_;refine aK 9 ?_;refine aK 10 ?_;refine aP 11 rfl (KV rfl rfl) ?_;refine aA 12 ?_;refine aE ?_;refine KM ?_;refine ⟨[_],.cons rfl .nil,fun a w' hr=>⟨?_,hr.fr.below⟩⟩
   rfl
  rw [hi]
  refine rD [] ?_;refine aP 0 rfl (KE (o':=18) u47 rfl rfl rfl sz_4 dc) ?_;refine aD 1 rfl (dL rfl (hv:=KJ u4 rfl (by exact pt_gt _ _ _))) ?_;refine aP 2 rfl (KK (KAK rfl) (show _ = Value.bool true from rfl)) ?_;refine aM 3 ?_;refine aGM 4 ?_;refine aGP 5 rfl (KE (o':=0) u47 rfl rfl rfl sz_33 dc) ?_;refine aGD 6 rfl (dL rfl (hv:=by exact Kv u33 rfl sz_33 rfl (KI _))) ?_;refine aGP 8 rfl (KE (o':=0) u37 rfl rfl rfl sz_33 dc) ?_;refine aGD 9 rfl (dL rfl (hv:=by exact Kv u33 rfl sz_33 rfl (KI _))) ?_;refine aGO 7 rfl (cF rfl en_41 rfl (fun w hw=>c_eRest V b f hok _ (Nat.lt_trans (xv_lt _) hpW) w (mC hw)) ?_);refine aGP 10 rfl (KK (Det.eqa (by kernel_rfl) (fun w=>eq_nat (xv Pr0%V.n) R (Nat.lt_trans (Nat.mod_lt _ hnp) hnW) hR 10000 dc w) rfl rfl) rfl) ?_;refine aP 11 rfl (Kj rfl rfl) ?_;refine aA 12 ?_;refine aE ?_
  refine KM ?_;refine ⟨[_],.cons rfl .nil,fun a w' hr=>⟨?_,hr.fr.below⟩⟩
  rfl
open Classical in
open Grp
theorem bext {a b:ByteArray} (h:a.data.toList = b.data.toList):a = b:=by
  cases a; cases b; congr 1; exact Array.toList_inj.1 h
theorem bsz (a:ByteArray):a.data.toList.length = a.size:=Array.length_toList
theorem ext_l (s:ByteArray) (i j:Nat):(s.extract i j).data.toList = (s.data.toList.take j).drop i:=ext_data s i j
theorem ver_ok {V : Cv} (hok : V.Ok) {z D x : Nat} (hx : sgK V x) (ho : sgO V z D x) {Q : Pt V.p} (hQ : pmul V.A V.G D = Q) :
    verE V (dualP V (z*invM (sgS V z D x) V.n%V.n) (sgR V x*invM (sgS V z D x) V.n%V.n) Q) (sgR V x) = true:=by
  subst hQ
  have hn:=hok.order
  have hnp:0<V.n:=by have:=hn.1; omega
  have hS:sgS V z D x<V.n:=Nat.mod_lt _ hnp
  obtain ⟨hw1,hw2⟩:=invM_mul hn ho.2 hS
  obtain ⟨hi1,hi2⟩:=invM_mul hn hx.1 hx.2
  obtain ⟨w,hw⟩:∃ w,invM (sgS V z D x) V.n = w:=⟨_,rfl⟩
  obtain ⟨R,hR⟩:∃ R,sgR V x = R:=⟨_,rfl⟩
  have key:(z*w+R*w*D)%V.n = x%V.n:=by
    have e1:sgS V z D x*x%V.n = (z+R*D)%V.n:=by
      unfold sgS
      rw [hR,Nat.mod_mul_mod,Nat.add_mod_mod]
      have:(z+R*D)%V.n*invM x V.n*x%V.n = (z+R*D)*(x*invM x V.n)%V.n:=by
        rw [Nat.mul_assoc,Nat.mod_mul_mod,Nat.mul_comm (invM x V.n)]
      rw [this,Nat.mul_mod,hi2,Nat.mul_one,Nat.mod_mod]
    rw [hw] at hw2
    have e2:(z*w+R*w*D)%V.n = (z+R*D)*w%V.n:=by congr 1; rw [Nat.add_mul]; congr 1; ac_rfl
    rw [e2,← Nat.mod_mul_mod,← e1,Nat.mod_mul_mod]
    have e3:sgS V z D x*x*w = sgS V z D x*w*x:=by ac_rfl
    rw [e3,Nat.mul_mod,hw2,Nat.one_mul,Nat.mod_mod]
  have hP:dualP V (z*w%V.n) (R*w%V.n) (pmul V.A V.G D) = pmul V.A V.G x:=by
    have hon:=hok.on
    have hQ:=hok.mul hon D
    have hordQ:pmul V.A (pmul V.A V.G D) V.n = .inf:=by
      rw [← pmul_mul hok.crv hon,Nat.mul_comm,pmul_mul hok.crv hon,hok.ord]
      exact pmul_inf hok.fld (a:=V.A) (b:=V.B) D
    unfold dualP
    rw [← pmul_mod hok.crv hon hok.ord,← pmul_mod hok.crv hQ hordQ,← pmul_mul hok.crv hon,← pmul_add hok.crv hon,pmul_mod hok.crv hon hok.ord,Nat.mul_comm D,key,← pmul_mod hok.crv hon hok.ord]
  rw [hw,hR,hP]
  have hr:xv (pmul V.A V.G x)%V.n = R:=hR
  have hr0:R≠0:=hR ▸ ho.1
  unfold verE
  cases hp:pmul V.A V.G x with
  | inf =>
    rw [hp] at hr
    exact absurd (hr.symm.trans (Nat.zero_mod _)) hr0
  | aff a b =>
    rw [hp] at hr
    simp only [iv,Bool.not_false,Bool.true_and,decide_eq_true_eq]
    exact hr
theorem sgE_zero {V:Cv} {dk z D:Nat} {R T q2:Nat} {K2 U2:ByteArray} {n2:Nat}:∀ (q i:Nat) (K U:ByteArray) (n:Nat),sgE V dk z D q i K U n = ((R,T,q2,0),K2,U2,n2)→∃ x,sgK V x∧sgO V z D x∧R = sgR V x∧T = sgS V z D x
  | 0,i,K,U,n,h=>by
    have:(2604:Nat) = 0:=congrArg (fun x=>x.1.2.2.2) h
    omega
  | q+1,i,K,U,n,h=>by
    unfold sgE at h
    split at h
    · have:(2603:Nat) = 0:=congrArg (fun x=>x.1.2.2.2) h
      omega
    · split at h
      · next hx =>
        simp only [Prod.mk.injEq] at h
        exact ⟨_,hx.1,hx.2,h.1.1.symm,h.1.2.1.symm⟩
      · exact sgE_zero q _ _ _ _ h
theorem sgE_err {V:Cv} {dk z D:Nat}:∀ (q i:Nat) (K U:ByteArray) (n:Nat),(sgE V dk z D q i K U n).1.2.2.2 = 0∨(sgE V dk z D q i K U n).1.2.2.2 = 2603∨(sgE V dk z D q i K U n).1.2.2.2 = 2604
  | 0,i,K,U,n=>.inr (.inr rfl)
  | q+1,i,K,U,n=>by
    unfold sgE
    split
    · exact .inr (.inl rfl)
    · split
      · exact .inl rfl
      · exact sgE_err q _ _ _ _
open Grp
theorem c_affMulR (id:Int) (V:Cv) (K:Nat) (P R:Pt V.p) (w:World) (h:cvI id = some V) (hP:On V.A V.B P) (hK:K<W9) (hR:pmul V.A P K = R):Calls Tryz.prog 30 ([.int .i64 id,natV K,ptP P]:List Value).toArray w (fun e w'=>e = .returned (.tuple #[ptP R,.int .i64 ((0:Nat):Int)])∧Below w.heap.size w w'):=hR ▸ c_affMul id V K P w h hP hK
theorem c_awakeT  (w:World)  : Calls Tryz.prog 9 ([]:List Value).toArray w (fun e w'=>e = .returned (.bool true)∧Below w.heap.size w w'):=by
  obtain ⟨V,hV⟩:∃ V,V = cv13:=⟨_,rfl⟩
  have h:cvI 13 = some V:=by rw [hV]; rfl
  obtain ⟨hok,hid⟩:=cvI_ok h
  have hn13:V.n = 223:=by rw [hV]; rfl
  obtain ⟨hb5,hb521,hba,hbb,hbx,hby,hbn,hbo,hbo2,hbb1,hbn1⟩:=hok.bounds
  have hsz:=hok.sz
  have hsp:=hsz.p
  have hsa:=hsz.a
  have hsb:=hsz.b
  have hp0:V.p≠0:=by omega
  have hpp:0<V.p:=by omega
  have hm17:∀ k,D.nw (k%V.p)≤17:=fun k=>Nat.le_trans (D.nw_mono (Nat.le_of_lt (Nat.mod_lt k hpp))) hsp
  have hnW:V.n<W9:=KAE hbn
  refine KX (N:=53) (rs:=[.tmp 0]) [] Tryz.func9 rfl Tryz.ntmps9 Tryz.results9 (Nb rfl) trivial rfl ?_
  refine KB (KA (oA (KC (KB (KA ?_)))));refine oS (cF rfl en_22 rfl (fun w hw=>c_curveGet 13 V w h) ?_);refine oM ?_;refine oP (Det.extract rfl rfl) ?_;refine oP (Det.extract rfl rfl) ?_;refine oS (mk (KL zr_53) (fun b1=>?_));refine LOps.step rfl (sA rfl rfl sz_53 (by first|exact acL_one _|exact acC_one _ _ _ _ _ _ _ _ _ _ _) (hl:=by first|exact acL_length _|exact acC_length _ _ _ _ _ _ _ _ _ _ _) (h:=?_));refine oA (KC (KB (KA ?_)));refine oP (KE (o':=28) u53 rfl rfl rfl sz_33 dc) ?_;refine oD (dL rfl (hv:=by exact ac_ld_n _ _ _ _ _ _ _ _ _ _ _ _ _ _)) ?_;refine oP (KE (o':=37) u53 rfl rfl rfl sz_47 dc) ?_;refine oD (Det.cast (dL rfl (hv:=by exact ac_ld_g _ _ _ _ _ _ _ _ _ _ _ _ _ _)) (g_val hok)) ?_;refine oS (cF rfl en_30 rfl (fun w hw=>c_affMulR 13 V V.n V.G .inf w h hok.on hnW hok.ord) ?_);refine oM ?_;refine oP (Det.extract rfl rfl) ?_;refine oP (Det.extract rfl rfl) ?_
  refine oS (mk (KL zr_47) (fun b3=>?_));refine LOps.step rfl (sA rfl rfl sz_47 (by exact KAD _ _ _) (hl:=by exact KW _ _ _) (h:=?_));refine oA (KC (KB (KA ?_)));refine oS (cF rfl en_23 rfl (fun w hw=>c_One 1 w dc) ?_);refine oS (cF rfl en_24 rfl (fun w hw=>c_bMulN 13 V 1 V.G w h om (pmul_one hok.fld hok.on)) ?_);refine oM ?_;refine oP (Det.extract rfl rfl) ?_;refine oP (Det.extract rfl rfl) ?_;refine oS (mk (KL zr_47) (fun b5=>?_));refine LOps.step rfl (sA rfl rfl sz_47 (by exact KAD _ _ _) (hl:=by exact KW _ _ _) (h:=?_));refine oA (KC (KB (KA (oM ?_))));refine oS (cF rfl en_13 rfl (fun w hw=>c_Num _ w) ?_);refine oP (KF (v:=.bool true) rfl rfl (br_t (Kz (b:=0)) (by first|rfl|assumption|omega|(simp; done)))) ?_;refine oM ?_;refine oGM ?_;refine oGS (cF rfl en_13 rfl (fun w hw=>c_Num _ w) ?_);refine oGP (KF (v:=.bool true) rfl rfl (br_t (Kz (b:=0)) (by first|rfl|assumption|omega|(simp; done)))) ?_
  refine oP (Kj rfl rfl) ?_;refine oM ?_;refine oGP (KE (o':=18) u47 rfl rfl rfl sz_4 dc) ?_;refine KAA rfl rfl (dL rfl (hv:=KJ u4 rfl (by exact pt_gt _ _ _))) (Nb rfl) ?_;refine oP (Kj rfl rfl) ?_;refine oM ?_;refine oGM ?_;refine oGS (cF rfl en_13 rfl (fun w hw=>c_Num _ w) ?_);refine oGP (KF (v:=.bool true) rfl rfl (br_t (Kz (b:=0)) (by first|rfl|assumption|omega|(simp; done)))) ?_;refine oP (Det.pick rfl rfl rfl) ?_;refine oM ?_;refine KAA rfl rfl dNb (Nb rfl) ?_;refine oGP (KE (o':=37) u53 rfl rfl rfl sz_47 dc) ?_;refine KAA rfl rfl (Det.cast (dL rfl (hv:=by exact ac_ld_g _ _ _ _ _ _ _ _ _ _ _ _ _ _)) (g_val hok)) (Nb rfl) ?_;refine oGP (KK (Det.eqa (by kernel_rfl) (fun w=>eq_ptP_t hok (P:=V.G) (Q:=V.G) (rfl) 10000 dc w) rfl rfl) (show _ = Value.bool true by rfl)) ?_;refine oP (Det.pick rfl rfl rfl) ?_
  refine oM ?_;refine oGP (KE (o':=37) u53 rfl rfl rfl sz_47 dc) ?_;refine oGP (KE (o':=55) u47 rfl rfl rfl sz_4 dc) ?_;refine KAA rfl rfl (dL rfl (hv:=KJ u4 rfl (by exact ac_gt_inf _ _ _ _ _ _ _ _ _ _ _))) (Nb rfl) ?_;refine oGP (KAK rfl) ?_;refine oP (Det.pick rfl rfl rfl) ?_;refine oA (KC (KM ?_));refine ⟨[_],.cons rfl .nil,fun a w' hr=>⟨?_,hr.fr.below⟩⟩
  rfl
theorem pmul_affT {V:Cv} (hok:V.Ok) {k:Nat} (h0:k≠0) (hn:k<V.n):∃ x y,pmul V.A V.G k = .aff x y:=by
  cases h:pmul V.A V.G k with
  | inf =>
    have:=pmul_order hok.crv hok.on hok.order (fun e=>by unfold Cv.G at e; cases e) hok.ord h
    exact absurd (Nat.le_of_dvd (Nat.pos_of_ne_zero h0) this) om
  | aff x y=>exact ⟨x,y,rfl⟩
theorem c_eVerT (v:Bool) (id:Int) (V:Cv) (k:Nat) (hk:k = 1∨k = 2∨k = 3∨k = 4) (msg:ByteArray) (hmsg:msg.size≤140737488351232) (x y:Fin V.p) (hQ:On V.A V.B (.aff x y)) (R T:Nat) (w:World) (h:cvI id = some V) (h2:sgK V R) (h3:sgK V T) (hv:verE V (dualP V (digE V k msg*invM T V.n%V.n) (R*invM T V.n%V.n) (.aff x y)) R = v):Calls Tryz.prog 21 ([.int .i64 id,.int .i64 ((k:Nat):Int),ptP (.aff x y:Pt V.p),.string msg,sgV R T]:List Value).toArray w (fun e w'=>e = .returned (.bool v)∧Below w.heap.size w w') :=
  hv ▸ c_eVer id V k hk msg hmsg x y hQ R T w h h2 h3
open Grp
theorem cvI_big (x:Int):∃ V,cvI ((1+uidx x%15:Nat):Int) = some V∧201≤V.n:=by
  obtain ⟨k,hk⟩:∃ k,uidx x%15 = k:=⟨_,rfl⟩
  have h:k<15:=hk ▸ Nat.mod_lt _ dc
  rw [hk]
  rcases (show k = 0∨k = 1∨k = 2∨k = 3∨k = 4∨k = 5∨k = 6∨k = 7∨k = 8∨k = 9∨k = 10∨k = 11∨k = 12∨k = 13∨k = 14 by omega) with rfl|rfl|rfl|rfl|rfl|rfl|rfl|rfl|rfl|rfl|rfl|rfl|rfl|rfl|rfl
  · exact ⟨cv1,rfl,Nb rfl⟩
  · exact ⟨cv2,rfl,Nb rfl⟩
  · exact ⟨cv3,rfl,Nb rfl⟩
  · exact ⟨cv4,rfl,Nb rfl⟩
  · exact ⟨cv5,rfl,Nb rfl⟩
  · exact ⟨cv6,rfl,Nb rfl⟩
  · exact ⟨cv7,rfl,Nb rfl⟩
  · exact ⟨cv8,rfl,Nb rfl⟩
  · exact ⟨cv9,rfl,Nb rfl⟩
  · exact ⟨cv10,rfl,Nb rfl⟩
  · exact ⟨cv11,rfl,Nb rfl⟩
  · exact ⟨cv12,rfl,Nb rfl⟩
  · exact ⟨cv13,rfl,Nb rfl⟩
  · exact ⟨cv14,rfl,Nb rfl⟩
  · exact ⟨cv15,rfl,Nb rfl⟩
theorem putS_tail (V:Cv) (X Y:Nat):(putS V X Y true).extract 1 (putS V X Y true).size = coB V X:=bext (by rw [ext_l,← bsz (putS V X Y true),List.take_length,putS_s,coB_l]; rfl)
theorem putS_sz (V:Cv) (X Y:Nat):(putS V X Y true).size = 1+nby V.p:=by rw [← bsz,putS_s,List.length_cons,beBytes_length,Nat.add_comm]
theorem same_on (s:ByteArray):(s.toList == s.toList) = true:=by simp
theorem c_TopCurves (id:Int) (k:Nat) (msg:ByteArray) (hk64:k<18446744073709551616) (hmsg:msg.size≤140737488351232) (w:World)  : Calls Tryz.prog 4 ([.int .i64 id,.int .u64 ((k:Nat):Int),.string msg]:List Value).toArray w (fun e w'=>e = .returned (.bool true)∧Below w.heap.size w w'):=by
  refine KX (N:=141) (rs:=[.tmp 6]) [] Tryz.func4 rfl Tryz.ntmps4 Tryz.results4 (Nb rfl) trivial rfl ?_
  refine KB (KA (oA (KC (KB (KB (KA ?_))))));refine oS (cF rfl en_9 rfl (fun w hw=>c_awakeT w) ?_);refine oP (KK (KAK rfl) (show _ = Value.bool false from rfl)) ?_;refine KC ?_;refine KH rfl ?_;refine KN (KB ?_)
  obtain ⟨V,h,hbig⟩:=cvI_big id
  obtain ⟨hok,hid⟩:=cvI_ok h
  have h2:=cvI_id h
  have hpW:V.p<W9:=KAE hok.bounds.2.1
  have hnW:V.n<W9:=KAE hok.bounds.2.2.2.2.2.2.1
  have hnp:=nbp_72 hok
  refine KA (oM ?_);refine oP (KK (Det.conv u3 u56 rfl) (uidx_eq id)) ?_;refine oP (KK (KF rfl rfl (br_rem64 (b:=15) dc)) (show _ = Value.int .u64 ((uidx id%15:Nat):Int) from rfl)) ?_;refine oP (Det.convi u56 u3 rfl om) ?_;refine oP (KF rfl rfl (Ko (a:=1) om)) ?_;refine oS (cF rfl en_22 rfl (fun w hw=>c_curveGet _ V w h) ?_);refine oM ?_;refine oP (Det.extract rfl rfl) ?_;refine oP (Det.extract rfl rfl) ?_;refine oS (mk (KL zr_53) (fun b7=>?_));refine LOps.step rfl (sA rfl rfl sz_53 (by first|exact acL_one _|exact acC_one _ _ _ _ _ _ _ _ _ _ _) (hl:=by first|exact acL_length _|exact acC_length _ _ _ _ _ _ _ _ _ _ _) (h:=?_));refine oA (KC (KB (KA ?_)));refine LOps.step rfl (Km (first:=[]) (caps:=[]) (X:=[]) (RO:=[]) rfl en_11 rfl (Nb rfl) sR wK (fun w hH hd=>c_dNew 2 dc (⟨#[48,49,50,51,52,53,54,55,56,57,97,98,99,100,101,102,48,49,50,51,52,53,54,55,56,57,97,98,99,100,101,102]⟩:ByteArray) ⟨#[]⟩ ⟨#[]⟩ dc dc dc dc w hH hd) ?_)
  rintro _ _ ⟨dd,rfl,rfl⟩
  obtain ⟨Z,hZ⟩:∃ Z,upd 2 ((⟨#[48,49,50,51,52,53,54,55,56,57,97,98,99,100,101,102,48,49,50,51,52,53,54,55,56,57,97,98,99,100,101,102]⟩:ByteArray)++⟨#[]⟩++⟨#[]⟩) (toS (List.replicate (hsize 2) 0),toS (List.replicate (hsize 2) 1)) = Z:=⟨_,rfl⟩
  rw [hZ]
  have hZs:Z.1.size≤64∧Z.2.size≤64:=hZ ▸ upd_size (k:=2) dc _ (by rw [toS_size,List.length_replicate]; decide) (by rw [toS_size,List.length_replicate]; decide)
  refine oM ?_;refine oP (Det.extract rfl rfl) ?_;refine oP (Det.extract rfl rfl) ?_;refine oA (oA (KC (KB (KB (KA (oM ?_))))));refine oS (cF rfl en_13 rfl (fun w hw=>c_Num _ w) ?_);refine oP (KF (v:=.bool false) rfl rfl (br_f (br_neq (b:=0)) (by first|exact (fun e=>e rfl)|(simp; done)|omega))) ?_;refine oM ?_;refine oGM ?_;refine oGS (cF rfl en_13 rfl (fun w hw=>c_Num _ w) ?_);refine oGP (KF (v:=.bool false) rfl rfl (br_f (br_neq (b:=0)) (by first|exact (fun e=>e rfl)|(simp; done)|omega))) ?_;refine oP (KV rfl rfl) ?_;refine KC ?_;refine KH rfl ?_;refine KN (KB ?_)
  have hk0:(1+k%200)≠0:=by omega
  have hkn:(1+k%200)<V.n:=by have:=Nat.mod_lt k (show 0<200 by decide); omega
  obtain ⟨qx,qy,hq⟩:=pmul_affT hok hk0 hkn
  have hQ:On V.A V.B (.aff qx qy):=hq ▸ hok.mul hok.on _
  have hgo:=aff_on (x:=(c V.p V.x)) (y:=(c V.p V.y)) hok.on
  have hgx:(c V.p V.x).val<W9:=Nat.lt_trans (c V.p V.x).isLt hpW
  have hgy:(c V.p V.y).val<W9:=Nat.lt_trans (c V.p V.y).isLt hpW
  obtain ⟨f1,f2⟩:=pStr_on true hgo
  obtain ⟨f3,f4⟩:=pStr_on true (aff_on hQ)
  have hsh:coB V (xv (pmul V.A (.aff (c V.p V.x) (c V.p V.y):Pt V.p) (1+k%200))) = coB V qx.val:=by rw [show (.aff (c V.p V.x) (c V.p V.y):Pt V.p) = V.G from rfl,hq]; rfl
  refine KA (oM ?_);refine oP (KK (KF rfl rfl (br_rem64 (b:=200) dc)) (show _ = .int .u64 ((k%200:Nat):Int) from rfl)) ?_;refine oP (KK (KF rfl rfl (KAX (a:=1))) (vi (b:=1+k%200) om)) ?_;refine oS (cF rfl en_23 rfl (fun w hw=>c_One (1+k%200) w om) ?_);refine oS (mk (KL zr_33) (fun b11=>?_));refine LOps.step rfl (sA rfl rfl sz_33 (by exact KAB _) (hl:=by exact KI _) (h:=?_));refine KC (KB (KA ?_));refine oP (KE (o':=0) u53 rfl rfl rfl sz_3 dc) ?_;refine oD (dL rfl (hv:=KJ u3 rfl (by exact ac_gt_id _ _ _ _ _ _ _ _ _ _ _))) ?_;refine oD dNa ?_;refine oS (cF rfl en_24 rfl (fun w hw=>c_bMulN V.id V (1+k%200) (.aff qx qy) w h2 hkn hq) ?_);refine oM ?_;refine oP (Det.extract rfl rfl) ?_;refine oP (Det.extract rfl rfl) ?_;refine oS (mk (KL zr_47) (fun b12=>?_));refine LOps.step rfl (sA rfl rfl sz_47 (by exact KAD _ _ _) (hl:=by exact KW _ _ _) (h:=?_))
  refine oA (KC (KB ?_))
  obtain ⟨⟨⟨R,T,T2,E2⟩,K3,U3,n3⟩,hs⟩:∃ Q,sgE V 2 (digE V 2 msg) (1+k%200) 64 0 Z.1 Z.2 1 = Q:=⟨_,rfl⟩
  have hse:E2 = 0∨E2 = 2603∨E2 = 2604:=by have:=sgE_err (V:=V) (dk:=2) (z:=digE V 2 msg) (D:=(1+k%200)) 64 0 Z.1 Z.2 1; rw [hs] at this; exact this
  refine LCode.sub (Sub.add (x:=trI none none []) (fun w=>trI_nil _ _) rfl) ?_;refine KA ?_;refine oP (KE (o':=0) u53 rfl rfl rfl sz_3 dc) ?_;refine oD (dL rfl (hv:=KJ u3 rfl (by exact ac_gt_id _ _ _ _ _ _ _ _ _ _ _))) ?_;refine oD dNa ?_;refine oM (oM ?_);refine LOps.step rfl (LStepW.callM2 (first:=[]) (caps:=[]) (X:=[.blk dd ⟨true,gnL 2 Z.1 Z.2 (1),79,(0,0)⟩,trI none none []]) (RO:=[]) rfl en_15 rfl (Nb rfl) sR wK (fun w hH hd=>c_eSign none none [] V.id V (1+k%200) ⟨hk0,hkn⟩ 2 dc msg hmsg 2 dc dd 1 Z.1 Z.2 hZs.1 hZs.2 R T T2 E2 K3 U3 n3 w hH hd h2 hs dc) ?_)
  rintro _ _ _ ⟨rfl,rfl,tr2,l2,rfl,hl2⟩
  refine oM ?_;refine oP (Det.extract rfl rfl) ?_;refine oP (Det.extract rfl rfl) ?_;refine oP (Det.extract rfl rfl) ?_;refine oS (mk (KL zr_37) (fun b14=>?_));refine LOps.step rfl (sA rfl rfl sz_37 (by exact sgL_one _ _) (hl:=by exact sgL_length _ _) (h:=?_));refine oA (oA (KC (KB (KA ?_))));refine oP (KE (o':=0) u53 rfl rfl rfl sz_3 dc) ?_;refine oD (dL rfl (hv:=KJ u3 rfl (by exact ac_gt_id _ _ _ _ _ _ _ _ _ _ _))) ?_;refine oP (KE (o':=37) u53 rfl rfl rfl sz_47 dc) ?_;refine oD (Det.cast (dL rfl (hv:=by exact ac_ld_g _ _ _ _ _ _ _ _ _ _ _ _ _ _)) (g_val hok)) ?_;refine oS (cF rfl en_25 rfl (fun w hw=>c_s_PutE (putS V (c V.p V.x).val (c V.p V.y).val true) 0 V.id V (c V.p V.x).val (c V.p V.y).val false true w h2 hgx hgy f1 f2) ?_);refine oM ?_;refine oP (Det.extract rfl rfl) ?_;refine oP (Det.extract rfl rfl) ?_;refine oA (oA (KC (KB (KA ?_))));refine oP (KE (o':=0) u53 rfl rfl rfl sz_3 dc) ?_
  refine oD (dL rfl (hv:=KJ u3 rfl (by exact ac_gt_id _ _ _ _ _ _ _ _ _ _ _))) ?_;refine oD dNa ?_;refine oM ?_;refine oS (cF rfl en_26 rfl (fun w hw=>c_eSharedN (coB V qx.val) V.id V (1+k%200) (putS V (c V.p V.x).val (c V.p V.y).val true) (c V.p V.x) (c V.p V.y) w h2 hk0 hkn (putS_size hnp _ _ _) (get_put hok _ hgo) hok.on hsh) ?_);refine oM ?_;refine oP (Det.extract rfl rfl) ?_;refine oP (Det.extract rfl rfl) ?_;refine oA (oA (KC (KB (KA ?_))));refine oP (KE (o':=0) u53 rfl rfl rfl sz_3 dc) ?_;refine oD (dL rfl (hv:=KJ u3 rfl (by exact ac_gt_id _ _ _ _ _ _ _ _ _ _ _))) ?_;refine oD dNb ?_;refine oS (cF rfl en_25 rfl (fun w hw=>c_s_PutE (putS V qx.val qy.val true) 0 V.id V qx.val qy.val false true w h2 (Nat.lt_trans qx.isLt hpW) (Nat.lt_trans qy.isLt hpW) f3 f4) ?_)
  refine oM ?_;refine oP (Det.extract rfl rfl) ?_;refine oP (Det.extract rfl rfl) ?_;refine oA (oA (KC (KB (KB ?_))))
  rcases hse with rfl|rfl|rfl
  ·
   refine KA (oM ?_);refine oS (cF rfl en_13 rfl (fun w hw=>c_Num _ w) ?_);refine oP (KF (v:=.bool false) rfl rfl (br_f (br_neq (b:=0)) dc)) ?_;refine KC ?_;refine KH rfl ?_;refine KN (KB ?_)
   obtain ⟨x0,hx0,ho0,hRe,hTe⟩:=sgE_zero _ _ _ _ _ hs
   have hnp0:0<V.n:=by omega
   have hR:sgK V R:=⟨hRe ▸ ho0.1,hRe ▸ Nat.mod_lt _ hnp0⟩
   have hT:sgK V T:=⟨hTe ▸ ho0.2,hTe ▸ Nat.mod_lt _ hnp0⟩
   have hv:verE V (dualP V (digE V 2 msg*invM T V.n%V.n) (R*invM T V.n%V.n) (.aff qx qy)) R = true:=by have:=ver_ok hok hx0 ho0 hq; rw [← hTe,← hRe] at this; exact this
   refine KA (oM ?_);refine oS (cF rfl en_13 rfl (fun w hw=>c_Num _ w) ?_);refine oP (KF (v:=.bool true) rfl rfl (br_t (Kz (b:=0)) dc)) ?_;refine oM ?_;refine oGM ?_;refine oGS (cF rfl en_13 rfl (fun w hw=>c_Num _ w) ?_);refine oGP (KF (v:=.bool true) rfl rfl (br_t (Kz (b:=0)) dc)) ?_;refine oP (Kj rfl rfl) ?_;refine oM ?_;refine oGM ?_;refine oGS (cF rfl en_13 rfl (fun w hw=>c_Num _ w) ?_);refine oGP (KF (v:=.bool true) rfl rfl (br_t (Kz (b:=0)) dc)) ?_;refine oP (Kj rfl rfl) ?_;refine oM ?_;refine oGM ?_;refine oGS (cF rfl en_13 rfl (fun w hw=>c_Num _ w) ?_);refine oGP (KF (v:=.bool true) rfl rfl (br_t (Kz (b:=0)) dc)) ?_;refine oP (Kj rfl rfl) ?_;refine oM ?_;refine oGP (KE (o':=0) u53 rfl rfl rfl sz_3 dc) ?_;refine KAA rfl rfl (dL rfl (hv:=KJ u3 rfl (by exact ac_gt_id _ _ _ _ _ _ _ _ _ _ _))) (Nb rfl) ?_;refine KAA rfl rfl dNb (Nb rfl) ?_
   refine oGM ?_;refine KAA rfl rfl (dL rfl (hv:=by exact KD u37 rfl sz_37)) (Nb rfl) ?_;refine oGS (cF rfl en_21 rfl (fun w hw=>c_eVerT true V.id V 2 dc msg hmsg qx qy hQ R T w h2 hR hT hv) ?_);refine oP (Kj rfl rfl) ?_;refine oM ?_;refine oGM ?_;refine oGP (KAZ u9 rfl) ?_;refine oGP (KE (o':=57) u53 rfl rfl rfl sz_3 dc) ?_;refine KAA rfl rfl (dL rfl (hv:=KJ u3 rfl (by exact ac_gt_size _ _ _ _ _ _ _ _ _ _ _))) (Nb rfl) ?_;refine oGP (KF rfl rfl (Ko (a:=1) om)) ?_;refine oGP (KF (v:=.bool true) rfl rfl (br_t Kz (by rw [putS_sz]))) ?_;refine oP (Kj rfl rfl) ?_;refine oM ?_;refine oGM ?_;refine oGP (KK (Det.slStrL u9 rfl rfl dc (by rw [putS_sz]; omega)) (show _ = Value.string (coB V qx.val) from congrArg Value.string (putS_tail V qx.val qy.val))) ?_;refine oGM ?_;refine oGP (KK (Det.eqs rfl rfl) (show _ = Value.bool true by rw [same_on])) ?_
   refine oP (Kj rfl rfl) ?_;refine oA (KC (KM ?_));refine ⟨[_],.cons rfl .nil,fun a w' hr=>⟨?_,hr.fr.below⟩⟩
   rfl
  ·
   refine KA (oM ?_);refine oS (cF rfl en_13 rfl (fun w hw=>c_Num _ w) ?_);refine oP (KF (v:=.bool true) rfl rfl (br_t (br_neq (b:=0)) dc)) ?_;refine KC ?_;refine KT rfl ?_;refine KB (KA (oM ?_));refine oS (cF rfl en_13 rfl (fun w hw=>c_Num _ w) ?_);refine oP (KF (v:=.bool false) rfl rfl (br_f (Kz (b:=2604)) dc)) ?_;refine oM ?_;refine oGM ?_;refine oGS (cF rfl en_13 rfl (fun w hw=>c_Num _ w) ?_);refine oGP (KF (v:=.bool true) rfl rfl (br_t (Kz (b:=2603)) dc)) ?_;refine oP (KV rfl rfl) ?_;refine oA (KC (KM ?_));refine ⟨[_],.cons rfl .nil,fun a w' hr=>⟨?_,hr.fr.below⟩⟩
   rfl
  refine KA (oM ?_);refine oS (cF rfl en_13 rfl (fun w hw=>c_Num _ w) ?_);refine oP (KF (v:=.bool true) rfl rfl (br_t (br_neq (b:=0)) dc)) ?_;refine KC ?_;refine KT rfl ?_;refine KB (KA (oM ?_));refine oS (cF rfl en_13 rfl (fun w hw=>c_Num _ w) ?_);refine oP (KF (v:=.bool true) rfl rfl (br_t (Kz (b:=2604)) dc)) ?_;refine oM ?_;refine oK ?_;refine oK ?_;refine oK ?_;refine oP (Kj rfl rfl) ?_;refine oA (KC (KM ?_));refine ⟨[_],.cons rfl .nil,fun a w' hr=>⟨?_,hr.fr.below⟩⟩
  rfl
end Go.Proofs.YtnpeokiboiclfaaGreat
set_option maxRecDepth 100000
namespace Go.Proofs.YtnpeokiboiclfaaGreat
open Go
def ioChars:List Char:=([104,97,114,110,101,115,115,32,57,55,98,53,54,100,57,56,97,53,52,98,49,48,50,99,50,101,100,55,53,99,99,52,51,51,49,54,48,51,50,97,56,102,57,48,57,52,49,55,100,98,48,101,102,57,50,48,56,102,50,49,57,57,48,56,54,55,101,99,51,51,51,51,32,99,117,116,32,97,116,32,99,117,114,118,101,116,47,99,117,114,118,101,116,116,111,112,46,84,111,112,70,111,114,109,115,32,99,117,114,118,101,116,47,99,117,114,118,101,116,116,111,112,46,84,111,112,67,117,114,118,101,115,32,99,117,114,118,101,116,47,99,117,114,118,101,116,116,111,112,46,84,111,112,76,101,103,97,99,121,32,99,117,114,118,101,116,47,99,117,114,118,101,116,116,111,112,46,84,111,112,73,109,112,111,114,116,115,32,99,117,114,118,101,116,47,99,117,114,118,101,116,116,111,112,46,84,111,112,86,101,114,105,102,105,101,100,32,99,117,114,118,101,116,47,99,117,114,118,101,116,116,111,112,46,84,111,112,84,105,110,121]:List Nat).map Char.ofNat
theorem io_lit:Tryz.prog.initOrder = String.ofList ioChars:=by kernel_rfl
theorem io_list:Tryz.prog.initOrder.toList = ioChars:=by rw [io_lit,String.toList_ofList]
def cutW:List Char:=([99,117,116]:List Nat).map Char.ofNat
def ioRest:List (List Char):=(wordsSigns ioChars).drop 3
theorem io_words:behindMainWord (wordsSigns ioChars) = cutW :: ioRest:=by kernel_rfl
theorem io_strip (r:List (List Char)):stripLifts liftWords (cutW :: r) = ([],cutW :: r):=by kernel_rfl
theorem no_later:Tryz.prog.laysLater = false:=by kernel_rfl
theorem no_reflect:Tryz.prog.bearsReflect = false:=by kernel_rfl
theorem door_fits:Tryz.prog.doorFits [] = true:=by kernel_rfl
theorem and2 {a b:Bool} (h:a = true) (k:b = true):(a && b) = true:=by rw [h,k]; rfl
theorem or_right {a b:Bool} (h:b = true):(a || b) = true:=by rw [h]; cases a <;> rfl
theorem cut_is : (cutW == "cut".toList) = true := by kernel_rfl
theorem cut_gc : (cutW == "gc".toList) = false := by kernel_rfl
theorem cut_spec : (cutW == "spec".toList) = false := by kernel_rfl
theorem cut_carried : (cutW == "carried".toList) = false := by kernel_rfl
theorem head_carried (r : List (List Char)) : ((cutW :: r).head? == some "carried".toList) = false := cut_carried
theorem enter_of (P:Program) {r:List (List Char)} (h:behindMainWord (wordsSigns P.initOrder.toList) = cutW :: r) (h1:P.laysLater = false) (h2:P.bearsReflect = false) (h3:P.doorFits [] = true):P.mayEnter = true:=by
  unfold Program.mayEnter
  rw [h]
  dsimp only
  refine or_right (and2 (and2 (and2 (and2 ?_ ?_) ?_) ?_) ?_)
  · rw [io_strip]; exact cut_is
  · rw [io_strip,h1]; rfl
  · rw [io_strip,h2]; rfl
  · rw [io_strip]; rfl
  · rw [io_strip]; exact h3
theorem lifts_of (P:Program) {r:List (List Char)} (h:behindMainWord (wordsSigns P.initOrder.toList) = cutW :: r):(false == P.liftsFinal) = true:=by
  have hl:P.headLifts = []:=by
    unfold Program.headLifts
    rw [h,io_strip]
    simp only [ite_self]
  unfold Program.liftsFinal
  rw [h,hl]
  dsimp only
  rw [head_carried,Bool.false_and]
  rfl
theorem make_of (P:Program) {r:List (List Char)} (h:behindMainWord (wordsSigns P.initOrder.toList) = cutW :: r):(P.make == some .cut) = true:=by
  have:P.make = some .cut:=by
    unfold Program.make
    rw [h]
    dsimp only
    rw [if_neg (by rw [cut_gc,cut_spec]; exact fun h=>by cases h),if_pos (by rw [cut_is]; rfl)]
  rw [this]; rfl
theorem io_all:behindMainWord (wordsSigns Tryz.prog.initOrder.toList) = cutW :: ioRest:=by rw [io_list,io_words]
theorem fact_enter:Tryz.prog.mayEnter = true:=enter_of _ io_all no_later no_reflect door_fits
theorem fact_lifts:(false == Tryz.prog.liftsFinal) = true:=lifts_of _ io_all
theorem fact_make:(Tryz.prog.make == some .cut) = true:=make_of _ io_all
theorem fact_laid:laidOutB Tryz.prog = true:=by kernel_rfl
theorem fact_maps:mapsRowed Tryz.prog = true:=by kernel_rfl
theorem fact_heard:Tryz.prog.stopsHeard = true:=by kernel_rfl
end Go.Proofs.YtnpeokiboiclfaaGreat
