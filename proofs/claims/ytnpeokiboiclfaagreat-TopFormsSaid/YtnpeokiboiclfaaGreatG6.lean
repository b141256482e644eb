/- Part 6 of what the proof leans on: a symbolic execution of the model, walks of the program's functions, and the mathematics. No condition. -/
import Derived.WalkKit
import Derived.Orders
import Derived.Laws.StructEq
import Derived.WalkSpells
import Derived.OrdersHeld
import Derived.KernelRfl
import Derived.Laws.Externs
import Derived.Laws.Bits64
import Derived.Laws.MakeOwn
import Derived.Laws.BytesString
import Derived.Carry
import Derived.WideShapes
import GoSem.Claim
import Derived.Test.YtnpeokiboiclfaaGreatProg
import Derived.Laws.AppendOwn
import Derived.Deep.Upon
import Derived.Shelf.Strings.Repeat
import Derived.Ground.NamesProg
import Derived.Lib.Agree
import Derived.Lib.ConvBytes
import Derived.Laws.CopyRow
import Derived.Test.YtnpeokiboiclfaaGreatRows
import Derived.ProofKit
import Derived.OpenShut
import Derived.SizedLaws
import Derived.ChangeMaps5
import Derived.Test.YtnpeokiboiclfaaGreatG5
set_option linter.unusedVariables false
set_option linter.unusedSimpArgs false
set_option maxRecDepth 20000
namespace Go.Proofs.YtnpeokiboiclfaaGreat
open Go Go.RowKit
open Grp
theorem Cv.Ok.mt {V:Cv} (h:V.Ok):MtOk V.n (nw V.n) (mtL0 V.n):=by
  have cs:=h.cs
  simp only [Bool.and_eq_true] at cs
  have h1:=Nat.eq_of_beq_eq_true cs.1.1.1.2
  have h2:=Nb cs.1.2
  exact mtOk_of h1 om (w9_521 h.bounds.2.2.2.2.2.2.1)
theorem c_cKeyB (V:Cv) (b f X:Nat) (hok:V.Ok) (w:World) (hb:(Item.blk b ⟨false,opL V f,100,(0,0)⟩).holds w) (hX:X<W9):Calls Tryz.prog 38 ([.pointer (some ⟨b,0,none⟩),natV X]:List Value).toArray w (fun e w'=>e = .returned (.bool (decide (X≠0∧X<V.n)))∧Below w.heap.size w w'):=by
  have hnW:=hok.mt.lt9
  by_cases h0:X = 0
  · subst h0
    rw [decide_eq_false (fun h=>h.1 rfl)]
    exact c_cKeyZ V b f w hb
  · by_cases hn:X<V.n
    · rw [decide_eq_true ⟨h0,hn⟩]
      exact c_cKeyT V b f X w hb hX hnW h0 hn
    · rw [decide_eq_false (fun h=>hn h.2)]
      exact c_cKeyF V b f X w hb hX hnW h0 om
def digE (V:Cv) (k:Nat) (msg:ByteArray):Nat:=beVal (toS (hashL k (ofS msg))).data.toList/2^(8*hsize k-blen V.n)%V.n
def tryE (V:Cv) (s:ByteArray):Nat:=beVal s.data.toList/2^(8*nby V.n-blen V.n)
theorem c_eRest (V:Cv) (b f:Nat) (hok:V.Ok) (a:Nat) (ha:a<W9) (w:World) (hb:(Item.blk b ⟨false,opL V f,100,(0,0)⟩).holds w):Calls Tryz.prog 41 ([.pointer (some ⟨b,0,none⟩),natV a]:List Value).toArray w (fun e w'=>e = .returned (natV (a%V.n))∧Below w.heap.size w w'):=by
  have hmo:=hok.mt
  have hnW:=hmo.lt9
  have hn3:=hmo.three
  have hn0:V.n≠0:=by omega
  have hnp:0<V.n:=by omega
  refine KZ (N:=20) (rs:=[.cell 4 33]) [.blk b ⟨false,opL V f,100,(0,0)⟩] Tryz.func41 rfl Tryz.ntmps41 Tryz.results41 (Nb rfl) ⟨hb,trivial⟩ rfl ?_
  refine KB (KA ?_);refine oS (mB (fun b3=>?_));refine oS (mk (KM zr_33) (fun b4=>?_));refine KC (KB ?_);refine rD [13,14] ?_;refine aD 0 rfl dNa ?_;refine aM 1 ?_;refine aP 2 rfl (KG rfl) ?_;refine aP 3 rfl (KD (o':=0) u100 rfl rfl rfl sz_53 dc) ?_;refine aP 4 rfl (KD (o':=28) u53 rfl rfl rfl sz_33 dc) ?_;refine aD 5 rfl (dL rfl (hv:=by exact cvC_ld_n _ _ _ _ _ _ _ _ _ _ _ _ _ _ _ _)) ?_;refine LAny.toP ?_;refine Kv 11 rfl (.inl zr_33) (Nb rfl) rfl rfl rfl ?_;refine Kv 12 rfl (.inl zr_33) (Nb rfl) rfl rfl rfl ?_;refine LAnyP.step 6 rfl rfl rfl (Nb rfl) (by kernel_rfl) rfl (Km (first:=[]) rfl en_86 rfl (fun w hw=>c_Div a V.n hn0 w ha hnW)) ?_
  rintro _ _ ⟨rfl,rfl⟩
  refine pM 7 ?_;refine pP 8 rfl (Det.extract rfl rfl) ?_;refine pP 9 rfl (Det.extract rfl rfl) ?_;refine pP 10 rfl (Det.extract rfl rfl) ?_;refine pE (fun b6=>?_);refine pE (fun b5=>?_);refine KAG ?_;refine aL 13 rfl (sA rfl rfl sz_33 mO (hl:=mL) (h:=?_));refine aL 14 rfl (sA rfl rfl sz_33 mO (hl:=mL) (h:=?_));refine aA 15 ?_;refine aE ?_;refine KB (KA ?_);refine oD dNa ?_;refine LOps.step rfl (sA rfl rfl sz_33 mO (hl:=mL) (h:=?_));refine KC (KK ?_);refine ⟨[_],.cons ⟨_,_,_,rfl,mM,by exact KE u33 rfl sz_33⟩ .nil,fun a w' hr=>⟨?_,hr.fr.below⟩⟩
  rfl
theorem c_eDigest (V:Cv) (b f:Nat) (hok:V.Ok) (k:Nat) (hk:k = 1∨k = 2∨k = 3∨k = 4) (msg:ByteArray) (hmsg:msg.size≤140737488351232) (w:World) (hb:(Item.blk b ⟨false,opL V f,100,(0,0)⟩).holds w):Calls Tryz.prog 40 ([.pointer (some ⟨b,0,none⟩),.int .i64 ((k:Nat):Int),.string msg]:List Value).toArray w (fun e w'=>e = .returned (natV (digE V k msg))∧Below w.heap.size w w'):=by
  have hmo:=hok.mt
  have hnW:=hmo.lt9
  have hn3:=hmo.three
  have hn0:V.n≠0:=by omega
  have hnp:0<V.n:=by omega
  have hs8:=hsize_le hk
  have hbl:=blen_w9 hnW
  have hsz:(toS (hashL k (ofS msg))).size = hsize k:=by rw [KAS,hashL_length hk]
  have hbe:∀ s:ByteArray,s.size≤72→beVal s.data.toList<W9:=fun s hs=>beVal_w9 (by exact hs)
  refine KZ (N:=40) (rs:=[.cell 6 33]) [.blk b ⟨false,opL V f,100,(0,0)⟩] Tryz.func40 rfl Tryz.ntmps40 Tryz.results40 (Nb rfl) ⟨hb,trivial⟩ rfl ?_
  refine KB (KA ?_);refine oS (mk (KM zr_33) (fun b6=>?_));refine KC (KB (KA (oM (oM ?_))));refine oS (cF rfl en_85 rfl (fun w hw=>c_hOf k hk msg hmsg w) ?_);refine oM ?_;refine oP (Det.extract rfl rfl) ?_;refine oP (Det.extract rfl rfl) ?_;refine oA (oA (KC (KB (KA (oM ?_)))));refine oS (cF rfl en_49 rfl (fun w hw=>c_nat_OfOK _ w (by rw [hsz]; omega)) ?_);refine oM ?_;refine oP (Det.extract rfl rfl) ?_;refine oP (Det.extract rfl rfl) ?_;refine oS (mk (KM zr_33) (fun b9=>?_));refine LOps.step rfl (sA rfl rfl sz_33 mO (hl:=mL) (h:=?_));refine oA (KC (KB ?_));refine rD [15] ?_;refine aD 0 rfl dNa ?_;refine aM 1 ?_;refine aP 2 rfl (KL (KAU u9 rfl) (show _ = .int .i64 ((hsize k:Nat):Int) by rw [hsz])) ?_;refine aP 3 rfl (KF rfl rfl (br_mul (a:=8) om)) ?_;refine aM 4 ?_;refine aP 5 rfl (KG rfl) ?_;refine aP 6 rfl (KD (o':=0) u100 rfl rfl rfl sz_53 dc) ?_
  refine aP 7 rfl (KD (o':=56) u53 rfl rfl rfl sz_3 dc) ?_;refine aD 8 rfl (dL rfl (hv:=KI u3 rfl (by exact cvC_gt_bits _ _ _ _ _ _ _ _ _ _ _ _ _))) ?_;refine aP 9 rfl (KF rfl rfl (br_subI om om)) ?_;refine aP 10 rfl (KL (Det.max rfl rfl) (show _ = .int .i64 ((8*hsize k-blen V.n:Nat):Int) by congr 1; split <;> omega)) ?_;refine aO 11 rfl (cF rfl en_83 rfl (fun w hw=>c_nat_Shr _ _ (hbe _ (by rw [hsz]; omega)) om w) ?_);refine aM 12 ?_;refine aP 13 rfl (Det.extract rfl rfl) ?_;refine aP 14 rfl (Det.extract rfl rfl) ?_;refine aL 15 rfl (sA rfl rfl sz_33 mO (hl:=mL) (h:=?_));refine aE ?_;refine KB (KA (oM ?_));refine oD dNa ?_;refine oS (cF rfl en_41 rfl (fun w hw=>c_eRest V b f hok _ (shr_w9 (hbe _ (by rw [hsz]; omega))) w (mC hw)) ?_);refine LOps.step rfl (sA rfl rfl sz_33 mO (hl:=mL) (h:=?_));refine KC (KK ?_);refine ⟨[_],.cons ⟨_,_,_,rfl,mM,by exact KE u33 rfl sz_33⟩ .nil,fun a w' hr=>⟨?_,hr.fr.below⟩⟩
  rfl
theorem c_eOf (V:Cv) (b f:Nat) (hok:V.Ok) (w:World) (hH:∀ x,x∈([]++[.blk b ⟨false,opL V f,100,(0,0)⟩]:List Item)→x.holds w) (hd:([]++[.blk b ⟨false,opL V f,100,(0,0)⟩]:List Item).Pairwise Apart)  : Calls Tryz.prog 39 ([.pointer (some ⟨b,0,none⟩)]:List Value).toArray w (fun e w'=>∃ (u:Value) (x':Item),(∃ bm,u = .agg ([.pointer (some ⟨b,0,none⟩),.pointer (some ⟨bm,0,none⟩)]:List Value).toArray∧x' = .blk bm ⟨true,mtL V.n (nw V.n) (mtL0 V.n) (mtR (nw V.n)*mtR (nw V.n)%V.n),201,(0,0)⟩)∧e = .returned u∧Outcome w [] [x'] w'):=by
  have hmo:=hok.mt
  have hnW:=hmo.lt9
  have hn3:=hmo.three
  have hn0:V.n≠0:=by omega
  have hnp:0<V.n:=by omega
  refine KAO [.blk b ⟨false,opL V f,100,(0,0)⟩] (N:=17) (rs:=[.cell 2 90]) Tryz.func39 rfl Tryz.ntmps39 Tryz.results39 (Nb rfl) hH hd rfl rfl ?_
  refine KB (KA ?_);refine oS (mk (KM zr_90) (fun b2=>?_));refine KC (KB (KA (oM ?_)));refine oP (KG rfl) ?_;refine oP (KD (o':=0) u100 rfl rfl rfl sz_53 dc) ?_;refine oP (KD (o':=28) u53 rfl rfl rfl sz_33 dc) ?_;refine oD (dL rfl (hv:=by exact cvC_ld_n _ _ _ _ _ _ _ _ _ _ _ _ _ _ _ _)) ?_;refine LOps.step rfl (Ka (first:=[]) (caps:=[]) (X:=[]) (RO:=[]) rfl en_84 rfl (Nb rfl) sR wK (fun w hH hd=>c_mtNew V.n hmo.odd hmo.three hmo.lt9 w hH hd) ?_)
  rintro _ _ ⟨bm,rfl,rfl⟩
  refine oM ?_;refine oP (Det.extract rfl rfl) ?_;refine oP (Det.extract rfl rfl) ?_;refine oA (oA (KC (KB (KA (oM (oM ?_))))));refine oP (Kg pl_90 zr_90 rfl (fT (r':=([Value.pointer (some ⟨b,0,none⟩)]++([Value.pointer (some ⟨bm,0,none⟩)]))) (fS (A:=([]:List Value)) (B:=([Value.pointer none])) (D:=([Value.pointer none])) (cs:=[Value.pointer (some ⟨b,0,none⟩)]) (fS (A:=([Value.pointer (some ⟨b,0,none⟩)])) (B:=([Value.pointer none])) (D:=([]:List Value)) (cs:=[Value.pointer (some ⟨bm,0,none⟩)]) rfl)))) ?_;refine LOps.step rfl (sA rfl rfl sz_90 mO (hl:=mL) (h:=?_));refine KC (KK ?_);refine ⟨[_],.cons ⟨_,_,_,rfl,mM,by exact KE u90 rfl sz_90⟩ .nil,fun a w' hr=>⟨_,_,⟨bm,rfl,rfl⟩,rfl,hr.out mS rfl⟩⟩
theorem c_eMul (V:Cv) (b f bm:Nat) (hok:V.Ok) (a c:Nat) (ha:a<V.n) (hc:c<V.n) (w:World) (hb:(Item.blk b ⟨false,opL V f,100,(0,0)⟩).holds w) (hX:(Item.blk bm ⟨false,mtL V.n (nw V.n) (mtL0 V.n) (mtR (nw V.n)*mtR (nw V.n)%V.n),201,(0,0)⟩).holds w):Calls Tryz.prog 43 ([.agg ([.pointer (some ⟨b,0,none⟩),.pointer (some ⟨bm,0,none⟩)]:List Value).toArray,natV a,natV c]:List Value).toArray w (fun e w'=>e = .returned (natV (a*c%V.n))∧Below w.heap.size w w'):=by
  have hmo:=hok.mt
  have hnW:=hmo.lt9
  have hn3:=hmo.three
  have hn0:V.n≠0:=by omega
  have hnp:0<V.n:=by omega
  refine KZ (N:=31) (rs:=[.cell 6 33]) [.blk b ⟨false,opL V f,100,(0,0)⟩,.blk bm ⟨false,mtL V.n (nw V.n) (mtL0 V.n) (mtR (nw V.n)*mtR (nw V.n)%V.n),201,(0,0)⟩] Tryz.func43 rfl Tryz.ntmps43 Tryz.results43 (Nb rfl) ⟨hb,hX,trivial⟩ rfl ?_
  refine KB (KA ?_);refine oS (mB (fun b3=>?_));refine oS (mB (fun b4=>?_));refine oS (mB (fun b5=>?_));refine oS (mk (KM zr_33) (fun b6=>?_));refine KC (KB ?_);refine rD [] ?_;refine aP 0 rfl (KD (o':=1) u90 rfl rfl rfl sz_88 dc) ?_;refine aD 1 rfl (dL rfl (hv:=KI u88 rfl (by first|rfl|exact KU _ _ _ om|exact KX _ om|exact KY _ om|exact dv_m _ _ _ om))) ?_;refine aP 2 rfl (KAK rfl) ?_;refine aP 3 rfl (KD (o':=1) u90 rfl rfl rfl sz_88 dc) ?_;refine aD 4 rfl (dL rfl (hv:=KI u88 rfl (by first|rfl|exact KU _ _ _ om|exact KX _ om|exact KY _ om|exact dv_m _ _ _ om))) ?_;refine aP 5 rfl (KAK rfl) ?_;refine aA 6 ?_;refine aA 7 ?_;refine aE ?_;refine KB (KA (oM ?_));refine oD dNa ?_;refine oS (Kx (first:=[_]) rfl en_89 rfl (Nb rfl) (fun w hw=>c_mTo V.n (nw V.n) (mtL0 V.n) hmo bm a ha w (mC hw)) ?_)
  refine oM ?_;refine oP (Det.extract rfl rfl) ?_;refine oP (Det.extract rfl rfl) ?_;refine oS (mk (KM zr_33) (fun b9=>?_));refine LOps.step rfl (sA rfl rfl sz_33 mO (hl:=mL) (h:=?_));refine oA (KC (KB (KA (oM ?_))));refine oD dNa ?_;refine oD dNa ?_;refine oS (Kx (first:=[_]) rfl en_90 rfl (Nb rfl) (fun w hw=>c_mtMul V.n (nw V.n) (mtL0 V.n) hmo bm (a*mtR (nw V.n)%V.n) c (a*c%V.n) (Nat.mod_lt _ hnp) hc (Nat.mod_lt _ hnp) mt_mul w (mC hw)) ?_);refine oM ?_;refine oP (Det.extract rfl rfl) ?_;refine oP (Det.extract rfl rfl) ?_;refine LOps.step rfl (sA rfl rfl sz_33 mO (hl:=mL) (h:=?_));refine KC (KB (KA ?_));refine oD dNa ?_;refine LOps.step rfl (sA rfl rfl sz_33 mO (hl:=mL) (h:=?_));refine KC (KK ?_);refine ⟨[_],.cons ⟨_,_,_,rfl,mM,by exact KE u33 rfl sz_33⟩ .nil,fun a w' hr=>⟨?_,hr.fr.below⟩⟩
  rfl
theorem pt_x0 (X Y:Nat) (i:Bool):((ptL X Y i).drop 0).take 9 = natL X:=by
  rw [List.drop_zero]; unfold ptL; rw [List.take_left' (KH X)]
theorem mt_inv_y {m n a v:Nat} (hm:m%2 = 1) (h3:3≤m) (h:a*v%m = 1):∃ y,y<m∧(a*mtR n%m)*y%m = 1∧v*mtR n%m = y*mtR n%m*mtR n%m:=by
  have hc:Nat.gcd (a*mtR n%m) m = 1:=by
    rw [← Nat.gcd_rec,Nat.gcd_comm]
    exact Nat.Coprime.mul_left (gcd_of_inv h) (odd_cop hm).symm
  obtain ⟨y,hy,e⟩:=inv_mod hc om
  refine ⟨y,hy,e,?_⟩
  have e1:a*v*(mtR n*y*mtR n)%m = v*mtR n*(a*mtR n*y)%m:=by congr 1; ac_rfl
  have e2:a*mtR n*y%m = 1:=by rw [← Nat.mod_mul_mod]; exact e
  rw [Nat.mul_mod,h,Nat.one_mul,Nat.mod_mod,Nat.mul_mod (v*mtR n),e2,Nat.mul_one,Nat.mod_mod] at e1
  rw [← e1,Nat.mod_mul_mod]
  congr 1; ac_rfl
theorem invM_mul {x n:Nat} (hp:Pr n) (h0:x≠0) (h:x<n):invM x n<n∧x*invM x n%n = 1:=by
  have hc:=hp.cop (x:=x) (fun hd=>by have:=Nat.le_of_dvd om hd; omega)
  obtain ⟨s,hs,e⟩:=inv_mod hc (by have:=hp.1; omega)
  rw [invM_eq hs e]
  exact ⟨hs,e⟩
theorem c_eInv (V:Cv) (b f bm:Nat) (hok:V.Ok) (a:Nat) (h0:a≠0) (ha:a<V.n) (w:World) (hb:(Item.blk b ⟨false,opL V f,100,(0,0)⟩).holds w) (hX:(Item.blk bm ⟨false,mtL V.n (nw V.n) (mtL0 V.n) (mtR (nw V.n)*mtR (nw V.n)%V.n),201,(0,0)⟩).holds w):Calls Tryz.prog 45 ([.agg ([.pointer (some ⟨b,0,none⟩),.pointer (some ⟨bm,0,none⟩)]:List Value).toArray,natV a]:List Value).toArray w (fun e w'=>e = .returned (natV (invM a V.n))∧Below w.heap.size w w'):=by
  have hmo:=hok.mt
  have hnW:=hmo.lt9
  have hn3:=hmo.three
  have hn0:V.n≠0:=by omega
  have hnp:0<V.n:=by omega
  obtain ⟨hv1,hv2⟩:=invM_mul hok.order h0 ha
  obtain ⟨y,hy1,hy2,hy3⟩:=mt_inv_y (n:=nw V.n) hmo.odd hmo.three hv2
  refine KZ (N:=29) (rs:=[.cell 4 33]) [.blk b ⟨false,opL V f,100,(0,0)⟩,.blk bm ⟨false,mtL V.n (nw V.n) (mtL0 V.n) (mtR (nw V.n)*mtR (nw V.n)%V.n),201,(0,0)⟩] Tryz.func45 rfl Tryz.ntmps45 Tryz.results45 (Nb rfl) ⟨hb,hX,trivial⟩ rfl ?_
  refine KB (KA ?_);refine oS (mB (fun b2=>?_));refine oS (mB (fun b3=>?_));refine oS (mk (KM zr_33) (fun b4=>?_));refine KC (KB (KA ?_));refine oP (KD (o':=1) u90 rfl rfl rfl sz_88 dc) ?_;refine oD (dL rfl (hv:=KI u88 rfl (by first|rfl|exact KU _ _ _ om|exact KX _ om|exact KY _ om|exact dv_m _ _ _ om))) ?_;refine oD dNa ?_;refine oS (cF rfl en_89 rfl (fun w hw=>c_mTo V.n (nw V.n) (mtL0 V.n) hmo bm a ha w (mC hw)) ?_);refine oM ?_;refine oP (Det.extract rfl rfl) ?_;refine oP (Det.extract rfl rfl) ?_;refine oS (mk (KM zr_33) (fun b5=>?_));refine LOps.step rfl (sA rfl rfl sz_33 mO (hl:=mL) (h:=?_));refine oA (KC (KB (KA ?_)));refine oP (KD (o':=1) u90 rfl rfl rfl sz_88 dc) ?_;refine oD (dL rfl (hv:=KI u88 rfl (by first|rfl|exact KU _ _ _ om|exact KX _ om|exact KY _ om|exact dv_m _ _ _ om))) ?_
  refine oD dNa ?_;refine oS (cF rfl en_92 rfl (fun w hw=>c_mInvR V.n (nw V.n) (mtL0 V.n) hmo bm (a*mtR (nw V.n)%V.n) y (Nat.mod_lt _ hnp) hy1 hy2 w (mC hw)) ?_);refine oM ?_;refine oP (Det.extract rfl rfl) ?_;refine oP (Det.extract rfl rfl) ?_;refine LOps.step rfl (sA rfl rfl sz_33 mO (hl:=mL) (h:=?_));refine KC (KB (KA ?_));refine oP (KD (o':=1) u90 rfl rfl rfl sz_88 dc) ?_;refine oD (dL rfl (hv:=KI u88 rfl (by first|rfl|exact KU _ _ _ om|exact KX _ om|exact KY _ om|exact dv_m _ _ _ om))) ?_;refine oD dNa ?_;refine oS (cF rfl en_93 rfl (fun w hw=>c_mFrom V.n (nw V.n) (mtL0 V.n) hmo bm (y*mtR (nw V.n)%V.n*mtR (nw V.n)%V.n) (invM a V.n) (Nat.mod_lt _ hnp) hv1 hy3 w (mC hw)) ?_);refine oM ?_;refine oP (Det.extract rfl rfl) ?_;refine oP (Det.extract rfl rfl) ?_;refine LOps.step rfl (sA rfl rfl sz_33 mO (hl:=mL) (h:=?_))
  refine KC (KB (KA ?_));refine oD dNa ?_;refine LOps.step rfl (sA rfl rfl sz_33 mO (hl:=mL) (h:=?_));refine KC (KK ?_);refine ⟨[_],.cons ⟨_,_,_,rfl,mM,by exact KE u33 rfl sz_33⟩ .nil,fun a w' hr=>⟨?_,hr.fr.below⟩⟩
  rfl
theorem c_eAdd (V:Cv) (b f bm:Nat) (hok:V.Ok) (a c:Nat) (ha:a<V.n) (hc:c<V.n) (w:World) (hb:(Item.blk b ⟨false,opL V f,100,(0,0)⟩).holds w) (hX:(Item.blk bm ⟨false,mtL V.n (nw V.n) (mtL0 V.n) (mtR (nw V.n)*mtR (nw V.n)%V.n),201,(0,0)⟩).holds w):Calls Tryz.prog 44 ([.agg ([.pointer (some ⟨b,0,none⟩),.pointer (some ⟨bm,0,none⟩)]:List Value).toArray,natV a,natV c]:List Value).toArray w (fun e w'=>e = .returned (natV ((a+c)%V.n))∧Below w.heap.size w w'):=by
  have hmo:=hok.mt
  have hnW:=hmo.lt9
  have hn3:=hmo.three
  have hn0:V.n≠0:=by omega
  have hnp:0<V.n:=by omega
  have hW2:V.n+V.n≤W9:=Nat.le_of_lt (w9_half hok.bounds.2.2.2.2.2.2.1)
  refine KZ (N:=32) (rs:=[.cell 6 33]) [.blk b ⟨false,opL V f,100,(0,0)⟩,.blk bm ⟨false,mtL V.n (nw V.n) (mtL0 V.n) (mtR (nw V.n)*mtR (nw V.n)%V.n),201,(0,0)⟩] Tryz.func44 rfl Tryz.ntmps44 Tryz.results44 (Nb rfl) ⟨hb,hX,trivial⟩ rfl ?_
  refine KB (KA ?_);refine oS (mB (fun b3=>?_));refine oS (mB (fun b4=>?_));refine oS (mB (fun b5=>?_));refine oS (mk (KM zr_33) (fun b6=>?_));refine KC (KB (KA ?_));refine oD dNa ?_;refine oD dNa ?_;refine oS (cF rfl en_91 rfl (fun w hw=>c_nat_AddS a c w om) ?_);refine oM ?_;refine oP (Det.extract rfl rfl) ?_;refine oP (Det.extract rfl rfl) ?_;refine oS (mk (KM zr_33) (fun b7=>?_));refine LOps.step rfl (sA rfl rfl sz_33 mO (hl:=mL) (h:=?_));refine oA (KC (KB (KB ?_)))
  rcases (show V.n≤a+c∨a+c<V.n by omega) with hq|hq
  ·
   refine rD [12] ?_;refine aD 0 rfl dNa ?_;refine aP 1 rfl (KD (o':=0) u90 rfl rfl rfl sz_81 dc) ?_;refine aD 2 rfl (dL rfl (hv:=KI u81 rfl (by first|rfl|exact KU _ _ _ om|exact KX _ om|exact KY _ om|exact dv_m _ _ _ om))) ?_;refine aP 3 rfl (KG rfl) ?_;refine aP 4 rfl (KD (o':=0) u100 rfl rfl rfl sz_53 dc) ?_;refine aP 5 rfl (KD (o':=28) u53 rfl rfl rfl sz_33 dc) ?_;refine aD 6 rfl (dL rfl (hv:=by exact cvC_ld_n _ _ _ _ _ _ _ _ _ _ _ _ _ _ _ _)) ?_;refine LAny.toP ?_;refine Kv 11 rfl (.inl zr_33) (Nb rfl) rfl rfl rfl ?_;refine LAnyP.step 7 rfl rfl rfl (Nb rfl) (by kernel_rfl) rfl (Km (first:=[]) rfl en_79 rfl (fun w hw=>c_nat_SubS (a+c) V.n w om hq)) ?_
   rintro _ _ ⟨rfl,rfl⟩
   refine pM 8 ?_;refine pP 9 rfl (Det.extract rfl rfl) ?_;refine pP 10 rfl (Det.extract rfl rfl) ?_;refine pE (fun b9=>?_);refine KAG ?_;refine aL 12 rfl (sA rfl rfl sz_33 mO (hl:=mL) (h:=?_));refine aA 13 ?_;refine aE ?_;refine KB (KA (oM ?_));refine oP (KAd rfl) ?_;refine KC ?_;refine KT rfl ?_;refine KB ?_
   rw [show (a+c)%V.n = a+c-V.n from by rw [Nat.mod_eq_sub_mod hq,Nat.mod_eq_of_lt om]]
   refine KA ?_;refine oD dNa ?_;refine LOps.step rfl (sA rfl rfl sz_33 mO (hl:=mL) (h:=?_));refine KC (KK ?_);refine ⟨[_],.cons ⟨_,_,_,rfl,mM,by exact KE u33 rfl sz_33⟩ .nil,fun a w' hr=>⟨?_,hr.fr.below⟩⟩
   rfl
  refine rD [12] ?_;refine aD 0 rfl dNa ?_;refine aP 1 rfl (KD (o':=0) u90 rfl rfl rfl sz_81 dc) ?_;refine aD 2 rfl (dL rfl (hv:=KI u81 rfl (by first|rfl|exact KU _ _ _ om|exact KX _ om|exact KY _ om|exact dv_m _ _ _ om))) ?_;refine aP 3 rfl (KG rfl) ?_;refine aP 4 rfl (KD (o':=0) u100 rfl rfl rfl sz_53 dc) ?_;refine aP 5 rfl (KD (o':=28) u53 rfl rfl rfl sz_33 dc) ?_;refine aD 6 rfl (dL rfl (hv:=by exact cvC_ld_n _ _ _ _ _ _ _ _ _ _ _ _ _ _ _ _)) ?_;refine LAny.toP ?_;refine Kv 11 rfl (.inl zr_33) (Nb rfl) rfl rfl rfl ?_;refine LAnyP.step 7 rfl rfl rfl (Nb rfl) (by kernel_rfl) rfl (Km (first:=[]) rfl en_79 rfl (fun w hw=>c_nat_SubU (a+c) V.n w hnW hq)) ?_
  rintro _ _ ⟨rfl,rfl⟩
  refine pM 8 ?_;refine pP 9 rfl (Det.extract rfl rfl) ?_;refine pP 10 rfl (Det.extract rfl rfl) ?_;refine pE (fun b9=>?_);refine KAG ?_;refine aL 12 rfl (sA rfl rfl sz_33 mO (hl:=mL) (h:=?_));refine aA 13 ?_;refine aE ?_;refine KB (KA (oM ?_));refine oP (KAd rfl) ?_;refine KC ?_;refine KJ rfl ?_;refine KN (KB ?_)
  rw [Nat.mod_eq_of_lt hq]
  refine KA ?_;refine oD dNa ?_;refine LOps.step rfl (sA rfl rfl sz_33 mO (hl:=mL) (h:=?_));refine KC (KK ?_);refine ⟨[_],.cons ⟨_,_,_,rfl,mM,by exact KE u33 rfl sz_33⟩ .nil,fun a w' hr=>⟨?_,hr.fr.below⟩⟩
  rfl
theorem c_kTry (V:Cv) (b f:Nat) (hok:V.Ok) (dk:Nat) (hdk:dk = 1∨dk = 2∨dk = 3∨dk = 4) (d n:Nat) (K U:ByteArray) (hK:K.size≤64) (hU:U.size≤64) (hn:n≤64) (w:World) (hH:∀ x,x∈([.blk d ⟨true,gnL dk K U (n),79,(0,0)⟩]++[.blk b ⟨false,opL V f,100,(0,0)⟩]:List Item)→x.holds w) (hd:([.blk d ⟨true,gnL dk K U (n),79,(0,0)⟩]++[.blk b ⟨false,opL V f,100,(0,0)⟩]:List Item).Pairwise Apart)  : Calls Tryz.prog 37 ([.pointer (some ⟨b,0,none⟩),.func (.func 36) #[.pointer (some ⟨d,0,none⟩)] #[]]:List Value).toArray w (fun e w'=>∃ (u:Value) (x':Item),(u = .tuple #[natV (tryE V (genB dk K U (nby V.n))),.bool (decide (tryE V (genB dk K U (nby V.n))≠0∧tryE V (genB dk K U (nby V.n))<V.n)),.int .i64 ((0:Nat):Int)]∧x' = .blk d ⟨true,gnL dk (genS dk K U (nby V.n)).1 (genS dk K U (nby V.n)).2 (n+1),79,(0,0)⟩)∧e = .returned u∧Outcome w [.blk d ⟨true,gnL dk K U (n),79,(0,0)⟩] [x'] w'):=by
  have hmo:=hok.mt
  have hnW:=hmo.lt9
  have hn3:=hmo.three
  have hn0:V.n≠0:=by omega
  have hnp:0<V.n:=by omega
  have hnb:nby V.n≤72:=by have:=blen_w9 hnW; unfold nby; omega
  have hbl:=blen_w9 hnW
  have hn8:blen V.n≤8*nby V.n:=by unfold nby; omega
  have hgz:(genB dk K U (nby V.n)).size = nby V.n:=genB_size hdk K hU (nby V.n)
  have hgb:=beVal_w9 (l:=(genB dk K U (nby V.n)).data.toList) (by show (genB dk K U (nby V.n)).size≤72; omega)
  refine KAO [.blk d ⟨true,gnL dk K U (n),79,(0,0)⟩,.blk b ⟨false,opL V f,100,(0,0)⟩] (N:=45) (rs:=[.cell 4 33,.tmp 5,.tmp 6]) Tryz.func37 rfl Tryz.ntmps37 Tryz.results37 (Nb rfl) hH hd rfl rfl ?_
  refine KB (KA ?_);refine oS (mk (KM zr_33) (fun b4=>?_));refine oA ?_;refine oP (KO (v:=.int .i64 ((0:Nat):Int)) rfl) ?_;refine KC (KB (KA (oM (oM ?_))));refine oS (cF rfl en_48 rfl (fun w hw=>c_cBytes V b f w (mC hw) hbl) ?_);refine LOps.step rfl (Ka (first:=[.pointer (some ⟨d,0,none⟩)]) (caps:=[]) rfl en_36 rfl (Nb rfl) sR wK (fun w hH hd=>c_dgen dk hdk d n K U hK hU (nby V.n) om hn w hH hd) ?_)
  rintro _ _ ⟨rfl,rfl⟩
  refine oM ?_;refine oP (Det.extract rfl rfl) ?_;refine oP (Det.extract rfl rfl) ?_;refine oA (oA (KC (KB (KB (KA (oM ?_))))));refine oP (KF (v:=.bool false) rfl rfl (br_f (KAX (b:=0)) dc)) ?_;refine KC ?_;refine KJ rfl ?_;refine KN (KB (KA (oM ?_)));refine oS (cF rfl en_49 rfl (fun w hw=>c_nat_OfOK (genB dk K U (nby V.n)) w (by rw [hgz]; omega)) ?_);refine oM ?_;refine oP (Det.extract rfl rfl) ?_;refine oP (Det.extract rfl rfl) ?_;refine oS (mk (KM zr_33) (fun b9=>?_));refine LOps.step rfl (sA rfl rfl sz_33 mO (hl:=mL) (h:=?_));refine oA (KC (KB ?_));refine rD [14] ?_;refine aD 0 rfl dNa ?_;refine aM 1 ?_;refine aM 4 ?_;refine aP 5 rfl (KG rfl) ?_;refine aP 6 rfl (KD (o':=0) u100 rfl rfl rfl sz_53 dc) ?_;refine aP 7 rfl (KD (o':=56) u53 rfl rfl rfl sz_3 dc) ?_;refine aD 8 rfl (dL rfl (hv:=KI u3 rfl (by exact cvC_gt_bits _ _ _ _ _ _ _ _ _ _ _ _ _))) ?_
  refine aO 2 rfl (cF rfl en_48 rfl (fun w hw=>c_cBytes V b f w (mC hw) hbl) ?_);refine aP 3 rfl (KF rfl rfl (br_mul (a:=8) om)) ?_;refine aP 9 rfl (KF rfl rfl (KAa om om)) ?_;refine aO 10 rfl (cF rfl en_83 rfl (fun w hw=>c_nat_Shr _ _ hgb (by unfold nby; omega) w) ?_);refine aM 11 ?_;refine aP 12 rfl (Det.extract rfl rfl) ?_;refine aP 13 rfl (Det.extract rfl rfl) ?_;refine aL 14 rfl (sA rfl rfl sz_33 mO (hl:=mL) (h:=?_));refine aE ?_;refine KB ?_;refine rD [4] ?_;refine aD 0 rfl dNa ?_;refine aM 1 ?_;refine aO 2 rfl (LStep.det dNa (Nb rfl) ?_);refine aO 3 rfl (cF rfl en_38 rfl (fun w hw=>c_cKeyB V b f _ hok w (mC hw) (shr_w9 hgb)) ?_);refine aL 4 rfl (sA rfl rfl sz_33 mO (hl:=mL) (h:=?_));refine aA 5 ?_;refine aP 6 rfl (KO (v:=.int .i64 ((0:Nat):Int)) rfl) ?_;refine aE ?_;refine KK ?_;refine ⟨[_,_,_],.cons ⟨_,_,_,rfl,mM,by exact KE u33 rfl sz_33⟩ (.cons rfl (.cons rfl .nil)),fun a w' hr=>⟨_,_,⟨rfl,rfl⟩,rfl,hr.out mS rfl⟩⟩
theorem c_kTryX (V:Cv) (b f:Nat) (hok:V.Ok) (dk:Nat) (hdk:dk = 1∨dk = 2∨dk = 3∨dk = 4) (d n:Nat) (K U:ByteArray) (hK:K.size≤64) (hU:U.size≤64) (hn:64<n) (w:World) (hH:∀ x,x∈([.blk d ⟨true,gnL dk K U (n),79,(0,0)⟩]++[.blk b ⟨false,opL V f,100,(0,0)⟩]:List Item)→x.holds w) (hd:([.blk d ⟨true,gnL dk K U (n),79,(0,0)⟩]++[.blk b ⟨false,opL V f,100,(0,0)⟩]:List Item).Pairwise Apart)  : Calls Tryz.prog 37 ([.pointer (some ⟨b,0,none⟩),.func (.func 36) #[.pointer (some ⟨d,0,none⟩)] #[]]:List Value).toArray w (fun e w'=>∃ (u:Value) (x':Item),(u = .tuple #[natV 0,.bool false,.int .i64 ((1103:Nat):Int)]∧x' = .blk d ⟨true,gnL dk K U (n),79,(0,0)⟩)∧e = .returned u∧Outcome w [.blk d ⟨true,gnL dk K U (n),79,(0,0)⟩] [x'] w'):=by
  have hmo:=hok.mt
  have hnW:=hmo.lt9
  have hn3:=hmo.three
  have hn0:V.n≠0:=by omega
  have hnp:0<V.n:=by omega
  have hnb:nby V.n≤72:=by have:=blen_w9 hnW; unfold nby; omega
  have hbl:=blen_w9 hnW
  have hn8:blen V.n≤8*nby V.n:=by unfold nby; omega
  refine KAO [.blk d ⟨true,gnL dk K U (n),79,(0,0)⟩,.blk b ⟨false,opL V f,100,(0,0)⟩] (N:=45) (rs:=[.cell 4 33,.tmp 5,.tmp 6]) Tryz.func37 rfl Tryz.ntmps37 Tryz.results37 (Nb rfl) hH hd rfl rfl ?_
  refine KB (KA ?_);refine oS (mk (KM zr_33) (fun b4=>?_));refine oA ?_;refine oP (KO (v:=.int .i64 ((0:Nat):Int)) rfl) ?_;refine KC (KB (KA (oM (oM ?_))));refine oS (cF rfl en_48 rfl (fun w hw=>c_cBytes V b f w (mC hw) hbl) ?_);refine LOps.step rfl (Ka (first:=[.pointer (some ⟨d,0,none⟩)]) (caps:=[]) rfl en_36 rfl (Nb rfl) sR wK (fun w hH hd=>c_dgenX dk hdk d n K U (nby V.n) om hn w hH hd) ?_)
  rintro _ _ ⟨rfl,rfl⟩
  refine oM ?_;refine oP (Det.extract rfl rfl) ?_;refine oP (Det.extract rfl rfl) ?_;refine oA (oA (KC (KB (KB (KA (oM ?_))))));refine oP (KF (v:=.bool true) rfl rfl (br_t (KAX (b:=0)) dc)) ?_;refine KC ?_;refine KT rfl ?_;refine KB (KA ?_);refine oP (KL (Kg pl_33 zr_33 rfl rfl) (show _ = natV 0 by unfold natV natL; rw [← vec_zeros 9])) ?_;refine oM ?_;refine LOps.step rfl (sA rfl rfl sz_33 mO (hl:=mL) (h:=?_));refine oA (oA (KC (KK ?_)));refine ⟨[_,_,_],.cons ⟨_,_,_,rfl,mM,by exact KE u33 rfl sz_33⟩ (.cons rfl (.cons rfl .nil)),fun a w' hr=>⟨_,_,⟨rfl,rfl⟩,rfl,hr.out mS rfl⟩⟩
def mkE (V:Cv) (dk:Nat):Nat→Nat→ByteArray→ByteArray→Nat→(Nat×Nat×Nat)×ByteArray×ByteArray×Nat
  | 0,i,K,U,n=>((0,64,2403),K,U,n)
  | q+1,i,K,U,n =>
    if 64<n then ((0,i,2402),K,U,n) else
    if tryE V (genB dk K U (nby V.n))≠0∧tryE V (genB dk K U (nby V.n))<V.n then ((tryE V (genB dk K U (nby V.n)),i+1,0),(genS dk K U (nby V.n)).1,(genS dk K U (nby V.n)).2,n+1)
    else mkE V dk q (i+1) (genS dk K U (nby V.n)).1 (genS dk K U (nby V.n)).2 (n+1)
theorem mkE_full {V:Cv} {dk q i n:Nat} {K U:ByteArray} (h:64<n):mkE V dk (q+1) i K U n = ((0,i,2402),K,U,n):=if_pos h
theorem mkE_got {V:Cv} {dk q i n:Nat} {K U:ByteArray} (h:¬ 64<n) (h2:tryE V (genB dk K U (nby V.n))≠0∧tryE V (genB dk K U (nby V.n))<V.n):mkE V dk (q+1) i K U n = ((tryE V (genB dk K U (nby V.n)),i+1,0),(genS dk K U (nby V.n)).1,(genS dk K U (nby V.n)).2,n+1):=(if_neg h).trans (if_pos h2)
theorem mkE_next {V:Cv} {dk q i n:Nat} {K U:ByteArray} (h:¬ 64<n) (h2:¬ (tryE V (genB dk K U (nby V.n))≠0∧tryE V (genB dk K U (nby V.n))<V.n)):mkE V dk (q+1) i K U n = mkE V dk q (i+1) (genS dk K U (nby V.n)).1 (genS dk K U (nby V.n)).2 (n+1):=(if_neg h).trans (if_neg h2)
theorem c_kMake (id:Int) (V:Cv) (dk:Nat) (hdk:dk = 1∨dk = 2∨dk = 3∨dk = 4) (d n:Nat) (K U:ByteArray) (hK:K.size≤64) (hU:U.size≤64) (X T E:Nat) (K2 U2:ByteArray) (n2:Nat) (w:World) (hH:∀ x,x∈([.blk d ⟨true,gnL dk K U (n),79,(0,0)⟩]++[]:List Item)→x.holds w) (hd:([.blk d ⟨true,gnL dk K U (n),79,(0,0)⟩]++[]:List Item).Pairwise Apart) (h:cvI id = some V) (hm:mkE V dk 64 0 K U n = ((X,T,E),K2,U2,n2)):Calls Tryz.prog 14 ([.int .i64 id,.pointer (some ⟨d,0,none⟩)]:List Value).toArray w (fun e w'=>∃ (u:Value) (x':Item),(u = .tuple #[natV X,.int .i64 ((T:Nat):Int),.int .i64 ((E:Nat):Int)]∧x' = .blk d ⟨true,gnL dk K2 U2 (n2),79,(0,0)⟩)∧e = .returned u∧Outcome w [.blk d ⟨true,gnL dk K U (n),79,(0,0)⟩] [x'] w'):=by
  obtain ⟨hok,hid⟩:=cvI_ok h
  have hbb:=hok.bounds
  have hpW:V.p<W9:=w9_521 hbb.2.1
  have hnW:V.n<W9:=w9_521 hbb.2.2.2.2.2.2.1
  have hbl:=blen_w9 hnW
  have hnb:nby V.n≤72:=by (unfold nby; omega)
  refine KAO [.blk d ⟨true,gnL dk K U (n),79,(0,0)⟩] (N:=47) (rs:=[.cell 4 33,.tmp 5,.tmp 6]) Tryz.func14 rfl Tryz.ntmps14 Tryz.results14 (Nb rfl) hH hd rfl rfl ?_
  refine KB (KA ?_);refine oS (mk (KM zr_33) (fun b4=>?_));refine oP (KO (v:=.int .i64 ((0:Nat):Int)) rfl) ?_;refine oP (KO (v:=.int .i64 ((0:Nat):Int)) rfl) ?_;refine KC (KB (KA (oM ?_)));refine oS (oOpen h rfl rfl (fun b f bd=>?_));refine oA (KC (KB (LCode.block (KB (KA (oM ?_))))));refine oP (KL (KAV u24 rfl rfl) (show _ = Value.bool false from rfl)) ?_;refine oA (KC ?_);refine KJ rfl ?_;refine KB (KA (oM ?_));refine oP (KL (KAV u81 rfl rfl) (show _ = Value.bool false from rfl)) ?_;refine oA (KC ?_);refine KJ rfl ?_;refine KN (KB (KA (oM ?_)));refine oP (KAK rfl) ?_;refine oA (KC (KB (KB (KA ?_))));refine oP (Kj (v:=.int .i64 ((0:Nat):Int)) rfl) ?_;refine KC (LCode.block ?_);refine Ki (α:=Nat×ByteArray×ByteArray×Nat) (fun x=>x.1≤64∧x.2.1.size≤64∧x.2.2.1.size≤64∧mkE V dk (64-x.1) x.1 x.2.1 x.2.2.1 x.2.2.2 = ((X,T,E),K2,U2,n2)) (fun x=>⟨[(1,.pointer (some ⟨d,0,none⟩)),(4,.pointer (some ⟨b4,0,none⟩)),(7,.pointer (some ⟨b,0,none⟩)),(8,.func (.func 36) #[.pointer (some ⟨d,0,none⟩)] #[]),(25,.int .i64 ((x.1:Nat):Int))],[.blk d ⟨true,gnL dk x.2.1 x.2.2.1 (x.2.2.2),79,(0,0)⟩,.blk b ⟨false,opL V f,100,(0,0)⟩,.blk b4 ⟨true,vec .u64 9 (fun _=>0),33,(0,0)⟩]⟩) (fun x=>64-x.1) ((0,K,U,n)) (⟨Nat.zero_le _,hK,hU,hm⟩) (Kb ⟨rfl,rfl,rfl,rfl,rfl,trivial⟩ mS) ?_
  rintro ⟨i,K1,U1,n1⟩ ⟨hi,hK1,hU1,hm1⟩
  dsimp only at hi hK1 hU1 hm1 ⊢
  refine KB (KA ?_);refine oP (KF rfl rfl (KAC (b:=64))) ?_;refine KC (KB ?_)
  first|refine KR rfl (fun h26=>?_) (fun h26=>?_)|refine KS rfl (fun h26=>?_) (fun h26=>?_)
  ·
   have h26:i<64:=h26
   obtain ⟨q,hq⟩:∃ q,64-i = q+1:=⟨63-i,by omega⟩
   have hm0:=hm1
   rw [hq] at hm0
   refine KN (KB (LCode.block (KB (KA (oM (oA (KC (KB ?_))))))))
   rcases (show 64<n1∨¬ 64<n1 by omega) with hn1|hn1
   ·
    refine KA (oM (oM ?_));refine LOps.step rfl (Ka (first:=[]) (caps:=[]) rfl en_37 rfl (Nb rfl) sR wK (fun w hH hd=>c_kTryX V b f hok dk hdk d n1 K1 U1 hK1 hU1 hn1 w hH hd) ?_)
    rintro _ _ ⟨rfl,rfl⟩
    refine oM ?_;refine oP (Det.extract rfl rfl) ?_;refine oP (Det.extract rfl rfl) ?_;refine oP (Det.extract rfl rfl) ?_;refine oS (mk (KM zr_33) (fun b10=>?_));refine LOps.step rfl (sA rfl rfl sz_33 mO (hl:=mL) (h:=?_));refine oA (oA (KC (LCode.block (KB (KA (oM ?_))))));refine oP (KF (v:=.bool true) rfl rfl (br_t (KAX (b:=0)) dc)) ?_;refine oA (KC ?_);refine KT rfl ?_;refine KB ?_
    have he:=(hm0.symm.trans (mkE_full hn1)).symm
    simp only [Prod.mk.injEq] at he
    obtain ⟨⟨rfl,rfl,rfl⟩,rfl,rfl,rfl⟩:=he
    refine KA ?_;refine oP (KL (Kg pl_33 zr_33 rfl rfl) (show _ = natV 0 by unfold natV natL; rw [← vec_zeros 9])) ?_;refine oM ?_;refine LOps.step rfl (sA rfl rfl sz_33 mO (hl:=mL) (h:=?_));refine oA ?_;refine oP (KO (v:=.int .i64 ((2402:Nat):Int)) rfl) ?_;refine KC (KK ?_);refine ⟨[_,_,_],.cons ⟨_,_,_,rfl,mM,by exact KE u33 rfl sz_33⟩ (.cons rfl (.cons rfl .nil)),fun a w' hr=>⟨_,_,⟨rfl,rfl⟩,rfl,hr.out mS rfl⟩⟩
   refine KA (oM (oM ?_));refine LOps.step rfl (Ka (first:=[]) (caps:=[]) rfl en_37 rfl (Nb rfl) sR wK (fun w hH hd=>c_kTry V b f hok dk hdk d n1 K1 U1 hK1 hU1 om w hH hd) ?_)
   rintro _ _ ⟨rfl,rfl⟩
   refine oM ?_;refine oP (Det.extract rfl rfl) ?_;refine oP (Det.extract rfl rfl) ?_;refine oP (Det.extract rfl rfl) ?_;refine oS (mk (KM zr_33) (fun b10=>?_));refine LOps.step rfl (sA rfl rfl sz_33 mO (hl:=mL) (h:=?_));refine oA (oA (KC (LCode.block (KB (KA (oM ?_))))));refine oP (KF (v:=.bool false) rfl rfl (br_f (KAX (b:=0)) dc)) ?_;refine oA (KC ?_);refine KJ rfl ?_;refine KB (KA (oM (oA (KC ?_))))
   first|refine KR rfl (fun h40=>?_) (fun h40=>?_)|refine KS rfl (fun h40=>?_) (fun h40=>?_)
   ·
    have he:=(hm0.symm.trans (mkE_got hn1 h40)).symm
    simp only [Prod.mk.injEq] at he
    obtain ⟨⟨rfl,rfl,rfl⟩,rfl,rfl,rfl⟩:=he
    refine KB (KA ?_);refine oD dNa ?_;refine oM ?_;refine oP (KF rfl rfl (Kp (b:=1) om)) ?_;refine LOps.step rfl (sA rfl rfl sz_33 mO (hl:=mL) (h:=?_));refine oA ?_;refine oP (KO (v:=.int .i64 ((0:Nat):Int)) rfl) ?_;refine KC (KK ?_);refine ⟨[_,_,_],.cons ⟨_,_,_,rfl,mM,by exact KE u33 rfl sz_33⟩ (.cons rfl (.cons rfl .nil)),fun a w' hr=>⟨_,_,⟨rfl,rfl⟩,rfl,hr.out mS rfl⟩⟩
   refine KN (KA ?_);refine oP (KF rfl rfl (Kp (b:=1) om)) ?_;refine oM (KC ?_);refine ⟨(i+1,_,_,n1+1),⟨by dsimp only; omega,(genS_size hdk K1 hK1 hU1 _).1,(genS_size hdk K1 hK1 hU1 _).2,?_⟩,by dsimp only; omega,Kb ⟨rfl,rfl,rfl,rfl,rfl,trivial⟩ mS⟩
   dsimp only
   rw [show 64-(i+1) = q from by omega]
   exact (mkE_next hn1 h40).symm.trans hm0
  have h26:¬ i<64:=h26
  obtain rfl:i = 64:=by omega
  have he:=(show ((0,64,2403),K1,U1,n1) = ((X,T,E),K2,U2,n2) from hm1)
  simp only [Prod.mk.injEq] at he
  obtain ⟨⟨rfl,rfl,rfl⟩,rfl,rfl,rfl⟩:=he
  refine Ke (KB (KA ?_));refine oP (KL (Kg pl_33 zr_33 rfl rfl) (show _ = natV 0 by unfold natV natL; rw [← vec_zeros 9])) ?_;refine LOps.step rfl (sA rfl rfl sz_33 mO (hl:=mL) (h:=?_));refine oP (KO (v:=.int .i64 ((64:Nat):Int)) rfl) ?_;refine oP (KO (v:=.int .i64 ((2403:Nat):Int)) rfl) ?_;refine KC (KK ?_);refine ⟨[_,_,_],.cons ⟨_,_,_,rfl,mM,by exact KE u33 rfl sz_33⟩ (.cons rfl (.cons rfl .nil)),fun a w' hr=>⟨_,_,⟨rfl,rfl⟩,rfl,hr.out mS rfl⟩⟩
noncomputable def sgR (V:Cv) (x:Nat):Nat:=xv (pmul V.A V.G x)%V.n
noncomputable def sgS (V:Cv) (z D x:Nat):Nat:=(z+sgR V x*D%V.n)%V.n*invM x V.n%V.n
abbrev sgK (V:Cv) (x:Nat):Prop:=x≠0∧x<V.n
def sgO (V:Cv) (z D x:Nat):Prop:=sgR V x≠0∧sgS V z D x≠0
open Classical in
noncomputable def sgE (V:Cv) (dk z D:Nat):Nat→Nat→ByteArray→ByteArray→Nat→(Nat×Nat×Nat×Nat)×ByteArray×ByteArray×Nat
  | 0,i,K,U,n=>((0,0,64,2604),K,U,n)
  | q+1,i,K,U,n =>
    if 64<n then ((0,0,i,2603),K,U,n) else
    if sgK V (tryE V (genB dk K U (nby V.n)))∧sgO V z D (tryE V (genB dk K U (nby V.n))) then ((sgR V (tryE V (genB dk K U (nby V.n))),sgS V z D (tryE V (genB dk K U (nby V.n))),i+1,0),(genS dk K U (nby V.n)).1,(genS dk K U (nby V.n)).2,n+1)
    else sgE V dk z D q (i+1) (genS dk K U (nby V.n)).1 (genS dk K U (nby V.n)).2 (n+1)
theorem sgE_full {V:Cv} {dk z D q i n:Nat} {K U:ByteArray} (h:64<n):sgE V dk z D (q+1) i K U n = ((0,0,i,2603),K,U,n):=if_pos h
theorem sgE_got {V:Cv} {dk z D q i n x:Nat} {K U:ByteArray} (hx:tryE V (genB dk K U (nby V.n)) = x) (h:¬ 64<n) (h2:sgK V x) (h3:sgO V z D x):sgE V dk z D (q+1) i K U n = ((sgR V x,sgS V z D x,i+1,0),(genS dk K U (nby V.n)).1,(genS dk K U (nby V.n)).2,n+1):=by
  subst hx; exact (if_neg h).trans (if_pos ⟨h2,h3⟩)
theorem sgE_next {V:Cv} {dk z D q i n x:Nat} {K U:ByteArray} (hx:tryE V (genB dk K U (nby V.n)) = x) (h:¬ 64<n) (h2:¬ (sgK V x∧sgO V z D x)):sgE V dk z D (q+1) i K U n = sgE V dk z D q (i+1) (genS dk K U (nby V.n)).1 (genS dk K U (nby V.n)).2 (n+1):=by
  subst hx; exact (if_neg h).trans (if_neg h2)
theorem sg_cases (n:Nat) (V:Cv) (x:Nat):64<n∨(¬ 64<n∧¬ sgK V x)∨(¬ 64<n∧sgK V x):=by
  rcases Nat.lt_or_ge 64 n with h|h
  · exact .inl h
  · rcases Classical.em (sgK V x) with h2|h2
    · exact .inr (.inr ⟨by omega,h2⟩)
    · exact .inr (.inl ⟨by omega,h2⟩)
theorem sg_cases2 (V:Cv) (z D x:Nat):sgR V x = 0∨(sgR V x≠0∧sgS V z D x = 0)∨sgO V z D x:=by
  rcases Classical.em (sgR V x = 0) with h|h
  · exact .inl h
  · rcases Classical.em (sgS V z D x = 0) with h2|h2
    · exact .inr (.inl ⟨h,h2⟩)
    · exact .inr (.inr ⟨h,h2⟩)
theorem c_eSign (tb:Option Nat) (tr:TrRow) (l:List Nat) (id:Int) (V:Cv) (D:Nat) (hD:D≠0∧D<V.n) (k:Nat) (hk:k = 1∨k = 2∨k = 3∨k = 4) (msg:ByteArray) (hmsg:msg.size≤140737488351232) (dk:Nat) (hdk:dk = 1∨dk = 2∨dk = 3∨dk = 4) (d n:Nat) (K U:ByteArray) (hK:K.size≤64) (hU:U.size≤64) (R S T E:Nat) (K2 U2:ByteArray) (n2:Nat) (w:World) (hH:∀ x,x∈([.blk d ⟨true,gnL dk K U (n),79,(0,0)⟩,trI tb tr l]++[]:List Item)→x.holds w) (hd:([.blk d ⟨true,gnL dk K U (n),79,(0,0)⟩,trI tb tr l]++[]:List Item).Pairwise Apart) (h:cvI id = some V) (hm:sgE V dk (digE V k msg) D 64 0 K U n = ((R,S,T,E),K2,U2,n2)) (hl:l.length≤70000000):Calls Tryz.prog 15 ([trV tb,.int .i64 id,.int .i64 ((k:Nat):Int),natV D,.string msg,.pointer (some ⟨d,0,none⟩)]:List Value).toArray w (fun e w'=>∃ (u:Value) (x':Item) (y':Item),(u = .tuple #[sgV R S,.int .i64 ((T:Nat):Int),.int .i64 ((E:Nat):Int)]∧x' = .blk d ⟨true,gnL dk K2 U2 (n2),79,(0,0)⟩∧∃ tr2 l2,y' = trI tb tr2 l2∧l2.length≤l.length+64*2500)∧e = .returned u∧Outcome w [.blk d ⟨true,gnL dk K U (n),79,(0,0)⟩,trI tb tr l] [x',y'] w'):=by
  obtain ⟨hok,hid⟩:=cvI_ok h
  have hbb:=hok.bounds
  have hpW:V.p<W9:=w9_521 hbb.2.1
  have hnW:V.n<W9:=w9_521 hbb.2.2.2.2.2.2.1
  have hbl:=blen_w9 hnW
  have hnb:nby V.n≤72:=by (unfold nby; omega)
  have hmo:=hok.mt
  have hn3:=hmo.three
  have hn0:V.n≠0:=by omega
  have hnp:0<V.n:=by omega
  have hs8:=hsize_le hk
  obtain ⟨m,hmv⟩:∃ m,(blen V.n+3)/4 = m:=⟨_,rfl⟩
  have hm144:m≤144:=by omega
  refine KAO [.blk d ⟨true,gnL dk K U (n),79,(0,0)⟩,trI tb tr l] (N:=102) (rs:=[.cell 12 37,.tmp 13,.tmp 14]) Tryz.func15 rfl Tryz.ntmps15 Tryz.results15 (Nb rfl) hH hd rfl rfl ?_
  refine KB (KA ?_);refine oS (mB (fun b9=>?_));refine oS (mk (KM zr_37) (fun b12=>?_));refine oP (KO (v:=.int .i64 ((0:Nat):Int)) rfl) ?_;refine oP (KO (v:=.int .i64 ((0:Nat):Int)) rfl) ?_;refine KC (KB (KA (oM ?_)));refine oS (oOpen h rfl rfl (fun b f bd=>?_));refine oA (KC (KB (LCode.block (KB (KA (oM ?_))))));refine oP (KL (KAV u24 rfl rfl) (show _ = Value.bool false from rfl)) ?_;refine oA (KC ?_);refine KJ rfl ?_;refine KB (KA (oM ?_));refine oP (KL (KAV u81 rfl rfl) (show _ = Value.bool false from rfl)) ?_;refine oA (KC ?_);refine KJ rfl ?_;refine KB (KA (oM ?_));refine oS (cF rfl en_31 rfl (fun w hw=>c_hSize k hk w) ?_);refine oP (KF (v:=.bool false) rfl rfl (br_f (KAE (b:=0)) om)) ?_;refine oA (KC ?_);refine KJ rfl ?_;refine KB (KA (oM ?_));refine oD dNa ?_;refine oS (cF rfl en_38 rfl (fun w hw=>c_cKeyT V b f D w (mC hw) (Nat.lt_trans hD.2 hnW) hnW hD.1 hD.2) ?_)
  refine oP (KL (KAd rfl) (show _ = Value.bool false from rfl)) ?_;refine oA (KC ?_);refine KJ rfl ?_;refine KN (KB (KA (oM ?_)));refine LOps.step rfl (Ka (first:=[]) (caps:=[]) rfl en_39 rfl (Nb rfl) sR wK (fun w hH hd=>c_eOf V b f hok w hH hd) ?_)
  rintro _ _ ⟨bm,rfl,rfl⟩
  refine oM (oM (oM ?_));refine oS (cF rfl en_40 rfl (fun w hw=>c_eDigest V b f hok k hk msg hmsg w (mC hw)) ?_);refine oS (mk (KM zr_90) (fun b16=>?_));refine oS (mk (KM zr_33) (fun b17=>?_));refine LOps.step rfl (sA rfl rfl sz_90 mO (hl:=mL) (h:=?_));refine LOps.step rfl (sA rfl rfl sz_33 mO (hl:=mL) (h:=?_));refine KC (KB (KB (KA ?_)));refine oP (Kj (v:=.int .i64 ((0:Nat):Int)) rfl) ?_;refine KC (LCode.block ?_);refine Ki (α:=Nat×ByteArray×ByteArray×Nat×TrRow×List Nat) (fun x=>x.1≤64∧x.2.1.size≤64∧x.2.2.1.size≤64∧x.2.2.2.2.2.length≤l.length+x.1*2500∧sgE V dk (digE V k msg) D (64-x.1) x.1 x.2.1 x.2.2.1 x.2.2.2.1 = ((R,S,T,E),K2,U2,n2)) (fun x=>⟨[(0,trV tb),(2,.int .i64 ((k:Nat):Int)),(5,.pointer (some ⟨d,0,none⟩)),(9,.pointer (some ⟨b9,0,none⟩)),(12,.pointer (some ⟨b12,0,none⟩)),(15,.pointer (some ⟨b,0,none⟩)),(16,.pointer (some ⟨b16,0,none⟩)),(17,.pointer (some ⟨b17,0,none⟩)),(51,.int .i64 ((x.1:Nat):Int))],[.blk d ⟨true,gnL dk x.2.1 x.2.2.1 (x.2.2.2.1),79,(0,0)⟩,trI tb x.2.2.2.2.1 x.2.2.2.2.2,.blk b ⟨false,opL V f,100,(0,0)⟩,.blk f ⟨false,fldL V.p bd,165,(0,0)⟩,.blk bd ⟨false,dvL V.p,269,(0,0)⟩,.blk bm ⟨true,mtL V.n (nw V.n) (mtL0 V.n) (mtR (nw V.n)*mtR (nw V.n)%V.n),201,(0,0)⟩,.blk b16 ⟨true,[Value.pointer (some ⟨b,0,none⟩),Value.pointer (some ⟨bm,0,none⟩)],90,(0,0)⟩,.blk b9 ⟨true,natL D,33,(0,0)⟩,.blk b17 ⟨true,natL (digE V k msg),33,(0,0)⟩,.blk b12 ⟨true,vec .u64 9 (fun _=>0)++vec .u64 9 (fun _=>0),37,(0,0)⟩]⟩) (fun x=>64-x.1) ((0,K,U,n,tr,l)) (⟨Nat.zero_le _,hK,hU,by dsimp only; omega,hm⟩) (Kb ⟨rfl,rfl,rfl,rfl,rfl,rfl,rfl,rfl,rfl,trivial⟩ mS) ?_
  rintro ⟨i,K1,U1,n1,tr1,l1⟩ ⟨hi,hK1,hU1,hl1,hm1⟩
  dsimp only at hi hK1 hU1 hl1 hm1 ⊢
  refine KB (KA ?_);refine oP (KF rfl rfl (KAC (b:=64))) ?_;refine KC (KB ?_)
  first|refine KR rfl (fun h52=>?_) (fun h52=>?_)|refine KS rfl (fun h52=>?_) (fun h52=>?_)
  ·
   have h52:i<64:=h52
   obtain ⟨q,hq⟩:∃ q,64-i = q+1:=⟨63-i,by omega⟩
   have hm0:=hm1
   rw [hq] at hm0
   obtain ⟨x0,hx0⟩:∃ x0,tryE V (genB dk K1 U1 (nby V.n)) = x0:=⟨_,rfl⟩
   refine KN (KB (LCode.block (KB (KA (oM (oA (KC (KB ?_))))))))
   rcases sg_cases n1 V x0 with hn1|⟨hn1,hx1⟩|⟨hn1,hx1⟩
   ·
    refine KA (oM (oM ?_));refine oP (KAK rfl) ?_;refine LOps.step rfl (Ka (first:=[]) (caps:=[]) rfl en_37 rfl (Nb rfl) sR wK (fun w hH hd=>c_kTryX V b f hok dk hdk d n1 K1 U1 hK1 hU1 hn1 w hH hd) ?_)
    rintro _ _ ⟨rfl,rfl⟩
    refine oM ?_;refine oP (Det.extract rfl rfl) ?_;refine oP (Det.extract rfl rfl) ?_;refine oP (Det.extract rfl rfl) ?_;refine oS (mk (KM zr_33) (fun b19=>?_));refine LOps.step rfl (sA rfl rfl sz_33 mO (hl:=mL) (h:=?_));refine oA (oA (KC (KB (KB (KA (oM ?_))))));refine oP (KF (v:=.bool true) rfl rfl (br_t (KAX (b:=0)) dc)) ?_;refine KC ?_;refine KT rfl ?_;refine KB ?_
    have he:=(hm0.symm.trans (sgE_full hn1)).symm
    simp only [Prod.mk.injEq] at he
    obtain ⟨⟨rfl,rfl,rfl,rfl⟩,rfl,rfl,rfl⟩:=he
    refine KA ?_;refine oP (KL (Kg pl_37 zr_37 rfl rfl) (show _ = sgV 0 0 from sg_zero)) ?_;refine oM ?_;refine LOps.step rfl (sA rfl rfl sz_37 (by exact sgL_one _ _) (hl:=by exact KAL _ _) (h:=?_));refine oA ?_;refine oP (KO (v:=.int .i64 ((2603:Nat):Int)) rfl) ?_;refine KC (KK ?_);refine ⟨[_,_,_],.cons ⟨_,_,_,rfl,mM,by exact KE u37 rfl sz_37⟩ (.cons rfl (.cons rfl .nil)),fun a w' hr=>⟨_,_,_,⟨rfl,rfl,tr1,l1,rfl,by omega⟩,rfl,hr.out mS rfl⟩⟩
   ·
    refine KA (oM (oM ?_));refine oP (KAK rfl) ?_;refine LOps.step rfl (Ka (first:=[]) (caps:=[]) rfl en_37 rfl (Nb rfl) sR wK (fun w hH hd=>c_kTry V b f hok dk hdk d n1 K1 U1 hK1 hU1 om w hH hd) ?_)
    rintro _ _ ⟨rfl,rfl⟩
    rw [hx0,decide_eq_false hx1]
    refine oM ?_;refine oP (Det.extract rfl rfl) ?_;refine oP (Det.extract rfl rfl) ?_;refine oP (Det.extract rfl rfl) ?_;refine oS (mk (KM zr_33) (fun b19=>?_));refine LOps.step rfl (sA rfl rfl sz_33 mO (hl:=mL) (h:=?_));refine oA (oA (KC (KB (KB (KA (oM ?_))))));refine oP (KF (v:=.bool false) rfl rfl (br_f (KAX (b:=0)) dc)) ?_;refine KC ?_;refine KJ rfl ?_;refine KN (KB (KB (KA (oM ?_))));refine oP (KAd rfl) ?_;refine KC ?_;refine KT rfl ?_;refine Ke (KA ?_);refine oP (KF rfl rfl (Kp (b:=1) om)) ?_;refine oM (KC ?_);refine ⟨(i+1,_,_,n1+1,tr1,l1),⟨by dsimp only; omega,(genS_size hdk K1 hK1 hU1 _).1,(genS_size hdk K1 hK1 hU1 _).2,by dsimp only; omega,?_⟩,by dsimp only; omega,Kb ⟨rfl,rfl,rfl,rfl,rfl,rfl,rfl,rfl,rfl,trivial⟩ mS⟩
    dsimp only
    rw [show 64-(i+1) = q from by omega]
    exact (sgE_next hx0 hn1 (fun h=>hx1 h.1)).symm.trans hm0
   refine KA (oM (oM ?_));refine oP (KAK rfl) ?_;refine LOps.step rfl (Ka (first:=[]) (caps:=[]) rfl en_37 rfl (Nb rfl) sR wK (fun w hH hd=>c_kTry V b f hok dk hdk d n1 K1 U1 hK1 hU1 om w hH hd) ?_)
   rintro _ _ ⟨rfl,rfl⟩
   rw [hx0,decide_eq_true hx1]
   refine oM ?_;refine oP (Det.extract rfl rfl) ?_;refine oP (Det.extract rfl rfl) ?_;refine oP (Det.extract rfl rfl) ?_;refine oS (mk (KM zr_33) (fun b19=>?_));refine LOps.step rfl (sA rfl rfl sz_33 mO (hl:=mL) (h:=?_));refine oA (oA (KC (KB (KB (KA (oM ?_))))));refine oP (KF (v:=.bool false) rfl rfl (br_f (KAX (b:=0)) dc)) ?_;refine KC ?_;refine KJ rfl ?_;refine KN (KB (KB (KA (oM ?_))));refine oP (KAd rfl) ?_;refine KC ?_;refine KJ rfl ?_;refine KN (KB (KA (oM (oM (oM ?_)))));refine oD dNa ?_;refine LOps.step rfl (LStepW.callT (first:=[]) (r:=tr1) (l:=l1) (l':=l1++evN m) rfl en_42 rfl (Nb rfl) mP (fun w hw hn=>c_bTimes tb tr1 l1 V b f bd hok x0 hx1.2 m hmv w (mC hw) om (mC hw) (mC hw) (mC hw) (hn _ mM) (hn _ mM) (hn _ mM)) ?_)
   intro r1
   refine oP (Det.field u47 rfl rfl (PartOf.agg u33 rfl sz_33 (pt_x0 _ _ _))) ?_;refine oS (cF rfl en_41 rfl (fun w hw=>c_eRest V b f hok _ (Nat.lt_trans (xv_lt _) hpW) w (mC hw)) ?_);refine oS (mk (KM zr_33) (fun b22=>?_));refine LOps.step rfl (sA rfl rfl sz_33 mO (hl:=mL) (h:=?_));refine KC (KB ?_);refine rD [13] ?_;refine aD 0 rfl (dL rfl (hv:=by exact KE u90 rfl sz_90)) ?_;refine aD 1 rfl (dL rfl (hv:=by exact KE u90 rfl sz_90)) ?_;refine aD 2 rfl dNa ?_;refine aD 3 rfl (dL rfl (hv:=by exact KE u90 rfl sz_90)) ?_;refine aD 4 rfl dNa ?_;refine aD 5 rfl dNa ?_;refine aD 8 rfl (dL rfl (hv:=by exact KE u90 rfl sz_90)) ?_;refine aD 9 rfl dNa ?_
   refine LAny.toP ?_;refine Kv 12 rfl (.inl zr_33) (Nb rfl) rfl rfl rfl ?_;refine LAnyP.step 6 rfl rfl rfl (Nb rfl) (by kernel_rfl) rfl (Km (first:=[]) rfl en_43 rfl (fun w hw=>c_eMul V b f bm hok (sgR V x0) D (Nat.mod_lt _ hnp) hD.2 w (mC hw) (show (Item.blk bm ⟨false,mtL V.n (nw V.n) (mtL0 V.n) (mtR (nw V.n)*mtR (nw V.n)%V.n),201,(0,0)⟩).holds w from hw (.blk bm ⟨true,mtL V.n (nw V.n) (mtL0 V.n) (mtR (nw V.n)*mtR (nw V.n)%V.n),201,(0,0)⟩) mM))) ?_
   rintro _ _ ⟨rfl,rfl⟩
   refine LAnyP.step 7 rfl rfl rfl (Nb rfl) (by kernel_rfl) rfl (Km (first:=[]) rfl en_44 rfl (fun w hw=>c_eAdd V b f bm hok (digE V k msg) (sgR V x0*D%V.n) (Nat.mod_lt _ hnp) (Nat.mod_lt _ hnp) w (mC hw) (show (Item.blk bm ⟨false,mtL V.n (nw V.n) (mtL0 V.n) (mtR (nw V.n)*mtR (nw V.n)%V.n),201,(0,0)⟩).holds w from hw (.blk bm ⟨true,mtL V.n (nw V.n) (mtL0 V.n) (mtR (nw V.n)*mtR (nw V.n)%V.n),201,(0,0)⟩) mM))) ?_
   rintro _ _ ⟨rfl,rfl⟩
   refine LAnyP.step 10 rfl rfl rfl (Nb rfl) (by kernel_rfl) rfl (Km (first:=[]) rfl en_45 rfl (fun w hw=>c_eInv V b f bm hok x0 hx1.1 hx1.2 w (mC hw) (show (Item.blk bm ⟨false,mtL V.n (nw V.n) (mtL0 V.n) (mtR (nw V.n)*mtR (nw V.n)%V.n),201,(0,0)⟩).holds w from hw (.blk bm ⟨true,mtL V.n (nw V.n) (mtL0 V.n) (mtR (nw V.n)*mtR (nw V.n)%V.n),201,(0,0)⟩) mM))) ?_
   rintro _ _ ⟨rfl,rfl⟩
   refine LAnyP.step 11 rfl rfl rfl (Nb rfl) (by kernel_rfl) rfl (Km (first:=[]) rfl en_43 rfl (fun w hw=>c_eMul V b f bm hok ((digE V k msg+sgR V x0*D%V.n)%V.n) (invM x0 V.n) (Nat.mod_lt _ hnp) (invM_lt hnp) w (mC hw) (show (Item.blk bm ⟨false,mtL V.n (nw V.n) (mtL0 V.n) (mtR (nw V.n)*mtR (nw V.n)%V.n),201,(0,0)⟩).holds w from hw (.blk bm ⟨true,mtL V.n (nw V.n) (mtL0 V.n) (mtR (nw V.n)*mtR (nw V.n)%V.n),201,(0,0)⟩) mM))) ?_
   rintro _ _ ⟨rfl,rfl⟩
   refine pE (fun b23=>?_);refine KAG ?_;refine aL 13 rfl (sA rfl rfl sz_33 mO (hl:=mL) (h:=?_));refine aE ?_;refine KB ?_
   rcases sg_cases2 V (digE V k msg) D x0 with hz1|⟨hz0,hz2⟩|hz
   ·
    have hRw:sgR V x0<W9:=Nat.lt_trans (Nat.mod_lt _ hnp) hnW
    have hSw:sgS V (digE V k msg) D x0<W9:=Nat.lt_trans (Nat.mod_lt _ hnp) hnW
    refine KA ?_;refine oD dNa ?_;refine oP (KL (Kg pl_33 zr_33 rfl rfl) (show _ = natV 0 by unfold natV natL; rw [← vec_zeros 9])) ?_;refine oP (KL (Det.nea (by kernel_rfl) (fun w=>eq_nat (sgR V x0) 0 hRw zero_w9 10000 dc w) rfl rfl) (show _ = Value.bool false by rw [decide_eq_true hz1]; rfl)) ?_;refine oM ?_;refine oK ?_;refine oK ?_;refine oK ?_;refine oP (KV rfl rfl) ?_;refine KC ?_;refine KJ rfl ?_;refine KN (KA ?_);refine oP (KF rfl rfl (Kp (b:=1) om)) ?_;refine oM (KC ?_);refine ⟨(i+1,_,_,n1+1,r1,l1++evN m),⟨by dsimp only; omega,(genS_size hdk K1 hK1 hU1 _).1,(genS_size hdk K1 hK1 hU1 _).2,by simp only [List.length_append,evN_length]; omega,?_⟩,by dsimp only; omega,Kb ⟨rfl,rfl,rfl,rfl,rfl,rfl,rfl,rfl,rfl,trivial⟩ mS⟩
    dsimp only
    rw [show 64-(i+1) = q from by omega]
    exact (sgE_next hx0 hn1 (fun h=>h.2.1 hz1)).symm.trans hm0
   ·
    have hRw:sgR V x0<W9:=Nat.lt_trans (Nat.mod_lt _ hnp) hnW
    have hSw:sgS V (digE V k msg) D x0<W9:=Nat.lt_trans (Nat.mod_lt _ hnp) hnW
    refine KA ?_;refine oD dNa ?_;refine oP (KL (Kg pl_33 zr_33 rfl rfl) (show _ = natV 0 by unfold natV natL; rw [← vec_zeros 9])) ?_;refine oP (KL (Det.nea (by kernel_rfl) (fun w=>eq_nat (sgR V x0) 0 hRw zero_w9 10000 dc w) rfl rfl) (show _ = Value.bool true by rw [decide_eq_false hz0]; rfl)) ?_;refine oM ?_;refine Ky rfl rfl dNa (Nb rfl) ?_;refine oGP (KL (Kg pl_33 zr_33 rfl rfl) (show _ = natV 0 by unfold natV natL; rw [← vec_zeros 9])) ?_;refine oGP (KL (Det.nea (by kernel_rfl) (fun w=>eq_nat (sgS V (digE V k msg) D x0) 0 hSw zero_w9 10000 dc w) rfl rfl) (show _ = Value.bool false by rw [decide_eq_true hz2]; rfl)) ?_;refine oP (Kh rfl rfl) ?_;refine KC ?_;refine KJ rfl ?_;refine KN (KA ?_);refine oP (KF rfl rfl (Kp (b:=1) om)) ?_;refine oM (KC ?_);refine ⟨(i+1,_,_,n1+1,r1,l1++evN m),⟨by dsimp only; omega,(genS_size hdk K1 hK1 hU1 _).1,(genS_size hdk K1 hK1 hU1 _).2,by simp only [List.length_append,evN_length]; omega,?_⟩,by dsimp only; omega,Kb ⟨rfl,rfl,rfl,rfl,rfl,rfl,rfl,rfl,rfl,trivial⟩ mS⟩
    dsimp only
    rw [show 64-(i+1) = q from by omega]
    exact (sgE_next hx0 hn1 (fun h=>h.2.2 hz2)).symm.trans hm0
   have hRw:sgR V x0<W9:=Nat.lt_trans (Nat.mod_lt _ hnp) hnW
   have hSw:sgS V (digE V k msg) D x0<W9:=Nat.lt_trans (Nat.mod_lt _ hnp) hnW
   refine KA ?_;refine oD dNa ?_;refine oP (KL (Kg pl_33 zr_33 rfl rfl) (show _ = natV 0 by unfold natV natL; rw [← vec_zeros 9])) ?_;refine oP (KL (Det.nea (by kernel_rfl) (fun w=>eq_nat (sgR V x0) 0 hRw zero_w9 10000 dc w) rfl rfl) (show _ = Value.bool true by rw [decide_eq_false hz.1]; rfl)) ?_;refine oM ?_;refine Ky rfl rfl dNa (Nb rfl) ?_;refine oGP (KL (Kg pl_33 zr_33 rfl rfl) (show _ = natV 0 by unfold natV natL; rw [← vec_zeros 9])) ?_;refine oGP (KL (Det.nea (by kernel_rfl) (fun w=>eq_nat (sgS V (digE V k msg) D x0) 0 hSw zero_w9 10000 dc w) rfl rfl) (show _ = Value.bool true by rw [decide_eq_false hz.2]; rfl)) ?_;refine oP (Kh rfl rfl) ?_;refine KC ?_;refine KT rfl ?_;refine KB ?_
   have he:=(hm0.symm.trans (sgE_got hx0 hn1 hx1 hz)).symm
   simp only [Prod.mk.injEq] at he
   obtain ⟨⟨rfl,rfl,rfl,rfl⟩,rfl,rfl,rfl⟩:=he
   refine KA ?_;refine oD dNa ?_;refine oD dNa ?_;refine oP (Kg pl_37 zr_37 rfl (fT (r':=(natL (sgR V x0)++(natL (sgS V (digE V k msg) D x0)))) (fS (A:=([]:List Value)) (B:=(vec .u64 9 (fun _=>0))) (D:=(vec .u64 9 (fun _=>0))) (cs:=natL (sgR V x0)) (fS (A:=(natL (sgR V x0))) (B:=(vec .u64 9 (fun _=>0))) (D:=([]:List Value)) (cs:=natL (sgS V (digE V k msg) D x0)) rfl)))) ?_;refine oM ?_;refine oP (KF rfl rfl (Kp (b:=1) om)) ?_;refine LOps.step rfl (sA rfl rfl sz_37 (by exact sgL_one _ _) (hl:=by exact KAL _ _) (h:=?_));refine oA ?_;refine oP (KO (v:=.int .i64 ((0:Nat):Int)) rfl) ?_;refine KC (KK ?_);refine ⟨[_,_,_],.cons ⟨_,_,_,rfl,mM,by exact KE u37 rfl sz_37⟩ (.cons rfl (.cons rfl .nil)),fun a w' hr=>⟨_,_,_,⟨rfl,rfl,r1,l1++evN m,rfl,by simp only [List.length_append,evN_length]; omega⟩,rfl,hr.out mS rfl⟩⟩
  have h52:¬ i<64:=h52
  obtain rfl:i = 64:=by omega
  have he:=(show ((0,0,64,2604),K1,U1,n1) = ((R,S,T,E),K2,U2,n2) from hm1)
  simp only [Prod.mk.injEq] at he
  obtain ⟨⟨rfl,rfl,rfl,rfl⟩,rfl,rfl,rfl⟩:=he
  refine Ke (KB (KA ?_));refine oP (KL (Kg pl_37 zr_37 rfl rfl) (show _ = sgV 0 0 from sg_zero)) ?_;refine LOps.step rfl (sA rfl rfl sz_37 (by exact sgL_one _ _) (hl:=by exact KAL _ _) (h:=?_));refine oP (KO (v:=.int .i64 ((64:Nat):Int)) rfl) ?_;refine oP (KO (v:=.int .i64 ((2604:Nat):Int)) rfl) ?_;refine KC (KK ?_);refine ⟨[_,_,_],.cons ⟨_,_,_,rfl,mM,by exact KE u37 rfl sz_37⟩ (.cons rfl (.cons rfl .nil)),fun a w' hr=>⟨_,_,_,⟨rfl,rfl,tr1,l1,rfl,by omega⟩,rfl,hr.out mS rfl⟩⟩
noncomputable def verE (V:Cv) (P:Pt V.p) (R:Nat):Bool:=!(iv P) && decide (xv P%V.n = R)
theorem c_eVer (id:Int) (V:Cv) (k:Nat) (hk:k = 1∨k = 2∨k = 3∨k = 4) (msg:ByteArray) (hmsg:msg.size≤140737488351232) (x y:Fin V.p) (hQ:On V.A V.B (.aff x y)) (R S:Nat) (w:World) (h:cvI id = some V) (h2:sgK V R) (h3:sgK V S):Calls Tryz.prog 21 ([.int .i64 id,.int .i64 ((k:Nat):Int),ptP (.aff x y:Pt V.p),.string msg,sgV R S]:List Value).toArray w (fun e w'=>e = .returned (.bool (verE V (dualP V (digE V k msg*invM S V.n%V.n) (R*invM S V.n%V.n) (.aff x y)) R))∧Below w.heap.size w w'):=by
  obtain ⟨hok,hid⟩:=cvI_ok h
  have hbb:=hok.bounds
  have hpW:V.p<W9:=w9_521 hbb.2.1
  have hnW:V.n<W9:=w9_521 hbb.2.2.2.2.2.2.1
  have hbl:=blen_w9 hnW
  have hnb:nby V.n≤72:=by (unfold nby; omega)
  have hmo:=hok.mt
  have hn3:=hmo.three
  have hn0:V.n≠0:=by omega
  have hnp:0<V.n:=by omega
  have hs8:=hsize_le hk
  have hR:=Nat.lt_trans h2.2 hnW
  have hS:=Nat.lt_trans h3.2 hnW
  have hX:=(pt_w9 hok (.aff x y)).1
  have hY:=(pt_w9 hok (.aff x y)).2
  have h1:onB V.p V.a V.b x.val y.val false = true:=onB_on hQ
  refine KZ (N:=81) (rs:=[.tmp 10]) [] Tryz.func21 rfl Tryz.ntmps21 Tryz.results21 (Nb rfl) trivial rfl ?_
  refine KB (KA ?_);refine oS (mB (fun b7=>?_));refine oS (mB (fun b9=>?_));refine oA (KC (KB (KA (oM ?_))));refine oS (oOpen h rfl rfl (fun b f bd=>?_));refine oA (KC (KB (KB ?_)))
  rcases (show True from trivial) with _
  refine KA (oM ?_);refine oP (KL (KAV u81 rfl rfl) (show _ = Value.bool false from rfl)) ?_;refine oM ?_;refine oGM ?_;refine oGS (cF rfl en_31 rfl (fun w hw=>c_hSize k hk w) ?_);refine oGP (KL (KF rfl rfl rfl) (show _ = Value.bool false by rw [beq_eq_false_iff_ne.2 (show ((hsize k:Nat):Int)≠0 by omega)])) ?_;refine oP (KV rfl rfl) ?_;refine oM ?_;refine oGP (KD (o':=18) u47 rfl rfl rfl sz_4 dc) ?_;refine Ky rfl rfl (dL rfl (hv:=KI u4 rfl (by exact pt_gt _ _ _))) (Nb rfl) ?_;refine oP (KV rfl rfl) ?_;refine oM ?_;refine oGM ?_;refine Ky rfl rfl dNb (Nb rfl) ?_;refine oGS (cF rfl en_55 rfl (fun w hw=>c_cOnB V b f bd hok x.val y.val false true w (mC hw) (mC hw) (mC hw) hX hY h1) ?_);refine oGP (KL (KAd rfl) (show _ = Value.bool false from rfl)) ?_;refine oP (KV rfl rfl) ?_;refine oM ?_;refine oGM ?_
  refine oGP (KD (o':=0) u37 rfl rfl rfl sz_33 dc) ?_;refine Ky rfl rfl (dL rfl (hv:=by exact Kt u33 rfl sz_33 rfl (KH _))) (Nb rfl) ?_;refine oGS (cF rfl en_38 rfl (fun w hw=>c_cKeyB V b f R hok w (mC hw) hR) ?_);refine oGP (KL (KAd rfl) (show _ = Value.bool false by rw [decide_eq_true h2]; rfl)) ?_;refine oP (KV rfl rfl) ?_;refine oM ?_;refine oGM ?_;refine oGP (KD (o':=9) u37 rfl rfl rfl sz_33 dc) ?_;refine Ky rfl rfl (dL rfl (hv:=by exact LoadV.last u33 rfl sz_33 rfl (KH _) (KH _))) (Nb rfl) ?_;refine oGS (cF rfl en_38 rfl (fun w hw=>c_cKeyB V b f S hok w (mC hw) hS) ?_);refine oGP (KL (KAd rfl) (show _ = Value.bool false by rw [decide_eq_true h3]; rfl)) ?_;refine oP (KV rfl rfl) ?_;refine KC ?_;refine KJ rfl ?_;refine KN (KB (KA (oM ?_)));refine LOps.step rfl (Ka (first:=[]) (caps:=[]) rfl en_39 rfl (Nb rfl) sR wK (fun w hH hd=>c_eOf V b f hok w hH hd) ?_)
  rintro _ _ ⟨bm,rfl,rfl⟩
  refine oS (mk (KM zr_90) (fun b12=>?_));refine LOps.step rfl (sA rfl rfl sz_90 mO (hl:=mL) (h:=?_));refine KC (KB (KA ?_));refine oD (dL rfl (hv:=by exact KE u90 rfl sz_90)) ?_;refine oP (KD (o':=9) u37 rfl rfl rfl sz_33 dc) ?_;refine oD (dL rfl (hv:=by exact LoadV.last u33 rfl sz_33 rfl (KH _) (KH _))) ?_;refine oS (cF rfl en_45 rfl (fun w hw=>c_eInv V b f bm hok S h3.1 h3.2 w (mC hw) (show (Item.blk bm ⟨false,mtL V.n (nw V.n) (mtL0 V.n) (mtR (nw V.n)*mtR (nw V.n)%V.n),201,(0,0)⟩).holds w from hw (.blk bm ⟨true,mtL V.n (nw V.n) (mtL0 V.n) (mtR (nw V.n)*mtR (nw V.n)%V.n),201,(0,0)⟩) mM)) ?_);refine oS (mk (KM zr_33) (fun b13=>?_));refine LOps.step rfl (sA rfl rfl sz_33 mO (hl:=mL) (h:=?_));refine KC (KB ?_);refine rD [16] ?_;refine aM 0 ?_;refine aD 1 rfl (dL rfl (hv:=by exact KE u90 rfl sz_90)) ?_;refine aM 2 ?_;refine aM 3 ?_;refine aM 4 ?_
  refine aD 6 rfl dNa ?_;refine aD 8 rfl (dL rfl (hv:=by exact KE u90 rfl sz_90)) ?_;refine aP 9 rfl (KD (o':=0) u37 rfl rfl rfl sz_33 dc) ?_;refine aD 10 rfl (dL rfl (hv:=by exact Kt u33 rfl sz_33 rfl (KH _))) ?_;refine aD 11 rfl dNa ?_;refine aD 13 rfl dNb ?_;refine LAny.toP ?_;refine Kv 15 rfl (.inl zr_47) (Nb rfl) rfl rfl rfl ?_;refine LAnyP.step 5 rfl rfl rfl (Nb rfl) (by kernel_rfl) rfl (Km (first:=[]) rfl en_40 rfl (fun w hw=>c_eDigest V b f hok k hk msg hmsg w (mC hw))) ?_
  rintro _ _ ⟨rfl,rfl⟩
  refine LAnyP.step 7 rfl rfl rfl (Nb rfl) (by kernel_rfl) rfl (Km (first:=[]) rfl en_43 rfl (fun w hw=>c_eMul V b f bm hok (digE V k msg) (invM S V.n) (Nat.mod_lt _ hnp) (invM_lt hnp) w (mC hw) (show (Item.blk bm ⟨false,mtL V.n (nw V.n) (mtL0 V.n) (mtR (nw V.n)*mtR (nw V.n)%V.n),201,(0,0)⟩).holds w from hw (.blk bm ⟨true,mtL V.n (nw V.n) (mtL0 V.n) (mtR (nw V.n)*mtR (nw V.n)%V.n),201,(0,0)⟩) mM))) ?_
  rintro _ _ ⟨rfl,rfl⟩
  refine LAnyP.step 12 rfl rfl rfl (Nb rfl) (by kernel_rfl) rfl (Km (first:=[]) rfl en_43 rfl (fun w hw=>c_eMul V b f bm hok R (invM S V.n) h2.2 (invM_lt hnp) w (mC hw) (show (Item.blk bm ⟨false,mtL V.n (nw V.n) (mtL0 V.n) (mtR (nw V.n)*mtR (nw V.n)%V.n),201,(0,0)⟩).holds w from hw (.blk bm ⟨true,mtL V.n (nw V.n) (mtL0 V.n) (mtR (nw V.n)*mtR (nw V.n)%V.n),201,(0,0)⟩) mM))) ?_
  rintro _ _ ⟨rfl,rfl⟩
  refine LAnyP.step 14 rfl rfl rfl (Nb rfl) (by kernel_rfl) rfl (Km (first:=[]) rfl en_56 rfl (fun w hw=>c_dualTimes V b f bd hok (digE V k msg*invM S V.n%V.n) (R*invM S V.n%V.n) (.aff x y) hQ (Nat.mod_lt _ hnp) (Nat.mod_lt _ hnp) w (mC hw) (mC hw) (mC hw))) ?_
  rintro _ _ ⟨rfl,rfl⟩
  refine pE (fun b14=>?_);refine KAG ?_;refine aL 16 rfl (sA rfl rfl sz_47 mO (hl:=mL) (h:=?_));refine aE ?_;refine KB ?_
  unfold verE
  obtain ⟨Pr0,hPr⟩:∃ P,dualP V (digE V k msg*invM S V.n%V.n) (R*invM S V.n%V.n) (.aff x y) = P:=⟨_,rfl⟩
  rw [hPr]
  rcases (show iv Pr0 = true∨iv Pr0 = false by cases iv Pr0 <;> simp) with hi|hi
  ·
   rw [hi]
   refine rD [] ?_;refine aP 0 rfl (KD (o':=18) u47 rfl rfl rfl sz_4 dc) ?_;refine aD 1 rfl (dL rfl (hv:=KI u4 rfl (by exact pt_gt _ _ _))) ?_;refine aP 2 rfl (KL (KAd rfl) (show _ = Value.bool false from rfl)) ?_;refine aM 3 ?_;refine aK 4 ?_;refine aK 5 ?_;refine aK 6 ?_;refine aK 7 ?_;refine aK 8 ?_;refine aK 9 ?_;refine aK 10 ?_;refine aP 11 rfl (KV rfl rfl) ?_;refine aA 12 ?_;refine aE ?_;refine KK ?_;refine ⟨[_],.cons rfl .nil,fun a w' hr=>⟨?_,hr.fr.below⟩⟩
   rfl
  rw [hi]
  refine rD [] ?_;refine aP 0 rfl (KD (o':=18) u47 rfl rfl rfl sz_4 dc) ?_;refine aD 1 rfl (dL rfl (hv:=KI u4 rfl (by exact pt_gt _ _ _))) ?_;refine aP 2 rfl (KL (KAd rfl) (show _ = Value.bool true from rfl)) ?_;refine aM 3 ?_;refine aGM 4 ?_;refine aGP 5 rfl (KD (o':=0) u47 rfl rfl rfl sz_33 dc) ?_;refine aGD 6 rfl (dL rfl (hv:=by exact Kt u33 rfl sz_33 rfl (KH _))) ?_;refine aGP 8 rfl (KD (o':=0) u37 rfl rfl rfl sz_33 dc) ?_;refine aGD 9 rfl (dL rfl (hv:=by exact Kt u33 rfl sz_33 rfl (KH _))) ?_;refine aGO 7 rfl (cF rfl en_41 rfl (fun w hw=>c_eRest V b f hok _ (Nat.lt_trans (xv_lt _) hpW) w (mC hw)) ?_);refine aGP 10 rfl (KL (Det.eqa (by kernel_rfl) (fun w=>eq_nat (xv Pr0%V.n) R (Nat.lt_trans (Nat.mod_lt _ hnp) hnW) hR 10000 dc w) rfl rfl) rfl) ?_;refine aP 11 rfl (Kh rfl rfl) ?_;refine aA 12 ?_;refine aE ?_
  refine KK ?_;refine ⟨[_],.cons rfl .nil,fun a w' hr=>⟨?_,hr.fr.below⟩⟩
  rfl
def rdB (n:Nat) (z:ByteArray×Bool):ByteArray×ByteArray×Bool:=if z.1.size<n then (⟨#[]⟩,z.1,true) else (z.1.extract 0 n,z.1.extract n z.1.size,z.2)
def rdC (z:ByteArray×Bool):Nat×ByteArray×Bool:=(if (rdB 1 z).1.size = 0 then 0 else b0 (rdB 1 z).1,(rdB 1 z).2)
def rdT (tag:Nat) (z:ByteArray×Bool):ByteArray×Bool:=if (rdC z).1≠tag then ((rdC z).2.1,true) else (rdC z).2
def rdL (z:ByteArray×Bool):Nat×ByteArray×Bool:=if (rdC z).1 = 129 then rdC (rdC z).2 else rdC z
def rdF (tag:Nat) (z:ByteArray×Bool):ByteArray×ByteArray×Bool:=rdB (rdL (rdT tag z)).1 (rdL (rdT tag z)).2
def rdM (f:ByteArray):ByteArray:=if 1<f.size∧b0 f = 0 then f.extract 1 f.size else f
def rdN (z:ByteArray×Bool):Nat×ByteArray×Bool:=if 72<(rdM (rdF 2 z).1).size then (0,(rdF 2 z).2.1,true) else (beVal (rdM (rdF 2 z).1).data.toList,(rdF 2 z).2)
def derN0 (X:Nat):ByteArray:=strOf (KAT (max 1 ((blen X+7)/8)) X)
def derN (X:Nat):ByteArray:=if 128≤b0 (derN0 X) then toS [0]++derN0 X else derN0 X
def derF (t:Nat) (s:ByteArray):ByteArray:=(if s.size<128 then toS [t,s.size%256] else toS [t,129,s.size%256])++s
def derPut (R T:Nat):ByteArray:=derF 48 (derF 2 (derN R)++derF 2 (derN T))
def derA (s:ByteArray):Nat×ByteArray×Bool:=rdN ((rdF 48 (s,false)).1,false)
def derB (s:ByteArray):Nat×ByteArray×Bool:=rdN (derA s).2
def derBad (s:ByteArray):Prop:=(rdF 48 (s,false)).2.2 = true∨(derB s).2.2 = true∨derPut (derA s).1 (derB s).1≠s
theorem rdB_t {n:Nat} {z:ByteArray×Bool} (h:z.1.size<n):rdB n z = (⟨#[]⟩,z.1,true):=if_pos h
theorem rdB_f {n:Nat} {z:ByteArray×Bool} (h:¬ z.1.size<n):rdB n z = (z.1.extract 0 n,z.1.extract n z.1.size,z.2):=if_neg h
theorem emp_tz {s:ByteArray} (h:s.size = 0):(s.toList == (⟨#[]⟩:ByteArray).toList) = true:=by
  rw [eq_str,decide_eq_true_eq]
  exact List.length_eq_zero_iff.1 (by rw [Array.length_toList]; exact h)
theorem rdC_lt (z:ByteArray×Bool):(rdC z).1<256:=by
  unfold rdC
  dsimp only
  split
  · decide
  · exact b0_lt _
theorem rdL_lt (z:ByteArray×Bool):(rdL z).1<256:=by
  unfold rdL
  split <;> exact rdC_lt _
theorem rdB_size (n:Nat) (z:ByteArray×Bool):(rdB n z).1.size≤n:=by
  unfold rdB
  split
  · exact Nat.zero_le _
  · dsimp only
    rw [ByteArray.size_extract]; omega
theorem rdF_size (t:Nat) (z:ByteArray×Bool):(rdF t z).1.size<256:=Nat.lt_of_le_of_lt (rdB_size _ _) (rdL_lt _)
theorem rdM_size {f:ByteArray} (h:f.size<256):(rdM f).size<256:=by
  unfold rdM
  split
  · rw [ByteArray.size_extract]; omega
  · exact h
theorem derN_size {X:Nat} (h:X<W9):(derN X).size≤73:=by
  have h1:=blen_w9e h
  have h2:(derN0 X).size≤72:=by unfold derN0; rw [str_size]; omega
  unfold derN
  split
  · rw [ByteArray.size_append,KAS]; simp; omega
  · omega
theorem derF_size (t:Nat) (s:ByteArray):(derF t s).size≤s.size+3:=by
  unfold derF
  rw [ByteArray.size_append]
  split <;> rw [KAS] <;> simp only [List.length_cons,List.length_nil] <;> omega
theorem c_rdB (rb n:Nat) (z:ByteArray×Bool) (w:World) (hH:∀ x,x∈([.blk rb ⟨true,[.string z.1,.bool z.2],107,(0,0)⟩]++[]:List Item)→x.holds w) (hd:([.blk rb ⟨true,[.string z.1,.bool z.2],107,(0,0)⟩]++[]:List Item).Pairwise Apart)  : Calls Tryz.prog 95 ([.pointer (some ⟨rb,0,none⟩),.int .i64 ((n:Nat):Int)]:List Value).toArray w (fun e w'=>∃ (u:Value) (x':Item),(u = .string (rdB n z).1∧x' = .blk rb ⟨true,[.string (rdB n z).2.1,.bool (rdB n z).2.2],107,(0,0)⟩)∧e = .returned u∧Outcome w [.blk rb ⟨true,[.string z.1,.bool z.2],107,(0,0)⟩] [x'] w'):=by
  refine KAO [.blk rb ⟨true,[.string z.1,.bool z.2],107,(0,0)⟩] (N:=32) (rs:=[.tmp 4]) Tryz.func95 rfl Tryz.ntmps95 Tryz.results95 (Nb rfl) hH hd rfl rfl ?_
  refine KB (KA (oA (KC (KB (KB (KA (oM (oM ?_))))))));refine oP (KG rfl) ?_;refine oP (KD (o':=0) u107 rfl rfl rfl sz_9 dc) ?_;refine oD (dL rfl (hv:=KI u9 rfl (by first|rfl|exact KU _ _ _ om|exact KX _ om|exact KY _ om|exact dv_m _ _ _ om))) ?_;refine oP (KAU u9 rfl) ?_;refine oP (KF rfl rfl (br_gtr)) ?_;refine KC ?_
  first|refine KR rfl (fun h12=>?_) (fun h12=>?_)|refine KS rfl (fun h12=>?_) (fun h12=>?_)
  ·
   have h12:z.1.size<n:=by have:=h12; omega
   rw [rdB_t h12]
   refine KB (KA (oM ?_));refine oP (KG rfl) ?_;refine oP (KD (o':=1) u107 rfl rfl rfl sz_4 dc) ?_;refine LOps.step rfl (KW rfl rfl rfl sz_4 (by repeat (first|exact Sh _|apply St_)) (by first|(simp only [KQ,KH,Kc,Ko]; omega)|(simp; done)|(simp; omega)) (by first|exact Kz _ _ _ _ _|exact KAF _ _ _ _ om|exact KAD _ _ _ _|rfl) (by simp) ?_);refine KC (KB (KA (oA (KC (KK ?_)))));refine ⟨[_],.cons rfl .nil,fun a w' hr=>⟨_,_,⟨rfl,rfl⟩,rfl,hr.out mS rfl⟩⟩
  have h12:¬ z.1.size<n:=by have:=h12; omega
  rw [rdB_f h12]
  refine KN (KB (KA (oM ?_)));refine oP (KG rfl) ?_;refine oP (KD (o':=0) u107 rfl rfl rfl sz_9 dc) ?_;refine oD (dL rfl (hv:=KI u9 rfl (by first|rfl|exact KU _ _ _ om|exact KX _ om|exact KY _ om|exact dv_m _ _ _ om))) ?_;refine oM ?_;refine oP (KL (Det.slStrH u9 rfl rfl om om) (by rw [Int.toNat_natCast])) ?_;refine oA (KC (KB (KA (oM (oM ?_)))));refine oP (KG rfl) ?_;refine oP (KD (o':=0) u107 rfl rfl rfl sz_9 dc) ?_;refine oD (dL rfl (hv:=KI u9 rfl (by first|rfl|exact KU _ _ _ om|exact KX _ om|exact KY _ om|exact dv_m _ _ _ om))) ?_;refine oM ?_;refine oP (KL (Det.slStrL u9 rfl rfl om om) (by rw [Int.toNat_natCast])) ?_;refine oP (KG rfl) ?_;refine oP (KD (o':=0) u107 rfl rfl rfl sz_9 dc) ?_;refine LOps.step rfl (KW rfl rfl rfl sz_9 (by repeat (first|exact Sh _|apply St_)) (by first|(simp only [KQ,KH,Kc,Ko]; omega)|(simp; done)|(simp; omega)) (by first|exact Kz _ _ _ _ _|exact KAF _ _ _ _ om|exact KAD _ _ _ _|rfl) (by simp) ?_)
  refine KC (KB (KA (oM (oA (KC (KK ?_))))));refine ⟨[_],.cons rfl .nil,fun a w' hr=>⟨_,_,⟨rfl,rfl⟩,rfl,hr.out mS rfl⟩⟩
theorem c_rdC (rb:Nat) (z:ByteArray×Bool) (w:World) (hH:∀ x,x∈([.blk rb ⟨true,[.string z.1,.bool z.2],107,(0,0)⟩]++[]:List Item)→x.holds w) (hd:([.blk rb ⟨true,[.string z.1,.bool z.2],107,(0,0)⟩]++[]:List Item).Pairwise Apart)  : Calls Tryz.prog 94 ([.pointer (some ⟨rb,0,none⟩)]:List Value).toArray w (fun e w'=>∃ (u:Value) (x':Item),(u = .int .i64 (((rdC z).1:Nat):Int)∧x' = .blk rb ⟨true,[.string (rdC z).2.1,.bool (rdC z).2.2],107,(0,0)⟩)∧e = .returned u∧Outcome w [.blk rb ⟨true,[.string z.1,.bool z.2],107,(0,0)⟩] [x'] w'):=by
  refine KAO [.blk rb ⟨true,[.string z.1,.bool z.2],107,(0,0)⟩] (N:=11) (rs:=[.tmp 2]) Tryz.func94 rfl Tryz.ntmps94 Tryz.results94 (Nb rfl) hH hd rfl rfl ?_
  refine KB (KA ?_);refine oP (KO (v:=.int .i64 ((0:Nat):Int)) rfl) ?_;refine KC (KB (KA (oM ?_)));refine LOps.step rfl (Ka (first:=[]) (caps:=[]) rfl en_95 rfl (Nb rfl) sR wK (fun w hH hd=>c_rdB rb 1 z w hH hd) ?_)
  rintro _ _ ⟨rfl,rfl⟩
  refine oA (KC (KB (KB ?_)))
  rcases (show (rdB 1 z).1.size = 0∨(rdB 1 z).1.size≠0 by omega) with he|he
  ·
   refine KA (oM ?_);refine oP (KL (Det.eqs rfl rfl) (congrArg Value.bool (emp_tz he))) ?_;refine KC ?_;refine KT rfl ?_;refine KB ?_
   rw [show rdC z = (0,(rdB 1 z).2) from by unfold rdC; rw [if_pos he]]
   refine KA ?_;refine oP (KO (v:=.int .i64 ((0:Nat):Int)) rfl) ?_;refine KC (KK ?_);refine ⟨[_],.cons rfl .nil,fun a w' hr=>⟨_,_,⟨rfl,rfl⟩,rfl,hr.out mS rfl⟩⟩
  refine KA (oM ?_);refine oP (KL (Det.eqs rfl rfl) (congrArg Value.bool (emp_f he))) ?_;refine KC ?_;refine KJ rfl ?_;refine KN (KB ?_)
  rw [show rdC z = (b0 (rdB 1 z).1,(rdB 1 z).2) from by unfold rdC; rw [if_neg he]]
  have hb0:=b0_lt (rdB 1 z).1
  refine KA (oM ?_);refine oP (KL (KAJ u9 rfl rfl om om) (show _ = Value.int .u8 ((b0 (rdB 1 z).1:Nat):Int) from rfl)) ?_;refine oP (Det.convi u5 u3 rfl om) ?_;refine oA (KC (KK ?_));refine ⟨[_],.cons rfl .nil,fun a w' hr=>⟨_,_,⟨rfl,rfl⟩,rfl,hr.out mS rfl⟩⟩
theorem c_rdF (rb tag:Nat) (z:ByteArray×Bool) (w:World) (hH:∀ x,x∈([.blk rb ⟨true,[.string z.1,.bool z.2],107,(0,0)⟩]++[]:List Item)→x.holds w) (hd:([.blk rb ⟨true,[.string z.1,.bool z.2],107,(0,0)⟩]++[]:List Item).Pairwise Apart)  : Calls Tryz.prog 50 ([.pointer (some ⟨rb,0,none⟩),.int .i64 ((tag:Nat):Int)]:List Value).toArray w (fun e w'=>∃ (u:Value) (x':Item),(u = .string (rdF tag z).1∧x' = .blk rb ⟨true,[.string (rdF tag z).2.1,.bool (rdF tag z).2.2],107,(0,0)⟩)∧e = .returned u∧Outcome w [.blk rb ⟨true,[.string z.1,.bool z.2],107,(0,0)⟩] [x'] w'):=by
  refine KAO [.blk rb ⟨true,[.string z.1,.bool z.2],107,(0,0)⟩] (N:=22) (rs:=[.tmp 4]) Tryz.func50 rfl Tryz.ntmps50 Tryz.results50 (Nb rfl) hH hd rfl rfl ?_
  refine KB (KA (oA (KC (KB (KB ?_)))))
  rcases (show (rdC z).1≠tag∨¬ (rdC z).1≠tag by omega) with h0|h0
  ·
   refine KA (oM ?_);refine LOps.step rfl (Ka (first:=[]) (caps:=[]) rfl en_94 rfl (Nb rfl) sR wK (fun w hH hd=>c_rdC rb z w hH hd) ?_)
   rintro _ _ ⟨rfl,rfl⟩
   refine oM ?_;refine oP (KF (v:=.bool true) rfl rfl (br_t KAX om)) ?_;refine KC ?_;refine KT rfl ?_
   have hT:rdT tag z = ((rdC z).2.1,true):=if_pos h0
   refine KA (oM ?_);refine oP (KG rfl) ?_;refine oP (KD (o':=1) u107 rfl rfl rfl sz_4 dc) ?_;refine LOps.step rfl (KW rfl rfl rfl sz_4 (by repeat (first|exact Sh _|apply St_)) (by first|(simp only [KQ,KH,Kc,Ko]; omega)|(simp; done)|(simp; omega)) (by first|exact Kz _ _ _ _ _|exact KAF _ _ _ _ om|exact KAD _ _ _ _|rfl) (by simp) ?_);refine KC (KB (KA (oM ?_)));refine LOps.step rfl (Ka (first:=[]) (caps:=[]) rfl en_94 rfl (Nb rfl) sR wK (fun w hH hd=>c_rdC rb ((rdC z).2.1,true) w hH hd) ?_)
   rintro _ _ ⟨rfl,rfl⟩
   refine oA (KC (KB (KB ?_)))
   rcases (show (rdC ((rdC z).2.1,true)).1 = 129∨(rdC ((rdC z).2.1,true)).1≠129 by omega) with hl|hl
   ·
    refine KA (oM ?_);refine oP (KF (v:=.bool true) rfl rfl (br_t (KAE (b:=129)) om)) ?_;refine KC ?_;refine KT rfl ?_
    rw [show rdF tag z = rdB (rdL ((rdC z).2.1,true)).1 (rdL ((rdC z).2.1,true)).2 from by unfold rdF; rw [hT],show rdL ((rdC z).2.1,true) = rdC (rdC ((rdC z).2.1,true)).2 from if_pos hl]
    refine KA (oM ?_);refine LOps.step rfl (Ka (first:=[]) (caps:=[]) rfl en_94 rfl (Nb rfl) sR wK (fun w hH hd=>c_rdC rb (rdC ((rdC z).2.1,true)).2 w hH hd) ?_)
    rintro _ _ ⟨rfl,rfl⟩
    refine oA (KC (KB (KA (oM (oM ?_)))));refine LOps.step rfl (Ka (first:=[]) (caps:=[]) rfl en_95 rfl (Nb rfl) sR wK (fun w hH hd=>c_rdB rb (rdC (rdC ((rdC z).2.1,true)).2).1 (rdC (rdC ((rdC z).2.1,true)).2).2 w hH hd) ?_)
    rintro _ _ ⟨rfl,rfl⟩
    refine oA (KC (KK ?_));refine ⟨[_],.cons rfl .nil,fun a w' hr=>⟨_,_,⟨rfl,rfl⟩,rfl,hr.out mS rfl⟩⟩
   refine KA (oM ?_);refine oP (KF (v:=.bool false) rfl rfl (br_f (KAE (b:=129)) om)) ?_;refine KC ?_;refine KJ rfl ?_;refine KN (KB ?_)
   rw [show rdF tag z = rdB (rdL ((rdC z).2.1,true)).1 (rdL ((rdC z).2.1,true)).2 from by unfold rdF; rw [hT],show rdL ((rdC z).2.1,true) = rdC ((rdC z).2.1,true) from if_neg hl]
   refine KA (oM (oM ?_));refine LOps.step rfl (Ka (first:=[]) (caps:=[]) rfl en_95 rfl (Nb rfl) sR wK (fun w hH hd=>c_rdB rb (rdC ((rdC z).2.1,true)).1 (rdC ((rdC z).2.1,true)).2 w hH hd) ?_)
   rintro _ _ ⟨rfl,rfl⟩
   refine oA (KC (KK ?_));refine ⟨[_],.cons rfl .nil,fun a w' hr=>⟨_,_,⟨rfl,rfl⟩,rfl,hr.out mS rfl⟩⟩
  refine KA (oM ?_);refine LOps.step rfl (Ka (first:=[]) (caps:=[]) rfl en_94 rfl (Nb rfl) sR wK (fun w hH hd=>c_rdC rb z w hH hd) ?_)
  rintro _ _ ⟨rfl,rfl⟩
  refine oM ?_;refine oP (KF (v:=.bool false) rfl rfl (br_f KAX om)) ?_;refine KC ?_;refine KJ rfl ?_;refine KN (KB ?_)
  have hT:rdT tag z = (rdC z).2:=if_neg h0
  refine KA (oM ?_);refine LOps.step rfl (Ka (first:=[]) (caps:=[]) rfl en_94 rfl (Nb rfl) sR wK (fun w hH hd=>c_rdC rb (rdC z).2 w hH hd) ?_)
  rintro _ _ ⟨rfl,rfl⟩
  refine oA (KC (KB (KB ?_)))
  rcases (show (rdC (rdC z).2).1 = 129∨(rdC (rdC z).2).1≠129 by omega) with hl|hl
  ·
   refine KA (oM ?_);refine oP (KF (v:=.bool true) rfl rfl (br_t (KAE (b:=129)) om)) ?_;refine KC ?_;refine KT rfl ?_
   rw [show rdF tag z = rdB (rdL (rdC z).2).1 (rdL (rdC z).2).2 from by unfold rdF; rw [hT],show rdL (rdC z).2 = rdC (rdC (rdC z).2).2 from if_pos hl]
   refine KA (oM ?_);refine LOps.step rfl (Ka (first:=[]) (caps:=[]) rfl en_94 rfl (Nb rfl) sR wK (fun w hH hd=>c_rdC rb (rdC (rdC z).2).2 w hH hd) ?_)
   rintro _ _ ⟨rfl,rfl⟩
   refine oA (KC (KB (KA (oM (oM ?_)))));refine LOps.step rfl (Ka (first:=[]) (caps:=[]) rfl en_95 rfl (Nb rfl) sR wK (fun w hH hd=>c_rdB rb (rdC (rdC (rdC z).2).2).1 (rdC (rdC (rdC z).2).2).2 w hH hd) ?_)
   rintro _ _ ⟨rfl,rfl⟩
   refine oA (KC (KK ?_));refine ⟨[_],.cons rfl .nil,fun a w' hr=>⟨_,_,⟨rfl,rfl⟩,rfl,hr.out mS rfl⟩⟩
  refine KA (oM ?_);refine oP (KF (v:=.bool false) rfl rfl (br_f (KAE (b:=129)) om)) ?_;refine KC ?_;refine KJ rfl ?_;refine KN (KB ?_)
  rw [show rdF tag z = rdB (rdL (rdC z).2).1 (rdL (rdC z).2).2 from by unfold rdF; rw [hT],show rdL (rdC z).2 = rdC (rdC z).2 from if_neg hl]
  refine KA (oM (oM ?_));refine LOps.step rfl (Ka (first:=[]) (caps:=[]) rfl en_95 rfl (Nb rfl) sR wK (fun w hH hd=>c_rdB rb (rdC (rdC z).2).1 (rdC (rdC z).2).2 w hH hd) ?_)
  rintro _ _ ⟨rfl,rfl⟩
  refine oA (KC (KK ?_));refine ⟨[_],.cons rfl .nil,fun a w' hr=>⟨_,_,⟨rfl,rfl⟩,rfl,hr.out mS rfl⟩⟩
theorem c_nat_OfLong (s:ByteArray) (w:World) (h:72<s.size) (h2:s.size<256):Calls Tryz.prog 49 ([.string s]:List Value).toArray w (fun e w'=>e = .returned (.tuple #[natV 0,.int .i64 ((100:Nat):Int)])∧Below w.heap.size w w'):=by
  have h1:=c_nat_Of s om w
  rwa [if_pos h] at h1
theorem c_rdN (rb:Nat) (z:ByteArray×Bool) (w:World) (hH:∀ x,x∈([.blk rb ⟨true,[.string z.1,.bool z.2],107,(0,0)⟩]++[]:List Item)→x.holds w) (hd:([.blk rb ⟨true,[.string z.1,.bool z.2],107,(0,0)⟩]++[]:List Item).Pairwise Apart)  : Calls Tryz.prog 51 ([.pointer (some ⟨rb,0,none⟩)]:List Value).toArray w (fun e w'=>∃ (u:Value) (x':Item),(u = natV (rdN z).1∧x' = .blk rb ⟨true,[.string (rdN z).2.1,.bool (rdN z).2.2],107,(0,0)⟩)∧e = .returned u∧Outcome w [.blk rb ⟨true,[.string z.1,.bool z.2],107,(0,0)⟩] [x'] w'):=by
  have hz:=rdF_size 2 z
  refine KAO [.blk rb ⟨true,[.string z.1,.bool z.2],107,(0,0)⟩] (N:=29) (rs:=[.cell 2 33]) Tryz.func51 rfl Tryz.ntmps51 Tryz.results51 (Nb rfl) hH hd rfl rfl ?_
  refine KB (KA ?_);refine oS (mk (KM zr_33) (fun b2=>?_));refine KC (KB (KA (oM ?_)));refine LOps.step rfl (Ka (first:=[]) (caps:=[]) rfl en_50 rfl (Nb rfl) sR wK (fun w hH hd=>c_rdF rb 2 z w hH hd) ?_)
  rintro _ _ ⟨rfl,rfl⟩
  refine oA (KC (KB (KB ?_)))
  rcases (show ¬ 1<(rdF 2 z).1.size∨(1<(rdF 2 z).1.size∧b0 (rdF 2 z).1≠0)∨(1<(rdF 2 z).1.size∧b0 (rdF 2 z).1 = 0) by omega) with h1|⟨h1,h2⟩|⟨h1,h2⟩
  ·
   refine KA (oM ?_);refine oP (KAU u9 rfl) ?_;refine oP (KF (v:=.bool false) rfl rfl (br_f (br_gtr (b:=1)) om)) ?_;refine oM ?_;refine oK ?_;refine oK ?_;refine oK ?_;refine oP (KV rfl rfl) ?_;refine KC ?_;refine KJ rfl ?_;refine KN (KB ?_)
   rcases (show 72<((rdF 2 z).1).size∨¬ 72<((rdF 2 z).1).size by omega) with hq|hq
   ·
    have hM:rdM (rdF 2 z).1 = (rdF 2 z).1:=if_neg (fun h=>h1 h.1)
    refine KA (oM ?_);refine oS (cF rfl en_49 rfl (fun w hw=>c_nat_OfLong ((rdF 2 z).1) w hq (by have:=rdM_size hz; rw [hM] at this; exact this)) ?_);refine oM ?_;refine oP (Det.extract rfl rfl) ?_;refine oP (Det.extract rfl rfl) ?_;refine oS (mk (KM zr_33) (fun b4=>?_));refine LOps.step rfl (sA rfl rfl sz_33 mO (hl:=mL) (h:=?_));refine oA (KC (KB (KB (KA (oM ?_)))));refine oP (KF (v:=.bool true) rfl rfl (br_t (KAX (b:=0)) dc)) ?_;refine KC ?_;refine KT rfl ?_;refine KA (oM ?_);refine oP (KG rfl) ?_;refine oP (KD (o':=1) u107 rfl rfl rfl sz_4 dc) ?_;refine LOps.step rfl (KW rfl rfl rfl sz_4 (by repeat (first|exact Sh _|apply St_)) (by first|(simp only [KQ,KH,Kc,Ko]; omega)|(simp; done)|(simp; omega)) (by first|exact Kz _ _ _ _ _|exact KAF _ _ _ _ om|exact KAD _ _ _ _|rfl) (by simp) ?_);refine KC (KB ?_)
    rw [show rdN z = (0,(rdF 2 z).2.1,true) from by unfold rdN; rw [hM,if_pos hq]]
    dsimp only
    refine KA ?_;refine oD dNa ?_;refine LOps.step rfl (sA rfl rfl sz_33 mO (hl:=mL) (h:=?_));refine KC (KK ?_);refine ⟨[_],.cons ⟨_,_,_,rfl,mM,by exact KE u33 rfl sz_33⟩ .nil,fun a w' hr=>⟨_,_,⟨rfl,rfl⟩,rfl,hr.out mS rfl⟩⟩
   have hM:rdM (rdF 2 z).1 = (rdF 2 z).1:=if_neg (fun h=>h1 h.1)
   refine KA (oM ?_);refine oS (cF rfl en_49 rfl (fun w hw=>c_nat_OfOK ((rdF 2 z).1) w om) ?_);refine oM ?_;refine oP (Det.extract rfl rfl) ?_;refine oP (Det.extract rfl rfl) ?_;refine oS (mk (KM zr_33) (fun b4=>?_));refine LOps.step rfl (sA rfl rfl sz_33 mO (hl:=mL) (h:=?_));refine oA (KC (KB (KB (KA (oM ?_)))));refine oP (KF (v:=.bool false) rfl rfl (br_f (KAX (b:=0)) dc)) ?_;refine KC ?_;refine KJ rfl ?_;refine KN (KB ?_)
   rw [show rdN z = (beVal ((rdF 2 z).1).data.toList,(rdF 2 z).2) from by unfold rdN; rw [hM,if_neg hq]]
   dsimp only
   refine KA ?_;refine oD dNa ?_;refine LOps.step rfl (sA rfl rfl sz_33 mO (hl:=mL) (h:=?_));refine KC (KK ?_);refine ⟨[_],.cons ⟨_,_,_,rfl,mM,by exact KE u33 rfl sz_33⟩ .nil,fun a w' hr=>⟨_,_,⟨rfl,rfl⟩,rfl,hr.out mS rfl⟩⟩
  ·
   refine KA (oM ?_);refine oP (KAU u9 rfl) ?_;refine oP (KF (v:=.bool true) rfl rfl (br_t (br_gtr (b:=1)) om)) ?_;refine oM ?_;refine oGM ?_;refine oGP (KL (KAJ u9 rfl rfl om om) (show _ = Value.int .u8 ((b0 (rdF 2 z).1:Nat):Int) from rfl)) ?_;refine oGP (KF (v:=.bool false) rfl rfl (br_f (KAE (b:=0)) om)) ?_;refine oP (Kh rfl rfl) ?_;refine KC ?_;refine KJ rfl ?_;refine KN (KB ?_)
   rcases (show 72<((rdF 2 z).1).size∨¬ 72<((rdF 2 z).1).size by omega) with hq|hq
   ·
    have hM:rdM (rdF 2 z).1 = (rdF 2 z).1:=if_neg (fun h=>h2 h.2)
    refine KA (oM ?_);refine oS (cF rfl en_49 rfl (fun w hw=>c_nat_OfLong ((rdF 2 z).1) w hq (by have:=rdM_size hz; rw [hM] at this; exact this)) ?_);refine oM ?_;refine oP (Det.extract rfl rfl) ?_;refine oP (Det.extract rfl rfl) ?_;refine oS (mk (KM zr_33) (fun b4=>?_));refine LOps.step rfl (sA rfl rfl sz_33 mO (hl:=mL) (h:=?_));refine oA (KC (KB (KB (KA (oM ?_)))));refine oP (KF (v:=.bool true) rfl rfl (br_t (KAX (b:=0)) dc)) ?_;refine KC ?_;refine KT rfl ?_;refine KA (oM ?_);refine oP (KG rfl) ?_;refine oP (KD (o':=1) u107 rfl rfl rfl sz_4 dc) ?_;refine LOps.step rfl (KW rfl rfl rfl sz_4 (by repeat (first|exact Sh _|apply St_)) (by first|(simp only [KQ,KH,Kc,Ko]; omega)|(simp; done)|(simp; omega)) (by first|exact Kz _ _ _ _ _|exact KAF _ _ _ _ om|exact KAD _ _ _ _|rfl) (by simp) ?_);refine KC (KB ?_)
    rw [show rdN z = (0,(rdF 2 z).2.1,true) from by unfold rdN; rw [hM,if_pos hq]]
    dsimp only
    refine KA ?_;refine oD dNa ?_;refine LOps.step rfl (sA rfl rfl sz_33 mO (hl:=mL) (h:=?_));refine KC (KK ?_);refine ⟨[_],.cons ⟨_,_,_,rfl,mM,by exact KE u33 rfl sz_33⟩ .nil,fun a w' hr=>⟨_,_,⟨rfl,rfl⟩,rfl,hr.out mS rfl⟩⟩
   have hM:rdM (rdF 2 z).1 = (rdF 2 z).1:=if_neg (fun h=>h2 h.2)
   refine KA (oM ?_);refine oS (cF rfl en_49 rfl (fun w hw=>c_nat_OfOK ((rdF 2 z).1) w om) ?_);refine oM ?_;refine oP (Det.extract rfl rfl) ?_;refine oP (Det.extract rfl rfl) ?_;refine oS (mk (KM zr_33) (fun b4=>?_));refine LOps.step rfl (sA rfl rfl sz_33 mO (hl:=mL) (h:=?_));refine oA (KC (KB (KB (KA (oM ?_)))));refine oP (KF (v:=.bool false) rfl rfl (br_f (KAX (b:=0)) dc)) ?_;refine KC ?_;refine KJ rfl ?_;refine KN (KB ?_)
   rw [show rdN z = (beVal ((rdF 2 z).1).data.toList,(rdF 2 z).2) from by unfold rdN; rw [hM,if_neg hq]]
   dsimp only
   refine KA ?_;refine oD dNa ?_;refine LOps.step rfl (sA rfl rfl sz_33 mO (hl:=mL) (h:=?_));refine KC (KK ?_);refine ⟨[_],.cons ⟨_,_,_,rfl,mM,by exact KE u33 rfl sz_33⟩ .nil,fun a w' hr=>⟨_,_,⟨rfl,rfl⟩,rfl,hr.out mS rfl⟩⟩
  refine KA (oM ?_);refine oP (KAU u9 rfl) ?_;refine oP (KF (v:=.bool true) rfl rfl (br_t (br_gtr (b:=1)) om)) ?_;refine oM ?_;refine oGM ?_;refine oGP (KL (KAJ u9 rfl rfl om om) (show _ = Value.int .u8 ((b0 (rdF 2 z).1:Nat):Int) from rfl)) ?_;refine oGP (KF (v:=.bool true) rfl rfl (br_t (KAE (b:=0)) om)) ?_;refine oP (Kh rfl rfl) ?_;refine KC ?_;refine KT rfl ?_
  have hM:rdM (rdF 2 z).1 = (rdF 2 z).1.extract 1 (rdF 2 z).1.size:=if_pos ⟨h1,h2⟩
  refine KA (oM ?_);refine oP (KL (Det.slStrL u9 rfl rfl om om) (show _ = Value.string ((rdF 2 z).1.extract 1 (rdF 2 z).1.size) from rfl)) ?_;refine oA (KC (KB ?_))
  rcases (show 72<((rdF 2 z).1.extract 1 (rdF 2 z).1.size).size∨¬ 72<((rdF 2 z).1.extract 1 (rdF 2 z).1.size).size by omega) with hq|hq
  ·
   refine KA (oM ?_);refine oS (cF rfl en_49 rfl (fun w hw=>c_nat_OfLong ((rdF 2 z).1.extract 1 (rdF 2 z).1.size) w hq (by have:=rdM_size hz; rw [hM] at this; exact this)) ?_);refine oM ?_;refine oP (Det.extract rfl rfl) ?_;refine oP (Det.extract rfl rfl) ?_;refine oS (mk (KM zr_33) (fun b4=>?_));refine LOps.step rfl (sA rfl rfl sz_33 mO (hl:=mL) (h:=?_));refine oA (KC (KB (KB (KA (oM ?_)))));refine oP (KF (v:=.bool true) rfl rfl (br_t (KAX (b:=0)) dc)) ?_;refine KC ?_;refine KT rfl ?_;refine KA (oM ?_);refine oP (KG rfl) ?_;refine oP (KD (o':=1) u107 rfl rfl rfl sz_4 dc) ?_;refine LOps.step rfl (KW rfl rfl rfl sz_4 (by repeat (first|exact Sh _|apply St_)) (by first|(simp only [KQ,KH,Kc,Ko]; omega)|(simp; done)|(simp; omega)) (by first|exact Kz _ _ _ _ _|exact KAF _ _ _ _ om|exact KAD _ _ _ _|rfl) (by simp) ?_);refine KC (KB ?_)
   rw [show rdN z = (0,(rdF 2 z).2.1,true) from by unfold rdN; rw [hM,if_pos hq]]
   dsimp only
   refine KA ?_;refine oD dNa ?_;refine LOps.step rfl (sA rfl rfl sz_33 mO (hl:=mL) (h:=?_));refine KC (KK ?_);refine ⟨[_],.cons ⟨_,_,_,rfl,mM,by exact KE u33 rfl sz_33⟩ .nil,fun a w' hr=>⟨_,_,⟨rfl,rfl⟩,rfl,hr.out mS rfl⟩⟩
  refine KA (oM ?_);refine oS (cF rfl en_49 rfl (fun w hw=>c_nat_OfOK ((rdF 2 z).1.extract 1 (rdF 2 z).1.size) w om) ?_);refine oM ?_;refine oP (Det.extract rfl rfl) ?_;refine oP (Det.extract rfl rfl) ?_;refine oS (mk (KM zr_33) (fun b4=>?_));refine LOps.step rfl (sA rfl rfl sz_33 mO (hl:=mL) (h:=?_));refine oA (KC (KB (KB (KA (oM ?_)))));refine oP (KF (v:=.bool false) rfl rfl (br_f (KAX (b:=0)) dc)) ?_;refine KC ?_;refine KJ rfl ?_;refine KN (KB ?_)
  rw [show rdN z = (beVal ((rdF 2 z).1.extract 1 (rdF 2 z).1.size).data.toList,(rdF 2 z).2) from by unfold rdN; rw [hM,if_neg hq]]
  dsimp only
  refine KA ?_;refine oD dNa ?_;refine LOps.step rfl (sA rfl rfl sz_33 mO (hl:=mL) (h:=?_));refine KC (KK ?_);refine ⟨[_],.cons ⟨_,_,_,rfl,mM,by exact KE u33 rfl sz_33⟩ .nil,fun a w' hr=>⟨_,_,⟨rfl,rfl⟩,rfl,hr.out mS rfl⟩⟩
theorem c_derN (X:Nat) (hX:X<W9) (w:World)  : Calls Tryz.prog 53 ([natV X]:List Value).toArray w (fun e w'=>e = .returned (.string (derN X))∧Below w.heap.size w w'):=by
  have hbl:=blen_w9e hX
  have hsz:(strOf (KAT (max 1 ((blen X+7)/8)) X)).size = max 1 ((blen X+7)/8):=str_size _ _
  refine KZ (N:=21) (rs:=[.tmp 2]) [] Tryz.func53 rfl Tryz.ntmps53 Tryz.results53 (Nb rfl) trivial rfl ?_
  refine KB (KA ?_);refine oS (mB (fun b1=>?_));refine oA (KC (KB ?_));refine rD [] ?_;refine aD 0 rfl dNa ?_;refine aD 1 rfl dNa ?_;refine aO 2 rfl (cF rfl en_81 rfl (fun w hw=>c_nat_Bits X hX w) ?_);refine aP 3 rfl (KF rfl rfl (Kp (b:=7) om)) ?_;refine aP 4 rfl (KL (KF rfl rfl (br_quo (b:=8) dc om)) (show _ = .int .i64 (((blen X+7)/8:Nat):Int) from rfl)) ?_;refine aP 5 rfl (KL (Det.max rfl rfl) (show _ = .int .i64 ((max 1 ((blen X+7)/8):Nat):Int) by congr 1; split <;> omega)) ?_;refine aO 6 rfl (cF rfl en_47 rfl (fun w hw=>c_nat_BytesOK X (max 1 ((blen X+7)/8)) w hX om om) ?_);refine aM 7 ?_;refine aP 8 rfl (Det.extract rfl rfl) ?_;refine aP 9 rfl (Det.extract rfl rfl) ?_;refine aA 10 ?_;refine aA 11 ?_;refine aE ?_;refine KB (KB ?_)
  rcases (show 128≤b0 (derN0 X)∨¬ 128≤b0 (derN0 X) by omega) with h1|h1
  ·
   refine KA (oM ?_);refine oP (KL (KAJ u9 rfl rfl om (show _ by rw [hsz]; omega)) (show _ = Value.int .u8 ((b0 (derN0 X):Nat):Int) from rfl)) ?_;refine oP (KF (v:=.bool true) rfl rfl (br_t (br_geq (b:=128)) om)) ?_;refine KC ?_;refine KT rfl ?_
   rw [show derN X = toS [0]++derN0 X from if_pos h1]
   refine KA (oM ?_);refine oP (Det.cat rfl rfl (by rw [hsz]; show 1+_≤_; omega)) ?_;refine oA (KC (KB (KA (oM (oA (KC (KK ?_)))))));refine ⟨[_],.cons rfl .nil,fun a w' hr=>⟨?_,hr.fr.below⟩⟩
   rfl
  refine KA (oM ?_);refine oP (KL (KAJ u9 rfl rfl om (show _ by rw [hsz]; omega)) (show _ = Value.int .u8 ((b0 (derN0 X):Nat):Int) from rfl)) ?_;refine oP (KF (v:=.bool false) rfl rfl (br_f (br_geq (b:=128)) om)) ?_;refine KC ?_;refine KJ rfl ?_;refine KN (KB ?_)
  rw [show derN X = derN0 X from if_neg h1]
  refine KA (oM (oA (KC (KK ?_))));refine ⟨[_],.cons rfl .nil,fun a w' hr=>⟨?_,hr.fr.below⟩⟩
  rfl
theorem c_derF (t0:Nat) (s:ByteArray) (ht:t0<256) (hs:s.size≤1000) (w:World)  : Calls Tryz.prog 52 ([.int .u8 ((t0:Nat):Int),.string s]:List Value).toArray w (fun e w'=>e = .returned (.string (derF t0 s))∧Below w.heap.size w w'):=by
  refine KZ (N:=24) (rs:=[.tmp 4]) [] Tryz.func52 rfl Tryz.ntmps52 Tryz.results52 (Nb rfl) trivial rfl ?_
  refine KB (KA (oA (KC (KB (KB (KA (oM ?_)))))));refine oP (KAU u9 rfl) ?_;refine oP (KF rfl rfl (KAC (b:=128))) ?_;refine KC ?_
  first|refine KR rfl (fun h7=>?_) (fun h7=>?_)|refine KS rfl (fun h7=>?_) (fun h7=>?_)
  ·
   have h7:s.size<128:=by have:=h7; omega
   rw [show derF t0 s = toS [t0,s.size%256]++s from by unfold derF; rw [if_pos h7]]
   refine KB (KA (oM (oM ?_)));refine oP (KAU u9 rfl) ?_;refine oP (Det.conv8 u3 u5 rfl) ?_;refine oS (mk (KAW u70 inf_5 rfl rfl rfl rfl dc rfl) (fun b12=>?_));refine oD (Det.cast (Det.bytesStr (f:=fun i=>if i = 0 then t0 else s.size%256) u70 u5 u9 rfl mM rfl) (show _ = Value.string (toS [t0,s.size%256]) from rfl)) ?_;refine oM ?_;refine oP (Det.cat rfl rfl (by rw [KAS]; simp only [List.length_cons,List.length_nil]; omega)) ?_;refine oA (KC (KK ?_));refine ⟨[_],.cons rfl .nil,fun a w' hr=>⟨?_,hr.fr.below⟩⟩
   rfl
  have h7:¬ s.size<128:=by have:=h7; omega
  rw [show derF t0 s = toS [t0,129,s.size%256]++s from by unfold derF; rw [if_neg h7]]
  refine KN (KB (KA (oM (oM ?_))));refine oP (KAU u9 rfl) ?_;refine oP (Det.conv8 u3 u5 rfl) ?_;refine oS (mk (KAW u70 inf_5 rfl rfl rfl rfl dc rfl) (fun b20=>?_));refine oD (Det.cast (Det.bytesStr (f:=fun i=>if i = 0 then t0 else if i = 1 then 129 else s.size%256) u70 u5 u9 rfl mM rfl) (show _ = Value.string (toS [t0,129,s.size%256]) from rfl)) ?_;refine oM ?_;refine oP (Det.cat rfl rfl (by rw [KAS]; simp only [List.length_cons,List.length_nil]; omega)) ?_;refine oA (KC (KK ?_));refine ⟨[_],.cons rfl .nil,fun a w' hr=>⟨?_,hr.fr.below⟩⟩
  rfl
theorem c_derPut (R T:Nat) (hR:R<W9) (hT:T<W9) (w:World)  : Calls Tryz.prog 19 ([sgV R T]:List Value).toArray w (fun e w'=>e = .returned (.string (derPut R T))∧Below w.heap.size w w'):=by
  have h1:=derN_size hR
  have h2:=derN_size hT
  have h3:=derF_size 2 (derN R)
  have h4:=derF_size 2 (derN T)
  refine KZ (N:=13) (rs:=[.tmp 2]) [] Tryz.func19 rfl Tryz.ntmps19 Tryz.results19 (Nb rfl) trivial rfl ?_
  refine KB (KA ?_);refine oS (mB (fun b1=>?_));refine oA (KC (KB ?_));refine rD [] ?_;refine aP 0 rfl (KD (o':=0) u37 rfl rfl rfl sz_33 dc) ?_;refine aD 1 rfl (dL rfl (hv:=by exact Kt u33 rfl sz_33 rfl (KH _))) ?_;refine aP 4 rfl (KD (o':=9) u37 rfl rfl rfl sz_33 dc) ?_;refine aD 5 rfl (dL rfl (hv:=by exact LoadV.last u33 rfl sz_33 rfl (KH _) (KH _))) ?_;refine aO 2 rfl (cF rfl en_53 rfl (fun w hw=>c_derN R hR w) ?_);refine aO 3 rfl (cF rfl en_52 rfl (fun w hw=>c_derF 2 (derN R) dc om w) ?_);refine aO 6 rfl (cF rfl en_53 rfl (fun w hw=>c_derN T hT w) ?_);refine aO 7 rfl (cF rfl en_52 rfl (fun w hw=>c_derF 2 (derN T) dc om w) ?_);refine aP 8 rfl (Det.cat rfl rfl om) ?_;refine aO 9 rfl (cF rfl en_52 rfl (fun w hw=>c_derF 48 (derF 2 (derN R)++derF 2 (derN T)) dc (by rw [ByteArray.size_append]; omega) w) ?_);refine aA 10 ?_;refine aE ?_
  refine KK ?_;refine ⟨[_],.cons rfl .nil,fun a w' hr=>⟨?_,hr.fr.below⟩⟩
  rfl
theorem beS_w9 (f:ByteArray) (h:f.size≤72):beVal f.data.toList<W9:=beVal_w9 (by show f.size≤72; exact h)
theorem rdN_lt (z:ByteArray×Bool):(rdN z).1<W9:=by
  unfold rdN
  split
  · exact w9_pos
  · next h =>
    dsimp only
    exact beS_w9 _ (Nat.le_of_not_lt h)
theorem ne_str {a b:ByteArray} (h:a≠b):(!(a.toList == b.toList)) = true:=by
  rw [eq_str]
  simp only [Bool.not_eq_true',decide_eq_false_iff_not]
  intro e
  exact h (by cases a; cases b; congr 1; exact Array.toList_inj.1 e)
theorem same_str (a:ByteArray):(!(a.toList == a.toList)) = false:=by simp
theorem c_derGetX (s:ByteArray) (F:ByteArray×ByteArray×Bool) (A B:Nat×ByteArray×Bool) (w:World) (hF:rdF 48 (s,false) = F) (hA:rdN (F.1,false) = A) (hB:rdN A.2 = B) (hs:F.2.2 = true∨B.2.2 = true∨derPut A.1 B.1≠s):Calls Tryz.prog 18 ([.string s]:List Value).toArray w (fun e w'=>e = .returned (.tuple #[sgV 0 0,.int .i64 ((2200:Nat):Int)])∧Below w.heap.size w w'):=by
  have hAw:A.1<W9:=hA ▸ rdN_lt _
  have hBw:B.1<W9:=hB ▸ rdN_lt _
  refine KZ (N:=38) (rs:=[.cell 2 37,.tmp 3]) [] Tryz.func18 rfl Tryz.ntmps18 Tryz.results18 (Nb rfl) trivial rfl ?_
  refine KB (KA ?_);refine oS (mk (KM zr_37) (fun b2=>?_));refine oP (KO (v:=.int .i64 ((0:Nat):Int)) rfl) ?_;refine KC (KB (KA (oM ?_)));refine oP (Kg pl_107 zr_107 rfl (fT (r':=([Value.string s]++([Value.bool false]))) (fS (A:=([]:List Value)) (B:=([Value.string ⟨#[]⟩])) (D:=([Value.bool false])) (cs:=[Value.string s]) rfl))) ?_;refine oS (mB (fun b9=>?_));refine oA (KC (KB (KA (oM ?_))));refine LOps.step rfl (Ka (first:=[]) (caps:=[]) rfl en_50 rfl (Nb rfl) sR wK (fun w hH hd=>c_rdF b9 48 (s,false) w hH hd) ?_)
  rintro _ _ ⟨rfl,rfl⟩
  rw [hF]
  refine oP (Kg pl_107 zr_107 rfl (fT (r':=([Value.string F.1]++([Value.bool false]))) (fS (A:=([]:List Value)) (B:=([Value.string ⟨#[]⟩])) (D:=([Value.bool false])) (cs:=[Value.string F.1]) rfl))) ?_;refine oS (mB (fun b13=>?_));refine oA (KC (KB (KA (oM ?_))));refine LOps.step rfl (Ka (first:=[]) (caps:=[]) rfl en_51 rfl (Nb rfl) sR wK (fun w hH hd=>c_rdN b13 (F.1,false) w hH hd) ?_)
  rintro _ _ ⟨rfl,rfl⟩
  rw [hA]
  refine oP (Kg pl_37 zr_37 rfl (fT (r':=(natL A.1++(vec .u64 9 (fun _=>0)))) (fS (A:=([]:List Value)) (B:=(vec .u64 9 (fun _=>0))) (D:=(vec .u64 9 (fun _=>0))) (cs:=natL A.1) rfl))) ?_;refine oS (mk (KM zr_37) (fun b6=>?_));refine LOps.step rfl (sA rfl rfl sz_37 (by exact KAQ (KAA _) (vec_one _ _ _)) (hl:=by simp [KH,KQ]) (h:=?_));refine KC (KB ?_);refine LCode.sub (Sub.cells (b:=b6) (cs':=sgL A.1 0) (by repeat (first|exact Sh _|apply St_)) (by unfold sgL natL; rw [vec_zeros 9])) ?_;refine KA (oM ?_);refine LOps.step rfl (Ka (first:=[]) (caps:=[]) rfl en_51 rfl (Nb rfl) sR wK (fun w hH hd=>c_rdN b13 A.2 w hH hd) ?_)
  rintro _ _ ⟨rfl,rfl⟩
  rw [hB]
  refine oP (KD (o':=9) u37 rfl rfl rfl sz_33 dc) ?_;refine LOps.step rfl (Ks rfl rfl rfl sz_33 (KH _) (KAA _) (by repeat (first|exact Sh _|apply St_)) (by simp only [KAL]; decide) (sg_set1 _ _ _) (by simp) ?_);refine KC (KB (KB ?_))
  rcases (show (F.2.2 = false∧B.2.2 = false)∨(F.2.2 = false∧B.2.2 = true)∨F.2.2 = true by cases F.2.2 <;> cases B.2.2 <;> simp) with ⟨h1,h2⟩|⟨h1,h2⟩|h1
  ·
   rw [h1,h2]
   refine KA (oM ?_);refine oP (KG rfl) ?_;refine oP (KD (o':=1) u107 rfl rfl rfl sz_4 dc) ?_;refine oD (dL rfl (hv:=KI u4 rfl (by first|rfl|exact KU _ _ _ om|exact KX _ om|exact KY _ om|exact dv_m _ _ _ om))) ?_;refine oM ?_;refine oGM ?_;refine oGP (KG rfl) ?_;refine oGP (KD (o':=1) u107 rfl rfl rfl sz_4 dc) ?_;refine Ky rfl rfl (dL rfl (hv:=KI u4 rfl (by first|rfl|exact KU _ _ _ om|exact KX _ om|exact KY _ om|exact dv_m _ _ _ om))) (Nb rfl) ?_;refine oP (KV rfl rfl) ?_;refine oM ?_;refine Ky rfl rfl (dL rfl (hv:=by exact KE u37 rfl sz_37)) (Nb rfl) ?_;refine oGS (cF rfl en_19 rfl (fun w hw=>c_derPut A.1 B.1 hAw hBw w) ?_);refine oGM ?_;refine oGP (KL (Det.nes rfl rfl) (congrArg Value.bool (ne_str ((hs.resolve_left (by rw [h1]; simp)).resolve_left (by rw [h2]; simp))))) ?_;refine oP (KV rfl rfl) ?_;refine KC ?_;refine KT rfl ?_
   refine KB (KA ?_);refine oP (KL (Kg pl_37 zr_37 rfl rfl) (show _ = sgV 0 0 from sg_zero)) ?_;refine LOps.step rfl (sA rfl rfl sz_37 (by exact sgL_one _ _) (hl:=by exact KAL _ _) (h:=?_));refine oP (KO (v:=.int .i64 ((2200:Nat):Int)) rfl) ?_;refine KC (KK ?_);refine ⟨[_,_],.cons ⟨_,_,_,rfl,mM,by exact KE u37 rfl sz_37⟩ (.cons rfl .nil),fun a w' hr=>⟨?_,hr.fr.below⟩⟩
   rfl
  ·
   rw [h1,h2]
   refine KA (oM ?_);refine oP (KG rfl) ?_;refine oP (KD (o':=1) u107 rfl rfl rfl sz_4 dc) ?_;refine oD (dL rfl (hv:=KI u4 rfl (by first|rfl|exact KU _ _ _ om|exact KX _ om|exact KY _ om|exact dv_m _ _ _ om))) ?_;refine oM ?_;refine oGM ?_;refine oGP (KG rfl) ?_;refine oGP (KD (o':=1) u107 rfl rfl rfl sz_4 dc) ?_;refine Ky rfl rfl (dL rfl (hv:=KI u4 rfl (by first|rfl|exact KU _ _ _ om|exact KX _ om|exact KY _ om|exact dv_m _ _ _ om))) (Nb rfl) ?_;refine oP (KV rfl rfl) ?_;refine oM ?_;refine oK ?_;refine oK ?_;refine oK ?_;refine oK ?_;refine oP (Kh rfl rfl) ?_;refine KC ?_;refine KT rfl ?_;refine KB (KA ?_);refine oP (KL (Kg pl_37 zr_37 rfl rfl) (show _ = sgV 0 0 from sg_zero)) ?_;refine LOps.step rfl (sA rfl rfl sz_37 (by exact sgL_one _ _) (hl:=by exact KAL _ _) (h:=?_));refine oP (KO (v:=.int .i64 ((2200:Nat):Int)) rfl) ?_;refine KC (KK ?_)
   refine ⟨[_,_],.cons ⟨_,_,_,rfl,mM,by exact KE u37 rfl sz_37⟩ (.cons rfl .nil),fun a w' hr=>⟨?_,hr.fr.below⟩⟩
   rfl
  rw [h1]
  refine KA (oM ?_);refine oP (KG rfl) ?_;refine oP (KD (o':=1) u107 rfl rfl rfl sz_4 dc) ?_;refine oD (dL rfl (hv:=KI u4 rfl (by first|rfl|exact KU _ _ _ om|exact KX _ om|exact KY _ om|exact dv_m _ _ _ om))) ?_;refine oM ?_;refine oK ?_;refine oK ?_;refine oK ?_;refine oK ?_;refine oP (Kh rfl rfl) ?_;refine oM ?_;refine oK ?_;refine oK ?_;refine oK ?_;refine oK ?_;refine oP (Kh rfl rfl) ?_;refine KC ?_;refine KT rfl ?_;refine KB (KA ?_);refine oP (KL (Kg pl_37 zr_37 rfl rfl) (show _ = sgV 0 0 from sg_zero)) ?_;refine LOps.step rfl (sA rfl rfl sz_37 (by exact sgL_one _ _) (hl:=by exact KAL _ _) (h:=?_));refine oP (KO (v:=.int .i64 ((2200:Nat):Int)) rfl) ?_;refine KC (KK ?_);refine ⟨[_,_],.cons ⟨_,_,_,rfl,mM,by exact KE u37 rfl sz_37⟩ (.cons rfl .nil),fun a w' hr=>⟨?_,hr.fr.below⟩⟩
  rfl
theorem c_derGetG (s:ByteArray) (F:ByteArray×ByteArray×Bool) (A B:Nat×ByteArray×Bool) (w:World) (hF:rdF 48 (s,false) = F) (hA:rdN (F.1,false) = A) (hB:rdN A.2 = B) (hs:F.2.2 = false∧B.2.2 = false∧derPut A.1 B.1 = s):Calls Tryz.prog 18 ([.string s]:List Value).toArray w (fun e w'=>e = .returned (.tuple #[sgV A.1 B.1,.int .i64 ((0:Nat):Int)])∧Below w.heap.size w w'):=by
  have hAw:A.1<W9:=hA ▸ rdN_lt _
  have hBw:B.1<W9:=hB ▸ rdN_lt _
  refine KZ (N:=38) (rs:=[.cell 2 37,.tmp 3]) [] Tryz.func18 rfl Tryz.ntmps18 Tryz.results18 (Nb rfl) trivial rfl ?_
  refine KB (KA ?_);refine oS (mk (KM zr_37) (fun b2=>?_));refine oP (KO (v:=.int .i64 ((0:Nat):Int)) rfl) ?_;refine KC (KB (KA (oM ?_)));refine oP (Kg pl_107 zr_107 rfl (fT (r':=([Value.string s]++([Value.bool false]))) (fS (A:=([]:List Value)) (B:=([Value.string ⟨#[]⟩])) (D:=([Value.bool false])) (cs:=[Value.string s]) rfl))) ?_;refine oS (mB (fun b9=>?_));refine oA (KC (KB (KA (oM ?_))));refine LOps.step rfl (Ka (first:=[]) (caps:=[]) rfl en_50 rfl (Nb rfl) sR wK (fun w hH hd=>c_rdF b9 48 (s,false) w hH hd) ?_)
  rintro _ _ ⟨rfl,rfl⟩
  rw [hF]
  refine oP (Kg pl_107 zr_107 rfl (fT (r':=([Value.string F.1]++([Value.bool false]))) (fS (A:=([]:List Value)) (B:=([Value.string ⟨#[]⟩])) (D:=([Value.bool false])) (cs:=[Value.string F.1]) rfl))) ?_;refine oS (mB (fun b13=>?_));refine oA (KC (KB (KA (oM ?_))));refine LOps.step rfl (Ka (first:=[]) (caps:=[]) rfl en_51 rfl (Nb rfl) sR wK (fun w hH hd=>c_rdN b13 (F.1,false) w hH hd) ?_)
  rintro _ _ ⟨rfl,rfl⟩
  rw [hA]
  refine oP (Kg pl_37 zr_37 rfl (fT (r':=(natL A.1++(vec .u64 9 (fun _=>0)))) (fS (A:=([]:List Value)) (B:=(vec .u64 9 (fun _=>0))) (D:=(vec .u64 9 (fun _=>0))) (cs:=natL A.1) rfl))) ?_;refine oS (mk (KM zr_37) (fun b6=>?_));refine LOps.step rfl (sA rfl rfl sz_37 (by exact KAQ (KAA _) (vec_one _ _ _)) (hl:=by simp [KH,KQ]) (h:=?_));refine KC (KB ?_);refine LCode.sub (Sub.cells (b:=b6) (cs':=sgL A.1 0) (by repeat (first|exact Sh _|apply St_)) (by unfold sgL natL; rw [vec_zeros 9])) ?_;refine KA (oM ?_);refine LOps.step rfl (Ka (first:=[]) (caps:=[]) rfl en_51 rfl (Nb rfl) sR wK (fun w hH hd=>c_rdN b13 A.2 w hH hd) ?_)
  rintro _ _ ⟨rfl,rfl⟩
  rw [hB]
  refine oP (KD (o':=9) u37 rfl rfl rfl sz_33 dc) ?_;refine LOps.step rfl (Ks rfl rfl rfl sz_33 (KH _) (KAA _) (by repeat (first|exact Sh _|apply St_)) (by simp only [KAL]; decide) (sg_set1 _ _ _) (by simp) ?_);refine KC (KB (KB ?_))
  obtain ⟨h1,h2,h3⟩:=hs
  rw [h1,h2]
  refine KA (oM ?_);refine oP (KG rfl) ?_;refine oP (KD (o':=1) u107 rfl rfl rfl sz_4 dc) ?_;refine oD (dL rfl (hv:=KI u4 rfl (by first|rfl|exact KU _ _ _ om|exact KX _ om|exact KY _ om|exact dv_m _ _ _ om))) ?_;refine oM ?_;refine oGM ?_;refine oGP (KG rfl) ?_;refine oGP (KD (o':=1) u107 rfl rfl rfl sz_4 dc) ?_;refine Ky rfl rfl (dL rfl (hv:=KI u4 rfl (by first|rfl|exact KU _ _ _ om|exact KX _ om|exact KY _ om|exact dv_m _ _ _ om))) (Nb rfl) ?_;refine oP (KV rfl rfl) ?_;refine oM ?_;refine Ky rfl rfl (dL rfl (hv:=by exact KE u37 rfl sz_37)) (Nb rfl) ?_;refine oGS (cF rfl en_19 rfl (fun w hw=>c_derPut A.1 B.1 hAw hBw w) ?_);refine oGM ?_;refine oGP (KL (Det.nes rfl rfl) (congrArg Value.bool (show _ = false by rw [h3]; exact same_str s))) ?_;refine oP (KV rfl rfl) ?_;refine KC ?_;refine KJ rfl ?_;refine KN (KB (KA ?_));refine oD (dL rfl (hv:=by exact KE u37 rfl sz_37)) ?_
  refine LOps.step rfl (sA rfl rfl sz_37 (by exact sgL_one _ _) (hl:=by exact KAL _ _) (h:=?_));refine oP (KO (v:=.int .i64 ((0:Nat):Int)) rfl) ?_;refine KC (KK ?_);refine ⟨[_,_],.cons ⟨_,_,_,rfl,mM,by exact KE u37 rfl sz_37⟩ (.cons rfl .nil),fun a w' hr=>⟨?_,hr.fr.below⟩⟩
  rfl
open Classical in
noncomputable def derG (s:ByteArray):Nat×Nat×Nat:=if derBad s then (0,0,2200) else ((derA s).1,(derB s).1,0)
theorem c_derGet (s:ByteArray) (R T E:Nat) (w:World) (h:derG s = (R,T,E)):Calls Tryz.prog 18 ([.string s]:List Value).toArray w (fun e w'=>e = .returned (.tuple #[sgV R T,.int .i64 ((E:Nat):Int)])∧Below w.heap.size w w'):=by
  unfold derG at h
  split at h
  · next hb =>
    simp only [Prod.mk.injEq] at h
    obtain ⟨rfl,rfl,rfl⟩:=h
    unfold derBad at hb
    exact c_derGetX s _ (derA s) (derB s) w rfl (by unfold derA; exact Eq.refl _) (by unfold derB; exact Eq.refl _) hb
  · next hb =>
    simp only [Prod.mk.injEq] at h
    obtain ⟨rfl,rfl,rfl⟩:=h
    unfold derBad at hb
    refine c_derGetG s _ (derA s) (derB s) w rfl (by unfold derA; exact Eq.refl _) (by unfold derB; exact Eq.refl _) ⟨?_,?_,?_⟩
    · exact Bool.eq_false_iff.2 fun e=>hb (.inl e)
    · exact Bool.eq_false_iff.2 fun e=>hb (.inr (.inl e))
    · exact Classical.byContradiction fun e=>hb (.inr (.inr e))
open Grp
theorem bext {a b:ByteArray} (h:a.data.toList = b.data.toList):a = b:=by
  cases a; cases b; congr 1; exact Array.toList_inj.1 h
theorem cat_l (a b:ByteArray):(a++b).data.toList = a.data.toList++b.data.toList:=ByteArray.toList_data_append
theorem bsz (a:ByteArray):a.data.toList.length = a.size:=Array.length_toList
theorem ext_l (s:ByteArray) (i j:Nat):(s.extract i j).data.toList = (s.data.toList.take j).drop i:=ext_data s i j
theorem toS_l (l:List Nat):(toS l).data.toList = l.map UInt8.ofNat:=rfl
theorem cat_asc (a b c:ByteArray):a++b++c = a++(b++c):=bext (by simp only [cat_l,List.append_assoc])
theorem toS_cons (x:Nat) (l:List Nat):toS (x :: l) = toS [x]++toS l:=bext (by rw [cat_l,toS_l,toS_l,toS_l]; rfl)
theorem rdB_cat (a r:ByteArray) (b:Bool):rdB a.size (a++r,b) = (a,r,b):=by
  rw [rdB_f (by rw [ByteArray.size_append]; omega)]
  have e1:(a++r).extract 0 a.size = a:=bext (by rw [ext_l,cat_l,List.drop_zero,← bsz,List.take_left])
  have e2:(a++r).extract a.size (a++r).size = r:=bext (by rw [ext_l,← bsz (a++r),List.take_length,cat_l,← bsz a,List.drop_left])
  rw [e1,e2]
theorem rdC_cat {t:Nat} (ht:t<256) (r:ByteArray) (b:Bool):rdC (toS [t]++r,b) = (t,r,b):=by
  have e:=rdB_cat (toS [t]) r b
  rw [KAS] at e
  unfold rdC
  rw [show ([t]:List Nat).length = 1 from rfl] at e
  rw [e,if_neg (by rw [KAS]; simp)]
  have:b0 (toS [t]) = t:=by
    unfold b0
    rw [toS_l]
    show (UInt8.ofNat t).toNat = t
    rw [UInt8.toNat_ofNat']
    exact Nat.mod_eq_of_lt ht
  rw [this]
theorem rdT_cat {t:Nat} (ht:t<256) (r:ByteArray) (b:Bool):rdT t (toS [t]++r,b) = (r,b):=by
  unfold rdT
  rw [rdC_cat ht,if_neg (by simp)]
theorem rdF_derF {t:Nat} (ht:t<256) {s:ByteArray} (hs:s.size<256) (r:ByteArray) (b:Bool):rdF t (derF t s++r,b) = (s,r,b):=by
  have hm:s.size%256 = s.size:=Nat.mod_eq_of_lt hs
  unfold rdF derF
  by_cases h1:s.size<128
  · rw [if_pos h1,toS_cons,hm,cat_asc,cat_asc,rdT_cat ht]
    have:rdL (toS [s.size]++(s++r),b) = (s.size,s++r,b):=by
      unfold rdL
      rw [rdC_cat hs,if_neg (by dsimp only; omega)]
    rw [this]
    exact rdB_cat s r b
  · rw [if_neg h1,hm,toS_cons t [129,s.size],toS_cons 129 [s.size],cat_asc,cat_asc,cat_asc,rdT_cat ht]
    have:rdL (toS [129]++(toS [s.size]++(s++r)),b) = (s.size,s++r,b):=by
      unfold rdL
      rw [rdC_cat dc,if_pos rfl,rdC_cat hs]
    rw [this]
    exact rdB_cat s r b
theorem b0_bytes {n A:Nat} (hn:0<n):b0 (strOf (KAT n A)) = A/256^(n-1)%256:=by
  obtain ⟨k,rfl⟩:∃ k,n = k+1:=⟨n-1,by omega⟩
  unfold b0 strOf
  rw [beBytes_succ]
  show (UInt8.ofNat (A/256^k%256)).toNat = _
  rw [UInt8.toNat_ofNat']
  exact Nat.mod_mod _ _
theorem rdM_derN (X:Nat):rdM (derN X) = derN0 X:=by
  have hsz:(derN0 X).size = max 1 ((blen X+7)/8):=by unfold derN0; exact str_size _ _
  unfold rdM derN
  by_cases h:128≤b0 (derN0 X)
  · rw [if_pos h]
    have hb:b0 (toS [0]++derN0 X) = 0:=by
      unfold b0
      rw [cat_l,toS_l]
      rfl
    rw [if_pos ⟨by rw [ByteArray.size_append,KAS,hsz]; simp; omega,hb⟩]
    refine bext ?_
    rw [ext_l,← bsz (toS [0]++derN0 X),List.take_length,cat_l]
    rfl
  · rw [if_neg h]
    refine if_neg fun ⟨h1,h2⟩=>?_
    rw [hsz] at h1
    have hn:max 1 ((blen X+7)/8) = (blen X+7)/8:=by omega
    unfold derN0 at h2
    rw [hn,b0_bytes om] at h2
    rw [hn] at h1
    have hX:=lt_blen X
    have e1:X/256^((blen X+7)/8-1)<256:=by
      rw [Nat.div_lt_iff_lt_mul (Nat.pow_pos dc),← Nat.pow_succ',pow256]
      exact Nat.lt_of_lt_of_le hX (Nat.pow_le_pow_right dc om)
    rw [Nat.mod_eq_of_lt e1] at h2
    have e2:X<256^((blen X+7)/8-1):=by
      rcases Nat.div_eq_zero_iff.1 h2 with h3|h3
      · exact absurd h3 (Nat.ne_of_gt (Nat.pow_pos dc))
      · exact h3
    rw [pow256] at e2
    have:=blen_le e2
    omega
theorem derN0_val {X:Nat}:beVal (derN0 X).data.toList = X:=by
  unfold derN0
  show beVal (KAT _ X) = X
  rw [beVal_bytes]
  refine Nat.mod_eq_of_lt ?_
  rw [pow256]
  exact Nat.lt_of_lt_of_le (lt_blen X) (Nat.pow_le_pow_right dc om)
theorem rdN_derN {X:Nat} (hX:X<W9) (r:ByteArray) (b:Bool):rdN (derF 2 (derN X)++r,b) = (X,r,b):=by
  have h1:=derN_size hX
  have h2:(derN0 X).size≤72:=by
    have:=blen_w9e hX
    unfold derN0; rw [str_size]; omega
  unfold rdN
  rw [rdF_derF dc om,rdM_derN,if_neg om,derN0_val]
theorem derG_put {R T:Nat} (hR:R<W9) (hT:T<W9):derG (derPut R T) = (R,T,0):=by
  have h1:=derN_size hR
  have h2:=derN_size hT
  have h3:=derF_size 2 (derN R)
  have h4:=derF_size 2 (derN T)
  have e0:∀ s:ByteArray,s++(⟨#[]⟩:ByteArray) = s:=fun s=>bext (by rw [cat_l]; simp)
  have eF:rdF 48 (derPut R T,false) = (derF 2 (derN R)++derF 2 (derN T),⟨#[]⟩,false):=by
    have:=rdF_derF (t:=48) dc (s:=derF 2 (derN R)++derF 2 (derN T)) (by rw [ByteArray.size_append]; omega) ⟨#[]⟩ false
    rw [e0] at this
    exact this
  have eA:derA (derPut R T) = (R,derF 2 (derN T),false):=by
    unfold derA
    rw [eF]
    exact rdN_derN hR _ _
  have eB:derB (derPut R T) = (T,⟨#[]⟩,false):=by
    unfold derB
    rw [eA]
    have:=rdN_derN hT ⟨#[]⟩ false
    rw [e0] at this
    exact this
  have hb:¬ derBad (derPut R T):=by
    unfold derBad
    rw [eF,eA,eB]
    simp
  unfold derG
  rw [if_neg hb,eA,eB]
theorem ver_ok {V : Cv} (hok : V.Ok) {z D x : Nat} (hx : sgK V x) (ho : sgO V z D x) {Q : Pt V.p} (hQ : pmul V.A V.G D = Q) :
    verE V (dualP V (z*invM (sgS V z D x) V.n%V.n) (sgR V x*invM (sgS V z D x) V.n%V.n) Q) (sgR V x) = true:=by
  subst hQ
  have hn:=hok.order
  have hnp:0<V.n:=by have:=hn.1; omega
  have hS:sgS V z D x<V.n:=Nat.mod_lt _ hnp
  obtain ⟨hw1,hw2⟩:=invM_mul hn ho.2 hS
  obtain ⟨hi1,hi2⟩:=invM_mul hn hx.1 hx.2
  obtain ⟨w,hw⟩:∃ w,invM (sgS V z D x) V.n = w:=⟨_,rfl⟩
  obtain ⟨R,hR⟩:∃ R,sgR V x = R:=⟨_,rfl⟩
  have key:(z*w+R*w*D)%V.n = x%V.n:=by
    have e1:sgS V z D x*x%V.n = (z+R*D)%V.n:=by
      unfold sgS
      rw [hR,Nat.mod_mul_mod,Nat.add_mod_mod]
      have:(z+R*D)%V.n*invM x V.n*x%V.n = (z+R*D)*(x*invM x V.n)%V.n:=by
        rw [Nat.mul_assoc,Nat.mod_mul_mod,Nat.mul_comm (invM x V.n)]
      rw [this,Nat.mul_mod,hi2,Nat.mul_one,Nat.mod_mod]
    rw [hw] at hw2
    have e2:(z*w+R*w*D)%V.n = (z+R*D)*w%V.n:=by congr 1; rw [Nat.add_mul]; congr 1; ac_rfl
    rw [e2,← Nat.mod_mul_mod,← e1,Nat.mod_mul_mod]
    have e3:sgS V z D x*x*w = sgS V z D x*w*x:=by ac_rfl
    rw [e3,Nat.mul_mod,hw2,Nat.one_mul,Nat.mod_mod]
  have hP:dualP V (z*w%V.n) (R*w%V.n) (pmul V.A V.G D) = pmul V.A V.G x:=by
    have hon:=hok.on
    have hQ:=hok.mul hon D
    have hordQ:pmul V.A (pmul V.A V.G D) V.n = .inf:=by
      rw [← pmul_mul hok.crv hon,Nat.mul_comm,pmul_mul hok.crv hon,hok.ord]
      exact pmul_inf hok.fld (a:=V.A) (b:=V.B) D
    unfold dualP
    rw [← pmul_mod hok.crv hon hok.ord,← pmul_mod hok.crv hQ hordQ,← pmul_mul hok.crv hon,← pmul_add hok.crv hon,pmul_mod hok.crv hon hok.ord,Nat.mul_comm D,key,← pmul_mod hok.crv hon hok.ord]
  rw [hw,hR,hP]
  have hr:xv (pmul V.A V.G x)%V.n = R:=hR
  have hr0:R≠0:=hR ▸ ho.1
  unfold verE
  cases hp:pmul V.A V.G x with
  | inf =>
    rw [hp] at hr
    exact absurd (hr.symm.trans (Nat.zero_mod _)) hr0
  | aff a b =>
    rw [hp] at hr
    simp only [iv,Bool.not_false,Bool.true_and,decide_eq_true_eq]
    exact hr
theorem sgE_zero {V:Cv} {dk z D:Nat} {R T q2:Nat} {K2 U2:ByteArray} {n2:Nat}:∀ (q i:Nat) (K U:ByteArray) (n:Nat),sgE V dk z D q i K U n = ((R,T,q2,0),K2,U2,n2)→∃ x,sgK V x∧sgO V z D x∧R = sgR V x∧T = sgS V z D x
  | 0,i,K,U,n,h=>by
    have:(2604:Nat) = 0:=congrArg (fun x=>x.1.2.2.2) h
    omega
  | q+1,i,K,U,n,h=>by
    unfold sgE at h
    split at h
    · have:(2603:Nat) = 0:=congrArg (fun x=>x.1.2.2.2) h
      omega
    · split at h
      · next hx =>
        simp only [Prod.mk.injEq] at h
        exact ⟨_,hx.1,hx.2,h.1.1.symm,h.1.2.1.symm⟩
      · exact sgE_zero q _ _ _ _ h
theorem sgE_err {V:Cv} {dk z D:Nat}:∀ (q i:Nat) (K U:ByteArray) (n:Nat),(sgE V dk z D q i K U n).1.2.2.2 = 0∨(sgE V dk z D q i K U n).1.2.2.2 = 2603∨(sgE V dk z D q i K U n).1.2.2.2 = 2604
  | 0,i,K,U,n=>.inr (.inr rfl)
  | q+1,i,K,U,n=>by
    unfold sgE
    split
    · exact .inr (.inl rfl)
    · split
      · exact .inl rfl
      · exact sgE_err q _ _ _ _
theorem mkE_zero {V:Cv} {dk:Nat} {X q2:Nat} {K2 U2:ByteArray} {n2:Nat}:∀ (q i:Nat) (K U:ByteArray) (n:Nat),mkE V dk q i K U n = ((X,q2,0),K2,U2,n2)→sgK V X
  | 0,i,K,U,n,h=>by
    have:(2403:Nat) = 0:=congrArg (fun x=>x.1.2.2) h
    omega
  | q+1,i,K,U,n,h=>by
    unfold mkE at h
    split at h
    · have:(2402:Nat) = 0:=congrArg (fun x=>x.1.2.2) h
      omega
    · split at h
      · next hx =>
        simp only [Prod.mk.injEq] at h
        exact h.1.1 ▸ hx
      · exact mkE_zero q _ _ _ _ h
theorem mkE_err {V:Cv} {dk:Nat}:∀ (q i:Nat) (K U:ByteArray) (n:Nat),(mkE V dk q i K U n).1.2.2 = 0∨(mkE V dk q i K U n).1.2.2 = 2402∨(mkE V dk q i K U n).1.2.2 = 2403
  | 0,i,K,U,n=>.inr (.inr rfl)
  | q+1,i,K,U,n=>by
    unfold mkE
    split
    · exact .inr (.inl rfl)
    · split
      · exact .inl rfl
      · exact mkE_err q _ _ _ _
theorem mkE_size {V:Cv} {dk:Nat} (hdk:dk = 1∨dk = 2∨dk = 3∨dk = 4):∀ (q i:Nat) (K U:ByteArray) (n:Nat),K.size≤64→U.size≤64→(mkE V dk q i K U n).2.1.size≤64∧(mkE V dk q i K U n).2.2.1.size≤64
  | 0,i,K,U,n,h1,h2=>⟨h1,h2⟩
  | q+1,i,K,U,n,h1,h2=>by
    unfold mkE
    split
    · exact ⟨h1,h2⟩
    · split
      · exact genS_size hdk K h1 h2 _
      · exact mkE_size hdk q _ _ _ _ (genS_size hdk K h1 h2 _).1 (genS_size hdk K h1 h2 _).2
open Grp
theorem c_affMulR (id:Int) (V:Cv) (K:Nat) (P R:Pt V.p) (w:World) (h:cvI id = some V) (hP:On V.A V.B P) (hK:K<W9) (hR:pmul V.A P K = R):Calls Tryz.prog 30 ([.int .i64 id,natV K,ptP P]:List Value).toArray w (fun e w'=>e = .returned (.tuple #[ptP R,.int .i64 ((0:Nat):Int)])∧Below w.heap.size w w'):=hR ▸ c_affMul id V K P w h hP hK
def shS (s:ByteArray) (k:Nat):ByteArray:=if k<s.size then s.extract 0 k else s
theorem shS_size (s:ByteArray) (k:Nat):(shS s k).size≤k:=by
  unfold shS
  split
  · rw [ByteArray.size_extract]; omega
  · omega
theorem c_rawPutOK (id:Int) (V:Cv) (R T:Nat) (w:World) (h:cvI id = some V) (hW:V.n<W9) (hR:R<V.n) (hT:T<V.n):Calls Tryz.prog 16 ([.int .i64 id,sgV R T]:List Value).toArray w (fun e w'=>e = .returned (.tuple #[.string (rpS V R T),.int .i64 ((0:Nat):Int)])∧Below w.heap.size w w'):=by
  have:=c_raw_Put2 id V R T w h (Nat.lt_trans hR hW) (Nat.lt_trans hT hW)
  rwa [(rp_ok hR hT).1] at this
theorem c_rawGetOK (id:Int) (V:Cv) (R T:Nat) (w:World) (h:cvI id = some V) (hnb:nby V.n≤72) (hR:R<V.n) (hT:T<V.n):Calls Tryz.prog 17 ([.int .i64 id,.string (rpS V R T)]:List Value).toArray w (fun e w'=>e = .returned (.tuple #[sgV R T,.int .i64 ((0:Nat):Int)])∧Below w.heap.size w w'):=by
  have:=c_raw_Get2 id V (rpS V R T) w h (by rw [(rp_ok hR hT).2,cat_size]; omega)
  rwa [(rg_rp hR hT).1,(rg_rp hR hT).2.1,(rg_rp hR hT).2.2] at this
theorem c_awakeT  (w:World)  : Calls Tryz.prog 9 ([]:List Value).toArray w (fun e w'=>e = .returned (.bool true)∧Below w.heap.size w w'):=by
  obtain ⟨V,hV⟩:∃ V,V = cv13:=⟨_,rfl⟩
  have h:cvI 13 = some V:=by rw [hV]; rfl
  obtain ⟨hok,hid⟩:=cvI_ok h
  have hn13:V.n = 223:=by rw [hV]; rfl
  obtain ⟨hb5,hb521,hba,hbb,hbx,hby,hbn,hbo,hbo2,hbb1,hbn1⟩:=hok.bounds
  have hsz:=hok.sz
  have hsp:=hsz.p
  have hsa:=hsz.a
  have hsb:=hsz.b
  have hp0:V.p≠0:=by omega
  have hpp:0<V.p:=by omega
  have hm17:∀ k,D.nw (k%V.p)≤17:=fun k=>Nat.le_trans (D.nw_mono (Nat.le_of_lt (Nat.mod_lt k hpp))) hsp
  have hnW:V.n<W9:=w9_521 hbn
  refine KZ (N:=53) (rs:=[.tmp 0]) [] Tryz.func9 rfl Tryz.ntmps9 Tryz.results9 (Nb rfl) trivial rfl ?_
  refine KB (KA (oA (KC (KB (KA ?_)))));refine oS (cF rfl en_22 rfl (fun w hw=>c_curveGet 13 V w h) ?_);refine oM ?_;refine oP (Det.extract rfl rfl) ?_;refine oP (Det.extract rfl rfl) ?_;refine oS (mk (KM zr_53) (fun b1=>?_));refine LOps.step rfl (sA rfl rfl sz_53 (by first|exact acL_one _|exact acC_one _ _ _ _ _ _ _ _ _ _ _) (hl:=by first|exact acL_length _|exact acC_length _ _ _ _ _ _ _ _ _ _ _) (h:=?_));refine oA (KC (KB (KA ?_)));refine oP (KD (o':=28) u53 rfl rfl rfl sz_33 dc) ?_;refine oD (dL rfl (hv:=by exact ac_ld_n _ _ _ _ _ _ _ _ _ _ _ _ _ _)) ?_;refine oP (KD (o':=37) u53 rfl rfl rfl sz_47 dc) ?_;refine oD (Det.cast (dL rfl (hv:=by exact ac_ld_g _ _ _ _ _ _ _ _ _ _ _ _ _ _)) (g_val hok)) ?_;refine oS (cF rfl en_30 rfl (fun w hw=>c_affMulR 13 V V.n V.G .inf w h hok.on hnW hok.ord) ?_);refine oM ?_;refine oP (Det.extract rfl rfl) ?_;refine oP (Det.extract rfl rfl) ?_
  refine oS (mk (KM zr_47) (fun b3=>?_));refine LOps.step rfl (sA rfl rfl sz_47 (by exact KAZ _ _ _) (hl:=by exact Kd _ _ _) (h:=?_));refine oA (KC (KB (KA ?_)));refine oS (cF rfl en_23 rfl (fun w hw=>c_One 1 w dc) ?_);refine oS (cF rfl en_24 rfl (fun w hw=>c_bMulN 13 V 1 V.G w h om (pmul_one hok.fld hok.on)) ?_);refine oM ?_;refine oP (Det.extract rfl rfl) ?_;refine oP (Det.extract rfl rfl) ?_;refine oS (mk (KM zr_47) (fun b5=>?_));refine LOps.step rfl (sA rfl rfl sz_47 (by exact KAZ _ _ _) (hl:=by exact Kd _ _ _) (h:=?_));refine oA (KC (KB (KA (oM ?_))));refine oS (cF rfl en_13 rfl (fun w hw=>c_Num _ w) ?_);refine oP (KF (v:=.bool true) rfl rfl (br_t (KAE (b:=0)) (by first|rfl|assumption|omega|(simp; done)))) ?_;refine oM ?_;refine oGM ?_;refine oGS (cF rfl en_13 rfl (fun w hw=>c_Num _ w) ?_);refine oGP (KF (v:=.bool true) rfl rfl (br_t (KAE (b:=0)) (by first|rfl|assumption|omega|(simp; done)))) ?_
  refine oP (Kh rfl rfl) ?_;refine oM ?_;refine oGP (KD (o':=18) u47 rfl rfl rfl sz_4 dc) ?_;refine Ky rfl rfl (dL rfl (hv:=KI u4 rfl (by exact pt_gt _ _ _))) (Nb rfl) ?_;refine oP (Kh rfl rfl) ?_;refine oM ?_;refine oGM ?_;refine oGS (cF rfl en_13 rfl (fun w hw=>c_Num _ w) ?_);refine oGP (KF (v:=.bool true) rfl rfl (br_t (KAE (b:=0)) (by first|rfl|assumption|omega|(simp; done)))) ?_;refine oP (Det.pick rfl rfl rfl) ?_;refine oM ?_;refine Ky rfl rfl dNb (Nb rfl) ?_;refine oGP (KD (o':=37) u53 rfl rfl rfl sz_47 dc) ?_;refine Ky rfl rfl (Det.cast (dL rfl (hv:=by exact ac_ld_g _ _ _ _ _ _ _ _ _ _ _ _ _ _)) (g_val hok)) (Nb rfl) ?_;refine oGP (KL (Det.eqa (by kernel_rfl) (fun w=>eq_ptP_t hok (P:=V.G) (Q:=V.G) (rfl) 10000 dc w) rfl rfl) (show _ = Value.bool true by rfl)) ?_;refine oP (Det.pick rfl rfl rfl) ?_
  refine oM ?_;refine oGP (KD (o':=37) u53 rfl rfl rfl sz_47 dc) ?_;refine oGP (KD (o':=55) u47 rfl rfl rfl sz_4 dc) ?_;refine Ky rfl rfl (dL rfl (hv:=KI u4 rfl (by exact ac_gt_inf _ _ _ _ _ _ _ _ _ _ _))) (Nb rfl) ?_;refine oGP (KAd rfl) ?_;refine oP (Det.pick rfl rfl rfl) ?_;refine oA (KC (KK ?_));refine ⟨[_],.cons rfl .nil,fun a w' hr=>⟨?_,hr.fr.below⟩⟩
  rfl
theorem c_short (s:ByteArray) (k:Nat) (w:World)  : Calls Tryz.prog 12 ([.string s,.int .i64 ((k:Nat):Int)]:List Value).toArray w (fun e w'=>e = .returned (.string (shS s k))∧Below w.heap.size w w'):=by
  refine KZ (N:=13) (rs:=[.tmp 4]) [] Tryz.func12 rfl Tryz.ntmps12 Tryz.results12 (Nb rfl) trivial rfl ?_
  refine KB (KA (oA (KC (KB (KB (KA (oM ?_)))))));refine oP (KAU u9 rfl) ?_;refine oM ?_;refine oP (KF rfl rfl (br_gtr)) ?_;refine KC ?_
  first|refine KR rfl (fun h8=>?_) (fun h8=>?_)|refine KS rfl (fun h8=>?_) (fun h8=>?_)
  ·
   have h8:k<s.size:=by have:=h8; omega
   rw [show shS s k = s.extract 0 k from if_pos h8]
   refine KB (KA (oM (oM ?_)));refine oP (KL (Det.slStrH u9 rfl rfl om om) (by rw [Int.toNat_natCast])) ?_;refine oA (KC (KK ?_));refine ⟨[_],.cons rfl .nil,fun a w' hr=>⟨?_,hr.fr.below⟩⟩
   rfl
  have h8:¬ k<s.size:=by have:=h8; omega
  rw [show shS s k = s from if_neg h8]
  refine KN (KB (KA (oM (oA (KC (KK ?_))))));refine ⟨[_],.cons rfl .nil,fun a w' hr=>⟨?_,hr.fr.below⟩⟩
  rfl
def pkN (x:Int):Nat:=([13,14,15,2,3,6,8,13,14,15,4,9,10,5,11,12]:List Nat).getD (uidx x%16) 0
theorem pkN_get (x:Int):([.int .i64 ((13:Nat):Int),.int .i64 ((14:Nat):Int),.int .i64 ((15:Nat):Int),.int .i64 ((2:Nat):Int),.int .i64 ((3:Nat):Int),.int .i64 ((6:Nat):Int),.int .i64 ((8:Nat):Int),.int .i64 ((13:Nat):Int),.int .i64 ((14:Nat):Int),.int .i64 ((15:Nat):Int),.int .i64 ((4:Nat):Int),.int .i64 ((9:Nat):Int),.int .i64 ((10:Nat):Int),.int .i64 ((5:Nat):Int),.int .i64 ((11:Nat):Int),.int .i64 ((12:Nat):Int)]:List Value)[uidx x%16]? = some (.int .i64 ((pkN x:Nat):Int)):=by
  unfold pkN
  obtain ⟨k,hk⟩:∃ k,uidx x%16 = k:=⟨_,rfl⟩
  have h:k<16:=hk ▸ Nat.mod_lt _ dc
  rw [hk]
  rcases (show k = 0∨k = 1∨k = 2∨k = 3∨k = 4∨k = 5∨k = 6∨k = 7∨k = 8∨k = 9∨k = 10∨k = 11∨k = 12∨k = 13∨k = 14∨k = 15 by omega) with rfl|rfl|rfl|rfl|rfl|rfl|rfl|rfl|rfl|rfl|rfl|rfl|rfl|rfl|rfl|rfl <;> rfl
theorem pkN_cv (x:Int):∃ V,cvI ((pkN x:Nat):Int) = some V:=by
  unfold pkN
  obtain ⟨k,hk⟩:∃ k,uidx x%16 = k:=⟨_,rfl⟩
  have h:k<16:=hk ▸ Nat.mod_lt _ dc
  rw [hk]
  rcases (show k = 0∨k = 1∨k = 2∨k = 3∨k = 4∨k = 5∨k = 6∨k = 7∨k = 8∨k = 9∨k = 10∨k = 11∨k = 12∨k = 13∨k = 14∨k = 15 by omega) with rfl|rfl|rfl|rfl|rfl|rfl|rfl|rfl|rfl|rfl|rfl|rfl|rfl|rfl|rfl|rfl
  · exact ⟨cv13,rfl⟩
  · exact ⟨cv14,rfl⟩
  · exact ⟨cv15,rfl⟩
  · exact ⟨cv2,rfl⟩
  · exact ⟨cv3,rfl⟩
  · exact ⟨cv6,rfl⟩
  · exact ⟨cv8,rfl⟩
  · exact ⟨cv13,rfl⟩
  · exact ⟨cv14,rfl⟩
  · exact ⟨cv15,rfl⟩
  · exact ⟨cv4,rfl⟩
  · exact ⟨cv9,rfl⟩
  · exact ⟨cv10,rfl⟩
  · exact ⟨cv5,rfl⟩
  · exact ⟨cv11,rfl⟩
  · exact ⟨cv12,rfl⟩
theorem c_pick (x:Int) (w:World)  : Calls Tryz.prog 10 ([.int .i64 x]:List Value).toArray w (fun e w'=>e = .returned (.int .i64 ((pkN x:Nat):Int))∧Below w.heap.size w w'):=by
  refine KZ (N:=11) (rs:=[.tmp 2]) [] Tryz.func10 rfl Tryz.ntmps10 Tryz.results10 (Nb rfl) trivial rfl ?_
  refine KB (KA ?_);refine oP (KO (v:=.int .i64 ((0:Nat):Int)) rfl) ?_;refine KC (KB (KA ?_));refine oS (mk (KAW u76 inf_3 rfl rfl rfl rfl dc rfl) (fun b4=>?_));refine oA (KC (KB (KA (oM (oM ?_)))));refine oP (KL (Det.conv u3 u56 rfl) (uidx_eq x)) ?_;refine oP (KL (KF rfl rfl (br_rem64 (b:=16) dc)) (show _ = Value.int .u64 ((uidx x%16:Nat):Int) from rfl)) ?_;refine oP (KAP u76 sz_3 rfl rfl (by have:=Nat.mod_lt (uidx x) (show 0<16 by decide); omega)) ?_;refine oD (dL rfl (hv:=KI u3 rfl (by exact pkN_get x))) ?_;refine oA (KC (KK ?_));refine ⟨[_],.cons rfl .nil,fun a w' hr=>⟨?_,hr.fr.below⟩⟩
  rfl
theorem c_eSignZ (tb:Option Nat) (id:Int) (V:Cv) (k:Nat) (hk:k = 1∨k = 2∨k = 3∨k = 4) (msg:ByteArray) (d:Nat) (w:World) (h:cvI id = some V):Calls Tryz.prog 15 ([trV tb,.int .i64 id,.int .i64 ((k:Nat):Int),natV 0,.string msg,.pointer (some ⟨d,0,none⟩)]:List Value).toArray w (fun e w'=>e = .returned (.tuple #[sgV 0 0,.int .i64 ((0:Nat):Int),.int .i64 ((2602:Nat):Int)])∧Below w.heap.size w w'):=by
  obtain ⟨hok,hid⟩:=cvI_ok h
  have hbb:=hok.bounds
  have hpW:V.p<W9:=w9_521 hbb.2.1
  have hnW:V.n<W9:=w9_521 hbb.2.2.2.2.2.2.1
  have hbl:=blen_w9 hnW
  have hnb:nby V.n≤72:=by (unfold nby; omega)
  have hs8:=hsize_le hk
  refine KZ (N:=102) (rs:=[.cell 12 37,.tmp 13,.tmp 14]) [] Tryz.func15 rfl Tryz.ntmps15 Tryz.results15 (Nb rfl) trivial rfl ?_
  refine KB (KA ?_);refine oS (mB (fun b9=>?_));refine oS (mk (KM zr_37) (fun b12=>?_));refine oP (KO (v:=.int .i64 ((0:Nat):Int)) rfl) ?_;refine oP (KO (v:=.int .i64 ((0:Nat):Int)) rfl) ?_;refine KC (KB (KA (oM ?_)));refine oS (oOpen h rfl rfl (fun b f bd=>?_));refine oA (KC (KB (LCode.block (KB (KA (oM ?_))))));refine oP (KL (KAV u24 rfl rfl) (show _ = Value.bool false from rfl)) ?_;refine oA (KC ?_);refine KJ rfl ?_;refine KB (KA (oM ?_));refine oP (KL (KAV u81 rfl rfl) (show _ = Value.bool false from rfl)) ?_;refine oA (KC ?_);refine KJ rfl ?_;refine KB (KA (oM ?_));refine oS (cF rfl en_31 rfl (fun w hw=>c_hSize k hk w) ?_);refine oP (KF (v:=.bool false) rfl rfl (br_f (KAE (b:=0)) om)) ?_;refine oA (KC ?_);refine KJ rfl ?_;refine KB (KA (oM ?_));refine oD dNa ?_;refine oS (cF rfl en_38 rfl (fun w hw=>c_cKeyZ V b f w (mC hw)) ?_)
  refine oP (KL (KAd rfl) (show _ = Value.bool true from rfl)) ?_;refine oA (KC ?_);refine KT rfl ?_;refine KB (KA ?_);refine oP (KL (Kg pl_37 zr_37 rfl rfl) (show _ = sgV 0 0 from sg_zero)) ?_;refine LOps.step rfl (sA rfl rfl sz_37 (by exact sgL_one _ _) (hl:=by exact KAL _ _) (h:=?_));refine oP (KO (v:=.int .i64 ((0:Nat):Int)) rfl) ?_;refine oP (KO (v:=.int .i64 ((2602:Nat):Int)) rfl) ?_;refine KC (KK ?_);refine ⟨[_,_,_],.cons ⟨_,_,_,rfl,mM,by exact KE u37 rfl sz_37⟩ (.cons rfl (.cons rfl .nil)),fun a w' hr=>⟨?_,hr.fr.below⟩⟩
  rfl
theorem mkE_bad {V:Cv} {dk:Nat} {X q2 E:Nat} {K2 U2:ByteArray} {n2:Nat} (hE:E≠0):∀ (q i:Nat) (K U:ByteArray) (n:Nat),mkE V dk q i K U n = ((X,q2,E),K2,U2,n2)→X = 0
  | 0,i,K,U,n,h=>(congrArg (fun x=>x.1.1) h).symm
  | q+1,i,K,U,n,h=>by
    unfold mkE at h
    split at h
    · exact (congrArg (fun x=>x.1.1) h).symm
    · split at h
      · simp only [Prod.mk.injEq] at h
        exact absurd h.1.2.2.symm hE
      · exact mkE_bad hE q _ _ _ _ h
theorem ends {V:Cv} {dk:Nat} (E:Nat) (h:E = 0∨E = 2402∨E = 2403):E = 0∨(E≠0∧E = 2402)∨(E≠0∧E≠2402∧E = 2403):=by omega
theorem hs4:hsize 4 = 64:=rfl
theorem pmul_affT {V:Cv} (hok:V.Ok) {k:Nat} (h0:k≠0) (hn:k<V.n):∃ x y,pmul V.A V.G k = .aff x y:=by
  cases h:pmul V.A V.G k with
  | inf =>
    have:=pmul_order hok.crv hok.on hok.order (fun e=>by unfold Cv.G at e; cases e) hok.ord h
    exact absurd (Nat.le_of_dvd (Nat.pos_of_ne_zero h0) this) om
  | aff x y=>exact ⟨x,y,rfl⟩
theorem c_eVerT (v:Bool) (id:Int) (V:Cv) (k:Nat) (hk:k = 1∨k = 2∨k = 3∨k = 4) (msg:ByteArray) (hmsg:msg.size≤140737488351232) (x y:Fin V.p) (hQ:On V.A V.B (.aff x y)) (R T:Nat) (w:World) (h:cvI id = some V) (h2:sgK V R) (h3:sgK V T) (hv:verE V (dualP V (digE V k msg*invM T V.n%V.n) (R*invM T V.n%V.n) (.aff x y)) R = v):Calls Tryz.prog 21 ([.int .i64 id,.int .i64 ((k:Nat):Int),ptP (.aff x y:Pt V.p),.string msg,sgV R T]:List Value).toArray w (fun e w'=>e = .returned (.bool v)∧Below w.heap.size w w') :=
  hv ▸ c_eVer id V k hk msg hmsg x y hQ R T w h h2 h3
theorem c_TopForms (which:Int) (s msg:ByteArray) (hs0:s.size<9223372036854775808) (hmsg:msg.size≤140737488351232) (w:World)  : Calls Tryz.prog 3 ([.int .i64 which,.string s,.string msg]:List Value).toArray w (fun e w'=>e = .returned (.bool true)∧Below w.heap.size w w'):=by
  have hsz1:(shS s 100).size≤100:=shS_size s 100
  have hsz:(shS s 100++(⟨#[48,49,50,51,52,53,54,55,56,57,97,98,99,100,101,102,48,49,50,51,52,53,54,55,56,57,97,98,99,100,101,102]⟩:ByteArray)).size = (shS s 100).size+32:=by rw [ByteArray.size_append]; rfl
  refine KZ (N:=139) (rs:=[.tmp 6]) [] Tryz.func3 rfl Tryz.ntmps3 Tryz.results3 (Nb rfl) trivial rfl ?_
  refine KB (KA (oA (KC (KB (KB (KA ?_))))));refine oS (cF rfl en_9 rfl (fun w hw=>c_awakeT w) ?_);refine oP (KL (KAd rfl) (show _ = Value.bool false from rfl)) ?_;refine KC ?_;refine KJ rfl ?_;refine KN (KB (KA (oM ?_)));refine oS (cF rfl en_10 rfl (fun w hw=>c_pick which w) ?_);refine oA (KC (KB ?_))
  obtain ⟨V,h⟩:=pkN_cv which
  obtain ⟨hok,hid⟩:=cvI_ok h
  have hnW:V.n<W9:=w9_521 hok.bounds.2.2.2.2.2.2.1
  refine KA (oM ?_);refine oS (cF rfl en_12 rfl (fun w hw=>c_short s 100 w) ?_);refine oP (Det.cat rfl rfl (Nat.le_trans (Nat.add_le_add_right hsz1 32) dc)) ?_;refine LOps.step rfl (Ka (first:=[]) (caps:=[]) (X:=[]) (RO:=[]) rfl en_11 rfl (Nb rfl) sR wK (fun w hH hd=>c_dNew 4 dc (shS s 100++(⟨#[48,49,50,51,52,53,54,55,56,57,97,98,99,100,101,102,48,49,50,51,52,53,54,55,56,57,97,98,99,100,101,102]⟩:ByteArray)) ⟨#[]⟩ ⟨#[]⟩ (by rw [hsz,hs4]; omega) (by rw [hsz]; omega) dc dc w hH hd) ?_)
  rintro _ _ ⟨dd,rfl,rfl⟩
  obtain ⟨Z,hZ⟩:∃ Z,upd 4 ((shS s 100++(⟨#[48,49,50,51,52,53,54,55,56,57,97,98,99,100,101,102,48,49,50,51,52,53,54,55,56,57,97,98,99,100,101,102]⟩:ByteArray))++⟨#[]⟩++⟨#[]⟩) (toS (List.replicate (hsize 4) 0),toS (List.replicate (hsize 4) 1)) = Z:=⟨_,rfl⟩
  rw [hZ]
  have hZs:Z.1.size≤64∧Z.2.size≤64:=hZ ▸ upd_size (k:=4) dc _ (by rw [KAS,List.length_replicate,hs4]; decide) (by rw [KAS,List.length_replicate,hs4]; decide)
  refine oM ?_;refine oP (Det.extract rfl rfl) ?_;refine oP (Det.extract rfl rfl) ?_;refine oA (oA (KC (KB (KB (KA (oM ?_))))));refine oS (cF rfl en_13 rfl (fun w hw=>c_Num _ w) ?_);refine oP (KF (v:=.bool false) rfl rfl (br_f (KAX (b:=0)) (by first|exact (fun e=>e rfl)|(simp; done)|omega))) ?_;refine KC ?_;refine KJ rfl ?_;refine KN (KB ?_)
  obtain ⟨⟨⟨X,T0,E⟩,K2,U2,n2⟩,hm⟩:∃ R,mkE V 4 64 0 Z.1 Z.2 1 = R:=⟨_,rfl⟩
  have hmz:K2.size≤64∧U2.size≤64:=by have:=mkE_size (V:=V) (dk:=4) dc 64 0 Z.1 Z.2 1 hZs.1 hZs.2; rw [hm] at this; exact this
  have hme:E = 0∨E = 2402∨E = 2403:=by have:=mkE_err (V:=V) (dk:=4) 64 0 Z.1 Z.2 1; rw [hm] at this; exact this
  refine KA (oM (oM ?_));refine LOps.step rfl (Ka (first:=[]) (caps:=[]) (X:=[.blk dd ⟨true,gnL 4 Z.1 Z.2 (1),79,(0,0)⟩]) (RO:=[]) rfl en_14 rfl (Nb rfl) sR wK (fun w hH hd=>c_kMake _ V 4 dc dd 1 Z.1 Z.2 hZs.1 hZs.2 X T0 E K2 U2 n2 w hH hd h hm) ?_)
  rintro _ _ ⟨rfl,rfl⟩
  refine oM ?_;refine oP (Det.extract rfl rfl) ?_;refine oP (Det.extract rfl rfl) ?_;refine oP (Det.extract rfl rfl) ?_;refine oS (mk (KM zr_33) (fun b10=>?_));refine LOps.step rfl (sA rfl rfl sz_33 (by exact KAA _) (hl:=by exact KH _) (h:=?_));refine oA (oA (KC (KB ?_)))
  rcases ends (V:=V) (dk:=4) E hme with rfl|⟨he,rfl⟩|⟨he,he2,rfl⟩
  ·
   have hx:=mkE_zero _ _ _ _ _ hm
   obtain ⟨⟨⟨R,T,T2,E2⟩,K3,U3,n3⟩,hs⟩:∃ Q,sgE V 4 (digE V 3 msg) X 64 0 K2 U2 n2 = Q:=⟨_,rfl⟩
   have hse:E2 = 0∨E2 = 2603∨E2 = 2604:=by have:=sgE_err (V:=V) (dk:=4) (z:=digE V 3 msg) (D:=X) 64 0 K2 U2 n2; rw [hs] at this; exact this
   refine LCode.sub (Sub.add (x:=trI none none []) (fun w=>trI_nil _ _) rfl) ?_;refine KA (oM ?_);refine oD dNa ?_;refine oM (oM ?_);refine LOps.step rfl (LStepW.callM2 (first:=[]) (caps:=[]) (X:=[.blk dd ⟨true,gnL 4 K2 U2 (n2),79,(0,0)⟩,trI none none []]) (RO:=[]) rfl en_15 rfl (Nb rfl) sR wK (fun w hH hd=>c_eSign none none [] _ V X hx 3 dc msg hmsg 4 dc dd n2 K2 U2 hmz.1 hmz.2 R T T2 E2 K3 U3 n3 w hH hd h hs dc) ?_)
   rintro _ _ _ ⟨rfl,rfl,tr2,l2,rfl,hl2⟩
   refine oM ?_;refine oP (Det.extract rfl rfl) ?_;refine oP (Det.extract rfl rfl) ?_;refine oP (Det.extract rfl rfl) ?_;refine oS (mk (KM zr_37) (fun b13=>?_));refine LOps.step rfl (sA rfl rfl sz_37 (by exact sgL_one _ _) (hl:=by exact KAL _ _) (h:=?_));refine oA (oA (KC (KB (KB ?_))))
   rcases hse with rfl|rfl|rfl
   ·
    refine KA (oM ?_);refine oS (cF rfl en_13 rfl (fun w hw=>c_Num _ w) ?_);refine oP (KF (v:=.bool false) rfl rfl (br_f (KAX (b:=0)) dc)) ?_;refine oM ?_;refine oGM ?_;refine oGS (cF rfl en_13 rfl (fun w hw=>c_Num _ w) ?_);refine oGP (KF (v:=.bool false) rfl rfl (br_f (KAX (b:=0)) dc)) ?_;refine oP (KV rfl rfl) ?_;refine KC ?_;refine KJ rfl ?_;refine KN (KB ?_)
    obtain ⟨x0,hx0,ho0,hRe,hTe⟩:=sgE_zero _ _ _ _ _ hs
    obtain ⟨qx,qy,hq⟩:=pmul_affT hok hx.1 hx.2
    have hQ:On V.A V.B (.aff qx qy):=hq ▸ hok.mul hok.on X
    have hnp:0<V.n:=by have:=hok.order.1; omega
    have hR:sgK V R:=⟨hRe ▸ ho0.1,hRe ▸ Nat.mod_lt _ hnp⟩
    have hT:sgK V T:=⟨hTe ▸ ho0.2,hTe ▸ Nat.mod_lt _ hnp⟩
    have hRW:=Nat.lt_trans hR.2 hnW
    have hTW:=Nat.lt_trans hT.2 hnW
    have hnb:nby V.n≤72:=by have:=blen_w9 hnW; (unfold nby; omega)
    have hv:verE V (dualP V (digE V 3 msg*invM T V.n%V.n) (R*invM T V.n%V.n) (.aff qx qy)) R = true:=by have:=ver_ok hok hx0 ho0 hq; rw [← hTe,← hRe] at this; exact this
    refine KA (oM ?_);refine oD (dL rfl (hv:=by exact KE u37 rfl sz_37)) ?_;refine oS (cF rfl en_16 rfl (fun w hw=>c_rawPutOK _ V R T w h hnW hR.2 hT.2) ?_);refine oM ?_;refine oP (Det.extract rfl rfl) ?_;refine oP (Det.extract rfl rfl) ?_;refine oA (oA (KC (KB (KA (oM (oM ?_))))));refine oS (cF rfl en_17 rfl (fun w hw=>c_rawGetOK _ V R T w h hnb hR.2 hT.2) ?_);refine oM ?_;refine oP (Det.extract rfl rfl) ?_;refine oP (Det.extract rfl rfl) ?_;refine oS (mk (KM zr_37) (fun b18=>?_));refine LOps.step rfl (sA rfl rfl sz_37 (by exact sgL_one _ _) (hl:=by exact KAL _ _) (h:=?_));refine oA (KC (KB (KA ?_)));refine oD (dL rfl (hv:=by exact KE u37 rfl sz_37)) ?_;refine oS (cF rfl en_19 rfl (fun w hw=>c_derPut R T hRW hTW w) ?_);refine oS (cF rfl en_18 rfl (fun w hw=>c_derGet (derPut R T) R T 0 w (derG_put hRW hTW)) ?_);refine oM ?_;refine oP (Det.extract rfl rfl) ?_;refine oP (Det.extract rfl rfl) ?_
    refine oS (mk (KM zr_37) (fun b20=>?_));refine LOps.step rfl (sA rfl rfl sz_37 (by exact sgL_one _ _) (hl:=by exact KAL _ _) (h:=?_));refine oA (KC (KB (KA (oM ?_))));refine oD dNa ?_;refine oS (cF rfl en_20 rfl (fun w hw=>c_kPublic _ V X (.aff qx qy) w h hx.1 hx.2 hq) ?_);refine oM ?_;refine oP (Det.extract rfl rfl) ?_;refine oP (Det.extract rfl rfl) ?_;refine oS (mk (KM zr_47) (fun b22=>?_));refine LOps.step rfl (sA rfl rfl sz_47 (by exact KAZ _ _ _) (hl:=by exact Kd _ _ _) (h:=?_));refine oA (KC (KB (KA (oM ?_))));refine oS (cF rfl en_13 rfl (fun w hw=>c_Num _ w) ?_);refine oP (KF (v:=.bool true) rfl rfl (br_t (KAE (b:=0)) dc)) ?_;refine oM ?_;refine oGM ?_;refine oGS (cF rfl en_13 rfl (fun w hw=>c_Num _ w) ?_);refine oGP (KF (v:=.bool true) rfl rfl (br_t (KAE (b:=0)) dc)) ?_;refine oP (Kh rfl rfl) ?_;refine oM ?_;refine oGM ?_;refine oGS (cF rfl en_13 rfl (fun w hw=>c_Num _ w) ?_)
    refine oGP (KF (v:=.bool true) rfl rfl (br_t (KAE (b:=0)) dc)) ?_;refine oP (Kh rfl rfl) ?_;refine oM ?_;refine oGM ?_;refine oGS (cF rfl en_13 rfl (fun w hw=>c_Num _ w) ?_);refine oGP (KF (v:=.bool true) rfl rfl (br_t (KAE (b:=0)) dc)) ?_;refine oP (Kh rfl rfl) ?_;refine oM ?_;refine Ky rfl rfl (dL rfl (hv:=by exact KE u37 rfl sz_37)) (Nb rfl) ?_;refine Ky rfl rfl (dL rfl (hv:=by exact KE u37 rfl sz_37)) (Nb rfl) ?_;refine oGP (KL (Det.eqa (by kernel_rfl) (fun w=>eq_sig R T R T hRW hTW hRW hTW 10000 dc w) rfl rfl) (show _ = Value.bool true by simp)) ?_;refine oP (Kh rfl rfl) ?_;refine oM ?_;refine Ky rfl rfl (dL rfl (hv:=by exact KE u37 rfl sz_37)) (Nb rfl) ?_;refine Ky rfl rfl (dL rfl (hv:=by exact KE u37 rfl sz_37)) (Nb rfl) ?_;refine oGP (KL (Det.eqa (by kernel_rfl) (fun w=>eq_sig R T R T hRW hTW hRW hTW 10000 dc w) rfl rfl) (show _ = Value.bool true by simp)) ?_
    refine oP (Kh rfl rfl) ?_;refine oM ?_;refine oGM ?_;refine Ky rfl rfl dNb (Nb rfl) ?_;refine oGM ?_;refine Ky rfl rfl (dL rfl (hv:=by exact KE u37 rfl sz_37)) (Nb rfl) ?_;refine oGS (cF rfl en_21 rfl (fun w hw=>c_eVerT true _ V 3 dc msg hmsg qx qy hQ R T w h hR hT hv) ?_);refine oP (Kh rfl rfl) ?_;refine oA (KC (KK ?_));refine ⟨[_],.cons rfl .nil,fun a w' hr=>⟨?_,hr.fr.below⟩⟩
    rfl
   ·
    refine KA (oM ?_);refine oS (cF rfl en_13 rfl (fun w hw=>c_Num _ w) ?_);refine oP (KF (v:=.bool false) rfl rfl (br_f (KAX (b:=0)) dc)) ?_;refine oM ?_;refine oGM ?_;refine oGS (cF rfl en_13 rfl (fun w hw=>c_Num _ w) ?_);refine oGP (KF (v:=.bool true) rfl rfl (br_t (KAX (b:=0)) dc)) ?_;refine oP (KV rfl rfl) ?_;refine KC ?_;refine KT rfl ?_;refine KB (KA (oM ?_));refine oS (cF rfl en_13 rfl (fun w hw=>c_Num _ w) ?_);refine oP (KF (v:=.bool false) rfl rfl (br_f (KAE (b:=2403)) dc)) ?_;refine oM ?_;refine oGM ?_;refine oGS (cF rfl en_13 rfl (fun w hw=>c_Num _ w) ?_);refine oGP (KF (v:=.bool false) rfl rfl (br_f (KAE (b:=2604)) dc)) ?_;refine oP (KV rfl rfl) ?_;refine oM ?_;refine oGM ?_;refine oGS (cF rfl en_13 rfl (fun w hw=>c_Num _ w) ?_);refine oGP (KF (v:=.bool false) rfl rfl (br_f (KAE (b:=2402)) dc)) ?_;refine oP (KV rfl rfl) ?_;refine oM ?_;refine oGM ?_;refine oGS (cF rfl en_13 rfl (fun w hw=>c_Num _ w) ?_)
    refine oGP (KF (v:=.bool true) rfl rfl (br_t (KAE (b:=2603)) dc)) ?_;refine oP (KV rfl rfl) ?_;refine oA (KC (KK ?_));refine ⟨[_],.cons rfl .nil,fun a w' hr=>⟨?_,hr.fr.below⟩⟩
    rfl
   refine KA (oM ?_);refine oS (cF rfl en_13 rfl (fun w hw=>c_Num _ w) ?_);refine oP (KF (v:=.bool false) rfl rfl (br_f (KAX (b:=0)) dc)) ?_;refine oM ?_;refine oGM ?_;refine oGS (cF rfl en_13 rfl (fun w hw=>c_Num _ w) ?_);refine oGP (KF (v:=.bool true) rfl rfl (br_t (KAX (b:=0)) dc)) ?_;refine oP (KV rfl rfl) ?_;refine KC ?_;refine KT rfl ?_;refine KB (KA (oM ?_));refine oS (cF rfl en_13 rfl (fun w hw=>c_Num _ w) ?_);refine oP (KF (v:=.bool false) rfl rfl (br_f (KAE (b:=2403)) dc)) ?_;refine oM ?_;refine oGM ?_;refine oGS (cF rfl en_13 rfl (fun w hw=>c_Num _ w) ?_);refine oGP (KF (v:=.bool true) rfl rfl (br_t (KAE (b:=2604)) dc)) ?_;refine oP (KV rfl rfl) ?_;refine oM ?_;refine oK ?_;refine oK ?_;refine oK ?_;refine oP (Kh rfl rfl) ?_;refine oM ?_;refine oK ?_;refine oK ?_;refine oK ?_;refine oP (Kh rfl rfl) ?_;refine oA (KC (KK ?_));refine ⟨[_],.cons rfl .nil,fun a w' hr=>⟨?_,hr.fr.below⟩⟩
   rfl
  ·
   obtain rfl:=mkE_bad he _ _ _ _ _ hm
   refine KA (oM ?_);refine oD dNa ?_;refine oM (oM ?_);refine oS (cF rfl en_15 rfl (fun w hw=>c_eSignZ none _ V 3 dc msg dd w h) ?_);refine oM ?_;refine oP (Det.extract rfl rfl) ?_;refine oP (Det.extract rfl rfl) ?_;refine oP (Det.extract rfl rfl) ?_;refine oS (mk (KM zr_37) (fun b13=>?_));refine LOps.step rfl (sA rfl rfl sz_37 (by exact sgL_one _ _) (hl:=by exact KAL _ _) (h:=?_));refine oA (oA (KC (KB (KB (KA (oM ?_))))));refine oS (cF rfl en_13 rfl (fun w hw=>c_Num _ w) ?_);refine oP (KF (v:=.bool true) rfl rfl (br_t (KAX (b:=0)) dc)) ?_;refine oM ?_;refine oK ?_;refine oK ?_;refine oK ?_;refine oP (Kh rfl rfl) ?_;refine KC ?_;refine KT rfl ?_;refine KB (KA (oM ?_));refine oS (cF rfl en_13 rfl (fun w hw=>c_Num _ w) ?_);refine oP (KF (v:=.bool false) rfl rfl (br_f (KAE (b:=2403)) dc)) ?_;refine oM ?_;refine oGM ?_;refine oGS (cF rfl en_13 rfl (fun w hw=>c_Num _ w) ?_)
   refine oGP (KF (v:=.bool false) rfl rfl (br_f (KAE (b:=2604)) dc)) ?_;refine oP (KV rfl rfl) ?_;refine oM ?_;refine oGM ?_;refine oGS (cF rfl en_13 rfl (fun w hw=>c_Num _ w) ?_);refine oGP (KF (v:=.bool true) rfl rfl (br_t (KAE (b:=2402)) dc)) ?_;refine oP (KV rfl rfl) ?_;refine oM ?_;refine oK ?_;refine oK ?_;refine oK ?_;refine oP (Kh rfl rfl) ?_;refine oA (KC (KK ?_));refine ⟨[_],.cons rfl .nil,fun a w' hr=>⟨?_,hr.fr.below⟩⟩
   rfl
  obtain rfl:=mkE_bad he _ _ _ _ _ hm
  refine KA (oM ?_);refine oD dNa ?_;refine oM (oM ?_);refine oS (cF rfl en_15 rfl (fun w hw=>c_eSignZ none _ V 3 dc msg dd w h) ?_);refine oM ?_;refine oP (Det.extract rfl rfl) ?_;refine oP (Det.extract rfl rfl) ?_;refine oP (Det.extract rfl rfl) ?_;refine oS (mk (KM zr_37) (fun b13=>?_));refine LOps.step rfl (sA rfl rfl sz_37 (by exact sgL_one _ _) (hl:=by exact KAL _ _) (h:=?_));refine oA (oA (KC (KB (KB (KA (oM ?_))))));refine oS (cF rfl en_13 rfl (fun w hw=>c_Num _ w) ?_);refine oP (KF (v:=.bool true) rfl rfl (br_t (KAX (b:=0)) dc)) ?_;refine oM ?_;refine oK ?_;refine oK ?_;refine oK ?_;refine oP (Kh rfl rfl) ?_;refine KC ?_;refine KT rfl ?_;refine KB (KA (oM ?_));refine oS (cF rfl en_13 rfl (fun w hw=>c_Num _ w) ?_);refine oP (KF (v:=.bool true) rfl rfl (br_t (KAE (b:=2403)) dc)) ?_;refine oM ?_;refine oK ?_;refine oK ?_;refine oK ?_
  refine oP (Kh rfl rfl) ?_;refine oM ?_;refine oK ?_;refine oK ?_;refine oK ?_;refine oP (Kh rfl rfl) ?_;refine oM ?_;refine oK ?_;refine oK ?_;refine oK ?_;refine oP (Kh rfl rfl) ?_;refine oA (KC (KK ?_));refine ⟨[_],.cons rfl .nil,fun a w' hr=>⟨?_,hr.fr.below⟩⟩
  rfl
end Go.Proofs.YtnpeokiboiclfaaGreat
set_option maxRecDepth 100000
namespace Go.Proofs.YtnpeokiboiclfaaGreat
open Go
def ioChars:List Char:=([104,97,114,110,101,115,115,32,57,55,98,53,54,100,57,56,97,53,52,98,49,48,50,99,50,101,100,55,53,99,99,52,51,51,49,54,48,51,50,97,56,102,57,48,57,52,49,55,100,98,48,101,102,57,50,48,56,102,50,49,57,57,48,56,54,55,101,99,51,51,51,51,32,99,117,116,32,97,116,32,99,117,114,118,101,116,47,99,117,114,118,101,116,116,111,112,46,84,111,112,70,111,114,109,115,32,99,117,114,118,101,116,47,99,117,114,118,101,116,116,111,112,46,84,111,112,67,117,114,118,101,115,32,99,117,114,118,101,116,47,99,117,114,118,101,116,116,111,112,46,84,111,112,76,101,103,97,99,121,32,99,117,114,118,101,116,47,99,117,114,118,101,116,116,111,112,46,84,111,112,73,109,112,111,114,116,115,32,99,117,114,118,101,116,47,99,117,114,118,101,116,116,111,112,46,84,111,112,86,101,114,105,102,105,101,100,32,99,117,114,118,101,116,47,99,117,114,118,101,116,116,111,112,46,84,111,112,84,105,110,121]:List Nat).map Char.ofNat
theorem io_lit:Tryz.prog.initOrder = String.ofList ioChars:=by kernel_rfl
theorem io_list:Tryz.prog.initOrder.toList = ioChars:=by rw [io_lit,String.toList_ofList]
def cutW:List Char:=([99,117,116]:List Nat).map Char.ofNat
def ioRest:List (List Char):=(wordsSigns ioChars).drop 3
theorem io_words:behindMainWord (wordsSigns ioChars) = cutW :: ioRest:=by kernel_rfl
theorem io_strip (r:List (List Char)):stripLifts liftWords (cutW :: r) = ([],cutW :: r):=by kernel_rfl
theorem no_later:Tryz.prog.laysLater = false:=by kernel_rfl
theorem no_reflect:Tryz.prog.bearsReflect = false:=by kernel_rfl
theorem door_fits:Tryz.prog.doorFits [] = true:=by kernel_rfl
theorem and2 {a b:Bool} (h:a = true) (k:b = true):(a && b) = true:=by rw [h,k]; rfl
theorem or_right {a b:Bool} (h:b = true):(a || b) = true:=by rw [h]; cases a <;> rfl
theorem cut_is : (cutW == "cut".toList) = true := by kernel_rfl
theorem cut_gc : (cutW == "gc".toList) = false := by kernel_rfl
theorem cut_spec : (cutW == "spec".toList) = false := by kernel_rfl
theorem cut_carried : (cutW == "carried".toList) = false := by kernel_rfl
theorem head_carried (r : List (List Char)) : ((cutW :: r).head? == some "carried".toList) = false := cut_carried
theorem enter_of (P:Program) {r:List (List Char)} (h:behindMainWord (wordsSigns P.initOrder.toList) = cutW :: r) (h1:P.laysLater = false) (h2:P.bearsReflect = false) (h3:P.doorFits [] = true):P.mayEnter = true:=by
  unfold Program.mayEnter
  rw [h]
  dsimp only
  refine or_right (and2 (and2 (and2 (and2 ?_ ?_) ?_) ?_) ?_)
  · rw [io_strip]; exact cut_is
  · rw [io_strip,h1]; rfl
  · rw [io_strip,h2]; rfl
  · rw [io_strip]; rfl
  · rw [io_strip]; exact h3
theorem lifts_of (P:Program) {r:List (List Char)} (h:behindMainWord (wordsSigns P.initOrder.toList) = cutW :: r):(false == P.liftsFinal) = true:=by
  have hl:P.headLifts = []:=by
    unfold Program.headLifts
    rw [h,io_strip]
    simp only [ite_self]
  unfold Program.liftsFinal
  rw [h,hl]
  dsimp only
  rw [head_carried,Bool.false_and]
  rfl
theorem make_of (P:Program) {r:List (List Char)} (h:behindMainWord (wordsSigns P.initOrder.toList) = cutW :: r):(P.make == some .cut) = true:=by
  have:P.make = some .cut:=by
    unfold Program.make
    rw [h]
    dsimp only
    rw [if_neg (by rw [cut_gc,cut_spec]; exact fun h=>by cases h),if_pos (by rw [cut_is]; rfl)]
  rw [this]; rfl
theorem io_all:behindMainWord (wordsSigns Tryz.prog.initOrder.toList) = cutW :: ioRest:=by rw [io_list,io_words]
theorem fact_enter:Tryz.prog.mayEnter = true:=enter_of _ io_all no_later no_reflect door_fits
theorem fact_lifts:(false == Tryz.prog.liftsFinal) = true:=lifts_of _ io_all
theorem fact_make:(Tryz.prog.make == some .cut) = true:=make_of _ io_all
theorem fact_laid:laidOutB Tryz.prog = true:=by kernel_rfl
theorem fact_maps:mapsRowed Tryz.prog = true:=by kernel_rfl
theorem fact_heard:Tryz.prog.stopsHeard = true:=by kernel_rfl
end Go.Proofs.YtnpeokiboiclfaaGreat
