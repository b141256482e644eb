/- Part 4 of what the proof leans on: a symbolic execution of the model, walks of the program's functions, and the mathematics. No condition. -/
import Derived.WalkKit
import Derived.Orders
import Derived.Laws.StructEq
import Derived.WalkSpells
import Derived.OrdersHeld
import Derived.KernelRfl
import Derived.Laws.Externs
import Derived.Laws.Bits64
import Derived.Laws.MakeOwn
import Derived.Laws.BytesString
import Derived.Carry
import Derived.WideShapes
import GoSem.Claim
import Derived.Test.YtnpeokiboiclfaaGreatProg
import Derived.Laws.AppendOwn
import Derived.Deep.Upon
import Derived.Shelf.Strings.Repeat
import Derived.Ground.NamesProg
import Derived.Lib.Agree
import Derived.Lib.ConvBytes
import Derived.Laws.CopyRow
import Derived.Test.YtnpeokiboiclfaaGreatRows
import Derived.ProofKit
import Derived.OpenShut
import Derived.SizedLaws
import Derived.ChangeMaps5
import Derived.Test.YtnpeokiboiclfaaGreatM3
set_option linter.unusedVariables false
set_option linter.unusedSimpArgs false
set_option maxRecDepth 20000
namespace Go.Proofs.YtnpeokiboiclfaaGreat
open Go Go.RowKit
open Grp
theorem fpow_val {p:Nat} [NeZero p] (x:Fin p):∀ e,(fpow x e).val = x.val^e%p
  | 0=>rfl
  | e+1=>by
    show (fpow x e*x).val = _
    rw [Fin.val_mul,fpow_val x e,Nat.pow_succ,Nat.mul_mod,Nat.mod_mod,← Nat.mul_mod]
def sqN (p a:Nat):Option Nat:=(List.range p).find? fun r=>Nat.beq (r*r%p) a && Nat.beq (r%2) 0
theorem sqN_some {p a r:Nat} (h:sqN p a = some r):r<p∧r*r%p = a∧r%2 = 0:=by
  unfold sqN at h
  have h1:=List.find?_some h
  have h2:=List.mem_of_find?_eq_some h
  simp only [Bool.and_eq_true] at h1
  exact ⟨List.mem_range.1 h2,Nat.eq_of_beq_eq_true h1.1,Nat.eq_of_beq_eq_true h1.2⟩
theorem sqN_none {p a:Nat} (h:sqN p a = none) {r:Nat} (hr:r<p) (h1:r*r%p = a):r%2 = 1:=by
  unfold sqN at h
  have h2:=List.find?_eq_none.1 h r (List.mem_range.2 hr)
  rcases Nat.mod_two_eq_zero_or_one r with h3|h3
  · exact absurd (by rw [h1,h3]; simp) h2
  · exact h3
theorem fin_neg_val {p:Nat} [NeZero p] (x:Fin p) (h:x.val≠0):(0-x).val = p-x.val:=by
  have:=x.isLt
  rw [Fin.sub_def]
  show (p-x.val+(0:Fin p).val)%p = _
  rw [Fin.val_zero,Nat.add_zero,Nat.mod_eq_of_lt om]
theorem neg_sq {p:Nat} [NeZero p] (x:Fin p):(0-x)*(0-x) = x*x:=by grind -lia
def evenR {p:Nat} [NeZero p] (x:Fin p):Fin p:=if x.val%2 = 1 then 0-x else x
theorem evenR_sq {p:Nat} [NeZero p] (x:Fin p):evenR x*evenR x = x*x:=by
  unfold evenR; split
  · exact neg_sq x
  · rfl
theorem evenR_even {p:Nat} [NeZero p] (hodd:p%2 = 1) (x:Fin p):(evenR x).val%2 = 0:=by
  unfold evenR; split
  · rename_i h
    have:=x.isLt
    rw [fin_neg_val x om]; omega
  · omega
theorem sqN_eq {p:Nat} [NeZero p] (hf:Fld p) (hodd:p%2 = 1) (x:Fin p):sqN p (x*x).val = some (evenR x).val:=by
  cases h:sqN p (x*x).val with
  | none =>
    have h1:=sqN_none h (evenR x).isLt (by rw [← Fin.val_mul,evenR_sq])
    have h2:=evenR_even hodd x
    omega
  | some r =>
    obtain ⟨h1,h2,h3⟩:=sqN_some h
    have e:(⟨r,h1⟩:Fin p) = evenR x:=even_root hf hodd (by rw [evenR_sq]; exact Fin.ext (by rw [Fin.val_mul]; exact h2)) h3 (evenR_even hodd x)
    rw [← e]
theorem p_odd {V:Cv} (hok:V.Ok):V.p%2 = 1:=by
  exact hok.bounds.2.2.2.2.2.2.2.1
theorem Cv.Ok.zbounds {V:Cv} (h:V.Ok):2≤V.z∧V.z<V.p:=by
  have cs:=h.cs
  simp only [Bool.and_eq_true] at cs
  exact ⟨Nb cs.1.1.1.1.1.1.1.2,Nb cs.1.1.1.1.1.1.2⟩
theorem sqN_no {V:Cv} (hok:V.Ok) {a:Fin V.p} (h0:a≠0) (h:fpow a ((V.p-1)/2)≠1):sqN V.p a.val = none:=by
  cases h1:sqN V.p a.val with
  | none=>rfl
  | some r =>
    obtain ⟨h2,h3,h4⟩:=sqN_some h1
    have hb:=hok.bounds
    have hod:=p_odd hok
    have e:a = (⟨r,h2⟩:Fin V.p)*⟨r,h2⟩:=Fin.ext (by rw [Fin.val_mul]; exact h3.symm)
    refine absurd ?_ h
    have hr:(⟨r,h2⟩:Fin V.p)≠0:=fun e0=>h0 (by rw [e,e0]; grind -lia)
    have:=fermat hok.fld om hr
    rw [show V.p-1 = (V.p-1)/2+(V.p-1)/2 by omega,fpow_add,← mul_fpow,← e] at this
    exact this
theorem sqN_zero {p:Nat} (hp:0<p):sqN p 0 = some 0:=by
  unfold sqN
  obtain ⟨n,rfl⟩:∃ n,p = n+1:=⟨p-1,by omega⟩
  rw [List.range_succ_eq_map,List.find?_cons]
  simp
theorem two_lt {k m B:Nat} (h:2^k*m = B) (hm:0<m) (hB:B<W9):k<576:=by
  refine Nat.lt_of_not_le fun hk=>?_
  obtain ⟨q,hq⟩:∃ q:Nat,q = 9:=⟨9,rfl⟩
  have h1:2^(64*q)≤2^k:=Nat.pow_le_pow_right dc om
  have h2:2^k*1≤2^k*m:=Nat.mul_le_mul_left _ hm
  rw [w9 hq] at h1
  omega
theorem val_one {V:Cv} (hok:V.Ok):(1:Fin V.p).val = 1:=by
  have:=hok.bounds
  show 1%V.p = 1
  exact Nat.mod_eq_of_lt om
theorem ne_iff1 {V:Cv} (hok:V.Ok) {x:Fin V.p}:x.val = 1↔x = 1:=⟨fun h=>Fin.ext (h.trans (val_one hok).symm),fun h=>h ▸ val_one hok⟩
theorem fpow_succ2 {p:Nat} [NeZero p] (x:Fin p) (k:Nat):fpow x (2^k)*fpow x (2^k) = fpow x (2^(k+1)):=by rw [← fpow_add,← Nat.mul_two,← Nat.pow_succ]
theorem c_F_Pow (V:Cv) (hok:V.Ok) (bd:Nat) (X:Fin V.p) (E:Nat) (w:World) (hbd:(Item.blk bd ⟨false,dvL V.p,269,(0,0)⟩).holds w) (hE:E<W9):Calls Tryz.prog 160 ([.agg [.pointer (some ⟨bd,0,none⟩)].toArray,natV X.val,natV E]:List Value).toArray w (fun e w'=>e = .returned (natV (fpow X E).val)∧Below w.heap.size w w'):=by
  have hb:=hok.bounds
  have hpW:=KAE hb.2.1
  have:=c_Pow V.p X.val E bd om hpW w hbd (Nat.lt_trans X.isLt hpW) hE
  rwa [← fpow_val] at this
theorem c_one  (w:World)  : Calls Tryz.prog 159 ([]:List Value).toArray w (fun e w'=>e = .returned (natV 1)∧Below w.heap.size w w'):=by
  refine KX (N:=2) (rs:=[.cell 0 33]) [] Tryz.func159 rfl Tryz.ntmps159 Tryz.results159 (Nb rfl) trivial rfl ?_
  refine KB (KA ?_);refine oS (mk (KL zr_33) (fun b0=>?_));refine KC (KB (KA ?_));refine oS (cF rfl en_80 rfl (fun w hw=>KAU 1 dc w) ?_);refine LOps.step rfl (sA rfl rfl sz_33 mO (hl:=mL) (h:=?_));refine KC (KM ?_);refine ⟨[_],.cons ⟨_,_,_,rfl,mM,by exact KD u33 rfl sz_33⟩ .nil,fun a w' hr=>⟨?_,hr.fr.below⟩⟩
  rfl
theorem c_half (A:Nat) (hA:A<W9) (w:World)  : Calls Tryz.prog 161 ([natV A]:List Value).toArray w (fun e w'=>e = .returned (natV (A/2))∧Below w.heap.size w w'):=by
  refine KX (N:=11) (rs:=[.cell 2 33]) [] Tryz.func161 rfl Tryz.ntmps161 Tryz.results161 (Nb rfl) trivial rfl ?_
  refine KB (KA ?_);refine oS (mB (fun b1=>?_));refine oS (mk (KL zr_33) (fun b2=>?_));refine KC (KB (KA ?_));refine oD dNa ?_;refine oS (cF rfl en_83 rfl (fun w hw=>c_nat_Shr A 1 hA dc w) ?_);refine oM ?_;refine oP (Det.extract rfl rfl) ?_;refine oP (Det.extract rfl rfl) ?_;refine oS (mk (KL zr_33) (fun b3=>?_));refine LOps.step rfl (sA rfl rfl sz_33 mO (hl:=mL) (h:=?_));refine oA (KC (KB (KA ?_)));refine oD dNa ?_;refine LOps.step rfl (sA rfl rfl sz_33 mO (hl:=mL) (h:=?_));refine KC (KM ?_);refine ⟨[_],.cons ⟨_,_,_,rfl,mM,by exact KD u33 rfl sz_33⟩ .nil,fun a w' hr=>⟨?_,hr.fr.below⟩⟩
  rw [Nat.pow_one]
  rfl
theorem c_f_AddS (V:Cv) (f bd z:Nat) (w:World) (hf:(Item.blk f ⟨false,fldL V.p bd,165,(0,0)⟩).holds w) (hok:V.Ok) (hz:z+1<V.p):Calls Tryz.prog 82 ([.pointer (some ⟨f,0,none⟩),natV z,natV 1]:List Value).toArray w (fun e w'=>e = .returned (natV (z+1))∧Below w.heap.size w w'):=by
  have:=c_f_Add V f bd z 1 w hf hok.bounds.2.1 om om
  rwa [Nat.mod_eq_of_lt hz] at this
theorem c_F_PowN (V:Cv) (hok:V.Ok) (bd z:Nat) (E:Nat) (w:World) (hbd:(Item.blk bd ⟨false,dvL V.p,269,(0,0)⟩).holds w) (hE:E<W9) (hz:z<V.p):Calls Tryz.prog 160 ([.agg [.pointer (some ⟨bd,0,none⟩)].toArray,natV z,natV E]:List Value).toArray w (fun e w'=>e = .returned (natV (fpow (c V.p z) E).val)∧Below w.heap.size w w'):=by
  have:=c_F_Pow V hok bd (c V.p z) E w hbd hE
  rwa [show (c V.p z).val = z from Nat.mod_eq_of_lt hz] at this
theorem neg_one_val {p:Nat} [NeZero p] (h:2≤p):(-1:Fin p).val = p-1:=by
  have h1:(-1:Fin p) = 0-1:=by grind -lia
  have h2:(1:Fin p).val = 1:=by show 1%p = 1; exact Nat.mod_eq_of_lt om
  rw [h1,fin_neg_val 1 om,h2]
theorem fpow_cval {p:Nat} [NeZero p] (z E:Nat):(fpow (c p z) E).val = z^E%p:=by
  rw [← c_pow]; rfl
theorem half_of {p o s:Nat} (h:o*2^s = p-1) (hp:p%2 = 1) (h2:2≤p) (ho:o%2 = 1):0<s∧o*2^(s-1) = (p-1)/2:=by
  cases s with
  | zero=>rw [Nat.pow_zero,Nat.mul_one] at h; omega
  | succ k =>
    rw [Nat.pow_succ,← Nat.mul_assoc] at h
    refine ⟨Nat.succ_pos k,?_⟩
    show o*2^k = _
    omega
theorem c_root (V:Cv) (f bd:Nat) (hok:V.Ok) (a:Fin V.p) (w:World) (hf:(Item.blk f ⟨false,fldL V.p bd,165,(0,0)⟩).holds w) (hbd:(Item.blk bd ⟨false,dvL V.p,269,(0,0)⟩).holds w) (ha:fpow a ((V.p-1)/2) = 1):Calls Tryz.prog 162 ([.pointer (some ⟨f,0,none⟩),natV a.val]:List Value).toArray w (fun e w'=>∃ v,(∃ x:Fin V.p,x*x = a∧v = natV x.val)∧e = .returned v∧Below w.heap.size w w'):=by
  have hbb:=hok.bounds
  have hpW:V.p<W9:=KAE hbb.2.1
  have hz:=hok.zbounds
  refine KX (N:=118) (rs:=[.cell 4 33]) [.blk f ⟨false,fldL V.p bd,165,(0,0)⟩,.blk bd ⟨false,dvL V.p,269,(0,0)⟩] Tryz.func162 rfl Tryz.ntmps162 Tryz.results162 (Nb rfl) ⟨hf,hbd,trivial⟩ rfl ?_
  refine KB (KA ?_);refine oS (mB (fun b3=>?_));refine oS (mk (KL zr_33) (fun b4=>?_));refine KC (KB ?_);refine rD [10] ?_;refine aM 0 ?_;refine aP 1 rfl (KG rfl) ?_;refine aP 2 rfl (KE (o':=0) u165 rfl rfl rfl sz_33 dc) ?_;refine aD 3 rfl (dL rfl (hv:=by exact Kv u33 rfl sz_33 rfl (KI _))) ?_;refine KAR ?_;refine Kp 9 rfl (.inl zr_33) (Nb rfl) rfl rfl rfl ?_;refine LAnyP.step 4 rfl rfl rfl (Nb rfl) (by kernel_rfl) rfl (Kg (first:=[]) rfl en_159 rfl (fun w hw=>c_one w)) ?_
  rintro _ _ ⟨rfl,rfl⟩
  refine LAnyP.step 5 rfl rfl rfl (Nb rfl) (by kernel_rfl) rfl (Kg (first:=[]) rfl en_79 rfl (fun w hw=>c_nat_SubS V.p 1 w hpW om)) ?_
  rintro _ _ ⟨rfl,rfl⟩
  refine pM 6 ?_;refine pP 7 rfl (Det.extract rfl rfl) ?_;refine pP 8 rfl (Det.extract rfl rfl) ?_;refine pE (fun b5=>?_);refine Kw ?_;refine aL 10 rfl (sA rfl rfl sz_33 mO (hl:=mL) (h:=?_));refine aA 11 ?_;refine aE ?_;refine KB (KA ?_);refine oD dNa ?_;refine oS (mk (KL zr_33) (fun b7=>?_));refine LOps.step rfl (sA rfl rfl sz_33 mO (hl:=mL) (h:=?_));refine oP (KO (v:=.int .i64 ((0:Nat):Int)) rfl) ?_;refine KC (KB (LCode.block ?_));refine Ke (α:=Nat×Nat) (fun x=>x.1*2^x.2 = V.p-1∧0<x.1) (fun x=>⟨[(0,.pointer (some ⟨f,0,none⟩)),(3,.pointer (some ⟨b3,0,none⟩)),(4,.pointer (some ⟨b4,0,none⟩)),(5,.pointer (some ⟨b5,0,none⟩)),(7,.pointer (some ⟨b7,0,none⟩)),(8,.int .i64 ((x.2:Nat):Int))],[.blk b7 ⟨true,natL x.1,33,(0,0)⟩,.blk b5 ⟨true,natL (V.p-1),33,(0,0)⟩,.blk b4 ⟨true,vec .u64 9 (fun _=>0),33,(0,0)⟩,.blk b3 ⟨true,natL a.val,33,(0,0)⟩,.blk f ⟨false,fldL V.p bd,165,(0,0)⟩,.blk bd ⟨false,dvL V.p,269,(0,0)⟩]⟩) (fun x=>x.1) ((V.p-1,0)) (⟨by dsimp only; omega,by dsimp only; omega⟩) (Ka ⟨rfl,rfl,rfl,rfl,rfl,rfl,trivial⟩ mS) ?_
  rintro o ⟨ho1,ho2⟩
  refine KB (KB ?_)
  have ho3:o.1≤V.p-1:=by
    have h2:o.1*1≤o.1*2^o.2:=Nat.mul_le_mul_left _ Nat.one_le_two_pow
    omega
  have ho4:o.2<576:=two_lt ((Nat.mul_comm _ _).trans ho1) ho2 om
  refine KA ?_;refine oD dNa ?_;refine oS (cF rfl en_57 rfl (fun w hw=>c_nat_Bit o.1 0 om dc w) ?_);refine oP (KF rfl rfl (Kz (b:=0))) ?_;refine KC ?_
  first|refine KR rfl (fun h30=>?_) (fun h30=>?_)|refine KS rfl (fun h30=>?_) (fun h30=>?_)
  ·
   have h30:o.1/2^0%2 = 0:=h30
   rw [Nat.pow_zero,Nat.div_one] at h30
   refine KN (LCode.block (KA ?_));refine oD dNa ?_;refine oS (cF rfl en_161 rfl (fun w hw=>c_half o.1 om w) ?_);refine oM ?_;refine oP (KF rfl rfl (Ko (b:=1) om)) ?_;refine LOps.step rfl (sA rfl rfl sz_33 mO (hl:=mL) (h:=?_));refine oA (KC ?_)
   exact ⟨(o.1/2,o.2+1),⟨by dsimp only; rw [Nat.pow_succ,Nat.mul_comm (2^o.2) 2,← Nat.mul_assoc,show o.1/2*2 = o.1 by omega]; exact ho1,by dsimp only; omega⟩,by dsimp only; omega,Ka ⟨rfl,rfl,rfl,rfl,rfl,rfl,trivial⟩ mS⟩
  have h30:¬ o.1/2^0%2 = 0:=h30
  rw [Nat.pow_zero,Nat.div_one] at h30
  refine Kc (KB (KA ?_));refine oS (cF rfl en_80 rfl (fun w hw=>KAU 2 dc w) ?_);refine oS (mk (KL zr_33) (fun b9=>?_));refine LOps.step rfl (sA rfl rfl sz_33 mO (hl:=mL) (h:=?_));refine KC (KB (LCode.block ?_));refine Ke (α:=Nat) (fun x=>2≤x∧x≤V.z) (fun x=>⟨[(0,.pointer (some ⟨f,0,none⟩)),(3,.pointer (some ⟨b3,0,none⟩)),(4,.pointer (some ⟨b4,0,none⟩)),(5,.pointer (some ⟨b5,0,none⟩)),(7,.pointer (some ⟨b7,0,none⟩)),(8,.int .i64 ((o.2:Nat):Int)),(9,.pointer (some ⟨b9,0,none⟩))],[.blk b9 ⟨true,natL x,33,(0,0)⟩,.blk b7 ⟨true,natL o.1,33,(0,0)⟩,.blk b5 ⟨true,natL (V.p-1),33,(0,0)⟩,.blk b4 ⟨true,vec .u64 9 (fun _=>0),33,(0,0)⟩,.blk b3 ⟨true,natL a.val,33,(0,0)⟩,.blk f ⟨false,fldL V.p bd,165,(0,0)⟩,.blk bd ⟨false,dvL V.p,269,(0,0)⟩]⟩) (fun x=>V.z-x) (2) (⟨Nat.le_refl _,hz.1⟩) (Ka ⟨rfl,rfl,rfl,rfl,rfl,rfl,rfl,trivial⟩ mS) ?_
  rintro z ⟨hz1,hz2⟩
  refine KB (KB ?_);refine rD [] ?_;refine aM 0 ?_;refine aP 1 rfl (KG rfl) ?_;refine aP 2 rfl (KE (o':=9) u165 rfl rfl rfl sz_163 dc) ?_;refine aD 3 rfl (dL rfl (hv:=by exact LoadV.last u163 rfl sz_163 rfl (KI _) rfl)) ?_;refine aD 4 rfl dNa ?_;refine aD 5 rfl dNa ?_;refine aD 8 rfl dNa ?_;refine aO 6 rfl (cF rfl en_161 rfl (fun w hw=>c_half (V.p-1) om w) ?_);refine aO 7 rfl (cF rfl en_160 rfl (fun w hw=>c_Pow V.p z ((V.p-1)/2) bd om hpW w (mC hw) om om) ?_);refine aP 9 rfl (Det.nea (by kernel_rfl) (fun w=>eq_nat (z^((V.p-1)/2)%V.p) (V.p-1) (Nat.lt_trans (Nat.mod_lt _ om) hpW) om 10000 dc w) rfl rfl) ?_;refine aE ?_
  first|refine KR rfl (fun h45=>?_) (fun h45=>?_)|refine KS rfl (fun h45=>?_) (fun h45=>?_)
  ·
   have h45:z^((V.p-1)/2)%V.p≠V.p-1:=by simpa using h45
   refine KN (LCode.block ?_)
   have hzz:z≠V.z:=fun h=>h45 (by have:=congrArg Fin.val hok.none; rw [fpow_cval,neg_one_val om] at this; rw [h]; exact this)
   refine rD [4] ?_;refine aM 0 ?_;refine aD 1 rfl dNa ?_;refine aO 2 rfl (cF rfl en_159 rfl (fun w hw=>c_one w) ?_);refine aO 3 rfl (cF rfl en_82 rfl (fun w hw=>c_f_AddS V f bd z w (mC hw) hok om) ?_);refine aL 4 rfl (sA rfl rfl sz_33 mO (hl:=mL) (h:=?_));refine aE ?_
   exact ⟨z+1,⟨by omega,by omega⟩,by omega,Ka ⟨rfl,rfl,rfl,rfl,rfl,rfl,rfl,trivial⟩ mS⟩
  have h45:z^((V.p-1)/2)%V.p = V.p-1:=by simpa using h45
  refine Kc (KB ?_)
  have hz3:fpow (c V.p z) ((V.p-1)/2) = -1:=Fin.ext (by rw [fpow_cval,neg_one_val om]; exact h45)
  obtain ⟨hs1,hs2⟩:=half_of ho1 (p_odd hok) om om
  refine rD [7] ?_;refine aD 0 rfl dNa ?_;refine KAR ?_;refine Kp 6 rfl (.inl zr_33) (Nb rfl) rfl rfl rfl ?_;refine LAnyP.step 1 rfl rfl rfl (Nb rfl) (by kernel_rfl) rfl (Kg (first:=[]) rfl en_159 rfl (fun w hw=>c_one w)) ?_
  rintro _ _ ⟨rfl,rfl⟩
  refine LAnyP.step 2 rfl rfl rfl (Nb rfl) (by kernel_rfl) rfl (Kg (first:=[]) rfl en_91 rfl (fun w hw=>c_nat_AddS o.1 1 w om)) ?_
  rintro _ _ ⟨rfl,rfl⟩
  refine pM 3 ?_;refine pP 4 rfl (Det.extract rfl rfl) ?_;refine pP 5 rfl (Det.extract rfl rfl) ?_;refine pE (fun b10=>?_);refine Kw ?_;refine aL 7 rfl (sA rfl rfl sz_33 mO (hl:=mL) (h:=?_));refine aA 8 ?_;refine aE ?_;refine KB ?_;refine rD [25,26,27] ?_;refine aM 0 ?_;refine aP 1 rfl (KG rfl) ?_;refine aP 2 rfl (KE (o':=9) u165 rfl rfl rfl sz_163 dc) ?_;refine aD 3 rfl (dL rfl (hv:=by exact LoadV.last u163 rfl sz_163 rfl (KI _) rfl)) ?_;refine aD 4 rfl dNa ?_;refine aD 5 rfl dNa ?_;refine aM 7 ?_;refine aP 8 rfl (KG rfl) ?_;refine aP 9 rfl (KE (o':=9) u165 rfl rfl rfl sz_163 dc) ?_;refine aM 15 ?_;refine aP 16 rfl (KG rfl) ?_;refine aP 17 rfl (KE (o':=9) u165 rfl rfl rfl sz_163 dc) ?_;refine LAny.takeW [14,21,25,26,27] 10 rfl (by kernel_rfl) (Nb rfl) (dL rfl (hv:=by exact LoadV.last u163 rfl sz_163 rfl (KI _) rfl)) ?_
  refine LAny.takeW [14,21,25,26,27] 11 rfl (by kernel_rfl) (Nb rfl) dNa ?_;refine LAny.takeW [13,14,21,25,26,27] 12 rfl (by kernel_rfl) (Nb rfl) dNa ?_;refine LAny.takeW [21,25,26,27] 18 rfl (by kernel_rfl) (Nb rfl) (dL rfl (hv:=by exact LoadV.last u163 rfl sz_163 rfl (KI _) rfl)) ?_;refine LAny.takeW [21,25,26,27] 19 rfl (by kernel_rfl) (Nb rfl) dNa ?_;refine LAny.takeW [21,25,26,27] 20 rfl (by kernel_rfl) (Nb rfl) dNa ?_;refine KAR ?_;refine Kp 22 rfl (.inl zr_33) (Nb rfl) rfl rfl rfl ?_;refine Kp 23 rfl (.inl zr_33) (Nb rfl) rfl rfl rfl ?_;refine Kp 24 rfl (.inl zr_33) (Nb rfl) rfl rfl rfl ?_;refine LAnyP.step 6 rfl rfl rfl (Nb rfl) (by kernel_rfl) rfl (Kg (first:=[]) rfl en_160 rfl (fun w hw=>c_F_PowN V hok bd z o.1 w (mC hw) om om)) ?_
  rintro _ _ ⟨rfl,rfl⟩
  refine LAnyP.step 13 rfl rfl rfl (Nb rfl) (by kernel_rfl) rfl (Kg (first:=[]) rfl en_161 rfl (fun w hw=>c_half (o.1+1) om w)) ?_
  rintro _ _ ⟨rfl,rfl⟩
  refine LAnyP.step 14 rfl rfl rfl (Nb rfl) (by kernel_rfl) rfl (Kg (first:=[]) rfl en_160 rfl (fun w hw=>c_F_Pow V hok bd a ((o.1+1)/2) w (mC hw) om)) ?_
  rintro _ _ ⟨rfl,rfl⟩
  refine LAnyP.step 21 rfl rfl rfl (Nb rfl) (by kernel_rfl) rfl (Kg (first:=[]) rfl en_160 rfl (fun w hw=>c_F_Pow V hok bd a o.1 w (mC hw) om)) ?_
  rintro _ _ ⟨rfl,rfl⟩
  refine pE (fun b14=>?_);refine pE (fun b13=>?_);refine pE (fun b12=>?_);refine Kw ?_;refine aL 25 rfl (sA rfl rfl sz_33 mO (hl:=mL) (h:=?_));refine aL 26 rfl (sA rfl rfl sz_33 mO (hl:=mL) (h:=?_));refine aL 27 rfl (sA rfl rfl sz_33 mO (hl:=mL) (h:=?_));refine aE ?_;refine KB (LCode.block ?_);refine Ke (α:=Fin V.p×Fin V.p×Fin V.p×Nat) (fun x=>TS a x.1 x.2.1 x.2.2.1 x.2.2.2∧x.2.2.2<576) (fun x=>⟨[(0,.pointer (some ⟨f,0,none⟩)),(4,.pointer (some ⟨b4,0,none⟩)),(8,.int .i64 ((x.2.2.2:Nat):Int)),(12,.pointer (some ⟨b12,0,none⟩)),(13,.pointer (some ⟨b13,0,none⟩)),(14,.pointer (some ⟨b14,0,none⟩))],[.blk b12 ⟨true,natL x.2.1.val,33,(0,0)⟩,.blk b13 ⟨true,natL x.1.val,33,(0,0)⟩,.blk b14 ⟨true,natL x.2.2.1.val,33,(0,0)⟩,.blk b4 ⟨true,vec .u64 9 (fun _=>0),33,(0,0)⟩,.blk f ⟨false,fldL V.p bd,165,(0,0)⟩,.blk bd ⟨false,dvL V.p,269,(0,0)⟩]⟩) (fun x=>x.2.2.2) ((fpow a ((o.1+1)/2),fpow (c V.p z) o.1,fpow a o.1,o.2)) (⟨TS.init hs1 om (by rw [hs2]; exact hz3) (by rw [hs2]; exact ha),ho4⟩) (Ka ⟨rfl,rfl,rfl,rfl,rfl,rfl,trivial⟩ mS) ?_
  rintro y ⟨hy1,hy2⟩
  refine KB (KB ?_);refine rD [] ?_;refine aD 0 rfl dNa ?_;refine aO 1 rfl (cF rfl en_159 rfl (fun w hw=>c_one w) ?_);refine aP 2 rfl (Det.nea (by kernel_rfl) (fun w=>eq_nat y.2.2.1.val 1 (Nat.lt_trans y.2.2.1.isLt hpW) one_w9 10000 dc w) rfl rfl) ?_;refine aE ?_
  first|refine KR rfl (fun h80=>?_) (fun h80=>?_)|refine KS rfl (fun h80=>?_) (fun h80=>?_)
  ·
   have h80:y.2.2.1≠1:=fun h=>by simp [(ne_iff1 hok).2 h] at h80
   refine KN (LCode.block (KB (KA ?_)));refine oP (KO (v:=.int .i64 ((0:Nat):Int)) rfl) ?_;refine KC (KB (KB (KA ?_)));refine oD dNa ?_;refine oS (mk (KL zr_33) (fun b16=>?_));refine LOps.step rfl (sA rfl rfl sz_33 mO (hl:=mL) (h:=?_));refine KC (LCode.block ?_);refine Ke (α:=Nat×Nat) (fun x=>∀ j,j<x.1→fpow y.2.2.1 (2^j)≠1) (fun x=>⟨[(0,.pointer (some ⟨f,0,none⟩)),(4,.pointer (some ⟨b4,0,none⟩)),(8,.int .i64 ((y.2.2.2:Nat):Int)),(12,.pointer (some ⟨b12,0,none⟩)),(13,.pointer (some ⟨b13,0,none⟩)),(14,.pointer (some ⟨b14,0,none⟩)),(15,.int .i64 ((x.1:Nat):Int)),(16,.pointer (some ⟨x.2,0,none⟩))],[.blk x.2 ⟨true,natL (fpow y.2.2.1 (2^x.1)).val,33,(0,0)⟩,.blk b12 ⟨true,natL y.2.1.val,33,(0,0)⟩,.blk b13 ⟨true,natL y.1.val,33,(0,0)⟩,.blk b14 ⟨true,natL y.2.2.1.val,33,(0,0)⟩,.blk b4 ⟨true,vec .u64 9 (fun _=>0),33,(0,0)⟩,.blk f ⟨false,fldL V.p bd,165,(0,0)⟩,.blk bd ⟨false,dvL V.p,269,(0,0)⟩]⟩) (fun x=>y.2.2.2-x.1) ((0,b16)) (fun j hj=>absurd hj (Nat.not_lt_zero _)) (KAC (Sub.cells (b:=b16) (cs':=natL (fpow y.2.2.1 (2^0)).val) (by repeat (first|exact Sh _|apply St_)) (by rw [Nat.pow_zero,fpow_one])) (Ka ⟨rfl,rfl,rfl,rfl,rfl,rfl,rfl,rfl,trivial⟩ mS)) ?_
   rintro k hk
   refine KB (KB ?_)
   have hkm0:=TS.less hok.fld.dom hy1 hk
   refine rD [] ?_;refine aD 0 rfl dNa ?_;refine aO 1 rfl (cF rfl en_159 rfl (fun w hw=>c_one w) ?_);refine aP 2 rfl (Det.nea (by kernel_rfl) (fun w=>eq_nat (fpow y.2.2.1 (2^k.1)).val 1 (Nat.lt_trans (fpow y.2.2.1 (2^k.1)).isLt hpW) one_w9 10000 dc w) rfl rfl) ?_;refine aE ?_
   first|refine KR rfl (fun h84=>?_) (fun h84=>?_)|refine KS rfl (fun h84=>?_) (fun h84=>?_)
   ·
    have h84:fpow y.2.2.1 (2^k.1)≠1:=fun h=>by simp [(ne_iff1 hok).2 h] at h84
    refine KN (KB (LCode.block (KA (oM ?_))));refine oP (KF rfl rfl (Ko (b:=1) om)) ?_;refine oA (KC (KB (KB (KA ?_))));refine oD dNa ?_;refine KC (KA ?_);refine oS (mk (KL zr_33) (fun b16=>?_));refine LOps.step rfl (sA rfl rfl sz_33 mO (hl:=mL) (h:=?_));refine KC (KA (oM ?_));refine oD dNa ?_;refine oD dNa ?_;refine oS (cF rfl en_97 rfl (fun w hw=>c_F_Mul V hok f bd _ _ w (mC hw) (mC hw)) ?_);refine LOps.step rfl (sA rfl rfl sz_33 mO (hl:=mL) (h:=?_));refine KC ?_
    have hk':∀ j,j<k.1+1→fpow y.2.2.1 (2^j)≠1:=fun j hj=>by
      rcases Nat.lt_or_eq_of_le (Nat.le_of_lt_succ hj) with h|rfl
      · exact hk j h
      · exact h84
    have hkm:=TS.less hok.fld.dom hy1 hk'
    exact ⟨(k.1+1,b16),hk',by dsimp only; omega,KAC (Sub.cells (b:=b16) (cs':=natL (fpow y.2.2.1 (2^(k.1+1))).val) (by repeat (first|exact Sh _|apply St_)) (by rw [fpow_succ2])) (Ka ⟨rfl,rfl,rfl,rfl,rfl,rfl,rfl,rfl,trivial⟩ mS)⟩
   have h84:fpow y.2.2.1 (2^k.1) = 1:=(ne_iff1 hok).1 (by simpa using h84)
   refine Kc (KB ?_)
   obtain ⟨hn1,hn2,-⟩:=TS.next hok.fld.dom hy1 h80 hk h84
   refine KA ?_;refine oD dNa ?_;refine oS (mk (KL zr_33) (fun b17=>?_));refine LOps.step rfl (sA rfl rfl sz_33 mO (hl:=mL) (h:=?_));refine KC (KB (KB (KA (oM (oM ?_)))));refine oP (KF (v:=.int .i64 (((y.2.2.2-k.1):Nat):Int)) rfl rfl ((br_subI om om).trans (by congr 2; omega))) ?_;refine oP (KF (v:=.int .i64 (((y.2.2.2-k.1-1):Nat):Int)) rfl rfl ((br_subI om om).trans (by congr 2; omega))) ?_;refine oP (Ki (v:=.int .i64 ((0:Nat):Int)) rfl) ?_;refine KC (LCode.block ?_);refine Ke (α:=Nat) (fun x=>x≤y.2.2.2-k.1-1) (fun x=>⟨[(0,.pointer (some ⟨f,0,none⟩)),(4,.pointer (some ⟨b4,0,none⟩)),(8,.int .i64 ((y.2.2.2:Nat):Int)),(12,.pointer (some ⟨b12,0,none⟩)),(13,.pointer (some ⟨b13,0,none⟩)),(14,.pointer (some ⟨b14,0,none⟩)),(15,.int .i64 ((k.1:Nat):Int)),(17,.pointer (some ⟨b17,0,none⟩)),(96,.int .i64 (((y.2.2.2-k.1-1):Nat):Int)),(97,.int .i64 ((x:Nat):Int))],[.blk b17 ⟨true,natL (fpow y.2.1 (2^x)).val,33,(0,0)⟩,.blk b12 ⟨true,natL y.2.1.val,33,(0,0)⟩,.blk b13 ⟨true,natL y.1.val,33,(0,0)⟩,.blk b14 ⟨true,natL y.2.2.1.val,33,(0,0)⟩,.blk b4 ⟨true,vec .u64 9 (fun _=>0),33,(0,0)⟩,.blk f ⟨false,fldL V.p bd,165,(0,0)⟩,.blk bd ⟨false,dvL V.p,269,(0,0)⟩]⟩) (fun x=>y.2.2.2-k.1-1-x) (0) (Nat.zero_le _) (KAC (Sub.cells (b:=b17) (cs':=natL (fpow y.2.1 (2^0)).val) (by repeat (first|exact Sh _|apply St_)) (by rw [Nat.pow_zero,fpow_one])) (Ka ⟨rfl,rfl,rfl,rfl,rfl,rfl,rfl,rfl,rfl,rfl,trivial⟩ mS)) ?_
   rintro i hi
   refine KB (KA ?_);refine oP (KF rfl rfl (KAF)) ?_;refine KC (KB ?_)
   first|refine KR rfl (fun h98=>?_) (fun h98=>?_)|refine KS rfl (fun h98=>?_) (fun h98=>?_)
   ·
    refine KN (KB (LCode.block (KA (oM ?_))));refine oD dNa ?_;refine oD dNa ?_;refine oS (cF rfl en_97 rfl (fun w hw=>c_F_Mul V hok f bd _ _ w (mC hw) (mC hw)) ?_);refine LOps.step rfl (sA rfl rfl sz_33 mO (hl:=mL) (h:=?_));refine KC (KA ?_);refine oP (KF rfl rfl (Ko (b:=1) om)) ?_;refine oM (KC ?_)
    exact ⟨i+1,by omega,by omega,KAC (Sub.cells (b:=b17) (cs':=natL (fpow y.2.1 (2^(i+1))).val) (by repeat (first|exact Sh _|apply St_)) (by rw [fpow_succ2])) (Ka ⟨rfl,rfl,rfl,rfl,rfl,rfl,rfl,rfl,rfl,rfl,trivial⟩ mS)⟩
   refine Kc (KB ?_)
   obtain rfl:i = y.2.2.2-k.1-1:=by omega
   refine rD [8,9] ?_;refine aM 0 ?_;refine aD 1 rfl dNa ?_;refine aD 2 rfl dNa ?_;refine aM 4 ?_;refine LAny.takeW [7,8,9] 5 rfl (by kernel_rfl) (Nb rfl) dNa ?_;refine LAny.takeW [7,8,9] 6 rfl (by kernel_rfl) (Nb rfl) dNa ?_;refine aO 3 rfl (cF rfl en_97 rfl (fun w hw=>c_F_Mul V hok f bd _ _ w (mC hw) (mC hw)) ?_);refine aO 7 rfl (cF rfl en_97 rfl (fun w hw=>c_F_Mul V hok f bd _ _ w (mC hw) (mC hw)) ?_);refine aL 8 rfl (sA rfl rfl sz_33 mO (hl:=mL) (h:=?_));refine aL 9 rfl (sA rfl rfl sz_33 mO (hl:=mL) (h:=?_));refine aE ?_;refine KA (oM ?_);refine oD dNa ?_;refine oD dNa ?_;refine oS (cF rfl en_97 rfl (fun w hw=>c_F_Mul V hok f bd _ _ w (mC hw) (mC hw)) ?_)
   refine oM ?_;refine LOps.step rfl (sA rfl rfl sz_33 mO (hl:=mL) (h:=?_));refine oA (KC ?_)
   obtain ⟨hn1,hn2,hn3⟩:=TS.next hok.fld.dom hy1 h80 hk h84
   exact ⟨(y.1*(fpow y.2.1 (2^(y.2.2.2-k.1-1))),(fpow y.2.1 (2^(y.2.2.2-k.1-1)))*(fpow y.2.1 (2^(y.2.2.2-k.1-1))),y.2.2.1*((fpow y.2.1 (2^(y.2.2.2-k.1-1)))*(fpow y.2.1 (2^(y.2.2.2-k.1-1)))),k.1),⟨hn3,by dsimp only; omega⟩,by dsimp only; omega,Ka ⟨rfl,rfl,rfl,rfl,rfl,rfl,trivial⟩ mS⟩
  have h80:y.2.2.1 = 1:=(ne_iff1 hok).1 (by simpa using h80)
  refine Kc (KB (KA ?_));refine oD dNa ?_;refine LOps.step rfl (sA rfl rfl sz_33 mO (hl:=mL) (h:=?_));refine KC (KM ?_);refine ⟨[_],.cons ⟨_,_,_,rfl,mM,by exact KD u33 rfl sz_33⟩ .nil,fun a w' hr=>⟨_,⟨y.1,hy1.done h80,rfl⟩,rfl,hr.fr.below⟩⟩
def sqV (p a:Nat):Value:=match sqN p a with
  | some r=>.tuple #[natV r,.bool true]
  | none=>.tuple #[natV 0,.bool false]
theorem sqV_some {p a r:Nat} (h:sqN p a = some r):sqV p a = .tuple #[natV r,.bool true]:=by unfold sqV; rw [h]
theorem sqV_none {p a:Nat} (h:sqN p a = none):sqV p a = .tuple #[natV 0,.bool false]:=by unfold sqV; rw [h]
theorem c_F_Sqrt (V:Cv) (f bd:Nat) (hok:V.Ok) (a:Fin V.p) (w:World) (hf:(Item.blk f ⟨false,fldL V.p bd,165,(0,0)⟩).holds w) (hbd:(Item.blk bd ⟨false,dvL V.p,269,(0,0)⟩).holds w):Calls Tryz.prog 119 ([.pointer (some ⟨f,0,none⟩),natV a.val]:List Value).toArray w (fun e w'=>e = .returned (sqV V.p a.val)∧Below w.heap.size w w'):=by
  have hbb:=hok.bounds
  have hpW:V.p<W9:=KAE hbb.2.1
  refine KX (N:=44) (rs:=[.cell 4 33,.tmp 5]) [.blk f ⟨false,fldL V.p bd,165,(0,0)⟩,.blk bd ⟨false,dvL V.p,269,(0,0)⟩] Tryz.func119 rfl Tryz.ntmps119 Tryz.results119 (Nb rfl) ⟨hf,hbd,trivial⟩ rfl ?_
  refine KB (KA ?_);refine oS (mB (fun b3=>?_));refine oS (mk (KL zr_33) (fun b4=>?_));refine oA (KC (KB (KB (KA ?_))));refine oD dNa ?_;refine oP (KK (Kd pl_33 zr_33 rfl rfl) (show _ = natV 0 by unfold natV natL; rw [← vec_zeros 9])) ?_;refine oP (Det.eqa (by kernel_rfl) (fun w=>eq_nat a.val 0 (Nat.lt_trans a.isLt hpW) zero_w9 10000 dc w) rfl rfl) ?_;refine KC ?_
  first|refine KR rfl (fun h11=>?_) (fun h11=>?_)|refine KS rfl (fun h11=>?_) (fun h11=>?_)
  ·
   have h11:a.val = 0:=by simpa using h11
   refine KB (KA ?_);refine oD dNa ?_;refine LOps.step rfl (sA rfl rfl sz_33 mO (hl:=mL) (h:=?_));refine oA (KC (KM ?_));refine ⟨[_,_],.cons ⟨_,_,_,rfl,mM,by exact KD u33 rfl sz_33⟩ (.cons rfl .nil),fun a' w' hr=>⟨?_,hr.fr.below⟩⟩
   rw [h11,sqV_some (sqN_zero om)]
   rfl
  have h11:a≠0:=fun h=>by rw [h] at h11; simp at h11
  refine KN (KB ?_);refine rD [10] ?_;refine aM 0 ?_;refine aP 1 rfl (KG rfl) ?_;refine aP 2 rfl (KE (o':=0) u165 rfl rfl rfl sz_33 dc) ?_;refine aD 3 rfl (dL rfl (hv:=by exact Kv u33 rfl sz_33 rfl (KI _))) ?_;refine KAR ?_;refine Kp 9 rfl (.inl zr_33) (Nb rfl) rfl rfl rfl ?_;refine LAnyP.step 4 rfl rfl rfl (Nb rfl) (by kernel_rfl) rfl (Kg (first:=[]) rfl en_159 rfl (fun w hw=>c_one w)) ?_
  rintro _ _ ⟨rfl,rfl⟩
  refine LAnyP.step 5 rfl rfl rfl (Nb rfl) (by kernel_rfl) rfl (Kg (first:=[]) rfl en_79 rfl (fun w hw=>c_nat_SubS V.p 1 w hpW om)) ?_
  rintro _ _ ⟨rfl,rfl⟩
  refine pM 6 ?_;refine pP 7 rfl (Det.extract rfl rfl) ?_;refine pP 8 rfl (Det.extract rfl rfl) ?_;refine pE (fun b6=>?_);refine Kw ?_;refine aL 10 rfl (sA rfl rfl sz_33 mO (hl:=mL) (h:=?_));refine aA 11 ?_;refine aE ?_;refine KB (KB ?_);refine rD [] ?_;refine aM 0 ?_;refine aP 1 rfl (KG rfl) ?_;refine aP 2 rfl (KE (o':=9) u165 rfl rfl rfl sz_163 dc) ?_;refine aD 3 rfl (dL rfl (hv:=by exact LoadV.last u163 rfl sz_163 rfl (KI _) rfl)) ?_;refine aD 4 rfl dNa ?_;refine aD 5 rfl dNa ?_;refine aO 6 rfl (cF rfl en_161 rfl (fun w hw=>c_half (V.p-1) om w) ?_);refine aO 7 rfl (cF rfl en_160 rfl (fun w hw=>c_F_Pow V hok bd a ((V.p-1)/2) w (mC hw) om) ?_);refine aO 8 rfl (cF rfl en_159 rfl (fun w hw=>c_one w) ?_);refine aP 9 rfl (Det.nea (by kernel_rfl) (fun w=>eq_nat (fpow a ((V.p-1)/2)).val 1 (Nat.lt_trans (fpow a ((V.p-1)/2)).isLt hpW) one_w9 10000 dc w) rfl rfl) ?_
  refine aE ?_
  first|refine KR rfl (fun h31=>?_) (fun h31=>?_)|refine KS rfl (fun h31=>?_) (fun h31=>?_)
  ·
   have h31:fpow a ((V.p-1)/2)≠1:=fun h=>by simp [(ne_iff1 hok).2 h] at h31
   refine KB (KA ?_);refine oP (KK (Kd pl_33 zr_33 rfl rfl) (show _ = natV 0 by unfold natV natL; rw [← vec_zeros 9])) ?_;refine LOps.step rfl (sA rfl rfl sz_33 mO (hl:=mL) (h:=?_));refine oA (KC (KM ?_));refine ⟨[_,_],.cons ⟨_,_,_,rfl,mM,by exact KD u33 rfl sz_33⟩ (.cons rfl .nil),fun a' w' hr=>⟨?_,hr.fr.below⟩⟩
   rw [sqV_none (sqN_no hok h11 h31)]
   rfl
  have h31:fpow a ((V.p-1)/2) = 1:=(ne_iff1 hok).1 (by simpa using h31)
  refine KN (KB (KA (oM ?_)));refine oD dNa ?_;refine oS (LStep.callV (first:=[]) rfl en_162 rfl (Nb rfl) (fun w hw=>c_root V f bd hok a w (mC hw) (mC hw) h31) ?_)
  rintro _ ⟨x,hx,rfl⟩
  refine oS (mk (KL zr_33) (fun b8=>?_));refine LOps.step rfl (sA rfl rfl sz_33 mO (hl:=mL) (h:=?_));refine KC (KB (KB (KA ?_)));refine oD dNa ?_;refine oS (cF rfl en_57 rfl (fun w hw=>c_nat_Bit x.val 0 (Nat.lt_trans x.isLt hpW) dc w) ?_);refine oP (KF rfl rfl (Kz (b:=1))) ?_;refine KC ?_
  first|refine KR rfl (fun h38=>?_) (fun h38=>?_)|refine KS rfl (fun h38=>?_) (fun h38=>?_)
  ·
   have h38:x.val/2^0%2 = 1:=h38
   rw [Nat.pow_zero,Nat.div_one] at h38
   refine KA (oM ?_);refine oP (KK (Kd pl_33 zr_33 rfl rfl) (show _ = natV 0 by unfold natV natL; rw [← vec_zeros 9])) ?_;refine oD dNa ?_;refine oS (cF rfl en_120 rfl (fun w hw=>c_F_Sub V hok f bd 0 x w (mC hw)) ?_);refine LOps.step rfl (sA rfl rfl sz_33 mO (hl:=mL) (h:=?_));refine KC (KB (KA ?_));refine oD dNa ?_;refine LOps.step rfl (sA rfl rfl sz_33 mO (hl:=mL) (h:=?_));refine oA (KC (KM ?_));refine ⟨[_,_],.cons ⟨_,_,_,rfl,mM,by exact KD u33 rfl sz_33⟩ (.cons rfl .nil),fun a' w' hr=>⟨?_,hr.fr.below⟩⟩
   rw [← hx,sqV_some (sqN_eq hok.fld (p_odd hok) x),evenR,if_pos h38]
   rfl
  have h38:¬ x.val/2^0%2 = 1:=h38
  rw [Nat.pow_zero,Nat.div_one] at h38
  refine KN (KB (KA ?_));refine oD dNa ?_;refine LOps.step rfl (sA rfl rfl sz_33 mO (hl:=mL) (h:=?_));refine oA (KC (KM ?_));refine ⟨[_,_],.cons ⟨_,_,_,rfl,mM,by exact KD u33 rfl sz_33⟩ (.cons rfl .nil),fun a' w' hr=>⟨?_,hr.fr.below⟩⟩
  rw [← hx,sqV_some (sqN_eq hok.fld (p_odd hok) x),evenR,if_neg h38]
  rfl
def uidx (x:Int):Nat:=(x%18446744073709551616).toNat
theorem uidx_eq (x:Int):Value.int .u64 (IntKind.u64.wrap x) = Value.int .u64 ((uidx x:Nat):Int):=by
  unfold uidx
  rw [wrap_u64,Int.toNat_of_nonneg (Int.emod_nonneg _ dc)]
theorem cvI_id {id:Int} {V:Cv} (h:cvI id = some V):cvI ((V.id:Nat):Int) = some V:=by rw [(cvI_ok h).2]; exact h
open Grp
theorem Brings.own {w w':World} {H:List Item} {b:Nat} {cs:List Value} {e:TypeId} (hb:Below w.heap.size w w') (h:(Item.blk b ⟨true,cs,e,(0,0)⟩).holds w') (hn:w.heap.size≤b):Brings w H [.blk b ⟨true,cs,e,(0,0)⟩] w' :=
  ⟨hb,(by intro x hx; simp at hx; subst hx; exact h),(by intro x hx k hk; simp at hx; subst hx; simp [Item.fp] at hk; subst hk; exact .inl hn),(by intro x hx _ k hk; simp at hx; subst hx; simp [Item.fp] at hk; subst hk; exact hn),List.pairwise_singleton _ _⟩
open Grp
theorem xG {V:Cv} (hok:V.Ok):xv V.G = V.x:=val_c hok.bounds.2.2.2.2.1
theorem yG {V:Cv} (hok:V.Ok):yv V.G = V.y:=val_c hok.bounds.2.2.2.2.2.1
open Grp
theorem Det.indexArrN {P : Program} {C : Ctx} {st : St} {d : Option Tmp} {ty : TypeId} {pos : String} {aft : Array Edge} {g : Option (Nat × Bool)} {t : TypeId} {x y : Operand} {n s : Nat} {e : TypeId} {k : IntKind} {i : Nat} {b o : Nat} (ht : P.underlying t = some (.array n e)) (he : szOf P e = some s) (hx : evT st.T x = some (.pointer (some ⟨b, o, none⟩)))
    (hy:evT st.T y = some (.int k (i:Int))) (h1:i<n):Slots P C ⟨d,.indexAddr t x y,ty,pos,aft,g⟩ st (.pointer (some ⟨b,o+i*s,none⟩)):=by
  unfold Slots
  intro a w hr
  have hb:(0≤(i:Int)∧(i:Int)<(n:Int)):=⟨by omega,by omega⟩
  simp [execOp,hr _ _ hx,hr _ _ hy,Instr.indexAt,asIntOf,run_underlying ht,Instr.sureAddr,hb,run_sizeOf he,Addr.add,h1]
theorem g_val {V:Cv} (hok:V.Ok):Value.agg (ptL V.x V.y false).toArray = ptP V.G:=by
  unfold ptP ptV
  rw [xG hok,yG hok]
  rfl
theorem c_cOnB (V:Cv) (b f bd:Nat) (hok:V.Ok) (X Y:Nat) (i r:Bool) (w:World) (hb:(Item.blk b ⟨false,opL V f,100,(0,0)⟩).holds w) (hf:(Item.blk f ⟨false,fldL V.p bd,165,(0,0)⟩).holds w) (hbd:(Item.blk bd ⟨false,dvL V.p,269,(0,0)⟩).holds w) (hX:X<W9) (hY:Y<W9) (hr:onB V.p V.a V.b X Y i = r):Calls Tryz.prog 55 ([.pointer (some ⟨b,0,none⟩),ptV X Y i]:List Value).toArray w (fun e w'=>e = .returned (.bool r)∧Below w.heap.size w w'):=by
  have:=c_cOn V b f bd hok X Y i w hb hf hbd hX hY
  rwa [hr] at this
theorem c_cOnP (V:Cv) (b f bd:Nat) (hok:V.Ok) (P:Pt V.p) (w:World) (hb:(Item.blk b ⟨false,opL V f,100,(0,0)⟩).holds w) (hf:(Item.blk f ⟨false,fldL V.p bd,165,(0,0)⟩).holds w) (hbd:(Item.blk bd ⟨false,dvL V.p,269,(0,0)⟩).holds w) (hP:On V.A V.B P):Calls Tryz.prog 55 ([.pointer (some ⟨b,0,none⟩),ptP P]:List Value).toArray w (fun e w'=>e = .returned (.bool true)∧Below w.heap.size w w') :=
  c_cOnB V b f bd hok (xv P) (yv P) (iv P) true w hb hf hbd (pt_w9 hok P).1 (pt_w9 hok P).2 (onB_on hP)
theorem Kx {p:Nat} (T:Fin p×Fin p×Fin p):(pjFL T).length = 27:=pjL_length _ _ _
theorem pjFL_one {p:Nat} (T:Fin p×Fin p×Fin p):AllOne (pjFL T):=pjL_one _ _ _
def arr4 {p:Nat} (a b c d:Fin p×Fin p×Fin p):List Value:=pjFL a++(pjFL b++(pjFL c++pjFL d))
theorem arr4_length {p:Nat} (a b c d:Fin p×Fin p×Fin p):(arr4 a b c d).length = 108:=by simp [arr4,Kx]
theorem arr4_one {p:Nat} (a b c d:Fin p×Fin p×Fin p):AllOne (arr4 a b c d):=KAY (pjFL_one _) (KAY (pjFL_one _) (KAY (pjFL_one _) (pjFL_one _)))
theorem fill_arr4 {p:Nat} (a b c d:Fin p×Fin p×Fin p):fillL ((List.range 4).map fun i=>(i*27,27)) (vec .u64 9 (fun _=>0)++(vec .u64 9 (fun _=>0)++(vec .u64 9 (fun _=>0)++(vec .u64 9 (fun _=>0)++(vec .u64 9 (fun _=>0)++(vec .u64 9 (fun _=>0)++(vec .u64 9 (fun _=>0)++(vec .u64 9 (fun _=>0)++(vec .u64 9 (fun _=>0)++(vec .u64 9 (fun _=>0)++(vec .u64 9 (fun _=>0)++(vec .u64 9 (fun _=>0))))))))))))) [(0,pjF a),(1,pjF b),(2,pjF c),(3,pjF d)] = some (arr4 a b c d):=by
  refine KAH (A:=[]) (B:=vec .u64 9 (fun _=>0)++(vec .u64 9 (fun _=>0)++(vec .u64 9 (fun _=>0)))) (D:=vec .u64 9 (fun _=>0)++(vec .u64 9 (fun _=>0)++(vec .u64 9 (fun _=>0)++(vec .u64 9 (fun _=>0)++(vec .u64 9 (fun _=>0)++(vec .u64 9 (fun _=>0)++(vec .u64 9 (fun _=>0)++(vec .u64 9 (fun _=>0)++(vec .u64 9 (fun _=>0)))))))))) (cs:=pjFL a) rfl rfl (Kx _) (by simp only [List.append_assoc,List.nil_append,List.append_nil]) rfl (by simp [KQ]) ?_;refine KAH (A:=pjFL a) (B:=vec .u64 9 (fun _=>0)++(vec .u64 9 (fun _=>0)++(vec .u64 9 (fun _=>0)))) (D:=vec .u64 9 (fun _=>0)++(vec .u64 9 (fun _=>0)++(vec .u64 9 (fun _=>0)++(vec .u64 9 (fun _=>0)++(vec .u64 9 (fun _=>0)++(vec .u64 9 (fun _=>0))))))) (cs:=pjFL b) rfl rfl (Kx _) (by simp only [List.append_assoc,List.nil_append,List.append_nil]) (Kx _) (by simp [KQ]) ?_;refine KAH (A:=pjFL a++pjFL b) (B:=vec .u64 9 (fun _=>0)++(vec .u64 9 (fun _=>0)++(vec .u64 9 (fun _=>0)))) (D:=vec .u64 9 (fun _=>0)++(vec .u64 9 (fun _=>0)++(vec .u64 9 (fun _=>0)))) (cs:=pjFL c) rfl rfl (Kx _) (by simp only [List.append_assoc,List.nil_append,List.append_nil]) (by simp [Kx]) (by simp [KQ]) ?_
  refine (KAH (A:=pjFL a++(pjFL b++pjFL c)) (B:=vec .u64 9 (fun _=>0)++(vec .u64 9 (fun _=>0)++(vec .u64 9 (fun _=>0)))) (D:=[]) (cs:=pjFL d) rfl rfl (Kx _) (by simp only [List.append_assoc,List.nil_append,List.append_nil]) (by simp [Kx]) (by simp [KQ]) rfl).trans ?_
  simp [arr4]
theorem arr4_1 {p:Nat} (a b c d:Fin p×Fin p×Fin p) (wr:Bool) (e:TypeId) (fz:Nat×Nat):LoadV Tryz.prog 135 ⟨wr,arr4 a b c d,e,fz⟩ 27 (pjF b):=KAd (pre:=pjFL a) (cs:=pjFL b) (post:=pjFL c++pjFL d) u135 rfl KAJ rfl (Kx _) (Kx _)
theorem arr4_2 {p:Nat} (a b c d:Fin p×Fin p×Fin p) (wr:Bool) (e:TypeId) (fz:Nat×Nat):LoadV Tryz.prog 135 ⟨wr,arr4 a b c d,e,fz⟩ 54 (pjF c):=KAd (pre:=pjFL a++pjFL b) (cs:=pjFL c) (post:=pjFL d) u135 rfl KAJ (by simp [arr4]) (by simp [Kx]) (Kx _)
theorem arr4_3 {p:Nat} (a b c d:Fin p×Fin p×Fin p) (wr:Bool) (e:TypeId) (fz:Nat×Nat):LoadV Tryz.prog 135 ⟨wr,arr4 a b c d,e,fz⟩ 81 (pjF d):=LoadV.last (pre:=pjFL a++(pjFL b++pjFL c)) (cs:=pjFL d) u135 rfl KAJ (by simp [arr4]) (by simp [Kx]) (Kx _)
noncomputable def dualP (V:Cv) (U W:Nat) (Q:Pt V.p):Pt V.p:=padd V.A (pmul V.A V.G U) (pmul V.A Q W)
theorem dual_step {V:Cv} (hok:V.Ok) {Q:Pt V.p} (hQ:On V.A V.B Q) {U W y bu bv:Nat} {T Tk:Fin V.p×Fin V.p×Fin V.p} (h1:U/2^y%2 = bu) (h2:W/2^y%2 = bv) (hT:RepT V T (dualP V (U/2^(y+1)) (W/2^(y+1)) Q)) (hk:RepT V Tk (dualP V bu bv Q)):RepT V (sumT V (sumT V T T) Tk) (dualP V (U/2^y) (W/2^y) Q):=by
  have:=RepT.sum hok (RepT.sum hok hT hT) hk
  subst h1 h2
  unfold dualP at *
  rwa [hok.dual_bit hok.on hQ] at this
theorem dual_zero {V:Cv} (hok:V.Ok) {Q:Pt V.p} (hQ:On V.A V.B Q) {U W y:Nat} {T:Fin V.p×Fin V.p×Fin V.p} (h1:U/2^y%2 = 0) (h2:W/2^y%2 = 0) (hT:RepT V T (dualP V (U/2^(y+1)) (W/2^(y+1)) Q)):RepT V (sumT V T T) (dualP V (U/2^y) (W/2^y) Q):=by
  have h:=RepT.sum hok hT hT
  have e:=hok.dual_bit hok.on hQ U W y
  rw [h1,h2,pmul_zero,pmul_zero,hok.add_inf (show On V.A V.B (.inf:Pt V.p) from trivial)] at e
  unfold dualP at *
  rw [hok.add_inf (hok.sum (hok.sum (hok.mul hok.on _) (hok.mul hQ _)) (hok.sum (hok.mul hok.on _) (hok.mul hQ _)))] at e
  rwa [e] at h
theorem dual_10 {V:Cv} (hok:V.Ok) {Q:Pt V.p} (hQ:On V.A V.B Q):RepT V (tripF V.G) (dualP V 1 0 Q):=by
  unfold dualP
  rw [pmul_one hok.fld hok.on,pmul_zero,hok.add_inf hok.on]
  exact RepT.trip hok hok.on
theorem dual_01 {V:Cv} (hok:V.Ok) {Q:Pt V.p} (hQ:On V.A V.B Q):RepT V (tripF Q) (dualP V 0 1 Q):=by
  unfold dualP
  rw [pmul_one hok.fld hQ,pmul_zero,hok.inf_add hQ]
  exact RepT.trip hok hQ
theorem dual_11 {V:Cv} (hok:V.Ok) {Q:Pt V.p} (hQ:On V.A V.B Q):RepT V (sumT V (tripF V.G) (tripF Q)) (dualP V 1 1 Q):=by
  unfold dualP
  rw [pmul_one hok.fld hQ,pmul_one hok.fld hok.on]
  exact RepT.sum hok (RepT.trip hok hok.on) (RepT.trip hok hQ)
theorem dual_top {V:Cv} (hok:V.Ok) {Q:Pt V.p} {U W:Nat} (hU:U<V.n) (hW:W<V.n):dualP V (U/2^blen V.n) (W/2^blen V.n) Q = .inf:=by
  have hn:=lt_blen V.n
  unfold dualP
  rw [Nat.div_eq_of_lt (Nat.lt_trans hU hn),Nat.div_eq_of_lt (Nat.lt_trans hW hn),pmul_zero,pmul_zero,hok.add_inf (show On V.A V.B (.inf:Pt V.p) from trivial)]
theorem c_dualTimes (V:Cv) (b f bd:Nat) (hok:V.Ok) (U W:Nat) (Q:Pt V.p) (hQ:On V.A V.B Q) (hU:U<V.n) (hW:W<V.n) (w:World) (hb:(Item.blk b ⟨false,opL V f,100,(0,0)⟩).holds w) (hf:(Item.blk f ⟨false,fldL V.p bd,165,(0,0)⟩).holds w) (hbd:(Item.blk bd ⟨false,dvL V.p,269,(0,0)⟩).holds w):Calls Tryz.prog 56 ([.pointer (some ⟨b,0,none⟩),natV U,natV W,ptP Q]:List Value).toArray w (fun e w'=>e = .returned (ptP (dualP V U W Q))∧Below w.heap.size w w'):=by
  have hbb:=hok.bounds
  have hnW:V.n<W9:=KAE hbb.2.2.2.2.2.2.1
  have hbl:=KAQ hnW
  have hU9:=Nat.lt_trans hU hnW
  have hW9:=Nat.lt_trans hW hnW
  refine KX (N:=65) (rs:=[.cell 8 47]) [.blk b ⟨false,opL V f,100,(0,0)⟩,.blk f ⟨false,fldL V.p bd,165,(0,0)⟩,.blk bd ⟨false,dvL V.p,269,(0,0)⟩] Tryz.func56 rfl Tryz.ntmps56 Tryz.results56 (Nb rfl) ⟨hb,hf,hbd,trivial⟩ rfl ?_
  refine KB (KA ?_);refine oS (mB (fun b5=>?_));refine oS (mB (fun b6=>?_));refine oS (mB (fun b7=>?_));refine oS (mk (KL zr_47) (fun b8=>?_));refine KC (KB ?_);refine rD [10,11] ?_;refine aM 0 ?_;refine aP 1 rfl (KG rfl) ?_;refine aP 2 rfl (KE (o':=0) u100 rfl rfl rfl sz_53 dc) ?_;refine aP 3 rfl (KE (o':=37) u53 rfl rfl rfl sz_47 dc) ?_;refine aD 4 rfl (Det.cast (dL rfl (hv:=by exact cvC_ld_g _ _ _ _ _ _ _ _ _ _ _ _ _ _ _ _)) (g_val hok)) ?_;refine LAny.takeW [7,10,11] 6 rfl (by kernel_rfl) (Nb rfl) dNb ?_;refine KAR ?_;refine Kp 8 rfl (.inl zr_135) (Nb rfl) rfl rfl rfl ?_;refine Kp 9 rfl (.inl zr_135) (Nb rfl) rfl rfl rfl ?_;refine LAnyP.step 5 rfl rfl rfl (Nb rfl) (by kernel_rfl) rfl (Kg (first:=[]) rfl en_67 rfl (fun w hw=>c_Triple V hok V.G w)) ?_
  rintro _ _ ⟨rfl,rfl⟩
  refine LAnyP.step 7 rfl rfl rfl (Nb rfl) (by kernel_rfl) rfl (Kg (first:=[]) rfl en_67 rfl (fun w hw=>c_Triple V hok Q w)) ?_
  rintro _ _ ⟨rfl,rfl⟩
  refine pE (fun b10=>?_);refine pE (fun b9=>?_);refine Kw ?_;refine aL 10 rfl (sA rfl rfl KAJ (by exact pjFL_one _) (hl:=by exact Kx _) (h:=?_));refine aL 11 rfl (sA rfl rfl KAJ (by exact pjFL_one _) (hl:=by exact Kx _) (h:=?_));refine aE ?_;refine KB ?_;refine rD [9] ?_;refine aD 1 rfl (dL rfl (hv:=by exact KD u135 rfl KAJ)) ?_;refine aD 2 rfl (dL rfl (hv:=by exact KD u135 rfl KAJ)) ?_;refine aM 3 ?_;refine aD 4 rfl (dL rfl (hv:=by exact KD u135 rfl KAJ)) ?_;refine aD 5 rfl (dL rfl (hv:=by exact KD u135 rfl KAJ)) ?_;refine KAR ?_;refine Kp 8 rfl (.inl zr_183) (Nb rfl) rfl rfl rfl ?_;refine LAnyP.step 0 rfl rfl rfl (Nb rfl) (by kernel_rfl) rfl (Kg (first:=[]) rfl en_99 rfl (fun w hw=>c_NoneF hok w)) ?_
  rintro _ _ ⟨rfl,rfl⟩
  refine LAnyP.step 6 rfl rfl rfl (Nb rfl) (by kernel_rfl) rfl (Kg (first:=[]) rfl en_100 rfl (fun w hw=>c_SumT V b f bd hok (tripF V.G) (tripF Q) w (mC hw) (mC hw) (mC hw))) ?_
  rintro _ _ ⟨rfl,rfl⟩
  refine pP 7 rfl (KK (Kd pl_183 zr_183 rfl (fill_arr4 _ _ _ _)) rfl) ?_;refine pE (fun b11=>?_);refine Kw ?_;refine aL 9 rfl (sA rfl rfl sz_183 (by exact arr4_one _ _ _ _) (hl:=by exact arr4_length _ _ _ _) (h:=?_));refine aE ?_;refine KB (KA ?_);refine oS (cF rfl en_99 rfl (fun w hw=>c_NoneF hok w) ?_);refine oS (mk (KL zr_135) (fun b12=>?_));refine LOps.step rfl (sA rfl rfl KAJ (by exact pjFL_one _) (hl:=by exact Kx _) (h:=?_));refine KC (KB (KB (KA (oM ?_))));refine oP (KG rfl) ?_;refine oP (KE (o':=0) u100 rfl rfl rfl sz_53 dc) ?_;refine oP (KE (o':=56) u53 rfl rfl rfl sz_3 dc) ?_;refine oD (dL rfl (hv:=KJ u3 rfl (by exact cvC_gt_bits _ _ _ _ _ _ _ _ _ _ _ _ _))) ?_;refine oP (KF (v:=.int .i64 (((blen V.n:Nat):Int)-1)) rfl rfl (br_subI om om)) ?_;refine oA (KC (LCode.block ?_));refine Ke (α:=Nat×(Fin V.p×Fin V.p×Fin V.p)) (fun x=>x.1≤blen V.n∧RepT V x.2 (dualP V (U/2^x.1) (W/2^x.1) Q)) (fun x=>⟨[(0,.pointer (some ⟨b,0,none⟩)),(5,.pointer (some ⟨b5,0,none⟩)),(6,.pointer (some ⟨b6,0,none⟩)),(7,.pointer (some ⟨b7,0,none⟩)),(8,.pointer (some ⟨b8,0,none⟩)),(11,.pointer (some ⟨b11,0,none⟩)),(12,.pointer (some ⟨b12,0,none⟩)),(13,.int .i64 (((x.1:Nat):Int)-1))],[.blk b12 ⟨true,pjFL x.2,135,(0,0)⟩,.blk b11 ⟨true,arr4 (tripF (.inf:Pt V.p)) (tripF V.G) (tripF Q) (sumT V (tripF V.G) (tripF Q)),183,(0,0)⟩,.blk b8 ⟨true,(vec .u64 9 (fun _=>0)++(vec .u64 9 (fun _=>0)++[Value.bool false])),47,(0,0)⟩,.blk b7 ⟨true,ptL (xv Q) (yv Q) (iv Q),47,(0,0)⟩,.blk b6 ⟨true,natL W,33,(0,0)⟩,.blk b5 ⟨true,natL U,33,(0,0)⟩,.blk b ⟨false,opL V f,100,(0,0)⟩,.blk f ⟨false,fldL V.p bd,165,(0,0)⟩,.blk bd ⟨false,dvL V.p,269,(0,0)⟩]⟩) (fun x=>x.1) ((blen V.n,tripF (.inf:Pt V.p))) (⟨Nat.le_refl _,by dsimp only; rw [dual_top hok hU hW]; exact RepT.trip hok trivial⟩) (Ka ⟨rfl,rfl,rfl,rfl,rfl,rfl,rfl,rfl,trivial⟩ mS) ?_
  rintro x ⟨hx1,hx2⟩
  refine KB (KB ?_)
  rcases Nat.eq_zero_or_pos x.1 with h0|h0
  ·
   refine KA (oM ?_);refine oP (KF (v:=.bool false) rfl rfl (by rw [h0]; rfl)) ?_;refine KC ?_;refine KH rfl ?_;refine Kc (KB ?_)
   have eR:dualP V (U/2^x.1) (W/2^x.1) Q = dualP V U W Q:=by rw [h0,Nat.pow_zero,Nat.div_one,Nat.div_one]
   rw [eR] at hx2
   refine KA (oM ?_);refine oD (dL rfl (hv:=by exact KD u135 rfl KAJ)) ?_;refine oS (cF rfl en_65 rfl (fun w hw=>c_PlainT V b f bd hok (x.2) (dualP V U W Q) w (mC hw) (mC hw) (mC hw) (hx2)) ?_);refine LOps.step rfl (sA rfl rfl sz_47 mO (hl:=mL) (h:=?_));refine KC (KM ?_);refine ⟨[_],.cons ⟨_,_,_,rfl,mM,by exact KD u47 rfl sz_47⟩ .nil,fun a w' hr=>⟨?_,hr.fr.below⟩⟩
   rfl
  obtain ⟨y,hy⟩:∃ y,x.1 = y+1:=⟨x.1-1,by omega⟩
  rw [hy] at hx2
  refine KA (oM ?_);refine oP (KF (v:=.bool true) rfl rfl (by rw [hy]; simp [Kt] <;> omega)) ?_;refine KC ?_;refine KT rfl ?_;refine KN (KB (LCode.block (KB (KA (oM ?_)))));refine oD (dL rfl (hv:=by exact KD u135 rfl KAJ)) ?_;refine oD (dL rfl (hv:=by exact KD u135 rfl KAJ)) ?_;refine oS (cF rfl en_100 rfl (fun w hw=>c_SumT V b f bd hok (x.2) (x.2) w (mC hw) (mC hw) (mC hw)) ?_);refine LOps.step rfl (sA rfl rfl KAJ (by exact pjFL_one _) (hl:=by exact Kx _) (h:=?_));refine KC (KB ?_);refine rD [] ?_;refine aD 0 rfl dNa ?_;refine aP 1 rfl (Ki (v:=.int .i64 ((y:Nat):Int)) (by show some _ = some _; congr 2; omega)) ?_;refine aD 3 rfl dNa ?_;refine aP 4 rfl (Ki (v:=.int .i64 ((y:Nat):Int)) (by show some _ = some _; congr 2; omega)) ?_;refine aO 2 rfl (cF rfl en_57 rfl (fun w hw=>c_nat_Bit U y hU9 om w) ?_)
  refine aO 5 rfl (cF rfl en_57 rfl (fun w hw=>c_nat_Bit W y hW9 om w) ?_);refine aP 6 rfl (KF rfl rfl (br_mul (a:=2) om)) ?_;refine aP 7 rfl (KF rfl rfl (Ko om)) ?_;refine aA 8 ?_;refine aE ?_;refine KB ?_
  rcases (show (U/2^y%2 = 0∧W/2^y%2 = 0)∨(U/2^y%2 = 1∧W/2^y%2 = 0)∨(U/2^y%2 = 0∧W/2^y%2 = 1)∨(U/2^y%2 = 1∧W/2^y%2 = 1) by omega) with ⟨k1,k2⟩|⟨k1,k2⟩|⟨k1,k2⟩|⟨k1,k2⟩
  ·
   refine KA ?_;refine oP (Ki (v:=.int .i64 ((0:Nat):Int)) (by show some _ = some _; congr 2; omega)) ?_;refine oP (KF (v:=.bool false) rfl rfl (br_f (br_gtr (b:=0)) dc)) ?_;refine KC ?_;refine KH rfl ?_;refine KN (KA ?_);refine oP (Ki (v:=.int .i64 ((y:Nat):Int)) (by show some _ = some _; congr 2; omega)) ?_;refine oP (KF (v:=.int .i64 (((y:Nat):Int)-1)) rfl rfl (br_subI om om)) ?_;refine oA (KC ?_)
   exact ⟨(y,sumT V x.2 x.2),⟨by dsimp only; omega,dual_zero hok hQ k1 k2 hx2⟩,by dsimp only; omega,Ka ⟨rfl,rfl,rfl,rfl,rfl,rfl,rfl,rfl,trivial⟩ mS⟩
  ·
   refine KA ?_;refine oP (Ki (v:=.int .i64 ((1:Nat):Int)) (by show some _ = some _; congr 2; omega)) ?_;refine oP (KF (v:=.bool true) rfl rfl (br_t (br_gtr (b:=0)) dc)) ?_;refine KC ?_;refine KT rfl ?_;refine rD [6] ?_;refine aM 0 ?_;refine aD 1 rfl (dL rfl (hv:=by exact KD u135 rfl KAJ)) ?_;refine aP 2 rfl (Ki (v:=.int .i64 ((1:Nat):Int)) (by show some _ = some _; congr 2; omega)) ?_;refine aP 3 rfl (Det.indexArrN u183 KAJ rfl rfl dc) ?_;refine aD 4 rfl (dL rfl (hv:=by exact arr4_1 _ _ _ _ _ _ _)) ?_;refine aO 5 rfl (cF rfl en_100 rfl (fun w hw=>c_SumT V b f bd hok (sumT V x.2 x.2) (tripF V.G) w (mC hw) (mC hw) (mC hw)) ?_);refine aL 6 rfl (sA rfl rfl KAJ (by exact pjFL_one _) (hl:=by exact Kx _) (h:=?_));refine aE ?_;refine KA ?_;refine oP (Ki (v:=.int .i64 ((y:Nat):Int)) (by show some _ = some _; congr 2; omega)) ?_;refine oP (KF (v:=.int .i64 (((y:Nat):Int)-1)) rfl rfl (br_subI om om)) ?_
   refine oA (KC ?_)
   exact ⟨(y,sumT V (sumT V x.2 x.2) (tripF V.G)),⟨by dsimp only; omega,dual_step hok hQ k1 k2 hx2 (dual_10 hok hQ)⟩,by dsimp only; omega,Ka ⟨rfl,rfl,rfl,rfl,rfl,rfl,rfl,rfl,trivial⟩ mS⟩
  ·
   refine KA ?_;refine oP (Ki (v:=.int .i64 ((2:Nat):Int)) (by show some _ = some _; congr 2; omega)) ?_;refine oP (KF (v:=.bool true) rfl rfl (br_t (br_gtr (b:=0)) dc)) ?_;refine KC ?_;refine KT rfl ?_;refine rD [6] ?_;refine aM 0 ?_;refine aD 1 rfl (dL rfl (hv:=by exact KD u135 rfl KAJ)) ?_;refine aP 2 rfl (Ki (v:=.int .i64 ((2:Nat):Int)) (by show some _ = some _; congr 2; omega)) ?_;refine aP 3 rfl (Det.indexArrN u183 KAJ rfl rfl dc) ?_;refine aD 4 rfl (dL rfl (hv:=by exact arr4_2 _ _ _ _ _ _ _)) ?_;refine aO 5 rfl (cF rfl en_100 rfl (fun w hw=>c_SumT V b f bd hok (sumT V x.2 x.2) (tripF Q) w (mC hw) (mC hw) (mC hw)) ?_);refine aL 6 rfl (sA rfl rfl KAJ (by exact pjFL_one _) (hl:=by exact Kx _) (h:=?_));refine aE ?_;refine KA ?_;refine oP (Ki (v:=.int .i64 ((y:Nat):Int)) (by show some _ = some _; congr 2; omega)) ?_;refine oP (KF (v:=.int .i64 (((y:Nat):Int)-1)) rfl rfl (br_subI om om)) ?_
   refine oA (KC ?_)
   exact ⟨(y,sumT V (sumT V x.2 x.2) (tripF Q)),⟨by dsimp only; omega,dual_step hok hQ k1 k2 hx2 (dual_01 hok hQ)⟩,by dsimp only; omega,Ka ⟨rfl,rfl,rfl,rfl,rfl,rfl,rfl,rfl,trivial⟩ mS⟩
  refine KA ?_;refine oP (Ki (v:=.int .i64 ((3:Nat):Int)) (by show some _ = some _; congr 2; omega)) ?_;refine oP (KF (v:=.bool true) rfl rfl (br_t (br_gtr (b:=0)) dc)) ?_;refine KC ?_;refine KT rfl ?_;refine rD [6] ?_;refine aM 0 ?_;refine aD 1 rfl (dL rfl (hv:=by exact KD u135 rfl KAJ)) ?_;refine aP 2 rfl (Ki (v:=.int .i64 ((3:Nat):Int)) (by show some _ = some _; congr 2; omega)) ?_;refine aP 3 rfl (Det.indexArrN u183 KAJ rfl rfl dc) ?_;refine aD 4 rfl (dL rfl (hv:=by exact arr4_3 _ _ _ _ _ _ _)) ?_;refine aO 5 rfl (cF rfl en_100 rfl (fun w hw=>c_SumT V b f bd hok (sumT V x.2 x.2) (sumT V (tripF V.G) (tripF Q)) w (mC hw) (mC hw) (mC hw)) ?_);refine aL 6 rfl (sA rfl rfl KAJ (by exact pjFL_one _) (hl:=by exact Kx _) (h:=?_));refine aE ?_;refine KA ?_;refine oP (Ki (v:=.int .i64 ((y:Nat):Int)) (by show some _ = some _; congr 2; omega)) ?_;refine oP (KF (v:=.int .i64 (((y:Nat):Int)-1)) rfl rfl (br_subI om om)) ?_
  refine oA (KC ?_)
  exact ⟨(y,sumT V (sumT V x.2 x.2) (sumT V (tripF V.G) (tripF Q))),⟨by dsimp only; omega,dual_step hok hQ k1 k2 hx2 (dual_11 hok hQ)⟩,by dsimp only; omega,Ka ⟨rfl,rfl,rfl,rfl,rfl,rfl,rfl,rfl,trivial⟩ mS⟩


open Grp
open Grp


open Grp
def pfx (x:Nat):ByteArray:=strOf ((List.range 1).map fun i=>UInt8.ofNat ((fun _=>x) i))
def coB (V:Cv) (X:Nat):ByteArray:=strOf (beBytes (nby V.p) X)
def putS (V:Cv) (X Y:Nat) (sh:Bool):ByteArray:=if sh then pfx (2+Y%2)++coB V X else pfx 4++coB V X++coB V Y
def putV (V:Cv) (X Y:Nat) (i sh:Bool):Value:=if (onB V.p V.a V.b X Y i && !i) = true then .tuple #[.string (putS V X Y sh),.int .i64 ((0:Nat):Int)] else .tuple #[.string ⟨#[]⟩,.int .i64 ((2101:Nat):Int)]
theorem putV_off {V:Cv} {X Y:Nat} {i:Bool} (sh:Bool) (h:onB V.p V.a V.b X Y i = false):putV V X Y i sh = .tuple #[.string ⟨#[]⟩,.int .i64 ((2101:Nat):Int)]:=by unfold putV; rw [h]; rfl
theorem putV_inf (V:Cv) (X Y:Nat) (sh:Bool):putV V X Y true sh = .tuple #[.string ⟨#[]⟩,.int .i64 ((2101:Nat):Int)]:=by unfold putV; rw [Bool.not_true,Bool.and_false]; rfl
theorem putV_on {V:Cv} {X Y:Nat} (sh:Bool) (h:onB V.p V.a V.b X Y false = true):putV V X Y false sh = .tuple #[.string (putS V X Y sh),.int .i64 ((0:Nat):Int)]:=by unfold putV; rw [h]; rfl
theorem pfx_mod (y:Nat):pfx ((2+y/2^0%2)%256) = pfx (2+y%2):=by
  rw [Nat.pow_zero,Nat.div_one,Nat.mod_eq_of_lt om]
theorem on_lt {V:Cv} {X Y:Nat} (h:onB V.p V.a V.b X Y false = true):X<V.p∧Y<V.p:=by
  unfold onB at h
  rw [if_neg dc] at h
  simp only [Bool.and_eq_true,decide_eq_true_eq] at h
  exact ⟨h.1,h.2.1⟩
theorem c_cOnV (v:Bool) (V:Cv) (b f bd:Nat) (hok:V.Ok) (X Y:Nat) (i:Bool) (w:World) (hb:(Item.blk b ⟨false,opL V f,100,(0,0)⟩).holds w) (hf:(Item.blk f ⟨false,fldL V.p bd,165,(0,0)⟩).holds w) (hbd:(Item.blk bd ⟨false,dvL V.p,269,(0,0)⟩).holds w) (hX:X<W9) (hY:Y<W9) (h:onB V.p V.a V.b X Y i = v):Calls Tryz.prog 55 ([.pointer (some ⟨b,0,none⟩),ptV X Y i]:List Value).toArray w (fun e w'=>e = .returned (.bool v)∧Below w.heap.size w w'):=h ▸ c_cOn V b f bd hok X Y i w hb hf hbd hX hY
theorem c_s_Put (id:Int) (V:Cv) (X Y:Nat) (i sh:Bool) (w:World) (h:cvI id = some V) (hX:X<W9) (hY:Y<W9):Calls Tryz.prog 25 ([.int .i64 id,ptV X Y i,.bool sh]:List Value).toArray w (fun e w'=>e = .returned (putV V X Y i sh)∧Below w.heap.size w w'):=by
  obtain ⟨hok,hid⟩:=cvI_ok h
  have hbb:=hok.bounds
  have hpW:V.p<W9:=KAE hbb.2.1
  have hnW:V.n<W9:=KAE hbb.2.2.2.2.2.2.1
  have hbl:=KAQ hnW
  have hnb:nby V.n≤72:=by (unfold nby; omega)
  have hnp:nby V.p≤72:=by have:=KAQ (KAE hbb.2.1); (unfold nby; omega)
  refine KX (N:=65) (rs:=[.tmp 6,.tmp 7]) [] Tryz.func25 rfl Tryz.ntmps25 Tryz.results25 (Nb rfl) trivial rfl ?_
  refine KB (KA ?_);refine oS (mB (fun b4=>?_));refine oA ?_;refine oP (KO (v:=.int .i64 ((0:Nat):Int)) rfl) ?_;refine KC (KB (KA (oM ?_)));refine oS (oOpen h rfl rfl (fun b f bd=>?_));refine oA (KC (KB (LCode.block (KB (KA (oM ?_))))));refine oP (KK (KAN u81 rfl rfl) (show _ = Value.bool false from rfl)) ?_;refine oA (KC ?_);refine KH rfl ?_;refine KB ?_
  rcases (show i = true∨(i = false∧onB V.p V.a V.b X Y false = false)∨(i = false∧onB V.p V.a V.b X Y false = true) by cases i <;> cases onB V.p V.a V.b X Y false <;> simp) with rfl|⟨rfl,h1⟩|⟨rfl,h1⟩
  ·
   refine KA ?_;refine oP (KE (o':=18) u47 rfl rfl rfl sz_4 dc) ?_;refine oD (dL rfl (hv:=KJ u4 rfl (by exact pt_gt _ _ _))) ?_;refine oM ?_;refine oK ?_;refine oK ?_;refine oK ?_;refine oK ?_;refine oP (Kj rfl rfl) ?_;refine oA (KC ?_);refine KT rfl ?_;refine KB (KA (oA ?_));refine oP (KO (v:=.int .i64 ((2101:Nat):Int)) rfl) ?_;refine KC (KM ?_);refine ⟨[_,_],.cons rfl (.cons rfl .nil),fun a w' hr=>⟨?_,hr.fr.below⟩⟩
   rw [putV_inf]
   rfl
  ·
   refine KA ?_;refine oP (KE (o':=18) u47 rfl rfl rfl sz_4 dc) ?_;refine oD (dL rfl (hv:=KJ u4 rfl (by exact pt_gt _ _ _))) ?_;refine oM ?_;refine oGM ?_;refine KAA rfl rfl dNb (Nb rfl) ?_;refine oGS (cF rfl en_55 rfl (fun w hw=>c_cOnV false V b f bd hok X Y false w (mC hw) (mC hw) (mC hw) hX hY h1) ?_);refine oGP (KK (KAK rfl) (show _ = Value.bool true from rfl)) ?_;refine oP (KV rfl rfl) ?_;refine oA (KC ?_);refine KT rfl ?_;refine KB (KA (oA ?_));refine oP (KO (v:=.int .i64 ((2101:Nat):Int)) rfl) ?_;refine KC (KM ?_);refine ⟨[_,_],.cons rfl (.cons rfl .nil),fun a w' hr=>⟨?_,hr.fr.below⟩⟩
   rw [putV_off sh h1]
   rfl
  refine KA ?_;refine oP (KE (o':=18) u47 rfl rfl rfl sz_4 dc) ?_;refine oD (dL rfl (hv:=KJ u4 rfl (by exact pt_gt _ _ _))) ?_;refine oM ?_;refine oGM ?_;refine KAA rfl rfl dNb (Nb rfl) ?_;refine oGS (cF rfl en_55 rfl (fun w hw=>c_cOnV true V b f bd hok X Y false w (mC hw) (mC hw) (mC hw) hX hY h1) ?_);refine oGP (KK (KAK rfl) (show _ = Value.bool false from rfl)) ?_;refine oP (KV rfl rfl) ?_;refine oA (KC ?_);refine KH rfl ?_;refine KN (KB ?_)
  obtain ⟨hXp,hYp⟩:=on_lt h1
  refine rD [] ?_;refine aP 0 rfl (KE (o':=0) u47 rfl rfl rfl sz_33 dc) ?_;refine aD 1 rfl (dL rfl (hv:=by exact Kv u33 rfl sz_33 rfl (KI _))) ?_;refine aM 2 ?_;refine aP 3 rfl (KG rfl) ?_;refine aP 4 rfl (KE (o':=0) u100 rfl rfl rfl sz_53 dc) ?_;refine aP 5 rfl (KE (o':=57) u53 rfl rfl rfl sz_3 dc) ?_;refine aD 6 rfl (dL rfl (hv:=KJ u3 rfl (by exact cvC_gt_size _ _ _ _ _ _ _ _ _ _ _ _ _))) ?_;refine aO 7 rfl (cF rfl en_47 rfl (fun w hw=>c_nat_BytesOK X (nby V.p) w om hnp (nby_le hXp)) ?_);refine aM 8 ?_;refine aP 9 rfl (Det.extract rfl rfl) ?_;refine aP 10 rfl (Det.extract rfl rfl) ?_;refine aA 11 ?_;refine aA 12 ?_;refine aE ?_;refine KB (KB (KA (oM (KC ?_))))
  first|refine KR rfl (fun hsh=>?_) (fun hsh=>?_)|refine KS rfl (fun hsh=>?_) (fun hsh=>?_)
  ·
   subst hsh
   refine KB (KA ?_);refine oP (KE (o':=9) u47 rfl rfl rfl sz_33 dc) ?_;refine oD (dL rfl (hv:=by exact pt_ld1 _ _ _ _ _ _)) ?_;refine oS (cF rfl en_57 rfl (fun w hw=>c_nat_Bit Y 0 hY dc w) ?_);refine oP (KF rfl rfl (Ko (a:=2) om)) ?_;refine oP (Det.conv8 u3 u5 rfl) ?_;refine oS (mk (KAc u70 inf_5 rfl rfl rfl rfl dc rfl) (fun b44=>?_));refine oD (Det.bytesStr (f:=fun _=>(2+Y/2^0%2)%256) u70 u5 u9 rfl mM (by rfl)) ?_;refine oM ?_;refine oP (Det.cat rfl rfl (by have h2:=str_size (nby V.p) X; have h3:=str_size (nby V.p) Y; have h4:∀ x,(strOf ((List.range 1).map fun i=>UInt8.ofNat ((fun _=>x) i))).size = 1:=fun _=>rfl; have h5:(⟨#[4]⟩:ByteArray).size = 1:=rfl; try simp only [ByteArray.size_append,h4,h2,h3,h5]; omega)) ?_;refine oA ?_;refine oP (KO (v:=.int .i64 ((0:Nat):Int)) rfl) ?_;refine KC (KM ?_)
   refine ⟨[_,_],.cons rfl (.cons rfl .nil),fun a w' hr=>⟨?_,hr.fr.below⟩⟩
   rw [putV_on _ h1,putS,if_pos rfl,← pfx_mod]
   rfl
  subst hsh
  refine KN (KB ?_);refine rD [] ?_;refine aP 0 rfl (KE (o':=9) u47 rfl rfl rfl sz_33 dc) ?_;refine aD 1 rfl (dL rfl (hv:=by exact pt_ld1 _ _ _ _ _ _)) ?_;refine aM 2 ?_;refine aP 3 rfl (KG rfl) ?_;refine aP 4 rfl (KE (o':=0) u100 rfl rfl rfl sz_53 dc) ?_;refine aP 5 rfl (KE (o':=57) u53 rfl rfl rfl sz_3 dc) ?_;refine aD 6 rfl (dL rfl (hv:=KJ u3 rfl (by exact cvC_gt_size _ _ _ _ _ _ _ _ _ _ _ _ _))) ?_;refine aO 7 rfl (cF rfl en_47 rfl (fun w hw=>c_nat_BytesOK Y (nby V.p) w om hnp (nby_le hYp)) ?_);refine aM 8 ?_;refine aP 9 rfl (Det.extract rfl rfl) ?_;refine aP 10 rfl (Det.extract rfl rfl) ?_;refine aA 11 ?_;refine aA 12 ?_;refine aE ?_;refine KB (KA ?_);refine oS (mk (KAc u70 inf_5 rfl rfl rfl rfl dc rfl) (fun b59=>?_));refine oD (Det.bytesStr (f:=fun _=>4) u70 u5 u9 rfl mM (by rfl)) ?_
  refine oM ?_;refine oP (Det.cat rfl rfl (by have h2:=str_size (nby V.p) X; have h3:=str_size (nby V.p) Y; have h4:∀ x,(strOf ((List.range 1).map fun i=>UInt8.ofNat ((fun _=>x) i))).size = 1:=fun _=>rfl; have h5:(⟨#[4]⟩:ByteArray).size = 1:=rfl; try simp only [ByteArray.size_append,h4,h2,h3,h5]; omega)) ?_;refine oM ?_;refine oP (Det.cat rfl rfl (by have h2:=str_size (nby V.p) X; have h3:=str_size (nby V.p) Y; have h4:∀ x,(strOf ((List.range 1).map fun i=>UInt8.ofNat ((fun _=>x) i))).size = 1:=fun _=>rfl; have h5:(⟨#[4]⟩:ByteArray).size = 1:=rfl; try simp only [ByteArray.size_append,h4,h2,h3,h5]; omega)) ?_;refine oA ?_;refine oP (KO (v:=.int .i64 ((0:Nat):Int)) rfl) ?_;refine KC (KM ?_);refine ⟨[_,_],.cons rfl (.cons rfl .nil),fun a w' hr=>⟨?_,hr.fr.below⟩⟩
  rw [putV_on _ h1,putS,if_neg dc]
  rfl
def liftT (V:Cv) (X odd:Nat):Nat×Nat×Bool:=if X<V.p then (match sqN V.p (rightN V.p V.a V.b X) with
  | none=>(0,0,false)
  | some r=>if odd = 0 then (X,r,true) else if r = 0 then (X,0,false) else (X,V.p-r,true)) else (0,0,false)
theorem lift_far {V:Cv} {X odd:Nat} (h:¬ X<V.p):liftT V X odd = (0,0,false):=if_neg h
theorem lift_no {V:Cv} {X odd:Nat} (h:X<V.p) (h1:sqN V.p (rightN V.p V.a V.b X) = none):liftT V X odd = (0,0,false):=by unfold liftT; rw [if_pos h,h1]
theorem lift_even {V:Cv} {X r:Nat} (h:X<V.p) (h1:sqN V.p (rightN V.p V.a V.b X) = some r):liftT V X 0 = (X,r,true):=by unfold liftT; rw [if_pos h,h1]; rfl
theorem lift_zero {V:Cv} {X:Nat} (h:X<V.p) (h1:sqN V.p (rightN V.p V.a V.b X) = some 0):liftT V X 1 = (X,0,false):=by unfold liftT; rw [if_pos h,h1]; rfl
theorem lift_odd {V:Cv} {X r:Nat} (h:X<V.p) (h1:sqN V.p (rightN V.p V.a V.b X) = some r) (h0:r≠0):liftT V X 1 = (X,V.p-r,true):=by unfold liftT; rw [if_pos h,h1]; simp [h0]
theorem c_RightN (R X:Nat) (V:Cv) (b f bd:Nat) (hok:V.Ok) (w:World) (hb:(Item.blk b ⟨false,opL V f,100,(0,0)⟩).holds w) (hf:(Item.blk f ⟨false,fldL V.p bd,165,(0,0)⟩).holds w) (hbd:(Item.blk bd ⟨false,dvL V.p,269,(0,0)⟩).holds w) (hX:X<V.p) (hR:rightN V.p V.a V.b X = R):Calls Tryz.prog 98 ([.pointer (some ⟨b,0,none⟩),natV X]:List Value).toArray w (fun e w'=>e = .returned (natV R)∧Below w.heap.size w w'):=by
  have h1:=c_Right V b f bd hok ⟨X,hX⟩ w hb hf hbd
  rw [← right_val hok] at h1
  rw [← hR]
  exact h1
theorem right_ltV {V:Cv} (hok:V.Ok) (X:Nat):rightN V.p V.a V.b X<V.p:=Nat.mod_lt _ (by have:=hok.bounds; omega)
theorem c_F_SqrtN (V:Cv) (f bd:Nat) (hok:V.Ok) (R:Nat) (w:World) (hf:(Item.blk f ⟨false,fldL V.p bd,165,(0,0)⟩).holds w) (hbd:(Item.blk bd ⟨false,dvL V.p,269,(0,0)⟩).holds w) (hR:R<V.p) (h:sqN V.p R = none):Calls Tryz.prog 119 ([.pointer (some ⟨f,0,none⟩),natV R]:List Value).toArray w (fun e w'=>e = .returned (.tuple #[natV 0,.bool false])∧Below w.heap.size w w'):=by
  have h1:=c_F_Sqrt V f bd hok ⟨R,hR⟩ w hf hbd
  rw [sqV_none h] at h1
  exact h1
theorem c_F_SqrtS (r:Nat) (V:Cv) (f bd:Nat) (hok:V.Ok) (R:Nat) (w:World) (hf:(Item.blk f ⟨false,fldL V.p bd,165,(0,0)⟩).holds w) (hbd:(Item.blk bd ⟨false,dvL V.p,269,(0,0)⟩).holds w) (hR:R<V.p) (h:sqN V.p R = some r):Calls Tryz.prog 119 ([.pointer (some ⟨f,0,none⟩),natV R]:List Value).toArray w (fun e w'=>e = .returned (.tuple #[natV r,.bool true])∧Below w.heap.size w w'):=by
  have h1:=c_F_Sqrt V f bd hok ⟨R,hR⟩ w hf hbd
  rw [sqV_some h] at h1
  exact h1
theorem c_bit0 (v A:Nat) (w:World) (hA:A<W9) (h:A%2 = v):Calls Tryz.prog 57 ([natV A,.int .i64 0]:List Value).toArray w (fun e w'=>e = .returned (.int .i64 ((v:Nat):Int))∧Below w.heap.size w w'):=by
  have h1:=c_nat_Bit A 0 hA dc w
  rw [Nat.pow_zero,Nat.div_one,h] at h1
  exact h1
theorem c_f_neg (V:Cv) (hok:V.Ok) (f bd r:Nat) (w:World) (hf:(Item.blk f ⟨false,fldL V.p bd,165,(0,0)⟩).holds w) (h0:r≠0) (h:r<V.p):Calls Tryz.prog 120 ([.pointer (some ⟨f,0,none⟩),natV 0,natV r]:List Value).toArray w (fun e w'=>e = .returned (natV (V.p-r))∧Below w.heap.size w w'):=by
  have h1:=c_f_Sub V f bd 0 r w hf hok.bounds.2.1 om h
  rwa [Nat.zero_add,Nat.mod_eq_of_lt om] at h1
theorem c_f_neg0 (V:Cv) (hok:V.Ok) (f bd:Nat) (w:World) (hf:(Item.blk f ⟨false,fldL V.p bd,165,(0,0)⟩).holds w):Calls Tryz.prog 120 ([.pointer (some ⟨f,0,none⟩),natV 0,natV 0]:List Value).toArray w (fun e w'=>e = .returned (natV 0)∧Below w.heap.size w w'):=by
  have hb:=hok.bounds
  have h1:=c_f_Sub V f bd 0 0 w hf hb.2.1 om om
  rwa [Nat.zero_add,Nat.sub_zero,Nat.mod_self] at h1
theorem fill_ptI2 (X Y:Nat):fillL [(0,9),(9,9),(18,1)] (vec .u64 9 (fun _=>0)++(vec .u64 9 (fun _=>0)++[Value.bool false])) [(0,natV X),(1,natV Y)] = some (ptL X Y false):=by
  refine KAH (A:=[]) (B:=vec .u64 9 (fun _=>0)) (D:=vec .u64 9 (fun _=>0)++[Value.bool false]) (cs:=natL X) rfl rfl (KI _) rfl rfl (KQ _ _ _) ?_;refine (KAH (A:=natL X) (B:=vec .u64 9 (fun _=>0)) (D:=[Value.bool false]) (cs:=natL Y) rfl rfl (KI _) (by simp) (KI _) (KQ _ _ _) rfl).trans ?_
  simp [ptL]
theorem c_lift (V:Cv) (b f bd:Nat) (hok:V.Ok) (X odd:Nat) (w:World) (hb:(Item.blk b ⟨false,opL V f,100,(0,0)⟩).holds w) (hf:(Item.blk f ⟨false,fldL V.p bd,165,(0,0)⟩).holds w) (hbd:(Item.blk bd ⟨false,dvL V.p,269,(0,0)⟩).holds w) (hX:X<W9) (hodd:odd≤1):Calls Tryz.prog 62 ([.pointer (some ⟨b,0,none⟩),natV X,.int .i64 ((odd:Nat):Int)]:List Value).toArray w (fun e w'=>e = .returned (.tuple #[ptV (liftT V X odd).1 (liftT V X odd).2.1 false,.bool (liftT V X odd).2.2])∧Below w.heap.size w w'):=by
  have hbb:=hok.bounds
  have hpW:V.p<W9:=KAE hbb.2.1
  have hpo:=p_odd hok
  refine KX (N:=50) (rs:=[.cell 6 47,.tmp 7]) [.blk b ⟨false,opL V f,100,(0,0)⟩,.blk f ⟨false,fldL V.p bd,165,(0,0)⟩,.blk bd ⟨false,dvL V.p,269,(0,0)⟩] Tryz.func62 rfl Tryz.ntmps62 Tryz.results62 (Nb rfl) ⟨hb,hf,hbd,trivial⟩ rfl ?_
  refine KB (KA ?_);refine oS (mB (fun b4=>?_));refine oS (mk (KL zr_47) (fun b6=>?_));refine oA (KC (KB (KB ?_)))
  rcases (show (¬ X<V.p)∨X<V.p by omega) with h1|hXp
  ·
   refine rD [] ?_;refine aM 0 ?_;refine aP 1 rfl (KG rfl) ?_;refine aP 2 rfl (KE (o':=59) u100 rfl rfl rfl sz_98 dc) ?_;refine aD 3 rfl (dL rfl (hv:=KJ u98 rfl (by exact cvC_gt_F _ _ _ _ _ _ _ _ _ _ _ _ _))) ?_;refine aD 4 rfl dNa ?_;refine aO 5 rfl (cF rfl en_96 rfl (fun w hw=>c_HasF V f bd X w (mC hw) hX hpW h1) ?_);refine aP 6 rfl (KK (KAK rfl) (show _ = Value.bool true from rfl)) ?_;refine aE ?_;refine KT rfl ?_;refine KB (KA ?_);refine oP (KK (Kd pl_47 zr_47 rfl rfl) pt_zero) ?_;refine LOps.step rfl (sA rfl rfl sz_47 (by exact KAD _ _ _) (hl:=by exact KW _ _ _) (h:=?_));refine oA (KC (KM ?_));refine ⟨[_,_],.cons ⟨_,_,_,rfl,mM,by exact KD u47 rfl sz_47⟩ (.cons rfl .nil),fun a' w' hr=>⟨?_,hr.fr.below⟩⟩
   rw [lift_far h1]
   rfl
  refine rD [] ?_;refine aM 0 ?_;refine aP 1 rfl (KG rfl) ?_;refine aP 2 rfl (KE (o':=59) u100 rfl rfl rfl sz_98 dc) ?_;refine aD 3 rfl (dL rfl (hv:=KJ u98 rfl (by exact cvC_gt_F _ _ _ _ _ _ _ _ _ _ _ _ _))) ?_;refine aD 4 rfl dNa ?_;refine aO 5 rfl (cF rfl en_96 rfl (fun w hw=>c_HasT V f bd X w (mC hw) hX hpW hXp) ?_);refine aP 6 rfl (KK (KAK rfl) (show _ = Value.bool false from rfl)) ?_;refine aE ?_;refine KH rfl ?_;refine KN (KB ?_)
  obtain ⟨R,hR⟩:∃ R,rightN V.p V.a V.b X = R:=⟨_,rfl⟩
  have hRp:R<V.p:=hR ▸ right_ltV hok X
  rcases h1:sqN V.p R with _|r
  ·
   refine rD [12] ?_;refine aM 0 ?_;refine aP 1 rfl (KG rfl) ?_;refine aP 2 rfl (KE (o':=59) u100 rfl rfl rfl sz_98 dc) ?_;refine aD 3 rfl (dL rfl (hv:=KJ u98 rfl (by exact cvC_gt_F _ _ _ _ _ _ _ _ _ _ _ _ _))) ?_;refine aM 4 ?_;refine aD 5 rfl dNa ?_;refine KAR ?_;refine Kp 11 rfl (.inl zr_33) (Nb rfl) rfl rfl rfl ?_;refine LAnyP.step 6 rfl rfl rfl (Nb rfl) (by kernel_rfl) rfl (Kg (first:=[]) rfl en_98 rfl (fun w hw=>c_RightN R X V b f bd hok w (mC hw) (mC hw) (mC hw) hXp hR)) ?_
   rintro _ _ ⟨rfl,rfl⟩
   refine LAnyP.step 7 rfl rfl rfl (Nb rfl) (by kernel_rfl) rfl (Kg (first:=[]) rfl en_119 rfl (fun w hw=>c_F_SqrtN V f bd hok R w (mC hw) (mC hw) hRp h1)) ?_
   rintro _ _ ⟨rfl,rfl⟩
   refine pM 8 ?_;refine pP 9 rfl (Det.extract rfl rfl) ?_;refine pP 10 rfl (Det.extract rfl rfl) ?_;refine pE (fun b8=>?_);refine Kw ?_;refine aL 12 rfl (sA rfl rfl sz_33 (by exact KAB _) (hl:=by exact KI _) (h:=?_));refine aA 13 ?_;refine aE ?_;refine KB (KB (KA (oM ?_)));refine oP (KK (KAK rfl) (show _ = Value.bool true from rfl)) ?_;refine KC ?_;refine KT rfl ?_;refine KB (KA ?_);refine oP (KK (Kd pl_47 zr_47 rfl rfl) pt_zero) ?_;refine LOps.step rfl (sA rfl rfl sz_47 (by exact KAD _ _ _) (hl:=by exact KW _ _ _) (h:=?_));refine oA (KC (KM ?_));refine ⟨[_,_],.cons ⟨_,_,_,rfl,mM,by exact KD u47 rfl sz_47⟩ (.cons rfl .nil),fun a' w' hr=>⟨?_,hr.fr.below⟩⟩
   rw [← hR] at h1
   rw [lift_no hXp h1]
   rfl
  refine rD [12] ?_;refine aM 0 ?_;refine aP 1 rfl (KG rfl) ?_;refine aP 2 rfl (KE (o':=59) u100 rfl rfl rfl sz_98 dc) ?_;refine aD 3 rfl (dL rfl (hv:=KJ u98 rfl (by exact cvC_gt_F _ _ _ _ _ _ _ _ _ _ _ _ _))) ?_;refine aM 4 ?_;refine aD 5 rfl dNa ?_;refine KAR ?_;refine Kp 11 rfl (.inl zr_33) (Nb rfl) rfl rfl rfl ?_;refine LAnyP.step 6 rfl rfl rfl (Nb rfl) (by kernel_rfl) rfl (Kg (first:=[]) rfl en_98 rfl (fun w hw=>c_RightN R X V b f bd hok w (mC hw) (mC hw) (mC hw) hXp hR)) ?_
  rintro _ _ ⟨rfl,rfl⟩
  refine LAnyP.step 7 rfl rfl rfl (Nb rfl) (by kernel_rfl) rfl (Kg (first:=[]) rfl en_119 rfl (fun w hw=>c_F_SqrtS r V f bd hok R w (mC hw) (mC hw) hRp h1)) ?_
  rintro _ _ ⟨rfl,rfl⟩
  refine pM 8 ?_;refine pP 9 rfl (Det.extract rfl rfl) ?_;refine pP 10 rfl (Det.extract rfl rfl) ?_;refine pE (fun b8=>?_);refine Kw ?_;refine aL 12 rfl (sA rfl rfl sz_33 (by exact KAB _) (hl:=by exact KI _) (h:=?_));refine aA 13 ?_;refine aE ?_;refine KB (KB (KA (oM ?_)));refine oP (KK (KAK rfl) (show _ = Value.bool false from rfl)) ?_;refine KC ?_;refine KH rfl ?_;refine KN (KB (KB ?_))
  obtain ⟨hr1,hr2,hr3⟩:=sqN_some h1
  rcases (show odd = 0∨(odd = 1∧r = 0)∨(odd = 1∧r≠0) by omega) with rfl|⟨rfl,rfl⟩|⟨rfl,hr0⟩
  ·
   refine KA ?_;refine oD dNa ?_;refine oS (cF rfl en_57 rfl (fun w hw=>c_bit0 0 r w om hr3) ?_);refine oM ?_;refine oP (KF (v:=.bool false) rfl rfl (by rfl)) ?_;refine KC ?_;refine KH rfl ?_;refine KN (KB ?_);refine rD [7] ?_;refine aD 0 rfl dNa ?_;refine aD 1 rfl dNa ?_;refine aP 2 rfl (KK (Kd pl_47 zr_47 rfl (fill_ptI2 _ _)) rfl) ?_;refine aM 5 ?_;refine aO 3 rfl (LStep.det dNa (Nb rfl) ?_);refine aO 4 rfl (cF rfl en_57 rfl (fun w hw=>c_bit0 0 r w om hr3) ?_);refine aP 6 rfl (KF (v:=.bool true) rfl rfl (by rfl)) ?_;refine aL 7 rfl (sA rfl rfl sz_47 (by exact KAD _ _ _) (hl:=by exact KW _ _ _) (h:=?_));refine aA 8 ?_;refine aE ?_;refine KM ?_;refine ⟨[_,_],.cons ⟨_,_,_,rfl,mM,by exact KD u47 rfl sz_47⟩ (.cons rfl .nil),fun a' w' hr=>⟨?_,hr.fr.below⟩⟩
   rw [← hR] at h1
   rw [lift_even hXp h1]
   rfl
  ·
   refine KA ?_;refine oD dNa ?_;refine oS (cF rfl en_57 rfl (fun w hw=>c_bit0 0 0 w om rfl) ?_);refine oM ?_;refine oP (KF (v:=.bool true) rfl rfl (by rfl)) ?_;refine KC ?_;refine KT rfl ?_;refine rD [7] ?_;refine aM 0 ?_;refine aP 1 rfl (KG rfl) ?_;refine aP 2 rfl (KE (o':=59) u100 rfl rfl rfl sz_98 dc) ?_;refine aD 3 rfl (dL rfl (hv:=KJ u98 rfl (by exact cvC_gt_F _ _ _ _ _ _ _ _ _ _ _ _ _))) ?_;refine aP 4 rfl (KK (Kd pl_33 zr_33 rfl rfl) (show _ = natV 0 by unfold natV natL; rw [← vec_zeros 9])) ?_;refine aD 5 rfl dNa ?_;refine aO 6 rfl (cF rfl en_120 rfl (fun w hw=>c_f_neg0 V hok f bd w (mC hw)) ?_);refine aL 7 rfl (sA rfl rfl sz_33 (by exact KAB _) (hl:=by exact KI _) (h:=?_));refine aE ?_;refine KB ?_;refine rD [7] ?_;refine aD 0 rfl dNa ?_
   refine aD 1 rfl dNa ?_;refine aP 2 rfl (KK (Kd pl_47 zr_47 rfl (fill_ptI2 _ _)) rfl) ?_;refine aM 5 ?_;refine aO 3 rfl (LStep.det dNa (Nb rfl) ?_);refine aO 4 rfl (cF rfl en_57 rfl (fun w hw=>c_bit0 0 0 w om rfl) ?_);refine aP 6 rfl (KF (v:=.bool false) rfl rfl (by rfl)) ?_;refine aL 7 rfl (sA rfl rfl sz_47 (by exact KAD _ _ _) (hl:=by exact KW _ _ _) (h:=?_));refine aA 8 ?_;refine aE ?_;refine KM ?_;refine ⟨[_,_],.cons ⟨_,_,_,rfl,mM,by exact KD u47 rfl sz_47⟩ (.cons rfl .nil),fun a' w' hr=>⟨?_,hr.fr.below⟩⟩
   rw [← hR] at h1
   rw [lift_zero hXp h1]
   rfl
  refine KA ?_;refine oD dNa ?_;refine oS (cF rfl en_57 rfl (fun w hw=>c_bit0 0 r w om hr3) ?_);refine oM ?_;refine oP (KF (v:=.bool true) rfl rfl (by rfl)) ?_;refine KC ?_;refine KT rfl ?_;refine rD [7] ?_;refine aM 0 ?_;refine aP 1 rfl (KG rfl) ?_;refine aP 2 rfl (KE (o':=59) u100 rfl rfl rfl sz_98 dc) ?_;refine aD 3 rfl (dL rfl (hv:=KJ u98 rfl (by exact cvC_gt_F _ _ _ _ _ _ _ _ _ _ _ _ _))) ?_;refine aP 4 rfl (KK (Kd pl_33 zr_33 rfl rfl) (show _ = natV 0 by unfold natV natL; rw [← vec_zeros 9])) ?_;refine aD 5 rfl dNa ?_;refine aO 6 rfl (cF rfl en_120 rfl (fun w hw=>c_f_neg V hok f bd r w (mC hw) hr0 hr1) ?_);refine aL 7 rfl (sA rfl rfl sz_33 (by exact KAB _) (hl:=by exact KI _) (h:=?_));refine aE ?_;refine KB ?_;refine rD [7] ?_;refine aD 0 rfl dNa ?_
  refine aD 1 rfl dNa ?_;refine aP 2 rfl (KK (Kd pl_47 zr_47 rfl (fill_ptI2 _ _)) rfl) ?_;refine aM 5 ?_;refine aO 3 rfl (LStep.det dNa (Nb rfl) ?_);refine aO 4 rfl (cF rfl en_57 rfl (fun w hw=>c_bit0 1 (V.p-r) w om om) ?_);refine aP 6 rfl (KF (v:=.bool true) rfl rfl (by rfl)) ?_;refine aL 7 rfl (sA rfl rfl sz_47 (by exact KAD _ _ _) (hl:=by exact KW _ _ _) (h:=?_));refine aA 8 ?_;refine aE ?_;refine KM ?_;refine ⟨[_,_],.cons ⟨_,_,_,rfl,mM,by exact KD u47 rfl sz_47⟩ (.cons rfl .nil),fun a' w' hr=>⟨?_,hr.fr.below⟩⟩
  rw [← hR] at h1
  rw [lift_odd hXp h1 hr0]
  rfl
def b0 (s:ByteArray):Nat:=(s.data.toList.getD 0 0).toNat
theorem b0_lt (s:ByteArray):b0 s<256:=UInt8.toNat_lt _
def getX (V:Cv) (s:ByteArray):Nat:=beVal (s.extract 1 (1+nby V.p)).data.toList
def getY (V:Cv) (s:ByteArray):Nat:=beVal (s.extract (1+nby V.p) s.size).data.toList
def getT (V:Cv) (s:ByteArray):Nat×Nat×Nat :=
  if s.size = 1+nby V.p∧(b0 s = 2∨b0 s = 3) then (if (liftT V (getX V s) (b0 s-2)).2.2 = true then ((liftT V (getX V s) (b0 s-2)).1,(liftT V (getX V s) (b0 s-2)).2.1,0) else (0,0,2101))
  else if s.size = 1+2*nby V.p∧b0 s = 4 then (if onB V.p V.a V.b (getX V s) (getY V s) false = true then (getX V s,getY V s,0) else (0,0,2101))
  else (0,0,2102)
def getV (V:Cv) (s:ByteArray):Value:=.tuple #[ptV (getT V s).1 (getT V s).2.1 false,.int .i64 (((getT V s).2.2:Nat):Int)]
theorem getV_eq {V:Cv} {s:ByteArray} {X Y e:Nat} (h:getT V s = (X,Y,e)):getV V s = .tuple #[ptV X Y false,.int .i64 ((e:Nat):Int)]:=by unfold getV; rw [h]
theorem get_form {V:Cv} {s:ByteArray} (h1:¬ (s.size = 1+nby V.p∧(b0 s = 2∨b0 s = 3))) (h2:¬ (s.size = 1+2*nby V.p∧b0 s = 4)):getT V s = (0,0,2102):=by unfold getT; rw [if_neg h1,if_neg h2]
theorem get_short {V:Cv} {s:ByteArray} {o X Y:Nat} (h1:s.size = 1+nby V.p) (ho:b0 s = 2+o) (ho1:o≤1) (h:liftT V (getX V s) o = (X,Y,true)):getT V s = (X,Y,0):=by
  unfold getT
  rw [if_pos ⟨h1,by omega⟩,ho,Nat.add_sub_cancel_left,h]; rfl
theorem get_shortF {V:Cv} {s:ByteArray} {o X Y:Nat} (h1:s.size = 1+nby V.p) (ho:b0 s = 2+o) (ho1:o≤1) (h:liftT V (getX V s) o = (X,Y,false)):getT V s = (0,0,2101):=by
  unfold getT
  rw [if_pos ⟨h1,by omega⟩,ho,Nat.add_sub_cancel_left,h]; rfl
theorem get_long {V:Cv} {s:ByteArray} (h1:s.size = 1+2*nby V.p) (hb:b0 s = 4) (h:onB V.p V.a V.b (getX V s) (getY V s) false = true):getT V s = (getX V s,getY V s,0):=by
  unfold getT
  rw [if_neg om,if_pos ⟨h1,hb⟩,if_pos h]
theorem get_longF {V:Cv} {s:ByteArray} (h1:s.size = 1+2*nby V.p) (hb:b0 s = 4) (h:onB V.p V.a V.b (getX V s) (getY V s) false = false):getT V s = (0,0,2101):=by
  unfold getT
  rw [if_neg om,if_pos ⟨h1,hb⟩,if_neg (by rw [h]; decide)]
theorem ext_ext (s:ByteArray) (k:Nat) (h:1+k≤s.size):(s.extract 1 s.size).extract 0 k = s.extract 1 (1+k):=by
  rw [ByteArray.extract_extract]
  congr 1; omega
theorem ext_ext2 (s:ByteArray) (k:Nat) (h:1+k≤s.size):(s.extract 1 s.size).extract k (s.extract 1 s.size).size = s.extract (1+k) s.size:=by
  rw [ByteArray.extract_extract,ext_size _ _ _ (Nat.le_refl _)]
  congr 1; omega
theorem ptX_set0 (X Y X':Nat) (i:Bool):KAa (ptL X Y i) 0 (natL X') = ptL X' Y i:=splice_mid (A:=[]) (B:=natL X) (D:=natL Y++[.bool i]) (by simp [ptL]) rfl (by rw [KI,KI]) (by simp [ptL])
theorem ptX_set9 (X Y Y':Nat) (i:Bool):KAa (ptL X Y i) 9 (natL Y') = ptL X Y' i:=splice_mid (A:=natL X) (B:=natL Y) (D:=[.bool i]) (by simp [ptL]) (KI _) (by rw [KI,KI]) (by simp [ptL])
theorem ptX_zero:(vec .u64 9 (fun _=>0)++(vec .u64 9 (fun _=>0)++[Value.bool false]):List Value) = ptL 0 0 false:=by
  unfold ptL natL; rw [vec_zeros 9]
theorem c_nat_OfX (X:Nat) (s:ByteArray) (w:World) (h:s.size≤72) (hX:beVal s.data.toList = X):Calls Tryz.prog 49 ([.string s]:List Value).toArray w (fun e w'=>e = .returned (.tuple #[natV X,.int .i64 ((0:Nat):Int)])∧Below w.heap.size w w'):=hX ▸ c_nat_OfOK s w h
theorem c_liftX (Z:Nat×Nat×Bool) (V:Cv) (b f bd:Nat) (hok:V.Ok) (X odd:Nat) (w:World) (hb:(Item.blk b ⟨false,opL V f,100,(0,0)⟩).holds w) (hf:(Item.blk f ⟨false,fldL V.p bd,165,(0,0)⟩).holds w) (hbd:(Item.blk bd ⟨false,dvL V.p,269,(0,0)⟩).holds w) (hX:X<W9) (hodd:odd≤1) (hZ:liftT V X odd = Z):Calls Tryz.prog 62 ([.pointer (some ⟨b,0,none⟩),natV X,.int .i64 ((odd:Nat):Int)]:List Value).toArray w (fun e w'=>e = .returned (.tuple #[ptV Z.1 Z.2.1 false,.bool Z.2.2])∧Below w.heap.size w w'):=by
  subst hZ; exact c_lift V b f bd hok X odd w hb hf hbd hX hodd
theorem emp_t:((⟨#[]⟩:ByteArray).toList == (⟨#[]⟩:ByteArray).toList) = true:=by simp
theorem emp_f {s:ByteArray} (h:s.size≠0):(s.toList == (⟨#[]⟩:ByteArray).toList) = false:=by
  cases h1:(s.toList == (⟨#[]⟩:ByteArray).toList) with
  | false=>rfl
  | true =>
    rw [eq_str,decide_eq_true_eq] at h1
    have h2:s.data.size = 0:=by rw [← Array.length_toList,h1]; rfl
    exact absurd h2 h
theorem c_s_Get_emp (id:Int) (V:Cv) (w:World) (h:cvI id = some V):Calls Tryz.prog 29 ([.int .i64 id,.string ⟨#[]⟩]:List Value).toArray w (fun e w'=>e = .returned (.tuple #[ptV 0 0 false,.int .i64 ((2102:Nat):Int)])∧Below w.heap.size w w'):=by
  obtain ⟨hok,hid⟩:=cvI_ok h
  have hbb:=hok.bounds
  have hpW:V.p<W9:=KAE hbb.2.1
  have hnW:V.n<W9:=KAE hbb.2.2.2.2.2.2.1
  have hbl:=KAQ hnW
  have hnb:nby V.n≤72:=by (unfold nby; omega)
  have hnp:nby V.p≤72:=by have:=KAQ (KAE hbb.2.1); (unfold nby; omega)
  refine KX (N:=102) (rs:=[.cell 4 47,.tmp 5]) [] Tryz.func29 rfl Tryz.ntmps29 Tryz.results29 (Nb rfl) trivial rfl ?_
  refine KB (KA ?_);refine oS (mk (KL zr_47) (fun b4=>?_));refine oP (KO (v:=.int .i64 ((0:Nat):Int)) rfl) ?_;refine KC (KB (KA (oM ?_)));refine oS (oOpen h rfl rfl (fun b f bd=>?_));refine oA (KC (KB (KB (KA (oM ?_)))));refine oP (KK (KAN u81 rfl rfl) (show _ = Value.bool false from rfl)) ?_;refine KC ?_;refine KH rfl ?_;refine KN (KB (KB (KA (oM ?_))));refine oP (KK (Det.eqs rfl rfl) (congrArg Value.bool (emp_t))) ?_;refine KC ?_;refine KT rfl ?_;refine KB (KA ?_);refine oP (KK (Kd pl_47 zr_47 rfl rfl) pt_zero) ?_;refine LOps.step rfl (sA rfl rfl sz_47 (by exact KAD _ _ _) (hl:=by exact KW _ _ _) (h:=?_));refine oP (KO (v:=.int .i64 ((2102:Nat):Int)) rfl) ?_;refine KC (KM ?_);refine ⟨[_,_],.cons ⟨_,_,_,rfl,mM,by exact KD u47 rfl sz_47⟩ (.cons rfl .nil),fun a' w' hr=>⟨?_,hr.fr.below⟩⟩
  skip
  rfl
theorem c_s_Get_s0 (id:Int) (V:Cv) (s:ByteArray) (X X' Y':Nat) (ok:Bool) (w:World) (h:cvI id = some V) (hsz:s.size = 1+nby V.p) (hb:b0 s = 2) (hX:beVal (s.extract 1 s.size).data.toList = X) (hXw:X<W9) (hl:liftT V X 0 = (X',Y',ok)):Calls Tryz.prog 29 ([.int .i64 id,.string s]:List Value).toArray w (fun e w'=>e = .returned (getV V s)∧Below w.heap.size w w'):=by
  obtain ⟨hok,hid⟩:=cvI_ok h
  have hbb:=hok.bounds
  have hpW:V.p<W9:=KAE hbb.2.1
  have hnW:V.n<W9:=KAE hbb.2.2.2.2.2.2.1
  have hbl:=KAQ hnW
  have hnb:nby V.n≤72:=by (unfold nby; omega)
  have hnp:nby V.p≤72:=by have:=KAQ (KAE hbb.2.1); (unfold nby; omega)
  have hs0:s.size≠0:=by omega
  refine KX (N:=102) (rs:=[.cell 4 47,.tmp 5]) [] Tryz.func29 rfl Tryz.ntmps29 Tryz.results29 (Nb rfl) trivial rfl ?_
  refine KB (KA ?_);refine oS (mk (KL zr_47) (fun b4=>?_));refine oP (KO (v:=.int .i64 ((0:Nat):Int)) rfl) ?_;refine KC (KB (KA (oM ?_)));refine oS (oOpen h rfl rfl (fun b f bd=>?_));refine oA (KC (KB (KB (KA (oM ?_)))));refine oP (KK (KAN u81 rfl rfl) (show _ = Value.bool false from rfl)) ?_;refine KC ?_;refine KH rfl ?_;refine KN (KB (KB (KA (oM ?_))));refine oP (KK (Det.eqs rfl rfl) (congrArg Value.bool (emp_f hs0))) ?_;refine KC ?_;refine KH rfl ?_;refine KN (KB ?_);refine rD [] ?_;refine aM 0 ?_;refine aP 1 rfl (KK (KAI u9 rfl rfl om om) (show _ = .int .u8 ((2:Nat):Int) from congrArg (fun n:Nat=>Value.int .u8 ((n:Nat):Int)) hb)) ?_;refine aP 2 rfl (Det.convi u5 u3 rfl om) ?_;refine aM 3 ?_;refine aP 4 rfl (KK (Det.slStrL u9 rfl rfl om om) (show _ = Value.string (s.extract 1 s.size) from rfl)) ?_;refine aA 5 ?_;refine aA 6 ?_
  refine aE ?_;refine KB (KA ?_);refine oS (mk (KL zr_47) (fun b9=>?_));refine KC (KB (KA (oA (KC (KB (LCode.block (KB ?_)))))))
  have hrs:(s.extract 1 s.size).size = nby V.p:=by rw [ext_size _ _ _ (Nat.le_refl _)]; omega
  refine KA (oM ?_);refine oP (KF (v:=.bool true) rfl rfl (br_t (Kz (b:=2)) (rfl))) ?_;refine oM ?_;refine oK ?_;refine oK ?_;refine oP (Kj rfl rfl) ?_;refine oM ?_;refine oGM ?_;refine oGP (KAZ u9 rfl) ?_;refine oGM ?_;refine oGP (KG rfl) ?_;refine oGP (KE (o':=0) u100 rfl rfl rfl sz_53 dc) ?_;refine oGP (KE (o':=57) u53 rfl rfl rfl sz_3 dc) ?_;refine KAA rfl rfl (dL rfl (hv:=KJ u3 rfl (by exact cvC_gt_size _ _ _ _ _ _ _ _ _ _ _ _ _))) (Nb rfl) ?_;refine oGP (KF (v:=.bool true) rfl rfl (br_t Kz (hrs))) ?_;refine oP (Kj rfl rfl) ?_;refine oA (KC ?_);refine KT rfl ?_;refine KB ?_
  cases ok
  ·
   refine KA (oM ?_);refine oS (cF rfl en_49 rfl (fun w hw=>c_nat_OfX X (s.extract 1 s.size) w om hX) ?_);refine oM ?_;refine oP (Det.extract rfl rfl) ?_;refine oP (Det.extract rfl rfl) ?_;refine oS (mk (KL zr_33) (fun b11=>?_));refine LOps.step rfl (sA rfl rfl sz_33 (by exact KAB _) (hl:=by exact KI _) (h:=?_));refine oA (KC (KA (oM ?_)));refine oD dNa ?_;refine oM ?_;refine oP (KF (v:=.int .i64 ((0:Nat):Int)) rfl rfl (by rfl)) ?_;refine oS (cF rfl en_62 rfl (fun w hw=>c_liftX (X',Y',false) V b f bd hok X 0 w (mC hw) (mC hw) (mC hw) hXw dc hl) ?_);refine oM ?_;refine oP (Det.extract rfl rfl) ?_;refine oP (Det.extract rfl rfl) ?_;refine LOps.step rfl (sA rfl rfl sz_47 (by exact KAD _ _ _) (hl:=by exact KW _ _ _) (h:=?_));refine oA (KC (KB (KB (KA (oM ?_)))));refine oP (KK (KAK rfl) (show _ = Value.bool true from rfl)) ?_;refine KC ?_;refine KT rfl ?_
   refine KB (KA ?_);refine oP (KK (Kd pl_47 zr_47 rfl rfl) pt_zero) ?_;refine LOps.step rfl (sA rfl rfl sz_47 (by exact KAD _ _ _) (hl:=by exact KW _ _ _) (h:=?_));refine oP (KO (v:=.int .i64 ((2101:Nat):Int)) rfl) ?_;refine KC (KM ?_);refine ⟨[_,_],.cons ⟨_,_,_,rfl,mM,by exact KD u47 rfl sz_47⟩ (.cons rfl .nil),fun a' w' hr=>⟨?_,hr.fr.below⟩⟩
   have hg:getX V s = X:=by unfold getX; rw [← hsz]; exact hX
   rw [← hg] at hl
   rw [getV_eq (get_shortF hsz hb dc hl)]
   rfl
  refine KA (oM ?_);refine oS (cF rfl en_49 rfl (fun w hw=>c_nat_OfX X (s.extract 1 s.size) w om hX) ?_);refine oM ?_;refine oP (Det.extract rfl rfl) ?_;refine oP (Det.extract rfl rfl) ?_;refine oS (mk (KL zr_33) (fun b11=>?_));refine LOps.step rfl (sA rfl rfl sz_33 (by exact KAB _) (hl:=by exact KI _) (h:=?_));refine oA (KC (KA (oM ?_)));refine oD dNa ?_;refine oM ?_;refine oP (KF (v:=.int .i64 ((0:Nat):Int)) rfl rfl (by rfl)) ?_;refine oS (cF rfl en_62 rfl (fun w hw=>c_liftX (X',Y',true) V b f bd hok X 0 w (mC hw) (mC hw) (mC hw) hXw dc hl) ?_);refine oM ?_;refine oP (Det.extract rfl rfl) ?_;refine oP (Det.extract rfl rfl) ?_;refine LOps.step rfl (sA rfl rfl sz_47 (by exact KAD _ _ _) (hl:=by exact KW _ _ _) (h:=?_));refine oA (KC (KB (KB (KA (oM ?_)))));refine oP (KK (KAK rfl) (show _ = Value.bool false from rfl)) ?_;refine KC ?_;refine KH rfl ?_
  refine KN (KB (KA ?_));refine oD dNb ?_;refine LOps.step rfl (sA rfl rfl sz_47 (by exact KAD _ _ _) (hl:=by exact KW _ _ _) (h:=?_));refine oP (KO (v:=.int .i64 ((0:Nat):Int)) rfl) ?_;refine KC (KM ?_);refine ⟨[_,_],.cons ⟨_,_,_,rfl,mM,by exact KD u47 rfl sz_47⟩ (.cons rfl .nil),fun a' w' hr=>⟨?_,hr.fr.below⟩⟩
  have hg:getX V s = X:=by unfold getX; rw [← hsz]; exact hX
  rw [← hg] at hl
  rw [getV_eq (get_short hsz hb dc hl)]
  rfl
theorem c_s_Get_s1 (id:Int) (V:Cv) (s:ByteArray) (X X' Y':Nat) (ok:Bool) (w:World) (h:cvI id = some V) (hsz:s.size = 1+nby V.p) (hb:b0 s = 3) (hX:beVal (s.extract 1 s.size).data.toList = X) (hXw:X<W9) (hl:liftT V X 1 = (X',Y',ok)):Calls Tryz.prog 29 ([.int .i64 id,.string s]:List Value).toArray w (fun e w'=>e = .returned (getV V s)∧Below w.heap.size w w'):=by
  obtain ⟨hok,hid⟩:=cvI_ok h
  have hbb:=hok.bounds
  have hpW:V.p<W9:=KAE hbb.2.1
  have hnW:V.n<W9:=KAE hbb.2.2.2.2.2.2.1
  have hbl:=KAQ hnW
  have hnb:nby V.n≤72:=by (unfold nby; omega)
  have hnp:nby V.p≤72:=by have:=KAQ (KAE hbb.2.1); (unfold nby; omega)
  have hs0:s.size≠0:=by omega
  refine KX (N:=102) (rs:=[.cell 4 47,.tmp 5]) [] Tryz.func29 rfl Tryz.ntmps29 Tryz.results29 (Nb rfl) trivial rfl ?_
  refine KB (KA ?_);refine oS (mk (KL zr_47) (fun b4=>?_));refine oP (KO (v:=.int .i64 ((0:Nat):Int)) rfl) ?_;refine KC (KB (KA (oM ?_)));refine oS (oOpen h rfl rfl (fun b f bd=>?_));refine oA (KC (KB (KB (KA (oM ?_)))));refine oP (KK (KAN u81 rfl rfl) (show _ = Value.bool false from rfl)) ?_;refine KC ?_;refine KH rfl ?_;refine KN (KB (KB (KA (oM ?_))));refine oP (KK (Det.eqs rfl rfl) (congrArg Value.bool (emp_f hs0))) ?_;refine KC ?_;refine KH rfl ?_;refine KN (KB ?_);refine rD [] ?_;refine aM 0 ?_;refine aP 1 rfl (KK (KAI u9 rfl rfl om om) (show _ = .int .u8 ((3:Nat):Int) from congrArg (fun n:Nat=>Value.int .u8 ((n:Nat):Int)) hb)) ?_;refine aP 2 rfl (Det.convi u5 u3 rfl om) ?_;refine aM 3 ?_;refine aP 4 rfl (KK (Det.slStrL u9 rfl rfl om om) (show _ = Value.string (s.extract 1 s.size) from rfl)) ?_;refine aA 5 ?_;refine aA 6 ?_
  refine aE ?_;refine KB (KA ?_);refine oS (mk (KL zr_47) (fun b9=>?_));refine KC (KB (KA (oA (KC (KB (LCode.block (KB ?_)))))))
  have hrs:(s.extract 1 s.size).size = nby V.p:=by rw [ext_size _ _ _ (Nat.le_refl _)]; omega
  refine KA (oM ?_);refine oP (KF (v:=.bool false) rfl rfl (br_f (Kz (b:=2)) dc)) ?_;refine oM ?_;refine oGM ?_;refine oGP (KF (v:=.bool true) rfl rfl (br_t (Kz (b:=3)) (rfl))) ?_;refine oP (KV rfl rfl) ?_;refine oM ?_;refine oGM ?_;refine oGP (KAZ u9 rfl) ?_;refine oGM ?_;refine oGP (KG rfl) ?_;refine oGP (KE (o':=0) u100 rfl rfl rfl sz_53 dc) ?_;refine oGP (KE (o':=57) u53 rfl rfl rfl sz_3 dc) ?_;refine KAA rfl rfl (dL rfl (hv:=KJ u3 rfl (by exact cvC_gt_size _ _ _ _ _ _ _ _ _ _ _ _ _))) (Nb rfl) ?_;refine oGP (KF (v:=.bool true) rfl rfl (br_t Kz (hrs))) ?_;refine oP (Kj rfl rfl) ?_;refine oA (KC ?_);refine KT rfl ?_;refine KB ?_
  cases ok
  ·
   refine KA (oM ?_);refine oS (cF rfl en_49 rfl (fun w hw=>c_nat_OfX X (s.extract 1 s.size) w om hX) ?_);refine oM ?_;refine oP (Det.extract rfl rfl) ?_;refine oP (Det.extract rfl rfl) ?_;refine oS (mk (KL zr_33) (fun b11=>?_));refine LOps.step rfl (sA rfl rfl sz_33 (by exact KAB _) (hl:=by exact KI _) (h:=?_));refine oA (KC (KA (oM ?_)));refine oD dNa ?_;refine oM ?_;refine oP (KF (v:=.int .i64 ((1:Nat):Int)) rfl rfl (by rfl)) ?_;refine oS (cF rfl en_62 rfl (fun w hw=>c_liftX (X',Y',false) V b f bd hok X 1 w (mC hw) (mC hw) (mC hw) hXw dc hl) ?_);refine oM ?_;refine oP (Det.extract rfl rfl) ?_;refine oP (Det.extract rfl rfl) ?_;refine LOps.step rfl (sA rfl rfl sz_47 (by exact KAD _ _ _) (hl:=by exact KW _ _ _) (h:=?_));refine oA (KC (KB (KB (KA (oM ?_)))));refine oP (KK (KAK rfl) (show _ = Value.bool true from rfl)) ?_;refine KC ?_;refine KT rfl ?_
   refine KB (KA ?_);refine oP (KK (Kd pl_47 zr_47 rfl rfl) pt_zero) ?_;refine LOps.step rfl (sA rfl rfl sz_47 (by exact KAD _ _ _) (hl:=by exact KW _ _ _) (h:=?_));refine oP (KO (v:=.int .i64 ((2101:Nat):Int)) rfl) ?_;refine KC (KM ?_);refine ⟨[_,_],.cons ⟨_,_,_,rfl,mM,by exact KD u47 rfl sz_47⟩ (.cons rfl .nil),fun a' w' hr=>⟨?_,hr.fr.below⟩⟩
   have hg:getX V s = X:=by unfold getX; rw [← hsz]; exact hX
   rw [← hg] at hl
   rw [getV_eq (get_shortF hsz hb dc hl)]
   rfl
  refine KA (oM ?_);refine oS (cF rfl en_49 rfl (fun w hw=>c_nat_OfX X (s.extract 1 s.size) w om hX) ?_);refine oM ?_;refine oP (Det.extract rfl rfl) ?_;refine oP (Det.extract rfl rfl) ?_;refine oS (mk (KL zr_33) (fun b11=>?_));refine LOps.step rfl (sA rfl rfl sz_33 (by exact KAB _) (hl:=by exact KI _) (h:=?_));refine oA (KC (KA (oM ?_)));refine oD dNa ?_;refine oM ?_;refine oP (KF (v:=.int .i64 ((1:Nat):Int)) rfl rfl (by rfl)) ?_;refine oS (cF rfl en_62 rfl (fun w hw=>c_liftX (X',Y',true) V b f bd hok X 1 w (mC hw) (mC hw) (mC hw) hXw dc hl) ?_);refine oM ?_;refine oP (Det.extract rfl rfl) ?_;refine oP (Det.extract rfl rfl) ?_;refine LOps.step rfl (sA rfl rfl sz_47 (by exact KAD _ _ _) (hl:=by exact KW _ _ _) (h:=?_));refine oA (KC (KB (KB (KA (oM ?_)))));refine oP (KK (KAK rfl) (show _ = Value.bool false from rfl)) ?_;refine KC ?_;refine KH rfl ?_
  refine KN (KB (KA ?_));refine oD dNb ?_;refine LOps.step rfl (sA rfl rfl sz_47 (by exact KAD _ _ _) (hl:=by exact KW _ _ _) (h:=?_));refine oP (KO (v:=.int .i64 ((0:Nat):Int)) rfl) ?_;refine KC (KM ?_);refine ⟨[_,_],.cons ⟨_,_,_,rfl,mM,by exact KD u47 rfl sz_47⟩ (.cons rfl .nil),fun a' w' hr=>⟨?_,hr.fr.below⟩⟩
  have hg:getX V s = X:=by unfold getX; rw [← hsz]; exact hX
  rw [← hg] at hl
  rw [getV_eq (get_short hsz hb dc hl)]
  rfl
theorem c_s_Get_f2 (id:Int) (V:Cv) (s:ByteArray) (w:World) (h:cvI id = some V) (hs0:s.size≠0) (hs:s.size<9223372036854775808) (hb:b0 s = 2) (hsz:s.size≠1+nby V.p):Calls Tryz.prog 29 ([.int .i64 id,.string s]:List Value).toArray w (fun e w'=>e = .returned (.tuple #[ptV 0 0 false,.int .i64 ((2102:Nat):Int)])∧Below w.heap.size w w'):=by
  obtain ⟨hok,hid⟩:=cvI_ok h
  have hbb:=hok.bounds
  have hpW:V.p<W9:=KAE hbb.2.1
  have hnW:V.n<W9:=KAE hbb.2.2.2.2.2.2.1
  have hbl:=KAQ hnW
  have hnb:nby V.n≤72:=by (unfold nby; omega)
  have hnp:nby V.p≤72:=by have:=KAQ (KAE hbb.2.1); (unfold nby; omega)
  have hb256:=b0_lt s
  refine KX (N:=102) (rs:=[.cell 4 47,.tmp 5]) [] Tryz.func29 rfl Tryz.ntmps29 Tryz.results29 (Nb rfl) trivial rfl ?_
  refine KB (KA ?_);refine oS (mk (KL zr_47) (fun b4=>?_));refine oP (KO (v:=.int .i64 ((0:Nat):Int)) rfl) ?_;refine KC (KB (KA (oM ?_)));refine oS (oOpen h rfl rfl (fun b f bd=>?_));refine oA (KC (KB (KB (KA (oM ?_)))));refine oP (KK (KAN u81 rfl rfl) (show _ = Value.bool false from rfl)) ?_;refine KC ?_;refine KH rfl ?_;refine KN (KB (KB (KA (oM ?_))));refine oP (KK (Det.eqs rfl rfl) (congrArg Value.bool (emp_f hs0))) ?_;refine KC ?_;refine KH rfl ?_;refine KN (KB ?_);refine rD [] ?_;refine aM 0 ?_;refine aP 1 rfl (KK (KAI u9 rfl rfl om om) (show _ = .int .u8 ((2:Nat):Int) from congrArg (fun n:Nat=>Value.int .u8 ((n:Nat):Int)) hb)) ?_;refine aP 2 rfl (Det.convi u5 u3 rfl om) ?_;refine aM 3 ?_;refine aP 4 rfl (KK (Det.slStrL u9 rfl rfl om om) (show _ = Value.string (s.extract 1 s.size) from rfl)) ?_;refine aA 5 ?_;refine aA 6 ?_
  refine aE ?_;refine KB (KA ?_);refine oS (mk (KL zr_47) (fun b9=>?_));refine KC (KB (KA (oA (KC (KB (LCode.block (KB ?_)))))))
  have hrs:(s.extract 1 s.size).size = s.size-1:=by rw [ext_size _ _ _ (Nat.le_refl _)]
  refine KA (oM ?_);refine oP (KF (v:=.bool true) rfl rfl (br_t (Kz (b:=2)) (rfl))) ?_;refine oM ?_;refine oK ?_;refine oK ?_;refine oP (Kj rfl rfl) ?_;refine oM ?_;refine oGM ?_;refine oGP (KAZ u9 rfl) ?_;refine oGM ?_;refine oGP (KG rfl) ?_;refine oGP (KE (o':=0) u100 rfl rfl rfl sz_53 dc) ?_;refine oGP (KE (o':=57) u53 rfl rfl rfl sz_3 dc) ?_;refine KAA rfl rfl (dL rfl (hv:=KJ u3 rfl (by exact cvC_gt_size _ _ _ _ _ _ _ _ _ _ _ _ _))) (Nb rfl) ?_;refine oGP (KF (v:=.bool false) rfl rfl (br_f Kz (om))) ?_;refine oP (Kj rfl rfl) ?_;refine oA (KC ?_);refine KH rfl ?_;refine KB (KA (oM ?_));refine oP (KF (v:=.bool false) rfl rfl (br_f (Kz (b:=4)) dc)) ?_;refine oM ?_;refine oK ?_;refine oK ?_;refine oK ?_;refine oK ?_;refine oK ?_;refine oK ?_;refine oK ?_;refine oK ?_;refine oK ?_;refine oP (KV rfl rfl) ?_;refine oA (KC ?_);refine KH rfl ?_
  refine KB (KA ?_);refine oP (KK (Kd pl_47 zr_47 rfl rfl) pt_zero) ?_;refine LOps.step rfl (sA rfl rfl sz_47 (by exact KAD _ _ _) (hl:=by exact KW _ _ _) (h:=?_));refine oP (KO (v:=.int .i64 ((2102:Nat):Int)) rfl) ?_;refine KC (KM ?_);refine ⟨[_,_],.cons ⟨_,_,_,rfl,mM,by exact KD u47 rfl sz_47⟩ (.cons rfl .nil),fun a' w' hr=>⟨?_,hr.fr.below⟩⟩
  skip
  rfl
theorem c_s_Get_f3 (id:Int) (V:Cv) (s:ByteArray) (w:World) (h:cvI id = some V) (hs0:s.size≠0) (hs:s.size<9223372036854775808) (hb:b0 s = 3) (hsz:s.size≠1+nby V.p):Calls Tryz.prog 29 ([.int .i64 id,.string s]:List Value).toArray w (fun e w'=>e = .returned (.tuple #[ptV 0 0 false,.int .i64 ((2102:Nat):Int)])∧Below w.heap.size w w'):=by
  obtain ⟨hok,hid⟩:=cvI_ok h
  have hbb:=hok.bounds
  have hpW:V.p<W9:=KAE hbb.2.1
  have hnW:V.n<W9:=KAE hbb.2.2.2.2.2.2.1
  have hbl:=KAQ hnW
  have hnb:nby V.n≤72:=by (unfold nby; omega)
  have hnp:nby V.p≤72:=by have:=KAQ (KAE hbb.2.1); (unfold nby; omega)
  have hb256:=b0_lt s
  refine KX (N:=102) (rs:=[.cell 4 47,.tmp 5]) [] Tryz.func29 rfl Tryz.ntmps29 Tryz.results29 (Nb rfl) trivial rfl ?_
  refine KB (KA ?_);refine oS (mk (KL zr_47) (fun b4=>?_));refine oP (KO (v:=.int .i64 ((0:Nat):Int)) rfl) ?_;refine KC (KB (KA (oM ?_)));refine oS (oOpen h rfl rfl (fun b f bd=>?_));refine oA (KC (KB (KB (KA (oM ?_)))));refine oP (KK (KAN u81 rfl rfl) (show _ = Value.bool false from rfl)) ?_;refine KC ?_;refine KH rfl ?_;refine KN (KB (KB (KA (oM ?_))));refine oP (KK (Det.eqs rfl rfl) (congrArg Value.bool (emp_f hs0))) ?_;refine KC ?_;refine KH rfl ?_;refine KN (KB ?_);refine rD [] ?_;refine aM 0 ?_;refine aP 1 rfl (KK (KAI u9 rfl rfl om om) (show _ = .int .u8 ((3:Nat):Int) from congrArg (fun n:Nat=>Value.int .u8 ((n:Nat):Int)) hb)) ?_;refine aP 2 rfl (Det.convi u5 u3 rfl om) ?_;refine aM 3 ?_;refine aP 4 rfl (KK (Det.slStrL u9 rfl rfl om om) (show _ = Value.string (s.extract 1 s.size) from rfl)) ?_;refine aA 5 ?_;refine aA 6 ?_
  refine aE ?_;refine KB (KA ?_);refine oS (mk (KL zr_47) (fun b9=>?_));refine KC (KB (KA (oA (KC (KB (LCode.block (KB ?_)))))))
  have hrs:(s.extract 1 s.size).size = s.size-1:=by rw [ext_size _ _ _ (Nat.le_refl _)]
  refine KA (oM ?_);refine oP (KF (v:=.bool false) rfl rfl (br_f (Kz (b:=2)) dc)) ?_;refine oM ?_;refine oGM ?_;refine oGP (KF (v:=.bool true) rfl rfl (br_t (Kz (b:=3)) (rfl))) ?_;refine oP (KV rfl rfl) ?_;refine oM ?_;refine oGM ?_;refine oGP (KAZ u9 rfl) ?_;refine oGM ?_;refine oGP (KG rfl) ?_;refine oGP (KE (o':=0) u100 rfl rfl rfl sz_53 dc) ?_;refine oGP (KE (o':=57) u53 rfl rfl rfl sz_3 dc) ?_;refine KAA rfl rfl (dL rfl (hv:=KJ u3 rfl (by exact cvC_gt_size _ _ _ _ _ _ _ _ _ _ _ _ _))) (Nb rfl) ?_;refine oGP (KF (v:=.bool false) rfl rfl (br_f Kz (om))) ?_;refine oP (Kj rfl rfl) ?_;refine oA (KC ?_);refine KH rfl ?_;refine KB (KA (oM ?_));refine oP (KF (v:=.bool false) rfl rfl (br_f (Kz (b:=4)) dc)) ?_;refine oM ?_;refine oK ?_;refine oK ?_;refine oK ?_;refine oK ?_;refine oK ?_;refine oK ?_;refine oK ?_;refine oK ?_;refine oK ?_
  refine oP (KV rfl rfl) ?_;refine oA (KC ?_);refine KH rfl ?_;refine KB (KA ?_);refine oP (KK (Kd pl_47 zr_47 rfl rfl) pt_zero) ?_;refine LOps.step rfl (sA rfl rfl sz_47 (by exact KAD _ _ _) (hl:=by exact KW _ _ _) (h:=?_));refine oP (KO (v:=.int .i64 ((2102:Nat):Int)) rfl) ?_;refine KC (KM ?_);refine ⟨[_,_],.cons ⟨_,_,_,rfl,mM,by exact KD u47 rfl sz_47⟩ (.cons rfl .nil),fun a' w' hr=>⟨?_,hr.fr.below⟩⟩
  skip
  rfl
theorem c_s_Get_f4 (id:Int) (V:Cv) (s:ByteArray) (w:World) (h:cvI id = some V) (hs0:s.size≠0) (hs:s.size<9223372036854775808) (hb:b0 s = 4) (hsz:s.size≠1+2*nby V.p):Calls Tryz.prog 29 ([.int .i64 id,.string s]:List Value).toArray w (fun e w'=>e = .returned (.tuple #[ptV 0 0 false,.int .i64 ((2102:Nat):Int)])∧Below w.heap.size w w'):=by
  obtain ⟨hok,hid⟩:=cvI_ok h
  have hbb:=hok.bounds
  have hpW:V.p<W9:=KAE hbb.2.1
  have hnW:V.n<W9:=KAE hbb.2.2.2.2.2.2.1
  have hbl:=KAQ hnW
  have hnb:nby V.n≤72:=by (unfold nby; omega)
  have hnp:nby V.p≤72:=by have:=KAQ (KAE hbb.2.1); (unfold nby; omega)
  have hb256:=b0_lt s
  refine KX (N:=102) (rs:=[.cell 4 47,.tmp 5]) [] Tryz.func29 rfl Tryz.ntmps29 Tryz.results29 (Nb rfl) trivial rfl ?_
  refine KB (KA ?_);refine oS (mk (KL zr_47) (fun b4=>?_));refine oP (KO (v:=.int .i64 ((0:Nat):Int)) rfl) ?_;refine KC (KB (KA (oM ?_)));refine oS (oOpen h rfl rfl (fun b f bd=>?_));refine oA (KC (KB (KB (KA (oM ?_)))));refine oP (KK (KAN u81 rfl rfl) (show _ = Value.bool false from rfl)) ?_;refine KC ?_;refine KH rfl ?_;refine KN (KB (KB (KA (oM ?_))));refine oP (KK (Det.eqs rfl rfl) (congrArg Value.bool (emp_f hs0))) ?_;refine KC ?_;refine KH rfl ?_;refine KN (KB ?_);refine rD [] ?_;refine aM 0 ?_;refine aP 1 rfl (KK (KAI u9 rfl rfl om om) (show _ = .int .u8 ((4:Nat):Int) from congrArg (fun n:Nat=>Value.int .u8 ((n:Nat):Int)) hb)) ?_;refine aP 2 rfl (Det.convi u5 u3 rfl om) ?_;refine aM 3 ?_;refine aP 4 rfl (KK (Det.slStrL u9 rfl rfl om om) (show _ = Value.string (s.extract 1 s.size) from rfl)) ?_;refine aA 5 ?_;refine aA 6 ?_
  refine aE ?_;refine KB (KA ?_);refine oS (mk (KL zr_47) (fun b9=>?_));refine KC (KB (KA (oA (KC (KB (LCode.block (KB ?_)))))))
  have hrs:(s.extract 1 s.size).size = s.size-1:=by rw [ext_size _ _ _ (Nat.le_refl _)]
  refine KA (oM ?_);refine oP (KF (v:=.bool false) rfl rfl (br_f (Kz (b:=2)) dc)) ?_;refine oM ?_;refine oGM ?_;refine oGP (KF (v:=.bool false) rfl rfl (br_f (Kz (b:=3)) dc)) ?_;refine oP (KV rfl rfl) ?_;refine oM ?_;refine oK ?_;refine oK ?_;refine oK ?_;refine oK ?_;refine oK ?_;refine oK ?_;refine oK ?_;refine oK ?_;refine oP (KV rfl rfl) ?_;refine oA (KC ?_);refine KH rfl ?_;refine KB (KA (oM ?_));refine oP (KF (v:=.bool true) rfl rfl (br_t (Kz (b:=4)) (rfl))) ?_;refine oM ?_;refine oGM ?_;refine oGP (KAZ u9 rfl) ?_;refine oGM ?_;refine oGP (KG rfl) ?_;refine oGP (KE (o':=0) u100 rfl rfl rfl sz_53 dc) ?_;refine oGP (KE (o':=57) u53 rfl rfl rfl sz_3 dc) ?_;refine KAA rfl rfl (dL rfl (hv:=KJ u3 rfl (by exact cvC_gt_size _ _ _ _ _ _ _ _ _ _ _ _ _))) (Nb rfl) ?_;refine oGP (KF rfl rfl (br_mul (a:=2) om)) ?_;refine oGP (KF (v:=.bool false) rfl rfl (br_f Kz (om))) ?_
  refine oP (Kj rfl rfl) ?_;refine oA (KC ?_);refine KH rfl ?_;refine KB (KA ?_);refine oP (KK (Kd pl_47 zr_47 rfl rfl) pt_zero) ?_;refine LOps.step rfl (sA rfl rfl sz_47 (by exact KAD _ _ _) (hl:=by exact KW _ _ _) (h:=?_));refine oP (KO (v:=.int .i64 ((2102:Nat):Int)) rfl) ?_;refine KC (KM ?_);refine ⟨[_,_],.cons ⟨_,_,_,rfl,mM,by exact KD u47 rfl sz_47⟩ (.cons rfl .nil),fun a' w' hr=>⟨?_,hr.fr.below⟩⟩
  skip
  rfl
theorem c_s_Get_fo (id:Int) (V:Cv) (s:ByteArray) (w:World) (h:cvI id = some V) (hs0:s.size≠0) (hs:s.size<9223372036854775808) (hb2:b0 s≠2) (hb3:b0 s≠3) (hb4:b0 s≠4):Calls Tryz.prog 29 ([.int .i64 id,.string s]:List Value).toArray w (fun e w'=>e = .returned (.tuple #[ptV 0 0 false,.int .i64 ((2102:Nat):Int)])∧Below w.heap.size w w'):=by
  obtain ⟨hok,hid⟩:=cvI_ok h
  have hbb:=hok.bounds
  have hpW:V.p<W9:=KAE hbb.2.1
  have hnW:V.n<W9:=KAE hbb.2.2.2.2.2.2.1
  have hbl:=KAQ hnW
  have hnb:nby V.n≤72:=by (unfold nby; omega)
  have hnp:nby V.p≤72:=by have:=KAQ (KAE hbb.2.1); (unfold nby; omega)
  have hb256:=b0_lt s
  refine KX (N:=102) (rs:=[.cell 4 47,.tmp 5]) [] Tryz.func29 rfl Tryz.ntmps29 Tryz.results29 (Nb rfl) trivial rfl ?_
  refine KB (KA ?_);refine oS (mk (KL zr_47) (fun b4=>?_));refine oP (KO (v:=.int .i64 ((0:Nat):Int)) rfl) ?_;refine KC (KB (KA (oM ?_)));refine oS (oOpen h rfl rfl (fun b f bd=>?_));refine oA (KC (KB (KB (KA (oM ?_)))));refine oP (KK (KAN u81 rfl rfl) (show _ = Value.bool false from rfl)) ?_;refine KC ?_;refine KH rfl ?_;refine KN (KB (KB (KA (oM ?_))));refine oP (KK (Det.eqs rfl rfl) (congrArg Value.bool (emp_f hs0))) ?_;refine KC ?_;refine KH rfl ?_;refine KN (KB ?_);refine rD [] ?_;refine aM 0 ?_;refine aP 1 rfl (KK (KAI u9 rfl rfl om om) (show _ = .int .u8 (((b0 s):Nat):Int) from congrArg (fun n:Nat=>Value.int .u8 ((n:Nat):Int)) rfl)) ?_;refine aP 2 rfl (Det.convi u5 u3 rfl om) ?_;refine aM 3 ?_;refine aP 4 rfl (KK (Det.slStrL u9 rfl rfl om om) (show _ = Value.string (s.extract 1 s.size) from rfl)) ?_;refine aA 5 ?_
  refine aA 6 ?_;refine aE ?_;refine KB (KA ?_);refine oS (mk (KL zr_47) (fun b9=>?_));refine KC (KB (KA (oA (KC (KB (LCode.block (KB ?_)))))))
  have hrs:(s.extract 1 s.size).size = s.size-1:=by rw [ext_size _ _ _ (Nat.le_refl _)]
  refine KA (oM ?_);refine oP (KF (v:=.bool false) rfl rfl (br_f (Kz (b:=2)) (om))) ?_;refine oM ?_;refine oGM ?_;refine oGP (KF (v:=.bool false) rfl rfl (br_f (Kz (b:=3)) (om))) ?_;refine oP (KV rfl rfl) ?_;refine oM ?_;refine oK ?_;refine oK ?_;refine oK ?_;refine oK ?_;refine oK ?_;refine oK ?_;refine oK ?_;refine oK ?_;refine oP (KV rfl rfl) ?_;refine oA (KC ?_);refine KH rfl ?_;refine KB (KA (oM ?_));refine oP (KF (v:=.bool false) rfl rfl (br_f (Kz (b:=4)) (om))) ?_;refine oM ?_;refine oK ?_;refine oK ?_;refine oK ?_;refine oK ?_;refine oK ?_;refine oK ?_;refine oK ?_;refine oK ?_;refine oK ?_;refine oP (KV rfl rfl) ?_;refine oA (KC ?_);refine KH rfl ?_;refine KB (KA ?_);refine oP (KK (Kd pl_47 zr_47 rfl rfl) pt_zero) ?_;refine LOps.step rfl (sA rfl rfl sz_47 (by exact KAD _ _ _) (hl:=by exact KW _ _ _) (h:=?_));refine oP (KO (v:=.int .i64 ((2102:Nat):Int)) rfl) ?_;refine KC (KM ?_)
  refine ⟨[_,_],.cons ⟨_,_,_,rfl,mM,by exact KD u47 rfl sz_47⟩ (.cons rfl .nil),fun a' w' hr=>⟨?_,hr.fr.below⟩⟩
  skip
  rfl
theorem c_s_Get_l (id:Int) (V:Cv) (s:ByteArray) (X Y:Nat) (ok:Bool) (w:World) (h:cvI id = some V) (hsz:s.size = 1+2*nby V.p) (hb:b0 s = 4) (hX:beVal (s.extract 1 (1+nby V.p)).data.toList = X) (hY:beVal (s.extract (1+nby V.p) s.size).data.toList = Y) (hXw:X<W9) (hYw:Y<W9) (hl:onB V.p V.a V.b X Y false = ok):Calls Tryz.prog 29 ([.int .i64 id,.string s]:List Value).toArray w (fun e w'=>e = .returned (getV V s)∧Below w.heap.size w w'):=by
  obtain ⟨hok,hid⟩:=cvI_ok h
  have hbb:=hok.bounds
  have hpW:V.p<W9:=KAE hbb.2.1
  have hnW:V.n<W9:=KAE hbb.2.2.2.2.2.2.1
  have hbl:=KAQ hnW
  have hnb:nby V.n≤72:=by (unfold nby; omega)
  have hnp:nby V.p≤72:=by have:=KAQ (KAE hbb.2.1); (unfold nby; omega)
  have hs0:s.size≠0:=by omega
  refine KX (N:=102) (rs:=[.cell 4 47,.tmp 5]) [] Tryz.func29 rfl Tryz.ntmps29 Tryz.results29 (Nb rfl) trivial rfl ?_
  refine KB (KA ?_);refine oS (mk (KL zr_47) (fun b4=>?_));refine oP (KO (v:=.int .i64 ((0:Nat):Int)) rfl) ?_;refine KC (KB (KA (oM ?_)));refine oS (oOpen h rfl rfl (fun b f bd=>?_));refine oA (KC (KB (KB (KA (oM ?_)))));refine oP (KK (KAN u81 rfl rfl) (show _ = Value.bool false from rfl)) ?_;refine KC ?_;refine KH rfl ?_;refine KN (KB (KB (KA (oM ?_))));refine oP (KK (Det.eqs rfl rfl) (congrArg Value.bool (emp_f hs0))) ?_;refine KC ?_;refine KH rfl ?_;refine KN (KB ?_);refine rD [] ?_;refine aM 0 ?_;refine aP 1 rfl (KK (KAI u9 rfl rfl om om) (show _ = .int .u8 ((4:Nat):Int) from congrArg (fun n:Nat=>Value.int .u8 ((n:Nat):Int)) hb)) ?_;refine aP 2 rfl (Det.convi u5 u3 rfl om) ?_;refine aM 3 ?_;refine aP 4 rfl (KK (Det.slStrL u9 rfl rfl om om) (show _ = Value.string (s.extract 1 s.size) from rfl)) ?_;refine aA 5 ?_;refine aA 6 ?_
  refine aE ?_;refine KB (KA ?_);refine oS (mk (KL zr_47) (fun b9=>?_));refine KC (KB (KA (oA (KC (KB (LCode.block (KB ?_)))))))
  have hrs:(s.extract 1 s.size).size = s.size-1:=by rw [ext_size _ _ _ (Nat.le_refl _)]
  refine KA (oM ?_);refine oP (KF (v:=.bool false) rfl rfl (br_f (Kz (b:=2)) dc)) ?_;refine oM ?_;refine oGM ?_;refine oGP (KF (v:=.bool false) rfl rfl (br_f (Kz (b:=3)) dc)) ?_;refine oP (KV rfl rfl) ?_;refine oM ?_;refine oK ?_;refine oK ?_;refine oK ?_;refine oK ?_;refine oK ?_;refine oK ?_;refine oK ?_;refine oK ?_;refine oP (KV rfl rfl) ?_;refine oA (KC ?_);refine KH rfl ?_;refine KB (KA (oM ?_));refine oP (KF (v:=.bool true) rfl rfl (br_t (Kz (b:=4)) (rfl))) ?_;refine oM ?_;refine oGM ?_;refine oGP (KAZ u9 rfl) ?_;refine oGM ?_;refine oGP (KG rfl) ?_;refine oGP (KE (o':=0) u100 rfl rfl rfl sz_53 dc) ?_;refine oGP (KE (o':=57) u53 rfl rfl rfl sz_3 dc) ?_;refine KAA rfl rfl (dL rfl (hv:=KJ u3 rfl (by exact cvC_gt_size _ _ _ _ _ _ _ _ _ _ _ _ _))) (Nb rfl) ?_;refine oGP (KF rfl rfl (br_mul (a:=2) om)) ?_;refine oGP (KF (v:=.bool true) rfl rfl (br_t Kz (om))) ?_
  refine oP (Kj rfl rfl) ?_;refine oA (KC ?_);refine KT rfl ?_;refine KB ?_;refine LCode.sub (Sub.cells (b:=b9) (cs':=ptL 0 0 false) (by repeat (first|exact Sh _|apply St_)) ptX_zero) ?_;refine KA (oM (oM ?_));refine oP (KG rfl) ?_;refine oP (KE (o':=0) u100 rfl rfl rfl sz_53 dc) ?_;refine oP (KE (o':=57) u53 rfl rfl rfl sz_3 dc) ?_;refine oD (dL rfl (hv:=KJ u3 rfl (by exact cvC_gt_size _ _ _ _ _ _ _ _ _ _ _ _ _))) ?_;refine oP (KK (Det.slStrH u9 rfl rfl om om) (show _ = Value.string (s.extract 1 (1+nby V.p)) from by rw [Int.toNat_natCast,ext_ext s _ om])) ?_;refine oS (cF rfl en_49 rfl (fun w hw=>c_nat_OfX X (s.extract 1 (1+nby V.p)) w (by rw [ext_size _ _ _ om]; omega) hX) ?_);refine oM ?_;refine oP (Det.extract rfl rfl) ?_;refine oP (Det.extract rfl rfl) ?_;refine oP (KE (o':=0) u47 rfl rfl rfl sz_33 dc) ?_;refine LOps.step rfl (Ku rfl rfl rfl sz_33 (KI _) (KAB _) (by repeat (first|exact Sh _|apply St_)) (by simp only [KW]; decide) (ptX_set0 _ _ _ _) (by simp) ?_)
  refine KC (KB (KA (oM (oM ?_))));refine oP (KG rfl) ?_;refine oP (KE (o':=0) u100 rfl rfl rfl sz_53 dc) ?_;refine oP (KE (o':=57) u53 rfl rfl rfl sz_3 dc) ?_;refine oD (dL rfl (hv:=KJ u3 rfl (by exact cvC_gt_size _ _ _ _ _ _ _ _ _ _ _ _ _))) ?_;refine oP (KK (Det.slStrL u9 rfl rfl om om) (show _ = Value.string (s.extract (1+nby V.p) s.size) from by rw [Int.toNat_natCast,ext_ext2 s _ om])) ?_;refine oS (cF rfl en_49 rfl (fun w hw=>c_nat_OfX Y (s.extract (1+nby V.p) s.size) w (by rw [ext_size _ _ _ (Nat.le_refl _)]; omega) hY) ?_);refine oM ?_;refine oP (Det.extract rfl rfl) ?_;refine oP (Det.extract rfl rfl) ?_;refine oP (KE (o':=9) u47 rfl rfl rfl sz_33 dc) ?_;refine LOps.step rfl (Ku rfl rfl rfl sz_33 (KI _) (KAB _) (by repeat (first|exact Sh _|apply St_)) (by simp only [KW]; decide) (ptX_set9 _ _ _ _) (by simp) ?_)
  refine KC ?_
  cases ok
  ·
   refine KA (oM ?_);refine oD dNb ?_;refine oS (cF rfl en_55 rfl (fun w hw=>c_cOnV false V b f bd hok X Y false w (mC hw) (mC hw) (mC hw) hXw hYw hl) ?_);refine oA (KC (KB (KB (KA (oM ?_)))));refine oP (KK (KAK rfl) (show _ = Value.bool true from rfl)) ?_;refine KC ?_;refine KT rfl ?_;refine KB (KA ?_);refine oP (KK (Kd pl_47 zr_47 rfl rfl) pt_zero) ?_;refine LOps.step rfl (sA rfl rfl sz_47 (by exact KAD _ _ _) (hl:=by exact KW _ _ _) (h:=?_));refine oP (KO (v:=.int .i64 ((2101:Nat):Int)) rfl) ?_;refine KC (KM ?_);refine ⟨[_,_],.cons ⟨_,_,_,rfl,mM,by exact KD u47 rfl sz_47⟩ (.cons rfl .nil),fun a' w' hr=>⟨?_,hr.fr.below⟩⟩
   subst hX hY
   rw [getV_eq (get_longF hsz hb hl)]
   rfl
  refine KA (oM ?_);refine oD dNb ?_;refine oS (cF rfl en_55 rfl (fun w hw=>c_cOnV true V b f bd hok X Y false w (mC hw) (mC hw) (mC hw) hXw hYw hl) ?_);refine oA (KC (KB (KB (KA (oM ?_)))));refine oP (KK (KAK rfl) (show _ = Value.bool false from rfl)) ?_;refine KC ?_;refine KH rfl ?_;refine KN (KB (KA ?_));refine oD dNb ?_;refine LOps.step rfl (sA rfl rfl sz_47 (by exact KAD _ _ _) (hl:=by exact KW _ _ _) (h:=?_));refine oP (KO (v:=.int .i64 ((0:Nat):Int)) rfl) ?_;refine KC (KM ?_);refine ⟨[_,_],.cons ⟨_,_,_,rfl,mM,by exact KD u47 rfl sz_47⟩ (.cons rfl .nil),fun a' w' hr=>⟨?_,hr.fr.below⟩⟩
  subst hX hY
  rw [getV_eq (get_long hsz hb hl)]
  unfold getX getY
  rfl
theorem nby_posV {V:Cv} (hok:V.Ok):1≤nby V.p:=by
  have hb:=hok.bounds
  have:=lt_blen V.p
  unfold nby
  rcases Nat.eq_zero_or_pos (blen V.p) with h|h
  · rw [h] at this; omega
  · omega
theorem getX_w9 {V:Cv} (hnb:nby V.p≤72) {s:ByteArray} (h:1+nby V.p≤s.size):getX V s<W9:=beVal_w9 (by show (s.extract 1 (1+nby V.p)).size≤72; rw [ext_size _ _ _ h]; omega)
theorem getY_w9 {V:Cv} (hnb:nby V.p≤72) {s:ByteArray} (h:s.size = 1+2*nby V.p):getY V s<W9:=beVal_w9 (by show (s.extract (1+nby V.p) s.size).size≤72; rw [ext_size _ _ _ (Nat.le_refl _)]; omega)
theorem nbp_72 {V:Cv} (hok:V.Ok):nby V.p≤72:=by have:=KAQ (KAE hok.bounds.2.1); (unfold nby; omega)
theorem c_s_Get (id:Int) (V:Cv) (s:ByteArray) (w:World) (h:cvI id = some V) (hs:s.size<9223372036854775808):Calls Tryz.prog 29 ([.int .i64 id,.string s]:List Value).toArray w (fun e w'=>e = .returned (getV V s)∧Below w.heap.size w w'):=by
  obtain ⟨hok,-⟩:=cvI_ok h
  have hnb:=nbp_72 hok
  have hk1:=nby_posV hok
  by_cases h0:s.size = 0
  · have e : s = ⟨#[]⟩ := by
      obtain ⟨d⟩:=s
      have h1:d.size = 0:=h0
      rw [Array.size_eq_zero_iff.1 h1]
    rw [getV_eq (get_form om om),e]
    exact c_s_Get_emp id V w h
  · by_cases h2:b0 s = 2
    · by_cases h1:s.size = 1+nby V.p
      · have hx:beVal (s.extract 1 s.size).data.toList = getX V s:=by unfold getX; rw [← h1]
        exact c_s_Get_s0 id V s (getX V s) (liftT V (getX V s) 0).1 (liftT V (getX V s) 0).2.1 (liftT V (getX V s) 0).2.2 w h h1 h2 hx (getX_w9 hnb om) rfl
      · rw [getV_eq (get_form om om)]
        exact c_s_Get_f2 id V s w h h0 hs h2 h1
    · by_cases h3:b0 s = 3
      · by_cases h1:s.size = 1+nby V.p
        · have hx:beVal (s.extract 1 s.size).data.toList = getX V s:=by unfold getX; rw [← h1]
          exact c_s_Get_s1 id V s (getX V s) (liftT V (getX V s) 1).1 (liftT V (getX V s) 1).2.1 (liftT V (getX V s) 1).2.2 w h h1 h3 hx (getX_w9 hnb om) rfl
        · rw [getV_eq (get_form om om)]
          exact c_s_Get_f3 id V s w h h0 hs h3 h1
      · by_cases h4:b0 s = 4
        · by_cases h1:s.size = 1+2*nby V.p
          · exact c_s_Get_l id V s (getX V s) (getY V s) _ w h h1 h4 rfl rfl (getX_w9 hnb om) (getY_w9 hnb h1) rfl
          · rw [getV_eq (get_form om om)]
            exact c_s_Get_f4 id V s w h h0 hs h4 h1
        · rw [getV_eq (get_form om om)]
          exact c_s_Get_fo id V s w h h0 hs h2 h3 h4
end Go.Proofs.YtnpeokiboiclfaaGreat
set_option linter.unusedVariables false
set_option linter.unusedSimpArgs false
set_option maxRecDepth 20000
namespace Go.Proofs.YtnpeokiboiclfaaGreat
open Go Go.RowKit
theorem Rel.setOwn {C : Ctx} {st : St} {a : Act} {w w' : World} (h : Rel C st a w) {x x' : Item} {R : List Item} (hp : Pick x st.H R) (hx : x.wr = true) (hx' : x'.holds w')
    (hnew:∀ k,k∈x'.fp→w.heap.size≤k∨k∈x.fp) (hf:Fr (fun k=>k∈x.fp) w w'):Rel C ⟨st.T,x' :: R⟩ a w':=by
  have hpm:=hp.perm
  have hdist:(x :: R).Pairwise Apart:=(hpm.pairwise_iff (fun h=>Apart.symm h)).1 h.dist
  obtain ⟨hXR,hR⟩:=List.pairwise_cons.1 hdist
  have inR:∀ y,y∈R→y∈st.H:=fun y hy=>hpm.mem_iff.2 (.tail _ hy)
  have inX:x∈st.H:=hpm.mem_iff.2 (.head _)
  refine ⟨h.size,h.defers,h.tm,fun y hy=>?_,fun y hy hw k hk=>?_,?_,?_⟩
  · rcases List.mem_cons.1 hy with rfl|hy
    · exact hx'
    · have hold:=h.hp y (inR y hy)
      exact Item.holds_agree hold (fun k hk=>hf.block k (Item.lt hold k hk) (fun hkx=>hXR y hy (.inl hx) k hkx hk)) hf.size
  · rcases List.mem_cons.1 hy with rfl|hy
    · rcases hnew k hk with h1|h1
      · exact .inl (Nat.le_trans h.fr.size h1)
      · exact h.own x inX hx k h1
    · exact h.own y (inR y hy) hw k hk
  · refine List.pairwise_cons.2 ⟨fun y hy _ k hk hk'=>?_,hR⟩
    rcases hnew k hk with h1|h1
    · have:=Item.lt (h.hp y (inR y hy)) k hk'
      omega
    · exact hXR y hy (.inl hx) k h1 hk'
  · refine ⟨hf.os.trans h.fr.os,hf.tape.trans h.fr.tape,hf.output.trans h.fr.output,Nat.le_trans h.fr.size hf.size,fun k hk1 hk2=>?_⟩
    refine (hf.block k (Nat.lt_of_lt_of_le hk1 h.fr.size) (fun hkx=>?_)).trans (h.fr.block k hk1 hk2)
    rcases h.own x inX hx k hkx with h1|h1
    · omega
    · exact hk2 h1
abbrev TrRow:=Option (Nat×Nat×List Value)
def trV (b:Option Nat):Value:=.pointer (b.map fun b=>⟨b,0,none⟩)
def evsL (l:List Nat):List Value:=l.flatMap fun k=>[.int .i64 ((2:Nat):Int),.int .i64 ((k:Nat):Int)]
theorem evsL_length (l:List Nat):(evsL l).length = l.length*2:=by
  induction l with
  | nil=>rfl
  | cons k l ih =>
    show ([Value.int .i64 ((2:Nat):Int),.int .i64 ((k:Nat):Int)]++evsL l).length = _
    rw [List.length_append,ih,List.length_cons]; show 2+l.length*2 = (l.length+1)*2; omega
theorem evsL_snoc (l:List Nat) (k:Nat):evsL (l++[k]) = evsL l++[.int .i64 ((2:Nat):Int),.int .i64 ((k:Nat):Int)]:=by simp [evsL]
def trSl (r:TrRow) (n:Nat):Value:=match r with
  | none=>.slice none 0 0
  | some r=>.slice (some ⟨r.1,0,none⟩) n r.2.1
def trFp (b:Option Nat) (r:TrRow):List Nat:=match b with
  | none=>[]
  | some b=>match r with
    | none=>[b]
    | some r=>[b,r.1]
def trP (b:Option Nat) (r:TrRow) (l:List Nat) (w:World):Prop:=match b with
  | none=>True
  | some b=>w.heap[b]? = some (.cells [trSl r l.length].toArray 224 (0,0))∧match r with
    | none=>l = []
    | some r=>w.heap[r.1]? = some (.cells (evsL l++r.2.2).toArray 313 (0,0))∧(evsL l).length+r.2.2.length = r.2.1*2∧r.1≠b
def trI (b:Option Nat) (r:TrRow) (l:List Nat):Item:=.own (trFp b r) (trP b r l)
theorem trI_P {b:Option Nat} {r:TrRow} {l:List Nat} {w:World} (h:(trI b r l).holds w):trP b r l w:=h.2 w (Agree.refl _ _)
theorem trI_of {b:Option Nat} {r:TrRow} {l:List Nat} {w:World} (h:trP b r l w):(trI b r l).holds w:=by
  rcases b with _|b
  · exact ⟨fun k hk=>(by cases hk),fun _ _=>trivial⟩
  · rcases r with _|r
    · obtain ⟨h1,h2⟩:=h
      refine ⟨fun k hk=>?_,fun w' ha=>⟨(ha b (.head _)).trans h1,h2⟩⟩
      have:k = b:=by simpa [trFp] using hk
      subst this; exact lt_of_get h1
    · obtain ⟨h1,h2,h3,h4⟩:=h
      refine ⟨fun k hk=>?_,fun w' ha=>⟨(ha b (.head _)).trans h1,(ha r.1 (.tail _ (.head _))).trans h2,h3,h4⟩⟩
      have:k = b∨k = r.1:=by simpa [trFp] using hk
      rcases this with rfl|rfl
      · exact lt_of_get h1
      · exact lt_of_get h2
theorem trI_nil (l:List Nat) (w:World):(trI none none l).holds w:=trI_of trivial
def Out (b:Option Nat) (r:TrRow) (x:Item):Prop:=∀ k,k∈trFp b r→k ∉ x.fp
theorem Out.nil (r:TrRow) (x:Item):Out none r x:=fun k hk=>by cases hk
def Outs (b:Option Nat) (r:TrRow):List Item→Prop
  | []=>True
  | x :: t=>Out b r x∧Outs b r t
theorem Outs.mem {b:Option Nat} {r:TrRow} {H:List Item} (h:Outs b r H):∀ x,x∈H→Out b r x:=by
  induction H with
  | nil=>intro x hx; cases hx
  | cons y t ih =>
    intro x hx
    rcases List.mem_cons.1 hx with rfl|hx
    · exact h.1
    · exact ih h.2 x hx
def TrR (w:World) (b:Option Nat) (r:TrRow) (l:List Nat) (v:Value) (e:Ending) (w':World):Prop :=
  ∃ r',e = .returned v∧(trI b r' l).holds w'∧(∀ k,k∈trFp b r'→w.heap.size≤k∨k∈trFp b r)∧Fr (fun k=>k∈trFp b r) w w'
theorem TrR.nil {w:World} {r:TrRow} {l:List Nat} {v:Value} {e:Ending} {w':World} (h:TrR w none r l v e w'):e = .returned v∧Below w.heap.size w w':=by
  obtain ⟨_,h1,_,_,h2⟩:=h
  exact ⟨h1,h2.os,h2.tape,h2.output,h2.size,fun k hk=>h2.block k hk (fun hk'=>by cases hk')⟩
theorem TrR.same {w:World} {b:Option Nat} {r:TrRow} {l:List Nat} {v:Value} {e:Ending} {w':World} (h:(trI b r l).holds w) (he:e = .returned v) (hb:Below w.heap.size w w'):TrR w b r l v e w' :=
  ⟨r,he,Item.holds_agree h (fun k hk=>hb.block k (Item.lt h k hk)) hb.size,fun k hk=>.inr hk,hb.os,hb.tape,hb.output,hb.size,fun k hk _=>hb.block k hk⟩
section
variable {P:Program} {C:Ctx} {ty:TypeId} {pos:String} {aft:Array Edge} {d:Nat} {K:St→Prop} {x:Operand} {v:Value}
theorem LStepW.callT {T : List (Nat × Value)} {H R : List Item} {f : FuncId} {xs : List Operand} {vs first : List Value} {ats : Array TypeId} {g : Option (Nat × Bool)} {b : Option Nat} {r : TrRow} {l l' : List Nat} (hf : evT T x = some (.func (.func f) first.toArray #[])) (he : Kf P f) (ha : evL T xs = some vs) (hd : d < C.N)
    (hp:Pick (trI b r l) H R)
    (hc:∀ w,(∀ x,x∈H→x.holds w)→(∀ y,y∈R→Out b r y)→Calls P f (first++vs).toArray w (TrR w b r l' v))
    (h:∀ r',K ⟨(d,v) :: T,trI b r' l' :: R⟩):LStepW P C ⟨some d,.call { callee:=.value x,args:=xs.toArray,argTypes:=ats },ty,pos,aft,g⟩ ⟨T,H⟩ K:=by
  unfold LStepW
  intro a w hr Qr
  obtain ⟨fn,h1,h2,h3⟩:=he
  have hdist:(trI b r l :: R).Pairwise Apart:=(hp.perm.pairwise_iff (fun h=>Apart.symm h)).1 hr.dist
  refine wp_callee (vs:=first++vs) ?_ (hc w hr.hp (fun y hy k hk=>(List.pairwise_cons.1 hdist).1 y hy (.inl rfl) k hk)) ?_
  · have:=hr.evs ha
    simp [execOp,resolve,hr.ev hf,Deferred.ofValue,invoke,run_call h1 h2 h3,this]
  · rintro e' w' ⟨r',rfl,hits,hnew,hfr⟩
    exact ⟨v,rfl,_,h r',(hr.setOwn hp rfl hits hnew hfr).put hd v⟩
end
theorem calls_tr {P : Program} {f : FuncId} {fn : Func} {c : Code} {vs : List Value} {w : World} (b : Option Nat) (r : TrRow) (l : List Nat) (H : List Item) {rs : List ResultVar} {N : Nat} {R : Ending → World → Prop} (hf : P.funcs[f]? = some fn) (hb : fn.body = some c) (hn : fn.ntmps = N) (hs : fn.results = rs.toArray)
    (hlen:vs.length≤N) (h0:(trI b r l).holds w) (hH:Hold w H) (hro:H.all (fun x=>!x.wr) = true) (hne:Outs b r H)
    (h:LCode P ⟨w,fun k=>k∈trFp b r,N⟩ c ⟨argT 0 vs,trI b r l :: H⟩ (LEnd P ⟨w,fun k=>k∈trFp b r,N⟩ rs fun v _ w'=>R (.returned v) w')):Calls P f vs.toArray w R:=by
  have hr:∀ x,x∈H→x.wr = false:=by
    intro x hx
    have:=List.all_eq_true.1 hro x hx
    simpa using this
  refine calls_walk hf hb hn hs hlen ?_ ?_ ?_ h
  · intro x hx
    rcases List.mem_cons.1 hx with rfl|hx
    · exact h0
    · exact hH.mem x hx
  · intro x hx hw k hk
    rcases List.mem_cons.1 hx with rfl|hx
    · exact hk
    · rw [hr x hx] at hw; cases hw
  · exact List.pairwise_cons.2 ⟨fun y hy _ k hk hk'=>hne.mem y hy k hk hk',List.pairwise_of_forall_mem_list (fun x hx y hy hw=>(by rw [hr x hx,hr y hy] at hw; rcases hw with hw|hw <;> cases hw))⟩
theorem Rel.tr {w:World} {b:Option Nat} {r r':TrRow} {l:List Nat} {N:Nat} {st:St} {a:Act} {w':World} {v:Value} (h:Rel ⟨w,fun k=>k∈trFp b r,N⟩ st a w') (hm:trI b r' l∈st.H):TrR w b r l v (.returned v) w' :=
  ⟨r',rfl,h.hp _ hm,fun k hk=>h.own _ hm rfl k hk,h.fr⟩
theorem calls_wM {P : Program} {f : FuncId} {fn : Func} {c : Code} {vs : List Value} {w : World} (X : List Item) (W : Nat → Prop) {rs : List ResultVar} {N : Nat} {R : Ending → World → Prop} (hf : P.funcs[f]? = some fn) (hb : fn.body = some c) (hn : fn.ntmps = N) (hs : fn.results = rs.toArray)
    (hlen:vs.length≤N) (hX:Hold w X) (hd:X.Pairwise Apart) (hW:∀ x,x∈X→x.wr = true→∀ k,k∈x.fp→W k)
    (h:LCode P ⟨w,W,N⟩ c ⟨argT 0 vs,X⟩ (LEnd P ⟨w,W,N⟩ rs fun v _ w'=>R (.returned v) w')):Calls P f vs.toArray w R :=
  calls_walk hf hb hn hs hlen hX.mem hW hd h
theorem apart_two {H:List Item} (h:H.Pairwise Apart) {b c:Nat} {B D:Blk} (hx:Item.blk b B∈H) (hy:Item.blk c D∈H) (hw:B.wr = true) (hne:B.elem≠D.elem):c≠b:=by
  rintro rfl
  have hne':Item.blk c B≠Item.blk c D:=fun e=>by injection e with _ e; exact hne (congrArg Blk.elem e)
  have key:∀ (l:List Item),l.Pairwise Apart→Item.blk c B∈l→Item.blk c D∈l→False:=by
    intro l hl h1 h2
    induction l with
    | nil=>cases h1
    | cons q l ih =>
      obtain ⟨g1,g2⟩:=List.pairwise_cons.1 hl
      rcases List.mem_cons.1 h1 with e1|k1 <;> rcases List.mem_cons.1 h2 with e2|k2
      · exact hne' (e1.trans e2.symm)
      · subst e1; exact g1 (.blk c D) k2 (.inl hw) c (.head _) (.head _)
      · subst e2; exact g1 (.blk c B) k1 (.inr hw) c (.head _) (.head _)
      · exact ih g2 k1 k2
  exact key H h hx hy
section
variable {P:Program} {C:Ctx} {ty:TypeId} {pos:String} {aft:Array Edge} {d:Nat} {K:St→Prop} {x y:Operand} {t e:TypeId}
theorem LStepW.appendSM {s : Nat} {T : List (Nat × Value)} {H H0 : List Item} {b a0 c0 n cap m bytes : Nat} {zv : Value} {xs rest news cs more : List Value} {wr : Bool} {ea : TypeId} {fz : Nat × Nat} {g : Option (Nat × Bool)} (hx : evT T x = some (.slice (some ⟨b, 0, none⟩) n cap)) (hy : evT T y = some (.slice (some ⟨a0, 0, none⟩) m c0))
    (ht:P.underlying t = some (.slice e)) (hi:infOf P e = some (zv,s,bytes)) (hz0:zv.cells.size = s) (hp:Pick (.blk b ⟨true,xs++rest,e,(0,0)⟩) H H0) (hm:Item.blk a0 ⟨wr,cs,ea,fz⟩∈H0) (hcs:cs = news++more) (hxl:xs.length = n*s) (hcl:xs.length+rest.length = cap*s) (hml:news.length = m*s) (ho:AllOne news)
    (hn:(n+m)*bytes≤140737488355328) (hn2:n+m≤1000000000) (hd:d<C.N)
    (h:∀ b' cap' rest',xs.length+news.length+rest'.length = cap'*s→K ⟨(d,.slice (some ⟨b',0,none⟩) (n+m) cap') :: T,.blk b' ⟨true,(xs++news)++rest',e,(0,0)⟩ :: H0⟩):LStepW P C ⟨some d,.call { callee:=.builtin .append,args:=#[x,y],argTypes:=#[t,t] },ty,pos,aft,g⟩ ⟨T,H⟩ K:=by
  unfold LStepW
  intro a w hr Qr
  obtain ⟨i,hi1,hi3,hi2,hi4⟩:=inf_spec hi
  have hpm:=hp.perm
  have hin:Item.blk b ⟨true,xs++rest,e,(0,0)⟩∈H:=hpm.mem_iff.2 (.head _)
  have hb:w.heap[b]? = some (.cells (xs++rest).toArray e (0,0)):=hr.hp _ hin
  have ha:w.heap[a0]? = some (.cells cs.toArray ea fz):=hr.hp _ (hpm.mem_iff.2 (.tail _ hm))
  subst hcs
  have hpos:=hr.own _ hin rfl b (by simp [Item.fp])
  have hdd:(Item.blk b ⟨true,xs++rest,e,(0,0)⟩ :: H0).Pairwise Apart:=(List.Perm.pairwise_iff (fun h=>Apart.symm h) hpm).1 hr.dist
  obtain ⟨hd1,hd2⟩:=List.pairwise_cons.1 hdd
  have hmm:∀ x,x∈H0→x∈H:=fun x hx=>hpm.mem_iff.2 (.tail _ hx)
  have hnews:∀ j u,news[j]? = some u→w.cell? ((⟨a0,0,none⟩:Addr).add j) = some u:=fun j u hj=>by
    have hadd:(⟨a0,0,none⟩:Addr).add j = ⟨a0,0+j,none⟩:=by unfold Addr.add; split <;> simp_all
    rw [hadd,cellOf ha,Nat.zero_add,List.getElem?_append_left (by rcases Nat.lt_or_ge j news.length with h'|h'; exact h'; rw [List.getElem?_eq_none h'] at hj; cases hj)]; exact hj
  have hsel:Rel C ⟨T,H0⟩ a w:=⟨hr.size,hr.defers,hr.tm,fun x hx=>hr.hp x (hmm x hx),fun x hx=>hr.own x (hmm x hx),hd2,hr.fr⟩
  unfold Oper.wp
  by_cases hroom:n+m≤cap
  · have hrr:=run_append_room (P:=P) w t ty e i ht hi1 b n cap (xs++rest).toArray hb ⟨a0,0,none⟩ m c0 news (by rw [hi2]; exact hml) hnews (fun u hu=>by have:=ho u hu; cases u <;> simp_all [one,Value.oneCell']) hroom (by have hs2:=Nat.mul_le_mul_right s hroom; rw [Nat.add_mul] at hs2; simp [hi2]; omega)
    rw [exec_append (hr.ev hx) (hr.ev hy) hrr]
    have e1:((xs++rest).toArray.toList.take (n*i.size)++news++(xs++rest).toArray.toList.drop (n*i.size+news.length)) = (xs++news)++rest.drop (m*s):=by
      rw [hi2,hml,← hxl]
      simp
    rw [e1]
    have hK:=h b cap (rest.drop (m*s)) (by have hs2:=Nat.mul_le_mul_right s hroom; rw [Nat.add_mul] at hs2; simp; omega)
    refine ⟨_,hK,?_⟩
    have hnew:(w.setRow b ((xs++news)++rest.drop (m*s)).toArray).heap[b]? = some (.cells ((xs++news)++rest.drop (m*s)).toArray e (0,0)):=setRow_heap w b _ _ e _ hb
    have hoth:∀ k,k≠b→(w.setRow b ((xs++news)++rest.drop (m*s)).toArray).heap[k]? = w.heap[k]?:=fun k hk=>setRow_other w b k _ hk
    have hr2:Rel C ⟨T,.blk b ⟨true,xs++rest,e,(0,0)⟩ :: H0⟩ a w:=⟨hr.size,hr.defers,hr.tm,fun x hx=>hr.hp x (hpm.mem_iff.2 hx),fun x hx=>hr.own x (hpm.mem_iff.2 hx),hdd,hr.fr⟩
    exact (hr2.setBlk (B':=⟨true,(xs++news)++rest.drop (m*s),e,(0,0)⟩) (SetAt.head _) rfl hnew hoth (by simp [World.setRow]) rfl rfl rfl).put hd _
  · have hrr := run_append_grow (P := P) w t ty e i zv ht hi1 hi3 ⟨b, 0, none⟩ n cap xs (by rw [hi2]; exact hxl) (fun j u hj => by
      have hadd:(⟨b,0,none⟩:Addr).add j = ⟨b,0+j,none⟩:=by unfold Addr.add; split <;> simp_all
      rw [hadd,cellOf hb,Nat.zero_add]
      rcases Nat.lt_or_ge j xs.length with h'|h'
      · rw [List.getElem?_append_left h']; exact hj
      · rw [List.getElem?_eq_none h'] at hj; cases hj) ⟨a0,0,none⟩ m c0 news (by rw [hi2]; exact hml) hnews om om (growslice_fits om (by rw [hi4]; exact hn))
    rw [exec_append (hr.ev hx) (hr.ev hy) hrr]
    have hge:=grownCap_ge w (n+m) cap e
    have hK:=h w.heap.size (grownCap w (n+m) cap e) (Builtin.zeroCells zv.cells (grownCap w (n+m) cap e-(n+m))).toList (by
      have hzz:=size_zeroCells zv.cells (grownCap w (n+m) cap e-(n+m))
      rw [hz0] at hzz
      rw [← Array.length_toList,Nat.sub_mul,Nat.add_mul] at hzz
      have hs2:=Nat.mul_le_mul_right s hge
      rw [Nat.add_mul] at hs2
      omega)
    refine ⟨_,hK,?_⟩
    have hal:=hsel.drew.alloc ((xs++news)++(Builtin.zeroCells zv.cells (grownCap w (n+m) cap e-(n+m))).toList) e
    have hcs:((xs++news)++(Builtin.zeroCells zv.cells (grownCap w (n+m) cap e-(n+m))).toList).toArray = xs.toArray++news.toArray++Builtin.zeroCells zv.cells (grownCap w (n+m) cap e-(n+m)):=by
      apply Array.ext'
      simp
    rw [hcs] at hal
    exact hal.put hd _
theorem LStepW.appendS {s : Nat} {T : List (Nat × Value)} {H H0 : List Item} {b a0 c0 n cap m bytes : Nat} {zv : Value} {xs rest news : List Value} {wr : Bool} {ea : TypeId} {fz : Nat × Nat} {g : Option (Nat × Bool)} (hx : evT T x = some (.slice (some ⟨b, 0, none⟩) n cap)) (hy : evT T y = some (.slice (some ⟨a0, 0, none⟩) m c0))
    (ht:P.underlying t = some (.slice e)) (hi:infOf P e = some (zv,s,bytes)) (hz0:zv.cells.size = s) (hp:Pick (.blk b ⟨true,xs++rest,e,(0,0)⟩) H H0) (hm:Item.blk a0 ⟨wr,news,ea,fz⟩∈H0) (hxl:xs.length = n*s) (hcl:xs.length+rest.length = cap*s) (hml:news.length = m*s) (ho:AllOne news)
    (hn:(n+m)*bytes≤140737488355328) (hn2:n+m≤1000000000) (hd:d<C.N)
    (h:∀ b' cap' rest',xs.length+news.length+rest'.length = cap'*s→K ⟨(d,.slice (some ⟨b',0,none⟩) (n+m) cap') :: T,.blk b' ⟨true,(xs++news)++rest',e,(0,0)⟩ :: H0⟩):LStepW P C ⟨some d,.call { callee:=.builtin .append,args:=#[x,y],argTypes:=#[t,t] },ty,pos,aft,g⟩ ⟨T,H⟩ K :=
  LStepW.appendSM (cs:=news) (more:=[]) hx hy ht hi hz0 hp hm (List.append_nil _).symm hxl hcl hml ho hn hn2 hd h
theorem LStepW.appendNilS {s : Nat} {T : List (Nat × Value)} {H : List Item} {a0 c0 m bytes : Nat} {zv : Value} {news : List Value} {wr : Bool} {ea : TypeId} {fz : Nat × Nat} {g : Option (Nat × Bool)} (hx : evT T x = some (.slice none 0 0)) (hy : evT T y = some (.slice (some ⟨a0, 0, none⟩) m c0))
    (ht:P.underlying t = some (.slice e)) (hi:infOf P e = some (zv,s,bytes)) (hz0:zv.cells.size = s) (hm:Item.blk a0 ⟨wr,news,ea,fz⟩∈H) (hml:news.length = m*s) (h0:0<m)
    (hn:m*bytes≤140737488355328) (hn2:m≤1000000000) (hd:d<C.N)
    (h:∀ b' cap' rest',news.length+rest'.length = cap'*s→K ⟨(d,.slice (some ⟨b',0,none⟩) m cap') :: T,.blk b' ⟨true,news++rest',e,(0,0)⟩ :: H⟩):LStepW P C ⟨some d,.call { callee:=.builtin .append,args:=#[x,y],argTypes:=#[t,t] },ty,pos,aft,g⟩ ⟨T,H⟩ K:=by
  unfold LStepW
  intro a w hr Qr
  obtain ⟨i,hi1,hi3,hi2,hi4⟩:=inf_spec hi
  have ha:w.heap[a0]? = some (.cells news.toArray ea fz):=hr.hp _ hm
  have hnews:∀ j u,news[j]? = some u→w.cell? ((⟨a0,0,none⟩:Addr).add j) = some u:=fun j u hj=>by
    have hadd:(⟨a0,0,none⟩:Addr).add j = ⟨a0,0+j,none⟩:=by unfold Addr.add; split <;> simp_all
    rw [hadd,cellOf ha,Nat.zero_add]; exact hj
  unfold Oper.wp
  have hrr:=run_append_nil (P:=P) w t ty e i zv ht hi1 hi3 ⟨a0,0,none⟩ m c0 news (by rw [hi2]; exact hml) hnews h0 om (by rw [hi4]; omega)
  rw [exec_append (hr.ev hx) (hr.ev hy) hrr]
  have hge:=grownCap_ge w m 0 e
  have hK:=h w.heap.size (grownCap w m 0 e) (Builtin.zeroCells zv.cells (grownCap w m 0 e-m)).toList (by
    have hzz:=size_zeroCells zv.cells (grownCap w m 0 e-m)
    rw [hz0] at hzz
    rw [← Array.length_toList,Nat.sub_mul] at hzz
    have hs2:=Nat.mul_le_mul_right s hge
    omega)
  refine ⟨_,hK,?_⟩
  have hal:=hr.drew.alloc (news++(Builtin.zeroCells zv.cells (grownCap w m 0 e-m)).toList) e
  have hcs:(news++(Builtin.zeroCells zv.cells (grownCap w m 0 e-m)).toList).toArray = news.toArray++Builtin.zeroCells zv.cells (grownCap w m 0 e-m):=by
    apply Array.ext'
    simp
  rw [hcs] at hal
  exact hal.put hd _
end
end Go.Proofs.YtnpeokiboiclfaaGreat
set_option linter.unusedVariables false
set_option linter.unusedSimpArgs false
set_option maxRecDepth 20000
namespace Go.Proofs.YtnpeokiboiclfaaGreat
open Go Go.RowKit
theorem inf_ev:infOf Tryz.prog 313 = some (.agg ([.int .i64 ((0:Nat):Int),.int .i64 ((0:Nat):Int)]:List Value).toArray,2,16):=by kernel_rfl
theorem fill_ev (k:Nat):fillL ((List.range 1).map fun i=>(i*2,2)) [Value.int .i64 ((0:Nat):Int),.int .i64 ((0:Nat):Int)] [(0,.agg ([.int .i64 ((2:Nat):Int),.int .i64 ((k:Nat):Int)]:List Value).toArray)] = some [.int .i64 ((2:Nat):Int),.int .i64 ((k:Nat):Int)]:=fillL_whole rfl rfl
theorem row_ev:((Array.range (1*2)).map fun i=>(Value.agg ([.int .i64 ((0:Nat):Int),.int .i64 ((0:Nat):Int)]:List Value).toArray).cells[i%(Value.agg ([.int .i64 ((0:Nat):Int),.int .i64 ((0:Nat):Int)]:List Value).toArray).cells.size]!) = ([.int .i64 ((0:Nat):Int),.int .i64 ((0:Nat):Int)]:List Value).toArray:=by kernel_rfl
theorem c_trIndex0 (k:Nat) (w:World)  : Calls Tryz.prog 183 ([trV none,.int .i64 ((k:Nat):Int)]:List Value).toArray w (fun e w'=>e = .returned (.int .i64 ((1:Nat):Int))∧Below w.heap.size w w'):=by
  refine KX (N:=18) (rs:=[.tmp 4]) [] Tryz.func183 rfl Tryz.ntmps183 Tryz.results183 (Nb rfl) trivial rfl ?_
  refine KB (KA ?_);refine oP (KO (v:=.int .i64 ((0:Nat):Int)) rfl) ?_;refine KC (KB (KB (KA (oM ?_))));refine oP (KK (KAN u86 rfl rfl) (show _ = Value.bool true from rfl)) ?_;refine KC ?_;refine KT rfl ?_;refine KB (KA ?_);refine oP (KO (v:=.int .i64 ((1:Nat):Int)) rfl) ?_;refine KC (KM ?_);refine ⟨[_],.cons rfl .nil,fun a w' hr=>⟨?_,hr.fr.below⟩⟩
  rfl
theorem c_trIndex1 (b k:Nat) (w:World) (hb:trP (some b) none [] w):Calls Tryz.prog 183 ([trV (some b),.int .i64 ((k:Nat):Int)]:List Value).toArray w (fun e w'=>TrR w (some b) none [k] (.int .i64 ((0:Nat):Int)) e w'):=by
  refine calls_wM (N:=18) (rs:=[.tmp 4]) [.blk b ⟨true,[.slice none 0 0],224,(0,0)⟩] (fun j=>j∈trFp (some b) none) Tryz.func183 rfl Tryz.ntmps183 Tryz.results183 (Nb rfl) ⟨hb.1,trivial⟩ (List.pairwise_singleton _ _) (fun x hx _ j hj=>by
    obtain rfl:x = _:=by simpa using hx
    exact hj) ?_
  refine KB (KA ?_);refine oP (KO (v:=.int .i64 ((0:Nat):Int)) rfl) ?_;refine KC (KB (KB (KA (oM ?_))));refine oP (KK (KAN u86 rfl rfl) (show _ = Value.bool false from rfl)) ?_;refine KC ?_;refine KH rfl ?_;refine KN (KB (KA (oM (oM ?_))));refine oP (KG rfl) ?_;refine oP (KE (o':=0) u224 rfl rfl rfl sz_222 dc) ?_;refine oD (dL rfl (hv:=KJ u222 rfl (by first|rfl|exact KU _ _ _ om|exact KY _ om|exact Kb _ om|exact dv_m _ _ _ om))) ?_;refine oM ?_;refine oP (KK (Kd pl_313 zr_313 rfl rfl) (show _ = Value.agg ([.int .i64 ((2:Nat):Int),.int .i64 ((k:Nat):Int)]:List Value).toArray from rfl)) ?_;refine oS (mk (Makes.row (vs:=[(0,.agg ([.int .i64 ((2:Nat):Int),.int .i64 ((k:Nat):Int)]:List Value).toArray)]) u222 inf_ev dc row_ev rfl (fill_ev k) (fun h=>by cases h)) (fun b14=>?_));refine LOps.step rfl (LStepW.appendNilS (s:=2) (news:=[.int .i64 ((2:Nat):Int),.int .i64 ((k:Nat):Int)]) rfl rfl u222 inf_ev rfl mM rfl dc dc dc (Nb rfl) ?_)
  intro b1 cap1 rest1 hc1
  refine oP (KG rfl) ?_;refine oP (KE (o':=0) u224 rfl rfl rfl sz_222 dc) ?_;refine LOps.step rfl (KZ rfl rfl rfl sz_222 (by repeat (first|exact Sh _|apply St_)) (by first|(simp only [KQ,KI,Kh,Ks]; omega)|(simp; done)|(simp; omega)) (by first|exact KAG _ _ _ _ _|exact KAM _ _ _ _ om|exact KAL _ _ _ _|rfl) (by simp) ?_);refine KC (KB (KA ?_));refine oP (KO (v:=.int .i64 ((0:Nat):Int)) rfl) ?_;refine KC (KM ?_);refine ⟨[_],.cons rfl .nil,fun a w' hr=>?_⟩
  have g1:=hr.hp (Item.blk b ⟨true,[.slice (some ⟨b1,0,none⟩) 1 cap1],224,(0,0)⟩) mM
  have g2:=hr.hp (Item.blk b1 ⟨true,[.int .i64 ((2:Nat):Int),.int .i64 ((k:Nat):Int)]++rest1,313,(0,0)⟩) mM
  have o1:=hr.own (Item.blk b ⟨true,[.slice (some ⟨b1,0,none⟩) 1 cap1],224,(0,0)⟩) mM rfl
  have o2:=hr.own (Item.blk b1 ⟨true,[.int .i64 ((2:Nat):Int),.int .i64 ((k:Nat):Int)]++rest1,313,(0,0)⟩) mM rfl
  have hap:b1≠b:=apart_two hr.dist (b:=b) (B:=⟨true,[.slice (some ⟨b1,0,none⟩) 1 cap1],224,(0,0)⟩) (c:=b1) (D:=⟨true,[.int .i64 ((2:Nat):Int),.int .i64 ((k:Nat):Int)]++rest1,313,(0,0)⟩) mM mM rfl (fun e=>absurd (show (224:Nat) = 313 from e) dc)
  exact ⟨some (b1,cap1,rest1),rfl,trI_of ⟨g1,g2,hc1,hap⟩,fun j hj=>(by
    have hj':j = b∨j = b1:=by simpa [trFp] using hj
    rcases hj' with rfl|rfl
    · exact o1 j (.head _)
    · exact o2 j (.head _)),hr.fr⟩
theorem c_trIndex2 (b r cap:Nat) (rest:List Value) (l:List Nat) (k:Nat) (w:World) (hb:trP (some b) (some (r,cap,rest)) l w) (hl:l.length≤100000000):Calls Tryz.prog 183 ([trV (some b),.int .i64 ((k:Nat):Int)]:List Value).toArray w (fun e w'=>TrR w (some b) (some (r,cap,rest)) (l++[k]) (.int .i64 ((0:Nat):Int)) e w'):=by
  refine calls_wM (N:=18) (rs:=[.tmp 4]) [.blk b ⟨true,[.slice (some ⟨r,0,none⟩) l.length cap],224,(0,0)⟩,.blk r ⟨true,evsL l++rest,313,(0,0)⟩] (fun j=>j∈trFp (some b) (some (r,cap,rest))) Tryz.func183 rfl Tryz.ntmps183 Tryz.results183 (Nb rfl) ⟨hb.1,hb.2.1,trivial⟩ (List.pairwise_cons.2 ⟨fun y hy _ j hj hj'=>by
    obtain rfl:y = _:=by simpa using hy
    obtain rfl:j = b:=by simpa [Item.fp] using hj
    exact hb.2.2.2 (by simpa [Item.fp] using hj':j = r).symm,List.pairwise_singleton _ _⟩) (fun x hx _ j hj=>by
    rcases List.mem_cons.1 hx with rfl|hx
    · obtain rfl:j = b:=by simpa [Item.fp] using hj
      exact .head _
    · obtain rfl:x = _:=by simpa using hx
      obtain rfl:j = r:=by simpa [Item.fp] using hj
      exact .tail _ (.head _)) ?_
  refine KB (KA ?_);refine oP (KO (v:=.int .i64 ((0:Nat):Int)) rfl) ?_;refine KC (KB (KB (KA (oM ?_))));refine oP (KK (KAN u86 rfl rfl) (show _ = Value.bool false from rfl)) ?_;refine KC ?_;refine KH rfl ?_;refine KN (KB (KA (oM (oM ?_))));refine oP (KG rfl) ?_;refine oP (KE (o':=0) u224 rfl rfl rfl sz_222 dc) ?_;refine oD (dL rfl (hv:=KJ u222 rfl (by first|rfl|exact KU _ _ _ om|exact KY _ om|exact Kb _ om|exact dv_m _ _ _ om))) ?_;refine oM ?_;refine oP (KK (Kd pl_313 zr_313 rfl rfl) (show _ = Value.agg ([.int .i64 ((2:Nat):Int),.int .i64 ((k:Nat):Int)]:List Value).toArray from rfl)) ?_;refine oS (mk (Makes.row (vs:=[(0,.agg ([.int .i64 ((2:Nat):Int),.int .i64 ((k:Nat):Int)]:List Value).toArray)]) u222 inf_ev dc row_ev rfl (fill_ev k) (fun h=>by cases h)) (fun b14=>?_));refine LOps.step rfl (LStepW.appendS (s:=2) (m:=1) (xs:=evsL l) (rest:=rest) (news:=[.int .i64 ((2:Nat):Int),.int .i64 ((k:Nat):Int)]) rfl rfl u222 inf_ev rfl mP mM (evsL_length l) (by have:=hb.2.2.1; exact this) rfl (Kl rfl (Kl rfl Kq)) om om (Nb rfl) ?_)
  intro b1 cap1 rest1 hc1
  refine oP (KG rfl) ?_;refine oP (KE (o':=0) u224 rfl rfl rfl sz_222 dc) ?_;refine LOps.step rfl (KZ rfl rfl rfl sz_222 (by repeat (first|exact Sh _|apply St_)) (by first|(simp only [KQ,KI,Kh,Ks]; omega)|(simp; done)|(simp; omega)) (by first|exact KAG _ _ _ _ _|exact KAM _ _ _ _ om|exact KAL _ _ _ _|rfl) (by simp) ?_);refine KC (KB (KA ?_));refine oP (KO (v:=.int .i64 ((0:Nat):Int)) rfl) ?_;refine KC (KM ?_)
  have hc2:(evsL (l++[k])).length+rest1.length = cap1*2:=by rw [evsL_snoc,List.length_append]; exact hc1
  have hsl:(l++[k]).length = l.length+1:=by simp
  refine ⟨[_],.cons rfl .nil,fun a w' hr=>?_⟩
  have g1:=hr.hp (Item.blk b ⟨true,[.slice (some ⟨b1,0,none⟩) (l.length+1) cap1],224,(0,0)⟩) mM
  have g2:=hr.hp (Item.blk b1 ⟨true,(evsL l++[.int .i64 ((2:Nat):Int),.int .i64 ((k:Nat):Int)])++rest1,313,(0,0)⟩) mM
  have o1:=hr.own (Item.blk b ⟨true,[.slice (some ⟨b1,0,none⟩) (l.length+1) cap1],224,(0,0)⟩) mM rfl
  have o2:=hr.own (Item.blk b1 ⟨true,(evsL l++[.int .i64 ((2:Nat):Int),.int .i64 ((k:Nat):Int)])++rest1,313,(0,0)⟩) mM rfl
  have hap:b1≠b:=apart_two hr.dist (b:=b) (B:=⟨true,[.slice (some ⟨b1,0,none⟩) (l.length+1) cap1],224,(0,0)⟩) (c:=b1) (D:=⟨true,(evsL l++[.int .i64 ((2:Nat):Int),.int .i64 ((k:Nat):Int)])++rest1,313,(0,0)⟩) mM mM rfl (fun e=>absurd (show (224:Nat) = 313 from e) dc)
  rw [← evsL_snoc] at g2
  rw [← hsl] at g1
  exact ⟨some (b1,cap1,rest1),rfl,trI_of ⟨g1,g2,hc2,hap⟩,fun j hj=>(by
    have hj':j = b∨j = b1:=by simpa [trFp] using hj
    rcases hj' with rfl|rfl
    · exact o1 j (.head _)
    · exact o2 j (.head _)),hr.fr⟩
def trE (b:Option Nat):Int:=match b with
  | none=>1
  | some _=>0
theorem c_trIndex (b:Option Nat) (r:TrRow) (l:List Nat) (k:Nat) (w:World) (h:(trI b r l).holds w) (hl:l.length≤100000000):Calls Tryz.prog 183 ([trV b,.int .i64 ((k:Nat):Int)]:List Value).toArray w (TrR w b r (l++[k]) (.int .i64 (trE b))):=by
  rcases b with _|b
  · exact (c_trIndex0 k w).mono fun e w' ⟨h1,h2⟩=>TrR.same (trI_of trivial) h1 h2
  · have hp:=trI_P h
    rcases r with _|⟨r,cap,rest⟩
    · obtain rfl:=hp.2
      exact c_trIndex1 b k w hp
    · exact c_trIndex2 b r cap rest l k w hp hl
theorem neg64 {x:Nat} (h0:x≠0) (hx:x<18446744073709551616):Value.int .u64 (IntKind.u64.wrap (0-(x:Int))) = .int .u64 ((18446744073709551616-x:Nat):Int):=by
  rw [wrap_u64,show (0-(x:Int))%18446744073709551616 = ((18446744073709551616-x:Nat):Int) by omega]
theorem cpl64 {y:Nat} (hy:y<18446744073709551616):Value.int .u64 (IntKind.u64.wrap (BitVec.ofInt IntKind.u64.bits IntKind.u64.max ^^^ BitVec.ofInt IntKind.u64.bits (y:Int)).toNat) = .int .u64 ((18446744073709551615-y:Nat):Int):=by
  have e3:(BitVec.ofInt IntKind.u64.bits IntKind.u64.max ^^^ BitVec.ofInt IntKind.u64.bits (y:Int)).toNat = 18446744073709551615-y:=by
    show (BitVec.ofInt 64 18446744073709551615 ^^^ BitVec.ofInt 64 (y:Int)).toNat = _
    rw [show BitVec.ofInt 64 18446744073709551615 = BitVec.allOnes 64 by decide,BitVec.ofInt_natCast,BitVec.allOnes_xor,BitVec.toNat_not,BitVec.toNat_ofNat,Nat.mod_eq_of_lt (show y<2^64 from hy)]
  rw [e3,KAP,Nat.mod_eq_of_lt om]
theorem or_top {x:Nat} (h0:x≠0) (hx:x<18446744073709551616):9223372036854775808≤x ||| (18446744073709551616-x):=by
  have h1:=(Nat.left_le_or:x≤x ||| (18446744073709551616-x))
  have h2:=(Nat.right_le_or:18446744073709551616-x≤x ||| (18446744073709551616-x))
  omega
theorem xor_zero {a b:Nat}:a ^^^ b = 0↔a = b:=by
  constructor
  · intro h
    have:=congrArg (· ^^^ b) h
    simpa [Nat.xor_assoc] using this
  · rintro rfl; exact Nat.xor_self _
theorem c_spread (b:Nat) (w:World) (hb:b≤1):Calls Tryz.prog 224 ([.int .u64 ((b:Nat):Int)]:List Value).toArray w (fun e w'=>e = .returned (.int .u64 ((if b = 0 then 0 else 18446744073709551615:Nat):Int))∧Below w.heap.size w w'):=by
  refine KX (N:=6) (rs:=[.tmp 2]) [] Tryz.func224 rfl Tryz.ntmps224 Tryz.results224 (Nb rfl) trivial rfl ?_
  refine KB (KA ?_);refine oP (KO (v:=.int .u64 ((0:Nat):Int)) rfl) ?_;refine KC (KB ?_)
  rcases (show b = 0∨b = 1 by omega) with rfl|rfl
  ·
   refine KA (oM ?_);refine oP (KF rfl rfl (br_and64 (b:=1) dc dc)) ?_;refine oP (Det.neg rfl) ?_;refine oA (KC (KM ?_));refine ⟨[_],.cons rfl .nil,fun a w' hr=>⟨?_,hr.fr.below⟩⟩
   rfl
  refine KA (oM ?_);refine oP (KF rfl rfl (br_and64 (b:=1) dc dc)) ?_;refine oP (Det.neg rfl) ?_;refine oA (KC (KM ?_));refine ⟨[_],.cons rfl .nil,fun a w' hr=>⟨?_,hr.fr.below⟩⟩
  rfl
theorem c_mZero (x:Nat) (w:World) (hx:x<18446744073709551616):Calls Tryz.prog 207 ([.int .u64 ((x:Nat):Int)]:List Value).toArray w (fun e w'=>e = .returned (.int .u64 ((if x = 0 then 18446744073709551615 else 0:Nat):Int))∧Below w.heap.size w w'):=by
  refine KX (N:=10) (rs:=[.tmp 2]) [] Tryz.func207 rfl Tryz.ntmps207 Tryz.results207 (Nb rfl) trivial rfl ?_
  refine KB (KA ?_);refine oP (KO (v:=.int .u64 ((0:Nat):Int)) rfl) ?_;refine KC (KB ?_)
  by_cases h0:x = 0
  ·
   subst h0
   refine KA (oM (oM ?_));refine oP (Det.neg rfl) ?_;refine oP (KF rfl rfl (br_or64 (b:=0) dc dc)) ?_;refine oP (Det.cpl rfl rfl) ?_;refine oP (KF (v:=.int .u64 ((1:Nat):Int)) rfl rfl (by kernel_rfl)) ?_;refine oS (cF rfl en_224 rfl (fun w hw=>c_spread 1 w dc) ?_);refine oA (KC (KM ?_));refine ⟨[_],.cons rfl .nil,fun a w' hr=>⟨rfl,hr.fr.below⟩⟩
  have ht:=or_top h0 hx
  have hlt:x ||| (18446744073709551616-x)<18446744073709551616:=Nat.or_lt_two_pow (n:=64) hx om
  refine KA (oM (oM ?_));refine oP (KK (Det.neg rfl) (neg64 h0 hx)) ?_;refine oP (KF rfl rfl (br_or64 hx om)) ?_;refine oP (KK (Det.cpl rfl rfl) (cpl64 hlt)) ?_;refine oP (KK (KF rfl rfl (br_shr64 (b:=63) om)) (vi (b:=0) (Nat.div_eq_of_lt om))) ?_;refine oS (cF rfl en_224 rfl (fun w hw=>c_spread 0 w dc) ?_);refine oA (KC (KM ?_));refine ⟨[_],.cons rfl .nil,fun a w' hr=>⟨?_,hr.fr.below⟩⟩
  rw [if_neg h0]
  rfl
theorem c_mEqual (a b:Nat) (w:World) (ha:a<18446744073709551616) (hb:b<18446744073709551616):Calls Tryz.prog 184 ([.int .u64 ((a:Nat):Int),.int .u64 ((b:Nat):Int)]:List Value).toArray w (fun e w'=>e = .returned (.int .u64 ((if a = b then 18446744073709551615 else 0:Nat):Int))∧Below w.heap.size w w'):=by
  refine KX (N:=9) (rs:=[.tmp 4]) [] Tryz.func184 rfl Tryz.ntmps184 Tryz.results184 (Nb rfl) trivial rfl ?_
  refine KB (KA ?_);refine oP (KO (v:=.int .u64 ((0:Nat):Int)) rfl) ?_;refine KC (KB (KA (oM (oM ?_))));refine oP (KF rfl rfl (br_xor64 ha hb)) ?_;refine oS (cF rfl en_207 rfl (fun w hw=>c_mZero (a ^^^ b) w (Nat.xor_lt_two_pow (n:=64) ha hb)) ?_);refine oA (KC (KM ?_));refine ⟨[_],.cons rfl .nil,fun a_ w' hr=>⟨?_,hr.fr.below⟩⟩
  show Ending.returned (.int .u64 ((if a ^^^ b = 0 then 18446744073709551615 else 0:Nat):Int)) = _
  by_cases h:a = b
  · rw [if_pos h,if_pos (xor_zero.2 h)]
  · rw [if_neg h,if_neg (fun e=>h (xor_zero.1 e))]
theorem andNot_0 {b:Nat} (hb:b<18446744073709551616):Kt .andNot .u64 (b:Int) .u64 ((0:Nat):Int) = some (.int .u64 (b:Int)):=by
  simp only [Kt,if_true]
  have e:(BitVec.ofInt 64 (b:Int) &&& ~~~BitVec.ofInt 64 0).toNat = b:=by
    rw [show ~~~BitVec.ofInt 64 0 = BitVec.allOnes 64 by decide,BitVec.and_allOnes,BitVec.ofInt_natCast,BitVec.toNat_ofNat,Nat.mod_eq_of_lt (show b<2^64 from hb)]
  show some (Value.int .u64 (IntKind.u64.wrap ((BitVec.ofInt 64 (b:Int) &&& ~~~BitVec.ofInt 64 0).toNat:Int))) = _
  rw [e,KAP,Nat.mod_eq_of_lt hb]
theorem andNot_m {b:Nat}:Kt .andNot .u64 (b:Int) .u64 ((18446744073709551615:Nat):Int) = some (.int .u64 ((0:Nat):Int)):=by
  simp only [Kt,if_true]
  have e:(BitVec.ofInt 64 (b:Int) &&& ~~~BitVec.ofInt 64 18446744073709551615).toNat = 0:=by
    rw [show ~~~BitVec.ofInt 64 18446744073709551615 = 0#64 by decide,BitVec.and_zero]; rfl
  show some (Value.int .u64 (IntKind.u64.wrap ((BitVec.ofInt 64 (b:Int) &&& ~~~BitVec.ofInt 64 18446744073709551615).toNat:Int))) = _
  rw [e]; rfl
theorem and_max {a:Nat} (ha:a<18446744073709551616):a &&& 18446744073709551615 = a:=by
  rw [show 18446744073709551615 = 2^64-1 from rfl,Nat.and_two_pow_sub_one_eq_mod]
  exact Nat.mod_eq_of_lt ha
theorem c_word (m a b:Nat) (w:World) (hm:m = 0∨m = 18446744073709551615) (ha:a<18446744073709551616) (hb:b<18446744073709551616):Calls Tryz.prog 209 ([.agg ([.int .u64 ((m:Nat):Int)]:List Value).toArray,.int .u64 ((a:Nat):Int),.int .u64 ((b:Nat):Int)]:List Value).toArray w (fun e w'=>e = .returned (.int .u64 ((if m = 0 then b else a:Nat):Int))∧Below w.heap.size w w'):=by
  refine KX (N:=16) (rs:=[.tmp 6]) [] Tryz.func209 rfl Tryz.ntmps209 Tryz.results209 (Nb rfl) trivial rfl ?_
  refine KB (KA ?_);refine oS (mB (fun b3=>?_));refine oP (KO (v:=.int .u64 ((0:Nat):Int)) rfl) ?_;refine KC (KB ?_)
  rcases hm with rfl|rfl
  ·
   refine KA (oM ?_);refine oP (KE (o':=0) u317 rfl rfl rfl sz_30 dc) ?_;refine oD (dL rfl (hv:=KJ u30 rfl (by first|rfl|exact KU _ _ _ om|exact KY _ om|exact Kb _ om|exact dv_m _ _ _ om))) ?_;refine oP (KK (KF rfl rfl (br_and64 (b:=0) ha dc)) (vi (b:=0) (Nat.and_zero _))) ?_;refine oM ?_;refine oP (KE (o':=0) u317 rfl rfl rfl sz_30 dc) ?_;refine oD (dL rfl (hv:=KJ u30 rfl (by first|rfl|exact KU _ _ _ om|exact KY _ om|exact Kb _ om|exact dv_m _ _ _ om))) ?_;refine oP (KF rfl rfl (andNot_0 hb)) ?_;refine oP (KK (KF rfl rfl (br_or64 (a:=0) dc hb)) (vi (b:=b) (Nat.zero_or _))) ?_;refine oA (KC (KM ?_));refine ⟨[_],.cons rfl .nil,fun a w' hr=>⟨?_,hr.fr.below⟩⟩
   rfl
  refine KA (oM ?_);refine oP (KE (o':=0) u317 rfl rfl rfl sz_30 dc) ?_;refine oD (dL rfl (hv:=KJ u30 rfl (by first|rfl|exact KU _ _ _ om|exact KY _ om|exact Kb _ om|exact dv_m _ _ _ om))) ?_;refine oP (KK (KF rfl rfl (br_and64 (b:=18446744073709551615) ha dc)) (vi (b:=a) (and_max ha))) ?_;refine oM ?_;refine oP (KE (o':=0) u317 rfl rfl rfl sz_30 dc) ?_;refine oD (dL rfl (hv:=KJ u30 rfl (by first|rfl|exact KU _ _ _ om|exact KY _ om|exact Kb _ om|exact dv_m _ _ _ om))) ?_;refine oP (KF rfl rfl andNot_m) ?_;refine oP (KK (KF rfl rfl (br_or64 (b:=0) ha dc)) (vi (b:=a) (Nat.or_zero _))) ?_;refine oA (KC (KM ?_));refine ⟨[_],.cons rfl .nil,fun a w' hr=>⟨?_,hr.fr.below⟩⟩
  rfl
theorem c_wordL (m A B R x:Nat) (w:World) (hm:m = 0∨m = 18446744073709551615) (hR:R = if m = 0 then B else A):Calls Tryz.prog 209 ([.agg ([.int .u64 ((m:Nat):Int)]:List Value).toArray,.int .u64 ((limb A x:Nat):Int),.int .u64 ((limb B x:Nat):Int)]:List Value).toArray w (fun e w'=>e = .returned (.int .u64 ((limb R x:Nat):Int))∧Below w.heap.size w w'):=by
  have h:=c_word m (limb A x) (limb B x) w hm (limb_lt _ _) (limb_lt _ _)
  rw [show limb R x = if m = 0 then limb B x else limb A x by rw [hR]; split <;> rfl]
  exact h
theorem mix_get {R A x:Nat} (h:x<9):(vec .u64 9 (fun k=>if k<x then limb R k else limb A k))[x]? = some (.int .u64 ((limb A x:Nat):Int)):=by
  rw [KU _ _ _ h,if_neg (Nat.lt_irrefl x)]
theorem mix_step (R A x:Nat):vec .u64 9 (fun j=>if j = x then limb R x else (if j<x then limb R j else limb A j)) = vec .u64 9 (fun k=>if k<x+1 then limb R k else limb A k):=Kr fun k _=>by
  by_cases e:k = x
  · subst e; rw [if_pos rfl,if_pos (Nat.lt_succ_self _)]
  · rw [if_neg e]
    by_cases l:k<x
    · rw [if_pos l,if_pos om]
    · rw [if_neg l,if_neg om]
theorem c_mNat (m A B R:Nat) (w:World) (hm:m = 0∨m = 18446744073709551615) (hR:R = if m = 0 then B else A):Calls Tryz.prog 208 ([.func (.func 209) #[.agg ([.int .u64 ((m:Nat):Int)]:List Value).toArray] #[],natV A,natV B]:List Value).toArray w (fun e w'=>e = .returned (natV R)∧Below w.heap.size w w'):=by
  refine KX (N:=26) (rs:=[.cell 6 33]) [] Tryz.func208 rfl Tryz.ntmps208 Tryz.results208 (Nb rfl) trivial rfl ?_
  refine KB (KA ?_);refine oS (mB (fun b4=>?_));refine oS (mB (fun b5=>?_));refine oS (mk (KL zr_33) (fun b6=>?_));refine KC (KB (KB (KA ?_)));refine oP (Ki (v:=.int .i64 ((0:Nat):Int)) rfl) ?_;refine KC (LCode.block ?_);refine Ke (α:=Nat) (fun x=>x≤9) (fun x=>⟨[(0,.func (.func 209) #[.agg ([.int .u64 ((m:Nat):Int)]:List Value).toArray] #[]),(4,.pointer (some ⟨b4,0,none⟩)),(5,.pointer (some ⟨b5,0,none⟩)),(6,.pointer (some ⟨b6,0,none⟩)),(8,.int .i64 ((x:Nat):Int))],[.blk b6 ⟨true,vec .u64 9 (fun _=>0),33,(0,0)⟩,.blk b5 ⟨true,natL B,33,(0,0)⟩,.blk b4 ⟨true,vec .u64 9 (fun k=>if k<x then limb R k else limb A k),33,(0,0)⟩]⟩) (fun x=>9-x) (0) (Nat.zero_le _) (KAC (Sub.cells (b:=b4) (cs':=vec .u64 9 (fun k=>if k<0 then limb R k else limb A k)) (by repeat (first|exact Sh _|apply St_)) (Kr fun k _=>(if_neg (Nat.not_lt_zero k)).symm)) (Ka ⟨rfl,rfl,rfl,rfl,rfl,trivial⟩ mS)) ?_
  intro x hx
  refine KB (KA ?_);refine oP (KF rfl rfl (KAF (b:=9))) ?_;refine KC (KB ?_)
  first|refine KR rfl (fun h9=>?_) (fun h9=>?_)|refine KS rfl (fun h9=>?_) (fun h9=>?_)
  ·
   have h9:x<9:=h9
   refine KN (KB (LCode.block (KB (KA (oM (oA (KC ?_)))))));refine rD [13] ?_;refine aM 0 ?_;refine aM 1 ?_;refine aM 2 ?_;refine aP 3 rfl (KE (o':=0) u33 rfl rfl rfl sz_31 dc) ?_;refine aP 4 rfl (KP u31 sz_30 rfl rfl om) ?_;refine aD 5 rfl (dL rfl (hv:=KJ u30 rfl (by exact mix_get om))) ?_;refine aM 6 ?_;refine aP 7 rfl (KE (o':=0) u33 rfl rfl rfl sz_31 dc) ?_;refine aP 8 rfl (KP u31 sz_30 rfl rfl om) ?_;refine aD 9 rfl (dL rfl (hv:=KJ u30 rfl (by first|rfl|exact KU _ _ _ om|exact KY _ om|exact Kb _ om|exact dv_m _ _ _ om))) ?_;refine aP 11 rfl (KE (o':=0) u33 rfl rfl rfl sz_31 dc) ?_;refine aO 10 rfl (Ky (first:=[.agg ([.int .u64 ((m:Nat):Int)]:List Value).toArray]) rfl en_209 rfl (Nb rfl) (fun w hw=>c_wordL m A B R x w hm hR) ?_);refine aP 12 rfl (KP u31 sz_30 rfl rfl om) ?_
   refine aL 13 rfl (KZ rfl rfl rfl sz_30 (by repeat (first|exact Sh _|apply St_)) (by first|(simp only [KQ,KI,Kh,Ks]; omega)|(simp; done)|(simp; omega)) (by first|exact KAG _ _ _ _ _|exact KAM _ _ _ _ om|exact KAL _ _ _ _|rfl) (by simp) ?_);refine aE ?_;refine KA ?_;refine oP (KF rfl rfl (Ko (b:=1) om)) ?_;refine oM (KC ?_);refine ⟨x+1,by omega,by omega,KAC (Sub.cells (b:=b4) (cs':=vec .u64 9 (fun k=>if k<x+1 then limb R k else limb A k)) (by repeat (first|exact Sh _|apply St_)) (mix_step R A x)) (Ka ⟨rfl,rfl,rfl,rfl,rfl,trivial⟩ mS)⟩
  have h9:¬ x<9:=h9
  refine Kc (KB ?_)
  obtain rfl:x = 9:=by omega
  refine LCode.sub (Sub.cells (b:=b4) (cs':=natL R) (by repeat (first|exact Sh _|apply St_)) (Kr fun k hk=>by rw [if_pos hk])) ?_;refine KA ?_;refine oD dNa ?_;refine LOps.step rfl (sA rfl rfl sz_33 mO (hl:=mL) (h:=?_));refine KC (KM ?_);refine ⟨[_],.cons ⟨_,_,_,rfl,mM,by exact KD u33 rfl sz_33⟩ .nil,fun a w' hr=>⟨?_,hr.fr.below⟩⟩
  rfl
theorem c_mSelect (m A B R:Nat) (w:World) (hm:m = 0∨m = 18446744073709551615) (hR:R = if m = 0 then B else A):Calls Tryz.prog 185 ([.int .u64 ((m:Nat):Int),natV A,natV B]:List Value).toArray w (fun e w'=>e = .returned (natV R)∧Below w.heap.size w w'):=by
  refine KX (N:=13) (rs:=[.cell 6 33]) [] Tryz.func185 rfl Tryz.ntmps185 Tryz.results185 (Nb rfl) trivial rfl ?_
  refine KB (KA ?_);refine oS (mB (fun b4=>?_));refine oS (mB (fun b5=>?_));refine oS (mk (KL zr_33) (fun b6=>?_));refine KC (KB (KA (oM ?_)));refine oP (KK (Kd pl_317 zr_317 rfl rfl) (show _ = Value.agg ([.int .u64 ((m:Nat):Int)]:List Value).toArray from rfl)) ?_;refine oP (KAS rfl) ?_;refine oD dNa ?_;refine oD dNa ?_;refine oS (cF rfl en_208 rfl (fun w hw=>c_mNat m A B R w hm hR) ?_);refine LOps.step rfl (sA rfl rfl sz_33 mO (hl:=mL) (h:=?_));refine KC (KM ?_);refine ⟨[_],.cons ⟨_,_,_,rfl,mM,by exact KD u33 rfl sz_33⟩ .nil,fun a w' hr=>⟨?_,hr.fr.below⟩⟩
  rfl
end Go.Proofs.YtnpeokiboiclfaaGreat
set_option linter.unusedVariables false
set_option linter.unusedSimpArgs false
set_option maxRecDepth 20000
namespace Go.Proofs.YtnpeokiboiclfaaGreat
open Go Go.RowKit
open Grp
section
variable {P:Program} {C:Ctx} {d:Nat} {ty:TypeId} {pos:String} {aft:Array Edge} {K:St→Prop} {x:Operand} {v:Value}
theorem LStep.callK {T : List (Nat × Value)} {H : List Item} {f : FuncId} {xs : List Operand} {vs caps : List Value} {ats : Array TypeId} {g : Option (Nat × Bool)} (hf : evT T x = some (.func (.func f) #[] caps.toArray)) (he : Kf P f) (ha : evL T xs = some vs) (hd : d < C.N)
    (hc:∀ w,(∀ x,x∈H→x.holds w)→Calls P f (vs++caps).toArray w (fun e w'=>e = .returned v∧Below w.heap.size w w'))
    (h:K ⟨(d,v) :: T,H⟩):LStep P C ⟨some d,.call { callee:=.value x,args:=xs.toArray,argTypes:=ats },ty,pos,aft,g⟩ ⟨T,H⟩ K:=by
  unfold LStep; intro a w hr Qr
  obtain ⟨fn,h1,h2,h3⟩:=he
  refine wp_callee (vs:=vs++caps) ?_ (hc w hr.hp) ?_
  · have:=hr.evs ha
    simp [execOp,resolve,hr.ev hf,Deferred.ofValue,invoke,run_call h1 h2 h3,this]
  · rintro e w' ⟨rfl,hb⟩
    exact ⟨v,rfl,hb,_,h,(hr.below hb).put hd v⟩
end
theorem c_gmul (V:Cv) (b f bd:Nat) (hok:V.Ok) (K bk:Nat) (hK:K<W9) (P:Pt V.p) (X Y:Nat) (i:Bool) (w:World) (hb:(Item.blk b ⟨false,opL V f,100,(0,0)⟩).holds w) (hf:(Item.blk f ⟨false,fldL V.p bd,165,(0,0)⟩).holds w) (hbd:(Item.blk bd ⟨false,dvL V.p,269,(0,0)⟩).holds w) (hP:On V.A V.B P) (hk:(Item.blk bk ⟨false,natL K,33,(0,0)⟩).holds w):Calls Tryz.prog 64 ([.agg ([.pointer (some ⟨b,0,none⟩)]:List Value).toArray,ptP P,ptV X Y i,.pointer (some ⟨bk,0,none⟩)]:List Value).toArray w (fun e w'=>e = .returned (ptP (pmul V.A P K))∧Below w.heap.size w w'):=by
  have hbb:=hok.bounds
  have hpW:V.p<W9:=KAE hbb.2.1
  refine KX (N:=17) (rs:=[.cell 7 47]) [.blk b ⟨false,opL V f,100,(0,0)⟩,.blk f ⟨false,fldL V.p bd,165,(0,0)⟩,.blk bd ⟨false,dvL V.p,269,(0,0)⟩,.blk bk ⟨false,natL K,33,(0,0)⟩] Tryz.func64 rfl Tryz.ntmps64 Tryz.results64 (Nb rfl) ⟨hb,hf,hbd,hk,trivial⟩ rfl ?_
  refine KB (KA ?_);refine oS (mB (fun b4=>?_));refine oS (mB (fun b5=>?_));refine oS (mB (fun b6=>?_));refine oS (mk (KL zr_47) (fun b7=>?_));refine KC (KB ?_);refine rD [9] ?_;refine aP 0 rfl (KE (o':=0) u132 rfl rfl rfl sz_81 dc) ?_;refine aD 1 rfl (dL rfl (hv:=KJ u81 rfl (by first|rfl|exact KU _ _ _ om|exact KY _ om|exact Kb _ om|exact dv_m _ _ _ om))) ?_;refine aP 2 rfl (KE (o':=0) u132 rfl rfl rfl sz_81 dc) ?_;refine aD 3 rfl (dL rfl (hv:=KJ u81 rfl (by first|rfl|exact KU _ _ _ om|exact KY _ om|exact Kb _ om|exact dv_m _ _ _ om))) ?_;refine aD 4 rfl dNa ?_;refine aD 5 rfl dNb ?_;refine aO 6 rfl (cF rfl en_67 rfl (fun w hw=>c_Triple V hok P w) ?_);refine aO 7 rfl (LStep.callV (first:=[]) rfl en_66 rfl (Nb rfl) (fun w hw=>c_cTimes V b f bd hok K hK _ P w (mC hw) (mC hw) (mC hw) (RepT.trip hok hP)) ?_)
  rintro _ ⟨U,hU,rfl⟩
  refine aO 8 rfl (cF rfl en_65 rfl (fun w hw=>c_PlainT V b f bd hok (U) (pmul V.A P K) w (mC hw) (mC hw) (mC hw) (hU)) ?_);refine aL 9 rfl (sA rfl rfl sz_47 mO (hl:=mL) (h:=?_));refine aE ?_;refine KM ?_;refine ⟨[_],.cons ⟨_,_,_,rfl,mM,by exact KD u47 rfl sz_47⟩ .nil,fun a w' hr=>⟨?_,hr.fr.below⟩⟩
  rfl
theorem c_do_okK (id:Int) (V:Cv) (P P2 R:Pt V.p) (fid:FuncId) (K bk:Nat) (w:World) (h:cvI id = some V) (hP:On V.A V.B P) (hP2:On V.A V.B P2) (he:Kf Tryz.prog fid) (hc:∀ b f bd (w:World),(Item.blk b ⟨false,opL V f,100,(0,0)⟩).holds w→(Item.blk f ⟨false,fldL V.p bd,165,(0,0)⟩).holds w→(Item.blk bd ⟨false,dvL V.p,269,(0,0)⟩).holds w→(Item.blk bk ⟨false,natL K,33,(0,0)⟩).holds w→Calls Tryz.prog fid ([.agg ([.pointer (some ⟨b,0,none⟩)]:List Value).toArray,ptP P,ptP P2,.pointer (some ⟨bk,0,none⟩)]:List Value).toArray w (fun e w'=>e = .returned (ptP R)∧Below w.heap.size w w')) (hk:(Item.blk bk ⟨false,natL K,33,(0,0)⟩).holds w):Calls Tryz.prog 63 ([.int .i64 id,ptP P,ptP P2,.func (.func fid) #[] #[.pointer (some ⟨bk,0,none⟩)]]:List Value).toArray w (fun e w'=>e = .returned (.tuple #[ptP R,.int .i64 ((0:Nat):Int)])∧Below w.heap.size w w'):=by
  obtain ⟨hok,hid⟩:=cvI_ok h
  have hbb:=hok.bounds
  have hpW:V.p<W9:=KAE hbb.2.1
  have hnW:V.n<W9:=KAE hbb.2.2.2.2.2.2.1
  have hbl:=KAQ hnW
  have hnb:nby V.n≤72:=by (unfold nby; omega)
  refine KX (N:=35) (rs:=[.cell 8 47,.tmp 9]) [.blk bk ⟨false,natL K,33,(0,0)⟩] Tryz.func63 rfl Tryz.ntmps63 Tryz.results63 (Nb rfl) ⟨hk,trivial⟩ rfl ?_
  refine KB (KA ?_);refine oS (mB (fun b5=>?_));refine oS (mB (fun b6=>?_));refine oS (mk (KL zr_47) (fun b8=>?_));refine oP (KO (v:=.int .i64 ((0:Nat):Int)) rfl) ?_;refine KC (KB (KA (oM ?_)));refine oS (oOpen h rfl rfl (fun b f bd=>?_));refine oA (KC (KB (LCode.block (KB (KA (oM ?_))))));refine oP (KK (KAN u81 rfl rfl) (show _ = Value.bool false from rfl)) ?_;refine oA (KC ?_);refine KH rfl ?_;refine KB (KA (oM ?_));refine oD dNb ?_;refine oS (cF rfl en_55 rfl (fun w hw=>c_cOnP V b f bd hok (P) w (mC hw) (mC hw) (mC hw) hP) ?_);refine oP (KK (KAK rfl) (show _ = Value.bool false from rfl)) ?_;refine oM ?_;refine oGM ?_;refine KAA rfl rfl dNb (Nb rfl) ?_;refine oGS (cF rfl en_55 rfl (fun w hw=>c_cOnP V b f bd hok (P2) w (mC hw) (mC hw) (mC hw) hP2) ?_);refine oGP (KK (KAK rfl) (show _ = Value.bool false from rfl)) ?_
  refine oP (KV rfl rfl) ?_;refine oA (KC ?_);refine KH rfl ?_;refine KN (KB (KA (oM (oM ?_))));refine oP (KK (Kd pl_132 zr_132 rfl rfl) (show _ = Value.agg ([.pointer (some ⟨b,0,none⟩)]:List Value).toArray from rfl)) ?_;refine oD dNb ?_;refine oD dNb ?_;refine oS (LStep.callK (caps:=[.pointer (some ⟨bk,0,none⟩)]) rfl he rfl (Nb rfl) (fun w hw=>hc b f bd w (mC hw) (mC hw) (mC hw) (mC hw)) ?_);refine LOps.step rfl (sA rfl rfl sz_47 mO (hl:=mL) (h:=?_));refine oP (KO (v:=.int .i64 ((0:Nat):Int)) rfl) ?_;refine KC (KM ?_);refine ⟨[_,_],.cons ⟨_,_,_,rfl,mM,by exact KD u47 rfl sz_47⟩ (.cons rfl .nil),fun a w' hr=>⟨?_,hr.fr.below⟩⟩
  rfl
theorem c_affMul (id:Int) (V:Cv) (K:Nat) (P:Pt V.p) (w:World) (h:cvI id = some V) (hP:On V.A V.B P) (hK:K<W9):Calls Tryz.prog 30 ([.int .i64 id,natV K,ptP P]:List Value).toArray w (fun e w'=>e = .returned (.tuple #[ptP (pmul V.A P K),.int .i64 ((0:Nat):Int)])∧Below w.heap.size w w'):=by
  obtain ⟨hok,hid⟩:=cvI_ok h
  refine KX (N:=15) (rs:=[.cell 6 47,.tmp 7]) [] Tryz.func30 rfl Tryz.ntmps30 Tryz.results30 (Nb rfl) trivial rfl ?_
  refine KB (KA ?_);refine oS (mB (fun b4=>?_));refine oS (mB (fun b5=>?_));refine oS (mk (KL zr_47) (fun b6=>?_));refine oP (KO (v:=.int .i64 ((0:Nat):Int)) rfl) ?_;refine KC (KB (KA (oM ?_)));refine oD dNb ?_;refine oD dNb ?_;refine oP (Det.makeFuncC1 rfl) ?_;refine oS (cF rfl en_63 rfl (fun w hw=>c_do_okK id V P P (pmul V.A P K) 64 K b4 w h hP hP en_64 (fun b f bd w h1 h2 h3 hk=>c_gmul V b f bd hok K b4 hK P _ _ _ w h1 h2 h3 hP hk) (show (Item.blk b4 ⟨true,_,_,_⟩).holds w from hw _ mM)) ?_);refine oP (Det.extract rfl rfl) ?_;refine oP (Det.extract rfl rfl) ?_;refine LOps.step rfl (sA rfl rfl sz_47 mO (hl:=mL) (h:=?_));refine oA (KC (KM ?_));refine ⟨[_,_],.cons ⟨_,_,_,rfl,mM,by exact KD u47 rfl sz_47⟩ (.cons rfl .nil),fun a w' hr=>⟨?_,hr.fr.below⟩⟩
  rfl
end Go.Proofs.YtnpeokiboiclfaaGreat
set_option linter.unusedVariables false
set_option linter.unusedSimpArgs false
set_option maxRecDepth 20000
namespace Go.Proofs.YtnpeokiboiclfaaGreat
open Go Go.RowKit
open Grp
def ptPL {p:Nat} (P:Pt p):List Value:=ptL (xv P) (yv P) (iv P)
theorem ptPL_length {p:Nat} (P:Pt p):(ptPL P).length = 19:=KW _ _ _
theorem ptPL_one {p:Nat} (P:Pt p):AllOne (ptPL P):=KAD _ _ _
def tabL {p:Nat} (E:Nat→Pt p):Nat→List Value
  | 0=>[]
  | n+1=>tabL E n++ptPL (E n)
theorem tabL_length {p:Nat} (E:Nat→Pt p):∀ n,(tabL E n).length = n*19
  | 0=>rfl
  | n+1=>by show (tabL E n++ptPL (E n)).length = _; rw [List.length_append,tabL_length E n,ptPL_length]; omega
theorem tabL_at {p:Nat} (E:Nat→Pt p) {k:Nat}:∀ {n},k<n→∃ post,tabL E n = tabL E k++(ptPL (E k)++post)
  | 0,h=>by omega
  | n+1,h=>by
    by_cases e:k = n
    · subst e; exact ⟨[],by rw [List.append_nil]; rfl⟩
    · obtain ⟨post,hp⟩:=tabL_at E (show k<n by omega)
      exact ⟨post++ptPL (E n),by show tabL E n++ptPL (E n) = _; rw [hp]; simp only [List.append_assoc]⟩
theorem tab_load {p:Nat} {wr:Bool} {e:TypeId} {fz:Nat×Nat} (E:Nat→Pt p) {k n:Nat} (h:k<n) (rest:List Value):LoadV Tryz.prog 47 ⟨wr,tabL E n++rest,e,fz⟩ (0+k*19) (ptP (E k)):=by
  obtain ⟨post,hp⟩:=tabL_at E h
  exact KAd (pre:=tabL E k) (cs:=ptPL (E k)) (post:=post++rest) u47 rfl sz_47 (by show tabL E n++rest = _; rw [hp]; simp only [List.append_assoc]) (by rw [tabL_length]; omega) (ptPL_length _)
theorem inf_pt:infOf Tryz.prog 47 = some (.agg (vec .u64 9 (fun _=>0)++(vec .u64 9 (fun _=>0)++[Value.bool false]):List Value).toArray,19,152):=by kernel_rfl
theorem fill_ptR {p:Nat} (P:Pt p):fillL ((List.range 1).map fun i=>(i*19,19)) (vec .u64 9 (fun _=>0)++(vec .u64 9 (fun _=>0)++[Value.bool false])) [(0,.agg (ptPL P).toArray)] = some (ptPL P):=fillL_whole (by simp [KQ]) (ptPL_length P)
theorem row_pt:((Array.range (1*19)).map fun i=>(Value.agg (vec .u64 9 (fun _=>0)++(vec .u64 9 (fun _=>0)++[Value.bool false]):List Value).toArray).cells[i%(Value.agg (vec .u64 9 (fun _=>0)++(vec .u64 9 (fun _=>0)++[Value.bool false]):List Value).toArray).cells.size]!) = (vec .u64 9 (fun _=>0)++(vec .u64 9 (fun _=>0)++[Value.bool false]):List Value).toArray:=by kernel_rfl
noncomputable abbrev mulE (V:Cv) (P:Pt V.p):Nat→Pt V.p:=fun j=>pmul V.A P j
structure TabS (p:Nat) where
  k:Nat
  T:Fin p×Fin p×Fin p
  br:Nat
  cap:Nat
  rest:List Value
theorem Brings.two {w w':World} {b c:Nat} {B D:Blk} (hb:Below w.heap.size w w') (h1:(Item.blk b B).holds w') (h2:(Item.blk c D).holds w') (n1:w.heap.size≤b) (n2:w.heap.size≤c) (hne:c≠b):Brings w [] [.blk b B,.blk c D] w':=by
  have key:∀ x,x∈[Item.blk b B,.blk c D]→∀ k,k∈x.fp→w.heap.size≤k:=fun x hx k hk=>by
    rcases List.mem_cons.1 hx with rfl|hx
    · obtain rfl:k = b:=by simpa [Item.fp] using hk
      exact n1
    · obtain rfl:x = _:=by simpa using hx
      obtain rfl:k = c:=by simpa [Item.fp] using hk
      exact n2
  refine ⟨hb,fun x hx=>?_,fun x hx k hk=>.inl (key x hx k hk),fun x hx _=>key x hx,List.pairwise_cons.2 ⟨fun y hy _ k hk hk'=>?_,List.pairwise_singleton _ _⟩⟩
  · rcases List.mem_cons.1 hx with rfl|hx
    · exact h1
    · obtain rfl:x = _:=by simpa using hx
      exact h2
  · obtain rfl:y = _:=by simpa using hy
    obtain rfl:k = b:=by simpa [Item.fp] using hk
    exact hne (by simpa [Item.fp] using hk':k = c).symm
theorem bringsC {P:Program} {f:FuncId} {a:Array Value} {w:World} {Q:Value→List Item→Prop} (h:Calls P f a w (fun e w'=>∃ v its,Q v its∧e = .returned v∧Brings w [] its w')) (H:List Item):Calls P f a w (fun e w'=>∃ v its,Q v its∧e = .returned v∧Brings w H its w') :=
  h.mono fun e w' ⟨v,its,h1,h2,h3⟩=>⟨v,its,h1,h2,h3.more (fun x hx=>by cases hx)⟩
theorem c_tabOf (V:Cv) (b f bd:Nat) (hok:V.Ok) (P:Pt V.p) (hP:On V.A V.B P) (n:Nat) (hn0:1≤n) (hn:n≤16) (w:World) (hb:(Item.blk b ⟨false,opL V f,100,(0,0)⟩).holds w) (hf:(Item.blk f ⟨false,fldL V.p bd,165,(0,0)⟩).holds w) (hbd:(Item.blk bd ⟨false,dvL V.p,269,(0,0)⟩).holds w):Calls Tryz.prog 88 ([.pointer (some ⟨b,0,none⟩),ptP P,.int .i64 ((n:Nat):Int)]:List Value).toArray w (fun e w'=>∃ v its,(fun v its=>∃ bt br cap rest,v = .pointer (some ⟨bt,0,none⟩)∧its = [.blk bt ⟨true,[.slice (some ⟨br,0,none⟩) n cap],220,(0,0)⟩,.blk br ⟨true,tabL (mulE V P) n++rest,47,(0,0)⟩]) v its∧e = .returned v∧Brings w [] its w'):=by
  refine KX (N:=36) (rs:=[.tmp 6]) [.blk b ⟨false,opL V f,100,(0,0)⟩,.blk f ⟨false,fldL V.p bd,165,(0,0)⟩,.blk bd ⟨false,dvL V.p,269,(0,0)⟩] Tryz.func88 rfl Tryz.ntmps88 Tryz.results88 (Nb rfl) ⟨hb,hf,hbd,trivial⟩ rfl ?_
  refine KB (KA ?_);refine oS (mB (fun b4=>?_));refine oA (KC (KB (KA ?_)));refine oP (Kd pl_220 zr_220 rfl rfl) ?_;refine oS (mB (fun b11=>?_));refine oA (KC (KB (KA ?_)));refine oD dNb ?_;refine oS (cF rfl en_67 rfl (fun w hw=>c_Triple V hok P w) ?_);refine oS (cF rfl en_99 rfl (fun w hw=>c_NoneF hok w) ?_);refine oS (mk (KL zr_135) (fun b8=>?_));refine oS (mk (KL zr_135) (fun b9=>?_));refine LOps.step rfl (sA rfl rfl KAJ (by exact pjFL_one _) (hl:=by exact Kx _) (h:=?_));refine LOps.step rfl (sA rfl rfl KAJ (by exact pjFL_one _) (hl:=by exact Kx _) (h:=?_));refine KC (KB (KB (KA (oM ?_))));refine oP (Ki (v:=.int .i64 ((0:Nat):Int)) rfl) ?_;refine KC (LCode.block ?_);refine Ke (α:=Option (TabS V.p)) (fun x=>match x with|none=>True|some y=>1≤y.k∧y.k≤n∧RepT V y.T (pmul V.A P y.k)∧(tabL (mulE V P) y.k).length+y.rest.length = y.cap*19) (fun x=>match x with|none=>⟨[(0,.pointer (some ⟨b,0,none⟩)),(7,.pointer (some ⟨b11,0,none⟩)),(8,.pointer (some ⟨b8,0,none⟩)),(9,.pointer (some ⟨b9,0,none⟩)),(15,.int .i64 ((n:Nat):Int)),(16,.int .i64 ((0:Nat):Int))],[.blk b11 ⟨true,[.slice none 0 0],220,(0,0)⟩,.blk b9 ⟨true,pjFL (tripF (.inf:Pt V.p)),135,(0,0)⟩,.blk b8 ⟨true,pjFL (tripF P),135,(0,0)⟩,.blk b ⟨false,opL V f,100,(0,0)⟩,.blk f ⟨false,fldL V.p bd,165,(0,0)⟩,.blk bd ⟨false,dvL V.p,269,(0,0)⟩]⟩|some y=>⟨[(0,.pointer (some ⟨b,0,none⟩)),(7,.pointer (some ⟨b11,0,none⟩)),(8,.pointer (some ⟨b8,0,none⟩)),(9,.pointer (some ⟨b9,0,none⟩)),(15,.int .i64 ((n:Nat):Int)),(16,.int .i64 ((y.k:Nat):Int))],[.blk b11 ⟨true,[.slice (some ⟨y.br,0,none⟩) y.k y.cap],220,(0,0)⟩,.blk y.br ⟨true,tabL (mulE V P) y.k++y.rest,47,(0,0)⟩,.blk b9 ⟨true,pjFL y.T,135,(0,0)⟩,.blk b8 ⟨true,pjFL (tripF P),135,(0,0)⟩,.blk b ⟨false,opL V f,100,(0,0)⟩,.blk f ⟨false,fldL V.p bd,165,(0,0)⟩,.blk bd ⟨false,dvL V.p,269,(0,0)⟩]⟩) (fun x=>match x with|none=>n+1|some y=>n-y.k) (none) (trivial) (Ka ⟨rfl,rfl,rfl,rfl,rfl,rfl,trivial⟩ mS) ?_
  intro x hx
  refine KB ?_
  rcases x with _|⟨k,T,br,cap,rest⟩
  ·
   refine KA ?_;refine oP (KF (v:=.bool true) rfl rfl (br_t KAF om)) ?_;refine KC (KB ?_);refine KT rfl ?_;refine KN (KB (LCode.block (KB ?_)));refine rD [9,12] ?_;refine aM 0 ?_;refine aM 1 ?_;refine aP 2 rfl (KG rfl) ?_;refine aP 3 rfl (KE (o':=0) u220 rfl rfl rfl sz_218 dc) ?_;refine aD 4 rfl (dL rfl (hv:=KJ u218 rfl (by first|rfl|exact KU _ _ _ om|exact KY _ om|exact Kb _ om|exact dv_m _ _ _ om))) ?_;refine aM 5 ?_;refine aO 6 rfl (LStep.det (dL rfl (hv:=by exact KD u135 rfl KAJ)) (Nb rfl) ?_);refine aO 7 rfl (cF rfl en_65 rfl (fun w hw=>c_PlainT V b f bd hok (tripF (.inf:Pt V.p)) (mulE V P 0) w (mC hw) (mC hw) (mC hw) (RepT.trip hok trivial)) ?_);refine aO 8 rfl (mk (Makes.row (vs:=[(0,.agg (ptPL (mulE V P 0)).toArray)]) u218 inf_pt dc row_pt rfl (fill_ptR (mulE V P 0)) (fun h=>by cases h)) (fun b26=>?_));refine aL 9 rfl (LStepW.appendNilS (s:=19) (news:=ptPL (mulE V P 0)) rfl rfl u218 inf_pt rfl mM (ptPL_length _) dc dc dc (Nb rfl) ?_)
   intro b1 cap1 rest1 hc1
   refine aP 10 rfl (KG rfl) ?_;refine aP 11 rfl (KE (o':=0) u220 rfl rfl rfl sz_218 dc) ?_;refine aL 12 rfl (KZ rfl rfl rfl sz_218 (by repeat (first|exact Sh _|apply St_)) (by first|(simp only [KQ,KI,Kh,Ks]; omega)|(simp; done)|(simp; omega)) (by first|exact KAG _ _ _ _ _|exact KAM _ _ _ _ om|exact KAL _ _ _ _|rfl) (by simp) ?_);refine aE ?_;refine KA (oM ?_);refine oD (dL rfl (hv:=by exact KD u135 rfl KAJ)) ?_;refine oD (dL rfl (hv:=by exact KD u135 rfl KAJ)) ?_;refine oS (cF rfl en_100 rfl (fun w hw=>c_SumT V b f bd hok (tripF (.inf:Pt V.p)) (tripF P) w (mC hw) (mC hw) (mC hw)) ?_);refine LOps.step rfl (sA rfl rfl KAJ (by exact pjFL_one _) (hl:=by exact Kx _) (h:=?_));refine KC (KA ?_);refine oP (KF rfl rfl (Ko (b:=1) om)) ?_;refine oM (KC ?_)
   exact ⟨some ⟨0+1,sumT V (tripF (.inf:Pt V.p)) (tripF P),b1,cap1,rest1⟩,⟨Nat.le_add_left _ _,by show 0+1≤n; omega,RepT.sum hok (RepT.trip hok trivial) (RepT.trip hok hP),by rw [ptPL_length] at hc1; show (tabL (mulE V P) (0+1)).length+rest1.length = cap1*19; rw [tabL_length]; omega⟩,by show n-(0+1)<n+1; omega,KAC (Sub.cells (b:=b1) (cs':=tabL (mulE V P) (0+1)++rest1) (by repeat (first|exact Sh _|apply St_)) (by rfl)) (Ka ⟨rfl,rfl,rfl,rfl,rfl,rfl,trivial⟩ mS)⟩
  obtain ⟨hk1,hkn,hT,hcap⟩:=hx
  dsimp only at hk1 hkn hT hcap
  refine KA ?_;refine oP (KF rfl rfl (KAF)) ?_;refine KC (KB ?_)
  first|refine KR rfl (fun h17=>?_) (fun h17=>?_)|refine KS rfl (fun h17=>?_) (fun h17=>?_)
  ·
   have h17:k<n:=h17
   refine KN (KB (LCode.block (KB ?_)));refine rD [9,12] ?_;refine aM 0 ?_;refine aM 1 ?_;refine aP 2 rfl (KG rfl) ?_;refine aP 3 rfl (KE (o':=0) u220 rfl rfl rfl sz_218 dc) ?_;refine aD 4 rfl (dL rfl (hv:=KJ u218 rfl (by first|rfl|exact KU _ _ _ om|exact KY _ om|exact Kb _ om|exact dv_m _ _ _ om))) ?_;refine aM 5 ?_;refine aO 6 rfl (LStep.det (dL rfl (hv:=by exact KD u135 rfl KAJ)) (Nb rfl) ?_);refine aO 7 rfl (cF rfl en_65 rfl (fun w hw=>c_PlainT V b f bd hok (T) (mulE V P k) w (mC hw) (mC hw) (mC hw) (hT)) ?_);refine aO 8 rfl (mk (Makes.row (vs:=[(0,.agg (ptPL (mulE V P k)).toArray)]) u218 inf_pt dc row_pt rfl (fill_ptR (mulE V P k)) (fun h=>by cases h)) (fun b26=>?_));refine aL 9 rfl (LStepW.appendS (s:=19) (m:=1) (xs:=tabL (mulE V P) k) (rest:=rest) (news:=ptPL (mulE V P k)) rfl rfl u218 inf_pt rfl mP mM (tabL_length _ _) hcap (ptPL_length _) (ptPL_one _) om om (Nb rfl) ?_)
   intro b1 cap1 rest1 hc1
   refine aP 10 rfl (KG rfl) ?_;refine aP 11 rfl (KE (o':=0) u220 rfl rfl rfl sz_218 dc) ?_;refine aL 12 rfl (KZ rfl rfl rfl sz_218 (by repeat (first|exact Sh _|apply St_)) (by first|(simp only [KQ,KI,Kh,Ks]; omega)|(simp; done)|(simp; omega)) (by first|exact KAG _ _ _ _ _|exact KAM _ _ _ _ om|exact KAL _ _ _ _|rfl) (by simp) ?_);refine aE ?_;refine KA (oM ?_);refine oD (dL rfl (hv:=by exact KD u135 rfl KAJ)) ?_;refine oD (dL rfl (hv:=by exact KD u135 rfl KAJ)) ?_;refine oS (cF rfl en_100 rfl (fun w hw=>c_SumT V b f bd hok (T) (tripF P) w (mC hw) (mC hw) (mC hw)) ?_);refine LOps.step rfl (sA rfl rfl KAJ (by exact pjFL_one _) (hl:=by exact Kx _) (h:=?_));refine KC (KA ?_);refine oP (KF rfl rfl (Ko (b:=1) om)) ?_;refine oM (KC ?_)
   exact ⟨some ⟨k+1,sumT V T (tripF P),b1,cap1,rest1⟩,⟨Nat.le_add_left _ _,by show k+1≤n; omega,RepT.sum hok hT (RepT.trip hok hP),by rw [tabL_length,ptPL_length] at hc1; show (tabL (mulE V P) (k+1)).length+rest1.length = cap1*19; rw [tabL_length]; omega⟩,by show n-(k+1)<n-k; omega,KAC (Sub.cells (b:=b1) (cs':=tabL (mulE V P) (k+1)++rest1) (by repeat (first|exact Sh _|apply St_)) (by rfl)) (Ka ⟨rfl,rfl,rfl,rfl,rfl,rfl,trivial⟩ mS)⟩
  have h17:¬ k<n:=h17
  refine Kc (KB (KA (oM (oA (KC (KM ?_))))))
  obtain rfl:k = n:=by omega
  exact ⟨[_],.cons rfl .nil,fun a w' hr=>⟨_,_,⟨b11,br,cap,rest,rfl,rfl⟩,rfl,Brings.two hr.fr.below (hr.hp (.blk b11 ⟨true,_,_,_⟩) mM) (hr.hp (.blk br ⟨true,_,_,_⟩) mM) (hr.new (b:=b11) (B:=⟨true,_,_,_⟩) mM rfl) (hr.new (b:=br) (B:=⟨true,_,_,_⟩) mM rfl) (apart_two hr.dist (b:=b11) (B:=⟨true,_,220,_⟩) (c:=br) (D:=⟨true,_,47,_⟩) mM mM rfl (fun e=>absurd (show (220:Nat) = 47 from e) dc))⟩⟩
def pk (i A:Nat):Nat→Nat
  | 0=>0
  | k+1=>if k = i then A else pk i A k
theorem pk_low {i A:Nat}:∀ {k},k≤i→pk i A k = 0
  | 0,_=>rfl
  | k+1,h=>by
    show (if k = i then A else pk i A k) = 0
    rw [if_neg om]; exact pk_low om
theorem pk_last {i A:Nat}:∀ {k},i<k→pk i A k = A
  | 0,h=>by omega
  | k+1,h=>by
    show (if k = i then A else pk i A k) = A
    by_cases e:k = i
    · rw [if_pos e]
    · rw [if_neg e]; exact pk_last om
theorem pk_m (i k:Nat):(if k = i then 18446744073709551615 else 0) = 0∨(if k = i then 18446744073709551615 else 0) = 18446744073709551615:=by
  by_cases e:k = i
  · exact .inr (if_pos e)
  · exact .inl (if_neg e)
theorem pk_next (F:Nat→Nat) (i k:Nat):pk i (F i) (k+1) = if (if k = i then 18446744073709551615 else 0) = 0 then pk i (F i) k else F k:=by
  show (if k = i then F i else pk i (F i) k) = _
  by_cases e:k = i
  · rw [if_pos e,if_pos e,if_neg dc,e]
  · rw [if_neg e,if_neg e,if_pos rfl]
theorem pk_or {i A z k:Nat} (hz:k = i→z = A) (h1:z≤1):pk i A k ||| (z &&& if k = i then 18446744073709551615 else 0) = pk i A (k+1):=by
  show _ = (if k = i then A else pk i A k)
  by_cases e:k = i
  · rw [if_pos e,if_pos e,pk_low om,Nat.zero_or,and_max om]; exact hz e
  · rw [if_neg e,if_neg e,Nat.and_zero,Nat.or_zero]
theorem pk_lt {i A:Nat} (h:A≤1):∀ k,pk i A k≤1
  | 0=>Nat.zero_le _
  | k+1=>by
    show (if k = i then A else pk i A k)≤1
    split
    · exact h
    · exact pk_lt h k
def ib {p:Nat} (P:Pt p):Nat:=if iv P = true then 1 else 0
theorem ib_le {p:Nat} (P:Pt p):ib P≤1:=by unfold ib; split <;> omega
theorem ib_eq {p:Nat} (P:Pt p):decide (ib P = 1) = iv P:=by unfold ib; cases iv P <;> rfl
section
variable {P:Program} {C:Ctx} {d:Option Tmp} {ty:TypeId} {pos:String} {aft:Array Edge} {g:Option (Nat×Bool)} {st:St} {x y:Operand} {t e:TypeId}
theorem Det.indexSN {s i : Nat} {k : IntKind} {b o l c : Nat} (ht : P.underlying t = some (.slice e)) (he : szOf P e = some s) (hx : evT st.T x = some (.slice (some ⟨b, o, none⟩) l c)) (hy : evT st.T y = some (.int k (i : Int))) (h1 : i < l) :
    Slots P C ⟨d,.indexAddr t x y,ty,pos,aft,g⟩ st (.pointer (some ⟨b,o+i*s,none⟩)):=by
  have:=Det.indexSl (P:=P) (C:=C) (d:=d) (ty:=ty) (pos:=pos) (aft:=aft) (g:=g) (st:=st) ht he hx hy om om
  rwa [Int.toNat_natCast] at this
end
theorem pt_zeroK (i A B:Nat):(vec .u64 9 (fun _=>0)++(vec .u64 9 (fun _=>0)++[Value.bool false]):List Value) = ptL (pk i A 0) (pk i B 0) false:=by
  show _ = ptL 0 0 false
  unfold ptL natL; rw [vec_zeros 9]
theorem pt_setY (X Y Y':Nat) (i:Bool):KAa (ptL X Y i) 9 (natL Y') = ptL X Y' i:=splice_mid (A:=natL X) (B:=natL Y) (D:=[.bool i]) (by simp [ptL]) (KI _) (by rw [KI,KI]) (by simp [ptL])
theorem pt_set0 (X Y X':Nat) (i:Bool):KAa (ptL X Y i) 0 (natL X') = ptL X' Y i:=splice_mid (A:=[]) (B:=natL X) (D:=natL Y++[.bool i]) (by simp [ptL]) rfl (by rw [KI,KI]) (by simp [ptL])
theorem pt_set2 (X Y:Nat) (i j:Bool):(ptL X Y i).set 18 (.bool j) = ptL X Y j:=by
  unfold ptL
  rw [List.set_append_right _ _ (by rw [KI]; decide),KI,List.set_append_right _ _ (by rw [KI]; decide),KI]; rfl
theorem c_tabPick (b:Option Nat) (r:TrRow) (l:List Nat) (bt br cap:Nat) (rest:List Value) {wr1 wr2:Bool} (V:Cv) (hok:V.Ok) (E:Nat→Pt V.p) (n i:Nat) (hi:i<n) (hn:n≤16) (w:World) (h0:(trI b r l).holds w) (h1:(Item.blk bt ⟨wr1,[.slice (some ⟨br,0,none⟩) n cap],220,(0,0)⟩).holds w) (h2:(Item.blk br ⟨wr2,tabL (E) n++rest,47,(0,0)⟩).holds w) (n1:Out b r (Item.blk bt ⟨wr1,[.slice (some ⟨br,0,none⟩) n cap],220,(0,0)⟩)) (n2:Out b r (Item.blk br ⟨wr2,tabL (E) n++rest,47,(0,0)⟩)) (hl:l.length≤90000000):Calls Tryz.prog 142 ([.pointer (some ⟨bt,0,none⟩),trV b,.int .i64 ((i:Nat):Int)]:List Value).toArray w (fun e w'=>TrR w b r (l++List.range n) (.tuple #[ptP (E i),.int .i64 ((0:Nat):Int)]) e w'):=by
  refine calls_tr (N:=75) (rs:=[.cell 6 47,.tmp 7]) b r l [.blk bt ⟨false,[.slice (some ⟨br,0,none⟩) n cap],220,(0,0)⟩,.blk br ⟨false,tabL (E) n++rest,47,(0,0)⟩] Tryz.func142 rfl Tryz.ntmps142 Tryz.results142 (Nb rfl) h0 ⟨h1,h2,trivial⟩ rfl ⟨n1,n2,trivial⟩ ?_
  refine KB (KA ?_);refine oS (mk (KL zr_47) (fun b6=>?_));refine oP (KO (v:=.int .i64 ((0:Nat):Int)) rfl) ?_;refine KC (KB (LCode.block (KB (KA (oM ?_)))));refine oP (KK (KAN u177 rfl rfl) (show _ = Value.bool false from rfl)) ?_;refine oA (KC ?_);refine KH rfl ?_;refine KB (KA (oM ?_));refine oP (KF (v:=.bool false) rfl rfl (br_f (KAF (b:=0)) (Nat.not_lt_zero _))) ?_;refine oM ?_;refine oGM ?_;refine oGM ?_;refine oGP (KG rfl) ?_;refine oGP (KE (o':=0) u220 rfl rfl rfl sz_218 dc) ?_;refine KAA rfl rfl (dL rfl (hv:=KJ u218 rfl (by first|rfl|exact KU _ _ _ om|exact KY _ om|exact Kb _ om|exact dv_m _ _ _ om))) (Nb rfl) ?_;refine oGP (Det.len u218 rfl) ?_;refine oGP (KF (v:=.bool false) rfl rfl (br_f br_geq om)) ?_;refine oP (KV rfl rfl) ?_;refine oA (KC ?_);refine KH rfl ?_;refine KN (KB (KA ?_));refine oS (mk (KL zr_47) (fun b8=>?_))
  refine KC (KB (KA ?_));refine oP (KO (v:=.int .u64 ((0:Nat):Int)) rfl) ?_;refine KC (KB (KB (KA (oM ?_))));refine oP (KG rfl) ?_;refine oP (KE (o':=0) u220 rfl rfl rfl sz_218 dc) ?_;refine oD (dL rfl (hv:=KJ u218 rfl (by first|rfl|exact KU _ _ _ om|exact KY _ om|exact Kb _ om|exact dv_m _ _ _ om))) ?_;refine oP (Det.len u218 rfl) ?_;refine oP (Ki (v:=.int .i64 ((0:Nat):Int)) rfl) ?_;refine KC (LCode.block ?_);refine Ke (α:=Nat×TrRow) (fun x=>x.1≤n) (fun x=>⟨[(0,.pointer (some ⟨bt,0,none⟩)),(1,trV b),(2,.int .i64 ((i:Nat):Int)),(6,.pointer (some ⟨b6,0,none⟩)),(8,.pointer (some ⟨b8,0,none⟩)),(9,.int .u64 ((pk i (ib (E i)) x.1:Nat):Int)),(34,.slice (some ⟨br,0,none⟩) n cap),(35,.int .i64 ((n:Nat):Int)),(36,.int .i64 ((x.1:Nat):Int))],[trI b x.2 (l++List.range x.1),.blk b8 ⟨true,ptL (pk i (xv (E i)) x.1) (pk i (yv (E i)) x.1) false,47,(0,0)⟩,.blk b6 ⟨true,vec .u64 9 (fun _=>0)++(vec .u64 9 (fun _=>0)++[Value.bool false]),47,(0,0)⟩,.blk bt ⟨false,[.slice (some ⟨br,0,none⟩) n cap],220,(0,0)⟩,.blk br ⟨false,tabL (E) n++rest,47,(0,0)⟩]⟩) (fun x=>n-x.1) ((0,r)) (Nat.zero_le _) (KAC (Sub.cells (b:=b8) (cs':=ptL (pk i (xv (E i)) 0) (pk i (yv (E i)) 0) false) (by repeat (first|exact Sh _|apply St_)) (pt_zeroK _ _ _)) (by dsimp only [List.range_zero]; rw [List.append_nil]; exact Ka ⟨rfl,rfl,rfl,rfl,rfl,rfl,rfl,rfl,rfl,trivial⟩ mS)) ?_
  intro x hx
  refine KB (KA ?_);refine oP (KF rfl rfl (KAF)) ?_;refine KC (KB ?_)
  first|refine KR rfl (fun h37=>?_) (fun h37=>?_)|refine KS rfl (fun h37=>?_) (fun h37=>?_)
  ·
   have h37:x.1<n:=h37
   refine KN (KB (LCode.block (KB (KA (oM ?_)))));refine oP (Det.indexSN u218 sz_47 rfl rfl om) ?_;refine oD (dL rfl (hv:=by exact tab_load E h37 rest)) ?_;refine oS (mk (KL zr_47) (fun b11=>?_));refine oA ?_;refine LOps.step rfl (sA rfl rfl sz_47 (by exact KAD _ _ _) (hl:=by exact KW _ _ _) (h:=?_));refine KC (KB (KA (oM (oM ?_))));refine LOps.step rfl (LStepW.callT (first:=[]) (r:=x.2) (l:=l++List.range x.1) (l':=l++List.range (x.1+1)) rfl en_183 rfl (Nb rfl) mP (fun w hw hn=>by rw [List.range_succ,← List.append_assoc]; exact c_trIndex b x.2 _ x.1 w (mC hw) (by rw [List.length_append,List.length_range]; omega)) ?_)
   intro r1
   refine KC (KB (KA (oM ?_)));refine oP (Det.conv64 u3 u30 rfl (by first|omega|exact Nat.lt_trans (D.limb_lt _ _) dc)) ?_;refine oM ?_;refine oP (Det.conv64 u3 u30 rfl (by first|omega|exact Nat.lt_trans (D.limb_lt _ _) dc)) ?_;refine oS (cF rfl en_184 rfl (fun w hw=>c_mEqual x.1 i w om om) ?_);refine oA (KC (KB ?_));refine rD [13,15] ?_;refine aM 0 ?_;refine aP 1 rfl (KE (o':=0) u47 rfl rfl rfl sz_33 dc) ?_;refine aD 2 rfl (dL rfl (hv:=by exact Kv u33 rfl sz_33 rfl (KI _))) ?_;refine aP 3 rfl (KE (o':=0) u47 rfl rfl rfl sz_33 dc) ?_;refine aD 4 rfl (dL rfl (hv:=by exact Kv u33 rfl sz_33 rfl (KI _))) ?_;refine aM 6 ?_;refine aP 7 rfl (KE (o':=9) u47 rfl rfl rfl sz_33 dc) ?_;refine aP 9 rfl (KE (o':=9) u47 rfl rfl rfl sz_33 dc) ?_;refine aD 10 rfl (dL rfl (hv:=by exact pt_ld1 _ _ _ _ _ _)) ?_
   refine LAny.takeW [11,13,14,15] 8 rfl (by kernel_rfl) (Nb rfl) (dL rfl (hv:=by exact pt_ld1 _ _ _ _ _ _)) ?_;refine aO 5 rfl (cF rfl en_185 rfl (fun w hw=>c_mSelect (if x.1 = i then 18446744073709551615 else 0) (xv (E x.1)) (pk i (xv (E i)) x.1) (pk i (xv (E i)) (x.1+1)) w (pk_m _ _) (pk_next (fun j=>xv (E j)) i x.1)) ?_);refine aP 12 rfl (KE (o':=0) u47 rfl rfl rfl sz_33 dc) ?_;refine aO 11 rfl (cF rfl en_185 rfl (fun w hw=>c_mSelect (if x.1 = i then 18446744073709551615 else 0) (yv (E x.1)) (pk i (yv (E i)) x.1) (pk i (yv (E i)) (x.1+1)) w (pk_m _ _) (pk_next (fun j=>yv (E j)) i x.1)) ?_);refine aL 13 rfl (Ku rfl rfl rfl sz_33 (KI _) (KAB _) (by repeat (first|exact Sh _|apply St_)) (by simp only [KW]; decide) (pt_set0 _ _ _ _) (by simp) ?_);refine aP 14 rfl (KE (o':=9) u47 rfl rfl rfl sz_33 dc) ?_;refine aL 15 rfl (Ku rfl rfl rfl sz_33 (KI _) (KAB _) (by repeat (first|exact Sh _|apply St_)) (by simp only [KW]; decide) (pt_setY _ _ _ _) (by simp) ?_)
   refine aE ?_;refine KB (KA ?_);refine oP (KO (v:=.int .u64 ((0:Nat):Int)) rfl) ?_;refine KC (KB (KB ?_))
   cases hiv:iv (E x.1)
   ·
    refine KA ?_;refine oP (KE (o':=18) u47 rfl rfl rfl sz_4 dc) ?_;refine oD (dL rfl (hv:=KJ u4 rfl (by exact pt_gt _ _ _))) ?_;refine KC ?_;refine KH rfl ?_;refine KN (KA (oM (oM (oM ?_))));refine oP (KF rfl rfl (br_and64 (a:=0) (b:=(if x.1 = i then 18446744073709551615 else 0)) dc (by split <;> decide))) ?_;refine oP (KK (KF rfl rfl (br_or64 (a:=pk i (ib (E i)) x.1) (b:=0 &&& (if x.1 = i then 18446744073709551615 else 0)) (Nat.lt_of_le_of_lt (pk_lt (ib_le _) _) dc) (Nat.lt_of_le_of_lt Nat.and_le_left dc))) (vi (b:=pk i (ib (E i)) (x.1+1)) (pk_or (fun e=>by rw [← e]; unfold ib; rw [hiv]; rfl) dc))) ?_;refine oA (KC (KA ?_));refine oP (KF rfl rfl (Ko (b:=1) om)) ?_;refine oM (KC ?_)
    exact ⟨(x.1+1,r1),by dsimp only; omega,by dsimp only; omega,Ka ⟨rfl,rfl,rfl,rfl,rfl,rfl,rfl,rfl,rfl,trivial⟩ mS⟩
   refine KA ?_;refine oP (KE (o':=18) u47 rfl rfl rfl sz_4 dc) ?_;refine oD (dL rfl (hv:=KJ u4 rfl (by exact pt_gt _ _ _))) ?_;refine KC ?_;refine KT rfl ?_;refine KA ?_;refine oP (KO (v:=.int .u64 ((1:Nat):Int)) rfl) ?_;refine KC (KA (oM (oM (oM ?_))));refine oP (KF rfl rfl (br_and64 (a:=1) (b:=(if x.1 = i then 18446744073709551615 else 0)) dc (by split <;> decide))) ?_;refine oP (KK (KF rfl rfl (br_or64 (a:=pk i (ib (E i)) x.1) (b:=1 &&& (if x.1 = i then 18446744073709551615 else 0)) (Nat.lt_of_le_of_lt (pk_lt (ib_le _) _) dc) (Nat.lt_of_le_of_lt Nat.and_le_left dc))) (vi (b:=pk i (ib (E i)) (x.1+1)) (pk_or (fun e=>by rw [← e]; unfold ib; rw [hiv]; rfl) dc))) ?_;refine oA (KC (KA ?_));refine oP (KF rfl rfl (Ko (b:=1) om)) ?_;refine oM (KC ?_)
   exact ⟨(x.1+1,r1),by dsimp only; omega,by dsimp only; omega,Ka ⟨rfl,rfl,rfl,rfl,rfl,rfl,rfl,rfl,rfl,trivial⟩ mS⟩
  have h37:¬ x.1<n:=h37
  refine Kc (KB ?_)
  have hx1n:x.1 = n:=by omega
  rw [hx1n,pk_last hi,pk_last hi,pk_last hi]
  refine KA (oM ?_);refine oP (KK (KF rfl rfl (Kz (b:=1))) (congrArg Value.bool (ib_eq (E i)))) ?_;refine oP (KE (o':=18) u47 rfl rfl rfl sz_4 dc) ?_;refine LOps.step rfl (KZ rfl rfl rfl sz_4 (by repeat (first|exact Sh _|apply St_)) (by rw [KW]; decide) (by exact pt_set2 _ _ _ _) (by simp) ?_);refine KC (KB (KA ?_));refine oD dNb ?_;refine LOps.step rfl (sA rfl rfl sz_47 (by exact KAD _ _ _) (hl:=by exact KW _ _ _) (h:=?_));refine oP (KO (v:=.int .i64 ((0:Nat):Int)) rfl) ?_;refine KC (KM ?_)
  exact ⟨[_,_],.cons ⟨_,_,_,rfl,mM,by exact KD u47 rfl sz_47⟩ (.cons rfl .nil),fun a w' hr=>hr.tr mM⟩
end Go.Proofs.YtnpeokiboiclfaaGreat
set_option linter.unusedVariables false
set_option linter.unusedSimpArgs false
set_option maxRecDepth 20000
namespace Go.Proofs.YtnpeokiboiclfaaGreat
open Go Go.RowKit
open Grp
def dg (K m i:Nat):Nat:=K/2^((m-1-i)*4)%16
theorem dg_lt (K m i:Nat):dg K m i<16:=Nat.mod_lt _ dc
theorem and15 (A:Nat):limb A 0 &&& 15 = A%16:=by
  rw [show 15 = 2^4-1 from rfl,Nat.and_two_pow_sub_one_eq_mod]
  unfold limb
  rw [Nat.mul_zero,Nat.pow_zero,Nat.div_one,show (2:Nat)^4 = 16 from rfl]
  omega
theorem vec_snoc {k:IntKind} {f:Nat→Nat} {n x:Nat} (h:x = f n) (rest:List Value):(vec k n f++[Value.int k ((x:Nat):Int)])++rest = vec k (n+1) f++rest:=by
  subst h
  congr 1
  simp [vec,List.range_succ]
theorem vec_first {k:IntKind} {f:Nat→Nat} {x:Nat} (h:x = f 0) (rest:List Value):[Value.int k ((x:Nat):Int)]++rest = vec k (0+1) f++rest:=by
  subst h; rfl
structure DigS where
  j:Nat
  bd:Nat
  cap:Nat
  rest:List Value
theorem dig_cases (x:Option DigS) (m:Nat):x = none∨(∃ j bd cap rest,x = some ⟨j,bd,cap,rest⟩∧j<m)∨(∃ j bd cap rest,x = some ⟨j,bd,cap,rest⟩∧m≤j):=by
  rcases x with _|⟨j,bd,cap,rest⟩
  · exact .inl rfl
  · rcases Nat.lt_or_ge j m with h|h
    · exact .inr (.inl ⟨j,bd,cap,rest,rfl,h⟩)
    · exact .inr (.inr ⟨j,bd,cap,rest,rfl,h⟩)
theorem Brings.one {w w':World} {b:Nat} {B:Blk} (hb:Below w.heap.size w w') (h1:(Item.blk b B).holds w') (n1:w.heap.size≤b):Brings w [] [.blk b B] w':=by
  have key:∀ x,x∈[Item.blk b B]→∀ k,k∈x.fp→w.heap.size≤k:=fun x hx k hk=>by
    obtain rfl:x = _:=by simpa using hx
    obtain rfl:k = b:=by simpa [Item.fp] using hk
    exact n1
  exact ⟨hb, fun x hx => (by obtain rfl : x = _ := by simpa using hx
                             exact h1),fun x hx k hk=>.inl (key x hx k hk),fun x hx _=>key x hx,List.pairwise_singleton _ _⟩
theorem c_wide4  (w:World)  : Calls Tryz.prog 182 ([.int .i64 ((4:Nat):Int)]:List Value).toArray w (fun e w'=>e = .returned (.bool true)∧Below w.heap.size w w'):=by
  refine KX (N:=9) (rs:=[.tmp 2]) [] Tryz.func182 rfl Tryz.ntmps182 Tryz.results182 (Nb rfl) trivial rfl ?_
  refine KB (KA (oA (KC (KB (KA (oM ?_))))));refine oP (KF (v:=.bool true) rfl rfl (br_t (br_geq (b:=1)) dc)) ?_;refine oM ?_;refine oGM ?_;refine oGP (KF (v:=.bool true) rfl rfl (br_t (br_leq (b:=6)) dc)) ?_;refine oP (Kj rfl rfl) ?_;refine oA (KC (KM ?_));refine ⟨[_],.cons rfl .nil,fun a w' hr=>⟨?_,hr.fr.below⟩⟩
  rfl
theorem c_Digits (K B m:Nat) (hK:K<W9) (hB:1≤B) (hB2:B≤576) (hKB:blen K≤B) (hm:(B+3)/4 = m) (w:World)  : Calls Tryz.prog 141 ([natV K,.int .i64 ((B:Nat):Int),.int .i64 ((4:Nat):Int)]:List Value).toArray w (fun e w'=>∃ v its,(fun v its=>∃ bd cap rest,v = .tuple #[.slice (some ⟨bd,0,none⟩) m cap,.int .i64 ((0:Nat):Int)]∧its = [.blk bd ⟨true,vec .i64 (m) (dg K m)++rest,3,(0,0)⟩]) v its∧e = .returned v∧Brings w [] its w'):=by
  refine KX (N:=61) (rs:=[.tmp 6,.tmp 7]) [] Tryz.func141 rfl Tryz.ntmps141 Tryz.results141 (Nb rfl) trivial rfl ?_
  refine KB (KA ?_);refine oS (mB (fun b3=>?_));refine oA ?_;refine oP (KO (v:=.int .i64 ((0:Nat):Int)) rfl) ?_;refine KC (KB (KB (KA (oM ?_))));refine oS (cF rfl en_182 rfl (fun w hw=>c_wide4 w) ?_);refine oP (KK (KAK rfl) (show _ = Value.bool false from rfl)) ?_;refine oM ?_;refine oGM ?_;refine oGP (KF (v:=.bool false) rfl rfl (br_f (KAF (b:=1)) om)) ?_;refine oP (KV rfl rfl) ?_;refine oM ?_;refine oGM ?_;refine oGP (KF (v:=.bool false) rfl rfl (br_f (br_gtr (b:=576)) om)) ?_;refine oP (KV rfl rfl) ?_;refine oM ?_;refine KAA rfl rfl dNa (Nb rfl) ?_;refine oGS (cF rfl en_81 rfl (fun w hw=>c_nat_Bits K hK w) ?_);refine oGM ?_;refine oGP (KF (v:=.bool false) rfl rfl (br_f br_gtr om)) ?_;refine oP (KV rfl rfl) ?_;refine KC ?_;refine KH rfl ?_;refine KN (KB (KA (oA (KC (KB (KB (KA (oM (oM ?_)))))))));refine oP (KF rfl rfl (Ko om)) ?_;refine oP (KF rfl rfl (KAb (b:=1) om om)) ?_
  refine oM ?_;refine oP (KK (KF rfl rfl (br_quo (b:=4) om om)) (vi (b:=m) om)) ?_;refine oP (KF (v:=.int .i64 (((m:Nat):Int)-1)) rfl rfl (br_subI om om)) ?_;refine oA (KC (LCode.block ?_));refine Ke (α:=Option DigS) (fun x=>match x with|none=>True|some y=>1≤y.j∧y.j≤m∧y.j+y.rest.length = y.cap) (fun x=>match x with|none=>⟨[(1,.int .i64 ((B:Nat):Int)),(2,.int .i64 ((4:Nat):Int)),(3,.pointer (some ⟨b3,0,none⟩)),(8,.slice none 0 0),(9,.int .i64 (((m:Nat):Int)-1))],[.blk b3 ⟨true,natL K,33,(0,0)⟩]⟩|some y=>⟨[(1,.int .i64 ((B:Nat):Int)),(2,.int .i64 ((4:Nat):Int)),(3,.pointer (some ⟨b3,0,none⟩)),(8,.slice (some ⟨y.bd,0,none⟩) y.j y.cap),(9,.int .i64 (((m-y.j:Nat):Int)-1))],[.blk y.bd ⟨true,vec .i64 (y.j) (dg K m)++y.rest,3,(0,0)⟩,.blk b3 ⟨true,natL K,33,(0,0)⟩]⟩) (fun x=>match x with|none=>m+1|some y=>m-y.j) (none) (trivial) (Ka ⟨rfl,rfl,rfl,rfl,rfl,trivial⟩ mS) ?_
  intro x hx
  refine KB (KB ?_)
  rcases dig_cases x m with rfl|⟨j,bd,cap,rest,rfl,hjm⟩|⟨j,bd,cap,rest,rfl,hjm⟩
  ·
   obtain ⟨z,hz⟩:∃ z,m = z+1:=⟨m-1,by omega⟩
   refine KA (oM ?_);refine oP (KF (v:=.bool true) rfl rfl (by simp [Kt]; omega)) ?_;refine KC ?_;refine KT rfl ?_;refine KN (KB (LCode.block (KB (KA ?_))));refine oD dNa ?_;refine oP (Ki (v:=.int .i64 ((z:Nat):Int)) (by show some _ = some _; congr 2; omega)) ?_;refine oM ?_;refine oP (KF rfl rfl (br_mul om)) ?_;refine oP (KK (Det.min rfl rfl) (show _ = Value.int .i64 ((z*4:Nat):Int) by rw [if_neg om])) ?_;refine oS (cF rfl en_83 rfl (fun w hw=>c_nat_Shr K (z*4) hK om w) ?_);refine oM ?_;refine oP (Det.extract rfl rfl) ?_;refine oP (Det.extract rfl rfl) ?_;refine oS (mk (KL zr_33) (fun b10=>?_));refine LOps.step rfl (sA rfl rfl sz_33 mO (hl:=mL) (h:=?_));refine oA (KC ?_);refine rD [10] ?_;refine aM 0 ?_;refine aP 1 rfl (KE (o':=0) u33 rfl rfl rfl sz_31 dc) ?_;refine aP 2 rfl (KP (i:=0) u31 sz_30 rfl rfl dc) ?_
   refine aM 4 ?_;refine aP 5 rfl (KK (KF rfl rfl (br_shl64 (a:=1) (b:=4))) (vi (b:=16) dc)) ?_;refine aP 6 rfl (KK (KF rfl rfl (br_sub64 (a:=16) (b:=1) dc)) (vi (b:=15) dc)) ?_;refine aO 3 rfl (LStep.det (dL rfl (hv:=KJ u30 rfl (by exact KY _ dc))) (Nb rfl) ?_);refine aP 7 rfl (KK (KF rfl rfl (br_and64 (b:=15) (limb_lt _ _) dc)) (vi (b:=K/2^(z*4)%16) (and15 _))) ?_;refine aP 8 rfl (Det.convi u30 u3 rfl om) ?_;refine aO 9 rfl (mk (KAc u76 inf_3 rfl rfl rfl rfl dc rfl) (fun b58=>?_));refine aL 10 rfl (LStepW.appendNil (news:=[.int .i64 ((K/2^(z*4)%16:Nat):Int)]) rfl rfl u76 inf_3 rfl mM rfl dc dc dc (Nb rfl) ?_)
   intro b1 cap1 rest1 hc1
   refine aA 11 ?_;refine aE ?_;refine KA ?_;refine oP (Ki (v:=.int .i64 ((z:Nat):Int)) (by show some _ = some _; congr 2; omega)) ?_;refine oP (KF (v:=.int .i64 (((z:Nat):Int)-1)) rfl rfl (br_subI om om)) ?_;refine oA (KC ?_)
   obtain rfl:m-(0+1) = z:=by omega
   exact ⟨some ⟨0+1,b1,cap1,rest1⟩,⟨Nat.le_refl _,by show 0+1≤m; omega,by show 0+1+rest1.length = cap1; have h1:=hc1; simp at h1; omega⟩,by show m-(0+1)<m+1; omega,KAC (Sub.cells (b:=b1) (cs':=vec .i64 (0+1) (dg K m)++rest1) (by repeat (first|exact Sh _|apply St_)) (vec_first rfl _)) (Ka ⟨rfl,rfl,rfl,rfl,rfl,trivial⟩ mS)⟩
  ·
   obtain ⟨hj1,hjn,hcap⟩:=hx
   dsimp only at hj1 hjn hcap
   dsimp only
   obtain ⟨z,hz⟩:∃ z,m-j = z+1:=⟨m-j-1,by omega⟩
   refine KA (oM ?_);refine oP (KF (v:=.bool true) rfl rfl (by simp [Kt]; omega)) ?_;refine KC ?_;refine KT rfl ?_;refine KN (KB (LCode.block (KB (KA ?_))));refine oD dNa ?_;refine oP (Ki (v:=.int .i64 ((z:Nat):Int)) (by show some _ = some _; congr 2; omega)) ?_;refine oM ?_;refine oP (KF rfl rfl (br_mul om)) ?_;refine oP (KK (Det.min rfl rfl) (show _ = Value.int .i64 ((z*4:Nat):Int) by rw [if_neg om])) ?_;refine oS (cF rfl en_83 rfl (fun w hw=>c_nat_Shr K (z*4) hK om w) ?_);refine oM ?_;refine oP (Det.extract rfl rfl) ?_;refine oP (Det.extract rfl rfl) ?_;refine oS (mk (KL zr_33) (fun b10=>?_));refine LOps.step rfl (sA rfl rfl sz_33 mO (hl:=mL) (h:=?_));refine oA (KC ?_);refine rD [10] ?_;refine aM 0 ?_;refine aP 1 rfl (KE (o':=0) u33 rfl rfl rfl sz_31 dc) ?_;refine aP 2 rfl (KP (i:=0) u31 sz_30 rfl rfl dc) ?_
   refine aM 4 ?_;refine aP 5 rfl (KK (KF rfl rfl (br_shl64 (a:=1) (b:=4))) (vi (b:=16) dc)) ?_;refine aP 6 rfl (KK (KF rfl rfl (br_sub64 (a:=16) (b:=1) dc)) (vi (b:=15) dc)) ?_;refine aO 3 rfl (LStep.det (dL rfl (hv:=KJ u30 rfl (by exact KY _ dc))) (Nb rfl) ?_);refine aP 7 rfl (KK (KF rfl rfl (br_and64 (b:=15) (limb_lt _ _) dc)) (vi (b:=K/2^(z*4)%16) (and15 _))) ?_;refine aP 8 rfl (Det.convi u30 u3 rfl om) ?_;refine aO 9 rfl (mk (KAc u76 inf_3 rfl rfl rfl rfl dc rfl) (fun b58=>?_));refine aL 10 rfl (LStepW.append (xs:=vec .i64 j (dg K m)) (rest:=rest) (news:=[.int .i64 ((K/2^(z*4)%16:Nat):Int)]) rfl rfl u76 inf_3 rfl mP mM (KQ _ _ _) (by rw [KQ]; exact hcap) rfl (Kl rfl Kq) om om (Nb rfl) ?_)
   intro b1 cap1 rest1 hc1
   refine aA 11 ?_;refine aE ?_;refine KA ?_;refine oP (Ki (v:=.int .i64 ((z:Nat):Int)) (by show some _ = some _; congr 2; omega)) ?_;refine oP (KF (v:=.int .i64 (((z:Nat):Int)-1)) rfl rfl (br_subI om om)) ?_;refine oA (KC ?_)
   obtain rfl:m-(j+1) = z:=by omega
   exact ⟨some ⟨j+1,b1,cap1,rest1⟩,⟨by show 1≤j+1; omega,by show j+1≤m; omega,by show j+1+rest1.length = cap1; have h1:=hc1; rw [KQ] at h1; exact h1⟩,by show m-(j+1)<m-j; omega,KAC (Sub.cells (b:=b1) (cs':=vec .i64 (j+1) (dg K m)++rest1) (by repeat (first|exact Sh _|apply St_)) (vec_snoc (by unfold dg; rw [show m-1-j = m-(j+1) by omega]) _)) (Ka ⟨rfl,rfl,rfl,rfl,rfl,trivial⟩ mS)⟩
  obtain ⟨hj1,hjn,hcap⟩:=hx
  dsimp only at hj1 hjn hcap
  dsimp only
  refine KA (oM ?_);refine oP (KF (v:=.bool false) rfl rfl (by simp [Kt]; omega)) ?_;refine KC ?_;refine KH rfl ?_;refine Kc (KB (KA (oM (oA ?_))));refine oP (KO (v:=.int .i64 ((0:Nat):Int)) rfl) ?_;refine KC (KM ?_)
  obtain rfl:j = m:=by omega
  exact ⟨[_,_],.cons rfl (.cons rfl .nil),fun a w' hr=>⟨_,_,⟨bd,cap,rest,rfl,rfl⟩,rfl,Brings.one hr.fr.below (hr.hp (.blk bd ⟨true,_,_,_⟩) mM) (hr.new (b:=bd) (B:=⟨true,_,_,_⟩) mM rfl)⟩⟩
def evN:Nat→List Nat
  | 0=>[]
  | n+1=>evN n++List.range 16
theorem evN_length:∀ n,(evN n).length = n*16
  | 0=>rfl
  | n+1=>by show (evN n++List.range 16).length = _; rw [List.length_append,evN_length n,List.length_range]; omega
structure MulS (p:Nat) where
  i:Nat
  T:Fin p×Fin p×Fin p
  r:TrRow
theorem mul_top {V:Cv} (hok:V.Ok) {P:Pt V.p} {K m:Nat} (hK:K<V.n) (hm:(blen V.n+3)/4 = m):RepT V (tripF (.inf:Pt V.p)) (pmul V.A P (K/2^((m-0)*4))):=by
  have h1:=lt_blen V.n
  have h2:2^blen V.n≤2^((m-0)*4):=Nat.pow_le_pow_right dc om
  rw [Nat.div_eq_of_lt (Nat.lt_of_lt_of_le (Nat.lt_trans hK h1) h2)]
  exact RepT.trip hok trivial
theorem mul_twice {V:Cv} (hok:V.Ok) {P:Pt V.p} (hP:On V.A V.B P) {q j:Nat} {T:Fin V.p×Fin V.p×Fin V.p} (h:RepT V T (pmul V.A P (q*2^j))):RepT V (sumT V T T) (pmul V.A P (q*2^(j+1))):=by
  have:=RepT.sum hok h h
  rwa [← pmul_add hok.crv hP,← Nat.mul_two,Nat.mul_assoc,← Nat.pow_succ] at this
theorem mul_digit {V:Cv} (hok:V.Ok) {P:Pt V.p} (hP:On V.A V.B P) {K m i:Nat} (hi:i<m) {T:Fin V.p×Fin V.p×Fin V.p} (h:RepT V T (pmul V.A P (K/2^((m-i)*4)*2^4))):RepT V (sumT V T (tripF (mulE V P (dg K m i)))) (pmul V.A P (K/2^((m-(i+1))*4))):=by
  have:=RepT.sum hok h (RepT.trip hok (hok.mul hP (dg K m i)))
  rw [← pmul_add hok.crv hP] at this
  have e:K/2^((m-i)*4)*2^4+dg K m i = K/2^((m-(i+1))*4):=by
    unfold dg
    rw [show m-1-i = m-(i+1) by omega,show (m-i)*4 = (m-(i+1))*4+4 by omega,Nat.pow_add,← Nat.div_div_eq_div_mul,show (2:Nat)^4 = 16 from rfl]
    generalize K/2^((m-(i+1))*4) = N
    omega
  rwa [e] at this
theorem mul_all {V:Cv} {P:Pt V.p} {K m i:Nat} {T:Fin V.p×Fin V.p×Fin V.p} (hi:i = m) (h:RepT V T (pmul V.A P (K/2^((m-i)*4)))):RepT V T (pmul V.A P K):=by
  subst hi
  rwa [Nat.sub_self,Nat.zero_mul,Nat.pow_zero,Nat.div_one] at h
theorem dig_get {K m i:Nat} {rest:List Value} (h:i<m):(vec .i64 m (dg K m)++rest)[i+0]? = some (.int .i64 ((dg K m i:Nat):Int)):=by
  rw [Nat.add_zero,List.getElem?_append_left (by rw [KQ]; exact h)]
  exact KU _ _ _ h
theorem c_mTimes (tb:Option Nat) (tr:TrRow) (l:List Nat) (V:Cv) (b f bd:Nat) (hok:V.Ok) (K m:Nat) (P:Pt V.p) (bt br cap:Nat) (rest:List Value) {wr1 wr2:Bool} (hP:On V.A V.B P) (hK:K<V.n) (hm:(blen V.n+3)/4 = m) (w:World) (h0:(trI tb tr l).holds w) (hl:l.length≤80000000) (hb:(Item.blk b ⟨false,opL V f,100,(0,0)⟩).holds w) (hf:(Item.blk f ⟨false,fldL V.p bd,165,(0,0)⟩).holds w) (hbd:(Item.blk bd ⟨false,dvL V.p,269,(0,0)⟩).holds w) (h1:(Item.blk bt ⟨wr1,[.slice (some ⟨br,0,none⟩) 16 cap],220,(0,0)⟩).holds w) (h2:(Item.blk br ⟨wr2,tabL (mulE V (P)) 16++rest,47,(0,0)⟩).holds w) (o0:Out tb tr (Item.blk b ⟨false,opL V f,100,(0,0)⟩)) (o1:Out tb tr (Item.blk f ⟨false,fldL V.p bd,165,(0,0)⟩)) (o2:Out tb tr (Item.blk bd ⟨false,dvL V.p,269,(0,0)⟩)) (n1:Out tb tr (Item.blk bt ⟨wr1,[.slice (some ⟨br,0,none⟩) 16 cap],220,(0,0)⟩)) (n2:Out tb tr (Item.blk br ⟨wr2,tabL (mulE V (P)) 16++rest,47,(0,0)⟩)):Calls Tryz.prog 87 ([trV tb,.pointer (some ⟨b,0,none⟩),natV K,.pointer (some ⟨bt,0,none⟩)]:List Value).toArray w (fun e w'=>TrR w tb tr (l++evN m) (ptP (pmul V.A P K)) e w'):=by
  have hbb:=hok.bounds
  have hnW:V.n<W9:=KAE hbb.2.2.2.2.2.2.1
  have hbl:=KAQ hnW
  have hK9:=Nat.lt_trans hK hnW
  have hkb:blen K≤blen V.n:=blen_le (Nat.lt_trans hK (lt_blen _))
  have hbl1:1≤blen V.n:=Nat.pos_of_ne_zero (blen_ne om)
  refine calls_tr (N:=56) (rs:=[.cell 8 47]) tb tr l [.blk b ⟨false,opL V f,100,(0,0)⟩,.blk f ⟨false,fldL V.p bd,165,(0,0)⟩,.blk bd ⟨false,dvL V.p,269,(0,0)⟩,.blk bt ⟨false,[.slice (some ⟨br,0,none⟩) 16 cap],220,(0,0)⟩,.blk br ⟨false,tabL (mulE V (P)) 16++rest,47,(0,0)⟩] Tryz.func87 rfl Tryz.ntmps87 Tryz.results87 (Nb rfl) h0 ⟨hb,hf,hbd,h1,h2,trivial⟩ rfl ⟨o0,o1,o2,n1,n2,trivial⟩ ?_
  refine KB (KA ?_);refine oS (mB (fun b6=>?_));refine oS (mk (KL zr_47) (fun b8=>?_));refine KC (KB ?_);refine rD [] ?_;refine aD 0 rfl dNa ?_;refine aM 1 ?_;refine aP 2 rfl (KG rfl) ?_;refine aP 3 rfl (KE (o':=0) u100 rfl rfl rfl sz_53 dc) ?_;refine aP 4 rfl (KE (o':=56) u53 rfl rfl rfl sz_3 dc) ?_;refine aD 5 rfl (dL rfl (hv:=KJ u3 rfl (by exact cvC_gt_bits _ _ _ _ _ _ _ _ _ _ _ _ _))) ?_;refine aO 6 rfl (cC rfl en_141 rfl (fun w hw=>bringsC (c_Digits K (blen V.n) m hK9 hbl1 om hkb hm w) _) ?_)
  rintro _ _ ⟨ds,dcap,drest,rfl,rfl⟩
  refine aM 7 ?_;refine aP 8 rfl (Det.extract rfl rfl) ?_;refine aP 9 rfl (Det.extract rfl rfl) ?_;refine aA 10 ?_;refine aA 11 ?_;refine aE ?_;refine KB (KA ?_);refine oS (cF rfl en_99 rfl (fun w hw=>c_NoneF hok w) ?_);refine oS (mk (KL zr_135) (fun b11=>?_));refine LOps.step rfl (sA rfl rfl KAJ (by exact pjFL_one _) (hl:=by exact Kx _) (h:=?_));refine KC (KB (KB (KA (oM ?_))));refine oP (Det.len u76 rfl) ?_;refine oP (Ki (v:=.int .i64 ((0:Nat):Int)) rfl) ?_;refine KC (LCode.block ?_);refine Ke (α:=MulS V.p) (fun x=>x.i≤m∧RepT V x.T (pmul V.A P (K/2^((m-x.i)*4)))) (fun x=>⟨[(0,trV tb),(1,.pointer (some ⟨b,0,none⟩)),(3,.pointer (some ⟨bt,0,none⟩)),(8,.pointer (some ⟨b8,0,none⟩)),(11,.pointer (some ⟨b11,0,none⟩)),(27,.slice (some ⟨ds,0,none⟩) m dcap),(28,.int .i64 ((m:Nat):Int)),(29,.int .i64 ((x.i:Nat):Int))],[trI tb (x.r) (l++evN x.i),.blk b11 ⟨true,pjFL x.T,135,(0,0)⟩,.blk b8 ⟨true,vec .u64 9 (fun _=>0)++(vec .u64 9 (fun _=>0)++[Value.bool false]),47,(0,0)⟩,.blk ds ⟨true,vec .i64 (m) (dg K m)++drest,3,(0,0)⟩,.blk b ⟨false,opL V f,100,(0,0)⟩,.blk f ⟨false,fldL V.p bd,165,(0,0)⟩,.blk bd ⟨false,dvL V.p,269,(0,0)⟩,.blk bt ⟨false,[.slice (some ⟨br,0,none⟩) 16 cap],220,(0,0)⟩,.blk br ⟨false,tabL (mulE V (P)) 16++rest,47,(0,0)⟩]⟩) (fun x=>m-x.i) (⟨0,tripF (.inf:Pt V.p),tr⟩) (⟨Nat.zero_le _,mul_top hok hK hm⟩) (by dsimp only [evN]; rw [List.append_nil]; exact Ka ⟨rfl,rfl,rfl,rfl,rfl,rfl,rfl,rfl,trivial⟩ mS) ?_
  rintro x ⟨hx1,hx2⟩
  refine KB (KA ?_);refine oP (KF rfl rfl (KAF)) ?_;refine KC (KB ?_)
  first|refine KR rfl (fun h30=>?_) (fun h30=>?_)|refine KS rfl (fun h30=>?_) (fun h30=>?_)
  ·
   have h30:x.i<m:=h30
   refine KN (KB (LCode.block (KB (KA ?_))));refine oP (Det.indexS u76 sz_3 rfl rfl om) ?_;refine oD (dL rfl (hv:=KJ u3 rfl (by exact dig_get om))) ?_;refine oA (KC (KB (KB (KA ?_))));refine oP (Ki (v:=.int .i64 ((0:Nat):Int)) rfl) ?_;refine KC (LCode.block ?_);refine Ke (α:=Nat×(Fin V.p×Fin V.p×Fin V.p)) (fun y=>y.1≤4∧RepT V y.2 (pmul V.A P (K/2^((m-x.i)*4)*2^y.1))) (fun y=>⟨[(13,.int .i64 ((dg K m x.i:Nat):Int)),(33,.int .i64 ((y.1:Nat):Int)),(0,trV tb),(1,.pointer (some ⟨b,0,none⟩)),(3,.pointer (some ⟨bt,0,none⟩)),(8,.pointer (some ⟨b8,0,none⟩)),(11,.pointer (some ⟨b11,0,none⟩)),(27,.slice (some ⟨ds,0,none⟩) m dcap),(28,.int .i64 ((m:Nat):Int)),(29,.int .i64 ((x.i:Nat):Int))],[trI tb (x.r) (l++evN x.i),.blk b11 ⟨true,pjFL y.2,135,(0,0)⟩,.blk b8 ⟨true,vec .u64 9 (fun _=>0)++(vec .u64 9 (fun _=>0)++[Value.bool false]),47,(0,0)⟩,.blk ds ⟨true,vec .i64 (m) (dg K m)++drest,3,(0,0)⟩,.blk b ⟨false,opL V f,100,(0,0)⟩,.blk f ⟨false,fldL V.p bd,165,(0,0)⟩,.blk bd ⟨false,dvL V.p,269,(0,0)⟩,.blk bt ⟨false,[.slice (some ⟨br,0,none⟩) 16 cap],220,(0,0)⟩,.blk br ⟨false,tabL (mulE V (P)) 16++rest,47,(0,0)⟩]⟩) (fun y=>4-y.1) ((0,x.T)) (⟨Nat.zero_le _,by dsimp only; rw [Nat.pow_zero,Nat.mul_one]; exact hx2⟩) (Ka ⟨rfl,rfl,rfl,rfl,rfl,rfl,rfl,rfl,rfl,rfl,trivial⟩ mS) ?_
   rintro y ⟨hy1,hy2⟩
   refine KB (KA ?_);refine oP (KF rfl rfl (KAF (b:=4))) ?_;refine KC (KB ?_)
   first|refine KR rfl (fun h34=>?_) (fun h34=>?_)|refine KS rfl (fun h34=>?_) (fun h34=>?_)
   ·
    have h34:y.1<4:=h34
    refine KN (KB (LCode.block (KA (oM ?_))));refine oD (dL rfl (hv:=by exact KD u135 rfl KAJ)) ?_;refine oD (dL rfl (hv:=by exact KD u135 rfl KAJ)) ?_;refine oS (cF rfl en_100 rfl (fun w hw=>c_SumT V b f bd hok (y.2) (y.2) w (mC hw) (mC hw) (mC hw)) ?_);refine LOps.step rfl (sA rfl rfl KAJ (by exact pjFL_one _) (hl:=by exact Kx _) (h:=?_));refine KC (KA ?_);refine oP (KF rfl rfl (Ko (b:=1) om)) ?_;refine oM (KC ?_)
    exact ⟨(y.1+1,sumT V y.2 y.2),⟨by dsimp only; omega,mul_twice hok hP hy2⟩,by dsimp only; omega,Ka ⟨rfl,rfl,rfl,rfl,rfl,rfl,rfl,rfl,rfl,rfl,trivial⟩ mS⟩
   have h34:¬ y.1<4:=h34
   refine Kc (KB ?_)
   obtain ⟨j,T⟩:=y
   obtain rfl:j = 4:=by omega
   refine KA (oM (oM (oM ?_)));refine LOps.step rfl (LStepW.callT (first:=[]) (r:=x.r) (l:=l++evN x.i) (l':=l++evN (x.i+1)) rfl en_142 rfl (Nb rfl) mP (fun w hw hn=>by rw [show l++evN (x.i+1) = (l++evN x.i)++List.range 16 from (List.append_assoc _ _ _).symm]; exact c_tabPick tb x.r _ bt br cap rest V hok (mulE V (P)) 16 (dg K m x.i) (dg_lt _ _ _) dc w (mC hw) (mC hw) (mC hw) (hn _ mM) (hn _ mM) (by rw [List.length_append,evN_length]; omega)) ?_)
   intro r1
   refine oM ?_;refine oP (Det.extract rfl rfl) ?_;refine oP (Det.extract rfl rfl) ?_;refine oS (mk (KL zr_47) (fun b14=>?_));refine LOps.step rfl (sA rfl rfl sz_47 mO (hl:=by exact KW _ _ _) (h:=?_));refine oA (KC ?_);refine rD [5] ?_;refine aM 0 ?_;refine aD 1 rfl (dL rfl (hv:=by exact KD u135 rfl KAJ)) ?_;refine aD 2 rfl dNb ?_;refine aO 3 rfl (cF rfl en_67 rfl (fun w hw=>c_Triple V hok (mulE V (P) (dg K m x.i)) w) ?_);refine aO 4 rfl (cF rfl en_100 rfl (fun w hw=>c_SumT V b f bd hok (T) (tripF (mulE V (P) (dg K m x.i))) w (mC hw) (mC hw) (mC hw)) ?_);refine aL 5 rfl (sA rfl rfl KAJ (by exact pjFL_one _) (hl:=by exact Kx _) (h:=?_));refine aE ?_;refine KA ?_;refine oP (KF rfl rfl (Ko (b:=1) om)) ?_;refine oM (KC ?_)
   exact ⟨⟨x.i+1,sumT V T (tripF (mulE V (P) (dg K m x.i))),r1⟩,⟨by dsimp only; omega,mul_digit hok hP h30 hy2⟩,by dsimp only; omega,Ka ⟨rfl,rfl,rfl,rfl,rfl,rfl,rfl,rfl,trivial⟩ mS⟩
  have h30:¬ x.i<m:=h30
  refine Kc (KB ?_)
  have hxm:x.i = m:=by omega
  refine KA (oM ?_);refine oD (dL rfl (hv:=by exact KD u135 rfl KAJ)) ?_;refine oS (cF rfl en_65 rfl (fun w hw=>c_PlainT V b f bd hok (x.T) (pmul V.A P K) w (mC hw) (mC hw) (mC hw) (mul_all hxm hx2)) ?_);refine LOps.step rfl (sA rfl rfl sz_47 mO (hl:=by simp [KW,KQ]) (h:=?_));refine KC (KM ?_)
  exact ⟨[_],.cons ⟨_,_,_,rfl,mM,by exact KD u47 rfl sz_47⟩ .nil,fun a w' hr=>by
    have hq:=hr.tr (v:=ptP (pmul V.A P K)) (r':=x.r) (l:=l++evN x.i) mM
    rwa [hxm] at hq⟩
open Grp
theorem c_mMul (tb:Option Nat) (tr:TrRow) (l:List Nat) (id:Int) (V:Cv) (K:Nat) (P:Pt V.p) (m:Nat) (hm:(blen V.n+3)/4 = m) (w:World) (h:cvI id = some V) (hP:On V.A V.B P) (hK:K<V.n) (h0:(trI tb tr l).holds w) (hl:l.length≤80000000):Calls Tryz.prog 58 ([trV tb,.int .i64 id,natV K,ptP P]:List Value).toArray w (fun e w'=>TrR w tb tr (l++evN m) (.tuple #[ptP (pmul V.A P K),.int .i64 ((0:Nat):Int)]) e w'):=by
  obtain ⟨hok,hid⟩:=cvI_ok h
  have hbb:=hok.bounds
  have hpW:V.p<W9:=KAE hbb.2.1
  have hnW:V.n<W9:=KAE hbb.2.2.2.2.2.2.1
  have hbl:=KAQ hnW
  have hnb:nby V.n≤72:=by (unfold nby; omega)
  refine calls_tr (N:=40) (rs:=[.cell 8 47,.tmp 9]) tb tr l [] Tryz.func58 rfl Tryz.ntmps58 Tryz.results58 (Nb rfl) h0 trivial rfl trivial ?_
  refine KB (KA ?_);refine oS (mB (fun b6=>?_));refine oS (mB (fun b7=>?_));refine oS (mk (KL zr_47) (fun b8=>?_));refine oP (KO (v:=.int .i64 ((0:Nat):Int)) rfl) ?_;refine KC (KB (KA (oM ?_)));refine oS (oOpen h rfl rfl (fun b f bd=>?_));refine oA (KC (KB (LCode.block (KB (KA (oM ?_))))));refine oP (KK (KAN u81 rfl rfl) (show _ = Value.bool false from rfl)) ?_;refine oA (KC ?_);refine KH rfl ?_;refine KB (KA (oM ?_));refine oD dNb ?_;refine oS (cF rfl en_55 rfl (fun w hw=>c_cOnP V b f bd hok (P) w (mC hw) (mC hw) (mC hw) hP) ?_);refine oP (KK (KAK rfl) (show _ = Value.bool false from rfl)) ?_;refine oA (KC ?_);refine KH rfl ?_;refine KB ?_;refine rD [] ?_;refine aD 0 rfl dNa ?_;refine aM 1 ?_;refine aP 2 rfl (KG rfl) ?_;refine aP 3 rfl (KE (o':=0) u100 rfl rfl rfl sz_53 dc) ?_
  refine aP 4 rfl (KE (o':=28) u53 rfl rfl rfl sz_33 dc) ?_;refine aD 5 rfl (dL rfl (hv:=by exact cvC_ld_n _ _ _ _ _ _ _ _ _ _ _ _ _ _ _ _)) ?_;refine aO 6 rfl (cF rfl en_46 rfl (fun w hw=>c_nat_Cmp K V.n (Nat.lt_trans hK hnW) hnW w) ?_);refine aP 7 rfl (KF (v:=.bool false) rfl rfl (br_f cmp_geq (Nat.not_le_of_gt hK))) ?_;refine aA 8 ?_;refine aE ?_;refine KH rfl ?_;refine KN (KB ?_);refine rD [6,7] ?_;refine aM 0 ?_;refine aM 1 ?_;refine aD 2 rfl dNa ?_;refine aM 3 ?_;refine aO 4 rfl (LStep.det dNb (Nb rfl) ?_);refine aO 5 rfl (cC rfl en_88 rfl (fun w hw=>bringsC (c_tabOf V b f bd hok (P) hP 16 dc dc w (mC hw) (mC hw) (mC hw)) _) ?_)
  rintro _ _ ⟨bt,br,cap,rest,rfl,rfl⟩
  refine aL 6 rfl (LStepW.callT (first:=[]) (r:=tr) (l:=l) (l':=l++evN m) rfl en_87 rfl (Nb rfl) mP (fun w hw hn=>c_mTimes tb tr l V b f bd hok K m (P) bt br cap rest hP hK hm w (mC hw) hl (mC hw) (mC hw) (mC hw) (mC hw) (mC hw) (hn _ mM) (hn _ mM) (hn _ mM) (hn _ mM) (hn _ mM)) ?_)
  intro r1
  refine aL 7 rfl (sA rfl rfl sz_47 (by exact KAD _ _ _) (hl:=by simp [KW,KQ]) (h:=?_));refine aP 8 rfl (KO (v:=.int .i64 ((0:Nat):Int)) rfl) ?_;refine aE ?_;refine KM ?_
  exact ⟨[_,_],.cons ⟨_,_,_,rfl,mM,by exact KD u47 rfl sz_47⟩ (.cons rfl .nil),fun a w' hr=>hr.tr mM⟩
theorem c_bTimes (tb:Option Nat) (tr:TrRow) (l:List Nat) (V:Cv) (b f bd:Nat) (hok:V.Ok) (K:Nat) (hK:K<V.n) (m:Nat) (hm:(blen V.n+3)/4 = m) (w:World) (h0:(trI tb tr l).holds w) (hl:l.length≤80000000) (hb:(Item.blk b ⟨false,opL V f,100,(0,0)⟩).holds w) (hf:(Item.blk f ⟨false,fldL V.p bd,165,(0,0)⟩).holds w) (hbd:(Item.blk bd ⟨false,dvL V.p,269,(0,0)⟩).holds w) (o0:Out tb tr (Item.blk b ⟨false,opL V f,100,(0,0)⟩)) (o1:Out tb tr (Item.blk f ⟨false,fldL V.p bd,165,(0,0)⟩)) (o2:Out tb tr (Item.blk bd ⟨false,dvL V.p,269,(0,0)⟩)):Calls Tryz.prog 42 ([trV tb,.pointer (some ⟨b,0,none⟩),natV K]:List Value).toArray w (fun e w'=>TrR w tb tr (l++evN m) (ptP (pmul V.A V.G K)) e w'):=by
  refine calls_tr (N:=18) (rs:=[.cell 6 47]) tb tr l [.blk b ⟨false,opL V f,100,(0,0)⟩,.blk f ⟨false,fldL V.p bd,165,(0,0)⟩,.blk bd ⟨false,dvL V.p,269,(0,0)⟩] Tryz.func42 rfl Tryz.ntmps42 Tryz.results42 (Nb rfl) h0 ⟨hb,hf,hbd,trivial⟩ rfl ⟨o0,o1,o2,trivial⟩ ?_
  refine KB (KA ?_);refine oS (mB (fun b5=>?_));refine oS (mk (KL zr_47) (fun b6=>?_));refine KC (KB ?_);refine rD [10,11] ?_;refine aM 0 ?_;refine aM 1 ?_;refine aD 2 rfl dNa ?_;refine aM 3 ?_;refine aM 4 ?_;refine aP 5 rfl (KG rfl) ?_;refine aP 6 rfl (KE (o':=0) u100 rfl rfl rfl sz_53 dc) ?_;refine aP 7 rfl (KE (o':=37) u53 rfl rfl rfl sz_47 dc) ?_;refine aO 8 rfl (LStep.det (Det.cast (dL rfl (hv:=by exact cvC_ld_g _ _ _ _ _ _ _ _ _ _ _ _ _ _ _ _)) (g_val hok)) (Nb rfl) ?_);refine aO 9 rfl (cC rfl en_88 rfl (fun w hw=>bringsC (c_tabOf V b f bd hok (V.G) hok.on 16 dc dc w (mC hw) (mC hw) (mC hw)) _) ?_)
  rintro _ _ ⟨bt,br,cap,rest,rfl,rfl⟩
  refine aL 10 rfl (LStepW.callT (first:=[]) (r:=tr) (l:=l) (l':=l++evN m) rfl en_87 rfl (Nb rfl) mP (fun w hw hn=>c_mTimes tb tr l V b f bd hok K m (V.G) bt br cap rest hok.on hK hm w (mC hw) hl (mC hw) (mC hw) (mC hw) (mC hw) (mC hw) (hn _ mM) (hn _ mM) (hn _ mM) (hn _ mM) (hn _ mM)) ?_)
  intro r1
  refine aL 11 rfl (sA rfl rfl sz_47 (by exact KAD _ _ _) (hl:=by simp [KW,KQ]) (h:=?_));refine aE ?_;refine KM ?_
  exact ⟨[_],.cons ⟨_,_,_,rfl,mM,by exact KD u47 rfl sz_47⟩ .nil,fun a w' hr=>hr.tr mM⟩
theorem c_bMul (tb:Option Nat) (tr:TrRow) (l:List Nat) (id:Int) (V:Cv) (K:Nat) (m:Nat) (hm:(blen V.n+3)/4 = m) (w:World) (h:cvI id = some V) (hK:K<V.n) (h0:(trI tb tr l).holds w) (hl:l.length≤80000000):Calls Tryz.prog 24 ([trV tb,.int .i64 id,natV K]:List Value).toArray w (fun e w'=>TrR w tb tr (l++evN m) (.tuple #[ptP (pmul V.A V.G K),.int .i64 ((0:Nat):Int)]) e w'):=by
  obtain ⟨hok,hid⟩:=cvI_ok h
  have hbb:=hok.bounds
  have hpW:V.p<W9:=KAE hbb.2.1
  have hnW:V.n<W9:=KAE hbb.2.2.2.2.2.2.1
  have hbl:=KAQ hnW
  have hnb:nby V.n≤72:=by (unfold nby; omega)
  refine calls_tr (N:=29) (rs:=[.cell 6 47,.tmp 7]) tb tr l [] Tryz.func24 rfl Tryz.ntmps24 Tryz.results24 (Nb rfl) h0 trivial rfl trivial ?_
  refine KB (KA ?_);refine oS (mB (fun b5=>?_));refine oS (mk (KL zr_47) (fun b6=>?_));refine oP (KO (v:=.int .i64 ((0:Nat):Int)) rfl) ?_;refine KC (KB (KA (oM ?_)));refine oS (oOpen h rfl rfl (fun b f bd=>?_));refine oA (KC (KB (LCode.block (KB (KA (oM ?_))))));refine oP (KK (KAN u81 rfl rfl) (show _ = Value.bool false from rfl)) ?_;refine oA (KC ?_);refine KH rfl ?_;refine KB ?_;refine rD [] ?_;refine aD 0 rfl dNa ?_;refine aM 1 ?_;refine aP 2 rfl (KG rfl) ?_;refine aP 3 rfl (KE (o':=0) u100 rfl rfl rfl sz_53 dc) ?_;refine aP 4 rfl (KE (o':=28) u53 rfl rfl rfl sz_33 dc) ?_;refine aD 5 rfl (dL rfl (hv:=by exact cvC_ld_n _ _ _ _ _ _ _ _ _ _ _ _ _ _ _ _)) ?_;refine aO 6 rfl (cF rfl en_46 rfl (fun w hw=>c_nat_Cmp K V.n (Nat.lt_trans hK hnW) hnW w) ?_);refine aP 7 rfl (KF (v:=.bool false) rfl rfl (br_f cmp_geq (Nat.not_le_of_gt hK))) ?_
  refine aA 8 ?_;refine aE ?_;refine KH rfl ?_;refine KN (KB (KA (oM (oM ?_))));refine oD dNa ?_;refine LOps.step rfl (LStepW.callT (first:=[]) (r:=tr) (l:=l) (l':=l++evN m) rfl en_42 rfl (Nb rfl) mP (fun w hw hn=>c_bTimes tb tr l V b f bd hok K hK m hm w (mC hw) hl (mC hw) (mC hw) (mC hw) (hn _ mM) (hn _ mM) (hn _ mM)) ?_)
  intro r1
  refine LOps.step rfl (sA rfl rfl sz_47 (by exact KAD _ _ _) (hl:=by simp [KW,KQ]) (h:=?_));refine oP (KO (v:=.int .i64 ((0:Nat):Int)) rfl) ?_;refine KC (KM ?_)
  exact ⟨[_,_],.cons ⟨_,_,_,rfl,mM,by exact KD u47 rfl sz_47⟩ (.cons rfl .nil),fun a w' hr=>hr.tr mM⟩
theorem c_bMulN (id:Int) (V:Cv) (K:Nat) (R:Pt V.p) (w:World) (h:cvI id = some V) (hK:K<V.n) (hR:pmul V.A V.G K = R):Calls Tryz.prog 24 ([.pointer none,.int .i64 id,natV K]:List Value).toArray w (fun e w'=>e = .returned (.tuple #[ptP R,.int .i64 ((0:Nat):Int)])∧Below w.heap.size w w') :=
  hR ▸ (c_bMul none none [] id V K _ rfl w h hK (trI_nil _ _) (Nat.zero_le _)).mono fun e w' h=>TrR.nil h


open Grp
def pStr (V:Cv) (X Y:Nat) (i sh:Bool):ByteArray:=if (onB V.p V.a V.b X Y i && !i) = true then putS V X Y sh else ⟨#[]⟩
def pErr (V:Cv) (X Y:Nat) (i:Bool):Nat:=if (onB V.p V.a V.b X Y i && !i) = true then 0 else 2101
theorem putV_eq (V:Cv) (X Y:Nat) (i sh:Bool):putV V X Y i sh = .tuple #[.string (pStr V X Y i sh),.int .i64 ((pErr V X Y i:Nat):Int)]:=by
  unfold putV pStr pErr; split <;> rfl
theorem c_s_Put2 (id:Int) (V:Cv) (X Y:Nat) (i sh:Bool) (w:World) (h:cvI id = some V) (hX:X<W9) (hY:Y<W9):Calls Tryz.prog 25 ([.int .i64 id,ptV X Y i,.bool sh]:List Value).toArray w (fun e w'=>e = .returned (.tuple #[.string (pStr V X Y i sh),.int .i64 ((pErr V X Y i:Nat):Int)])∧Below w.heap.size w w'):=by
  have h1:=c_s_Put id V X Y i sh w h hX hY
  rwa [putV_eq] at h1
theorem c_s_PutE (s:ByteArray) (n:Nat) (id:Int) (V:Cv) (X Y:Nat) (i sh:Bool) (w:World) (h:cvI id = some V) (hX:X<W9) (hY:Y<W9) (hs:pStr V X Y i sh = s) (hn:pErr V X Y i = n):Calls Tryz.prog 25 ([.int .i64 id,ptV X Y i,.bool sh]:List Value).toArray w (fun e w'=>e = .returned (.tuple #[.string s,.int .i64 ((n:Nat):Int)])∧Below w.heap.size w w'):=by
  subst hs hn; exact c_s_Put2 id V X Y i sh w h hX hY
theorem c_s_GetE (X Y n:Nat) (id:Int) (V:Cv) (s:ByteArray) (w:World) (h:cvI id = some V) (hs:s.size<9223372036854775808) (hn:getT V s = (X,Y,n)):Calls Tryz.prog 29 ([.int .i64 id,.string s]:List Value).toArray w (fun e w'=>e = .returned (.tuple #[ptV X Y false,.int .i64 ((n:Nat):Int)])∧Below w.heap.size w w'):=by
  have h1:=c_s_Get id V s w h hs
  rwa [getV_eq hn] at h1
theorem getX_l (V:Cv) (s:ByteArray):getX V s = beVal ((s.data.toList.take (1+nby V.p)).drop 1):=by unfold getX; rw [ext_data]
theorem getY_l (V:Cv) (s:ByteArray):getY V s = beVal (s.data.toList.drop (1+nby V.p)):=by
  unfold getY; rw [ext_data]
  rw [show s.size = s.data.toList.length by rw [Array.length_toList]; rfl,List.take_length]
theorem size_l (s:ByteArray):s.size = s.data.toList.length:=by rw [Array.length_toList]; rfl
open Grp
theorem p_pow {V:Cv} {X:Nat} (h:X<V.p):X<256^nby V.p:=by
  have h1:=lt_blen V.p
  have h2:2^blen V.p≤2^(8*nby V.p):=Nat.pow_le_pow_right dc (by unfold nby; omega)
  rw [Nat.pow_mul] at h2
  exact Nat.lt_trans h (Nat.lt_of_lt_of_le h1 h2)
theorem pfx_l (x:Nat):(pfx x).data.toList = [UInt8.ofNat x]:=rfl
theorem coB_l (V:Cv) (X:Nat):(coB V X).data.toList = beBytes (nby V.p) X:=by unfold coB strOf; rfl
theorem putS_s (V:Cv) (X Y:Nat):(putS V X Y true).data.toList = UInt8.ofNat (2+Y%2) :: beBytes (nby V.p) X:=by
  unfold putS; rw [if_pos rfl,ByteArray.toList_data_append,pfx_l,coB_l]; rfl
theorem putS_l (V:Cv) (X Y:Nat):(putS V X Y false).data.toList = 4 :: (beBytes (nby V.p) X++beBytes (nby V.p) Y):=by
  unfold putS; rw [if_neg dc,ByteArray.toList_data_append,ByteArray.toList_data_append,pfx_l,coB_l,coB_l]; rfl
theorem on_rt {V:Cv} {X Y:Nat} (h:onB V.p V.a V.b X Y false = true):Y*Y%V.p = rightN V.p V.a V.b X:=by
  unfold onB at h
  rw [if_neg dc] at h
  simp only [Bool.and_eq_true,decide_eq_true_eq] at h
  exact h.2.2
theorem even_of {V:Cv} (hok:V.Ok) {X Y:Nat} (h:onB V.p V.a V.b X Y false = true):sqN V.p (rightN V.p V.a V.b X) = some (if Y%2 = 1 then V.p-Y else Y):=by
  obtain ⟨hX,hY⟩:=on_lt h
  have h1:=sqN_eq hok.fld (p_odd hok) (⟨Y,hY⟩:Fin V.p)
  rw [Fin.val_mul] at h1
  rw [← on_rt h]
  show sqN V.p (Y*Y%V.p) = _
  refine Eq.trans h1 (congrArg some ?_)
  unfold evenR
  by_cases h2:Y%2 = 1
  · rw [if_pos h2,if_pos h2,fin_neg_val _ (by show Y≠0; omega)]
  · rw [if_neg h2,if_neg h2]
theorem lift_put {V:Cv} (hok:V.Ok) {X Y:Nat} (h:onB V.p V.a V.b X Y false = true):liftT V X (Y%2) = (X,Y,true):=by
  have h1:=even_of hok h
  obtain ⟨hX,hY⟩:=on_lt h
  rcases Nat.mod_two_eq_zero_or_one Y with h2|h2
  · rw [if_neg om] at h1
    rw [h2]; exact lift_even hX h1
  · rw [if_pos h2] at h1
    rw [h2,lift_odd hX h1 om,show V.p-(V.p-Y) = Y by omega]
theorem u8_toNat {n:Nat} (h:n<256):(UInt8.ofNat n).toNat = n:=by
  rw [UInt8.toNat_ofNat']; exact Nat.mod_eq_of_lt h
theorem getT_short {V:Cv} {s:ByteArray} {b:UInt8} {l:List UInt8} {o X Y:Nat} {ok:Bool} (hs:s.data.toList = b :: l) (hl:l.length = nby V.p) (hb:b.toNat = 2+o) (ho:o≤1) (hL:liftT V (beVal l) o = (X,Y,ok)):getT V s = if ok then (X,Y,0) else (0,0,2101):=by
  have h1:s.size = 1+nby V.p:=by rw [size_l,hs,List.length_cons,hl,Nat.add_comm]
  have h2:b0 s = 2+o:=by unfold b0; rw [hs]; exact hb
  have h3:getX V s = beVal l:=by
    rw [getX_l,hs,Nat.add_comm,List.take_succ_cons,List.drop_succ_cons,List.drop_zero,← hl,List.take_length]
  rw [← h3] at hL
  cases ok
  · exact get_shortF h1 h2 ho hL
  · exact get_short h1 h2 ho hL
theorem getT_long {V:Cv} {s:ByteArray} {l m:List UInt8} {ok:Bool} (hk:1≤nby V.p) (hs:s.data.toList = 4 :: (l++m)) (hl:l.length = nby V.p) (hm:m.length = nby V.p) (hL:onB V.p V.a V.b (beVal l) (beVal m) false = ok):getT V s = if ok then (beVal l,beVal m,0) else (0,0,2101):=by
  have h1:s.size = 1+2*nby V.p:=by rw [size_l,hs,List.length_cons,List.length_append,hl,hm]; omega
  have h2:b0 s = 4:=by unfold b0; rw [hs]; rfl
  have h3:getX V s = beVal l:=by
    rw [getX_l,hs,Nat.add_comm,List.take_succ_cons,List.drop_succ_cons,List.drop_zero,List.take_left' hl]
  have h4:getY V s = beVal m:=by
    rw [getY_l,hs,Nat.add_comm,List.drop_succ_cons,List.drop_left' hl]
  have e:getT V s = if onB V.p V.a V.b (getX V s) (getY V s) false = true then (getX V s,getY V s,0) else (0,0,2101):=by
    unfold getT
    rw [if_neg om,if_pos ⟨h1,h2⟩]
  rw [e,h3,h4,hL]
theorem get_put {V:Cv} (hok:V.Ok) {X Y:Nat} (sh:Bool) (h:onB V.p V.a V.b X Y false = true):getT V (putS V X Y sh) = (X,Y,0):=by
  obtain ⟨hX,hY⟩:=on_lt h
  have eX:beVal (beBytes (nby V.p) X) = X:=by rw [beVal_bytes,Nat.mod_eq_of_lt (p_pow hX)]
  have eY:beVal (beBytes (nby V.p) Y) = Y:=by rw [beVal_bytes,Nat.mod_eq_of_lt (p_pow hY)]
  cases sh with
  | true =>
    refine (getT_short (o:=Y%2) (ok:=true) (X:=X) (Y:=Y) (putS_s V X Y) (beBytes_length _ _) (u8_toNat om) om ?_).trans rfl
    rw [eX]; exact lift_put hok h
  | false =>
    refine (getT_long (ok:=true) (nby_posV hok) (putS_l V X Y) (beBytes_length _ _) (beBytes_length _ _) ?_).trans ?_
    · rw [eX,eY]; exact h
    · rw [eX,eY]; rfl
open Grp
theorem pStr_on {V:Cv} {X Y:Nat} (sh:Bool) (h:onB V.p V.a V.b X Y false = true):pStr V X Y false sh = putS V X Y sh∧pErr V X Y false = 0:=by
  unfold pStr pErr
  rw [if_pos (by rw [h]; rfl),if_pos (by rw [h]; rfl)]
  exact ⟨rfl,rfl⟩
theorem aff_on {V:Cv} {x y:Fin V.p} (h:On V.A V.B (.aff x y)):onB V.p V.a V.b x.val y.val false = true:=onB_on h
theorem putS_size {V:Cv} (hnb:nby V.p≤72) (X Y:Nat) (sh:Bool):(putS V X Y sh).size<9223372036854775808:=by
  rw [size_l]
  cases sh
  · rw [putS_l,List.length_cons,List.length_append,beBytes_length,beBytes_length]; omega
  · rw [putS_s,List.length_cons,beBytes_length]; omega
open Grp
theorem c_cKeyT (V:Cv) (b f X:Nat) (w:World) (hb:(Item.blk b ⟨false,opL V f,100,(0,0)⟩).holds w) (hX:X<W9) (hnW:V.n<W9) (h0:X≠0) (hn:X<V.n):Calls Tryz.prog 38 ([.pointer (some ⟨b,0,none⟩),natV X]:List Value).toArray w (fun e w'=>e = .returned (.bool true)∧Below w.heap.size w w'):=by
  refine KX (N:=18) (rs:=[.tmp 4]) [.blk b ⟨false,opL V f,100,(0,0)⟩] Tryz.func38 rfl Tryz.ntmps38 Tryz.results38 (Nb rfl) ⟨hb,trivial⟩ rfl ?_
  refine KB (KA ?_);refine oS (mB (fun b3=>?_));refine oA (KC (KB ?_));refine rD [] ?_;refine aD 0 rfl dNa ?_;refine aP 1 rfl (KK (Kd pl_33 zr_33 rfl rfl) (show _ = natV 0 by unfold natV natL; rw [← vec_zeros 9])) ?_;refine aP 2 rfl (KK (Det.nea (by kernel_rfl) (fun w=>eq_nat X 0 hX zero_w9 10000 dc w) rfl rfl) (show _ = Value.bool true by rw [decide_eq_false h0]; rfl)) ?_;refine aM 3 ?_;refine aGD 4 rfl dNa ?_;refine aGM 5 ?_;refine aGP 6 rfl (KG rfl) ?_;refine aGP 7 rfl (KE (o':=0) u100 rfl rfl rfl sz_53 dc) ?_;refine aGP 8 rfl (KE (o':=28) u53 rfl rfl rfl sz_33 dc) ?_;refine aGD 9 rfl (dL rfl (hv:=by exact cvC_ld_n _ _ _ _ _ _ _ _ _ _ _ _ _ _ _ _)) ?_;refine aGO 10 rfl (cF rfl en_46 rfl (fun w hw=>c_nat_Cmp X V.n hX hnW w) ?_);refine aGP 11 rfl (KF (v:=.bool true) rfl rfl (br_t cmp_lt (hn))) ?_
  refine aP 12 rfl (Kj rfl rfl) ?_;refine aA 13 ?_;refine aE ?_;refine KM ?_;refine ⟨[_],.cons rfl .nil,fun a w' hr=>⟨?_,hr.fr.below⟩⟩
  rfl
theorem c_cKeyZ (V:Cv) (b f:Nat) (w:World) (hb:(Item.blk b ⟨false,opL V f,100,(0,0)⟩).holds w):Calls Tryz.prog 38 ([.pointer (some ⟨b,0,none⟩),natV 0]:List Value).toArray w (fun e w'=>e = .returned (.bool false)∧Below w.heap.size w w'):=by
  refine KX (N:=18) (rs:=[.tmp 4]) [.blk b ⟨false,opL V f,100,(0,0)⟩] Tryz.func38 rfl Tryz.ntmps38 Tryz.results38 (Nb rfl) ⟨hb,trivial⟩ rfl ?_
  refine KB (KA ?_);refine oS (mB (fun b3=>?_));refine oA (KC (KB ?_));refine rD [] ?_;refine aD 0 rfl dNa ?_;refine aP 1 rfl (KK (Kd pl_33 zr_33 rfl rfl) (show _ = natV 0 by unfold natV natL; rw [← vec_zeros 9])) ?_;refine aP 2 rfl (KK (Det.nea (by kernel_rfl) (fun w=>eq_nat 0 0 zero_w9 zero_w9 10000 dc w) rfl rfl) (show _ = Value.bool false by rw [decide_eq_true rfl]; rfl)) ?_;refine aM 3 ?_;refine aK 4 ?_;refine aK 5 ?_;refine aK 6 ?_;refine aK 7 ?_;refine aK 8 ?_;refine aK 9 ?_;refine aK 10 ?_;refine aK 11 ?_;refine aP 12 rfl (KV rfl rfl) ?_;refine aA 13 ?_;refine aE ?_;refine KM ?_;refine ⟨[_],.cons rfl .nil,fun a w' hr=>⟨?_,hr.fr.below⟩⟩
  rfl
theorem c_cKeyF (V:Cv) (b f X:Nat) (w:World) (hb:(Item.blk b ⟨false,opL V f,100,(0,0)⟩).holds w) (hX:X<W9) (hnW:V.n<W9) (h0:X≠0) (hn:V.n≤X):Calls Tryz.prog 38 ([.pointer (some ⟨b,0,none⟩),natV X]:List Value).toArray w (fun e w'=>e = .returned (.bool false)∧Below w.heap.size w w'):=by
  refine KX (N:=18) (rs:=[.tmp 4]) [.blk b ⟨false,opL V f,100,(0,0)⟩] Tryz.func38 rfl Tryz.ntmps38 Tryz.results38 (Nb rfl) ⟨hb,trivial⟩ rfl ?_
  refine KB (KA ?_);refine oS (mB (fun b3=>?_));refine oA (KC (KB ?_));refine rD [] ?_;refine aD 0 rfl dNa ?_;refine aP 1 rfl (KK (Kd pl_33 zr_33 rfl rfl) (show _ = natV 0 by unfold natV natL; rw [← vec_zeros 9])) ?_;refine aP 2 rfl (KK (Det.nea (by kernel_rfl) (fun w=>eq_nat X 0 hX zero_w9 10000 dc w) rfl rfl) (show _ = Value.bool true by rw [decide_eq_false h0]; rfl)) ?_;refine aM 3 ?_;refine aGD 4 rfl dNa ?_;refine aGM 5 ?_;refine aGP 6 rfl (KG rfl) ?_;refine aGP 7 rfl (KE (o':=0) u100 rfl rfl rfl sz_53 dc) ?_;refine aGP 8 rfl (KE (o':=28) u53 rfl rfl rfl sz_33 dc) ?_;refine aGD 9 rfl (dL rfl (hv:=by exact cvC_ld_n _ _ _ _ _ _ _ _ _ _ _ _ _ _ _ _)) ?_;refine aGO 10 rfl (cF rfl en_46 rfl (fun w hw=>c_nat_Cmp X V.n hX hnW w) ?_);refine aGP 11 rfl (KF (v:=.bool false) rfl rfl (br_f cmp_lt (Nat.not_lt_of_le hn))) ?_
  refine aP 12 rfl (Kj rfl rfl) ?_;refine aA 13 ?_;refine aE ?_;refine KM ?_;refine ⟨[_],.cons rfl .nil,fun a w' hr=>⟨?_,hr.fr.below⟩⟩
  rfl
theorem c_kCheckT (id:Int) (V:Cv) (K:Nat) (w:World) (h:cvI id = some V) (h0:K≠0) (hn:K<V.n):Calls Tryz.prog 54 ([.int .i64 id,natV K]:List Value).toArray w (fun e w'=>e = .returned (.int .i64 ((0:Nat):Int))∧Below w.heap.size w w'):=by
  obtain ⟨hok,hid⟩:=cvI_ok h
  have hbb:=hok.bounds
  have hpW:V.p<W9:=KAE hbb.2.1
  have hnW:V.n<W9:=KAE hbb.2.2.2.2.2.2.1
  have hbl:=KAQ hnW
  have hnb:nby V.n≤72:=by (unfold nby; omega)
  refine KX (N:=16) (rs:=[.tmp 4]) [] Tryz.func54 rfl Tryz.ntmps54 Tryz.results54 (Nb rfl) trivial rfl ?_
  refine KB (KA ?_);refine oS (mB (fun b3=>?_));refine oP (KO (v:=.int .i64 ((0:Nat):Int)) rfl) ?_;refine KC (KB (KA (oM ?_)));refine oS (oOpen h rfl rfl (fun b f bd=>?_));refine oA (KC (KB (LCode.block (KB (KA (oM ?_))))));refine oP (KK (KAN u81 rfl rfl) (show _ = Value.bool false from rfl)) ?_;refine oA (KC ?_);refine KH rfl ?_;refine KB (KA (oM ?_));refine oD dNa ?_;refine oS (cF rfl en_38 rfl (fun w hw=>c_cKeyT V b f K w (mC hw) (Nat.lt_trans hn hnW) hnW h0 hn) ?_);refine oP (KK (KAK rfl) (show _ = Value.bool false from rfl)) ?_;refine oA (KC ?_);refine KH rfl ?_;refine KN (KB (KA ?_));refine oP (KO (v:=.int .i64 ((0:Nat):Int)) rfl) ?_;refine KC (KM ?_);refine ⟨[_],.cons rfl .nil,fun a w' hr=>⟨?_,hr.fr.below⟩⟩
  rfl
theorem c_eShared (tb:Option Nat) (tr:TrRow) (l:List Nat) (id:Int) (V:Cv) (K:Nat) (s:ByteArray) (x y:Fin V.p) (m:Nat) (hm:(blen V.n+3)/4 = m) (w:World) (h:cvI id = some V) (hk0:K≠0) (hn:K<V.n) (hs:s.size<9223372036854775808) (hg:getT V s = (x.val,y.val,0)) (hP:On V.A V.B (.aff x y)) (h0:(trI tb tr l).holds w) (hl:l.length≤80000000):Calls Tryz.prog 26 ([trV tb,.int .i64 id,natV K,.string s]:List Value).toArray w (fun e w'=>TrR w tb tr (l++evN m) (.tuple #[.string (coB V (xv (pmul V.A (.aff x y:Pt V.p) K))),.int .i64 ((0:Nat):Int)]) e w'):=by
  obtain ⟨hok,hid⟩:=cvI_ok h
  have hbb:=hok.bounds
  have hpW:V.p<W9:=KAE hbb.2.1
  have hnW:V.n<W9:=KAE hbb.2.2.2.2.2.2.1
  have hbl:=KAQ hnW
  have hnb:nby V.n≤72:=by (unfold nby; omega)
  have hnp:=nbp_72 hok
  refine calls_tr (N:=55) (rs:=[.tmp 8,.tmp 9]) tb tr l [] Tryz.func26 rfl Tryz.ntmps26 Tryz.results26 (Nb rfl) h0 trivial rfl trivial ?_
  refine KB (KA ?_);refine oS (mB (fun b6=>?_));refine oA ?_;refine oP (KO (v:=.int .i64 ((0:Nat):Int)) rfl) ?_;refine KC (KB (KA (oM ?_)));refine oS (oOpen h rfl rfl (fun b f bd=>?_));refine oA (KC (KB (LCode.block (KB (KA (oM ?_))))));refine oP (KK (KAN u81 rfl rfl) (show _ = Value.bool false from rfl)) ?_;refine oA (KC ?_);refine KH rfl ?_;refine KB (KA (oM ?_));refine oD dNa ?_;refine oS (cF rfl en_54 rfl (fun w hw=>c_kCheckT id V K w h hk0 hn) ?_);refine oP (KF (v:=.bool false) rfl rfl (br_f (br_neq (b:=0)) dc)) ?_;refine oA (KC ?_);refine KH rfl ?_;refine KN (KB (KA (oM (oM ?_))));refine oS (cF rfl en_29 rfl (fun w hw=>c_s_GetE x.val y.val 0 id V s w h hs hg) ?_);refine oM ?_;refine oP (Det.extract rfl rfl) ?_;refine oP (Det.extract rfl rfl) ?_;refine oS (mk (KL zr_47) (fun b11=>?_));refine LOps.step rfl (sA rfl rfl sz_47 (by exact KAD _ _ _) (hl:=by simp [KW,KQ]) (h:=?_))
  refine oA (KC (KB (KB (KA (oM ?_)))));refine oP (KF (v:=.bool false) rfl rfl (br_f (br_neq (b:=0)) dc)) ?_;refine KC ?_;refine KH rfl ?_;refine KN (KB (KA (oM (oM ?_))));refine oD dNa ?_;refine oD dNb ?_;refine LOps.step rfl (LStepW.callT (first:=[]) (r:=tr) (l:=l) (l':=l++evN m) rfl en_58 rfl (Nb rfl) mP (fun w hw hn0=>c_mMul tb tr l id V K (.aff x y) m hm w h hP hn (mC hw) hl) ?_)
  intro r1
  refine oM ?_;refine oP (Det.extract rfl rfl) ?_;refine oP (Det.extract rfl rfl) ?_;refine oS (mk (KL zr_47) (fun b13=>?_));refine LOps.step rfl (sA rfl rfl sz_47 (by exact KAD _ _ _) (hl:=by simp [KW,KQ]) (h:=?_));refine oA (KC (KB ?_));refine rD [] ?_;refine aP 0 rfl (KE (o':=0) u47 rfl rfl rfl sz_33 dc) ?_;refine aD 1 rfl (dL rfl (hv:=by exact Kv u33 rfl sz_33 rfl (KI _))) ?_;refine aM 2 ?_;refine aP 3 rfl (KG rfl) ?_;refine aP 4 rfl (KE (o':=0) u100 rfl rfl rfl sz_53 dc) ?_;refine aP 5 rfl (KE (o':=57) u53 rfl rfl rfl sz_3 dc) ?_;refine aD 6 rfl (dL rfl (hv:=KJ u3 rfl (by exact cvC_gt_size _ _ _ _ _ _ _ _ _ _ _ _ _))) ?_;refine aO 7 rfl (cF rfl en_47 rfl (fun w hw=>c_nat_BytesOK (xv (pmul V.A (.aff x y:Pt V.p) K)) (nby V.p) w (Nat.lt_trans (xv_lt _) hpW) hnp (nby_le (xv_lt _))) ?_);refine aM 8 ?_;refine aP 9 rfl (Det.extract rfl rfl) ?_
  refine aP 10 rfl (Det.extract rfl rfl) ?_;refine aA 11 ?_;refine aA 12 ?_;refine aE ?_;refine KB (KA (oM (oA ?_)));refine oP (KO (v:=.int .i64 ((0:Nat):Int)) rfl) ?_;refine KC (KM ?_)
  exact ⟨[_,_],.cons rfl (.cons rfl .nil),fun a w' hr=>hr.tr mM⟩
theorem c_eSharedN (R:ByteArray) (id:Int) (V:Cv) (K:Nat) (s:ByteArray) (x y:Fin V.p) (w:World) (h:cvI id = some V) (h0:K≠0) (hn:K<V.n) (hs:s.size<9223372036854775808) (hg:getT V s = (x.val,y.val,0)) (hP:On V.A V.B (.aff x y)) (hR:coB V (xv (pmul V.A (.aff x y:Pt V.p) K)) = R):Calls Tryz.prog 26 ([.pointer none,.int .i64 id,natV K,.string s]:List Value).toArray w (fun e w'=>e = .returned (.tuple #[.string R,.int .i64 ((0:Nat):Int)])∧Below w.heap.size w w') :=
  hR ▸ (c_eShared none none [] id V K s x y _ rfl w h h0 hn hs hg hP (trI_nil _ _) (Nat.zero_le _)).mono fun e w' h=>TrR.nil h
end Go.Proofs.YtnpeokiboiclfaaGreat
set_option linter.unusedVariables false
set_option linter.unusedSimpArgs false
namespace Go.Proofs.YtnpeokiboiclfaaGreat
open Go Go.RowKit
inductive SelR:List Item→List Item→List Item→Prop where
  | nil (l:List Item):SelR l [] l
  | cons {x:Item} {l l' m r:List Item}:Pick x l l'→SelR l' m r→SelR l (x :: m) r
theorem SelR.perm {l m r:List Item} (h:SelR l m r):l.Perm (m++r):=by
  induction h with
  | nil l=>exact .refl _
  | cons hp _ ih=>exact hp.perm.trans (.cons _ ih)
def WX (X:List Item) (k:Nat):Prop:=∃ y,y∈X∧y.wr = true∧k∈y.fp
structure Outcome (w:World) (X X':List Item) (w':World):Prop where
  hp:∀ x,x∈X'→x.holds w'
  wr:∀ x,x∈X'→x.wr = true
  new:∀ x,x∈X'→∀ k,k∈x.fp→w.heap.size≤k∨WX X k
  dist:X'.Pairwise Apart
  fr:Fr (WX X) w w'
theorem Rel.out {w w':World} {X X':List Item} {N:Nat} {st:St} {a:Act} (h:Rel ⟨w,WX X,N⟩ st a w') (hs:Sel st.H X') (hw:X'.all (·.wr) = true):Outcome w X X' w':=by
  obtain ⟨r,hr⟩:=hs.spec
  have hd:(X'++r).Pairwise Apart:=(List.Perm.pairwise_iff (fun h=>Apart.symm h) hr).1 h.dist
  have hm:∀ x,x∈X'→x∈st.H:=fun x hx=>hr.mem_iff.2 (List.mem_append.2 (.inl hx))
  have hx:∀ x,x∈X'→x.wr = true:=fun x hx=>List.all_eq_true.1 hw x hx
  exact ⟨fun x q=>h.hp x (hm x q),hx,fun x q k hk=>h.own x (hm x q) (hx x q) k hk,(List.pairwise_append.1 hd).1,h.fr⟩
def CallsM (P:Program) (f:FuncId) (vs:List Value) (X:List Item) (w:World) (Post:Value→List Item→Prop):Prop :=
  Calls P f vs.toArray w (fun e w'=>∃ v X',Post v X'∧e = .returned v∧Outcome w X X' w')
theorem KAW {P : Program} {f : FuncId} {fn : Func} {c : Code} {vs : List Value} {w : World} {X RO : List Item} (L : List Item) {rs : List ResultVar} {N : Nat} {R : Ending → World → Prop} (hf : P.funcs[f]? = some fn) (hb : fn.body = some c) (hn : fn.ntmps = N) (hs : fn.results = rs.toArray)
    (hlen:vs.length≤N) (hH:∀ x,x∈X++RO→x.holds w) (hd:(X++RO).Pairwise Apart) (hro:RO.all (fun x=>!x.wr) = true) (hL:X++RO = L)
    (h:LCode P ⟨w,WX X,N⟩ c ⟨argT 0 vs,L⟩ (LEnd P ⟨w,WX X,N⟩ rs fun v _ w'=>R (.returned v) w')):Calls P f vs.toArray w R:=by
  subst hL
  refine calls_walk hf hb hn hs hlen hH (fun x hx hw k hk=>?_) hd h
  rcases List.mem_append.1 hx with hx|hx
  · exact ⟨x,hx,hw,hk⟩
  · have:=List.all_eq_true.1 hro x hx
    rw [hw] at this; cases this
theorem Rel.outcome {C:Ctx} {st:St} {a:Act} {w w':World} {X R X':List Item} (h:Rel C st a w) (hs:SelR st.H X R) (ho:Outcome w X X' w'):Rel C ⟨st.T,X'++R⟩ a w':=by
  have hpm:=hs.perm
  have hdist:(X++R).Pairwise Apart:=(hpm.pairwise_iff (fun h=>Apart.symm h)).1 h.dist
  obtain ⟨_,hR,hXR⟩:=List.pairwise_append.1 hdist
  have inR:∀ y,y∈R→y∈st.H:=fun y hy=>hpm.mem_iff.2 (List.mem_append.2 (.inr hy))
  have inX:∀ y,y∈X→y∈st.H:=fun y hy=>hpm.mem_iff.2 (List.mem_append.2 (.inl hy))
  have off:∀ y,y∈R→∀ k,k∈y.fp→¬ WX X k:=by
    rintro y hy k hk ⟨x,hx,hw,hk'⟩
    exact hXR x hx y hy (.inl hw) k hk' hk
  refine ⟨h.size,h.defers,h.tm,fun y hy=>?_,fun y hy hw k hk=>?_,?_,?_⟩
  · rcases List.mem_append.1 hy with hy|hy
    · exact ho.hp y hy
    · have hold:=h.hp y (inR y hy)
      exact Item.holds_agree hold (fun k hk=>ho.fr.block k (Item.lt hold k hk) (off y hy k hk)) ho.fr.size
  · rcases List.mem_append.1 hy with hy|hy
    · rcases ho.new y hy k hk with h1|⟨x,hx,hw',hk'⟩
      · exact .inl (Nat.le_trans h.fr.size h1)
      · exact h.own x (inX x hx) hw' k hk'
    · exact h.own y (inR y hy) hw k hk
  · refine List.pairwise_append.2 ⟨ho.dist,hR,fun x hx y hy _ k hk hk'=>?_⟩
    rcases ho.new x hx k hk with h1|h1
    · have:=Item.lt (h.hp y (inR y hy)) k hk'
      omega
    · exact off y hy k hk' h1
  · refine ⟨ho.fr.os.trans h.fr.os,ho.fr.tape.trans h.fr.tape,ho.fr.output.trans h.fr.output,Nat.le_trans h.fr.size ho.fr.size,fun k hk1 hk2=>?_⟩
    refine (ho.fr.block k (Nat.lt_of_lt_of_le hk1 h.fr.size) ?_).trans (h.fr.block k hk1 hk2)
    rintro ⟨x,hx,hw,hkx⟩
    rcases h.own x (inX x hx) hw k hkx with h1|h1
    · omega
    · exact hk2 h1
structure Weak (x y:Item):Prop where
  holds:∀ w,x.holds w→y.holds w
  fp:∀ k,k∈y.fp→k∈x.fp
  ro:y.wr = false
def Weaks (R RO:List Item):Prop:=∀ y,y∈RO→∃ x,x∈R∧Weak x y
theorem Weaks.nil (R:List Item):Weaks R []:=fun y hy=>by cases hy
theorem Weaks.cons {R RO:List Item} {x y:Item} (hx:x∈R) (h:Weak x y) (hs:Weaks R RO):Weaks R (y :: RO):=by
  intro z hz
  rcases List.mem_cons.1 hz with rfl|hz
  · exact ⟨x,hx,h⟩
  · exact hs z hz
theorem Weak.blk {b:Nat} {wr:Bool} {cs:List Value} {e:TypeId} {fz:Nat×Nat}:Weak (.blk b ⟨wr,cs,e,fz⟩) (.blk b ⟨false,cs,e,fz⟩):=⟨fun _ h=>h,fun _ h=>h,rfl⟩
theorem Weak.fact {fp:List Nat} {φ:World→Prop}:Weak (.fact fp φ) (.fact fp φ):=⟨fun _ h=>h,fun _ h=>h,rfl⟩
theorem Weak.own {fp:List Nat} {φ:World→Prop}:Weak (.own fp φ) (.fact fp φ):=⟨fun _ h=>h,fun _ h=>h,rfl⟩
section
variable {P:Program} {C:Ctx} {ty:TypeId} {pos:String} {aft:Array Edge} {K:St→Prop} {x:Operand} {v:Value}
theorem call_meets {T : List (Nat × Value)} {H X R RO : List Item} {f : FuncId} {xs : List Operand} {vs first caps : List Value} {ats : Array TypeId} {g : Option (Nat × Bool)} {Post : Value → List Item → Prop} {dd : Option Tmp} {K2 : Act → World → Prop} {Qr : Exit → Act → World → Prop} {a : Act} {w : World}
    (hf:evT T x = some (.func (.func f) first.toArray caps.toArray)) (he:Kf P f) (ha:evL T xs = some vs) (hs:SelR H X R) (hro:Weaks R RO)
    (hc:∀ w,(∀ x,x∈X++RO→x.holds w)→(X++RO).Pairwise Apart→CallsM P f (first++vs++caps) X w Post) (hr:Rel C ⟨T,H⟩ a w)
    (hK:∀ v X' w',Post v X'→Outcome w X X' w'→K2 (a.put dd v) w') :
    (⟨dd,.call { callee:=.value x,args:=xs.toArray,argTypes:=ats },ty,pos,aft,g⟩:Oper).wp P a w K2 Qr:=by
  obtain ⟨fn,h1,h2,h3⟩:=he
  have hpm:=hs.perm
  have hdd:(X++R).Pairwise Apart:=(hpm.pairwise_iff (fun h=>Apart.symm h)).1 hr.dist
  obtain ⟨hdX,hdR,hXR⟩:=List.pairwise_append.1 hdd
  refine wp_callee (vs:=first++vs++caps) ?_ (hc w (fun z hz=>?_) (List.pairwise_append.2 ⟨hdX,?_,fun z hz y hy=>?_⟩)) ?_
  · have:=hr.evs ha
    simp [execOp,resolve,hr.ev hf,Deferred.ofValue,invoke,run_call h1 h2 h3,this]
  · rcases List.mem_append.1 hz with hz|hz
    · exact hr.hp z (hpm.mem_iff.2 (List.mem_append.2 (.inl hz)))
    · obtain ⟨u,hu,hw⟩:=hro z hz
      exact hw.holds w (hr.hp u (hpm.mem_iff.2 (List.mem_append.2 (.inr hu))))
  · refine List.pairwise_of_forall_mem_list fun y hy z hz hyz=>?_
    obtain ⟨u,_,hw⟩:=hro y hy
    obtain ⟨u',_,hw'⟩:=hro z hz
    rw [hw.ro,hw'.ro] at hyz
    rcases hyz with h|h <;> cases h
  · obtain ⟨u,hu,hw⟩:=hro y hy
    intro hzy k hk hk'
    rcases hzy with h|h
    · exact hXR z hz u hu (.inl h) k hk (hw.fp k hk')
    · rw [hw.ro] at h; cases h
  · rintro e' w' ⟨v,X',hp,rfl,ho⟩
    exact ⟨v,rfl,hK v X' w' hp ho⟩
theorem LStepW.callM {d : Nat} {T : List (Nat × Value)} {H X R RO : List Item} {f : FuncId} {xs : List Operand} {vs first caps : List Value} {ats : Array TypeId} {g : Option (Nat × Bool)} {Post : Value → List Item → Prop} (hf : evT T x = some (.func (.func f) first.toArray caps.toArray)) (he : Kf P f) (ha : evL T xs = some vs) (hd : d < C.N)
    (hs:SelR H X R) (hro:Weaks R RO) (hc:∀ w,(∀ x,x∈X++RO→x.holds w)→(X++RO).Pairwise Apart→CallsM P f (first++vs++caps) X w Post)
    (h:∀ v X',Post v X'→K ⟨(d,v) :: T,X'++R⟩):LStepW P C ⟨some d,.call { callee:=.value x,args:=xs.toArray,argTypes:=ats },ty,pos,aft,g⟩ ⟨T,H⟩ K:=by
  unfold LStepW
  intro a w hr Qr
  exact call_meets hf he ha hs hro hc hr fun v X' w' hp ho=>⟨_,h v X' hp,(hr.outcome hs ho).put hd v⟩
theorem Km {d : Nat} {T : List (Nat × Value)} {H X R RO : List Item} {f : FuncId} {xs : List Operand} {vs first caps : List Value} {ats : Array TypeId} {g : Option (Nat × Bool)} {Post : Value → Item → Prop} (hf : evT T x = some (.func (.func f) first.toArray caps.toArray)) (he : Kf P f) (ha : evL T xs = some vs) (hd : d < C.N)
    (hs:SelR H X R) (hro:Weaks R RO) (hc:∀ w,(∀ x,x∈X++RO→x.holds w)→(X++RO).Pairwise Apart→Calls P f (first++vs++caps).toArray w (fun e w'=>∃ v x',Post v x'∧e = .returned v∧Outcome w X [x'] w'))
    (h:∀ v x',Post v x'→K ⟨(d,v) :: T,x' :: R⟩):LStepW P C ⟨some d,.call { callee:=.value x,args:=xs.toArray,argTypes:=ats },ty,pos,aft,g⟩ ⟨T,H⟩ K :=
  LStepW.callM (Post:=fun v X'=>∃ x',X' = [x']∧Post v x') hf he ha hd hs hro (fun w h1 h2=>(hc w h1 h2).mono fun e w' ⟨v,x',hp,he,ho⟩=>⟨v,[x'],⟨x',rfl,hp⟩,he,ho⟩) (fun v X' ⟨x',he,hp⟩=>by subst he; exact h v x' hp)
theorem LStepW.callM2 {d : Nat} {T : List (Nat × Value)} {H X R RO : List Item} {f : FuncId} {xs : List Operand} {vs first caps : List Value} {ats : Array TypeId} {g : Option (Nat × Bool)} {Post : Value → Item → Item → Prop} (hf : evT T x = some (.func (.func f) first.toArray caps.toArray)) (he : Kf P f) (ha : evL T xs = some vs) (hd : d < C.N)
    (hs:SelR H X R) (hro:Weaks R RO) (hc:∀ w,(∀ x,x∈X++RO→x.holds w)→(X++RO).Pairwise Apart→Calls P f (first++vs++caps).toArray w (fun e w'=>∃ v x' y',Post v x' y'∧e = .returned v∧Outcome w X [x',y'] w'))
    (h:∀ v x' y',Post v x' y'→K ⟨(d,v) :: T,x' :: y' :: R⟩):LStepW P C ⟨some d,.call { callee:=.value x,args:=xs.toArray,argTypes:=ats },ty,pos,aft,g⟩ ⟨T,H⟩ K :=
  LStepW.callM (Post:=fun v X'=>∃ x' y',X' = [x',y']∧Post v x' y') hf he ha hd hs hro (fun w h1 h2=>(hc w h1 h2).mono fun e w' ⟨v,x',y',hp,he,ho⟩=>⟨v,[x',y'],⟨x',y',rfl,hp⟩,he,ho⟩) (fun v X' ⟨x',y',he,hp⟩=>by subst he; exact h v x' y' hp)
theorem LStepW.callM3 {d : Nat} {T : List (Nat × Value)} {H X R RO : List Item} {f : FuncId} {xs : List Operand} {vs first caps : List Value} {ats : Array TypeId} {g : Option (Nat × Bool)} {Post : Value → Item → Item → Item → Prop} (hf : evT T x = some (.func (.func f) first.toArray caps.toArray)) (he : Kf P f) (ha : evL T xs = some vs) (hd : d < C.N)
    (hs:SelR H X R) (hro:Weaks R RO) (hc:∀ w,(∀ x,x∈X++RO→x.holds w)→(X++RO).Pairwise Apart→Calls P f (first++vs++caps).toArray w (fun e w'=>∃ v x' y' z',Post v x' y' z'∧e = .returned v∧Outcome w X [x',y',z'] w'))
    (h:∀ v x' y' z',Post v x' y' z'→K ⟨(d,v) :: T,x' :: y' :: z' :: R⟩):LStepW P C ⟨some d,.call { callee:=.value x,args:=xs.toArray,argTypes:=ats },ty,pos,aft,g⟩ ⟨T,H⟩ K :=
  LStepW.callM (Post:=fun v X'=>∃ x' y' z',X' = [x',y',z']∧Post v x' y' z') hf he ha hd hs hro (fun w h1 h2=>(hc w h1 h2).mono fun e w' ⟨v,x',y',z',hp,he,ho⟩=>⟨v,[x',y',z'],⟨x',y',z',rfl,hp⟩,he,ho⟩) (fun v X' ⟨x',y',z',he,hp⟩=>by subst he; exact h v x' y' z' hp)
end
theorem LCode.regroup {P:Program} {C:Ctx} {c:Code} {Q:Exit→St→Prop} {T:List (Nat×Value)} {H X R X' L:List Item} (hs:SelR H X R) (ho:∀ w,(∀ x,x∈X→x.holds w)→X.Pairwise Apart→Outcome w X X' w) (hL:X'++R = L) (h:LCode P C c ⟨T,L⟩ Q):LCode P C c ⟨T,H⟩ Q:=by
  subst hL
  refine LCode.sub ?_ h
  unfold Sub
  intro a w hr
  have hpm:=hs.perm
  have hdd:(X++R).Pairwise Apart:=(hpm.pairwise_iff (fun h=>Apart.symm h)).1 hr.dist
  exact hr.outcome hs (ho w (fun z hz=>hr.hp z (hpm.mem_iff.2 (List.mem_append.2 (.inl hz)))) (List.pairwise_append.1 hdd).1)
theorem Rel.cons {C:Ctx} {T:List (Nat×Value)} {H:List Item} {x:Item} {a:Act} {w:World} (h:Rel C ⟨T,H⟩ a w) (hx:x.holds w) (hf:x.fp = []):Rel C ⟨T,x :: H⟩ a w:=by
  refine ⟨h.size,h.defers,h.tm,fun y hy=>?_,fun y hy hw k hk=>?_,List.pairwise_cons.2 ⟨fun y _ _ k hk=>(by rw [hf] at hk; cases hk),h.dist⟩,h.fr⟩
  · rcases List.mem_cons.1 hy with rfl|hy
    · exact hx
    · exact h.hp y hy
  · rcases List.mem_cons.1 hy with rfl|hy
    · rw [hf] at hk; cases hk
    · exact h.own y hy hw k hk
theorem Rel.turn {C:Ctx} {T:List (Nat×Value)} {H R:List Item} {x y:Item} {a:Act} {w:World} (h:Rel C ⟨T,H⟩ a w) (hp:Pick x H R) (hx:x.holds w→y.holds w) (hf:∀ k,k∈y.fp→k∈x.fp) (hw:y.wr = true→x.wr = true):Rel C ⟨T,y :: R⟩ a w:=by
  have hpm:=hp.perm
  have hdist:(x :: R).Pairwise Apart:=(hpm.pairwise_iff (fun h=>Apart.symm h)).1 h.dist
  obtain ⟨h1,h2⟩:=List.pairwise_cons.1 hdist
  refine ⟨h.size,h.defers,h.tm,fun z hz=>?_,fun z hz hw' k hk=>?_,List.pairwise_cons.2 ⟨fun z hz hwz k hk hk'=>?_,h2⟩,h.fr⟩
  · rcases List.mem_cons.1 hz with rfl|hz
    · exact hx (h.hp x (hpm.mem_iff.2 (.head _)))
    · exact h.hp z (hpm.mem_iff.2 (.tail _ hz))
  · rcases List.mem_cons.1 hz with rfl|hz
    · exact h.own x (hpm.mem_iff.2 (.head _)) (hw hw') k (hf k hk)
    · exact h.own z (hpm.mem_iff.2 (.tail _ hz)) hw' k hk
  · exact h1 z hz (hwz.elim (fun q=>.inl (hw q)) .inr) k (hf k hk) hk'
theorem Sub.turn {C:Ctx} {T:List (Nat×Value)} {H R:List Item} {x y:Item} (hp:Pick x H R) (hx:∀ w,x.holds w→y.holds w) (hf:∀ k,k∈y.fp→k∈x.fp) (hw:y.wr = true→x.wr = true):Sub C ⟨T,y :: R⟩ ⟨T,H⟩:=by
  unfold Sub; intro a w h; exact h.turn hp (hx w) hf hw
theorem Sub.add {C:Ctx} {T:List (Nat×Value)} {H:List Item} {x:Item} (hx:∀ w,x.holds w) (hf:x.fp = []):Sub C ⟨T,x :: H⟩ ⟨T,H⟩:=by
  unfold Sub; intro a w h; exact h.cons (hx w) hf
def gpI (X:List Item):Item:=.own (X.flatMap Item.fp) (fun w=>(∀ x,x∈X→x.holds w)∧X.Pairwise Apart)
theorem gpI_P {X:List Item} {w:World} (h:(gpI X).holds w):(∀ x,x∈X→x.holds w)∧X.Pairwise Apart:=h.2 w (Agree.refl _ _)
theorem agree_lt {w w':World} {k:Nat} (h1:k<w.heap.size) (h2:w'.heap[k]? = w.heap[k]?):k<w'.heap.size:=by
  rcases Nat.lt_or_ge k w'.heap.size with h3|h3
  · exact h3
  · rw [Array.getElem?_eq_none h3,Array.getElem?_eq_getElem h1] at h2
    cases h2
theorem gpI_of {X:List Item} {w:World} (h:∀ x,x∈X→x.holds w) (hd:X.Pairwise Apart):(gpI X).holds w:=by
  refine ⟨fun k hk=>?_,fun w' ha=>⟨fun x hx=>?_,hd⟩⟩
  · obtain ⟨x,hx,hk⟩:=List.mem_flatMap.1 hk
    exact Item.lt (h x hx) k hk
  · have hh:=h x hx
    have hag:Agree x.fp w w':=fun k hk=>ha k (List.mem_flatMap.2 ⟨x,hx,hk⟩)
    cases x with
    | blk b B =>
      have:w'.heap[b]? = w.heap[b]?:=hag b (by simp [Item.fp])
      exact this.trans hh
    | fact fp φ=>exact ⟨fun k hk=>agree_lt (hh.1 k hk) (hag k hk),fun w'' h2=>hh.2 w'' (Agree.trans hag h2)⟩
    | own fp φ=>exact ⟨fun k hk=>agree_lt (hh.1 k hk) (hag k hk),fun w'' h2=>hh.2 w'' (Agree.trans hag h2)⟩
theorem gpI_open {X:List Item} {w:World} (hx:X.all (·.wr) = true) (h:∀ x,x∈[gpI X]→x.holds w):Outcome w [gpI X] X w:=by
  have hg:=gpI_P (h _ (.head _))
  exact ⟨hg.1,fun x hxx=>List.all_eq_true.1 hx x hxx,fun x hxx k hk=>.inr ⟨_,.head _,rfl,List.mem_flatMap.2 ⟨x,hxx,hk⟩⟩,hg.2,Fr.refl _ _⟩
theorem gpI_close {X:List Item} {w:World} (hx:X.all (·.wr) = true) (h:∀ x,x∈X→x.holds w) (hd:X.Pairwise Apart):Outcome w X [gpI X] w:=by
  have one:∀ y,y∈[gpI X]→y = gpI X:=fun y hy=>List.mem_singleton.1 hy
  refine ⟨fun y hy=>by rw [one y hy]; exact gpI_of h hd,fun y hy=>by rw [one y hy]; rfl,fun y hy k hk=>?_,List.pairwise_cons.2 ⟨fun y hy=>(by cases hy),.nil⟩,Fr.refl _ _⟩
  rw [one y hy] at hk
  obtain ⟨x,hxx,hk⟩:=List.mem_flatMap.1 hk
  exact .inr ⟨x,hxx,List.all_eq_true.1 hx x hxx,hk⟩
theorem LCode.opn {P:Program} {C:Ctx} {c:Code} {Q:Exit→St→Prop} {T:List (Nat×Value)} {H R L:List Item} (X:List Item) (hp:SelR H [gpI X] R) (hw:X.all (·.wr) = true) (hL:X++R = L) (h:LCode P C c ⟨T,L⟩ Q):LCode P C c ⟨T,H⟩ Q :=
  LCode.regroup hp (fun w h1 _=>gpI_open hw h1) hL h
theorem LCode.cls {P:Program} {C:Ctx} {c:Code} {Q:Exit→St→Prop} {T:List (Nat×Value)} {H R:List Item} (X:List Item) (hp:SelR H X R) (hw:X.all (·.wr) = true) (h:LCode P C c ⟨T,gpI X :: R⟩ Q):LCode P C c ⟨T,H⟩ Q :=
  LCode.regroup (L:=gpI X :: R) hp (fun w h1 h2=>gpI_close hw h1 h2) rfl h
theorem LOps.cls {P:Program} {C:Ctx} {ops:Array Oper} {rest:List Oper} {Q:Exit→St→Prop} {T:List (Nat×Value)} {H R:List Item} (X:List Item) (hp:SelR H X R) (hw:X.all (·.wr) = true) (h:LOps P C ops rest ⟨T,gpI X :: R⟩ Q):LOps P C ops rest ⟨T,H⟩ Q:=by
  refine LOps.sub ?_ h
  unfold Sub
  intro a w hr
  have hpm:=hp.perm
  have hdd:(X++R).Pairwise Apart:=(hpm.pairwise_iff (fun h=>Apart.symm h)).1 hr.dist
  exact hr.outcome hp (gpI_close hw (fun z hz=>hr.hp z (hpm.mem_iff.2 (List.mem_append.2 (.inl hz)))) (List.pairwise_append.1 hdd).1)
section
variable {P:Program} {C:Ctx} {d:Nat} {ty:TypeId} {pos:String} {aft:Array Edge} {K:St→Prop} {x:Operand} {v:Value}
theorem LStep.callC {T : List (Nat × Value)} {H : List Item} {f : FuncId} {xs : List Operand} {vs caps : List Value} {ats : Array TypeId} {g : Option (Nat × Bool)} (hf : evT T x = some (.func (.func f) #[] caps.toArray)) (he : Kf P f) (ha : evL T xs = some vs) (hd : d < C.N)
    (hc:∀ w,(∀ x,x∈H→x.holds w)→Calls P f (vs++caps).toArray w (fun e w'=>e = .returned v∧Below w.heap.size w w'))
    (h:K ⟨(d,v) :: T,H⟩):LStep P C ⟨some d,.call { callee:=.value x,args:=xs.toArray,argTypes:=ats },ty,pos,aft,g⟩ ⟨T,H⟩ K:=by
  unfold LStep; intro a w hr Qr
  obtain ⟨fn,h1,h2,h3⟩:=he
  refine wp_callee (vs:=vs++caps) ?_ (hc w hr.hp) ?_
  · have:=hr.evs ha
    simp [execOp,resolve,hr.ev hf,Deferred.ofValue,invoke,run_call h1 h2 h3,this]
  · rintro e w' ⟨rfl,hb⟩
    exact ⟨v,rfl,hb,_,h,(hr.below hb).put hd v⟩
end
abbrev BsRow:=Option (Nat×List Value×List Value×List Value)
def numL (l:List Nat):List Value:=l.map fun (n:Nat)=>Value.int .u8 (n:Int)
theorem numL_length (l:List Nat):(numL l).length = l.length:=by simp [numL]
theorem numL_append (l m:List Nat):numL (l++m) = numL l++numL m:=by simp [numL]
theorem numL_one (l:List Nat):AllOne (numL l):=by
  intro c hc
  obtain ⟨_,_,rfl⟩:=List.mem_map.1 hc
  rfl
def bsA:BsRow→Option Addr
  | none=>none
  | some r=>some ⟨r.1,r.2.1.length,none⟩
def bsM:BsRow→Nat
  | none=>0
  | some r=>r.2.2.1.length
def bsV (r:BsRow) (n:Nat):Value:=.slice (bsA r) n (n+bsM r)
def bsFp:BsRow→List Nat
  | none=>[]
  | some r=>[r.1]
def bsP (E:TypeId) (r:BsRow) (l:List Nat) (w:World):Prop:=match r with
  | none=>l = []
  | some r=>w.heap[r.1]? = some (.cells (r.2.1++(numL l++(r.2.2.1++r.2.2.2))).toArray E (0,0))
def bsI (E:TypeId) (r:BsRow) (l:List Nat):Item:=.own (bsFp r) (bsP E r l)
theorem bsI_P {E:TypeId} {r:BsRow} {l:List Nat} {w:World} (h:(bsI E r l).holds w):bsP E r l w:=h.2 w (Agree.refl _ _)
theorem bsI_of {E:TypeId} {r:BsRow} {l:List Nat} {w:World} (h:bsP E r l w):(bsI E r l).holds w:=by
  rcases r with _|r
  · exact ⟨fun k hk=>(by cases hk),fun _ _=>h⟩
  · refine ⟨fun k hk=>?_,fun w' ha=>(ha r.1 (.head _)).trans h⟩
    have:k = r.1:=by simpa [bsFp] using hk
    subst this; exact lt_of_get h
theorem bsI_nil (E:TypeId) (w:World):(bsI E none []).holds w:=bsI_of rfl
def roI (E:TypeId) (r:BsRow) (l:List Nat):Item:=.fact (bsFp r) (bsP E r l)
theorem roI_P {E:TypeId} {r:BsRow} {l:List Nat} {w:World} (h:(roI E r l).holds w):bsP E r l w:=h.2 w (Agree.refl _ _)
theorem Weak.bs {E:TypeId} {r:BsRow} {l:List Nat}:Weak (bsI E r l) (roI E r l):=⟨fun _ h=>h,fun _ h=>h,rfl⟩
theorem Weak.ro' {E:TypeId} {r:BsRow} {l:List Nat}:Weak (roI E r l) (roI E r l):=⟨fun _ h=>h,fun _ h=>h,rfl⟩
theorem bsI_blk {E:TypeId} {b:Nat} {pre more ex:List Value} {l:List Nat} {w:World}:(bsI E (some (b,pre,more,ex)) l).holds w↔(Item.blk b ⟨true,pre++(numL l++(more++ex)),E,(0,0)⟩).holds w :=
  ⟨fun h=>bsI_P h,fun h=>bsI_of h⟩
def ofS (s:ByteArray):List Nat:=s.data.toList.map (·.toNat)
theorem ofS_length (s:ByteArray):(ofS s).length = s.size:=by unfold ofS; rw [List.length_map,Array.length_toList]; rfl
theorem byteCells_num (s:ByteArray):byteCells s = numL (ofS s):=by simp [byteCells,numL,ofS]
theorem one_cell' {u:Value} (h:one u = true):u.oneCell' = true:=by cases u <;> simp_all [one,Value.oneCell']
section
variable {P:Program} {C:Ctx} {ty:TypeId} {pos:String} {aft:Array Edge} {d:Nat} {K:St→Prop} {x y:Operand} {t t2 e:TypeId}
theorem cell_at {w:World} {b:Nat} {cs:Array Value} {E:TypeId} {fz:Nat×Nat} (h:w.heap[b]? = some (.cells cs E fz)) (o j:Nat):w.cell? ((⟨b,o,none⟩:Addr).add j) = cs[o+j]?:=by
  have hadd:(⟨b,o,none⟩:Addr).add j = ⟨b,o+j,none⟩:=by unfold Addr.add; split <;> simp_all
  rw [hadd]
  simp [World.cell?,h]
theorem mid_get {pre xs more:List Value} (j:Nat) (u:Value) (h:xs[j]? = some u):(pre++(xs++more)).toArray[pre.length+j]? = some u:=by
  have hj:j<xs.length:=by
    rcases Nat.lt_or_ge j xs.length with h'|h'
    · exact h'
    · rw [List.getElem?_eq_none h'] at h; cases h
  rw [List.getElem?_toArray,List.getElem?_append_right (by omega),Nat.add_sub_cancel_left,List.getElem?_append_left hj]
  exact h
theorem src_bs {E E':TypeId} {r:BsRow} {l:List Nat} {w:World} (ht:P.underlying t2 = some (.slice E')) (h:(bsI E r l).holds w):Src P 1 t2 (bsV r l.length) l.length (numL l) w:=by
  rcases r with _|⟨b,pre,more,ex⟩
  · have:l = []:=bsI_P h
    subst this
    exact Src.ofNil (size:=1) w ht 0
  · have hb:=bsI_P h
    refine Src.ofSlice w ht _ _ _ _ (by rw [numL_length,Nat.mul_one]) (fun j u hj=>?_) (fun u hu=>one_cell' (numL_one l u hu))
    rw [cell_at hb]
    exact mid_get j u hj
theorem src_blk {E E':TypeId} {b c:Nat} {l:List Nat} {wr:Bool} {fz:Nat×Nat} {w:World} (ht:P.underlying t2 = some (.slice E')) (h:(Item.blk b ⟨wr,numL l,E,fz⟩).holds w):Src P 1 t2 (.slice (some ⟨b,0,none⟩) l.length c) l.length (numL l) w:=by
  refine Src.ofSlice w ht _ _ _ _ (by rw [numL_length,Nat.mul_one]) (fun j u hj=>?_) (fun u hu=>one_cell' (numL_one l u hu))
  rw [cell_at h,Nat.zero_add,List.getElem?_toArray]
  exact hj
theorem src_str {s:ByteArray} {w:World} (ht:P.underlying t2 = some .string):Src P 1 t2 (.string s) (ofS s).length (numL (ofS s)) w:=by
  rw [ofS_length,← byteCells_num]
  exact Src.ofString w ht s
theorem exec_append2 {a : Act} {w w' : World} {x y : Operand} {u v r : Value} {dd : Option Tmp} {g : Option (Nat × Bool)} (hx : a.eval x = u) (hy : a.eval y = v) (h : (Builtin.append_ #[t, t2] ty #[u, v]).run P w = .ok r w') :
    (execOp a.eval ⟨dd,.call { callee:=.builtin .append,args:=#[x,y],argTypes:=#[t,t2] },ty,pos,aft,g⟩).run P w = .ok (.value r) w':=by
  have:#[x,y].map a.eval = #[u,v]:=by simp [hx,hy]
  simp [execOp,resolve,this,invoke,builtin,h]
theorem KAO {T : List (Nat × Value)} {H R : List Item} {r : BsRow} {l news : List Nat} {yv : Value} {g : Option (Nat × Bool)} (hx : evT T x = some (bsV r l.length)) (hy : evT T y = some yv) (ht : P.underlying t = some (.slice e)) (hi : infOf P e = some (.int .u8 ((0 : Nat) : Int), 1, 1))
    (hp:Pick (bsI e r l) H R) (hsrc:∀ w,(∀ z,z∈R→z.holds w)→Src P 1 t2 yv news.length (numL news) w) (hn:l.length+news.length≤140737488355328) (hd:d<C.N)
    (h:∀ r',K ⟨(d,bsV r' (l++news).length) :: T,bsI e r' (l++news) :: R⟩):LStepW P C ⟨some d,.call { callee:=.builtin .append,args:=#[x,y],argTypes:=#[t,t2] },ty,pos,aft,g⟩ ⟨T,H⟩ K:=by
  unfold LStepW
  intro a w hr Qr
  obtain ⟨i,hi1,hi3,hi2,hi4⟩:=inf_spec hi
  have hpm:=hp.perm
  have hin:bsI e r l∈H:=hpm.mem_iff.2 (.head _)
  have hmm:∀ z,z∈R→z∈H:=fun z hz=>hpm.mem_iff.2 (.tail _ hz)
  have hS:=hsrc w (fun z hz=>hr.hp z (hmm z hz))
  have hdd:(bsI e r l :: R).Pairwise Apart:=(List.Perm.pairwise_iff (fun h=>Apart.symm h) hpm).1 hr.dist
  obtain ⟨hd1,hd2⟩:=List.pairwise_cons.1 hdd
  have hsel:Rel C ⟨T,R⟩ a w:=⟨hr.size,hr.defers,hr.tm,fun z hz=>hr.hp z (hmm z hz),fun z hz=>hr.own z (hmm z hz),hd2,hr.fr⟩
  have hl:(l++news).length = l.length+news.length:=List.length_append
  have grow : ∀ (base : Option Addr) (cap : Nat), evT T x = some (.slice base l.length cap) → (Builtin.firstCells i.size l.length (.slice base l.length cap)).run P w.drew = .ok (numL l).toArray w.drew → cap < l.length + news.length → 
      ∃ r' w',(execOp a.eval ⟨some d,.call { callee:=.builtin .append,args:=#[x,y],argTypes:=#[t,t2] },ty,pos,aft,g⟩).run P w = .ok (.value (bsV r' (l++news).length)) w'∧Rel C ⟨T,bsI e r' (l++news) :: R⟩ a w':=by
    intro base cap hx' hold hc
    have hrr:=run_append_grow_src (P:=P) w t t2 ty e i (.int .u8 ((0:Nat):Int)) ht hi1 hi3 base l.length cap (numL l) hold yv news.length (numL news) (by rw [hi2]; exact hS) hc (by omega) (growslice_fits hc (by rw [hi4]; omega))
    rw [exec_append2 (hr.ev hx') (hr.ev hy) hrr]
    have hge:=grownCap_ge w (l.length+news.length) cap e
    have e1:∀ n,Builtin.zeroCells (Value.int .u8 ((0:Nat):Int)).cells n = (List.replicate n (Value.int .u8 ((0:Nat):Int))).toArray:=by
      intro n
      apply Array.ext
      · simp [Builtin.zeroCells,Value.cells]
      · intro k h1 h2
        simp [Builtin.zeroCells,Value.cells,Nat.mod_one]
    refine ⟨some (w.heap.size,[],List.replicate (grownCap w (l.length+news.length) cap e-(l.length+news.length)) (Value.int .u8 ((0:Nat):Int)),[]),w.drew.alloc (.cells ((numL l++numL news).toArray++Builtin.zeroCells (Value.int .u8 ((0:Nat):Int)).cells (grownCap w (l.length+news.length) cap e-(l.length+news.length))) e),?_,?_⟩
    · simp only [bsV,bsA,bsM,List.length_nil,List.length_replicate,hl]
      rw [show l.length+news.length+(grownCap w (l.length+news.length) cap e-(l.length+news.length)) = grownCap w (l.length+news.length) cap e by omega]
    · have hal:=hsel.drew.alloc ((numL l++numL news)++List.replicate (grownCap w (l.length+news.length) cap e-(l.length+news.length)) (Value.int .u8 ((0:Nat):Int))) e
      have hcs:((numL l++numL news)++List.replicate (grownCap w (l.length+news.length) cap e-(l.length+news.length)) (Value.int .u8 ((0:Nat):Int))).toArray = (numL l++numL news).toArray++Builtin.zeroCells (Value.int .u8 ((0:Nat):Int)).cells (grownCap w (l.length+news.length) cap e-(l.length+news.length)):=by
        rw [e1]; simp
      rw [hcs] at hal
      refine hal.turn (.head _) (fun hh=>bsI_of ?_) (fun k hk=>hk) (fun _=>rfl)
      simp only [bsP,List.nil_append,List.append_nil,numL_append]
      exact hh
  have fin:(∃ r' w',(execOp a.eval ⟨some d,.call { callee:=.builtin .append,args:=#[x,y],argTypes:=#[t,t2] },ty,pos,aft,g⟩).run P w = .ok (.value (bsV r' (l++news).length)) w'∧Rel C ⟨T,bsI e r' (l++news) :: R⟩ a w')→(⟨some d,.call { callee:=.builtin .append,args:=#[x,y],argTypes:=#[t,t2] },ty,pos,aft,g⟩:Oper).wp P a w (fun a' w'=>∃ s,K s∧Rel C s a' w') Qr:=by
    rintro ⟨r',w',h1,h2⟩
    unfold Oper.wp
    rw [h1]
    exact ⟨_,h r',h2.put hd _⟩
  apply fin
  rcases r with _|⟨b,pre,more,ex⟩
  · have hl0:l = []:=bsI_P (hr.hp _ hin)
    subst hl0
    rcases news with _|⟨n0,ns⟩
    · have hrr:=run_append_nothing (P:=P) w t t2 ty e i ht hi1 none 0 0 (Nat.le_refl _) yv (by rw [hi2]; exact hS)
      refine ⟨none,w,exec_append2 (hr.ev hx) (hr.ev hy) hrr,hsel.cons (bsI_nil e w) rfl⟩
    · exact grow none 0 hx (run_firstCells_none w.drew i.size 0 0 0) (by simp)
  · have hb:w.heap[b]? = some (.cells (pre++(numL l++(more++ex))).toArray e (0,0)):=bsI_P (hr.hp _ hin)
    have hcl:∀ j,j<more.length→(w.cell? ⟨b,pre.length+l.length+j,none⟩).isSome = true:=by
      intro j hj
      rw [cell_of (B:=⟨true,pre++(numL l++(more++ex)),e,(0,0)⟩) hb]
      have hlt:pre.length+l.length+j<(pre++(numL l++(more++ex))).length:=by simp [numL_length]; omega
      rw [List.getElem?_eq_getElem hlt]; rfl
    have hfz:∀ j,w.frozen? ⟨b,j,none⟩ = false:=by intro j; simp [World.frozen?,hb]
    by_cases hroom:news.length≤more.length
    · have hrr:=run_append_room_src (P:=P) w t t2 ty e i ht hi1 b pre.length l.length (l.length+more.length) yv news.length (numL news) (by rw [hi2]; exact hS) (by omega) (fun j hj=>by rw [hi2,Nat.mul_one]; exact hcl j (by rw [numL_length] at hj; omega)) (fun j hj=>hfz _)
      · have hK:(execOp a.eval ⟨some d,.call { callee:=.builtin .append,args:=#[x,y],argTypes:=#[t,t2] },ty,pos,aft,g⟩).run P w = _:=exec_append2 (hr.ev hx) (hr.ev hy) hrr
        have hpos:=hr.own _ hin rfl b (by simp [bsI,Item.fp,bsFp])
        have hset:=run_storeCells (P:=P) b e (0,0) (numL news) 0 (pre.length+l.length) (pre++(numL l++(more++ex))) w hb (numL_one news) (by simp [numL_length]; omega) (fun j _=>by omega)
        obtain ⟨w2,hw2,hb2,ho2,hz2,hos2,htp2,hout2⟩:=hset
        have hst:=run_storeCells_cells (P:=P) b (pre.length+l.length) (numL news) 0 w (fun j hj=>by rw [Nat.add_zero]; exact hcl j (by rw [numL_length] at hj; omega)) (fun j hj=>hfz _) (fun u hu=>one_cell' (numL_one news u hu))
        · rw [hst] at hw2
          simp only [Nat.add_zero] at hw2 hb2
          have hww:w.setCells b (pre.length+l.length) (numL news) = w2:=by injection hw2
          subst hww
          rw [hi2,Nat.mul_one] at hK
          refine ⟨some (b,pre,more.drop news.length,ex),w.setCells b (pre.length+l.length) (numL news),hK.trans ?_,?_⟩
          · simp only [bsV,bsA,bsM,hl,List.length_drop]
            rw [show l.length+news.length+(more.length-news.length) = l.length+more.length by omega]
          · have hr2:Rel C ⟨T,bsI e (some (b,pre,more,ex)) l :: R⟩ a w:=⟨hr.size,hr.defers,hr.tm,fun z hz=>hr.hp z (hpm.mem_iff.2 hz),fun z hz=>hr.own z (hpm.mem_iff.2 hz),hdd,hr.fr⟩
            have hr3:Rel C ⟨T,.blk b ⟨true,pre++(numL l++(more++ex)),e,(0,0)⟩ :: R⟩ a w:=hr2.turn (.head _) (fun hh=>bsI_blk.1 hh) (fun k hk=>hk) (fun _=>rfl)
            have hr4:=hr3.setBlk (B':=⟨true,pre++(numL (l++news)++(more.drop news.length++ex)),e,(0,0)⟩) (SetAt.head _) rfl (by
              show _ = _
              rw [hb2]
              congr 3
              unfold KAa
              rw [numL_append,numL_length]
              have h1:(pre++(numL l++(more++ex))).take (pre.length+l.length) = pre++numL l:=by
                rw [← List.append_assoc,List.take_left' (by rw [List.length_append,numL_length])]
              have h2:(pre++(numL l++(more++ex))).drop (pre.length+l.length+news.length) = more.drop news.length++ex:=by
                rw [← List.append_assoc,← List.append_assoc,List.append_assoc _ more ex,Nat.add_assoc,← Nat.add_assoc,List.drop_append,List.drop_eq_nil_of_le (by rw [List.length_append,numL_length]; omega),List.nil_append,List.length_append,numL_length,Nat.add_sub_cancel_left,List.drop_append_of_le_length hroom]
              rw [h1,h2]
              simp) ho2 hz2 hos2 htp2 hout2
            exact hr4.turn (.head _) (fun hh=>bsI_blk.2 hh) (fun k hk=>hk) (fun _=>rfl)
    · refine grow (some ⟨b,pre.length,none⟩) (l.length+more.length) hx ?_ (by omega)
      rw [hi2]
      refine run_firstCells_some w.drew 1 l.length ⟨b,pre.length,none⟩ l.length _ (numL l) (by rw [numL_length,Nat.mul_one]) (fun j u hj=>?_)
      have:w.drew.heap[b]? = w.heap[b]?:=rfl
      rw [cell_at (this.trans hb)]
      exact mid_get j u hj
theorem LStepW.appendN0 {T : List (Nat × Value)} {H : List Item} {news : List Nat} {yv : Value} {g : Option (Nat × Bool)} (hx : evT T x = some (.slice none 0 0)) (hy : evT T y = some yv) (ht : P.underlying t = some (.slice e)) (hi : infOf P e = some (.int .u8 ((0 : Nat) : Int), 1, 1))
    (hsrc:∀ w,(∀ z,z∈H→z.holds w)→Src P 1 t2 yv news.length (numL news) w) (hn:news.length≤140737488355328) (hd:d<C.N)
    (h:∀ r',K ⟨(d,bsV r' news.length) :: T,bsI e r' news :: H⟩):LStepW P C ⟨some d,.call { callee:=.builtin .append,args:=#[x,y],argTypes:=#[t,t2] },ty,pos,aft,g⟩ ⟨T,H⟩ K:=by
  have:=KAO (P:=P) (C:=C) (ty:=ty) (pos:=pos) (aft:=aft) (d:=d) (K:=K) (x:=x) (y:=y) (t:=t) (t2:=t2) (e:=e) (T:=T) (H:=bsI e none [] :: H) (R:=H) (r:=none) (l:=[]) (news:=news) (g:=g) hx hy ht hi (.head _) hsrc (by simpa using hn) hd (by simpa using h)
  unfold LStepW at this ⊢
  intro a w hr Qr
  exact this a w (hr.cons (bsI_nil e w) rfl) Qr
end
theorem Weak.roblk {E:TypeId} {b:Nat} {pre more ex:List Value} {l:List Nat}:Weak (roI E (some (b,pre,more,ex)) l) (.blk b ⟨false,pre++(numL l++(more++ex)),E,(0,0)⟩):=⟨fun _ h=>roI_P h,fun _ h=>h,rfl⟩
theorem Weak.bsblk {E:TypeId} {b:Nat} {pre more ex:List Value} {l:List Nat}:Weak (bsI E (some (b,pre,more,ex)) l) (.blk b ⟨false,pre++(numL l++(more++ex)),E,(0,0)⟩):=⟨fun _ h=>bsI_P h,fun _ h=>h,rfl⟩
theorem sR {p:Prop} (h:p:=by first
  | exact SelR.nil _
  | exact SelR.cons (by repeat (first|exact Pick.head _|apply Pick.tail)) (SelR.nil _)
  | exact SelR.cons (by repeat (first|exact Pick.head _|apply Pick.tail)) (SelR.cons (by repeat (first|exact Pick.head _|apply Pick.tail)) (SelR.nil _))
  | exact SelR.cons (by repeat (first|exact Pick.head _|apply Pick.tail)) (SelR.cons (by repeat (first|exact Pick.head _|apply Pick.tail)) (SelR.cons (by repeat (first|exact Pick.head _|apply Pick.tail)) (SelR.nil _)))
  | exact SelR.cons (by repeat (first|exact Pick.head _|apply Pick.tail)) (SelR.cons (by repeat (first|exact Pick.head _|apply Pick.tail)) (SelR.cons (by repeat (first|exact Pick.head _|apply Pick.tail)) (SelR.cons (by repeat (first|exact Pick.head _|apply Pick.tail)) (SelR.nil _))))
  | exact SelR.cons (by repeat (first|exact Pick.head _|apply Pick.tail)) (SelR.cons (by repeat (first|exact Pick.head _|apply Pick.tail)) (SelR.cons (by repeat (first|exact Pick.head _|apply Pick.tail)) (SelR.cons (by repeat (first|exact Pick.head _|apply Pick.tail)) (SelR.cons (by repeat (first|exact Pick.head _|apply Pick.tail)) (SelR.nil _)))))
  | exact SelR.cons (by repeat (first|exact Pick.head _|apply Pick.tail)) (SelR.cons (by repeat (first|exact Pick.head _|apply Pick.tail)) (SelR.cons (by repeat (first|exact Pick.head _|apply Pick.tail)) (SelR.cons (by repeat (first|exact Pick.head _|apply Pick.tail)) (SelR.cons (by repeat (first|exact Pick.head _|apply Pick.tail)) (SelR.cons (by repeat (first|exact Pick.head _|apply Pick.tail)) (SelR.nil _))))))):p:=h
theorem wK {p:Prop} (h:p:=by repeat (first
  | exact Weaks.nil _
  | refine Weaks.cons (by repeat (first|exact Mh _|apply Mt)) Weak.blk ?_
  | refine Weaks.cons (by repeat (first|exact Mh _|apply Mt)) Weak.bs ?_
  | refine Weaks.cons (by repeat (first|exact Mh _|apply Mt)) Weak.ro' ?_
  | refine Weaks.cons (by repeat (first|exact Mh _|apply Mt)) Weak.roblk ?_
  | refine Weaks.cons (by repeat (first|exact Mh _|apply Mt)) Weak.bsblk ?_
  | refine Weaks.cons (by repeat (first|exact Mh _|apply Mt)) Weak.fact ?_
  | refine Weaks.cons (by repeat (first|exact Mh _|apply Mt)) Weak.own ?_)):p:=h
def bsDrop (r:BsRow) (l:List Nat) (k:Nat):BsRow:=match r with
  | none=>none
  | some (b,pre,more,ex)=>if l.length+more.length = k then some (b,pre,[],numL l++(more++ex)) else some (b,pre++numL (l.take k),more,ex)
theorem bsDrop_P {E:TypeId} {r:BsRow} {l:List Nat} {k:Nat} {w:World} (hk:k≤l.length) (h:bsP E r l w):bsP E (bsDrop r l k) (l.drop k) w:=by
  rcases r with _|⟨b,pre,more,ex⟩
  · have:l = []:=h
    subst this
    simp [bsDrop,bsP]
  · unfold bsDrop
    simp only
    split
    · rename_i he
      have:k = l.length:=by omega
      subst this
      rw [List.drop_length]
      simpa [bsP,numL] using h
    · have e:numL l = numL (l.take k)++numL (l.drop k):=by rw [← numL_append,List.take_append_drop]
      simp only [bsP] at h ⊢
      rw [h,e]
      simp [List.append_assoc]
theorem bsDrop_fp {r:BsRow} {l:List Nat} {k:Nat}:bsFp (bsDrop r l k) = bsFp r:=by
  rcases r with _|⟨b,pre,more,ex⟩
  · rfl
  · unfold bsDrop; simp only; split <;> rfl
theorem bsDrop_ro {E:TypeId} {r:BsRow} {l:List Nat} {k:Nat} (hk:k≤l.length) (w:World) (h:(roI E r l).holds w):(roI E (bsDrop r l k) (l.drop k)).holds w :=
  ⟨by rw [bsDrop_fp]; exact h.1,fun w' ha=>bsDrop_P hk (h.2 w' (by rwa [bsDrop_fp] at ha))⟩
theorem Sub.drop {C:Ctx} {T:List (Nat×Value)} {H R:List Item} {E:TypeId} {r:BsRow} {l:List Nat} {k:Nat} (hk:k≤l.length) (hp:Pick (roI E r l) H R):Sub C ⟨T,roI E (bsDrop r l k) (l.drop k) :: R⟩ ⟨T,H⟩ :=
  Sub.turn hp (fun w h=>bsDrop_ro hk w h) (fun k' h=>by rwa [show (roI E (bsDrop r l k) (l.drop k)).fp = bsFp (bsDrop r l k) from rfl,bsDrop_fp] at h) (fun h=>by cases h)
def nthN' (l:List Nat) (i:Nat):Nat:=l.getD i 0
theorem LCode.know {P:Program} {C:Ctx} {c:Code} {Q:Exit→St→Prop} {T:List (Nat×Value)} {H:List Item} {x:Item} {φ:Prop} (hm:x∈H) (hφ:∀ w,x.holds w→φ) (h:φ→LCode P C c ⟨T,H⟩ Q):LCode P C c ⟨T,H⟩ Q:=by
  unfold LCode at h ⊢
  intro a w hr
  exact h (hφ w (hr.hp x hm)) a w hr
section
variable {P:Program} {C:Ctx} {d:Option Tmp} {ty:TypeId} {pos:String} {aft:Array Edge} {g:Option (Nat×Bool)} {st:St} {x y z:Operand} {t e:TypeId}
theorem Det.slL {p : Option Addr} {l c k m : Nat} {kk : IntKind} (ht : P.underlying t = some (.slice e)) (he : szOf P e = some m) (hx : evT st.T x = some (.slice p l c)) (hz : evT st.T z = some (.int kk (k : Int))) (h1 : k ≤ l) :
    Slots P C ⟨d,.slice t x (some z) none none,ty,pos,aft,g⟩ st (.slice (if c = k then p else p.map (·.add (k*m))) (l-k) (c-k)):=by
  unfold Slots
  intro a w hr
  have h0:(0:Int)≤(k:Int):=Int.natCast_nonneg k
  have h1':((k:Int)≤(l:Int)):=by exact_mod_cast h1
  simp [execOp,hr _ _ hx,hr _ _ hz,Instr.sliceAt,Instr.slice,run_underlying ht,Instr.sliceBounds,run_sliceBound,h0,h1',h1,run_sizeOf he]
theorem Det.slDrop {r : BsRow} {l : List Nat} {k : Nat} {kk : IntKind} (ht : P.underlying t = some (.slice e)) (he : szOf P e = some 1) (hx : evT st.T x = some (bsV r l.length)) (hz : evT st.T z = some (.int kk (k : Int))) (hk : k ≤ l.length) (hr : r ≠ none) :
    Slots P C ⟨d,.slice t x (some z) none none,ty,pos,aft,g⟩ st (bsV (bsDrop r l k) (l.drop k).length):=by
  rcases r with _|⟨b,pre,more,ex⟩
  · exact absurd rfl hr
  have hb:(⟨b,pre.length,none⟩:Addr).add k = ⟨b,pre.length+k,none⟩:=by simp [Addr.add]
  have h1:=Det.slL (P:=P) (C:=C) (d:=d) (ty:=ty) (pos:=pos) (aft:=aft) (g:=g) (st:=st) (x:=x) (z:=z) (t:=t) (e:=e) (p:=some ⟨b,pre.length,none⟩) (l:=l.length) (c:=l.length+more.length) ht he hx hz hk
  refine KK h1 ?_
  by_cases hq:l.length+more.length = k
  · have e1:bsDrop (some (b,pre,more,ex)) l k = some (b,pre,[],numL l++(more++ex)):=if_pos hq
    rw [if_pos hq,e1,List.length_drop]
    show Value.slice (some ⟨b,pre.length,none⟩) (l.length-k) (l.length+more.length-k) = .slice (some ⟨b,pre.length,none⟩) (l.length-k) (l.length-k+0)
    congr 1
    omega
  · have e1:bsDrop (some (b,pre,more,ex)) l k = some (b,pre++numL (l.take k),more,ex):=if_neg hq
    rw [if_neg hq,e1,List.length_drop]
    show Value.slice (some ((⟨b,pre.length,none⟩:Addr).add (k*1))) (l.length-k) (l.length+more.length-k) = .slice (some ⟨b,(pre++numL (l.take k)).length,none⟩) (l.length-k) (l.length-k+more.length)
    rw [Nat.mul_one,hb]
    congr 1
    · rw [List.length_append,numL_length,List.length_take,Nat.min_eq_left hk]
    · omega
theorem Det.indexAgg {n i : Nat} {k : IntKind} {D : TypeDesc} {cs : List Value} {v : Value} (ht : P.underlying t = some (.array n e)) (hu : P.underlying e = some D) (hD : notAgg D = true) (he : szOf P e = some 1) (hx : evT st.T x = some (.agg cs.toArray)) (hz : evT st.T z = some (.int k (i : Int))) (h1 : i < n) (hv : cs[i]? = some v) :
    Slots P C ⟨d,.index t x z,ty,pos,aft,g⟩ st v:=by
  unfold Slots
  intro a w hr
  have hb:(0≤(i:Int)∧(i:Int)<(n:Int)):=⟨by omega,by omega⟩
  have hp:=PartOf.one (P:=P) (t:=e) (cs:=cs) (o:=i) hu hD hv w
  simp [execOp,hr _ _ hx,hr _ _ hz,Instr.index,asIntOf,run_underlying ht,hb,run_sizeOf he,hp,h1]
theorem Det.field {fs : Array Field} {n : Nat} {f : Field} {cs : List Value} {v : Value} (ht : P.underlying t = some (.struct fs)) (hf : fs[n]? = some f) (hx : evT st.T x = some (.agg cs.toArray)) (hp : PartOf P f.type cs.toArray f.offset v) :
    Slots P C ⟨d,.field t x n,ty,pos,aft,g⟩ st v:=by
  unfold Slots
  intro a w hr
  have:=hp w
  simp [execOp,hr _ _ hx,Instr.field,run_underlying ht,hf,asAgg,this]
def toS (l:List Nat):ByteArray:=strOf (l.map UInt8.ofNat)
theorem Det.bsStr {r : BsRow} {l : List Nat} {k c : Nat} {H : List Item} {T : List (Nat × Value)} {E : TypeId} {s : TypeId} (hs : P.underlying s = some (.slice e)) (he : P.underlying e = some (.int .u8)) (ht : P.underlying t = some .string) (hx : evT T x = some (.slice (bsA r) k c))
    (hm:bsI E r l∈H) (hk:k≤l.length):Det P C ⟨d,.convert s t x,ty,pos,aft,g⟩ ⟨T,H⟩ (.string (toS (l.take k))):=by
  rcases r with _|⟨b,pre,more,ex⟩
  · unfold Det
    intro a w hr
    have h0:l = []:=bsI_P (hr.hp _ hm)
    subst h0
    have hk0:k = 0:=by simpa using hk
    subst hk0
    have hx':evT T x = some (.slice none 0 c):=hx
    have hcv:=run_convert_bytes_string (P:=P) w s t e none 0 c hs he ht
    simp [execOp,hr.ev hx',hcv,Conv.bytesToString,toS,strOf]
    rfl
  · have key : ∀ a w, Rel C ⟨T, H⟩ a w → Rel C ⟨T, .blk b ⟨true, pre ++ (numL l ++ (more ++ ex)), E, (0, 0)⟩ :: []⟩ a w := by
      intro a w hr
      have one:∀ y,y∈[Item.blk b ⟨true,pre++(numL l++(more++ex)),E,(0,0)⟩]→y = Item.blk b ⟨true,pre++(numL l++(more++ex)),E,(0,0)⟩:=fun y hy=>List.mem_singleton.1 hy
      refine ⟨hr.size,hr.defers,hr.tm,fun y hy=>?_,fun y hy _ q hq=>?_,List.pairwise_cons.2 ⟨fun y hy=>(by cases hy),.nil⟩,hr.fr⟩
      · rw [one y hy]; exact bsI_P (hr.hp _ hm)
      · rw [one y hy] at hq; exact hr.own _ hm rfl q hq
    have hd:=Det.bytesStr (P:=P) (C:=C) (d:=d) (ty:=ty) (pos:=pos) (aft:=aft) (g:=g) (st:=⟨T,.blk b ⟨true,pre++(numL l++(more++ex)),E,(0,0)⟩ :: []⟩) (x:=x) (t:=t) (s:=s) (e:=e) (b:=b) (o:=pre.length) (l:=k) (c:=c) (B:=⟨true,pre++(numL l++(more++ex)),E,(0,0)⟩) (f:=nthN' l) hs he ht hx (.head _) (by
      rw [List.drop_left,List.take_append_of_le_length (by rw [numL_length]; exact hk)]
      unfold numL vec nthN'
      apply List.ext_getElem
      · simp; omega
      · intro i h1 h2
        simp at h1 h2
        have h3:i<l.length:=by omega
        simp [List.getD,h3])
    have e1:strOf ((List.range k).map fun i=>UInt8.ofNat (nthN' l i)) = toS (l.take k):=by
      unfold toS nthN'
      congr 1
      apply List.ext_getElem
      · simp; omega
      · intro i h1 h2
        simp at h1 h2
        have h3:i<l.length:=by omega
        simp [List.getD,h3]
    rw [e1] at hd
    unfold Det at hd ⊢
    exact fun a w hr=>hd a w (key a w hr)
theorem Det.makeFuncC2 {fn:Fn} {v1 v2:Value} (hx:evT st.T x = some v1) (hy:evT st.T y = some v2):Slots P C ⟨d,.makeFunc fn #[] #[x,y],ty,pos,aft,g⟩ st (.func fn #[] #[v1,v2]):=by
  unfold Slots; intro a w hr
  simp [execOp,Instr.makeFunc,hr _ _ hx,hr _ _ hy]
theorem run_equalIn_fn (P:Program) (w:World) (n:Nat) (fn:Fn) (xs ys:Array Value) {ps rs:Array TypeId} {vv:Bool} {t:TypeId} (ht:P.underlying t = some (.func ps rs vv)):(Op.equalIn (n+1) t (.func fn xs ys) .nilFunc).run P w = .ok false w:=by
  simp [Op.equalIn,run_underlying ht]
theorem Det.eqfn {fn : Fn} {xs ys : Array Value} {ps rs : Array TypeId} {vv : Bool} {yt : TypeId} (ht : P.underlying t = some (.func ps rs vv)) (hx : evT st.T x = some (.func fn xs ys)) (hy : evT st.T y = some .nilFunc) :
    Slots P C ⟨d,.binOp .eql t x y yt,ty,pos,aft,g⟩ st (.bool false):=by
  unfold Slots; intro a w hr
  simp [execOp,eqGuard,hr _ _ hx,hr _ _ hy,binOp,Op.equal,Op.maxDepth,run_equalIn_fn P w 9999 fn xs ys ht]
end
theorem toS_size (l:List Nat):(toS l).size = l.length:=by
  show (l.map UInt8.ofNat).toArray.size = _
  simp
end Go.Proofs.YtnpeokiboiclfaaGreat
set_option linter.unusedVariables false
set_option linter.unusedSimpArgs false
namespace Go.Proofs.YtnpeokiboiclfaaGreat
open Go Go.RowKit
structure Hp where
  bits:Nat
  M:Nat
  wb:Nat
  R:Nat
  e1:Nat
  e2:Nat
  e3:Nat
  a1:Nat
  a2:Nat
  a3:Nat
  s1:Nat
  s2:Nat
  s3:Nat
  t1:Nat
  t2:Nat
  t3:Nat
  K:List Nat
  blk:Nat
def orM (M a b:Nat):Nat:=Nat.lor (Nat.mod a M) (Nat.mod b M)
def xorM (M a b:Nat):Nat:=Nat.xor (Nat.mod a M) (Nat.mod b M)
def andM (M a b:Nat):Nat:=Nat.land (Nat.mod a M) (Nat.mod b M)
def cplM (M a:Nat):Nat:=Nat.xor (Nat.sub M 1) (Nat.mod a M)
def addM (M a b:Nat):Nat:=Nat.mod (Nat.add a b) M
def Hp.rot (p:Hp) (x k:Nat):Nat:=orM p.M (Nat.mod (Nat.mul x (Nat.pow 2 (Nat.sub p.bits k))) p.M) (Nat.div x (Nat.pow 2 k))
def Hp.sg (p:Hp) (x a b c:Nat):Nat:=xorM p.M (xorM p.M (p.rot x a) (p.rot x b)) (p.rot x c)
def Hp.sh (p:Hp) (x a b c:Nat):Nat:=xorM p.M (xorM p.M (p.rot x a) (p.rot x b)) (Nat.div x (Nat.pow 2 c))
def nthN:List Nat→Nat→Nat
  | [],_=>0
  | x :: _,0=>x
  | _ :: l,n+1=>nthN l n
def Hp.beW (p:Hp) (f:Nat→Nat) (i:Nat):Nat→Nat
  | 0=>0
  | k+1=>orM p.M (Nat.mod (Nat.mul (p.beW f i k) 256) p.M) (Nat.mod (f (Nat.add (Nat.mul p.wb i) k)) p.M)
def Hp.m0 (p:Hp) (f:Nat→Nat):List Nat:=(List.range 16).map fun j=>p.beW f (15-j) p.wb
def Hp.ext (p:Hp) (l:List Nat):Nat:=addM p.M (addM p.M (addM p.M (nthN l 15) (p.sh (nthN l 14) p.s1 p.s2 p.s3)) (nthN l 6)) (p.sh (nthN l 1) p.t1 p.t2 p.t3)
def Hp.schl (p:Hp) (f:Nat→Nat):Nat→List Nat
  | 0=>p.m0 f
  | n+1=>p.ext (p.schl f n) :: p.schl f n
def Hp.wd (p:Hp) (f:Nat→Nat) (i j:Nat):Nat:=if j<i then nthN (p.schl f (i-16)) (i-1-j) else 0
structure S8 where
  a:Nat
  b:Nat
  c:Nat
  d:Nat
  e:Nat
  f:Nat
  g:Nat
  h:Nat
def S8.at (s:S8):Nat→Nat
  | 0=>s.a
  | 1=>s.b
  | 2=>s.c
  | 3=>s.d
  | 4=>s.e
  | 5=>s.f
  | 6=>s.g
  | _=>s.h
def Hp.ch (p:Hp) (e f g:Nat):Nat:=xorM p.M (andM p.M e f) (andM p.M (cplM p.M e) g)
def Hp.maj (p:Hp) (a b c:Nat):Nat:=xorM p.M (xorM p.M (andM p.M a b) (andM p.M a c)) (andM p.M b c)
def Hp.T1 (p:Hp) (s:S8) (k w:Nat):Nat:=addM p.M (addM p.M (addM p.M (addM p.M s.h (p.sg s.e p.e1 p.e2 p.e3)) (p.ch s.e s.f s.g)) k) w
def Hp.stp (p:Hp) (s:S8) (k w:Nat):S8:=⟨addM p.M (addM p.M (p.T1 s k w) (p.sg s.a p.a1 p.a2 p.a3)) (p.maj s.a s.b s.c),s.a,s.b,s.c,addM p.M s.d (p.T1 s k w),s.e,s.f,s.g⟩
def Hp.rnds (p:Hp) (W:Nat→Nat) (h:S8):Nat→S8
  | 0=>h
  | i+1=>p.stp (p.rnds W h i) (nthN p.K i) (W i)
def Hp.fin (p:Hp) (h s:S8):S8:=⟨addM p.M h.a s.a,addM p.M h.b s.b,addM p.M h.c s.c,addM p.M h.d s.d,addM p.M h.e s.e,addM p.M h.f s.f,addM p.M h.g s.g,addM p.M h.h s.h⟩
def Hp.turn (p:Hp) (h:S8) (f:Nat→Nat):S8:=p.fin h (p.rnds (p.wd f p.R) h p.R)
def Hp.blks (p:Hp) (l:List Nat):Nat→S8→S8
  | 0,h=>h
  | q+1,h=>p.turn (p.blks l q h) (fun j=>nthN (l.drop (p.blk*q)) j)
structure ShS where
  h:S8
  rest:List Nat
  n:Nat
def Hp.write (p:Hp) (s:ShS) (x:List Nat):ShS :=
  let all:=s.rest++x
  let q:=all.length/p.blk
  ⟨p.blks all q s.h,all.drop (p.blk*q),(s.n+x.length)%18446744073709551616⟩
def Hp.zs (p:Hp) (r:Nat):Nat:=(p.blk+(p.blk-2*p.wb)-(r+1)%p.blk)%p.blk
def lenP (n i:Nat):List Nat:=(List.range i).map fun i=>n*2^3%18446744073709551616/2^(56-8*i)%256
def Hp.last (p:Hp) (s:ShS):List Nat:=(((s.rest++[128])++List.replicate (p.zs s.rest.length) 0)++List.replicate (2*p.wb-8) 0)++lenP s.n 8
def Hp.wbP (p:Hp) (x k:Nat):List Nat:=(List.range k).map fun k=>x/2^(p.bits-8-8*k)%256
def Hp.outP (p:Hp) (h:S8) (i:Nat):List Nat:=(List.range i).flatMap fun i=>p.wbP (h.at i) p.wb
def Hp.sum (p:Hp) (s:ShS) (size:Nat):List Nat:=(p.outP (p.blks (p.last s) ((p.last s).length/p.blk) s.h) 8).take size
theorem lenP_succ (n i:Nat):lenP n (i+1) = lenP n i++[n*2^3%18446744073709551616/2^(56-8*i)%256]:=by simp [lenP,List.range_succ]
theorem Hp.wbP_succ (p:Hp) (x k:Nat):p.wbP x (k+1) = p.wbP x k++[x/2^(p.bits-8-8*k)%256]:=by simp [Hp.wbP,List.range_succ]
theorem Hp.outP_succ (p:Hp) (h:S8) (i:Nat):p.outP h (i+1) = p.outP h i++p.wbP (h.at i) p.wb:=by simp [Hp.outP,List.range_succ]
theorem lenP_length (n i:Nat):(lenP n i).length = i:=by simp [lenP]
theorem Hp.wbP_length (p:Hp) (x k:Nat):(p.wbP x k).length = k:=by simp [Hp.wbP]
theorem Hp.outP_length (p:Hp) (h:S8):∀ i,(p.outP h i).length = i*p.wb
  | 0=>by simp [Hp.outP]
  | i+1=>by rw [p.outP_succ,List.length_append,p.outP_length h i,p.wbP_length,Nat.succ_mul]
theorem Hp.write_rest (p:Hp) (s:ShS) (x:List Nat) (h:0<p.blk):(p.write s x).rest.length<p.blk:=by
  show ((s.rest++x).drop (p.blk*((s.rest++x).length/p.blk))).length<p.blk
  rw [List.length_drop]
  have h1:=Nat.div_add_mod (s.rest++x).length p.blk
  have h2:=Nat.mod_lt (s.rest++x).length h
  omega
theorem rep_succ (A:List Nat) (j:Nat):(A++List.replicate j 0)++[0] = A++List.replicate (j+1) 0:=by rw [List.append_assoc,← List.replicate_succ']
theorem nthN_get:∀ (l:List Nat) (i:Nat),nthN l i = l.getD i 0
  | [],_=>by simp [nthN]
  | x :: _,0=>by simp [nthN]
  | _ :: l,n+1=>by simp [nthN,nthN_get l n]
theorem numL_vec (l:List Nat):numL l = vec .u8 l.length (nthN l):=by
  unfold numL vec
  apply List.ext_getElem
  · simp
  · intro i h1 h2
    simp at h1
    simp [nthN_get,List.getD,h1]
theorem bs_cell {pre more ex:List Value} {l:List Nat} {j:Nat} (h:j<l.length):(pre++(numL l++(more++ex)))[j+pre.length]? = some (.int .u8 (nthN l j:Int)):=by
  rw [List.getElem?_append_right (by omega),Nat.add_sub_cancel,List.getElem?_append_left (by rw [numL_length]; exact h),numL_vec,KU _ _ _ h]
theorem Hp.m0_at (p:Hp) (f:Nat→Nat) {j:Nat} (h:j<16):nthN (p.m0 f) (15-j) = p.beW f j p.wb:=by
  rw [nthN_get]
  unfold Hp.m0
  have h1:15-j<16:=by omega
  simp [List.getD,h1]
  rw [show 15-(15-j) = j by omega]
theorem Hp.wd_16 (p:Hp) (f:Nat→Nat) {j:Nat} (h:j<16):p.wd f 16 j = p.beW f j p.wb:=by
  unfold Hp.wd
  rw [if_pos h]
  exact p.m0_at f h
theorem Hp.wd_lt (p:Hp) (f:Nat→Nat) {i d:Nat} (h1:16≤i) (h2:0<d) (h3:d≤i):p.wd f i (i-d) = nthN (p.schl f (i-16)) (d-1):=by
  unfold Hp.wd
  rw [if_pos (by omega),show i-1-(i-d) = d-1 by omega]
theorem Hp.wd_next (p:Hp) (f:Nat→Nat) {i:Nat} (h:16≤i) (j:Nat):(if j = i then p.ext (p.schl f (i-16)) else p.wd f i j) = p.wd f (i+1) j:=by
  have e:i+1-16 = (i-16)+1:=by omega
  unfold Hp.wd
  rw [e]
  by_cases h1:j = i
  · rw [if_pos h1,if_pos (by omega),show i+1-1-j = 0 by omega]; rfl
  · rw [if_neg h1]
    by_cases h2:j<i
    · rw [if_pos h2,if_pos (by omega),show i+1-1-j = (i-1-j)+1 by omega]; rfl
    · rw [if_neg h2,if_neg (by omega)]
def Hp.wb0 (p:Hp) (f:Nat→Nat) (i k j:Nat):Nat:=if j<i then p.beW f j p.wb else if j = i then p.beW f i k else 0
theorem Hp.wb0_next (p:Hp) (f:Nat→Nat) (i k j:Nat):(if j = i then p.beW f i (k+1) else p.wb0 f i k j) = p.wb0 f i (k+1) j:=by
  unfold Hp.wb0
  by_cases h1:j = i
  · rw [if_pos h1,if_neg (by omega),if_pos h1]
  · rw [if_neg h1,if_neg h1,if_neg h1]
theorem Hp.wb0_row (p:Hp) (f:Nat→Nat) (i j:Nat):p.wb0 f i p.wb j = p.wb0 f (i+1) 0 j:=by
  unfold Hp.wb0
  by_cases h1:j<i
  · rw [if_pos h1,if_pos (by omega)]
  · by_cases h2:j = i
    · rw [if_neg h1,if_pos h2,if_pos (by omega),h2]
    · rw [if_neg h1,if_neg h2,if_neg (by omega)]
      split <;> rfl
theorem Hp.wb0_start (p:Hp) (f:Nat→Nat) (j:Nat):0 = p.wb0 f 0 0 j:=by
  unfold Hp.wb0
  rw [if_neg (by omega)]
  split <;> rfl
theorem Hp.wb0_end (p:Hp) (f:Nat→Nat) (j:Nat):p.wb0 f 16 0 j = p.wd f 16 j:=by
  by_cases h:j<16
  · rw [p.wd_16 f h]; unfold Hp.wb0; rw [if_pos h]
  · unfold Hp.wb0 Hp.wd
    rw [if_neg h,if_neg h]
    split <;> rfl
theorem Hp.wb0_here (p:Hp) (f:Nat→Nat) (i k:Nat):p.wb0 f i k i = p.beW f i k:=by
  unfold Hp.wb0
  rw [if_neg (by omega),if_pos rfl]
theorem Hp.beW_step (p:Hp) (f:Nat→Nat) (i k b:Nat) (h:b = f (p.wb*i+k)):orM p.M (p.wb0 f i k i*2^8%p.M) (b%p.M) = p.beW f i (k+1):=by
  rw [p.wb0_here,h]; rfl
theorem Hp.fin_at (p:Hp) (h s:S8):∀ i,i<8→addM p.M (h.at i) (s.at i) = (p.fin h s).at i
  | 0,_=>rfl
  | 1,_=>rfl
  | 2,_=>rfl
  | 3,_=>rfl
  | 4,_=>rfl
  | 5,_=>rfl
  | 6,_=>rfl
  | 7,_=>rfl
  | n+8,h=>absurd h (by omega)
def mixF (y:Nat) (a b:Nat→Nat) (j:Nat):Nat:=if j<y then a j else b j
theorem Hp.fin_next (p:Hp) (h s:S8) {y:Nat} (hy:y<8) (j:Nat):(if j = y then addM p.M (mixF y (p.fin h s).at h.at y) (s.at y) else mixF y (p.fin h s).at h.at j) = mixF (y+1) (p.fin h s).at h.at j:=by
  unfold mixF
  by_cases h1:j = y
  · subst h1
    rw [if_pos rfl,if_neg (Nat.lt_irrefl j),if_pos (Nat.lt_succ_self j)]
    exact p.fin_at h s j hy
  · rw [if_neg h1]
    by_cases h2:j<y
    · rw [if_pos h2,if_pos (by omega)]
    · rw [if_neg h2,if_neg (by omega)]
theorem mixF_0 (a b:Nat→Nat) (j:Nat):b j = mixF 0 a b j:=(if_neg (Nat.not_lt_zero j)).symm
theorem mixF_8 (a b:Nat→Nat) {j:Nat} (h:j<8):mixF 8 a b j = a j:=if_pos h
section
variable {a b:Nat} {k:IntKind}
theorem br_or32m:Kt .or .u32 a .u32 b = some (.int .u32 ((orM 4294967296 a b:Nat):Int)):=by
  simp only [Kt,if_true,ofInt_nat,wrap_u32_nat]
  congr 3
  simp only [BitVec.toNat_or,BitVec.toNat_ofNat]
  exact Nat.mod_eq_of_lt (Nat.or_lt_two_pow (n:=32) (Nat.mod_lt _ (by decide)) (Nat.mod_lt _ (by decide)))
theorem br_xor32m:Kt .xor .u32 a .u32 b = some (.int .u32 ((xorM 4294967296 a b:Nat):Int)):=by
  simp only [Kt,if_true,ofInt_nat,wrap_u32_nat]
  congr 3
  simp only [BitVec.toNat_xor,BitVec.toNat_ofNat]
  exact Nat.mod_eq_of_lt (Nat.xor_lt_two_pow (n:=32) (Nat.mod_lt _ (by decide)) (Nat.mod_lt _ (by decide)))
theorem br_and32m:Kt .and .u32 a .u32 b = some (.int .u32 ((andM 4294967296 a b:Nat):Int)):=by
  simp only [Kt,if_true,ofInt_nat,wrap_u32_nat]
  congr 3
  simp only [BitVec.toNat_and,BitVec.toNat_ofNat]
  exact Nat.mod_eq_of_lt (Nat.and_lt_two_pow (n:=32) _ (Nat.mod_lt _ (by decide)))
theorem br_add32m:Kt .add .u32 a .u32 b = some (.int .u32 ((addM 4294967296 a b:Nat):Int)):=by
  simp only [Kt,if_true,← Int.natCast_add,wrap_u32_nat]; rfl
theorem br_shr32m (h:b≤32):Kt .shr .u32 a k b = some (.int .u32 ((a/2^b:Nat):Int)):=by
  have h1:¬ ((b:Int)<0):=by omega
  simp only [Kt,if_neg h1,Int.toNat_natCast]
  rw [show min b IntKind.u32.bits = b from Nat.min_eq_left h,Int.fdiv_eq_ediv_of_nonneg _ (by exact_mod_cast Nat.zero_le _)]
  congr 2
theorem br_shl32m (h:b≤32):Kt .shl .u32 a k b = some (.int .u32 ((a*2^b%4294967296:Nat):Int)):=by
  have h1:¬ ((b:Int)<0):=by omega
  simp only [Kt,if_neg h1,Int.toNat_natCast]
  rw [show min b IntKind.u32.bits = b from Nat.min_eq_left h,show ((a:Int)*2^b) = ((a*2^b:Nat):Int) by simp,wrap_u32_nat]
theorem br_or64m:Kt .or .u64 a .u64 b = some (.int .u64 ((orM 18446744073709551616 a b:Nat):Int)):=by
  simp only [Kt,if_true,ofInt_nat,KAP]
  congr 3
  simp only [BitVec.toNat_or,BitVec.toNat_ofNat]
  exact Nat.mod_eq_of_lt (Nat.or_lt_two_pow (n:=64) (Nat.mod_lt _ (by decide)) (Nat.mod_lt _ (by decide)))
theorem br_xor64m:Kt .xor .u64 a .u64 b = some (.int .u64 ((xorM 18446744073709551616 a b:Nat):Int)):=by
  simp only [Kt,if_true,ofInt_nat,KAP]
  congr 3
  simp only [BitVec.toNat_xor,BitVec.toNat_ofNat]
  exact Nat.mod_eq_of_lt (Nat.xor_lt_two_pow (n:=64) (Nat.mod_lt _ (by decide)) (Nat.mod_lt _ (by decide)))
theorem br_and64m:Kt .and .u64 a .u64 b = some (.int .u64 ((andM 18446744073709551616 a b:Nat):Int)):=by
  simp only [Kt,if_true,ofInt_nat,KAP]
  congr 3
  simp only [BitVec.toNat_and,BitVec.toNat_ofNat]
  exact Nat.mod_eq_of_lt (Nat.and_lt_two_pow (n:=64) _ (Nat.mod_lt _ (by decide)))
theorem br_add64m:Kt .add .u64 a .u64 b = some (.int .u64 ((addM 18446744073709551616 a b:Nat):Int)):=by
  simp only [Kt,if_true,← Int.natCast_add,KAP]; rfl
theorem br_shr64m (h:b≤64):Kt .shr .u64 a k b = some (.int .u64 ((a/2^b:Nat):Int)):=by
  have h1:¬ ((b:Int)<0):=by omega
  simp only [Kt,if_neg h1,Int.toNat_natCast]
  rw [show min b IntKind.u64.bits = b from Nat.min_eq_left h,Int.fdiv_eq_ediv_of_nonneg _ (by exact_mod_cast Nat.zero_le _)]
  congr 2
theorem br_shl64m (h:b≤64):Kt .shl .u64 a k b = some (.int .u64 ((a*2^b%18446744073709551616:Nat):Int)):=by
  have h1:¬ ((b:Int)<0):=by omega
  simp only [Kt,if_neg h1,Int.toNat_natCast]
  rw [show min b IntKind.u64.bits = b from Nat.min_eq_left h,show ((a:Int)*2^b) = ((a*2^b:Nat):Int) by simp,KAP]
end
section
variable {P:Program} {C:Ctx} {d:Option Tmp} {ty:TypeId} {pos:String} {aft:Array Edge} {g:Option (Nat×Bool)} {st:St} {x y z:Operand} {t s:TypeId} {i:Nat}
theorem Det.cpl32 (hx:evT st.T x = some (.int .u32 (i:Int))):Slots P C ⟨d,.unOp .xor t x,ty,pos,aft,g⟩ st (.int .u32 ((cplM 4294967296 i:Nat):Int)):=by
  refine KK (Det.cpl hx rfl) ?_
  congr 1
  rw [ofInt_nat,wrap_u32_nat]
  congr 1
  simp only [BitVec.toNat_xor,BitVec.toNat_ofNat]
  exact Nat.mod_eq_of_lt (Nat.xor_lt_two_pow (n:=32) (by decide) (Nat.mod_lt _ (by decide)))
theorem Det.cpl64 (hx:evT st.T x = some (.int .u64 (i:Int))):Slots P C ⟨d,.unOp .xor t x,ty,pos,aft,g⟩ st (.int .u64 ((cplM 18446744073709551616 i:Nat):Int)):=by
  refine KK (Det.cpl hx rfl) ?_
  congr 1
  rw [ofInt_nat,KAP]
  congr 1
  simp only [BitVec.toNat_xor,BitVec.toNat_ofNat]
  exact Nat.mod_eq_of_lt (Nat.xor_lt_two_pow (n:=64) (by decide) (Nat.mod_lt _ (by decide)))
theorem Det.conv64m {k:IntKind} {src:TypeDesc} (hs:P.underlying s = some src) (ht:P.underlying t = some (.int .u64)) (hx:evT st.T x = some (.int k (i:Int))):Slots P C ⟨d,.convert s t x,ty,pos,aft,g⟩ st (.int .u64 ((i%18446744073709551616:Nat):Int)) :=
  KK (Det.conv hs ht hx) (by rw [KAP])
end
theorem fill_one {pl:List (Nat×Nat)} {z:List Value} {i:Nat} {v:Value} {rest:List (Nat×Value)} (hp:pl[i]? = some (i,1)) (h1:one v = true) (hi:i<z.length):fillL pl z ((i,v) :: rest) = fillL pl (z.set i v) rest:=by
  have hc:v.cells = #[v]:=one_cells h1
  simp only [fillL,hp,hc]
  rw [if_neg (by simp; omega),splice_one _ _ _ hi]
theorem fill8_32 (a b c d e f g h:Nat):fillL ((List.range 8).map fun i=>(i*1,1)) (vec .u32 8 (fun _=>0)) [(0,.int .u32 (a:Int)),(1,.int .u32 (b:Int)),(2,.int .u32 (c:Int)),(3,.int .u32 (d:Int)),(4,.int .u32 (e:Int)),(5,.int .u32 (f:Int)),(6,.int .u32 (g:Int)),(7,.int .u32 (h:Int))] = some (vec .u32 8 (S8.at ⟨a,b,c,d,e,f,g,h⟩)):=by
  rw [fill_one rfl rfl (by simp [KQ]),fill_one rfl rfl (by simp [KQ]),fill_one rfl rfl (by simp [KQ]),fill_one rfl rfl (by simp [KQ]),fill_one rfl rfl (by simp [KQ]),fill_one rfl rfl (by simp [KQ]),fill_one rfl rfl (by simp [KQ]),fill_one rfl rfl (by simp [KQ])]
  rfl
theorem fill8_64 (a b c d e f g h:Nat):fillL ((List.range 8).map fun i=>(i*1,1)) (vec .u64 8 (fun _=>0)) [(0,.int .u64 (a:Int)),(1,.int .u64 (b:Int)),(2,.int .u64 (c:Int)),(3,.int .u64 (d:Int)),(4,.int .u64 (e:Int)),(5,.int .u64 (f:Int)),(6,.int .u64 (g:Int)),(7,.int .u64 (h:Int))] = some (vec .u64 8 (S8.at ⟨a,b,c,d,e,f,g,h⟩)):=by
  rw [fill_one rfl rfl (by simp [KQ]),fill_one rfl rfl (by simp [KQ]),fill_one rfl rfl (by simp [KQ]),fill_one rfl rfl (by simp [KQ]),fill_one rfl rfl (by simp [KQ]),fill_one rfl rfl (by simp [KQ]),fill_one rfl rfl (by simp [KQ]),fill_one rfl rfl (by simp [KQ])]
  rfl
def shL (k:IntKind) (p:Hp) (size:Nat) (h:Nat→Nat) (v:Value) (n:Nat):List Value:=.int .i64 (size:Int) :: (vec k 8 h++(vec k p.R (nthN p.K)++[v,.int .u64 (n:Int)]))
section
variable {k:IntKind} {p:Hp} {size:Nat} {h:Nat→Nat} {v:Value} {n:Nat}
theorem shL_length:(shL k p size h v n).length = p.R+11:=by simp [shL,KQ]; omega
theorem shL_one (hv:one v = true):AllOne (shL k p size h v n):=Kl rfl (KAY (vec_one _ _ _) (KAY (vec_one _ _ _) (Kl hv (Kl rfl Kq))))
theorem shL_h {i:Nat} (hi:i<8):(shL k p size h v n)[i+1]? = some (.int k (h i:Int)):=by
  unfold shL
  rw [List.getElem?_cons_succ,List.getElem?_append_left (by rw [KQ]; exact hi),KU _ _ _ hi]
theorem shL_k {i:Nat} (hi:i<p.R):(shL k p size h v n)[i+9]? = some (.int k (nthN p.K i:Int)):=by
  unfold shL
  rw [List.getElem?_cons_succ,List.getElem?_append_right (by rw [KQ]; omega),KQ,Nat.add_sub_cancel,List.getElem?_append_left (by rw [KQ]; exact hi),KU _ _ _ hi]
theorem shL_r:(shL k p size h v n)[p.R+9]? = some v:=by
  unfold shL
  rw [List.getElem?_cons_succ,List.getElem?_append_right (by rw [KQ]; omega),KQ,Nat.add_sub_cancel,List.getElem?_append_right (by rw [KQ]; exact Nat.le_refl _),KQ,Nat.sub_self]; rfl
theorem shL_n:(shL k p size h v n)[p.R+10]? = some (.int .u64 (n:Int)):=by
  unfold shL
  rw [List.getElem?_cons_succ,List.getElem?_append_right (by rw [KQ]; omega),KQ,show p.R+9-8 = p.R+1 by omega,List.getElem?_append_right (by rw [KQ]; omega),KQ,Nat.add_sub_cancel_left]; rfl
theorem set_front {A B:List Value} {i:Nat} {x:Value} (hi:i<A.length):(A++B).set i x = A.set i x++B:=by rw [List.set_append_left _ _ hi]
theorem set_back {A B:List Value} {i m:Nat} {x:Value} (hm:A.length = m):(A++B).set (m+i) x = A++B.set i x:=by rw [List.set_append_right _ _ (by omega),hm,Nat.add_sub_cancel_left]
theorem shL_seth {i x:Nat} (hi:i<8):(shL k p size h v n).set (i+1) (.int k (x:Int)) = shL k p size (fun j=>if j = i then x else h j) v n:=by
  unfold shL
  rw [List.set_cons_succ,set_front (by rw [KQ]; exact hi),KAG]
theorem shL_setr {v':Value}:(shL k p size h v n).set (p.R+9) v' = shL k p size h v' n:=by
  unfold shL
  rw [List.set_cons_succ,Nat.add_comm p.R 8,set_back (KQ _ _ _)]
  have:=set_back (A:=vec k p.R (nthN p.K)) (B:=[v,.int .u64 (n:Int)]) (i:=0) (x:=v') (KQ _ _ _)
  rw [Nat.add_zero] at this
  rw [this]; rfl
theorem shL_setn {n':Nat}:(shL k p size h v n).set (p.R+10) (.int .u64 (n':Int)) = shL k p size h v n':=by
  unfold shL
  rw [List.set_cons_succ,show p.R+9 = 8+(p.R+1) by omega,set_back (KQ _ _ _),set_back (KQ _ _ _)]; rfl
theorem shL_hs:((shL k p size h v n).drop 1).take 8 = vec k 8 h:=by
  unfold shL
  rw [List.drop_succ_cons,List.drop_zero,List.take_left' (KQ _ _ _)]
theorem shL_congr {h':Nat→Nat} (e:∀ i,i<8→h i = h' i):shL k p size h v n = shL k p size h' v n:=by
  unfold shL; rw [Kr e]
end
theorem Hp.sum_length (p:Hp) (s:ShS) {size:Nat} (h:size≤8*p.wb):(p.sum s size).length = size:=by
  unfold Hp.sum
  rw [List.length_take,p.outP_length,Nat.min_eq_left h]
theorem br_xor8m {a b:Nat}:Kt .xor .u8 a .u8 b = some (.int .u8 ((xorM 256 a b:Nat):Int)):=by
  simp only [Kt,if_true,ofInt_nat,wrap_u8_nat]
  congr 3
  simp only [BitVec.toNat_xor,BitVec.toNat_ofNat]
  exact Nat.mod_eq_of_lt (Nat.xor_lt_two_pow (n:=8) (Nat.mod_lt _ (by decide)) (Nat.mod_lt _ (by decide)))
end Go.Proofs.YtnpeokiboiclfaaGreat
