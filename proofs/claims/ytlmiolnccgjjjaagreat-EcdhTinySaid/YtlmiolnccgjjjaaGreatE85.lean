/- Part 5 of what the proof leans on: a symbolic execution of the model, walks of the program's functions, and the mathematics. No condition. -/
import Derived.WalkKit
import Derived.Orders
import Derived.Laws.StructEq
import Derived.WalkSpells
import Derived.OrdersHeld
import Derived.KernelRfl
import Derived.Laws.Externs
import Derived.Laws.Bits64
import Derived.Laws.MakeOwn
import Derived.Laws.BytesString
import Derived.Carry
import Derived.WideShapes
import GoSem.Claim
import Derived.Test.YtlmiolnccgjjjaaGreatProg
import Derived.Laws.AppendOwn
import Derived.Test.YtlmiolnccgjjjaaGreatRows
import Derived.ProofKit
import Derived.OpenShut
import Derived.Test.YtlmiolnccgjjjaaGreatE84
set_option linter.unusedVariables false
set_option linter.unusedSimpArgs false
set_option maxRecDepth 20000
namespace Go.Proofs.YtlmiolnccgjjjaaGreat
open Go Go.RowKit
open Grp
theorem fpow_val {p:Nat} [NeZero p] (x:Fin p):∀ e,(fpow x e).val = x.val^e%p
  | 0=>rfl
  | e+1=>by
    show (fpow x e*x).val = _
    rw [Fin.val_mul,fpow_val x e,Nat.pow_succ,Nat.mul_mod,Nat.mod_mod,← Nat.mul_mod]
def sqN (p a:Nat):Option Nat:=(List.range p).find? fun r=>Nat.beq (r*r%p) a && Nat.beq (r%2) 0
theorem sqN_some {p a r:Nat} (h:sqN p a = some r):r<p∧r*r%p = a∧r%2 = 0:=by
  unfold sqN at h
  have h1:=List.find?_some h
  have h2:=List.mem_of_find?_eq_some h
  simp only [Bool.and_eq_true] at h1
  exact ⟨List.mem_range.1 h2,Nat.eq_of_beq_eq_true h1.1,Nat.eq_of_beq_eq_true h1.2⟩
theorem sqN_none {p a:Nat} (h:sqN p a = none) {r:Nat} (hr:r<p) (h1:r*r%p = a):r%2 = 1:=by
  unfold sqN at h
  have h2:=List.find?_eq_none.1 h r (List.mem_range.2 hr)
  rcases Nat.mod_two_eq_zero_or_one r with h3|h3
  · exact absurd (by rw [h1,h3]; simp) h2
  · exact h3
theorem fin_neg_val {p:Nat} [NeZero p] (x:Fin p) (h:x.val≠0):(0-x).val = p-x.val:=by
  have:=x.isLt
  rw [Fin.sub_def]
  show (p-x.val+(0:Fin p).val)%p = _
  rw [Fin.val_zero,Nat.add_zero,Nat.mod_eq_of_lt om]
theorem neg_sq {p:Nat} [NeZero p] (x:Fin p):(0-x)*(0-x) = x*x:=by grind -lia
def evenR {p:Nat} [NeZero p] (x:Fin p):Fin p:=if x.val%2 = 1 then 0-x else x
theorem evenR_sq {p:Nat} [NeZero p] (x:Fin p):evenR x*evenR x = x*x:=by
  unfold evenR; split
  · exact neg_sq x
  · rfl
theorem evenR_even {p:Nat} [NeZero p] (hodd:p%2 = 1) (x:Fin p):(evenR x).val%2 = 0:=by
  unfold evenR; split
  · rename_i h
    have:=x.isLt
    rw [fin_neg_val x om]; omega
  · omega
theorem sqN_eq {p:Nat} [NeZero p] (hf:Fld p) (hodd:p%2 = 1) (x:Fin p):sqN p (x*x).val = some (evenR x).val:=by
  cases h:sqN p (x*x).val with
  | none =>
    have h1:=sqN_none h (evenR x).isLt (by rw [← Fin.val_mul,evenR_sq])
    have h2:=evenR_even hodd x
    omega
  | some r =>
    obtain ⟨h1,h2,h3⟩:=sqN_some h
    have e:(⟨r,h1⟩:Fin p) = evenR x:=even_root hf hodd (by rw [evenR_sq]; exact Fin.ext (by rw [Fin.val_mul]; exact h2)) h3 (evenR_even hodd x)
    rw [← e]
theorem p_odd {V:Cv} (hok:V.Ok):V.p%2 = 1:=by
  exact hok.bounds.2.2.2.2.2.2.2.1
theorem Cv.Ok.zbounds {V:Cv} (h:V.Ok):2≤V.z∧V.z<V.p:=by
  have cs:=h.cs
  simp only [Bool.and_eq_true] at cs
  exact ⟨Nb cs.1.1.1.1.1.1.1.2,Nb cs.1.1.1.1.1.1.2⟩
theorem sqN_no {V:Cv} (hok:V.Ok) {a:Fin V.p} (h0:a≠0) (h:fpow a ((V.p-1)/2)≠1):sqN V.p a.val = none:=by
  cases h1:sqN V.p a.val with
  | none=>rfl
  | some r =>
    obtain ⟨h2,h3,h4⟩:=sqN_some h1
    have hb:=hok.bounds
    have hod:=p_odd hok
    have e:a = (⟨r,h2⟩:Fin V.p)*⟨r,h2⟩:=Fin.ext (by rw [Fin.val_mul]; exact h3.symm)
    refine absurd ?_ h
    have hr:(⟨r,h2⟩:Fin V.p)≠0:=fun e0=>h0 (by rw [e,e0]; grind -lia)
    have:=fermat hok.fld om hr
    rw [show V.p-1 = (V.p-1)/2+(V.p-1)/2 by omega,fpow_add,← mul_fpow,← e] at this
    exact this
theorem sqN_zero {p:Nat} (hp:0<p):sqN p 0 = some 0:=by
  unfold sqN
  obtain ⟨n,rfl⟩:∃ n,p = n+1:=⟨p-1,by omega⟩
  rw [List.range_succ_eq_map,List.find?_cons]
  simp
theorem two_lt {k m B:Nat} (h:2^k*m = B) (hm:0<m) (hB:B<W9):k<576:=by
  refine Nat.lt_of_not_le fun hk=>?_
  obtain ⟨q,hq⟩:∃ q:Nat,q = 9:=⟨9,rfl⟩
  have h1:2^(64*q)≤2^k:=Nat.pow_le_pow_right dc om
  have h2:2^k*1≤2^k*m:=Nat.mul_le_mul_left _ hm
  rw [w9 hq] at h1
  omega
theorem val_one {V:Cv} (hok:V.Ok):(1:Fin V.p).val = 1:=by
  have:=hok.bounds
  show 1%V.p = 1
  exact Nat.mod_eq_of_lt om
theorem ne_iff1 {V:Cv} (hok:V.Ok) {x:Fin V.p}:x.val = 1↔x = 1:=⟨fun h=>Fin.ext (h.trans (val_one hok).symm),fun h=>h ▸ val_one hok⟩
theorem fpow_succ2 {p:Nat} [NeZero p] (x:Fin p) (k:Nat):fpow x (2^k)*fpow x (2^k) = fpow x (2^(k+1)):=by rw [← fpow_add,← Nat.mul_two,← Nat.pow_succ]
theorem c_F_Pow (V:Cv) (hok:V.Ok) (bd:Nat) (X:Fin V.p) (E:Nat) (w:World) (hbd:(Item.blk bd ⟨false,dvL V.p,167,(0,0)⟩).holds w) (hE:E<W9):Calls Tryz.prog 97 ([.agg [.pointer (some ⟨bd,0,none⟩)].toArray,natV X.val,natV E]:List Value).toArray w (fun e w'=>e = .returned (natV (fpow X E).val)∧Below w.heap.size w w'):=by
  have hb:=hok.bounds
  have hpW:=KAJ hb.2.1
  have:=c_Pow V.p X.val E bd om hpW w hbd (Nat.lt_trans X.isLt hpW) hE
  rwa [← fpow_val] at this
theorem c_one  (w:World)  : Calls Tryz.prog 96 ([]:List Value).toArray w (fun e w'=>e = .returned (natV 1)∧Below w.heap.size w w'):=by
  refine Ka (N:=2) (rs:=[.cell 0 25]) [] Tryz.func96 rfl Tryz.ntmps96 Tryz.results96 (Nb rfl) trivial rfl ?_
  show LCode _ _ _ ⟨_,_⟩ _
  refine KB (KA ?_)
  refine oS (mk (KP zr_25) (fun b0=>?_))
  refine KC ?_
  refine KB (KA ?_)
  refine oS (cF rfl en_61 rfl (fun w hw=>c_nat_Small 1 dc w) ?_)
  refine KO rfl (sA rfl rfl sz_25 mO (hl:=mL) (h:=?_))
  refine KC (KI ?_)
  refine ⟨[_],.cons ⟨_,_,_,rfl,mM,by exact KE Tryz.underlying25 rfl sz_25⟩ .nil,fun a w' hr=>⟨?_,hr.fr.below⟩⟩
  rfl
theorem c_half (A:Nat) (hA:A<W9) (w:World)  : Calls Tryz.prog 98 ([natV A]:List Value).toArray w (fun e w'=>e = .returned (natV (A/2))∧Below w.heap.size w w'):=by
  refine Ka (N:=11) (rs:=[.cell 2 25]) [] Tryz.func98 rfl Tryz.ntmps98 Tryz.results98 (Nb rfl) trivial rfl ?_
  show LCode _ _ _ ⟨_,_⟩ _
  refine KB (KA ?_)
  refine oS (mB (fun b1=>?_))
  refine oS (mk (KP zr_25) (fun b2=>?_))
  refine KC ?_
  refine KB (KA ?_)
  refine oD (dL rfl (hv:=by exact KE Tryz.underlying25 rfl sz_25)) ?_
  refine oS (cF rfl en_102 rfl (fun w hw=>c_nat_Shr A 1 hA dc w) ?_)
  refine oM ?_
  refine oP (Det.extract rfl rfl) ?_
  refine oP (Det.extract rfl rfl) ?_
  refine oS (mk (KP zr_25) (fun b3=>?_))
  refine KO rfl (sA rfl rfl sz_25 mO (hl:=mL) (h:=?_))
  refine oA ?_
  refine KC ?_
  refine KB (KA ?_)
  refine oD (dL rfl (hv:=by exact KE Tryz.underlying25 rfl sz_25)) ?_
  refine KO rfl (sA rfl rfl sz_25 mO (hl:=mL) (h:=?_))
  refine KC (KI ?_)
  refine ⟨[_],.cons ⟨_,_,_,rfl,mM,by exact KE Tryz.underlying25 rfl sz_25⟩ .nil,fun a w' hr=>⟨?_,hr.fr.below⟩⟩
  rw [Nat.pow_one]
  rfl
theorem c_f_AddS (V:Cv) (f bd z:Nat) (w:World) (hf:(Item.blk f ⟨false,fldL V.p bd,116,(0,0)⟩).holds w) (hok:V.Ok) (hz:z+1<V.p):Calls Tryz.prog 63 ([.pointer (some ⟨f,0,none⟩),natV z,natV 1]:List Value).toArray w (fun e w'=>e = .returned (natV (z+1))∧Below w.heap.size w w'):=by
  have:=c_f_Add V f bd z 1 w hf hok.bounds.2.1 om om
  rwa [Nat.mod_eq_of_lt hz] at this
theorem c_F_PowN (V:Cv) (hok:V.Ok) (bd z:Nat) (E:Nat) (w:World) (hbd:(Item.blk bd ⟨false,dvL V.p,167,(0,0)⟩).holds w) (hE:E<W9) (hz:z<V.p):Calls Tryz.prog 97 ([.agg [.pointer (some ⟨bd,0,none⟩)].toArray,natV z,natV E]:List Value).toArray w (fun e w'=>e = .returned (natV (fpow (c V.p z) E).val)∧Below w.heap.size w w'):=by
  have:=c_F_Pow V hok bd (c V.p z) E w hbd hE
  rwa [show (c V.p z).val = z from Nat.mod_eq_of_lt hz] at this
theorem neg_one_val {p:Nat} [NeZero p] (h:2≤p):(-1:Fin p).val = p-1:=by
  have h1:(-1:Fin p) = 0-1:=by grind -lia
  have h2:(1:Fin p).val = 1:=by show 1%p = 1; exact Nat.mod_eq_of_lt om
  rw [h1,fin_neg_val 1 om,h2]
theorem fpow_cval {p:Nat} [NeZero p] (z E:Nat):(fpow (c p z) E).val = z^E%p:=by
  rw [← c_pow]; rfl
theorem half_of {p o s:Nat} (h:o*2^s = p-1) (hp:p%2 = 1) (h2:2≤p) (ho:o%2 = 1):0<s∧o*2^(s-1) = (p-1)/2:=by
  cases s with
  | zero=>rw [Nat.pow_zero,Nat.mul_one] at h; omega
  | succ k =>
    rw [Nat.pow_succ,← Nat.mul_assoc] at h
    refine ⟨Nat.succ_pos k,?_⟩
    show o*2^k = _
    omega
theorem c_root (V:Cv) (f bd:Nat) (hok:V.Ok) (a:Fin V.p) (w:World) (hf:(Item.blk f ⟨false,fldL V.p bd,116,(0,0)⟩).holds w) (hbd:(Item.blk bd ⟨false,dvL V.p,167,(0,0)⟩).holds w) (ha:fpow a ((V.p-1)/2) = 1):Calls Tryz.prog 99 ([.pointer (some ⟨f,0,none⟩),natV a.val]:List Value).toArray w (fun e w'=>∃ v,(∃ x:Fin V.p,x*x = a∧v = natV x.val)∧e = .returned v∧Below w.heap.size w w'):=by
  have hbb:=hok.bounds
  have hpW:V.p<W9:=KAJ hbb.2.1
  have hz:=hok.zbounds
  refine Ka (N:=118) (rs:=[.cell 4 25]) [.blk f ⟨false,fldL V.p bd,116,(0,0)⟩,.blk bd ⟨false,dvL V.p,167,(0,0)⟩] Tryz.func99 rfl Tryz.ntmps99 Tryz.results99 (Nb rfl) ⟨hf,hbd,trivial⟩ rfl ?_
  show LCode _ _ _ ⟨_,_⟩ _
  refine KB (KA ?_)
  refine oS (mB (fun b3=>?_))
  refine oS (mk (KP zr_25) (fun b4=>?_))
  refine KC ?_
  refine KB ?_
  refine rD [10] ?_
  refine aM 0 ?_
  refine aP 1 rfl (KL rfl) ?_
  refine aP 2 rfl (KF (o':=0) Tryz.underlying116 rfl rfl rfl sz_25 dc) ?_
  refine aD 3 rfl (dL rfl (hv:=by exact Kv Tryz.underlying25 rfl sz_25 rfl (KH _))) ?_
  refine LAny.toP ?_
  refine Kx 9 rfl (.inl zr_25) (Nb rfl) rfl rfl rfl ?_
  refine Kl 4 rfl rfl rfl (Nb rfl) (by kernel_rfl) rfl (Kq (first:=[]) rfl en_96 rfl (fun w hw=>c_one w)) ?_
  rintro _ _ ⟨rfl,rfl⟩
  refine Kl 5 rfl rfl rfl (Nb rfl) (by kernel_rfl) rfl (Kq (first:=[]) rfl en_60 rfl (fun w hw=>c_nat_SubS V.p 1 w hpW om)) ?_
  rintro _ _ ⟨rfl,rfl⟩
  refine pM 6 ?_
  refine pP 7 rfl (Det.extract rfl rfl) ?_
  refine pP 8 rfl (Det.extract rfl rfl) ?_
  refine pE (fun b5=>?_)
  refine KAN ?_
  refine aL 10 rfl (sA rfl rfl sz_25 mO (hl:=mL) (h:=?_))
  refine aA 11 ?_
  refine aE ?_
  refine KB (KA ?_)
  refine oD (dL rfl (hv:=by exact KE Tryz.underlying25 rfl sz_25)) ?_
  refine oS (mk (KP zr_25) (fun b7=>?_))
  refine KO rfl (sA rfl rfl sz_25 mO (hl:=mL) (h:=?_))
  refine oP (KR (v:=.int .i64 ((0:Nat):Int)) rfl) ?_
  refine KC ?_
  refine KB ?_
  refine LCode.block ?_
  refine Kh (α:=Nat×Nat) (fun x=>x.1*2^x.2 = V.p-1∧0<x.1) (fun x=>⟨[(0,.pointer (some ⟨f,0,none⟩)),(3,.pointer (some ⟨b3,0,none⟩)),(4,.pointer (some ⟨b4,0,none⟩)),(5,.pointer (some ⟨b5,0,none⟩)),(7,.pointer (some ⟨b7,0,none⟩)),(8,.int .i64 ((x.2:Nat):Int))],[.blk b7 ⟨true,natL x.1,25,(0,0)⟩,.blk b5 ⟨true,natL (V.p-1),25,(0,0)⟩,.blk b4 ⟨true,vec .u64 9 (fun _=>0),25,(0,0)⟩,.blk b3 ⟨true,natL a.val,25,(0,0)⟩,.blk f ⟨false,fldL V.p bd,116,(0,0)⟩,.blk bd ⟨false,dvL V.p,167,(0,0)⟩]⟩) (fun x=>x.1) ((V.p-1,0)) (⟨by dsimp only; omega,by dsimp only; omega⟩) (Kd ⟨rfl,rfl,rfl,rfl,rfl,rfl,trivial⟩ mS) ?_
  rintro o ⟨ho1,ho2⟩
  refine KB ?_
  refine KB ?_
  have ho3:o.1≤V.p-1:=by
    have h2:o.1*1≤o.1*2^o.2:=Nat.mul_le_mul_left _ Nat.one_le_two_pow
    omega
  have ho4:o.2<576:=two_lt ((Nat.mul_comm _ _).trans ho1) ho2 om
  refine KA ?_
  refine oD (dL rfl (hv:=by exact KE Tryz.underlying25 rfl sz_25)) ?_
  refine oS (cF rfl en_85 rfl (fun w hw=>c_nat_Bit o.1 0 om dc w) ?_)
  refine oP (KD rfl rfl (KAP (b:=0))) ?_
  refine KC ?_
  first|refine KN rfl (fun h30=>?_) (fun h30=>?_)|refine KQ rfl (fun h30=>?_) (fun h30=>?_)
  ·
    have h30:o.1/2^0%2 = 0:=h30
    rw [Nat.pow_zero,Nat.div_one] at h30
    refine KM ?_
    refine LCode.block ?_
    refine KA ?_
    refine oD (dL rfl (hv:=by exact KE Tryz.underlying25 rfl sz_25)) ?_
    refine oS (cF rfl en_98 rfl (fun w hw=>c_half o.1 om w) ?_)
    refine oM ?_
    refine oP (KD rfl rfl (Kn (b:=1) om)) ?_
    refine KO rfl (sA rfl rfl sz_25 mO (hl:=mL) (h:=?_))
    refine oA ?_
    refine KC ?_
    exact ⟨(o.1/2,o.2+1),⟨by dsimp only; rw [Nat.pow_succ,Nat.mul_comm (2^o.2) 2,← Nat.mul_assoc,show o.1/2*2 = o.1 by omega]; exact ho1,by dsimp only; omega⟩,by dsimp only; omega,Kd ⟨rfl,rfl,rfl,rfl,rfl,rfl,trivial⟩ mS⟩
  ·
    have h30:¬ o.1/2^0%2 = 0:=h30
    rw [Nat.pow_zero,Nat.div_one] at h30
    refine Ke ?_
    refine KB (KA ?_)
    refine oS (cF rfl en_61 rfl (fun w hw=>c_nat_Small 2 dc w) ?_)
    refine oS (mk (KP zr_25) (fun b9=>?_))
    refine KO rfl (sA rfl rfl sz_25 mO (hl:=mL) (h:=?_))
    refine KC ?_
    refine KB ?_
    refine LCode.block ?_
    refine Kh (α:=Nat) (fun x=>2≤x∧x≤V.z) (fun x=>⟨[(0,.pointer (some ⟨f,0,none⟩)),(3,.pointer (some ⟨b3,0,none⟩)),(4,.pointer (some ⟨b4,0,none⟩)),(5,.pointer (some ⟨b5,0,none⟩)),(7,.pointer (some ⟨b7,0,none⟩)),(8,.int .i64 ((o.2:Nat):Int)),(9,.pointer (some ⟨b9,0,none⟩))],[.blk b9 ⟨true,natL x,25,(0,0)⟩,.blk b7 ⟨true,natL o.1,25,(0,0)⟩,.blk b5 ⟨true,natL (V.p-1),25,(0,0)⟩,.blk b4 ⟨true,vec .u64 9 (fun _=>0),25,(0,0)⟩,.blk b3 ⟨true,natL a.val,25,(0,0)⟩,.blk f ⟨false,fldL V.p bd,116,(0,0)⟩,.blk bd ⟨false,dvL V.p,167,(0,0)⟩]⟩) (fun x=>V.z-x) (2) (⟨Nat.le_refl _,hz.1⟩) (Kd ⟨rfl,rfl,rfl,rfl,rfl,rfl,rfl,trivial⟩ mS) ?_
    rintro z ⟨hz1,hz2⟩
    refine KB ?_
    refine KB ?_
    refine rD [] ?_
    refine aM 0 ?_
    refine aP 1 rfl (KL rfl) ?_
    refine aP 2 rfl (KF (o':=9) Tryz.underlying116 rfl rfl rfl sz_114 dc) ?_
    refine aD 3 rfl (dL rfl (hv:=by exact LoadV.last Tryz.underlying114 rfl sz_114 rfl (KH _) rfl)) ?_
    refine aD 4 rfl (dL rfl (hv:=by exact KE Tryz.underlying25 rfl sz_25)) ?_
    refine aD 5 rfl (dL rfl (hv:=by exact KE Tryz.underlying25 rfl sz_25)) ?_
    refine aD 8 rfl (dL rfl (hv:=by exact KE Tryz.underlying25 rfl sz_25)) ?_
    refine aO 6 rfl (cF rfl en_98 rfl (fun w hw=>c_half (V.p-1) om w) ?_)
    refine aO 7 rfl (cF rfl en_97 rfl (fun w hw=>c_Pow V.p z ((V.p-1)/2) bd om hpW w (mC hw) om om) ?_)
    refine aP 9 rfl (Det.nea (by kernel_rfl) (fun w=>eq_nat (z^((V.p-1)/2)%V.p) (V.p-1) (Nat.lt_trans (Nat.mod_lt _ om) hpW) om 10000 dc w) rfl rfl) ?_
    refine aE ?_
    first|refine KN rfl (fun h45=>?_) (fun h45=>?_)|refine KQ rfl (fun h45=>?_) (fun h45=>?_)
    ·
      have h45:z^((V.p-1)/2)%V.p≠V.p-1:=by simpa using h45
      refine KM ?_
      refine LCode.block ?_
      have hzz:z≠V.z:=fun h=>h45 (by have:=congrArg Fin.val hok.none; rw [fpow_cval,neg_one_val om] at this; rw [h]; exact this)
      refine rD [4] ?_
      refine aM 0 ?_
      refine aD 1 rfl (dL rfl (hv:=by exact KE Tryz.underlying25 rfl sz_25)) ?_
      refine aO 2 rfl (cF rfl en_96 rfl (fun w hw=>c_one w) ?_)
      refine aO 3 rfl (cF rfl en_63 rfl (fun w hw=>c_f_AddS V f bd z w (mC hw) hok om) ?_)
      refine aL 4 rfl (sA rfl rfl sz_25 mO (hl:=mL) (h:=?_))
      refine aE ?_
      exact ⟨z+1,⟨by omega,by omega⟩,by omega,Kd ⟨rfl,rfl,rfl,rfl,rfl,rfl,rfl,trivial⟩ mS⟩
    ·
      have h45:z^((V.p-1)/2)%V.p = V.p-1:=by simpa using h45
      refine Ke ?_
      refine KB ?_
      have hz3:fpow (c V.p z) ((V.p-1)/2) = -1:=Fin.ext (by rw [fpow_cval,neg_one_val om]; exact h45)
      obtain ⟨hs1,hs2⟩:=half_of ho1 (p_odd hok) om om
      refine rD [7] ?_
      refine aD 0 rfl (dL rfl (hv:=by exact KE Tryz.underlying25 rfl sz_25)) ?_
      refine LAny.toP ?_
      refine Kx 6 rfl (.inl zr_25) (Nb rfl) rfl rfl rfl ?_
      refine Kl 1 rfl rfl rfl (Nb rfl) (by kernel_rfl) rfl (Kq (first:=[]) rfl en_96 rfl (fun w hw=>c_one w)) ?_
      rintro _ _ ⟨rfl,rfl⟩
      refine Kl 2 rfl rfl rfl (Nb rfl) (by kernel_rfl) rfl (Kq (first:=[]) rfl en_81 rfl (fun w hw=>c_nat_AddS o.1 1 w om)) ?_
      rintro _ _ ⟨rfl,rfl⟩
      refine pM 3 ?_
      refine pP 4 rfl (Det.extract rfl rfl) ?_
      refine pP 5 rfl (Det.extract rfl rfl) ?_
      refine pE (fun b10=>?_)
      refine KAN ?_
      refine aL 7 rfl (sA rfl rfl sz_25 mO (hl:=mL) (h:=?_))
      refine aA 8 ?_
      refine aE ?_
      refine KB ?_
      refine rD [25,26,27] ?_
      refine aM 0 ?_
      refine aP 1 rfl (KL rfl) ?_
      refine aP 2 rfl (KF (o':=9) Tryz.underlying116 rfl rfl rfl sz_114 dc) ?_
      refine aD 3 rfl (dL rfl (hv:=by exact LoadV.last Tryz.underlying114 rfl sz_114 rfl (KH _) rfl)) ?_
      refine aD 4 rfl (dL rfl (hv:=by exact KE Tryz.underlying25 rfl sz_25)) ?_
      refine aD 5 rfl (dL rfl (hv:=by exact KE Tryz.underlying25 rfl sz_25)) ?_
      refine aM 7 ?_
      refine aP 8 rfl (KL rfl) ?_
      refine aP 9 rfl (KF (o':=9) Tryz.underlying116 rfl rfl rfl sz_114 dc) ?_
      refine aM 15 ?_
      refine aP 16 rfl (KL rfl) ?_
      refine aP 17 rfl (KF (o':=9) Tryz.underlying116 rfl rfl rfl sz_114 dc) ?_
      refine LAny.takeW [14,21,25,26,27] 10 rfl (by kernel_rfl) (Nb rfl) (dL rfl (hv:=by exact LoadV.last Tryz.underlying114 rfl sz_114 rfl (KH _) rfl)) ?_
      refine LAny.takeW [14,21,25,26,27] 11 rfl (by kernel_rfl) (Nb rfl) (dL rfl (hv:=by exact KE Tryz.underlying25 rfl sz_25)) ?_
      refine LAny.takeW [13,14,21,25,26,27] 12 rfl (by kernel_rfl) (Nb rfl) (dL rfl (hv:=by exact KE Tryz.underlying25 rfl sz_25)) ?_
      refine LAny.takeW [21,25,26,27] 18 rfl (by kernel_rfl) (Nb rfl) (dL rfl (hv:=by exact LoadV.last Tryz.underlying114 rfl sz_114 rfl (KH _) rfl)) ?_
      refine LAny.takeW [21,25,26,27] 19 rfl (by kernel_rfl) (Nb rfl) (dL rfl (hv:=by exact KE Tryz.underlying25 rfl sz_25)) ?_
      refine LAny.takeW [21,25,26,27] 20 rfl (by kernel_rfl) (Nb rfl) (dL rfl (hv:=by exact KE Tryz.underlying25 rfl sz_25)) ?_
      refine LAny.toP ?_
      refine Kx 22 rfl (.inl zr_25) (Nb rfl) rfl rfl rfl ?_
      refine Kx 23 rfl (.inl zr_25) (Nb rfl) rfl rfl rfl ?_
      refine Kx 24 rfl (.inl zr_25) (Nb rfl) rfl rfl rfl ?_
      refine Kl 6 rfl rfl rfl (Nb rfl) (by kernel_rfl) rfl (Kq (first:=[]) rfl en_97 rfl (fun w hw=>c_F_PowN V hok bd z o.1 w (mC hw) om om)) ?_
      rintro _ _ ⟨rfl,rfl⟩
      refine Kl 13 rfl rfl rfl (Nb rfl) (by kernel_rfl) rfl (Kq (first:=[]) rfl en_98 rfl (fun w hw=>c_half (o.1+1) om w)) ?_
      rintro _ _ ⟨rfl,rfl⟩
      refine Kl 14 rfl rfl rfl (Nb rfl) (by kernel_rfl) rfl (Kq (first:=[]) rfl en_97 rfl (fun w hw=>c_F_Pow V hok bd a ((o.1+1)/2) w (mC hw) om)) ?_
      rintro _ _ ⟨rfl,rfl⟩
      refine Kl 21 rfl rfl rfl (Nb rfl) (by kernel_rfl) rfl (Kq (first:=[]) rfl en_97 rfl (fun w hw=>c_F_Pow V hok bd a o.1 w (mC hw) om)) ?_
      rintro _ _ ⟨rfl,rfl⟩
      refine pE (fun b14=>?_)
      refine pE (fun b13=>?_)
      refine pE (fun b12=>?_)
      refine KAN ?_
      refine aL 25 rfl (sA rfl rfl sz_25 mO (hl:=mL) (h:=?_))
      refine aL 26 rfl (sA rfl rfl sz_25 mO (hl:=mL) (h:=?_))
      refine aL 27 rfl (sA rfl rfl sz_25 mO (hl:=mL) (h:=?_))
      refine aE ?_
      refine KB ?_
      refine LCode.block ?_
      refine Kh (α:=Fin V.p×Fin V.p×Fin V.p×Nat) (fun x=>TS a x.1 x.2.1 x.2.2.1 x.2.2.2∧x.2.2.2<576) (fun x=>⟨[(0,.pointer (some ⟨f,0,none⟩)),(4,.pointer (some ⟨b4,0,none⟩)),(8,.int .i64 ((x.2.2.2:Nat):Int)),(12,.pointer (some ⟨b12,0,none⟩)),(13,.pointer (some ⟨b13,0,none⟩)),(14,.pointer (some ⟨b14,0,none⟩))],[.blk b12 ⟨true,natL x.2.1.val,25,(0,0)⟩,.blk b13 ⟨true,natL x.1.val,25,(0,0)⟩,.blk b14 ⟨true,natL x.2.2.1.val,25,(0,0)⟩,.blk b4 ⟨true,vec .u64 9 (fun _=>0),25,(0,0)⟩,.blk f ⟨false,fldL V.p bd,116,(0,0)⟩,.blk bd ⟨false,dvL V.p,167,(0,0)⟩]⟩) (fun x=>x.2.2.2) ((fpow a ((o.1+1)/2),fpow (c V.p z) o.1,fpow a o.1,o.2)) (⟨TS.init hs1 om (by rw [hs2]; exact hz3) (by rw [hs2]; exact ha),ho4⟩) (Kd ⟨rfl,rfl,rfl,rfl,rfl,rfl,trivial⟩ mS) ?_
      rintro y ⟨hy1,hy2⟩
      refine KB ?_
      refine KB ?_
      refine rD [] ?_
      refine aD 0 rfl (dL rfl (hv:=by exact KE Tryz.underlying25 rfl sz_25)) ?_
      refine aO 1 rfl (cF rfl en_96 rfl (fun w hw=>c_one w) ?_)
      refine aP 2 rfl (Det.nea (by kernel_rfl) (fun w=>eq_nat y.2.2.1.val 1 (Nat.lt_trans y.2.2.1.isLt hpW) one_w9 10000 dc w) rfl rfl) ?_
      refine aE ?_
      first|refine KN rfl (fun h80=>?_) (fun h80=>?_)|refine KQ rfl (fun h80=>?_) (fun h80=>?_)
      ·
        have h80:y.2.2.1≠1:=fun h=>by simp [(ne_iff1 hok).2 h] at h80
        refine KM ?_
        refine LCode.block ?_
        refine KB (KA ?_)
        refine oP (KR (v:=.int .i64 ((0:Nat):Int)) rfl) ?_
        refine KC ?_
        refine KB ?_
        refine KB (KA ?_)
        refine oD (dL rfl (hv:=by exact KE Tryz.underlying25 rfl sz_25)) ?_
        refine oS (mk (KP zr_25) (fun b16=>?_))
        refine KO rfl (sA rfl rfl sz_25 mO (hl:=mL) (h:=?_))
        refine KC ?_
        refine LCode.block ?_
        refine Kh (α:=Nat×Nat) (fun x=>∀ j,j<x.1→fpow y.2.2.1 (2^j)≠1) (fun x=>⟨[(0,.pointer (some ⟨f,0,none⟩)),(4,.pointer (some ⟨b4,0,none⟩)),(8,.int .i64 ((y.2.2.2:Nat):Int)),(12,.pointer (some ⟨b12,0,none⟩)),(13,.pointer (some ⟨b13,0,none⟩)),(14,.pointer (some ⟨b14,0,none⟩)),(15,.int .i64 ((x.1:Nat):Int)),(16,.pointer (some ⟨x.2,0,none⟩))],[.blk x.2 ⟨true,natL (fpow y.2.2.1 (2^x.1)).val,25,(0,0)⟩,.blk b12 ⟨true,natL y.2.1.val,25,(0,0)⟩,.blk b13 ⟨true,natL y.1.val,25,(0,0)⟩,.blk b14 ⟨true,natL y.2.2.1.val,25,(0,0)⟩,.blk b4 ⟨true,vec .u64 9 (fun _=>0),25,(0,0)⟩,.blk f ⟨false,fldL V.p bd,116,(0,0)⟩,.blk bd ⟨false,dvL V.p,167,(0,0)⟩]⟩) (fun x=>y.2.2.2-x.1) ((0,b16)) (fun j hj=>absurd hj (Nat.not_lt_zero _)) (Kw (Sub.cells (b:=b16) (cs':=natL (fpow y.2.2.1 (2^0)).val) (by repeat (first|exact Sh _|apply St_)) (by rw [Nat.pow_zero,fpow_one])) (Kd ⟨rfl,rfl,rfl,rfl,rfl,rfl,rfl,rfl,trivial⟩ mS)) ?_
        rintro k hk
        refine KB ?_
        refine KB ?_
        have hkm0:=TS.less hok.fld.dom hy1 hk
        refine rD [] ?_
        refine aD 0 rfl (dL rfl (hv:=by exact KE Tryz.underlying25 rfl sz_25)) ?_
        refine aO 1 rfl (cF rfl en_96 rfl (fun w hw=>c_one w) ?_)
        refine aP 2 rfl (Det.nea (by kernel_rfl) (fun w=>eq_nat (fpow y.2.2.1 (2^k.1)).val 1 (Nat.lt_trans (fpow y.2.2.1 (2^k.1)).isLt hpW) one_w9 10000 dc w) rfl rfl) ?_
        refine aE ?_
        first|refine KN rfl (fun h84=>?_) (fun h84=>?_)|refine KQ rfl (fun h84=>?_) (fun h84=>?_)
        ·
          have h84:fpow y.2.2.1 (2^k.1)≠1:=fun h=>by simp [(ne_iff1 hok).2 h] at h84
          refine KM ?_
          refine KB ?_
          refine LCode.block ?_
          refine KA ?_
          refine oM ?_
          refine oP (KD rfl rfl (Kn (b:=1) om)) ?_
          refine oA ?_
          refine KC ?_
          refine KB ?_
          refine KB (KA ?_)
          refine oD (dL rfl (hv:=by exact KE Tryz.underlying25 rfl sz_25)) ?_
          refine KC ?_
          refine KA ?_
          refine oS (mk (KP zr_25) (fun b16=>?_))
          refine KO rfl (sA rfl rfl sz_25 mO (hl:=mL) (h:=?_))
          refine KC ?_
          refine KA ?_
          refine oM ?_
          refine oD (dL rfl (hv:=by exact KE Tryz.underlying25 rfl sz_25)) ?_
          refine oD (dL rfl (hv:=by exact KE Tryz.underlying25 rfl sz_25)) ?_
          refine oS (cF rfl en_87 rfl (fun w hw=>c_F_Mul V hok f bd _ _ w (mC hw) (mC hw)) ?_)
          refine KO rfl (sA rfl rfl sz_25 mO (hl:=mL) (h:=?_))
          refine KC ?_
          have hk':∀ j,j<k.1+1→fpow y.2.2.1 (2^j)≠1:=fun j hj=>by
            rcases Nat.lt_or_eq_of_le (Nat.le_of_lt_succ hj) with h|rfl
            · exact hk j h
            · exact h84
          have hkm:=TS.less hok.fld.dom hy1 hk'
          exact ⟨(k.1+1,b16),hk',by dsimp only; omega,Kw (Sub.cells (b:=b16) (cs':=natL (fpow y.2.2.1 (2^(k.1+1))).val) (by repeat (first|exact Sh _|apply St_)) (by rw [fpow_succ2])) (Kd ⟨rfl,rfl,rfl,rfl,rfl,rfl,rfl,rfl,trivial⟩ mS)⟩
        ·
          have h84:fpow y.2.2.1 (2^k.1) = 1:=(ne_iff1 hok).1 (by simpa using h84)
          refine Ke ?_
          refine KB ?_
          obtain ⟨hn1,hn2,-⟩:=TS.next hok.fld.dom hy1 h80 hk h84
          refine KA ?_
          refine oD (dL rfl (hv:=by exact KE Tryz.underlying25 rfl sz_25)) ?_
          refine oS (mk (KP zr_25) (fun b17=>?_))
          refine KO rfl (sA rfl rfl sz_25 mO (hl:=mL) (h:=?_))
          refine KC ?_
          refine KB ?_
          refine KB (KA ?_)
          refine oM ?_
          refine oM ?_
          refine oP (KD (v:=.int .i64 (((y.2.2.2-k.1):Nat):Int)) rfl rfl ((br_subI om om).trans (by congr 2; omega))) ?_
          refine oP (KD (v:=.int .i64 (((y.2.2.2-k.1-1):Nat):Int)) rfl rfl ((br_subI om om).trans (by congr 2; omega))) ?_
          refine oP (Kr (v:=.int .i64 ((0:Nat):Int)) rfl) ?_
          refine KC ?_
          refine LCode.block ?_
          refine Kh (α:=Nat) (fun x=>x≤y.2.2.2-k.1-1) (fun x=>⟨[(0,.pointer (some ⟨f,0,none⟩)),(4,.pointer (some ⟨b4,0,none⟩)),(8,.int .i64 ((y.2.2.2:Nat):Int)),(12,.pointer (some ⟨b12,0,none⟩)),(13,.pointer (some ⟨b13,0,none⟩)),(14,.pointer (some ⟨b14,0,none⟩)),(15,.int .i64 ((k.1:Nat):Int)),(17,.pointer (some ⟨b17,0,none⟩)),(96,.int .i64 (((y.2.2.2-k.1-1):Nat):Int)),(97,.int .i64 ((x:Nat):Int))],[.blk b17 ⟨true,natL (fpow y.2.1 (2^x)).val,25,(0,0)⟩,.blk b12 ⟨true,natL y.2.1.val,25,(0,0)⟩,.blk b13 ⟨true,natL y.1.val,25,(0,0)⟩,.blk b14 ⟨true,natL y.2.2.1.val,25,(0,0)⟩,.blk b4 ⟨true,vec .u64 9 (fun _=>0),25,(0,0)⟩,.blk f ⟨false,fldL V.p bd,116,(0,0)⟩,.blk bd ⟨false,dvL V.p,167,(0,0)⟩]⟩) (fun x=>y.2.2.2-k.1-1-x) (0) (Nat.zero_le _) (Kw (Sub.cells (b:=b17) (cs':=natL (fpow y.2.1 (2^0)).val) (by repeat (first|exact Sh _|apply St_)) (by rw [Nat.pow_zero,fpow_one])) (Kd ⟨rfl,rfl,rfl,rfl,rfl,rfl,rfl,rfl,rfl,rfl,trivial⟩ mS)) ?_
          rintro i hi
          refine KB (KA ?_)
          refine oP (KD rfl rfl (KAR)) ?_
          refine KC ?_
          refine KB ?_
          first|refine KN rfl (fun h98=>?_) (fun h98=>?_)|refine KQ rfl (fun h98=>?_) (fun h98=>?_)
          ·
            refine KM ?_
            refine KB ?_
            refine LCode.block ?_
            refine KA ?_
            refine oM ?_
            refine oD (dL rfl (hv:=by exact KE Tryz.underlying25 rfl sz_25)) ?_
            refine oD (dL rfl (hv:=by exact KE Tryz.underlying25 rfl sz_25)) ?_
            refine oS (cF rfl en_87 rfl (fun w hw=>c_F_Mul V hok f bd _ _ w (mC hw) (mC hw)) ?_)
            refine KO rfl (sA rfl rfl sz_25 mO (hl:=mL) (h:=?_))
            refine KC ?_
            refine KA ?_
            refine oP (KD rfl rfl (Kn (b:=1) om)) ?_
            refine oM ?_
            refine KC ?_
            exact ⟨i+1,by omega,by omega,Kw (Sub.cells (b:=b17) (cs':=natL (fpow y.2.1 (2^(i+1))).val) (by repeat (first|exact Sh _|apply St_)) (by rw [fpow_succ2])) (Kd ⟨rfl,rfl,rfl,rfl,rfl,rfl,rfl,rfl,rfl,rfl,trivial⟩ mS)⟩
          ·
            refine Ke ?_
            refine KB ?_
            obtain rfl:i = y.2.2.2-k.1-1:=by omega
            refine rD [8,9] ?_
            refine aM 0 ?_
            refine aD 1 rfl (dL rfl (hv:=by exact KE Tryz.underlying25 rfl sz_25)) ?_
            refine aD 2 rfl (dL rfl (hv:=by exact KE Tryz.underlying25 rfl sz_25)) ?_
            refine aM 4 ?_
            refine LAny.takeW [7,8,9] 5 rfl (by kernel_rfl) (Nb rfl) (dL rfl (hv:=by exact KE Tryz.underlying25 rfl sz_25)) ?_
            refine LAny.takeW [7,8,9] 6 rfl (by kernel_rfl) (Nb rfl) (dL rfl (hv:=by exact KE Tryz.underlying25 rfl sz_25)) ?_
            refine aO 3 rfl (cF rfl en_87 rfl (fun w hw=>c_F_Mul V hok f bd _ _ w (mC hw) (mC hw)) ?_)
            refine aO 7 rfl (cF rfl en_87 rfl (fun w hw=>c_F_Mul V hok f bd _ _ w (mC hw) (mC hw)) ?_)
            refine aL 8 rfl (sA rfl rfl sz_25 mO (hl:=mL) (h:=?_))
            refine aL 9 rfl (sA rfl rfl sz_25 mO (hl:=mL) (h:=?_))
            refine aE ?_
            refine KA ?_
            refine oM ?_
            refine oD (dL rfl (hv:=by exact KE Tryz.underlying25 rfl sz_25)) ?_
            refine oD (dL rfl (hv:=by exact KE Tryz.underlying25 rfl sz_25)) ?_
            refine oS (cF rfl en_87 rfl (fun w hw=>c_F_Mul V hok f bd _ _ w (mC hw) (mC hw)) ?_)
            refine oM ?_
            refine KO rfl (sA rfl rfl sz_25 mO (hl:=mL) (h:=?_))
            refine oA ?_
            refine KC ?_
            obtain ⟨hn1,hn2,hn3⟩:=TS.next hok.fld.dom hy1 h80 hk h84
            exact ⟨(y.1*(fpow y.2.1 (2^(y.2.2.2-k.1-1))),(fpow y.2.1 (2^(y.2.2.2-k.1-1)))*(fpow y.2.1 (2^(y.2.2.2-k.1-1))),y.2.2.1*((fpow y.2.1 (2^(y.2.2.2-k.1-1)))*(fpow y.2.1 (2^(y.2.2.2-k.1-1)))),k.1),⟨hn3,by dsimp only; omega⟩,by dsimp only; omega,Kd ⟨rfl,rfl,rfl,rfl,rfl,rfl,trivial⟩ mS⟩
      ·
        have h80:y.2.2.1 = 1:=(ne_iff1 hok).1 (by simpa using h80)
        refine Ke ?_
        refine KB (KA ?_)
        refine oD (dL rfl (hv:=by exact KE Tryz.underlying25 rfl sz_25)) ?_
        refine KO rfl (sA rfl rfl sz_25 mO (hl:=mL) (h:=?_))
        refine KC (KI ?_)
        refine ⟨[_],.cons ⟨_,_,_,rfl,mM,by exact KE Tryz.underlying25 rfl sz_25⟩ .nil,fun a w' hr=>⟨_,⟨y.1,hy1.done h80,rfl⟩,rfl,hr.fr.below⟩⟩
def sqV (p a:Nat):Value:=match sqN p a with
  | some r=>.tuple #[natV r,.bool true]
  | none=>.tuple #[natV 0,.bool false]
theorem sqV_some {p a r:Nat} (h:sqN p a = some r):sqV p a = .tuple #[natV r,.bool true]:=by unfold sqV; rw [h]
theorem sqV_none {p a:Nat} (h:sqN p a = none):sqV p a = .tuple #[natV 0,.bool false]:=by unfold sqV; rw [h]
theorem c_F_Sqrt (V:Cv) (f bd:Nat) (hok:V.Ok) (a:Fin V.p) (w:World) (hf:(Item.blk f ⟨false,fldL V.p bd,116,(0,0)⟩).holds w) (hbd:(Item.blk bd ⟨false,dvL V.p,167,(0,0)⟩).holds w):Calls Tryz.prog 83 ([.pointer (some ⟨f,0,none⟩),natV a.val]:List Value).toArray w (fun e w'=>e = .returned (sqV V.p a.val)∧Below w.heap.size w w'):=by
  have hbb:=hok.bounds
  have hpW:V.p<W9:=KAJ hbb.2.1
  refine Ka (N:=44) (rs:=[.cell 4 25,.tmp 5]) [.blk f ⟨false,fldL V.p bd,116,(0,0)⟩,.blk bd ⟨false,dvL V.p,167,(0,0)⟩] Tryz.func83 rfl Tryz.ntmps83 Tryz.results83 (Nb rfl) ⟨hf,hbd,trivial⟩ rfl ?_
  show LCode _ _ _ ⟨_,_⟩ _
  refine KB (KA ?_)
  refine oS (mB (fun b3=>?_))
  refine oS (mk (KP zr_25) (fun b4=>?_))
  refine oA ?_
  refine KC ?_
  refine KB ?_
  refine KB (KA ?_)
  refine oD (dL rfl (hv:=by exact KE Tryz.underlying25 rfl sz_25)) ?_
  refine oP (KG (Kp pl_25 zr_25 rfl rfl) (show _ = natV 0 by unfold natV natL; rw [← vec_zeros 9])) ?_
  refine oP (Det.eqa (by kernel_rfl) (fun w=>eq_nat a.val 0 (Nat.lt_trans a.isLt hpW) zero_w9 10000 dc w) rfl rfl) ?_
  refine KC ?_
  first|refine KN rfl (fun h11=>?_) (fun h11=>?_)|refine KQ rfl (fun h11=>?_) (fun h11=>?_)
  ·
    have h11:a.val = 0:=by simpa using h11
    refine KB (KA ?_)
    refine oD (dL rfl (hv:=by exact KE Tryz.underlying25 rfl sz_25)) ?_
    refine KO rfl (sA rfl rfl sz_25 mO (hl:=mL) (h:=?_))
    refine oA ?_
    refine KC (KI ?_)
    refine ⟨[_,_],.cons ⟨_,_,_,rfl,mM,by exact KE Tryz.underlying25 rfl sz_25⟩ (.cons rfl .nil),fun a' w' hr=>⟨?_,hr.fr.below⟩⟩
    rw [h11,sqV_some (sqN_zero om)]
    rfl
  ·
    have h11:a≠0:=fun h=>by rw [h] at h11; simp at h11
    refine KM ?_
    refine KB ?_
    refine rD [10] ?_
    refine aM 0 ?_
    refine aP 1 rfl (KL rfl) ?_
    refine aP 2 rfl (KF (o':=0) Tryz.underlying116 rfl rfl rfl sz_25 dc) ?_
    refine aD 3 rfl (dL rfl (hv:=by exact Kv Tryz.underlying25 rfl sz_25 rfl (KH _))) ?_
    refine LAny.toP ?_
    refine Kx 9 rfl (.inl zr_25) (Nb rfl) rfl rfl rfl ?_
    refine Kl 4 rfl rfl rfl (Nb rfl) (by kernel_rfl) rfl (Kq (first:=[]) rfl en_96 rfl (fun w hw=>c_one w)) ?_
    rintro _ _ ⟨rfl,rfl⟩
    refine Kl 5 rfl rfl rfl (Nb rfl) (by kernel_rfl) rfl (Kq (first:=[]) rfl en_60 rfl (fun w hw=>c_nat_SubS V.p 1 w hpW om)) ?_
    rintro _ _ ⟨rfl,rfl⟩
    refine pM 6 ?_
    refine pP 7 rfl (Det.extract rfl rfl) ?_
    refine pP 8 rfl (Det.extract rfl rfl) ?_
    refine pE (fun b6=>?_)
    refine KAN ?_
    refine aL 10 rfl (sA rfl rfl sz_25 mO (hl:=mL) (h:=?_))
    refine aA 11 ?_
    refine aE ?_
    refine KB ?_
    refine KB ?_
    refine rD [] ?_
    refine aM 0 ?_
    refine aP 1 rfl (KL rfl) ?_
    refine aP 2 rfl (KF (o':=9) Tryz.underlying116 rfl rfl rfl sz_114 dc) ?_
    refine aD 3 rfl (dL rfl (hv:=by exact LoadV.last Tryz.underlying114 rfl sz_114 rfl (KH _) rfl)) ?_
    refine aD 4 rfl (dL rfl (hv:=by exact KE Tryz.underlying25 rfl sz_25)) ?_
    refine aD 5 rfl (dL rfl (hv:=by exact KE Tryz.underlying25 rfl sz_25)) ?_
    refine aO 6 rfl (cF rfl en_98 rfl (fun w hw=>c_half (V.p-1) om w) ?_)
    refine aO 7 rfl (cF rfl en_97 rfl (fun w hw=>c_F_Pow V hok bd a ((V.p-1)/2) w (mC hw) om) ?_)
    refine aO 8 rfl (cF rfl en_96 rfl (fun w hw=>c_one w) ?_)
    refine aP 9 rfl (Det.nea (by kernel_rfl) (fun w=>eq_nat (fpow a ((V.p-1)/2)).val 1 (Nat.lt_trans (fpow a ((V.p-1)/2)).isLt hpW) one_w9 10000 dc w) rfl rfl) ?_
    refine aE ?_
    first|refine KN rfl (fun h31=>?_) (fun h31=>?_)|refine KQ rfl (fun h31=>?_) (fun h31=>?_)
    ·
      have h31:fpow a ((V.p-1)/2)≠1:=fun h=>by simp [(ne_iff1 hok).2 h] at h31
      refine KB (KA ?_)
      refine oP (KG (Kp pl_25 zr_25 rfl rfl) (show _ = natV 0 by unfold natV natL; rw [← vec_zeros 9])) ?_
      refine KO rfl (sA rfl rfl sz_25 mO (hl:=mL) (h:=?_))
      refine oA ?_
      refine KC (KI ?_)
      refine ⟨[_,_],.cons ⟨_,_,_,rfl,mM,by exact KE Tryz.underlying25 rfl sz_25⟩ (.cons rfl .nil),fun a' w' hr=>⟨?_,hr.fr.below⟩⟩
      rw [sqV_none (sqN_no hok h11 h31)]
      rfl
    ·
      have h31:fpow a ((V.p-1)/2) = 1:=(ne_iff1 hok).1 (by simpa using h31)
      refine KM ?_
      refine KB (KA ?_)
      refine oM ?_
      refine oD (dL rfl (hv:=by exact KE Tryz.underlying25 rfl sz_25)) ?_
      refine oS (LStep.callV (first:=[]) rfl en_99 rfl (Nb rfl) (fun w hw=>c_root V f bd hok a w (mC hw) (mC hw) h31) ?_)
      rintro _ ⟨x,hx,rfl⟩
      refine oS (mk (KP zr_25) (fun b8=>?_))
      refine KO rfl (sA rfl rfl sz_25 mO (hl:=mL) (h:=?_))
      refine KC ?_
      refine KB ?_
      refine KB (KA ?_)
      refine oD (dL rfl (hv:=by exact KE Tryz.underlying25 rfl sz_25)) ?_
      refine oS (cF rfl en_85 rfl (fun w hw=>c_nat_Bit x.val 0 (Nat.lt_trans x.isLt hpW) dc w) ?_)
      refine oP (KD rfl rfl (KAP (b:=1))) ?_
      refine KC ?_
      first|refine KN rfl (fun h38=>?_) (fun h38=>?_)|refine KQ rfl (fun h38=>?_) (fun h38=>?_)
      ·
        have h38:x.val/2^0%2 = 1:=h38
        rw [Nat.pow_zero,Nat.div_one] at h38
        refine KA ?_
        refine oM ?_
        refine oP (KG (Kp pl_25 zr_25 rfl rfl) (show _ = natV 0 by unfold natV natL; rw [← vec_zeros 9])) ?_
        refine oD (dL rfl (hv:=by exact KE Tryz.underlying25 rfl sz_25)) ?_
        refine oS (cF rfl en_86 rfl (fun w hw=>c_F_Sub V hok f bd 0 x w (mC hw)) ?_)
        refine KO rfl (sA rfl rfl sz_25 mO (hl:=mL) (h:=?_))
        refine KC ?_
        refine KB (KA ?_)
        refine oD (dL rfl (hv:=by exact KE Tryz.underlying25 rfl sz_25)) ?_
        refine KO rfl (sA rfl rfl sz_25 mO (hl:=mL) (h:=?_))
        refine oA ?_
        refine KC (KI ?_)
        refine ⟨[_,_],.cons ⟨_,_,_,rfl,mM,by exact KE Tryz.underlying25 rfl sz_25⟩ (.cons rfl .nil),fun a' w' hr=>⟨?_,hr.fr.below⟩⟩
        rw [← hx,sqV_some (sqN_eq hok.fld (p_odd hok) x),evenR,if_pos h38]
        rfl
      ·
        have h38:¬ x.val/2^0%2 = 1:=h38
        rw [Nat.pow_zero,Nat.div_one] at h38
        refine KM ?_
        refine KB (KA ?_)
        refine oD (dL rfl (hv:=by exact KE Tryz.underlying25 rfl sz_25)) ?_
        refine KO rfl (sA rfl rfl sz_25 mO (hl:=mL) (h:=?_))
        refine oA ?_
        refine KC (KI ?_)
        refine ⟨[_,_],.cons ⟨_,_,_,rfl,mM,by exact KE Tryz.underlying25 rfl sz_25⟩ (.cons rfl .nil),fun a' w' hr=>⟨?_,hr.fr.below⟩⟩
        rw [← hx,sqV_some (sqN_eq hok.fld (p_odd hok) x),evenR,if_neg h38]
        rfl
end Go.Proofs.YtlmiolnccgjjjaaGreat
set_option linter.unusedVariables false
set_option linter.unusedSimpArgs false
set_option maxRecDepth 20000
namespace Go.Proofs.YtlmiolnccgjjjaaGreat
open Go Go.RowKit
def uidx (x:Int):Nat:=(x%18446744073709551616).toNat
theorem uidx_eq (x:Int):Value.int .u64 (IntKind.u64.wrap x) = Value.int .u64 ((uidx x:Nat):Int):=by
  unfold uidx
  rw [wrap_u64,Int.toNat_of_nonneg (Int.emod_nonneg _ dc)]
theorem cvI_id {id:Int} {V:Cv} (h:cvI id = some V):cvI ((V.id:Nat):Int) = some V:=by rw [(cvI_ok h).2]; exact h
end Go.Proofs.YtlmiolnccgjjjaaGreat
set_option linter.unusedVariables false
set_option linter.unusedSimpArgs false
set_option maxRecDepth 20000
namespace Go.Proofs.YtlmiolnccgjjjaaGreat
open Go Go.RowKit
open Grp
theorem Brings.own {w w':World} {H:List Item} {b:Nat} {cs:List Value} {e:TypeId} (hb:Below w.heap.size w w') (h:(Item.blk b ⟨true,cs,e,(0,0)⟩).holds w') (hn:w.heap.size≤b):Brings w H [.blk b ⟨true,cs,e,(0,0)⟩] w' :=
  ⟨hb,(by intro x hx; simp at hx; subst hx; exact h),(by intro x hx k hk; simp at hx; subst hx; simp [Item.fp] at hk; subst hk; exact .inl hn),(by intro x hx _ k hk; simp at hx; subst hx; simp [Item.fp] at hk; subst hk; exact hn),List.pairwise_singleton _ _⟩
end Go.Proofs.YtlmiolnccgjjjaaGreat
set_option linter.unusedVariables false
set_option linter.unusedSimpArgs false
set_option maxRecDepth 20000
namespace Go.Proofs.YtlmiolnccgjjjaaGreat
open Go Go.RowKit
open Grp
theorem xG {V:Cv} (hok:V.Ok):xv V.G = V.x:=val_c hok.bounds.2.2.2.2.1
theorem yG {V:Cv} (hok:V.Ok):yv V.G = V.y:=val_c hok.bounds.2.2.2.2.2.1
end Go.Proofs.YtlmiolnccgjjjaaGreat
set_option linter.unusedVariables false
set_option linter.unusedSimpArgs false
set_option maxRecDepth 20000
namespace Go.Proofs.YtlmiolnccgjjjaaGreat
open Go Go.RowKit
open Grp
theorem c_cOnB (V:Cv) (b f bd:Nat) (hok:V.Ok) (X Y:Nat) (i r:Bool) (w:World) (hb:(Item.blk b ⟨false,opL V f,92,(0,0)⟩).holds w) (hf:(Item.blk f ⟨false,fldL V.p bd,116,(0,0)⟩).holds w) (hbd:(Item.blk bd ⟨false,dvL V.p,167,(0,0)⟩).holds w) (hX:X<W9) (hY:Y<W9) (hr:onB V.p V.a V.b X Y i = r):Calls Tryz.prog 67 ([.pointer (some ⟨b,0,none⟩),ptV X Y i]:List Value).toArray w (fun e w'=>e = .returned (.bool r)∧Below w.heap.size w w'):=by
  have:=c_cOn V b f bd hok X Y i w hb hf hbd hX hY
  rwa [hr] at this
theorem c_cOnP (V:Cv) (b f bd:Nat) (hok:V.Ok) (P:Pt V.p) (w:World) (hb:(Item.blk b ⟨false,opL V f,92,(0,0)⟩).holds w) (hf:(Item.blk f ⟨false,fldL V.p bd,116,(0,0)⟩).holds w) (hbd:(Item.blk bd ⟨false,dvL V.p,167,(0,0)⟩).holds w) (hP:On V.A V.B P):Calls Tryz.prog 67 ([.pointer (some ⟨b,0,none⟩),ptP P]:List Value).toArray w (fun e w'=>e = .returned (.bool true)∧Below w.heap.size w w') :=
  c_cOnB V b f bd hok (xv P) (yv P) (iv P) true w hb hf hbd (pt_w9 hok P).1 (pt_w9 hok P).2 (onB_on hP)
theorem pjFL_length {p:Nat} (T:Fin p×Fin p×Fin p):(pjFL T).length = 27:=pjL_length _ _ _
theorem pjFL_one {p:Nat} (T:Fin p×Fin p×Fin p):AllOne (pjFL T):=pjL_one _ _ _
end Go.Proofs.YtlmiolnccgjjjaaGreat
set_option linter.unusedVariables false
set_option linter.unusedSimpArgs false
set_option maxRecDepth 20000
namespace Go.Proofs.YtlmiolnccgjjjaaGreat
open Go Go.RowKit
open Grp
theorem c_r_GP (Q:CQ) (V:Cv) (w:World) (hc:(crvI Q V).holds w) (hok:V.Ok):Calls Tryz.prog 13 ([.agg (crvL Q V).toArray]:List Value).toArray w (fun e w'=>Num2R w (crvI Q V).fp (xv V.G) (yv V.G) (fun u v=>rpV u v (iv V.G)) e w'):=by
  rw [xG hok,yG hok]
  exact c_r_G Q V w hc
end Go.Proofs.YtlmiolnccgjjjaaGreat
set_option linter.unusedVariables false
set_option linter.unusedSimpArgs false
set_option maxRecDepth 20000
namespace Go.Proofs.YtlmiolnccgjjjaaGreat
open Go Go.RowKit
def pfx (x:Nat):ByteArray:=strOf ((List.range 1).map fun i=>UInt8.ofNat ((fun _=>x) i))
def coB (V:Cv) (X:Nat):ByteArray:=strOf (beBytes (nby V.p) X)
def putS (V:Cv) (X Y:Nat) (sh:Bool):ByteArray:=if sh then pfx (2+Y%2)++coB V X else pfx 4++coB V X++coB V Y
def putV (V:Cv) (X Y:Nat) (i sh:Bool):Value:=if (onB V.p V.a V.b X Y i && !i) = true then .tuple #[.string (putS V X Y sh),.int .i64 ((0:Nat):Int)] else .tuple #[.string ⟨#[]⟩,.int .i64 ((2101:Nat):Int)]
theorem putV_off {V:Cv} {X Y:Nat} {i:Bool} (sh:Bool) (h:onB V.p V.a V.b X Y i = false):putV V X Y i sh = .tuple #[.string ⟨#[]⟩,.int .i64 ((2101:Nat):Int)]:=by unfold putV; rw [h]; rfl
theorem putV_inf (V:Cv) (X Y:Nat) (sh:Bool):putV V X Y true sh = .tuple #[.string ⟨#[]⟩,.int .i64 ((2101:Nat):Int)]:=by unfold putV; rw [Bool.not_true,Bool.and_false]; rfl
theorem putV_on {V:Cv} {X Y:Nat} (sh:Bool) (h:onB V.p V.a V.b X Y false = true):putV V X Y false sh = .tuple #[.string (putS V X Y sh),.int .i64 ((0:Nat):Int)]:=by unfold putV; rw [h]; rfl
theorem pfx_mod (y:Nat):pfx ((2+y/2^0%2)%256) = pfx (2+y%2):=by
  rw [Nat.pow_zero,Nat.div_one,Nat.mod_eq_of_lt om]
theorem coB_size (V:Cv) (X:Nat):(coB V X).size = nby V.p:=str_size _ _
theorem on_lt {V:Cv} {X Y:Nat} (h:onB V.p V.a V.b X Y false = true):X<V.p∧Y<V.p:=by
  unfold onB at h
  rw [if_neg dc] at h
  simp only [Bool.and_eq_true,decide_eq_true_eq] at h
  exact ⟨h.1,h.2.1⟩
theorem c_r_OnV (v:Bool) (Q:CQ) (V:Cv) (q r:NV) (X Y:Nat) (i:Bool) (w:World) (hc:(crvI Q V).holds w) (hok:V.Ok) (hq:(numT q X).holds w) (hr:(numT r Y).holds w) (hX:D.nw X≤1000) (hY:D.nw Y≤1000) (h:onB V.p V.a V.b X Y i = v):Calls Tryz.prog 38 ([.agg (crvL Q V).toArray,rpV (numV q X) (numV r Y) i]:List Value).toArray w (fun e w'=>e = .returned (.bool v)∧Below w.heap.size w w'):=h ▸ c_r_On Q V q r X Y i w hc hok hq hr hX hY
theorem c_cOnV (v:Bool) (V:Cv) (b f bd:Nat) (hok:V.Ok) (X Y:Nat) (i:Bool) (w:World) (hb:(Item.blk b ⟨false,opL V f,92,(0,0)⟩).holds w) (hf:(Item.blk f ⟨false,fldL V.p bd,116,(0,0)⟩).holds w) (hbd:(Item.blk bd ⟨false,dvL V.p,167,(0,0)⟩).holds w) (hX:X<W9) (hY:Y<W9) (h:onB V.p V.a V.b X Y i = v):Calls Tryz.prog 67 ([.pointer (some ⟨b,0,none⟩),ptV X Y i]:List Value).toArray w (fun e w'=>e = .returned (.bool v)∧Below w.heap.size w w'):=h ▸ c_cOn V b f bd hok X Y i w hb hf hbd hX hY
theorem c_r_Put (Q:CQ) (V:Cv) (q r:NV) (X Y:Nat) (i sh:Bool) (w:World) (hc:(crvI Q V).holds w) (hok:V.Ok) (hq:(numT q X).holds w) (hr:(numT r Y).holds w) (hX:D.nw X≤1000) (hY:D.nw Y≤1000):Calls Tryz.prog 17 ([.agg (crvL Q V).toArray,rpV (numV q X) (numV r Y) i,.bool sh]:List Value).toArray w (fun e w'=>e = .returned (putV V X Y i sh)∧Below w.heap.size w w'):=by
  have hbb:=hok.bounds
  have hsz:=hok.sz
  have hnb:nby V.p≤72:=by have:=blen_w9 (KAJ hbb.2.1); (unfold nby; omega)
  refine Ka (N:=50) (rs:=[.tmp 6,.tmp 7]) [crvI Q V,numT q X,numT r Y] Tryz.func17 rfl Tryz.ntmps17 Tryz.results17 (Nb rfl) ⟨hc,hq,hr,trivial⟩ rfl ?_
  show LCode _ _ _ ⟨_,_⟩ _
  refine KB (KA ?_)
  refine oS (mB (fun b3=>?_))
  refine oS (mB (fun b4=>?_))
  refine oA ?_
  refine oP (KR (v:=.int .i64 ((0:Nat):Int)) rfl) ?_
  refine KC ?_
  refine KB ?_
  refine KB ?_
  rcases (show onB V.p V.a V.b X Y i = false∨(onB V.p V.a V.b X Y i = true∧i = true)∨(onB V.p V.a V.b X Y i = true∧i = false) by cases onB V.p V.a V.b X Y i <;> cases i <;> simp) with h1|⟨h1,rfl⟩|⟨h1,rfl⟩
  ·
    refine KA ?_
    refine oD (dL rfl (hv:=by exact KE Tryz.underlying30 rfl sz_30)) ?_
    refine oD (dL rfl (hv:=by exact KE Tryz.underlying35 rfl sz_35)) ?_
    refine oS (cF rfl en_38 rfl (fun w hw=>c_r_OnV false Q V q r X Y i w (mC hw) hok (mC hw) (mC hw) hX hY h1) ?_)
    refine oP (KG (Det.not rfl) (show _ = Value.bool true from rfl)) ?_
    refine oM ?_
    refine oK ?_
    refine oK ?_
    refine oP (Kj rfl rfl) ?_
    refine KC ?_
    refine KU rfl ?_
    refine KB (KA ?_)
    refine oA ?_
    refine oP (KR (v:=.int .i64 ((2101:Nat):Int)) rfl) ?_
    refine KC (KI ?_)
    refine ⟨[_,_],.cons rfl (.cons rfl .nil),fun a w' hr=>⟨?_,hr.fr.below⟩⟩
    rw [putV_off sh h1]
    rfl
  ·
    refine KA ?_
    refine oD (dL rfl (hv:=by exact KE Tryz.underlying30 rfl sz_30)) ?_
    refine oD (dL rfl (hv:=by exact KE Tryz.underlying35 rfl sz_35)) ?_
    refine oS (cF rfl en_38 rfl (fun w hw=>c_r_OnV true Q V q r X Y true w (mC hw) hok (mC hw) (mC hw) hX hY h1) ?_)
    refine oP (KG (Det.not rfl) (show _ = Value.bool false from rfl)) ?_
    refine oM ?_
    refine oGP (KF (o':=2) Tryz.underlying35 rfl rfl rfl sz_4 dc) ?_
    refine KAM rfl rfl (dL rfl (hv:=KJ Tryz.underlying4 rfl (by first|rfl|exact KW _ _ _ om|exact KV _ om|exact KT _ om|exact dv_m _ _ _ om))) (Nb rfl) ?_
    refine oP (KY rfl rfl) ?_
    refine KC ?_
    refine KU rfl ?_
    refine KB (KA ?_)
    refine oA ?_
    refine oP (KR (v:=.int .i64 ((2101:Nat):Int)) rfl) ?_
    refine KC (KI ?_)
    refine ⟨[_,_],.cons rfl (.cons rfl .nil),fun a w' hr=>⟨?_,hr.fr.below⟩⟩
    rw [putV_inf]
    rfl
  ·
    refine KA ?_
    refine oD (dL rfl (hv:=by exact KE Tryz.underlying30 rfl sz_30)) ?_
    refine oD (dL rfl (hv:=by exact KE Tryz.underlying35 rfl sz_35)) ?_
    refine oS (cF rfl en_38 rfl (fun w hw=>c_r_OnV true Q V q r X Y false w (mC hw) hok (mC hw) (mC hw) hX hY h1) ?_)
    refine oP (KG (Det.not rfl) (show _ = Value.bool false from rfl)) ?_
    refine oM ?_
    refine oGP (KF (o':=2) Tryz.underlying35 rfl rfl rfl sz_4 dc) ?_
    refine KAM rfl rfl (dL rfl (hv:=KJ Tryz.underlying4 rfl (by first|rfl|exact KW _ _ _ om|exact KV _ om|exact KT _ om|exact dv_m _ _ _ om))) (Nb rfl) ?_
    refine oP (KY rfl rfl) ?_
    refine KC ?_
    refine KK rfl ?_
    refine KM ?_
    refine KB ?_
    obtain ⟨hXp,hYp⟩:=on_lt h1
    refine rD [] ?_
    refine aP 0 rfl (KF (o':=0) Tryz.underlying35 rfl rfl rfl sz_28 dc) ?_
    refine aD 1 rfl (dL rfl (hv:=KJ Tryz.underlying28 rfl (by first|rfl|exact KW _ _ _ om|exact KV _ om|exact KT _ om|exact dv_m _ _ _ om))) ?_
    refine aD 2 rfl (dL rfl (hv:=by exact KE Tryz.underlying30 rfl sz_30)) ?_
    refine aO 3 rfl (cF rfl en_21 rfl (fun w hw=>c_r_Size Q V w (mC hw) hsz) ?_)
    refine aO 4 rfl (cF rfl en_22 rfl (fun w hw=>c_n_BytesOK q X (nby V.p) w (mC hw) om hnb (nby_le hXp)) ?_)
    refine aM 5 ?_
    refine aP 6 rfl (Det.extract rfl rfl) ?_
    refine aP 7 rfl (Det.extract rfl rfl) ?_
    refine aA 8 ?_
    refine aA 9 ?_
    refine aE ?_
    refine KB ?_
    refine rD [] ?_
    refine aP 0 rfl (KF (o':=1) Tryz.underlying35 rfl rfl rfl sz_28 dc) ?_
    refine aD 1 rfl (dL rfl (hv:=KJ Tryz.underlying28 rfl (by first|rfl|exact KW _ _ _ om|exact KV _ om|exact KT _ om|exact dv_m _ _ _ om))) ?_
    refine aD 2 rfl (dL rfl (hv:=by exact KE Tryz.underlying30 rfl sz_30)) ?_
    refine aO 3 rfl (cF rfl en_21 rfl (fun w hw=>c_r_Size Q V w (mC hw) hsz) ?_)
    refine aO 4 rfl (cF rfl en_22 rfl (fun w hw=>c_n_BytesOK r Y (nby V.p) w (mC hw) om hnb (nby_le hYp)) ?_)
    refine aM 5 ?_
    refine aP 6 rfl (Det.extract rfl rfl) ?_
    refine aP 7 rfl (Det.extract rfl rfl) ?_
    refine aA 8 ?_
    refine aA 9 ?_
    refine aE ?_
    refine KB ?_
    refine KB (KA ?_)
    refine oM ?_
    refine KC ?_
    first|refine KN rfl (fun hsh=>?_) (fun hsh=>?_)|refine KQ rfl (fun hsh=>?_) (fun hsh=>?_)
    ·
      subst hsh
      refine KB (KA ?_)
      refine oP (KF (o':=1) Tryz.underlying35 rfl rfl rfl sz_28 dc) ?_
      refine oD (dL rfl (hv:=KJ Tryz.underlying28 rfl (by first|rfl|exact KW _ _ _ om|exact KV _ om|exact KT _ om|exact dv_m _ _ _ om))) ?_
      refine oS (cF rfl en_33 rfl (fun w hw=>c_n_Bit r Y (D.nw Y) 0 w (mC hw) om) ?_)
      refine oP (KD rfl rfl (Kn (a:=2) om)) ?_
      refine oP (Det.conv8 Tryz.underlying3 Tryz.underlying5 rfl) ?_
      refine oS (mk (KAD Tryz.underlying78 inf_5 rfl rfl rfl rfl dc rfl) (fun b42=>?_))
      refine oD (Det.bytesStr (f:=fun _=>(2+Y/2^0%2)%256) Tryz.underlying78 Tryz.underlying5 Tryz.underlying9 rfl mM (by rfl)) ?_
      refine oM ?_
      refine oP (Det.cat rfl rfl (by have h2:=str_size (nby V.p) X; have h3:=str_size (nby V.p) Y; have h4:∀ x,(strOf ((List.range 1).map fun i=>UInt8.ofNat ((fun _=>x) i))).size = 1:=fun _=>rfl; have h5:(⟨#[4]⟩:ByteArray).size = 1:=rfl; try simp only [ByteArray.size_append,h4,h2,h3,h5]; omega)) ?_
      refine oA ?_
      refine oP (KR (v:=.int .i64 ((0:Nat):Int)) rfl) ?_
      refine KC (KI ?_)
      refine ⟨[_,_],.cons rfl (.cons rfl .nil),fun a w' hr=>⟨?_,hr.fr.below⟩⟩
      rw [putV_on _ h1,putS,if_pos rfl,← pfx_mod]
      rfl
    ·
      subst hsh
      refine KM ?_
      refine KB (KA ?_)
      refine oM ?_
      refine oP (Det.cat rfl rfl (by have h2:=str_size (nby V.p) X; have h3:=str_size (nby V.p) Y; have h4:∀ x,(strOf ((List.range 1).map fun i=>UInt8.ofNat ((fun _=>x) i))).size = 1:=fun _=>rfl; have h5:(⟨#[4]⟩:ByteArray).size = 1:=rfl; try simp only [ByteArray.size_append,h4,h2,h3,h5]; omega)) ?_
      refine oM ?_
      refine oP (Det.cat rfl rfl (by have h2:=str_size (nby V.p) X; have h3:=str_size (nby V.p) Y; have h4:∀ x,(strOf ((List.range 1).map fun i=>UInt8.ofNat ((fun _=>x) i))).size = 1:=fun _=>rfl; have h5:(⟨#[4]⟩:ByteArray).size = 1:=rfl; try simp only [ByteArray.size_append,h4,h2,h3,h5]; omega)) ?_
      refine oA ?_
      refine oP (KR (v:=.int .i64 ((0:Nat):Int)) rfl) ?_
      refine KC (KI ?_)
      refine ⟨[_,_],.cons rfl (.cons rfl .nil),fun a w' hr=>⟨?_,hr.fr.below⟩⟩
      rw [putV_on _ h1,putS,if_neg dc]
      rfl
def liftT (V:Cv) (X odd:Nat):Nat×Nat×Bool:=if X<V.p then (match sqN V.p (rightN V.p V.a V.b X) with
  | none=>(0,0,false)
  | some r=>if odd = 0 then (X,r,true) else if r = 0 then (X,0,false) else (X,V.p-r,true)) else (0,0,false)
theorem lift_far {V:Cv} {X odd:Nat} (h:¬ X<V.p):liftT V X odd = (0,0,false):=if_neg h
theorem lift_no {V:Cv} {X odd:Nat} (h:X<V.p) (h1:sqN V.p (rightN V.p V.a V.b X) = none):liftT V X odd = (0,0,false):=by unfold liftT; rw [if_pos h,h1]
theorem lift_even {V:Cv} {X r:Nat} (h:X<V.p) (h1:sqN V.p (rightN V.p V.a V.b X) = some r):liftT V X 0 = (X,r,true):=by unfold liftT; rw [if_pos h,h1]; rfl
theorem lift_zero {V:Cv} {X:Nat} (h:X<V.p) (h1:sqN V.p (rightN V.p V.a V.b X) = some 0):liftT V X 1 = (X,0,false):=by unfold liftT; rw [if_pos h,h1]; rfl
theorem lift_odd {V:Cv} {X r:Nat} (h:X<V.p) (h1:sqN V.p (rightN V.p V.a V.b X) = some r) (h0:r≠0):liftT V X 1 = (X,V.p-r,true):=by unfold liftT; rw [if_pos h,h1]; simp [h0]
theorem c_RightN (R X:Nat) (V:Cv) (b f bd:Nat) (hok:V.Ok) (w:World) (hb:(Item.blk b ⟨false,opL V f,92,(0,0)⟩).holds w) (hf:(Item.blk f ⟨false,fldL V.p bd,116,(0,0)⟩).holds w) (hbd:(Item.blk bd ⟨false,dvL V.p,167,(0,0)⟩).holds w) (hX:X<V.p) (hR:rightN V.p V.a V.b X = R):Calls Tryz.prog 84 ([.pointer (some ⟨b,0,none⟩),natV X]:List Value).toArray w (fun e w'=>e = .returned (natV R)∧Below w.heap.size w w'):=by
  have h1:=c_Right V b f bd hok ⟨X,hX⟩ w hb hf hbd
  rw [← right_val hok] at h1
  rw [← hR]
  exact h1
theorem right_ltV {V:Cv} (hok:V.Ok) (X:Nat):rightN V.p V.a V.b X<V.p:=Nat.mod_lt _ (by have:=hok.bounds; omega)
theorem c_F_SqrtN (V:Cv) (f bd:Nat) (hok:V.Ok) (R:Nat) (w:World) (hf:(Item.blk f ⟨false,fldL V.p bd,116,(0,0)⟩).holds w) (hbd:(Item.blk bd ⟨false,dvL V.p,167,(0,0)⟩).holds w) (hR:R<V.p) (h:sqN V.p R = none):Calls Tryz.prog 83 ([.pointer (some ⟨f,0,none⟩),natV R]:List Value).toArray w (fun e w'=>e = .returned (.tuple #[natV 0,.bool false])∧Below w.heap.size w w'):=by
  have h1:=c_F_Sqrt V f bd hok ⟨R,hR⟩ w hf hbd
  rw [sqV_none h] at h1
  exact h1
theorem c_F_SqrtS (r:Nat) (V:Cv) (f bd:Nat) (hok:V.Ok) (R:Nat) (w:World) (hf:(Item.blk f ⟨false,fldL V.p bd,116,(0,0)⟩).holds w) (hbd:(Item.blk bd ⟨false,dvL V.p,167,(0,0)⟩).holds w) (hR:R<V.p) (h:sqN V.p R = some r):Calls Tryz.prog 83 ([.pointer (some ⟨f,0,none⟩),natV R]:List Value).toArray w (fun e w'=>e = .returned (.tuple #[natV r,.bool true])∧Below w.heap.size w w'):=by
  have h1:=c_F_Sqrt V f bd hok ⟨R,hR⟩ w hf hbd
  rw [sqV_some h] at h1
  exact h1
theorem c_bit0 (v A:Nat) (w:World) (hA:A<W9) (h:A%2 = v):Calls Tryz.prog 85 ([natV A,.int .i64 0]:List Value).toArray w (fun e w'=>e = .returned (.int .i64 ((v:Nat):Int))∧Below w.heap.size w w'):=by
  have h1:=c_nat_Bit A 0 hA dc w
  rw [Nat.pow_zero,Nat.div_one,h] at h1
  exact h1
theorem c_f_neg (V:Cv) (hok:V.Ok) (f bd r:Nat) (w:World) (hf:(Item.blk f ⟨false,fldL V.p bd,116,(0,0)⟩).holds w) (h0:r≠0) (h:r<V.p):Calls Tryz.prog 86 ([.pointer (some ⟨f,0,none⟩),natV 0,natV r]:List Value).toArray w (fun e w'=>e = .returned (natV (V.p-r))∧Below w.heap.size w w'):=by
  have h1:=c_f_Sub V f bd 0 r w hf hok.bounds.2.1 om h
  rwa [Nat.zero_add,Nat.mod_eq_of_lt om] at h1
theorem c_f_neg0 (V:Cv) (hok:V.Ok) (f bd:Nat) (w:World) (hf:(Item.blk f ⟨false,fldL V.p bd,116,(0,0)⟩).holds w):Calls Tryz.prog 86 ([.pointer (some ⟨f,0,none⟩),natV 0,natV 0]:List Value).toArray w (fun e w'=>e = .returned (natV 0)∧Below w.heap.size w w'):=by
  have hb:=hok.bounds
  have h1:=c_f_Sub V f bd 0 0 w hf hb.2.1 om om
  rwa [Nat.zero_add,Nat.sub_zero,Nat.mod_self] at h1
theorem fill_ptI2 (X Y:Nat):fillL [(0,9),(9,9),(18,1)] (vec .u64 9 (fun _=>0)++(vec .u64 9 (fun _=>0)++[Value.bool false])) [(0,natV X),(1,natV Y)] = some (ptL X Y false):=by
  refine KAT (A:=[]) (B:=vec .u64 9 (fun _=>0)) (D:=vec .u64 9 (fun _=>0)++[Value.bool false]) (cs:=natL X) rfl rfl (KH _) rfl rfl (KS _ _ _) ?_
  refine (KAT (A:=natL X) (B:=vec .u64 9 (fun _=>0)) (D:=[Value.bool false]) (cs:=natL Y) rfl rfl (KH _) (by simp) (KH _) (KS _ _ _) rfl).trans ?_
  simp [ptL]
theorem c_lift (V:Cv) (b f bd:Nat) (hok:V.Ok) (X odd:Nat) (w:World) (hb:(Item.blk b ⟨false,opL V f,92,(0,0)⟩).holds w) (hf:(Item.blk f ⟨false,fldL V.p bd,116,(0,0)⟩).holds w) (hbd:(Item.blk bd ⟨false,dvL V.p,167,(0,0)⟩).holds w) (hX:X<W9) (hodd:odd≤1):Calls Tryz.prog 66 ([.pointer (some ⟨b,0,none⟩),natV X,.int .i64 ((odd:Nat):Int)]:List Value).toArray w (fun e w'=>e = .returned (.tuple #[ptV (liftT V X odd).1 (liftT V X odd).2.1 false,.bool (liftT V X odd).2.2])∧Below w.heap.size w w'):=by
  have hbb:=hok.bounds
  have hpW:V.p<W9:=KAJ hbb.2.1
  have hpo:=p_odd hok
  refine Ka (N:=50) (rs:=[.cell 6 83,.tmp 7]) [.blk b ⟨false,opL V f,92,(0,0)⟩,.blk f ⟨false,fldL V.p bd,116,(0,0)⟩,.blk bd ⟨false,dvL V.p,167,(0,0)⟩] Tryz.func66 rfl Tryz.ntmps66 Tryz.results66 (Nb rfl) ⟨hb,hf,hbd,trivial⟩ rfl ?_
  show LCode _ _ _ ⟨_,_⟩ _
  refine KB (KA ?_)
  refine oS (mB (fun b4=>?_))
  refine oS (mk (KP zr_83) (fun b6=>?_))
  refine oA ?_
  refine KC ?_
  refine KB ?_
  refine KB ?_
  rcases (show (¬ X<V.p)∨X<V.p by omega) with h1|hXp
  ·
    refine rD [] ?_
    refine aM 0 ?_
    refine aP 1 rfl (KL rfl) ?_
    refine aP 2 rfl (KF (o':=59) Tryz.underlying92 rfl rfl rfl sz_90 dc) ?_
    refine aD 3 rfl (dL rfl (hv:=KJ Tryz.underlying90 rfl (by exact cvC_gt_F _ _ _ _ _ _ _ _ _ _ _ _ _))) ?_
    refine aD 4 rfl (dL rfl (hv:=by exact KE Tryz.underlying25 rfl sz_25)) ?_
    refine aO 5 rfl (cF rfl en_82 rfl (fun w hw=>c_HasF V f bd X w (mC hw) hX hpW h1) ?_)
    refine aP 6 rfl (KG (Det.not rfl) (show _ = Value.bool true from rfl)) ?_
    refine aE ?_
    refine KU rfl ?_
    refine KB (KA ?_)
    refine oP (KG (Kp pl_83 zr_83 rfl rfl) pt_zero) ?_
    refine KO rfl (sA rfl rfl sz_83 (by exact KAB _ _ _) (hl:=by exact KX _ _ _) (h:=?_))
    refine oA ?_
    refine KC (KI ?_)
    refine ⟨[_,_],.cons ⟨_,_,_,rfl,mM,by exact KE Tryz.underlying83 rfl sz_83⟩ (.cons rfl .nil),fun a' w' hr=>⟨?_,hr.fr.below⟩⟩
    rw [lift_far h1]
    rfl
  ·
    refine rD [] ?_
    refine aM 0 ?_
    refine aP 1 rfl (KL rfl) ?_
    refine aP 2 rfl (KF (o':=59) Tryz.underlying92 rfl rfl rfl sz_90 dc) ?_
    refine aD 3 rfl (dL rfl (hv:=KJ Tryz.underlying90 rfl (by exact cvC_gt_F _ _ _ _ _ _ _ _ _ _ _ _ _))) ?_
    refine aD 4 rfl (dL rfl (hv:=by exact KE Tryz.underlying25 rfl sz_25)) ?_
    refine aO 5 rfl (cF rfl en_82 rfl (fun w hw=>c_HasT V f bd X w (mC hw) hX hpW hXp) ?_)
    refine aP 6 rfl (KG (Det.not rfl) (show _ = Value.bool false from rfl)) ?_
    refine aE ?_
    refine KK rfl ?_
    refine KM ?_
    refine KB ?_
    obtain ⟨R,hR⟩:∃ R,rightN V.p V.a V.b X = R:=⟨_,rfl⟩
    have hRp:R<V.p:=hR ▸ right_ltV hok X
    rcases h1:sqN V.p R with _|r
    ·
      refine rD [12] ?_
      refine aM 0 ?_
      refine aP 1 rfl (KL rfl) ?_
      refine aP 2 rfl (KF (o':=59) Tryz.underlying92 rfl rfl rfl sz_90 dc) ?_
      refine aD 3 rfl (dL rfl (hv:=KJ Tryz.underlying90 rfl (by exact cvC_gt_F _ _ _ _ _ _ _ _ _ _ _ _ _))) ?_
      refine aM 4 ?_
      refine aD 5 rfl (dL rfl (hv:=by exact KE Tryz.underlying25 rfl sz_25)) ?_
      refine LAny.toP ?_
      refine Kx 11 rfl (.inl zr_25) (Nb rfl) rfl rfl rfl ?_
      refine Kl 6 rfl rfl rfl (Nb rfl) (by kernel_rfl) rfl (Kq (first:=[]) rfl en_84 rfl (fun w hw=>c_RightN R X V b f bd hok w (mC hw) (mC hw) (mC hw) hXp hR)) ?_
      rintro _ _ ⟨rfl,rfl⟩
      refine Kl 7 rfl rfl rfl (Nb rfl) (by kernel_rfl) rfl (Kq (first:=[]) rfl en_83 rfl (fun w hw=>c_F_SqrtN V f bd hok R w (mC hw) (mC hw) hRp h1)) ?_
      rintro _ _ ⟨rfl,rfl⟩
      refine pM 8 ?_
      refine pP 9 rfl (Det.extract rfl rfl) ?_
      refine pP 10 rfl (Det.extract rfl rfl) ?_
      refine pE (fun b8=>?_)
      refine KAN ?_
      refine aL 12 rfl (sA rfl rfl sz_25 (by exact KAE _) (hl:=by exact KH _) (h:=?_))
      refine aA 13 ?_
      refine aE ?_
      refine KB ?_
      refine KB (KA ?_)
      refine oM ?_
      refine oP (KG (Det.not rfl) (show _ = Value.bool true from rfl)) ?_
      refine KC ?_
      refine KU rfl ?_
      refine KB (KA ?_)
      refine oP (KG (Kp pl_83 zr_83 rfl rfl) pt_zero) ?_
      refine KO rfl (sA rfl rfl sz_83 (by exact KAB _ _ _) (hl:=by exact KX _ _ _) (h:=?_))
      refine oA ?_
      refine KC (KI ?_)
      refine ⟨[_,_],.cons ⟨_,_,_,rfl,mM,by exact KE Tryz.underlying83 rfl sz_83⟩ (.cons rfl .nil),fun a' w' hr=>⟨?_,hr.fr.below⟩⟩
      rw [← hR] at h1
      rw [lift_no hXp h1]
      rfl
    ·
      refine rD [12] ?_
      refine aM 0 ?_
      refine aP 1 rfl (KL rfl) ?_
      refine aP 2 rfl (KF (o':=59) Tryz.underlying92 rfl rfl rfl sz_90 dc) ?_
      refine aD 3 rfl (dL rfl (hv:=KJ Tryz.underlying90 rfl (by exact cvC_gt_F _ _ _ _ _ _ _ _ _ _ _ _ _))) ?_
      refine aM 4 ?_
      refine aD 5 rfl (dL rfl (hv:=by exact KE Tryz.underlying25 rfl sz_25)) ?_
      refine LAny.toP ?_
      refine Kx 11 rfl (.inl zr_25) (Nb rfl) rfl rfl rfl ?_
      refine Kl 6 rfl rfl rfl (Nb rfl) (by kernel_rfl) rfl (Kq (first:=[]) rfl en_84 rfl (fun w hw=>c_RightN R X V b f bd hok w (mC hw) (mC hw) (mC hw) hXp hR)) ?_
      rintro _ _ ⟨rfl,rfl⟩
      refine Kl 7 rfl rfl rfl (Nb rfl) (by kernel_rfl) rfl (Kq (first:=[]) rfl en_83 rfl (fun w hw=>c_F_SqrtS r V f bd hok R w (mC hw) (mC hw) hRp h1)) ?_
      rintro _ _ ⟨rfl,rfl⟩
      refine pM 8 ?_
      refine pP 9 rfl (Det.extract rfl rfl) ?_
      refine pP 10 rfl (Det.extract rfl rfl) ?_
      refine pE (fun b8=>?_)
      refine KAN ?_
      refine aL 12 rfl (sA rfl rfl sz_25 (by exact KAE _) (hl:=by exact KH _) (h:=?_))
      refine aA 13 ?_
      refine aE ?_
      refine KB ?_
      refine KB (KA ?_)
      refine oM ?_
      refine oP (KG (Det.not rfl) (show _ = Value.bool false from rfl)) ?_
      refine KC ?_
      refine KK rfl ?_
      refine KM ?_
      refine KB ?_
      refine KB ?_
      obtain ⟨hr1,hr2,hr3⟩:=sqN_some h1
      rcases (show odd = 0∨(odd = 1∧r = 0)∨(odd = 1∧r≠0) by omega) with rfl|⟨rfl,rfl⟩|⟨rfl,hr0⟩
      ·
        refine KA ?_
        refine oD (dL rfl (hv:=by exact KE Tryz.underlying25 rfl sz_25)) ?_
        refine oS (cF rfl en_85 rfl (fun w hw=>c_bit0 0 r w om hr3) ?_)
        refine oM ?_
        refine oP (KD (v:=.bool false) rfl rfl (by rfl)) ?_
        refine KC ?_
        refine KK rfl ?_
        refine KM ?_
        refine KB ?_
        refine rD [7] ?_
        refine aD 0 rfl (dL rfl (hv:=by exact KE Tryz.underlying25 rfl sz_25)) ?_
        refine aD 1 rfl (dL rfl (hv:=by exact KE Tryz.underlying25 rfl sz_25)) ?_
        refine aP 2 rfl (KG (Kp pl_83 zr_83 rfl (fill_ptI2 _ _)) rfl) ?_
        refine aM 5 ?_
        refine aO 3 rfl (LStep.det (dL rfl (hv:=by exact KE Tryz.underlying25 rfl sz_25)) (Nb rfl) ?_)
        refine aO 4 rfl (cF rfl en_85 rfl (fun w hw=>c_bit0 0 r w om hr3) ?_)
        refine aP 6 rfl (KD (v:=.bool true) rfl rfl (by rfl)) ?_
        refine aL 7 rfl (sA rfl rfl sz_83 (by exact KAB _ _ _) (hl:=by exact KX _ _ _) (h:=?_))
        refine aA 8 ?_
        refine aE ?_
        refine KI ?_
        refine ⟨[_,_],.cons ⟨_,_,_,rfl,mM,by exact KE Tryz.underlying83 rfl sz_83⟩ (.cons rfl .nil),fun a' w' hr=>⟨?_,hr.fr.below⟩⟩
        rw [← hR] at h1
        rw [lift_even hXp h1]
        rfl
      ·
        refine KA ?_
        refine oD (dL rfl (hv:=by exact KE Tryz.underlying25 rfl sz_25)) ?_
        refine oS (cF rfl en_85 rfl (fun w hw=>c_bit0 0 0 w om rfl) ?_)
        refine oM ?_
        refine oP (KD (v:=.bool true) rfl rfl (by rfl)) ?_
        refine KC ?_
        refine KU rfl ?_
        refine rD [7] ?_
        refine aM 0 ?_
        refine aP 1 rfl (KL rfl) ?_
        refine aP 2 rfl (KF (o':=59) Tryz.underlying92 rfl rfl rfl sz_90 dc) ?_
        refine aD 3 rfl (dL rfl (hv:=KJ Tryz.underlying90 rfl (by exact cvC_gt_F _ _ _ _ _ _ _ _ _ _ _ _ _))) ?_
        refine aP 4 rfl (KG (Kp pl_25 zr_25 rfl rfl) (show _ = natV 0 by unfold natV natL; rw [← vec_zeros 9])) ?_
        refine aD 5 rfl (dL rfl (hv:=by exact KE Tryz.underlying25 rfl sz_25)) ?_
        refine aO 6 rfl (cF rfl en_86 rfl (fun w hw=>c_f_neg0 V hok f bd w (mC hw)) ?_)
        refine aL 7 rfl (sA rfl rfl sz_25 (by exact KAE _) (hl:=by exact KH _) (h:=?_))
        refine aE ?_
        refine KB ?_
        refine rD [7] ?_
        refine aD 0 rfl (dL rfl (hv:=by exact KE Tryz.underlying25 rfl sz_25)) ?_
        refine aD 1 rfl (dL rfl (hv:=by exact KE Tryz.underlying25 rfl sz_25)) ?_
        refine aP 2 rfl (KG (Kp pl_83 zr_83 rfl (fill_ptI2 _ _)) rfl) ?_
        refine aM 5 ?_
        refine aO 3 rfl (LStep.det (dL rfl (hv:=by exact KE Tryz.underlying25 rfl sz_25)) (Nb rfl) ?_)
        refine aO 4 rfl (cF rfl en_85 rfl (fun w hw=>c_bit0 0 0 w om rfl) ?_)
        refine aP 6 rfl (KD (v:=.bool false) rfl rfl (by rfl)) ?_
        refine aL 7 rfl (sA rfl rfl sz_83 (by exact KAB _ _ _) (hl:=by exact KX _ _ _) (h:=?_))
        refine aA 8 ?_
        refine aE ?_
        refine KI ?_
        refine ⟨[_,_],.cons ⟨_,_,_,rfl,mM,by exact KE Tryz.underlying83 rfl sz_83⟩ (.cons rfl .nil),fun a' w' hr=>⟨?_,hr.fr.below⟩⟩
        rw [← hR] at h1
        rw [lift_zero hXp h1]
        rfl
      ·
        refine KA ?_
        refine oD (dL rfl (hv:=by exact KE Tryz.underlying25 rfl sz_25)) ?_
        refine oS (cF rfl en_85 rfl (fun w hw=>c_bit0 0 r w om hr3) ?_)
        refine oM ?_
        refine oP (KD (v:=.bool true) rfl rfl (by rfl)) ?_
        refine KC ?_
        refine KU rfl ?_
        refine rD [7] ?_
        refine aM 0 ?_
        refine aP 1 rfl (KL rfl) ?_
        refine aP 2 rfl (KF (o':=59) Tryz.underlying92 rfl rfl rfl sz_90 dc) ?_
        refine aD 3 rfl (dL rfl (hv:=KJ Tryz.underlying90 rfl (by exact cvC_gt_F _ _ _ _ _ _ _ _ _ _ _ _ _))) ?_
        refine aP 4 rfl (KG (Kp pl_25 zr_25 rfl rfl) (show _ = natV 0 by unfold natV natL; rw [← vec_zeros 9])) ?_
        refine aD 5 rfl (dL rfl (hv:=by exact KE Tryz.underlying25 rfl sz_25)) ?_
        refine aO 6 rfl (cF rfl en_86 rfl (fun w hw=>c_f_neg V hok f bd r w (mC hw) hr0 hr1) ?_)
        refine aL 7 rfl (sA rfl rfl sz_25 (by exact KAE _) (hl:=by exact KH _) (h:=?_))
        refine aE ?_
        refine KB ?_
        refine rD [7] ?_
        refine aD 0 rfl (dL rfl (hv:=by exact KE Tryz.underlying25 rfl sz_25)) ?_
        refine aD 1 rfl (dL rfl (hv:=by exact KE Tryz.underlying25 rfl sz_25)) ?_
        refine aP 2 rfl (KG (Kp pl_83 zr_83 rfl (fill_ptI2 _ _)) rfl) ?_
        refine aM 5 ?_
        refine aO 3 rfl (LStep.det (dL rfl (hv:=by exact KE Tryz.underlying25 rfl sz_25)) (Nb rfl) ?_)
        refine aO 4 rfl (cF rfl en_85 rfl (fun w hw=>c_bit0 1 (V.p-r) w om om) ?_)
        refine aP 6 rfl (KD (v:=.bool true) rfl rfl (by rfl)) ?_
        refine aL 7 rfl (sA rfl rfl sz_83 (by exact KAB _ _ _) (hl:=by exact KX _ _ _) (h:=?_))
        refine aA 8 ?_
        refine aE ?_
        refine KI ?_
        refine ⟨[_,_],.cons ⟨_,_,_,rfl,mM,by exact KE Tryz.underlying83 rfl sz_83⟩ (.cons rfl .nil),fun a' w' hr=>⟨?_,hr.fr.below⟩⟩
        rw [← hR] at h1
        rw [lift_odd hXp h1 hr0]
        rfl
end Go.Proofs.YtlmiolnccgjjjaaGreat
set_option linter.unusedVariables false
set_option linter.unusedSimpArgs false
set_option maxRecDepth 20000
namespace Go.Proofs.YtlmiolnccgjjjaaGreat
open Go Go.RowKit
def b0 (s:ByteArray):Nat:=(s.data.toList.getD 0 0).toNat
theorem b0_lt (s:ByteArray):b0 s<256:=UInt8.toNat_lt _
def getX (V:Cv) (s:ByteArray):Nat:=beVal (s.extract 1 (1+nby V.p)).data.toList
def getY (V:Cv) (s:ByteArray):Nat:=beVal (s.extract (1+nby V.p) s.size).data.toList
def getT (V:Cv) (s:ByteArray):Nat×Nat×Nat :=
  if s.size = 1+nby V.p∧(b0 s = 2∨b0 s = 3) then (if (liftT V (getX V s) (b0 s-2)).2.2 = true then ((liftT V (getX V s) (b0 s-2)).1,(liftT V (getX V s) (b0 s-2)).2.1,0) else (0,0,2101))
  else if s.size = 1+2*nby V.p∧b0 s = 4 then (if onB V.p V.a V.b (getX V s) (getY V s) false = true then (getX V s,getY V s,0) else (0,0,2101))
  else (0,0,2102)
def getV (V:Cv) (s:ByteArray):Value:=.tuple #[ptV (getT V s).1 (getT V s).2.1 false,.int .i64 (((getT V s).2.2:Nat):Int)]
theorem getV_eq {V:Cv} {s:ByteArray} {X Y e:Nat} (h:getT V s = (X,Y,e)):getV V s = .tuple #[ptV X Y false,.int .i64 ((e:Nat):Int)]:=by unfold getV; rw [h]
theorem get_form {V:Cv} {s:ByteArray} (h1:¬ (s.size = 1+nby V.p∧(b0 s = 2∨b0 s = 3))) (h2:¬ (s.size = 1+2*nby V.p∧b0 s = 4)):getT V s = (0,0,2102):=by unfold getT; rw [if_neg h1,if_neg h2]
theorem get_short {V:Cv} {s:ByteArray} {o X Y:Nat} (h1:s.size = 1+nby V.p) (ho:b0 s = 2+o) (ho1:o≤1) (h:liftT V (getX V s) o = (X,Y,true)):getT V s = (X,Y,0):=by
  unfold getT
  rw [if_pos ⟨h1,by omega⟩,ho,Nat.add_sub_cancel_left,h]; rfl
theorem get_shortF {V:Cv} {s:ByteArray} {o X Y:Nat} (h1:s.size = 1+nby V.p) (ho:b0 s = 2+o) (ho1:o≤1) (h:liftT V (getX V s) o = (X,Y,false)):getT V s = (0,0,2101):=by
  unfold getT
  rw [if_pos ⟨h1,by omega⟩,ho,Nat.add_sub_cancel_left,h]; rfl
theorem get_long {V:Cv} {s:ByteArray} (h1:s.size = 1+2*nby V.p) (hb:b0 s = 4) (h:onB V.p V.a V.b (getX V s) (getY V s) false = true):getT V s = (getX V s,getY V s,0):=by
  unfold getT
  rw [if_neg om,if_pos ⟨h1,hb⟩,if_pos h]
theorem get_longF {V:Cv} {s:ByteArray} (h1:s.size = 1+2*nby V.p) (hb:b0 s = 4) (h:onB V.p V.a V.b (getX V s) (getY V s) false = false):getT V s = (0,0,2101):=by
  unfold getT
  rw [if_neg om,if_pos ⟨h1,hb⟩,if_neg (by rw [h]; decide)]
theorem ext_ext (s:ByteArray) (k:Nat) (h:1+k≤s.size):(s.extract 1 s.size).extract 0 k = s.extract 1 (1+k):=by
  rw [ByteArray.extract_extract]
  congr 1; omega
theorem ext_ext2 (s:ByteArray) (k:Nat) (h:1+k≤s.size):(s.extract 1 s.size).extract k (s.extract 1 s.size).size = s.extract (1+k) s.size:=by
  rw [ByteArray.extract_extract,ext_size _ _ _ (Nat.le_refl _)]
  congr 1; omega
theorem ptX_set0 (X Y X':Nat) (i:Bool):splice (ptL X Y i) 0 (natL X') = ptL X' Y i:=splice_mid (A:=[]) (B:=natL X) (D:=natL Y++[.bool i]) (by simp [ptL]) rfl (by rw [KH,KH]) (by simp [ptL])
theorem ptX_set9 (X Y Y':Nat) (i:Bool):splice (ptL X Y i) 9 (natL Y') = ptL X Y' i:=splice_mid (A:=natL X) (B:=natL Y) (D:=[.bool i]) (by simp [ptL]) (KH _) (by rw [KH,KH]) (by simp [ptL])
theorem ptX_zero:(vec .u64 9 (fun _=>0)++(vec .u64 9 (fun _=>0)++[Value.bool false]):List Value) = ptL 0 0 false:=by
  unfold ptL natL; rw [vec_zeros 9]
theorem c_nat_OfX (X:Nat) (s:ByteArray) (w:World) (h:s.size≤72) (hX:beVal s.data.toList = X):Calls Tryz.prog 65 ([.string s]:List Value).toArray w (fun e w'=>e = .returned (.tuple #[natV X,.int .i64 ((0:Nat):Int)])∧Below w.heap.size w w'):=hX ▸ c_nat_OfOK s w h
theorem c_liftX (Z:Nat×Nat×Bool) (V:Cv) (b f bd:Nat) (hok:V.Ok) (X odd:Nat) (w:World) (hb:(Item.blk b ⟨false,opL V f,92,(0,0)⟩).holds w) (hf:(Item.blk f ⟨false,fldL V.p bd,116,(0,0)⟩).holds w) (hbd:(Item.blk bd ⟨false,dvL V.p,167,(0,0)⟩).holds w) (hX:X<W9) (hodd:odd≤1) (hZ:liftT V X odd = Z):Calls Tryz.prog 66 ([.pointer (some ⟨b,0,none⟩),natV X,.int .i64 ((odd:Nat):Int)]:List Value).toArray w (fun e w'=>e = .returned (.tuple #[ptV Z.1 Z.2.1 false,.bool Z.2.2])∧Below w.heap.size w w'):=by
  subst hZ; exact c_lift V b f bd hok X odd w hb hf hbd hX hodd
theorem emp_t:((⟨#[]⟩:ByteArray).toList == (⟨#[]⟩:ByteArray).toList) = true:=by simp
theorem emp_f {s:ByteArray} (h:s.size≠0):(s.toList == (⟨#[]⟩:ByteArray).toList) = false:=by
  cases h1:(s.toList == (⟨#[]⟩:ByteArray).toList) with
  | false=>rfl
  | true =>
    rw [eq_str,decide_eq_true_eq] at h1
    have h2:s.data.size = 0:=by rw [← Array.length_toList,h1]; rfl
    exact absurd h2 h
theorem c_s_Get_emp (id:Int) (V:Cv) (w:World) (h:cvI id = some V):Calls Tryz.prog 41 ([.int .i64 id,.string ⟨#[]⟩]:List Value).toArray w (fun e w'=>e = .returned (.tuple #[ptV 0 0 false,.int .i64 ((2102:Nat):Int)])∧Below w.heap.size w w'):=by
  obtain ⟨hok,hid⟩:=cvI_ok h
  have hbb:=hok.bounds
  have hpW:V.p<W9:=KAJ hbb.2.1
  have hnW:V.n<W9:=KAJ hbb.2.2.2.2.2.2.1
  have hbl:=blen_w9 hnW
  have hnb:nby V.n≤72:=by (unfold nby; omega)
  have hnp:nby V.p≤72:=by have:=blen_w9 (KAJ hbb.2.1); (unfold nby; omega)
  refine Ka (N:=102) (rs:=[.cell 4 83,.tmp 5]) [] Tryz.func41 rfl Tryz.ntmps41 Tryz.results41 (Nb rfl) trivial rfl ?_
  show LCode _ _ _ ⟨_,_⟩ _
  refine KB (KA ?_)
  refine oS (mk (KP zr_83) (fun b4=>?_))
  refine oP (KR (v:=.int .i64 ((0:Nat):Int)) rfl) ?_
  refine KC ?_
  refine KB (KA ?_)
  refine oM ?_
  refine oS (KAL (Post:=fun v its=>∃ b f bd,v = .pointer (some ⟨b,0,none⟩)∧its = [.blk b ⟨false,opL V f,92,(0,0)⟩,.blk f ⟨false,fldL V.p bd,116,(0,0)⟩,.blk bd ⟨false,dvL V.p,167,(0,0)⟩]) (first:=[]) rfl en_39 rfl (Nb rfl) (fun w1 hw hs=>(c_Open _ V w1 h).mono fun e w' ⟨b,f,bd,h1,h2,h3,h4,h5,h6,h7,h8⟩=>⟨_,_,⟨b,f,bd,rfl,rfl⟩,h1,KAO h8 (by intro x hx; simp at hx; rcases hx with rfl|rfl|rfl; exact h2; exact h3; exact h4) (by intro x hx; simp at hx; rcases hx with rfl|rfl|rfl <;> rfl) (by intro x hx k hk; simp at hx; rcases hx with rfl|rfl|rfl <;> simp [Item.fp] at hk <;> subst hk; exact .inl h5; exact .inl h6; exact .inl h7)⟩) ?_)
  rintro _ _ ⟨b,f,bd,rfl,rfl⟩
  refine oA ?_
  refine KC ?_
  refine KB ?_
  refine KB (KA ?_)
  refine oM ?_
  refine oP (KG (Det.eqp Tryz.underlying79 rfl rfl) (show _ = Value.bool false from rfl)) ?_
  refine KC ?_
  refine KK rfl ?_
  refine KM ?_
  refine KB ?_
  refine KB (KA ?_)
  refine oM ?_
  refine oP (KG (Det.eqs rfl rfl) (congrArg Value.bool (emp_t))) ?_
  refine KC ?_
  refine KU rfl ?_
  refine KB (KA ?_)
  refine oP (KG (Kp pl_83 zr_83 rfl rfl) pt_zero) ?_
  refine KO rfl (sA rfl rfl sz_83 (by exact KAB _ _ _) (hl:=by exact KX _ _ _) (h:=?_))
  refine oP (KR (v:=.int .i64 ((2102:Nat):Int)) rfl) ?_
  refine KC (KI ?_)
  refine ⟨[_,_],.cons ⟨_,_,_,rfl,mM,by exact KE Tryz.underlying83 rfl sz_83⟩ (.cons rfl .nil),fun a' w' hr=>⟨?_,hr.fr.below⟩⟩
  skip
  rfl
theorem c_s_Get_s0 (id:Int) (V:Cv) (s:ByteArray) (X X' Y':Nat) (ok:Bool) (w:World) (h:cvI id = some V) (hsz:s.size = 1+nby V.p) (hb:b0 s = 2) (hX:beVal (s.extract 1 s.size).data.toList = X) (hXw:X<W9) (hl:liftT V X 0 = (X',Y',ok)):Calls Tryz.prog 41 ([.int .i64 id,.string s]:List Value).toArray w (fun e w'=>e = .returned (getV V s)∧Below w.heap.size w w'):=by
  obtain ⟨hok,hid⟩:=cvI_ok h
  have hbb:=hok.bounds
  have hpW:V.p<W9:=KAJ hbb.2.1
  have hnW:V.n<W9:=KAJ hbb.2.2.2.2.2.2.1
  have hbl:=blen_w9 hnW
  have hnb:nby V.n≤72:=by (unfold nby; omega)
  have hnp:nby V.p≤72:=by have:=blen_w9 (KAJ hbb.2.1); (unfold nby; omega)
  have hs0:s.size≠0:=by omega
  refine Ka (N:=102) (rs:=[.cell 4 83,.tmp 5]) [] Tryz.func41 rfl Tryz.ntmps41 Tryz.results41 (Nb rfl) trivial rfl ?_
  show LCode _ _ _ ⟨_,_⟩ _
  refine KB (KA ?_)
  refine oS (mk (KP zr_83) (fun b4=>?_))
  refine oP (KR (v:=.int .i64 ((0:Nat):Int)) rfl) ?_
  refine KC ?_
  refine KB (KA ?_)
  refine oM ?_
  refine oS (KAL (Post:=fun v its=>∃ b f bd,v = .pointer (some ⟨b,0,none⟩)∧its = [.blk b ⟨false,opL V f,92,(0,0)⟩,.blk f ⟨false,fldL V.p bd,116,(0,0)⟩,.blk bd ⟨false,dvL V.p,167,(0,0)⟩]) (first:=[]) rfl en_39 rfl (Nb rfl) (fun w1 hw hs=>(c_Open _ V w1 h).mono fun e w' ⟨b,f,bd,h1,h2,h3,h4,h5,h6,h7,h8⟩=>⟨_,_,⟨b,f,bd,rfl,rfl⟩,h1,KAO h8 (by intro x hx; simp at hx; rcases hx with rfl|rfl|rfl; exact h2; exact h3; exact h4) (by intro x hx; simp at hx; rcases hx with rfl|rfl|rfl <;> rfl) (by intro x hx k hk; simp at hx; rcases hx with rfl|rfl|rfl <;> simp [Item.fp] at hk <;> subst hk; exact .inl h5; exact .inl h6; exact .inl h7)⟩) ?_)
  rintro _ _ ⟨b,f,bd,rfl,rfl⟩
  refine oA ?_
  refine KC ?_
  refine KB ?_
  refine KB (KA ?_)
  refine oM ?_
  refine oP (KG (Det.eqp Tryz.underlying79 rfl rfl) (show _ = Value.bool false from rfl)) ?_
  refine KC ?_
  refine KK rfl ?_
  refine KM ?_
  refine KB ?_
  refine KB (KA ?_)
  refine oM ?_
  refine oP (KG (Det.eqs rfl rfl) (congrArg Value.bool (emp_f hs0))) ?_
  refine KC ?_
  refine KK rfl ?_
  refine KM ?_
  refine KB ?_
  refine rD [] ?_
  refine aM 0 ?_
  refine aP 1 rfl (KG (Ky Tryz.underlying9 rfl rfl om om) (show _ = .int .u8 ((2:Nat):Int) from congrArg (fun n:Nat=>Value.int .u8 ((n:Nat):Int)) hb)) ?_
  refine aP 2 rfl (KAZ Tryz.underlying5 Tryz.underlying3 rfl om) ?_
  refine aM 3 ?_
  refine aP 4 rfl (KG (Det.slStrL Tryz.underlying9 rfl rfl om om) (show _ = Value.string (s.extract 1 s.size) from rfl)) ?_
  refine aA 5 ?_
  refine aA 6 ?_
  refine aE ?_
  refine KB (KA ?_)
  refine oS (mk (KP zr_83) (fun b9=>?_))
  refine KC ?_
  refine KB (KA ?_)
  refine oA ?_
  refine KC ?_
  refine KB ?_
  refine LCode.block ?_
  refine KB ?_
  have hrs:(s.extract 1 s.size).size = nby V.p:=by rw [ext_size _ _ _ (Nat.le_refl _)]; omega
  refine KA ?_
  refine oM ?_
  refine oP (KD (v:=.bool true) rfl rfl (br_t (KAP (b:=2)) (rfl))) ?_
  refine oM ?_
  refine oK ?_
  refine oK ?_
  refine oP (Kj rfl rfl) ?_
  refine oM ?_
  refine oGM ?_
  refine oGP (Det.lens Tryz.underlying9 rfl) ?_
  refine oGM ?_
  refine oGP (KL rfl) ?_
  refine oGP (KF (o':=0) Tryz.underlying92 rfl rfl rfl sz_89 dc) ?_
  refine oGP (KF (o':=57) Tryz.underlying89 rfl rfl rfl sz_3 dc) ?_
  refine KAM rfl rfl (dL rfl (hv:=KJ Tryz.underlying3 rfl (by exact cvC_gt_size _ _ _ _ _ _ _ _ _ _ _ _ _))) (Nb rfl) ?_
  refine oGP (KD (v:=.bool true) rfl rfl (br_t KAP (hrs))) ?_
  refine oP (Kj rfl rfl) ?_
  refine oA ?_
  refine KC ?_
  refine KU rfl ?_
  refine KB ?_
  cases ok
  ·
    refine KA ?_
    refine oM ?_
    refine oS (cF rfl en_65 rfl (fun w hw=>c_nat_OfX X (s.extract 1 s.size) w om hX) ?_)
    refine oM ?_
    refine oP (Det.extract rfl rfl) ?_
    refine oP (Det.extract rfl rfl) ?_
    refine oS (mk (KP zr_25) (fun b11=>?_))
    refine KO rfl (sA rfl rfl sz_25 (by exact KAE _) (hl:=by exact KH _) (h:=?_))
    refine oA ?_
    refine KC ?_
    refine KA ?_
    refine oM ?_
    refine oD (dL rfl (hv:=by exact KE Tryz.underlying25 rfl sz_25)) ?_
    refine oM ?_
    refine oP (KD (v:=.int .i64 ((0:Nat):Int)) rfl rfl (by rfl)) ?_
    refine oS (cF rfl en_66 rfl (fun w hw=>c_liftX (X',Y',false) V b f bd hok X 0 w (mC hw) (mC hw) (mC hw) hXw dc hl) ?_)
    refine oM ?_
    refine oP (Det.extract rfl rfl) ?_
    refine oP (Det.extract rfl rfl) ?_
    refine KO rfl (sA rfl rfl sz_83 (by exact KAB _ _ _) (hl:=by exact KX _ _ _) (h:=?_))
    refine oA ?_
    refine KC ?_
    refine KB ?_
    refine KB (KA ?_)
    refine oM ?_
    refine oP (KG (Det.not rfl) (show _ = Value.bool true from rfl)) ?_
    refine KC ?_
    refine KU rfl ?_
    refine KB (KA ?_)
    refine oP (KG (Kp pl_83 zr_83 rfl rfl) pt_zero) ?_
    refine KO rfl (sA rfl rfl sz_83 (by exact KAB _ _ _) (hl:=by exact KX _ _ _) (h:=?_))
    refine oP (KR (v:=.int .i64 ((2101:Nat):Int)) rfl) ?_
    refine KC (KI ?_)
    refine ⟨[_,_],.cons ⟨_,_,_,rfl,mM,by exact KE Tryz.underlying83 rfl sz_83⟩ (.cons rfl .nil),fun a' w' hr=>⟨?_,hr.fr.below⟩⟩
    have hg:getX V s = X:=by unfold getX; rw [← hsz]; exact hX
    rw [← hg] at hl
    rw [getV_eq (get_shortF hsz hb dc hl)]
    rfl
  ·
    refine KA ?_
    refine oM ?_
    refine oS (cF rfl en_65 rfl (fun w hw=>c_nat_OfX X (s.extract 1 s.size) w om hX) ?_)
    refine oM ?_
    refine oP (Det.extract rfl rfl) ?_
    refine oP (Det.extract rfl rfl) ?_
    refine oS (mk (KP zr_25) (fun b11=>?_))
    refine KO rfl (sA rfl rfl sz_25 (by exact KAE _) (hl:=by exact KH _) (h:=?_))
    refine oA ?_
    refine KC ?_
    refine KA ?_
    refine oM ?_
    refine oD (dL rfl (hv:=by exact KE Tryz.underlying25 rfl sz_25)) ?_
    refine oM ?_
    refine oP (KD (v:=.int .i64 ((0:Nat):Int)) rfl rfl (by rfl)) ?_
    refine oS (cF rfl en_66 rfl (fun w hw=>c_liftX (X',Y',true) V b f bd hok X 0 w (mC hw) (mC hw) (mC hw) hXw dc hl) ?_)
    refine oM ?_
    refine oP (Det.extract rfl rfl) ?_
    refine oP (Det.extract rfl rfl) ?_
    refine KO rfl (sA rfl rfl sz_83 (by exact KAB _ _ _) (hl:=by exact KX _ _ _) (h:=?_))
    refine oA ?_
    refine KC ?_
    refine KB ?_
    refine KB (KA ?_)
    refine oM ?_
    refine oP (KG (Det.not rfl) (show _ = Value.bool false from rfl)) ?_
    refine KC ?_
    refine KK rfl ?_
    refine KM ?_
    refine KB (KA ?_)
    refine oD (dL rfl (hv:=by exact KE Tryz.underlying83 rfl sz_83)) ?_
    refine KO rfl (sA rfl rfl sz_83 (by exact KAB _ _ _) (hl:=by exact KX _ _ _) (h:=?_))
    refine oP (KR (v:=.int .i64 ((0:Nat):Int)) rfl) ?_
    refine KC (KI ?_)
    refine ⟨[_,_],.cons ⟨_,_,_,rfl,mM,by exact KE Tryz.underlying83 rfl sz_83⟩ (.cons rfl .nil),fun a' w' hr=>⟨?_,hr.fr.below⟩⟩
    have hg:getX V s = X:=by unfold getX; rw [← hsz]; exact hX
    rw [← hg] at hl
    rw [getV_eq (get_short hsz hb dc hl)]
    rfl
theorem c_s_Get_s1 (id:Int) (V:Cv) (s:ByteArray) (X X' Y':Nat) (ok:Bool) (w:World) (h:cvI id = some V) (hsz:s.size = 1+nby V.p) (hb:b0 s = 3) (hX:beVal (s.extract 1 s.size).data.toList = X) (hXw:X<W9) (hl:liftT V X 1 = (X',Y',ok)):Calls Tryz.prog 41 ([.int .i64 id,.string s]:List Value).toArray w (fun e w'=>e = .returned (getV V s)∧Below w.heap.size w w'):=by
  obtain ⟨hok,hid⟩:=cvI_ok h
  have hbb:=hok.bounds
  have hpW:V.p<W9:=KAJ hbb.2.1
  have hnW:V.n<W9:=KAJ hbb.2.2.2.2.2.2.1
  have hbl:=blen_w9 hnW
  have hnb:nby V.n≤72:=by (unfold nby; omega)
  have hnp:nby V.p≤72:=by have:=blen_w9 (KAJ hbb.2.1); (unfold nby; omega)
  have hs0:s.size≠0:=by omega
  refine Ka (N:=102) (rs:=[.cell 4 83,.tmp 5]) [] Tryz.func41 rfl Tryz.ntmps41 Tryz.results41 (Nb rfl) trivial rfl ?_
  show LCode _ _ _ ⟨_,_⟩ _
  refine KB (KA ?_)
  refine oS (mk (KP zr_83) (fun b4=>?_))
  refine oP (KR (v:=.int .i64 ((0:Nat):Int)) rfl) ?_
  refine KC ?_
  refine KB (KA ?_)
  refine oM ?_
  refine oS (KAL (Post:=fun v its=>∃ b f bd,v = .pointer (some ⟨b,0,none⟩)∧its = [.blk b ⟨false,opL V f,92,(0,0)⟩,.blk f ⟨false,fldL V.p bd,116,(0,0)⟩,.blk bd ⟨false,dvL V.p,167,(0,0)⟩]) (first:=[]) rfl en_39 rfl (Nb rfl) (fun w1 hw hs=>(c_Open _ V w1 h).mono fun e w' ⟨b,f,bd,h1,h2,h3,h4,h5,h6,h7,h8⟩=>⟨_,_,⟨b,f,bd,rfl,rfl⟩,h1,KAO h8 (by intro x hx; simp at hx; rcases hx with rfl|rfl|rfl; exact h2; exact h3; exact h4) (by intro x hx; simp at hx; rcases hx with rfl|rfl|rfl <;> rfl) (by intro x hx k hk; simp at hx; rcases hx with rfl|rfl|rfl <;> simp [Item.fp] at hk <;> subst hk; exact .inl h5; exact .inl h6; exact .inl h7)⟩) ?_)
  rintro _ _ ⟨b,f,bd,rfl,rfl⟩
  refine oA ?_
  refine KC ?_
  refine KB ?_
  refine KB (KA ?_)
  refine oM ?_
  refine oP (KG (Det.eqp Tryz.underlying79 rfl rfl) (show _ = Value.bool false from rfl)) ?_
  refine KC ?_
  refine KK rfl ?_
  refine KM ?_
  refine KB ?_
  refine KB (KA ?_)
  refine oM ?_
  refine oP (KG (Det.eqs rfl rfl) (congrArg Value.bool (emp_f hs0))) ?_
  refine KC ?_
  refine KK rfl ?_
  refine KM ?_
  refine KB ?_
  refine rD [] ?_
  refine aM 0 ?_
  refine aP 1 rfl (KG (Ky Tryz.underlying9 rfl rfl om om) (show _ = .int .u8 ((3:Nat):Int) from congrArg (fun n:Nat=>Value.int .u8 ((n:Nat):Int)) hb)) ?_
  refine aP 2 rfl (KAZ Tryz.underlying5 Tryz.underlying3 rfl om) ?_
  refine aM 3 ?_
  refine aP 4 rfl (KG (Det.slStrL Tryz.underlying9 rfl rfl om om) (show _ = Value.string (s.extract 1 s.size) from rfl)) ?_
  refine aA 5 ?_
  refine aA 6 ?_
  refine aE ?_
  refine KB (KA ?_)
  refine oS (mk (KP zr_83) (fun b9=>?_))
  refine KC ?_
  refine KB (KA ?_)
  refine oA ?_
  refine KC ?_
  refine KB ?_
  refine LCode.block ?_
  refine KB ?_
  have hrs:(s.extract 1 s.size).size = nby V.p:=by rw [ext_size _ _ _ (Nat.le_refl _)]; omega
  refine KA ?_
  refine oM ?_
  refine oP (KD (v:=.bool false) rfl rfl (br_f (KAP (b:=2)) dc)) ?_
  refine oM ?_
  refine oGM ?_
  refine oGP (KD (v:=.bool true) rfl rfl (br_t (KAP (b:=3)) (rfl))) ?_
  refine oP (KY rfl rfl) ?_
  refine oM ?_
  refine oGM ?_
  refine oGP (Det.lens Tryz.underlying9 rfl) ?_
  refine oGM ?_
  refine oGP (KL rfl) ?_
  refine oGP (KF (o':=0) Tryz.underlying92 rfl rfl rfl sz_89 dc) ?_
  refine oGP (KF (o':=57) Tryz.underlying89 rfl rfl rfl sz_3 dc) ?_
  refine KAM rfl rfl (dL rfl (hv:=KJ Tryz.underlying3 rfl (by exact cvC_gt_size _ _ _ _ _ _ _ _ _ _ _ _ _))) (Nb rfl) ?_
  refine oGP (KD (v:=.bool true) rfl rfl (br_t KAP (hrs))) ?_
  refine oP (Kj rfl rfl) ?_
  refine oA ?_
  refine KC ?_
  refine KU rfl ?_
  refine KB ?_
  cases ok
  ·
    refine KA ?_
    refine oM ?_
    refine oS (cF rfl en_65 rfl (fun w hw=>c_nat_OfX X (s.extract 1 s.size) w om hX) ?_)
    refine oM ?_
    refine oP (Det.extract rfl rfl) ?_
    refine oP (Det.extract rfl rfl) ?_
    refine oS (mk (KP zr_25) (fun b11=>?_))
    refine KO rfl (sA rfl rfl sz_25 (by exact KAE _) (hl:=by exact KH _) (h:=?_))
    refine oA ?_
    refine KC ?_
    refine KA ?_
    refine oM ?_
    refine oD (dL rfl (hv:=by exact KE Tryz.underlying25 rfl sz_25)) ?_
    refine oM ?_
    refine oP (KD (v:=.int .i64 ((1:Nat):Int)) rfl rfl (by rfl)) ?_
    refine oS (cF rfl en_66 rfl (fun w hw=>c_liftX (X',Y',false) V b f bd hok X 1 w (mC hw) (mC hw) (mC hw) hXw dc hl) ?_)
    refine oM ?_
    refine oP (Det.extract rfl rfl) ?_
    refine oP (Det.extract rfl rfl) ?_
    refine KO rfl (sA rfl rfl sz_83 (by exact KAB _ _ _) (hl:=by exact KX _ _ _) (h:=?_))
    refine oA ?_
    refine KC ?_
    refine KB ?_
    refine KB (KA ?_)
    refine oM ?_
    refine oP (KG (Det.not rfl) (show _ = Value.bool true from rfl)) ?_
    refine KC ?_
    refine KU rfl ?_
    refine KB (KA ?_)
    refine oP (KG (Kp pl_83 zr_83 rfl rfl) pt_zero) ?_
    refine KO rfl (sA rfl rfl sz_83 (by exact KAB _ _ _) (hl:=by exact KX _ _ _) (h:=?_))
    refine oP (KR (v:=.int .i64 ((2101:Nat):Int)) rfl) ?_
    refine KC (KI ?_)
    refine ⟨[_,_],.cons ⟨_,_,_,rfl,mM,by exact KE Tryz.underlying83 rfl sz_83⟩ (.cons rfl .nil),fun a' w' hr=>⟨?_,hr.fr.below⟩⟩
    have hg:getX V s = X:=by unfold getX; rw [← hsz]; exact hX
    rw [← hg] at hl
    rw [getV_eq (get_shortF hsz hb dc hl)]
    rfl
  ·
    refine KA ?_
    refine oM ?_
    refine oS (cF rfl en_65 rfl (fun w hw=>c_nat_OfX X (s.extract 1 s.size) w om hX) ?_)
    refine oM ?_
    refine oP (Det.extract rfl rfl) ?_
    refine oP (Det.extract rfl rfl) ?_
    refine oS (mk (KP zr_25) (fun b11=>?_))
    refine KO rfl (sA rfl rfl sz_25 (by exact KAE _) (hl:=by exact KH _) (h:=?_))
    refine oA ?_
    refine KC ?_
    refine KA ?_
    refine oM ?_
    refine oD (dL rfl (hv:=by exact KE Tryz.underlying25 rfl sz_25)) ?_
    refine oM ?_
    refine oP (KD (v:=.int .i64 ((1:Nat):Int)) rfl rfl (by rfl)) ?_
    refine oS (cF rfl en_66 rfl (fun w hw=>c_liftX (X',Y',true) V b f bd hok X 1 w (mC hw) (mC hw) (mC hw) hXw dc hl) ?_)
    refine oM ?_
    refine oP (Det.extract rfl rfl) ?_
    refine oP (Det.extract rfl rfl) ?_
    refine KO rfl (sA rfl rfl sz_83 (by exact KAB _ _ _) (hl:=by exact KX _ _ _) (h:=?_))
    refine oA ?_
    refine KC ?_
    refine KB ?_
    refine KB (KA ?_)
    refine oM ?_
    refine oP (KG (Det.not rfl) (show _ = Value.bool false from rfl)) ?_
    refine KC ?_
    refine KK rfl ?_
    refine KM ?_
    refine KB (KA ?_)
    refine oD (dL rfl (hv:=by exact KE Tryz.underlying83 rfl sz_83)) ?_
    refine KO rfl (sA rfl rfl sz_83 (by exact KAB _ _ _) (hl:=by exact KX _ _ _) (h:=?_))
    refine oP (KR (v:=.int .i64 ((0:Nat):Int)) rfl) ?_
    refine KC (KI ?_)
    refine ⟨[_,_],.cons ⟨_,_,_,rfl,mM,by exact KE Tryz.underlying83 rfl sz_83⟩ (.cons rfl .nil),fun a' w' hr=>⟨?_,hr.fr.below⟩⟩
    have hg:getX V s = X:=by unfold getX; rw [← hsz]; exact hX
    rw [← hg] at hl
    rw [getV_eq (get_short hsz hb dc hl)]
    rfl
theorem c_s_Get_f2 (id:Int) (V:Cv) (s:ByteArray) (w:World) (h:cvI id = some V) (hs0:s.size≠0) (hs:s.size<9223372036854775808) (hb:b0 s = 2) (hsz:s.size≠1+nby V.p):Calls Tryz.prog 41 ([.int .i64 id,.string s]:List Value).toArray w (fun e w'=>e = .returned (.tuple #[ptV 0 0 false,.int .i64 ((2102:Nat):Int)])∧Below w.heap.size w w'):=by
  obtain ⟨hok,hid⟩:=cvI_ok h
  have hbb:=hok.bounds
  have hpW:V.p<W9:=KAJ hbb.2.1
  have hnW:V.n<W9:=KAJ hbb.2.2.2.2.2.2.1
  have hbl:=blen_w9 hnW
  have hnb:nby V.n≤72:=by (unfold nby; omega)
  have hnp:nby V.p≤72:=by have:=blen_w9 (KAJ hbb.2.1); (unfold nby; omega)
  have hb256:=b0_lt s
  refine Ka (N:=102) (rs:=[.cell 4 83,.tmp 5]) [] Tryz.func41 rfl Tryz.ntmps41 Tryz.results41 (Nb rfl) trivial rfl ?_
  show LCode _ _ _ ⟨_,_⟩ _
  refine KB (KA ?_)
  refine oS (mk (KP zr_83) (fun b4=>?_))
  refine oP (KR (v:=.int .i64 ((0:Nat):Int)) rfl) ?_
  refine KC ?_
  refine KB (KA ?_)
  refine oM ?_
  refine oS (KAL (Post:=fun v its=>∃ b f bd,v = .pointer (some ⟨b,0,none⟩)∧its = [.blk b ⟨false,opL V f,92,(0,0)⟩,.blk f ⟨false,fldL V.p bd,116,(0,0)⟩,.blk bd ⟨false,dvL V.p,167,(0,0)⟩]) (first:=[]) rfl en_39 rfl (Nb rfl) (fun w1 hw hs=>(c_Open _ V w1 h).mono fun e w' ⟨b,f,bd,h1,h2,h3,h4,h5,h6,h7,h8⟩=>⟨_,_,⟨b,f,bd,rfl,rfl⟩,h1,KAO h8 (by intro x hx; simp at hx; rcases hx with rfl|rfl|rfl; exact h2; exact h3; exact h4) (by intro x hx; simp at hx; rcases hx with rfl|rfl|rfl <;> rfl) (by intro x hx k hk; simp at hx; rcases hx with rfl|rfl|rfl <;> simp [Item.fp] at hk <;> subst hk; exact .inl h5; exact .inl h6; exact .inl h7)⟩) ?_)
  rintro _ _ ⟨b,f,bd,rfl,rfl⟩
  refine oA ?_
  refine KC ?_
  refine KB ?_
  refine KB (KA ?_)
  refine oM ?_
  refine oP (KG (Det.eqp Tryz.underlying79 rfl rfl) (show _ = Value.bool false from rfl)) ?_
  refine KC ?_
  refine KK rfl ?_
  refine KM ?_
  refine KB ?_
  refine KB (KA ?_)
  refine oM ?_
  refine oP (KG (Det.eqs rfl rfl) (congrArg Value.bool (emp_f hs0))) ?_
  refine KC ?_
  refine KK rfl ?_
  refine KM ?_
  refine KB ?_
  refine rD [] ?_
  refine aM 0 ?_
  refine aP 1 rfl (KG (Ky Tryz.underlying9 rfl rfl om om) (show _ = .int .u8 ((2:Nat):Int) from congrArg (fun n:Nat=>Value.int .u8 ((n:Nat):Int)) hb)) ?_
  refine aP 2 rfl (KAZ Tryz.underlying5 Tryz.underlying3 rfl om) ?_
  refine aM 3 ?_
  refine aP 4 rfl (KG (Det.slStrL Tryz.underlying9 rfl rfl om om) (show _ = Value.string (s.extract 1 s.size) from rfl)) ?_
  refine aA 5 ?_
  refine aA 6 ?_
  refine aE ?_
  refine KB (KA ?_)
  refine oS (mk (KP zr_83) (fun b9=>?_))
  refine KC ?_
  refine KB (KA ?_)
  refine oA ?_
  refine KC ?_
  refine KB ?_
  refine LCode.block ?_
  refine KB ?_
  have hrs:(s.extract 1 s.size).size = s.size-1:=by rw [ext_size _ _ _ (Nat.le_refl _)]
  refine KA ?_
  refine oM ?_
  refine oP (KD (v:=.bool true) rfl rfl (br_t (KAP (b:=2)) (rfl))) ?_
  refine oM ?_
  refine oK ?_
  refine oK ?_
  refine oP (Kj rfl rfl) ?_
  refine oM ?_
  refine oGM ?_
  refine oGP (Det.lens Tryz.underlying9 rfl) ?_
  refine oGM ?_
  refine oGP (KL rfl) ?_
  refine oGP (KF (o':=0) Tryz.underlying92 rfl rfl rfl sz_89 dc) ?_
  refine oGP (KF (o':=57) Tryz.underlying89 rfl rfl rfl sz_3 dc) ?_
  refine KAM rfl rfl (dL rfl (hv:=KJ Tryz.underlying3 rfl (by exact cvC_gt_size _ _ _ _ _ _ _ _ _ _ _ _ _))) (Nb rfl) ?_
  refine oGP (KD (v:=.bool false) rfl rfl (br_f KAP (om))) ?_
  refine oP (Kj rfl rfl) ?_
  refine oA ?_
  refine KC ?_
  refine KK rfl ?_
  refine KB (KA ?_)
  refine oM ?_
  refine oP (KD (v:=.bool false) rfl rfl (br_f (KAP (b:=4)) dc)) ?_
  refine oM ?_
  refine oK ?_
  refine oK ?_
  refine oK ?_
  refine oK ?_
  refine oK ?_
  refine oK ?_
  refine oK ?_
  refine oK ?_
  refine oK ?_
  refine oP (KY rfl rfl) ?_
  refine oA ?_
  refine KC ?_
  refine KK rfl ?_
  refine KB (KA ?_)
  refine oP (KG (Kp pl_83 zr_83 rfl rfl) pt_zero) ?_
  refine KO rfl (sA rfl rfl sz_83 (by exact KAB _ _ _) (hl:=by exact KX _ _ _) (h:=?_))
  refine oP (KR (v:=.int .i64 ((2102:Nat):Int)) rfl) ?_
  refine KC (KI ?_)
  refine ⟨[_,_],.cons ⟨_,_,_,rfl,mM,by exact KE Tryz.underlying83 rfl sz_83⟩ (.cons rfl .nil),fun a' w' hr=>⟨?_,hr.fr.below⟩⟩
  skip
  rfl
theorem c_s_Get_f3 (id:Int) (V:Cv) (s:ByteArray) (w:World) (h:cvI id = some V) (hs0:s.size≠0) (hs:s.size<9223372036854775808) (hb:b0 s = 3) (hsz:s.size≠1+nby V.p):Calls Tryz.prog 41 ([.int .i64 id,.string s]:List Value).toArray w (fun e w'=>e = .returned (.tuple #[ptV 0 0 false,.int .i64 ((2102:Nat):Int)])∧Below w.heap.size w w'):=by
  obtain ⟨hok,hid⟩:=cvI_ok h
  have hbb:=hok.bounds
  have hpW:V.p<W9:=KAJ hbb.2.1
  have hnW:V.n<W9:=KAJ hbb.2.2.2.2.2.2.1
  have hbl:=blen_w9 hnW
  have hnb:nby V.n≤72:=by (unfold nby; omega)
  have hnp:nby V.p≤72:=by have:=blen_w9 (KAJ hbb.2.1); (unfold nby; omega)
  have hb256:=b0_lt s
  refine Ka (N:=102) (rs:=[.cell 4 83,.tmp 5]) [] Tryz.func41 rfl Tryz.ntmps41 Tryz.results41 (Nb rfl) trivial rfl ?_
  show LCode _ _ _ ⟨_,_⟩ _
  refine KB (KA ?_)
  refine oS (mk (KP zr_83) (fun b4=>?_))
  refine oP (KR (v:=.int .i64 ((0:Nat):Int)) rfl) ?_
  refine KC ?_
  refine KB (KA ?_)
  refine oM ?_
  refine oS (KAL (Post:=fun v its=>∃ b f bd,v = .pointer (some ⟨b,0,none⟩)∧its = [.blk b ⟨false,opL V f,92,(0,0)⟩,.blk f ⟨false,fldL V.p bd,116,(0,0)⟩,.blk bd ⟨false,dvL V.p,167,(0,0)⟩]) (first:=[]) rfl en_39 rfl (Nb rfl) (fun w1 hw hs=>(c_Open _ V w1 h).mono fun e w' ⟨b,f,bd,h1,h2,h3,h4,h5,h6,h7,h8⟩=>⟨_,_,⟨b,f,bd,rfl,rfl⟩,h1,KAO h8 (by intro x hx; simp at hx; rcases hx with rfl|rfl|rfl; exact h2; exact h3; exact h4) (by intro x hx; simp at hx; rcases hx with rfl|rfl|rfl <;> rfl) (by intro x hx k hk; simp at hx; rcases hx with rfl|rfl|rfl <;> simp [Item.fp] at hk <;> subst hk; exact .inl h5; exact .inl h6; exact .inl h7)⟩) ?_)
  rintro _ _ ⟨b,f,bd,rfl,rfl⟩
  refine oA ?_
  refine KC ?_
  refine KB ?_
  refine KB (KA ?_)
  refine oM ?_
  refine oP (KG (Det.eqp Tryz.underlying79 rfl rfl) (show _ = Value.bool false from rfl)) ?_
  refine KC ?_
  refine KK rfl ?_
  refine KM ?_
  refine KB ?_
  refine KB (KA ?_)
  refine oM ?_
  refine oP (KG (Det.eqs rfl rfl) (congrArg Value.bool (emp_f hs0))) ?_
  refine KC ?_
  refine KK rfl ?_
  refine KM ?_
  refine KB ?_
  refine rD [] ?_
  refine aM 0 ?_
  refine aP 1 rfl (KG (Ky Tryz.underlying9 rfl rfl om om) (show _ = .int .u8 ((3:Nat):Int) from congrArg (fun n:Nat=>Value.int .u8 ((n:Nat):Int)) hb)) ?_
  refine aP 2 rfl (KAZ Tryz.underlying5 Tryz.underlying3 rfl om) ?_
  refine aM 3 ?_
  refine aP 4 rfl (KG (Det.slStrL Tryz.underlying9 rfl rfl om om) (show _ = Value.string (s.extract 1 s.size) from rfl)) ?_
  refine aA 5 ?_
  refine aA 6 ?_
  refine aE ?_
  refine KB (KA ?_)
  refine oS (mk (KP zr_83) (fun b9=>?_))
  refine KC ?_
  refine KB (KA ?_)
  refine oA ?_
  refine KC ?_
  refine KB ?_
  refine LCode.block ?_
  refine KB ?_
  have hrs:(s.extract 1 s.size).size = s.size-1:=by rw [ext_size _ _ _ (Nat.le_refl _)]
  refine KA ?_
  refine oM ?_
  refine oP (KD (v:=.bool false) rfl rfl (br_f (KAP (b:=2)) dc)) ?_
  refine oM ?_
  refine oGM ?_
  refine oGP (KD (v:=.bool true) rfl rfl (br_t (KAP (b:=3)) (rfl))) ?_
  refine oP (KY rfl rfl) ?_
  refine oM ?_
  refine oGM ?_
  refine oGP (Det.lens Tryz.underlying9 rfl) ?_
  refine oGM ?_
  refine oGP (KL rfl) ?_
  refine oGP (KF (o':=0) Tryz.underlying92 rfl rfl rfl sz_89 dc) ?_
  refine oGP (KF (o':=57) Tryz.underlying89 rfl rfl rfl sz_3 dc) ?_
  refine KAM rfl rfl (dL rfl (hv:=KJ Tryz.underlying3 rfl (by exact cvC_gt_size _ _ _ _ _ _ _ _ _ _ _ _ _))) (Nb rfl) ?_
  refine oGP (KD (v:=.bool false) rfl rfl (br_f KAP (om))) ?_
  refine oP (Kj rfl rfl) ?_
  refine oA ?_
  refine KC ?_
  refine KK rfl ?_
  refine KB (KA ?_)
  refine oM ?_
  refine oP (KD (v:=.bool false) rfl rfl (br_f (KAP (b:=4)) dc)) ?_
  refine oM ?_
  refine oK ?_
  refine oK ?_
  refine oK ?_
  refine oK ?_
  refine oK ?_
  refine oK ?_
  refine oK ?_
  refine oK ?_
  refine oK ?_
  refine oP (KY rfl rfl) ?_
  refine oA ?_
  refine KC ?_
  refine KK rfl ?_
  refine KB (KA ?_)
  refine oP (KG (Kp pl_83 zr_83 rfl rfl) pt_zero) ?_
  refine KO rfl (sA rfl rfl sz_83 (by exact KAB _ _ _) (hl:=by exact KX _ _ _) (h:=?_))
  refine oP (KR (v:=.int .i64 ((2102:Nat):Int)) rfl) ?_
  refine KC (KI ?_)
  refine ⟨[_,_],.cons ⟨_,_,_,rfl,mM,by exact KE Tryz.underlying83 rfl sz_83⟩ (.cons rfl .nil),fun a' w' hr=>⟨?_,hr.fr.below⟩⟩
  skip
  rfl
theorem c_s_Get_f4 (id:Int) (V:Cv) (s:ByteArray) (w:World) (h:cvI id = some V) (hs0:s.size≠0) (hs:s.size<9223372036854775808) (hb:b0 s = 4) (hsz:s.size≠1+2*nby V.p):Calls Tryz.prog 41 ([.int .i64 id,.string s]:List Value).toArray w (fun e w'=>e = .returned (.tuple #[ptV 0 0 false,.int .i64 ((2102:Nat):Int)])∧Below w.heap.size w w'):=by
  obtain ⟨hok,hid⟩:=cvI_ok h
  have hbb:=hok.bounds
  have hpW:V.p<W9:=KAJ hbb.2.1
  have hnW:V.n<W9:=KAJ hbb.2.2.2.2.2.2.1
  have hbl:=blen_w9 hnW
  have hnb:nby V.n≤72:=by (unfold nby; omega)
  have hnp:nby V.p≤72:=by have:=blen_w9 (KAJ hbb.2.1); (unfold nby; omega)
  have hb256:=b0_lt s
  refine Ka (N:=102) (rs:=[.cell 4 83,.tmp 5]) [] Tryz.func41 rfl Tryz.ntmps41 Tryz.results41 (Nb rfl) trivial rfl ?_
  show LCode _ _ _ ⟨_,_⟩ _
  refine KB (KA ?_)
  refine oS (mk (KP zr_83) (fun b4=>?_))
  refine oP (KR (v:=.int .i64 ((0:Nat):Int)) rfl) ?_
  refine KC ?_
  refine KB (KA ?_)
  refine oM ?_
  refine oS (KAL (Post:=fun v its=>∃ b f bd,v = .pointer (some ⟨b,0,none⟩)∧its = [.blk b ⟨false,opL V f,92,(0,0)⟩,.blk f ⟨false,fldL V.p bd,116,(0,0)⟩,.blk bd ⟨false,dvL V.p,167,(0,0)⟩]) (first:=[]) rfl en_39 rfl (Nb rfl) (fun w1 hw hs=>(c_Open _ V w1 h).mono fun e w' ⟨b,f,bd,h1,h2,h3,h4,h5,h6,h7,h8⟩=>⟨_,_,⟨b,f,bd,rfl,rfl⟩,h1,KAO h8 (by intro x hx; simp at hx; rcases hx with rfl|rfl|rfl; exact h2; exact h3; exact h4) (by intro x hx; simp at hx; rcases hx with rfl|rfl|rfl <;> rfl) (by intro x hx k hk; simp at hx; rcases hx with rfl|rfl|rfl <;> simp [Item.fp] at hk <;> subst hk; exact .inl h5; exact .inl h6; exact .inl h7)⟩) ?_)
  rintro _ _ ⟨b,f,bd,rfl,rfl⟩
  refine oA ?_
  refine KC ?_
  refine KB ?_
  refine KB (KA ?_)
  refine oM ?_
  refine oP (KG (Det.eqp Tryz.underlying79 rfl rfl) (show _ = Value.bool false from rfl)) ?_
  refine KC ?_
  refine KK rfl ?_
  refine KM ?_
  refine KB ?_
  refine KB (KA ?_)
  refine oM ?_
  refine oP (KG (Det.eqs rfl rfl) (congrArg Value.bool (emp_f hs0))) ?_
  refine KC ?_
  refine KK rfl ?_
  refine KM ?_
  refine KB ?_
  refine rD [] ?_
  refine aM 0 ?_
  refine aP 1 rfl (KG (Ky Tryz.underlying9 rfl rfl om om) (show _ = .int .u8 ((4:Nat):Int) from congrArg (fun n:Nat=>Value.int .u8 ((n:Nat):Int)) hb)) ?_
  refine aP 2 rfl (KAZ Tryz.underlying5 Tryz.underlying3 rfl om) ?_
  refine aM 3 ?_
  refine aP 4 rfl (KG (Det.slStrL Tryz.underlying9 rfl rfl om om) (show _ = Value.string (s.extract 1 s.size) from rfl)) ?_
  refine aA 5 ?_
  refine aA 6 ?_
  refine aE ?_
  refine KB (KA ?_)
  refine oS (mk (KP zr_83) (fun b9=>?_))
  refine KC ?_
  refine KB (KA ?_)
  refine oA ?_
  refine KC ?_
  refine KB ?_
  refine LCode.block ?_
  refine KB ?_
  have hrs:(s.extract 1 s.size).size = s.size-1:=by rw [ext_size _ _ _ (Nat.le_refl _)]
  refine KA ?_
  refine oM ?_
  refine oP (KD (v:=.bool false) rfl rfl (br_f (KAP (b:=2)) dc)) ?_
  refine oM ?_
  refine oGM ?_
  refine oGP (KD (v:=.bool false) rfl rfl (br_f (KAP (b:=3)) dc)) ?_
  refine oP (KY rfl rfl) ?_
  refine oM ?_
  refine oK ?_
  refine oK ?_
  refine oK ?_
  refine oK ?_
  refine oK ?_
  refine oK ?_
  refine oK ?_
  refine oK ?_
  refine oP (KY rfl rfl) ?_
  refine oA ?_
  refine KC ?_
  refine KK rfl ?_
  refine KB (KA ?_)
  refine oM ?_
  refine oP (KD (v:=.bool true) rfl rfl (br_t (KAP (b:=4)) (rfl))) ?_
  refine oM ?_
  refine oGM ?_
  refine oGP (Det.lens Tryz.underlying9 rfl) ?_
  refine oGM ?_
  refine oGP (KL rfl) ?_
  refine oGP (KF (o':=0) Tryz.underlying92 rfl rfl rfl sz_89 dc) ?_
  refine oGP (KF (o':=57) Tryz.underlying89 rfl rfl rfl sz_3 dc) ?_
  refine KAM rfl rfl (dL rfl (hv:=KJ Tryz.underlying3 rfl (by exact cvC_gt_size _ _ _ _ _ _ _ _ _ _ _ _ _))) (Nb rfl) ?_
  refine oGP (KD rfl rfl (br_mul (a:=2) om)) ?_
  refine oGP (KD (v:=.bool false) rfl rfl (br_f KAP (om))) ?_
  refine oP (Kj rfl rfl) ?_
  refine oA ?_
  refine KC ?_
  refine KK rfl ?_
  refine KB (KA ?_)
  refine oP (KG (Kp pl_83 zr_83 rfl rfl) pt_zero) ?_
  refine KO rfl (sA rfl rfl sz_83 (by exact KAB _ _ _) (hl:=by exact KX _ _ _) (h:=?_))
  refine oP (KR (v:=.int .i64 ((2102:Nat):Int)) rfl) ?_
  refine KC (KI ?_)
  refine ⟨[_,_],.cons ⟨_,_,_,rfl,mM,by exact KE Tryz.underlying83 rfl sz_83⟩ (.cons rfl .nil),fun a' w' hr=>⟨?_,hr.fr.below⟩⟩
  skip
  rfl
theorem c_s_Get_fo (id:Int) (V:Cv) (s:ByteArray) (w:World) (h:cvI id = some V) (hs0:s.size≠0) (hs:s.size<9223372036854775808) (hb2:b0 s≠2) (hb3:b0 s≠3) (hb4:b0 s≠4):Calls Tryz.prog 41 ([.int .i64 id,.string s]:List Value).toArray w (fun e w'=>e = .returned (.tuple #[ptV 0 0 false,.int .i64 ((2102:Nat):Int)])∧Below w.heap.size w w'):=by
  obtain ⟨hok,hid⟩:=cvI_ok h
  have hbb:=hok.bounds
  have hpW:V.p<W9:=KAJ hbb.2.1
  have hnW:V.n<W9:=KAJ hbb.2.2.2.2.2.2.1
  have hbl:=blen_w9 hnW
  have hnb:nby V.n≤72:=by (unfold nby; omega)
  have hnp:nby V.p≤72:=by have:=blen_w9 (KAJ hbb.2.1); (unfold nby; omega)
  have hb256:=b0_lt s
  refine Ka (N:=102) (rs:=[.cell 4 83,.tmp 5]) [] Tryz.func41 rfl Tryz.ntmps41 Tryz.results41 (Nb rfl) trivial rfl ?_
  show LCode _ _ _ ⟨_,_⟩ _
  refine KB (KA ?_)
  refine oS (mk (KP zr_83) (fun b4=>?_))
  refine oP (KR (v:=.int .i64 ((0:Nat):Int)) rfl) ?_
  refine KC ?_
  refine KB (KA ?_)
  refine oM ?_
  refine oS (KAL (Post:=fun v its=>∃ b f bd,v = .pointer (some ⟨b,0,none⟩)∧its = [.blk b ⟨false,opL V f,92,(0,0)⟩,.blk f ⟨false,fldL V.p bd,116,(0,0)⟩,.blk bd ⟨false,dvL V.p,167,(0,0)⟩]) (first:=[]) rfl en_39 rfl (Nb rfl) (fun w1 hw hs=>(c_Open _ V w1 h).mono fun e w' ⟨b,f,bd,h1,h2,h3,h4,h5,h6,h7,h8⟩=>⟨_,_,⟨b,f,bd,rfl,rfl⟩,h1,KAO h8 (by intro x hx; simp at hx; rcases hx with rfl|rfl|rfl; exact h2; exact h3; exact h4) (by intro x hx; simp at hx; rcases hx with rfl|rfl|rfl <;> rfl) (by intro x hx k hk; simp at hx; rcases hx with rfl|rfl|rfl <;> simp [Item.fp] at hk <;> subst hk; exact .inl h5; exact .inl h6; exact .inl h7)⟩) ?_)
  rintro _ _ ⟨b,f,bd,rfl,rfl⟩
  refine oA ?_
  refine KC ?_
  refine KB ?_
  refine KB (KA ?_)
  refine oM ?_
  refine oP (KG (Det.eqp Tryz.underlying79 rfl rfl) (show _ = Value.bool false from rfl)) ?_
  refine KC ?_
  refine KK rfl ?_
  refine KM ?_
  refine KB ?_
  refine KB (KA ?_)
  refine oM ?_
  refine oP (KG (Det.eqs rfl rfl) (congrArg Value.bool (emp_f hs0))) ?_
  refine KC ?_
  refine KK rfl ?_
  refine KM ?_
  refine KB ?_
  refine rD [] ?_
  refine aM 0 ?_
  refine aP 1 rfl (KG (Ky Tryz.underlying9 rfl rfl om om) (show _ = .int .u8 (((b0 s):Nat):Int) from congrArg (fun n:Nat=>Value.int .u8 ((n:Nat):Int)) rfl)) ?_
  refine aP 2 rfl (KAZ Tryz.underlying5 Tryz.underlying3 rfl om) ?_
  refine aM 3 ?_
  refine aP 4 rfl (KG (Det.slStrL Tryz.underlying9 rfl rfl om om) (show _ = Value.string (s.extract 1 s.size) from rfl)) ?_
  refine aA 5 ?_
  refine aA 6 ?_
  refine aE ?_
  refine KB (KA ?_)
  refine oS (mk (KP zr_83) (fun b9=>?_))
  refine KC ?_
  refine KB (KA ?_)
  refine oA ?_
  refine KC ?_
  refine KB ?_
  refine LCode.block ?_
  refine KB ?_
  have hrs:(s.extract 1 s.size).size = s.size-1:=by rw [ext_size _ _ _ (Nat.le_refl _)]
  refine KA ?_
  refine oM ?_
  refine oP (KD (v:=.bool false) rfl rfl (br_f (KAP (b:=2)) (om))) ?_
  refine oM ?_
  refine oGM ?_
  refine oGP (KD (v:=.bool false) rfl rfl (br_f (KAP (b:=3)) (om))) ?_
  refine oP (KY rfl rfl) ?_
  refine oM ?_
  refine oK ?_
  refine oK ?_
  refine oK ?_
  refine oK ?_
  refine oK ?_
  refine oK ?_
  refine oK ?_
  refine oK ?_
  refine oP (KY rfl rfl) ?_
  refine oA ?_
  refine KC ?_
  refine KK rfl ?_
  refine KB (KA ?_)
  refine oM ?_
  refine oP (KD (v:=.bool false) rfl rfl (br_f (KAP (b:=4)) (om))) ?_
  refine oM ?_
  refine oK ?_
  refine oK ?_
  refine oK ?_
  refine oK ?_
  refine oK ?_
  refine oK ?_
  refine oK ?_
  refine oK ?_
  refine oK ?_
  refine oP (KY rfl rfl) ?_
  refine oA ?_
  refine KC ?_
  refine KK rfl ?_
  refine KB (KA ?_)
  refine oP (KG (Kp pl_83 zr_83 rfl rfl) pt_zero) ?_
  refine KO rfl (sA rfl rfl sz_83 (by exact KAB _ _ _) (hl:=by exact KX _ _ _) (h:=?_))
  refine oP (KR (v:=.int .i64 ((2102:Nat):Int)) rfl) ?_
  refine KC (KI ?_)
  refine ⟨[_,_],.cons ⟨_,_,_,rfl,mM,by exact KE Tryz.underlying83 rfl sz_83⟩ (.cons rfl .nil),fun a' w' hr=>⟨?_,hr.fr.below⟩⟩
  skip
  rfl
theorem c_s_Get_l (id:Int) (V:Cv) (s:ByteArray) (X Y:Nat) (ok:Bool) (w:World) (h:cvI id = some V) (hsz:s.size = 1+2*nby V.p) (hb:b0 s = 4) (hX:beVal (s.extract 1 (1+nby V.p)).data.toList = X) (hY:beVal (s.extract (1+nby V.p) s.size).data.toList = Y) (hXw:X<W9) (hYw:Y<W9) (hl:onB V.p V.a V.b X Y false = ok):Calls Tryz.prog 41 ([.int .i64 id,.string s]:List Value).toArray w (fun e w'=>e = .returned (getV V s)∧Below w.heap.size w w'):=by
  obtain ⟨hok,hid⟩:=cvI_ok h
  have hbb:=hok.bounds
  have hpW:V.p<W9:=KAJ hbb.2.1
  have hnW:V.n<W9:=KAJ hbb.2.2.2.2.2.2.1
  have hbl:=blen_w9 hnW
  have hnb:nby V.n≤72:=by (unfold nby; omega)
  have hnp:nby V.p≤72:=by have:=blen_w9 (KAJ hbb.2.1); (unfold nby; omega)
  have hs0:s.size≠0:=by omega
  refine Ka (N:=102) (rs:=[.cell 4 83,.tmp 5]) [] Tryz.func41 rfl Tryz.ntmps41 Tryz.results41 (Nb rfl) trivial rfl ?_
  show LCode _ _ _ ⟨_,_⟩ _
  refine KB (KA ?_)
  refine oS (mk (KP zr_83) (fun b4=>?_))
  refine oP (KR (v:=.int .i64 ((0:Nat):Int)) rfl) ?_
  refine KC ?_
  refine KB (KA ?_)
  refine oM ?_
  refine oS (KAL (Post:=fun v its=>∃ b f bd,v = .pointer (some ⟨b,0,none⟩)∧its = [.blk b ⟨false,opL V f,92,(0,0)⟩,.blk f ⟨false,fldL V.p bd,116,(0,0)⟩,.blk bd ⟨false,dvL V.p,167,(0,0)⟩]) (first:=[]) rfl en_39 rfl (Nb rfl) (fun w1 hw hs=>(c_Open _ V w1 h).mono fun e w' ⟨b,f,bd,h1,h2,h3,h4,h5,h6,h7,h8⟩=>⟨_,_,⟨b,f,bd,rfl,rfl⟩,h1,KAO h8 (by intro x hx; simp at hx; rcases hx with rfl|rfl|rfl; exact h2; exact h3; exact h4) (by intro x hx; simp at hx; rcases hx with rfl|rfl|rfl <;> rfl) (by intro x hx k hk; simp at hx; rcases hx with rfl|rfl|rfl <;> simp [Item.fp] at hk <;> subst hk; exact .inl h5; exact .inl h6; exact .inl h7)⟩) ?_)
  rintro _ _ ⟨b,f,bd,rfl,rfl⟩
  refine oA ?_
  refine KC ?_
  refine KB ?_
  refine KB (KA ?_)
  refine oM ?_
  refine oP (KG (Det.eqp Tryz.underlying79 rfl rfl) (show _ = Value.bool false from rfl)) ?_
  refine KC ?_
  refine KK rfl ?_
  refine KM ?_
  refine KB ?_
  refine KB (KA ?_)
  refine oM ?_
  refine oP (KG (Det.eqs rfl rfl) (congrArg Value.bool (emp_f hs0))) ?_
  refine KC ?_
  refine KK rfl ?_
  refine KM ?_
  refine KB ?_
  refine rD [] ?_
  refine aM 0 ?_
  refine aP 1 rfl (KG (Ky Tryz.underlying9 rfl rfl om om) (show _ = .int .u8 ((4:Nat):Int) from congrArg (fun n:Nat=>Value.int .u8 ((n:Nat):Int)) hb)) ?_
  refine aP 2 rfl (KAZ Tryz.underlying5 Tryz.underlying3 rfl om) ?_
  refine aM 3 ?_
  refine aP 4 rfl (KG (Det.slStrL Tryz.underlying9 rfl rfl om om) (show _ = Value.string (s.extract 1 s.size) from rfl)) ?_
  refine aA 5 ?_
  refine aA 6 ?_
  refine aE ?_
  refine KB (KA ?_)
  refine oS (mk (KP zr_83) (fun b9=>?_))
  refine KC ?_
  refine KB (KA ?_)
  refine oA ?_
  refine KC ?_
  refine KB ?_
  refine LCode.block ?_
  refine KB ?_
  have hrs:(s.extract 1 s.size).size = s.size-1:=by rw [ext_size _ _ _ (Nat.le_refl _)]
  refine KA ?_
  refine oM ?_
  refine oP (KD (v:=.bool false) rfl rfl (br_f (KAP (b:=2)) dc)) ?_
  refine oM ?_
  refine oGM ?_
  refine oGP (KD (v:=.bool false) rfl rfl (br_f (KAP (b:=3)) dc)) ?_
  refine oP (KY rfl rfl) ?_
  refine oM ?_
  refine oK ?_
  refine oK ?_
  refine oK ?_
  refine oK ?_
  refine oK ?_
  refine oK ?_
  refine oK ?_
  refine oK ?_
  refine oP (KY rfl rfl) ?_
  refine oA ?_
  refine KC ?_
  refine KK rfl ?_
  refine KB (KA ?_)
  refine oM ?_
  refine oP (KD (v:=.bool true) rfl rfl (br_t (KAP (b:=4)) (rfl))) ?_
  refine oM ?_
  refine oGM ?_
  refine oGP (Det.lens Tryz.underlying9 rfl) ?_
  refine oGM ?_
  refine oGP (KL rfl) ?_
  refine oGP (KF (o':=0) Tryz.underlying92 rfl rfl rfl sz_89 dc) ?_
  refine oGP (KF (o':=57) Tryz.underlying89 rfl rfl rfl sz_3 dc) ?_
  refine KAM rfl rfl (dL rfl (hv:=KJ Tryz.underlying3 rfl (by exact cvC_gt_size _ _ _ _ _ _ _ _ _ _ _ _ _))) (Nb rfl) ?_
  refine oGP (KD rfl rfl (br_mul (a:=2) om)) ?_
  refine oGP (KD (v:=.bool true) rfl rfl (br_t KAP (om))) ?_
  refine oP (Kj rfl rfl) ?_
  refine oA ?_
  refine KC ?_
  refine KU rfl ?_
  refine KB ?_
  refine LCode.sub (Sub.cells (b:=b9) (cs':=ptL 0 0 false) (by repeat (first|exact Sh _|apply St_)) ptX_zero) ?_
  refine KA ?_
  refine oM ?_
  refine oM ?_
  refine oP (KL rfl) ?_
  refine oP (KF (o':=0) Tryz.underlying92 rfl rfl rfl sz_89 dc) ?_
  refine oP (KF (o':=57) Tryz.underlying89 rfl rfl rfl sz_3 dc) ?_
  refine oD (dL rfl (hv:=KJ Tryz.underlying3 rfl (by exact cvC_gt_size _ _ _ _ _ _ _ _ _ _ _ _ _))) ?_
  refine oP (KG (Det.slStrH Tryz.underlying9 rfl rfl om om) (show _ = Value.string (s.extract 1 (1+nby V.p)) from by rw [Int.toNat_natCast,ext_ext s _ om])) ?_
  refine oS (cF rfl en_65 rfl (fun w hw=>c_nat_OfX X (s.extract 1 (1+nby V.p)) w (by rw [ext_size _ _ _ om]; omega) hX) ?_)
  refine oM ?_
  refine oP (Det.extract rfl rfl) ?_
  refine oP (Det.extract rfl rfl) ?_
  refine oP (KF (o':=0) Tryz.underlying83 rfl rfl rfl sz_25 dc) ?_
  refine KO rfl (Kt rfl rfl rfl sz_25 (KH _) (KAE _) (by repeat (first|exact Sh _|apply St_)) (by simp only [KX]; decide) (ptX_set0 _ _ _ _) (by simp) ?_)
  refine KC ?_
  refine KB (KA ?_)
  refine oM ?_
  refine oM ?_
  refine oP (KL rfl) ?_
  refine oP (KF (o':=0) Tryz.underlying92 rfl rfl rfl sz_89 dc) ?_
  refine oP (KF (o':=57) Tryz.underlying89 rfl rfl rfl sz_3 dc) ?_
  refine oD (dL rfl (hv:=KJ Tryz.underlying3 rfl (by exact cvC_gt_size _ _ _ _ _ _ _ _ _ _ _ _ _))) ?_
  refine oP (KG (Det.slStrL Tryz.underlying9 rfl rfl om om) (show _ = Value.string (s.extract (1+nby V.p) s.size) from by rw [Int.toNat_natCast,ext_ext2 s _ om])) ?_
  refine oS (cF rfl en_65 rfl (fun w hw=>c_nat_OfX Y (s.extract (1+nby V.p) s.size) w (by rw [ext_size _ _ _ (Nat.le_refl _)]; omega) hY) ?_)
  refine oM ?_
  refine oP (Det.extract rfl rfl) ?_
  refine oP (Det.extract rfl rfl) ?_
  refine oP (KF (o':=9) Tryz.underlying83 rfl rfl rfl sz_25 dc) ?_
  refine KO rfl (Kt rfl rfl rfl sz_25 (KH _) (KAE _) (by repeat (first|exact Sh _|apply St_)) (by simp only [KX]; decide) (ptX_set9 _ _ _ _) (by simp) ?_)
  refine KC ?_
  cases ok
  ·
    refine KA ?_
    refine oM ?_
    refine oD (dL rfl (hv:=by exact KE Tryz.underlying83 rfl sz_83)) ?_
    refine oS (cF rfl en_67 rfl (fun w hw=>c_cOnV false V b f bd hok X Y false w (mC hw) (mC hw) (mC hw) hXw hYw hl) ?_)
    refine oA ?_
    refine KC ?_
    refine KB ?_
    refine KB (KA ?_)
    refine oM ?_
    refine oP (KG (Det.not rfl) (show _ = Value.bool true from rfl)) ?_
    refine KC ?_
    refine KU rfl ?_
    refine KB (KA ?_)
    refine oP (KG (Kp pl_83 zr_83 rfl rfl) pt_zero) ?_
    refine KO rfl (sA rfl rfl sz_83 (by exact KAB _ _ _) (hl:=by exact KX _ _ _) (h:=?_))
    refine oP (KR (v:=.int .i64 ((2101:Nat):Int)) rfl) ?_
    refine KC (KI ?_)
    refine ⟨[_,_],.cons ⟨_,_,_,rfl,mM,by exact KE Tryz.underlying83 rfl sz_83⟩ (.cons rfl .nil),fun a' w' hr=>⟨?_,hr.fr.below⟩⟩
    subst hX hY
    rw [getV_eq (get_longF hsz hb hl)]
    rfl
  ·
    refine KA ?_
    refine oM ?_
    refine oD (dL rfl (hv:=by exact KE Tryz.underlying83 rfl sz_83)) ?_
    refine oS (cF rfl en_67 rfl (fun w hw=>c_cOnV true V b f bd hok X Y false w (mC hw) (mC hw) (mC hw) hXw hYw hl) ?_)
    refine oA ?_
    refine KC ?_
    refine KB ?_
    refine KB (KA ?_)
    refine oM ?_
    refine oP (KG (Det.not rfl) (show _ = Value.bool false from rfl)) ?_
    refine KC ?_
    refine KK rfl ?_
    refine KM ?_
    refine KB (KA ?_)
    refine oD (dL rfl (hv:=by exact KE Tryz.underlying83 rfl sz_83)) ?_
    refine KO rfl (sA rfl rfl sz_83 (by exact KAB _ _ _) (hl:=by exact KX _ _ _) (h:=?_))
    refine oP (KR (v:=.int .i64 ((0:Nat):Int)) rfl) ?_
    refine KC (KI ?_)
    refine ⟨[_,_],.cons ⟨_,_,_,rfl,mM,by exact KE Tryz.underlying83 rfl sz_83⟩ (.cons rfl .nil),fun a' w' hr=>⟨?_,hr.fr.below⟩⟩
    subst hX hY
    rw [getV_eq (get_long hsz hb hl)]
    unfold getX getY
    rfl
end Go.Proofs.YtlmiolnccgjjjaaGreat
set_option linter.unusedVariables false
set_option linter.unusedSimpArgs false
set_option maxRecDepth 20000
namespace Go.Proofs.YtlmiolnccgjjjaaGreat
open Go Go.RowKit
theorem nby_posV {V:Cv} (hok:V.Ok):1≤nby V.p:=by
  have hb:=hok.bounds
  have:=lt_blen V.p
  unfold nby
  rcases Nat.eq_zero_or_pos (blen V.p) with h|h
  · rw [h] at this; omega
  · omega
end Go.Proofs.YtlmiolnccgjjjaaGreat
set_option linter.unusedVariables false
set_option linter.unusedSimpArgs false
set_option maxRecDepth 20000
namespace Go.Proofs.YtlmiolnccgjjjaaGreat
open Go Go.RowKit
theorem getX_w9 {V:Cv} (hnb:nby V.p≤72) {s:ByteArray} (h:1+nby V.p≤s.size):getX V s<W9:=beVal_w9 (by show (s.extract 1 (1+nby V.p)).size≤72; rw [ext_size _ _ _ h]; omega)
theorem getY_w9 {V:Cv} (hnb:nby V.p≤72) {s:ByteArray} (h:s.size = 1+2*nby V.p):getY V s<W9:=beVal_w9 (by show (s.extract (1+nby V.p) s.size).size≤72; rw [ext_size _ _ _ (Nat.le_refl _)]; omega)
theorem nbp_72 {V:Cv} (hok:V.Ok):nby V.p≤72:=by have:=blen_w9 (KAJ hok.bounds.2.1); (unfold nby; omega)
theorem c_s_Get (id:Int) (V:Cv) (s:ByteArray) (w:World) (h:cvI id = some V) (hs:s.size<9223372036854775808):Calls Tryz.prog 41 ([.int .i64 id,.string s]:List Value).toArray w (fun e w'=>e = .returned (getV V s)∧Below w.heap.size w w'):=by
  obtain ⟨hok,-⟩:=cvI_ok h
  have hnb:=nbp_72 hok
  have hk1:=nby_posV hok
  by_cases h0:s.size = 0
  · have e : s = ⟨#[]⟩ := by
      obtain ⟨d⟩:=s
      have h1:d.size = 0:=h0
      rw [Array.size_eq_zero_iff.1 h1]
    rw [getV_eq (get_form om om),e]
    exact c_s_Get_emp id V w h
  · by_cases h2:b0 s = 2
    · by_cases h1:s.size = 1+nby V.p
      · have hx:beVal (s.extract 1 s.size).data.toList = getX V s:=by unfold getX; rw [← h1]
        exact c_s_Get_s0 id V s (getX V s) (liftT V (getX V s) 0).1 (liftT V (getX V s) 0).2.1 (liftT V (getX V s) 0).2.2 w h h1 h2 hx (getX_w9 hnb om) rfl
      · rw [getV_eq (get_form om om)]
        exact c_s_Get_f2 id V s w h h0 hs h2 h1
    · by_cases h3:b0 s = 3
      · by_cases h1:s.size = 1+nby V.p
        · have hx:beVal (s.extract 1 s.size).data.toList = getX V s:=by unfold getX; rw [← h1]
          exact c_s_Get_s1 id V s (getX V s) (liftT V (getX V s) 1).1 (liftT V (getX V s) 1).2.1 (liftT V (getX V s) 1).2.2 w h h1 h3 hx (getX_w9 hnb om) rfl
        · rw [getV_eq (get_form om om)]
          exact c_s_Get_f3 id V s w h h0 hs h3 h1
      · by_cases h4:b0 s = 4
        · by_cases h1:s.size = 1+2*nby V.p
          · exact c_s_Get_l id V s (getX V s) (getY V s) _ w h h1 h4 rfl rfl (getX_w9 hnb om) (getY_w9 hnb h1) rfl
          · rw [getV_eq (get_form om om)]
            exact c_s_Get_f4 id V s w h h0 hs h4 h1
        · rw [getV_eq (get_form om om)]
          exact c_s_Get_fo id V s w h h0 hs h2 h3 h4
end Go.Proofs.YtlmiolnccgjjjaaGreat
set_option linter.unusedVariables false
set_option linter.unusedSimpArgs false
set_option maxRecDepth 20000
namespace Go.Proofs.YtlmiolnccgjjjaaGreat
open Go Go.RowKit
theorem Rel.setOwn {C : Ctx} {st : St} {a : Act} {w w' : World} (h : Rel C st a w) {x x' : Item} {R : List Item} (hp : Pick x st.H R) (hx : x.wr = true) (hx' : x'.holds w')
    (hnew:∀ k,k∈x'.fp→w.heap.size≤k∨k∈x.fp) (hf:Fr (fun k=>k∈x.fp) w w'):Rel C ⟨st.T,x' :: R⟩ a w':=by
  have hpm:=hp.perm
  have hdist:(x :: R).Pairwise Apart:=(hpm.pairwise_iff (fun h=>Apart.symm h)).1 h.dist
  obtain ⟨hXR,hR⟩:=List.pairwise_cons.1 hdist
  have inR:∀ y,y∈R→y∈st.H:=fun y hy=>hpm.mem_iff.2 (.tail _ hy)
  have inX:x∈st.H:=hpm.mem_iff.2 (.head _)
  refine ⟨h.size,h.defers,h.tm,fun y hy=>?_,fun y hy hw k hk=>?_,?_,?_⟩
  · rcases List.mem_cons.1 hy with rfl|hy
    · exact hx'
    · have hold:=h.hp y (inR y hy)
      exact Item.holds_agree hold (fun k hk=>hf.block k (Item.lt hold k hk) (fun hkx=>hXR y hy (.inl hx) k hkx hk)) hf.size
  · rcases List.mem_cons.1 hy with rfl|hy
    · rcases hnew k hk with h1|h1
      · exact .inl (Nat.le_trans h.fr.size h1)
      · exact h.own x inX hx k h1
    · exact h.own y (inR y hy) hw k hk
  · refine List.pairwise_cons.2 ⟨fun y hy _ k hk hk'=>?_,hR⟩
    rcases hnew k hk with h1|h1
    · have:=Item.lt (h.hp y (inR y hy)) k hk'
      omega
    · exact hXR y hy (.inl hx) k h1 hk'
  · refine ⟨hf.os.trans h.fr.os,hf.tape.trans h.fr.tape,hf.output.trans h.fr.output,Nat.le_trans h.fr.size hf.size,fun k hk1 hk2=>?_⟩
    refine (hf.block k (Nat.lt_of_lt_of_le hk1 h.fr.size) (fun hkx=>?_)).trans (h.fr.block k hk1 hk2)
    rcases h.own x inX hx k hkx with h1|h1
    · omega
    · exact hk2 h1
abbrev TrRow:=Option (Nat×Nat×List Value)
def trV (b:Option Nat):Value:=.pointer (b.map fun b=>⟨b,0,none⟩)
def evsL (l:List Nat):List Value:=l.flatMap fun k=>[.int .i64 ((2:Nat):Int),.int .i64 ((k:Nat):Int)]
theorem evsL_length (l:List Nat):(evsL l).length = l.length*2:=by
  induction l with
  | nil=>rfl
  | cons k l ih =>
    show ([Value.int .i64 ((2:Nat):Int),.int .i64 ((k:Nat):Int)]++evsL l).length = _
    rw [List.length_append,ih,List.length_cons]; show 2+l.length*2 = (l.length+1)*2; omega
theorem evsL_snoc (l:List Nat) (k:Nat):evsL (l++[k]) = evsL l++[.int .i64 ((2:Nat):Int),.int .i64 ((k:Nat):Int)]:=by simp [evsL]
def trSl (r:TrRow) (n:Nat):Value:=match r with
  | none=>.slice none 0 0
  | some r=>.slice (some ⟨r.1,0,none⟩) n r.2.1
def trFp (b:Option Nat) (r:TrRow):List Nat:=match b with
  | none=>[]
  | some b=>match r with
    | none=>[b]
    | some r=>[b,r.1]
def trP (b:Option Nat) (r:TrRow) (l:List Nat) (w:World):Prop:=match b with
  | none=>True
  | some b=>w.heap[b]? = some (.cells [trSl r l.length].toArray 98 (0,0))∧match r with
    | none=>l = []
    | some r=>w.heap[r.1]? = some (.cells (evsL l++r.2.2).toArray 101 (0,0))∧(evsL l).length+r.2.2.length = r.2.1*2∧r.1≠b
def trI (b:Option Nat) (r:TrRow) (l:List Nat):Item:=.own (trFp b r) (trP b r l)
theorem trI_P {b:Option Nat} {r:TrRow} {l:List Nat} {w:World} (h:(trI b r l).holds w):trP b r l w:=h.2 w (Agree.refl _ _)
theorem trI_of {b:Option Nat} {r:TrRow} {l:List Nat} {w:World} (h:trP b r l w):(trI b r l).holds w:=by
  rcases b with _|b
  · exact ⟨fun k hk=>(by cases hk),fun _ _=>trivial⟩
  · rcases r with _|r
    · obtain ⟨h1,h2⟩:=h
      refine ⟨fun k hk=>?_,fun w' ha=>⟨(ha b (.head _)).trans h1,h2⟩⟩
      have:k = b:=by simpa [trFp] using hk
      subst this; exact lt_of_get h1
    · obtain ⟨h1,h2,h3,h4⟩:=h
      refine ⟨fun k hk=>?_,fun w' ha=>⟨(ha b (.head _)).trans h1,(ha r.1 (.tail _ (.head _))).trans h2,h3,h4⟩⟩
      have:k = b∨k = r.1:=by simpa [trFp] using hk
      rcases this with rfl|rfl
      · exact lt_of_get h1
      · exact lt_of_get h2
theorem trI_nil (l:List Nat) (w:World):(trI none none l).holds w:=trI_of trivial
def Out (b:Option Nat) (r:TrRow) (x:Item):Prop:=∀ k,k∈trFp b r→k ∉ x.fp
theorem Out.nil (r:TrRow) (x:Item):Out none r x:=fun k hk=>by cases hk
def Outs (b:Option Nat) (r:TrRow):List Item→Prop
  | []=>True
  | x :: t=>Out b r x∧Outs b r t
theorem Outs.mem {b:Option Nat} {r:TrRow} {H:List Item} (h:Outs b r H):∀ x,x∈H→Out b r x:=by
  induction H with
  | nil=>intro x hx; cases hx
  | cons y t ih =>
    intro x hx
    rcases List.mem_cons.1 hx with rfl|hx
    · exact h.1
    · exact ih h.2 x hx
def TrR (w:World) (b:Option Nat) (r:TrRow) (l:List Nat) (v:Value) (e:Ending) (w':World):Prop :=
  ∃ r',e = .returned v∧(trI b r' l).holds w'∧(∀ k,k∈trFp b r'→w.heap.size≤k∨k∈trFp b r)∧Fr (fun k=>k∈trFp b r) w w'
theorem TrR.nil {w:World} {r:TrRow} {l:List Nat} {v:Value} {e:Ending} {w':World} (h:TrR w none r l v e w'):e = .returned v∧Below w.heap.size w w':=by
  obtain ⟨_,h1,_,_,h2⟩:=h
  exact ⟨h1,h2.os,h2.tape,h2.output,h2.size,fun k hk=>h2.block k hk (fun hk'=>by cases hk')⟩
theorem TrR.same {w:World} {b:Option Nat} {r:TrRow} {l:List Nat} {v:Value} {e:Ending} {w':World} (h:(trI b r l).holds w) (he:e = .returned v) (hb:Below w.heap.size w w'):TrR w b r l v e w' :=
  ⟨r,he,Item.holds_agree h (fun k hk=>hb.block k (Item.lt h k hk)) hb.size,fun k hk=>.inr hk,hb.os,hb.tape,hb.output,hb.size,fun k hk _=>hb.block k hk⟩
section
variable {P:Program} {C:Ctx} {ty:TypeId} {pos:String} {aft:Array Edge} {d:Nat} {K:St→Prop} {x:Operand} {v:Value}
theorem LStepW.callT {T : List (Nat × Value)} {H R : List Item} {f : FuncId} {xs : List Operand} {vs first : List Value} {ats : Array TypeId} {g : Option (Nat × Bool)} {b : Option Nat} {r : TrRow} {l l' : List Nat} (hf : evT T x = some (.func (.func f) first.toArray #[])) (he : Ko P f) (ha : evL T xs = some vs) (hd : d < C.N)
    (hp:Pick (trI b r l) H R)
    (hc:∀ w,(∀ x,x∈H→x.holds w)→(∀ y,y∈R→Out b r y)→Calls P f (first++vs).toArray w (TrR w b r l' v))
    (h:∀ r',K ⟨(d,v) :: T,trI b r' l' :: R⟩):LStepW P C ⟨some d,.call { callee:=.value x,args:=xs.toArray,argTypes:=ats },ty,pos,aft,g⟩ ⟨T,H⟩ K:=by
  unfold LStepW
  intro a w hr Qr
  obtain ⟨fn,h1,h2,h3⟩:=he
  have hdist:(trI b r l :: R).Pairwise Apart:=(hp.perm.pairwise_iff (fun h=>Apart.symm h)).1 hr.dist
  refine wp_callee (vs:=first++vs) ?_ (hc w hr.hp (fun y hy k hk=>(List.pairwise_cons.1 hdist).1 y hy (.inl rfl) k hk)) ?_
  · have:=hr.evs ha
    simp [execOp,resolve,hr.ev hf,Deferred.ofValue,invoke,run_call h1 h2 h3,this]
  · rintro e' w' ⟨r',rfl,hits,hnew,hfr⟩
    exact ⟨v,rfl,_,h r',(hr.setOwn hp rfl hits hnew hfr).put hd v⟩
end
theorem calls_tr {P : Program} {f : FuncId} {fn : Func} {c : Code} {vs : List Value} {w : World} (b : Option Nat) (r : TrRow) (l : List Nat) (H : List Item) {rs : List ResultVar} {N : Nat} {R : Ending → World → Prop} (hf : P.funcs[f]? = some fn) (hb : fn.body = some c) (hn : fn.ntmps = N) (hs : fn.results = rs.toArray)
    (hlen:vs.length≤N) (h0:(trI b r l).holds w) (hH:Hold w H) (hro:H.all (fun x=>!x.wr) = true) (hne:Outs b r H)
    (h:LCode P ⟨w,fun k=>k∈trFp b r,N⟩ c ⟨argT 0 vs,trI b r l :: H⟩ (LEnd P ⟨w,fun k=>k∈trFp b r,N⟩ rs fun v _ w'=>R (.returned v) w')):Calls P f vs.toArray w R:=by
  have hr:∀ x,x∈H→x.wr = false:=by
    intro x hx
    have:=List.all_eq_true.1 hro x hx
    simpa using this
  refine calls_walk hf hb hn hs hlen ?_ ?_ ?_ h
  · intro x hx
    rcases List.mem_cons.1 hx with rfl|hx
    · exact h0
    · exact hH.mem x hx
  · intro x hx hw k hk
    rcases List.mem_cons.1 hx with rfl|hx
    · exact hk
    · rw [hr x hx] at hw; cases hw
  · exact List.pairwise_cons.2 ⟨fun y hy _ k hk hk'=>hne.mem y hy k hk hk',List.pairwise_of_forall_mem_list (fun x hx y hy hw=>(by rw [hr x hx,hr y hy] at hw; rcases hw with hw|hw <;> cases hw))⟩
theorem Rel.tr {w:World} {b:Option Nat} {r r':TrRow} {l:List Nat} {N:Nat} {st:St} {a:Act} {w':World} {v:Value} (h:Rel ⟨w,fun k=>k∈trFp b r,N⟩ st a w') (hm:trI b r' l∈st.H):TrR w b r l v (.returned v) w' :=
  ⟨r',rfl,h.hp _ hm,fun k hk=>h.own _ hm rfl k hk,h.fr⟩
theorem calls_wM {P : Program} {f : FuncId} {fn : Func} {c : Code} {vs : List Value} {w : World} (X : List Item) (W : Nat → Prop) {rs : List ResultVar} {N : Nat} {R : Ending → World → Prop} (hf : P.funcs[f]? = some fn) (hb : fn.body = some c) (hn : fn.ntmps = N) (hs : fn.results = rs.toArray)
    (hlen:vs.length≤N) (hX:Hold w X) (hd:X.Pairwise Apart) (hW:∀ x,x∈X→x.wr = true→∀ k,k∈x.fp→W k)
    (h:LCode P ⟨w,W,N⟩ c ⟨argT 0 vs,X⟩ (LEnd P ⟨w,W,N⟩ rs fun v _ w'=>R (.returned v) w')):Calls P f vs.toArray w R :=
  calls_walk hf hb hn hs hlen hX.mem hW hd h
theorem apart_two {H:List Item} (h:H.Pairwise Apart) {b c:Nat} {B D:Blk} (hx:Item.blk b B∈H) (hy:Item.blk c D∈H) (hw:B.wr = true) (hne:B.elem≠D.elem):c≠b:=by
  rintro rfl
  have hne':Item.blk c B≠Item.blk c D:=fun e=>by injection e with _ e; exact hne (congrArg Blk.elem e)
  have key:∀ (l:List Item),l.Pairwise Apart→Item.blk c B∈l→Item.blk c D∈l→False:=by
    intro l hl h1 h2
    induction l with
    | nil=>cases h1
    | cons q l ih =>
      obtain ⟨g1,g2⟩:=List.pairwise_cons.1 hl
      rcases List.mem_cons.1 h1 with e1|k1 <;> rcases List.mem_cons.1 h2 with e2|k2
      · exact hne' (e1.trans e2.symm)
      · subst e1; exact g1 (.blk c D) k2 (.inl hw) c (.head _) (.head _)
      · subst e2; exact g1 (.blk c B) k1 (.inr hw) c (.head _) (.head _)
      · exact ih g2 k1 k2
  exact key H h hx hy
section
variable {P:Program} {C:Ctx} {ty:TypeId} {pos:String} {aft:Array Edge} {d:Nat} {K:St→Prop} {x y:Operand} {t e:TypeId}
theorem LStepW.appendSM {s : Nat} {T : List (Nat × Value)} {H H0 : List Item} {b a0 c0 n cap m bytes : Nat} {zv : Value} {xs rest news cs more : List Value} {wr : Bool} {ea : TypeId} {fz : Nat × Nat} {g : Option (Nat × Bool)} (hx : evT T x = some (.slice (some ⟨b, 0, none⟩) n cap)) (hy : evT T y = some (.slice (some ⟨a0, 0, none⟩) m c0))
    (ht:P.underlying t = some (.slice e)) (hi:infOf P e = some (zv,s,bytes)) (hz0:zv.cells.size = s) (hp:Pick (.blk b ⟨true,xs++rest,e,(0,0)⟩) H H0) (hm:Item.blk a0 ⟨wr,cs,ea,fz⟩∈H0) (hcs:cs = news++more) (hxl:xs.length = n*s) (hcl:xs.length+rest.length = cap*s) (hml:news.length = m*s) (ho:AllOne news)
    (hn:(n+m)*bytes≤140737488355328) (hn2:n+m≤1000000000) (hd:d<C.N)
    (h:∀ b' cap' rest',xs.length+news.length+rest'.length = cap'*s→K ⟨(d,.slice (some ⟨b',0,none⟩) (n+m) cap') :: T,.blk b' ⟨true,(xs++news)++rest',e,(0,0)⟩ :: H0⟩):LStepW P C ⟨some d,.call { callee:=.builtin .append,args:=#[x,y],argTypes:=#[t,t] },ty,pos,aft,g⟩ ⟨T,H⟩ K:=by
  unfold LStepW
  intro a w hr Qr
  obtain ⟨i,hi1,hi3,hi2,hi4⟩:=inf_spec hi
  have hpm:=hp.perm
  have hin:Item.blk b ⟨true,xs++rest,e,(0,0)⟩∈H:=hpm.mem_iff.2 (.head _)
  have hb:w.heap[b]? = some (.cells (xs++rest).toArray e (0,0)):=hr.hp _ hin
  have ha:w.heap[a0]? = some (.cells cs.toArray ea fz):=hr.hp _ (hpm.mem_iff.2 (.tail _ hm))
  subst hcs
  have hpos:=hr.own _ hin rfl b (by simp [Item.fp])
  have hdd:(Item.blk b ⟨true,xs++rest,e,(0,0)⟩ :: H0).Pairwise Apart:=(List.Perm.pairwise_iff (fun h=>Apart.symm h) hpm).1 hr.dist
  obtain ⟨hd1,hd2⟩:=List.pairwise_cons.1 hdd
  have hmm:∀ x,x∈H0→x∈H:=fun x hx=>hpm.mem_iff.2 (.tail _ hx)
  have hnews:∀ j u,news[j]? = some u→w.cell? ((⟨a0,0,none⟩:Addr).add j) = some u:=fun j u hj=>by
    have hadd:(⟨a0,0,none⟩:Addr).add j = ⟨a0,0+j,none⟩:=by unfold Addr.add; split <;> simp_all
    rw [hadd,cellOf ha,Nat.zero_add,List.getElem?_append_left (by rcases Nat.lt_or_ge j news.length with h'|h'; exact h'; rw [List.getElem?_eq_none h'] at hj; cases hj)]; exact hj
  have hsel:Rel C ⟨T,H0⟩ a w:=⟨hr.size,hr.defers,hr.tm,fun x hx=>hr.hp x (hmm x hx),fun x hx=>hr.own x (hmm x hx),hd2,hr.fr⟩
  unfold Oper.wp
  by_cases hroom:n+m≤cap
  · have hrr:=run_append_room (P:=P) w t ty e i ht hi1 b n cap (xs++rest).toArray hb ⟨a0,0,none⟩ m c0 news (by rw [hi2]; exact hml) hnews (fun u hu=>by have:=ho u hu; cases u <;> simp_all [one,Value.oneCell']) hroom (by have hs2:=Nat.mul_le_mul_right s hroom; rw [Nat.add_mul] at hs2; simp [hi2]; omega)
    rw [exec_append (hr.ev hx) (hr.ev hy) hrr]
    have e1:((xs++rest).toArray.toList.take (n*i.size)++news++(xs++rest).toArray.toList.drop (n*i.size+news.length)) = (xs++news)++rest.drop (m*s):=by
      rw [hi2,hml,← hxl]
      simp
    rw [e1]
    have hK:=h b cap (rest.drop (m*s)) (by have hs2:=Nat.mul_le_mul_right s hroom; rw [Nat.add_mul] at hs2; simp; omega)
    refine ⟨_,hK,?_⟩
    have hnew:(w.setRow b ((xs++news)++rest.drop (m*s)).toArray).heap[b]? = some (.cells ((xs++news)++rest.drop (m*s)).toArray e (0,0)):=setRow_heap w b _ _ e _ hb
    have hoth:∀ k,k≠b→(w.setRow b ((xs++news)++rest.drop (m*s)).toArray).heap[k]? = w.heap[k]?:=fun k hk=>setRow_other w b k _ hk
    have hr2:Rel C ⟨T,.blk b ⟨true,xs++rest,e,(0,0)⟩ :: H0⟩ a w:=⟨hr.size,hr.defers,hr.tm,fun x hx=>hr.hp x (hpm.mem_iff.2 hx),fun x hx=>hr.own x (hpm.mem_iff.2 hx),hdd,hr.fr⟩
    exact (hr2.setBlk (B':=⟨true,(xs++news)++rest.drop (m*s),e,(0,0)⟩) (SetAt.head _) rfl hnew hoth (by simp [World.setRow]) rfl rfl rfl).put hd _
  · have hrr := run_append_grow (P := P) w t ty e i zv ht hi1 hi3 ⟨b, 0, none⟩ n cap xs (by rw [hi2]; exact hxl) (fun j u hj => by
      have hadd:(⟨b,0,none⟩:Addr).add j = ⟨b,0+j,none⟩:=by unfold Addr.add; split <;> simp_all
      rw [hadd,cellOf hb,Nat.zero_add]
      rcases Nat.lt_or_ge j xs.length with h'|h'
      · rw [List.getElem?_append_left h']; exact hj
      · rw [List.getElem?_eq_none h'] at hj; cases hj) ⟨a0,0,none⟩ m c0 news (by rw [hi2]; exact hml) hnews om om (growslice_fits om (by rw [hi4]; exact hn))
    rw [exec_append (hr.ev hx) (hr.ev hy) hrr]
    have hge:=grownCap_ge w (n+m) cap e
    have hK:=h w.heap.size (grownCap w (n+m) cap e) (Builtin.zeroCells zv.cells (grownCap w (n+m) cap e-(n+m))).toList (by
      have hzz:=size_zeroCells zv.cells (grownCap w (n+m) cap e-(n+m))
      rw [hz0] at hzz
      rw [← Array.length_toList,Nat.sub_mul,Nat.add_mul] at hzz
      have hs2:=Nat.mul_le_mul_right s hge
      rw [Nat.add_mul] at hs2
      omega)
    refine ⟨_,hK,?_⟩
    have hal:=hsel.drew.alloc ((xs++news)++(Builtin.zeroCells zv.cells (grownCap w (n+m) cap e-(n+m))).toList) e
    have hcs:((xs++news)++(Builtin.zeroCells zv.cells (grownCap w (n+m) cap e-(n+m))).toList).toArray = xs.toArray++news.toArray++Builtin.zeroCells zv.cells (grownCap w (n+m) cap e-(n+m)):=by
      apply Array.ext'
      simp
    rw [hcs] at hal
    exact hal.put hd _
theorem LStepW.appendS {s : Nat} {T : List (Nat × Value)} {H H0 : List Item} {b a0 c0 n cap m bytes : Nat} {zv : Value} {xs rest news : List Value} {wr : Bool} {ea : TypeId} {fz : Nat × Nat} {g : Option (Nat × Bool)} (hx : evT T x = some (.slice (some ⟨b, 0, none⟩) n cap)) (hy : evT T y = some (.slice (some ⟨a0, 0, none⟩) m c0))
    (ht:P.underlying t = some (.slice e)) (hi:infOf P e = some (zv,s,bytes)) (hz0:zv.cells.size = s) (hp:Pick (.blk b ⟨true,xs++rest,e,(0,0)⟩) H H0) (hm:Item.blk a0 ⟨wr,news,ea,fz⟩∈H0) (hxl:xs.length = n*s) (hcl:xs.length+rest.length = cap*s) (hml:news.length = m*s) (ho:AllOne news)
    (hn:(n+m)*bytes≤140737488355328) (hn2:n+m≤1000000000) (hd:d<C.N)
    (h:∀ b' cap' rest',xs.length+news.length+rest'.length = cap'*s→K ⟨(d,.slice (some ⟨b',0,none⟩) (n+m) cap') :: T,.blk b' ⟨true,(xs++news)++rest',e,(0,0)⟩ :: H0⟩):LStepW P C ⟨some d,.call { callee:=.builtin .append,args:=#[x,y],argTypes:=#[t,t] },ty,pos,aft,g⟩ ⟨T,H⟩ K :=
  LStepW.appendSM (cs:=news) (more:=[]) hx hy ht hi hz0 hp hm (List.append_nil _).symm hxl hcl hml ho hn hn2 hd h
theorem LStepW.appendNilS {s : Nat} {T : List (Nat × Value)} {H : List Item} {a0 c0 m bytes : Nat} {zv : Value} {news : List Value} {wr : Bool} {ea : TypeId} {fz : Nat × Nat} {g : Option (Nat × Bool)} (hx : evT T x = some (.slice none 0 0)) (hy : evT T y = some (.slice (some ⟨a0, 0, none⟩) m c0))
    (ht:P.underlying t = some (.slice e)) (hi:infOf P e = some (zv,s,bytes)) (hz0:zv.cells.size = s) (hm:Item.blk a0 ⟨wr,news,ea,fz⟩∈H) (hml:news.length = m*s) (h0:0<m)
    (hn:m*bytes≤140737488355328) (hn2:m≤1000000000) (hd:d<C.N)
    (h:∀ b' cap' rest',news.length+rest'.length = cap'*s→K ⟨(d,.slice (some ⟨b',0,none⟩) m cap') :: T,.blk b' ⟨true,news++rest',e,(0,0)⟩ :: H⟩):LStepW P C ⟨some d,.call { callee:=.builtin .append,args:=#[x,y],argTypes:=#[t,t] },ty,pos,aft,g⟩ ⟨T,H⟩ K:=by
  unfold LStepW
  intro a w hr Qr
  obtain ⟨i,hi1,hi3,hi2,hi4⟩:=inf_spec hi
  have ha:w.heap[a0]? = some (.cells news.toArray ea fz):=hr.hp _ hm
  have hnews:∀ j u,news[j]? = some u→w.cell? ((⟨a0,0,none⟩:Addr).add j) = some u:=fun j u hj=>by
    have hadd:(⟨a0,0,none⟩:Addr).add j = ⟨a0,0+j,none⟩:=by unfold Addr.add; split <;> simp_all
    rw [hadd,cellOf ha,Nat.zero_add]; exact hj
  unfold Oper.wp
  have hrr:=run_append_nil (P:=P) w t ty e i zv ht hi1 hi3 ⟨a0,0,none⟩ m c0 news (by rw [hi2]; exact hml) hnews h0 om (by rw [hi4]; omega)
  rw [exec_append (hr.ev hx) (hr.ev hy) hrr]
  have hge:=grownCap_ge w m 0 e
  have hK:=h w.heap.size (grownCap w m 0 e) (Builtin.zeroCells zv.cells (grownCap w m 0 e-m)).toList (by
    have hzz:=size_zeroCells zv.cells (grownCap w m 0 e-m)
    rw [hz0] at hzz
    rw [← Array.length_toList,Nat.sub_mul] at hzz
    have hs2:=Nat.mul_le_mul_right s hge
    omega)
  refine ⟨_,hK,?_⟩
  have hal:=hr.drew.alloc (news++(Builtin.zeroCells zv.cells (grownCap w m 0 e-m)).toList) e
  have hcs:(news++(Builtin.zeroCells zv.cells (grownCap w m 0 e-m)).toList).toArray = news.toArray++Builtin.zeroCells zv.cells (grownCap w m 0 e-m):=by
    apply Array.ext'
    simp
  rw [hcs] at hal
  exact hal.put hd _
end
end Go.Proofs.YtlmiolnccgjjjaaGreat
set_option linter.unusedVariables false
set_option linter.unusedSimpArgs false
set_option maxRecDepth 20000
namespace Go.Proofs.YtlmiolnccgjjjaaGreat
open Go Go.RowKit
theorem inf_ev:infOf Tryz.prog 101 = some (.agg ([.int .i64 ((0:Nat):Int),.int .i64 ((0:Nat):Int)]:List Value).toArray,2,16):=by kernel_rfl
theorem fill_ev (k:Nat):fillL ((List.range 1).map fun i=>(i*2,2)) [Value.int .i64 ((0:Nat):Int),.int .i64 ((0:Nat):Int)] [(0,.agg ([.int .i64 ((2:Nat):Int),.int .i64 ((k:Nat):Int)]:List Value).toArray)] = some [.int .i64 ((2:Nat):Int),.int .i64 ((k:Nat):Int)]:=fillL_whole rfl rfl
theorem row_ev:((Array.range (1*2)).map fun i=>(Value.agg ([.int .i64 ((0:Nat):Int),.int .i64 ((0:Nat):Int)]:List Value).toArray).cells[i%(Value.agg ([.int .i64 ((0:Nat):Int),.int .i64 ((0:Nat):Int)]:List Value).toArray).cells.size]!) = ([.int .i64 ((0:Nat):Int),.int .i64 ((0:Nat):Int)]:List Value).toArray:=by kernel_rfl
theorem c_trIndex0 (k:Nat) (w:World)  : Calls Tryz.prog 103 ([trV none,.int .i64 ((k:Nat):Int)]:List Value).toArray w (fun e w'=>e = .returned (.int .i64 ((1:Nat):Int))∧Below w.heap.size w w'):=by
  refine Ka (N:=18) (rs:=[.tmp 4]) [] Tryz.func103 rfl Tryz.ntmps103 Tryz.results103 (Nb rfl) trivial rfl ?_
  show LCode _ _ _ ⟨_,_⟩ _
  refine KB (KA ?_)
  refine oP (KR (v:=.int .i64 ((0:Nat):Int)) rfl) ?_
  refine KC ?_
  refine KB ?_
  refine KB (KA ?_)
  refine oM ?_
  refine oP (KG (Det.eqp Tryz.underlying60 rfl rfl) (show _ = Value.bool true from rfl)) ?_
  refine KC ?_
  refine KU rfl ?_
  refine KB (KA ?_)
  refine oP (KR (v:=.int .i64 ((1:Nat):Int)) rfl) ?_
  refine KC (KI ?_)
  refine ⟨[_],.cons rfl .nil,fun a w' hr=>⟨?_,hr.fr.below⟩⟩
  rfl
theorem c_trIndex1 (b k:Nat) (w:World) (hb:trP (some b) none [] w):Calls Tryz.prog 103 ([trV (some b),.int .i64 ((k:Nat):Int)]:List Value).toArray w (fun e w'=>TrR w (some b) none [k] (.int .i64 ((0:Nat):Int)) e w'):=by
  refine calls_wM (N:=18) (rs:=[.tmp 4]) [.blk b ⟨true,[.slice none 0 0],98,(0,0)⟩] (fun j=>j∈trFp (some b) none) Tryz.func103 rfl Tryz.ntmps103 Tryz.results103 (Nb rfl) ⟨hb.1,trivial⟩ (List.pairwise_singleton _ _) (fun x hx _ j hj=>by
    obtain rfl:x = _:=by simpa using hx
    exact hj) ?_
  show LCode _ _ _ ⟨_,_⟩ _
  refine KB (KA ?_)
  refine oP (KR (v:=.int .i64 ((0:Nat):Int)) rfl) ?_
  refine KC ?_
  refine KB ?_
  refine KB (KA ?_)
  refine oM ?_
  refine oP (KG (Det.eqp Tryz.underlying60 rfl rfl) (show _ = Value.bool false from rfl)) ?_
  refine KC ?_
  refine KK rfl ?_
  refine KM ?_
  refine KB (KA ?_)
  refine oM ?_
  refine oM ?_
  refine oP (KL rfl) ?_
  refine oP (KF (o':=0) Tryz.underlying98 rfl rfl rfl sz_66 dc) ?_
  refine oD (dL rfl (hv:=KJ Tryz.underlying66 rfl (by first|rfl|exact KW _ _ _ om|exact KV _ om|exact KT _ om|exact dv_m _ _ _ om))) ?_
  refine oM ?_
  refine oP (KG (Kp pl_101 zr_101 rfl rfl) (show _ = Value.agg ([.int .i64 ((2:Nat):Int),.int .i64 ((k:Nat):Int)]:List Value).toArray from rfl)) ?_
  refine oS (mk (Makes.row (vs:=[(0,.agg ([.int .i64 ((2:Nat):Int),.int .i64 ((k:Nat):Int)]:List Value).toArray)]) Tryz.underlying66 inf_ev dc row_ev rfl (fill_ev k) (fun h=>by cases h)) (fun b14=>?_))
  refine KO rfl (LStepW.appendNilS (s:=2) (news:=[.int .i64 ((2:Nat):Int),.int .i64 ((k:Nat):Int)]) rfl rfl Tryz.underlying66 inf_ev rfl mM rfl dc dc dc (Nb rfl) ?_)
  intro b1 cap1 rest1 hc1
  refine oP (KL rfl) ?_
  refine oP (KF (o':=0) Tryz.underlying98 rfl rfl rfl sz_66 dc) ?_
  refine KO rfl (Kb rfl rfl rfl sz_66 (by repeat (first|exact Sh _|apply St_)) (by first|(simp only [KS,KH,KZ,Km]; omega)|(simp; done)|(simp; omega)) (by first|exact KAA _ _ _ _ _|exact KAF _ _ _ _ om|exact KAC _ _ _ _|rfl) (by simp) ?_)
  refine KC ?_
  refine KB (KA ?_)
  refine oP (KR (v:=.int .i64 ((0:Nat):Int)) rfl) ?_
  refine KC (KI ?_)
  refine ⟨[_],.cons rfl .nil,fun a w' hr=>?_⟩
  have g1:=hr.hp (Item.blk b ⟨true,[.slice (some ⟨b1,0,none⟩) 1 cap1],98,(0,0)⟩) mM
  have g2:=hr.hp (Item.blk b1 ⟨true,[.int .i64 ((2:Nat):Int),.int .i64 ((k:Nat):Int)]++rest1,101,(0,0)⟩) mM
  have o1:=hr.own (Item.blk b ⟨true,[.slice (some ⟨b1,0,none⟩) 1 cap1],98,(0,0)⟩) mM rfl
  have o2:=hr.own (Item.blk b1 ⟨true,[.int .i64 ((2:Nat):Int),.int .i64 ((k:Nat):Int)]++rest1,101,(0,0)⟩) mM rfl
  have hap:b1≠b:=apart_two hr.dist (b:=b) (B:=⟨true,[.slice (some ⟨b1,0,none⟩) 1 cap1],98,(0,0)⟩) (c:=b1) (D:=⟨true,[.int .i64 ((2:Nat):Int),.int .i64 ((k:Nat):Int)]++rest1,101,(0,0)⟩) mM mM rfl (fun e=>absurd (show (98:Nat) = 101 from e) dc)
  exact ⟨some (b1,cap1,rest1),rfl,trI_of ⟨g1,g2,hc1,hap⟩,fun j hj=>(by
    have hj':j = b∨j = b1:=by simpa [trFp] using hj
    rcases hj' with rfl|rfl
    · exact o1 j (.head _)
    · exact o2 j (.head _)),hr.fr⟩
theorem c_trIndex2 (b r cap:Nat) (rest:List Value) (l:List Nat) (k:Nat) (w:World) (hb:trP (some b) (some (r,cap,rest)) l w) (hl:l.length≤100000000):Calls Tryz.prog 103 ([trV (some b),.int .i64 ((k:Nat):Int)]:List Value).toArray w (fun e w'=>TrR w (some b) (some (r,cap,rest)) (l++[k]) (.int .i64 ((0:Nat):Int)) e w'):=by
  refine calls_wM (N:=18) (rs:=[.tmp 4]) [.blk b ⟨true,[.slice (some ⟨r,0,none⟩) l.length cap],98,(0,0)⟩,.blk r ⟨true,evsL l++rest,101,(0,0)⟩] (fun j=>j∈trFp (some b) (some (r,cap,rest))) Tryz.func103 rfl Tryz.ntmps103 Tryz.results103 (Nb rfl) ⟨hb.1,hb.2.1,trivial⟩ (List.pairwise_cons.2 ⟨fun y hy _ j hj hj'=>by
    obtain rfl:y = _:=by simpa using hy
    obtain rfl:j = b:=by simpa [Item.fp] using hj
    exact hb.2.2.2 (by simpa [Item.fp] using hj':j = r).symm,List.pairwise_singleton _ _⟩) (fun x hx _ j hj=>by
    rcases List.mem_cons.1 hx with rfl|hx
    · obtain rfl:j = b:=by simpa [Item.fp] using hj
      exact .head _
    · obtain rfl:x = _:=by simpa using hx
      obtain rfl:j = r:=by simpa [Item.fp] using hj
      exact .tail _ (.head _)) ?_
  show LCode _ _ _ ⟨_,_⟩ _
  refine KB (KA ?_)
  refine oP (KR (v:=.int .i64 ((0:Nat):Int)) rfl) ?_
  refine KC ?_
  refine KB ?_
  refine KB (KA ?_)
  refine oM ?_
  refine oP (KG (Det.eqp Tryz.underlying60 rfl rfl) (show _ = Value.bool false from rfl)) ?_
  refine KC ?_
  refine KK rfl ?_
  refine KM ?_
  refine KB (KA ?_)
  refine oM ?_
  refine oM ?_
  refine oP (KL rfl) ?_
  refine oP (KF (o':=0) Tryz.underlying98 rfl rfl rfl sz_66 dc) ?_
  refine oD (dL rfl (hv:=KJ Tryz.underlying66 rfl (by first|rfl|exact KW _ _ _ om|exact KV _ om|exact KT _ om|exact dv_m _ _ _ om))) ?_
  refine oM ?_
  refine oP (KG (Kp pl_101 zr_101 rfl rfl) (show _ = Value.agg ([.int .i64 ((2:Nat):Int),.int .i64 ((k:Nat):Int)]:List Value).toArray from rfl)) ?_
  refine oS (mk (Makes.row (vs:=[(0,.agg ([.int .i64 ((2:Nat):Int),.int .i64 ((k:Nat):Int)]:List Value).toArray)]) Tryz.underlying66 inf_ev dc row_ev rfl (fill_ev k) (fun h=>by cases h)) (fun b14=>?_))
  refine KO rfl (LStepW.appendS (s:=2) (m:=1) (xs:=evsL l) (rest:=rest) (news:=[.int .i64 ((2:Nat):Int),.int .i64 ((k:Nat):Int)]) rfl rfl Tryz.underlying66 inf_ev rfl mP mM (evsL_length l) (by have:=hb.2.2.1; exact this) rfl (Kf rfl (Kf rfl Ki)) om om (Nb rfl) ?_)
  intro b1 cap1 rest1 hc1
  refine oP (KL rfl) ?_
  refine oP (KF (o':=0) Tryz.underlying98 rfl rfl rfl sz_66 dc) ?_
  refine KO rfl (Kb rfl rfl rfl sz_66 (by repeat (first|exact Sh _|apply St_)) (by first|(simp only [KS,KH,KZ,Km]; omega)|(simp; done)|(simp; omega)) (by first|exact KAA _ _ _ _ _|exact KAF _ _ _ _ om|exact KAC _ _ _ _|rfl) (by simp) ?_)
  refine KC ?_
  refine KB (KA ?_)
  refine oP (KR (v:=.int .i64 ((0:Nat):Int)) rfl) ?_
  refine KC (KI ?_)
  have hc2:(evsL (l++[k])).length+rest1.length = cap1*2:=by rw [evsL_snoc,List.length_append]; exact hc1
  have hsl:(l++[k]).length = l.length+1:=by simp
  refine ⟨[_],.cons rfl .nil,fun a w' hr=>?_⟩
  have g1:=hr.hp (Item.blk b ⟨true,[.slice (some ⟨b1,0,none⟩) (l.length+1) cap1],98,(0,0)⟩) mM
  have g2:=hr.hp (Item.blk b1 ⟨true,(evsL l++[.int .i64 ((2:Nat):Int),.int .i64 ((k:Nat):Int)])++rest1,101,(0,0)⟩) mM
  have o1:=hr.own (Item.blk b ⟨true,[.slice (some ⟨b1,0,none⟩) (l.length+1) cap1],98,(0,0)⟩) mM rfl
  have o2:=hr.own (Item.blk b1 ⟨true,(evsL l++[.int .i64 ((2:Nat):Int),.int .i64 ((k:Nat):Int)])++rest1,101,(0,0)⟩) mM rfl
  have hap:b1≠b:=apart_two hr.dist (b:=b) (B:=⟨true,[.slice (some ⟨b1,0,none⟩) (l.length+1) cap1],98,(0,0)⟩) (c:=b1) (D:=⟨true,(evsL l++[.int .i64 ((2:Nat):Int),.int .i64 ((k:Nat):Int)])++rest1,101,(0,0)⟩) mM mM rfl (fun e=>absurd (show (98:Nat) = 101 from e) dc)
  rw [← evsL_snoc] at g2
  rw [← hsl] at g1
  exact ⟨some (b1,cap1,rest1),rfl,trI_of ⟨g1,g2,hc2,hap⟩,fun j hj=>(by
    have hj':j = b∨j = b1:=by simpa [trFp] using hj
    rcases hj' with rfl|rfl
    · exact o1 j (.head _)
    · exact o2 j (.head _)),hr.fr⟩
def trE (b:Option Nat):Int:=match b with
  | none=>1
  | some _=>0
theorem c_trIndex (b:Option Nat) (r:TrRow) (l:List Nat) (k:Nat) (w:World) (h:(trI b r l).holds w) (hl:l.length≤100000000):Calls Tryz.prog 103 ([trV b,.int .i64 ((k:Nat):Int)]:List Value).toArray w (TrR w b r (l++[k]) (.int .i64 (trE b))):=by
  rcases b with _|b
  · exact (c_trIndex0 k w).mono fun e w' ⟨h1,h2⟩=>TrR.same (trI_of trivial) h1 h2
  · have hp:=trI_P h
    rcases r with _|⟨r,cap,rest⟩
    · obtain rfl:=hp.2
      exact c_trIndex1 b k w hp
    · exact c_trIndex2 b r cap rest l k w hp hl
end Go.Proofs.YtlmiolnccgjjjaaGreat
set_option linter.unusedVariables false
set_option linter.unusedSimpArgs false
set_option maxRecDepth 20000
namespace Go.Proofs.YtlmiolnccgjjjaaGreat
open Go Go.RowKit
theorem neg64 {x:Nat} (h0:x≠0) (hx:x<18446744073709551616):Value.int .u64 (IntKind.u64.wrap (0-(x:Int))) = .int .u64 ((18446744073709551616-x:Nat):Int):=by
  rw [wrap_u64,show (0-(x:Int))%18446744073709551616 = ((18446744073709551616-x:Nat):Int) by omega]
theorem cpl64 {y:Nat} (hy:y<18446744073709551616):Value.int .u64 (IntKind.u64.wrap (BitVec.ofInt IntKind.u64.bits IntKind.u64.max ^^^ BitVec.ofInt IntKind.u64.bits (y:Int)).toNat) = .int .u64 ((18446744073709551615-y:Nat):Int):=by
  have e3:(BitVec.ofInt IntKind.u64.bits IntKind.u64.max ^^^ BitVec.ofInt IntKind.u64.bits (y:Int)).toNat = 18446744073709551615-y:=by
    show (BitVec.ofInt 64 18446744073709551615 ^^^ BitVec.ofInt 64 (y:Int)).toNat = _
    rw [show BitVec.ofInt 64 18446744073709551615 = BitVec.allOnes 64 by decide,BitVec.ofInt_natCast,BitVec.allOnes_xor,BitVec.toNat_not,BitVec.toNat_ofNat,Nat.mod_eq_of_lt (show y<2^64 from hy)]
  rw [e3,wrap_u64_nat,Nat.mod_eq_of_lt om]
theorem or_top {x:Nat} (h0:x≠0) (hx:x<18446744073709551616):9223372036854775808≤x ||| (18446744073709551616-x):=by
  have h1:=(Nat.left_le_or:x≤x ||| (18446744073709551616-x))
  have h2:=(Nat.right_le_or:18446744073709551616-x≤x ||| (18446744073709551616-x))
  omega
theorem xor_zero {a b:Nat}:a ^^^ b = 0↔a = b:=by
  constructor
  · intro h
    have:=congrArg (· ^^^ b) h
    simpa [Nat.xor_assoc] using this
  · rintro rfl; exact Nat.xor_self _
theorem c_spread (b:Nat) (w:World) (hb:b≤1):Calls Tryz.prog 119 ([.int .u64 ((b:Nat):Int)]:List Value).toArray w (fun e w'=>e = .returned (.int .u64 ((if b = 0 then 0 else 18446744073709551615:Nat):Int))∧Below w.heap.size w w'):=by
  refine Ka (N:=6) (rs:=[.tmp 2]) [] Tryz.func119 rfl Tryz.ntmps119 Tryz.results119 (Nb rfl) trivial rfl ?_
  show LCode _ _ _ ⟨_,_⟩ _
  refine KB (KA ?_)
  refine oP (KR (v:=.int .u64 ((0:Nat):Int)) rfl) ?_
  refine KC ?_
  refine KB ?_
  rcases (show b = 0∨b = 1 by omega) with rfl|rfl
  ·
    refine KA ?_
    refine oM ?_
    refine oP (KD rfl rfl (KAY (b:=1) dc dc)) ?_
    refine oP (Det.neg rfl) ?_
    refine oA ?_
    refine KC (KI ?_)
    refine ⟨[_],.cons rfl .nil,fun a w' hr=>⟨?_,hr.fr.below⟩⟩
    rfl
  ·
    refine KA ?_
    refine oM ?_
    refine oP (KD rfl rfl (KAY (b:=1) dc dc)) ?_
    refine oP (Det.neg rfl) ?_
    refine oA ?_
    refine KC (KI ?_)
    refine ⟨[_],.cons rfl .nil,fun a w' hr=>⟨?_,hr.fr.below⟩⟩
    rfl
theorem c_mZero (x:Nat) (w:World) (hx:x<18446744073709551616):Calls Tryz.prog 111 ([.int .u64 ((x:Nat):Int)]:List Value).toArray w (fun e w'=>e = .returned (.int .u64 ((if x = 0 then 18446744073709551615 else 0:Nat):Int))∧Below w.heap.size w w'):=by
  refine Ka (N:=10) (rs:=[.tmp 2]) [] Tryz.func111 rfl Tryz.ntmps111 Tryz.results111 (Nb rfl) trivial rfl ?_
  show LCode _ _ _ ⟨_,_⟩ _
  refine KB (KA ?_)
  refine oP (KR (v:=.int .u64 ((0:Nat):Int)) rfl) ?_
  refine KC ?_
  refine KB ?_
  by_cases h0:x = 0
  ·
    subst h0
    refine KA ?_
    refine oM ?_
    refine oM ?_
    refine oP (Det.neg rfl) ?_
    refine oP (KD rfl rfl (br_or64 (b:=0) dc dc)) ?_
    refine oP (Det.cpl rfl rfl) ?_
    refine oP (KD (v:=.int .u64 ((1:Nat):Int)) rfl rfl (by kernel_rfl)) ?_
    refine oS (cF rfl en_119 rfl (fun w hw=>c_spread 1 w dc) ?_)
    refine oA ?_
    refine KC (KI ?_)
    refine ⟨[_],.cons rfl .nil,fun a w' hr=>⟨rfl,hr.fr.below⟩⟩
  ·
    have ht:=or_top h0 hx
    have hlt:x ||| (18446744073709551616-x)<18446744073709551616:=Nat.or_lt_two_pow (n:=64) hx om
    refine KA ?_
    refine oM ?_
    refine oM ?_
    refine oP (KG (Det.neg rfl) (neg64 h0 hx)) ?_
    refine oP (KD rfl rfl (br_or64 hx om)) ?_
    refine oP (KG (Det.cpl rfl rfl) (cpl64 hlt)) ?_
    refine oP (KG (KD rfl rfl (KAI (b:=63) om)) (vi (b:=0) (Nat.div_eq_of_lt om))) ?_
    refine oS (cF rfl en_119 rfl (fun w hw=>c_spread 0 w dc) ?_)
    refine oA ?_
    refine KC (KI ?_)
    refine ⟨[_],.cons rfl .nil,fun a w' hr=>⟨?_,hr.fr.below⟩⟩
    rw [if_neg h0]
    rfl
theorem c_mEqual (a b:Nat) (w:World) (ha:a<18446744073709551616) (hb:b<18446744073709551616):Calls Tryz.prog 104 ([.int .u64 ((a:Nat):Int),.int .u64 ((b:Nat):Int)]:List Value).toArray w (fun e w'=>e = .returned (.int .u64 ((if a = b then 18446744073709551615 else 0:Nat):Int))∧Below w.heap.size w w'):=by
  refine Ka (N:=9) (rs:=[.tmp 4]) [] Tryz.func104 rfl Tryz.ntmps104 Tryz.results104 (Nb rfl) trivial rfl ?_
  show LCode _ _ _ ⟨_,_⟩ _
  refine KB (KA ?_)
  refine oP (KR (v:=.int .u64 ((0:Nat):Int)) rfl) ?_
  refine KC ?_
  refine KB (KA ?_)
  refine oM ?_
  refine oM ?_
  refine oP (KD rfl rfl (br_xor64 ha hb)) ?_
  refine oS (cF rfl en_111 rfl (fun w hw=>c_mZero (a ^^^ b) w (Nat.xor_lt_two_pow (n:=64) ha hb)) ?_)
  refine oA ?_
  refine KC (KI ?_)
  refine ⟨[_],.cons rfl .nil,fun a_ w' hr=>⟨?_,hr.fr.below⟩⟩
  show Ending.returned (.int .u64 ((if a ^^^ b = 0 then 18446744073709551615 else 0:Nat):Int)) = _
  by_cases h:a = b
  · rw [if_pos h,if_pos (xor_zero.2 h)]
  · rw [if_neg h,if_neg (fun e=>h (xor_zero.1 e))]
theorem andNot_0 {b:Nat} (hb:b<18446744073709551616):Ku .andNot .u64 (b:Int) .u64 ((0:Nat):Int) = some (.int .u64 (b:Int)):=by
  simp only [Ku,if_true]
  have e:(BitVec.ofInt 64 (b:Int) &&& ~~~BitVec.ofInt 64 0).toNat = b:=by
    rw [show ~~~BitVec.ofInt 64 0 = BitVec.allOnes 64 by decide,BitVec.and_allOnes,BitVec.ofInt_natCast,BitVec.toNat_ofNat,Nat.mod_eq_of_lt (show b<2^64 from hb)]
  show some (Value.int .u64 (IntKind.u64.wrap ((BitVec.ofInt 64 (b:Int) &&& ~~~BitVec.ofInt 64 0).toNat:Int))) = _
  rw [e,wrap_u64_nat,Nat.mod_eq_of_lt hb]
theorem andNot_m {b:Nat}:Ku .andNot .u64 (b:Int) .u64 ((18446744073709551615:Nat):Int) = some (.int .u64 ((0:Nat):Int)):=by
  simp only [Ku,if_true]
  have e:(BitVec.ofInt 64 (b:Int) &&& ~~~BitVec.ofInt 64 18446744073709551615).toNat = 0:=by
    rw [show ~~~BitVec.ofInt 64 18446744073709551615 = 0#64 by decide,BitVec.and_zero]; rfl
  show some (Value.int .u64 (IntKind.u64.wrap ((BitVec.ofInt 64 (b:Int) &&& ~~~BitVec.ofInt 64 18446744073709551615).toNat:Int))) = _
  rw [e]; rfl
theorem and_max {a:Nat} (ha:a<18446744073709551616):a &&& 18446744073709551615 = a:=by
  rw [show 18446744073709551615 = 2^64-1 from rfl,Nat.and_two_pow_sub_one_eq_mod]
  exact Nat.mod_eq_of_lt ha
theorem c_word (m a b:Nat) (w:World) (hm:m = 0∨m = 18446744073709551615) (ha:a<18446744073709551616) (hb:b<18446744073709551616):Calls Tryz.prog 113 ([.agg ([.int .u64 ((m:Nat):Int)]:List Value).toArray,.int .u64 ((a:Nat):Int),.int .u64 ((b:Nat):Int)]:List Value).toArray w (fun e w'=>e = .returned (.int .u64 ((if m = 0 then b else a:Nat):Int))∧Below w.heap.size w w'):=by
  refine Ka (N:=16) (rs:=[.tmp 6]) [] Tryz.func113 rfl Tryz.ntmps113 Tryz.results113 (Nb rfl) trivial rfl ?_
  show LCode _ _ _ ⟨_,_⟩ _
  refine KB (KA ?_)
  refine oS (mB (fun b3=>?_))
  refine oP (KR (v:=.int .u64 ((0:Nat):Int)) rfl) ?_
  refine KC ?_
  refine KB ?_
  rcases hm with rfl|rfl
  ·
    refine KA ?_
    refine oM ?_
    refine oP (KF (o':=0) Tryz.underlying177 rfl rfl rfl sz_22 dc) ?_
    refine oD (dL rfl (hv:=KJ Tryz.underlying22 rfl (by first|rfl|exact KW _ _ _ om|exact KV _ om|exact KT _ om|exact dv_m _ _ _ om))) ?_
    refine oP (KG (KD rfl rfl (KAY (b:=0) ha dc)) (vi (b:=0) (Nat.and_zero _))) ?_
    refine oM ?_
    refine oP (KF (o':=0) Tryz.underlying177 rfl rfl rfl sz_22 dc) ?_
    refine oD (dL rfl (hv:=KJ Tryz.underlying22 rfl (by first|rfl|exact KW _ _ _ om|exact KV _ om|exact KT _ om|exact dv_m _ _ _ om))) ?_
    refine oP (KD rfl rfl (andNot_0 hb)) ?_
    refine oP (KG (KD rfl rfl (br_or64 (a:=0) dc hb)) (vi (b:=b) (Nat.zero_or _))) ?_
    refine oA ?_
    refine KC (KI ?_)
    refine ⟨[_],.cons rfl .nil,fun a w' hr=>⟨?_,hr.fr.below⟩⟩
    rfl
  ·
    refine KA ?_
    refine oM ?_
    refine oP (KF (o':=0) Tryz.underlying177 rfl rfl rfl sz_22 dc) ?_
    refine oD (dL rfl (hv:=KJ Tryz.underlying22 rfl (by first|rfl|exact KW _ _ _ om|exact KV _ om|exact KT _ om|exact dv_m _ _ _ om))) ?_
    refine oP (KG (KD rfl rfl (KAY (b:=18446744073709551615) ha dc)) (vi (b:=a) (and_max ha))) ?_
    refine oM ?_
    refine oP (KF (o':=0) Tryz.underlying177 rfl rfl rfl sz_22 dc) ?_
    refine oD (dL rfl (hv:=KJ Tryz.underlying22 rfl (by first|rfl|exact KW _ _ _ om|exact KV _ om|exact KT _ om|exact dv_m _ _ _ om))) ?_
    refine oP (KD rfl rfl andNot_m) ?_
    refine oP (KG (KD rfl rfl (br_or64 (b:=0) ha dc)) (vi (b:=a) (Nat.or_zero _))) ?_
    refine oA ?_
    refine KC (KI ?_)
    refine ⟨[_],.cons rfl .nil,fun a w' hr=>⟨?_,hr.fr.below⟩⟩
    rfl
theorem c_wordL (m A B R x:Nat) (w:World) (hm:m = 0∨m = 18446744073709551615) (hR:R = if m = 0 then B else A):Calls Tryz.prog 113 ([.agg ([.int .u64 ((m:Nat):Int)]:List Value).toArray,.int .u64 ((limb A x:Nat):Int),.int .u64 ((limb B x:Nat):Int)]:List Value).toArray w (fun e w'=>e = .returned (.int .u64 ((limb R x:Nat):Int))∧Below w.heap.size w w'):=by
  have h:=c_word m (limb A x) (limb B x) w hm (limb_lt _ _) (limb_lt _ _)
  rw [show limb R x = if m = 0 then limb B x else limb A x by rw [hR]; split <;> rfl]
  exact h
theorem mix_get {R A x:Nat} (h:x<9):(vec .u64 9 (fun k=>if k<x then limb R k else limb A k))[x]? = some (.int .u64 ((limb A x:Nat):Int)):=by
  rw [KW _ _ _ h,if_neg (Nat.lt_irrefl x)]
theorem mix_step (R A x:Nat):vec .u64 9 (fun j=>if j = x then limb R x else (if j<x then limb R j else limb A j)) = vec .u64 9 (fun k=>if k<x+1 then limb R k else limb A k):=Ks fun k _=>by
  by_cases e:k = x
  · subst e; rw [if_pos rfl,if_pos (Nat.lt_succ_self _)]
  · rw [if_neg e]
    by_cases l:k<x
    · rw [if_pos l,if_pos om]
    · rw [if_neg l,if_neg om]
theorem c_mNat (m A B R:Nat) (w:World) (hm:m = 0∨m = 18446744073709551615) (hR:R = if m = 0 then B else A):Calls Tryz.prog 112 ([.func (.func 113) #[.agg ([.int .u64 ((m:Nat):Int)]:List Value).toArray] #[],natV A,natV B]:List Value).toArray w (fun e w'=>e = .returned (natV R)∧Below w.heap.size w w'):=by
  refine Ka (N:=26) (rs:=[.cell 6 25]) [] Tryz.func112 rfl Tryz.ntmps112 Tryz.results112 (Nb rfl) trivial rfl ?_
  show LCode _ _ _ ⟨_,_⟩ _
  refine KB (KA ?_)
  refine oS (mB (fun b4=>?_))
  refine oS (mB (fun b5=>?_))
  refine oS (mk (KP zr_25) (fun b6=>?_))
  refine KC ?_
  refine KB ?_
  refine KB (KA ?_)
  refine oP (Kr (v:=.int .i64 ((0:Nat):Int)) rfl) ?_
  refine KC ?_
  refine LCode.block ?_
  refine Kh (α:=Nat) (fun x=>x≤9) (fun x=>⟨[(0,.func (.func 113) #[.agg ([.int .u64 ((m:Nat):Int)]:List Value).toArray] #[]),(4,.pointer (some ⟨b4,0,none⟩)),(5,.pointer (some ⟨b5,0,none⟩)),(6,.pointer (some ⟨b6,0,none⟩)),(8,.int .i64 ((x:Nat):Int))],[.blk b6 ⟨true,vec .u64 9 (fun _=>0),25,(0,0)⟩,.blk b5 ⟨true,natL B,25,(0,0)⟩,.blk b4 ⟨true,vec .u64 9 (fun k=>if k<x then limb R k else limb A k),25,(0,0)⟩]⟩) (fun x=>9-x) (0) (Nat.zero_le _) (Kw (Sub.cells (b:=b4) (cs':=vec .u64 9 (fun k=>if k<0 then limb R k else limb A k)) (by repeat (first|exact Sh _|apply St_)) (Ks fun k _=>(if_neg (Nat.not_lt_zero k)).symm)) (Kd ⟨rfl,rfl,rfl,rfl,rfl,trivial⟩ mS)) ?_
  intro x hx
  refine KB (KA ?_)
  refine oP (KD rfl rfl (KAR (b:=9))) ?_
  refine KC ?_
  refine KB ?_
  first|refine KN rfl (fun h9=>?_) (fun h9=>?_)|refine KQ rfl (fun h9=>?_) (fun h9=>?_)
  ·
    have h9:x<9:=h9
    refine KM ?_
    refine KB ?_
    refine LCode.block ?_
    refine KB (KA ?_)
    refine oM ?_
    refine oA ?_
    refine KC ?_
    refine rD [13] ?_
    refine aM 0 ?_
    refine aM 1 ?_
    refine aM 2 ?_
    refine aP 3 rfl (KF (o':=0) Tryz.underlying25 rfl rfl rfl sz_23 dc) ?_
    refine aP 4 rfl (Kg Tryz.underlying23 sz_22 rfl rfl om) ?_
    refine aD 5 rfl (dL rfl (hv:=KJ Tryz.underlying22 rfl (by exact mix_get om))) ?_
    refine aM 6 ?_
    refine aP 7 rfl (KF (o':=0) Tryz.underlying25 rfl rfl rfl sz_23 dc) ?_
    refine aP 8 rfl (Kg Tryz.underlying23 sz_22 rfl rfl om) ?_
    refine aD 9 rfl (dL rfl (hv:=KJ Tryz.underlying22 rfl (by first|rfl|exact KW _ _ _ om|exact KV _ om|exact KT _ om|exact dv_m _ _ _ om))) ?_
    refine aP 11 rfl (KF (o':=0) Tryz.underlying25 rfl rfl rfl sz_23 dc) ?_
    refine aO 10 rfl (KAG (first:=[.agg ([.int .u64 ((m:Nat):Int)]:List Value).toArray]) rfl en_113 rfl (Nb rfl) (fun w hw=>c_wordL m A B R x w hm hR) ?_)
    refine aP 12 rfl (Kg Tryz.underlying23 sz_22 rfl rfl om) ?_
    refine aL 13 rfl (Kb rfl rfl rfl sz_22 (by repeat (first|exact Sh _|apply St_)) (by first|(simp only [KS,KH,KZ,Km]; omega)|(simp; done)|(simp; omega)) (by first|exact KAA _ _ _ _ _|exact KAF _ _ _ _ om|exact KAC _ _ _ _|rfl) (by simp) ?_)
    refine aE ?_
    refine KA ?_
    refine oP (KD rfl rfl (Kn (b:=1) om)) ?_
    refine oM ?_
    refine KC ?_
    refine ⟨x+1,by omega,by omega,Kw (Sub.cells (b:=b4) (cs':=vec .u64 9 (fun k=>if k<x+1 then limb R k else limb A k)) (by repeat (first|exact Sh _|apply St_)) (mix_step R A x)) (Kd ⟨rfl,rfl,rfl,rfl,rfl,trivial⟩ mS)⟩
  ·
    have h9:¬ x<9:=h9
    refine Ke ?_
    refine KB ?_
    obtain rfl:x = 9:=by omega
    refine LCode.sub (Sub.cells (b:=b4) (cs':=natL R) (by repeat (first|exact Sh _|apply St_)) (Ks fun k hk=>by rw [if_pos hk])) ?_
    refine KA ?_
    refine oD (dL rfl (hv:=by exact KE Tryz.underlying25 rfl sz_25)) ?_
    refine KO rfl (sA rfl rfl sz_25 mO (hl:=mL) (h:=?_))
    refine KC (KI ?_)
    refine ⟨[_],.cons ⟨_,_,_,rfl,mM,by exact KE Tryz.underlying25 rfl sz_25⟩ .nil,fun a w' hr=>⟨?_,hr.fr.below⟩⟩
    rfl
theorem c_mSelect (m A B R:Nat) (w:World) (hm:m = 0∨m = 18446744073709551615) (hR:R = if m = 0 then B else A):Calls Tryz.prog 105 ([.int .u64 ((m:Nat):Int),natV A,natV B]:List Value).toArray w (fun e w'=>e = .returned (natV R)∧Below w.heap.size w w'):=by
  refine Ka (N:=13) (rs:=[.cell 6 25]) [] Tryz.func105 rfl Tryz.ntmps105 Tryz.results105 (Nb rfl) trivial rfl ?_
  show LCode _ _ _ ⟨_,_⟩ _
  refine KB (KA ?_)
  refine oS (mB (fun b4=>?_))
  refine oS (mB (fun b5=>?_))
  refine oS (mk (KP zr_25) (fun b6=>?_))
  refine KC ?_
  refine KB (KA ?_)
  refine oM ?_
  refine oP (KG (Kp pl_177 zr_177 rfl rfl) (show _ = Value.agg ([.int .u64 ((m:Nat):Int)]:List Value).toArray from rfl)) ?_
  refine oP (Det.makeFunc1 rfl) ?_
  refine oD (dL rfl (hv:=by exact KE Tryz.underlying25 rfl sz_25)) ?_
  refine oD (dL rfl (hv:=by exact KE Tryz.underlying25 rfl sz_25)) ?_
  refine oS (cF rfl en_112 rfl (fun w hw=>c_mNat m A B R w hm hR) ?_)
  refine KO rfl (sA rfl rfl sz_25 mO (hl:=mL) (h:=?_))
  refine KC (KI ?_)
  refine ⟨[_],.cons ⟨_,_,_,rfl,mM,by exact KE Tryz.underlying25 rfl sz_25⟩ .nil,fun a w' hr=>⟨?_,hr.fr.below⟩⟩
  rfl
end Go.Proofs.YtlmiolnccgjjjaaGreat
set_option linter.unusedVariables false
set_option linter.unusedSimpArgs false
set_option maxRecDepth 20000
namespace Go.Proofs.YtlmiolnccgjjjaaGreat
open Go Go.RowKit
open Grp
def ptPL {p:Nat} (P:Pt p):List Value:=ptL (xv P) (yv P) (iv P)
theorem ptPL_length {p:Nat} (P:Pt p):(ptPL P).length = 19:=KX _ _ _
theorem ptPL_one {p:Nat} (P:Pt p):AllOne (ptPL P):=KAB _ _ _
def tabL {p:Nat} (E:Nat→Pt p):Nat→List Value
  | 0=>[]
  | n+1=>tabL E n++ptPL (E n)
theorem tabL_length {p:Nat} (E:Nat→Pt p):∀ n,(tabL E n).length = n*19
  | 0=>rfl
  | n+1=>by show (tabL E n++ptPL (E n)).length = _; rw [List.length_append,tabL_length E n,ptPL_length]; omega
theorem tabL_at {p:Nat} (E:Nat→Pt p) {k:Nat}:∀ {n},k<n→∃ post,tabL E n = tabL E k++(ptPL (E k)++post)
  | 0,h=>by omega
  | n+1,h=>by
    by_cases e:k = n
    · subst e; exact ⟨[],by rw [List.append_nil]; rfl⟩
    · obtain ⟨post,hp⟩:=tabL_at E (show k<n by omega)
      exact ⟨post++ptPL (E n),by show tabL E n++ptPL (E n) = _; rw [hp]; simp only [List.append_assoc]⟩
theorem tab_load {p:Nat} {wr:Bool} {e:TypeId} {fz:Nat×Nat} (E:Nat→Pt p) {k n:Nat} (h:k<n) (rest:List Value):LoadV Tryz.prog 83 ⟨wr,tabL E n++rest,e,fz⟩ (0+k*19) (ptP (E k)):=by
  obtain ⟨post,hp⟩:=tabL_at E h
  exact LoadV.mid (pre:=tabL E k) (cs:=ptPL (E k)) (post:=post++rest) Tryz.underlying83 rfl sz_83 (by show tabL E n++rest = _; rw [hp]; simp only [List.append_assoc]) (by rw [tabL_length]; omega) (ptPL_length _)
theorem inf_pt:infOf Tryz.prog 83 = some (.agg (vec .u64 9 (fun _=>0)++(vec .u64 9 (fun _=>0)++[Value.bool false]):List Value).toArray,19,152):=by kernel_rfl
theorem fill_ptR {p:Nat} (P:Pt p):fillL ((List.range 1).map fun i=>(i*19,19)) (vec .u64 9 (fun _=>0)++(vec .u64 9 (fun _=>0)++[Value.bool false])) [(0,.agg (ptPL P).toArray)] = some (ptPL P):=fillL_whole (by simp [KS]) (ptPL_length P)
theorem row_pt:((Array.range (1*19)).map fun i=>(Value.agg (vec .u64 9 (fun _=>0)++(vec .u64 9 (fun _=>0)++[Value.bool false]):List Value).toArray).cells[i%(Value.agg (vec .u64 9 (fun _=>0)++(vec .u64 9 (fun _=>0)++[Value.bool false]):List Value).toArray).cells.size]!) = (vec .u64 9 (fun _=>0)++(vec .u64 9 (fun _=>0)++[Value.bool false]):List Value).toArray:=by kernel_rfl
noncomputable abbrev mulE (V:Cv) (P:Pt V.p):Nat→Pt V.p:=fun j=>pmul V.A P j
structure TabS (p:Nat) where
  k:Nat
  T:Fin p×Fin p×Fin p
  br:Nat
  cap:Nat
  rest:List Value
theorem Brings.two {w w':World} {b c:Nat} {B D:Blk} (hb:Below w.heap.size w w') (h1:(Item.blk b B).holds w') (h2:(Item.blk c D).holds w') (n1:w.heap.size≤b) (n2:w.heap.size≤c) (hne:c≠b):Brings w [] [.blk b B,.blk c D] w':=by
  have key:∀ x,x∈[Item.blk b B,.blk c D]→∀ k,k∈x.fp→w.heap.size≤k:=fun x hx k hk=>by
    rcases List.mem_cons.1 hx with rfl|hx
    · obtain rfl:k = b:=by simpa [Item.fp] using hk
      exact n1
    · obtain rfl:x = _:=by simpa using hx
      obtain rfl:k = c:=by simpa [Item.fp] using hk
      exact n2
  refine ⟨hb,fun x hx=>?_,fun x hx k hk=>.inl (key x hx k hk),fun x hx _=>key x hx,List.pairwise_cons.2 ⟨fun y hy _ k hk hk'=>?_,List.pairwise_singleton _ _⟩⟩
  · rcases List.mem_cons.1 hx with rfl|hx
    · exact h1
    · obtain rfl:x = _:=by simpa using hx
      exact h2
  · obtain rfl:y = _:=by simpa using hy
    obtain rfl:k = b:=by simpa [Item.fp] using hk
    exact hne (by simpa [Item.fp] using hk':k = c).symm
theorem bringsC {P:Program} {f:FuncId} {a:Array Value} {w:World} {Q:Value→List Item→Prop} (h:Calls P f a w (fun e w'=>∃ v its,Q v its∧e = .returned v∧Brings w [] its w')) (H:List Item):Calls P f a w (fun e w'=>∃ v its,Q v its∧e = .returned v∧Brings w H its w') :=
  h.mono fun e w' ⟨v,its,h1,h2,h3⟩=>⟨v,its,h1,h2,h3.more (fun x hx=>by cases hx)⟩
theorem c_tabOf (V:Cv) (b f bd:Nat) (hok:V.Ok) (P:Pt V.p) (hP:On V.A V.B P) (n:Nat) (hn0:1≤n) (hn:n≤16) (w:World) (hb:(Item.blk b ⟨false,opL V f,92,(0,0)⟩).holds w) (hf:(Item.blk f ⟨false,fldL V.p bd,116,(0,0)⟩).holds w) (hbd:(Item.blk bd ⟨false,dvL V.p,167,(0,0)⟩).holds w):Calls Tryz.prog 70 ([.pointer (some ⟨b,0,none⟩),ptP P,.int .i64 ((n:Nat):Int)]:List Value).toArray w (fun e w'=>∃ v its,(fun v its=>∃ bt br cap rest,v = .pointer (some ⟨bt,0,none⟩)∧its = [.blk bt ⟨true,[.slice (some ⟨br,0,none⟩) n cap],156,(0,0)⟩,.blk br ⟨true,tabL (mulE V P) n++rest,83,(0,0)⟩]) v its∧e = .returned v∧Brings w [] its w'):=by
  refine Ka (N:=36) (rs:=[.tmp 6]) [.blk b ⟨false,opL V f,92,(0,0)⟩,.blk f ⟨false,fldL V.p bd,116,(0,0)⟩,.blk bd ⟨false,dvL V.p,167,(0,0)⟩] Tryz.func70 rfl Tryz.ntmps70 Tryz.results70 (Nb rfl) ⟨hb,hf,hbd,trivial⟩ rfl ?_
  show LCode _ _ _ ⟨_,_⟩ _
  refine KB (KA ?_)
  refine oS (mB (fun b4=>?_))
  refine oA ?_
  refine KC ?_
  refine KB (KA ?_)
  refine oP (Kp pl_156 zr_156 rfl rfl) ?_
  refine oS (mB (fun b11=>?_))
  refine oA ?_
  refine KC ?_
  refine KB (KA ?_)
  refine oD (dL rfl (hv:=by exact KE Tryz.underlying83 rfl sz_83)) ?_
  refine oS (cF rfl en_92 rfl (fun w hw=>c_Triple V hok P w) ?_)
  refine oS (cF rfl en_89 rfl (fun w hw=>c_NoneF hok w) ?_)
  refine oS (mk (KP zr_148) (fun b8=>?_))
  refine oS (mk (KP zr_148) (fun b9=>?_))
  refine KO rfl (sA rfl rfl sz_148 (by exact pjFL_one _) (hl:=by exact pjFL_length _) (h:=?_))
  refine KO rfl (sA rfl rfl sz_148 (by exact pjFL_one _) (hl:=by exact pjFL_length _) (h:=?_))
  refine KC ?_
  refine KB ?_
  refine KB (KA ?_)
  refine oM ?_
  refine oP (Kr (v:=.int .i64 ((0:Nat):Int)) rfl) ?_
  refine KC ?_
  refine LCode.block ?_
  refine Kh (α:=Option (TabS V.p)) (fun x=>match x with|none=>True|some y=>1≤y.k∧y.k≤n∧RepT V y.T (pmul V.A P y.k)∧(tabL (mulE V P) y.k).length+y.rest.length = y.cap*19) (fun x=>match x with|none=>⟨[(0,.pointer (some ⟨b,0,none⟩)),(7,.pointer (some ⟨b11,0,none⟩)),(8,.pointer (some ⟨b8,0,none⟩)),(9,.pointer (some ⟨b9,0,none⟩)),(15,.int .i64 ((n:Nat):Int)),(16,.int .i64 ((0:Nat):Int))],[.blk b11 ⟨true,[.slice none 0 0],156,(0,0)⟩,.blk b9 ⟨true,pjFL (tripF (.inf:Pt V.p)),148,(0,0)⟩,.blk b8 ⟨true,pjFL (tripF P),148,(0,0)⟩,.blk b ⟨false,opL V f,92,(0,0)⟩,.blk f ⟨false,fldL V.p bd,116,(0,0)⟩,.blk bd ⟨false,dvL V.p,167,(0,0)⟩]⟩|some y=>⟨[(0,.pointer (some ⟨b,0,none⟩)),(7,.pointer (some ⟨b11,0,none⟩)),(8,.pointer (some ⟨b8,0,none⟩)),(9,.pointer (some ⟨b9,0,none⟩)),(15,.int .i64 ((n:Nat):Int)),(16,.int .i64 ((y.k:Nat):Int))],[.blk b11 ⟨true,[.slice (some ⟨y.br,0,none⟩) y.k y.cap],156,(0,0)⟩,.blk y.br ⟨true,tabL (mulE V P) y.k++y.rest,83,(0,0)⟩,.blk b9 ⟨true,pjFL y.T,148,(0,0)⟩,.blk b8 ⟨true,pjFL (tripF P),148,(0,0)⟩,.blk b ⟨false,opL V f,92,(0,0)⟩,.blk f ⟨false,fldL V.p bd,116,(0,0)⟩,.blk bd ⟨false,dvL V.p,167,(0,0)⟩]⟩) (fun x=>match x with|none=>n+1|some y=>n-y.k) (none) (trivial) (Kd ⟨rfl,rfl,rfl,rfl,rfl,rfl,trivial⟩ mS) ?_
  intro x hx
  refine KB ?_
  rcases x with _|⟨k,T,br,cap,rest⟩
  ·
    refine KA ?_
    refine oP (KD (v:=.bool true) rfl rfl (br_t KAR om)) ?_
    refine KC ?_
    refine KB ?_
    refine KU rfl ?_
    refine KM ?_
    refine KB ?_
    refine LCode.block ?_
    refine KB ?_
    refine rD [9,12] ?_
    refine aM 0 ?_
    refine aM 1 ?_
    refine aP 2 rfl (KL rfl) ?_
    refine aP 3 rfl (KF (o':=0) Tryz.underlying156 rfl rfl rfl sz_154 dc) ?_
    refine aD 4 rfl (dL rfl (hv:=KJ Tryz.underlying154 rfl (by first|rfl|exact KW _ _ _ om|exact KV _ om|exact KT _ om|exact dv_m _ _ _ om))) ?_
    refine aM 5 ?_
    refine aO 6 rfl (LStep.det (dL rfl (hv:=by exact KE Tryz.underlying148 rfl sz_148)) (Nb rfl) ?_)
    refine aO 7 rfl (cF rfl en_93 rfl (fun w hw=>c_PlainT V b f bd hok (tripF (.inf:Pt V.p)) (mulE V P 0) w (mC hw) (mC hw) (mC hw) (RepT.trip hok trivial)) ?_)
    refine aO 8 rfl (mk (Makes.row (vs:=[(0,.agg (ptPL (mulE V P 0)).toArray)]) Tryz.underlying154 inf_pt dc row_pt rfl (fill_ptR (mulE V P 0)) (fun h=>by cases h)) (fun b26=>?_))
    refine aL 9 rfl (LStepW.appendNilS (s:=19) (news:=ptPL (mulE V P 0)) rfl rfl Tryz.underlying154 inf_pt rfl mM (ptPL_length _) dc dc dc (Nb rfl) ?_)
    intro b1 cap1 rest1 hc1
    refine aP 10 rfl (KL rfl) ?_
    refine aP 11 rfl (KF (o':=0) Tryz.underlying156 rfl rfl rfl sz_154 dc) ?_
    refine aL 12 rfl (Kb rfl rfl rfl sz_154 (by repeat (first|exact Sh _|apply St_)) (by first|(simp only [KS,KH,KZ,Km]; omega)|(simp; done)|(simp; omega)) (by first|exact KAA _ _ _ _ _|exact KAF _ _ _ _ om|exact KAC _ _ _ _|rfl) (by simp) ?_)
    refine aE ?_
    refine KA ?_
    refine oM ?_
    refine oD (dL rfl (hv:=by exact KE Tryz.underlying148 rfl sz_148)) ?_
    refine oD (dL rfl (hv:=by exact KE Tryz.underlying148 rfl sz_148)) ?_
    refine oS (cF rfl en_90 rfl (fun w hw=>c_SumT V b f bd hok (tripF (.inf:Pt V.p)) (tripF P) w (mC hw) (mC hw) (mC hw)) ?_)
    refine KO rfl (sA rfl rfl sz_148 (by exact pjFL_one _) (hl:=by exact pjFL_length _) (h:=?_))
    refine KC ?_
    refine KA ?_
    refine oP (KD rfl rfl (Kn (b:=1) om)) ?_
    refine oM ?_
    refine KC ?_
    exact ⟨some ⟨0+1,sumT V (tripF (.inf:Pt V.p)) (tripF P),b1,cap1,rest1⟩,⟨Nat.le_add_left _ _,by show 0+1≤n; omega,RepT.sum hok (RepT.trip hok trivial) (RepT.trip hok hP),by rw [ptPL_length] at hc1; show (tabL (mulE V P) (0+1)).length+rest1.length = cap1*19; rw [tabL_length]; omega⟩,by show n-(0+1)<n+1; omega,Kw (Sub.cells (b:=b1) (cs':=tabL (mulE V P) (0+1)++rest1) (by repeat (first|exact Sh _|apply St_)) (by rfl)) (Kd ⟨rfl,rfl,rfl,rfl,rfl,rfl,trivial⟩ mS)⟩
  ·
    obtain ⟨hk1,hkn,hT,hcap⟩:=hx
    dsimp only at hk1 hkn hT hcap
    refine KA ?_
    refine oP (KD rfl rfl (KAR)) ?_
    refine KC ?_
    refine KB ?_
    first|refine KN rfl (fun h17=>?_) (fun h17=>?_)|refine KQ rfl (fun h17=>?_) (fun h17=>?_)
    ·
      have h17:k<n:=h17
      refine KM ?_
      refine KB ?_
      refine LCode.block ?_
      refine KB ?_
      refine rD [9,12] ?_
      refine aM 0 ?_
      refine aM 1 ?_
      refine aP 2 rfl (KL rfl) ?_
      refine aP 3 rfl (KF (o':=0) Tryz.underlying156 rfl rfl rfl sz_154 dc) ?_
      refine aD 4 rfl (dL rfl (hv:=KJ Tryz.underlying154 rfl (by first|rfl|exact KW _ _ _ om|exact KV _ om|exact KT _ om|exact dv_m _ _ _ om))) ?_
      refine aM 5 ?_
      refine aO 6 rfl (LStep.det (dL rfl (hv:=by exact KE Tryz.underlying148 rfl sz_148)) (Nb rfl) ?_)
      refine aO 7 rfl (cF rfl en_93 rfl (fun w hw=>c_PlainT V b f bd hok (T) (mulE V P k) w (mC hw) (mC hw) (mC hw) (hT)) ?_)
      refine aO 8 rfl (mk (Makes.row (vs:=[(0,.agg (ptPL (mulE V P k)).toArray)]) Tryz.underlying154 inf_pt dc row_pt rfl (fill_ptR (mulE V P k)) (fun h=>by cases h)) (fun b26=>?_))
      refine aL 9 rfl (LStepW.appendS (s:=19) (m:=1) (xs:=tabL (mulE V P) k) (rest:=rest) (news:=ptPL (mulE V P k)) rfl rfl Tryz.underlying154 inf_pt rfl mP mM (tabL_length _ _) hcap (ptPL_length _) (ptPL_one _) om om (Nb rfl) ?_)
      intro b1 cap1 rest1 hc1
      refine aP 10 rfl (KL rfl) ?_
      refine aP 11 rfl (KF (o':=0) Tryz.underlying156 rfl rfl rfl sz_154 dc) ?_
      refine aL 12 rfl (Kb rfl rfl rfl sz_154 (by repeat (first|exact Sh _|apply St_)) (by first|(simp only [KS,KH,KZ,Km]; omega)|(simp; done)|(simp; omega)) (by first|exact KAA _ _ _ _ _|exact KAF _ _ _ _ om|exact KAC _ _ _ _|rfl) (by simp) ?_)
      refine aE ?_
      refine KA ?_
      refine oM ?_
      refine oD (dL rfl (hv:=by exact KE Tryz.underlying148 rfl sz_148)) ?_
      refine oD (dL rfl (hv:=by exact KE Tryz.underlying148 rfl sz_148)) ?_
      refine oS (cF rfl en_90 rfl (fun w hw=>c_SumT V b f bd hok (T) (tripF P) w (mC hw) (mC hw) (mC hw)) ?_)
      refine KO rfl (sA rfl rfl sz_148 (by exact pjFL_one _) (hl:=by exact pjFL_length _) (h:=?_))
      refine KC ?_
      refine KA ?_
      refine oP (KD rfl rfl (Kn (b:=1) om)) ?_
      refine oM ?_
      refine KC ?_
      exact ⟨some ⟨k+1,sumT V T (tripF P),b1,cap1,rest1⟩,⟨Nat.le_add_left _ _,by show k+1≤n; omega,RepT.sum hok hT (RepT.trip hok hP),by rw [tabL_length,ptPL_length] at hc1; show (tabL (mulE V P) (k+1)).length+rest1.length = cap1*19; rw [tabL_length]; omega⟩,by show n-(k+1)<n-k; omega,Kw (Sub.cells (b:=b1) (cs':=tabL (mulE V P) (k+1)++rest1) (by repeat (first|exact Sh _|apply St_)) (by rfl)) (Kd ⟨rfl,rfl,rfl,rfl,rfl,rfl,trivial⟩ mS)⟩
    ·
      have h17:¬ k<n:=h17
      refine Ke ?_
      refine KB (KA ?_)
      refine oM ?_
      refine oA ?_
      refine KC (KI ?_)
      obtain rfl:k = n:=by omega
      exact ⟨[_],.cons rfl .nil,fun a w' hr=>⟨_,_,⟨b11,br,cap,rest,rfl,rfl⟩,rfl,Brings.two hr.fr.below (hr.hp (.blk b11 ⟨true,_,_,_⟩) mM) (hr.hp (.blk br ⟨true,_,_,_⟩) mM) (hr.new (b:=b11) (B:=⟨true,_,_,_⟩) mM rfl) (hr.new (b:=br) (B:=⟨true,_,_,_⟩) mM rfl) (apart_two hr.dist (b:=b11) (B:=⟨true,_,156,_⟩) (c:=br) (D:=⟨true,_,83,_⟩) mM mM rfl (fun e=>absurd (show (156:Nat) = 83 from e) dc))⟩⟩
def pk (i A:Nat):Nat→Nat
  | 0=>0
  | k+1=>if k = i then A else pk i A k
theorem pk_low {i A:Nat}:∀ {k},k≤i→pk i A k = 0
  | 0,_=>rfl
  | k+1,h=>by
    show (if k = i then A else pk i A k) = 0
    rw [if_neg om]; exact pk_low om
theorem pk_last {i A:Nat}:∀ {k},i<k→pk i A k = A
  | 0,h=>by omega
  | k+1,h=>by
    show (if k = i then A else pk i A k) = A
    by_cases e:k = i
    · rw [if_pos e]
    · rw [if_neg e]; exact pk_last om
theorem pk_m (i k:Nat):(if k = i then 18446744073709551615 else 0) = 0∨(if k = i then 18446744073709551615 else 0) = 18446744073709551615:=by
  by_cases e:k = i
  · exact .inr (if_pos e)
  · exact .inl (if_neg e)
theorem pk_next (F:Nat→Nat) (i k:Nat):pk i (F i) (k+1) = if (if k = i then 18446744073709551615 else 0) = 0 then pk i (F i) k else F k:=by
  show (if k = i then F i else pk i (F i) k) = _
  by_cases e:k = i
  · rw [if_pos e,if_pos e,if_neg dc,e]
  · rw [if_neg e,if_neg e,if_pos rfl]
theorem pk_or {i A z k:Nat} (hz:k = i→z = A) (h1:z≤1):pk i A k ||| (z &&& if k = i then 18446744073709551615 else 0) = pk i A (k+1):=by
  show _ = (if k = i then A else pk i A k)
  by_cases e:k = i
  · rw [if_pos e,if_pos e,pk_low om,Nat.zero_or,and_max om]; exact hz e
  · rw [if_neg e,if_neg e,Nat.and_zero,Nat.or_zero]
theorem pk_lt {i A:Nat} (h:A≤1):∀ k,pk i A k≤1
  | 0=>Nat.zero_le _
  | k+1=>by
    show (if k = i then A else pk i A k)≤1
    split
    · exact h
    · exact pk_lt h k
def ib {p:Nat} (P:Pt p):Nat:=if iv P = true then 1 else 0
theorem ib_le {p:Nat} (P:Pt p):ib P≤1:=by unfold ib; split <;> omega
theorem ib_eq {p:Nat} (P:Pt p):decide (ib P = 1) = iv P:=by unfold ib; cases iv P <;> rfl
section
variable {P:Program} {C:Ctx} {d:Option Tmp} {ty:TypeId} {pos:String} {aft:Array Edge} {g:Option (Nat×Bool)} {st:St} {x y:Operand} {t e:TypeId}
theorem Det.indexSN {s i : Nat} {k : IntKind} {b o l c : Nat} (ht : P.underlying t = some (.slice e)) (he : szOf P e = some s) (hx : evT st.T x = some (.slice (some ⟨b, o, none⟩) l c)) (hy : evT st.T y = some (.int k (i : Int))) (h1 : i < l) :
    Slots P C ⟨d,.indexAddr t x y,ty,pos,aft,g⟩ st (.pointer (some ⟨b,o+i*s,none⟩)):=by
  have:=Det.indexSl (P:=P) (C:=C) (d:=d) (ty:=ty) (pos:=pos) (aft:=aft) (g:=g) (st:=st) ht he hx hy om om
  rwa [Int.toNat_natCast] at this
end
theorem pt_zeroK (i A B:Nat):(vec .u64 9 (fun _=>0)++(vec .u64 9 (fun _=>0)++[Value.bool false]):List Value) = ptL (pk i A 0) (pk i B 0) false:=by
  show _ = ptL 0 0 false
  unfold ptL natL; rw [vec_zeros 9]
theorem pt_setY (X Y Y':Nat) (i:Bool):splice (ptL X Y i) 9 (natL Y') = ptL X Y' i:=splice_mid (A:=natL X) (B:=natL Y) (D:=[.bool i]) (by simp [ptL]) (KH _) (by rw [KH,KH]) (by simp [ptL])
theorem pt_set0 (X Y X':Nat) (i:Bool):splice (ptL X Y i) 0 (natL X') = ptL X' Y i:=splice_mid (A:=[]) (B:=natL X) (D:=natL Y++[.bool i]) (by simp [ptL]) rfl (by rw [KH,KH]) (by simp [ptL])
theorem pt_set2 (X Y:Nat) (i j:Bool):(ptL X Y i).set 18 (.bool j) = ptL X Y j:=by
  unfold ptL
  rw [List.set_append_right _ _ (by rw [KH]; decide),KH,List.set_append_right _ _ (by rw [KH]; decide),KH]; rfl
theorem c_tabPick (b:Option Nat) (r:TrRow) (l:List Nat) (bt br cap:Nat) (rest:List Value) {wr1 wr2:Bool} (V:Cv) (hok:V.Ok) (E:Nat→Pt V.p) (n i:Nat) (hi:i<n) (hn:n≤16) (w:World) (h0:(trI b r l).holds w) (h1:(Item.blk bt ⟨wr1,[.slice (some ⟨br,0,none⟩) n cap],156,(0,0)⟩).holds w) (h2:(Item.blk br ⟨wr2,tabL (E) n++rest,83,(0,0)⟩).holds w) (n1:Out b r (Item.blk bt ⟨wr1,[.slice (some ⟨br,0,none⟩) n cap],156,(0,0)⟩)) (n2:Out b r (Item.blk br ⟨wr2,tabL (E) n++rest,83,(0,0)⟩)) (hl:l.length≤90000000):Calls Tryz.prog 91 ([.pointer (some ⟨bt,0,none⟩),trV b,.int .i64 ((i:Nat):Int)]:List Value).toArray w (fun e w'=>TrR w b r (l++List.range n) (.tuple #[ptP (E i),.int .i64 ((0:Nat):Int)]) e w'):=by
  refine calls_tr (N:=75) (rs:=[.cell 6 83,.tmp 7]) b r l [.blk bt ⟨false,[.slice (some ⟨br,0,none⟩) n cap],156,(0,0)⟩,.blk br ⟨false,tabL (E) n++rest,83,(0,0)⟩] Tryz.func91 rfl Tryz.ntmps91 Tryz.results91 (Nb rfl) h0 ⟨h1,h2,trivial⟩ rfl ⟨n1,n2,trivial⟩ ?_
  show LCode _ _ _ ⟨_,_⟩ _
  refine KB (KA ?_)
  refine oS (mk (KP zr_83) (fun b6=>?_))
  refine oP (KR (v:=.int .i64 ((0:Nat):Int)) rfl) ?_
  refine KC ?_
  refine KB ?_
  refine LCode.block ?_
  refine KB (KA ?_)
  refine oM ?_
  refine oP (KG (Det.eqp Tryz.underlying131 rfl rfl) (show _ = Value.bool false from rfl)) ?_
  refine oA ?_
  refine KC ?_
  refine KK rfl ?_
  refine KB (KA ?_)
  refine oM ?_
  refine oP (KD (v:=.bool false) rfl rfl (br_f (KAR (b:=0)) (Nat.not_lt_zero _))) ?_
  refine oM ?_
  refine oGM ?_
  refine oGM ?_
  refine oGP (KL rfl) ?_
  refine oGP (KF (o':=0) Tryz.underlying156 rfl rfl rfl sz_154 dc) ?_
  refine KAM rfl rfl (dL rfl (hv:=KJ Tryz.underlying154 rfl (by first|rfl|exact KW _ _ _ om|exact KV _ om|exact KT _ om|exact dv_m _ _ _ om))) (Nb rfl) ?_
  refine oGP (KAH Tryz.underlying154 rfl) ?_
  refine oGP (KD (v:=.bool false) rfl rfl (br_f br_geq om)) ?_
  refine oP (KY rfl rfl) ?_
  refine oA ?_
  refine KC ?_
  refine KK rfl ?_
  refine KM ?_
  refine KB (KA ?_)
  refine oS (mk (KP zr_83) (fun b8=>?_))
  refine KC ?_
  refine KB (KA ?_)
  refine oP (KR (v:=.int .u64 ((0:Nat):Int)) rfl) ?_
  refine KC ?_
  refine KB ?_
  refine KB (KA ?_)
  refine oM ?_
  refine oP (KL rfl) ?_
  refine oP (KF (o':=0) Tryz.underlying156 rfl rfl rfl sz_154 dc) ?_
  refine oD (dL rfl (hv:=KJ Tryz.underlying154 rfl (by first|rfl|exact KW _ _ _ om|exact KV _ om|exact KT _ om|exact dv_m _ _ _ om))) ?_
  refine oP (KAH Tryz.underlying154 rfl) ?_
  refine oP (Kr (v:=.int .i64 ((0:Nat):Int)) rfl) ?_
  refine KC ?_
  refine LCode.block ?_
  refine Kh (α:=Nat×TrRow) (fun x=>x.1≤n) (fun x=>⟨[(0,.pointer (some ⟨bt,0,none⟩)),(1,trV b),(2,.int .i64 ((i:Nat):Int)),(6,.pointer (some ⟨b6,0,none⟩)),(8,.pointer (some ⟨b8,0,none⟩)),(9,.int .u64 ((pk i (ib (E i)) x.1:Nat):Int)),(34,.slice (some ⟨br,0,none⟩) n cap),(35,.int .i64 ((n:Nat):Int)),(36,.int .i64 ((x.1:Nat):Int))],[trI b x.2 (l++List.range x.1),.blk b8 ⟨true,ptL (pk i (xv (E i)) x.1) (pk i (yv (E i)) x.1) false,83,(0,0)⟩,.blk b6 ⟨true,vec .u64 9 (fun _=>0)++(vec .u64 9 (fun _=>0)++[Value.bool false]),83,(0,0)⟩,.blk bt ⟨false,[.slice (some ⟨br,0,none⟩) n cap],156,(0,0)⟩,.blk br ⟨false,tabL (E) n++rest,83,(0,0)⟩]⟩) (fun x=>n-x.1) ((0,r)) (Nat.zero_le _) (Kw (Sub.cells (b:=b8) (cs':=ptL (pk i (xv (E i)) 0) (pk i (yv (E i)) 0) false) (by repeat (first|exact Sh _|apply St_)) (pt_zeroK _ _ _)) (by dsimp only [List.range_zero]; rw [List.append_nil]; exact Kd ⟨rfl,rfl,rfl,rfl,rfl,rfl,rfl,rfl,rfl,trivial⟩ mS)) ?_
  intro x hx
  refine KB (KA ?_)
  refine oP (KD rfl rfl (KAR)) ?_
  refine KC ?_
  refine KB ?_
  first|refine KN rfl (fun h37=>?_) (fun h37=>?_)|refine KQ rfl (fun h37=>?_) (fun h37=>?_)
  ·
    have h37:x.1<n:=h37
    refine KM ?_
    refine KB ?_
    refine LCode.block ?_
    refine KB (KA ?_)
    refine oM ?_
    refine oP (Det.indexSN Tryz.underlying154 sz_83 rfl rfl om) ?_
    refine oD (dL rfl (hv:=by exact tab_load E h37 rest)) ?_
    refine oS (mk (KP zr_83) (fun b11=>?_))
    refine oA ?_
    refine KO rfl (sA rfl rfl sz_83 (by exact KAB _ _ _) (hl:=by exact KX _ _ _) (h:=?_))
    refine KC ?_
    refine KB (KA ?_)
    refine oM ?_
    refine oM ?_
    refine KO rfl (LStepW.callT (first:=[]) (r:=x.2) (l:=l++List.range x.1) (l':=l++List.range (x.1+1)) rfl en_103 rfl (Nb rfl) mP (fun w hw hn=>by rw [List.range_succ,← List.append_assoc]; exact c_trIndex b x.2 _ x.1 w (mC hw) (by rw [List.length_append,List.length_range]; omega)) ?_)
    intro r1
    refine KC ?_
    refine KB (KA ?_)
    refine oM ?_
    refine oP (Kz Tryz.underlying3 Tryz.underlying22 rfl (by first|omega|exact Nat.lt_trans (D.limb_lt _ _) dc)) ?_
    refine oM ?_
    refine oP (Kz Tryz.underlying3 Tryz.underlying22 rfl (by first|omega|exact Nat.lt_trans (D.limb_lt _ _) dc)) ?_
    refine oS (cF rfl en_104 rfl (fun w hw=>c_mEqual x.1 i w om om) ?_)
    refine oA ?_
    refine KC ?_
    refine KB ?_
    refine rD [13,15] ?_
    refine aM 0 ?_
    refine aP 1 rfl (KF (o':=0) Tryz.underlying83 rfl rfl rfl sz_25 dc) ?_
    refine aD 2 rfl (dL rfl (hv:=by exact Kv Tryz.underlying25 rfl sz_25 rfl (KH _))) ?_
    refine aP 3 rfl (KF (o':=0) Tryz.underlying83 rfl rfl rfl sz_25 dc) ?_
    refine aD 4 rfl (dL rfl (hv:=by exact Kv Tryz.underlying25 rfl sz_25 rfl (KH _))) ?_
    refine aM 6 ?_
    refine aP 7 rfl (KF (o':=9) Tryz.underlying83 rfl rfl rfl sz_25 dc) ?_
    refine aP 9 rfl (KF (o':=9) Tryz.underlying83 rfl rfl rfl sz_25 dc) ?_
    refine aD 10 rfl (dL rfl (hv:=by exact pt_ld1 _ _ _ _ _ _)) ?_
    refine LAny.takeW [11,13,14,15] 8 rfl (by kernel_rfl) (Nb rfl) (dL rfl (hv:=by exact pt_ld1 _ _ _ _ _ _)) ?_
    refine aO 5 rfl (cF rfl en_105 rfl (fun w hw=>c_mSelect (if x.1 = i then 18446744073709551615 else 0) (xv (E x.1)) (pk i (xv (E i)) x.1) (pk i (xv (E i)) (x.1+1)) w (pk_m _ _) (pk_next (fun j=>xv (E j)) i x.1)) ?_)
    refine aP 12 rfl (KF (o':=0) Tryz.underlying83 rfl rfl rfl sz_25 dc) ?_
    refine aO 11 rfl (cF rfl en_105 rfl (fun w hw=>c_mSelect (if x.1 = i then 18446744073709551615 else 0) (yv (E x.1)) (pk i (yv (E i)) x.1) (pk i (yv (E i)) (x.1+1)) w (pk_m _ _) (pk_next (fun j=>yv (E j)) i x.1)) ?_)
    refine aL 13 rfl (Kt rfl rfl rfl sz_25 (KH _) (KAE _) (by repeat (first|exact Sh _|apply St_)) (by simp only [KX]; decide) (pt_set0 _ _ _ _) (by simp) ?_)
    refine aP 14 rfl (KF (o':=9) Tryz.underlying83 rfl rfl rfl sz_25 dc) ?_
    refine aL 15 rfl (Kt rfl rfl rfl sz_25 (KH _) (KAE _) (by repeat (first|exact Sh _|apply St_)) (by simp only [KX]; decide) (pt_setY _ _ _ _) (by simp) ?_)
    refine aE ?_
    refine KB (KA ?_)
    refine oP (KR (v:=.int .u64 ((0:Nat):Int)) rfl) ?_
    refine KC ?_
    refine KB ?_
    refine KB ?_
    cases hiv:iv (E x.1)
    ·
      refine KA ?_
      refine oP (KF (o':=18) Tryz.underlying83 rfl rfl rfl sz_4 dc) ?_
      refine oD (dL rfl (hv:=KJ Tryz.underlying4 rfl (by exact pt_gt _ _ _))) ?_
      refine KC ?_
      refine KK rfl ?_
      refine KM ?_
      refine KA ?_
      refine oM ?_
      refine oM ?_
      refine oM ?_
      refine oP (KD rfl rfl (KAY (a:=0) (b:=(if x.1 = i then 18446744073709551615 else 0)) dc (by split <;> decide))) ?_
      refine oP (KG (KD rfl rfl (br_or64 (a:=pk i (ib (E i)) x.1) (b:=0 &&& (if x.1 = i then 18446744073709551615 else 0)) (Nat.lt_of_le_of_lt (pk_lt (ib_le _) _) dc) (Nat.lt_of_le_of_lt Nat.and_le_left dc))) (vi (b:=pk i (ib (E i)) (x.1+1)) (pk_or (fun e=>by rw [← e]; unfold ib; rw [hiv]; rfl) dc))) ?_
      refine oA ?_
      refine KC ?_
      refine KA ?_
      refine oP (KD rfl rfl (Kn (b:=1) om)) ?_
      refine oM ?_
      refine KC ?_
      exact ⟨(x.1+1,r1),by dsimp only; omega,by dsimp only; omega,Kd ⟨rfl,rfl,rfl,rfl,rfl,rfl,rfl,rfl,rfl,trivial⟩ mS⟩
    ·
      refine KA ?_
      refine oP (KF (o':=18) Tryz.underlying83 rfl rfl rfl sz_4 dc) ?_
      refine oD (dL rfl (hv:=KJ Tryz.underlying4 rfl (by exact pt_gt _ _ _))) ?_
      refine KC ?_
      refine KU rfl ?_
      refine KA ?_
      refine oP (KR (v:=.int .u64 ((1:Nat):Int)) rfl) ?_
      refine KC ?_
      refine KA ?_
      refine oM ?_
      refine oM ?_
      refine oM ?_
      refine oP (KD rfl rfl (KAY (a:=1) (b:=(if x.1 = i then 18446744073709551615 else 0)) dc (by split <;> decide))) ?_
      refine oP (KG (KD rfl rfl (br_or64 (a:=pk i (ib (E i)) x.1) (b:=1 &&& (if x.1 = i then 18446744073709551615 else 0)) (Nat.lt_of_le_of_lt (pk_lt (ib_le _) _) dc) (Nat.lt_of_le_of_lt Nat.and_le_left dc))) (vi (b:=pk i (ib (E i)) (x.1+1)) (pk_or (fun e=>by rw [← e]; unfold ib; rw [hiv]; rfl) dc))) ?_
      refine oA ?_
      refine KC ?_
      refine KA ?_
      refine oP (KD rfl rfl (Kn (b:=1) om)) ?_
      refine oM ?_
      refine KC ?_
      exact ⟨(x.1+1,r1),by dsimp only; omega,by dsimp only; omega,Kd ⟨rfl,rfl,rfl,rfl,rfl,rfl,rfl,rfl,rfl,trivial⟩ mS⟩
  ·
    have h37:¬ x.1<n:=h37
    refine Ke ?_
    refine KB ?_
    have hx1n:x.1 = n:=by omega
    rw [hx1n,pk_last hi,pk_last hi,pk_last hi]
    refine KA ?_
    refine oM ?_
    refine oP (KG (KD rfl rfl (KAP (b:=1))) (congrArg Value.bool (ib_eq (E i)))) ?_
    refine oP (KF (o':=18) Tryz.underlying83 rfl rfl rfl sz_4 dc) ?_
    refine KO rfl (Kb rfl rfl rfl sz_4 (by repeat (first|exact Sh _|apply St_)) (by rw [KX]; decide) (by exact pt_set2 _ _ _ _) (by simp) ?_)
    refine KC ?_
    refine KB (KA ?_)
    refine oD (dL rfl (hv:=by exact KE Tryz.underlying83 rfl sz_83)) ?_
    refine KO rfl (sA rfl rfl sz_83 (by exact KAB _ _ _) (hl:=by exact KX _ _ _) (h:=?_))
    refine oP (KR (v:=.int .i64 ((0:Nat):Int)) rfl) ?_
    refine KC (KI ?_)
    exact ⟨[_,_],.cons ⟨_,_,_,rfl,mM,by exact KE Tryz.underlying83 rfl sz_83⟩ (.cons rfl .nil),fun a w' hr=>hr.tr mM⟩
end Go.Proofs.YtlmiolnccgjjjaaGreat
set_option linter.unusedVariables false
set_option linter.unusedSimpArgs false
set_option maxRecDepth 20000
namespace Go.Proofs.YtlmiolnccgjjjaaGreat
open Go Go.RowKit
open Grp
def dg (K m i:Nat):Nat:=K/2^((m-1-i)*4)%16
theorem dg_lt (K m i:Nat):dg K m i<16:=Nat.mod_lt _ dc
theorem and15 (A:Nat):limb A 0 &&& 15 = A%16:=by
  rw [show 15 = 2^4-1 from rfl,Nat.and_two_pow_sub_one_eq_mod]
  unfold limb
  rw [Nat.mul_zero,Nat.pow_zero,Nat.div_one,show (2:Nat)^4 = 16 from rfl]
  omega
theorem vec_snoc {k:IntKind} {f:Nat→Nat} {n x:Nat} (h:x = f n) (rest:List Value):(vec k n f++[Value.int k ((x:Nat):Int)])++rest = vec k (n+1) f++rest:=by
  subst h
  congr 1
  simp [vec,List.range_succ]
theorem vec_first {k:IntKind} {f:Nat→Nat} {x:Nat} (h:x = f 0) (rest:List Value):[Value.int k ((x:Nat):Int)]++rest = vec k (0+1) f++rest:=by
  subst h; rfl
structure DigS where
  j:Nat
  bd:Nat
  cap:Nat
  rest:List Value
theorem dig_cases (x:Option DigS) (m:Nat):x = none∨(∃ j bd cap rest,x = some ⟨j,bd,cap,rest⟩∧j<m)∨(∃ j bd cap rest,x = some ⟨j,bd,cap,rest⟩∧m≤j):=by
  rcases x with _|⟨j,bd,cap,rest⟩
  · exact .inl rfl
  · rcases Nat.lt_or_ge j m with h|h
    · exact .inr (.inl ⟨j,bd,cap,rest,rfl,h⟩)
    · exact .inr (.inr ⟨j,bd,cap,rest,rfl,h⟩)
theorem Brings.one {w w':World} {b:Nat} {B:Blk} (hb:Below w.heap.size w w') (h1:(Item.blk b B).holds w') (n1:w.heap.size≤b):Brings w [] [.blk b B] w':=by
  have key:∀ x,x∈[Item.blk b B]→∀ k,k∈x.fp→w.heap.size≤k:=fun x hx k hk=>by
    obtain rfl:x = _:=by simpa using hx
    obtain rfl:k = b:=by simpa [Item.fp] using hk
    exact n1
  exact ⟨hb, fun x hx => (by obtain rfl : x = _ := by simpa using hx
                             exact h1),fun x hx k hk=>.inl (key x hx k hk),fun x hx _=>key x hx,List.pairwise_singleton _ _⟩
theorem c_wide4  (w:World)  : Calls Tryz.prog 101 ([.int .i64 ((4:Nat):Int)]:List Value).toArray w (fun e w'=>e = .returned (.bool true)∧Below w.heap.size w w'):=by
  refine Ka (N:=9) (rs:=[.tmp 2]) [] Tryz.func101 rfl Tryz.ntmps101 Tryz.results101 (Nb rfl) trivial rfl ?_
  show LCode _ _ _ ⟨_,_⟩ _
  refine KB (KA ?_)
  refine oA ?_
  refine KC ?_
  refine KB (KA ?_)
  refine oM ?_
  refine oP (KD (v:=.bool true) rfl rfl (br_t (br_geq (b:=1)) dc)) ?_
  refine oM ?_
  refine oGM ?_
  refine oGP (KD (v:=.bool true) rfl rfl (br_t (br_leq (b:=6)) dc)) ?_
  refine oP (Kj rfl rfl) ?_
  refine oA ?_
  refine KC (KI ?_)
  refine ⟨[_],.cons rfl .nil,fun a w' hr=>⟨?_,hr.fr.below⟩⟩
  rfl
theorem c_Digits (K B m:Nat) (hK:K<W9) (hB:1≤B) (hB2:B≤576) (hKB:blen K≤B) (hm:(B+3)/4 = m) (w:World)  : Calls Tryz.prog 88 ([natV K,.int .i64 ((B:Nat):Int),.int .i64 ((4:Nat):Int)]:List Value).toArray w (fun e w'=>∃ v its,(fun v its=>∃ bd cap rest,v = .tuple #[.slice (some ⟨bd,0,none⟩) m cap,.int .i64 ((0:Nat):Int)]∧its = [.blk bd ⟨true,vec .i64 (m) (dg K m)++rest,3,(0,0)⟩]) v its∧e = .returned v∧Brings w [] its w'):=by
  refine Ka (N:=61) (rs:=[.tmp 6,.tmp 7]) [] Tryz.func88 rfl Tryz.ntmps88 Tryz.results88 (Nb rfl) trivial rfl ?_
  show LCode _ _ _ ⟨_,_⟩ _
  refine KB (KA ?_)
  refine oS (mB (fun b3=>?_))
  refine oA ?_
  refine oP (KR (v:=.int .i64 ((0:Nat):Int)) rfl) ?_
  refine KC ?_
  refine KB ?_
  refine KB (KA ?_)
  refine oM ?_
  refine oS (cF rfl en_101 rfl (fun w hw=>c_wide4 w) ?_)
  refine oP (KG (Det.not rfl) (show _ = Value.bool false from rfl)) ?_
  refine oM ?_
  refine oGM ?_
  refine oGP (KD (v:=.bool false) rfl rfl (br_f (KAR (b:=1)) om)) ?_
  refine oP (KY rfl rfl) ?_
  refine oM ?_
  refine oGM ?_
  refine oGP (KD (v:=.bool false) rfl rfl (br_f (br_gtr (b:=576)) om)) ?_
  refine oP (KY rfl rfl) ?_
  refine oM ?_
  refine KAM rfl rfl (dL rfl (hv:=by exact KE Tryz.underlying25 rfl sz_25)) (Nb rfl) ?_
  refine oGS (cF rfl en_62 rfl (fun w hw=>c_nat_Bits K hK w) ?_)
  refine oGM ?_
  refine oGP (KD (v:=.bool false) rfl rfl (br_f br_gtr om)) ?_
  refine oP (KY rfl rfl) ?_
  refine KC ?_
  refine KK rfl ?_
  refine KM ?_
  refine KB (KA ?_)
  refine oA ?_
  refine KC ?_
  refine KB ?_
  refine KB (KA ?_)
  refine oM ?_
  refine oM ?_
  refine oP (KD rfl rfl (Kn om)) ?_
  refine oP (KD rfl rfl (KAV (b:=1) om om)) ?_
  refine oM ?_
  refine oP (KG (KD rfl rfl (br_quo (b:=4) om om)) (vi (b:=m) om)) ?_
  refine oP (KD (v:=.int .i64 (((m:Nat):Int)-1)) rfl rfl (br_subI om om)) ?_
  refine oA ?_
  refine KC ?_
  refine LCode.block ?_
  refine Kh (α:=Option DigS) (fun x=>match x with|none=>True|some y=>1≤y.j∧y.j≤m∧y.j+y.rest.length = y.cap) (fun x=>match x with|none=>⟨[(1,.int .i64 ((B:Nat):Int)),(2,.int .i64 ((4:Nat):Int)),(3,.pointer (some ⟨b3,0,none⟩)),(8,.slice none 0 0),(9,.int .i64 (((m:Nat):Int)-1))],[.blk b3 ⟨true,natL K,25,(0,0)⟩]⟩|some y=>⟨[(1,.int .i64 ((B:Nat):Int)),(2,.int .i64 ((4:Nat):Int)),(3,.pointer (some ⟨b3,0,none⟩)),(8,.slice (some ⟨y.bd,0,none⟩) y.j y.cap),(9,.int .i64 (((m-y.j:Nat):Int)-1))],[.blk y.bd ⟨true,vec .i64 (y.j) (dg K m)++y.rest,3,(0,0)⟩,.blk b3 ⟨true,natL K,25,(0,0)⟩]⟩) (fun x=>match x with|none=>m+1|some y=>m-y.j) (none) (trivial) (Kd ⟨rfl,rfl,rfl,rfl,rfl,trivial⟩ mS) ?_
  intro x hx
  refine KB ?_
  refine KB ?_
  rcases dig_cases x m with rfl|⟨j,bd,cap,rest,rfl,hjm⟩|⟨j,bd,cap,rest,rfl,hjm⟩
  ·
    obtain ⟨z,hz⟩:∃ z,m = z+1:=⟨m-1,by omega⟩
    refine KA ?_
    refine oM ?_
    refine oP (KD (v:=.bool true) rfl rfl (by simp [Ku]; omega)) ?_
    refine KC ?_
    refine KU rfl ?_
    refine KM ?_
    refine KB ?_
    refine LCode.block ?_
    refine KB (KA ?_)
    refine oD (dL rfl (hv:=by exact KE Tryz.underlying25 rfl sz_25)) ?_
    refine oP (Kr (v:=.int .i64 ((z:Nat):Int)) (by show some _ = some _; congr 2; omega)) ?_
    refine oM ?_
    refine oP (KD rfl rfl (br_mul om)) ?_
    refine oP (KG (Det.min rfl rfl) (show _ = Value.int .i64 ((z*4:Nat):Int) by rw [if_neg om])) ?_
    refine oS (cF rfl en_102 rfl (fun w hw=>c_nat_Shr K (z*4) hK om w) ?_)
    refine oM ?_
    refine oP (Det.extract rfl rfl) ?_
    refine oP (Det.extract rfl rfl) ?_
    refine oS (mk (KP zr_25) (fun b10=>?_))
    refine KO rfl (sA rfl rfl sz_25 mO (hl:=mL) (h:=?_))
    refine oA ?_
    refine KC ?_
    refine rD [10] ?_
    refine aM 0 ?_
    refine aP 1 rfl (KF (o':=0) Tryz.underlying25 rfl rfl rfl sz_23 dc) ?_
    refine aP 2 rfl (Kg (i:=0) Tryz.underlying23 sz_22 rfl rfl dc) ?_
    refine aM 4 ?_
    refine aP 5 rfl (KG (KD rfl rfl (br_shl64 (a:=1) (b:=4))) (vi (b:=16) dc)) ?_
    refine aP 6 rfl (KG (KD rfl rfl (KAa (a:=16) (b:=1) dc)) (vi (b:=15) dc)) ?_
    refine aO 3 rfl (LStep.det (dL rfl (hv:=KJ Tryz.underlying22 rfl (by exact KV _ dc))) (Nb rfl) ?_)
    refine aP 7 rfl (KG (KD rfl rfl (KAY (b:=15) (limb_lt _ _) dc)) (vi (b:=K/2^(z*4)%16) (and15 _))) ?_
    refine aP 8 rfl (KAZ Tryz.underlying22 Tryz.underlying3 rfl om) ?_
    refine aO 9 rfl (mk (KAD Tryz.underlying58 inf_3 rfl rfl rfl rfl dc rfl) (fun b58=>?_))
    refine aL 10 rfl (LStepW.appendNil (news:=[.int .i64 ((K/2^(z*4)%16:Nat):Int)]) rfl rfl Tryz.underlying58 inf_3 rfl mM rfl dc dc dc (Nb rfl) ?_)
    intro b1 cap1 rest1 hc1
    refine aA 11 ?_
    refine aE ?_
    refine KA ?_
    refine oP (Kr (v:=.int .i64 ((z:Nat):Int)) (by show some _ = some _; congr 2; omega)) ?_
    refine oP (KD (v:=.int .i64 (((z:Nat):Int)-1)) rfl rfl (br_subI om om)) ?_
    refine oA ?_
    refine KC ?_
    obtain rfl:m-(0+1) = z:=by omega
    exact ⟨some ⟨0+1,b1,cap1,rest1⟩,⟨Nat.le_refl _,by show 0+1≤m; omega,by show 0+1+rest1.length = cap1; have h1:=hc1; simp at h1; omega⟩,by show m-(0+1)<m+1; omega,Kw (Sub.cells (b:=b1) (cs':=vec .i64 (0+1) (dg K m)++rest1) (by repeat (first|exact Sh _|apply St_)) (vec_first rfl _)) (Kd ⟨rfl,rfl,rfl,rfl,rfl,trivial⟩ mS)⟩
  ·
    obtain ⟨hj1,hjn,hcap⟩:=hx
    dsimp only at hj1 hjn hcap
    dsimp only
    obtain ⟨z,hz⟩:∃ z,m-j = z+1:=⟨m-j-1,by omega⟩
    refine KA ?_
    refine oM ?_
    refine oP (KD (v:=.bool true) rfl rfl (by simp [Ku]; omega)) ?_
    refine KC ?_
    refine KU rfl ?_
    refine KM ?_
    refine KB ?_
    refine LCode.block ?_
    refine KB (KA ?_)
    refine oD (dL rfl (hv:=by exact KE Tryz.underlying25 rfl sz_25)) ?_
    refine oP (Kr (v:=.int .i64 ((z:Nat):Int)) (by show some _ = some _; congr 2; omega)) ?_
    refine oM ?_
    refine oP (KD rfl rfl (br_mul om)) ?_
    refine oP (KG (Det.min rfl rfl) (show _ = Value.int .i64 ((z*4:Nat):Int) by rw [if_neg om])) ?_
    refine oS (cF rfl en_102 rfl (fun w hw=>c_nat_Shr K (z*4) hK om w) ?_)
    refine oM ?_
    refine oP (Det.extract rfl rfl) ?_
    refine oP (Det.extract rfl rfl) ?_
    refine oS (mk (KP zr_25) (fun b10=>?_))
    refine KO rfl (sA rfl rfl sz_25 mO (hl:=mL) (h:=?_))
    refine oA ?_
    refine KC ?_
    refine rD [10] ?_
    refine aM 0 ?_
    refine aP 1 rfl (KF (o':=0) Tryz.underlying25 rfl rfl rfl sz_23 dc) ?_
    refine aP 2 rfl (Kg (i:=0) Tryz.underlying23 sz_22 rfl rfl dc) ?_
    refine aM 4 ?_
    refine aP 5 rfl (KG (KD rfl rfl (br_shl64 (a:=1) (b:=4))) (vi (b:=16) dc)) ?_
    refine aP 6 rfl (KG (KD rfl rfl (KAa (a:=16) (b:=1) dc)) (vi (b:=15) dc)) ?_
    refine aO 3 rfl (LStep.det (dL rfl (hv:=KJ Tryz.underlying22 rfl (by exact KV _ dc))) (Nb rfl) ?_)
    refine aP 7 rfl (KG (KD rfl rfl (KAY (b:=15) (limb_lt _ _) dc)) (vi (b:=K/2^(z*4)%16) (and15 _))) ?_
    refine aP 8 rfl (KAZ Tryz.underlying22 Tryz.underlying3 rfl om) ?_
    refine aO 9 rfl (mk (KAD Tryz.underlying58 inf_3 rfl rfl rfl rfl dc rfl) (fun b58=>?_))
    refine aL 10 rfl (LStepW.append (xs:=vec .i64 j (dg K m)) (rest:=rest) (news:=[.int .i64 ((K/2^(z*4)%16:Nat):Int)]) rfl rfl Tryz.underlying58 inf_3 rfl mP mM (KS _ _ _) (by rw [KS]; exact hcap) rfl (Kf rfl Ki) om om (Nb rfl) ?_)
    intro b1 cap1 rest1 hc1
    refine aA 11 ?_
    refine aE ?_
    refine KA ?_
    refine oP (Kr (v:=.int .i64 ((z:Nat):Int)) (by show some _ = some _; congr 2; omega)) ?_
    refine oP (KD (v:=.int .i64 (((z:Nat):Int)-1)) rfl rfl (br_subI om om)) ?_
    refine oA ?_
    refine KC ?_
    obtain rfl:m-(j+1) = z:=by omega
    exact ⟨some ⟨j+1,b1,cap1,rest1⟩,⟨by show 1≤j+1; omega,by show j+1≤m; omega,by show j+1+rest1.length = cap1; have h1:=hc1; rw [KS] at h1; exact h1⟩,by show m-(j+1)<m-j; omega,Kw (Sub.cells (b:=b1) (cs':=vec .i64 (j+1) (dg K m)++rest1) (by repeat (first|exact Sh _|apply St_)) (vec_snoc (by unfold dg; rw [show m-1-j = m-(j+1) by omega]) _)) (Kd ⟨rfl,rfl,rfl,rfl,rfl,trivial⟩ mS)⟩
  ·
    obtain ⟨hj1,hjn,hcap⟩:=hx
    dsimp only at hj1 hjn hcap
    dsimp only
    refine KA ?_
    refine oM ?_
    refine oP (KD (v:=.bool false) rfl rfl (by simp [Ku]; omega)) ?_
    refine KC ?_
    refine KK rfl ?_
    refine Ke ?_
    refine KB (KA ?_)
    refine oM ?_
    refine oA ?_
    refine oP (KR (v:=.int .i64 ((0:Nat):Int)) rfl) ?_
    refine KC (KI ?_)
    obtain rfl:j = m:=by omega
    exact ⟨[_,_],.cons rfl (.cons rfl .nil),fun a w' hr=>⟨_,_,⟨bd,cap,rest,rfl,rfl⟩,rfl,Brings.one hr.fr.below (hr.hp (.blk bd ⟨true,_,_,_⟩) mM) (hr.new (b:=bd) (B:=⟨true,_,_,_⟩) mM rfl)⟩⟩
def evN:Nat→List Nat
  | 0=>[]
  | n+1=>evN n++List.range 16
theorem evN_length:∀ n,(evN n).length = n*16
  | 0=>rfl
  | n+1=>by show (evN n++List.range 16).length = _; rw [List.length_append,evN_length n,List.length_range]; omega
structure MulS (p:Nat) where
  i:Nat
  T:Fin p×Fin p×Fin p
  r:TrRow
theorem mul_top {V:Cv} (hok:V.Ok) {P:Pt V.p} {K m:Nat} (hK:K<V.n) (hm:(blen V.n+3)/4 = m):RepT V (tripF (.inf:Pt V.p)) (pmul V.A P (K/2^((m-0)*4))):=by
  have h1:=lt_blen V.n
  have h2:2^blen V.n≤2^((m-0)*4):=Nat.pow_le_pow_right dc om
  rw [Nat.div_eq_of_lt (Nat.lt_of_lt_of_le (Nat.lt_trans hK h1) h2)]
  exact RepT.trip hok trivial
theorem mul_twice {V:Cv} (hok:V.Ok) {P:Pt V.p} (hP:On V.A V.B P) {q j:Nat} {T:Fin V.p×Fin V.p×Fin V.p} (h:RepT V T (pmul V.A P (q*2^j))):RepT V (sumT V T T) (pmul V.A P (q*2^(j+1))):=by
  have:=RepT.sum hok h h
  rwa [← pmul_add hok.crv hP,← Nat.mul_two,Nat.mul_assoc,← Nat.pow_succ] at this
theorem mul_digit {V:Cv} (hok:V.Ok) {P:Pt V.p} (hP:On V.A V.B P) {K m i:Nat} (hi:i<m) {T:Fin V.p×Fin V.p×Fin V.p} (h:RepT V T (pmul V.A P (K/2^((m-i)*4)*2^4))):RepT V (sumT V T (tripF (mulE V P (dg K m i)))) (pmul V.A P (K/2^((m-(i+1))*4))):=by
  have:=RepT.sum hok h (RepT.trip hok (hok.mul hP (dg K m i)))
  rw [← pmul_add hok.crv hP] at this
  have e:K/2^((m-i)*4)*2^4+dg K m i = K/2^((m-(i+1))*4):=by
    unfold dg
    rw [show m-1-i = m-(i+1) by omega,show (m-i)*4 = (m-(i+1))*4+4 by omega,Nat.pow_add,← Nat.div_div_eq_div_mul,show (2:Nat)^4 = 16 from rfl]
    generalize K/2^((m-(i+1))*4) = N
    omega
  rwa [e] at this
theorem mul_all {V:Cv} {P:Pt V.p} {K m i:Nat} {T:Fin V.p×Fin V.p×Fin V.p} (hi:i = m) (h:RepT V T (pmul V.A P (K/2^((m-i)*4)))):RepT V T (pmul V.A P K):=by
  subst hi
  rwa [Nat.sub_self,Nat.zero_mul,Nat.pow_zero,Nat.div_one] at h
theorem dig_get {K m i:Nat} {rest:List Value} (h:i<m):(vec .i64 m (dg K m)++rest)[i+0]? = some (.int .i64 ((dg K m i:Nat):Int)):=by
  rw [Nat.add_zero,List.getElem?_append_left (by rw [KS]; exact h)]
  exact KW _ _ _ h
theorem c_mTimes (tb:Option Nat) (tr:TrRow) (l:List Nat) (V:Cv) (b f bd:Nat) (hok:V.Ok) (K m:Nat) (P:Pt V.p) (bt br cap:Nat) (rest:List Value) {wr1 wr2:Bool} (hP:On V.A V.B P) (hK:K<V.n) (hm:(blen V.n+3)/4 = m) (w:World) (h0:(trI tb tr l).holds w) (hl:l.length≤80000000) (hb:(Item.blk b ⟨false,opL V f,92,(0,0)⟩).holds w) (hf:(Item.blk f ⟨false,fldL V.p bd,116,(0,0)⟩).holds w) (hbd:(Item.blk bd ⟨false,dvL V.p,167,(0,0)⟩).holds w) (h1:(Item.blk bt ⟨wr1,[.slice (some ⟨br,0,none⟩) 16 cap],156,(0,0)⟩).holds w) (h2:(Item.blk br ⟨wr2,tabL (mulE V (P)) 16++rest,83,(0,0)⟩).holds w) (o0:Out tb tr (Item.blk b ⟨false,opL V f,92,(0,0)⟩)) (o1:Out tb tr (Item.blk f ⟨false,fldL V.p bd,116,(0,0)⟩)) (o2:Out tb tr (Item.blk bd ⟨false,dvL V.p,167,(0,0)⟩)) (n1:Out tb tr (Item.blk bt ⟨wr1,[.slice (some ⟨br,0,none⟩) 16 cap],156,(0,0)⟩)) (n2:Out tb tr (Item.blk br ⟨wr2,tabL (mulE V (P)) 16++rest,83,(0,0)⟩)):Calls Tryz.prog 69 ([trV tb,.pointer (some ⟨b,0,none⟩),natV K,.pointer (some ⟨bt,0,none⟩)]:List Value).toArray w (fun e w'=>TrR w tb tr (l++evN m) (ptP (pmul V.A P K)) e w'):=by
  have hbb:=hok.bounds
  have hnW:V.n<W9:=KAJ hbb.2.2.2.2.2.2.1
  have hbl:=blen_w9 hnW
  have hK9:=Nat.lt_trans hK hnW
  have hkb:blen K≤blen V.n:=blen_le (Nat.lt_trans hK (lt_blen _))
  have hbl1:1≤blen V.n:=Nat.pos_of_ne_zero (blen_ne om)
  refine calls_tr (N:=56) (rs:=[.cell 8 83]) tb tr l [.blk b ⟨false,opL V f,92,(0,0)⟩,.blk f ⟨false,fldL V.p bd,116,(0,0)⟩,.blk bd ⟨false,dvL V.p,167,(0,0)⟩,.blk bt ⟨false,[.slice (some ⟨br,0,none⟩) 16 cap],156,(0,0)⟩,.blk br ⟨false,tabL (mulE V (P)) 16++rest,83,(0,0)⟩] Tryz.func69 rfl Tryz.ntmps69 Tryz.results69 (Nb rfl) h0 ⟨hb,hf,hbd,h1,h2,trivial⟩ rfl ⟨o0,o1,o2,n1,n2,trivial⟩ ?_
  show LCode _ _ _ ⟨_,_⟩ _
  refine KB (KA ?_)
  refine oS (mB (fun b6=>?_))
  refine oS (mk (KP zr_83) (fun b8=>?_))
  refine KC ?_
  refine KB ?_
  refine rD [] ?_
  refine aD 0 rfl (dL rfl (hv:=by exact KE Tryz.underlying25 rfl sz_25)) ?_
  refine aM 1 ?_
  refine aP 2 rfl (KL rfl) ?_
  refine aP 3 rfl (KF (o':=0) Tryz.underlying92 rfl rfl rfl sz_89 dc) ?_
  refine aP 4 rfl (KF (o':=56) Tryz.underlying89 rfl rfl rfl sz_3 dc) ?_
  refine aD 5 rfl (dL rfl (hv:=KJ Tryz.underlying3 rfl (by exact cvC_gt_bits _ _ _ _ _ _ _ _ _ _ _ _ _))) ?_
  refine aO 6 rfl (cC rfl en_88 rfl (fun w hw=>bringsC (c_Digits K (blen V.n) m hK9 hbl1 om hkb hm w) _) ?_)
  rintro _ _ ⟨ds,dcap,drest,rfl,rfl⟩
  refine aM 7 ?_
  refine aP 8 rfl (Det.extract rfl rfl) ?_
  refine aP 9 rfl (Det.extract rfl rfl) ?_
  refine aA 10 ?_
  refine aA 11 ?_
  refine aE ?_
  refine KB (KA ?_)
  refine oS (cF rfl en_89 rfl (fun w hw=>c_NoneF hok w) ?_)
  refine oS (mk (KP zr_148) (fun b11=>?_))
  refine KO rfl (sA rfl rfl sz_148 (by exact pjFL_one _) (hl:=by exact pjFL_length _) (h:=?_))
  refine KC ?_
  refine KB ?_
  refine KB (KA ?_)
  refine oM ?_
  refine oP (KAH Tryz.underlying58 rfl) ?_
  refine oP (Kr (v:=.int .i64 ((0:Nat):Int)) rfl) ?_
  refine KC ?_
  refine LCode.block ?_
  refine Kh (α:=MulS V.p) (fun x=>x.i≤m∧RepT V x.T (pmul V.A P (K/2^((m-x.i)*4)))) (fun x=>⟨[(0,trV tb),(1,.pointer (some ⟨b,0,none⟩)),(3,.pointer (some ⟨bt,0,none⟩)),(8,.pointer (some ⟨b8,0,none⟩)),(11,.pointer (some ⟨b11,0,none⟩)),(27,.slice (some ⟨ds,0,none⟩) m dcap),(28,.int .i64 ((m:Nat):Int)),(29,.int .i64 ((x.i:Nat):Int))],[trI tb (x.r) (l++evN x.i),.blk b11 ⟨true,pjFL x.T,148,(0,0)⟩,.blk b8 ⟨true,vec .u64 9 (fun _=>0)++(vec .u64 9 (fun _=>0)++[Value.bool false]),83,(0,0)⟩,.blk ds ⟨true,vec .i64 (m) (dg K m)++drest,3,(0,0)⟩,.blk b ⟨false,opL V f,92,(0,0)⟩,.blk f ⟨false,fldL V.p bd,116,(0,0)⟩,.blk bd ⟨false,dvL V.p,167,(0,0)⟩,.blk bt ⟨false,[.slice (some ⟨br,0,none⟩) 16 cap],156,(0,0)⟩,.blk br ⟨false,tabL (mulE V (P)) 16++rest,83,(0,0)⟩]⟩) (fun x=>m-x.i) (⟨0,tripF (.inf:Pt V.p),tr⟩) (⟨Nat.zero_le _,mul_top hok hK hm⟩) (by dsimp only [evN]; rw [List.append_nil]; exact Kd ⟨rfl,rfl,rfl,rfl,rfl,rfl,rfl,rfl,trivial⟩ mS) ?_
  rintro x ⟨hx1,hx2⟩
  refine KB (KA ?_)
  refine oP (KD rfl rfl (KAR)) ?_
  refine KC ?_
  refine KB ?_
  first|refine KN rfl (fun h30=>?_) (fun h30=>?_)|refine KQ rfl (fun h30=>?_) (fun h30=>?_)
  ·
    have h30:x.i<m:=h30
    refine KM ?_
    refine KB ?_
    refine LCode.block ?_
    refine KB (KA ?_)
    refine oP (Det.indexS Tryz.underlying58 sz_3 rfl rfl om) ?_
    refine oD (dL rfl (hv:=KJ Tryz.underlying3 rfl (by exact dig_get om))) ?_
    refine oA ?_
    refine KC ?_
    refine KB ?_
    refine KB (KA ?_)
    refine oP (Kr (v:=.int .i64 ((0:Nat):Int)) rfl) ?_
    refine KC ?_
    refine LCode.block ?_
    refine Kh (α:=Nat×(Fin V.p×Fin V.p×Fin V.p)) (fun y=>y.1≤4∧RepT V y.2 (pmul V.A P (K/2^((m-x.i)*4)*2^y.1))) (fun y=>⟨[(13,.int .i64 ((dg K m x.i:Nat):Int)),(33,.int .i64 ((y.1:Nat):Int)),(0,trV tb),(1,.pointer (some ⟨b,0,none⟩)),(3,.pointer (some ⟨bt,0,none⟩)),(8,.pointer (some ⟨b8,0,none⟩)),(11,.pointer (some ⟨b11,0,none⟩)),(27,.slice (some ⟨ds,0,none⟩) m dcap),(28,.int .i64 ((m:Nat):Int)),(29,.int .i64 ((x.i:Nat):Int))],[trI tb (x.r) (l++evN x.i),.blk b11 ⟨true,pjFL y.2,148,(0,0)⟩,.blk b8 ⟨true,vec .u64 9 (fun _=>0)++(vec .u64 9 (fun _=>0)++[Value.bool false]),83,(0,0)⟩,.blk ds ⟨true,vec .i64 (m) (dg K m)++drest,3,(0,0)⟩,.blk b ⟨false,opL V f,92,(0,0)⟩,.blk f ⟨false,fldL V.p bd,116,(0,0)⟩,.blk bd ⟨false,dvL V.p,167,(0,0)⟩,.blk bt ⟨false,[.slice (some ⟨br,0,none⟩) 16 cap],156,(0,0)⟩,.blk br ⟨false,tabL (mulE V (P)) 16++rest,83,(0,0)⟩]⟩) (fun y=>4-y.1) ((0,x.T)) (⟨Nat.zero_le _,by dsimp only; rw [Nat.pow_zero,Nat.mul_one]; exact hx2⟩) (Kd ⟨rfl,rfl,rfl,rfl,rfl,rfl,rfl,rfl,rfl,rfl,trivial⟩ mS) ?_
    rintro y ⟨hy1,hy2⟩
    refine KB (KA ?_)
    refine oP (KD rfl rfl (KAR (b:=4))) ?_
    refine KC ?_
    refine KB ?_
    first|refine KN rfl (fun h34=>?_) (fun h34=>?_)|refine KQ rfl (fun h34=>?_) (fun h34=>?_)
    ·
      have h34:y.1<4:=h34
      refine KM ?_
      refine KB ?_
      refine LCode.block ?_
      refine KA ?_
      refine oM ?_
      refine oD (dL rfl (hv:=by exact KE Tryz.underlying148 rfl sz_148)) ?_
      refine oD (dL rfl (hv:=by exact KE Tryz.underlying148 rfl sz_148)) ?_
      refine oS (cF rfl en_90 rfl (fun w hw=>c_SumT V b f bd hok (y.2) (y.2) w (mC hw) (mC hw) (mC hw)) ?_)
      refine KO rfl (sA rfl rfl sz_148 (by exact pjFL_one _) (hl:=by exact pjFL_length _) (h:=?_))
      refine KC ?_
      refine KA ?_
      refine oP (KD rfl rfl (Kn (b:=1) om)) ?_
      refine oM ?_
      refine KC ?_
      exact ⟨(y.1+1,sumT V y.2 y.2),⟨by dsimp only; omega,mul_twice hok hP hy2⟩,by dsimp only; omega,Kd ⟨rfl,rfl,rfl,rfl,rfl,rfl,rfl,rfl,rfl,rfl,trivial⟩ mS⟩
    ·
      have h34:¬ y.1<4:=h34
      refine Ke ?_
      refine KB ?_
      obtain ⟨j,T⟩:=y
      obtain rfl:j = 4:=by omega
      refine KA ?_
      refine oM ?_
      refine oM ?_
      refine oM ?_
      refine KO rfl (LStepW.callT (first:=[]) (r:=x.r) (l:=l++evN x.i) (l':=l++evN (x.i+1)) rfl en_91 rfl (Nb rfl) mP (fun w hw hn=>by rw [show l++evN (x.i+1) = (l++evN x.i)++List.range 16 from (List.append_assoc _ _ _).symm]; exact c_tabPick tb x.r _ bt br cap rest V hok (mulE V (P)) 16 (dg K m x.i) (dg_lt _ _ _) dc w (mC hw) (mC hw) (mC hw) (hn _ mM) (hn _ mM) (by rw [List.length_append,evN_length]; omega)) ?_)
      intro r1
      refine oM ?_
      refine oP (Det.extract rfl rfl) ?_
      refine oP (Det.extract rfl rfl) ?_
      refine oS (mk (KP zr_83) (fun b14=>?_))
      refine KO rfl (sA rfl rfl sz_83 mO (hl:=by exact KX _ _ _) (h:=?_))
      refine oA ?_
      refine KC ?_
      refine rD [5] ?_
      refine aM 0 ?_
      refine aD 1 rfl (dL rfl (hv:=by exact KE Tryz.underlying148 rfl sz_148)) ?_
      refine aD 2 rfl (dL rfl (hv:=by exact KE Tryz.underlying83 rfl sz_83)) ?_
      refine aO 3 rfl (cF rfl en_92 rfl (fun w hw=>c_Triple V hok (mulE V (P) (dg K m x.i)) w) ?_)
      refine aO 4 rfl (cF rfl en_90 rfl (fun w hw=>c_SumT V b f bd hok (T) (tripF (mulE V (P) (dg K m x.i))) w (mC hw) (mC hw) (mC hw)) ?_)
      refine aL 5 rfl (sA rfl rfl sz_148 (by exact pjFL_one _) (hl:=by exact pjFL_length _) (h:=?_))
      refine aE ?_
      refine KA ?_
      refine oP (KD rfl rfl (Kn (b:=1) om)) ?_
      refine oM ?_
      refine KC ?_
      exact ⟨⟨x.i+1,sumT V T (tripF (mulE V (P) (dg K m x.i))),r1⟩,⟨by dsimp only; omega,mul_digit hok hP h30 hy2⟩,by dsimp only; omega,Kd ⟨rfl,rfl,rfl,rfl,rfl,rfl,rfl,rfl,trivial⟩ mS⟩
  ·
    have h30:¬ x.i<m:=h30
    refine Ke ?_
    refine KB ?_
    have hxm:x.i = m:=by omega
    refine KA ?_
    refine oM ?_
    refine oD (dL rfl (hv:=by exact KE Tryz.underlying148 rfl sz_148)) ?_
    refine oS (cF rfl en_93 rfl (fun w hw=>c_PlainT V b f bd hok (x.T) (pmul V.A P K) w (mC hw) (mC hw) (mC hw) (mul_all hxm hx2)) ?_)
    refine KO rfl (sA rfl rfl sz_83 mO (hl:=by simp [KX,KS]) (h:=?_))
    refine KC (KI ?_)
    exact ⟨[_],.cons ⟨_,_,_,rfl,mM,by exact KE Tryz.underlying83 rfl sz_83⟩ .nil,fun a w' hr=>by
      have hq:=hr.tr (v:=ptP (pmul V.A P K)) (r':=x.r) (l:=l++evN x.i) mM
      rwa [hxm] at hq⟩
end Go.Proofs.YtlmiolnccgjjjaaGreat
set_option linter.unusedVariables false
set_option linter.unusedSimpArgs false
set_option maxRecDepth 20000
namespace Go.Proofs.YtlmiolnccgjjjaaGreat
open Go Go.RowKit
open Grp
theorem c_mMul (tb:Option Nat) (tr:TrRow) (l:List Nat) (id:Int) (V:Cv) (K:Nat) (P:Pt V.p) (m:Nat) (hm:(blen V.n+3)/4 = m) (w:World) (h:cvI id = some V) (hP:On V.A V.B P) (hK:K<V.n) (h0:(trI tb tr l).holds w) (hl:l.length≤80000000):Calls Tryz.prog 42 ([trV tb,.int .i64 id,natV K,ptP P]:List Value).toArray w (fun e w'=>TrR w tb tr (l++evN m) (.tuple #[ptP (pmul V.A P K),.int .i64 ((0:Nat):Int)]) e w'):=by
  obtain ⟨hok,hid⟩:=cvI_ok h
  have hbb:=hok.bounds
  have hpW:V.p<W9:=KAJ hbb.2.1
  have hnW:V.n<W9:=KAJ hbb.2.2.2.2.2.2.1
  have hbl:=blen_w9 hnW
  have hnb:nby V.n≤72:=by (unfold nby; omega)
  refine calls_tr (N:=40) (rs:=[.cell 8 83,.tmp 9]) tb tr l [] Tryz.func42 rfl Tryz.ntmps42 Tryz.results42 (Nb rfl) h0 trivial rfl trivial ?_
  show LCode _ _ _ ⟨_,_⟩ _
  refine KB (KA ?_)
  refine oS (mB (fun b6=>?_))
  refine oS (mB (fun b7=>?_))
  refine oS (mk (KP zr_83) (fun b8=>?_))
  refine oP (KR (v:=.int .i64 ((0:Nat):Int)) rfl) ?_
  refine KC ?_
  refine KB (KA ?_)
  refine oM ?_
  refine oS (KAL (Post:=fun v its=>∃ b f bd,v = .pointer (some ⟨b,0,none⟩)∧its = [.blk b ⟨false,opL V f,92,(0,0)⟩,.blk f ⟨false,fldL V.p bd,116,(0,0)⟩,.blk bd ⟨false,dvL V.p,167,(0,0)⟩]) (first:=[]) rfl en_39 rfl (Nb rfl) (fun w1 hw hs=>(c_Open _ V w1 h).mono fun e w' ⟨b,f,bd,h1,h2,h3,h4,h5,h6,h7,h8⟩=>⟨_,_,⟨b,f,bd,rfl,rfl⟩,h1,KAO h8 (by intro x hx; simp at hx; rcases hx with rfl|rfl|rfl; exact h2; exact h3; exact h4) (by intro x hx; simp at hx; rcases hx with rfl|rfl|rfl <;> rfl) (by intro x hx k hk; simp at hx; rcases hx with rfl|rfl|rfl <;> simp [Item.fp] at hk <;> subst hk; exact .inl h5; exact .inl h6; exact .inl h7)⟩) ?_)
  rintro _ _ ⟨b,f,bd,rfl,rfl⟩
  refine oA ?_
  refine KC ?_
  refine KB ?_
  refine LCode.block ?_
  refine KB (KA ?_)
  refine oM ?_
  refine oP (KG (Det.eqp Tryz.underlying79 rfl rfl) (show _ = Value.bool false from rfl)) ?_
  refine oA ?_
  refine KC ?_
  refine KK rfl ?_
  refine KB (KA ?_)
  refine oM ?_
  refine oD (dL rfl (hv:=by exact KE Tryz.underlying83 rfl sz_83)) ?_
  refine oS (cF rfl en_67 rfl (fun w hw=>c_cOnP V b f bd hok (P) w (mC hw) (mC hw) (mC hw) hP) ?_)
  refine oP (KG (Det.not rfl) (show _ = Value.bool false from rfl)) ?_
  refine oA ?_
  refine KC ?_
  refine KK rfl ?_
  refine KB ?_
  refine rD [] ?_
  refine aD 0 rfl (dL rfl (hv:=by exact KE Tryz.underlying25 rfl sz_25)) ?_
  refine aM 1 ?_
  refine aP 2 rfl (KL rfl) ?_
  refine aP 3 rfl (KF (o':=0) Tryz.underlying92 rfl rfl rfl sz_89 dc) ?_
  refine aP 4 rfl (KF (o':=28) Tryz.underlying89 rfl rfl rfl sz_25 dc) ?_
  refine aD 5 rfl (dL rfl (hv:=by exact cvC_ld_n _ _ _ _ _ _ _ _ _ _ _ _ _ _ _ _)) ?_
  refine aO 6 rfl (cF rfl en_68 rfl (fun w hw=>c_nat_Cmp K V.n (Nat.lt_trans hK hnW) hnW w) ?_)
  refine aP 7 rfl (KD (v:=.bool false) rfl rfl (br_f cmp_geq (Nat.not_le_of_gt hK))) ?_
  refine aA 8 ?_
  refine aE ?_
  refine KK rfl ?_
  refine KM ?_
  refine KB ?_
  refine rD [6,7] ?_
  refine aM 0 ?_
  refine aM 1 ?_
  refine aD 2 rfl (dL rfl (hv:=by exact KE Tryz.underlying25 rfl sz_25)) ?_
  refine aM 3 ?_
  refine aO 4 rfl (LStep.det (dL rfl (hv:=by exact KE Tryz.underlying83 rfl sz_83)) (Nb rfl) ?_)
  refine aO 5 rfl (cC rfl en_70 rfl (fun w hw=>bringsC (c_tabOf V b f bd hok (P) hP 16 dc dc w (mC hw) (mC hw) (mC hw)) _) ?_)
  rintro _ _ ⟨bt,br,cap,rest,rfl,rfl⟩
  refine aL 6 rfl (LStepW.callT (first:=[]) (r:=tr) (l:=l) (l':=l++evN m) rfl en_69 rfl (Nb rfl) mP (fun w hw hn=>c_mTimes tb tr l V b f bd hok K m (P) bt br cap rest hP hK hm w (mC hw) hl (mC hw) (mC hw) (mC hw) (mC hw) (mC hw) (hn _ mM) (hn _ mM) (hn _ mM) (hn _ mM) (hn _ mM)) ?_)
  intro r1
  refine aL 7 rfl (sA rfl rfl sz_83 (by exact KAB _ _ _) (hl:=by simp [KX,KS]) (h:=?_))
  refine aP 8 rfl (KR (v:=.int .i64 ((0:Nat):Int)) rfl) ?_
  refine aE ?_
  refine KI ?_
  exact ⟨[_,_],.cons ⟨_,_,_,rfl,mM,by exact KE Tryz.underlying83 rfl sz_83⟩ (.cons rfl .nil),fun a w' hr=>hr.tr mM⟩
end Go.Proofs.YtlmiolnccgjjjaaGreat
set_option linter.unusedVariables false
set_option linter.unusedSimpArgs false
set_option maxRecDepth 20000
namespace Go.Proofs.YtlmiolnccgjjjaaGreat
open Go Go.RowKit
open Grp
theorem pm_n {V:Cv} (hok:V.Ok) (k:Nat):pmul V.A (pmul V.A V.G k) V.n = .inf:=by
  rw [← pmul_mul hok.crv hok.on,Nat.mul_comm,pmul_mul hok.crv hok.on,hok.ord,pmul_inf (b:=V.B) hok.fld]
theorem pm_less {V:Cv} (hok:V.Ok) {P:Pt V.p} (hP:On V.A V.B P) (hn:pmul V.A P V.n = .inf) {K:Nat} (hK:K≤V.n):pmul V.A P (V.n-K) = (pmul V.A P K).neg:=by
  have h1:=pmul_add hok.crv hP (V.n-K) K
  rw [Nat.sub_add_cancel hK,hn] at h1
  have h2:padd V.A (pmul V.A P K).neg (pmul V.A P K) = .inf:=by
    rw [padd_comm hok.fld (neg_on (hok.mul hP _)) (hok.mul hP _)]; exact padd_neg hok.fld (hok.mul hP _)
  exact padd_cancel hok.crv (hok.mul hP _) (neg_on (hok.mul hP _)) (hok.mul hP _) (h1.symm.trans h2.symm)
end Go.Proofs.YtlmiolnccgjjjaaGreat
set_option linter.unusedVariables false
set_option linter.unusedSimpArgs false
set_option maxRecDepth 20000
namespace Go.Proofs.YtlmiolnccgjjjaaGreat
open Go Go.RowKit
def pStr (V:Cv) (X Y:Nat) (i sh:Bool):ByteArray:=if (onB V.p V.a V.b X Y i && !i) = true then putS V X Y sh else ⟨#[]⟩
def pErr (V:Cv) (X Y:Nat) (i:Bool):Nat:=if (onB V.p V.a V.b X Y i && !i) = true then 0 else 2101
theorem putV_eq (V:Cv) (X Y:Nat) (i sh:Bool):putV V X Y i sh = .tuple #[.string (pStr V X Y i sh),.int .i64 ((pErr V X Y i:Nat):Int)]:=by
  unfold putV pStr pErr; split <;> rfl
theorem c_s_GetE (X Y n:Nat) (id:Int) (V:Cv) (s:ByteArray) (w:World) (h:cvI id = some V) (hs:s.size<9223372036854775808) (hn:getT V s = (X,Y,n)):Calls Tryz.prog 41 ([.int .i64 id,.string s]:List Value).toArray w (fun e w'=>e = .returned (.tuple #[ptV X Y false,.int .i64 ((n:Nat):Int)])∧Below w.heap.size w w'):=by
  have h1:=c_s_Get id V s w h hs
  rwa [getV_eq hn] at h1
theorem c_r_Put2 (Q:CQ) (V:Cv) (q r:NV) (X Y:Nat) (i sh:Bool) (w:World) (hc:(crvI Q V).holds w) (hok:V.Ok) (hq:(numT q X).holds w) (hr:(numT r Y).holds w) (hX:D.nw X≤1000) (hY:D.nw Y≤1000):Calls Tryz.prog 17 ([.agg (crvL Q V).toArray,rpV (numV q X) (numV r Y) i,.bool sh]:List Value).toArray w (fun e w'=>e = .returned (.tuple #[.string (pStr V X Y i sh),.int .i64 ((pErr V X Y i:Nat):Int)])∧Below w.heap.size w w'):=by
  have h1:=c_r_Put Q V q r X Y i sh w hc hok hq hr hX hY
  rwa [putV_eq] at h1
theorem getX_l (V:Cv) (s:ByteArray):getX V s = beVal ((s.data.toList.take (1+nby V.p)).drop 1):=by unfold getX; rw [ext_data]
theorem getY_l (V:Cv) (s:ByteArray):getY V s = beVal (s.data.toList.drop (1+nby V.p)):=by
  unfold getY; rw [ext_data]
  rw [show s.size = s.data.toList.length by rw [Array.length_toList]; rfl,List.take_length]
theorem size_l (s:ByteArray):s.size = s.data.toList.length:=by rw [Array.length_toList]; rfl
def gT (k:Nat) (V:Cv) (l:List UInt8):Nat×Nat×Nat :=
  if l.length = 1+k∧((l.getD 0 0).toNat = 2∨(l.getD 0 0).toNat = 3) then (if (liftT V (beVal ((l.take (1+k)).drop 1)) ((l.getD 0 0).toNat-2)).2.2 = true then ((liftT V (beVal ((l.take (1+k)).drop 1)) ((l.getD 0 0).toNat-2)).1,(liftT V (beVal ((l.take (1+k)).drop 1)) ((l.getD 0 0).toNat-2)).2.1,0) else (0,0,2101))
  else if l.length = 1+2*k∧(l.getD 0 0).toNat = 4 then (if onB V.p V.a V.b (beVal ((l.take (1+k)).drop 1)) (beVal (l.drop (1+k))) false = true then (beVal ((l.take (1+k)).drop 1),beVal (l.drop (1+k)),0) else (0,0,2101))
  else (0,0,2102)
theorem getT_l (V:Cv) (s:ByteArray):getT V s = gT (nby V.p) V s.data.toList:=by
  unfold getT gT b0
  rw [getX_l,getY_l,size_l]
theorem nby13:nby cv13.p = 1:=by decide +kernel
end Go.Proofs.YtlmiolnccgjjjaaGreat
set_option linter.unusedVariables false
set_option linter.unusedSimpArgs false
set_option maxRecDepth 20000
namespace Go.Proofs.YtlmiolnccgjjjaaGreat
open Go Go.RowKit
open Grp
theorem p_pow {V:Cv} {X:Nat} (h:X<V.p):X<256^nby V.p:=by
  have h1:=lt_blen V.p
  have h2:2^blen V.p≤2^(8*nby V.p):=Nat.pow_le_pow_right dc (by unfold nby; omega)
  rw [Nat.pow_mul] at h2
  exact Nat.lt_trans h (Nat.lt_of_lt_of_le h1 h2)
theorem pfx_l (x:Nat):(pfx x).data.toList = [UInt8.ofNat x]:=rfl
theorem coB_l (V:Cv) (X:Nat):(coB V X).data.toList = beBytes (nby V.p) X:=by unfold coB strOf; rfl
theorem putS_s (V:Cv) (X Y:Nat):(putS V X Y true).data.toList = UInt8.ofNat (2+Y%2) :: beBytes (nby V.p) X:=by
  unfold putS; rw [if_pos rfl,ByteArray.toList_data_append,pfx_l,coB_l]; rfl
theorem putS_l (V:Cv) (X Y:Nat):(putS V X Y false).data.toList = 4 :: (beBytes (nby V.p) X++beBytes (nby V.p) Y):=by
  unfold putS; rw [if_neg dc,ByteArray.toList_data_append,ByteArray.toList_data_append,pfx_l,coB_l,coB_l]; rfl
theorem on_rt {V:Cv} {X Y:Nat} (h:onB V.p V.a V.b X Y false = true):Y*Y%V.p = rightN V.p V.a V.b X:=by
  unfold onB at h
  rw [if_neg dc] at h
  simp only [Bool.and_eq_true,decide_eq_true_eq] at h
  exact h.2.2
theorem even_of {V:Cv} (hok:V.Ok) {X Y:Nat} (h:onB V.p V.a V.b X Y false = true):sqN V.p (rightN V.p V.a V.b X) = some (if Y%2 = 1 then V.p-Y else Y):=by
  obtain ⟨hX,hY⟩:=on_lt h
  have h1:=sqN_eq hok.fld (p_odd hok) (⟨Y,hY⟩:Fin V.p)
  rw [Fin.val_mul] at h1
  rw [← on_rt h]
  show sqN V.p (Y*Y%V.p) = _
  refine Eq.trans h1 (congrArg some ?_)
  unfold evenR
  by_cases h2:Y%2 = 1
  · rw [if_pos h2,if_pos h2,fin_neg_val _ (by show Y≠0; omega)]
  · rw [if_neg h2,if_neg h2]
theorem lift_put {V:Cv} (hok:V.Ok) {X Y:Nat} (h:onB V.p V.a V.b X Y false = true):liftT V X (Y%2) = (X,Y,true):=by
  have h1:=even_of hok h
  obtain ⟨hX,hY⟩:=on_lt h
  rcases Nat.mod_two_eq_zero_or_one Y with h2|h2
  · rw [if_neg om] at h1
    rw [h2]; exact lift_even hX h1
  · rw [if_pos h2] at h1
    rw [h2,lift_odd hX h1 om,show V.p-(V.p-Y) = Y by omega]
theorem u8_toNat {n:Nat} (h:n<256):(UInt8.ofNat n).toNat = n:=by
  rw [UInt8.toNat_ofNat']; exact Nat.mod_eq_of_lt h
theorem getT_short {V:Cv} {s:ByteArray} {b:UInt8} {l:List UInt8} {o X Y:Nat} {ok:Bool} (hs:s.data.toList = b :: l) (hl:l.length = nby V.p) (hb:b.toNat = 2+o) (ho:o≤1) (hL:liftT V (beVal l) o = (X,Y,ok)):getT V s = if ok then (X,Y,0) else (0,0,2101):=by
  have h1:s.size = 1+nby V.p:=by rw [size_l,hs,List.length_cons,hl,Nat.add_comm]
  have h2:b0 s = 2+o:=by unfold b0; rw [hs]; exact hb
  have h3:getX V s = beVal l:=by
    rw [getX_l,hs,Nat.add_comm,List.take_succ_cons,List.drop_succ_cons,List.drop_zero,← hl,List.take_length]
  rw [← h3] at hL
  cases ok
  · exact get_shortF h1 h2 ho hL
  · exact get_short h1 h2 ho hL
theorem getT_long {V:Cv} {s:ByteArray} {l m:List UInt8} {ok:Bool} (hk:1≤nby V.p) (hs:s.data.toList = 4 :: (l++m)) (hl:l.length = nby V.p) (hm:m.length = nby V.p) (hL:onB V.p V.a V.b (beVal l) (beVal m) false = ok):getT V s = if ok then (beVal l,beVal m,0) else (0,0,2101):=by
  have h1:s.size = 1+2*nby V.p:=by rw [size_l,hs,List.length_cons,List.length_append,hl,hm]; omega
  have h2:b0 s = 4:=by unfold b0; rw [hs]; rfl
  have h3:getX V s = beVal l:=by
    rw [getX_l,hs,Nat.add_comm,List.take_succ_cons,List.drop_succ_cons,List.drop_zero,List.take_left' hl]
  have h4:getY V s = beVal m:=by
    rw [getY_l,hs,Nat.add_comm,List.drop_succ_cons,List.drop_left' hl]
  have e:getT V s = if onB V.p V.a V.b (getX V s) (getY V s) false = true then (getX V s,getY V s,0) else (0,0,2101):=by
    unfold getT
    rw [if_neg om,if_pos ⟨h1,h2⟩]
  rw [e,h3,h4,hL]
theorem get_put {V:Cv} (hok:V.Ok) {X Y:Nat} (sh:Bool) (h:onB V.p V.a V.b X Y false = true):getT V (putS V X Y sh) = (X,Y,0):=by
  obtain ⟨hX,hY⟩:=on_lt h
  have eX:beVal (beBytes (nby V.p) X) = X:=by rw [beVal_bytes,Nat.mod_eq_of_lt (p_pow hX)]
  have eY:beVal (beBytes (nby V.p) Y) = Y:=by rw [beVal_bytes,Nat.mod_eq_of_lt (p_pow hY)]
  cases sh with
  | true =>
    refine (getT_short (o:=Y%2) (ok:=true) (X:=X) (Y:=Y) (putS_s V X Y) (beBytes_length _ _) (u8_toNat om) om ?_).trans rfl
    rw [eX]; exact lift_put hok h
  | false =>
    refine (getT_long (ok:=true) (nby_posV hok) (putS_l V X Y) (beBytes_length _ _) (beBytes_length _ _) ?_).trans ?_
    · rw [eX,eY]; exact h
    · rw [eX,eY]; rfl
end Go.Proofs.YtlmiolnccgjjjaaGreat
set_option linter.unusedVariables false
set_option linter.unusedSimpArgs false
set_option maxRecDepth 20000
namespace Go.Proofs.YtlmiolnccgjjjaaGreat
open Go Go.RowKit
open Grp
theorem pStr_on {V:Cv} {X Y:Nat} (sh:Bool) (h:onB V.p V.a V.b X Y false = true):pStr V X Y false sh = putS V X Y sh∧pErr V X Y false = 0:=by
  unfold pStr pErr
  rw [if_pos (by rw [h]; rfl),if_pos (by rw [h]; rfl)]
  exact ⟨rfl,rfl⟩
theorem aff_on {V:Cv} {x y:Fin V.p} (h:On V.A V.B (.aff x y)):onB V.p V.a V.b x.val y.val false = true:=onB_on h
theorem putS_size {V:Cv} (hnb:nby V.p≤72) (X Y:Nat) (sh:Bool):(putS V X Y sh).size<9223372036854775808:=by
  rw [size_l]
  cases sh
  · rw [putS_l,List.length_cons,List.length_append,beBytes_length,beBytes_length]; omega
  · rw [putS_s,List.length_cons,beBytes_length]; omega
end Go.Proofs.YtlmiolnccgjjjaaGreat
set_option linter.unusedVariables false
set_option linter.unusedSimpArgs false
set_option maxRecDepth 20000
namespace Go.Proofs.YtlmiolnccgjjjaaGreat
open Go Go.RowKit
open Grp
theorem c_cKeyT (V:Cv) (b f X:Nat) (w:World) (hb:(Item.blk b ⟨false,opL V f,92,(0,0)⟩).holds w) (hX:X<W9) (hnW:V.n<W9) (h0:X≠0) (hn:X<V.n):Calls Tryz.prog 64 ([.pointer (some ⟨b,0,none⟩),natV X]:List Value).toArray w (fun e w'=>e = .returned (.bool true)∧Below w.heap.size w w'):=by
  refine Ka (N:=18) (rs:=[.tmp 4]) [.blk b ⟨false,opL V f,92,(0,0)⟩] Tryz.func64 rfl Tryz.ntmps64 Tryz.results64 (Nb rfl) ⟨hb,trivial⟩ rfl ?_
  show LCode _ _ _ ⟨_,_⟩ _
  refine KB (KA ?_)
  refine oS (mB (fun b3=>?_))
  refine oA ?_
  refine KC ?_
  refine KB ?_
  refine rD [] ?_
  refine aD 0 rfl (dL rfl (hv:=by exact KE Tryz.underlying25 rfl sz_25)) ?_
  refine aP 1 rfl (KG (Kp pl_25 zr_25 rfl rfl) (show _ = natV 0 by unfold natV natL; rw [← vec_zeros 9])) ?_
  refine aP 2 rfl (KG (Det.nea (by kernel_rfl) (fun w=>eq_nat X 0 hX zero_w9 10000 dc w) rfl rfl) (show _ = Value.bool true by rw [decide_eq_false h0]; rfl)) ?_
  refine aM 3 ?_
  refine aGD 4 rfl (dL rfl (hv:=by exact KE Tryz.underlying25 rfl sz_25)) ?_
  refine aGM 5 ?_
  refine aGP 6 rfl (KL rfl) ?_
  refine aGP 7 rfl (KF (o':=0) Tryz.underlying92 rfl rfl rfl sz_89 dc) ?_
  refine aGP 8 rfl (KF (o':=28) Tryz.underlying89 rfl rfl rfl sz_25 dc) ?_
  refine aGD 9 rfl (dL rfl (hv:=by exact cvC_ld_n _ _ _ _ _ _ _ _ _ _ _ _ _ _ _ _)) ?_
  refine aGO 10 rfl (cF rfl en_68 rfl (fun w hw=>c_nat_Cmp X V.n hX hnW w) ?_)
  refine aGP 11 rfl (KD (v:=.bool true) rfl rfl (br_t cmp_lt (hn))) ?_
  refine aP 12 rfl (Kj rfl rfl) ?_
  refine aA 13 ?_
  refine aE ?_
  refine KI ?_
  refine ⟨[_],.cons rfl .nil,fun a w' hr=>⟨?_,hr.fr.below⟩⟩
  rfl
theorem c_cKeyZ (V:Cv) (b f:Nat) (w:World) (hb:(Item.blk b ⟨false,opL V f,92,(0,0)⟩).holds w):Calls Tryz.prog 64 ([.pointer (some ⟨b,0,none⟩),natV 0]:List Value).toArray w (fun e w'=>e = .returned (.bool false)∧Below w.heap.size w w'):=by
  refine Ka (N:=18) (rs:=[.tmp 4]) [.blk b ⟨false,opL V f,92,(0,0)⟩] Tryz.func64 rfl Tryz.ntmps64 Tryz.results64 (Nb rfl) ⟨hb,trivial⟩ rfl ?_
  show LCode _ _ _ ⟨_,_⟩ _
  refine KB (KA ?_)
  refine oS (mB (fun b3=>?_))
  refine oA ?_
  refine KC ?_
  refine KB ?_
  refine rD [] ?_
  refine aD 0 rfl (dL rfl (hv:=by exact KE Tryz.underlying25 rfl sz_25)) ?_
  refine aP 1 rfl (KG (Kp pl_25 zr_25 rfl rfl) (show _ = natV 0 by unfold natV natL; rw [← vec_zeros 9])) ?_
  refine aP 2 rfl (KG (Det.nea (by kernel_rfl) (fun w=>eq_nat 0 0 zero_w9 zero_w9 10000 dc w) rfl rfl) (show _ = Value.bool false by rw [decide_eq_true rfl]; rfl)) ?_
  refine aM 3 ?_
  refine aK 4 ?_
  refine aK 5 ?_
  refine aK 6 ?_
  refine aK 7 ?_
  refine aK 8 ?_
  refine aK 9 ?_
  refine aK 10 ?_
  refine aK 11 ?_
  refine aP 12 rfl (KY rfl rfl) ?_
  refine aA 13 ?_
  refine aE ?_
  refine KI ?_
  refine ⟨[_],.cons rfl .nil,fun a w' hr=>⟨?_,hr.fr.below⟩⟩
  rfl
theorem c_cKeyF (V:Cv) (b f X:Nat) (w:World) (hb:(Item.blk b ⟨false,opL V f,92,(0,0)⟩).holds w) (hX:X<W9) (hnW:V.n<W9) (h0:X≠0) (hn:V.n≤X):Calls Tryz.prog 64 ([.pointer (some ⟨b,0,none⟩),natV X]:List Value).toArray w (fun e w'=>e = .returned (.bool false)∧Below w.heap.size w w'):=by
  refine Ka (N:=18) (rs:=[.tmp 4]) [.blk b ⟨false,opL V f,92,(0,0)⟩] Tryz.func64 rfl Tryz.ntmps64 Tryz.results64 (Nb rfl) ⟨hb,trivial⟩ rfl ?_
  show LCode _ _ _ ⟨_,_⟩ _
  refine KB (KA ?_)
  refine oS (mB (fun b3=>?_))
  refine oA ?_
  refine KC ?_
  refine KB ?_
  refine rD [] ?_
  refine aD 0 rfl (dL rfl (hv:=by exact KE Tryz.underlying25 rfl sz_25)) ?_
  refine aP 1 rfl (KG (Kp pl_25 zr_25 rfl rfl) (show _ = natV 0 by unfold natV natL; rw [← vec_zeros 9])) ?_
  refine aP 2 rfl (KG (Det.nea (by kernel_rfl) (fun w=>eq_nat X 0 hX zero_w9 10000 dc w) rfl rfl) (show _ = Value.bool true by rw [decide_eq_false h0]; rfl)) ?_
  refine aM 3 ?_
  refine aGD 4 rfl (dL rfl (hv:=by exact KE Tryz.underlying25 rfl sz_25)) ?_
  refine aGM 5 ?_
  refine aGP 6 rfl (KL rfl) ?_
  refine aGP 7 rfl (KF (o':=0) Tryz.underlying92 rfl rfl rfl sz_89 dc) ?_
  refine aGP 8 rfl (KF (o':=28) Tryz.underlying89 rfl rfl rfl sz_25 dc) ?_
  refine aGD 9 rfl (dL rfl (hv:=by exact cvC_ld_n _ _ _ _ _ _ _ _ _ _ _ _ _ _ _ _)) ?_
  refine aGO 10 rfl (cF rfl en_68 rfl (fun w hw=>c_nat_Cmp X V.n hX hnW w) ?_)
  refine aGP 11 rfl (KD (v:=.bool false) rfl rfl (br_f cmp_lt (Nat.not_lt_of_le hn))) ?_
  refine aP 12 rfl (Kj rfl rfl) ?_
  refine aA 13 ?_
  refine aE ?_
  refine KI ?_
  refine ⟨[_],.cons rfl .nil,fun a w' hr=>⟨?_,hr.fr.below⟩⟩
  rfl
theorem c_kCheckT (id:Int) (V:Cv) (K:Nat) (w:World) (h:cvI id = some V) (h0:K≠0) (hn:K<V.n):Calls Tryz.prog 40 ([.int .i64 id,natV K]:List Value).toArray w (fun e w'=>e = .returned (.int .i64 ((0:Nat):Int))∧Below w.heap.size w w'):=by
  obtain ⟨hok,hid⟩:=cvI_ok h
  have hbb:=hok.bounds
  have hpW:V.p<W9:=KAJ hbb.2.1
  have hnW:V.n<W9:=KAJ hbb.2.2.2.2.2.2.1
  have hbl:=blen_w9 hnW
  have hnb:nby V.n≤72:=by (unfold nby; omega)
  refine Ka (N:=16) (rs:=[.tmp 4]) [] Tryz.func40 rfl Tryz.ntmps40 Tryz.results40 (Nb rfl) trivial rfl ?_
  show LCode _ _ _ ⟨_,_⟩ _
  refine KB (KA ?_)
  refine oS (mB (fun b3=>?_))
  refine oP (KR (v:=.int .i64 ((0:Nat):Int)) rfl) ?_
  refine KC ?_
  refine KB (KA ?_)
  refine oM ?_
  refine oS (KAL (Post:=fun v its=>∃ b f bd,v = .pointer (some ⟨b,0,none⟩)∧its = [.blk b ⟨false,opL V f,92,(0,0)⟩,.blk f ⟨false,fldL V.p bd,116,(0,0)⟩,.blk bd ⟨false,dvL V.p,167,(0,0)⟩]) (first:=[]) rfl en_39 rfl (Nb rfl) (fun w1 hw hs=>(c_Open _ V w1 h).mono fun e w' ⟨b,f,bd,h1,h2,h3,h4,h5,h6,h7,h8⟩=>⟨_,_,⟨b,f,bd,rfl,rfl⟩,h1,KAO h8 (by intro x hx; simp at hx; rcases hx with rfl|rfl|rfl; exact h2; exact h3; exact h4) (by intro x hx; simp at hx; rcases hx with rfl|rfl|rfl <;> rfl) (by intro x hx k hk; simp at hx; rcases hx with rfl|rfl|rfl <;> simp [Item.fp] at hk <;> subst hk; exact .inl h5; exact .inl h6; exact .inl h7)⟩) ?_)
  rintro _ _ ⟨b,f,bd,rfl,rfl⟩
  refine oA ?_
  refine KC ?_
  refine KB ?_
  refine LCode.block ?_
  refine KB (KA ?_)
  refine oM ?_
  refine oP (KG (Det.eqp Tryz.underlying79 rfl rfl) (show _ = Value.bool false from rfl)) ?_
  refine oA ?_
  refine KC ?_
  refine KK rfl ?_
  refine KB (KA ?_)
  refine oM ?_
  refine oD (dL rfl (hv:=by exact KE Tryz.underlying25 rfl sz_25)) ?_
  refine oS (cF rfl en_64 rfl (fun w hw=>c_cKeyT V b f K w (mC hw) (Nat.lt_trans hn hnW) hnW h0 hn) ?_)
  refine oP (KG (Det.not rfl) (show _ = Value.bool false from rfl)) ?_
  refine oA ?_
  refine KC ?_
  refine KK rfl ?_
  refine KM ?_
  refine KB (KA ?_)
  refine oP (KR (v:=.int .i64 ((0:Nat):Int)) rfl) ?_
  refine KC (KI ?_)
  refine ⟨[_],.cons rfl .nil,fun a w' hr=>⟨?_,hr.fr.below⟩⟩
  rfl
theorem c_kCheckZ (id:Int) (V:Cv) (w:World) (h:cvI id = some V):Calls Tryz.prog 40 ([.int .i64 id,natV 0]:List Value).toArray w (fun e w'=>e = .returned (.int .i64 ((2401:Nat):Int))∧Below w.heap.size w w'):=by
  obtain ⟨hok,hid⟩:=cvI_ok h
  have hbb:=hok.bounds
  have hpW:V.p<W9:=KAJ hbb.2.1
  have hnW:V.n<W9:=KAJ hbb.2.2.2.2.2.2.1
  have hbl:=blen_w9 hnW
  have hnb:nby V.n≤72:=by (unfold nby; omega)
  refine Ka (N:=16) (rs:=[.tmp 4]) [] Tryz.func40 rfl Tryz.ntmps40 Tryz.results40 (Nb rfl) trivial rfl ?_
  show LCode _ _ _ ⟨_,_⟩ _
  refine KB (KA ?_)
  refine oS (mB (fun b3=>?_))
  refine oP (KR (v:=.int .i64 ((0:Nat):Int)) rfl) ?_
  refine KC ?_
  refine KB (KA ?_)
  refine oM ?_
  refine oS (KAL (Post:=fun v its=>∃ b f bd,v = .pointer (some ⟨b,0,none⟩)∧its = [.blk b ⟨false,opL V f,92,(0,0)⟩,.blk f ⟨false,fldL V.p bd,116,(0,0)⟩,.blk bd ⟨false,dvL V.p,167,(0,0)⟩]) (first:=[]) rfl en_39 rfl (Nb rfl) (fun w1 hw hs=>(c_Open _ V w1 h).mono fun e w' ⟨b,f,bd,h1,h2,h3,h4,h5,h6,h7,h8⟩=>⟨_,_,⟨b,f,bd,rfl,rfl⟩,h1,KAO h8 (by intro x hx; simp at hx; rcases hx with rfl|rfl|rfl; exact h2; exact h3; exact h4) (by intro x hx; simp at hx; rcases hx with rfl|rfl|rfl <;> rfl) (by intro x hx k hk; simp at hx; rcases hx with rfl|rfl|rfl <;> simp [Item.fp] at hk <;> subst hk; exact .inl h5; exact .inl h6; exact .inl h7)⟩) ?_)
  rintro _ _ ⟨b,f,bd,rfl,rfl⟩
  refine oA ?_
  refine KC ?_
  refine KB ?_
  refine LCode.block ?_
  refine KB (KA ?_)
  refine oM ?_
  refine oP (KG (Det.eqp Tryz.underlying79 rfl rfl) (show _ = Value.bool false from rfl)) ?_
  refine oA ?_
  refine KC ?_
  refine KK rfl ?_
  refine KB (KA ?_)
  refine oM ?_
  refine oD (dL rfl (hv:=by exact KE Tryz.underlying25 rfl sz_25)) ?_
  refine oS (cF rfl en_64 rfl (fun w hw=>c_cKeyZ V b f w (mC hw)) ?_)
  refine oP (KG (Det.not rfl) (show _ = Value.bool true from rfl)) ?_
  refine oA ?_
  refine KC ?_
  refine KU rfl ?_
  refine KB (KA ?_)
  refine oP (KR (v:=.int .i64 ((2401:Nat):Int)) rfl) ?_
  refine KC (KI ?_)
  refine ⟨[_],.cons rfl .nil,fun a w' hr=>⟨?_,hr.fr.below⟩⟩
  rfl
theorem c_kCheckF (id:Int) (V:Cv) (K:Nat) (w:World) (h:cvI id = some V) (hX:K<W9) (h0:K≠0) (hn:V.n≤K):Calls Tryz.prog 40 ([.int .i64 id,natV K]:List Value).toArray w (fun e w'=>e = .returned (.int .i64 ((2401:Nat):Int))∧Below w.heap.size w w'):=by
  obtain ⟨hok,hid⟩:=cvI_ok h
  have hbb:=hok.bounds
  have hpW:V.p<W9:=KAJ hbb.2.1
  have hnW:V.n<W9:=KAJ hbb.2.2.2.2.2.2.1
  have hbl:=blen_w9 hnW
  have hnb:nby V.n≤72:=by (unfold nby; omega)
  refine Ka (N:=16) (rs:=[.tmp 4]) [] Tryz.func40 rfl Tryz.ntmps40 Tryz.results40 (Nb rfl) trivial rfl ?_
  show LCode _ _ _ ⟨_,_⟩ _
  refine KB (KA ?_)
  refine oS (mB (fun b3=>?_))
  refine oP (KR (v:=.int .i64 ((0:Nat):Int)) rfl) ?_
  refine KC ?_
  refine KB (KA ?_)
  refine oM ?_
  refine oS (KAL (Post:=fun v its=>∃ b f bd,v = .pointer (some ⟨b,0,none⟩)∧its = [.blk b ⟨false,opL V f,92,(0,0)⟩,.blk f ⟨false,fldL V.p bd,116,(0,0)⟩,.blk bd ⟨false,dvL V.p,167,(0,0)⟩]) (first:=[]) rfl en_39 rfl (Nb rfl) (fun w1 hw hs=>(c_Open _ V w1 h).mono fun e w' ⟨b,f,bd,h1,h2,h3,h4,h5,h6,h7,h8⟩=>⟨_,_,⟨b,f,bd,rfl,rfl⟩,h1,KAO h8 (by intro x hx; simp at hx; rcases hx with rfl|rfl|rfl; exact h2; exact h3; exact h4) (by intro x hx; simp at hx; rcases hx with rfl|rfl|rfl <;> rfl) (by intro x hx k hk; simp at hx; rcases hx with rfl|rfl|rfl <;> simp [Item.fp] at hk <;> subst hk; exact .inl h5; exact .inl h6; exact .inl h7)⟩) ?_)
  rintro _ _ ⟨b,f,bd,rfl,rfl⟩
  refine oA ?_
  refine KC ?_
  refine KB ?_
  refine LCode.block ?_
  refine KB (KA ?_)
  refine oM ?_
  refine oP (KG (Det.eqp Tryz.underlying79 rfl rfl) (show _ = Value.bool false from rfl)) ?_
  refine oA ?_
  refine KC ?_
  refine KK rfl ?_
  refine KB (KA ?_)
  refine oM ?_
  refine oD (dL rfl (hv:=by exact KE Tryz.underlying25 rfl sz_25)) ?_
  refine oS (cF rfl en_64 rfl (fun w hw=>c_cKeyF V b f K w (mC hw) hX hnW h0 hn) ?_)
  refine oP (KG (Det.not rfl) (show _ = Value.bool true from rfl)) ?_
  refine oA ?_
  refine KC ?_
  refine KU rfl ?_
  refine KB (KA ?_)
  refine oP (KR (v:=.int .i64 ((2401:Nat):Int)) rfl) ?_
  refine KC (KI ?_)
  refine ⟨[_],.cons rfl .nil,fun a w' hr=>⟨?_,hr.fr.below⟩⟩
  rfl
theorem c_eShared_none (tb:Option Nat) (id:Int) (K:Nat) (s:ByteArray) (w:World) (h:cvI id = none):Calls Tryz.prog 19 ([trV tb,.int .i64 id,natV K,.string s]:List Value).toArray w (fun e w'=>e = .returned (.tuple #[.string ⟨#[]⟩,.int .i64 ((2500:Nat):Int)])∧Below w.heap.size w w'):=by
  refine Ka (N:=55) (rs:=[.tmp 8,.tmp 9]) [] Tryz.func19 rfl Tryz.ntmps19 Tryz.results19 (Nb rfl) trivial rfl ?_
  show LCode _ _ _ ⟨_,_⟩ _
  refine KB (KA ?_)
  refine oS (mB (fun b6=>?_))
  refine oA ?_
  refine oP (KR (v:=.int .i64 ((0:Nat):Int)) rfl) ?_
  refine KC ?_
  refine KB (KA ?_)
  refine oM ?_
  refine oS (cF rfl en_39 rfl (fun w hw=>c_Open_none id w h) ?_)
  refine oA ?_
  refine KC ?_
  refine KB ?_
  refine LCode.block ?_
  refine KB (KA ?_)
  refine oM ?_
  refine oP (KG (Det.eqp Tryz.underlying79 rfl rfl) (show _ = Value.bool true from rfl)) ?_
  refine oA ?_
  refine KC ?_
  refine KU rfl ?_
  refine KB (KA ?_)
  refine oA ?_
  refine oP (KR (v:=.int .i64 ((2500:Nat):Int)) rfl) ?_
  refine KC (KI ?_)
  refine ⟨[_,_],.cons rfl (.cons rfl .nil),fun a w' hr=>⟨?_,hr.fr.below⟩⟩
  rfl
theorem c_eShared_key (tb:Option Nat) (id:Int) (V:Cv) (K:Nat) (s:ByteArray) (w:World) (h:cvI id = some V) (hX:K<W9) (hk:K = 0∨V.n≤K):Calls Tryz.prog 19 ([trV tb,.int .i64 id,natV K,.string s]:List Value).toArray w (fun e w'=>e = .returned (.tuple #[.string ⟨#[]⟩,.int .i64 ((2501:Nat):Int)])∧Below w.heap.size w w'):=by
  obtain ⟨hok,hid⟩:=cvI_ok h
  have hbb:=hok.bounds
  have hpW:V.p<W9:=KAJ hbb.2.1
  have hnW:V.n<W9:=KAJ hbb.2.2.2.2.2.2.1
  have hbl:=blen_w9 hnW
  have hnb:nby V.n≤72:=by (unfold nby; omega)
  refine Ka (N:=55) (rs:=[.tmp 8,.tmp 9]) [] Tryz.func19 rfl Tryz.ntmps19 Tryz.results19 (Nb rfl) trivial rfl ?_
  show LCode _ _ _ ⟨_,_⟩ _
  refine KB (KA ?_)
  refine oS (mB (fun b6=>?_))
  refine oA ?_
  refine oP (KR (v:=.int .i64 ((0:Nat):Int)) rfl) ?_
  refine KC ?_
  refine KB (KA ?_)
  refine oM ?_
  refine oS (KAL (Post:=fun v its=>∃ b f bd,v = .pointer (some ⟨b,0,none⟩)∧its = [.blk b ⟨false,opL V f,92,(0,0)⟩,.blk f ⟨false,fldL V.p bd,116,(0,0)⟩,.blk bd ⟨false,dvL V.p,167,(0,0)⟩]) (first:=[]) rfl en_39 rfl (Nb rfl) (fun w1 hw hs=>(c_Open _ V w1 h).mono fun e w' ⟨b,f,bd,h1,h2,h3,h4,h5,h6,h7,h8⟩=>⟨_,_,⟨b,f,bd,rfl,rfl⟩,h1,KAO h8 (by intro x hx; simp at hx; rcases hx with rfl|rfl|rfl; exact h2; exact h3; exact h4) (by intro x hx; simp at hx; rcases hx with rfl|rfl|rfl <;> rfl) (by intro x hx k hk; simp at hx; rcases hx with rfl|rfl|rfl <;> simp [Item.fp] at hk <;> subst hk; exact .inl h5; exact .inl h6; exact .inl h7)⟩) ?_)
  rintro _ _ ⟨b,f,bd,rfl,rfl⟩
  refine oA ?_
  refine KC ?_
  refine KB ?_
  refine LCode.block ?_
  refine KB (KA ?_)
  refine oM ?_
  refine oP (KG (Det.eqp Tryz.underlying79 rfl rfl) (show _ = Value.bool false from rfl)) ?_
  refine oA ?_
  refine KC ?_
  refine KK rfl ?_
  refine KB ?_
  rcases (show K = 0∨K≠0 by omega) with rfl|h0
  ·
    refine KA ?_
    refine oM ?_
    refine oD (dL rfl (hv:=by exact KE Tryz.underlying25 rfl sz_25)) ?_
    refine oS (cF rfl en_40 rfl (fun w hw=>c_kCheckZ id V w h) ?_)
    refine oP (KD (v:=.bool true) rfl rfl (br_t (br_neq (b:=0)) dc)) ?_
    refine oA ?_
    refine KC ?_
    refine KU rfl ?_
    refine KB (KA ?_)
    refine oA ?_
    refine oP (KR (v:=.int .i64 ((2501:Nat):Int)) rfl) ?_
    refine KC (KI ?_)
    refine ⟨[_,_],.cons rfl (.cons rfl .nil),fun a w' hr=>⟨?_,hr.fr.below⟩⟩
    rfl
  ·
    refine KA ?_
    refine oM ?_
    refine oD (dL rfl (hv:=by exact KE Tryz.underlying25 rfl sz_25)) ?_
    refine oS (cF rfl en_40 rfl (fun w hw=>c_kCheckF id V K w h hX h0 om) ?_)
    refine oP (KD (v:=.bool true) rfl rfl (br_t (br_neq (b:=0)) dc)) ?_
    refine oA ?_
    refine KC ?_
    refine KU rfl ?_
    refine KB (KA ?_)
    refine oA ?_
    refine oP (KR (v:=.int .i64 ((2501:Nat):Int)) rfl) ?_
    refine KC (KI ?_)
    refine ⟨[_,_],.cons rfl (.cons rfl .nil),fun a w' hr=>⟨?_,hr.fr.below⟩⟩
    rfl
theorem c_eShared_pt (tb:Option Nat) (id:Int) (V:Cv) (K:Nat) (s:ByteArray) (X Y e:Nat) (w:World) (h:cvI id = some V) (h0:K≠0) (hn:K<V.n) (hs:s.size<9223372036854775808) (hg:getT V s = (X,Y,e)) (he:e≠0):Calls Tryz.prog 19 ([trV tb,.int .i64 id,natV K,.string s]:List Value).toArray w (fun e w'=>e = .returned (.tuple #[.string ⟨#[]⟩,.int .i64 ((2502:Nat):Int)])∧Below w.heap.size w w'):=by
  obtain ⟨hok,hid⟩:=cvI_ok h
  have hbb:=hok.bounds
  have hpW:V.p<W9:=KAJ hbb.2.1
  have hnW:V.n<W9:=KAJ hbb.2.2.2.2.2.2.1
  have hbl:=blen_w9 hnW
  have hnb:nby V.n≤72:=by (unfold nby; omega)
  refine Ka (N:=55) (rs:=[.tmp 8,.tmp 9]) [] Tryz.func19 rfl Tryz.ntmps19 Tryz.results19 (Nb rfl) trivial rfl ?_
  show LCode _ _ _ ⟨_,_⟩ _
  refine KB (KA ?_)
  refine oS (mB (fun b6=>?_))
  refine oA ?_
  refine oP (KR (v:=.int .i64 ((0:Nat):Int)) rfl) ?_
  refine KC ?_
  refine KB (KA ?_)
  refine oM ?_
  refine oS (KAL (Post:=fun v its=>∃ b f bd,v = .pointer (some ⟨b,0,none⟩)∧its = [.blk b ⟨false,opL V f,92,(0,0)⟩,.blk f ⟨false,fldL V.p bd,116,(0,0)⟩,.blk bd ⟨false,dvL V.p,167,(0,0)⟩]) (first:=[]) rfl en_39 rfl (Nb rfl) (fun w1 hw hs=>(c_Open _ V w1 h).mono fun e w' ⟨b,f,bd,h1,h2,h3,h4,h5,h6,h7,h8⟩=>⟨_,_,⟨b,f,bd,rfl,rfl⟩,h1,KAO h8 (by intro x hx; simp at hx; rcases hx with rfl|rfl|rfl; exact h2; exact h3; exact h4) (by intro x hx; simp at hx; rcases hx with rfl|rfl|rfl <;> rfl) (by intro x hx k hk; simp at hx; rcases hx with rfl|rfl|rfl <;> simp [Item.fp] at hk <;> subst hk; exact .inl h5; exact .inl h6; exact .inl h7)⟩) ?_)
  rintro _ _ ⟨b,f,bd,rfl,rfl⟩
  refine oA ?_
  refine KC ?_
  refine KB ?_
  refine LCode.block ?_
  refine KB (KA ?_)
  refine oM ?_
  refine oP (KG (Det.eqp Tryz.underlying79 rfl rfl) (show _ = Value.bool false from rfl)) ?_
  refine oA ?_
  refine KC ?_
  refine KK rfl ?_
  refine KB (KA ?_)
  refine oM ?_
  refine oD (dL rfl (hv:=by exact KE Tryz.underlying25 rfl sz_25)) ?_
  refine oS (cF rfl en_40 rfl (fun w hw=>c_kCheckT id V K w h h0 hn) ?_)
  refine oP (KD (v:=.bool false) rfl rfl (br_f (br_neq (b:=0)) dc)) ?_
  refine oA ?_
  refine KC ?_
  refine KK rfl ?_
  refine KM ?_
  refine KB (KA ?_)
  refine oM ?_
  refine oM ?_
  refine oS (cF rfl en_41 rfl (fun w hw=>c_s_GetE X Y e id V s w h hs hg) ?_)
  refine oM ?_
  refine oP (Det.extract rfl rfl) ?_
  refine oP (Det.extract rfl rfl) ?_
  refine oS (mk (KP zr_83) (fun b11=>?_))
  refine KO rfl (sA rfl rfl sz_83 (by exact KAB _ _ _) (hl:=by exact KX _ _ _) (h:=?_))
  refine oA ?_
  refine KC ?_
  refine KB ?_
  refine KB (KA ?_)
  refine oM ?_
  refine oP (KD (v:=.bool true) rfl rfl (br_t (br_neq (b:=0)) (om))) ?_
  refine KC ?_
  refine KU rfl ?_
  refine KB (KA ?_)
  refine oA ?_
  refine oP (KR (v:=.int .i64 ((2502:Nat):Int)) rfl) ?_
  refine KC (KI ?_)
  refine ⟨[_,_],.cons rfl (.cons rfl .nil),fun a w' hr=>⟨?_,hr.fr.below⟩⟩
  rfl
theorem c_eShared (tb:Option Nat) (tr:TrRow) (l:List Nat) (id:Int) (V:Cv) (K:Nat) (s:ByteArray) (x y:Fin V.p) (m:Nat) (hm:(blen V.n+3)/4 = m) (w:World) (h:cvI id = some V) (hk0:K≠0) (hn:K<V.n) (hs:s.size<9223372036854775808) (hg:getT V s = (x.val,y.val,0)) (hP:On V.A V.B (.aff x y)) (h0:(trI tb tr l).holds w) (hl:l.length≤80000000):Calls Tryz.prog 19 ([trV tb,.int .i64 id,natV K,.string s]:List Value).toArray w (fun e w'=>TrR w tb tr (l++evN m) (.tuple #[.string (coB V (xv (pmul V.A (.aff x y:Pt V.p) K))),.int .i64 ((0:Nat):Int)]) e w'):=by
  obtain ⟨hok,hid⟩:=cvI_ok h
  have hbb:=hok.bounds
  have hpW:V.p<W9:=KAJ hbb.2.1
  have hnW:V.n<W9:=KAJ hbb.2.2.2.2.2.2.1
  have hbl:=blen_w9 hnW
  have hnb:nby V.n≤72:=by (unfold nby; omega)
  have hnp:=nbp_72 hok
  refine calls_tr (N:=55) (rs:=[.tmp 8,.tmp 9]) tb tr l [] Tryz.func19 rfl Tryz.ntmps19 Tryz.results19 (Nb rfl) h0 trivial rfl trivial ?_
  show LCode _ _ _ ⟨_,_⟩ _
  refine KB (KA ?_)
  refine oS (mB (fun b6=>?_))
  refine oA ?_
  refine oP (KR (v:=.int .i64 ((0:Nat):Int)) rfl) ?_
  refine KC ?_
  refine KB (KA ?_)
  refine oM ?_
  refine oS (KAL (Post:=fun v its=>∃ b f bd,v = .pointer (some ⟨b,0,none⟩)∧its = [.blk b ⟨false,opL V f,92,(0,0)⟩,.blk f ⟨false,fldL V.p bd,116,(0,0)⟩,.blk bd ⟨false,dvL V.p,167,(0,0)⟩]) (first:=[]) rfl en_39 rfl (Nb rfl) (fun w1 hw hs=>(c_Open _ V w1 h).mono fun e w' ⟨b,f,bd,h1,h2,h3,h4,h5,h6,h7,h8⟩=>⟨_,_,⟨b,f,bd,rfl,rfl⟩,h1,KAO h8 (by intro x hx; simp at hx; rcases hx with rfl|rfl|rfl; exact h2; exact h3; exact h4) (by intro x hx; simp at hx; rcases hx with rfl|rfl|rfl <;> rfl) (by intro x hx k hk; simp at hx; rcases hx with rfl|rfl|rfl <;> simp [Item.fp] at hk <;> subst hk; exact .inl h5; exact .inl h6; exact .inl h7)⟩) ?_)
  rintro _ _ ⟨b,f,bd,rfl,rfl⟩
  refine oA ?_
  refine KC ?_
  refine KB ?_
  refine LCode.block ?_
  refine KB (KA ?_)
  refine oM ?_
  refine oP (KG (Det.eqp Tryz.underlying79 rfl rfl) (show _ = Value.bool false from rfl)) ?_
  refine oA ?_
  refine KC ?_
  refine KK rfl ?_
  refine KB (KA ?_)
  refine oM ?_
  refine oD (dL rfl (hv:=by exact KE Tryz.underlying25 rfl sz_25)) ?_
  refine oS (cF rfl en_40 rfl (fun w hw=>c_kCheckT id V K w h hk0 hn) ?_)
  refine oP (KD (v:=.bool false) rfl rfl (br_f (br_neq (b:=0)) dc)) ?_
  refine oA ?_
  refine KC ?_
  refine KK rfl ?_
  refine KM ?_
  refine KB (KA ?_)
  refine oM ?_
  refine oM ?_
  refine oS (cF rfl en_41 rfl (fun w hw=>c_s_GetE x.val y.val 0 id V s w h hs hg) ?_)
  refine oM ?_
  refine oP (Det.extract rfl rfl) ?_
  refine oP (Det.extract rfl rfl) ?_
  refine oS (mk (KP zr_83) (fun b11=>?_))
  refine KO rfl (sA rfl rfl sz_83 (by exact KAB _ _ _) (hl:=by simp [KX,KS]) (h:=?_))
  refine oA ?_
  refine KC ?_
  refine KB ?_
  refine KB (KA ?_)
  refine oM ?_
  refine oP (KD (v:=.bool false) rfl rfl (br_f (br_neq (b:=0)) dc)) ?_
  refine KC ?_
  refine KK rfl ?_
  refine KM ?_
  refine KB (KA ?_)
  refine oM ?_
  refine oM ?_
  refine oD (dL rfl (hv:=by exact KE Tryz.underlying25 rfl sz_25)) ?_
  refine oD (dL rfl (hv:=by exact KE Tryz.underlying83 rfl sz_83)) ?_
  refine KO rfl (LStepW.callT (first:=[]) (r:=tr) (l:=l) (l':=l++evN m) rfl en_42 rfl (Nb rfl) mP (fun w hw hn0=>c_mMul tb tr l id V K (.aff x y) m hm w h hP hn (mC hw) hl) ?_)
  intro r1
  refine oM ?_
  refine oP (Det.extract rfl rfl) ?_
  refine oP (Det.extract rfl rfl) ?_
  refine oS (mk (KP zr_83) (fun b13=>?_))
  refine KO rfl (sA rfl rfl sz_83 (by exact KAB _ _ _) (hl:=by simp [KX,KS]) (h:=?_))
  refine oA ?_
  refine KC ?_
  refine KB ?_
  refine rD [] ?_
  refine aP 0 rfl (KF (o':=0) Tryz.underlying83 rfl rfl rfl sz_25 dc) ?_
  refine aD 1 rfl (dL rfl (hv:=by exact Kv Tryz.underlying25 rfl sz_25 rfl (KH _))) ?_
  refine aM 2 ?_
  refine aP 3 rfl (KL rfl) ?_
  refine aP 4 rfl (KF (o':=0) Tryz.underlying92 rfl rfl rfl sz_89 dc) ?_
  refine aP 5 rfl (KF (o':=57) Tryz.underlying89 rfl rfl rfl sz_3 dc) ?_
  refine aD 6 rfl (dL rfl (hv:=KJ Tryz.underlying3 rfl (by exact cvC_gt_size _ _ _ _ _ _ _ _ _ _ _ _ _))) ?_
  refine aO 7 rfl (cF rfl en_43 rfl (fun w hw=>c_nat_BytesOK (xv (pmul V.A (.aff x y:Pt V.p) K)) (nby V.p) w (Nat.lt_trans (xv_lt _) hpW) hnp (nby_le (xv_lt _))) ?_)
  refine aM 8 ?_
  refine aP 9 rfl (Det.extract rfl rfl) ?_
  refine aP 10 rfl (Det.extract rfl rfl) ?_
  refine aA 11 ?_
  refine aA 12 ?_
  refine aE ?_
  refine KB (KA ?_)
  refine oM ?_
  refine oA ?_
  refine oP (KR (v:=.int .i64 ((0:Nat):Int)) rfl) ?_
  refine KC (KI ?_)
  exact ⟨[_,_],.cons rfl (.cons rfl .nil),fun a w' hr=>hr.tr mM⟩
theorem c_eSharedN (R:ByteArray) (id:Int) (V:Cv) (K:Nat) (s:ByteArray) (x y:Fin V.p) (w:World) (h:cvI id = some V) (h0:K≠0) (hn:K<V.n) (hs:s.size<9223372036854775808) (hg:getT V s = (x.val,y.val,0)) (hP:On V.A V.B (.aff x y)) (hR:coB V (xv (pmul V.A (.aff x y:Pt V.p) K)) = R):Calls Tryz.prog 19 ([.pointer none,.int .i64 id,natV K,.string s]:List Value).toArray w (fun e w'=>e = .returned (.tuple #[.string R,.int .i64 ((0:Nat):Int)])∧Below w.heap.size w w') :=
  hR ▸ (c_eShared none none [] id V K s x y _ rfl w h h0 hn hs hg hP (trI_nil _ _) (Nat.zero_le _)).mono fun e w' h=>TrR.nil h
end Go.Proofs.YtlmiolnccgjjjaaGreat
set_option linter.unusedVariables false
set_option linter.unusedSimpArgs false
set_option maxRecDepth 20000
namespace Go.Proofs.YtlmiolnccgjjjaaGreat
open Go Go.RowKit
open Grp
theorem pmul_aff {V:Cv} (hok:V.Ok) {k:Nat} (h0:k≠0) (hn:k<V.n):∃ x y,pmul V.A V.G k = .aff x y:=by
  cases h:pmul V.A V.G k with
  | inf =>
    have:=pmul_order hok.crv hok.on hok.order (fun e=>by unfold Cv.G at e; cases e) hok.ord h
    exact absurd (Nat.le_of_dvd (Nat.pos_of_ne_zero h0) this) om
  | aff x y=>exact ⟨x,y,rfl⟩
theorem aw25_g:getT cv13 ⟨#[4,2,84]⟩ = ((c cv13.p cv13.x).val,(c cv13.p cv13.y).val,0):=by
  rw [getT_l,nby13]; decide +kernel
theorem aw25_0:getT cv13 ⟨#[0]⟩ = (0,0,2102):=by
  rw [getT_l,nby13]; decide +kernel
theorem aw25_r (hok:cv13.Ok):(coB cv13 (xv (pmul cv13.A (.aff (c cv13.p cv13.x) (c cv13.p cv13.y)) 1))).data.toList = [2]:=by
  have e:pmul cv13.A (.aff (c cv13.p cv13.x) (c cv13.p cv13.y)) 1 = (.aff (c cv13.p cv13.x) (c cv13.p cv13.y):Pt cv13.p):=by
    show padd cv13.A .inf _ = _
    exact hok.inf_add hok.on
  rw [e,coB_l,nby13]
  show beBytes 1 (c cv13.p cv13.x).val = [2]
  decide +kernel
theorem coB_sz (V:Cv) (X:Nat):(coB V X).size = nby V.p:=coB_size V X
theorem c_awake25  (w:World)  : Calls Tryz.prog 8 ([]:List Value).toArray w (fun e w'=>e = .returned (.bool true)∧Below w.heap.size w w'):=by
  obtain ⟨hok,-⟩:=cvI_ok cv13_is
  obtain ⟨R,hR,hR2⟩:∃ R,coB cv13 (xv (pmul cv13.A (.aff (c cv13.p cv13.x) (c cv13.p cv13.y)) 1)) = R∧R.data.toList = [2]:=⟨_,rfl,aw25_r hok⟩
  refine Ka (N:=51) (rs:=[.tmp 0]) [] Tryz.func8 rfl Tryz.ntmps8 Tryz.results8 (Nb rfl) trivial rfl ?_
  show LCode _ _ _ ⟨_,_⟩ _
  refine KB (KA ?_)
  refine oA ?_
  refine KC ?_
  refine KB (KA ?_)
  refine oS (cF rfl en_12 rfl (fun w hw=>c_One 1 w dc) ?_)
  refine oS (cF rfl en_19 rfl (fun w hw=>c_eSharedN R 13 cv13 1 ⟨#[4,2,84]⟩ _ _ w cv13_is dc dc dc aw25_g hok.on hR) ?_)
  refine oM ?_
  refine oP (Det.extract rfl rfl) ?_
  refine oP (Det.extract rfl rfl) ?_
  refine oA ?_
  refine oA ?_
  refine KC ?_
  refine KB (KA ?_)
  refine oS (cF rfl en_12 rfl (fun w hw=>c_One 0 w dc) ?_)
  refine oS (cF rfl en_19 rfl (fun w hw=>c_eShared_key none 13 cv13 0 ⟨#[4,2,84]⟩ w cv13_is zero_w9 (.inl rfl)) ?_)
  refine oM ?_
  refine oP (Det.extract rfl rfl) ?_
  refine oP (Det.extract rfl rfl) ?_
  refine oA ?_
  refine oA ?_
  refine KC ?_
  refine KB (KA ?_)
  refine oS (cF rfl en_12 rfl (fun w hw=>c_One 1 w dc) ?_)
  refine oS (cF rfl en_19 rfl (fun w hw=>c_eShared_pt none 13 cv13 1 ⟨#[0]⟩ 0 0 2102 w cv13_is dc dc dc aw25_0 dc) ?_)
  refine oM ?_
  refine oP (Det.extract rfl rfl) ?_
  refine oP (Det.extract rfl rfl) ?_
  refine oA ?_
  refine oA ?_
  refine KC ?_
  refine KB (KA ?_)
  refine oS (cF rfl en_12 rfl (fun w hw=>c_One 1 w dc) ?_)
  refine oS (cF rfl en_19 rfl (fun w hw=>c_eShared_none none 0 1 ⟨#[0]⟩ w rfl) ?_)
  refine oM ?_
  refine oP (Det.extract rfl rfl) ?_
  refine oP (Det.extract rfl rfl) ?_
  refine oA ?_
  refine oA ?_
  refine KC ?_
  refine KB (KA ?_)
  refine oM ?_
  refine oP (KG (Det.eqs rfl rfl) (congrArg Value.bool (eq_str_t (hR2)))) ?_
  refine oM ?_
  refine oGM ?_
  refine oGS (cF rfl en_20 rfl (fun w hw=>c_Num _ w) ?_)
  refine oGP (KD (v:=.bool true) rfl rfl (br_t (KAP (b:=0)) (by first|rfl|assumption|omega|(simp; done)))) ?_
  refine oP (Kj rfl rfl) ?_
  refine oM ?_
  refine oGM ?_
  refine oGS (cF rfl en_20 rfl (fun w hw=>c_Num _ w) ?_)
  refine oGP (KD (v:=.bool true) rfl rfl (br_t (KAP (b:=2501)) (by first|rfl|assumption|omega|(simp; done)))) ?_
  refine oP (Kj rfl rfl) ?_
  refine oM ?_
  refine oGM ?_
  refine oGS (cF rfl en_20 rfl (fun w hw=>c_Num _ w) ?_)
  refine oGP (KD (v:=.bool true) rfl rfl (br_t (KAP (b:=2502)) (by first|rfl|assumption|omega|(simp; done)))) ?_
  refine oP (Kj rfl rfl) ?_
  refine oM ?_
  refine oGM ?_
  refine oGS (cF rfl en_20 rfl (fun w hw=>c_Num _ w) ?_)
  refine oGP (KD (v:=.bool true) rfl rfl (br_t (KAP (b:=2500)) (by first|rfl|assumption|omega|(simp; done)))) ?_
  refine oP (Kj rfl rfl) ?_
  refine oA ?_
  refine KC (KI ?_)
  refine ⟨[_],.cons rfl .nil,fun a w' hr=>⟨?_,hr.fr.below⟩⟩
  rfl
end Go.Proofs.YtlmiolnccgjjjaaGreat
set_option linter.unusedVariables false
set_option linter.unusedSimpArgs false
set_option maxRecDepth 20000
namespace Go.Proofs.YtlmiolnccgjjjaaGreat
open Go Go.RowKit
open Grp
theorem c_r_PutE (s:ByteArray) (n:Nat) (Q:CQ) (V:Cv) (q r:NV) (X Y:Nat) (i sh:Bool) (w:World) (hc:(crvI Q V).holds w) (hok:V.Ok) (hq:(numT q X).holds w) (hr:(numT r Y).holds w) (hX:D.nw X≤1000) (hY:D.nw Y≤1000) (hs:pStr V X Y i sh = s) (hn:pErr V X Y i = n):Calls Tryz.prog 17 ([.agg (crvL Q V).toArray,rpV (numV q X) (numV r Y) i,.bool sh]:List Value).toArray w (fun e w'=>e = .returned (.tuple #[.string s,.int .i64 ((n:Nat):Int)])∧Below w.heap.size w w'):=by
  subst hs hn; exact c_r_Put2 Q V q r X Y i sh w hc hok hq hr hX hY
theorem xv_neg {p:Nat} [NeZero p] (P:Pt p):xv P.neg = xv P:=by cases P <;> rfl
theorem less_x {V:Cv} (hok:V.Ok) {P:Pt V.p} (hP:On V.A V.B P) (hn:pmul V.A P V.n = .inf) {K:Nat} (hK:K≤V.n):xv (pmul V.A P (V.n-K)) = xv (pmul V.A P K):=by
  rw [pm_less hok hP hn hK,xv_neg]
end Go.Proofs.YtlmiolnccgjjjaaGreat
set_option linter.unusedVariables false
set_option linter.unusedSimpArgs false
set_option maxRecDepth 20000
namespace Go.Proofs.YtlmiolnccgjjjaaGreat
open Go Go.RowKit
open Grp
theorem same_x {p:Nat} [NeZero p] (hd:Dom p) {a b x y z:Fin p} (h1:On a b (.aff x y)) (h2:On a b (.aff x z)):y = z∨y = -z:=by
  have e1:y*y-(x*x*x+a*x+b) = 0:=h1
  have e2:z*z-(x*x*x+a*x+b) = 0:=h2
  have e:(y-z)*(y+z) = 0:=by
    have e3:(y-z)*(y+z) = (y*y-(x*x*x+a*x+b))-(z*z-(x*x*x+a*x+b)):=by clear h1 h2 e1 e2; grind -lia
    rw [e3,e1,e2]; grind -lia
  rcases hd _ _ e with e|e
  · exact .inl (eq_of_sub e)
  · right
    have e4:y - -z = 0:=by rw [← e]; clear h1 h2 e1 e2 e; grind -lia
    exact eq_of_sub e4
theorem xv_same {V:Cv} (hok:V.Ok) {P Q:Pt V.p} (hP:On V.A V.B P) (hQ:On V.A V.B Q) (hP0:P≠.inf) (hQ0:Q≠.inf) (h:xv P = xv Q):P = Q∨P = Q.neg:=by
  cases P with
  | inf=>exact absurd rfl hP0
  | aff x y =>
    cases Q with
    | inf=>exact absurd rfl hQ0
    | aff u v =>
      have e:x = u:=Fin.ext h
      subst e
      rcases same_x hok.fld.dom hP hQ with e|e
      · subst e; exact .inl rfl
      · subst e; exact .inr rfl
theorem key_ne {V:Cv} (hok:V.Ok) {P:Pt V.p} (hP:On V.A V.B P) (hP0:P≠.inf) (hn:pmul V.A P V.n = .inf) {d:Nat} (h0:0<d) (hd:d<V.n):pmul V.A P d≠.inf:=fun e=>by
  have:=pmul_order hok.crv hP hok.order hP0 hn e
  exact absurd (Nat.le_of_dvd h0 this) om
theorem key_inj {V:Cv} (hok:V.Ok) {P:Pt V.p} (hP:On V.A V.B P) (hP0:P≠.inf) (hn:pmul V.A P V.n = .inf) {d e:Nat} (hd:d<V.n) (he:e<V.n) (h:pmul V.A P d = pmul V.A P e):d = e:=by
  rcases Nat.le_total d e with hl|hl
  · exact pmul_inj hok.crv hP hok.order hP0 hn he hl h
  · exact (pmul_inj hok.crv hP hok.order hP0 hn hd hl h.symm).symm
theorem key_same {V:Cv} (hok:V.Ok) {P:Pt V.p} (hP:On V.A V.B P) (hP0:P≠.inf) (hn:pmul V.A P V.n = .inf) {d e:Nat} (h0:0<d) (hd:d<V.n) (g0:0<e) (he:e<V.n) (h:xv (pmul V.A P d) = xv (pmul V.A P e)):d = e∨d = V.n-e:=by
  rcases xv_same hok (hok.mul hP _) (hok.mul hP _) (key_ne hok hP hP0 hn h0 hd) (key_ne hok hP hP0 hn g0 he) h with h1|h1
  · exact .inl (key_inj hok hP hP0 hn hd he h1)
  · rw [← pm_less hok hP hn (Nat.le_of_lt he)] at h1
    exact .inr (key_inj hok hP hP0 hn hd om h1)
noncomputable def cnE (V:Cv) (P:Pt V.p):Nat→Nat→Nat
  | 0,_=>0
  | d+1,j=>if d = 0 then 0 else if xv (pmul V.A P d) = j then cnE V P d j+1 else cnE V P d j
theorem cnE_succ (V:Cv) (P:Pt V.p) {d:Nat} (h:1≤d) (j:Nat):cnE V P (d+1) j = if xv (pmul V.A P d) = j then cnE V P d j+1 else cnE V P d j:=by
  show (if d = 0 then 0 else _) = _
  rw [if_neg om]
theorem cnE_le (V:Cv) (P:Pt V.p) (j:Nat):∀ d,cnE V P d j≤d
  | 0=>Nat.le_refl _
  | d+1=>by
    have:=cnE_le V P j d
    show (if d = 0 then 0 else if xv (pmul V.A P d) = j then cnE V P d j+1 else cnE V P d j)≤_
    split
    · omega
    · split <;> omega
theorem cnE_zero {V:Cv} {P:Pt V.p} {j:Nat} (h:∀ e,0<e→e<V.n→xv (pmul V.A P e)≠j):∀ d,d≤V.n→cnE V P d j = 0
  | 0,_=>rfl
  | d+1,hd=>by
    have ih:=cnE_zero h d om
    show (if d = 0 then 0 else if xv (pmul V.A P d) = j then cnE V P d j+1 else cnE V P d j) = 0
    by_cases h0:d = 0
    · rw [if_pos h0]
    · rw [if_neg h0,if_neg (h d om om),ih]
theorem cnE_two {V:Cv} {P:Pt V.p} {j a b:Nat} (ha:0<a) (hab:a<b) (hb:b<V.n) (h1:xv (pmul V.A P a) = j) (h2:xv (pmul V.A P b) = j) (h:∀ e,0<e→e<V.n→xv (pmul V.A P e) = j→e = a∨e = b):∀ d,d≤V.n→cnE V P d j = (if a<d then 1 else 0)+(if b<d then 1 else 0)
  | 0,_=>by rw [if_neg om,if_neg om]; rfl
  | d+1,hd=>by
    have ih:=cnE_two ha hab hb h1 h2 h d om
    show (if d = 0 then 0 else if xv (pmul V.A P d) = j then cnE V P d j+1 else cnE V P d j) = _
    by_cases h0:d = 0
    · rw [if_pos h0,if_neg om,if_neg om]
    · rw [if_neg h0,ih]
      by_cases e:xv (pmul V.A P d) = j
      · rw [if_pos e]
        rcases h d om om e with rfl|rfl
        · rw [if_neg om,if_neg om,if_pos om,if_neg om]
        · rw [if_pos hab,if_neg om,if_pos om,if_pos om]
      · rw [if_neg e]
        have na:d≠a:=fun q=>e (q ▸ h1)
        have nb:d≠b:=fun q=>e (q ▸ h2)
        congr 1
        · by_cases q:a<d
          · rw [if_pos q,if_pos om]
          · rw [if_neg q,if_neg om]
        · by_cases q:b<d
          · rw [if_pos q,if_pos om]
          · rw [if_neg q,if_neg om]
theorem cn_two {V:Cv} (hok:V.Ok) {P:Pt V.p} (hP:On V.A V.B P) (hP0:P≠.inf) (hn:pmul V.A P V.n = .inf) (j:Nat):cnE V P V.n j = 0∨cnE V P V.n j = 2:=by
  have hodd:=hok.bounds.2.2.2.2.2.2.2.2.1
  by_cases hex:∃ e,0<e∧e<V.n∧xv (pmul V.A P e) = j
  · obtain ⟨e,h0,h1,h2⟩:=hex
    have h3:xv (pmul V.A P (V.n-e)) = j:=by rw [less_x hok hP hn (Nat.le_of_lt h1),h2]
    have hall:∀ d,0<d→d<V.n→xv (pmul V.A P d) = j→d = e∨d = V.n-e:=fun d g0 g1 g2=>key_same hok hP hP0 hn g0 g1 h0 h1 (g2.trans h2.symm)
    right
    rcases Nat.lt_or_ge e (V.n-e) with hl|hl
    · rw [cnE_two h0 hl om h2 h3 hall V.n (Nat.le_refl _),if_pos h1,if_pos om]
    · rw [cnE_two (a:=V.n-e) (b:=e) om om h1 h3 h2 (fun d g0 g1 g2=>(hall d g0 g1 g2).symm) V.n (Nat.le_refl _),if_pos om,if_pos h1]
  · exact .inl (cnE_zero (fun e h0 h1 h2=>hex ⟨e,h0,h1,h2⟩) V.n (Nat.le_refl _))
theorem coB_0 {V:Cv} (h1:nby V.p = 1) {X:Nat} (hX:X<256):((coB V X).data.toList.getD 0 0).toNat = X:=by
  rw [coB_l,h1]
  have e:beVal (beBytes 1 X) = X:=by rw [beVal_bytes,Nat.mod_eq_of_lt (by simpa using hX)]
  obtain ⟨b,hb⟩:∃ b,beBytes 1 X = [b]:=⟨_,rfl⟩
  rw [hb] at e ⊢
  show b.toNat = X
  rw [← e]
  show b.toNat = b.toNat*256^0+0
  omega
theorem cvI_tiny4 (x:Int):∃ V,cvI ((13+uidx x%3:Nat):Int) = some V∧nby V.p = 1∧V.n≤255∧201≤V.n∧D.nw V.n = 1∧V.p≤256:=by
  have h:uidx x%3 = 0∨uidx x%3 = 1∨uidx x%3 = 2:=by omega
  rcases h with h|h|h <;> rw [h]
  · exact ⟨cv13,rfl,by decide +kernel,by decide,by decide,by decide +kernel,by decide⟩
  · exact ⟨cv14,rfl,by decide +kernel,by decide,by decide,by decide +kernel,by decide⟩
  · exact ⟨cv15,rfl,by decide +kernel,by decide,by decide,by decide +kernel,by decide⟩
theorem nw_lit {K:Nat} (h0:K≠0) (h:K<4294967296):D.nw K = 1:=by
  have h1:=D.nw_le (n:=1) (show K<2^(32*1) by omega)
  have h2:D.nw K≠0:=fun e=>h0 (nw_eq_zero.1 e)
  omega
theorem lit_num {K:Nat} (b:Nat) (h:D.nw K = 1):Value.slice (some ⟨b,0,none⟩) 1 1 = numV ⟨false,b,1⟩ K:=by
  unfold numV slV pz
  rw [h]
  rfl
theorem br_add32L {a b:Nat} (h:a+b<4294967296):Ku .add .u32 a .u32 b = some (.int .u32 ((a+b:Nat):Int)):=by
  simp only [Ku,if_true]
  congr 2
  show IntKind.u32.wrap _ = _
  rw [wrap_u32]
  omega
theorem c_r_TimesL (Q:CQ) (V:Cv) (b K:Nat) (q r:NV) (P R:Pt V.p) (w:World) (hc:(crvI Q V).holds w) (hok:V.Ok) (hk:(numT ⟨false,b,1⟩ K).holds w) (hK:D.nw K = 1) (hq:(numT q (xv P)).holds w) (hr:(numT r (yv P)).holds w) (hP:On V.A V.B P) (hR:pmul V.A P K = R):Calls Tryz.prog 10 ([.agg (crvL Q V).toArray,.slice (some ⟨b,0,none⟩) 1 1,rpV (numV q (xv P)) (numV r (yv P)) (iv P)]:List Value).toArray w (fun e w'=>Num2R w (fp2 q r P []) (xv R) (yv R) (fun u v=>rpV u v (iv R)) e w'):=by
  rw [lit_num b hK]
  exact c_r_Times Q V ⟨false,b,1⟩ K q r P R w hc hok hk om hq hr hP hR
theorem c_EcdhTiny (which:Int) (k:Nat) (w:World) (hk:k<18446744073709551616):Calls Tryz.prog 5 ([.int .i64 which,.int .u64 ((k:Nat):Int)]:List Value).toArray w (fun e w'=>e = .returned (.bool true)∧Below w.heap.size w w'):=by
  obtain ⟨V,h,hnb1,hn255,hn201,hnw1,hp256⟩:=cvI_tiny4 which
  obtain ⟨hok,hid⟩:=cvI_ok h
  have h2:=cvI_id h
  have hsz:=hok.sz
  obtain ⟨K,hK⟩:∃ K,1+k%200 = K:=⟨_,rfl⟩
  have hKn:K<V.n:=by omega
  have hK0:K≠0:=by omega
  have hKd:=nw_lit hK0 om
  obtain ⟨x0,y0,hPe⟩:=pmul_aff hok hK0 hKn
  have hP:On V.A V.B (.aff x0 y0):=hPe ▸ hok.mul hok.on K
  have hP0:(.aff x0 y0:Pt V.p)≠.inf:=fun e=>by cases e
  have hPn:pmul V.A (.aff x0 y0) V.n = .inf:=hPe ▸ pm_n hok K
  have hon:=aff_on hP
  have hbb:=hok.bounds
  have h17:=nw_521 hbb.2.1
  have h1k:∀ {A:Nat},A<V.p→D.nw A≤1000:=fun h=>Nat.le_trans (nw_521 (Nat.lt_trans h hbb.2.1)) dc
  have hnp:=nbp_72 hok
  refine Ka (N:=93) (rs:=[.tmp 4]) [] Tryz.func5 rfl Tryz.ntmps5 Tryz.results5 (Nb rfl) trivial rfl ?_
  show LCode _ _ _ ⟨_,_⟩ _
  refine KB (KA ?_)
  refine oA ?_
  refine KC ?_
  refine KB ?_
  refine KB (KA ?_)
  refine oS (cF rfl en_8 rfl (fun w hw=>c_awake25 w) ?_)
  refine oP (KG (Det.not rfl) (show _ = Value.bool false from rfl)) ?_
  refine KC ?_
  refine KK rfl ?_
  refine KM ?_
  refine KB (KA ?_)
  refine oM ?_
  refine oP (KG (Det.conv Tryz.underlying3 Tryz.underlying33 rfl) (uidx_eq which)) ?_
  refine oP (KD rfl rfl (br_rem64 (b:=3) om)) ?_
  refine oP (KAZ Tryz.underlying33 Tryz.underlying3 rfl om) ?_
  refine oP (KD rfl rfl (Kn (a:=13) om)) ?_
  refine oS (KAL (Post:=fun v its=>∃ Q,v = .tuple #[.agg (crvL Q V).toArray,.bool true]∧its = [crvI Q V]) (first:=[]) rfl en_9 rfl (Nb rfl) (fun w1 hw hs=>(c_r_Get _ V w1 h).mono fun e w' ⟨Q,h1,h2,h3,h4⟩=>⟨_,_,⟨Q,rfl,rfl⟩,h1,KAO h4 (by intro x hx; simp at hx; subst hx; exact h2) (by intro x hx; simp at hx; subst hx; rfl) (by intro x hx k hk; simp at hx; subst hx; exact .inl (h3 k hk))⟩) ?_)
  rintro _ _ ⟨Q,rfl,rfl⟩
  refine oM ?_
  refine oP (Det.extract rfl rfl) ?_
  refine oP (Det.extract rfl rfl) ?_
  refine oS (mk (KP zr_30) (fun b5=>?_))
  refine KO rfl (sA rfl rfl sz_30 (by repeat (first|exact Ki|refine Kf rfl ?_)) (hl:=by rfl) (h:=?_))
  refine oA ?_
  refine KC ?_
  refine KB ?_
  refine KB (KA ?_)
  refine oM ?_
  refine oP (KG (Det.not rfl) (show _ = Value.bool false from rfl)) ?_
  refine KC ?_
  refine KK rfl ?_
  refine KM ?_
  refine KB (KA ?_)
  refine oP (KF (o':=4) Tryz.underlying30 rfl rfl rfl sz_28 dc) ?_
  refine oD (dL rfl (hv:=KJ Tryz.underlying28 rfl (by first|rfl|exact KW _ _ _ om|exact KV _ om|exact KT _ om|exact dv_m _ _ _ om))) ?_
  refine oP (KAU (i:=0) Tryz.underlying28 sz_57 rfl rfl om) ?_
  refine oD (Det.loadF (n:=D.nw V.n) Tryz.underlying57 rfl rfl (fun w hw=>crvI_n (mC hw)) om) ?_
  refine oP (KG (Kz Tryz.underlying57 Tryz.underlying22 rfl (Nat.lt_trans (D.limb_lt _ _) dc)) (vi (b:=V.n) (one_digit hnw1))) ?_
  refine oA ?_
  refine KC ?_
  refine KB ?_
  refine rD [] ?_
  refine aD 0 rfl (dL rfl (hv:=by exact KE Tryz.underlying30 rfl sz_30)) ?_
  refine aD 1 rfl (dL rfl (hv:=by exact KE Tryz.underlying30 rfl sz_30)) ?_
  refine aM 2 ?_
  refine aP 3 rfl (KD rfl rfl (br_rem64 (b:=200) dc)) ?_
  refine aP 4 rfl (KG (KAW Tryz.underlying22 Tryz.underlying57 rfl) (vi (b:=k%200) (Nat.mod_eq_of_lt om))) ?_
  refine aP 5 rfl (KG (KD rfl rfl (br_add32L (a:=1) om)) (show _ = .int .u32 ((K:Nat):Int) from by rw [hK])) ?_
  refine aD 7 rfl (dL rfl (hv:=by exact KE Tryz.underlying30 rfl sz_30)) ?_
  refine LAny.twoX 6 8 rfl rfl rfl rfl (by kernel_rfl) (.inr (mk (KAD Tryz.underlying28 inf_57 rfl rfl rfl rfl dc rfl) (fun b40=>?_))) (.inr (cZ rfl en_13 rfl (fun w hw hs=>(c_r_GP Q V w (mC hw) hok).mono fun e w' h=>Num2R.q (Old.one (x:=crvI Q V) mM rfl) hs h) ?_))
  ·
    refine aO 8 rfl (cZ rfl en_13 rfl (fun w hw hs=>(c_r_GP Q V w (mC hw) hok).mono fun e w' h=>Num2R.q (Old.one (x:=crvI Q V) mM rfl) hs h) ?_)
    rintro _ _ ⟨qga,qgb,rfl,rfl,hnga,hngb⟩
    refine aO 9 rfl (cZ rfl en_10 rfl (fun w hw hs=>(c_r_TimesL Q V b40 K qga qgb V.G (.aff x0 y0:Pt V.p) w (mC hw) hok (n1_blk (mC hw) om) hKd (mC hw) (mC hw) hok.on hPe).mono fun e w' h=>Num2R.q (Old.pt mM mM (Old.nil _)) hs h) ?_)
    rintro _ _ ⟨qta,qtb,rfl,rfl,hnta,hntb⟩
    refine aO 10 rfl (cF rfl en_17 rfl (fun w hw=>c_r_PutE (putS V x0.val y0.val true) 0 Q V qta qtb x0.val y0.val false true w (mC hw) hok (mC hw) (mC hw) (h1k x0.isLt) (h1k y0.isLt) (pStr_on true hon).1 (pStr_on true hon).2) ?_)
    refine aM 11 ?_
    refine aP 12 rfl (Det.extract rfl rfl) ?_
    refine aP 13 rfl (Det.extract rfl rfl) ?_
    refine aA 14 ?_
    refine aA 15 ?_
    refine aE ?_
    refine KB (KA ?_)
    refine oS (mk (Makes.mkV (n:=256) Tryz.underlying58 inf_3 rfl rfl dc dc) (fun b47=>?_))
    refine oA ?_
    refine KC ?_
    refine KB ?_
    refine KB (KA ?_)
    refine oP (KR (v:=.int .u64 ((1:Nat):Int)) rfl) ?_
    refine KC ?_
    refine LCode.block ?_
    refine Kh (α:=Nat) (fun x=>1≤x∧x≤V.n) (fun x=>⟨[(5,.pointer (some ⟨b5,0,none⟩)),(10,.slice (some ⟨b47,0,none⟩) 256 256),(7,.int .u64 ((V.n:Nat):Int)),(8,.string (putS V x0.val y0.val true)),(11,.int .u64 ((x:Nat):Int))],[.blk b47 ⟨true,vec .i64 256 (cnE V (.aff x0 y0:Pt V.p) x),3,(0,0)⟩,.blk b5 ⟨true,crvL Q V,30,(0,0)⟩,crvI Q V]⟩) (fun x=>V.n-x) (1) (⟨Nat.le_refl _,by omega⟩) (Kw (Sub.cells (b:=b47) (cs':=vec .i64 256 (cnE V (.aff x0 y0:Pt V.p) 1)) (by repeat (first|exact Sh _|apply St_)) (Ks fun i _=>rfl)) (Kd ⟨rfl,rfl,rfl,rfl,rfl,trivial⟩ mS)) ?_
    rintro d ⟨hd1,hd2⟩
    refine KB ?_
    refine KB (KA ?_)
    refine oM ?_
    refine oM ?_
    refine oP (KD rfl rfl (KAR)) ?_
    refine KC ?_
    first|refine KN rfl (fun h50=>?_) (fun h50=>?_)|refine KQ rfl (fun h50=>?_) (fun h50=>?_)
    ·
      have h50:d<V.n:=h50
      have hX:(xv (pmul V.A (.aff x0 y0:Pt V.p) d))<256:=Nat.lt_of_lt_of_le (xv_lt _) hp256
      have hrs:(coB V (xv (pmul V.A (.aff x0 y0:Pt V.p) d))).size = 1:=by rw [coB_sz,hnb1]
      have hcl:=cnE_le V (.aff x0 y0:Pt V.p) (xv (pmul V.A (.aff x0 y0:Pt V.p) d)) d
      refine KM ?_
      refine KB ?_
      refine LCode.block ?_
      refine KB ?_
      refine rD [] ?_
      refine aP 0 rfl (KF (o':=0) Tryz.underlying30 rfl rfl rfl sz_3 dc) ?_
      refine aD 1 rfl (dL rfl (hv:=KJ Tryz.underlying3 rfl (by first|rfl|exact KW _ _ _ om|exact KV _ om|exact KT _ om|exact dv_m _ _ _ om))) ?_
      refine aM 2 ?_
      refine aM 4 ?_
      refine aO 3 rfl (cF rfl en_12 rfl (fun w hw=>c_One d w om) ?_)
      refine aO 5 rfl (cF rfl en_19 rfl (fun w hw=>c_eSharedN (coB V (xv (pmul V.A (.aff x0 y0:Pt V.p) d))) V.id V d (putS V x0.val y0.val true) x0 y0 w h2 om h50 (putS_size hnp _ _ _) (get_put hok _ hon) hP rfl) ?_)
      refine aM 6 ?_
      refine aP 7 rfl (Det.extract rfl rfl) ?_
      refine aP 8 rfl (Det.extract rfl rfl) ?_
      refine aA 9 ?_
      refine aA 10 ?_
      refine aE ?_
      refine KB ?_
      refine KB (KA ?_)
      refine oM ?_
      refine oS (cF rfl en_20 rfl (fun w hw=>c_Num _ w) ?_)
      refine oP (KD (v:=.bool false) rfl rfl (br_f (br_neq (b:=0)) dc)) ?_
      refine oM ?_
      refine oGM ?_
      refine oGP (Det.lens Tryz.underlying9 rfl) ?_
      refine oGP (KD (v:=.bool false) rfl rfl (br_f (br_neq (b:=1)) (by rw [hrs]; omega))) ?_
      refine oP (KY rfl rfl) ?_
      refine KC ?_
      refine KK rfl ?_
      refine KM ?_
      refine KA ?_
      refine oM ?_
      refine oM ?_
      refine oP (KG (Ky Tryz.underlying9 rfl rfl om (by rw [hrs]; omega)) (show _ = .int .u8 (((xv (pmul V.A (.aff x0 y0:Pt V.p) d)):Nat):Int) from congrArg (fun n:Nat=>Value.int .u8 ((n:Nat):Int)) (coB_0 hnb1 hX))) ?_
      refine oP (Kc Tryz.underlying58 sz_3 rfl rfl om) ?_
      refine oD (dL rfl (hv:=KJ Tryz.underlying3 rfl (by exact KW _ _ _ hX))) ?_
      refine oP (KD rfl rfl (Kn (b:=1) om)) ?_
      refine oP (Kc Tryz.underlying58 sz_3 rfl rfl om) ?_
      refine KO rfl (Kb rfl rfl rfl sz_3 (by repeat (first|exact Sh _|apply St_)) (by first|(simp only [KS,KH,KZ,Km]; omega)|(simp; done)|(simp; omega)) (by first|exact KAA _ _ _ _ _|exact KAF _ _ _ _ om|exact KAC _ _ _ _|rfl) (by simp) ?_)
      refine KC ?_
      refine KA ?_
      refine oM ?_
      refine oP (KG (KD rfl rfl (KAK (b:=1))) (vi (b:=d+1) om)) ?_
      refine oA ?_
      refine KC ?_
      exact ⟨d+1,⟨by omega,by omega⟩,by omega,Kw (Sub.cells (b:=b47) (cs':=vec .i64 256 (cnE V (.aff x0 y0:Pt V.p) (d+1))) (by repeat (first|exact Sh _|apply St_)) (Ks fun i _=>by rw [cnE_succ V _ hd1]; by_cases e:i = (xv (pmul V.A (.aff x0 y0:Pt V.p) d)) <;> simp [e,eq_comm])) (Kd ⟨rfl,rfl,rfl,rfl,rfl,trivial⟩ mS)⟩
    ·
      have h50:¬ d<V.n:=h50
      refine Ke ?_
      refine KB ?_
      refine KB ?_
      obtain rfl:d = V.n:=by omega
      refine KA ?_
      refine oP (KR (v:=.int .i64 ((0:Nat):Int)) rfl) ?_
      refine KC ?_
      refine LCode.block ?_
      refine Kh (α:=Nat) (fun x=>x≤256) (fun x=>⟨[(10,.slice (some ⟨b47,0,none⟩) 256 256),(14,.int .i64 ((x:Nat):Int))],[.blk b47 ⟨true,vec .i64 256 (cnE V (.aff x0 y0:Pt V.p) V.n),3,(0,0)⟩]⟩) (fun x=>256-x) (0) (Nat.zero_le _) (Kd ⟨rfl,rfl,trivial⟩ mS) ?_
      intro z hz
      refine KB ?_
      refine KB (KA ?_)
      refine oM ?_
      refine oP (KD rfl rfl (KAR (b:=256))) ?_
      refine KC ?_
      first|refine KN rfl (fun h78=>?_) (fun h78=>?_)|refine KQ rfl (fun h78=>?_) (fun h78=>?_)
      ·
        have h78:z<256:=h78
        refine KM ?_
        refine KB ?_
        refine LCode.block ?_
        refine KB ?_
        rcases cn_two hok hP hP0 hPn z with hc|hc
        ·
          refine KA ?_
          refine oM ?_
          refine oM ?_
          refine oP (Kc Tryz.underlying58 sz_3 rfl rfl om) ?_
          refine oD (dL rfl (hv:=KJ Tryz.underlying3 rfl (by exact KW _ _ _ h78))) ?_
          refine oP (KD (v:=.bool false) rfl rfl (br_f (br_neq (b:=0)) om)) ?_
          refine oM ?_
          refine oK ?_
          refine oK ?_
          refine oK ?_
          refine oK ?_
          refine oK ?_
          refine oP (KY rfl rfl) ?_
          refine KC ?_
          refine KK rfl ?_
          refine KM ?_
          refine KA ?_
          refine oM ?_
          refine oP (KD rfl rfl (Kn (b:=1) om)) ?_
          refine oA ?_
          refine KC ?_
          exact ⟨z+1,by omega,by omega,Kd ⟨rfl,rfl,trivial⟩ mS⟩
        ·
          refine KA ?_
          refine oM ?_
          refine oM ?_
          refine oP (Kc Tryz.underlying58 sz_3 rfl rfl om) ?_
          refine oD (dL rfl (hv:=KJ Tryz.underlying3 rfl (by exact KW _ _ _ h78))) ?_
          refine oP (KD (v:=.bool true) rfl rfl (br_t (br_neq (b:=0)) om)) ?_
          refine oM ?_
          refine oGM ?_
          refine oGM ?_
          refine oGP (Kc Tryz.underlying58 sz_3 rfl rfl om) ?_
          refine KAM rfl rfl (dL rfl (hv:=KJ Tryz.underlying3 rfl (by exact KW _ _ _ h78))) (Nb rfl) ?_
          refine oGP (KD (v:=.bool false) rfl rfl (br_f (br_neq (b:=2)) om)) ?_
          refine oP (Kj rfl rfl) ?_
          refine KC ?_
          refine KK rfl ?_
          refine KM ?_
          refine KA ?_
          refine oM ?_
          refine oP (KD rfl rfl (Kn (b:=1) om)) ?_
          refine oA ?_
          refine KC ?_
          exact ⟨z+1,by omega,by omega,Kd ⟨rfl,rfl,trivial⟩ mS⟩
      ·
        have h78:¬ z<256:=h78
        refine Ke ?_
        refine KB (KA ?_)
        refine oA ?_
        refine KC (KI ?_)
        refine ⟨[_],.cons rfl .nil,fun a w' hr=>⟨?_,hr.fr.below⟩⟩
        rfl
  ·
    rintro _ _ ⟨qga,qgb,rfl,rfl,hnga,hngb⟩
    refine aO 6 rfl (mk (KAD Tryz.underlying28 inf_57 rfl rfl rfl rfl dc rfl) (fun b40=>?_))
    refine aO 9 rfl (cZ rfl en_10 rfl (fun w hw hs=>(c_r_TimesL Q V b40 K qga qgb V.G (.aff x0 y0:Pt V.p) w (mC hw) hok (n1_blk (mC hw) om) hKd (mC hw) (mC hw) hok.on hPe).mono fun e w' h=>Num2R.q (Old.pt mM mM (Old.nil _)) hs h) ?_)
    rintro _ _ ⟨qta,qtb,rfl,rfl,hnta,hntb⟩
    refine aO 10 rfl (cF rfl en_17 rfl (fun w hw=>c_r_PutE (putS V x0.val y0.val true) 0 Q V qta qtb x0.val y0.val false true w (mC hw) hok (mC hw) (mC hw) (h1k x0.isLt) (h1k y0.isLt) (pStr_on true hon).1 (pStr_on true hon).2) ?_)
    refine aM 11 ?_
    refine aP 12 rfl (Det.extract rfl rfl) ?_
    refine aP 13 rfl (Det.extract rfl rfl) ?_
    refine aA 14 ?_
    refine aA 15 ?_
    refine aE ?_
    refine KB (KA ?_)
    refine oS (mk (Makes.mkV (n:=256) Tryz.underlying58 inf_3 rfl rfl dc dc) (fun b47=>?_))
    refine oA ?_
    refine KC ?_
    refine KB ?_
    refine KB (KA ?_)
    refine oP (KR (v:=.int .u64 ((1:Nat):Int)) rfl) ?_
    refine KC ?_
    refine LCode.block ?_
    refine Kh (α:=Nat) (fun x=>1≤x∧x≤V.n) (fun x=>⟨[(5,.pointer (some ⟨b5,0,none⟩)),(10,.slice (some ⟨b47,0,none⟩) 256 256),(7,.int .u64 ((V.n:Nat):Int)),(8,.string (putS V x0.val y0.val true)),(11,.int .u64 ((x:Nat):Int))],[.blk b47 ⟨true,vec .i64 256 (cnE V (.aff x0 y0:Pt V.p) x),3,(0,0)⟩,.blk b5 ⟨true,crvL Q V,30,(0,0)⟩,crvI Q V]⟩) (fun x=>V.n-x) (1) (⟨Nat.le_refl _,by omega⟩) (Kw (Sub.cells (b:=b47) (cs':=vec .i64 256 (cnE V (.aff x0 y0:Pt V.p) 1)) (by repeat (first|exact Sh _|apply St_)) (Ks fun i _=>rfl)) (Kd ⟨rfl,rfl,rfl,rfl,rfl,trivial⟩ mS)) ?_
    rintro d ⟨hd1,hd2⟩
    refine KB ?_
    refine KB (KA ?_)
    refine oM ?_
    refine oM ?_
    refine oP (KD rfl rfl (KAR)) ?_
    refine KC ?_
    first|refine KN rfl (fun h50=>?_) (fun h50=>?_)|refine KQ rfl (fun h50=>?_) (fun h50=>?_)
    ·
      have h50:d<V.n:=h50
      have hX:(xv (pmul V.A (.aff x0 y0:Pt V.p) d))<256:=Nat.lt_of_lt_of_le (xv_lt _) hp256
      have hrs:(coB V (xv (pmul V.A (.aff x0 y0:Pt V.p) d))).size = 1:=by rw [coB_sz,hnb1]
      have hcl:=cnE_le V (.aff x0 y0:Pt V.p) (xv (pmul V.A (.aff x0 y0:Pt V.p) d)) d
      refine KM ?_
      refine KB ?_
      refine LCode.block ?_
      refine KB ?_
      refine rD [] ?_
      refine aP 0 rfl (KF (o':=0) Tryz.underlying30 rfl rfl rfl sz_3 dc) ?_
      refine aD 1 rfl (dL rfl (hv:=KJ Tryz.underlying3 rfl (by first|rfl|exact KW _ _ _ om|exact KV _ om|exact KT _ om|exact dv_m _ _ _ om))) ?_
      refine aM 2 ?_
      refine aM 4 ?_
      refine aO 3 rfl (cF rfl en_12 rfl (fun w hw=>c_One d w om) ?_)
      refine aO 5 rfl (cF rfl en_19 rfl (fun w hw=>c_eSharedN (coB V (xv (pmul V.A (.aff x0 y0:Pt V.p) d))) V.id V d (putS V x0.val y0.val true) x0 y0 w h2 om h50 (putS_size hnp _ _ _) (get_put hok _ hon) hP rfl) ?_)
      refine aM 6 ?_
      refine aP 7 rfl (Det.extract rfl rfl) ?_
      refine aP 8 rfl (Det.extract rfl rfl) ?_
      refine aA 9 ?_
      refine aA 10 ?_
      refine aE ?_
      refine KB ?_
      refine KB (KA ?_)
      refine oM ?_
      refine oS (cF rfl en_20 rfl (fun w hw=>c_Num _ w) ?_)
      refine oP (KD (v:=.bool false) rfl rfl (br_f (br_neq (b:=0)) dc)) ?_
      refine oM ?_
      refine oGM ?_
      refine oGP (Det.lens Tryz.underlying9 rfl) ?_
      refine oGP (KD (v:=.bool false) rfl rfl (br_f (br_neq (b:=1)) (by rw [hrs]; omega))) ?_
      refine oP (KY rfl rfl) ?_
      refine KC ?_
      refine KK rfl ?_
      refine KM ?_
      refine KA ?_
      refine oM ?_
      refine oM ?_
      refine oP (KG (Ky Tryz.underlying9 rfl rfl om (by rw [hrs]; omega)) (show _ = .int .u8 (((xv (pmul V.A (.aff x0 y0:Pt V.p) d)):Nat):Int) from congrArg (fun n:Nat=>Value.int .u8 ((n:Nat):Int)) (coB_0 hnb1 hX))) ?_
      refine oP (Kc Tryz.underlying58 sz_3 rfl rfl om) ?_
      refine oD (dL rfl (hv:=KJ Tryz.underlying3 rfl (by exact KW _ _ _ hX))) ?_
      refine oP (KD rfl rfl (Kn (b:=1) om)) ?_
      refine oP (Kc Tryz.underlying58 sz_3 rfl rfl om) ?_
      refine KO rfl (Kb rfl rfl rfl sz_3 (by repeat (first|exact Sh _|apply St_)) (by first|(simp only [KS,KH,KZ,Km]; omega)|(simp; done)|(simp; omega)) (by first|exact KAA _ _ _ _ _|exact KAF _ _ _ _ om|exact KAC _ _ _ _|rfl) (by simp) ?_)
      refine KC ?_
      refine KA ?_
      refine oM ?_
      refine oP (KG (KD rfl rfl (KAK (b:=1))) (vi (b:=d+1) om)) ?_
      refine oA ?_
      refine KC ?_
      exact ⟨d+1,⟨by omega,by omega⟩,by omega,Kw (Sub.cells (b:=b47) (cs':=vec .i64 256 (cnE V (.aff x0 y0:Pt V.p) (d+1))) (by repeat (first|exact Sh _|apply St_)) (Ks fun i _=>by rw [cnE_succ V _ hd1]; by_cases e:i = (xv (pmul V.A (.aff x0 y0:Pt V.p) d)) <;> simp [e,eq_comm])) (Kd ⟨rfl,rfl,rfl,rfl,rfl,trivial⟩ mS)⟩
    ·
      have h50:¬ d<V.n:=h50
      refine Ke ?_
      refine KB ?_
      refine KB ?_
      obtain rfl:d = V.n:=by omega
      refine KA ?_
      refine oP (KR (v:=.int .i64 ((0:Nat):Int)) rfl) ?_
      refine KC ?_
      refine LCode.block ?_
      refine Kh (α:=Nat) (fun x=>x≤256) (fun x=>⟨[(10,.slice (some ⟨b47,0,none⟩) 256 256),(14,.int .i64 ((x:Nat):Int))],[.blk b47 ⟨true,vec .i64 256 (cnE V (.aff x0 y0:Pt V.p) V.n),3,(0,0)⟩]⟩) (fun x=>256-x) (0) (Nat.zero_le _) (Kd ⟨rfl,rfl,trivial⟩ mS) ?_
      intro z hz
      refine KB ?_
      refine KB (KA ?_)
      refine oM ?_
      refine oP (KD rfl rfl (KAR (b:=256))) ?_
      refine KC ?_
      first|refine KN rfl (fun h78=>?_) (fun h78=>?_)|refine KQ rfl (fun h78=>?_) (fun h78=>?_)
      ·
        have h78:z<256:=h78
        refine KM ?_
        refine KB ?_
        refine LCode.block ?_
        refine KB ?_
        rcases cn_two hok hP hP0 hPn z with hc|hc
        ·
          refine KA ?_
          refine oM ?_
          refine oM ?_
          refine oP (Kc Tryz.underlying58 sz_3 rfl rfl om) ?_
          refine oD (dL rfl (hv:=KJ Tryz.underlying3 rfl (by exact KW _ _ _ h78))) ?_
          refine oP (KD (v:=.bool false) rfl rfl (br_f (br_neq (b:=0)) om)) ?_
          refine oM ?_
          refine oK ?_
          refine oK ?_
          refine oK ?_
          refine oK ?_
          refine oK ?_
          refine oP (KY rfl rfl) ?_
          refine KC ?_
          refine KK rfl ?_
          refine KM ?_
          refine KA ?_
          refine oM ?_
          refine oP (KD rfl rfl (Kn (b:=1) om)) ?_
          refine oA ?_
          refine KC ?_
          exact ⟨z+1,by omega,by omega,Kd ⟨rfl,rfl,trivial⟩ mS⟩
        ·
          refine KA ?_
          refine oM ?_
          refine oM ?_
          refine oP (Kc Tryz.underlying58 sz_3 rfl rfl om) ?_
          refine oD (dL rfl (hv:=KJ Tryz.underlying3 rfl (by exact KW _ _ _ h78))) ?_
          refine oP (KD (v:=.bool true) rfl rfl (br_t (br_neq (b:=0)) om)) ?_
          refine oM ?_
          refine oGM ?_
          refine oGM ?_
          refine oGP (Kc Tryz.underlying58 sz_3 rfl rfl om) ?_
          refine KAM rfl rfl (dL rfl (hv:=KJ Tryz.underlying3 rfl (by exact KW _ _ _ h78))) (Nb rfl) ?_
          refine oGP (KD (v:=.bool false) rfl rfl (br_f (br_neq (b:=2)) om)) ?_
          refine oP (Kj rfl rfl) ?_
          refine KC ?_
          refine KK rfl ?_
          refine KM ?_
          refine KA ?_
          refine oM ?_
          refine oP (KD rfl rfl (Kn (b:=1) om)) ?_
          refine oA ?_
          refine KC ?_
          exact ⟨z+1,by omega,by omega,Kd ⟨rfl,rfl,trivial⟩ mS⟩
      ·
        have h78:¬ z<256:=h78
        refine Ke ?_
        refine KB (KA ?_)
        refine oA ?_
        refine KC (KI ?_)
        refine ⟨[_],.cons rfl .nil,fun a w' hr=>⟨?_,hr.fr.below⟩⟩
        rfl
end Go.Proofs.YtlmiolnccgjjjaaGreat
set_option maxRecDepth 100000
namespace Go.Proofs.YtlmiolnccgjjjaaGreat
open Go
def ioChars:List Char:=([104,97,114,110,101,115,115,32,52,50,50,53,51,49,101,49,49,48,50,102,100,99,52,51,99,102,49,102,99,102,54,100,51,97,53,50,97,50,98,98,55,56,56,99,55,56,48,52,102,54,48,54,99,55,54,55,101,100,97,52,97,49,52,101,56,57,49,50,48,52,57,54,32,99,117,116,32,97,116,32,99,117,114,118,101,116,47,99,117,114,118,101,116,108,97,119,50,53,46,69,99,100,104,84,117,114,110,101,100,32,99,117,114,118,101,116,47,99,117,114,118,101,116,108,97,119,50,53,46,69,99,100,104,79,110,101,32,99,117,114,118,101,116,47,99,117,114,118,101,116,108,97,119,50,53,46,69,99,100,104,84,105,110,121,32,99,117,114,118,101,116,47,99,117,114,118,101,116,108,97,119,50,53,46,69,99,100,104,115,32,99,117,114,118,101,116,47,99,117,114,118,101,116,108,97,119,50,53,46,69,99,100,104,66,108,105,110,100]:List Nat).map Char.ofNat
theorem io_lit:Tryz.prog.initOrder = String.ofList ioChars:=by kernel_rfl
theorem io_list:Tryz.prog.initOrder.toList = ioChars:=by rw [io_lit,String.toList_ofList]
def cutW:List Char:=([99,117,116]:List Nat).map Char.ofNat
def ioRest:List (List Char):=(wordsSigns ioChars).drop 3
theorem io_words:behindMainWord (wordsSigns ioChars) = cutW :: ioRest:=by kernel_rfl
theorem io_strip (r:List (List Char)):stripLifts liftWords (cutW :: r) = ([],cutW :: r):=by kernel_rfl
theorem no_later:Tryz.prog.laysLater = false:=by kernel_rfl
theorem no_reflect:Tryz.prog.bearsReflect = false:=by kernel_rfl
theorem door_fits:Tryz.prog.doorFits [] = true:=by kernel_rfl
theorem and2 {a b:Bool} (h:a = true) (k:b = true):(a && b) = true:=by rw [h,k]; rfl
theorem or_right {a b:Bool} (h:b = true):(a || b) = true:=by rw [h]; cases a <;> rfl
theorem cut_is : (cutW == "cut".toList) = true := by kernel_rfl
theorem cut_gc : (cutW == "gc".toList) = false := by kernel_rfl
theorem cut_spec : (cutW == "spec".toList) = false := by kernel_rfl
theorem cut_carried : (cutW == "carried".toList) = false := by kernel_rfl
theorem head_carried (r : List (List Char)) : ((cutW :: r).head? == some "carried".toList) = false := cut_carried
theorem enter_of (P:Program) {r:List (List Char)} (h:behindMainWord (wordsSigns P.initOrder.toList) = cutW :: r) (h1:P.laysLater = false) (h2:P.bearsReflect = false) (h3:P.doorFits [] = true):P.mayEnter = true:=by
  unfold Program.mayEnter
  rw [h]
  dsimp only
  refine or_right (and2 (and2 (and2 (and2 ?_ ?_) ?_) ?_) ?_)
  · rw [io_strip]; exact cut_is
  · rw [io_strip,h1]; rfl
  · rw [io_strip,h2]; rfl
  · rw [io_strip]; rfl
  · rw [io_strip]; exact h3
theorem lifts_of (P:Program) {r:List (List Char)} (h:behindMainWord (wordsSigns P.initOrder.toList) = cutW :: r):(false == P.liftsFinal) = true:=by
  have hl:P.headLifts = []:=by
    unfold Program.headLifts
    rw [h,io_strip]
    simp only [ite_self]
  unfold Program.liftsFinal
  rw [h,hl]
  dsimp only
  rw [head_carried,Bool.false_and]
  rfl
theorem make_of (P:Program) {r:List (List Char)} (h:behindMainWord (wordsSigns P.initOrder.toList) = cutW :: r):(P.make == some .cut) = true:=by
  have:P.make = some .cut:=by
    unfold Program.make
    rw [h]
    dsimp only
    rw [if_neg (by rw [cut_gc,cut_spec]; exact fun h=>by cases h),if_pos (by rw [cut_is]; rfl)]
  rw [this]; rfl
theorem io_all:behindMainWord (wordsSigns Tryz.prog.initOrder.toList) = cutW :: ioRest:=by rw [io_list,io_words]
theorem fact_enter:Tryz.prog.mayEnter = true:=enter_of _ io_all no_later no_reflect door_fits
theorem fact_lifts:(false == Tryz.prog.liftsFinal) = true:=lifts_of _ io_all
theorem fact_make:(Tryz.prog.make == some .cut) = true:=make_of _ io_all
theorem fact_laid:laidOutB Tryz.prog = true:=by kernel_rfl
theorem fact_maps:mapsRowed Tryz.prog = true:=by kernel_rfl
theorem fact_heard:Tryz.prog.stopsHeard = true:=by kernel_rfl
end Go.Proofs.YtlmiolnccgjjjaaGreat
