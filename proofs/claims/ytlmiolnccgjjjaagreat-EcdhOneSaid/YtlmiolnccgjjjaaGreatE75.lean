/- Part 5 of what the proof leans on: a symbolic execution of the model, walks of the program's functions, and the mathematics. No condition. -/
import Derived.WalkKit
import Derived.Orders
import Derived.Laws.StructEq
import Derived.WalkSpells
import Derived.OrdersHeld
import Derived.KernelRfl
import Derived.Laws.Externs
import Derived.Laws.Bits64
import Derived.Laws.MakeOwn
import Derived.Laws.BytesString
import Derived.Carry
import Derived.WideShapes
import GoSem.Claim
import Derived.Test.YtlmiolnccgjjjaaGreatProg
import Derived.Laws.AppendOwn
import Derived.Test.YtlmiolnccgjjjaaGreatRows
import Derived.ProofKit
import Derived.OpenShut
import Derived.Test.YtlmiolnccgjjjaaGreatE74
set_option linter.unusedVariables false
set_option linter.unusedSimpArgs false
set_option maxRecDepth 20000
namespace Go.Proofs.YtlmiolnccgjjjaaGreat
open Go Go.RowKit
open Grp
theorem fpow_val {p:Nat} [NeZero p] (x:Fin p):∀ e,(fpow x e).val = x.val^e%p
  | 0=>rfl
  | e+1=>by
    show (fpow x e*x).val = _
    rw [Fin.val_mul,fpow_val x e,Nat.pow_succ,Nat.mul_mod,Nat.mod_mod,← Nat.mul_mod]
def sqN (p a:Nat):Option Nat:=(List.range p).find? fun r=>Nat.beq (r*r%p) a && Nat.beq (r%2) 0
theorem sqN_some {p a r:Nat} (h:sqN p a = some r):r<p∧r*r%p = a∧r%2 = 0:=by
  unfold sqN at h
  have h1:=List.find?_some h
  have h2:=List.mem_of_find?_eq_some h
  simp only [Bool.and_eq_true] at h1
  exact ⟨List.mem_range.1 h2,Nat.eq_of_beq_eq_true h1.1,Nat.eq_of_beq_eq_true h1.2⟩
theorem sqN_none {p a:Nat} (h:sqN p a = none) {r:Nat} (hr:r<p) (h1:r*r%p = a):r%2 = 1:=by
  unfold sqN at h
  have h2:=List.find?_eq_none.1 h r (List.mem_range.2 hr)
  rcases Nat.mod_two_eq_zero_or_one r with h3|h3
  · exact absurd (by rw [h1,h3]; simp) h2
  · exact h3
theorem fin_neg_val {p:Nat} [NeZero p] (x:Fin p) (h:x.val≠0):(0-x).val = p-x.val:=by
  have:=x.isLt
  rw [Fin.sub_def]
  show (p-x.val+(0:Fin p).val)%p = _
  rw [Fin.val_zero,Nat.add_zero,Nat.mod_eq_of_lt om]
theorem neg_sq {p:Nat} [NeZero p] (x:Fin p):(0-x)*(0-x) = x*x:=by grind -lia
def evenR {p:Nat} [NeZero p] (x:Fin p):Fin p:=if x.val%2 = 1 then 0-x else x
theorem evenR_sq {p:Nat} [NeZero p] (x:Fin p):evenR x*evenR x = x*x:=by
  unfold evenR; split
  · exact neg_sq x
  · rfl
theorem evenR_even {p:Nat} [NeZero p] (hodd:p%2 = 1) (x:Fin p):(evenR x).val%2 = 0:=by
  unfold evenR; split
  · rename_i h
    have:=x.isLt
    rw [fin_neg_val x om]; omega
  · omega
theorem sqN_eq {p:Nat} [NeZero p] (hf:Fld p) (hodd:p%2 = 1) (x:Fin p):sqN p (x*x).val = some (evenR x).val:=by
  cases h:sqN p (x*x).val with
  | none =>
    have h1:=sqN_none h (evenR x).isLt (by rw [← Fin.val_mul,evenR_sq])
    have h2:=evenR_even hodd x
    omega
  | some r =>
    obtain ⟨h1,h2,h3⟩:=sqN_some h
    have e:(⟨r,h1⟩:Fin p) = evenR x:=even_root hf hodd (by rw [evenR_sq]; exact Fin.ext (by rw [Fin.val_mul]; exact h2)) h3 (evenR_even hodd x)
    rw [← e]
theorem p_odd {V:Cv} (hok:V.Ok):V.p%2 = 1:=by
  exact hok.bounds.2.2.2.2.2.2.2.1
theorem Cv.Ok.zbounds {V:Cv} (h:V.Ok):2≤V.z∧V.z<V.p:=by
  have cs:=h.cs
  simp only [Bool.and_eq_true] at cs
  exact ⟨Nb cs.1.1.1.1.1.1.1.2,Nb cs.1.1.1.1.1.1.2⟩
theorem sqN_no {V:Cv} (hok:V.Ok) {a:Fin V.p} (h0:a≠0) (h:fpow a ((V.p-1)/2)≠1):sqN V.p a.val = none:=by
  cases h1:sqN V.p a.val with
  | none=>rfl
  | some r =>
    obtain ⟨h2,h3,h4⟩:=sqN_some h1
    have hb:=hok.bounds
    have hod:=p_odd hok
    have e:a = (⟨r,h2⟩:Fin V.p)*⟨r,h2⟩:=Fin.ext (by rw [Fin.val_mul]; exact h3.symm)
    refine absurd ?_ h
    have hr:(⟨r,h2⟩:Fin V.p)≠0:=fun e0=>h0 (by rw [e,e0]; grind -lia)
    have:=fermat hok.fld om hr
    rw [show V.p-1 = (V.p-1)/2+(V.p-1)/2 by omega,fpow_add,← mul_fpow,← e] at this
    exact this
theorem sqN_zero {p:Nat} (hp:0<p):sqN p 0 = some 0:=by
  unfold sqN
  obtain ⟨n,rfl⟩:∃ n,p = n+1:=⟨p-1,by omega⟩
  rw [List.range_succ_eq_map,List.find?_cons]
  simp
theorem two_lt {k m B:Nat} (h:2^k*m = B) (hm:0<m) (hB:B<W9):k<576:=by
  refine Nat.lt_of_not_le fun hk=>?_
  obtain ⟨q,hq⟩:∃ q:Nat,q = 9:=⟨9,rfl⟩
  have h1:2^(64*q)≤2^k:=Nat.pow_le_pow_right dc om
  have h2:2^k*1≤2^k*m:=Nat.mul_le_mul_left _ hm
  rw [w9 hq] at h1
  omega
theorem val_one {V:Cv} (hok:V.Ok):(1:Fin V.p).val = 1:=by
  have:=hok.bounds
  show 1%V.p = 1
  exact Nat.mod_eq_of_lt om
theorem ne_iff1 {V:Cv} (hok:V.Ok) {x:Fin V.p}:x.val = 1↔x = 1:=⟨fun h=>Fin.ext (h.trans (val_one hok).symm),fun h=>h ▸ val_one hok⟩
theorem fpow_succ2 {p:Nat} [NeZero p] (x:Fin p) (k:Nat):fpow x (2^k)*fpow x (2^k) = fpow x (2^(k+1)):=by rw [← fpow_add,← Nat.mul_two,← Nat.pow_succ]
theorem c_F_Pow (V:Cv) (hok:V.Ok) (bd:Nat) (X:Fin V.p) (E:Nat) (w:World) (hbd:(Item.blk bd ⟨false,dvL V.p,167,(0,0)⟩).holds w) (hE:E<W9):Calls Tryz.prog 97 ([.agg [.pointer (some ⟨bd,0,none⟩)].toArray,natV X.val,natV E]:List Value).toArray w (fun e w'=>e = .returned (natV (fpow X E).val)∧Below w.heap.size w w'):=by
  have hb:=hok.bounds
  have hpW:=KAB hb.2.1
  have:=c_Pow V.p X.val E bd om hpW w hbd (Nat.lt_trans X.isLt hpW) hE
  rwa [← fpow_val] at this
theorem c_one  (w:World)  : Calls Tryz.prog 96 ([]:List Value).toArray w (fun e w'=>e = .returned (natV 1)∧Below w.heap.size w w'):=by
  refine Ka (N:=2) (rs:=[.cell 0 25]) [] Tryz.func96 rfl Tryz.ntmps96 Tryz.results96 (Nb rfl) trivial rfl ?_
  show LCode _ _ _ ⟨_,_⟩ _
  refine KB (KA ?_)
  refine oS (mk (KN zr_25) (fun b0=>?_))
  refine KC ?_
  refine KB (KA ?_)
  refine oS (cF rfl en_61 rfl (fun w hw=>c_nat_Small 1 dc w) ?_)
  refine KO rfl (sA rfl rfl sz_25 mO (hl:=mL) (h:=?_))
  refine KC (KK ?_)
  refine ⟨[_],.cons ⟨_,_,_,rfl,mM,by exact KE Tryz.underlying25 rfl sz_25⟩ .nil,fun a w' hr=>⟨?_,hr.fr.below⟩⟩
  rfl
theorem c_half (A:Nat) (hA:A<W9) (w:World)  : Calls Tryz.prog 98 ([natV A]:List Value).toArray w (fun e w'=>e = .returned (natV (A/2))∧Below w.heap.size w w'):=by
  refine Ka (N:=11) (rs:=[.cell 2 25]) [] Tryz.func98 rfl Tryz.ntmps98 Tryz.results98 (Nb rfl) trivial rfl ?_
  show LCode _ _ _ ⟨_,_⟩ _
  refine KB (KA ?_)
  refine oS (mB (fun b1=>?_))
  refine oS (mk (KN zr_25) (fun b2=>?_))
  refine KC ?_
  refine KB (KA ?_)
  refine oD (dL rfl (hv:=by exact KE Tryz.underlying25 rfl sz_25)) ?_
  refine oS (cF rfl en_102 rfl (fun w hw=>c_nat_Shr A 1 hA dc w) ?_)
  refine oM ?_
  refine oP (Det.extract rfl rfl) ?_
  refine oP (Det.extract rfl rfl) ?_
  refine oS (mk (KN zr_25) (fun b3=>?_))
  refine KO rfl (sA rfl rfl sz_25 mO (hl:=mL) (h:=?_))
  refine oA ?_
  refine KC ?_
  refine KB (KA ?_)
  refine oD (dL rfl (hv:=by exact KE Tryz.underlying25 rfl sz_25)) ?_
  refine KO rfl (sA rfl rfl sz_25 mO (hl:=mL) (h:=?_))
  refine KC (KK ?_)
  refine ⟨[_],.cons ⟨_,_,_,rfl,mM,by exact KE Tryz.underlying25 rfl sz_25⟩ .nil,fun a w' hr=>⟨?_,hr.fr.below⟩⟩
  rw [Nat.pow_one]
  rfl
theorem c_f_AddS (V:Cv) (f bd z:Nat) (w:World) (hf:(Item.blk f ⟨false,fldL V.p bd,116,(0,0)⟩).holds w) (hok:V.Ok) (hz:z+1<V.p):Calls Tryz.prog 63 ([.pointer (some ⟨f,0,none⟩),natV z,natV 1]:List Value).toArray w (fun e w'=>e = .returned (natV (z+1))∧Below w.heap.size w w'):=by
  have:=c_f_Add V f bd z 1 w hf hok.bounds.2.1 om om
  rwa [Nat.mod_eq_of_lt hz] at this
theorem c_F_PowN (V:Cv) (hok:V.Ok) (bd z:Nat) (E:Nat) (w:World) (hbd:(Item.blk bd ⟨false,dvL V.p,167,(0,0)⟩).holds w) (hE:E<W9) (hz:z<V.p):Calls Tryz.prog 97 ([.agg [.pointer (some ⟨bd,0,none⟩)].toArray,natV z,natV E]:List Value).toArray w (fun e w'=>e = .returned (natV (fpow (c V.p z) E).val)∧Below w.heap.size w w'):=by
  have:=c_F_Pow V hok bd (c V.p z) E w hbd hE
  rwa [show (c V.p z).val = z from Nat.mod_eq_of_lt hz] at this
theorem neg_one_val {p:Nat} [NeZero p] (h:2≤p):(-1:Fin p).val = p-1:=by
  have h1:(-1:Fin p) = 0-1:=by grind -lia
  have h2:(1:Fin p).val = 1:=by show 1%p = 1; exact Nat.mod_eq_of_lt om
  rw [h1,fin_neg_val 1 om,h2]
theorem fpow_cval {p:Nat} [NeZero p] (z E:Nat):(fpow (c p z) E).val = z^E%p:=by
  rw [← c_pow]; rfl
theorem half_of {p o s:Nat} (h:o*2^s = p-1) (hp:p%2 = 1) (h2:2≤p) (ho:o%2 = 1):0<s∧o*2^(s-1) = (p-1)/2:=by
  cases s with
  | zero=>rw [Nat.pow_zero,Nat.mul_one] at h; omega
  | succ k =>
    rw [Nat.pow_succ,← Nat.mul_assoc] at h
    refine ⟨Nat.succ_pos k,?_⟩
    show o*2^k = _
    omega
theorem c_root (V:Cv) (f bd:Nat) (hok:V.Ok) (a:Fin V.p) (w:World) (hf:(Item.blk f ⟨false,fldL V.p bd,116,(0,0)⟩).holds w) (hbd:(Item.blk bd ⟨false,dvL V.p,167,(0,0)⟩).holds w) (ha:fpow a ((V.p-1)/2) = 1):Calls Tryz.prog 99 ([.pointer (some ⟨f,0,none⟩),natV a.val]:List Value).toArray w (fun e w'=>∃ v,(∃ x:Fin V.p,x*x = a∧v = natV x.val)∧e = .returned v∧Below w.heap.size w w'):=by
  have hbb:=hok.bounds
  have hpW:V.p<W9:=KAB hbb.2.1
  have hz:=hok.zbounds
  refine Ka (N:=118) (rs:=[.cell 4 25]) [.blk f ⟨false,fldL V.p bd,116,(0,0)⟩,.blk bd ⟨false,dvL V.p,167,(0,0)⟩] Tryz.func99 rfl Tryz.ntmps99 Tryz.results99 (Nb rfl) ⟨hf,hbd,trivial⟩ rfl ?_
  show LCode _ _ _ ⟨_,_⟩ _
  refine KB (KA ?_)
  refine oS (mB (fun b3=>?_))
  refine oS (mk (KN zr_25) (fun b4=>?_))
  refine KC ?_
  refine KB ?_
  refine rD [10] ?_
  refine aM 0 ?_
  refine aP 1 rfl (KM rfl) ?_
  refine aP 2 rfl (KF (o':=0) Tryz.underlying116 rfl rfl rfl sz_25 dc) ?_
  refine aD 3 rfl (dL rfl (hv:=by exact KAD Tryz.underlying25 rfl sz_25 rfl (KH _))) ?_
  refine LAny.toP ?_
  refine KAE 9 rfl (.inl zr_25) (Nb rfl) rfl rfl rfl ?_
  refine Kn 4 rfl rfl rfl (Nb rfl) (by kernel_rfl) rfl (Kr (first:=[]) rfl en_96 rfl (fun w hw=>c_one w)) ?_
  rintro _ _ ⟨rfl,rfl⟩
  refine Kn 5 rfl rfl rfl (Nb rfl) (by kernel_rfl) rfl (Kr (first:=[]) rfl en_60 rfl (fun w hw=>c_nat_SubS V.p 1 w hpW om)) ?_
  rintro _ _ ⟨rfl,rfl⟩
  refine pM 6 ?_
  refine pP 7 rfl (Det.extract rfl rfl) ?_
  refine pP 8 rfl (Det.extract rfl rfl) ?_
  refine pE (fun b5=>?_)
  refine KAT ?_
  refine aL 10 rfl (sA rfl rfl sz_25 mO (hl:=mL) (h:=?_))
  refine aA 11 ?_
  refine aE ?_
  refine KB (KA ?_)
  refine oD (dL rfl (hv:=by exact KE Tryz.underlying25 rfl sz_25)) ?_
  refine oS (mk (KN zr_25) (fun b7=>?_))
  refine KO rfl (sA rfl rfl sz_25 mO (hl:=mL) (h:=?_))
  refine oP (KQ (v:=.int .i64 ((0:Nat):Int)) rfl) ?_
  refine KC ?_
  refine KB ?_
  refine LCode.block ?_
  refine Km (α:=Nat×Nat) (fun x=>x.1*2^x.2 = V.p-1∧0<x.1) (fun x=>⟨[(0,.pointer (some ⟨f,0,none⟩)),(3,.pointer (some ⟨b3,0,none⟩)),(4,.pointer (some ⟨b4,0,none⟩)),(5,.pointer (some ⟨b5,0,none⟩)),(7,.pointer (some ⟨b7,0,none⟩)),(8,.int .i64 ((x.2:Nat):Int))],[.blk b7 ⟨true,natL x.1,25,(0,0)⟩,.blk b5 ⟨true,natL (V.p-1),25,(0,0)⟩,.blk b4 ⟨true,vec .u64 9 (fun _=>0),25,(0,0)⟩,.blk b3 ⟨true,natL a.val,25,(0,0)⟩,.blk f ⟨false,fldL V.p bd,116,(0,0)⟩,.blk bd ⟨false,dvL V.p,167,(0,0)⟩]⟩) (fun x=>x.1) ((V.p-1,0)) (⟨by dsimp only; omega,by dsimp only; omega⟩) (Kf ⟨rfl,rfl,rfl,rfl,rfl,rfl,trivial⟩ mS) ?_
  rintro o ⟨ho1,ho2⟩
  refine KB ?_
  refine KB ?_
  have ho3:o.1≤V.p-1:=by
    have h2:o.1*1≤o.1*2^o.2:=Nat.mul_le_mul_left _ Nat.one_le_two_pow
    omega
  have ho4:o.2<576:=two_lt ((Nat.mul_comm _ _).trans ho1) ho2 om
  refine KA ?_
  refine oD (dL rfl (hv:=by exact KE Tryz.underlying25 rfl sz_25)) ?_
  refine oS (cF rfl en_85 rfl (fun w hw=>c_nat_Bit o.1 0 om dc w) ?_)
  refine oP (KD rfl rfl (Ky (b:=0))) ?_
  refine KC ?_
  first|refine KP rfl (fun h30=>?_) (fun h30=>?_)|refine KR rfl (fun h30=>?_) (fun h30=>?_)
  ·
    have h30:o.1/2^0%2 = 0:=h30
    rw [Nat.pow_zero,Nat.div_one] at h30
    refine KL ?_
    refine LCode.block ?_
    refine KA ?_
    refine oD (dL rfl (hv:=by exact KE Tryz.underlying25 rfl sz_25)) ?_
    refine oS (cF rfl en_98 rfl (fun w hw=>c_half o.1 om w) ?_)
    refine oM ?_
    refine oP (KD rfl rfl (Kj (b:=1) om)) ?_
    refine KO rfl (sA rfl rfl sz_25 mO (hl:=mL) (h:=?_))
    refine oA ?_
    refine KC ?_
    exact ⟨(o.1/2,o.2+1),⟨by dsimp only; rw [Nat.pow_succ,Nat.mul_comm (2^o.2) 2,← Nat.mul_assoc,show o.1/2*2 = o.1 by omega]; exact ho1,by dsimp only; omega⟩,by dsimp only; omega,Kf ⟨rfl,rfl,rfl,rfl,rfl,rfl,trivial⟩ mS⟩
  ·
    have h30:¬ o.1/2^0%2 = 0:=h30
    rw [Nat.pow_zero,Nat.div_one] at h30
    refine Kg ?_
    refine KB (KA ?_)
    refine oS (cF rfl en_61 rfl (fun w hw=>c_nat_Small 2 dc w) ?_)
    refine oS (mk (KN zr_25) (fun b9=>?_))
    refine KO rfl (sA rfl rfl sz_25 mO (hl:=mL) (h:=?_))
    refine KC ?_
    refine KB ?_
    refine LCode.block ?_
    refine Km (α:=Nat) (fun x=>2≤x∧x≤V.z) (fun x=>⟨[(0,.pointer (some ⟨f,0,none⟩)),(3,.pointer (some ⟨b3,0,none⟩)),(4,.pointer (some ⟨b4,0,none⟩)),(5,.pointer (some ⟨b5,0,none⟩)),(7,.pointer (some ⟨b7,0,none⟩)),(8,.int .i64 ((o.2:Nat):Int)),(9,.pointer (some ⟨b9,0,none⟩))],[.blk b9 ⟨true,natL x,25,(0,0)⟩,.blk b7 ⟨true,natL o.1,25,(0,0)⟩,.blk b5 ⟨true,natL (V.p-1),25,(0,0)⟩,.blk b4 ⟨true,vec .u64 9 (fun _=>0),25,(0,0)⟩,.blk b3 ⟨true,natL a.val,25,(0,0)⟩,.blk f ⟨false,fldL V.p bd,116,(0,0)⟩,.blk bd ⟨false,dvL V.p,167,(0,0)⟩]⟩) (fun x=>V.z-x) (2) (⟨Nat.le_refl _,hz.1⟩) (Kf ⟨rfl,rfl,rfl,rfl,rfl,rfl,rfl,trivial⟩ mS) ?_
    rintro z ⟨hz1,hz2⟩
    refine KB ?_
    refine KB ?_
    refine rD [] ?_
    refine aM 0 ?_
    refine aP 1 rfl (KM rfl) ?_
    refine aP 2 rfl (KF (o':=9) Tryz.underlying116 rfl rfl rfl sz_114 dc) ?_
    refine aD 3 rfl (dL rfl (hv:=by exact LoadV.last Tryz.underlying114 rfl sz_114 rfl (KH _) rfl)) ?_
    refine aD 4 rfl (dL rfl (hv:=by exact KE Tryz.underlying25 rfl sz_25)) ?_
    refine aD 5 rfl (dL rfl (hv:=by exact KE Tryz.underlying25 rfl sz_25)) ?_
    refine aD 8 rfl (dL rfl (hv:=by exact KE Tryz.underlying25 rfl sz_25)) ?_
    refine aO 6 rfl (cF rfl en_98 rfl (fun w hw=>c_half (V.p-1) om w) ?_)
    refine aO 7 rfl (cF rfl en_97 rfl (fun w hw=>c_Pow V.p z ((V.p-1)/2) bd om hpW w (mC hw) om om) ?_)
    refine aP 9 rfl (Det.nea (by kernel_rfl) (fun w=>eq_nat (z^((V.p-1)/2)%V.p) (V.p-1) (Nat.lt_trans (Nat.mod_lt _ om) hpW) om 10000 dc w) rfl rfl) ?_
    refine aE ?_
    first|refine KP rfl (fun h45=>?_) (fun h45=>?_)|refine KR rfl (fun h45=>?_) (fun h45=>?_)
    ·
      have h45:z^((V.p-1)/2)%V.p≠V.p-1:=by simpa using h45
      refine KL ?_
      refine LCode.block ?_
      have hzz:z≠V.z:=fun h=>h45 (by have:=congrArg Fin.val hok.none; rw [fpow_cval,neg_one_val om] at this; rw [h]; exact this)
      refine rD [4] ?_
      refine aM 0 ?_
      refine aD 1 rfl (dL rfl (hv:=by exact KE Tryz.underlying25 rfl sz_25)) ?_
      refine aO 2 rfl (cF rfl en_96 rfl (fun w hw=>c_one w) ?_)
      refine aO 3 rfl (cF rfl en_63 rfl (fun w hw=>c_f_AddS V f bd z w (mC hw) hok om) ?_)
      refine aL 4 rfl (sA rfl rfl sz_25 mO (hl:=mL) (h:=?_))
      refine aE ?_
      exact ⟨z+1,⟨by omega,by omega⟩,by omega,Kf ⟨rfl,rfl,rfl,rfl,rfl,rfl,rfl,trivial⟩ mS⟩
    ·
      have h45:z^((V.p-1)/2)%V.p = V.p-1:=by simpa using h45
      refine Kg ?_
      refine KB ?_
      have hz3:fpow (c V.p z) ((V.p-1)/2) = -1:=Fin.ext (by rw [fpow_cval,neg_one_val om]; exact h45)
      obtain ⟨hs1,hs2⟩:=half_of ho1 (p_odd hok) om om
      refine rD [7] ?_
      refine aD 0 rfl (dL rfl (hv:=by exact KE Tryz.underlying25 rfl sz_25)) ?_
      refine LAny.toP ?_
      refine KAE 6 rfl (.inl zr_25) (Nb rfl) rfl rfl rfl ?_
      refine Kn 1 rfl rfl rfl (Nb rfl) (by kernel_rfl) rfl (Kr (first:=[]) rfl en_96 rfl (fun w hw=>c_one w)) ?_
      rintro _ _ ⟨rfl,rfl⟩
      refine Kn 2 rfl rfl rfl (Nb rfl) (by kernel_rfl) rfl (Kr (first:=[]) rfl en_81 rfl (fun w hw=>c_nat_AddS o.1 1 w om)) ?_
      rintro _ _ ⟨rfl,rfl⟩
      refine pM 3 ?_
      refine pP 4 rfl (Det.extract rfl rfl) ?_
      refine pP 5 rfl (Det.extract rfl rfl) ?_
      refine pE (fun b10=>?_)
      refine KAT ?_
      refine aL 7 rfl (sA rfl rfl sz_25 mO (hl:=mL) (h:=?_))
      refine aA 8 ?_
      refine aE ?_
      refine KB ?_
      refine rD [25,26,27] ?_
      refine aM 0 ?_
      refine aP 1 rfl (KM rfl) ?_
      refine aP 2 rfl (KF (o':=9) Tryz.underlying116 rfl rfl rfl sz_114 dc) ?_
      refine aD 3 rfl (dL rfl (hv:=by exact LoadV.last Tryz.underlying114 rfl sz_114 rfl (KH _) rfl)) ?_
      refine aD 4 rfl (dL rfl (hv:=by exact KE Tryz.underlying25 rfl sz_25)) ?_
      refine aD 5 rfl (dL rfl (hv:=by exact KE Tryz.underlying25 rfl sz_25)) ?_
      refine aM 7 ?_
      refine aP 8 rfl (KM rfl) ?_
      refine aP 9 rfl (KF (o':=9) Tryz.underlying116 rfl rfl rfl sz_114 dc) ?_
      refine aM 15 ?_
      refine aP 16 rfl (KM rfl) ?_
      refine aP 17 rfl (KF (o':=9) Tryz.underlying116 rfl rfl rfl sz_114 dc) ?_
      refine LAny.takeW [14,21,25,26,27] 10 rfl (by kernel_rfl) (Nb rfl) (dL rfl (hv:=by exact LoadV.last Tryz.underlying114 rfl sz_114 rfl (KH _) rfl)) ?_
      refine LAny.takeW [14,21,25,26,27] 11 rfl (by kernel_rfl) (Nb rfl) (dL rfl (hv:=by exact KE Tryz.underlying25 rfl sz_25)) ?_
      refine LAny.takeW [13,14,21,25,26,27] 12 rfl (by kernel_rfl) (Nb rfl) (dL rfl (hv:=by exact KE Tryz.underlying25 rfl sz_25)) ?_
      refine LAny.takeW [21,25,26,27] 18 rfl (by kernel_rfl) (Nb rfl) (dL rfl (hv:=by exact LoadV.last Tryz.underlying114 rfl sz_114 rfl (KH _) rfl)) ?_
      refine LAny.takeW [21,25,26,27] 19 rfl (by kernel_rfl) (Nb rfl) (dL rfl (hv:=by exact KE Tryz.underlying25 rfl sz_25)) ?_
      refine LAny.takeW [21,25,26,27] 20 rfl (by kernel_rfl) (Nb rfl) (dL rfl (hv:=by exact KE Tryz.underlying25 rfl sz_25)) ?_
      refine LAny.toP ?_
      refine KAE 22 rfl (.inl zr_25) (Nb rfl) rfl rfl rfl ?_
      refine KAE 23 rfl (.inl zr_25) (Nb rfl) rfl rfl rfl ?_
      refine KAE 24 rfl (.inl zr_25) (Nb rfl) rfl rfl rfl ?_
      refine Kn 6 rfl rfl rfl (Nb rfl) (by kernel_rfl) rfl (Kr (first:=[]) rfl en_97 rfl (fun w hw=>c_F_PowN V hok bd z o.1 w (mC hw) om om)) ?_
      rintro _ _ ⟨rfl,rfl⟩
      refine Kn 13 rfl rfl rfl (Nb rfl) (by kernel_rfl) rfl (Kr (first:=[]) rfl en_98 rfl (fun w hw=>c_half (o.1+1) om w)) ?_
      rintro _ _ ⟨rfl,rfl⟩
      refine Kn 14 rfl rfl rfl (Nb rfl) (by kernel_rfl) rfl (Kr (first:=[]) rfl en_97 rfl (fun w hw=>c_F_Pow V hok bd a ((o.1+1)/2) w (mC hw) om)) ?_
      rintro _ _ ⟨rfl,rfl⟩
      refine Kn 21 rfl rfl rfl (Nb rfl) (by kernel_rfl) rfl (Kr (first:=[]) rfl en_97 rfl (fun w hw=>c_F_Pow V hok bd a o.1 w (mC hw) om)) ?_
      rintro _ _ ⟨rfl,rfl⟩
      refine pE (fun b14=>?_)
      refine pE (fun b13=>?_)
      refine pE (fun b12=>?_)
      refine KAT ?_
      refine aL 25 rfl (sA rfl rfl sz_25 mO (hl:=mL) (h:=?_))
      refine aL 26 rfl (sA rfl rfl sz_25 mO (hl:=mL) (h:=?_))
      refine aL 27 rfl (sA rfl rfl sz_25 mO (hl:=mL) (h:=?_))
      refine aE ?_
      refine KB ?_
      refine LCode.block ?_
      refine Km (α:=Fin V.p×Fin V.p×Fin V.p×Nat) (fun x=>TS a x.1 x.2.1 x.2.2.1 x.2.2.2∧x.2.2.2<576) (fun x=>⟨[(0,.pointer (some ⟨f,0,none⟩)),(4,.pointer (some ⟨b4,0,none⟩)),(8,.int .i64 ((x.2.2.2:Nat):Int)),(12,.pointer (some ⟨b12,0,none⟩)),(13,.pointer (some ⟨b13,0,none⟩)),(14,.pointer (some ⟨b14,0,none⟩))],[.blk b12 ⟨true,natL x.2.1.val,25,(0,0)⟩,.blk b13 ⟨true,natL x.1.val,25,(0,0)⟩,.blk b14 ⟨true,natL x.2.2.1.val,25,(0,0)⟩,.blk b4 ⟨true,vec .u64 9 (fun _=>0),25,(0,0)⟩,.blk f ⟨false,fldL V.p bd,116,(0,0)⟩,.blk bd ⟨false,dvL V.p,167,(0,0)⟩]⟩) (fun x=>x.2.2.2) ((fpow a ((o.1+1)/2),fpow (c V.p z) o.1,fpow a o.1,o.2)) (⟨TS.init hs1 om (by rw [hs2]; exact hz3) (by rw [hs2]; exact ha),ho4⟩) (Kf ⟨rfl,rfl,rfl,rfl,rfl,rfl,trivial⟩ mS) ?_
      rintro y ⟨hy1,hy2⟩
      refine KB ?_
      refine KB ?_
      refine rD [] ?_
      refine aD 0 rfl (dL rfl (hv:=by exact KE Tryz.underlying25 rfl sz_25)) ?_
      refine aO 1 rfl (cF rfl en_96 rfl (fun w hw=>c_one w) ?_)
      refine aP 2 rfl (Det.nea (by kernel_rfl) (fun w=>eq_nat y.2.2.1.val 1 (Nat.lt_trans y.2.2.1.isLt hpW) one_w9 10000 dc w) rfl rfl) ?_
      refine aE ?_
      first|refine KP rfl (fun h80=>?_) (fun h80=>?_)|refine KR rfl (fun h80=>?_) (fun h80=>?_)
      ·
        have h80:y.2.2.1≠1:=fun h=>by simp [(ne_iff1 hok).2 h] at h80
        refine KL ?_
        refine LCode.block ?_
        refine KB (KA ?_)
        refine oP (KQ (v:=.int .i64 ((0:Nat):Int)) rfl) ?_
        refine KC ?_
        refine KB ?_
        refine KB (KA ?_)
        refine oD (dL rfl (hv:=by exact KE Tryz.underlying25 rfl sz_25)) ?_
        refine oS (mk (KN zr_25) (fun b16=>?_))
        refine KO rfl (sA rfl rfl sz_25 mO (hl:=mL) (h:=?_))
        refine KC ?_
        refine LCode.block ?_
        refine Km (α:=Nat×Nat) (fun x=>∀ j,j<x.1→fpow y.2.2.1 (2^j)≠1) (fun x=>⟨[(0,.pointer (some ⟨f,0,none⟩)),(4,.pointer (some ⟨b4,0,none⟩)),(8,.int .i64 ((y.2.2.2:Nat):Int)),(12,.pointer (some ⟨b12,0,none⟩)),(13,.pointer (some ⟨b13,0,none⟩)),(14,.pointer (some ⟨b14,0,none⟩)),(15,.int .i64 ((x.1:Nat):Int)),(16,.pointer (some ⟨x.2,0,none⟩))],[.blk x.2 ⟨true,natL (fpow y.2.2.1 (2^x.1)).val,25,(0,0)⟩,.blk b12 ⟨true,natL y.2.1.val,25,(0,0)⟩,.blk b13 ⟨true,natL y.1.val,25,(0,0)⟩,.blk b14 ⟨true,natL y.2.2.1.val,25,(0,0)⟩,.blk b4 ⟨true,vec .u64 9 (fun _=>0),25,(0,0)⟩,.blk f ⟨false,fldL V.p bd,116,(0,0)⟩,.blk bd ⟨false,dvL V.p,167,(0,0)⟩]⟩) (fun x=>y.2.2.2-x.1) ((0,b16)) (fun j hj=>absurd hj (Nat.not_lt_zero _)) (KAG (Sub.cells (b:=b16) (cs':=natL (fpow y.2.2.1 (2^0)).val) (by repeat (first|exact Sh _|apply St_)) (by rw [Nat.pow_zero,fpow_one])) (Kf ⟨rfl,rfl,rfl,rfl,rfl,rfl,rfl,rfl,trivial⟩ mS)) ?_
        rintro k hk
        refine KB ?_
        refine KB ?_
        have hkm0:=TS.less hok.fld.dom hy1 hk
        refine rD [] ?_
        refine aD 0 rfl (dL rfl (hv:=by exact KE Tryz.underlying25 rfl sz_25)) ?_
        refine aO 1 rfl (cF rfl en_96 rfl (fun w hw=>c_one w) ?_)
        refine aP 2 rfl (Det.nea (by kernel_rfl) (fun w=>eq_nat (fpow y.2.2.1 (2^k.1)).val 1 (Nat.lt_trans (fpow y.2.2.1 (2^k.1)).isLt hpW) one_w9 10000 dc w) rfl rfl) ?_
        refine aE ?_
        first|refine KP rfl (fun h84=>?_) (fun h84=>?_)|refine KR rfl (fun h84=>?_) (fun h84=>?_)
        ·
          have h84:fpow y.2.2.1 (2^k.1)≠1:=fun h=>by simp [(ne_iff1 hok).2 h] at h84
          refine KL ?_
          refine KB ?_
          refine LCode.block ?_
          refine KA ?_
          refine oM ?_
          refine oP (KD rfl rfl (Kj (b:=1) om)) ?_
          refine oA ?_
          refine KC ?_
          refine KB ?_
          refine KB (KA ?_)
          refine oD (dL rfl (hv:=by exact KE Tryz.underlying25 rfl sz_25)) ?_
          refine KC ?_
          refine KA ?_
          refine oS (mk (KN zr_25) (fun b16=>?_))
          refine KO rfl (sA rfl rfl sz_25 mO (hl:=mL) (h:=?_))
          refine KC ?_
          refine KA ?_
          refine oM ?_
          refine oD (dL rfl (hv:=by exact KE Tryz.underlying25 rfl sz_25)) ?_
          refine oD (dL rfl (hv:=by exact KE Tryz.underlying25 rfl sz_25)) ?_
          refine oS (cF rfl en_87 rfl (fun w hw=>c_F_Mul V hok f bd _ _ w (mC hw) (mC hw)) ?_)
          refine KO rfl (sA rfl rfl sz_25 mO (hl:=mL) (h:=?_))
          refine KC ?_
          have hk':∀ j,j<k.1+1→fpow y.2.2.1 (2^j)≠1:=fun j hj=>by
            rcases Nat.lt_or_eq_of_le (Nat.le_of_lt_succ hj) with h|rfl
            · exact hk j h
            · exact h84
          have hkm:=TS.less hok.fld.dom hy1 hk'
          exact ⟨(k.1+1,b16),hk',by dsimp only; omega,KAG (Sub.cells (b:=b16) (cs':=natL (fpow y.2.2.1 (2^(k.1+1))).val) (by repeat (first|exact Sh _|apply St_)) (by rw [fpow_succ2])) (Kf ⟨rfl,rfl,rfl,rfl,rfl,rfl,rfl,rfl,trivial⟩ mS)⟩
        ·
          have h84:fpow y.2.2.1 (2^k.1) = 1:=(ne_iff1 hok).1 (by simpa using h84)
          refine Kg ?_
          refine KB ?_
          obtain ⟨hn1,hn2,-⟩:=TS.next hok.fld.dom hy1 h80 hk h84
          refine KA ?_
          refine oD (dL rfl (hv:=by exact KE Tryz.underlying25 rfl sz_25)) ?_
          refine oS (mk (KN zr_25) (fun b17=>?_))
          refine KO rfl (sA rfl rfl sz_25 mO (hl:=mL) (h:=?_))
          refine KC ?_
          refine KB ?_
          refine KB (KA ?_)
          refine oM ?_
          refine oM ?_
          refine oP (KD (v:=.int .i64 (((y.2.2.2-k.1):Nat):Int)) rfl rfl ((br_subI om om).trans (by congr 2; omega))) ?_
          refine oP (KD (v:=.int .i64 (((y.2.2.2-k.1-1):Nat):Int)) rfl rfl ((br_subI om om).trans (by congr 2; omega))) ?_
          refine oP (Ks (v:=.int .i64 ((0:Nat):Int)) rfl) ?_
          refine KC ?_
          refine LCode.block ?_
          refine Km (α:=Nat) (fun x=>x≤y.2.2.2-k.1-1) (fun x=>⟨[(0,.pointer (some ⟨f,0,none⟩)),(4,.pointer (some ⟨b4,0,none⟩)),(8,.int .i64 ((y.2.2.2:Nat):Int)),(12,.pointer (some ⟨b12,0,none⟩)),(13,.pointer (some ⟨b13,0,none⟩)),(14,.pointer (some ⟨b14,0,none⟩)),(15,.int .i64 ((k.1:Nat):Int)),(17,.pointer (some ⟨b17,0,none⟩)),(96,.int .i64 (((y.2.2.2-k.1-1):Nat):Int)),(97,.int .i64 ((x:Nat):Int))],[.blk b17 ⟨true,natL (fpow y.2.1 (2^x)).val,25,(0,0)⟩,.blk b12 ⟨true,natL y.2.1.val,25,(0,0)⟩,.blk b13 ⟨true,natL y.1.val,25,(0,0)⟩,.blk b14 ⟨true,natL y.2.2.1.val,25,(0,0)⟩,.blk b4 ⟨true,vec .u64 9 (fun _=>0),25,(0,0)⟩,.blk f ⟨false,fldL V.p bd,116,(0,0)⟩,.blk bd ⟨false,dvL V.p,167,(0,0)⟩]⟩) (fun x=>y.2.2.2-k.1-1-x) (0) (Nat.zero_le _) (KAG (Sub.cells (b:=b17) (cs':=natL (fpow y.2.1 (2^0)).val) (by repeat (first|exact Sh _|apply St_)) (by rw [Nat.pow_zero,fpow_one])) (Kf ⟨rfl,rfl,rfl,rfl,rfl,rfl,rfl,rfl,rfl,rfl,trivial⟩ mS)) ?_
          rintro i hi
          refine KB (KA ?_)
          refine oP (KD rfl rfl (KAY)) ?_
          refine KC ?_
          refine KB ?_
          first|refine KP rfl (fun h98=>?_) (fun h98=>?_)|refine KR rfl (fun h98=>?_) (fun h98=>?_)
          ·
            refine KL ?_
            refine KB ?_
            refine LCode.block ?_
            refine KA ?_
            refine oM ?_
            refine oD (dL rfl (hv:=by exact KE Tryz.underlying25 rfl sz_25)) ?_
            refine oD (dL rfl (hv:=by exact KE Tryz.underlying25 rfl sz_25)) ?_
            refine oS (cF rfl en_87 rfl (fun w hw=>c_F_Mul V hok f bd _ _ w (mC hw) (mC hw)) ?_)
            refine KO rfl (sA rfl rfl sz_25 mO (hl:=mL) (h:=?_))
            refine KC ?_
            refine KA ?_
            refine oP (KD rfl rfl (Kj (b:=1) om)) ?_
            refine oM ?_
            refine KC ?_
            exact ⟨i+1,by omega,by omega,KAG (Sub.cells (b:=b17) (cs':=natL (fpow y.2.1 (2^(i+1))).val) (by repeat (first|exact Sh _|apply St_)) (by rw [fpow_succ2])) (Kf ⟨rfl,rfl,rfl,rfl,rfl,rfl,rfl,rfl,rfl,rfl,trivial⟩ mS)⟩
          ·
            refine Kg ?_
            refine KB ?_
            obtain rfl:i = y.2.2.2-k.1-1:=by omega
            refine rD [8,9] ?_
            refine aM 0 ?_
            refine aD 1 rfl (dL rfl (hv:=by exact KE Tryz.underlying25 rfl sz_25)) ?_
            refine aD 2 rfl (dL rfl (hv:=by exact KE Tryz.underlying25 rfl sz_25)) ?_
            refine aM 4 ?_
            refine LAny.takeW [7,8,9] 5 rfl (by kernel_rfl) (Nb rfl) (dL rfl (hv:=by exact KE Tryz.underlying25 rfl sz_25)) ?_
            refine LAny.takeW [7,8,9] 6 rfl (by kernel_rfl) (Nb rfl) (dL rfl (hv:=by exact KE Tryz.underlying25 rfl sz_25)) ?_
            refine aO 3 rfl (cF rfl en_87 rfl (fun w hw=>c_F_Mul V hok f bd _ _ w (mC hw) (mC hw)) ?_)
            refine aO 7 rfl (cF rfl en_87 rfl (fun w hw=>c_F_Mul V hok f bd _ _ w (mC hw) (mC hw)) ?_)
            refine aL 8 rfl (sA rfl rfl sz_25 mO (hl:=mL) (h:=?_))
            refine aL 9 rfl (sA rfl rfl sz_25 mO (hl:=mL) (h:=?_))
            refine aE ?_
            refine KA ?_
            refine oM ?_
            refine oD (dL rfl (hv:=by exact KE Tryz.underlying25 rfl sz_25)) ?_
            refine oD (dL rfl (hv:=by exact KE Tryz.underlying25 rfl sz_25)) ?_
            refine oS (cF rfl en_87 rfl (fun w hw=>c_F_Mul V hok f bd _ _ w (mC hw) (mC hw)) ?_)
            refine oM ?_
            refine KO rfl (sA rfl rfl sz_25 mO (hl:=mL) (h:=?_))
            refine oA ?_
            refine KC ?_
            obtain ⟨hn1,hn2,hn3⟩:=TS.next hok.fld.dom hy1 h80 hk h84
            exact ⟨(y.1*(fpow y.2.1 (2^(y.2.2.2-k.1-1))),(fpow y.2.1 (2^(y.2.2.2-k.1-1)))*(fpow y.2.1 (2^(y.2.2.2-k.1-1))),y.2.2.1*((fpow y.2.1 (2^(y.2.2.2-k.1-1)))*(fpow y.2.1 (2^(y.2.2.2-k.1-1)))),k.1),⟨hn3,by dsimp only; omega⟩,by dsimp only; omega,Kf ⟨rfl,rfl,rfl,rfl,rfl,rfl,trivial⟩ mS⟩
      ·
        have h80:y.2.2.1 = 1:=(ne_iff1 hok).1 (by simpa using h80)
        refine Kg ?_
        refine KB (KA ?_)
        refine oD (dL rfl (hv:=by exact KE Tryz.underlying25 rfl sz_25)) ?_
        refine KO rfl (sA rfl rfl sz_25 mO (hl:=mL) (h:=?_))
        refine KC (KK ?_)
        refine ⟨[_],.cons ⟨_,_,_,rfl,mM,by exact KE Tryz.underlying25 rfl sz_25⟩ .nil,fun a w' hr=>⟨_,⟨y.1,hy1.done h80,rfl⟩,rfl,hr.fr.below⟩⟩
def sqV (p a:Nat):Value:=match sqN p a with
  | some r=>.tuple #[natV r,.bool true]
  | none=>.tuple #[natV 0,.bool false]
theorem sqV_some {p a r:Nat} (h:sqN p a = some r):sqV p a = .tuple #[natV r,.bool true]:=by unfold sqV; rw [h]
theorem sqV_none {p a:Nat} (h:sqN p a = none):sqV p a = .tuple #[natV 0,.bool false]:=by unfold sqV; rw [h]
theorem c_F_Sqrt (V:Cv) (f bd:Nat) (hok:V.Ok) (a:Fin V.p) (w:World) (hf:(Item.blk f ⟨false,fldL V.p bd,116,(0,0)⟩).holds w) (hbd:(Item.blk bd ⟨false,dvL V.p,167,(0,0)⟩).holds w):Calls Tryz.prog 83 ([.pointer (some ⟨f,0,none⟩),natV a.val]:List Value).toArray w (fun e w'=>e = .returned (sqV V.p a.val)∧Below w.heap.size w w'):=by
  have hbb:=hok.bounds
  have hpW:V.p<W9:=KAB hbb.2.1
  refine Ka (N:=44) (rs:=[.cell 4 25,.tmp 5]) [.blk f ⟨false,fldL V.p bd,116,(0,0)⟩,.blk bd ⟨false,dvL V.p,167,(0,0)⟩] Tryz.func83 rfl Tryz.ntmps83 Tryz.results83 (Nb rfl) ⟨hf,hbd,trivial⟩ rfl ?_
  show LCode _ _ _ ⟨_,_⟩ _
  refine KB (KA ?_)
  refine oS (mB (fun b3=>?_))
  refine oS (mk (KN zr_25) (fun b4=>?_))
  refine oA ?_
  refine KC ?_
  refine KB ?_
  refine KB (KA ?_)
  refine oD (dL rfl (hv:=by exact KE Tryz.underlying25 rfl sz_25)) ?_
  refine oP (KG (Ki pl_25 zr_25 rfl rfl) (show _ = natV 0 by unfold natV natL; rw [← vec_zeros 9])) ?_
  refine oP (Det.eqa (by kernel_rfl) (fun w=>eq_nat a.val 0 (Nat.lt_trans a.isLt hpW) zero_w9 10000 dc w) rfl rfl) ?_
  refine KC ?_
  first|refine KP rfl (fun h11=>?_) (fun h11=>?_)|refine KR rfl (fun h11=>?_) (fun h11=>?_)
  ·
    have h11:a.val = 0:=by simpa using h11
    refine KB (KA ?_)
    refine oD (dL rfl (hv:=by exact KE Tryz.underlying25 rfl sz_25)) ?_
    refine KO rfl (sA rfl rfl sz_25 mO (hl:=mL) (h:=?_))
    refine oA ?_
    refine KC (KK ?_)
    refine ⟨[_,_],.cons ⟨_,_,_,rfl,mM,by exact KE Tryz.underlying25 rfl sz_25⟩ (.cons rfl .nil),fun a' w' hr=>⟨?_,hr.fr.below⟩⟩
    rw [h11,sqV_some (sqN_zero om)]
    rfl
  ·
    have h11:a≠0:=fun h=>by rw [h] at h11; simp at h11
    refine KL ?_
    refine KB ?_
    refine rD [10] ?_
    refine aM 0 ?_
    refine aP 1 rfl (KM rfl) ?_
    refine aP 2 rfl (KF (o':=0) Tryz.underlying116 rfl rfl rfl sz_25 dc) ?_
    refine aD 3 rfl (dL rfl (hv:=by exact KAD Tryz.underlying25 rfl sz_25 rfl (KH _))) ?_
    refine LAny.toP ?_
    refine KAE 9 rfl (.inl zr_25) (Nb rfl) rfl rfl rfl ?_
    refine Kn 4 rfl rfl rfl (Nb rfl) (by kernel_rfl) rfl (Kr (first:=[]) rfl en_96 rfl (fun w hw=>c_one w)) ?_
    rintro _ _ ⟨rfl,rfl⟩
    refine Kn 5 rfl rfl rfl (Nb rfl) (by kernel_rfl) rfl (Kr (first:=[]) rfl en_60 rfl (fun w hw=>c_nat_SubS V.p 1 w hpW om)) ?_
    rintro _ _ ⟨rfl,rfl⟩
    refine pM 6 ?_
    refine pP 7 rfl (Det.extract rfl rfl) ?_
    refine pP 8 rfl (Det.extract rfl rfl) ?_
    refine pE (fun b6=>?_)
    refine KAT ?_
    refine aL 10 rfl (sA rfl rfl sz_25 mO (hl:=mL) (h:=?_))
    refine aA 11 ?_
    refine aE ?_
    refine KB ?_
    refine KB ?_
    refine rD [] ?_
    refine aM 0 ?_
    refine aP 1 rfl (KM rfl) ?_
    refine aP 2 rfl (KF (o':=9) Tryz.underlying116 rfl rfl rfl sz_114 dc) ?_
    refine aD 3 rfl (dL rfl (hv:=by exact LoadV.last Tryz.underlying114 rfl sz_114 rfl (KH _) rfl)) ?_
    refine aD 4 rfl (dL rfl (hv:=by exact KE Tryz.underlying25 rfl sz_25)) ?_
    refine aD 5 rfl (dL rfl (hv:=by exact KE Tryz.underlying25 rfl sz_25)) ?_
    refine aO 6 rfl (cF rfl en_98 rfl (fun w hw=>c_half (V.p-1) om w) ?_)
    refine aO 7 rfl (cF rfl en_97 rfl (fun w hw=>c_F_Pow V hok bd a ((V.p-1)/2) w (mC hw) om) ?_)
    refine aO 8 rfl (cF rfl en_96 rfl (fun w hw=>c_one w) ?_)
    refine aP 9 rfl (Det.nea (by kernel_rfl) (fun w=>eq_nat (fpow a ((V.p-1)/2)).val 1 (Nat.lt_trans (fpow a ((V.p-1)/2)).isLt hpW) one_w9 10000 dc w) rfl rfl) ?_
    refine aE ?_
    first|refine KP rfl (fun h31=>?_) (fun h31=>?_)|refine KR rfl (fun h31=>?_) (fun h31=>?_)
    ·
      have h31:fpow a ((V.p-1)/2)≠1:=fun h=>by simp [(ne_iff1 hok).2 h] at h31
      refine KB (KA ?_)
      refine oP (KG (Ki pl_25 zr_25 rfl rfl) (show _ = natV 0 by unfold natV natL; rw [← vec_zeros 9])) ?_
      refine KO rfl (sA rfl rfl sz_25 mO (hl:=mL) (h:=?_))
      refine oA ?_
      refine KC (KK ?_)
      refine ⟨[_,_],.cons ⟨_,_,_,rfl,mM,by exact KE Tryz.underlying25 rfl sz_25⟩ (.cons rfl .nil),fun a' w' hr=>⟨?_,hr.fr.below⟩⟩
      rw [sqV_none (sqN_no hok h11 h31)]
      rfl
    ·
      have h31:fpow a ((V.p-1)/2) = 1:=(ne_iff1 hok).1 (by simpa using h31)
      refine KL ?_
      refine KB (KA ?_)
      refine oM ?_
      refine oD (dL rfl (hv:=by exact KE Tryz.underlying25 rfl sz_25)) ?_
      refine oS (LStep.callV (first:=[]) rfl en_99 rfl (Nb rfl) (fun w hw=>c_root V f bd hok a w (mC hw) (mC hw) h31) ?_)
      rintro _ ⟨x,hx,rfl⟩
      refine oS (mk (KN zr_25) (fun b8=>?_))
      refine KO rfl (sA rfl rfl sz_25 mO (hl:=mL) (h:=?_))
      refine KC ?_
      refine KB ?_
      refine KB (KA ?_)
      refine oD (dL rfl (hv:=by exact KE Tryz.underlying25 rfl sz_25)) ?_
      refine oS (cF rfl en_85 rfl (fun w hw=>c_nat_Bit x.val 0 (Nat.lt_trans x.isLt hpW) dc w) ?_)
      refine oP (KD rfl rfl (Ky (b:=1))) ?_
      refine KC ?_
      first|refine KP rfl (fun h38=>?_) (fun h38=>?_)|refine KR rfl (fun h38=>?_) (fun h38=>?_)
      ·
        have h38:x.val/2^0%2 = 1:=h38
        rw [Nat.pow_zero,Nat.div_one] at h38
        refine KA ?_
        refine oM ?_
        refine oP (KG (Ki pl_25 zr_25 rfl rfl) (show _ = natV 0 by unfold natV natL; rw [← vec_zeros 9])) ?_
        refine oD (dL rfl (hv:=by exact KE Tryz.underlying25 rfl sz_25)) ?_
        refine oS (cF rfl en_86 rfl (fun w hw=>c_F_Sub V hok f bd 0 x w (mC hw)) ?_)
        refine KO rfl (sA rfl rfl sz_25 mO (hl:=mL) (h:=?_))
        refine KC ?_
        refine KB (KA ?_)
        refine oD (dL rfl (hv:=by exact KE Tryz.underlying25 rfl sz_25)) ?_
        refine KO rfl (sA rfl rfl sz_25 mO (hl:=mL) (h:=?_))
        refine oA ?_
        refine KC (KK ?_)
        refine ⟨[_,_],.cons ⟨_,_,_,rfl,mM,by exact KE Tryz.underlying25 rfl sz_25⟩ (.cons rfl .nil),fun a' w' hr=>⟨?_,hr.fr.below⟩⟩
        rw [← hx,sqV_some (sqN_eq hok.fld (p_odd hok) x),evenR,if_pos h38]
        rfl
      ·
        have h38:¬ x.val/2^0%2 = 1:=h38
        rw [Nat.pow_zero,Nat.div_one] at h38
        refine KL ?_
        refine KB (KA ?_)
        refine oD (dL rfl (hv:=by exact KE Tryz.underlying25 rfl sz_25)) ?_
        refine KO rfl (sA rfl rfl sz_25 mO (hl:=mL) (h:=?_))
        refine oA ?_
        refine KC (KK ?_)
        refine ⟨[_,_],.cons ⟨_,_,_,rfl,mM,by exact KE Tryz.underlying25 rfl sz_25⟩ (.cons rfl .nil),fun a' w' hr=>⟨?_,hr.fr.below⟩⟩
        rw [← hx,sqV_some (sqN_eq hok.fld (p_odd hok) x),evenR,if_neg h38]
        rfl
end Go.Proofs.YtlmiolnccgjjjaaGreat
set_option linter.unusedVariables false
set_option linter.unusedSimpArgs false
set_option maxRecDepth 20000
namespace Go.Proofs.YtlmiolnccgjjjaaGreat
open Go Go.RowKit
def uidx (x:Int):Nat:=(x%18446744073709551616).toNat
theorem uidx_eq (x:Int):Value.int .u64 (IntKind.u64.wrap x) = Value.int .u64 ((uidx x:Nat):Int):=by
  unfold uidx
  rw [wrap_u64,Int.toNat_of_nonneg (Int.emod_nonneg _ dc)]
theorem cvI_idx (x:Int):∃ V,cvI ((1+uidx x%15:Nat):Int) = some V:=by
  rw [cvI_nat]; exact cvOf_some om om
theorem cvI_id {id:Int} {V:Cv} (h:cvI id = some V):cvI ((V.id:Nat):Int) = some V:=by rw [(cvI_ok h).2]; exact h
theorem beVal_inj:∀ l m:List UInt8,l.length = m.length→beVal l = beVal m→l = m
  | [],[],_,_=>rfl
  | [],y :: m,h,_=>by simp at h
  | x :: l,[],h,_=>by simp at h
  | x :: l,y :: m,h,hv=>by
    have hl:l.length = m.length:=by simpa using h
    have h1:=beVal_lt l
    have h2:=beVal_lt m
    simp only [beVal] at hv
    rw [hl] at hv h1
    have hp:0<256^m.length:=Nat.pow_pos dc
    have e1:x.toNat = y.toNat:=by
      have:=congrArg (· / 256^m.length) hv
      simp only [Nat.mul_comm _ (256^m.length),Nat.mul_add_div hp,Nat.div_eq_of_lt h1,Nat.div_eq_of_lt h2,Nat.add_zero] at this
      exact this
    rw [e1] at hv
    rw [UInt8.toNat_inj.1 e1,beVal_inj l m hl om]
theorem beBytes_val (l:List UInt8):beBytes l.length (beVal l) = l:=beVal_inj _ _ (beBytes_length _ _) (by rw [beVal_bytes,Nat.mod_eq_of_lt (beVal_lt l)])
end Go.Proofs.YtlmiolnccgjjjaaGreat
set_option linter.unusedVariables false
set_option linter.unusedSimpArgs false
set_option maxRecDepth 20000
namespace Go.Proofs.YtlmiolnccgjjjaaGreat
open Go Go.RowKit
open Grp
theorem Brings.own {w w':World} {H:List Item} {b:Nat} {cs:List Value} {e:TypeId} (hb:Below w.heap.size w w') (h:(Item.blk b ⟨true,cs,e,(0,0)⟩).holds w') (hn:w.heap.size≤b):Brings w H [.blk b ⟨true,cs,e,(0,0)⟩] w' :=
  ⟨hb,(by intro x hx; simp at hx; subst hx; exact h),(by intro x hx k hk; simp at hx; subst hx; simp [Item.fp] at hk; subst hk; exact .inl hn),(by intro x hx _ k hk; simp at hx; subst hx; simp [Item.fp] at hk; subst hk; exact hn),List.pairwise_singleton _ _⟩
end Go.Proofs.YtlmiolnccgjjjaaGreat
set_option linter.unusedVariables false
set_option linter.unusedSimpArgs false
set_option maxRecDepth 20000
namespace Go.Proofs.YtlmiolnccgjjjaaGreat
open Go Go.RowKit
open Grp
theorem xG {V:Cv} (hok:V.Ok):xv V.G = V.x:=val_c hok.bounds.2.2.2.2.1
theorem yG {V:Cv} (hok:V.Ok):yv V.G = V.y:=val_c hok.bounds.2.2.2.2.2.1
end Go.Proofs.YtlmiolnccgjjjaaGreat
set_option linter.unusedVariables false
set_option linter.unusedSimpArgs false
set_option maxRecDepth 20000
namespace Go.Proofs.YtlmiolnccgjjjaaGreat
open Go Go.RowKit
open Grp
theorem c_cOnB (V:Cv) (b f bd:Nat) (hok:V.Ok) (X Y:Nat) (i r:Bool) (w:World) (hb:(Item.blk b ⟨false,opL V f,92,(0,0)⟩).holds w) (hf:(Item.blk f ⟨false,fldL V.p bd,116,(0,0)⟩).holds w) (hbd:(Item.blk bd ⟨false,dvL V.p,167,(0,0)⟩).holds w) (hX:X<W9) (hY:Y<W9) (hr:onB V.p V.a V.b X Y i = r):Calls Tryz.prog 67 ([.pointer (some ⟨b,0,none⟩),ptV X Y i]:List Value).toArray w (fun e w'=>e = .returned (.bool r)∧Below w.heap.size w w'):=by
  have:=c_cOn V b f bd hok X Y i w hb hf hbd hX hY
  rwa [hr] at this
theorem c_cOnP (V:Cv) (b f bd:Nat) (hok:V.Ok) (P:Pt V.p) (w:World) (hb:(Item.blk b ⟨false,opL V f,92,(0,0)⟩).holds w) (hf:(Item.blk f ⟨false,fldL V.p bd,116,(0,0)⟩).holds w) (hbd:(Item.blk bd ⟨false,dvL V.p,167,(0,0)⟩).holds w) (hP:On V.A V.B P):Calls Tryz.prog 67 ([.pointer (some ⟨b,0,none⟩),ptP P]:List Value).toArray w (fun e w'=>e = .returned (.bool true)∧Below w.heap.size w w') :=
  c_cOnB V b f bd hok (xv P) (yv P) (iv P) true w hb hf hbd (pt_w9 hok P).1 (pt_w9 hok P).2 (onB_on hP)
theorem pjFL_length {p:Nat} (T:Fin p×Fin p×Fin p):(pjFL T).length = 27:=pjL_length _ _ _
theorem pjFL_one {p:Nat} (T:Fin p×Fin p×Fin p):AllOne (pjFL T):=pjL_one _ _ _
end Go.Proofs.YtlmiolnccgjjjaaGreat
set_option linter.unusedVariables false
set_option linter.unusedSimpArgs false
set_option maxRecDepth 20000
namespace Go.Proofs.YtlmiolnccgjjjaaGreat
open Go Go.RowKit
open Grp
theorem c_r_GP (Q:CQ) (V:Cv) (w:World) (hc:(crvI Q V).holds w) (hok:V.Ok):Calls Tryz.prog 13 ([.agg (crvL Q V).toArray]:List Value).toArray w (fun e w'=>Num2R w (crvI Q V).fp (xv V.G) (yv V.G) (fun u v=>rpV u v (iv V.G)) e w'):=by
  rw [xG hok,yG hok]
  exact c_r_G Q V w hc
end Go.Proofs.YtlmiolnccgjjjaaGreat
set_option linter.unusedVariables false
set_option linter.unusedSimpArgs false
set_option maxRecDepth 20000
namespace Go.Proofs.YtlmiolnccgjjjaaGreat
open Go Go.RowKit
open Grp
theorem pow_bitM (a e i m:Nat):(if e/2^i%2 = 1 then (a^(e/2^(i+1))%m*(a^(e/2^(i+1))%m)%m*(a%m))%m else (a^(e/2^(i+1))%m*(a^(e/2^(i+1))%m))%m) = a^(e/2^i)%m:=by
  rw [← pow_bit a e i m]
  split
  · exact Nat.mul_mod_mod _ _ _
  · rfl
theorem c_n_PowMod (q r p:NV) (A E m:Nat) (w:World) (hq:(numT q A).holds w) (hr:(numT r E).holds w) (hp:(numT p m).holds w) (hm0:m≠0) (hA:D.nw A≤1000) (hE:D.nw E≤1000) (hm:D.nw m≤1000):Calls Tryz.prog 71 ([numV q A,numV r E,numV p m]:List Value).toArray w (fun e w'=>NumR w ([]) (A^E%m) (fun v=>v) e w'):=by
  have hmp:0<m:=Nat.pos_of_ne_zero hm0
  have nwm:∀ z,D.nw (z%m)≤100000:=fun z=>Nat.le_trans (D.nw_mono (Nat.le_of_lt (Nat.mod_lt z hmp))) om
  have hbk:=blen_nw E
  have htop:(A^(E/2^blen E)%m) = 1%m:=by rw [Nat.div_eq_of_lt (lt_blen E),Nat.pow_zero]
  have hn1:=nw_one
  refine Ka (N:=36) (rs:=[.tmp 6]) [numT q A,numT r E,numT p m] Tryz.func71 rfl Tryz.ntmps71 Tryz.results71 (Nb rfl) ⟨hq,hr,hp,trivial⟩ rfl ?_
  show LCode _ _ _ ⟨_,_⟩ _
  refine KB (KA ?_)
  refine oA ?_
  refine KC ?_
  refine KB (KA ?_)
  refine oS (mk (KAI Tryz.underlying28 inf_57 rfl rfl rfl rfl dc rfl) (fun b10=>?_))
  refine LOps.sub (Sub.cells (b:=b10) (cs':=vec .u32 1 (D.limb 1)) (by repeat (first|exact Sh _|apply St_)) (vec_one_digit dc)) ?_
  refine LOps.toNum (b:=b10) (n:=1) (A:=1) (c:=1) mP dc (fun hb10=>?_)
  refine oM ?_
  refine oS (cZ rfl en_35 rfl (fun w hw hs=>(c_n_Mod ⟨false,b10,1⟩ p (1) m hm0 w (mC hw) (mC hw) om).mono fun e w' h=>Kw (Old.one (x:=numT ⟨false,b10,1⟩ (1)) mM rfl) hs h) ?_)
  rintro _ _ ⟨q12,rfl,rfl,hn12⟩
  refine oA ?_
  refine KC ?_
  refine KB (KA ?_)
  refine oM ?_
  refine oM ?_
  refine oS (cZ rfl en_35 rfl (fun w hw hs=>(c_n_Mod q p (A) m hm0 w (mC hw) (mC hw) om).mono fun e w' h=>Kw (Old.one (x:=numT q (A)) mM rfl) hs h) ?_)
  rintro _ _ ⟨q15,rfl,rfl,hn15⟩
  refine oA ?_
  refine KC ?_
  refine KB ?_
  refine KB (KA ?_)
  refine oM ?_
  refine oS (cF rfl en_31 rfl (fun w hw=>c_n_Bits r E w (mC hw) om) ?_)
  refine oP (KD (v:=.int .i64 (((blen E:Nat):Int)-1)) rfl rfl (br_subI om om)) ?_
  refine oA ?_
  refine KC ?_
  refine LCode.block ?_
  refine Km (α:=Nat×NV) (fun x=>x.1≤blen E∧NFr w.heap.size [] x.2 (D.nw (A^(E/2^x.1)%m))) (fun x=>⟨[(1,numV r E),(2,numV p m),(7,numV x.2 (A^(E/2^x.1)%m)),(8,numV q15 (A%m)),(9,.int .i64 (((x.1:Nat):Int)-1))],[numT x.2 (A^(E/2^x.1)%m),numT q15 (A%m),numT r E,numT p m]⟩) (fun x=>x.1) ((blen E,q12)) (⟨Nat.le_refl _,by dsimp only; rw [htop]; exact NFr.old hn12 (NFr.blk _ (hb10.elim id (fun h=>h.elim)))⟩) (by dsimp only; rw [htop]; exact Kf ⟨rfl,rfl,rfl,rfl,rfl,trivial⟩ mS) ?_
  rintro x ⟨hx1,hx2⟩
  refine KB ?_
  refine KB ?_
  rcases Nat.eq_zero_or_pos x.1 with h0|h0
  ·
    refine KA ?_
    refine oM ?_
    refine oP (KD (v:=.bool false) rfl rfl (by rw [h0]; rfl)) ?_
    refine KC ?_
    refine KI rfl ?_
    refine Kg ?_
    refine KB (KA ?_)
    refine oM ?_
    refine oA ?_
    refine KC (KK ?_)
    have e0:(A^(E/2^x.1)%m) = A^E%m:=by rw [h0,Nat.pow_zero,Nat.div_one]
    rw [e0] at hx2
    refine ⟨[_],.cons rfl .nil,fun a w' hr=>?_⟩
    rw [e0] at hr ⊢
    exact hr.numQ mM hx2
  ·
    obtain ⟨y,hy⟩:∃ y,x.1 = y+1:=⟨x.1-1,by omega⟩
    rw [hy] at hx2 ⊢
    refine KA ?_
    refine oM ?_
    refine oP (KD (v:=.bool true) rfl rfl (by simp [Kz] <;> omega)) ?_
    refine KC ?_
    refine KT rfl ?_
    refine KL ?_
    refine KB ?_
    refine LCode.block ?_
    refine KB (KA ?_)
    refine oM ?_
    refine oM ?_
    refine oM ?_
    refine oS (cZ rfl en_52 rfl (fun w hw hs=>(c_n_MulMod x.2 x.2 p (A^(E/2^(y+1))%m) (A^(E/2^(y+1))%m) m hm0 w (mC hw) (mC hw) (mC hw) (nwm _) (nwm _)).mono fun e w' h=>Kw (Old.nil _) hs h) ?_)
    rintro _ _ ⟨q26,rfl,rfl,hn26⟩
    refine oA ?_
    refine KC ?_
    refine KB (KA ?_)
    refine oM ?_
    refine oP (Ks (v:=.int .i64 ((y:Nat):Int)) (by show some _ = some _; congr 2; omega)) ?_
    refine oS (cF rfl en_33 rfl (fun w hw=>c_n_Bit r E (D.nw E) y w (mC hw) om) ?_)
    refine oP (KD rfl rfl (Ky (b:=1))) ?_
    refine KC ?_
    first|refine KP rfl (fun hbit=>?_) (fun hbit=>?_)|refine KR rfl (fun hbit=>?_) (fun hbit=>?_)
    ·
      have hbit:E/2^y%2 = 1:=hbit
      have hpb:=pow_bitM A E y m
      rw [if_pos hbit] at hpb
      refine KA ?_
      refine oM ?_
      refine oM ?_
      refine oM ?_
      refine oS (cZ rfl en_52 rfl (fun w hw hs=>(c_n_MulMod q26 q15 p ((A^(E/2^(y+1))%m)*(A^(E/2^(y+1))%m)%m) (A%m) m hm0 w (mC hw) (mC hw) (mC hw) (nwm _) (nwm _)).mono fun e w' h=>Kw (Old.nil _) hs h) ?_)
      rintro _ _ ⟨q34,rfl,rfl,hn34⟩
      refine oA ?_
      refine KC ?_
      refine KA ?_
      refine oP (Ks (v:=.int .i64 ((y:Nat):Int)) (by show some _ = some _; congr 2; omega)) ?_
      refine oP (KD (v:=.int .i64 (((y:Nat):Int)-1)) rfl rfl (br_subI om om)) ?_
      refine oA ?_
      refine KC ?_
      rw [hpb] at hn34 ⊢
      exact ⟨(y,q34),⟨by dsimp only; omega,hn34⟩,by dsimp only; omega,Kf ⟨rfl,rfl,rfl,rfl,rfl,trivial⟩ mS⟩
    ·
      have hbit:¬ E/2^y%2 = 1:=hbit
      have hpb:=pow_bitM A E y m
      rw [if_neg hbit] at hpb
      refine KL ?_
      refine KA ?_
      refine oP (Ks (v:=.int .i64 ((y:Nat):Int)) (by show some _ = some _; congr 2; omega)) ?_
      refine oP (KD (v:=.int .i64 (((y:Nat):Int)-1)) rfl rfl (br_subI om om)) ?_
      refine oA ?_
      refine KC ?_
      rw [hpb] at hn26 ⊢
      exact ⟨(y,q26),⟨by dsimp only; omega,hn26⟩,by dsimp only; omega,Kf ⟨rfl,rfl,rfl,rfl,rfl,trivial⟩ mS⟩
theorem apart_of {x y:Item}:∀ {H:List Item},H.Pairwise Apart→x∈H→y∈H→x.wr = false→Apart x y
  | z :: H,hd,hx,hy,hw=>by
    obtain ⟨h1,h2⟩:=List.pairwise_cons.1 hd
    rcases List.mem_cons.1 hx with rfl|hx' <;> rcases List.mem_cons.1 hy with rfl|hy'
    · intro h; rw [hw] at h; rcases h with h|h <;> cases h
    · exact h1 y hy'
    · exact (h1 x hx').symm
    · exact apart_of h2 hx' hy' hw
theorem LCode.dup {P:Program} {C:Ctx} {co:Code} {Q:Exit→St→Prop} {T:List (Nat×Value)} {H:List Item} {x:Item} (m:x∈H) (hx:x.wr = false) (h:LCode P C co ⟨T,x :: H⟩ Q):LCode P C co ⟨T,H⟩ Q:=by
  unfold LCode at *
  intro a w hr
  refine h a w ⟨hr.size,hr.defers,hr.tm,?_,?_,List.pairwise_cons.2 ⟨?_,hr.dist⟩,hr.fr⟩
  · intro y hy
    rcases List.mem_cons.1 hy with rfl|hy
    · exact hr.hp _ m
    · exact hr.hp y hy
  · intro y hy hw
    rcases List.mem_cons.1 hy with rfl|hy
    · rw [hx] at hw; cases hw
    · exact hr.own y hy hw
  · intro y hy
    exact apart_of hr.dist m hy hx
theorem numV_two (b:Nat):some (Value.slice (some ⟨b,0,none⟩) 1 1) = some (numV ⟨false,b,1⟩ 2):=by
  unfold numV slV pz
  rw [show D.nw 2 = 1 by decide]
  rfl
def sqR (p a:Nat):Nat:=(sqN p a).getD 0
def sqB (p a:Nat):Bool:=(sqN p a).isSome
theorem sq_none {p a:Nat} (h:sqN p a = none):sqR p a = 0∧sqB p a = false:=by unfold sqR sqB; rw [h]; exact ⟨rfl,rfl⟩
theorem sq_some {p a r:Nat} (h:sqN p a = some r):sqR p a = r∧sqB p a = true:=by unfold sqR sqB; rw [h]; exact ⟨rfl,rfl⟩
structure RtS (p:Nat) where
  rx:Fin p
  rc:Fin p
  rt:Fin p
  m:Nat
  qx:NV
  qc:NV
  qt:NV
theorem c_n_PowModF {V:Cv} (q r p:NV) (X:Fin V.p) (E:Nat) (w:World) (hok:V.Ok) (hq:(numT q X.val).holds w) (hr:(numT r E).holds w) (hp:(numT p V.p).holds w) (hE:E≤V.p):Calls Tryz.prog 71 ([numV q X.val,numV r E,numV p V.p]:List Value).toArray w (fun e w'=>NumR w [] (fpow X E).val (fun v=>v) e w'):=by
  have hb:=hok.bounds
  have h17:=nw_521 hb.2.1
  have h1:=D.nw_mono (Nat.le_of_lt X.isLt)
  have h2:=D.nw_mono hE
  rw [fpow_val]
  exact c_n_PowMod q r p X.val E V.p w hq hr hp om om om om
theorem c_n_PowModZ {V:Cv} (q r p:NV) (z:Nat) (E:Nat) (w:World) (hok:V.Ok) (hz:z<V.p) (hq:(numT q z).holds w) (hr:(numT r E).holds w) (hp:(numT p V.p).holds w) (hE:E≤V.p):Calls Tryz.prog 71 ([numV q z,numV r E,numV p V.p]:List Value).toArray w (fun e w'=>NumR w [] (fpow (c V.p z) E).val (fun v=>v) e w'):=by
  have e:(c V.p z).val = z:=Nat.mod_eq_of_lt hz
  have h:=c_n_PowModF q r p (c V.p z) E w hok (by rw [e]; exact hq) hr hp hE
  rwa [e] at h
theorem c_n_MulModG {V:Cv} (q r p:NV) (a b:Fin V.p) (hp0:V.p≠0) (w:World) (hq:(numT q a.val).holds w) (hr:(numT r b.val).holds w) (hp:(numT p V.p).holds w) (hA:D.nw a.val≤100000) (hB:D.nw b.val≤100000):Calls Tryz.prog 52 ([numV q a.val,numV r b.val,numV p V.p]:List Value).toArray w (fun e w'=>NumR w [] (a*b).val (fun v=>v) e w'):=by
  rw [Fin.val_mul]; exact c_n_MulMod q r p a.val b.val V.p hp0 w hq hr hp hA hB
theorem half_step {o s:Nat} (h:o%2 = 0):o/2^1*2^(s+1) = o*2^s:=by
  rw [Nat.pow_succ 2 s,Nat.mul_comm (2^s) 2,← Nat.mul_assoc,Nat.pow_one]
  congr 1; omega
theorem c_ne_zero {p:Nat} [NeZero p] {z:Nat} (h1:2≤z) (h2:z<p):c p z≠0:=fun h=>by
  have:=congrArg Fin.val h
  have e:(c p z).val = z:=Nat.mod_eq_of_lt h2
  rw [e] at this
  rw [this] at h1
  rw [Fin.val_zero] at h1
  omega
theorem c_n_Sqrt (V:Cv) (qa qp:NV) (a:Fin V.p) (w:World) (hok:V.Ok) (hq:(numT qa a.val).holds w) (hp:(numT qp V.p).holds w):Calls Tryz.prog 46 ([numV qa a.val,numV qp V.p]:List Value).toArray w (fun e w'=>NumR w ([]) (sqR V.p a.val) (fun v=>.tuple #[v,.bool (sqB V.p a.val)]) e w'):=by
  have hbb:=hok.bounds
  have hpW:V.p<W9:=KAB hbb.2.1
  have hz:=hok.zbounds
  have hnw:=nw_521 hbb.2.1
  have hp0:V.p≠0:=by omega
  have h17:∀ x:Fin V.p,D.nw x.val≤100000:=fun x=>Nat.le_trans (D.nw_mono (Nat.le_of_lt x.isLt)) om
  have hm6:∀ x:Fin V.p,D.nw x.val≤1000000:=fun x=>Nat.le_trans (h17 x) dc
  have hn1:=nw_one
  have hpm:=D.nw_mono (Nat.sub_le V.p 1)
  have hH:(V.p-1)/2^1≤V.p:=by omega
  refine Ka (N:=117) (rs:=[.tmp 4,.tmp 5]) [numT qa a.val,numT qp V.p] Tryz.func46 rfl Tryz.ntmps46 Tryz.results46 (Nb rfl) ⟨hq,hp,trivial⟩ rfl ?_
  show LCode _ _ _ ⟨_,_⟩ _
  refine KB (KA ?_)
  refine oA ?_
  refine oA ?_
  refine KC ?_
  refine KB ?_
  refine KB (KA ?_)
  refine oM ?_
  refine oP (KAK Tryz.underlying28 rfl) ?_
  refine oP (KD rfl rfl (Ky (b:=0))) ?_
  refine KC ?_
  first|refine KP rfl (fun h20=>?_) (fun h20=>?_)|refine KR rfl (fun h20=>?_) (fun h20=>?_)
  ·
    have h20:a.val = 0:=nw_eq_zero.1 (by have:=h20; omega)
    refine KB (KA ?_)
    refine oA ?_
    refine oA ?_
    refine KC (KK ?_)
    obtain ⟨e1,e2⟩:=sq_some (sqN_zero (p:=V.p) om)
    refine ⟨[_,_],.cons rfl (.cons rfl .nil),fun a' w' hr=>?_⟩
    rw [h20,e1,e2]
    exact hr.numNil (mk:=fun v=>.tuple #[v,.bool true])
  ·
    have h20:a≠0:=fun h=>h20 (by rw [h,Fin.val_zero]; exact nw_zero)
    refine KL ?_
    refine KB (KA ?_)
    refine oS (mk (KAI Tryz.underlying28 inf_57 rfl rfl rfl rfl dc rfl) (fun b21=>?_))
    refine oA ?_
    refine LOps.sub (Sub.cells (b:=b21) (cs':=vec .u32 1 (D.limb 1)) (by repeat (first|exact Sh _|apply St_)) (vec_one_digit dc)) ?_
    refine LOps.toNum (b:=b21) (n:=1) (A:=1) (c:=1) mP dc (fun hb21=>?_)
    refine KC ?_
    refine KB (KA ?_)
    refine oM ?_
    refine oM ?_
    refine oS (cZ rfl en_16 rfl (fun w hw hs=>(c_n_Sub qp ⟨false,b21,1⟩ V.p 1 w (mC hw) (mC hw) om om).mono fun e w' h=>Kw (Old.nil _) hs h) ?_)
    rintro _ _ ⟨q24,rfl,rfl,hn24⟩
    refine oS (cZ rfl en_51 rfl (fun w hw hs=>(c_n_Shr q24 (V.p-1) (D.nw (V.p-1)) 1 w (mC hw) om dc).mono fun e w' h=>Kw (Old.nil _) hs h) ?_)
    rintro _ _ ⟨q25,rfl,rfl,hn25⟩
    refine oA ?_
    refine KC ?_
    refine KB ?_
    refine KB (KA ?_)
    refine oM ?_
    refine oM ?_
    refine oM ?_
    refine oS (cZ rfl en_71 rfl (fun w hw hs=>(c_n_PowModF qa q25 qp a ((V.p-1)/2^1) w hok (mC hw) (mC hw) (mC hw) hH).mono fun e w' h=>Kw (Old.nil _) hs h) ?_)
    rintro _ _ ⟨q29,rfl,rfl,hn29⟩
    refine oM ?_
    refine oS (cF rfl en_45 rfl (fun w hw=>c_n_Cmp q29 ⟨false,b21,1⟩ (fpow a ((V.p-1)/2^1)).val 1 w (mC hw) (mC hw) (hm6 _)) ?_)
    refine oP (KD rfl rfl cmp_neq) ?_
    refine KC ?_
    first|refine KP rfl (fun h32=>?_) (fun h32=>?_)|refine KR rfl (fun h32=>?_) (fun h32=>?_)
    ·
      have h32:fpow a ((V.p-1)/2)≠1:=fun h=>h32 ((ne_iff1 hok).2 h)
      refine KB (KA ?_)
      refine oA ?_
      refine oA ?_
      refine KC (KK ?_)
      obtain ⟨e1,e2⟩:=sq_none (sqN_no hok h20 h32)
      refine ⟨[_,_],.cons rfl (.cons rfl .nil),fun a' w' hr=>?_⟩
      rw [e1,e2]
      exact hr.numNil (mk:=fun v=>.tuple #[v,.bool false])
    ·
      have h32:fpow a ((V.p-1)/2) = 1:=(ne_iff1 hok).1 (Decidable.not_not.1 h32)
      refine KL ?_
      refine KB (KA ?_)
      refine oM ?_
      refine oM ?_
      refine oS (cZ rfl en_16 rfl (fun w hw hs=>(c_n_Sub qp ⟨false,b21,1⟩ V.p 1 w (mC hw) (mC hw) om om).mono fun e w' h=>Kw (Old.nil _) hs h) ?_)
      rintro _ _ ⟨q35,rfl,rfl,hn35⟩
      refine oA ?_
      refine KC ?_
      refine KB (KA ?_)
      refine oP (KQ (v:=.int .i64 ((0:Nat):Int)) rfl) ?_
      refine KC ?_
      refine KB ?_
      refine LCode.block ?_
      refine Km (α:=Nat×Nat×NV) (fun x=>x.1*2^x.2.1 = V.p-1∧0<x.1) (fun x=>⟨[(0,numV qa a.val),(1,numV qp V.p),(6,numV ⟨false,b21,1⟩ 1),(7,numV q25 ((V.p-1)/2^1)),(8,numV x.2.2 x.1),(9,.int .i64 ((x.2.1:Nat):Int))],[numT x.2.2 x.1,numT q25 ((V.p-1)/2^1),numT ⟨false,b21,1⟩ 1,numT qa a.val,numT qp V.p]⟩) (fun x=>x.1) ((V.p-1,0,q35)) (⟨by dsimp only; omega,by dsimp only; omega⟩) (Kf ⟨rfl,rfl,rfl,rfl,rfl,rfl,trivial⟩ mS) ?_
      rintro o ⟨ho1,ho2⟩
      refine KB ?_
      refine KB ?_
      have ho3:o.1≤V.p-1:=by
        have h2:o.1*1≤o.1*2^o.2.1:=Nat.mul_le_mul_left _ Nat.one_le_two_pow
        omega
      have ho4:o.2.1<576:=two_lt ((Nat.mul_comm _ _).trans ho1) ho2 om
      have ho5:=D.nw_mono ho3
      refine KA ?_
      refine oM ?_
      refine oS (cF rfl en_33 rfl (fun w hw=>c_n_Bit o.2.2 o.1 (D.nw o.1) 0 w (mC hw) om) ?_)
      refine oP (KD rfl rfl (Ky (b:=0))) ?_
      refine KC ?_
      first|refine KP rfl (fun h38=>?_) (fun h38=>?_)|refine KR rfl (fun h38=>?_) (fun h38=>?_)
      ·
        have h38:o.1/2^0%2 = 0:=h38
        rw [Nat.pow_zero,Nat.div_one] at h38
        refine KL ?_
        refine LCode.block ?_
        refine KB (KA ?_)
        refine oM ?_
        refine oS (cZ rfl en_51 rfl (fun w hw hs=>(c_n_Shr o.2.2 o.1 (D.nw o.1) 1 w (mC hw) om dc).mono fun e w' h=>Kw (Old.nil _) hs h) ?_)
        rintro _ _ ⟨q40,rfl,rfl,hn40⟩
        refine oA ?_
        refine KC ?_
        refine KA ?_
        refine oM ?_
        refine oP (KD rfl rfl (Kj (b:=1) om)) ?_
        refine oA ?_
        refine KC ?_
        exact ⟨(o.1/2^1,o.2.1+1,q40),⟨(half_step h38).trans ho1,by dsimp only; omega⟩,by dsimp only; omega,Kf ⟨rfl,rfl,rfl,rfl,rfl,rfl,trivial⟩ mS⟩
      ·
        have h38:¬ o.1/2^0%2 = 0:=h38
        rw [Nat.pow_zero,Nat.div_one] at h38
        refine Kg ?_
        refine KB (KA ?_)
        refine oS (mk (KAI Tryz.underlying28 inf_57 rfl rfl rfl rfl dc rfl) (fun b43=>?_))
        refine oA ?_
        refine LOps.sub (Sub.cells (b:=b43) (cs':=vec .u32 1 (D.limb 2)) (by repeat (first|exact Sh _|apply St_)) (vec_one_digit dc)) ?_
        refine LOps.toNum (b:=b43) (n:=1) (A:=2) (c:=1) mP dc (fun hb43=>?_)
        refine KC ?_
        refine KB ?_
        refine LCode.block ?_
        refine Km (α:=Nat×NV) (fun x=>2≤x.1∧x.1≤V.z) (fun x=>⟨[(0,numV qa a.val),(1,numV qp V.p),(6,numV ⟨false,b21,1⟩ 1),(7,numV q25 ((V.p-1)/2^1)),(8,numV o.2.2 o.1),(9,.int .i64 ((o.2.1:Nat):Int)),(10,numV x.2 x.1)],[numT x.2 x.1,numT o.2.2 o.1,numT q25 ((V.p-1)/2^1),numT ⟨false,b21,1⟩ 1,numT qa a.val,numT qp V.p]⟩) (fun x=>V.z-x.1) ((2,⟨false,b43,1⟩)) (⟨Nat.le_refl _,hz.1⟩) (Kf ⟨rfl,rfl,rfl,rfl,rfl,rfl,numV_two b43,trivial⟩ mS) ?_
        rintro z ⟨hz1,hz2⟩
        refine KB ?_
        refine KB ?_
        have hz4:z.1<V.p:=by omega
        have hz5:=D.nw_mono (Nat.le_of_lt hz4)
        refine KA ?_
        refine oM ?_
        refine oM ?_
        refine oM ?_
        refine oS (cZ rfl en_71 rfl (fun w hw hs=>(c_n_PowModZ z.2 q25 qp z.1 ((V.p-1)/2^1) w hok hz4 (mC hw) (mC hw) (mC hw) hH).mono fun e w' h=>Kw (Old.nil _) hs h) ?_)
        rintro _ _ ⟨q47,rfl,rfl,hn47⟩
        refine oM ?_
        refine oS (cF rfl en_45 rfl (fun w hw=>c_n_Cmp q47 ⟨false,b21,1⟩ (fpow (c V.p z.1) ((V.p-1)/2^1)).val 1 w (mC hw) (mC hw) (hm6 _)) ?_)
        refine oP (KD rfl rfl cmp_eql) ?_
        refine KC ?_
        first|refine KP rfl (fun h50=>?_) (fun h50=>?_)|refine KR rfl (fun h50=>?_) (fun h50=>?_)
        ·
          refine KL ?_
          refine LCode.block ?_
          have hzz:z.1≠V.z:=fun h=>by
            have h1:=hok.none
            rw [← h] at h1
            have h2:=congrArg Fin.val h1
            rw [neg_one_val om] at h2
            have h3:(fpow (c V.p z.1) ((V.p-1)/2)).val = 1:=h50
            omega
          refine KA ?_
          refine oM ?_
          refine oM ?_
          refine oS (cZ rfl en_36 rfl (fun w hw hs=>(c_n_Add z.2 ⟨false,b21,1⟩ z.1 1 w (mC hw) (mC hw) om om).mono fun e w' h=>Kw (Old.nil _) hs h) ?_)
          rintro _ _ ⟨q53,rfl,rfl,hn53⟩
          refine oA ?_
          refine KC ?_
          exact ⟨(z.1+1,q53),⟨by dsimp only; omega,by dsimp only; omega⟩,by dsimp only; omega,Kf ⟨rfl,rfl,rfl,rfl,rfl,rfl,rfl,trivial⟩ mS⟩
        ·
          refine Kg ?_
          refine KB ?_
          have hz3:fpow (c V.p z.1) ((V.p-1)/2) = -1:=(half_power hok.fld om (p_odd hok) (c_ne_zero hz1 hz4)).resolve_left fun h=>h50 ((ne_iff1 hok).2 h)
          obtain ⟨hs1,hs2⟩:=half_of ho1 (p_odd hok) om om
          have hup:o.1+1≤V.p:=by omega
          have hup2:=D.nw_mono hup
          refine KA ?_
          refine oM ?_
          refine oM ?_
          refine oM ?_
          refine oS (cZ rfl en_71 rfl (fun w hw hs=>(c_n_PowModZ z.2 o.2.2 qp z.1 o.1 w hok hz4 (mC hw) (mC hw) (mC hw) om).mono fun e w' h=>Kw (Old.nil _) hs h) ?_)
          rintro _ _ ⟨q57,rfl,rfl,hn57⟩
          refine oA ?_
          refine KC ?_
          refine KB (KA ?_)
          refine oM ?_
          refine oM ?_
          refine oM ?_
          refine oS (cZ rfl en_36 rfl (fun w hw hs=>(c_n_Add o.2.2 ⟨false,b21,1⟩ o.1 1 w (mC hw) (mC hw) om om).mono fun e w' h=>Kw (Old.nil _) hs h) ?_)
          rintro _ _ ⟨q61,rfl,rfl,hn61⟩
          refine oS (cZ rfl en_51 rfl (fun w hw hs=>(c_n_Shr q61 (o.1+1) (D.nw (o.1+1)) 1 w (mC hw) om dc).mono fun e w' h=>Kw (Old.nil _) hs h) ?_)
          rintro _ _ ⟨q62,rfl,rfl,hn62⟩
          refine oM ?_
          refine oS (cZ rfl en_71 rfl (fun w hw hs=>(c_n_PowModF qa q62 qp a ((o.1+1)/2^1) w hok (mC hw) (mC hw) (mC hw) om).mono fun e w' h=>Kw (Old.nil _) hs h) ?_)
          rintro _ _ ⟨q64,rfl,rfl,hn64⟩
          refine oA ?_
          refine KC ?_
          refine KB (KA ?_)
          refine oM ?_
          refine oM ?_
          refine oM ?_
          refine oS (cZ rfl en_71 rfl (fun w hw hs=>(c_n_PowModF qa o.2.2 qp a o.1 w hok (mC hw) (mC hw) (mC hw) om).mono fun e w' h=>Kw (Old.nil _) hs h) ?_)
          rintro _ _ ⟨q68,rfl,rfl,hn68⟩
          refine oA ?_
          refine KC ?_
          refine KB ?_
          refine LCode.block ?_
          refine Km (α:=RtS V.p) (fun x=>TS a x.rx x.rc x.rt x.m∧x.m<576∧NFr w.heap.size [] x.qx (D.nw x.rx.val)) (fun x=>⟨[(1,numV qp V.p),(6,numV ⟨false,b21,1⟩ 1),(9,.int .i64 ((x.m:Nat):Int)),(11,numV x.qc x.rc.val),(12,numV x.qx x.rx.val),(13,numV x.qt x.rt.val)],[numT x.qc x.rc.val,numT x.qx x.rx.val,numT x.qt x.rt.val,numT ⟨false,b21,1⟩ 1,numT qp V.p]⟩) (fun x=>x.m) (⟨fpow a ((o.1+1)/2^1),fpow (c V.p z.1) o.1,fpow a o.1,o.2.1,q64,q57,q68⟩) (⟨TS.init hs1 om (by rw [hs2]; exact hz3) (by rw [hs2]; exact h32),ho4,hn64⟩) (Kf ⟨rfl,rfl,rfl,rfl,rfl,rfl,trivial⟩ mS) ?_
          rintro y ⟨hy1,hy2,hy3⟩
          refine KB ?_
          refine KB (KA ?_)
          refine oM ?_
          refine oM ?_
          refine oS (cF rfl en_45 rfl (fun w hw=>c_n_Cmp y.qt ⟨false,b21,1⟩ y.rt.val 1 w (mC hw) (mC hw) (hm6 _)) ?_)
          refine oP (KD rfl rfl cmp_neq) ?_
          refine KC ?_
          first|refine KP rfl (fun h80=>?_) (fun h80=>?_)|refine KR rfl (fun h80=>?_) (fun h80=>?_)
          ·
            have h80:y.rt≠1:=fun h=>h80 ((ne_iff1 hok).2 h)
            refine KL ?_
            refine LCode.block ?_
            refine KB (KA ?_)
            refine oP (KQ (v:=.int .i64 ((0:Nat):Int)) rfl) ?_
            refine KC ?_
            refine KB ?_
            refine KB ?_
            refine LCode.dup (x:=numT y.qt y.rt.val) mM rfl ?_
            refine KA ?_
            refine oM ?_
            refine oA ?_
            refine KC ?_
            refine LCode.block ?_
            refine Km (α:=Nat×NV) (fun x=>∀ j,j<x.1→fpow y.rt (2^j)≠1) (fun x=>⟨[(1,numV qp V.p),(6,numV ⟨false,b21,1⟩ 1),(9,.int .i64 ((y.m:Nat):Int)),(11,numV y.qc y.rc.val),(12,numV y.qx y.rx.val),(13,numV y.qt y.rt.val),(14,.int .i64 ((x.1:Nat):Int)),(15,numV x.2 (fpow y.rt (2^x.1)).val)],[numT x.2 (fpow y.rt (2^x.1)).val,numT y.qc y.rc.val,numT y.qx y.rx.val,numT y.qt y.rt.val,numT ⟨false,b21,1⟩ 1,numT qp V.p]⟩) (fun x=>y.m-x.1) ((0,y.qt)) (fun j hj=>absurd hj (Nat.not_lt_zero _)) (by dsimp only; rw [Nat.pow_zero,fpow_one]; exact Kf ⟨rfl,rfl,rfl,rfl,rfl,rfl,rfl,rfl,trivial⟩ mS) ?_
            rintro k hk
            refine KB ?_
            refine KB ?_
            have hkm0:=TS.less hok.fld.dom hy1 hk
            refine KA ?_
            refine oM ?_
            refine oM ?_
            refine oS (cF rfl en_45 rfl (fun w hw=>c_n_Cmp k.2 ⟨false,b21,1⟩ (fpow y.rt (2^k.1)).val 1 w (mC hw) (mC hw) (hm6 _)) ?_)
            refine oP (KD rfl rfl cmp_neq) ?_
            refine KC ?_
            first|refine KP rfl (fun h84=>?_) (fun h84=>?_)|refine KR rfl (fun h84=>?_) (fun h84=>?_)
            ·
              have h84:fpow y.rt (2^k.1)≠1:=fun h=>h84 ((ne_iff1 hok).2 h)
              refine KL ?_
              refine KB ?_
              refine LCode.block ?_
              refine KA ?_
              refine oM ?_
              refine oP (KD rfl rfl (Kj (b:=1) om)) ?_
              refine oA ?_
              refine KC ?_
              refine KA ?_
              refine oM ?_
              refine oM ?_
              refine oM ?_
              refine oS (cZ rfl en_52 rfl (fun w hw hs=>(c_n_MulModG k.2 k.2 qp (fpow y.rt (2^k.1)) (fpow y.rt (2^k.1)) hp0 w (mC hw) (mC hw) (mC hw) (h17 _) (h17 _)).mono fun e w' h=>Kw (Old.nil _) hs h) ?_)
              rintro _ _ ⟨q81,rfl,rfl,hn81⟩
              refine oA ?_
              refine KC ?_
              have hk':∀ j,j<k.1+1→fpow y.rt (2^j)≠1:=fun j hj=>by
                rcases Nat.lt_or_eq_of_le (Nat.le_of_lt_succ hj) with h|rfl
                · exact hk j h
                · exact h84
              have hkm:=TS.less hok.fld.dom hy1 hk'
              rw [fpow_succ2] at hn81 ⊢
              exact ⟨(k.1+1,q81),hk',by dsimp only; omega,Kf ⟨rfl,rfl,rfl,rfl,rfl,rfl,rfl,rfl,trivial⟩ mS⟩
            ·
              have h84:fpow y.rt (2^k.1) = 1:=(ne_iff1 hok).1 (Decidable.not_not.1 h84)
              refine Kg ?_
              refine KB ?_
              obtain ⟨hn1,hn2,-⟩:=TS.next hok.fld.dom hy1 h80 hk h84
              refine LCode.dup (x:=numT y.qc y.rc.val) mM rfl ?_
              refine KA ?_
              refine oM ?_
              refine oA ?_
              refine KC ?_
              refine KB ?_
              refine KB (KA ?_)
              refine oP (KQ (v:=.int .i64 ((0:Nat):Int)) rfl) ?_
              refine KC ?_
              refine LCode.block ?_
              refine Km (α:=Nat×NV) (fun x=>x.1≤y.m-k.1-1) (fun x=>⟨[(1,numV qp V.p),(6,numV ⟨false,b21,1⟩ 1),(9,.int .i64 ((y.m:Nat):Int)),(11,numV y.qc y.rc.val),(12,numV y.qx y.rx.val),(13,numV y.qt y.rt.val),(14,.int .i64 ((k.1:Nat):Int)),(16,numV x.2 (fpow y.rc (2^x.1)).val),(17,.int .i64 ((x.1:Nat):Int))],[numT x.2 (fpow y.rc (2^x.1)).val,numT y.qc y.rc.val,numT y.qx y.rx.val,numT y.qt y.rt.val,numT ⟨false,b21,1⟩ 1,numT qp V.p]⟩) (fun x=>y.m-k.1-1-x.1) ((0,y.qc)) (Nat.zero_le _) (by dsimp only; rw [Nat.pow_zero,fpow_one]; exact Kf ⟨rfl,rfl,rfl,rfl,rfl,rfl,rfl,rfl,rfl,trivial⟩ mS) ?_
              rintro i hi
              refine KB ?_
              refine KB (KA ?_)
              refine oM ?_
              refine oM ?_
              refine oM ?_
              refine oP (KD (v:=.int .i64 (((y.m-k.1):Nat):Int)) rfl rfl ((br_subI om om).trans (by congr 2; omega))) ?_
              refine oP (KD (v:=.int .i64 (((y.m-k.1-1):Nat):Int)) rfl rfl ((br_subI om om).trans (by congr 2; omega))) ?_
              refine oP (KD rfl rfl (KAY)) ?_
              refine KC ?_
              first|refine KP rfl (fun h90=>?_) (fun h90=>?_)|refine KR rfl (fun h90=>?_) (fun h90=>?_)
              ·
                refine KL ?_
                refine KB ?_
                refine LCode.block ?_
                refine KA ?_
                refine oM ?_
                refine oM ?_
                refine oM ?_
                refine oS (cZ rfl en_52 rfl (fun w hw hs=>(c_n_MulModG i.2 i.2 qp (fpow y.rc (2^i.1)) (fpow y.rc (2^i.1)) hp0 w (mC hw) (mC hw) (mC hw) (h17 _) (h17 _)).mono fun e w' h=>Kw (Old.nil _) hs h) ?_)
                rintro _ _ ⟨q96,rfl,rfl,hn96⟩
                refine oA ?_
                refine KC ?_
                refine KA ?_
                refine oM ?_
                refine oP (KD rfl rfl (Kj (b:=1) om)) ?_
                refine oA ?_
                refine KC ?_
                rw [fpow_succ2] at hn96 ⊢
                exact ⟨(i.1+1,q96),by dsimp only; omega,by dsimp only; omega,Kf ⟨rfl,rfl,rfl,rfl,rfl,rfl,rfl,rfl,rfl,trivial⟩ mS⟩
              ·
                refine Kg ?_
                refine KB ?_
                obtain ⟨ik,iq⟩:=i
                obtain rfl:ik = y.m-k.1-1:=by dsimp only at hi h90; omega
                dsimp only
                refine KA ?_
                refine oM ?_
                refine oA ?_
                refine KC ?_
                refine KB (KA ?_)
                refine oM ?_
                refine oM ?_
                refine oM ?_
                refine oS (cZ rfl en_52 rfl (fun w hw hs=>(c_n_MulModG iq iq qp (fpow y.rc (2^(y.m-k.1-1))) (fpow y.rc (2^(y.m-k.1-1))) hp0 w (mC hw) (mC hw) (mC hw) (h17 _) (h17 _)).mono fun e w' h=>Kw (Old.nil _) hs h) ?_)
                rintro _ _ ⟨q101,rfl,rfl,hn101⟩
                refine oA ?_
                refine KC ?_
                refine KB (KA ?_)
                refine oM ?_
                refine oM ?_
                refine oM ?_
                refine oS (cZ rfl en_52 rfl (fun w hw hs=>(c_n_MulModG y.qt q101 qp y.rt ((fpow y.rc (2^(y.m-k.1-1)))*(fpow y.rc (2^(y.m-k.1-1)))) hp0 w (mC hw) (mC hw) (mC hw) (h17 _) (h17 _)).mono fun e w' h=>Kw (Old.nil _) hs h) ?_)
                rintro _ _ ⟨q105,rfl,rfl,hn105⟩
                refine oA ?_
                refine KC ?_
                refine KA ?_
                refine oM ?_
                refine oM ?_
                refine oM ?_
                refine oS (cZ rfl en_52 rfl (fun w hw hs=>(c_n_MulModG y.qx iq qp y.rx (fpow y.rc (2^(y.m-k.1-1))) hp0 w (mC hw) (mC hw) (mC hw) (h17 _) (h17 _)).mono fun e w' h=>Kw (Old.nil _) hs h) ?_)
                rintro _ _ ⟨q109,rfl,rfl,hn109⟩
                refine oA ?_
                refine KC ?_
                obtain ⟨hn1,hn2,hn3⟩:=TS.next hok.fld.dom hy1 h80 hk h84
                exact ⟨⟨y.rx*(fpow y.rc (2^(y.m-k.1-1))),(fpow y.rc (2^(y.m-k.1-1)))*(fpow y.rc (2^(y.m-k.1-1))),y.rt*((fpow y.rc (2^(y.m-k.1-1)))*(fpow y.rc (2^(y.m-k.1-1)))),k.1,q109,q101,q105⟩,⟨hn3,by dsimp only; omega,hn109⟩,by dsimp only; omega,Kf ⟨rfl,rfl,rfl,rfl,rfl,rfl,trivial⟩ mS⟩
          ·
            have h80:y.rt = 1:=(ne_iff1 hok).1 (Decidable.not_not.1 h80)
            refine Kg ?_
            refine KB ?_
            refine KB (KA ?_)
            refine oM ?_
            refine oS (cF rfl en_33 rfl (fun w hw=>c_n_Bit y.qx y.rx.val (D.nw y.rx.val) 0 w (mC hw) om) ?_)
            refine oP (KD rfl rfl (Ky (b:=1))) ?_
            refine KC ?_
            first|refine KP rfl (fun h112=>?_) (fun h112=>?_)|refine KR rfl (fun h112=>?_) (fun h112=>?_)
            ·
              have h112:y.rx.val/2^0%2 = 1:=h112
              rw [Nat.pow_zero,Nat.div_one] at h112
              refine KA ?_
              refine oM ?_
              refine oM ?_
              refine oS (cZ rfl en_16 rfl (fun w hw hs=>(c_n_Sub qp y.qx V.p y.rx.val w (mC hw) (mC hw) (Nat.le_of_lt y.rx.isLt) om).mono fun e w' h=>Kw (Old.nil _) hs h) ?_)
              rintro _ _ ⟨q115,rfl,rfl,hn115⟩
              refine oA ?_
              refine KC ?_
              refine KB (KA ?_)
              refine oM ?_
              refine oA ?_
              refine oA ?_
              refine KC (KK ?_)
              have hd:=hy1.done h80
              have he:=sqN_eq hok.fld (p_odd hok) y.rx
              rw [hd,evenR,if_pos h112,fin_neg_val y.rx om] at he
              obtain ⟨e1,e2⟩:=sq_some he
              refine ⟨[_,_],.cons rfl (.cons rfl .nil),fun a' w' hr=>?_⟩
              rw [e1,e2]
              exact hr.numQ (mk:=fun v=>.tuple #[v,.bool true]) mM hn115
            ·
              have h112:¬ y.rx.val/2^0%2 = 1:=h112
              rw [Nat.pow_zero,Nat.div_one] at h112
              refine KL ?_
              refine KB (KA ?_)
              refine oM ?_
              refine oA ?_
              refine oA ?_
              refine KC (KK ?_)
              have hd:=hy1.done h80
              have he:=sqN_eq hok.fld (p_odd hok) y.rx
              rw [hd,evenR,if_neg h112] at he
              obtain ⟨e1,e2⟩:=sq_some he
              refine ⟨[_,_],.cons rfl (.cons rfl .nil),fun a' w' hr=>?_⟩
              rw [e1,e2]
              exact hr.numQ (mk:=fun v=>.tuple #[v,.bool true]) mM hy3
end Go.Proofs.YtlmiolnccgjjjaaGreat
set_option linter.unusedVariables false
set_option linter.unusedSimpArgs false
set_option maxRecDepth 20000
namespace Go.Proofs.YtlmiolnccgjjjaaGreat
open Go Go.RowKit
def pfx (x:Nat):ByteArray:=strOf ((List.range 1).map fun i=>UInt8.ofNat ((fun _=>x) i))
def coB (V:Cv) (X:Nat):ByteArray:=strOf (beBytes (nby V.p) X)
def putS (V:Cv) (X Y:Nat) (sh:Bool):ByteArray:=if sh then pfx (2+Y%2)++coB V X else pfx 4++coB V X++coB V Y
def putV (V:Cv) (X Y:Nat) (i sh:Bool):Value:=if (onB V.p V.a V.b X Y i && !i) = true then .tuple #[.string (putS V X Y sh),.int .i64 ((0:Nat):Int)] else .tuple #[.string ⟨#[]⟩,.int .i64 ((2101:Nat):Int)]
theorem putV_off {V:Cv} {X Y:Nat} {i:Bool} (sh:Bool) (h:onB V.p V.a V.b X Y i = false):putV V X Y i sh = .tuple #[.string ⟨#[]⟩,.int .i64 ((2101:Nat):Int)]:=by unfold putV; rw [h]; rfl
theorem putV_inf (V:Cv) (X Y:Nat) (sh:Bool):putV V X Y true sh = .tuple #[.string ⟨#[]⟩,.int .i64 ((2101:Nat):Int)]:=by unfold putV; rw [Bool.not_true,Bool.and_false]; rfl
theorem putV_on {V:Cv} {X Y:Nat} (sh:Bool) (h:onB V.p V.a V.b X Y false = true):putV V X Y false sh = .tuple #[.string (putS V X Y sh),.int .i64 ((0:Nat):Int)]:=by unfold putV; rw [h]; rfl
theorem pfx_mod (y:Nat):pfx ((2+y/2^0%2)%256) = pfx (2+y%2):=by
  rw [Nat.pow_zero,Nat.div_one,Nat.mod_eq_of_lt om]
theorem on_lt {V:Cv} {X Y:Nat} (h:onB V.p V.a V.b X Y false = true):X<V.p∧Y<V.p:=by
  unfold onB at h
  rw [if_neg dc] at h
  simp only [Bool.and_eq_true,decide_eq_true_eq] at h
  exact ⟨h.1,h.2.1⟩
theorem c_r_OnV (v:Bool) (Q:CQ) (V:Cv) (q r:NV) (X Y:Nat) (i:Bool) (w:World) (hc:(crvI Q V).holds w) (hok:V.Ok) (hq:(numT q X).holds w) (hr:(numT r Y).holds w) (hX:D.nw X≤1000) (hY:D.nw Y≤1000) (h:onB V.p V.a V.b X Y i = v):Calls Tryz.prog 38 ([.agg (crvL Q V).toArray,rpV (numV q X) (numV r Y) i]:List Value).toArray w (fun e w'=>e = .returned (.bool v)∧Below w.heap.size w w'):=h ▸ c_r_On Q V q r X Y i w hc hok hq hr hX hY
theorem c_cOnV (v:Bool) (V:Cv) (b f bd:Nat) (hok:V.Ok) (X Y:Nat) (i:Bool) (w:World) (hb:(Item.blk b ⟨false,opL V f,92,(0,0)⟩).holds w) (hf:(Item.blk f ⟨false,fldL V.p bd,116,(0,0)⟩).holds w) (hbd:(Item.blk bd ⟨false,dvL V.p,167,(0,0)⟩).holds w) (hX:X<W9) (hY:Y<W9) (h:onB V.p V.a V.b X Y i = v):Calls Tryz.prog 67 ([.pointer (some ⟨b,0,none⟩),ptV X Y i]:List Value).toArray w (fun e w'=>e = .returned (.bool v)∧Below w.heap.size w w'):=h ▸ c_cOn V b f bd hok X Y i w hb hf hbd hX hY
theorem c_r_Put (Q:CQ) (V:Cv) (q r:NV) (X Y:Nat) (i sh:Bool) (w:World) (hc:(crvI Q V).holds w) (hok:V.Ok) (hq:(numT q X).holds w) (hr:(numT r Y).holds w) (hX:D.nw X≤1000) (hY:D.nw Y≤1000):Calls Tryz.prog 17 ([.agg (crvL Q V).toArray,rpV (numV q X) (numV r Y) i,.bool sh]:List Value).toArray w (fun e w'=>e = .returned (putV V X Y i sh)∧Below w.heap.size w w'):=by
  have hbb:=hok.bounds
  have hsz:=hok.sz
  have hnb:nby V.p≤72:=by have:=KAQ (KAB hbb.2.1); (unfold nby; omega)
  refine Ka (N:=50) (rs:=[.tmp 6,.tmp 7]) [crvI Q V,numT q X,numT r Y] Tryz.func17 rfl Tryz.ntmps17 Tryz.results17 (Nb rfl) ⟨hc,hq,hr,trivial⟩ rfl ?_
  show LCode _ _ _ ⟨_,_⟩ _
  refine KB (KA ?_)
  refine oS (mB (fun b3=>?_))
  refine oS (mB (fun b4=>?_))
  refine oA ?_
  refine oP (KQ (v:=.int .i64 ((0:Nat):Int)) rfl) ?_
  refine KC ?_
  refine KB ?_
  refine KB ?_
  rcases (show onB V.p V.a V.b X Y i = false∨(onB V.p V.a V.b X Y i = true∧i = true)∨(onB V.p V.a V.b X Y i = true∧i = false) by cases onB V.p V.a V.b X Y i <;> cases i <;> simp) with h1|⟨h1,rfl⟩|⟨h1,rfl⟩
  ·
    refine KA ?_
    refine oD (dL rfl (hv:=by exact KE Tryz.underlying30 rfl sz_30)) ?_
    refine oD (dL rfl (hv:=by exact KE Tryz.underlying35 rfl sz_35)) ?_
    refine oS (cF rfl en_38 rfl (fun w hw=>c_r_OnV false Q V q r X Y i w (mC hw) hok (mC hw) (mC hw) hX hY h1) ?_)
    refine oP (KG (KAN rfl) (show _ = Value.bool true from rfl)) ?_
    refine oM ?_
    refine oK ?_
    refine oK ?_
    refine oP (KY rfl rfl) ?_
    refine KC ?_
    refine KT rfl ?_
    refine KB (KA ?_)
    refine oA ?_
    refine oP (KQ (v:=.int .i64 ((2101:Nat):Int)) rfl) ?_
    refine KC (KK ?_)
    refine ⟨[_,_],.cons rfl (.cons rfl .nil),fun a w' hr=>⟨?_,hr.fr.below⟩⟩
    rw [putV_off sh h1]
    rfl
  ·
    refine KA ?_
    refine oD (dL rfl (hv:=by exact KE Tryz.underlying30 rfl sz_30)) ?_
    refine oD (dL rfl (hv:=by exact KE Tryz.underlying35 rfl sz_35)) ?_
    refine oS (cF rfl en_38 rfl (fun w hw=>c_r_OnV true Q V q r X Y true w (mC hw) hok (mC hw) (mC hw) hX hY h1) ?_)
    refine oP (KG (KAN rfl) (show _ = Value.bool false from rfl)) ?_
    refine oM ?_
    refine oGP (KF (o':=2) Tryz.underlying35 rfl rfl rfl sz_4 dc) ?_
    refine KAS rfl rfl (dL rfl (hv:=KJ Tryz.underlying4 rfl (by first|rfl|exact KX _ _ _ om|exact KU _ om|exact KS _ om|exact dv_m _ _ _ om))) (Nb rfl) ?_
    refine oP (KV rfl rfl) ?_
    refine KC ?_
    refine KT rfl ?_
    refine KB (KA ?_)
    refine oA ?_
    refine oP (KQ (v:=.int .i64 ((2101:Nat):Int)) rfl) ?_
    refine KC (KK ?_)
    refine ⟨[_,_],.cons rfl (.cons rfl .nil),fun a w' hr=>⟨?_,hr.fr.below⟩⟩
    rw [putV_inf]
    rfl
  ·
    refine KA ?_
    refine oD (dL rfl (hv:=by exact KE Tryz.underlying30 rfl sz_30)) ?_
    refine oD (dL rfl (hv:=by exact KE Tryz.underlying35 rfl sz_35)) ?_
    refine oS (cF rfl en_38 rfl (fun w hw=>c_r_OnV true Q V q r X Y false w (mC hw) hok (mC hw) (mC hw) hX hY h1) ?_)
    refine oP (KG (KAN rfl) (show _ = Value.bool false from rfl)) ?_
    refine oM ?_
    refine oGP (KF (o':=2) Tryz.underlying35 rfl rfl rfl sz_4 dc) ?_
    refine KAS rfl rfl (dL rfl (hv:=KJ Tryz.underlying4 rfl (by first|rfl|exact KX _ _ _ om|exact KU _ om|exact KS _ om|exact dv_m _ _ _ om))) (Nb rfl) ?_
    refine oP (KV rfl rfl) ?_
    refine KC ?_
    refine KI rfl ?_
    refine KL ?_
    refine KB ?_
    obtain ⟨hXp,hYp⟩:=on_lt h1
    refine rD [] ?_
    refine aP 0 rfl (KF (o':=0) Tryz.underlying35 rfl rfl rfl sz_28 dc) ?_
    refine aD 1 rfl (dL rfl (hv:=KJ Tryz.underlying28 rfl (by first|rfl|exact KX _ _ _ om|exact KU _ om|exact KS _ om|exact dv_m _ _ _ om))) ?_
    refine aD 2 rfl (dL rfl (hv:=by exact KE Tryz.underlying30 rfl sz_30)) ?_
    refine aO 3 rfl (cF rfl en_21 rfl (fun w hw=>c_r_Size Q V w (mC hw) hsz) ?_)
    refine aO 4 rfl (cF rfl en_22 rfl (fun w hw=>c_n_BytesOK q X (nby V.p) w (mC hw) om hnb (nby_le hXp)) ?_)
    refine aM 5 ?_
    refine aP 6 rfl (Det.extract rfl rfl) ?_
    refine aP 7 rfl (Det.extract rfl rfl) ?_
    refine aA 8 ?_
    refine aA 9 ?_
    refine aE ?_
    refine KB ?_
    refine rD [] ?_
    refine aP 0 rfl (KF (o':=1) Tryz.underlying35 rfl rfl rfl sz_28 dc) ?_
    refine aD 1 rfl (dL rfl (hv:=KJ Tryz.underlying28 rfl (by first|rfl|exact KX _ _ _ om|exact KU _ om|exact KS _ om|exact dv_m _ _ _ om))) ?_
    refine aD 2 rfl (dL rfl (hv:=by exact KE Tryz.underlying30 rfl sz_30)) ?_
    refine aO 3 rfl (cF rfl en_21 rfl (fun w hw=>c_r_Size Q V w (mC hw) hsz) ?_)
    refine aO 4 rfl (cF rfl en_22 rfl (fun w hw=>c_n_BytesOK r Y (nby V.p) w (mC hw) om hnb (nby_le hYp)) ?_)
    refine aM 5 ?_
    refine aP 6 rfl (Det.extract rfl rfl) ?_
    refine aP 7 rfl (Det.extract rfl rfl) ?_
    refine aA 8 ?_
    refine aA 9 ?_
    refine aE ?_
    refine KB ?_
    refine KB (KA ?_)
    refine oM ?_
    refine KC ?_
    first|refine KP rfl (fun hsh=>?_) (fun hsh=>?_)|refine KR rfl (fun hsh=>?_) (fun hsh=>?_)
    ·
      subst hsh
      refine KB (KA ?_)
      refine oP (KF (o':=1) Tryz.underlying35 rfl rfl rfl sz_28 dc) ?_
      refine oD (dL rfl (hv:=KJ Tryz.underlying28 rfl (by first|rfl|exact KX _ _ _ om|exact KU _ om|exact KS _ om|exact dv_m _ _ _ om))) ?_
      refine oS (cF rfl en_33 rfl (fun w hw=>c_n_Bit r Y (D.nw Y) 0 w (mC hw) om) ?_)
      refine oP (KD rfl rfl (Kj (a:=2) om)) ?_
      refine oP (Det.conv8 Tryz.underlying3 Tryz.underlying5 rfl) ?_
      refine oS (mk (KAI Tryz.underlying78 inf_5 rfl rfl rfl rfl dc rfl) (fun b42=>?_))
      refine oD (Det.bytesStr (f:=fun _=>(2+Y/2^0%2)%256) Tryz.underlying78 Tryz.underlying5 Tryz.underlying9 rfl mM (by rfl)) ?_
      refine oM ?_
      refine oP (Det.cat rfl rfl (by have h2:=str_size (nby V.p) X; have h3:=str_size (nby V.p) Y; have h4:∀ x,(strOf ((List.range 1).map fun i=>UInt8.ofNat ((fun _=>x) i))).size = 1:=fun _=>rfl; have h5:(⟨#[4]⟩:ByteArray).size = 1:=rfl; try simp only [ByteArray.size_append,h4,h2,h3,h5]; omega)) ?_
      refine oA ?_
      refine oP (KQ (v:=.int .i64 ((0:Nat):Int)) rfl) ?_
      refine KC (KK ?_)
      refine ⟨[_,_],.cons rfl (.cons rfl .nil),fun a w' hr=>⟨?_,hr.fr.below⟩⟩
      rw [putV_on _ h1,putS,if_pos rfl,← pfx_mod]
      rfl
    ·
      subst hsh
      refine KL ?_
      refine KB (KA ?_)
      refine oM ?_
      refine oP (Det.cat rfl rfl (by have h2:=str_size (nby V.p) X; have h3:=str_size (nby V.p) Y; have h4:∀ x,(strOf ((List.range 1).map fun i=>UInt8.ofNat ((fun _=>x) i))).size = 1:=fun _=>rfl; have h5:(⟨#[4]⟩:ByteArray).size = 1:=rfl; try simp only [ByteArray.size_append,h4,h2,h3,h5]; omega)) ?_
      refine oM ?_
      refine oP (Det.cat rfl rfl (by have h2:=str_size (nby V.p) X; have h3:=str_size (nby V.p) Y; have h4:∀ x,(strOf ((List.range 1).map fun i=>UInt8.ofNat ((fun _=>x) i))).size = 1:=fun _=>rfl; have h5:(⟨#[4]⟩:ByteArray).size = 1:=rfl; try simp only [ByteArray.size_append,h4,h2,h3,h5]; omega)) ?_
      refine oA ?_
      refine oP (KQ (v:=.int .i64 ((0:Nat):Int)) rfl) ?_
      refine KC (KK ?_)
      refine ⟨[_,_],.cons rfl (.cons rfl .nil),fun a w' hr=>⟨?_,hr.fr.below⟩⟩
      rw [putV_on _ h1,putS,if_neg dc]
      rfl
def liftT (V:Cv) (X odd:Nat):Nat×Nat×Bool:=if X<V.p then (match sqN V.p (rightN V.p V.a V.b X) with
  | none=>(0,0,false)
  | some r=>if odd = 0 then (X,r,true) else if r = 0 then (X,0,false) else (X,V.p-r,true)) else (0,0,false)
theorem lift_far {V:Cv} {X odd:Nat} (h:¬ X<V.p):liftT V X odd = (0,0,false):=if_neg h
theorem lift_no {V:Cv} {X odd:Nat} (h:X<V.p) (h1:sqN V.p (rightN V.p V.a V.b X) = none):liftT V X odd = (0,0,false):=by unfold liftT; rw [if_pos h,h1]
theorem lift_even {V:Cv} {X r:Nat} (h:X<V.p) (h1:sqN V.p (rightN V.p V.a V.b X) = some r):liftT V X 0 = (X,r,true):=by unfold liftT; rw [if_pos h,h1]; rfl
theorem lift_zero {V:Cv} {X:Nat} (h:X<V.p) (h1:sqN V.p (rightN V.p V.a V.b X) = some 0):liftT V X 1 = (X,0,false):=by unfold liftT; rw [if_pos h,h1]; rfl
theorem lift_odd {V:Cv} {X r:Nat} (h:X<V.p) (h1:sqN V.p (rightN V.p V.a V.b X) = some r) (h0:r≠0):liftT V X 1 = (X,V.p-r,true):=by unfold liftT; rw [if_pos h,h1]; simp [h0]
theorem c_RightN (R X:Nat) (V:Cv) (b f bd:Nat) (hok:V.Ok) (w:World) (hb:(Item.blk b ⟨false,opL V f,92,(0,0)⟩).holds w) (hf:(Item.blk f ⟨false,fldL V.p bd,116,(0,0)⟩).holds w) (hbd:(Item.blk bd ⟨false,dvL V.p,167,(0,0)⟩).holds w) (hX:X<V.p) (hR:rightN V.p V.a V.b X = R):Calls Tryz.prog 84 ([.pointer (some ⟨b,0,none⟩),natV X]:List Value).toArray w (fun e w'=>e = .returned (natV R)∧Below w.heap.size w w'):=by
  have h1:=c_Right V b f bd hok ⟨X,hX⟩ w hb hf hbd
  rw [← right_val hok] at h1
  rw [← hR]
  exact h1
theorem right_ltV {V:Cv} (hok:V.Ok) (X:Nat):rightN V.p V.a V.b X<V.p:=Nat.mod_lt _ (by have:=hok.bounds; omega)
theorem c_F_SqrtN (V:Cv) (f bd:Nat) (hok:V.Ok) (R:Nat) (w:World) (hf:(Item.blk f ⟨false,fldL V.p bd,116,(0,0)⟩).holds w) (hbd:(Item.blk bd ⟨false,dvL V.p,167,(0,0)⟩).holds w) (hR:R<V.p) (h:sqN V.p R = none):Calls Tryz.prog 83 ([.pointer (some ⟨f,0,none⟩),natV R]:List Value).toArray w (fun e w'=>e = .returned (.tuple #[natV 0,.bool false])∧Below w.heap.size w w'):=by
  have h1:=c_F_Sqrt V f bd hok ⟨R,hR⟩ w hf hbd
  rw [sqV_none h] at h1
  exact h1
theorem c_F_SqrtS (r:Nat) (V:Cv) (f bd:Nat) (hok:V.Ok) (R:Nat) (w:World) (hf:(Item.blk f ⟨false,fldL V.p bd,116,(0,0)⟩).holds w) (hbd:(Item.blk bd ⟨false,dvL V.p,167,(0,0)⟩).holds w) (hR:R<V.p) (h:sqN V.p R = some r):Calls Tryz.prog 83 ([.pointer (some ⟨f,0,none⟩),natV R]:List Value).toArray w (fun e w'=>e = .returned (.tuple #[natV r,.bool true])∧Below w.heap.size w w'):=by
  have h1:=c_F_Sqrt V f bd hok ⟨R,hR⟩ w hf hbd
  rw [sqV_some h] at h1
  exact h1
theorem c_bit0 (v A:Nat) (w:World) (hA:A<W9) (h:A%2 = v):Calls Tryz.prog 85 ([natV A,.int .i64 0]:List Value).toArray w (fun e w'=>e = .returned (.int .i64 ((v:Nat):Int))∧Below w.heap.size w w'):=by
  have h1:=c_nat_Bit A 0 hA dc w
  rw [Nat.pow_zero,Nat.div_one,h] at h1
  exact h1
theorem c_f_neg (V:Cv) (hok:V.Ok) (f bd r:Nat) (w:World) (hf:(Item.blk f ⟨false,fldL V.p bd,116,(0,0)⟩).holds w) (h0:r≠0) (h:r<V.p):Calls Tryz.prog 86 ([.pointer (some ⟨f,0,none⟩),natV 0,natV r]:List Value).toArray w (fun e w'=>e = .returned (natV (V.p-r))∧Below w.heap.size w w'):=by
  have h1:=c_f_Sub V f bd 0 r w hf hok.bounds.2.1 om h
  rwa [Nat.zero_add,Nat.mod_eq_of_lt om] at h1
theorem c_f_neg0 (V:Cv) (hok:V.Ok) (f bd:Nat) (w:World) (hf:(Item.blk f ⟨false,fldL V.p bd,116,(0,0)⟩).holds w):Calls Tryz.prog 86 ([.pointer (some ⟨f,0,none⟩),natV 0,natV 0]:List Value).toArray w (fun e w'=>e = .returned (natV 0)∧Below w.heap.size w w'):=by
  have hb:=hok.bounds
  have h1:=c_f_Sub V f bd 0 0 w hf hb.2.1 om om
  rwa [Nat.zero_add,Nat.sub_zero,Nat.mod_self] at h1
theorem fill_ptI2 (X Y:Nat):fillL [(0,9),(9,9),(18,1)] (vec .u64 9 (fun _=>0)++(vec .u64 9 (fun _=>0)++[Value.bool false])) [(0,natV X),(1,natV Y)] = some (ptL X Y false):=by
  refine KAc (A:=[]) (B:=vec .u64 9 (fun _=>0)) (D:=vec .u64 9 (fun _=>0)++[Value.bool false]) (cs:=natL X) rfl rfl (KH _) rfl rfl (KW _ _ _) ?_
  refine (KAc (A:=natL X) (B:=vec .u64 9 (fun _=>0)) (D:=[Value.bool false]) (cs:=natL Y) rfl rfl (KH _) (by simp) (KH _) (KW _ _ _) rfl).trans ?_
  simp [ptL]
theorem c_lift (V:Cv) (b f bd:Nat) (hok:V.Ok) (X odd:Nat) (w:World) (hb:(Item.blk b ⟨false,opL V f,92,(0,0)⟩).holds w) (hf:(Item.blk f ⟨false,fldL V.p bd,116,(0,0)⟩).holds w) (hbd:(Item.blk bd ⟨false,dvL V.p,167,(0,0)⟩).holds w) (hX:X<W9) (hodd:odd≤1):Calls Tryz.prog 66 ([.pointer (some ⟨b,0,none⟩),natV X,.int .i64 ((odd:Nat):Int)]:List Value).toArray w (fun e w'=>e = .returned (.tuple #[ptV (liftT V X odd).1 (liftT V X odd).2.1 false,.bool (liftT V X odd).2.2])∧Below w.heap.size w w'):=by
  have hbb:=hok.bounds
  have hpW:V.p<W9:=KAB hbb.2.1
  have hpo:=p_odd hok
  refine Ka (N:=50) (rs:=[.cell 6 83,.tmp 7]) [.blk b ⟨false,opL V f,92,(0,0)⟩,.blk f ⟨false,fldL V.p bd,116,(0,0)⟩,.blk bd ⟨false,dvL V.p,167,(0,0)⟩] Tryz.func66 rfl Tryz.ntmps66 Tryz.results66 (Nb rfl) ⟨hb,hf,hbd,trivial⟩ rfl ?_
  show LCode _ _ _ ⟨_,_⟩ _
  refine KB (KA ?_)
  refine oS (mB (fun b4=>?_))
  refine oS (mk (KN zr_83) (fun b6=>?_))
  refine oA ?_
  refine KC ?_
  refine KB ?_
  refine KB ?_
  rcases (show (¬ X<V.p)∨X<V.p by omega) with h1|hXp
  ·
    refine rD [] ?_
    refine aM 0 ?_
    refine aP 1 rfl (KM rfl) ?_
    refine aP 2 rfl (KF (o':=59) Tryz.underlying92 rfl rfl rfl sz_90 dc) ?_
    refine aD 3 rfl (dL rfl (hv:=KJ Tryz.underlying90 rfl (by exact cvC_gt_F _ _ _ _ _ _ _ _ _ _ _ _ _))) ?_
    refine aD 4 rfl (dL rfl (hv:=by exact KE Tryz.underlying25 rfl sz_25)) ?_
    refine aO 5 rfl (cF rfl en_82 rfl (fun w hw=>c_HasF V f bd X w (mC hw) hX hpW h1) ?_)
    refine aP 6 rfl (KG (KAN rfl) (show _ = Value.bool true from rfl)) ?_
    refine aE ?_
    refine KT rfl ?_
    refine KB (KA ?_)
    refine oP (KG (Ki pl_83 zr_83 rfl rfl) pt_zero) ?_
    refine KO rfl (sA rfl rfl sz_83 (by exact KAJ _ _ _) (hl:=by exact Kb _ _ _) (h:=?_))
    refine oA ?_
    refine KC (KK ?_)
    refine ⟨[_,_],.cons ⟨_,_,_,rfl,mM,by exact KE Tryz.underlying83 rfl sz_83⟩ (.cons rfl .nil),fun a' w' hr=>⟨?_,hr.fr.below⟩⟩
    rw [lift_far h1]
    rfl
  ·
    refine rD [] ?_
    refine aM 0 ?_
    refine aP 1 rfl (KM rfl) ?_
    refine aP 2 rfl (KF (o':=59) Tryz.underlying92 rfl rfl rfl sz_90 dc) ?_
    refine aD 3 rfl (dL rfl (hv:=KJ Tryz.underlying90 rfl (by exact cvC_gt_F _ _ _ _ _ _ _ _ _ _ _ _ _))) ?_
    refine aD 4 rfl (dL rfl (hv:=by exact KE Tryz.underlying25 rfl sz_25)) ?_
    refine aO 5 rfl (cF rfl en_82 rfl (fun w hw=>c_HasT V f bd X w (mC hw) hX hpW hXp) ?_)
    refine aP 6 rfl (KG (KAN rfl) (show _ = Value.bool false from rfl)) ?_
    refine aE ?_
    refine KI rfl ?_
    refine KL ?_
    refine KB ?_
    obtain ⟨R,hR⟩:∃ R,rightN V.p V.a V.b X = R:=⟨_,rfl⟩
    have hRp:R<V.p:=hR ▸ right_ltV hok X
    rcases h1:sqN V.p R with _|r
    ·
      refine rD [12] ?_
      refine aM 0 ?_
      refine aP 1 rfl (KM rfl) ?_
      refine aP 2 rfl (KF (o':=59) Tryz.underlying92 rfl rfl rfl sz_90 dc) ?_
      refine aD 3 rfl (dL rfl (hv:=KJ Tryz.underlying90 rfl (by exact cvC_gt_F _ _ _ _ _ _ _ _ _ _ _ _ _))) ?_
      refine aM 4 ?_
      refine aD 5 rfl (dL rfl (hv:=by exact KE Tryz.underlying25 rfl sz_25)) ?_
      refine LAny.toP ?_
      refine KAE 11 rfl (.inl zr_25) (Nb rfl) rfl rfl rfl ?_
      refine Kn 6 rfl rfl rfl (Nb rfl) (by kernel_rfl) rfl (Kr (first:=[]) rfl en_84 rfl (fun w hw=>c_RightN R X V b f bd hok w (mC hw) (mC hw) (mC hw) hXp hR)) ?_
      rintro _ _ ⟨rfl,rfl⟩
      refine Kn 7 rfl rfl rfl (Nb rfl) (by kernel_rfl) rfl (Kr (first:=[]) rfl en_83 rfl (fun w hw=>c_F_SqrtN V f bd hok R w (mC hw) (mC hw) hRp h1)) ?_
      rintro _ _ ⟨rfl,rfl⟩
      refine pM 8 ?_
      refine pP 9 rfl (Det.extract rfl rfl) ?_
      refine pP 10 rfl (Det.extract rfl rfl) ?_
      refine pE (fun b8=>?_)
      refine KAT ?_
      refine aL 12 rfl (sA rfl rfl sz_25 (by exact KAM _) (hl:=by exact KH _) (h:=?_))
      refine aA 13 ?_
      refine aE ?_
      refine KB ?_
      refine KB (KA ?_)
      refine oM ?_
      refine oP (KG (KAN rfl) (show _ = Value.bool true from rfl)) ?_
      refine KC ?_
      refine KT rfl ?_
      refine KB (KA ?_)
      refine oP (KG (Ki pl_83 zr_83 rfl rfl) pt_zero) ?_
      refine KO rfl (sA rfl rfl sz_83 (by exact KAJ _ _ _) (hl:=by exact Kb _ _ _) (h:=?_))
      refine oA ?_
      refine KC (KK ?_)
      refine ⟨[_,_],.cons ⟨_,_,_,rfl,mM,by exact KE Tryz.underlying83 rfl sz_83⟩ (.cons rfl .nil),fun a' w' hr=>⟨?_,hr.fr.below⟩⟩
      rw [← hR] at h1
      rw [lift_no hXp h1]
      rfl
    ·
      refine rD [12] ?_
      refine aM 0 ?_
      refine aP 1 rfl (KM rfl) ?_
      refine aP 2 rfl (KF (o':=59) Tryz.underlying92 rfl rfl rfl sz_90 dc) ?_
      refine aD 3 rfl (dL rfl (hv:=KJ Tryz.underlying90 rfl (by exact cvC_gt_F _ _ _ _ _ _ _ _ _ _ _ _ _))) ?_
      refine aM 4 ?_
      refine aD 5 rfl (dL rfl (hv:=by exact KE Tryz.underlying25 rfl sz_25)) ?_
      refine LAny.toP ?_
      refine KAE 11 rfl (.inl zr_25) (Nb rfl) rfl rfl rfl ?_
      refine Kn 6 rfl rfl rfl (Nb rfl) (by kernel_rfl) rfl (Kr (first:=[]) rfl en_84 rfl (fun w hw=>c_RightN R X V b f bd hok w (mC hw) (mC hw) (mC hw) hXp hR)) ?_
      rintro _ _ ⟨rfl,rfl⟩
      refine Kn 7 rfl rfl rfl (Nb rfl) (by kernel_rfl) rfl (Kr (first:=[]) rfl en_83 rfl (fun w hw=>c_F_SqrtS r V f bd hok R w (mC hw) (mC hw) hRp h1)) ?_
      rintro _ _ ⟨rfl,rfl⟩
      refine pM 8 ?_
      refine pP 9 rfl (Det.extract rfl rfl) ?_
      refine pP 10 rfl (Det.extract rfl rfl) ?_
      refine pE (fun b8=>?_)
      refine KAT ?_
      refine aL 12 rfl (sA rfl rfl sz_25 (by exact KAM _) (hl:=by exact KH _) (h:=?_))
      refine aA 13 ?_
      refine aE ?_
      refine KB ?_
      refine KB (KA ?_)
      refine oM ?_
      refine oP (KG (KAN rfl) (show _ = Value.bool false from rfl)) ?_
      refine KC ?_
      refine KI rfl ?_
      refine KL ?_
      refine KB ?_
      refine KB ?_
      obtain ⟨hr1,hr2,hr3⟩:=sqN_some h1
      rcases (show odd = 0∨(odd = 1∧r = 0)∨(odd = 1∧r≠0) by omega) with rfl|⟨rfl,rfl⟩|⟨rfl,hr0⟩
      ·
        refine KA ?_
        refine oD (dL rfl (hv:=by exact KE Tryz.underlying25 rfl sz_25)) ?_
        refine oS (cF rfl en_85 rfl (fun w hw=>c_bit0 0 r w om hr3) ?_)
        refine oM ?_
        refine oP (KD (v:=.bool false) rfl rfl (by rfl)) ?_
        refine KC ?_
        refine KI rfl ?_
        refine KL ?_
        refine KB ?_
        refine rD [7] ?_
        refine aD 0 rfl (dL rfl (hv:=by exact KE Tryz.underlying25 rfl sz_25)) ?_
        refine aD 1 rfl (dL rfl (hv:=by exact KE Tryz.underlying25 rfl sz_25)) ?_
        refine aP 2 rfl (KG (Ki pl_83 zr_83 rfl (fill_ptI2 _ _)) rfl) ?_
        refine aM 5 ?_
        refine aO 3 rfl (LStep.det (dL rfl (hv:=by exact KE Tryz.underlying25 rfl sz_25)) (Nb rfl) ?_)
        refine aO 4 rfl (cF rfl en_85 rfl (fun w hw=>c_bit0 0 r w om hr3) ?_)
        refine aP 6 rfl (KD (v:=.bool true) rfl rfl (by rfl)) ?_
        refine aL 7 rfl (sA rfl rfl sz_83 (by exact KAJ _ _ _) (hl:=by exact Kb _ _ _) (h:=?_))
        refine aA 8 ?_
        refine aE ?_
        refine KK ?_
        refine ⟨[_,_],.cons ⟨_,_,_,rfl,mM,by exact KE Tryz.underlying83 rfl sz_83⟩ (.cons rfl .nil),fun a' w' hr=>⟨?_,hr.fr.below⟩⟩
        rw [← hR] at h1
        rw [lift_even hXp h1]
        rfl
      ·
        refine KA ?_
        refine oD (dL rfl (hv:=by exact KE Tryz.underlying25 rfl sz_25)) ?_
        refine oS (cF rfl en_85 rfl (fun w hw=>c_bit0 0 0 w om rfl) ?_)
        refine oM ?_
        refine oP (KD (v:=.bool true) rfl rfl (by rfl)) ?_
        refine KC ?_
        refine KT rfl ?_
        refine rD [7] ?_
        refine aM 0 ?_
        refine aP 1 rfl (KM rfl) ?_
        refine aP 2 rfl (KF (o':=59) Tryz.underlying92 rfl rfl rfl sz_90 dc) ?_
        refine aD 3 rfl (dL rfl (hv:=KJ Tryz.underlying90 rfl (by exact cvC_gt_F _ _ _ _ _ _ _ _ _ _ _ _ _))) ?_
        refine aP 4 rfl (KG (Ki pl_25 zr_25 rfl rfl) (show _ = natV 0 by unfold natV natL; rw [← vec_zeros 9])) ?_
        refine aD 5 rfl (dL rfl (hv:=by exact KE Tryz.underlying25 rfl sz_25)) ?_
        refine aO 6 rfl (cF rfl en_86 rfl (fun w hw=>c_f_neg0 V hok f bd w (mC hw)) ?_)
        refine aL 7 rfl (sA rfl rfl sz_25 (by exact KAM _) (hl:=by exact KH _) (h:=?_))
        refine aE ?_
        refine KB ?_
        refine rD [7] ?_
        refine aD 0 rfl (dL rfl (hv:=by exact KE Tryz.underlying25 rfl sz_25)) ?_
        refine aD 1 rfl (dL rfl (hv:=by exact KE Tryz.underlying25 rfl sz_25)) ?_
        refine aP 2 rfl (KG (Ki pl_83 zr_83 rfl (fill_ptI2 _ _)) rfl) ?_
        refine aM 5 ?_
        refine aO 3 rfl (LStep.det (dL rfl (hv:=by exact KE Tryz.underlying25 rfl sz_25)) (Nb rfl) ?_)
        refine aO 4 rfl (cF rfl en_85 rfl (fun w hw=>c_bit0 0 0 w om rfl) ?_)
        refine aP 6 rfl (KD (v:=.bool false) rfl rfl (by rfl)) ?_
        refine aL 7 rfl (sA rfl rfl sz_83 (by exact KAJ _ _ _) (hl:=by exact Kb _ _ _) (h:=?_))
        refine aA 8 ?_
        refine aE ?_
        refine KK ?_
        refine ⟨[_,_],.cons ⟨_,_,_,rfl,mM,by exact KE Tryz.underlying83 rfl sz_83⟩ (.cons rfl .nil),fun a' w' hr=>⟨?_,hr.fr.below⟩⟩
        rw [← hR] at h1
        rw [lift_zero hXp h1]
        rfl
      ·
        refine KA ?_
        refine oD (dL rfl (hv:=by exact KE Tryz.underlying25 rfl sz_25)) ?_
        refine oS (cF rfl en_85 rfl (fun w hw=>c_bit0 0 r w om hr3) ?_)
        refine oM ?_
        refine oP (KD (v:=.bool true) rfl rfl (by rfl)) ?_
        refine KC ?_
        refine KT rfl ?_
        refine rD [7] ?_
        refine aM 0 ?_
        refine aP 1 rfl (KM rfl) ?_
        refine aP 2 rfl (KF (o':=59) Tryz.underlying92 rfl rfl rfl sz_90 dc) ?_
        refine aD 3 rfl (dL rfl (hv:=KJ Tryz.underlying90 rfl (by exact cvC_gt_F _ _ _ _ _ _ _ _ _ _ _ _ _))) ?_
        refine aP 4 rfl (KG (Ki pl_25 zr_25 rfl rfl) (show _ = natV 0 by unfold natV natL; rw [← vec_zeros 9])) ?_
        refine aD 5 rfl (dL rfl (hv:=by exact KE Tryz.underlying25 rfl sz_25)) ?_
        refine aO 6 rfl (cF rfl en_86 rfl (fun w hw=>c_f_neg V hok f bd r w (mC hw) hr0 hr1) ?_)
        refine aL 7 rfl (sA rfl rfl sz_25 (by exact KAM _) (hl:=by exact KH _) (h:=?_))
        refine aE ?_
        refine KB ?_
        refine rD [7] ?_
        refine aD 0 rfl (dL rfl (hv:=by exact KE Tryz.underlying25 rfl sz_25)) ?_
        refine aD 1 rfl (dL rfl (hv:=by exact KE Tryz.underlying25 rfl sz_25)) ?_
        refine aP 2 rfl (KG (Ki pl_83 zr_83 rfl (fill_ptI2 _ _)) rfl) ?_
        refine aM 5 ?_
        refine aO 3 rfl (LStep.det (dL rfl (hv:=by exact KE Tryz.underlying25 rfl sz_25)) (Nb rfl) ?_)
        refine aO 4 rfl (cF rfl en_85 rfl (fun w hw=>c_bit0 1 (V.p-r) w om om) ?_)
        refine aP 6 rfl (KD (v:=.bool true) rfl rfl (by rfl)) ?_
        refine aL 7 rfl (sA rfl rfl sz_83 (by exact KAJ _ _ _) (hl:=by exact Kb _ _ _) (h:=?_))
        refine aA 8 ?_
        refine aE ?_
        refine KK ?_
        refine ⟨[_,_],.cons ⟨_,_,_,rfl,mM,by exact KE Tryz.underlying83 rfl sz_83⟩ (.cons rfl .nil),fun a' w' hr=>⟨?_,hr.fr.below⟩⟩
        rw [← hR] at h1
        rw [lift_odd hXp h1 hr0]
        rfl
end Go.Proofs.YtlmiolnccgjjjaaGreat
set_option linter.unusedVariables false
set_option linter.unusedSimpArgs false
set_option maxRecDepth 20000
namespace Go.Proofs.YtlmiolnccgjjjaaGreat
open Go Go.RowKit
def b0 (s:ByteArray):Nat:=(s.data.toList.getD 0 0).toNat
theorem b0_lt (s:ByteArray):b0 s<256:=UInt8.toNat_lt _
def getX (V:Cv) (s:ByteArray):Nat:=beVal (s.extract 1 (1+nby V.p)).data.toList
def getY (V:Cv) (s:ByteArray):Nat:=beVal (s.extract (1+nby V.p) s.size).data.toList
def getT (V:Cv) (s:ByteArray):Nat×Nat×Nat :=
  if s.size = 1+nby V.p∧(b0 s = 2∨b0 s = 3) then (if (liftT V (getX V s) (b0 s-2)).2.2 = true then ((liftT V (getX V s) (b0 s-2)).1,(liftT V (getX V s) (b0 s-2)).2.1,0) else (0,0,2101))
  else if s.size = 1+2*nby V.p∧b0 s = 4 then (if onB V.p V.a V.b (getX V s) (getY V s) false = true then (getX V s,getY V s,0) else (0,0,2101))
  else (0,0,2102)
def getV (V:Cv) (s:ByteArray):Value:=.tuple #[ptV (getT V s).1 (getT V s).2.1 false,.int .i64 (((getT V s).2.2:Nat):Int)]
theorem getV_eq {V:Cv} {s:ByteArray} {X Y e:Nat} (h:getT V s = (X,Y,e)):getV V s = .tuple #[ptV X Y false,.int .i64 ((e:Nat):Int)]:=by unfold getV; rw [h]
theorem get_form {V:Cv} {s:ByteArray} (h1:¬ (s.size = 1+nby V.p∧(b0 s = 2∨b0 s = 3))) (h2:¬ (s.size = 1+2*nby V.p∧b0 s = 4)):getT V s = (0,0,2102):=by unfold getT; rw [if_neg h1,if_neg h2]
theorem get_short {V:Cv} {s:ByteArray} {o X Y:Nat} (h1:s.size = 1+nby V.p) (ho:b0 s = 2+o) (ho1:o≤1) (h:liftT V (getX V s) o = (X,Y,true)):getT V s = (X,Y,0):=by
  unfold getT
  rw [if_pos ⟨h1,by omega⟩,ho,Nat.add_sub_cancel_left,h]; rfl
theorem get_shortF {V:Cv} {s:ByteArray} {o X Y:Nat} (h1:s.size = 1+nby V.p) (ho:b0 s = 2+o) (ho1:o≤1) (h:liftT V (getX V s) o = (X,Y,false)):getT V s = (0,0,2101):=by
  unfold getT
  rw [if_pos ⟨h1,by omega⟩,ho,Nat.add_sub_cancel_left,h]; rfl
theorem get_long {V:Cv} {s:ByteArray} (h1:s.size = 1+2*nby V.p) (hb:b0 s = 4) (h:onB V.p V.a V.b (getX V s) (getY V s) false = true):getT V s = (getX V s,getY V s,0):=by
  unfold getT
  rw [if_neg om,if_pos ⟨h1,hb⟩,if_pos h]
theorem get_longF {V:Cv} {s:ByteArray} (h1:s.size = 1+2*nby V.p) (hb:b0 s = 4) (h:onB V.p V.a V.b (getX V s) (getY V s) false = false):getT V s = (0,0,2101):=by
  unfold getT
  rw [if_neg om,if_pos ⟨h1,hb⟩,if_neg (by rw [h]; decide)]
theorem ext_ext (s:ByteArray) (k:Nat) (h:1+k≤s.size):(s.extract 1 s.size).extract 0 k = s.extract 1 (1+k):=by
  rw [ByteArray.extract_extract]
  congr 1; omega
theorem ext_ext2 (s:ByteArray) (k:Nat) (h:1+k≤s.size):(s.extract 1 s.size).extract k (s.extract 1 s.size).size = s.extract (1+k) s.size:=by
  rw [ByteArray.extract_extract,KAh _ _ _ (Nat.le_refl _)]
  congr 1; omega
theorem ptX_set0 (X Y X':Nat) (i:Bool):splice (ptL X Y i) 0 (natL X') = ptL X' Y i:=splice_mid (A:=[]) (B:=natL X) (D:=natL Y++[.bool i]) (by simp [ptL]) rfl (by rw [KH,KH]) (by simp [ptL])
theorem ptX_set9 (X Y Y':Nat) (i:Bool):splice (ptL X Y i) 9 (natL Y') = ptL X Y' i:=splice_mid (A:=natL X) (B:=natL Y) (D:=[.bool i]) (by simp [ptL]) (KH _) (by rw [KH,KH]) (by simp [ptL])
theorem ptX_zero:(vec .u64 9 (fun _=>0)++(vec .u64 9 (fun _=>0)++[Value.bool false]):List Value) = ptL 0 0 false:=by
  unfold ptL natL; rw [vec_zeros 9]
theorem c_nat_OfX (X:Nat) (s:ByteArray) (w:World) (h:s.size≤72) (hX:beVal s.data.toList = X):Calls Tryz.prog 65 ([.string s]:List Value).toArray w (fun e w'=>e = .returned (.tuple #[natV X,.int .i64 ((0:Nat):Int)])∧Below w.heap.size w w'):=hX ▸ c_nat_OfOK s w h
theorem c_liftX (Z:Nat×Nat×Bool) (V:Cv) (b f bd:Nat) (hok:V.Ok) (X odd:Nat) (w:World) (hb:(Item.blk b ⟨false,opL V f,92,(0,0)⟩).holds w) (hf:(Item.blk f ⟨false,fldL V.p bd,116,(0,0)⟩).holds w) (hbd:(Item.blk bd ⟨false,dvL V.p,167,(0,0)⟩).holds w) (hX:X<W9) (hodd:odd≤1) (hZ:liftT V X odd = Z):Calls Tryz.prog 66 ([.pointer (some ⟨b,0,none⟩),natV X,.int .i64 ((odd:Nat):Int)]:List Value).toArray w (fun e w'=>e = .returned (.tuple #[ptV Z.1 Z.2.1 false,.bool Z.2.2])∧Below w.heap.size w w'):=by
  subst hZ; exact c_lift V b f bd hok X odd w hb hf hbd hX hodd
theorem emp_t:((⟨#[]⟩:ByteArray).toList == (⟨#[]⟩:ByteArray).toList) = true:=by simp
theorem emp_f {s:ByteArray} (h:s.size≠0):(s.toList == (⟨#[]⟩:ByteArray).toList) = false:=by
  cases h1:(s.toList == (⟨#[]⟩:ByteArray).toList) with
  | false=>rfl
  | true =>
    rw [eq_str,decide_eq_true_eq] at h1
    have h2:s.data.size = 0:=by rw [← Array.length_toList,h1]; rfl
    exact absurd h2 h
theorem c_s_Get_emp (id:Int) (V:Cv) (w:World) (h:cvI id = some V):Calls Tryz.prog 41 ([.int .i64 id,.string ⟨#[]⟩]:List Value).toArray w (fun e w'=>e = .returned (.tuple #[ptV 0 0 false,.int .i64 ((2102:Nat):Int)])∧Below w.heap.size w w'):=by
  obtain ⟨hok,hid⟩:=cvI_ok h
  have hbb:=hok.bounds
  have hpW:V.p<W9:=KAB hbb.2.1
  have hnW:V.n<W9:=KAB hbb.2.2.2.2.2.2.1
  have hbl:=KAQ hnW
  have hnb:nby V.n≤72:=by (unfold nby; omega)
  have hnp:nby V.p≤72:=by have:=KAQ (KAB hbb.2.1); (unfold nby; omega)
  refine Ka (N:=102) (rs:=[.cell 4 83,.tmp 5]) [] Tryz.func41 rfl Tryz.ntmps41 Tryz.results41 (Nb rfl) trivial rfl ?_
  show LCode _ _ _ ⟨_,_⟩ _
  refine KB (KA ?_)
  refine oS (mk (KN zr_83) (fun b4=>?_))
  refine oP (KQ (v:=.int .i64 ((0:Nat):Int)) rfl) ?_
  refine KC ?_
  refine KB (KA ?_)
  refine oM ?_
  refine oS (KAR (Post:=fun v its=>∃ b f bd,v = .pointer (some ⟨b,0,none⟩)∧its = [.blk b ⟨false,opL V f,92,(0,0)⟩,.blk f ⟨false,fldL V.p bd,116,(0,0)⟩,.blk bd ⟨false,dvL V.p,167,(0,0)⟩]) (first:=[]) rfl en_39 rfl (Nb rfl) (fun w1 hw hs=>(c_Open _ V w1 h).mono fun e w' ⟨b,f,bd,h1,h2,h3,h4,h5,h6,h7,h8⟩=>⟨_,_,⟨b,f,bd,rfl,rfl⟩,h1,KAV h8 (by intro x hx; simp at hx; rcases hx with rfl|rfl|rfl; exact h2; exact h3; exact h4) (by intro x hx; simp at hx; rcases hx with rfl|rfl|rfl <;> rfl) (by intro x hx k hk; simp at hx; rcases hx with rfl|rfl|rfl <;> simp [Item.fp] at hk <;> subst hk; exact .inl h5; exact .inl h6; exact .inl h7)⟩) ?_)
  rintro _ _ ⟨b,f,bd,rfl,rfl⟩
  refine oA ?_
  refine KC ?_
  refine KB ?_
  refine KB (KA ?_)
  refine oM ?_
  refine oP (KG (Det.eqp Tryz.underlying79 rfl rfl) (show _ = Value.bool false from rfl)) ?_
  refine KC ?_
  refine KI rfl ?_
  refine KL ?_
  refine KB ?_
  refine KB (KA ?_)
  refine oM ?_
  refine oP (KG (Det.eqs rfl rfl) (congrArg Value.bool (emp_t))) ?_
  refine KC ?_
  refine KT rfl ?_
  refine KB (KA ?_)
  refine oP (KG (Ki pl_83 zr_83 rfl rfl) pt_zero) ?_
  refine KO rfl (sA rfl rfl sz_83 (by exact KAJ _ _ _) (hl:=by exact Kb _ _ _) (h:=?_))
  refine oP (KQ (v:=.int .i64 ((2102:Nat):Int)) rfl) ?_
  refine KC (KK ?_)
  refine ⟨[_,_],.cons ⟨_,_,_,rfl,mM,by exact KE Tryz.underlying83 rfl sz_83⟩ (.cons rfl .nil),fun a' w' hr=>⟨?_,hr.fr.below⟩⟩
  skip
  rfl
theorem c_s_Get_s0 (id:Int) (V:Cv) (s:ByteArray) (X X' Y':Nat) (ok:Bool) (w:World) (h:cvI id = some V) (hsz:s.size = 1+nby V.p) (hb:b0 s = 2) (hX:beVal (s.extract 1 s.size).data.toList = X) (hXw:X<W9) (hl:liftT V X 0 = (X',Y',ok)):Calls Tryz.prog 41 ([.int .i64 id,.string s]:List Value).toArray w (fun e w'=>e = .returned (getV V s)∧Below w.heap.size w w'):=by
  obtain ⟨hok,hid⟩:=cvI_ok h
  have hbb:=hok.bounds
  have hpW:V.p<W9:=KAB hbb.2.1
  have hnW:V.n<W9:=KAB hbb.2.2.2.2.2.2.1
  have hbl:=KAQ hnW
  have hnb:nby V.n≤72:=by (unfold nby; omega)
  have hnp:nby V.p≤72:=by have:=KAQ (KAB hbb.2.1); (unfold nby; omega)
  have hs0:s.size≠0:=by omega
  refine Ka (N:=102) (rs:=[.cell 4 83,.tmp 5]) [] Tryz.func41 rfl Tryz.ntmps41 Tryz.results41 (Nb rfl) trivial rfl ?_
  show LCode _ _ _ ⟨_,_⟩ _
  refine KB (KA ?_)
  refine oS (mk (KN zr_83) (fun b4=>?_))
  refine oP (KQ (v:=.int .i64 ((0:Nat):Int)) rfl) ?_
  refine KC ?_
  refine KB (KA ?_)
  refine oM ?_
  refine oS (KAR (Post:=fun v its=>∃ b f bd,v = .pointer (some ⟨b,0,none⟩)∧its = [.blk b ⟨false,opL V f,92,(0,0)⟩,.blk f ⟨false,fldL V.p bd,116,(0,0)⟩,.blk bd ⟨false,dvL V.p,167,(0,0)⟩]) (first:=[]) rfl en_39 rfl (Nb rfl) (fun w1 hw hs=>(c_Open _ V w1 h).mono fun e w' ⟨b,f,bd,h1,h2,h3,h4,h5,h6,h7,h8⟩=>⟨_,_,⟨b,f,bd,rfl,rfl⟩,h1,KAV h8 (by intro x hx; simp at hx; rcases hx with rfl|rfl|rfl; exact h2; exact h3; exact h4) (by intro x hx; simp at hx; rcases hx with rfl|rfl|rfl <;> rfl) (by intro x hx k hk; simp at hx; rcases hx with rfl|rfl|rfl <;> simp [Item.fp] at hk <;> subst hk; exact .inl h5; exact .inl h6; exact .inl h7)⟩) ?_)
  rintro _ _ ⟨b,f,bd,rfl,rfl⟩
  refine oA ?_
  refine KC ?_
  refine KB ?_
  refine KB (KA ?_)
  refine oM ?_
  refine oP (KG (Det.eqp Tryz.underlying79 rfl rfl) (show _ = Value.bool false from rfl)) ?_
  refine KC ?_
  refine KI rfl ?_
  refine KL ?_
  refine KB ?_
  refine KB (KA ?_)
  refine oM ?_
  refine oP (KG (Det.eqs rfl rfl) (congrArg Value.bool (emp_f hs0))) ?_
  refine KC ?_
  refine KI rfl ?_
  refine KL ?_
  refine KB ?_
  refine rD [] ?_
  refine aM 0 ?_
  refine aP 1 rfl (KG (Ko Tryz.underlying9 rfl rfl om om) (show _ = .int .u8 ((2:Nat):Int) from congrArg (fun n:Nat=>Value.int .u8 ((n:Nat):Int)) hb)) ?_
  refine aP 2 rfl (KAb Tryz.underlying5 Tryz.underlying3 rfl om) ?_
  refine aM 3 ?_
  refine aP 4 rfl (KG (Det.slStrL Tryz.underlying9 rfl rfl om om) (show _ = Value.string (s.extract 1 s.size) from rfl)) ?_
  refine aA 5 ?_
  refine aA 6 ?_
  refine aE ?_
  refine KB (KA ?_)
  refine oS (mk (KN zr_83) (fun b9=>?_))
  refine KC ?_
  refine KB (KA ?_)
  refine oA ?_
  refine KC ?_
  refine KB ?_
  refine LCode.block ?_
  refine KB ?_
  have hrs:(s.extract 1 s.size).size = nby V.p:=by rw [KAh _ _ _ (Nat.le_refl _)]; omega
  refine KA ?_
  refine oM ?_
  refine oP (KD (v:=.bool true) rfl rfl (br_t (Ky (b:=2)) (rfl))) ?_
  refine oM ?_
  refine oK ?_
  refine oK ?_
  refine oP (KY rfl rfl) ?_
  refine oM ?_
  refine oGM ?_
  refine oGP (KAH Tryz.underlying9 rfl) ?_
  refine oGM ?_
  refine oGP (KM rfl) ?_
  refine oGP (KF (o':=0) Tryz.underlying92 rfl rfl rfl sz_89 dc) ?_
  refine oGP (KF (o':=57) Tryz.underlying89 rfl rfl rfl sz_3 dc) ?_
  refine KAS rfl rfl (dL rfl (hv:=KJ Tryz.underlying3 rfl (by exact cvC_gt_size _ _ _ _ _ _ _ _ _ _ _ _ _))) (Nb rfl) ?_
  refine oGP (KD (v:=.bool true) rfl rfl (br_t Ky (hrs))) ?_
  refine oP (KY rfl rfl) ?_
  refine oA ?_
  refine KC ?_
  refine KT rfl ?_
  refine KB ?_
  cases ok
  ·
    refine KA ?_
    refine oM ?_
    refine oS (cF rfl en_65 rfl (fun w hw=>c_nat_OfX X (s.extract 1 s.size) w om hX) ?_)
    refine oM ?_
    refine oP (Det.extract rfl rfl) ?_
    refine oP (Det.extract rfl rfl) ?_
    refine oS (mk (KN zr_25) (fun b11=>?_))
    refine KO rfl (sA rfl rfl sz_25 (by exact KAM _) (hl:=by exact KH _) (h:=?_))
    refine oA ?_
    refine KC ?_
    refine KA ?_
    refine oM ?_
    refine oD (dL rfl (hv:=by exact KE Tryz.underlying25 rfl sz_25)) ?_
    refine oM ?_
    refine oP (KD (v:=.int .i64 ((0:Nat):Int)) rfl rfl (by rfl)) ?_
    refine oS (cF rfl en_66 rfl (fun w hw=>c_liftX (X',Y',false) V b f bd hok X 0 w (mC hw) (mC hw) (mC hw) hXw dc hl) ?_)
    refine oM ?_
    refine oP (Det.extract rfl rfl) ?_
    refine oP (Det.extract rfl rfl) ?_
    refine KO rfl (sA rfl rfl sz_83 (by exact KAJ _ _ _) (hl:=by exact Kb _ _ _) (h:=?_))
    refine oA ?_
    refine KC ?_
    refine KB ?_
    refine KB (KA ?_)
    refine oM ?_
    refine oP (KG (KAN rfl) (show _ = Value.bool true from rfl)) ?_
    refine KC ?_
    refine KT rfl ?_
    refine KB (KA ?_)
    refine oP (KG (Ki pl_83 zr_83 rfl rfl) pt_zero) ?_
    refine KO rfl (sA rfl rfl sz_83 (by exact KAJ _ _ _) (hl:=by exact Kb _ _ _) (h:=?_))
    refine oP (KQ (v:=.int .i64 ((2101:Nat):Int)) rfl) ?_
    refine KC (KK ?_)
    refine ⟨[_,_],.cons ⟨_,_,_,rfl,mM,by exact KE Tryz.underlying83 rfl sz_83⟩ (.cons rfl .nil),fun a' w' hr=>⟨?_,hr.fr.below⟩⟩
    have hg:getX V s = X:=by unfold getX; rw [← hsz]; exact hX
    rw [← hg] at hl
    rw [getV_eq (get_shortF hsz hb dc hl)]
    rfl
  ·
    refine KA ?_
    refine oM ?_
    refine oS (cF rfl en_65 rfl (fun w hw=>c_nat_OfX X (s.extract 1 s.size) w om hX) ?_)
    refine oM ?_
    refine oP (Det.extract rfl rfl) ?_
    refine oP (Det.extract rfl rfl) ?_
    refine oS (mk (KN zr_25) (fun b11=>?_))
    refine KO rfl (sA rfl rfl sz_25 (by exact KAM _) (hl:=by exact KH _) (h:=?_))
    refine oA ?_
    refine KC ?_
    refine KA ?_
    refine oM ?_
    refine oD (dL rfl (hv:=by exact KE Tryz.underlying25 rfl sz_25)) ?_
    refine oM ?_
    refine oP (KD (v:=.int .i64 ((0:Nat):Int)) rfl rfl (by rfl)) ?_
    refine oS (cF rfl en_66 rfl (fun w hw=>c_liftX (X',Y',true) V b f bd hok X 0 w (mC hw) (mC hw) (mC hw) hXw dc hl) ?_)
    refine oM ?_
    refine oP (Det.extract rfl rfl) ?_
    refine oP (Det.extract rfl rfl) ?_
    refine KO rfl (sA rfl rfl sz_83 (by exact KAJ _ _ _) (hl:=by exact Kb _ _ _) (h:=?_))
    refine oA ?_
    refine KC ?_
    refine KB ?_
    refine KB (KA ?_)
    refine oM ?_
    refine oP (KG (KAN rfl) (show _ = Value.bool false from rfl)) ?_
    refine KC ?_
    refine KI rfl ?_
    refine KL ?_
    refine KB (KA ?_)
    refine oD (dL rfl (hv:=by exact KE Tryz.underlying83 rfl sz_83)) ?_
    refine KO rfl (sA rfl rfl sz_83 (by exact KAJ _ _ _) (hl:=by exact Kb _ _ _) (h:=?_))
    refine oP (KQ (v:=.int .i64 ((0:Nat):Int)) rfl) ?_
    refine KC (KK ?_)
    refine ⟨[_,_],.cons ⟨_,_,_,rfl,mM,by exact KE Tryz.underlying83 rfl sz_83⟩ (.cons rfl .nil),fun a' w' hr=>⟨?_,hr.fr.below⟩⟩
    have hg:getX V s = X:=by unfold getX; rw [← hsz]; exact hX
    rw [← hg] at hl
    rw [getV_eq (get_short hsz hb dc hl)]
    rfl
theorem c_s_Get_s1 (id:Int) (V:Cv) (s:ByteArray) (X X' Y':Nat) (ok:Bool) (w:World) (h:cvI id = some V) (hsz:s.size = 1+nby V.p) (hb:b0 s = 3) (hX:beVal (s.extract 1 s.size).data.toList = X) (hXw:X<W9) (hl:liftT V X 1 = (X',Y',ok)):Calls Tryz.prog 41 ([.int .i64 id,.string s]:List Value).toArray w (fun e w'=>e = .returned (getV V s)∧Below w.heap.size w w'):=by
  obtain ⟨hok,hid⟩:=cvI_ok h
  have hbb:=hok.bounds
  have hpW:V.p<W9:=KAB hbb.2.1
  have hnW:V.n<W9:=KAB hbb.2.2.2.2.2.2.1
  have hbl:=KAQ hnW
  have hnb:nby V.n≤72:=by (unfold nby; omega)
  have hnp:nby V.p≤72:=by have:=KAQ (KAB hbb.2.1); (unfold nby; omega)
  have hs0:s.size≠0:=by omega
  refine Ka (N:=102) (rs:=[.cell 4 83,.tmp 5]) [] Tryz.func41 rfl Tryz.ntmps41 Tryz.results41 (Nb rfl) trivial rfl ?_
  show LCode _ _ _ ⟨_,_⟩ _
  refine KB (KA ?_)
  refine oS (mk (KN zr_83) (fun b4=>?_))
  refine oP (KQ (v:=.int .i64 ((0:Nat):Int)) rfl) ?_
  refine KC ?_
  refine KB (KA ?_)
  refine oM ?_
  refine oS (KAR (Post:=fun v its=>∃ b f bd,v = .pointer (some ⟨b,0,none⟩)∧its = [.blk b ⟨false,opL V f,92,(0,0)⟩,.blk f ⟨false,fldL V.p bd,116,(0,0)⟩,.blk bd ⟨false,dvL V.p,167,(0,0)⟩]) (first:=[]) rfl en_39 rfl (Nb rfl) (fun w1 hw hs=>(c_Open _ V w1 h).mono fun e w' ⟨b,f,bd,h1,h2,h3,h4,h5,h6,h7,h8⟩=>⟨_,_,⟨b,f,bd,rfl,rfl⟩,h1,KAV h8 (by intro x hx; simp at hx; rcases hx with rfl|rfl|rfl; exact h2; exact h3; exact h4) (by intro x hx; simp at hx; rcases hx with rfl|rfl|rfl <;> rfl) (by intro x hx k hk; simp at hx; rcases hx with rfl|rfl|rfl <;> simp [Item.fp] at hk <;> subst hk; exact .inl h5; exact .inl h6; exact .inl h7)⟩) ?_)
  rintro _ _ ⟨b,f,bd,rfl,rfl⟩
  refine oA ?_
  refine KC ?_
  refine KB ?_
  refine KB (KA ?_)
  refine oM ?_
  refine oP (KG (Det.eqp Tryz.underlying79 rfl rfl) (show _ = Value.bool false from rfl)) ?_
  refine KC ?_
  refine KI rfl ?_
  refine KL ?_
  refine KB ?_
  refine KB (KA ?_)
  refine oM ?_
  refine oP (KG (Det.eqs rfl rfl) (congrArg Value.bool (emp_f hs0))) ?_
  refine KC ?_
  refine KI rfl ?_
  refine KL ?_
  refine KB ?_
  refine rD [] ?_
  refine aM 0 ?_
  refine aP 1 rfl (KG (Ko Tryz.underlying9 rfl rfl om om) (show _ = .int .u8 ((3:Nat):Int) from congrArg (fun n:Nat=>Value.int .u8 ((n:Nat):Int)) hb)) ?_
  refine aP 2 rfl (KAb Tryz.underlying5 Tryz.underlying3 rfl om) ?_
  refine aM 3 ?_
  refine aP 4 rfl (KG (Det.slStrL Tryz.underlying9 rfl rfl om om) (show _ = Value.string (s.extract 1 s.size) from rfl)) ?_
  refine aA 5 ?_
  refine aA 6 ?_
  refine aE ?_
  refine KB (KA ?_)
  refine oS (mk (KN zr_83) (fun b9=>?_))
  refine KC ?_
  refine KB (KA ?_)
  refine oA ?_
  refine KC ?_
  refine KB ?_
  refine LCode.block ?_
  refine KB ?_
  have hrs:(s.extract 1 s.size).size = nby V.p:=by rw [KAh _ _ _ (Nat.le_refl _)]; omega
  refine KA ?_
  refine oM ?_
  refine oP (KD (v:=.bool false) rfl rfl (br_f (Ky (b:=2)) dc)) ?_
  refine oM ?_
  refine oGM ?_
  refine oGP (KD (v:=.bool true) rfl rfl (br_t (Ky (b:=3)) (rfl))) ?_
  refine oP (KV rfl rfl) ?_
  refine oM ?_
  refine oGM ?_
  refine oGP (KAH Tryz.underlying9 rfl) ?_
  refine oGM ?_
  refine oGP (KM rfl) ?_
  refine oGP (KF (o':=0) Tryz.underlying92 rfl rfl rfl sz_89 dc) ?_
  refine oGP (KF (o':=57) Tryz.underlying89 rfl rfl rfl sz_3 dc) ?_
  refine KAS rfl rfl (dL rfl (hv:=KJ Tryz.underlying3 rfl (by exact cvC_gt_size _ _ _ _ _ _ _ _ _ _ _ _ _))) (Nb rfl) ?_
  refine oGP (KD (v:=.bool true) rfl rfl (br_t Ky (hrs))) ?_
  refine oP (KY rfl rfl) ?_
  refine oA ?_
  refine KC ?_
  refine KT rfl ?_
  refine KB ?_
  cases ok
  ·
    refine KA ?_
    refine oM ?_
    refine oS (cF rfl en_65 rfl (fun w hw=>c_nat_OfX X (s.extract 1 s.size) w om hX) ?_)
    refine oM ?_
    refine oP (Det.extract rfl rfl) ?_
    refine oP (Det.extract rfl rfl) ?_
    refine oS (mk (KN zr_25) (fun b11=>?_))
    refine KO rfl (sA rfl rfl sz_25 (by exact KAM _) (hl:=by exact KH _) (h:=?_))
    refine oA ?_
    refine KC ?_
    refine KA ?_
    refine oM ?_
    refine oD (dL rfl (hv:=by exact KE Tryz.underlying25 rfl sz_25)) ?_
    refine oM ?_
    refine oP (KD (v:=.int .i64 ((1:Nat):Int)) rfl rfl (by rfl)) ?_
    refine oS (cF rfl en_66 rfl (fun w hw=>c_liftX (X',Y',false) V b f bd hok X 1 w (mC hw) (mC hw) (mC hw) hXw dc hl) ?_)
    refine oM ?_
    refine oP (Det.extract rfl rfl) ?_
    refine oP (Det.extract rfl rfl) ?_
    refine KO rfl (sA rfl rfl sz_83 (by exact KAJ _ _ _) (hl:=by exact Kb _ _ _) (h:=?_))
    refine oA ?_
    refine KC ?_
    refine KB ?_
    refine KB (KA ?_)
    refine oM ?_
    refine oP (KG (KAN rfl) (show _ = Value.bool true from rfl)) ?_
    refine KC ?_
    refine KT rfl ?_
    refine KB (KA ?_)
    refine oP (KG (Ki pl_83 zr_83 rfl rfl) pt_zero) ?_
    refine KO rfl (sA rfl rfl sz_83 (by exact KAJ _ _ _) (hl:=by exact Kb _ _ _) (h:=?_))
    refine oP (KQ (v:=.int .i64 ((2101:Nat):Int)) rfl) ?_
    refine KC (KK ?_)
    refine ⟨[_,_],.cons ⟨_,_,_,rfl,mM,by exact KE Tryz.underlying83 rfl sz_83⟩ (.cons rfl .nil),fun a' w' hr=>⟨?_,hr.fr.below⟩⟩
    have hg:getX V s = X:=by unfold getX; rw [← hsz]; exact hX
    rw [← hg] at hl
    rw [getV_eq (get_shortF hsz hb dc hl)]
    rfl
  ·
    refine KA ?_
    refine oM ?_
    refine oS (cF rfl en_65 rfl (fun w hw=>c_nat_OfX X (s.extract 1 s.size) w om hX) ?_)
    refine oM ?_
    refine oP (Det.extract rfl rfl) ?_
    refine oP (Det.extract rfl rfl) ?_
    refine oS (mk (KN zr_25) (fun b11=>?_))
    refine KO rfl (sA rfl rfl sz_25 (by exact KAM _) (hl:=by exact KH _) (h:=?_))
    refine oA ?_
    refine KC ?_
    refine KA ?_
    refine oM ?_
    refine oD (dL rfl (hv:=by exact KE Tryz.underlying25 rfl sz_25)) ?_
    refine oM ?_
    refine oP (KD (v:=.int .i64 ((1:Nat):Int)) rfl rfl (by rfl)) ?_
    refine oS (cF rfl en_66 rfl (fun w hw=>c_liftX (X',Y',true) V b f bd hok X 1 w (mC hw) (mC hw) (mC hw) hXw dc hl) ?_)
    refine oM ?_
    refine oP (Det.extract rfl rfl) ?_
    refine oP (Det.extract rfl rfl) ?_
    refine KO rfl (sA rfl rfl sz_83 (by exact KAJ _ _ _) (hl:=by exact Kb _ _ _) (h:=?_))
    refine oA ?_
    refine KC ?_
    refine KB ?_
    refine KB (KA ?_)
    refine oM ?_
    refine oP (KG (KAN rfl) (show _ = Value.bool false from rfl)) ?_
    refine KC ?_
    refine KI rfl ?_
    refine KL ?_
    refine KB (KA ?_)
    refine oD (dL rfl (hv:=by exact KE Tryz.underlying83 rfl sz_83)) ?_
    refine KO rfl (sA rfl rfl sz_83 (by exact KAJ _ _ _) (hl:=by exact Kb _ _ _) (h:=?_))
    refine oP (KQ (v:=.int .i64 ((0:Nat):Int)) rfl) ?_
    refine KC (KK ?_)
    refine ⟨[_,_],.cons ⟨_,_,_,rfl,mM,by exact KE Tryz.underlying83 rfl sz_83⟩ (.cons rfl .nil),fun a' w' hr=>⟨?_,hr.fr.below⟩⟩
    have hg:getX V s = X:=by unfold getX; rw [← hsz]; exact hX
    rw [← hg] at hl
    rw [getV_eq (get_short hsz hb dc hl)]
    rfl
theorem c_s_Get_f2 (id:Int) (V:Cv) (s:ByteArray) (w:World) (h:cvI id = some V) (hs0:s.size≠0) (hs:s.size<9223372036854775808) (hb:b0 s = 2) (hsz:s.size≠1+nby V.p):Calls Tryz.prog 41 ([.int .i64 id,.string s]:List Value).toArray w (fun e w'=>e = .returned (.tuple #[ptV 0 0 false,.int .i64 ((2102:Nat):Int)])∧Below w.heap.size w w'):=by
  obtain ⟨hok,hid⟩:=cvI_ok h
  have hbb:=hok.bounds
  have hpW:V.p<W9:=KAB hbb.2.1
  have hnW:V.n<W9:=KAB hbb.2.2.2.2.2.2.1
  have hbl:=KAQ hnW
  have hnb:nby V.n≤72:=by (unfold nby; omega)
  have hnp:nby V.p≤72:=by have:=KAQ (KAB hbb.2.1); (unfold nby; omega)
  have hb256:=b0_lt s
  refine Ka (N:=102) (rs:=[.cell 4 83,.tmp 5]) [] Tryz.func41 rfl Tryz.ntmps41 Tryz.results41 (Nb rfl) trivial rfl ?_
  show LCode _ _ _ ⟨_,_⟩ _
  refine KB (KA ?_)
  refine oS (mk (KN zr_83) (fun b4=>?_))
  refine oP (KQ (v:=.int .i64 ((0:Nat):Int)) rfl) ?_
  refine KC ?_
  refine KB (KA ?_)
  refine oM ?_
  refine oS (KAR (Post:=fun v its=>∃ b f bd,v = .pointer (some ⟨b,0,none⟩)∧its = [.blk b ⟨false,opL V f,92,(0,0)⟩,.blk f ⟨false,fldL V.p bd,116,(0,0)⟩,.blk bd ⟨false,dvL V.p,167,(0,0)⟩]) (first:=[]) rfl en_39 rfl (Nb rfl) (fun w1 hw hs=>(c_Open _ V w1 h).mono fun e w' ⟨b,f,bd,h1,h2,h3,h4,h5,h6,h7,h8⟩=>⟨_,_,⟨b,f,bd,rfl,rfl⟩,h1,KAV h8 (by intro x hx; simp at hx; rcases hx with rfl|rfl|rfl; exact h2; exact h3; exact h4) (by intro x hx; simp at hx; rcases hx with rfl|rfl|rfl <;> rfl) (by intro x hx k hk; simp at hx; rcases hx with rfl|rfl|rfl <;> simp [Item.fp] at hk <;> subst hk; exact .inl h5; exact .inl h6; exact .inl h7)⟩) ?_)
  rintro _ _ ⟨b,f,bd,rfl,rfl⟩
  refine oA ?_
  refine KC ?_
  refine KB ?_
  refine KB (KA ?_)
  refine oM ?_
  refine oP (KG (Det.eqp Tryz.underlying79 rfl rfl) (show _ = Value.bool false from rfl)) ?_
  refine KC ?_
  refine KI rfl ?_
  refine KL ?_
  refine KB ?_
  refine KB (KA ?_)
  refine oM ?_
  refine oP (KG (Det.eqs rfl rfl) (congrArg Value.bool (emp_f hs0))) ?_
  refine KC ?_
  refine KI rfl ?_
  refine KL ?_
  refine KB ?_
  refine rD [] ?_
  refine aM 0 ?_
  refine aP 1 rfl (KG (Ko Tryz.underlying9 rfl rfl om om) (show _ = .int .u8 ((2:Nat):Int) from congrArg (fun n:Nat=>Value.int .u8 ((n:Nat):Int)) hb)) ?_
  refine aP 2 rfl (KAb Tryz.underlying5 Tryz.underlying3 rfl om) ?_
  refine aM 3 ?_
  refine aP 4 rfl (KG (Det.slStrL Tryz.underlying9 rfl rfl om om) (show _ = Value.string (s.extract 1 s.size) from rfl)) ?_
  refine aA 5 ?_
  refine aA 6 ?_
  refine aE ?_
  refine KB (KA ?_)
  refine oS (mk (KN zr_83) (fun b9=>?_))
  refine KC ?_
  refine KB (KA ?_)
  refine oA ?_
  refine KC ?_
  refine KB ?_
  refine LCode.block ?_
  refine KB ?_
  have hrs:(s.extract 1 s.size).size = s.size-1:=by rw [KAh _ _ _ (Nat.le_refl _)]
  refine KA ?_
  refine oM ?_
  refine oP (KD (v:=.bool true) rfl rfl (br_t (Ky (b:=2)) (rfl))) ?_
  refine oM ?_
  refine oK ?_
  refine oK ?_
  refine oP (KY rfl rfl) ?_
  refine oM ?_
  refine oGM ?_
  refine oGP (KAH Tryz.underlying9 rfl) ?_
  refine oGM ?_
  refine oGP (KM rfl) ?_
  refine oGP (KF (o':=0) Tryz.underlying92 rfl rfl rfl sz_89 dc) ?_
  refine oGP (KF (o':=57) Tryz.underlying89 rfl rfl rfl sz_3 dc) ?_
  refine KAS rfl rfl (dL rfl (hv:=KJ Tryz.underlying3 rfl (by exact cvC_gt_size _ _ _ _ _ _ _ _ _ _ _ _ _))) (Nb rfl) ?_
  refine oGP (KD (v:=.bool false) rfl rfl (br_f Ky (om))) ?_
  refine oP (KY rfl rfl) ?_
  refine oA ?_
  refine KC ?_
  refine KI rfl ?_
  refine KB (KA ?_)
  refine oM ?_
  refine oP (KD (v:=.bool false) rfl rfl (br_f (Ky (b:=4)) dc)) ?_
  refine oM ?_
  refine oK ?_
  refine oK ?_
  refine oK ?_
  refine oK ?_
  refine oK ?_
  refine oK ?_
  refine oK ?_
  refine oK ?_
  refine oK ?_
  refine oP (KV rfl rfl) ?_
  refine oA ?_
  refine KC ?_
  refine KI rfl ?_
  refine KB (KA ?_)
  refine oP (KG (Ki pl_83 zr_83 rfl rfl) pt_zero) ?_
  refine KO rfl (sA rfl rfl sz_83 (by exact KAJ _ _ _) (hl:=by exact Kb _ _ _) (h:=?_))
  refine oP (KQ (v:=.int .i64 ((2102:Nat):Int)) rfl) ?_
  refine KC (KK ?_)
  refine ⟨[_,_],.cons ⟨_,_,_,rfl,mM,by exact KE Tryz.underlying83 rfl sz_83⟩ (.cons rfl .nil),fun a' w' hr=>⟨?_,hr.fr.below⟩⟩
  skip
  rfl
theorem c_s_Get_f3 (id:Int) (V:Cv) (s:ByteArray) (w:World) (h:cvI id = some V) (hs0:s.size≠0) (hs:s.size<9223372036854775808) (hb:b0 s = 3) (hsz:s.size≠1+nby V.p):Calls Tryz.prog 41 ([.int .i64 id,.string s]:List Value).toArray w (fun e w'=>e = .returned (.tuple #[ptV 0 0 false,.int .i64 ((2102:Nat):Int)])∧Below w.heap.size w w'):=by
  obtain ⟨hok,hid⟩:=cvI_ok h
  have hbb:=hok.bounds
  have hpW:V.p<W9:=KAB hbb.2.1
  have hnW:V.n<W9:=KAB hbb.2.2.2.2.2.2.1
  have hbl:=KAQ hnW
  have hnb:nby V.n≤72:=by (unfold nby; omega)
  have hnp:nby V.p≤72:=by have:=KAQ (KAB hbb.2.1); (unfold nby; omega)
  have hb256:=b0_lt s
  refine Ka (N:=102) (rs:=[.cell 4 83,.tmp 5]) [] Tryz.func41 rfl Tryz.ntmps41 Tryz.results41 (Nb rfl) trivial rfl ?_
  show LCode _ _ _ ⟨_,_⟩ _
  refine KB (KA ?_)
  refine oS (mk (KN zr_83) (fun b4=>?_))
  refine oP (KQ (v:=.int .i64 ((0:Nat):Int)) rfl) ?_
  refine KC ?_
  refine KB (KA ?_)
  refine oM ?_
  refine oS (KAR (Post:=fun v its=>∃ b f bd,v = .pointer (some ⟨b,0,none⟩)∧its = [.blk b ⟨false,opL V f,92,(0,0)⟩,.blk f ⟨false,fldL V.p bd,116,(0,0)⟩,.blk bd ⟨false,dvL V.p,167,(0,0)⟩]) (first:=[]) rfl en_39 rfl (Nb rfl) (fun w1 hw hs=>(c_Open _ V w1 h).mono fun e w' ⟨b,f,bd,h1,h2,h3,h4,h5,h6,h7,h8⟩=>⟨_,_,⟨b,f,bd,rfl,rfl⟩,h1,KAV h8 (by intro x hx; simp at hx; rcases hx with rfl|rfl|rfl; exact h2; exact h3; exact h4) (by intro x hx; simp at hx; rcases hx with rfl|rfl|rfl <;> rfl) (by intro x hx k hk; simp at hx; rcases hx with rfl|rfl|rfl <;> simp [Item.fp] at hk <;> subst hk; exact .inl h5; exact .inl h6; exact .inl h7)⟩) ?_)
  rintro _ _ ⟨b,f,bd,rfl,rfl⟩
  refine oA ?_
  refine KC ?_
  refine KB ?_
  refine KB (KA ?_)
  refine oM ?_
  refine oP (KG (Det.eqp Tryz.underlying79 rfl rfl) (show _ = Value.bool false from rfl)) ?_
  refine KC ?_
  refine KI rfl ?_
  refine KL ?_
  refine KB ?_
  refine KB (KA ?_)
  refine oM ?_
  refine oP (KG (Det.eqs rfl rfl) (congrArg Value.bool (emp_f hs0))) ?_
  refine KC ?_
  refine KI rfl ?_
  refine KL ?_
  refine KB ?_
  refine rD [] ?_
  refine aM 0 ?_
  refine aP 1 rfl (KG (Ko Tryz.underlying9 rfl rfl om om) (show _ = .int .u8 ((3:Nat):Int) from congrArg (fun n:Nat=>Value.int .u8 ((n:Nat):Int)) hb)) ?_
  refine aP 2 rfl (KAb Tryz.underlying5 Tryz.underlying3 rfl om) ?_
  refine aM 3 ?_
  refine aP 4 rfl (KG (Det.slStrL Tryz.underlying9 rfl rfl om om) (show _ = Value.string (s.extract 1 s.size) from rfl)) ?_
  refine aA 5 ?_
  refine aA 6 ?_
  refine aE ?_
  refine KB (KA ?_)
  refine oS (mk (KN zr_83) (fun b9=>?_))
  refine KC ?_
  refine KB (KA ?_)
  refine oA ?_
  refine KC ?_
  refine KB ?_
  refine LCode.block ?_
  refine KB ?_
  have hrs:(s.extract 1 s.size).size = s.size-1:=by rw [KAh _ _ _ (Nat.le_refl _)]
  refine KA ?_
  refine oM ?_
  refine oP (KD (v:=.bool false) rfl rfl (br_f (Ky (b:=2)) dc)) ?_
  refine oM ?_
  refine oGM ?_
  refine oGP (KD (v:=.bool true) rfl rfl (br_t (Ky (b:=3)) (rfl))) ?_
  refine oP (KV rfl rfl) ?_
  refine oM ?_
  refine oGM ?_
  refine oGP (KAH Tryz.underlying9 rfl) ?_
  refine oGM ?_
  refine oGP (KM rfl) ?_
  refine oGP (KF (o':=0) Tryz.underlying92 rfl rfl rfl sz_89 dc) ?_
  refine oGP (KF (o':=57) Tryz.underlying89 rfl rfl rfl sz_3 dc) ?_
  refine KAS rfl rfl (dL rfl (hv:=KJ Tryz.underlying3 rfl (by exact cvC_gt_size _ _ _ _ _ _ _ _ _ _ _ _ _))) (Nb rfl) ?_
  refine oGP (KD (v:=.bool false) rfl rfl (br_f Ky (om))) ?_
  refine oP (KY rfl rfl) ?_
  refine oA ?_
  refine KC ?_
  refine KI rfl ?_
  refine KB (KA ?_)
  refine oM ?_
  refine oP (KD (v:=.bool false) rfl rfl (br_f (Ky (b:=4)) dc)) ?_
  refine oM ?_
  refine oK ?_
  refine oK ?_
  refine oK ?_
  refine oK ?_
  refine oK ?_
  refine oK ?_
  refine oK ?_
  refine oK ?_
  refine oK ?_
  refine oP (KV rfl rfl) ?_
  refine oA ?_
  refine KC ?_
  refine KI rfl ?_
  refine KB (KA ?_)
  refine oP (KG (Ki pl_83 zr_83 rfl rfl) pt_zero) ?_
  refine KO rfl (sA rfl rfl sz_83 (by exact KAJ _ _ _) (hl:=by exact Kb _ _ _) (h:=?_))
  refine oP (KQ (v:=.int .i64 ((2102:Nat):Int)) rfl) ?_
  refine KC (KK ?_)
  refine ⟨[_,_],.cons ⟨_,_,_,rfl,mM,by exact KE Tryz.underlying83 rfl sz_83⟩ (.cons rfl .nil),fun a' w' hr=>⟨?_,hr.fr.below⟩⟩
  skip
  rfl
theorem c_s_Get_f4 (id:Int) (V:Cv) (s:ByteArray) (w:World) (h:cvI id = some V) (hs0:s.size≠0) (hs:s.size<9223372036854775808) (hb:b0 s = 4) (hsz:s.size≠1+2*nby V.p):Calls Tryz.prog 41 ([.int .i64 id,.string s]:List Value).toArray w (fun e w'=>e = .returned (.tuple #[ptV 0 0 false,.int .i64 ((2102:Nat):Int)])∧Below w.heap.size w w'):=by
  obtain ⟨hok,hid⟩:=cvI_ok h
  have hbb:=hok.bounds
  have hpW:V.p<W9:=KAB hbb.2.1
  have hnW:V.n<W9:=KAB hbb.2.2.2.2.2.2.1
  have hbl:=KAQ hnW
  have hnb:nby V.n≤72:=by (unfold nby; omega)
  have hnp:nby V.p≤72:=by have:=KAQ (KAB hbb.2.1); (unfold nby; omega)
  have hb256:=b0_lt s
  refine Ka (N:=102) (rs:=[.cell 4 83,.tmp 5]) [] Tryz.func41 rfl Tryz.ntmps41 Tryz.results41 (Nb rfl) trivial rfl ?_
  show LCode _ _ _ ⟨_,_⟩ _
  refine KB (KA ?_)
  refine oS (mk (KN zr_83) (fun b4=>?_))
  refine oP (KQ (v:=.int .i64 ((0:Nat):Int)) rfl) ?_
  refine KC ?_
  refine KB (KA ?_)
  refine oM ?_
  refine oS (KAR (Post:=fun v its=>∃ b f bd,v = .pointer (some ⟨b,0,none⟩)∧its = [.blk b ⟨false,opL V f,92,(0,0)⟩,.blk f ⟨false,fldL V.p bd,116,(0,0)⟩,.blk bd ⟨false,dvL V.p,167,(0,0)⟩]) (first:=[]) rfl en_39 rfl (Nb rfl) (fun w1 hw hs=>(c_Open _ V w1 h).mono fun e w' ⟨b,f,bd,h1,h2,h3,h4,h5,h6,h7,h8⟩=>⟨_,_,⟨b,f,bd,rfl,rfl⟩,h1,KAV h8 (by intro x hx; simp at hx; rcases hx with rfl|rfl|rfl; exact h2; exact h3; exact h4) (by intro x hx; simp at hx; rcases hx with rfl|rfl|rfl <;> rfl) (by intro x hx k hk; simp at hx; rcases hx with rfl|rfl|rfl <;> simp [Item.fp] at hk <;> subst hk; exact .inl h5; exact .inl h6; exact .inl h7)⟩) ?_)
  rintro _ _ ⟨b,f,bd,rfl,rfl⟩
  refine oA ?_
  refine KC ?_
  refine KB ?_
  refine KB (KA ?_)
  refine oM ?_
  refine oP (KG (Det.eqp Tryz.underlying79 rfl rfl) (show _ = Value.bool false from rfl)) ?_
  refine KC ?_
  refine KI rfl ?_
  refine KL ?_
  refine KB ?_
  refine KB (KA ?_)
  refine oM ?_
  refine oP (KG (Det.eqs rfl rfl) (congrArg Value.bool (emp_f hs0))) ?_
  refine KC ?_
  refine KI rfl ?_
  refine KL ?_
  refine KB ?_
  refine rD [] ?_
  refine aM 0 ?_
  refine aP 1 rfl (KG (Ko Tryz.underlying9 rfl rfl om om) (show _ = .int .u8 ((4:Nat):Int) from congrArg (fun n:Nat=>Value.int .u8 ((n:Nat):Int)) hb)) ?_
  refine aP 2 rfl (KAb Tryz.underlying5 Tryz.underlying3 rfl om) ?_
  refine aM 3 ?_
  refine aP 4 rfl (KG (Det.slStrL Tryz.underlying9 rfl rfl om om) (show _ = Value.string (s.extract 1 s.size) from rfl)) ?_
  refine aA 5 ?_
  refine aA 6 ?_
  refine aE ?_
  refine KB (KA ?_)
  refine oS (mk (KN zr_83) (fun b9=>?_))
  refine KC ?_
  refine KB (KA ?_)
  refine oA ?_
  refine KC ?_
  refine KB ?_
  refine LCode.block ?_
  refine KB ?_
  have hrs:(s.extract 1 s.size).size = s.size-1:=by rw [KAh _ _ _ (Nat.le_refl _)]
  refine KA ?_
  refine oM ?_
  refine oP (KD (v:=.bool false) rfl rfl (br_f (Ky (b:=2)) dc)) ?_
  refine oM ?_
  refine oGM ?_
  refine oGP (KD (v:=.bool false) rfl rfl (br_f (Ky (b:=3)) dc)) ?_
  refine oP (KV rfl rfl) ?_
  refine oM ?_
  refine oK ?_
  refine oK ?_
  refine oK ?_
  refine oK ?_
  refine oK ?_
  refine oK ?_
  refine oK ?_
  refine oK ?_
  refine oP (KV rfl rfl) ?_
  refine oA ?_
  refine KC ?_
  refine KI rfl ?_
  refine KB (KA ?_)
  refine oM ?_
  refine oP (KD (v:=.bool true) rfl rfl (br_t (Ky (b:=4)) (rfl))) ?_
  refine oM ?_
  refine oGM ?_
  refine oGP (KAH Tryz.underlying9 rfl) ?_
  refine oGM ?_
  refine oGP (KM rfl) ?_
  refine oGP (KF (o':=0) Tryz.underlying92 rfl rfl rfl sz_89 dc) ?_
  refine oGP (KF (o':=57) Tryz.underlying89 rfl rfl rfl sz_3 dc) ?_
  refine KAS rfl rfl (dL rfl (hv:=KJ Tryz.underlying3 rfl (by exact cvC_gt_size _ _ _ _ _ _ _ _ _ _ _ _ _))) (Nb rfl) ?_
  refine oGP (KD rfl rfl (br_mul (a:=2) om)) ?_
  refine oGP (KD (v:=.bool false) rfl rfl (br_f Ky (om))) ?_
  refine oP (KY rfl rfl) ?_
  refine oA ?_
  refine KC ?_
  refine KI rfl ?_
  refine KB (KA ?_)
  refine oP (KG (Ki pl_83 zr_83 rfl rfl) pt_zero) ?_
  refine KO rfl (sA rfl rfl sz_83 (by exact KAJ _ _ _) (hl:=by exact Kb _ _ _) (h:=?_))
  refine oP (KQ (v:=.int .i64 ((2102:Nat):Int)) rfl) ?_
  refine KC (KK ?_)
  refine ⟨[_,_],.cons ⟨_,_,_,rfl,mM,by exact KE Tryz.underlying83 rfl sz_83⟩ (.cons rfl .nil),fun a' w' hr=>⟨?_,hr.fr.below⟩⟩
  skip
  rfl
theorem c_s_Get_fo (id:Int) (V:Cv) (s:ByteArray) (w:World) (h:cvI id = some V) (hs0:s.size≠0) (hs:s.size<9223372036854775808) (hb2:b0 s≠2) (hb3:b0 s≠3) (hb4:b0 s≠4):Calls Tryz.prog 41 ([.int .i64 id,.string s]:List Value).toArray w (fun e w'=>e = .returned (.tuple #[ptV 0 0 false,.int .i64 ((2102:Nat):Int)])∧Below w.heap.size w w'):=by
  obtain ⟨hok,hid⟩:=cvI_ok h
  have hbb:=hok.bounds
  have hpW:V.p<W9:=KAB hbb.2.1
  have hnW:V.n<W9:=KAB hbb.2.2.2.2.2.2.1
  have hbl:=KAQ hnW
  have hnb:nby V.n≤72:=by (unfold nby; omega)
  have hnp:nby V.p≤72:=by have:=KAQ (KAB hbb.2.1); (unfold nby; omega)
  have hb256:=b0_lt s
  refine Ka (N:=102) (rs:=[.cell 4 83,.tmp 5]) [] Tryz.func41 rfl Tryz.ntmps41 Tryz.results41 (Nb rfl) trivial rfl ?_
  show LCode _ _ _ ⟨_,_⟩ _
  refine KB (KA ?_)
  refine oS (mk (KN zr_83) (fun b4=>?_))
  refine oP (KQ (v:=.int .i64 ((0:Nat):Int)) rfl) ?_
  refine KC ?_
  refine KB (KA ?_)
  refine oM ?_
  refine oS (KAR (Post:=fun v its=>∃ b f bd,v = .pointer (some ⟨b,0,none⟩)∧its = [.blk b ⟨false,opL V f,92,(0,0)⟩,.blk f ⟨false,fldL V.p bd,116,(0,0)⟩,.blk bd ⟨false,dvL V.p,167,(0,0)⟩]) (first:=[]) rfl en_39 rfl (Nb rfl) (fun w1 hw hs=>(c_Open _ V w1 h).mono fun e w' ⟨b,f,bd,h1,h2,h3,h4,h5,h6,h7,h8⟩=>⟨_,_,⟨b,f,bd,rfl,rfl⟩,h1,KAV h8 (by intro x hx; simp at hx; rcases hx with rfl|rfl|rfl; exact h2; exact h3; exact h4) (by intro x hx; simp at hx; rcases hx with rfl|rfl|rfl <;> rfl) (by intro x hx k hk; simp at hx; rcases hx with rfl|rfl|rfl <;> simp [Item.fp] at hk <;> subst hk; exact .inl h5; exact .inl h6; exact .inl h7)⟩) ?_)
  rintro _ _ ⟨b,f,bd,rfl,rfl⟩
  refine oA ?_
  refine KC ?_
  refine KB ?_
  refine KB (KA ?_)
  refine oM ?_
  refine oP (KG (Det.eqp Tryz.underlying79 rfl rfl) (show _ = Value.bool false from rfl)) ?_
  refine KC ?_
  refine KI rfl ?_
  refine KL ?_
  refine KB ?_
  refine KB (KA ?_)
  refine oM ?_
  refine oP (KG (Det.eqs rfl rfl) (congrArg Value.bool (emp_f hs0))) ?_
  refine KC ?_
  refine KI rfl ?_
  refine KL ?_
  refine KB ?_
  refine rD [] ?_
  refine aM 0 ?_
  refine aP 1 rfl (KG (Ko Tryz.underlying9 rfl rfl om om) (show _ = .int .u8 (((b0 s):Nat):Int) from congrArg (fun n:Nat=>Value.int .u8 ((n:Nat):Int)) rfl)) ?_
  refine aP 2 rfl (KAb Tryz.underlying5 Tryz.underlying3 rfl om) ?_
  refine aM 3 ?_
  refine aP 4 rfl (KG (Det.slStrL Tryz.underlying9 rfl rfl om om) (show _ = Value.string (s.extract 1 s.size) from rfl)) ?_
  refine aA 5 ?_
  refine aA 6 ?_
  refine aE ?_
  refine KB (KA ?_)
  refine oS (mk (KN zr_83) (fun b9=>?_))
  refine KC ?_
  refine KB (KA ?_)
  refine oA ?_
  refine KC ?_
  refine KB ?_
  refine LCode.block ?_
  refine KB ?_
  have hrs:(s.extract 1 s.size).size = s.size-1:=by rw [KAh _ _ _ (Nat.le_refl _)]
  refine KA ?_
  refine oM ?_
  refine oP (KD (v:=.bool false) rfl rfl (br_f (Ky (b:=2)) (om))) ?_
  refine oM ?_
  refine oGM ?_
  refine oGP (KD (v:=.bool false) rfl rfl (br_f (Ky (b:=3)) (om))) ?_
  refine oP (KV rfl rfl) ?_
  refine oM ?_
  refine oK ?_
  refine oK ?_
  refine oK ?_
  refine oK ?_
  refine oK ?_
  refine oK ?_
  refine oK ?_
  refine oK ?_
  refine oP (KV rfl rfl) ?_
  refine oA ?_
  refine KC ?_
  refine KI rfl ?_
  refine KB (KA ?_)
  refine oM ?_
  refine oP (KD (v:=.bool false) rfl rfl (br_f (Ky (b:=4)) (om))) ?_
  refine oM ?_
  refine oK ?_
  refine oK ?_
  refine oK ?_
  refine oK ?_
  refine oK ?_
  refine oK ?_
  refine oK ?_
  refine oK ?_
  refine oK ?_
  refine oP (KV rfl rfl) ?_
  refine oA ?_
  refine KC ?_
  refine KI rfl ?_
  refine KB (KA ?_)
  refine oP (KG (Ki pl_83 zr_83 rfl rfl) pt_zero) ?_
  refine KO rfl (sA rfl rfl sz_83 (by exact KAJ _ _ _) (hl:=by exact Kb _ _ _) (h:=?_))
  refine oP (KQ (v:=.int .i64 ((2102:Nat):Int)) rfl) ?_
  refine KC (KK ?_)
  refine ⟨[_,_],.cons ⟨_,_,_,rfl,mM,by exact KE Tryz.underlying83 rfl sz_83⟩ (.cons rfl .nil),fun a' w' hr=>⟨?_,hr.fr.below⟩⟩
  skip
  rfl
theorem c_s_Get_l (id:Int) (V:Cv) (s:ByteArray) (X Y:Nat) (ok:Bool) (w:World) (h:cvI id = some V) (hsz:s.size = 1+2*nby V.p) (hb:b0 s = 4) (hX:beVal (s.extract 1 (1+nby V.p)).data.toList = X) (hY:beVal (s.extract (1+nby V.p) s.size).data.toList = Y) (hXw:X<W9) (hYw:Y<W9) (hl:onB V.p V.a V.b X Y false = ok):Calls Tryz.prog 41 ([.int .i64 id,.string s]:List Value).toArray w (fun e w'=>e = .returned (getV V s)∧Below w.heap.size w w'):=by
  obtain ⟨hok,hid⟩:=cvI_ok h
  have hbb:=hok.bounds
  have hpW:V.p<W9:=KAB hbb.2.1
  have hnW:V.n<W9:=KAB hbb.2.2.2.2.2.2.1
  have hbl:=KAQ hnW
  have hnb:nby V.n≤72:=by (unfold nby; omega)
  have hnp:nby V.p≤72:=by have:=KAQ (KAB hbb.2.1); (unfold nby; omega)
  have hs0:s.size≠0:=by omega
  refine Ka (N:=102) (rs:=[.cell 4 83,.tmp 5]) [] Tryz.func41 rfl Tryz.ntmps41 Tryz.results41 (Nb rfl) trivial rfl ?_
  show LCode _ _ _ ⟨_,_⟩ _
  refine KB (KA ?_)
  refine oS (mk (KN zr_83) (fun b4=>?_))
  refine oP (KQ (v:=.int .i64 ((0:Nat):Int)) rfl) ?_
  refine KC ?_
  refine KB (KA ?_)
  refine oM ?_
  refine oS (KAR (Post:=fun v its=>∃ b f bd,v = .pointer (some ⟨b,0,none⟩)∧its = [.blk b ⟨false,opL V f,92,(0,0)⟩,.blk f ⟨false,fldL V.p bd,116,(0,0)⟩,.blk bd ⟨false,dvL V.p,167,(0,0)⟩]) (first:=[]) rfl en_39 rfl (Nb rfl) (fun w1 hw hs=>(c_Open _ V w1 h).mono fun e w' ⟨b,f,bd,h1,h2,h3,h4,h5,h6,h7,h8⟩=>⟨_,_,⟨b,f,bd,rfl,rfl⟩,h1,KAV h8 (by intro x hx; simp at hx; rcases hx with rfl|rfl|rfl; exact h2; exact h3; exact h4) (by intro x hx; simp at hx; rcases hx with rfl|rfl|rfl <;> rfl) (by intro x hx k hk; simp at hx; rcases hx with rfl|rfl|rfl <;> simp [Item.fp] at hk <;> subst hk; exact .inl h5; exact .inl h6; exact .inl h7)⟩) ?_)
  rintro _ _ ⟨b,f,bd,rfl,rfl⟩
  refine oA ?_
  refine KC ?_
  refine KB ?_
  refine KB (KA ?_)
  refine oM ?_
  refine oP (KG (Det.eqp Tryz.underlying79 rfl rfl) (show _ = Value.bool false from rfl)) ?_
  refine KC ?_
  refine KI rfl ?_
  refine KL ?_
  refine KB ?_
  refine KB (KA ?_)
  refine oM ?_
  refine oP (KG (Det.eqs rfl rfl) (congrArg Value.bool (emp_f hs0))) ?_
  refine KC ?_
  refine KI rfl ?_
  refine KL ?_
  refine KB ?_
  refine rD [] ?_
  refine aM 0 ?_
  refine aP 1 rfl (KG (Ko Tryz.underlying9 rfl rfl om om) (show _ = .int .u8 ((4:Nat):Int) from congrArg (fun n:Nat=>Value.int .u8 ((n:Nat):Int)) hb)) ?_
  refine aP 2 rfl (KAb Tryz.underlying5 Tryz.underlying3 rfl om) ?_
  refine aM 3 ?_
  refine aP 4 rfl (KG (Det.slStrL Tryz.underlying9 rfl rfl om om) (show _ = Value.string (s.extract 1 s.size) from rfl)) ?_
  refine aA 5 ?_
  refine aA 6 ?_
  refine aE ?_
  refine KB (KA ?_)
  refine oS (mk (KN zr_83) (fun b9=>?_))
  refine KC ?_
  refine KB (KA ?_)
  refine oA ?_
  refine KC ?_
  refine KB ?_
  refine LCode.block ?_
  refine KB ?_
  have hrs:(s.extract 1 s.size).size = s.size-1:=by rw [KAh _ _ _ (Nat.le_refl _)]
  refine KA ?_
  refine oM ?_
  refine oP (KD (v:=.bool false) rfl rfl (br_f (Ky (b:=2)) dc)) ?_
  refine oM ?_
  refine oGM ?_
  refine oGP (KD (v:=.bool false) rfl rfl (br_f (Ky (b:=3)) dc)) ?_
  refine oP (KV rfl rfl) ?_
  refine oM ?_
  refine oK ?_
  refine oK ?_
  refine oK ?_
  refine oK ?_
  refine oK ?_
  refine oK ?_
  refine oK ?_
  refine oK ?_
  refine oP (KV rfl rfl) ?_
  refine oA ?_
  refine KC ?_
  refine KI rfl ?_
  refine KB (KA ?_)
  refine oM ?_
  refine oP (KD (v:=.bool true) rfl rfl (br_t (Ky (b:=4)) (rfl))) ?_
  refine oM ?_
  refine oGM ?_
  refine oGP (KAH Tryz.underlying9 rfl) ?_
  refine oGM ?_
  refine oGP (KM rfl) ?_
  refine oGP (KF (o':=0) Tryz.underlying92 rfl rfl rfl sz_89 dc) ?_
  refine oGP (KF (o':=57) Tryz.underlying89 rfl rfl rfl sz_3 dc) ?_
  refine KAS rfl rfl (dL rfl (hv:=KJ Tryz.underlying3 rfl (by exact cvC_gt_size _ _ _ _ _ _ _ _ _ _ _ _ _))) (Nb rfl) ?_
  refine oGP (KD rfl rfl (br_mul (a:=2) om)) ?_
  refine oGP (KD (v:=.bool true) rfl rfl (br_t Ky (om))) ?_
  refine oP (KY rfl rfl) ?_
  refine oA ?_
  refine KC ?_
  refine KT rfl ?_
  refine KB ?_
  refine LCode.sub (Sub.cells (b:=b9) (cs':=ptL 0 0 false) (by repeat (first|exact Sh _|apply St_)) ptX_zero) ?_
  refine KA ?_
  refine oM ?_
  refine oM ?_
  refine oP (KM rfl) ?_
  refine oP (KF (o':=0) Tryz.underlying92 rfl rfl rfl sz_89 dc) ?_
  refine oP (KF (o':=57) Tryz.underlying89 rfl rfl rfl sz_3 dc) ?_
  refine oD (dL rfl (hv:=KJ Tryz.underlying3 rfl (by exact cvC_gt_size _ _ _ _ _ _ _ _ _ _ _ _ _))) ?_
  refine oP (KG (Det.slStrH Tryz.underlying9 rfl rfl om om) (show _ = Value.string (s.extract 1 (1+nby V.p)) from by rw [Int.toNat_natCast,ext_ext s _ om])) ?_
  refine oS (cF rfl en_65 rfl (fun w hw=>c_nat_OfX X (s.extract 1 (1+nby V.p)) w (by rw [KAh _ _ _ om]; omega) hX) ?_)
  refine oM ?_
  refine oP (Det.extract rfl rfl) ?_
  refine oP (Det.extract rfl rfl) ?_
  refine oP (KF (o':=0) Tryz.underlying83 rfl rfl rfl sz_25 dc) ?_
  refine KO rfl (Kx rfl rfl rfl sz_25 (KH _) (KAM _) (by repeat (first|exact Sh _|apply St_)) (by simp only [Kb]; decide) (ptX_set0 _ _ _ _) (by simp) ?_)
  refine KC ?_
  refine KB (KA ?_)
  refine oM ?_
  refine oM ?_
  refine oP (KM rfl) ?_
  refine oP (KF (o':=0) Tryz.underlying92 rfl rfl rfl sz_89 dc) ?_
  refine oP (KF (o':=57) Tryz.underlying89 rfl rfl rfl sz_3 dc) ?_
  refine oD (dL rfl (hv:=KJ Tryz.underlying3 rfl (by exact cvC_gt_size _ _ _ _ _ _ _ _ _ _ _ _ _))) ?_
  refine oP (KG (Det.slStrL Tryz.underlying9 rfl rfl om om) (show _ = Value.string (s.extract (1+nby V.p) s.size) from by rw [Int.toNat_natCast,ext_ext2 s _ om])) ?_
  refine oS (cF rfl en_65 rfl (fun w hw=>c_nat_OfX Y (s.extract (1+nby V.p) s.size) w (by rw [KAh _ _ _ (Nat.le_refl _)]; omega) hY) ?_)
  refine oM ?_
  refine oP (Det.extract rfl rfl) ?_
  refine oP (Det.extract rfl rfl) ?_
  refine oP (KF (o':=9) Tryz.underlying83 rfl rfl rfl sz_25 dc) ?_
  refine KO rfl (Kx rfl rfl rfl sz_25 (KH _) (KAM _) (by repeat (first|exact Sh _|apply St_)) (by simp only [Kb]; decide) (ptX_set9 _ _ _ _) (by simp) ?_)
  refine KC ?_
  cases ok
  ·
    refine KA ?_
    refine oM ?_
    refine oD (dL rfl (hv:=by exact KE Tryz.underlying83 rfl sz_83)) ?_
    refine oS (cF rfl en_67 rfl (fun w hw=>c_cOnV false V b f bd hok X Y false w (mC hw) (mC hw) (mC hw) hXw hYw hl) ?_)
    refine oA ?_
    refine KC ?_
    refine KB ?_
    refine KB (KA ?_)
    refine oM ?_
    refine oP (KG (KAN rfl) (show _ = Value.bool true from rfl)) ?_
    refine KC ?_
    refine KT rfl ?_
    refine KB (KA ?_)
    refine oP (KG (Ki pl_83 zr_83 rfl rfl) pt_zero) ?_
    refine KO rfl (sA rfl rfl sz_83 (by exact KAJ _ _ _) (hl:=by exact Kb _ _ _) (h:=?_))
    refine oP (KQ (v:=.int .i64 ((2101:Nat):Int)) rfl) ?_
    refine KC (KK ?_)
    refine ⟨[_,_],.cons ⟨_,_,_,rfl,mM,by exact KE Tryz.underlying83 rfl sz_83⟩ (.cons rfl .nil),fun a' w' hr=>⟨?_,hr.fr.below⟩⟩
    subst hX hY
    rw [getV_eq (get_longF hsz hb hl)]
    rfl
  ·
    refine KA ?_
    refine oM ?_
    refine oD (dL rfl (hv:=by exact KE Tryz.underlying83 rfl sz_83)) ?_
    refine oS (cF rfl en_67 rfl (fun w hw=>c_cOnV true V b f bd hok X Y false w (mC hw) (mC hw) (mC hw) hXw hYw hl) ?_)
    refine oA ?_
    refine KC ?_
    refine KB ?_
    refine KB (KA ?_)
    refine oM ?_
    refine oP (KG (KAN rfl) (show _ = Value.bool false from rfl)) ?_
    refine KC ?_
    refine KI rfl ?_
    refine KL ?_
    refine KB (KA ?_)
    refine oD (dL rfl (hv:=by exact KE Tryz.underlying83 rfl sz_83)) ?_
    refine KO rfl (sA rfl rfl sz_83 (by exact KAJ _ _ _) (hl:=by exact Kb _ _ _) (h:=?_))
    refine oP (KQ (v:=.int .i64 ((0:Nat):Int)) rfl) ?_
    refine KC (KK ?_)
    refine ⟨[_,_],.cons ⟨_,_,_,rfl,mM,by exact KE Tryz.underlying83 rfl sz_83⟩ (.cons rfl .nil),fun a' w' hr=>⟨?_,hr.fr.below⟩⟩
    subst hX hY
    rw [getV_eq (get_long hsz hb hl)]
    unfold getX getY
    rfl
end Go.Proofs.YtlmiolnccgjjjaaGreat
set_option linter.unusedVariables false
set_option linter.unusedSimpArgs false
set_option maxRecDepth 20000
namespace Go.Proofs.YtlmiolnccgjjjaaGreat
open Go Go.RowKit
theorem c_n_ReadX (X:Nat) (s:ByteArray) (w:World) (hs:s.size≤1000000) (hX:beVal s.data.toList = X):Calls Tryz.prog 44 ([.string s]:List Value).toArray w (fun e w'=>NumR w [] X (fun v=>v) e w'):=hX ▸ c_n_Read s w hs
theorem c_n_SqrtR (r:Nat) (ok:Bool) (V:Cv) (qa qp:NV) (R:Nat) (w:World) (hok:V.Ok) (hq:(numT qa R).holds w) (hp:(numT qp V.p).holds w) (hR:R<V.p) (h1:sqR V.p R = r) (h2:sqB V.p R = ok):Calls Tryz.prog 46 ([numV qa R,numV qp V.p]:List Value).toArray w (fun e w'=>NumR w [] r (fun v=>.tuple #[v,.bool ok]) e w'):=by
  subst h1 h2; exact c_n_Sqrt V qa qp ⟨R,hR⟩ w hok hq hp
theorem c_r_rightR (R:Nat) (Q:CQ) (V:Cv) (q:NV) (X:Nat) (w:World) (hc:(crvI Q V).holds w) (hok:V.Ok) (hq:(numT q X).holds w) (hX:X<V.p) (hR:rightN V.p V.a V.b X = R):Calls Tryz.prog 47 ([.agg (crvL Q V).toArray,numV q X]:List Value).toArray w (fun e w'=>NumR w [] R (fun v=>v) e w'):=hR ▸ c_r_right Q V q X w hc hok hq hX
theorem c_n_bit0 (v A:Nat) (q:NV) (w:World) (hq:(numT q A).holds w) (h:A%2 = v):Calls Tryz.prog 33 ([numV q A,.int .i64 0]:List Value).toArray w (fun e w'=>e = .returned (.int .i64 ((v:Nat):Int))∧Below w.heap.size w w'):=by
  have h1:=c_n_Bit q A (D.nw A) 0 w hq dc
  rw [Nat.pow_zero,Nat.div_one,h] at h1
  exact h1
theorem nby_posV {V:Cv} (hok:V.Ok):1≤nby V.p:=by
  have hb:=hok.bounds
  have:=lt_blen V.p
  unfold nby
  rcases Nat.eq_zero_or_pos (blen V.p) with h|h
  · rw [h] at this; omega
  · omega
theorem rp_nilF:rpL (.slice none 0 0) (.slice none 0 0) false = rpL (numV ⟨true,0,0⟩ 0) (numV ⟨true,0,0⟩ 0) false:=by rw [← Option.some.inj numV_nil]
theorem c_r_Pt_f1 (Q:CQ) (V:Cv) (s:ByteArray) (w:World) (hc:(crvI Q V).holds w) (hok:V.Ok) (hs:s.size<9223372036854775808) (h1:s.size≠1+2*nby V.p) (h2:s.size≠1+nby V.p):Calls Tryz.prog 23 ([.agg (crvL Q V).toArray,.string s]:List Value).toArray w (fun e w'=>Num2R w [] 0 0 (fun u v=>.tuple #[rpV u v false,.int .i64 ((2102:Nat):Int)]) e w'):=by
  have hbb:=hok.bounds
  have hsz:=hok.sz
  have hnb:nby V.p≤72:=by have:=KAQ (KAB hbb.2.1); (unfold nby; omega)
  have hk1:=nby_posV hok
  have hb256:=b0_lt s
  refine Ka (N:=103) (rs:=[.cell 4 35,.tmp 5]) [crvI Q V] Tryz.func23 rfl Tryz.ntmps23 Tryz.results23 (Nb rfl) ⟨hc,trivial⟩ rfl ?_
  show LCode _ _ _ ⟨_,_⟩ _
  refine KB (KA ?_)
  refine oS (mB (fun b2=>?_))
  refine oS (mk (KN zr_35) (fun b4=>?_))
  refine oP (KQ (v:=.int .i64 ((0:Nat):Int)) rfl) ?_
  refine KC ?_
  refine KB (KA ?_)
  refine oD (dL rfl (hv:=by exact KE Tryz.underlying30 rfl sz_30)) ?_
  refine oS (cF rfl en_21 rfl (fun w hw=>c_r_Size Q V w (mC hw) hsz) ?_)
  refine oA ?_
  refine KC ?_
  refine KB (KA ?_)
  refine oM ?_
  refine oP (KAH Tryz.underlying9 rfl) ?_
  refine oM ?_
  refine oP (KD rfl rfl (br_mul (a:=2) om)) ?_
  refine oP (KD rfl rfl (Kj (a:=1) om)) ?_
  refine oP (KD (v:=.bool false) rfl rfl (br_f Ky om)) ?_
  refine oM ?_
  refine oK ?_
  refine oK ?_
  refine oK ?_
  refine oP (KV rfl rfl) ?_
  refine oA ?_
  refine KC ?_
  refine KB ?_
  refine KB (KA ?_)
  refine oM ?_
  refine oP (KG (KAN rfl) (show _ = Value.bool true from rfl)) ?_
  refine oM ?_
  refine oGM ?_
  refine oGP (KAH Tryz.underlying9 rfl) ?_
  refine oGM ?_
  refine oGP (KD rfl rfl (Kj (a:=1) om)) ?_
  refine oGP (KD (v:=.bool true) rfl rfl (br_t br_neq om)) ?_
  refine oGM ?_
  refine oK ?_
  refine oK ?_
  refine oK ?_
  refine oK ?_
  refine Kt rfl rfl (Nb rfl) ?_
  refine Kt rfl rfl (Nb rfl) ?_
  refine Kt rfl rfl (Nb rfl) ?_
  refine oK ?_
  refine oGP (KY rfl rfl) ?_
  refine oP (KY rfl rfl) ?_
  refine KC ?_
  refine KT rfl ?_
  refine KB (KA ?_)
  refine oP (KG (Ki pl_35 zr_35 rfl rfl) (show _ = rpV (.slice none 0 0) (.slice none 0 0) (false) from rfl)) ?_
  refine KO rfl (sA rfl rfl sz_35 (by repeat (first|exact Kc|refine KZ rfl ?_)) (hl:=by first|rfl|(show _<3; decide)) (h:=?_))
  refine oP (KQ (v:=.int .i64 ((2102:Nat):Int)) rfl) ?_
  refine KC (KK ?_)
  refine ⟨[_,_],.cons ⟨_,_,_,rfl,mM,by exact KE Tryz.underlying35 rfl sz_35⟩ (.cons rfl .nil),fun a' w' hr=>⟨⟨true,0,0⟩,⟨true,0,0⟩,congrArg (fun l:List Value=>Ending.returned (.tuple #[.agg l.toArray,.int .i64 ((2102:Nat):Int)])) rp_nilF,Kv _,KAd _ _,Kv _,KAd _ _,hr.fr.below⟩⟩
theorem c_r_Pt_f2 (Q:CQ) (V:Cv) (s:ByteArray) (w:World) (hc:(crvI Q V).holds w) (hok:V.Ok) (hs:s.size<9223372036854775808) (h1:s.size = 1+2*nby V.p) (h2:b0 s≠4):Calls Tryz.prog 23 ([.agg (crvL Q V).toArray,.string s]:List Value).toArray w (fun e w'=>Num2R w [] 0 0 (fun u v=>.tuple #[rpV u v false,.int .i64 ((2102:Nat):Int)]) e w'):=by
  have hbb:=hok.bounds
  have hsz:=hok.sz
  have hnb:nby V.p≤72:=by have:=KAQ (KAB hbb.2.1); (unfold nby; omega)
  have hk1:=nby_posV hok
  have hb256:=b0_lt s
  refine Ka (N:=103) (rs:=[.cell 4 35,.tmp 5]) [crvI Q V] Tryz.func23 rfl Tryz.ntmps23 Tryz.results23 (Nb rfl) ⟨hc,trivial⟩ rfl ?_
  show LCode _ _ _ ⟨_,_⟩ _
  refine KB (KA ?_)
  refine oS (mB (fun b2=>?_))
  refine oS (mk (KN zr_35) (fun b4=>?_))
  refine oP (KQ (v:=.int .i64 ((0:Nat):Int)) rfl) ?_
  refine KC ?_
  refine KB (KA ?_)
  refine oD (dL rfl (hv:=by exact KE Tryz.underlying30 rfl sz_30)) ?_
  refine oS (cF rfl en_21 rfl (fun w hw=>c_r_Size Q V w (mC hw) hsz) ?_)
  refine oA ?_
  refine KC ?_
  refine KB (KA ?_)
  refine oM ?_
  refine oP (KAH Tryz.underlying9 rfl) ?_
  refine oM ?_
  refine oP (KD rfl rfl (br_mul (a:=2) om)) ?_
  refine oP (KD rfl rfl (Kj (a:=1) om)) ?_
  refine oP (KD (v:=.bool true) rfl rfl (br_t Ky om)) ?_
  refine oM ?_
  refine oGM ?_
  refine oGP (KG (Ko Tryz.underlying9 rfl rfl om om) (show _ = .int .u8 (((b0 s):Nat):Int) from congrArg (fun n:Nat=>Value.int .u8 ((n:Nat):Int)) rfl)) ?_
  refine oGP (KD (v:=.bool false) rfl rfl (br_f (Ky (b:=4)) om)) ?_
  refine oP (KY rfl rfl) ?_
  refine oA ?_
  refine KC ?_
  refine KB ?_
  refine KB (KA ?_)
  refine oM ?_
  refine oP (KG (KAN rfl) (show _ = Value.bool true from rfl)) ?_
  refine oM ?_
  refine oGM ?_
  refine oGP (KAH Tryz.underlying9 rfl) ?_
  refine oGM ?_
  refine oGP (KD rfl rfl (Kj (a:=1) om)) ?_
  refine oGP (KD (v:=.bool true) rfl rfl (br_t br_neq om)) ?_
  refine oGM ?_
  refine oK ?_
  refine oK ?_
  refine oK ?_
  refine oK ?_
  refine Kt rfl rfl (Nb rfl) ?_
  refine Kt rfl rfl (Nb rfl) ?_
  refine Kt rfl rfl (Nb rfl) ?_
  refine oK ?_
  refine oGP (KY rfl rfl) ?_
  refine oP (KY rfl rfl) ?_
  refine KC ?_
  refine KT rfl ?_
  refine KB (KA ?_)
  refine oP (KG (Ki pl_35 zr_35 rfl rfl) (show _ = rpV (.slice none 0 0) (.slice none 0 0) (false) from rfl)) ?_
  refine KO rfl (sA rfl rfl sz_35 (by repeat (first|exact Kc|refine KZ rfl ?_)) (hl:=by first|rfl|(show _<3; decide)) (h:=?_))
  refine oP (KQ (v:=.int .i64 ((2102:Nat):Int)) rfl) ?_
  refine KC (KK ?_)
  refine ⟨[_,_],.cons ⟨_,_,_,rfl,mM,by exact KE Tryz.underlying35 rfl sz_35⟩ (.cons rfl .nil),fun a' w' hr=>⟨⟨true,0,0⟩,⟨true,0,0⟩,congrArg (fun l:List Value=>Ending.returned (.tuple #[.agg l.toArray,.int .i64 ((2102:Nat):Int)])) rp_nilF,Kv _,KAd _ _,Kv _,KAd _ _,hr.fr.below⟩⟩
theorem c_r_Pt_f3 (Q:CQ) (V:Cv) (s:ByteArray) (w:World) (hc:(crvI Q V).holds w) (hok:V.Ok) (hs:s.size<9223372036854775808) (h1:s.size = 1+nby V.p) (h2:b0 s≠2) (h3:b0 s≠3):Calls Tryz.prog 23 ([.agg (crvL Q V).toArray,.string s]:List Value).toArray w (fun e w'=>Num2R w [] 0 0 (fun u v=>.tuple #[rpV u v false,.int .i64 ((2102:Nat):Int)]) e w'):=by
  have hbb:=hok.bounds
  have hsz:=hok.sz
  have hnb:nby V.p≤72:=by have:=KAQ (KAB hbb.2.1); (unfold nby; omega)
  have hk1:=nby_posV hok
  have hb256:=b0_lt s
  refine Ka (N:=103) (rs:=[.cell 4 35,.tmp 5]) [crvI Q V] Tryz.func23 rfl Tryz.ntmps23 Tryz.results23 (Nb rfl) ⟨hc,trivial⟩ rfl ?_
  show LCode _ _ _ ⟨_,_⟩ _
  refine KB (KA ?_)
  refine oS (mB (fun b2=>?_))
  refine oS (mk (KN zr_35) (fun b4=>?_))
  refine oP (KQ (v:=.int .i64 ((0:Nat):Int)) rfl) ?_
  refine KC ?_
  refine KB (KA ?_)
  refine oD (dL rfl (hv:=by exact KE Tryz.underlying30 rfl sz_30)) ?_
  refine oS (cF rfl en_21 rfl (fun w hw=>c_r_Size Q V w (mC hw) hsz) ?_)
  refine oA ?_
  refine KC ?_
  refine KB (KA ?_)
  refine oM ?_
  refine oP (KAH Tryz.underlying9 rfl) ?_
  refine oM ?_
  refine oP (KD rfl rfl (br_mul (a:=2) om)) ?_
  refine oP (KD rfl rfl (Kj (a:=1) om)) ?_
  refine oP (KD (v:=.bool false) rfl rfl (br_f Ky om)) ?_
  refine oM ?_
  refine oK ?_
  refine oK ?_
  refine oK ?_
  refine oP (KV rfl rfl) ?_
  refine oA ?_
  refine KC ?_
  refine KB ?_
  refine KB (KA ?_)
  refine oM ?_
  refine oP (KG (KAN rfl) (show _ = Value.bool true from rfl)) ?_
  refine oM ?_
  refine oGM ?_
  refine oGP (KAH Tryz.underlying9 rfl) ?_
  refine oGM ?_
  refine oGP (KD rfl rfl (Kj (a:=1) om)) ?_
  refine oGP (KD (v:=.bool false) rfl rfl (br_f br_neq om)) ?_
  refine oGM ?_
  refine oGM ?_
  refine oGP (KG (Ko Tryz.underlying9 rfl rfl om om) (show _ = .int .u8 (((b0 s):Nat):Int) from congrArg (fun n:Nat=>Value.int .u8 ((n:Nat):Int)) rfl)) ?_
  refine oGP (KD (v:=.bool true) rfl rfl (br_t (br_neq (b:=2)) om)) ?_
  refine oGM ?_
  refine oGM ?_
  refine oGP (KG (Ko Tryz.underlying9 rfl rfl om om) (show _ = .int .u8 (((b0 s):Nat):Int) from congrArg (fun n:Nat=>Value.int .u8 ((n:Nat):Int)) rfl)) ?_
  refine oGP (KD (v:=.bool true) rfl rfl (br_t (br_neq (b:=3)) om)) ?_
  refine oGP (KY rfl rfl) ?_
  refine oGP (KV rfl rfl) ?_
  refine oP (KY rfl rfl) ?_
  refine KC ?_
  refine KT rfl ?_
  refine KB (KA ?_)
  refine oP (KG (Ki pl_35 zr_35 rfl rfl) (show _ = rpV (.slice none 0 0) (.slice none 0 0) (false) from rfl)) ?_
  refine KO rfl (sA rfl rfl sz_35 (by repeat (first|exact Kc|refine KZ rfl ?_)) (hl:=by first|rfl|(show _<3; decide)) (h:=?_))
  refine oP (KQ (v:=.int .i64 ((2102:Nat):Int)) rfl) ?_
  refine KC (KK ?_)
  refine ⟨[_,_],.cons ⟨_,_,_,rfl,mM,by exact KE Tryz.underlying35 rfl sz_35⟩ (.cons rfl .nil),fun a' w' hr=>⟨⟨true,0,0⟩,⟨true,0,0⟩,congrArg (fun l:List Value=>Ending.returned (.tuple #[.agg l.toArray,.int .i64 ((2102:Nat):Int)])) rp_nilF,Kv _,KAd _ _,Kv _,KAd _ _,hr.fr.below⟩⟩
theorem c_r_Pt_xl (Q:CQ) (V:Cv) (s:ByteArray) (X:Nat) (w:World) (hc:(crvI Q V).holds w) (hok:V.Ok) (hs:s.size<9223372036854775808) (h1:s.size = 1+2*nby V.p) (hb:b0 s = 4) (hX:beVal (s.extract 1 (1+nby V.p)).data.toList = X) (hXw:X<W9) (hXp:¬ X<V.p):Calls Tryz.prog 23 ([.agg (crvL Q V).toArray,.string s]:List Value).toArray w (fun e w'=>Num2R w [] 0 0 (fun u v=>.tuple #[rpV u v false,.int .i64 ((2101:Nat):Int)]) e w'):=by
  have hbb:=hok.bounds
  have hsz:=hok.sz
  have hnb:nby V.p≤72:=by have:=KAQ (KAB hbb.2.1); (unfold nby; omega)
  have hk1:=nby_posV hok
  have hb256:=b0_lt s
  have hXd:D.nw X≤1000000:=by have:=nw_w9_dig hXw; omega
  refine Ka (N:=103) (rs:=[.cell 4 35,.tmp 5]) [crvI Q V] Tryz.func23 rfl Tryz.ntmps23 Tryz.results23 (Nb rfl) ⟨hc,trivial⟩ rfl ?_
  show LCode _ _ _ ⟨_,_⟩ _
  refine KB (KA ?_)
  refine oS (mB (fun b2=>?_))
  refine oS (mk (KN zr_35) (fun b4=>?_))
  refine oP (KQ (v:=.int .i64 ((0:Nat):Int)) rfl) ?_
  refine KC ?_
  refine KB (KA ?_)
  refine oD (dL rfl (hv:=by exact KE Tryz.underlying30 rfl sz_30)) ?_
  refine oS (cF rfl en_21 rfl (fun w hw=>c_r_Size Q V w (mC hw) hsz) ?_)
  refine oA ?_
  refine KC ?_
  refine KB (KA ?_)
  refine oM ?_
  refine oP (KAH Tryz.underlying9 rfl) ?_
  refine oM ?_
  refine oP (KD rfl rfl (br_mul (a:=2) om)) ?_
  refine oP (KD rfl rfl (Kj (a:=1) om)) ?_
  refine oP (KD (v:=.bool true) rfl rfl (br_t Ky om)) ?_
  refine oM ?_
  refine oGM ?_
  refine oGP (KG (Ko Tryz.underlying9 rfl rfl om om) (show _ = .int .u8 ((4:Nat):Int) from congrArg (fun n:Nat=>Value.int .u8 ((n:Nat):Int)) hb)) ?_
  refine oGP (KD (v:=.bool true) rfl rfl (br_t (Ky (b:=4)) (rfl))) ?_
  refine oP (KY rfl rfl) ?_
  refine oA ?_
  refine KC ?_
  refine KB ?_
  refine KB (KA ?_)
  refine oM ?_
  refine oP (KG (KAN rfl) (show _ = Value.bool false from rfl)) ?_
  refine oM ?_
  refine oK ?_
  refine oK ?_
  refine oK ?_
  refine oK ?_
  refine oK ?_
  refine oK ?_
  refine Kt rfl rfl (Nb rfl) ?_
  refine Kt rfl rfl (Nb rfl) ?_
  refine Kt rfl rfl (Nb rfl) ?_
  refine Kt rfl rfl (Nb rfl) ?_
  refine Kt rfl rfl (Nb rfl) ?_
  refine Kt rfl rfl (Nb rfl) ?_
  refine Kt rfl rfl (Nb rfl) ?_
  refine Kt rfl rfl (Nb rfl) ?_
  refine oK ?_
  refine oP (KV rfl rfl) ?_
  refine KC ?_
  refine KI rfl ?_
  refine KL ?_
  refine KB (KA ?_)
  refine oM ?_
  refine oM ?_
  refine oP (KD rfl rfl (Kj (a:=1) om)) ?_
  refine oP (KG (Det.slStrLH Tryz.underlying9 rfl rfl rfl om om om) (show _ = Value.string (s.extract 1 (1+nby V.p)) from by rw [Int.toNat_natCast]; rfl)) ?_
  refine oS (cZ rfl en_44 rfl (fun w hw hs=>(c_n_ReadX X (s.extract 1 (1+nby V.p)) w (by rw [KAh _ _ _ om]; omega) hX).mono fun e w' h=>Kw (Old.nil _) hs h) ?_)
  rintro _ _ ⟨q48,rfl,rfl,hn48⟩
  refine oP (KG (Ki pl_35 zr_35 rfl rfl) (show _ = rpV (numV q48 X) (.slice none 0 0) (false) from rfl)) ?_
  refine oS (mk (KN zr_35) (fun b8=>?_))
  refine KO rfl (sA rfl rfl sz_35 (by repeat (first|exact Kc|refine KZ rfl ?_)) (hl:=by first|rfl|(show _<3; decide)) (h:=?_))
  refine KC ?_
  refine KB ?_
  refine KB (KA ?_)
  refine oP (KF (o':=0) Tryz.underlying35 rfl rfl rfl sz_28 dc) ?_
  refine oD (dL rfl (hv:=KJ Tryz.underlying28 rfl (by first|rfl|exact KX _ _ _ om|exact KU _ om|exact KS _ om|exact dv_m _ _ _ om))) ?_
  refine oP (KF (o':=1) Tryz.underlying30 rfl rfl rfl sz_28 dc) ?_
  refine oD (dL rfl (hv:=KJ Tryz.underlying28 rfl (by first|rfl|exact KX _ _ _ om|exact KU _ om|exact KS _ om|exact dv_m _ _ _ om))) ?_
  refine oS (cF rfl en_45 rfl (fun w hw=>c_n_Cmp q48 Q.p X V.p w (mC hw) (KAg (mC hw)) hXd) ?_)
  refine oP (KD (v:=.bool true) rfl rfl (br_t cmp_geq (Nat.le_of_not_lt hXp))) ?_
  refine KC ?_
  refine KT rfl ?_
  refine KB (KA ?_)
  refine oP (KG (Ki pl_35 zr_35 rfl rfl) (show _ = rpV (.slice none 0 0) (.slice none 0 0) (false) from rfl)) ?_
  refine KO rfl (sA rfl rfl sz_35 (by repeat (first|exact Kc|refine KZ rfl ?_)) (hl:=by first|rfl|(show _<3; decide)) (h:=?_))
  refine oP (KQ (v:=.int .i64 ((2101:Nat):Int)) rfl) ?_
  refine KC (KK ?_)
  refine ⟨[_,_],.cons ⟨_,_,_,rfl,mM,by exact KE Tryz.underlying35 rfl sz_35⟩ (.cons rfl .nil),fun a' w' hr=>⟨⟨true,0,0⟩,⟨true,0,0⟩,congrArg (fun l:List Value=>Ending.returned (.tuple #[.agg l.toArray,.int .i64 ((2101:Nat):Int)])) rp_nilF,Kv _,KAd _ _,Kv _,KAd _ _,hr.fr.below⟩⟩
theorem c_r_Pt_x0 (Q:CQ) (V:Cv) (s:ByteArray) (X:Nat) (w:World) (hc:(crvI Q V).holds w) (hok:V.Ok) (hs:s.size<9223372036854775808) (h1:s.size = 1+nby V.p) (hb:b0 s = 2) (hX:beVal (s.extract 1 (1+nby V.p)).data.toList = X) (hXw:X<W9) (hXp:¬ X<V.p):Calls Tryz.prog 23 ([.agg (crvL Q V).toArray,.string s]:List Value).toArray w (fun e w'=>Num2R w [] 0 0 (fun u v=>.tuple #[rpV u v false,.int .i64 ((2101:Nat):Int)]) e w'):=by
  have hbb:=hok.bounds
  have hsz:=hok.sz
  have hnb:nby V.p≤72:=by have:=KAQ (KAB hbb.2.1); (unfold nby; omega)
  have hk1:=nby_posV hok
  have hb256:=b0_lt s
  have hXd:D.nw X≤1000000:=by have:=nw_w9_dig hXw; omega
  refine Ka (N:=103) (rs:=[.cell 4 35,.tmp 5]) [crvI Q V] Tryz.func23 rfl Tryz.ntmps23 Tryz.results23 (Nb rfl) ⟨hc,trivial⟩ rfl ?_
  show LCode _ _ _ ⟨_,_⟩ _
  refine KB (KA ?_)
  refine oS (mB (fun b2=>?_))
  refine oS (mk (KN zr_35) (fun b4=>?_))
  refine oP (KQ (v:=.int .i64 ((0:Nat):Int)) rfl) ?_
  refine KC ?_
  refine KB (KA ?_)
  refine oD (dL rfl (hv:=by exact KE Tryz.underlying30 rfl sz_30)) ?_
  refine oS (cF rfl en_21 rfl (fun w hw=>c_r_Size Q V w (mC hw) hsz) ?_)
  refine oA ?_
  refine KC ?_
  refine KB (KA ?_)
  refine oM ?_
  refine oP (KAH Tryz.underlying9 rfl) ?_
  refine oM ?_
  refine oP (KD rfl rfl (br_mul (a:=2) om)) ?_
  refine oP (KD rfl rfl (Kj (a:=1) om)) ?_
  refine oP (KD (v:=.bool false) rfl rfl (br_f Ky om)) ?_
  refine oM ?_
  refine oK ?_
  refine oK ?_
  refine oK ?_
  refine oP (KV rfl rfl) ?_
  refine oA ?_
  refine KC ?_
  refine KB ?_
  refine KB (KA ?_)
  refine oM ?_
  refine oP (KG (KAN rfl) (show _ = Value.bool true from rfl)) ?_
  refine oM ?_
  refine oGM ?_
  refine oGP (KAH Tryz.underlying9 rfl) ?_
  refine oGM ?_
  refine oGP (KD rfl rfl (Kj (a:=1) om)) ?_
  refine oGP (KD (v:=.bool false) rfl rfl (br_f br_neq om)) ?_
  refine oGM ?_
  refine oGM ?_
  refine oGP (KG (Ko Tryz.underlying9 rfl rfl om om) (show _ = .int .u8 ((2:Nat):Int) from congrArg (fun n:Nat=>Value.int .u8 ((n:Nat):Int)) hb)) ?_
  refine oGP (KD (v:=.bool false) rfl rfl (br_f (br_neq (b:=2)) dc)) ?_
  refine oGM ?_
  refine oK ?_
  refine oK ?_
  refine oK ?_
  refine oGP (KV rfl rfl) ?_
  refine oGP (KV rfl rfl) ?_
  refine oP (KY rfl rfl) ?_
  refine KC ?_
  refine KI rfl ?_
  refine KL ?_
  refine KB (KA ?_)
  refine oM ?_
  refine oM ?_
  refine oP (KD rfl rfl (Kj (a:=1) om)) ?_
  refine oP (KG (Det.slStrLH Tryz.underlying9 rfl rfl rfl om om om) (show _ = Value.string (s.extract 1 (1+nby V.p)) from by rw [Int.toNat_natCast]; rfl)) ?_
  refine oS (cZ rfl en_44 rfl (fun w hw hs=>(c_n_ReadX X (s.extract 1 (1+nby V.p)) w (by rw [KAh _ _ _ om]; omega) hX).mono fun e w' h=>Kw (Old.nil _) hs h) ?_)
  rintro _ _ ⟨q48,rfl,rfl,hn48⟩
  refine oP (KG (Ki pl_35 zr_35 rfl rfl) (show _ = rpV (numV q48 X) (.slice none 0 0) (false) from rfl)) ?_
  refine oS (mk (KN zr_35) (fun b8=>?_))
  refine KO rfl (sA rfl rfl sz_35 (by repeat (first|exact Kc|refine KZ rfl ?_)) (hl:=by first|rfl|(show _<3; decide)) (h:=?_))
  refine KC ?_
  refine KB ?_
  refine KB (KA ?_)
  refine oP (KF (o':=0) Tryz.underlying35 rfl rfl rfl sz_28 dc) ?_
  refine oD (dL rfl (hv:=KJ Tryz.underlying28 rfl (by first|rfl|exact KX _ _ _ om|exact KU _ om|exact KS _ om|exact dv_m _ _ _ om))) ?_
  refine oP (KF (o':=1) Tryz.underlying30 rfl rfl rfl sz_28 dc) ?_
  refine oD (dL rfl (hv:=KJ Tryz.underlying28 rfl (by first|rfl|exact KX _ _ _ om|exact KU _ om|exact KS _ om|exact dv_m _ _ _ om))) ?_
  refine oS (cF rfl en_45 rfl (fun w hw=>c_n_Cmp q48 Q.p X V.p w (mC hw) (KAg (mC hw)) hXd) ?_)
  refine oP (KD (v:=.bool true) rfl rfl (br_t cmp_geq (Nat.le_of_not_lt hXp))) ?_
  refine KC ?_
  refine KT rfl ?_
  refine KB (KA ?_)
  refine oP (KG (Ki pl_35 zr_35 rfl rfl) (show _ = rpV (.slice none 0 0) (.slice none 0 0) (false) from rfl)) ?_
  refine KO rfl (sA rfl rfl sz_35 (by repeat (first|exact Kc|refine KZ rfl ?_)) (hl:=by first|rfl|(show _<3; decide)) (h:=?_))
  refine oP (KQ (v:=.int .i64 ((2101:Nat):Int)) rfl) ?_
  refine KC (KK ?_)
  refine ⟨[_,_],.cons ⟨_,_,_,rfl,mM,by exact KE Tryz.underlying35 rfl sz_35⟩ (.cons rfl .nil),fun a' w' hr=>⟨⟨true,0,0⟩,⟨true,0,0⟩,congrArg (fun l:List Value=>Ending.returned (.tuple #[.agg l.toArray,.int .i64 ((2101:Nat):Int)])) rp_nilF,Kv _,KAd _ _,Kv _,KAd _ _,hr.fr.below⟩⟩
theorem c_r_Pt_x1 (Q:CQ) (V:Cv) (s:ByteArray) (X:Nat) (w:World) (hc:(crvI Q V).holds w) (hok:V.Ok) (hs:s.size<9223372036854775808) (h1:s.size = 1+nby V.p) (hb:b0 s = 3) (hX:beVal (s.extract 1 (1+nby V.p)).data.toList = X) (hXw:X<W9) (hXp:¬ X<V.p):Calls Tryz.prog 23 ([.agg (crvL Q V).toArray,.string s]:List Value).toArray w (fun e w'=>Num2R w [] 0 0 (fun u v=>.tuple #[rpV u v false,.int .i64 ((2101:Nat):Int)]) e w'):=by
  have hbb:=hok.bounds
  have hsz:=hok.sz
  have hnb:nby V.p≤72:=by have:=KAQ (KAB hbb.2.1); (unfold nby; omega)
  have hk1:=nby_posV hok
  have hb256:=b0_lt s
  have hXd:D.nw X≤1000000:=by have:=nw_w9_dig hXw; omega
  refine Ka (N:=103) (rs:=[.cell 4 35,.tmp 5]) [crvI Q V] Tryz.func23 rfl Tryz.ntmps23 Tryz.results23 (Nb rfl) ⟨hc,trivial⟩ rfl ?_
  show LCode _ _ _ ⟨_,_⟩ _
  refine KB (KA ?_)
  refine oS (mB (fun b2=>?_))
  refine oS (mk (KN zr_35) (fun b4=>?_))
  refine oP (KQ (v:=.int .i64 ((0:Nat):Int)) rfl) ?_
  refine KC ?_
  refine KB (KA ?_)
  refine oD (dL rfl (hv:=by exact KE Tryz.underlying30 rfl sz_30)) ?_
  refine oS (cF rfl en_21 rfl (fun w hw=>c_r_Size Q V w (mC hw) hsz) ?_)
  refine oA ?_
  refine KC ?_
  refine KB (KA ?_)
  refine oM ?_
  refine oP (KAH Tryz.underlying9 rfl) ?_
  refine oM ?_
  refine oP (KD rfl rfl (br_mul (a:=2) om)) ?_
  refine oP (KD rfl rfl (Kj (a:=1) om)) ?_
  refine oP (KD (v:=.bool false) rfl rfl (br_f Ky om)) ?_
  refine oM ?_
  refine oK ?_
  refine oK ?_
  refine oK ?_
  refine oP (KV rfl rfl) ?_
  refine oA ?_
  refine KC ?_
  refine KB ?_
  refine KB (KA ?_)
  refine oM ?_
  refine oP (KG (KAN rfl) (show _ = Value.bool true from rfl)) ?_
  refine oM ?_
  refine oGM ?_
  refine oGP (KAH Tryz.underlying9 rfl) ?_
  refine oGM ?_
  refine oGP (KD rfl rfl (Kj (a:=1) om)) ?_
  refine oGP (KD (v:=.bool false) rfl rfl (br_f br_neq om)) ?_
  refine oGM ?_
  refine oGM ?_
  refine oGP (KG (Ko Tryz.underlying9 rfl rfl om om) (show _ = .int .u8 ((3:Nat):Int) from congrArg (fun n:Nat=>Value.int .u8 ((n:Nat):Int)) hb)) ?_
  refine oGP (KD (v:=.bool true) rfl rfl (br_t (br_neq (b:=2)) dc)) ?_
  refine oGM ?_
  refine oGM ?_
  refine oGP (KG (Ko Tryz.underlying9 rfl rfl om om) (show _ = .int .u8 ((3:Nat):Int) from congrArg (fun n:Nat=>Value.int .u8 ((n:Nat):Int)) hb)) ?_
  refine oGP (KD (v:=.bool false) rfl rfl (br_f (br_neq (b:=3)) dc)) ?_
  refine oGP (KY rfl rfl) ?_
  refine oGP (KV rfl rfl) ?_
  refine oP (KY rfl rfl) ?_
  refine KC ?_
  refine KI rfl ?_
  refine KL ?_
  refine KB (KA ?_)
  refine oM ?_
  refine oM ?_
  refine oP (KD rfl rfl (Kj (a:=1) om)) ?_
  refine oP (KG (Det.slStrLH Tryz.underlying9 rfl rfl rfl om om om) (show _ = Value.string (s.extract 1 (1+nby V.p)) from by rw [Int.toNat_natCast]; rfl)) ?_
  refine oS (cZ rfl en_44 rfl (fun w hw hs=>(c_n_ReadX X (s.extract 1 (1+nby V.p)) w (by rw [KAh _ _ _ om]; omega) hX).mono fun e w' h=>Kw (Old.nil _) hs h) ?_)
  rintro _ _ ⟨q48,rfl,rfl,hn48⟩
  refine oP (KG (Ki pl_35 zr_35 rfl rfl) (show _ = rpV (numV q48 X) (.slice none 0 0) (false) from rfl)) ?_
  refine oS (mk (KN zr_35) (fun b8=>?_))
  refine KO rfl (sA rfl rfl sz_35 (by repeat (first|exact Kc|refine KZ rfl ?_)) (hl:=by first|rfl|(show _<3; decide)) (h:=?_))
  refine KC ?_
  refine KB ?_
  refine KB (KA ?_)
  refine oP (KF (o':=0) Tryz.underlying35 rfl rfl rfl sz_28 dc) ?_
  refine oD (dL rfl (hv:=KJ Tryz.underlying28 rfl (by first|rfl|exact KX _ _ _ om|exact KU _ om|exact KS _ om|exact dv_m _ _ _ om))) ?_
  refine oP (KF (o':=1) Tryz.underlying30 rfl rfl rfl sz_28 dc) ?_
  refine oD (dL rfl (hv:=KJ Tryz.underlying28 rfl (by first|rfl|exact KX _ _ _ om|exact KU _ om|exact KS _ om|exact dv_m _ _ _ om))) ?_
  refine oS (cF rfl en_45 rfl (fun w hw=>c_n_Cmp q48 Q.p X V.p w (mC hw) (KAg (mC hw)) hXd) ?_)
  refine oP (KD (v:=.bool true) rfl rfl (br_t cmp_geq (Nat.le_of_not_lt hXp))) ?_
  refine KC ?_
  refine KT rfl ?_
  refine KB (KA ?_)
  refine oP (KG (Ki pl_35 zr_35 rfl rfl) (show _ = rpV (.slice none 0 0) (.slice none 0 0) (false) from rfl)) ?_
  refine KO rfl (sA rfl rfl sz_35 (by repeat (first|exact Kc|refine KZ rfl ?_)) (hl:=by first|rfl|(show _<3; decide)) (h:=?_))
  refine oP (KQ (v:=.int .i64 ((2101:Nat):Int)) rfl) ?_
  refine KC (KK ?_)
  refine ⟨[_,_],.cons ⟨_,_,_,rfl,mM,by exact KE Tryz.underlying35 rfl sz_35⟩ (.cons rfl .nil),fun a' w' hr=>⟨⟨true,0,0⟩,⟨true,0,0⟩,congrArg (fun l:List Value=>Ending.returned (.tuple #[.agg l.toArray,.int .i64 ((2101:Nat):Int)])) rp_nilF,Kv _,KAd _ _,Kv _,KAd _ _,hr.fr.below⟩⟩
theorem c_r_Pt_l0 (Q:CQ) (V:Cv) (s:ByteArray) (X Y:Nat) (w:World) (hc:(crvI Q V).holds w) (hok:V.Ok) (hs:s.size<9223372036854775808) (h1:s.size = 1+2*nby V.p) (hb:b0 s = 4) (hX:beVal (s.extract 1 (1+nby V.p)).data.toList = X) (hXw:X<W9) (hY:beVal (s.extract (1+nby V.p) s.size).data.toList = Y) (hYw:Y<W9) (hXp:X<V.p) (hon:onB V.p V.a V.b X Y false = false):Calls Tryz.prog 23 ([.agg (crvL Q V).toArray,.string s]:List Value).toArray w (fun e w'=>Num2R w [] 0 0 (fun u v=>.tuple #[rpV u v false,.int .i64 ((2101:Nat):Int)]) e w'):=by
  have hbb:=hok.bounds
  have hsz:=hok.sz
  have hnb:nby V.p≤72:=by have:=KAQ (KAB hbb.2.1); (unfold nby; omega)
  have hk1:=nby_posV hok
  have hb256:=b0_lt s
  have hXd:D.nw X≤1000000:=by have:=nw_w9_dig hXw; omega
  have hYd:D.nw Y≤1000:=by have:=nw_w9_dig hYw; omega
  have hXd2:D.nw X≤1000:=by have:=nw_w9_dig hXw; omega
  refine Ka (N:=103) (rs:=[.cell 4 35,.tmp 5]) [crvI Q V] Tryz.func23 rfl Tryz.ntmps23 Tryz.results23 (Nb rfl) ⟨hc,trivial⟩ rfl ?_
  show LCode _ _ _ ⟨_,_⟩ _
  refine KB (KA ?_)
  refine oS (mB (fun b2=>?_))
  refine oS (mk (KN zr_35) (fun b4=>?_))
  refine oP (KQ (v:=.int .i64 ((0:Nat):Int)) rfl) ?_
  refine KC ?_
  refine KB (KA ?_)
  refine oD (dL rfl (hv:=by exact KE Tryz.underlying30 rfl sz_30)) ?_
  refine oS (cF rfl en_21 rfl (fun w hw=>c_r_Size Q V w (mC hw) hsz) ?_)
  refine oA ?_
  refine KC ?_
  refine KB (KA ?_)
  refine oM ?_
  refine oP (KAH Tryz.underlying9 rfl) ?_
  refine oM ?_
  refine oP (KD rfl rfl (br_mul (a:=2) om)) ?_
  refine oP (KD rfl rfl (Kj (a:=1) om)) ?_
  refine oP (KD (v:=.bool true) rfl rfl (br_t Ky om)) ?_
  refine oM ?_
  refine oGM ?_
  refine oGP (KG (Ko Tryz.underlying9 rfl rfl om om) (show _ = .int .u8 ((4:Nat):Int) from congrArg (fun n:Nat=>Value.int .u8 ((n:Nat):Int)) hb)) ?_
  refine oGP (KD (v:=.bool true) rfl rfl (br_t (Ky (b:=4)) (rfl))) ?_
  refine oP (KY rfl rfl) ?_
  refine oA ?_
  refine KC ?_
  refine KB ?_
  refine KB (KA ?_)
  refine oM ?_
  refine oP (KG (KAN rfl) (show _ = Value.bool false from rfl)) ?_
  refine oM ?_
  refine oK ?_
  refine oK ?_
  refine oK ?_
  refine oK ?_
  refine oK ?_
  refine oK ?_
  refine Kt rfl rfl (Nb rfl) ?_
  refine Kt rfl rfl (Nb rfl) ?_
  refine Kt rfl rfl (Nb rfl) ?_
  refine Kt rfl rfl (Nb rfl) ?_
  refine Kt rfl rfl (Nb rfl) ?_
  refine Kt rfl rfl (Nb rfl) ?_
  refine Kt rfl rfl (Nb rfl) ?_
  refine Kt rfl rfl (Nb rfl) ?_
  refine oK ?_
  refine oP (KV rfl rfl) ?_
  refine KC ?_
  refine KI rfl ?_
  refine KL ?_
  refine KB (KA ?_)
  refine oM ?_
  refine oM ?_
  refine oP (KD rfl rfl (Kj (a:=1) om)) ?_
  refine oP (KG (Det.slStrLH Tryz.underlying9 rfl rfl rfl om om om) (show _ = Value.string (s.extract 1 (1+nby V.p)) from by rw [Int.toNat_natCast]; rfl)) ?_
  refine oS (cZ rfl en_44 rfl (fun w hw hs=>(c_n_ReadX X (s.extract 1 (1+nby V.p)) w (by rw [KAh _ _ _ om]; omega) hX).mono fun e w' h=>Kw (Old.nil _) hs h) ?_)
  rintro _ _ ⟨q48,rfl,rfl,hn48⟩
  refine oP (KG (Ki pl_35 zr_35 rfl rfl) (show _ = rpV (numV q48 X) (.slice none 0 0) (false) from rfl)) ?_
  refine oS (mk (KN zr_35) (fun b8=>?_))
  refine KO rfl (sA rfl rfl sz_35 (by repeat (first|exact Kc|refine KZ rfl ?_)) (hl:=by first|rfl|(show _<3; decide)) (h:=?_))
  refine KC ?_
  refine KB ?_
  refine KB (KA ?_)
  refine oP (KF (o':=0) Tryz.underlying35 rfl rfl rfl sz_28 dc) ?_
  refine oD (dL rfl (hv:=KJ Tryz.underlying28 rfl (by first|rfl|exact KX _ _ _ om|exact KU _ om|exact KS _ om|exact dv_m _ _ _ om))) ?_
  refine oP (KF (o':=1) Tryz.underlying30 rfl rfl rfl sz_28 dc) ?_
  refine oD (dL rfl (hv:=KJ Tryz.underlying28 rfl (by first|rfl|exact KX _ _ _ om|exact KU _ om|exact KS _ om|exact dv_m _ _ _ om))) ?_
  refine oS (cF rfl en_45 rfl (fun w hw=>c_n_Cmp q48 Q.p X V.p w (mC hw) (KAg (mC hw)) hXd) ?_)
  refine oP (KD (v:=.bool false) rfl rfl (br_f cmp_geq (Nat.not_le_of_gt hXp))) ?_
  refine KC ?_
  refine KI rfl ?_
  refine KL ?_
  refine KB ?_
  refine KB (KA ?_)
  refine oM ?_
  refine KC ?_
  refine KT rfl ?_
  refine KB (KA ?_)
  refine oM ?_
  refine oM ?_
  refine oP (KD rfl rfl (Kj (a:=1) om)) ?_
  refine oP (KG (Det.slStrL Tryz.underlying9 rfl rfl om om) (show _ = Value.string (s.extract (1+nby V.p) s.size) from by rw [Int.toNat_natCast])) ?_
  refine oS (cZ rfl en_44 rfl (fun w hw hs=>(c_n_ReadX Y (s.extract (1+nby V.p) s.size) w (by rw [KAh _ _ _ (Nat.le_refl _)]; omega) hY).mono fun e w' h=>Kw (Old.nil _) hs h) ?_)
  rintro _ _ ⟨q62,rfl,rfl,hn62⟩
  refine oP (KF (o':=1) Tryz.underlying35 rfl rfl rfl sz_28 dc) ?_
  refine KO rfl (Ke rfl rfl rfl sz_28 (by repeat (first|exact Sh _|apply St_)) (by first|rfl|(show _<3; decide)) (by first|exact KAA _ _ _ _ _|exact KAF _ _ _ _ om|exact KAC _ _ _ _|rfl) (by simp) ?_)
  refine KC ?_
  refine KB ?_
  refine KB (KA ?_)
  refine oD (dL rfl (hv:=by exact KE Tryz.underlying30 rfl sz_30)) ?_
  refine oD (dL rfl (hv:=by exact KE Tryz.underlying35 rfl sz_35)) ?_
  refine oS (cF rfl en_38 rfl (fun w hw=>c_r_OnV false Q V q48 q62 X Y false w (mC hw) hok (mC hw) (mC hw) hXd2 hYd hon) ?_)
  refine oP (KG (KAN rfl) (show _ = Value.bool true from rfl)) ?_
  refine KC ?_
  refine KT rfl ?_
  refine KB (KA ?_)
  refine oP (KG (Ki pl_35 zr_35 rfl rfl) (show _ = rpV (.slice none 0 0) (.slice none 0 0) (false) from rfl)) ?_
  refine KO rfl (sA rfl rfl sz_35 (by repeat (first|exact Kc|refine KZ rfl ?_)) (hl:=by first|rfl|(show _<3; decide)) (h:=?_))
  refine oP (KQ (v:=.int .i64 ((2101:Nat):Int)) rfl) ?_
  refine KC (KK ?_)
  refine ⟨[_,_],.cons ⟨_,_,_,rfl,mM,by exact KE Tryz.underlying35 rfl sz_35⟩ (.cons rfl .nil),fun a' w' hr=>⟨⟨true,0,0⟩,⟨true,0,0⟩,congrArg (fun l:List Value=>Ending.returned (.tuple #[.agg l.toArray,.int .i64 ((2101:Nat):Int)])) rp_nilF,Kv _,KAd _ _,Kv _,KAd _ _,hr.fr.below⟩⟩
theorem c_r_Pt_l1 (Q:CQ) (V:Cv) (s:ByteArray) (X Y:Nat) (w:World) (hc:(crvI Q V).holds w) (hok:V.Ok) (hs:s.size<9223372036854775808) (h1:s.size = 1+2*nby V.p) (hb:b0 s = 4) (hX:beVal (s.extract 1 (1+nby V.p)).data.toList = X) (hXw:X<W9) (hY:beVal (s.extract (1+nby V.p) s.size).data.toList = Y) (hYw:Y<W9) (hXp:X<V.p) (hon:onB V.p V.a V.b X Y false = true):Calls Tryz.prog 23 ([.agg (crvL Q V).toArray,.string s]:List Value).toArray w (fun e w'=>Num2R w [] X Y (fun u v=>.tuple #[rpV u v false,.int .i64 ((0:Nat):Int)]) e w'):=by
  have hbb:=hok.bounds
  have hsz:=hok.sz
  have hnb:nby V.p≤72:=by have:=KAQ (KAB hbb.2.1); (unfold nby; omega)
  have hk1:=nby_posV hok
  have hb256:=b0_lt s
  have hXd:D.nw X≤1000000:=by have:=nw_w9_dig hXw; omega
  have hYd:D.nw Y≤1000:=by have:=nw_w9_dig hYw; omega
  have hXd2:D.nw X≤1000:=by have:=nw_w9_dig hXw; omega
  refine Ka (N:=103) (rs:=[.cell 4 35,.tmp 5]) [crvI Q V] Tryz.func23 rfl Tryz.ntmps23 Tryz.results23 (Nb rfl) ⟨hc,trivial⟩ rfl ?_
  show LCode _ _ _ ⟨_,_⟩ _
  refine KB (KA ?_)
  refine oS (mB (fun b2=>?_))
  refine oS (mk (KN zr_35) (fun b4=>?_))
  refine oP (KQ (v:=.int .i64 ((0:Nat):Int)) rfl) ?_
  refine KC ?_
  refine KB (KA ?_)
  refine oD (dL rfl (hv:=by exact KE Tryz.underlying30 rfl sz_30)) ?_
  refine oS (cF rfl en_21 rfl (fun w hw=>c_r_Size Q V w (mC hw) hsz) ?_)
  refine oA ?_
  refine KC ?_
  refine KB (KA ?_)
  refine oM ?_
  refine oP (KAH Tryz.underlying9 rfl) ?_
  refine oM ?_
  refine oP (KD rfl rfl (br_mul (a:=2) om)) ?_
  refine oP (KD rfl rfl (Kj (a:=1) om)) ?_
  refine oP (KD (v:=.bool true) rfl rfl (br_t Ky om)) ?_
  refine oM ?_
  refine oGM ?_
  refine oGP (KG (Ko Tryz.underlying9 rfl rfl om om) (show _ = .int .u8 ((4:Nat):Int) from congrArg (fun n:Nat=>Value.int .u8 ((n:Nat):Int)) hb)) ?_
  refine oGP (KD (v:=.bool true) rfl rfl (br_t (Ky (b:=4)) (rfl))) ?_
  refine oP (KY rfl rfl) ?_
  refine oA ?_
  refine KC ?_
  refine KB ?_
  refine KB (KA ?_)
  refine oM ?_
  refine oP (KG (KAN rfl) (show _ = Value.bool false from rfl)) ?_
  refine oM ?_
  refine oK ?_
  refine oK ?_
  refine oK ?_
  refine oK ?_
  refine oK ?_
  refine oK ?_
  refine Kt rfl rfl (Nb rfl) ?_
  refine Kt rfl rfl (Nb rfl) ?_
  refine Kt rfl rfl (Nb rfl) ?_
  refine Kt rfl rfl (Nb rfl) ?_
  refine Kt rfl rfl (Nb rfl) ?_
  refine Kt rfl rfl (Nb rfl) ?_
  refine Kt rfl rfl (Nb rfl) ?_
  refine Kt rfl rfl (Nb rfl) ?_
  refine oK ?_
  refine oP (KV rfl rfl) ?_
  refine KC ?_
  refine KI rfl ?_
  refine KL ?_
  refine KB (KA ?_)
  refine oM ?_
  refine oM ?_
  refine oP (KD rfl rfl (Kj (a:=1) om)) ?_
  refine oP (KG (Det.slStrLH Tryz.underlying9 rfl rfl rfl om om om) (show _ = Value.string (s.extract 1 (1+nby V.p)) from by rw [Int.toNat_natCast]; rfl)) ?_
  refine oS (cZ rfl en_44 rfl (fun w hw hs=>(c_n_ReadX X (s.extract 1 (1+nby V.p)) w (by rw [KAh _ _ _ om]; omega) hX).mono fun e w' h=>Kw (Old.nil _) hs h) ?_)
  rintro _ _ ⟨q48,rfl,rfl,hn48⟩
  refine oP (KG (Ki pl_35 zr_35 rfl rfl) (show _ = rpV (numV q48 X) (.slice none 0 0) (false) from rfl)) ?_
  refine oS (mk (KN zr_35) (fun b8=>?_))
  refine KO rfl (sA rfl rfl sz_35 (by repeat (first|exact Kc|refine KZ rfl ?_)) (hl:=by first|rfl|(show _<3; decide)) (h:=?_))
  refine KC ?_
  refine KB ?_
  refine KB (KA ?_)
  refine oP (KF (o':=0) Tryz.underlying35 rfl rfl rfl sz_28 dc) ?_
  refine oD (dL rfl (hv:=KJ Tryz.underlying28 rfl (by first|rfl|exact KX _ _ _ om|exact KU _ om|exact KS _ om|exact dv_m _ _ _ om))) ?_
  refine oP (KF (o':=1) Tryz.underlying30 rfl rfl rfl sz_28 dc) ?_
  refine oD (dL rfl (hv:=KJ Tryz.underlying28 rfl (by first|rfl|exact KX _ _ _ om|exact KU _ om|exact KS _ om|exact dv_m _ _ _ om))) ?_
  refine oS (cF rfl en_45 rfl (fun w hw=>c_n_Cmp q48 Q.p X V.p w (mC hw) (KAg (mC hw)) hXd) ?_)
  refine oP (KD (v:=.bool false) rfl rfl (br_f cmp_geq (Nat.not_le_of_gt hXp))) ?_
  refine KC ?_
  refine KI rfl ?_
  refine KL ?_
  refine KB ?_
  refine KB (KA ?_)
  refine oM ?_
  refine KC ?_
  refine KT rfl ?_
  refine KB (KA ?_)
  refine oM ?_
  refine oM ?_
  refine oP (KD rfl rfl (Kj (a:=1) om)) ?_
  refine oP (KG (Det.slStrL Tryz.underlying9 rfl rfl om om) (show _ = Value.string (s.extract (1+nby V.p) s.size) from by rw [Int.toNat_natCast])) ?_
  refine oS (cZ rfl en_44 rfl (fun w hw hs=>(c_n_ReadX Y (s.extract (1+nby V.p) s.size) w (by rw [KAh _ _ _ (Nat.le_refl _)]; omega) hY).mono fun e w' h=>Kw (Old.nil _) hs h) ?_)
  rintro _ _ ⟨q62,rfl,rfl,hn62⟩
  refine oP (KF (o':=1) Tryz.underlying35 rfl rfl rfl sz_28 dc) ?_
  refine KO rfl (Ke rfl rfl rfl sz_28 (by repeat (first|exact Sh _|apply St_)) (by first|rfl|(show _<3; decide)) (by first|exact KAA _ _ _ _ _|exact KAF _ _ _ _ om|exact KAC _ _ _ _|rfl) (by simp) ?_)
  refine KC ?_
  refine KB ?_
  refine KB (KA ?_)
  refine oD (dL rfl (hv:=by exact KE Tryz.underlying30 rfl sz_30)) ?_
  refine oD (dL rfl (hv:=by exact KE Tryz.underlying35 rfl sz_35)) ?_
  refine oS (cF rfl en_38 rfl (fun w hw=>c_r_OnV true Q V q48 q62 X Y false w (mC hw) hok (mC hw) (mC hw) hXd2 hYd hon) ?_)
  refine oP (KG (KAN rfl) (show _ = Value.bool false from rfl)) ?_
  refine KC ?_
  refine KI rfl ?_
  refine KL ?_
  refine KB (KA ?_)
  refine oD (dL rfl (hv:=by exact KE Tryz.underlying35 rfl sz_35)) ?_
  refine KO rfl (sA rfl rfl sz_35 (by repeat (first|exact Kc|refine KZ rfl ?_)) (hl:=by first|rfl|(show _<3; decide)) (h:=?_))
  refine oP (KQ (v:=.int .i64 ((0:Nat):Int)) rfl) ?_
  refine KC (KK ?_)
  refine ⟨[_,_],.cons ⟨_,_,_,rfl,mM,by exact KE Tryz.underlying35 rfl sz_35⟩ (.cons rfl .nil),fun a' w' hr=>hr.num2Q (q:=q48) (r:=q62) (mk:=fun u v=>.tuple #[rpV u v false,.int .i64 ((0:Nat):Int)]) mM hn48 mM hn62⟩
theorem c_r_Pt_n0 (Q:CQ) (V:Cv) (s:ByteArray) (X R:Nat) (w:World) (hc:(crvI Q V).holds w) (hok:V.Ok) (hs:s.size<9223372036854775808) (h1:s.size = 1+nby V.p) (hb:b0 s = 2) (hX:beVal (s.extract 1 (1+nby V.p)).data.toList = X) (hXw:X<W9) (hXp:X<V.p) (hR:rightN V.p V.a V.b X = R) (hRp:R<V.p) (hs1:sqR V.p R = 0) (hs2:sqB V.p R = false):Calls Tryz.prog 23 ([.agg (crvL Q V).toArray,.string s]:List Value).toArray w (fun e w'=>Num2R w [] 0 0 (fun u v=>.tuple #[rpV u v false,.int .i64 ((2101:Nat):Int)]) e w'):=by
  have hbb:=hok.bounds
  have hsz:=hok.sz
  have hnb:nby V.p≤72:=by have:=KAQ (KAB hbb.2.1); (unfold nby; omega)
  have hk1:=nby_posV hok
  have hb256:=b0_lt s
  have hXd:D.nw X≤1000000:=by have:=nw_w9_dig hXw; omega
  have hsp:=hsz.p
  refine Ka (N:=103) (rs:=[.cell 4 35,.tmp 5]) [crvI Q V] Tryz.func23 rfl Tryz.ntmps23 Tryz.results23 (Nb rfl) ⟨hc,trivial⟩ rfl ?_
  show LCode _ _ _ ⟨_,_⟩ _
  refine KB (KA ?_)
  refine oS (mB (fun b2=>?_))
  refine oS (mk (KN zr_35) (fun b4=>?_))
  refine oP (KQ (v:=.int .i64 ((0:Nat):Int)) rfl) ?_
  refine KC ?_
  refine KB (KA ?_)
  refine oD (dL rfl (hv:=by exact KE Tryz.underlying30 rfl sz_30)) ?_
  refine oS (cF rfl en_21 rfl (fun w hw=>c_r_Size Q V w (mC hw) hsz) ?_)
  refine oA ?_
  refine KC ?_
  refine KB (KA ?_)
  refine oM ?_
  refine oP (KAH Tryz.underlying9 rfl) ?_
  refine oM ?_
  refine oP (KD rfl rfl (br_mul (a:=2) om)) ?_
  refine oP (KD rfl rfl (Kj (a:=1) om)) ?_
  refine oP (KD (v:=.bool false) rfl rfl (br_f Ky om)) ?_
  refine oM ?_
  refine oK ?_
  refine oK ?_
  refine oK ?_
  refine oP (KV rfl rfl) ?_
  refine oA ?_
  refine KC ?_
  refine KB ?_
  refine KB (KA ?_)
  refine oM ?_
  refine oP (KG (KAN rfl) (show _ = Value.bool true from rfl)) ?_
  refine oM ?_
  refine oGM ?_
  refine oGP (KAH Tryz.underlying9 rfl) ?_
  refine oGM ?_
  refine oGP (KD rfl rfl (Kj (a:=1) om)) ?_
  refine oGP (KD (v:=.bool false) rfl rfl (br_f br_neq om)) ?_
  refine oGM ?_
  refine oGM ?_
  refine oGP (KG (Ko Tryz.underlying9 rfl rfl om om) (show _ = .int .u8 ((2:Nat):Int) from congrArg (fun n:Nat=>Value.int .u8 ((n:Nat):Int)) hb)) ?_
  refine oGP (KD (v:=.bool false) rfl rfl (br_f (br_neq (b:=2)) dc)) ?_
  refine oGM ?_
  refine oK ?_
  refine oK ?_
  refine oK ?_
  refine oGP (KV rfl rfl) ?_
  refine oGP (KV rfl rfl) ?_
  refine oP (KY rfl rfl) ?_
  refine KC ?_
  refine KI rfl ?_
  refine KL ?_
  refine KB (KA ?_)
  refine oM ?_
  refine oM ?_
  refine oP (KD rfl rfl (Kj (a:=1) om)) ?_
  refine oP (KG (Det.slStrLH Tryz.underlying9 rfl rfl rfl om om om) (show _ = Value.string (s.extract 1 (1+nby V.p)) from by rw [Int.toNat_natCast]; rfl)) ?_
  refine oS (cZ rfl en_44 rfl (fun w hw hs=>(c_n_ReadX X (s.extract 1 (1+nby V.p)) w (by rw [KAh _ _ _ om]; omega) hX).mono fun e w' h=>Kw (Old.nil _) hs h) ?_)
  rintro _ _ ⟨q48,rfl,rfl,hn48⟩
  refine oP (KG (Ki pl_35 zr_35 rfl rfl) (show _ = rpV (numV q48 X) (.slice none 0 0) (false) from rfl)) ?_
  refine oS (mk (KN zr_35) (fun b8=>?_))
  refine KO rfl (sA rfl rfl sz_35 (by repeat (first|exact Kc|refine KZ rfl ?_)) (hl:=by first|rfl|(show _<3; decide)) (h:=?_))
  refine KC ?_
  refine KB ?_
  refine KB (KA ?_)
  refine oP (KF (o':=0) Tryz.underlying35 rfl rfl rfl sz_28 dc) ?_
  refine oD (dL rfl (hv:=KJ Tryz.underlying28 rfl (by first|rfl|exact KX _ _ _ om|exact KU _ om|exact KS _ om|exact dv_m _ _ _ om))) ?_
  refine oP (KF (o':=1) Tryz.underlying30 rfl rfl rfl sz_28 dc) ?_
  refine oD (dL rfl (hv:=KJ Tryz.underlying28 rfl (by first|rfl|exact KX _ _ _ om|exact KU _ om|exact KS _ om|exact dv_m _ _ _ om))) ?_
  refine oS (cF rfl en_45 rfl (fun w hw=>c_n_Cmp q48 Q.p X V.p w (mC hw) (KAg (mC hw)) hXd) ?_)
  refine oP (KD (v:=.bool false) rfl rfl (br_f cmp_geq (Nat.not_le_of_gt hXp))) ?_
  refine KC ?_
  refine KI rfl ?_
  refine KL ?_
  refine KB ?_
  refine KB (KA ?_)
  refine oM ?_
  refine KC ?_
  refine KI rfl ?_
  refine KL ?_
  refine KB ?_
  refine rD [] ?_
  refine aD 0 rfl (dL rfl (hv:=by exact KE Tryz.underlying30 rfl sz_30)) ?_
  refine aP 1 rfl (KF (o':=0) Tryz.underlying35 rfl rfl rfl sz_28 dc) ?_
  refine aD 2 rfl (dL rfl (hv:=KJ Tryz.underlying28 rfl (by first|rfl|exact KX _ _ _ om|exact KU _ om|exact KS _ om|exact dv_m _ _ _ om))) ?_
  refine aP 4 rfl (KF (o':=1) Tryz.underlying30 rfl rfl rfl sz_28 dc) ?_
  refine aD 5 rfl (dL rfl (hv:=KJ Tryz.underlying28 rfl (by first|rfl|exact KX _ _ _ om|exact KU _ om|exact KS _ om|exact dv_m _ _ _ om))) ?_
  refine aO 3 rfl (cZ rfl en_47 rfl (fun w hw hs=>(c_r_rightR R Q V q48 X w (mC hw) hok (mC hw) hXp hR).mono fun e w' h=>Kw (Old.nil _) hs h) ?_)
  rintro _ _ ⟨q74,rfl,rfl,hn74⟩
  refine aO 6 rfl (cZ rfl en_46 rfl (fun w hw hs=>(c_n_SqrtR 0 false V q74 Q.p R w hok (mC hw) (KAg (mC hw)) hRp hs1 hs2).mono fun e w' h=>Kw (Old.nil _) hs h) ?_)
  rintro _ _ ⟨q77,rfl,rfl,hn77⟩
  refine aM 7 ?_
  refine aP 8 rfl (Det.extract rfl rfl) ?_
  refine aP 9 rfl (Det.extract rfl rfl) ?_
  refine aA 10 ?_
  refine aA 11 ?_
  refine aE ?_
  refine KB ?_
  refine KB ?_
  refine rD [] ?_
  refine aM 0 ?_
  refine aM 1 ?_
  refine aK 2 ?_
  refine aK 3 ?_
  refine aK 4 ?_
  refine aK 5 ?_
  refine aK 6 ?_
  refine aK 7 ?_
  refine aK 8 ?_
  refine aP 9 rfl (KV rfl rfl) ?_
  refine aE ?_
  refine KI rfl ?_
  refine KL ?_
  refine KB ?_
  refine KB (KA ?_)
  refine oM ?_
  refine oP (KG (KAN rfl) (show _ = Value.bool true from rfl)) ?_
  refine KC ?_
  refine KT rfl ?_
  refine KB (KA ?_)
  refine oP (KG (Ki pl_35 zr_35 rfl rfl) (show _ = rpV (.slice none 0 0) (.slice none 0 0) (false) from rfl)) ?_
  refine KO rfl (sA rfl rfl sz_35 (by repeat (first|exact Kc|refine KZ rfl ?_)) (hl:=by first|rfl|(show _<3; decide)) (h:=?_))
  refine oP (KQ (v:=.int .i64 ((2101:Nat):Int)) rfl) ?_
  refine KC (KK ?_)
  refine ⟨[_,_],.cons ⟨_,_,_,rfl,mM,by exact KE Tryz.underlying35 rfl sz_35⟩ (.cons rfl .nil),fun a' w' hr=>⟨⟨true,0,0⟩,⟨true,0,0⟩,congrArg (fun l:List Value=>Ending.returned (.tuple #[.agg l.toArray,.int .i64 ((2101:Nat):Int)])) rp_nilF,Kv _,KAd _ _,Kv _,KAd _ _,hr.fr.below⟩⟩
theorem c_r_Pt_n1 (Q:CQ) (V:Cv) (s:ByteArray) (X R:Nat) (w:World) (hc:(crvI Q V).holds w) (hok:V.Ok) (hs:s.size<9223372036854775808) (h1:s.size = 1+nby V.p) (hb:b0 s = 3) (hX:beVal (s.extract 1 (1+nby V.p)).data.toList = X) (hXw:X<W9) (hXp:X<V.p) (hR:rightN V.p V.a V.b X = R) (hRp:R<V.p) (hs1:sqR V.p R = 0) (hs2:sqB V.p R = false):Calls Tryz.prog 23 ([.agg (crvL Q V).toArray,.string s]:List Value).toArray w (fun e w'=>Num2R w [] 0 0 (fun u v=>.tuple #[rpV u v false,.int .i64 ((2101:Nat):Int)]) e w'):=by
  have hbb:=hok.bounds
  have hsz:=hok.sz
  have hnb:nby V.p≤72:=by have:=KAQ (KAB hbb.2.1); (unfold nby; omega)
  have hk1:=nby_posV hok
  have hb256:=b0_lt s
  have hXd:D.nw X≤1000000:=by have:=nw_w9_dig hXw; omega
  have hsp:=hsz.p
  refine Ka (N:=103) (rs:=[.cell 4 35,.tmp 5]) [crvI Q V] Tryz.func23 rfl Tryz.ntmps23 Tryz.results23 (Nb rfl) ⟨hc,trivial⟩ rfl ?_
  show LCode _ _ _ ⟨_,_⟩ _
  refine KB (KA ?_)
  refine oS (mB (fun b2=>?_))
  refine oS (mk (KN zr_35) (fun b4=>?_))
  refine oP (KQ (v:=.int .i64 ((0:Nat):Int)) rfl) ?_
  refine KC ?_
  refine KB (KA ?_)
  refine oD (dL rfl (hv:=by exact KE Tryz.underlying30 rfl sz_30)) ?_
  refine oS (cF rfl en_21 rfl (fun w hw=>c_r_Size Q V w (mC hw) hsz) ?_)
  refine oA ?_
  refine KC ?_
  refine KB (KA ?_)
  refine oM ?_
  refine oP (KAH Tryz.underlying9 rfl) ?_
  refine oM ?_
  refine oP (KD rfl rfl (br_mul (a:=2) om)) ?_
  refine oP (KD rfl rfl (Kj (a:=1) om)) ?_
  refine oP (KD (v:=.bool false) rfl rfl (br_f Ky om)) ?_
  refine oM ?_
  refine oK ?_
  refine oK ?_
  refine oK ?_
  refine oP (KV rfl rfl) ?_
  refine oA ?_
  refine KC ?_
  refine KB ?_
  refine KB (KA ?_)
  refine oM ?_
  refine oP (KG (KAN rfl) (show _ = Value.bool true from rfl)) ?_
  refine oM ?_
  refine oGM ?_
  refine oGP (KAH Tryz.underlying9 rfl) ?_
  refine oGM ?_
  refine oGP (KD rfl rfl (Kj (a:=1) om)) ?_
  refine oGP (KD (v:=.bool false) rfl rfl (br_f br_neq om)) ?_
  refine oGM ?_
  refine oGM ?_
  refine oGP (KG (Ko Tryz.underlying9 rfl rfl om om) (show _ = .int .u8 ((3:Nat):Int) from congrArg (fun n:Nat=>Value.int .u8 ((n:Nat):Int)) hb)) ?_
  refine oGP (KD (v:=.bool true) rfl rfl (br_t (br_neq (b:=2)) dc)) ?_
  refine oGM ?_
  refine oGM ?_
  refine oGP (KG (Ko Tryz.underlying9 rfl rfl om om) (show _ = .int .u8 ((3:Nat):Int) from congrArg (fun n:Nat=>Value.int .u8 ((n:Nat):Int)) hb)) ?_
  refine oGP (KD (v:=.bool false) rfl rfl (br_f (br_neq (b:=3)) dc)) ?_
  refine oGP (KY rfl rfl) ?_
  refine oGP (KV rfl rfl) ?_
  refine oP (KY rfl rfl) ?_
  refine KC ?_
  refine KI rfl ?_
  refine KL ?_
  refine KB (KA ?_)
  refine oM ?_
  refine oM ?_
  refine oP (KD rfl rfl (Kj (a:=1) om)) ?_
  refine oP (KG (Det.slStrLH Tryz.underlying9 rfl rfl rfl om om om) (show _ = Value.string (s.extract 1 (1+nby V.p)) from by rw [Int.toNat_natCast]; rfl)) ?_
  refine oS (cZ rfl en_44 rfl (fun w hw hs=>(c_n_ReadX X (s.extract 1 (1+nby V.p)) w (by rw [KAh _ _ _ om]; omega) hX).mono fun e w' h=>Kw (Old.nil _) hs h) ?_)
  rintro _ _ ⟨q48,rfl,rfl,hn48⟩
  refine oP (KG (Ki pl_35 zr_35 rfl rfl) (show _ = rpV (numV q48 X) (.slice none 0 0) (false) from rfl)) ?_
  refine oS (mk (KN zr_35) (fun b8=>?_))
  refine KO rfl (sA rfl rfl sz_35 (by repeat (first|exact Kc|refine KZ rfl ?_)) (hl:=by first|rfl|(show _<3; decide)) (h:=?_))
  refine KC ?_
  refine KB ?_
  refine KB (KA ?_)
  refine oP (KF (o':=0) Tryz.underlying35 rfl rfl rfl sz_28 dc) ?_
  refine oD (dL rfl (hv:=KJ Tryz.underlying28 rfl (by first|rfl|exact KX _ _ _ om|exact KU _ om|exact KS _ om|exact dv_m _ _ _ om))) ?_
  refine oP (KF (o':=1) Tryz.underlying30 rfl rfl rfl sz_28 dc) ?_
  refine oD (dL rfl (hv:=KJ Tryz.underlying28 rfl (by first|rfl|exact KX _ _ _ om|exact KU _ om|exact KS _ om|exact dv_m _ _ _ om))) ?_
  refine oS (cF rfl en_45 rfl (fun w hw=>c_n_Cmp q48 Q.p X V.p w (mC hw) (KAg (mC hw)) hXd) ?_)
  refine oP (KD (v:=.bool false) rfl rfl (br_f cmp_geq (Nat.not_le_of_gt hXp))) ?_
  refine KC ?_
  refine KI rfl ?_
  refine KL ?_
  refine KB ?_
  refine KB (KA ?_)
  refine oM ?_
  refine KC ?_
  refine KI rfl ?_
  refine KL ?_
  refine KB ?_
  refine rD [] ?_
  refine aD 0 rfl (dL rfl (hv:=by exact KE Tryz.underlying30 rfl sz_30)) ?_
  refine aP 1 rfl (KF (o':=0) Tryz.underlying35 rfl rfl rfl sz_28 dc) ?_
  refine aD 2 rfl (dL rfl (hv:=KJ Tryz.underlying28 rfl (by first|rfl|exact KX _ _ _ om|exact KU _ om|exact KS _ om|exact dv_m _ _ _ om))) ?_
  refine aP 4 rfl (KF (o':=1) Tryz.underlying30 rfl rfl rfl sz_28 dc) ?_
  refine aD 5 rfl (dL rfl (hv:=KJ Tryz.underlying28 rfl (by first|rfl|exact KX _ _ _ om|exact KU _ om|exact KS _ om|exact dv_m _ _ _ om))) ?_
  refine aO 3 rfl (cZ rfl en_47 rfl (fun w hw hs=>(c_r_rightR R Q V q48 X w (mC hw) hok (mC hw) hXp hR).mono fun e w' h=>Kw (Old.nil _) hs h) ?_)
  rintro _ _ ⟨q74,rfl,rfl,hn74⟩
  refine aO 6 rfl (cZ rfl en_46 rfl (fun w hw hs=>(c_n_SqrtR 0 false V q74 Q.p R w hok (mC hw) (KAg (mC hw)) hRp hs1 hs2).mono fun e w' h=>Kw (Old.nil _) hs h) ?_)
  rintro _ _ ⟨q77,rfl,rfl,hn77⟩
  refine aM 7 ?_
  refine aP 8 rfl (Det.extract rfl rfl) ?_
  refine aP 9 rfl (Det.extract rfl rfl) ?_
  refine aA 10 ?_
  refine aA 11 ?_
  refine aE ?_
  refine KB ?_
  refine KB ?_
  refine rD [] ?_
  refine aM 0 ?_
  refine aM 1 ?_
  refine aK 2 ?_
  refine aK 3 ?_
  refine aK 4 ?_
  refine aK 5 ?_
  refine aK 6 ?_
  refine aK 7 ?_
  refine aK 8 ?_
  refine aP 9 rfl (KV rfl rfl) ?_
  refine aE ?_
  refine KI rfl ?_
  refine KL ?_
  refine KB ?_
  refine KB (KA ?_)
  refine oM ?_
  refine oP (KG (KAN rfl) (show _ = Value.bool true from rfl)) ?_
  refine KC ?_
  refine KT rfl ?_
  refine KB (KA ?_)
  refine oP (KG (Ki pl_35 zr_35 rfl rfl) (show _ = rpV (.slice none 0 0) (.slice none 0 0) (false) from rfl)) ?_
  refine KO rfl (sA rfl rfl sz_35 (by repeat (first|exact Kc|refine KZ rfl ?_)) (hl:=by first|rfl|(show _<3; decide)) (h:=?_))
  refine oP (KQ (v:=.int .i64 ((2101:Nat):Int)) rfl) ?_
  refine KC (KK ?_)
  refine ⟨[_,_],.cons ⟨_,_,_,rfl,mM,by exact KE Tryz.underlying35 rfl sz_35⟩ (.cons rfl .nil),fun a' w' hr=>⟨⟨true,0,0⟩,⟨true,0,0⟩,congrArg (fun l:List Value=>Ending.returned (.tuple #[.agg l.toArray,.int .i64 ((2101:Nat):Int)])) rp_nilF,Kv _,KAd _ _,Kv _,KAd _ _,hr.fr.below⟩⟩
theorem c_r_Pt_e0 (Q:CQ) (V:Cv) (s:ByteArray) (X R r:Nat) (w:World) (hc:(crvI Q V).holds w) (hok:V.Ok) (hs:s.size<9223372036854775808) (h1:s.size = 1+nby V.p) (hb:b0 s = 2) (hX:beVal (s.extract 1 (1+nby V.p)).data.toList = X) (hXw:X<W9) (hXp:X<V.p) (hR:rightN V.p V.a V.b X = R) (hRp:R<V.p) (hs1:sqR V.p R = r) (hs2:sqB V.p R = true) (hr:r%2 = 0):Calls Tryz.prog 23 ([.agg (crvL Q V).toArray,.string s]:List Value).toArray w (fun e w'=>Num2R w [] X r (fun u v=>.tuple #[rpV u v false,.int .i64 ((0:Nat):Int)]) e w'):=by
  have hbb:=hok.bounds
  have hsz:=hok.sz
  have hnb:nby V.p≤72:=by have:=KAQ (KAB hbb.2.1); (unfold nby; omega)
  have hk1:=nby_posV hok
  have hb256:=b0_lt s
  have hXd:D.nw X≤1000000:=by have:=nw_w9_dig hXw; omega
  have hsp:=hsz.p
  refine Ka (N:=103) (rs:=[.cell 4 35,.tmp 5]) [crvI Q V] Tryz.func23 rfl Tryz.ntmps23 Tryz.results23 (Nb rfl) ⟨hc,trivial⟩ rfl ?_
  show LCode _ _ _ ⟨_,_⟩ _
  refine KB (KA ?_)
  refine oS (mB (fun b2=>?_))
  refine oS (mk (KN zr_35) (fun b4=>?_))
  refine oP (KQ (v:=.int .i64 ((0:Nat):Int)) rfl) ?_
  refine KC ?_
  refine KB (KA ?_)
  refine oD (dL rfl (hv:=by exact KE Tryz.underlying30 rfl sz_30)) ?_
  refine oS (cF rfl en_21 rfl (fun w hw=>c_r_Size Q V w (mC hw) hsz) ?_)
  refine oA ?_
  refine KC ?_
  refine KB (KA ?_)
  refine oM ?_
  refine oP (KAH Tryz.underlying9 rfl) ?_
  refine oM ?_
  refine oP (KD rfl rfl (br_mul (a:=2) om)) ?_
  refine oP (KD rfl rfl (Kj (a:=1) om)) ?_
  refine oP (KD (v:=.bool false) rfl rfl (br_f Ky om)) ?_
  refine oM ?_
  refine oK ?_
  refine oK ?_
  refine oK ?_
  refine oP (KV rfl rfl) ?_
  refine oA ?_
  refine KC ?_
  refine KB ?_
  refine KB (KA ?_)
  refine oM ?_
  refine oP (KG (KAN rfl) (show _ = Value.bool true from rfl)) ?_
  refine oM ?_
  refine oGM ?_
  refine oGP (KAH Tryz.underlying9 rfl) ?_
  refine oGM ?_
  refine oGP (KD rfl rfl (Kj (a:=1) om)) ?_
  refine oGP (KD (v:=.bool false) rfl rfl (br_f br_neq om)) ?_
  refine oGM ?_
  refine oGM ?_
  refine oGP (KG (Ko Tryz.underlying9 rfl rfl om om) (show _ = .int .u8 ((2:Nat):Int) from congrArg (fun n:Nat=>Value.int .u8 ((n:Nat):Int)) hb)) ?_
  refine oGP (KD (v:=.bool false) rfl rfl (br_f (br_neq (b:=2)) dc)) ?_
  refine oGM ?_
  refine oK ?_
  refine oK ?_
  refine oK ?_
  refine oGP (KV rfl rfl) ?_
  refine oGP (KV rfl rfl) ?_
  refine oP (KY rfl rfl) ?_
  refine KC ?_
  refine KI rfl ?_
  refine KL ?_
  refine KB (KA ?_)
  refine oM ?_
  refine oM ?_
  refine oP (KD rfl rfl (Kj (a:=1) om)) ?_
  refine oP (KG (Det.slStrLH Tryz.underlying9 rfl rfl rfl om om om) (show _ = Value.string (s.extract 1 (1+nby V.p)) from by rw [Int.toNat_natCast]; rfl)) ?_
  refine oS (cZ rfl en_44 rfl (fun w hw hs=>(c_n_ReadX X (s.extract 1 (1+nby V.p)) w (by rw [KAh _ _ _ om]; omega) hX).mono fun e w' h=>Kw (Old.nil _) hs h) ?_)
  rintro _ _ ⟨q48,rfl,rfl,hn48⟩
  refine oP (KG (Ki pl_35 zr_35 rfl rfl) (show _ = rpV (numV q48 X) (.slice none 0 0) (false) from rfl)) ?_
  refine oS (mk (KN zr_35) (fun b8=>?_))
  refine KO rfl (sA rfl rfl sz_35 (by repeat (first|exact Kc|refine KZ rfl ?_)) (hl:=by first|rfl|(show _<3; decide)) (h:=?_))
  refine KC ?_
  refine KB ?_
  refine KB (KA ?_)
  refine oP (KF (o':=0) Tryz.underlying35 rfl rfl rfl sz_28 dc) ?_
  refine oD (dL rfl (hv:=KJ Tryz.underlying28 rfl (by first|rfl|exact KX _ _ _ om|exact KU _ om|exact KS _ om|exact dv_m _ _ _ om))) ?_
  refine oP (KF (o':=1) Tryz.underlying30 rfl rfl rfl sz_28 dc) ?_
  refine oD (dL rfl (hv:=KJ Tryz.underlying28 rfl (by first|rfl|exact KX _ _ _ om|exact KU _ om|exact KS _ om|exact dv_m _ _ _ om))) ?_
  refine oS (cF rfl en_45 rfl (fun w hw=>c_n_Cmp q48 Q.p X V.p w (mC hw) (KAg (mC hw)) hXd) ?_)
  refine oP (KD (v:=.bool false) rfl rfl (br_f cmp_geq (Nat.not_le_of_gt hXp))) ?_
  refine KC ?_
  refine KI rfl ?_
  refine KL ?_
  refine KB ?_
  refine KB (KA ?_)
  refine oM ?_
  refine KC ?_
  refine KI rfl ?_
  refine KL ?_
  refine KB ?_
  refine rD [] ?_
  refine aD 0 rfl (dL rfl (hv:=by exact KE Tryz.underlying30 rfl sz_30)) ?_
  refine aP 1 rfl (KF (o':=0) Tryz.underlying35 rfl rfl rfl sz_28 dc) ?_
  refine aD 2 rfl (dL rfl (hv:=KJ Tryz.underlying28 rfl (by first|rfl|exact KX _ _ _ om|exact KU _ om|exact KS _ om|exact dv_m _ _ _ om))) ?_
  refine aP 4 rfl (KF (o':=1) Tryz.underlying30 rfl rfl rfl sz_28 dc) ?_
  refine aD 5 rfl (dL rfl (hv:=KJ Tryz.underlying28 rfl (by first|rfl|exact KX _ _ _ om|exact KU _ om|exact KS _ om|exact dv_m _ _ _ om))) ?_
  refine aO 3 rfl (cZ rfl en_47 rfl (fun w hw hs=>(c_r_rightR R Q V q48 X w (mC hw) hok (mC hw) hXp hR).mono fun e w' h=>Kw (Old.nil _) hs h) ?_)
  rintro _ _ ⟨q74,rfl,rfl,hn74⟩
  refine aO 6 rfl (cZ rfl en_46 rfl (fun w hw hs=>(c_n_SqrtR r true V q74 Q.p R w hok (mC hw) (KAg (mC hw)) hRp hs1 hs2).mono fun e w' h=>Kw (Old.nil _) hs h) ?_)
  rintro _ _ ⟨q77,rfl,rfl,hn77⟩
  refine aM 7 ?_
  refine aP 8 rfl (Det.extract rfl rfl) ?_
  refine aP 9 rfl (Det.extract rfl rfl) ?_
  refine aA 10 ?_
  refine aA 11 ?_
  refine aE ?_
  refine KB ?_
  refine KB ?_
  refine rD [] ?_
  refine aM 0 ?_
  refine aM 1 ?_
  refine aGM 2 ?_
  refine aGM 4 ?_
  refine aGP 5 rfl (KG (Ko Tryz.underlying9 rfl rfl om om) (show _ = .int .u8 ((2:Nat):Int) from congrArg (fun n:Nat=>Value.int .u8 ((n:Nat):Int)) hb)) ?_
  refine aGP 6 rfl (KAb Tryz.underlying5 Tryz.underlying3 rfl om) ?_
  refine aGP 7 rfl (KD (v:=.int .i64 ((0:Nat):Int)) rfl rfl (by rfl)) ?_
  refine aGO 3 rfl (cF rfl en_33 rfl (fun w hw=>c_n_bit0 0 r q77 w (mC hw) hr) ?_)
  refine aGP 8 rfl (KD (v:=.bool false) rfl rfl (br_f br_neq dc)) ?_
  refine aP 9 rfl (KY rfl rfl) ?_
  refine aE ?_
  refine KI rfl ?_
  refine KL ?_
  refine KB ?_
  refine KB (KA ?_)
  refine oM ?_
  refine oP (KG (KAN rfl) (show _ = Value.bool false from rfl)) ?_
  refine KC ?_
  refine KI rfl ?_
  refine KL ?_
  refine KB (KA ?_)
  refine oM ?_
  refine oP (KF (o':=1) Tryz.underlying35 rfl rfl rfl sz_28 dc) ?_
  refine KO rfl (Ke rfl rfl rfl sz_28 (by repeat (first|exact Sh _|apply St_)) (by first|rfl|(show _<3; decide)) (by first|exact KAA _ _ _ _ _|exact KAF _ _ _ _ om|exact KAC _ _ _ _|rfl) (by simp) ?_)
  refine KC ?_
  refine KB (KA ?_)
  refine oD (dL rfl (hv:=by exact KE Tryz.underlying35 rfl sz_35)) ?_
  refine KO rfl (sA rfl rfl sz_35 (by repeat (first|exact Kc|refine KZ rfl ?_)) (hl:=by first|rfl|(show _<3; decide)) (h:=?_))
  refine oP (KQ (v:=.int .i64 ((0:Nat):Int)) rfl) ?_
  refine KC (KK ?_)
  refine ⟨[_,_],.cons ⟨_,_,_,rfl,mM,by exact KE Tryz.underlying35 rfl sz_35⟩ (.cons rfl .nil),fun a' w' hr=>hr.num2Q (q:=q48) (r:=q77) (mk:=fun u v=>.tuple #[rpV u v false,.int .i64 ((0:Nat):Int)]) mM hn48 mM hn77⟩
theorem c_r_Pt_z1 (Q:CQ) (V:Cv) (s:ByteArray) (X R:Nat) (w:World) (hc:(crvI Q V).holds w) (hok:V.Ok) (hs:s.size<9223372036854775808) (h1:s.size = 1+nby V.p) (hb:b0 s = 3) (hX:beVal (s.extract 1 (1+nby V.p)).data.toList = X) (hXw:X<W9) (hXp:X<V.p) (hR:rightN V.p V.a V.b X = R) (hRp:R<V.p) (hs1:sqR V.p R = 0) (hs2:sqB V.p R = true):Calls Tryz.prog 23 ([.agg (crvL Q V).toArray,.string s]:List Value).toArray w (fun e w'=>Num2R w [] 0 0 (fun u v=>.tuple #[rpV u v false,.int .i64 ((2101:Nat):Int)]) e w'):=by
  have hbb:=hok.bounds
  have hsz:=hok.sz
  have hnb:nby V.p≤72:=by have:=KAQ (KAB hbb.2.1); (unfold nby; omega)
  have hk1:=nby_posV hok
  have hb256:=b0_lt s
  have hXd:D.nw X≤1000000:=by have:=nw_w9_dig hXw; omega
  have hsp:=hsz.p
  refine Ka (N:=103) (rs:=[.cell 4 35,.tmp 5]) [crvI Q V] Tryz.func23 rfl Tryz.ntmps23 Tryz.results23 (Nb rfl) ⟨hc,trivial⟩ rfl ?_
  show LCode _ _ _ ⟨_,_⟩ _
  refine KB (KA ?_)
  refine oS (mB (fun b2=>?_))
  refine oS (mk (KN zr_35) (fun b4=>?_))
  refine oP (KQ (v:=.int .i64 ((0:Nat):Int)) rfl) ?_
  refine KC ?_
  refine KB (KA ?_)
  refine oD (dL rfl (hv:=by exact KE Tryz.underlying30 rfl sz_30)) ?_
  refine oS (cF rfl en_21 rfl (fun w hw=>c_r_Size Q V w (mC hw) hsz) ?_)
  refine oA ?_
  refine KC ?_
  refine KB (KA ?_)
  refine oM ?_
  refine oP (KAH Tryz.underlying9 rfl) ?_
  refine oM ?_
  refine oP (KD rfl rfl (br_mul (a:=2) om)) ?_
  refine oP (KD rfl rfl (Kj (a:=1) om)) ?_
  refine oP (KD (v:=.bool false) rfl rfl (br_f Ky om)) ?_
  refine oM ?_
  refine oK ?_
  refine oK ?_
  refine oK ?_
  refine oP (KV rfl rfl) ?_
  refine oA ?_
  refine KC ?_
  refine KB ?_
  refine KB (KA ?_)
  refine oM ?_
  refine oP (KG (KAN rfl) (show _ = Value.bool true from rfl)) ?_
  refine oM ?_
  refine oGM ?_
  refine oGP (KAH Tryz.underlying9 rfl) ?_
  refine oGM ?_
  refine oGP (KD rfl rfl (Kj (a:=1) om)) ?_
  refine oGP (KD (v:=.bool false) rfl rfl (br_f br_neq om)) ?_
  refine oGM ?_
  refine oGM ?_
  refine oGP (KG (Ko Tryz.underlying9 rfl rfl om om) (show _ = .int .u8 ((3:Nat):Int) from congrArg (fun n:Nat=>Value.int .u8 ((n:Nat):Int)) hb)) ?_
  refine oGP (KD (v:=.bool true) rfl rfl (br_t (br_neq (b:=2)) dc)) ?_
  refine oGM ?_
  refine oGM ?_
  refine oGP (KG (Ko Tryz.underlying9 rfl rfl om om) (show _ = .int .u8 ((3:Nat):Int) from congrArg (fun n:Nat=>Value.int .u8 ((n:Nat):Int)) hb)) ?_
  refine oGP (KD (v:=.bool false) rfl rfl (br_f (br_neq (b:=3)) dc)) ?_
  refine oGP (KY rfl rfl) ?_
  refine oGP (KV rfl rfl) ?_
  refine oP (KY rfl rfl) ?_
  refine KC ?_
  refine KI rfl ?_
  refine KL ?_
  refine KB (KA ?_)
  refine oM ?_
  refine oM ?_
  refine oP (KD rfl rfl (Kj (a:=1) om)) ?_
  refine oP (KG (Det.slStrLH Tryz.underlying9 rfl rfl rfl om om om) (show _ = Value.string (s.extract 1 (1+nby V.p)) from by rw [Int.toNat_natCast]; rfl)) ?_
  refine oS (cZ rfl en_44 rfl (fun w hw hs=>(c_n_ReadX X (s.extract 1 (1+nby V.p)) w (by rw [KAh _ _ _ om]; omega) hX).mono fun e w' h=>Kw (Old.nil _) hs h) ?_)
  rintro _ _ ⟨q48,rfl,rfl,hn48⟩
  refine oP (KG (Ki pl_35 zr_35 rfl rfl) (show _ = rpV (numV q48 X) (.slice none 0 0) (false) from rfl)) ?_
  refine oS (mk (KN zr_35) (fun b8=>?_))
  refine KO rfl (sA rfl rfl sz_35 (by repeat (first|exact Kc|refine KZ rfl ?_)) (hl:=by first|rfl|(show _<3; decide)) (h:=?_))
  refine KC ?_
  refine KB ?_
  refine KB (KA ?_)
  refine oP (KF (o':=0) Tryz.underlying35 rfl rfl rfl sz_28 dc) ?_
  refine oD (dL rfl (hv:=KJ Tryz.underlying28 rfl (by first|rfl|exact KX _ _ _ om|exact KU _ om|exact KS _ om|exact dv_m _ _ _ om))) ?_
  refine oP (KF (o':=1) Tryz.underlying30 rfl rfl rfl sz_28 dc) ?_
  refine oD (dL rfl (hv:=KJ Tryz.underlying28 rfl (by first|rfl|exact KX _ _ _ om|exact KU _ om|exact KS _ om|exact dv_m _ _ _ om))) ?_
  refine oS (cF rfl en_45 rfl (fun w hw=>c_n_Cmp q48 Q.p X V.p w (mC hw) (KAg (mC hw)) hXd) ?_)
  refine oP (KD (v:=.bool false) rfl rfl (br_f cmp_geq (Nat.not_le_of_gt hXp))) ?_
  refine KC ?_
  refine KI rfl ?_
  refine KL ?_
  refine KB ?_
  refine KB (KA ?_)
  refine oM ?_
  refine KC ?_
  refine KI rfl ?_
  refine KL ?_
  refine KB ?_
  refine rD [] ?_
  refine aD 0 rfl (dL rfl (hv:=by exact KE Tryz.underlying30 rfl sz_30)) ?_
  refine aP 1 rfl (KF (o':=0) Tryz.underlying35 rfl rfl rfl sz_28 dc) ?_
  refine aD 2 rfl (dL rfl (hv:=KJ Tryz.underlying28 rfl (by first|rfl|exact KX _ _ _ om|exact KU _ om|exact KS _ om|exact dv_m _ _ _ om))) ?_
  refine aP 4 rfl (KF (o':=1) Tryz.underlying30 rfl rfl rfl sz_28 dc) ?_
  refine aD 5 rfl (dL rfl (hv:=KJ Tryz.underlying28 rfl (by first|rfl|exact KX _ _ _ om|exact KU _ om|exact KS _ om|exact dv_m _ _ _ om))) ?_
  refine aO 3 rfl (cZ rfl en_47 rfl (fun w hw hs=>(c_r_rightR R Q V q48 X w (mC hw) hok (mC hw) hXp hR).mono fun e w' h=>Kw (Old.nil _) hs h) ?_)
  rintro _ _ ⟨q74,rfl,rfl,hn74⟩
  refine aO 6 rfl (cZ rfl en_46 rfl (fun w hw hs=>(c_n_SqrtR 0 true V q74 Q.p R w hok (mC hw) (KAg (mC hw)) hRp hs1 hs2).mono fun e w' h=>Kw (Old.nil _) hs h) ?_)
  rintro _ _ ⟨q77,rfl,rfl,hn77⟩
  refine aM 7 ?_
  refine aP 8 rfl (Det.extract rfl rfl) ?_
  refine aP 9 rfl (Det.extract rfl rfl) ?_
  refine aA 10 ?_
  refine aA 11 ?_
  refine aE ?_
  refine KB ?_
  refine KB ?_
  refine rD [] ?_
  refine aM 0 ?_
  refine aM 1 ?_
  refine aGM 2 ?_
  refine aGM 4 ?_
  refine aGP 5 rfl (KG (Ko Tryz.underlying9 rfl rfl om om) (show _ = .int .u8 ((3:Nat):Int) from congrArg (fun n:Nat=>Value.int .u8 ((n:Nat):Int)) hb)) ?_
  refine aGP 6 rfl (KAb Tryz.underlying5 Tryz.underlying3 rfl om) ?_
  refine aGP 7 rfl (KD (v:=.int .i64 ((1:Nat):Int)) rfl rfl (by rfl)) ?_
  refine aGO 3 rfl (cF rfl en_33 rfl (fun w hw=>c_n_bit0 0 0 q77 w (mC hw) rfl) ?_)
  refine aGP 8 rfl (KD (v:=.bool true) rfl rfl (br_t br_neq dc)) ?_
  refine aP 9 rfl (KY rfl rfl) ?_
  refine aE ?_
  refine KT rfl ?_
  refine KB (KA ?_)
  refine oM ?_
  refine oP (KAK Tryz.underlying28 rfl) ?_
  refine oP (KD (v:=.bool true) rfl rfl (br_t (Ky (b:=0)) (nw_eq_zero.2 rfl))) ?_
  refine KC ?_
  refine KT rfl ?_
  refine KA ?_
  refine oA ?_
  refine KC ?_
  refine KB ?_
  refine KB (KA ?_)
  refine oM ?_
  refine oP (KG (KAN rfl) (show _ = Value.bool true from rfl)) ?_
  refine KC ?_
  refine KT rfl ?_
  refine KB (KA ?_)
  refine oP (KG (Ki pl_35 zr_35 rfl rfl) (show _ = rpV (.slice none 0 0) (.slice none 0 0) (false) from rfl)) ?_
  refine KO rfl (sA rfl rfl sz_35 (by repeat (first|exact Kc|refine KZ rfl ?_)) (hl:=by first|rfl|(show _<3; decide)) (h:=?_))
  refine oP (KQ (v:=.int .i64 ((2101:Nat):Int)) rfl) ?_
  refine KC (KK ?_)
  refine ⟨[_,_],.cons ⟨_,_,_,rfl,mM,by exact KE Tryz.underlying35 rfl sz_35⟩ (.cons rfl .nil),fun a' w' hr=>⟨⟨true,0,0⟩,⟨true,0,0⟩,congrArg (fun l:List Value=>Ending.returned (.tuple #[.agg l.toArray,.int .i64 ((2101:Nat):Int)])) rp_nilF,Kv _,KAd _ _,Kv _,KAd _ _,hr.fr.below⟩⟩
theorem c_r_Pt_e1 (Q:CQ) (V:Cv) (s:ByteArray) (X R r:Nat) (w:World) (hc:(crvI Q V).holds w) (hok:V.Ok) (hs:s.size<9223372036854775808) (h1:s.size = 1+nby V.p) (hb:b0 s = 3) (hX:beVal (s.extract 1 (1+nby V.p)).data.toList = X) (hXw:X<W9) (hXp:X<V.p) (hR:rightN V.p V.a V.b X = R) (hRp:R<V.p) (hs1:sqR V.p R = r) (hs2:sqB V.p R = true) (hr:r%2 = 0) (hr0:r≠0) (hrp:r<V.p):Calls Tryz.prog 23 ([.agg (crvL Q V).toArray,.string s]:List Value).toArray w (fun e w'=>Num2R w [] X (V.p-r) (fun u v=>.tuple #[rpV u v false,.int .i64 ((0:Nat):Int)]) e w'):=by
  have hbb:=hok.bounds
  have hsz:=hok.sz
  have hnb:nby V.p≤72:=by have:=KAQ (KAB hbb.2.1); (unfold nby; omega)
  have hk1:=nby_posV hok
  have hb256:=b0_lt s
  have hXd:D.nw X≤1000000:=by have:=nw_w9_dig hXw; omega
  have hsp:=hsz.p
  refine Ka (N:=103) (rs:=[.cell 4 35,.tmp 5]) [crvI Q V] Tryz.func23 rfl Tryz.ntmps23 Tryz.results23 (Nb rfl) ⟨hc,trivial⟩ rfl ?_
  show LCode _ _ _ ⟨_,_⟩ _
  refine KB (KA ?_)
  refine oS (mB (fun b2=>?_))
  refine oS (mk (KN zr_35) (fun b4=>?_))
  refine oP (KQ (v:=.int .i64 ((0:Nat):Int)) rfl) ?_
  refine KC ?_
  refine KB (KA ?_)
  refine oD (dL rfl (hv:=by exact KE Tryz.underlying30 rfl sz_30)) ?_
  refine oS (cF rfl en_21 rfl (fun w hw=>c_r_Size Q V w (mC hw) hsz) ?_)
  refine oA ?_
  refine KC ?_
  refine KB (KA ?_)
  refine oM ?_
  refine oP (KAH Tryz.underlying9 rfl) ?_
  refine oM ?_
  refine oP (KD rfl rfl (br_mul (a:=2) om)) ?_
  refine oP (KD rfl rfl (Kj (a:=1) om)) ?_
  refine oP (KD (v:=.bool false) rfl rfl (br_f Ky om)) ?_
  refine oM ?_
  refine oK ?_
  refine oK ?_
  refine oK ?_
  refine oP (KV rfl rfl) ?_
  refine oA ?_
  refine KC ?_
  refine KB ?_
  refine KB (KA ?_)
  refine oM ?_
  refine oP (KG (KAN rfl) (show _ = Value.bool true from rfl)) ?_
  refine oM ?_
  refine oGM ?_
  refine oGP (KAH Tryz.underlying9 rfl) ?_
  refine oGM ?_
  refine oGP (KD rfl rfl (Kj (a:=1) om)) ?_
  refine oGP (KD (v:=.bool false) rfl rfl (br_f br_neq om)) ?_
  refine oGM ?_
  refine oGM ?_
  refine oGP (KG (Ko Tryz.underlying9 rfl rfl om om) (show _ = .int .u8 ((3:Nat):Int) from congrArg (fun n:Nat=>Value.int .u8 ((n:Nat):Int)) hb)) ?_
  refine oGP (KD (v:=.bool true) rfl rfl (br_t (br_neq (b:=2)) dc)) ?_
  refine oGM ?_
  refine oGM ?_
  refine oGP (KG (Ko Tryz.underlying9 rfl rfl om om) (show _ = .int .u8 ((3:Nat):Int) from congrArg (fun n:Nat=>Value.int .u8 ((n:Nat):Int)) hb)) ?_
  refine oGP (KD (v:=.bool false) rfl rfl (br_f (br_neq (b:=3)) dc)) ?_
  refine oGP (KY rfl rfl) ?_
  refine oGP (KV rfl rfl) ?_
  refine oP (KY rfl rfl) ?_
  refine KC ?_
  refine KI rfl ?_
  refine KL ?_
  refine KB (KA ?_)
  refine oM ?_
  refine oM ?_
  refine oP (KD rfl rfl (Kj (a:=1) om)) ?_
  refine oP (KG (Det.slStrLH Tryz.underlying9 rfl rfl rfl om om om) (show _ = Value.string (s.extract 1 (1+nby V.p)) from by rw [Int.toNat_natCast]; rfl)) ?_
  refine oS (cZ rfl en_44 rfl (fun w hw hs=>(c_n_ReadX X (s.extract 1 (1+nby V.p)) w (by rw [KAh _ _ _ om]; omega) hX).mono fun e w' h=>Kw (Old.nil _) hs h) ?_)
  rintro _ _ ⟨q48,rfl,rfl,hn48⟩
  refine oP (KG (Ki pl_35 zr_35 rfl rfl) (show _ = rpV (numV q48 X) (.slice none 0 0) (false) from rfl)) ?_
  refine oS (mk (KN zr_35) (fun b8=>?_))
  refine KO rfl (sA rfl rfl sz_35 (by repeat (first|exact Kc|refine KZ rfl ?_)) (hl:=by first|rfl|(show _<3; decide)) (h:=?_))
  refine KC ?_
  refine KB ?_
  refine KB (KA ?_)
  refine oP (KF (o':=0) Tryz.underlying35 rfl rfl rfl sz_28 dc) ?_
  refine oD (dL rfl (hv:=KJ Tryz.underlying28 rfl (by first|rfl|exact KX _ _ _ om|exact KU _ om|exact KS _ om|exact dv_m _ _ _ om))) ?_
  refine oP (KF (o':=1) Tryz.underlying30 rfl rfl rfl sz_28 dc) ?_
  refine oD (dL rfl (hv:=KJ Tryz.underlying28 rfl (by first|rfl|exact KX _ _ _ om|exact KU _ om|exact KS _ om|exact dv_m _ _ _ om))) ?_
  refine oS (cF rfl en_45 rfl (fun w hw=>c_n_Cmp q48 Q.p X V.p w (mC hw) (KAg (mC hw)) hXd) ?_)
  refine oP (KD (v:=.bool false) rfl rfl (br_f cmp_geq (Nat.not_le_of_gt hXp))) ?_
  refine KC ?_
  refine KI rfl ?_
  refine KL ?_
  refine KB ?_
  refine KB (KA ?_)
  refine oM ?_
  refine KC ?_
  refine KI rfl ?_
  refine KL ?_
  refine KB ?_
  refine rD [] ?_
  refine aD 0 rfl (dL rfl (hv:=by exact KE Tryz.underlying30 rfl sz_30)) ?_
  refine aP 1 rfl (KF (o':=0) Tryz.underlying35 rfl rfl rfl sz_28 dc) ?_
  refine aD 2 rfl (dL rfl (hv:=KJ Tryz.underlying28 rfl (by first|rfl|exact KX _ _ _ om|exact KU _ om|exact KS _ om|exact dv_m _ _ _ om))) ?_
  refine aP 4 rfl (KF (o':=1) Tryz.underlying30 rfl rfl rfl sz_28 dc) ?_
  refine aD 5 rfl (dL rfl (hv:=KJ Tryz.underlying28 rfl (by first|rfl|exact KX _ _ _ om|exact KU _ om|exact KS _ om|exact dv_m _ _ _ om))) ?_
  refine aO 3 rfl (cZ rfl en_47 rfl (fun w hw hs=>(c_r_rightR R Q V q48 X w (mC hw) hok (mC hw) hXp hR).mono fun e w' h=>Kw (Old.nil _) hs h) ?_)
  rintro _ _ ⟨q74,rfl,rfl,hn74⟩
  refine aO 6 rfl (cZ rfl en_46 rfl (fun w hw hs=>(c_n_SqrtR r true V q74 Q.p R w hok (mC hw) (KAg (mC hw)) hRp hs1 hs2).mono fun e w' h=>Kw (Old.nil _) hs h) ?_)
  rintro _ _ ⟨q77,rfl,rfl,hn77⟩
  refine aM 7 ?_
  refine aP 8 rfl (Det.extract rfl rfl) ?_
  refine aP 9 rfl (Det.extract rfl rfl) ?_
  refine aA 10 ?_
  refine aA 11 ?_
  refine aE ?_
  refine KB ?_
  refine KB ?_
  refine rD [] ?_
  refine aM 0 ?_
  refine aM 1 ?_
  refine aGM 2 ?_
  refine aGM 4 ?_
  refine aGP 5 rfl (KG (Ko Tryz.underlying9 rfl rfl om om) (show _ = .int .u8 ((3:Nat):Int) from congrArg (fun n:Nat=>Value.int .u8 ((n:Nat):Int)) hb)) ?_
  refine aGP 6 rfl (KAb Tryz.underlying5 Tryz.underlying3 rfl om) ?_
  refine aGP 7 rfl (KD (v:=.int .i64 ((1:Nat):Int)) rfl rfl (by rfl)) ?_
  refine aGO 3 rfl (cF rfl en_33 rfl (fun w hw=>c_n_bit0 0 r q77 w (mC hw) hr) ?_)
  refine aGP 8 rfl (KD (v:=.bool true) rfl rfl (br_t br_neq dc)) ?_
  refine aP 9 rfl (KY rfl rfl) ?_
  refine aE ?_
  refine KT rfl ?_
  refine KB (KA ?_)
  refine oM ?_
  refine oP (KAK Tryz.underlying28 rfl) ?_
  refine oP (KD (v:=.bool false) rfl rfl (br_f (Ky (b:=0)) (fun e=>hr0 (nw_eq_zero.1 e)))) ?_
  refine KC ?_
  refine KI rfl ?_
  refine KA ?_
  refine oP (KF (o':=1) Tryz.underlying30 rfl rfl rfl sz_28 dc) ?_
  refine oD (dL rfl (hv:=KJ Tryz.underlying28 rfl (by first|rfl|exact KX _ _ _ om|exact KU _ om|exact KS _ om|exact dv_m _ _ _ om))) ?_
  refine oM ?_
  refine oS (cZ rfl en_16 rfl (fun w hw hs=>(c_n_Sub Q.p q77 V.p r w (KAg (mC hw)) (mC hw) (Nat.le_of_lt hrp) om).mono fun e w' h=>Kw (Old.nil _) hs h) ?_)
  rintro _ _ ⟨q96,rfl,rfl,hn96⟩
  refine oA ?_
  refine KC ?_
  refine KB ?_
  refine KB (KA ?_)
  refine oM ?_
  refine oP (KG (KAN rfl) (show _ = Value.bool false from rfl)) ?_
  refine KC ?_
  refine KI rfl ?_
  refine KL ?_
  refine KB (KA ?_)
  refine oM ?_
  refine oP (KF (o':=1) Tryz.underlying35 rfl rfl rfl sz_28 dc) ?_
  refine KO rfl (Ke rfl rfl rfl sz_28 (by repeat (first|exact Sh _|apply St_)) (by first|rfl|(show _<3; decide)) (by first|exact KAA _ _ _ _ _|exact KAF _ _ _ _ om|exact KAC _ _ _ _|rfl) (by simp) ?_)
  refine KC ?_
  refine KB (KA ?_)
  refine oD (dL rfl (hv:=by exact KE Tryz.underlying35 rfl sz_35)) ?_
  refine KO rfl (sA rfl rfl sz_35 (by repeat (first|exact Kc|refine KZ rfl ?_)) (hl:=by first|rfl|(show _<3; decide)) (h:=?_))
  refine oP (KQ (v:=.int .i64 ((0:Nat):Int)) rfl) ?_
  refine KC (KK ?_)
  refine ⟨[_,_],.cons ⟨_,_,_,rfl,mM,by exact KE Tryz.underlying35 rfl sz_35⟩ (.cons rfl .nil),fun a' w' hr=>hr.num2Q (q:=q48) (r:=q96) (mk:=fun u v=>.tuple #[rpV u v false,.int .i64 ((0:Nat):Int)]) mM hn48 mM hn96⟩
end Go.Proofs.YtlmiolnccgjjjaaGreat
set_option linter.unusedVariables false
set_option linter.unusedSimpArgs false
set_option maxRecDepth 20000
namespace Go.Proofs.YtlmiolnccgjjjaaGreat
open Go Go.RowKit
theorem getX_w9 {V:Cv} (hnb:nby V.p≤72) {s:ByteArray} (h:1+nby V.p≤s.size):getX V s<W9:=beVal_w9 (by show (s.extract 1 (1+nby V.p)).size≤72; rw [KAh _ _ _ h]; omega)
theorem getY_w9 {V:Cv} (hnb:nby V.p≤72) {s:ByteArray} (h:s.size = 1+2*nby V.p):getY V s<W9:=beVal_w9 (by show (s.extract (1+nby V.p) s.size).size≤72; rw [KAh _ _ _ (Nat.le_refl _)]; omega)
theorem nbp_72 {V:Cv} (hok:V.Ok):nby V.p≤72:=by have:=KAQ (KAB hok.bounds.2.1); (unfold nby; omega)
theorem c_s_Get (id:Int) (V:Cv) (s:ByteArray) (w:World) (h:cvI id = some V) (hs:s.size<9223372036854775808):Calls Tryz.prog 41 ([.int .i64 id,.string s]:List Value).toArray w (fun e w'=>e = .returned (getV V s)∧Below w.heap.size w w'):=by
  obtain ⟨hok,-⟩:=cvI_ok h
  have hnb:=nbp_72 hok
  have hk1:=nby_posV hok
  by_cases h0:s.size = 0
  · have e : s = ⟨#[]⟩ := by
      obtain ⟨d⟩:=s
      have h1:d.size = 0:=h0
      rw [Array.size_eq_zero_iff.1 h1]
    rw [getV_eq (get_form om om),e]
    exact c_s_Get_emp id V w h
  · by_cases h2:b0 s = 2
    · by_cases h1:s.size = 1+nby V.p
      · have hx:beVal (s.extract 1 s.size).data.toList = getX V s:=by unfold getX; rw [← h1]
        exact c_s_Get_s0 id V s (getX V s) (liftT V (getX V s) 0).1 (liftT V (getX V s) 0).2.1 (liftT V (getX V s) 0).2.2 w h h1 h2 hx (getX_w9 hnb om) rfl
      · rw [getV_eq (get_form om om)]
        exact c_s_Get_f2 id V s w h h0 hs h2 h1
    · by_cases h3:b0 s = 3
      · by_cases h1:s.size = 1+nby V.p
        · have hx:beVal (s.extract 1 s.size).data.toList = getX V s:=by unfold getX; rw [← h1]
          exact c_s_Get_s1 id V s (getX V s) (liftT V (getX V s) 1).1 (liftT V (getX V s) 1).2.1 (liftT V (getX V s) 1).2.2 w h h1 h3 hx (getX_w9 hnb om) rfl
        · rw [getV_eq (get_form om om)]
          exact c_s_Get_f3 id V s w h h0 hs h3 h1
      · by_cases h4:b0 s = 4
        · by_cases h1:s.size = 1+2*nby V.p
          · exact c_s_Get_l id V s (getX V s) (getY V s) _ w h h1 h4 rfl rfl (getX_w9 hnb om) (getY_w9 hnb h1) rfl
          · rw [getV_eq (get_form om om)]
            exact c_s_Get_f4 id V s w h h0 hs h4 h1
        · rw [getV_eq (get_form om om)]
          exact c_s_Get_fo id V s w h h0 hs h2 h3 h4
theorem c_r_Point (Z:Nat×Nat×Nat) (Q:CQ) (V:Cv) (s:ByteArray) (w:World) (hc:(crvI Q V).holds w) (hok:V.Ok) (hs:s.size<9223372036854775808) (hZ:getT V s = Z):Calls Tryz.prog 23 ([.agg (crvL Q V).toArray,.string s]:List Value).toArray w (fun e w'=>Num2R w [] Z.1 Z.2.1 (fun u v=>.tuple #[rpV u v false,.int .i64 ((Z.2.2:Nat):Int)]) e w'):=by
  have hnb:=nbp_72 hok
  have hk1:=nby_posV hok
  by_cases hl:s.size = 1+2*nby V.p
  · by_cases h4:b0 s = 4
    · have hX:=getX_w9 (V:=V) hnb (s:=s) om
      by_cases hXp:getX V s<V.p
      · cases hon:onB V.p V.a V.b (getX V s) (getY V s) false with
        | false =>
          rw [get_longF hl h4 hon] at hZ; subst hZ
          exact c_r_Pt_l0 Q V s (getX V s) (getY V s) w hc hok hs hl h4 rfl hX rfl (getY_w9 hnb hl) hXp hon
        | true =>
          rw [get_long hl h4 hon] at hZ; subst hZ
          exact c_r_Pt_l1 Q V s (getX V s) (getY V s) w hc hok hs hl h4 rfl hX rfl (getY_w9 hnb hl) hXp hon
      · rw [get_longF hl h4 (on_x' hXp)] at hZ; subst hZ
        exact c_r_Pt_xl Q V s (getX V s) w hc hok hs hl h4 rfl hX hXp
    · rw [get_form om om] at hZ; subst hZ
      exact c_r_Pt_f2 Q V s w hc hok hs hl h4
  · by_cases h1:s.size = 1+nby V.p
    · have hX:=getX_w9 (V:=V) hnb (s:=s) om
      have hRp:=right_ltV hok (getX V s)
      by_cases h2:b0 s = 2
      · by_cases hXp:getX V s<V.p
        · cases hq:sqN V.p (rightN V.p V.a V.b (getX V s)) with
          | none =>
            obtain ⟨e1,e2⟩:=sq_none hq
            rw [get_shortF (o:=0) h1 h2 dc (lift_no hXp hq)] at hZ; subst hZ
            exact c_r_Pt_n0 Q V s (getX V s) _ w hc hok hs h1 h2 rfl hX hXp rfl hRp e1 e2
          | some r =>
            obtain ⟨e1,e2⟩:=sq_some hq
            rw [get_short (o:=0) h1 h2 dc (lift_even hXp hq)] at hZ; subst hZ
            exact c_r_Pt_e0 Q V s (getX V s) _ r w hc hok hs h1 h2 rfl hX hXp rfl hRp e1 e2 (sqN_some hq).2.2
        · rw [get_shortF (o:=0) h1 h2 dc (lift_far hXp)] at hZ; subst hZ
          exact c_r_Pt_x0 Q V s (getX V s) w hc hok hs h1 h2 rfl hX hXp
      · by_cases h3:b0 s = 3
        · by_cases hXp:getX V s<V.p
          · cases hq:sqN V.p (rightN V.p V.a V.b (getX V s)) with
            | none =>
              obtain ⟨e1,e2⟩:=sq_none hq
              rw [get_shortF (o:=1) h1 h3 dc (lift_no hXp hq)] at hZ; subst hZ
              exact c_r_Pt_n1 Q V s (getX V s) _ w hc hok hs h1 h3 rfl hX hXp rfl hRp e1 e2
            | some r =>
              obtain ⟨e1,e2⟩:=sq_some hq
              obtain ⟨r1,r2,r3⟩:=sqN_some hq
              by_cases hr0:r = 0
              · subst hr0
                rw [get_shortF (o:=1) h1 h3 dc (lift_zero hXp hq)] at hZ; subst hZ
                exact c_r_Pt_z1 Q V s (getX V s) _ w hc hok hs h1 h3 rfl hX hXp rfl hRp e1 e2
              · rw [get_short (o:=1) h1 h3 dc (lift_odd hXp hq hr0)] at hZ; subst hZ
                exact c_r_Pt_e1 Q V s (getX V s) _ r w hc hok hs h1 h3 rfl hX hXp rfl hRp e1 e2 r3 hr0 r1
          · rw [get_shortF (o:=1) h1 h3 dc (lift_far hXp)] at hZ; subst hZ
            exact c_r_Pt_x1 Q V s (getX V s) w hc hok hs h1 h3 rfl hX hXp
        · rw [get_form om om] at hZ; subst hZ
          exact c_r_Pt_f3 Q V s w hc hok hs h1 h2 h3
    · rw [get_form om om] at hZ; subst hZ
      exact c_r_Pt_f1 Q V s w hc hok hs hl h1
end Go.Proofs.YtlmiolnccgjjjaaGreat
set_option linter.unusedVariables false
set_option linter.unusedSimpArgs false
set_option maxRecDepth 20000
namespace Go.Proofs.YtlmiolnccgjjjaaGreat
open Go Go.RowKit
theorem Rel.setOwn {C : Ctx} {st : St} {a : Act} {w w' : World} (h : Rel C st a w) {x x' : Item} {R : List Item} (hp : Pick x st.H R) (hx : x.wr = true) (hx' : x'.holds w')
    (hnew:∀ k,k∈x'.fp→w.heap.size≤k∨k∈x.fp) (hf:Fr (fun k=>k∈x.fp) w w'):Rel C ⟨st.T,x' :: R⟩ a w':=by
  have hpm:=hp.perm
  have hdist:(x :: R).Pairwise Apart:=(hpm.pairwise_iff (fun h=>Apart.symm h)).1 h.dist
  obtain ⟨hXR,hR⟩:=List.pairwise_cons.1 hdist
  have inR:∀ y,y∈R→y∈st.H:=fun y hy=>hpm.mem_iff.2 (.tail _ hy)
  have inX:x∈st.H:=hpm.mem_iff.2 (.head _)
  refine ⟨h.size,h.defers,h.tm,fun y hy=>?_,fun y hy hw k hk=>?_,?_,?_⟩
  · rcases List.mem_cons.1 hy with rfl|hy
    · exact hx'
    · have hold:=h.hp y (inR y hy)
      exact Item.holds_agree hold (fun k hk=>hf.block k (Item.lt hold k hk) (fun hkx=>hXR y hy (.inl hx) k hkx hk)) hf.size
  · rcases List.mem_cons.1 hy with rfl|hy
    · rcases hnew k hk with h1|h1
      · exact .inl (Nat.le_trans h.fr.size h1)
      · exact h.own x inX hx k h1
    · exact h.own y (inR y hy) hw k hk
  · refine List.pairwise_cons.2 ⟨fun y hy _ k hk hk'=>?_,hR⟩
    rcases hnew k hk with h1|h1
    · have:=Item.lt (h.hp y (inR y hy)) k hk'
      omega
    · exact hXR y hy (.inl hx) k h1 hk'
  · refine ⟨hf.os.trans h.fr.os,hf.tape.trans h.fr.tape,hf.output.trans h.fr.output,Nat.le_trans h.fr.size hf.size,fun k hk1 hk2=>?_⟩
    refine (hf.block k (Nat.lt_of_lt_of_le hk1 h.fr.size) (fun hkx=>?_)).trans (h.fr.block k hk1 hk2)
    rcases h.own x inX hx k hkx with h1|h1
    · omega
    · exact hk2 h1
abbrev TrRow:=Option (Nat×Nat×List Value)
def trV (b:Option Nat):Value:=.pointer (b.map fun b=>⟨b,0,none⟩)
def evsL (l:List Nat):List Value:=l.flatMap fun k=>[.int .i64 ((2:Nat):Int),.int .i64 ((k:Nat):Int)]
theorem evsL_length (l:List Nat):(evsL l).length = l.length*2:=by
  induction l with
  | nil=>rfl
  | cons k l ih =>
    show ([Value.int .i64 ((2:Nat):Int),.int .i64 ((k:Nat):Int)]++evsL l).length = _
    rw [List.length_append,ih,List.length_cons]; show 2+l.length*2 = (l.length+1)*2; omega
theorem evsL_snoc (l:List Nat) (k:Nat):evsL (l++[k]) = evsL l++[.int .i64 ((2:Nat):Int),.int .i64 ((k:Nat):Int)]:=by simp [evsL]
def trSl (r:TrRow) (n:Nat):Value:=match r with
  | none=>.slice none 0 0
  | some r=>.slice (some ⟨r.1,0,none⟩) n r.2.1
def trFp (b:Option Nat) (r:TrRow):List Nat:=match b with
  | none=>[]
  | some b=>match r with
    | none=>[b]
    | some r=>[b,r.1]
def trP (b:Option Nat) (r:TrRow) (l:List Nat) (w:World):Prop:=match b with
  | none=>True
  | some b=>w.heap[b]? = some (.cells [trSl r l.length].toArray 98 (0,0))∧match r with
    | none=>l = []
    | some r=>w.heap[r.1]? = some (.cells (evsL l++r.2.2).toArray 101 (0,0))∧(evsL l).length+r.2.2.length = r.2.1*2∧r.1≠b
def trI (b:Option Nat) (r:TrRow) (l:List Nat):Item:=.own (trFp b r) (trP b r l)
theorem trI_P {b:Option Nat} {r:TrRow} {l:List Nat} {w:World} (h:(trI b r l).holds w):trP b r l w:=h.2 w (Agree.refl _ _)
theorem trI_of {b:Option Nat} {r:TrRow} {l:List Nat} {w:World} (h:trP b r l w):(trI b r l).holds w:=by
  rcases b with _|b
  · exact ⟨fun k hk=>(by cases hk),fun _ _=>trivial⟩
  · rcases r with _|r
    · obtain ⟨h1,h2⟩:=h
      refine ⟨fun k hk=>?_,fun w' ha=>⟨(ha b (.head _)).trans h1,h2⟩⟩
      have:k = b:=by simpa [trFp] using hk
      subst this; exact lt_of_get h1
    · obtain ⟨h1,h2,h3,h4⟩:=h
      refine ⟨fun k hk=>?_,fun w' ha=>⟨(ha b (.head _)).trans h1,(ha r.1 (.tail _ (.head _))).trans h2,h3,h4⟩⟩
      have:k = b∨k = r.1:=by simpa [trFp] using hk
      rcases this with rfl|rfl
      · exact lt_of_get h1
      · exact lt_of_get h2
theorem trI_nil (l:List Nat) (w:World):(trI none none l).holds w:=trI_of trivial
def Out (b:Option Nat) (r:TrRow) (x:Item):Prop:=∀ k,k∈trFp b r→k ∉ x.fp
theorem Out.nil (r:TrRow) (x:Item):Out none r x:=fun k hk=>by cases hk
def Outs (b:Option Nat) (r:TrRow):List Item→Prop
  | []=>True
  | x :: t=>Out b r x∧Outs b r t
theorem Outs.mem {b:Option Nat} {r:TrRow} {H:List Item} (h:Outs b r H):∀ x,x∈H→Out b r x:=by
  induction H with
  | nil=>intro x hx; cases hx
  | cons y t ih =>
    intro x hx
    rcases List.mem_cons.1 hx with rfl|hx
    · exact h.1
    · exact ih h.2 x hx
def TrR (w:World) (b:Option Nat) (r:TrRow) (l:List Nat) (v:Value) (e:Ending) (w':World):Prop :=
  ∃ r',e = .returned v∧(trI b r' l).holds w'∧(∀ k,k∈trFp b r'→w.heap.size≤k∨k∈trFp b r)∧Fr (fun k=>k∈trFp b r) w w'
theorem TrR.nil {w:World} {r:TrRow} {l:List Nat} {v:Value} {e:Ending} {w':World} (h:TrR w none r l v e w'):e = .returned v∧Below w.heap.size w w':=by
  obtain ⟨_,h1,_,_,h2⟩:=h
  exact ⟨h1,h2.os,h2.tape,h2.output,h2.size,fun k hk=>h2.block k hk (fun hk'=>by cases hk')⟩
theorem TrR.same {w:World} {b:Option Nat} {r:TrRow} {l:List Nat} {v:Value} {e:Ending} {w':World} (h:(trI b r l).holds w) (he:e = .returned v) (hb:Below w.heap.size w w'):TrR w b r l v e w' :=
  ⟨r,he,Item.holds_agree h (fun k hk=>hb.block k (Item.lt h k hk)) hb.size,fun k hk=>.inr hk,hb.os,hb.tape,hb.output,hb.size,fun k hk _=>hb.block k hk⟩
section
variable {P:Program} {C:Ctx} {ty:TypeId} {pos:String} {aft:Array Edge} {d:Nat} {K:St→Prop} {x:Operand} {v:Value}
theorem LStepW.callT {T : List (Nat × Value)} {H R : List Item} {f : FuncId} {xs : List Operand} {vs first : List Value} {ats : Array TypeId} {g : Option (Nat × Bool)} {b : Option Nat} {r : TrRow} {l l' : List Nat} (hf : evT T x = some (.func (.func f) first.toArray #[])) (he : Kq P f) (ha : evL T xs = some vs) (hd : d < C.N)
    (hp:Pick (trI b r l) H R)
    (hc:∀ w,(∀ x,x∈H→x.holds w)→(∀ y,y∈R→Out b r y)→Calls P f (first++vs).toArray w (TrR w b r l' v))
    (h:∀ r',K ⟨(d,v) :: T,trI b r' l' :: R⟩):LStepW P C ⟨some d,.call { callee:=.value x,args:=xs.toArray,argTypes:=ats },ty,pos,aft,g⟩ ⟨T,H⟩ K:=by
  unfold LStepW
  intro a w hr Qr
  obtain ⟨fn,h1,h2,h3⟩:=he
  have hdist:(trI b r l :: R).Pairwise Apart:=(hp.perm.pairwise_iff (fun h=>Apart.symm h)).1 hr.dist
  refine wp_callee (vs:=first++vs) ?_ (hc w hr.hp (fun y hy k hk=>(List.pairwise_cons.1 hdist).1 y hy (.inl rfl) k hk)) ?_
  · have:=hr.evs ha
    simp [execOp,resolve,hr.ev hf,Deferred.ofValue,invoke,run_call h1 h2 h3,this]
  · rintro e' w' ⟨r',rfl,hits,hnew,hfr⟩
    exact ⟨v,rfl,_,h r',(hr.setOwn hp rfl hits hnew hfr).put hd v⟩
end
theorem calls_tr {P : Program} {f : FuncId} {fn : Func} {c : Code} {vs : List Value} {w : World} (b : Option Nat) (r : TrRow) (l : List Nat) (H : List Item) {rs : List ResultVar} {N : Nat} {R : Ending → World → Prop} (hf : P.funcs[f]? = some fn) (hb : fn.body = some c) (hn : fn.ntmps = N) (hs : fn.results = rs.toArray)
    (hlen:vs.length≤N) (h0:(trI b r l).holds w) (hH:Hold w H) (hro:H.all (fun x=>!x.wr) = true) (hne:Outs b r H)
    (h:LCode P ⟨w,fun k=>k∈trFp b r,N⟩ c ⟨argT 0 vs,trI b r l :: H⟩ (LEnd P ⟨w,fun k=>k∈trFp b r,N⟩ rs fun v _ w'=>R (.returned v) w')):Calls P f vs.toArray w R:=by
  have hr:∀ x,x∈H→x.wr = false:=by
    intro x hx
    have:=List.all_eq_true.1 hro x hx
    simpa using this
  refine calls_walk hf hb hn hs hlen ?_ ?_ ?_ h
  · intro x hx
    rcases List.mem_cons.1 hx with rfl|hx
    · exact h0
    · exact hH.mem x hx
  · intro x hx hw k hk
    rcases List.mem_cons.1 hx with rfl|hx
    · exact hk
    · rw [hr x hx] at hw; cases hw
  · exact List.pairwise_cons.2 ⟨fun y hy _ k hk hk'=>hne.mem y hy k hk hk',List.pairwise_of_forall_mem_list (fun x hx y hy hw=>(by rw [hr x hx,hr y hy] at hw; rcases hw with hw|hw <;> cases hw))⟩
theorem Rel.tr {w:World} {b:Option Nat} {r r':TrRow} {l:List Nat} {N:Nat} {st:St} {a:Act} {w':World} {v:Value} (h:Rel ⟨w,fun k=>k∈trFp b r,N⟩ st a w') (hm:trI b r' l∈st.H):TrR w b r l v (.returned v) w' :=
  ⟨r',rfl,h.hp _ hm,fun k hk=>h.own _ hm rfl k hk,h.fr⟩
theorem calls_wM {P : Program} {f : FuncId} {fn : Func} {c : Code} {vs : List Value} {w : World} (X : List Item) (W : Nat → Prop) {rs : List ResultVar} {N : Nat} {R : Ending → World → Prop} (hf : P.funcs[f]? = some fn) (hb : fn.body = some c) (hn : fn.ntmps = N) (hs : fn.results = rs.toArray)
    (hlen:vs.length≤N) (hX:Hold w X) (hd:X.Pairwise Apart) (hW:∀ x,x∈X→x.wr = true→∀ k,k∈x.fp→W k)
    (h:LCode P ⟨w,W,N⟩ c ⟨argT 0 vs,X⟩ (LEnd P ⟨w,W,N⟩ rs fun v _ w'=>R (.returned v) w')):Calls P f vs.toArray w R :=
  calls_walk hf hb hn hs hlen hX.mem hW hd h
theorem apart_two {H:List Item} (h:H.Pairwise Apart) {b c:Nat} {B D:Blk} (hx:Item.blk b B∈H) (hy:Item.blk c D∈H) (hw:B.wr = true) (hne:B.elem≠D.elem):c≠b:=by
  rintro rfl
  have hne':Item.blk c B≠Item.blk c D:=fun e=>by injection e with _ e; exact hne (congrArg Blk.elem e)
  have key:∀ (l:List Item),l.Pairwise Apart→Item.blk c B∈l→Item.blk c D∈l→False:=by
    intro l hl h1 h2
    induction l with
    | nil=>cases h1
    | cons q l ih =>
      obtain ⟨g1,g2⟩:=List.pairwise_cons.1 hl
      rcases List.mem_cons.1 h1 with e1|k1 <;> rcases List.mem_cons.1 h2 with e2|k2
      · exact hne' (e1.trans e2.symm)
      · subst e1; exact g1 (.blk c D) k2 (.inl hw) c (.head _) (.head _)
      · subst e2; exact g1 (.blk c B) k1 (.inr hw) c (.head _) (.head _)
      · exact ih g2 k1 k2
  exact key H h hx hy
section
variable {P:Program} {C:Ctx} {ty:TypeId} {pos:String} {aft:Array Edge} {d:Nat} {K:St→Prop} {x y:Operand} {t e:TypeId}
theorem LStepW.appendSM {s : Nat} {T : List (Nat × Value)} {H H0 : List Item} {b a0 c0 n cap m bytes : Nat} {zv : Value} {xs rest news cs more : List Value} {wr : Bool} {ea : TypeId} {fz : Nat × Nat} {g : Option (Nat × Bool)} (hx : evT T x = some (.slice (some ⟨b, 0, none⟩) n cap)) (hy : evT T y = some (.slice (some ⟨a0, 0, none⟩) m c0))
    (ht:P.underlying t = some (.slice e)) (hi:infOf P e = some (zv,s,bytes)) (hz0:zv.cells.size = s) (hp:Pick (.blk b ⟨true,xs++rest,e,(0,0)⟩) H H0) (hm:Item.blk a0 ⟨wr,cs,ea,fz⟩∈H0) (hcs:cs = news++more) (hxl:xs.length = n*s) (hcl:xs.length+rest.length = cap*s) (hml:news.length = m*s) (ho:AllOne news)
    (hn:(n+m)*bytes≤140737488355328) (hn2:n+m≤1000000000) (hd:d<C.N)
    (h:∀ b' cap' rest',xs.length+news.length+rest'.length = cap'*s→K ⟨(d,.slice (some ⟨b',0,none⟩) (n+m) cap') :: T,.blk b' ⟨true,(xs++news)++rest',e,(0,0)⟩ :: H0⟩):LStepW P C ⟨some d,.call { callee:=.builtin .append,args:=#[x,y],argTypes:=#[t,t] },ty,pos,aft,g⟩ ⟨T,H⟩ K:=by
  unfold LStepW
  intro a w hr Qr
  obtain ⟨i,hi1,hi3,hi2,hi4⟩:=inf_spec hi
  have hpm:=hp.perm
  have hin:Item.blk b ⟨true,xs++rest,e,(0,0)⟩∈H:=hpm.mem_iff.2 (.head _)
  have hb:w.heap[b]? = some (.cells (xs++rest).toArray e (0,0)):=hr.hp _ hin
  have ha:w.heap[a0]? = some (.cells cs.toArray ea fz):=hr.hp _ (hpm.mem_iff.2 (.tail _ hm))
  subst hcs
  have hpos:=hr.own _ hin rfl b (by simp [Item.fp])
  have hdd:(Item.blk b ⟨true,xs++rest,e,(0,0)⟩ :: H0).Pairwise Apart:=(List.Perm.pairwise_iff (fun h=>Apart.symm h) hpm).1 hr.dist
  obtain ⟨hd1,hd2⟩:=List.pairwise_cons.1 hdd
  have hmm:∀ x,x∈H0→x∈H:=fun x hx=>hpm.mem_iff.2 (.tail _ hx)
  have hnews:∀ j u,news[j]? = some u→w.cell? ((⟨a0,0,none⟩:Addr).add j) = some u:=fun j u hj=>by
    have hadd:(⟨a0,0,none⟩:Addr).add j = ⟨a0,0+j,none⟩:=by unfold Addr.add; split <;> simp_all
    rw [hadd,cellOf ha,Nat.zero_add,List.getElem?_append_left (by rcases Nat.lt_or_ge j news.length with h'|h'; exact h'; rw [List.getElem?_eq_none h'] at hj; cases hj)]; exact hj
  have hsel:Rel C ⟨T,H0⟩ a w:=⟨hr.size,hr.defers,hr.tm,fun x hx=>hr.hp x (hmm x hx),fun x hx=>hr.own x (hmm x hx),hd2,hr.fr⟩
  unfold Oper.wp
  by_cases hroom:n+m≤cap
  · have hrr:=run_append_room (P:=P) w t ty e i ht hi1 b n cap (xs++rest).toArray hb ⟨a0,0,none⟩ m c0 news (by rw [hi2]; exact hml) hnews (fun u hu=>by have:=ho u hu; cases u <;> simp_all [one,Value.oneCell']) hroom (by have hs2:=Nat.mul_le_mul_right s hroom; rw [Nat.add_mul] at hs2; simp [hi2]; omega)
    rw [exec_append (hr.ev hx) (hr.ev hy) hrr]
    have e1:((xs++rest).toArray.toList.take (n*i.size)++news++(xs++rest).toArray.toList.drop (n*i.size+news.length)) = (xs++news)++rest.drop (m*s):=by
      rw [hi2,hml,← hxl]
      simp
    rw [e1]
    have hK:=h b cap (rest.drop (m*s)) (by have hs2:=Nat.mul_le_mul_right s hroom; rw [Nat.add_mul] at hs2; simp; omega)
    refine ⟨_,hK,?_⟩
    have hnew:(w.setRow b ((xs++news)++rest.drop (m*s)).toArray).heap[b]? = some (.cells ((xs++news)++rest.drop (m*s)).toArray e (0,0)):=setRow_heap w b _ _ e _ hb
    have hoth:∀ k,k≠b→(w.setRow b ((xs++news)++rest.drop (m*s)).toArray).heap[k]? = w.heap[k]?:=fun k hk=>setRow_other w b k _ hk
    have hr2:Rel C ⟨T,.blk b ⟨true,xs++rest,e,(0,0)⟩ :: H0⟩ a w:=⟨hr.size,hr.defers,hr.tm,fun x hx=>hr.hp x (hpm.mem_iff.2 hx),fun x hx=>hr.own x (hpm.mem_iff.2 hx),hdd,hr.fr⟩
    exact (hr2.setBlk (B':=⟨true,(xs++news)++rest.drop (m*s),e,(0,0)⟩) (SetAt.head _) rfl hnew hoth (by simp [World.setRow]) rfl rfl rfl).put hd _
  · have hrr := run_append_grow (P := P) w t ty e i zv ht hi1 hi3 ⟨b, 0, none⟩ n cap xs (by rw [hi2]; exact hxl) (fun j u hj => by
      have hadd:(⟨b,0,none⟩:Addr).add j = ⟨b,0+j,none⟩:=by unfold Addr.add; split <;> simp_all
      rw [hadd,cellOf hb,Nat.zero_add]
      rcases Nat.lt_or_ge j xs.length with h'|h'
      · rw [List.getElem?_append_left h']; exact hj
      · rw [List.getElem?_eq_none h'] at hj; cases hj) ⟨a0,0,none⟩ m c0 news (by rw [hi2]; exact hml) hnews om om (growslice_fits om (by rw [hi4]; exact hn))
    rw [exec_append (hr.ev hx) (hr.ev hy) hrr]
    have hge:=grownCap_ge w (n+m) cap e
    have hK:=h w.heap.size (grownCap w (n+m) cap e) (Builtin.zeroCells zv.cells (grownCap w (n+m) cap e-(n+m))).toList (by
      have hzz:=size_zeroCells zv.cells (grownCap w (n+m) cap e-(n+m))
      rw [hz0] at hzz
      rw [← Array.length_toList,Nat.sub_mul,Nat.add_mul] at hzz
      have hs2:=Nat.mul_le_mul_right s hge
      rw [Nat.add_mul] at hs2
      omega)
    refine ⟨_,hK,?_⟩
    have hal:=hsel.drew.alloc ((xs++news)++(Builtin.zeroCells zv.cells (grownCap w (n+m) cap e-(n+m))).toList) e
    have hcs:((xs++news)++(Builtin.zeroCells zv.cells (grownCap w (n+m) cap e-(n+m))).toList).toArray = xs.toArray++news.toArray++Builtin.zeroCells zv.cells (grownCap w (n+m) cap e-(n+m)):=by
      apply Array.ext'
      simp
    rw [hcs] at hal
    exact hal.put hd _
theorem LStepW.appendS {s : Nat} {T : List (Nat × Value)} {H H0 : List Item} {b a0 c0 n cap m bytes : Nat} {zv : Value} {xs rest news : List Value} {wr : Bool} {ea : TypeId} {fz : Nat × Nat} {g : Option (Nat × Bool)} (hx : evT T x = some (.slice (some ⟨b, 0, none⟩) n cap)) (hy : evT T y = some (.slice (some ⟨a0, 0, none⟩) m c0))
    (ht:P.underlying t = some (.slice e)) (hi:infOf P e = some (zv,s,bytes)) (hz0:zv.cells.size = s) (hp:Pick (.blk b ⟨true,xs++rest,e,(0,0)⟩) H H0) (hm:Item.blk a0 ⟨wr,news,ea,fz⟩∈H0) (hxl:xs.length = n*s) (hcl:xs.length+rest.length = cap*s) (hml:news.length = m*s) (ho:AllOne news)
    (hn:(n+m)*bytes≤140737488355328) (hn2:n+m≤1000000000) (hd:d<C.N)
    (h:∀ b' cap' rest',xs.length+news.length+rest'.length = cap'*s→K ⟨(d,.slice (some ⟨b',0,none⟩) (n+m) cap') :: T,.blk b' ⟨true,(xs++news)++rest',e,(0,0)⟩ :: H0⟩):LStepW P C ⟨some d,.call { callee:=.builtin .append,args:=#[x,y],argTypes:=#[t,t] },ty,pos,aft,g⟩ ⟨T,H⟩ K :=
  LStepW.appendSM (cs:=news) (more:=[]) hx hy ht hi hz0 hp hm (List.append_nil _).symm hxl hcl hml ho hn hn2 hd h
theorem LStepW.appendNilS {s : Nat} {T : List (Nat × Value)} {H : List Item} {a0 c0 m bytes : Nat} {zv : Value} {news : List Value} {wr : Bool} {ea : TypeId} {fz : Nat × Nat} {g : Option (Nat × Bool)} (hx : evT T x = some (.slice none 0 0)) (hy : evT T y = some (.slice (some ⟨a0, 0, none⟩) m c0))
    (ht:P.underlying t = some (.slice e)) (hi:infOf P e = some (zv,s,bytes)) (hz0:zv.cells.size = s) (hm:Item.blk a0 ⟨wr,news,ea,fz⟩∈H) (hml:news.length = m*s) (h0:0<m)
    (hn:m*bytes≤140737488355328) (hn2:m≤1000000000) (hd:d<C.N)
    (h:∀ b' cap' rest',news.length+rest'.length = cap'*s→K ⟨(d,.slice (some ⟨b',0,none⟩) m cap') :: T,.blk b' ⟨true,news++rest',e,(0,0)⟩ :: H⟩):LStepW P C ⟨some d,.call { callee:=.builtin .append,args:=#[x,y],argTypes:=#[t,t] },ty,pos,aft,g⟩ ⟨T,H⟩ K:=by
  unfold LStepW
  intro a w hr Qr
  obtain ⟨i,hi1,hi3,hi2,hi4⟩:=inf_spec hi
  have ha:w.heap[a0]? = some (.cells news.toArray ea fz):=hr.hp _ hm
  have hnews:∀ j u,news[j]? = some u→w.cell? ((⟨a0,0,none⟩:Addr).add j) = some u:=fun j u hj=>by
    have hadd:(⟨a0,0,none⟩:Addr).add j = ⟨a0,0+j,none⟩:=by unfold Addr.add; split <;> simp_all
    rw [hadd,cellOf ha,Nat.zero_add]; exact hj
  unfold Oper.wp
  have hrr:=run_append_nil (P:=P) w t ty e i zv ht hi1 hi3 ⟨a0,0,none⟩ m c0 news (by rw [hi2]; exact hml) hnews h0 om (by rw [hi4]; omega)
  rw [exec_append (hr.ev hx) (hr.ev hy) hrr]
  have hge:=grownCap_ge w m 0 e
  have hK:=h w.heap.size (grownCap w m 0 e) (Builtin.zeroCells zv.cells (grownCap w m 0 e-m)).toList (by
    have hzz:=size_zeroCells zv.cells (grownCap w m 0 e-m)
    rw [hz0] at hzz
    rw [← Array.length_toList,Nat.sub_mul] at hzz
    have hs2:=Nat.mul_le_mul_right s hge
    omega)
  refine ⟨_,hK,?_⟩
  have hal:=hr.drew.alloc (news++(Builtin.zeroCells zv.cells (grownCap w m 0 e-m)).toList) e
  have hcs:(news++(Builtin.zeroCells zv.cells (grownCap w m 0 e-m)).toList).toArray = news.toArray++Builtin.zeroCells zv.cells (grownCap w m 0 e-m):=by
    apply Array.ext'
    simp
  rw [hcs] at hal
  exact hal.put hd _
end
end Go.Proofs.YtlmiolnccgjjjaaGreat
set_option linter.unusedVariables false
set_option linter.unusedSimpArgs false
set_option maxRecDepth 20000
namespace Go.Proofs.YtlmiolnccgjjjaaGreat
open Go Go.RowKit
theorem inf_ev:infOf Tryz.prog 101 = some (.agg ([.int .i64 ((0:Nat):Int),.int .i64 ((0:Nat):Int)]:List Value).toArray,2,16):=by kernel_rfl
theorem fill_ev (k:Nat):fillL ((List.range 1).map fun i=>(i*2,2)) [Value.int .i64 ((0:Nat):Int),.int .i64 ((0:Nat):Int)] [(0,.agg ([.int .i64 ((2:Nat):Int),.int .i64 ((k:Nat):Int)]:List Value).toArray)] = some [.int .i64 ((2:Nat):Int),.int .i64 ((k:Nat):Int)]:=fillL_whole rfl rfl
theorem row_ev:((Array.range (1*2)).map fun i=>(Value.agg ([.int .i64 ((0:Nat):Int),.int .i64 ((0:Nat):Int)]:List Value).toArray).cells[i%(Value.agg ([.int .i64 ((0:Nat):Int),.int .i64 ((0:Nat):Int)]:List Value).toArray).cells.size]!) = ([.int .i64 ((0:Nat):Int),.int .i64 ((0:Nat):Int)]:List Value).toArray:=by kernel_rfl
theorem c_trIndex0 (k:Nat) (w:World)  : Calls Tryz.prog 103 ([trV none,.int .i64 ((k:Nat):Int)]:List Value).toArray w (fun e w'=>e = .returned (.int .i64 ((1:Nat):Int))∧Below w.heap.size w w'):=by
  refine Ka (N:=18) (rs:=[.tmp 4]) [] Tryz.func103 rfl Tryz.ntmps103 Tryz.results103 (Nb rfl) trivial rfl ?_
  show LCode _ _ _ ⟨_,_⟩ _
  refine KB (KA ?_)
  refine oP (KQ (v:=.int .i64 ((0:Nat):Int)) rfl) ?_
  refine KC ?_
  refine KB ?_
  refine KB (KA ?_)
  refine oM ?_
  refine oP (KG (Det.eqp Tryz.underlying60 rfl rfl) (show _ = Value.bool true from rfl)) ?_
  refine KC ?_
  refine KT rfl ?_
  refine KB (KA ?_)
  refine oP (KQ (v:=.int .i64 ((1:Nat):Int)) rfl) ?_
  refine KC (KK ?_)
  refine ⟨[_],.cons rfl .nil,fun a w' hr=>⟨?_,hr.fr.below⟩⟩
  rfl
theorem c_trIndex1 (b k:Nat) (w:World) (hb:trP (some b) none [] w):Calls Tryz.prog 103 ([trV (some b),.int .i64 ((k:Nat):Int)]:List Value).toArray w (fun e w'=>TrR w (some b) none [k] (.int .i64 ((0:Nat):Int)) e w'):=by
  refine calls_wM (N:=18) (rs:=[.tmp 4]) [.blk b ⟨true,[.slice none 0 0],98,(0,0)⟩] (fun j=>j∈trFp (some b) none) Tryz.func103 rfl Tryz.ntmps103 Tryz.results103 (Nb rfl) ⟨hb.1,trivial⟩ (List.pairwise_singleton _ _) (fun x hx _ j hj=>by
    obtain rfl:x = _:=by simpa using hx
    exact hj) ?_
  show LCode _ _ _ ⟨_,_⟩ _
  refine KB (KA ?_)
  refine oP (KQ (v:=.int .i64 ((0:Nat):Int)) rfl) ?_
  refine KC ?_
  refine KB ?_
  refine KB (KA ?_)
  refine oM ?_
  refine oP (KG (Det.eqp Tryz.underlying60 rfl rfl) (show _ = Value.bool false from rfl)) ?_
  refine KC ?_
  refine KI rfl ?_
  refine KL ?_
  refine KB (KA ?_)
  refine oM ?_
  refine oM ?_
  refine oP (KM rfl) ?_
  refine oP (KF (o':=0) Tryz.underlying98 rfl rfl rfl sz_66 dc) ?_
  refine oD (dL rfl (hv:=KJ Tryz.underlying66 rfl (by first|rfl|exact KX _ _ _ om|exact KU _ om|exact KS _ om|exact dv_m _ _ _ om))) ?_
  refine oM ?_
  refine oP (KG (Ki pl_101 zr_101 rfl rfl) (show _ = Value.agg ([.int .i64 ((2:Nat):Int),.int .i64 ((k:Nat):Int)]:List Value).toArray from rfl)) ?_
  refine oS (mk (Makes.row (vs:=[(0,.agg ([.int .i64 ((2:Nat):Int),.int .i64 ((k:Nat):Int)]:List Value).toArray)]) Tryz.underlying66 inf_ev dc row_ev rfl (fill_ev k) (fun h=>by cases h)) (fun b14=>?_))
  refine KO rfl (LStepW.appendNilS (s:=2) (news:=[.int .i64 ((2:Nat):Int),.int .i64 ((k:Nat):Int)]) rfl rfl Tryz.underlying66 inf_ev rfl mM rfl dc dc dc (Nb rfl) ?_)
  intro b1 cap1 rest1 hc1
  refine oP (KM rfl) ?_
  refine oP (KF (o':=0) Tryz.underlying98 rfl rfl rfl sz_66 dc) ?_
  refine KO rfl (Ke rfl rfl rfl sz_66 (by repeat (first|exact Sh _|apply St_)) (by first|(simp only [KW,KH,Kd,Kp]; omega)|(simp; done)|(simp; omega)) (by first|exact KAA _ _ _ _ _|exact KAF _ _ _ _ om|exact KAC _ _ _ _|rfl) (by simp) ?_)
  refine KC ?_
  refine KB (KA ?_)
  refine oP (KQ (v:=.int .i64 ((0:Nat):Int)) rfl) ?_
  refine KC (KK ?_)
  refine ⟨[_],.cons rfl .nil,fun a w' hr=>?_⟩
  have g1:=hr.hp (Item.blk b ⟨true,[.slice (some ⟨b1,0,none⟩) 1 cap1],98,(0,0)⟩) mM
  have g2:=hr.hp (Item.blk b1 ⟨true,[.int .i64 ((2:Nat):Int),.int .i64 ((k:Nat):Int)]++rest1,101,(0,0)⟩) mM
  have o1:=hr.own (Item.blk b ⟨true,[.slice (some ⟨b1,0,none⟩) 1 cap1],98,(0,0)⟩) mM rfl
  have o2:=hr.own (Item.blk b1 ⟨true,[.int .i64 ((2:Nat):Int),.int .i64 ((k:Nat):Int)]++rest1,101,(0,0)⟩) mM rfl
  have hap:b1≠b:=apart_two hr.dist (b:=b) (B:=⟨true,[.slice (some ⟨b1,0,none⟩) 1 cap1],98,(0,0)⟩) (c:=b1) (D:=⟨true,[.int .i64 ((2:Nat):Int),.int .i64 ((k:Nat):Int)]++rest1,101,(0,0)⟩) mM mM rfl (fun e=>absurd (show (98:Nat) = 101 from e) dc)
  exact ⟨some (b1,cap1,rest1),rfl,trI_of ⟨g1,g2,hc1,hap⟩,fun j hj=>(by
    have hj':j = b∨j = b1:=by simpa [trFp] using hj
    rcases hj' with rfl|rfl
    · exact o1 j (.head _)
    · exact o2 j (.head _)),hr.fr⟩
theorem c_trIndex2 (b r cap:Nat) (rest:List Value) (l:List Nat) (k:Nat) (w:World) (hb:trP (some b) (some (r,cap,rest)) l w) (hl:l.length≤100000000):Calls Tryz.prog 103 ([trV (some b),.int .i64 ((k:Nat):Int)]:List Value).toArray w (fun e w'=>TrR w (some b) (some (r,cap,rest)) (l++[k]) (.int .i64 ((0:Nat):Int)) e w'):=by
  refine calls_wM (N:=18) (rs:=[.tmp 4]) [.blk b ⟨true,[.slice (some ⟨r,0,none⟩) l.length cap],98,(0,0)⟩,.blk r ⟨true,evsL l++rest,101,(0,0)⟩] (fun j=>j∈trFp (some b) (some (r,cap,rest))) Tryz.func103 rfl Tryz.ntmps103 Tryz.results103 (Nb rfl) ⟨hb.1,hb.2.1,trivial⟩ (List.pairwise_cons.2 ⟨fun y hy _ j hj hj'=>by
    obtain rfl:y = _:=by simpa using hy
    obtain rfl:j = b:=by simpa [Item.fp] using hj
    exact hb.2.2.2 (by simpa [Item.fp] using hj':j = r).symm,List.pairwise_singleton _ _⟩) (fun x hx _ j hj=>by
    rcases List.mem_cons.1 hx with rfl|hx
    · obtain rfl:j = b:=by simpa [Item.fp] using hj
      exact .head _
    · obtain rfl:x = _:=by simpa using hx
      obtain rfl:j = r:=by simpa [Item.fp] using hj
      exact .tail _ (.head _)) ?_
  show LCode _ _ _ ⟨_,_⟩ _
  refine KB (KA ?_)
  refine oP (KQ (v:=.int .i64 ((0:Nat):Int)) rfl) ?_
  refine KC ?_
  refine KB ?_
  refine KB (KA ?_)
  refine oM ?_
  refine oP (KG (Det.eqp Tryz.underlying60 rfl rfl) (show _ = Value.bool false from rfl)) ?_
  refine KC ?_
  refine KI rfl ?_
  refine KL ?_
  refine KB (KA ?_)
  refine oM ?_
  refine oM ?_
  refine oP (KM rfl) ?_
  refine oP (KF (o':=0) Tryz.underlying98 rfl rfl rfl sz_66 dc) ?_
  refine oD (dL rfl (hv:=KJ Tryz.underlying66 rfl (by first|rfl|exact KX _ _ _ om|exact KU _ om|exact KS _ om|exact dv_m _ _ _ om))) ?_
  refine oM ?_
  refine oP (KG (Ki pl_101 zr_101 rfl rfl) (show _ = Value.agg ([.int .i64 ((2:Nat):Int),.int .i64 ((k:Nat):Int)]:List Value).toArray from rfl)) ?_
  refine oS (mk (Makes.row (vs:=[(0,.agg ([.int .i64 ((2:Nat):Int),.int .i64 ((k:Nat):Int)]:List Value).toArray)]) Tryz.underlying66 inf_ev dc row_ev rfl (fill_ev k) (fun h=>by cases h)) (fun b14=>?_))
  refine KO rfl (LStepW.appendS (s:=2) (m:=1) (xs:=evsL l) (rest:=rest) (news:=[.int .i64 ((2:Nat):Int),.int .i64 ((k:Nat):Int)]) rfl rfl Tryz.underlying66 inf_ev rfl mP mM (evsL_length l) (by have:=hb.2.2.1; exact this) rfl (KZ rfl (KZ rfl Kc)) om om (Nb rfl) ?_)
  intro b1 cap1 rest1 hc1
  refine oP (KM rfl) ?_
  refine oP (KF (o':=0) Tryz.underlying98 rfl rfl rfl sz_66 dc) ?_
  refine KO rfl (Ke rfl rfl rfl sz_66 (by repeat (first|exact Sh _|apply St_)) (by first|(simp only [KW,KH,Kd,Kp]; omega)|(simp; done)|(simp; omega)) (by first|exact KAA _ _ _ _ _|exact KAF _ _ _ _ om|exact KAC _ _ _ _|rfl) (by simp) ?_)
  refine KC ?_
  refine KB (KA ?_)
  refine oP (KQ (v:=.int .i64 ((0:Nat):Int)) rfl) ?_
  refine KC (KK ?_)
  have hc2:(evsL (l++[k])).length+rest1.length = cap1*2:=by rw [evsL_snoc,List.length_append]; exact hc1
  have hsl:(l++[k]).length = l.length+1:=by simp
  refine ⟨[_],.cons rfl .nil,fun a w' hr=>?_⟩
  have g1:=hr.hp (Item.blk b ⟨true,[.slice (some ⟨b1,0,none⟩) (l.length+1) cap1],98,(0,0)⟩) mM
  have g2:=hr.hp (Item.blk b1 ⟨true,(evsL l++[.int .i64 ((2:Nat):Int),.int .i64 ((k:Nat):Int)])++rest1,101,(0,0)⟩) mM
  have o1:=hr.own (Item.blk b ⟨true,[.slice (some ⟨b1,0,none⟩) (l.length+1) cap1],98,(0,0)⟩) mM rfl
  have o2:=hr.own (Item.blk b1 ⟨true,(evsL l++[.int .i64 ((2:Nat):Int),.int .i64 ((k:Nat):Int)])++rest1,101,(0,0)⟩) mM rfl
  have hap:b1≠b:=apart_two hr.dist (b:=b) (B:=⟨true,[.slice (some ⟨b1,0,none⟩) (l.length+1) cap1],98,(0,0)⟩) (c:=b1) (D:=⟨true,(evsL l++[.int .i64 ((2:Nat):Int),.int .i64 ((k:Nat):Int)])++rest1,101,(0,0)⟩) mM mM rfl (fun e=>absurd (show (98:Nat) = 101 from e) dc)
  rw [← evsL_snoc] at g2
  rw [← hsl] at g1
  exact ⟨some (b1,cap1,rest1),rfl,trI_of ⟨g1,g2,hc2,hap⟩,fun j hj=>(by
    have hj':j = b∨j = b1:=by simpa [trFp] using hj
    rcases hj' with rfl|rfl
    · exact o1 j (.head _)
    · exact o2 j (.head _)),hr.fr⟩
def trE (b:Option Nat):Int:=match b with
  | none=>1
  | some _=>0
theorem c_trIndex (b:Option Nat) (r:TrRow) (l:List Nat) (k:Nat) (w:World) (h:(trI b r l).holds w) (hl:l.length≤100000000):Calls Tryz.prog 103 ([trV b,.int .i64 ((k:Nat):Int)]:List Value).toArray w (TrR w b r (l++[k]) (.int .i64 (trE b))):=by
  rcases b with _|b
  · exact (c_trIndex0 k w).mono fun e w' ⟨h1,h2⟩=>TrR.same (trI_of trivial) h1 h2
  · have hp:=trI_P h
    rcases r with _|⟨r,cap,rest⟩
    · obtain rfl:=hp.2
      exact c_trIndex1 b k w hp
    · exact c_trIndex2 b r cap rest l k w hp hl
end Go.Proofs.YtlmiolnccgjjjaaGreat
set_option linter.unusedVariables false
set_option linter.unusedSimpArgs false
set_option maxRecDepth 20000
namespace Go.Proofs.YtlmiolnccgjjjaaGreat
open Go Go.RowKit
theorem neg64 {x:Nat} (h0:x≠0) (hx:x<18446744073709551616):Value.int .u64 (IntKind.u64.wrap (0-(x:Int))) = .int .u64 ((18446744073709551616-x:Nat):Int):=by
  rw [wrap_u64,show (0-(x:Int))%18446744073709551616 = ((18446744073709551616-x:Nat):Int) by omega]
theorem cpl64 {y:Nat} (hy:y<18446744073709551616):Value.int .u64 (IntKind.u64.wrap (BitVec.ofInt IntKind.u64.bits IntKind.u64.max ^^^ BitVec.ofInt IntKind.u64.bits (y:Int)).toNat) = .int .u64 ((18446744073709551615-y:Nat):Int):=by
  have e3:(BitVec.ofInt IntKind.u64.bits IntKind.u64.max ^^^ BitVec.ofInt IntKind.u64.bits (y:Int)).toNat = 18446744073709551615-y:=by
    show (BitVec.ofInt 64 18446744073709551615 ^^^ BitVec.ofInt 64 (y:Int)).toNat = _
    rw [show BitVec.ofInt 64 18446744073709551615 = BitVec.allOnes 64 by decide,BitVec.ofInt_natCast,BitVec.allOnes_xor,BitVec.toNat_not,BitVec.toNat_ofNat,Nat.mod_eq_of_lt (show y<2^64 from hy)]
  rw [e3,wrap_u64_nat,Nat.mod_eq_of_lt om]
theorem or_top {x:Nat} (h0:x≠0) (hx:x<18446744073709551616):9223372036854775808≤x ||| (18446744073709551616-x):=by
  have h1:=(Nat.left_le_or:x≤x ||| (18446744073709551616-x))
  have h2:=(Nat.right_le_or:18446744073709551616-x≤x ||| (18446744073709551616-x))
  omega
theorem xor_zero {a b:Nat}:a ^^^ b = 0↔a = b:=by
  constructor
  · intro h
    have:=congrArg (· ^^^ b) h
    simpa [Nat.xor_assoc] using this
  · rintro rfl; exact Nat.xor_self _
theorem c_spread (b:Nat) (w:World) (hb:b≤1):Calls Tryz.prog 119 ([.int .u64 ((b:Nat):Int)]:List Value).toArray w (fun e w'=>e = .returned (.int .u64 ((if b = 0 then 0 else 18446744073709551615:Nat):Int))∧Below w.heap.size w w'):=by
  refine Ka (N:=6) (rs:=[.tmp 2]) [] Tryz.func119 rfl Tryz.ntmps119 Tryz.results119 (Nb rfl) trivial rfl ?_
  show LCode _ _ _ ⟨_,_⟩ _
  refine KB (KA ?_)
  refine oP (KQ (v:=.int .u64 ((0:Nat):Int)) rfl) ?_
  refine KC ?_
  refine KB ?_
  rcases (show b = 0∨b = 1 by omega) with rfl|rfl
  ·
    refine KA ?_
    refine oM ?_
    refine oP (KD rfl rfl (KAe (b:=1) dc dc)) ?_
    refine oP (Det.neg rfl) ?_
    refine oA ?_
    refine KC (KK ?_)
    refine ⟨[_],.cons rfl .nil,fun a w' hr=>⟨?_,hr.fr.below⟩⟩
    rfl
  ·
    refine KA ?_
    refine oM ?_
    refine oP (KD rfl rfl (KAe (b:=1) dc dc)) ?_
    refine oP (Det.neg rfl) ?_
    refine oA ?_
    refine KC (KK ?_)
    refine ⟨[_],.cons rfl .nil,fun a w' hr=>⟨?_,hr.fr.below⟩⟩
    rfl
theorem c_mZero (x:Nat) (w:World) (hx:x<18446744073709551616):Calls Tryz.prog 111 ([.int .u64 ((x:Nat):Int)]:List Value).toArray w (fun e w'=>e = .returned (.int .u64 ((if x = 0 then 18446744073709551615 else 0:Nat):Int))∧Below w.heap.size w w'):=by
  refine Ka (N:=10) (rs:=[.tmp 2]) [] Tryz.func111 rfl Tryz.ntmps111 Tryz.results111 (Nb rfl) trivial rfl ?_
  show LCode _ _ _ ⟨_,_⟩ _
  refine KB (KA ?_)
  refine oP (KQ (v:=.int .u64 ((0:Nat):Int)) rfl) ?_
  refine KC ?_
  refine KB ?_
  by_cases h0:x = 0
  ·
    subst h0
    refine KA ?_
    refine oM ?_
    refine oM ?_
    refine oP (Det.neg rfl) ?_
    refine oP (KD rfl rfl (br_or64 (b:=0) dc dc)) ?_
    refine oP (Det.cpl rfl rfl) ?_
    refine oP (KD (v:=.int .u64 ((1:Nat):Int)) rfl rfl (by kernel_rfl)) ?_
    refine oS (cF rfl en_119 rfl (fun w hw=>c_spread 1 w dc) ?_)
    refine oA ?_
    refine KC (KK ?_)
    refine ⟨[_],.cons rfl .nil,fun a w' hr=>⟨rfl,hr.fr.below⟩⟩
  ·
    have ht:=or_top h0 hx
    have hlt:x ||| (18446744073709551616-x)<18446744073709551616:=Nat.or_lt_two_pow (n:=64) hx om
    refine KA ?_
    refine oM ?_
    refine oM ?_
    refine oP (KG (Det.neg rfl) (neg64 h0 hx)) ?_
    refine oP (KD rfl rfl (br_or64 hx om)) ?_
    refine oP (KG (Det.cpl rfl rfl) (cpl64 hlt)) ?_
    refine oP (KG (KD rfl rfl (KAP (b:=63) om)) (vi (b:=0) (Nat.div_eq_of_lt om))) ?_
    refine oS (cF rfl en_119 rfl (fun w hw=>c_spread 0 w dc) ?_)
    refine oA ?_
    refine KC (KK ?_)
    refine ⟨[_],.cons rfl .nil,fun a w' hr=>⟨?_,hr.fr.below⟩⟩
    rw [if_neg h0]
    rfl
theorem c_mEqual (a b:Nat) (w:World) (ha:a<18446744073709551616) (hb:b<18446744073709551616):Calls Tryz.prog 104 ([.int .u64 ((a:Nat):Int),.int .u64 ((b:Nat):Int)]:List Value).toArray w (fun e w'=>e = .returned (.int .u64 ((if a = b then 18446744073709551615 else 0:Nat):Int))∧Below w.heap.size w w'):=by
  refine Ka (N:=9) (rs:=[.tmp 4]) [] Tryz.func104 rfl Tryz.ntmps104 Tryz.results104 (Nb rfl) trivial rfl ?_
  show LCode _ _ _ ⟨_,_⟩ _
  refine KB (KA ?_)
  refine oP (KQ (v:=.int .u64 ((0:Nat):Int)) rfl) ?_
  refine KC ?_
  refine KB (KA ?_)
  refine oM ?_
  refine oM ?_
  refine oP (KD rfl rfl (br_xor64 ha hb)) ?_
  refine oS (cF rfl en_111 rfl (fun w hw=>c_mZero (a ^^^ b) w (Nat.xor_lt_two_pow (n:=64) ha hb)) ?_)
  refine oA ?_
  refine KC (KK ?_)
  refine ⟨[_],.cons rfl .nil,fun a_ w' hr=>⟨?_,hr.fr.below⟩⟩
  show Ending.returned (.int .u64 ((if a ^^^ b = 0 then 18446744073709551615 else 0:Nat):Int)) = _
  by_cases h:a = b
  · rw [if_pos h,if_pos (xor_zero.2 h)]
  · rw [if_neg h,if_neg (fun e=>h (xor_zero.1 e))]
theorem andNot_0 {b:Nat} (hb:b<18446744073709551616):Kz .andNot .u64 (b:Int) .u64 ((0:Nat):Int) = some (.int .u64 (b:Int)):=by
  simp only [Kz,if_true]
  have e:(BitVec.ofInt 64 (b:Int) &&& ~~~BitVec.ofInt 64 0).toNat = b:=by
    rw [show ~~~BitVec.ofInt 64 0 = BitVec.allOnes 64 by decide,BitVec.and_allOnes,BitVec.ofInt_natCast,BitVec.toNat_ofNat,Nat.mod_eq_of_lt (show b<2^64 from hb)]
  show some (Value.int .u64 (IntKind.u64.wrap ((BitVec.ofInt 64 (b:Int) &&& ~~~BitVec.ofInt 64 0).toNat:Int))) = _
  rw [e,wrap_u64_nat,Nat.mod_eq_of_lt hb]
theorem andNot_m {b:Nat}:Kz .andNot .u64 (b:Int) .u64 ((18446744073709551615:Nat):Int) = some (.int .u64 ((0:Nat):Int)):=by
  simp only [Kz,if_true]
  have e:(BitVec.ofInt 64 (b:Int) &&& ~~~BitVec.ofInt 64 18446744073709551615).toNat = 0:=by
    rw [show ~~~BitVec.ofInt 64 18446744073709551615 = 0#64 by decide,BitVec.and_zero]; rfl
  show some (Value.int .u64 (IntKind.u64.wrap ((BitVec.ofInt 64 (b:Int) &&& ~~~BitVec.ofInt 64 18446744073709551615).toNat:Int))) = _
  rw [e]; rfl
theorem and_max {a:Nat} (ha:a<18446744073709551616):a &&& 18446744073709551615 = a:=by
  rw [show 18446744073709551615 = 2^64-1 from rfl,Nat.and_two_pow_sub_one_eq_mod]
  exact Nat.mod_eq_of_lt ha
theorem c_word (m a b:Nat) (w:World) (hm:m = 0∨m = 18446744073709551615) (ha:a<18446744073709551616) (hb:b<18446744073709551616):Calls Tryz.prog 113 ([.agg ([.int .u64 ((m:Nat):Int)]:List Value).toArray,.int .u64 ((a:Nat):Int),.int .u64 ((b:Nat):Int)]:List Value).toArray w (fun e w'=>e = .returned (.int .u64 ((if m = 0 then b else a:Nat):Int))∧Below w.heap.size w w'):=by
  refine Ka (N:=16) (rs:=[.tmp 6]) [] Tryz.func113 rfl Tryz.ntmps113 Tryz.results113 (Nb rfl) trivial rfl ?_
  show LCode _ _ _ ⟨_,_⟩ _
  refine KB (KA ?_)
  refine oS (mB (fun b3=>?_))
  refine oP (KQ (v:=.int .u64 ((0:Nat):Int)) rfl) ?_
  refine KC ?_
  refine KB ?_
  rcases hm with rfl|rfl
  ·
    refine KA ?_
    refine oM ?_
    refine oP (KF (o':=0) Tryz.underlying177 rfl rfl rfl sz_22 dc) ?_
    refine oD (dL rfl (hv:=KJ Tryz.underlying22 rfl (by first|rfl|exact KX _ _ _ om|exact KU _ om|exact KS _ om|exact dv_m _ _ _ om))) ?_
    refine oP (KG (KD rfl rfl (KAe (b:=0) ha dc)) (vi (b:=0) (Nat.and_zero _))) ?_
    refine oM ?_
    refine oP (KF (o':=0) Tryz.underlying177 rfl rfl rfl sz_22 dc) ?_
    refine oD (dL rfl (hv:=KJ Tryz.underlying22 rfl (by first|rfl|exact KX _ _ _ om|exact KU _ om|exact KS _ om|exact dv_m _ _ _ om))) ?_
    refine oP (KD rfl rfl (andNot_0 hb)) ?_
    refine oP (KG (KD rfl rfl (br_or64 (a:=0) dc hb)) (vi (b:=b) (Nat.zero_or _))) ?_
    refine oA ?_
    refine KC (KK ?_)
    refine ⟨[_],.cons rfl .nil,fun a w' hr=>⟨?_,hr.fr.below⟩⟩
    rfl
  ·
    refine KA ?_
    refine oM ?_
    refine oP (KF (o':=0) Tryz.underlying177 rfl rfl rfl sz_22 dc) ?_
    refine oD (dL rfl (hv:=KJ Tryz.underlying22 rfl (by first|rfl|exact KX _ _ _ om|exact KU _ om|exact KS _ om|exact dv_m _ _ _ om))) ?_
    refine oP (KG (KD rfl rfl (KAe (b:=18446744073709551615) ha dc)) (vi (b:=a) (and_max ha))) ?_
    refine oM ?_
    refine oP (KF (o':=0) Tryz.underlying177 rfl rfl rfl sz_22 dc) ?_
    refine oD (dL rfl (hv:=KJ Tryz.underlying22 rfl (by first|rfl|exact KX _ _ _ om|exact KU _ om|exact KS _ om|exact dv_m _ _ _ om))) ?_
    refine oP (KD rfl rfl andNot_m) ?_
    refine oP (KG (KD rfl rfl (br_or64 (b:=0) ha dc)) (vi (b:=a) (Nat.or_zero _))) ?_
    refine oA ?_
    refine KC (KK ?_)
    refine ⟨[_],.cons rfl .nil,fun a w' hr=>⟨?_,hr.fr.below⟩⟩
    rfl
theorem c_wordL (m A B R x:Nat) (w:World) (hm:m = 0∨m = 18446744073709551615) (hR:R = if m = 0 then B else A):Calls Tryz.prog 113 ([.agg ([.int .u64 ((m:Nat):Int)]:List Value).toArray,.int .u64 ((limb A x:Nat):Int),.int .u64 ((limb B x:Nat):Int)]:List Value).toArray w (fun e w'=>e = .returned (.int .u64 ((limb R x:Nat):Int))∧Below w.heap.size w w'):=by
  have h:=c_word m (limb A x) (limb B x) w hm (limb_lt _ _) (limb_lt _ _)
  rw [show limb R x = if m = 0 then limb B x else limb A x by rw [hR]; split <;> rfl]
  exact h
theorem mix_get {R A x:Nat} (h:x<9):(vec .u64 9 (fun k=>if k<x then limb R k else limb A k))[x]? = some (.int .u64 ((limb A x:Nat):Int)):=by
  rw [KX _ _ _ h,if_neg (Nat.lt_irrefl x)]
theorem mix_step (R A x:Nat):vec .u64 9 (fun j=>if j = x then limb R x else (if j<x then limb R j else limb A j)) = vec .u64 9 (fun k=>if k<x+1 then limb R k else limb A k):=Ku fun k _=>by
  by_cases e:k = x
  · subst e; rw [if_pos rfl,if_pos (Nat.lt_succ_self _)]
  · rw [if_neg e]
    by_cases l:k<x
    · rw [if_pos l,if_pos om]
    · rw [if_neg l,if_neg om]
theorem c_mNat (m A B R:Nat) (w:World) (hm:m = 0∨m = 18446744073709551615) (hR:R = if m = 0 then B else A):Calls Tryz.prog 112 ([.func (.func 113) #[.agg ([.int .u64 ((m:Nat):Int)]:List Value).toArray] #[],natV A,natV B]:List Value).toArray w (fun e w'=>e = .returned (natV R)∧Below w.heap.size w w'):=by
  refine Ka (N:=26) (rs:=[.cell 6 25]) [] Tryz.func112 rfl Tryz.ntmps112 Tryz.results112 (Nb rfl) trivial rfl ?_
  show LCode _ _ _ ⟨_,_⟩ _
  refine KB (KA ?_)
  refine oS (mB (fun b4=>?_))
  refine oS (mB (fun b5=>?_))
  refine oS (mk (KN zr_25) (fun b6=>?_))
  refine KC ?_
  refine KB ?_
  refine KB (KA ?_)
  refine oP (Ks (v:=.int .i64 ((0:Nat):Int)) rfl) ?_
  refine KC ?_
  refine LCode.block ?_
  refine Km (α:=Nat) (fun x=>x≤9) (fun x=>⟨[(0,.func (.func 113) #[.agg ([.int .u64 ((m:Nat):Int)]:List Value).toArray] #[]),(4,.pointer (some ⟨b4,0,none⟩)),(5,.pointer (some ⟨b5,0,none⟩)),(6,.pointer (some ⟨b6,0,none⟩)),(8,.int .i64 ((x:Nat):Int))],[.blk b6 ⟨true,vec .u64 9 (fun _=>0),25,(0,0)⟩,.blk b5 ⟨true,natL B,25,(0,0)⟩,.blk b4 ⟨true,vec .u64 9 (fun k=>if k<x then limb R k else limb A k),25,(0,0)⟩]⟩) (fun x=>9-x) (0) (Nat.zero_le _) (KAG (Sub.cells (b:=b4) (cs':=vec .u64 9 (fun k=>if k<0 then limb R k else limb A k)) (by repeat (first|exact Sh _|apply St_)) (Ku fun k _=>(if_neg (Nat.not_lt_zero k)).symm)) (Kf ⟨rfl,rfl,rfl,rfl,rfl,trivial⟩ mS)) ?_
  intro x hx
  refine KB (KA ?_)
  refine oP (KD rfl rfl (KAY (b:=9))) ?_
  refine KC ?_
  refine KB ?_
  first|refine KP rfl (fun h9=>?_) (fun h9=>?_)|refine KR rfl (fun h9=>?_) (fun h9=>?_)
  ·
    have h9:x<9:=h9
    refine KL ?_
    refine KB ?_
    refine LCode.block ?_
    refine KB (KA ?_)
    refine oM ?_
    refine oA ?_
    refine KC ?_
    refine rD [13] ?_
    refine aM 0 ?_
    refine aM 1 ?_
    refine aM 2 ?_
    refine aP 3 rfl (KF (o':=0) Tryz.underlying25 rfl rfl rfl sz_23 dc) ?_
    refine aP 4 rfl (Kh Tryz.underlying23 sz_22 rfl rfl om) ?_
    refine aD 5 rfl (dL rfl (hv:=KJ Tryz.underlying22 rfl (by exact mix_get om))) ?_
    refine aM 6 ?_
    refine aP 7 rfl (KF (o':=0) Tryz.underlying25 rfl rfl rfl sz_23 dc) ?_
    refine aP 8 rfl (Kh Tryz.underlying23 sz_22 rfl rfl om) ?_
    refine aD 9 rfl (dL rfl (hv:=KJ Tryz.underlying22 rfl (by first|rfl|exact KX _ _ _ om|exact KU _ om|exact KS _ om|exact dv_m _ _ _ om))) ?_
    refine aP 11 rfl (KF (o':=0) Tryz.underlying25 rfl rfl rfl sz_23 dc) ?_
    refine aO 10 rfl (KAO (first:=[.agg ([.int .u64 ((m:Nat):Int)]:List Value).toArray]) rfl en_113 rfl (Nb rfl) (fun w hw=>c_wordL m A B R x w hm hR) ?_)
    refine aP 12 rfl (Kh Tryz.underlying23 sz_22 rfl rfl om) ?_
    refine aL 13 rfl (Ke rfl rfl rfl sz_22 (by repeat (first|exact Sh _|apply St_)) (by first|(simp only [KW,KH,Kd,Kp]; omega)|(simp; done)|(simp; omega)) (by first|exact KAA _ _ _ _ _|exact KAF _ _ _ _ om|exact KAC _ _ _ _|rfl) (by simp) ?_)
    refine aE ?_
    refine KA ?_
    refine oP (KD rfl rfl (Kj (b:=1) om)) ?_
    refine oM ?_
    refine KC ?_
    refine ⟨x+1,by omega,by omega,KAG (Sub.cells (b:=b4) (cs':=vec .u64 9 (fun k=>if k<x+1 then limb R k else limb A k)) (by repeat (first|exact Sh _|apply St_)) (mix_step R A x)) (Kf ⟨rfl,rfl,rfl,rfl,rfl,trivial⟩ mS)⟩
  ·
    have h9:¬ x<9:=h9
    refine Kg ?_
    refine KB ?_
    obtain rfl:x = 9:=by omega
    refine LCode.sub (Sub.cells (b:=b4) (cs':=natL R) (by repeat (first|exact Sh _|apply St_)) (Ku fun k hk=>by rw [if_pos hk])) ?_
    refine KA ?_
    refine oD (dL rfl (hv:=by exact KE Tryz.underlying25 rfl sz_25)) ?_
    refine KO rfl (sA rfl rfl sz_25 mO (hl:=mL) (h:=?_))
    refine KC (KK ?_)
    refine ⟨[_],.cons ⟨_,_,_,rfl,mM,by exact KE Tryz.underlying25 rfl sz_25⟩ .nil,fun a w' hr=>⟨?_,hr.fr.below⟩⟩
    rfl
theorem c_mSelect (m A B R:Nat) (w:World) (hm:m = 0∨m = 18446744073709551615) (hR:R = if m = 0 then B else A):Calls Tryz.prog 105 ([.int .u64 ((m:Nat):Int),natV A,natV B]:List Value).toArray w (fun e w'=>e = .returned (natV R)∧Below w.heap.size w w'):=by
  refine Ka (N:=13) (rs:=[.cell 6 25]) [] Tryz.func105 rfl Tryz.ntmps105 Tryz.results105 (Nb rfl) trivial rfl ?_
  show LCode _ _ _ ⟨_,_⟩ _
  refine KB (KA ?_)
  refine oS (mB (fun b4=>?_))
  refine oS (mB (fun b5=>?_))
  refine oS (mk (KN zr_25) (fun b6=>?_))
  refine KC ?_
  refine KB (KA ?_)
  refine oM ?_
  refine oP (KG (Ki pl_177 zr_177 rfl rfl) (show _ = Value.agg ([.int .u64 ((m:Nat):Int)]:List Value).toArray from rfl)) ?_
  refine oP (Det.makeFunc1 rfl) ?_
  refine oD (dL rfl (hv:=by exact KE Tryz.underlying25 rfl sz_25)) ?_
  refine oD (dL rfl (hv:=by exact KE Tryz.underlying25 rfl sz_25)) ?_
  refine oS (cF rfl en_112 rfl (fun w hw=>c_mNat m A B R w hm hR) ?_)
  refine KO rfl (sA rfl rfl sz_25 mO (hl:=mL) (h:=?_))
  refine KC (KK ?_)
  refine ⟨[_],.cons ⟨_,_,_,rfl,mM,by exact KE Tryz.underlying25 rfl sz_25⟩ .nil,fun a w' hr=>⟨?_,hr.fr.below⟩⟩
  rfl
end Go.Proofs.YtlmiolnccgjjjaaGreat
set_option linter.unusedVariables false
set_option linter.unusedSimpArgs false
set_option maxRecDepth 20000
namespace Go.Proofs.YtlmiolnccgjjjaaGreat
open Go Go.RowKit
open Grp
def ptPL {p:Nat} (P:Pt p):List Value:=ptL (xv P) (yv P) (iv P)
theorem ptPL_length {p:Nat} (P:Pt p):(ptPL P).length = 19:=Kb _ _ _
theorem ptPL_one {p:Nat} (P:Pt p):AllOne (ptPL P):=KAJ _ _ _
def tabL {p:Nat} (E:Nat→Pt p):Nat→List Value
  | 0=>[]
  | n+1=>tabL E n++ptPL (E n)
theorem tabL_length {p:Nat} (E:Nat→Pt p):∀ n,(tabL E n).length = n*19
  | 0=>rfl
  | n+1=>by show (tabL E n++ptPL (E n)).length = _; rw [List.length_append,tabL_length E n,ptPL_length]; omega
theorem tabL_at {p:Nat} (E:Nat→Pt p) {k:Nat}:∀ {n},k<n→∃ post,tabL E n = tabL E k++(ptPL (E k)++post)
  | 0,h=>by omega
  | n+1,h=>by
    by_cases e:k = n
    · subst e; exact ⟨[],by rw [List.append_nil]; rfl⟩
    · obtain ⟨post,hp⟩:=tabL_at E (show k<n by omega)
      exact ⟨post++ptPL (E n),by show tabL E n++ptPL (E n) = _; rw [hp]; simp only [List.append_assoc]⟩
theorem tab_load {p:Nat} {wr:Bool} {e:TypeId} {fz:Nat×Nat} (E:Nat→Pt p) {k n:Nat} (h:k<n) (rest:List Value):LoadV Tryz.prog 83 ⟨wr,tabL E n++rest,e,fz⟩ (0+k*19) (ptP (E k)):=by
  obtain ⟨post,hp⟩:=tabL_at E h
  exact LoadV.mid (pre:=tabL E k) (cs:=ptPL (E k)) (post:=post++rest) Tryz.underlying83 rfl sz_83 (by show tabL E n++rest = _; rw [hp]; simp only [List.append_assoc]) (by rw [tabL_length]; omega) (ptPL_length _)
theorem inf_pt:infOf Tryz.prog 83 = some (.agg (vec .u64 9 (fun _=>0)++(vec .u64 9 (fun _=>0)++[Value.bool false]):List Value).toArray,19,152):=by kernel_rfl
theorem fill_ptR {p:Nat} (P:Pt p):fillL ((List.range 1).map fun i=>(i*19,19)) (vec .u64 9 (fun _=>0)++(vec .u64 9 (fun _=>0)++[Value.bool false])) [(0,.agg (ptPL P).toArray)] = some (ptPL P):=fillL_whole (by simp [KW]) (ptPL_length P)
theorem row_pt:((Array.range (1*19)).map fun i=>(Value.agg (vec .u64 9 (fun _=>0)++(vec .u64 9 (fun _=>0)++[Value.bool false]):List Value).toArray).cells[i%(Value.agg (vec .u64 9 (fun _=>0)++(vec .u64 9 (fun _=>0)++[Value.bool false]):List Value).toArray).cells.size]!) = (vec .u64 9 (fun _=>0)++(vec .u64 9 (fun _=>0)++[Value.bool false]):List Value).toArray:=by kernel_rfl
noncomputable abbrev mulE (V:Cv) (P:Pt V.p):Nat→Pt V.p:=fun j=>pmul V.A P j
structure TabS (p:Nat) where
  k:Nat
  T:Fin p×Fin p×Fin p
  br:Nat
  cap:Nat
  rest:List Value
theorem Brings.two {w w':World} {b c:Nat} {B D:Blk} (hb:Below w.heap.size w w') (h1:(Item.blk b B).holds w') (h2:(Item.blk c D).holds w') (n1:w.heap.size≤b) (n2:w.heap.size≤c) (hne:c≠b):Brings w [] [.blk b B,.blk c D] w':=by
  have key:∀ x,x∈[Item.blk b B,.blk c D]→∀ k,k∈x.fp→w.heap.size≤k:=fun x hx k hk=>by
    rcases List.mem_cons.1 hx with rfl|hx
    · obtain rfl:k = b:=by simpa [Item.fp] using hk
      exact n1
    · obtain rfl:x = _:=by simpa using hx
      obtain rfl:k = c:=by simpa [Item.fp] using hk
      exact n2
  refine ⟨hb,fun x hx=>?_,fun x hx k hk=>.inl (key x hx k hk),fun x hx _=>key x hx,List.pairwise_cons.2 ⟨fun y hy _ k hk hk'=>?_,List.pairwise_singleton _ _⟩⟩
  · rcases List.mem_cons.1 hx with rfl|hx
    · exact h1
    · obtain rfl:x = _:=by simpa using hx
      exact h2
  · obtain rfl:y = _:=by simpa using hy
    obtain rfl:k = b:=by simpa [Item.fp] using hk
    exact hne (by simpa [Item.fp] using hk':k = c).symm
theorem bringsC {P:Program} {f:FuncId} {a:Array Value} {w:World} {Q:Value→List Item→Prop} (h:Calls P f a w (fun e w'=>∃ v its,Q v its∧e = .returned v∧Brings w [] its w')) (H:List Item):Calls P f a w (fun e w'=>∃ v its,Q v its∧e = .returned v∧Brings w H its w') :=
  h.mono fun e w' ⟨v,its,h1,h2,h3⟩=>⟨v,its,h1,h2,h3.more (fun x hx=>by cases hx)⟩
theorem c_tabOf (V:Cv) (b f bd:Nat) (hok:V.Ok) (P:Pt V.p) (hP:On V.A V.B P) (n:Nat) (hn0:1≤n) (hn:n≤16) (w:World) (hb:(Item.blk b ⟨false,opL V f,92,(0,0)⟩).holds w) (hf:(Item.blk f ⟨false,fldL V.p bd,116,(0,0)⟩).holds w) (hbd:(Item.blk bd ⟨false,dvL V.p,167,(0,0)⟩).holds w):Calls Tryz.prog 70 ([.pointer (some ⟨b,0,none⟩),ptP P,.int .i64 ((n:Nat):Int)]:List Value).toArray w (fun e w'=>∃ v its,(fun v its=>∃ bt br cap rest,v = .pointer (some ⟨bt,0,none⟩)∧its = [.blk bt ⟨true,[.slice (some ⟨br,0,none⟩) n cap],156,(0,0)⟩,.blk br ⟨true,tabL (mulE V P) n++rest,83,(0,0)⟩]) v its∧e = .returned v∧Brings w [] its w'):=by
  refine Ka (N:=36) (rs:=[.tmp 6]) [.blk b ⟨false,opL V f,92,(0,0)⟩,.blk f ⟨false,fldL V.p bd,116,(0,0)⟩,.blk bd ⟨false,dvL V.p,167,(0,0)⟩] Tryz.func70 rfl Tryz.ntmps70 Tryz.results70 (Nb rfl) ⟨hb,hf,hbd,trivial⟩ rfl ?_
  show LCode _ _ _ ⟨_,_⟩ _
  refine KB (KA ?_)
  refine oS (mB (fun b4=>?_))
  refine oA ?_
  refine KC ?_
  refine KB (KA ?_)
  refine oP (Ki pl_156 zr_156 rfl rfl) ?_
  refine oS (mB (fun b11=>?_))
  refine oA ?_
  refine KC ?_
  refine KB (KA ?_)
  refine oD (dL rfl (hv:=by exact KE Tryz.underlying83 rfl sz_83)) ?_
  refine oS (cF rfl en_92 rfl (fun w hw=>c_Triple V hok P w) ?_)
  refine oS (cF rfl en_89 rfl (fun w hw=>c_NoneF hok w) ?_)
  refine oS (mk (KN zr_148) (fun b8=>?_))
  refine oS (mk (KN zr_148) (fun b9=>?_))
  refine KO rfl (sA rfl rfl sz_148 (by exact pjFL_one _) (hl:=by exact pjFL_length _) (h:=?_))
  refine KO rfl (sA rfl rfl sz_148 (by exact pjFL_one _) (hl:=by exact pjFL_length _) (h:=?_))
  refine KC ?_
  refine KB ?_
  refine KB (KA ?_)
  refine oM ?_
  refine oP (Ks (v:=.int .i64 ((0:Nat):Int)) rfl) ?_
  refine KC ?_
  refine LCode.block ?_
  refine Km (α:=Option (TabS V.p)) (fun x=>match x with|none=>True|some y=>1≤y.k∧y.k≤n∧RepT V y.T (pmul V.A P y.k)∧(tabL (mulE V P) y.k).length+y.rest.length = y.cap*19) (fun x=>match x with|none=>⟨[(0,.pointer (some ⟨b,0,none⟩)),(7,.pointer (some ⟨b11,0,none⟩)),(8,.pointer (some ⟨b8,0,none⟩)),(9,.pointer (some ⟨b9,0,none⟩)),(15,.int .i64 ((n:Nat):Int)),(16,.int .i64 ((0:Nat):Int))],[.blk b11 ⟨true,[.slice none 0 0],156,(0,0)⟩,.blk b9 ⟨true,pjFL (tripF (.inf:Pt V.p)),148,(0,0)⟩,.blk b8 ⟨true,pjFL (tripF P),148,(0,0)⟩,.blk b ⟨false,opL V f,92,(0,0)⟩,.blk f ⟨false,fldL V.p bd,116,(0,0)⟩,.blk bd ⟨false,dvL V.p,167,(0,0)⟩]⟩|some y=>⟨[(0,.pointer (some ⟨b,0,none⟩)),(7,.pointer (some ⟨b11,0,none⟩)),(8,.pointer (some ⟨b8,0,none⟩)),(9,.pointer (some ⟨b9,0,none⟩)),(15,.int .i64 ((n:Nat):Int)),(16,.int .i64 ((y.k:Nat):Int))],[.blk b11 ⟨true,[.slice (some ⟨y.br,0,none⟩) y.k y.cap],156,(0,0)⟩,.blk y.br ⟨true,tabL (mulE V P) y.k++y.rest,83,(0,0)⟩,.blk b9 ⟨true,pjFL y.T,148,(0,0)⟩,.blk b8 ⟨true,pjFL (tripF P),148,(0,0)⟩,.blk b ⟨false,opL V f,92,(0,0)⟩,.blk f ⟨false,fldL V.p bd,116,(0,0)⟩,.blk bd ⟨false,dvL V.p,167,(0,0)⟩]⟩) (fun x=>match x with|none=>n+1|some y=>n-y.k) (none) (trivial) (Kf ⟨rfl,rfl,rfl,rfl,rfl,rfl,trivial⟩ mS) ?_
  intro x hx
  refine KB ?_
  rcases x with _|⟨k,T,br,cap,rest⟩
  ·
    refine KA ?_
    refine oP (KD (v:=.bool true) rfl rfl (br_t KAY om)) ?_
    refine KC ?_
    refine KB ?_
    refine KT rfl ?_
    refine KL ?_
    refine KB ?_
    refine LCode.block ?_
    refine KB ?_
    refine rD [9,12] ?_
    refine aM 0 ?_
    refine aM 1 ?_
    refine aP 2 rfl (KM rfl) ?_
    refine aP 3 rfl (KF (o':=0) Tryz.underlying156 rfl rfl rfl sz_154 dc) ?_
    refine aD 4 rfl (dL rfl (hv:=KJ Tryz.underlying154 rfl (by first|rfl|exact KX _ _ _ om|exact KU _ om|exact KS _ om|exact dv_m _ _ _ om))) ?_
    refine aM 5 ?_
    refine aO 6 rfl (LStep.det (dL rfl (hv:=by exact KE Tryz.underlying148 rfl sz_148)) (Nb rfl) ?_)
    refine aO 7 rfl (cF rfl en_93 rfl (fun w hw=>c_PlainT V b f bd hok (tripF (.inf:Pt V.p)) (mulE V P 0) w (mC hw) (mC hw) (mC hw) (RepT.trip hok trivial)) ?_)
    refine aO 8 rfl (mk (Makes.row (vs:=[(0,.agg (ptPL (mulE V P 0)).toArray)]) Tryz.underlying154 inf_pt dc row_pt rfl (fill_ptR (mulE V P 0)) (fun h=>by cases h)) (fun b26=>?_))
    refine aL 9 rfl (LStepW.appendNilS (s:=19) (news:=ptPL (mulE V P 0)) rfl rfl Tryz.underlying154 inf_pt rfl mM (ptPL_length _) dc dc dc (Nb rfl) ?_)
    intro b1 cap1 rest1 hc1
    refine aP 10 rfl (KM rfl) ?_
    refine aP 11 rfl (KF (o':=0) Tryz.underlying156 rfl rfl rfl sz_154 dc) ?_
    refine aL 12 rfl (Ke rfl rfl rfl sz_154 (by repeat (first|exact Sh _|apply St_)) (by first|(simp only [KW,KH,Kd,Kp]; omega)|(simp; done)|(simp; omega)) (by first|exact KAA _ _ _ _ _|exact KAF _ _ _ _ om|exact KAC _ _ _ _|rfl) (by simp) ?_)
    refine aE ?_
    refine KA ?_
    refine oM ?_
    refine oD (dL rfl (hv:=by exact KE Tryz.underlying148 rfl sz_148)) ?_
    refine oD (dL rfl (hv:=by exact KE Tryz.underlying148 rfl sz_148)) ?_
    refine oS (cF rfl en_90 rfl (fun w hw=>c_SumT V b f bd hok (tripF (.inf:Pt V.p)) (tripF P) w (mC hw) (mC hw) (mC hw)) ?_)
    refine KO rfl (sA rfl rfl sz_148 (by exact pjFL_one _) (hl:=by exact pjFL_length _) (h:=?_))
    refine KC ?_
    refine KA ?_
    refine oP (KD rfl rfl (Kj (b:=1) om)) ?_
    refine oM ?_
    refine KC ?_
    exact ⟨some ⟨0+1,sumT V (tripF (.inf:Pt V.p)) (tripF P),b1,cap1,rest1⟩,⟨Nat.le_add_left _ _,by show 0+1≤n; omega,RepT.sum hok (RepT.trip hok trivial) (RepT.trip hok hP),by rw [ptPL_length] at hc1; show (tabL (mulE V P) (0+1)).length+rest1.length = cap1*19; rw [tabL_length]; omega⟩,by show n-(0+1)<n+1; omega,KAG (Sub.cells (b:=b1) (cs':=tabL (mulE V P) (0+1)++rest1) (by repeat (first|exact Sh _|apply St_)) (by rfl)) (Kf ⟨rfl,rfl,rfl,rfl,rfl,rfl,trivial⟩ mS)⟩
  ·
    obtain ⟨hk1,hkn,hT,hcap⟩:=hx
    dsimp only at hk1 hkn hT hcap
    refine KA ?_
    refine oP (KD rfl rfl (KAY)) ?_
    refine KC ?_
    refine KB ?_
    first|refine KP rfl (fun h17=>?_) (fun h17=>?_)|refine KR rfl (fun h17=>?_) (fun h17=>?_)
    ·
      have h17:k<n:=h17
      refine KL ?_
      refine KB ?_
      refine LCode.block ?_
      refine KB ?_
      refine rD [9,12] ?_
      refine aM 0 ?_
      refine aM 1 ?_
      refine aP 2 rfl (KM rfl) ?_
      refine aP 3 rfl (KF (o':=0) Tryz.underlying156 rfl rfl rfl sz_154 dc) ?_
      refine aD 4 rfl (dL rfl (hv:=KJ Tryz.underlying154 rfl (by first|rfl|exact KX _ _ _ om|exact KU _ om|exact KS _ om|exact dv_m _ _ _ om))) ?_
      refine aM 5 ?_
      refine aO 6 rfl (LStep.det (dL rfl (hv:=by exact KE Tryz.underlying148 rfl sz_148)) (Nb rfl) ?_)
      refine aO 7 rfl (cF rfl en_93 rfl (fun w hw=>c_PlainT V b f bd hok (T) (mulE V P k) w (mC hw) (mC hw) (mC hw) (hT)) ?_)
      refine aO 8 rfl (mk (Makes.row (vs:=[(0,.agg (ptPL (mulE V P k)).toArray)]) Tryz.underlying154 inf_pt dc row_pt rfl (fill_ptR (mulE V P k)) (fun h=>by cases h)) (fun b26=>?_))
      refine aL 9 rfl (LStepW.appendS (s:=19) (m:=1) (xs:=tabL (mulE V P) k) (rest:=rest) (news:=ptPL (mulE V P k)) rfl rfl Tryz.underlying154 inf_pt rfl mP mM (tabL_length _ _) hcap (ptPL_length _) (ptPL_one _) om om (Nb rfl) ?_)
      intro b1 cap1 rest1 hc1
      refine aP 10 rfl (KM rfl) ?_
      refine aP 11 rfl (KF (o':=0) Tryz.underlying156 rfl rfl rfl sz_154 dc) ?_
      refine aL 12 rfl (Ke rfl rfl rfl sz_154 (by repeat (first|exact Sh _|apply St_)) (by first|(simp only [KW,KH,Kd,Kp]; omega)|(simp; done)|(simp; omega)) (by first|exact KAA _ _ _ _ _|exact KAF _ _ _ _ om|exact KAC _ _ _ _|rfl) (by simp) ?_)
      refine aE ?_
      refine KA ?_
      refine oM ?_
      refine oD (dL rfl (hv:=by exact KE Tryz.underlying148 rfl sz_148)) ?_
      refine oD (dL rfl (hv:=by exact KE Tryz.underlying148 rfl sz_148)) ?_
      refine oS (cF rfl en_90 rfl (fun w hw=>c_SumT V b f bd hok (T) (tripF P) w (mC hw) (mC hw) (mC hw)) ?_)
      refine KO rfl (sA rfl rfl sz_148 (by exact pjFL_one _) (hl:=by exact pjFL_length _) (h:=?_))
      refine KC ?_
      refine KA ?_
      refine oP (KD rfl rfl (Kj (b:=1) om)) ?_
      refine oM ?_
      refine KC ?_
      exact ⟨some ⟨k+1,sumT V T (tripF P),b1,cap1,rest1⟩,⟨Nat.le_add_left _ _,by show k+1≤n; omega,RepT.sum hok hT (RepT.trip hok hP),by rw [tabL_length,ptPL_length] at hc1; show (tabL (mulE V P) (k+1)).length+rest1.length = cap1*19; rw [tabL_length]; omega⟩,by show n-(k+1)<n-k; omega,KAG (Sub.cells (b:=b1) (cs':=tabL (mulE V P) (k+1)++rest1) (by repeat (first|exact Sh _|apply St_)) (by rfl)) (Kf ⟨rfl,rfl,rfl,rfl,rfl,rfl,trivial⟩ mS)⟩
    ·
      have h17:¬ k<n:=h17
      refine Kg ?_
      refine KB (KA ?_)
      refine oM ?_
      refine oA ?_
      refine KC (KK ?_)
      obtain rfl:k = n:=by omega
      exact ⟨[_],.cons rfl .nil,fun a w' hr=>⟨_,_,⟨b11,br,cap,rest,rfl,rfl⟩,rfl,Brings.two hr.fr.below (hr.hp (.blk b11 ⟨true,_,_,_⟩) mM) (hr.hp (.blk br ⟨true,_,_,_⟩) mM) (hr.new (b:=b11) (B:=⟨true,_,_,_⟩) mM rfl) (hr.new (b:=br) (B:=⟨true,_,_,_⟩) mM rfl) (apart_two hr.dist (b:=b11) (B:=⟨true,_,156,_⟩) (c:=br) (D:=⟨true,_,83,_⟩) mM mM rfl (fun e=>absurd (show (156:Nat) = 83 from e) dc))⟩⟩
def pk (i A:Nat):Nat→Nat
  | 0=>0
  | k+1=>if k = i then A else pk i A k
theorem pk_low {i A:Nat}:∀ {k},k≤i→pk i A k = 0
  | 0,_=>rfl
  | k+1,h=>by
    show (if k = i then A else pk i A k) = 0
    rw [if_neg om]; exact pk_low om
theorem pk_last {i A:Nat}:∀ {k},i<k→pk i A k = A
  | 0,h=>by omega
  | k+1,h=>by
    show (if k = i then A else pk i A k) = A
    by_cases e:k = i
    · rw [if_pos e]
    · rw [if_neg e]; exact pk_last om
theorem pk_m (i k:Nat):(if k = i then 18446744073709551615 else 0) = 0∨(if k = i then 18446744073709551615 else 0) = 18446744073709551615:=by
  by_cases e:k = i
  · exact .inr (if_pos e)
  · exact .inl (if_neg e)
theorem pk_next (F:Nat→Nat) (i k:Nat):pk i (F i) (k+1) = if (if k = i then 18446744073709551615 else 0) = 0 then pk i (F i) k else F k:=by
  show (if k = i then F i else pk i (F i) k) = _
  by_cases e:k = i
  · rw [if_pos e,if_pos e,if_neg dc,e]
  · rw [if_neg e,if_neg e,if_pos rfl]
theorem pk_or {i A z k:Nat} (hz:k = i→z = A) (h1:z≤1):pk i A k ||| (z &&& if k = i then 18446744073709551615 else 0) = pk i A (k+1):=by
  show _ = (if k = i then A else pk i A k)
  by_cases e:k = i
  · rw [if_pos e,if_pos e,pk_low om,Nat.zero_or,and_max om]; exact hz e
  · rw [if_neg e,if_neg e,Nat.and_zero,Nat.or_zero]
theorem pk_lt {i A:Nat} (h:A≤1):∀ k,pk i A k≤1
  | 0=>Nat.zero_le _
  | k+1=>by
    show (if k = i then A else pk i A k)≤1
    split
    · exact h
    · exact pk_lt h k
def ib {p:Nat} (P:Pt p):Nat:=if iv P = true then 1 else 0
theorem ib_le {p:Nat} (P:Pt p):ib P≤1:=by unfold ib; split <;> omega
theorem ib_eq {p:Nat} (P:Pt p):decide (ib P = 1) = iv P:=by unfold ib; cases iv P <;> rfl
section
variable {P:Program} {C:Ctx} {d:Option Tmp} {ty:TypeId} {pos:String} {aft:Array Edge} {g:Option (Nat×Bool)} {st:St} {x y:Operand} {t e:TypeId}
theorem Det.indexSN {s i : Nat} {k : IntKind} {b o l c : Nat} (ht : P.underlying t = some (.slice e)) (he : szOf P e = some s) (hx : evT st.T x = some (.slice (some ⟨b, o, none⟩) l c)) (hy : evT st.T y = some (.int k (i : Int))) (h1 : i < l) :
    Slots P C ⟨d,.indexAddr t x y,ty,pos,aft,g⟩ st (.pointer (some ⟨b,o+i*s,none⟩)):=by
  have:=Det.indexSl (P:=P) (C:=C) (d:=d) (ty:=ty) (pos:=pos) (aft:=aft) (g:=g) (st:=st) ht he hx hy om om
  rwa [Int.toNat_natCast] at this
end
theorem pt_zeroK (i A B:Nat):(vec .u64 9 (fun _=>0)++(vec .u64 9 (fun _=>0)++[Value.bool false]):List Value) = ptL (pk i A 0) (pk i B 0) false:=by
  show _ = ptL 0 0 false
  unfold ptL natL; rw [vec_zeros 9]
theorem pt_setY (X Y Y':Nat) (i:Bool):splice (ptL X Y i) 9 (natL Y') = ptL X Y' i:=splice_mid (A:=natL X) (B:=natL Y) (D:=[.bool i]) (by simp [ptL]) (KH _) (by rw [KH,KH]) (by simp [ptL])
theorem pt_set0 (X Y X':Nat) (i:Bool):splice (ptL X Y i) 0 (natL X') = ptL X' Y i:=splice_mid (A:=[]) (B:=natL X) (D:=natL Y++[.bool i]) (by simp [ptL]) rfl (by rw [KH,KH]) (by simp [ptL])
theorem pt_set2 (X Y:Nat) (i j:Bool):(ptL X Y i).set 18 (.bool j) = ptL X Y j:=by
  unfold ptL
  rw [List.set_append_right _ _ (by rw [KH]; decide),KH,List.set_append_right _ _ (by rw [KH]; decide),KH]; rfl
theorem c_tabPick (b:Option Nat) (r:TrRow) (l:List Nat) (bt br cap:Nat) (rest:List Value) {wr1 wr2:Bool} (V:Cv) (hok:V.Ok) (E:Nat→Pt V.p) (n i:Nat) (hi:i<n) (hn:n≤16) (w:World) (h0:(trI b r l).holds w) (h1:(Item.blk bt ⟨wr1,[.slice (some ⟨br,0,none⟩) n cap],156,(0,0)⟩).holds w) (h2:(Item.blk br ⟨wr2,tabL (E) n++rest,83,(0,0)⟩).holds w) (n1:Out b r (Item.blk bt ⟨wr1,[.slice (some ⟨br,0,none⟩) n cap],156,(0,0)⟩)) (n2:Out b r (Item.blk br ⟨wr2,tabL (E) n++rest,83,(0,0)⟩)) (hl:l.length≤90000000):Calls Tryz.prog 91 ([.pointer (some ⟨bt,0,none⟩),trV b,.int .i64 ((i:Nat):Int)]:List Value).toArray w (fun e w'=>TrR w b r (l++List.range n) (.tuple #[ptP (E i),.int .i64 ((0:Nat):Int)]) e w'):=by
  refine calls_tr (N:=75) (rs:=[.cell 6 83,.tmp 7]) b r l [.blk bt ⟨false,[.slice (some ⟨br,0,none⟩) n cap],156,(0,0)⟩,.blk br ⟨false,tabL (E) n++rest,83,(0,0)⟩] Tryz.func91 rfl Tryz.ntmps91 Tryz.results91 (Nb rfl) h0 ⟨h1,h2,trivial⟩ rfl ⟨n1,n2,trivial⟩ ?_
  show LCode _ _ _ ⟨_,_⟩ _
  refine KB (KA ?_)
  refine oS (mk (KN zr_83) (fun b6=>?_))
  refine oP (KQ (v:=.int .i64 ((0:Nat):Int)) rfl) ?_
  refine KC ?_
  refine KB ?_
  refine LCode.block ?_
  refine KB (KA ?_)
  refine oM ?_
  refine oP (KG (Det.eqp Tryz.underlying131 rfl rfl) (show _ = Value.bool false from rfl)) ?_
  refine oA ?_
  refine KC ?_
  refine KI rfl ?_
  refine KB (KA ?_)
  refine oM ?_
  refine oP (KD (v:=.bool false) rfl rfl (br_f (KAY (b:=0)) (Nat.not_lt_zero _))) ?_
  refine oM ?_
  refine oGM ?_
  refine oGM ?_
  refine oGP (KM rfl) ?_
  refine oGP (KF (o':=0) Tryz.underlying156 rfl rfl rfl sz_154 dc) ?_
  refine KAS rfl rfl (dL rfl (hv:=KJ Tryz.underlying154 rfl (by first|rfl|exact KX _ _ _ om|exact KU _ om|exact KS _ om|exact dv_m _ _ _ om))) (Nb rfl) ?_
  refine oGP (KAK Tryz.underlying154 rfl) ?_
  refine oGP (KD (v:=.bool false) rfl rfl (br_f br_geq om)) ?_
  refine oP (KV rfl rfl) ?_
  refine oA ?_
  refine KC ?_
  refine KI rfl ?_
  refine KL ?_
  refine KB (KA ?_)
  refine oS (mk (KN zr_83) (fun b8=>?_))
  refine KC ?_
  refine KB (KA ?_)
  refine oP (KQ (v:=.int .u64 ((0:Nat):Int)) rfl) ?_
  refine KC ?_
  refine KB ?_
  refine KB (KA ?_)
  refine oM ?_
  refine oP (KM rfl) ?_
  refine oP (KF (o':=0) Tryz.underlying156 rfl rfl rfl sz_154 dc) ?_
  refine oD (dL rfl (hv:=KJ Tryz.underlying154 rfl (by first|rfl|exact KX _ _ _ om|exact KU _ om|exact KS _ om|exact dv_m _ _ _ om))) ?_
  refine oP (KAK Tryz.underlying154 rfl) ?_
  refine oP (Ks (v:=.int .i64 ((0:Nat):Int)) rfl) ?_
  refine KC ?_
  refine LCode.block ?_
  refine Km (α:=Nat×TrRow) (fun x=>x.1≤n) (fun x=>⟨[(0,.pointer (some ⟨bt,0,none⟩)),(1,trV b),(2,.int .i64 ((i:Nat):Int)),(6,.pointer (some ⟨b6,0,none⟩)),(8,.pointer (some ⟨b8,0,none⟩)),(9,.int .u64 ((pk i (ib (E i)) x.1:Nat):Int)),(34,.slice (some ⟨br,0,none⟩) n cap),(35,.int .i64 ((n:Nat):Int)),(36,.int .i64 ((x.1:Nat):Int))],[trI b x.2 (l++List.range x.1),.blk b8 ⟨true,ptL (pk i (xv (E i)) x.1) (pk i (yv (E i)) x.1) false,83,(0,0)⟩,.blk b6 ⟨true,vec .u64 9 (fun _=>0)++(vec .u64 9 (fun _=>0)++[Value.bool false]),83,(0,0)⟩,.blk bt ⟨false,[.slice (some ⟨br,0,none⟩) n cap],156,(0,0)⟩,.blk br ⟨false,tabL (E) n++rest,83,(0,0)⟩]⟩) (fun x=>n-x.1) ((0,r)) (Nat.zero_le _) (KAG (Sub.cells (b:=b8) (cs':=ptL (pk i (xv (E i)) 0) (pk i (yv (E i)) 0) false) (by repeat (first|exact Sh _|apply St_)) (pt_zeroK _ _ _)) (by dsimp only [List.range_zero]; rw [List.append_nil]; exact Kf ⟨rfl,rfl,rfl,rfl,rfl,rfl,rfl,rfl,rfl,trivial⟩ mS)) ?_
  intro x hx
  refine KB (KA ?_)
  refine oP (KD rfl rfl (KAY)) ?_
  refine KC ?_
  refine KB ?_
  first|refine KP rfl (fun h37=>?_) (fun h37=>?_)|refine KR rfl (fun h37=>?_) (fun h37=>?_)
  ·
    have h37:x.1<n:=h37
    refine KL ?_
    refine KB ?_
    refine LCode.block ?_
    refine KB (KA ?_)
    refine oM ?_
    refine oP (Det.indexSN Tryz.underlying154 sz_83 rfl rfl om) ?_
    refine oD (dL rfl (hv:=by exact tab_load E h37 rest)) ?_
    refine oS (mk (KN zr_83) (fun b11=>?_))
    refine oA ?_
    refine KO rfl (sA rfl rfl sz_83 (by exact KAJ _ _ _) (hl:=by exact Kb _ _ _) (h:=?_))
    refine KC ?_
    refine KB (KA ?_)
    refine oM ?_
    refine oM ?_
    refine KO rfl (LStepW.callT (first:=[]) (r:=x.2) (l:=l++List.range x.1) (l':=l++List.range (x.1+1)) rfl en_103 rfl (Nb rfl) mP (fun w hw hn=>by rw [List.range_succ,← List.append_assoc]; exact c_trIndex b x.2 _ x.1 w (mC hw) (by rw [List.length_append,List.length_range]; omega)) ?_)
    intro r1
    refine KC ?_
    refine KB (KA ?_)
    refine oM ?_
    refine oP (KAL Tryz.underlying3 Tryz.underlying22 rfl (by first|omega|exact Nat.lt_trans (D.limb_lt _ _) dc)) ?_
    refine oM ?_
    refine oP (KAL Tryz.underlying3 Tryz.underlying22 rfl (by first|omega|exact Nat.lt_trans (D.limb_lt _ _) dc)) ?_
    refine oS (cF rfl en_104 rfl (fun w hw=>c_mEqual x.1 i w om om) ?_)
    refine oA ?_
    refine KC ?_
    refine KB ?_
    refine rD [13,15] ?_
    refine aM 0 ?_
    refine aP 1 rfl (KF (o':=0) Tryz.underlying83 rfl rfl rfl sz_25 dc) ?_
    refine aD 2 rfl (dL rfl (hv:=by exact KAD Tryz.underlying25 rfl sz_25 rfl (KH _))) ?_
    refine aP 3 rfl (KF (o':=0) Tryz.underlying83 rfl rfl rfl sz_25 dc) ?_
    refine aD 4 rfl (dL rfl (hv:=by exact KAD Tryz.underlying25 rfl sz_25 rfl (KH _))) ?_
    refine aM 6 ?_
    refine aP 7 rfl (KF (o':=9) Tryz.underlying83 rfl rfl rfl sz_25 dc) ?_
    refine aP 9 rfl (KF (o':=9) Tryz.underlying83 rfl rfl rfl sz_25 dc) ?_
    refine aD 10 rfl (dL rfl (hv:=by exact pt_ld1 _ _ _ _ _ _)) ?_
    refine LAny.takeW [11,13,14,15] 8 rfl (by kernel_rfl) (Nb rfl) (dL rfl (hv:=by exact pt_ld1 _ _ _ _ _ _)) ?_
    refine aO 5 rfl (cF rfl en_105 rfl (fun w hw=>c_mSelect (if x.1 = i then 18446744073709551615 else 0) (xv (E x.1)) (pk i (xv (E i)) x.1) (pk i (xv (E i)) (x.1+1)) w (pk_m _ _) (pk_next (fun j=>xv (E j)) i x.1)) ?_)
    refine aP 12 rfl (KF (o':=0) Tryz.underlying83 rfl rfl rfl sz_25 dc) ?_
    refine aO 11 rfl (cF rfl en_105 rfl (fun w hw=>c_mSelect (if x.1 = i then 18446744073709551615 else 0) (yv (E x.1)) (pk i (yv (E i)) x.1) (pk i (yv (E i)) (x.1+1)) w (pk_m _ _) (pk_next (fun j=>yv (E j)) i x.1)) ?_)
    refine aL 13 rfl (Kx rfl rfl rfl sz_25 (KH _) (KAM _) (by repeat (first|exact Sh _|apply St_)) (by simp only [Kb]; decide) (pt_set0 _ _ _ _) (by simp) ?_)
    refine aP 14 rfl (KF (o':=9) Tryz.underlying83 rfl rfl rfl sz_25 dc) ?_
    refine aL 15 rfl (Kx rfl rfl rfl sz_25 (KH _) (KAM _) (by repeat (first|exact Sh _|apply St_)) (by simp only [Kb]; decide) (pt_setY _ _ _ _) (by simp) ?_)
    refine aE ?_
    refine KB (KA ?_)
    refine oP (KQ (v:=.int .u64 ((0:Nat):Int)) rfl) ?_
    refine KC ?_
    refine KB ?_
    refine KB ?_
    cases hiv:iv (E x.1)
    ·
      refine KA ?_
      refine oP (KF (o':=18) Tryz.underlying83 rfl rfl rfl sz_4 dc) ?_
      refine oD (dL rfl (hv:=KJ Tryz.underlying4 rfl (by exact pt_gt _ _ _))) ?_
      refine KC ?_
      refine KI rfl ?_
      refine KL ?_
      refine KA ?_
      refine oM ?_
      refine oM ?_
      refine oM ?_
      refine oP (KD rfl rfl (KAe (a:=0) (b:=(if x.1 = i then 18446744073709551615 else 0)) dc (by split <;> decide))) ?_
      refine oP (KG (KD rfl rfl (br_or64 (a:=pk i (ib (E i)) x.1) (b:=0 &&& (if x.1 = i then 18446744073709551615 else 0)) (Nat.lt_of_le_of_lt (pk_lt (ib_le _) _) dc) (Nat.lt_of_le_of_lt Nat.and_le_left dc))) (vi (b:=pk i (ib (E i)) (x.1+1)) (pk_or (fun e=>by rw [← e]; unfold ib; rw [hiv]; rfl) dc))) ?_
      refine oA ?_
      refine KC ?_
      refine KA ?_
      refine oP (KD rfl rfl (Kj (b:=1) om)) ?_
      refine oM ?_
      refine KC ?_
      exact ⟨(x.1+1,r1),by dsimp only; omega,by dsimp only; omega,Kf ⟨rfl,rfl,rfl,rfl,rfl,rfl,rfl,rfl,rfl,trivial⟩ mS⟩
    ·
      refine KA ?_
      refine oP (KF (o':=18) Tryz.underlying83 rfl rfl rfl sz_4 dc) ?_
      refine oD (dL rfl (hv:=KJ Tryz.underlying4 rfl (by exact pt_gt _ _ _))) ?_
      refine KC ?_
      refine KT rfl ?_
      refine KA ?_
      refine oP (KQ (v:=.int .u64 ((1:Nat):Int)) rfl) ?_
      refine KC ?_
      refine KA ?_
      refine oM ?_
      refine oM ?_
      refine oM ?_
      refine oP (KD rfl rfl (KAe (a:=1) (b:=(if x.1 = i then 18446744073709551615 else 0)) dc (by split <;> decide))) ?_
      refine oP (KG (KD rfl rfl (br_or64 (a:=pk i (ib (E i)) x.1) (b:=1 &&& (if x.1 = i then 18446744073709551615 else 0)) (Nat.lt_of_le_of_lt (pk_lt (ib_le _) _) dc) (Nat.lt_of_le_of_lt Nat.and_le_left dc))) (vi (b:=pk i (ib (E i)) (x.1+1)) (pk_or (fun e=>by rw [← e]; unfold ib; rw [hiv]; rfl) dc))) ?_
      refine oA ?_
      refine KC ?_
      refine KA ?_
      refine oP (KD rfl rfl (Kj (b:=1) om)) ?_
      refine oM ?_
      refine KC ?_
      exact ⟨(x.1+1,r1),by dsimp only; omega,by dsimp only; omega,Kf ⟨rfl,rfl,rfl,rfl,rfl,rfl,rfl,rfl,rfl,trivial⟩ mS⟩
  ·
    have h37:¬ x.1<n:=h37
    refine Kg ?_
    refine KB ?_
    have hx1n:x.1 = n:=by omega
    rw [hx1n,pk_last hi,pk_last hi,pk_last hi]
    refine KA ?_
    refine oM ?_
    refine oP (KG (KD rfl rfl (Ky (b:=1))) (congrArg Value.bool (ib_eq (E i)))) ?_
    refine oP (KF (o':=18) Tryz.underlying83 rfl rfl rfl sz_4 dc) ?_
    refine KO rfl (Ke rfl rfl rfl sz_4 (by repeat (first|exact Sh _|apply St_)) (by rw [Kb]; decide) (by exact pt_set2 _ _ _ _) (by simp) ?_)
    refine KC ?_
    refine KB (KA ?_)
    refine oD (dL rfl (hv:=by exact KE Tryz.underlying83 rfl sz_83)) ?_
    refine KO rfl (sA rfl rfl sz_83 (by exact KAJ _ _ _) (hl:=by exact Kb _ _ _) (h:=?_))
    refine oP (KQ (v:=.int .i64 ((0:Nat):Int)) rfl) ?_
    refine KC (KK ?_)
    exact ⟨[_,_],.cons ⟨_,_,_,rfl,mM,by exact KE Tryz.underlying83 rfl sz_83⟩ (.cons rfl .nil),fun a w' hr=>hr.tr mM⟩
end Go.Proofs.YtlmiolnccgjjjaaGreat
