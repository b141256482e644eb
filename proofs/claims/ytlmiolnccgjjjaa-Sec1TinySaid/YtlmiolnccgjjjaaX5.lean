/- Part 5 of what the proof leans on: a symbolic execution of the model, walks of the program's functions, and the mathematics. No condition. -/
import Derived.WalkKit
import Derived.Orders
import Derived.Laws.StructEq
import Derived.WalkSpells
import Derived.OrdersHeld
import Derived.KernelRfl
import Derived.Laws.Externs
import Derived.Laws.Bits64
import Derived.Laws.MakeOwn
import Derived.Laws.BytesString
import Derived.Carry
import Derived.WideShapes
import GoSem.Claim
import Derived.Test.YtlmiolnccgjjjaaProg
import Derived.Laws.AppendOwn
import Derived.Lib.ConvBytes
import Derived.Test.YtlmiolnccgjjjaaRows
import Derived.ProofKit
import Derived.OpenShut
import Derived.Test.YtlmiolnccgjjjaaX4
set_option linter.unusedVariables false
set_option linter.unusedSimpArgs false
set_option maxRecDepth 20000
namespace Go.Proofs.Ytlmiolnccgjjjaa
open Go Go.RowKit
def b0 (s:ByteArray):Nat:=(s.data.toList.getD 0 0).toNat
theorem b0_lt (s:ByteArray):b0 s<256:=UInt8.toNat_lt _
def getX (V:Cv) (s:ByteArray):Nat:=beVal (s.extract 1 (1+nby V.p)).data.toList
def getY (V:Cv) (s:ByteArray):Nat:=beVal (s.extract (1+nby V.p) s.size).data.toList
def getT (V:Cv) (s:ByteArray):Nat×Nat×Nat :=
  if s.size = 1+nby V.p∧(b0 s = 2∨b0 s = 3) then (if (liftT V (getX V s) (b0 s-2)).2.2 = true then ((liftT V (getX V s) (b0 s-2)).1,(liftT V (getX V s) (b0 s-2)).2.1,0) else (0,0,2101))
  else if s.size = 1+2*nby V.p∧b0 s = 4 then (if onB V.p V.a V.b (getX V s) (getY V s) false = true then (getX V s,getY V s,0) else (0,0,2101))
  else (0,0,2102)
def getV (V:Cv) (s:ByteArray):Value:=.tuple #[ptV (getT V s).1 (getT V s).2.1 false,.int .i64 (((getT V s).2.2:Nat):Int)]
theorem getV_eq {V:Cv} {s:ByteArray} {X Y e:Nat} (h:getT V s = (X,Y,e)):getV V s = .tuple #[ptV X Y false,.int .i64 ((e:Nat):Int)]:=by unfold getV; rw [h]
theorem get_form {V:Cv} {s:ByteArray} (h1:¬ (s.size = 1+nby V.p∧(b0 s = 2∨b0 s = 3))) (h2:¬ (s.size = 1+2*nby V.p∧b0 s = 4)):getT V s = (0,0,2102):=by unfold getT; rw [if_neg h1,if_neg h2]
theorem get_short {V:Cv} {s:ByteArray} {o X Y:Nat} (h1:s.size = 1+nby V.p) (ho:b0 s = 2+o) (ho1:o≤1) (h:liftT V (getX V s) o = (X,Y,true)):getT V s = (X,Y,0):=by
  unfold getT
  rw [if_pos ⟨h1,by omega⟩,ho,Nat.add_sub_cancel_left,h]; rfl
theorem get_shortF {V:Cv} {s:ByteArray} {o X Y:Nat} (h1:s.size = 1+nby V.p) (ho:b0 s = 2+o) (ho1:o≤1) (h:liftT V (getX V s) o = (X,Y,false)):getT V s = (0,0,2101):=by
  unfold getT
  rw [if_pos ⟨h1,by omega⟩,ho,Nat.add_sub_cancel_left,h]; rfl
theorem get_long {V:Cv} {s:ByteArray} (h1:s.size = 1+2*nby V.p) (hb:b0 s = 4) (h:onB V.p V.a V.b (getX V s) (getY V s) false = true):getT V s = (getX V s,getY V s,0):=by
  unfold getT
  rw [if_neg (by omega),if_pos ⟨h1,hb⟩,if_pos h]
theorem get_longF {V:Cv} {s:ByteArray} (h1:s.size = 1+2*nby V.p) (hb:b0 s = 4) (h:onB V.p V.a V.b (getX V s) (getY V s) false = false):getT V s = (0,0,2101):=by
  unfold getT
  rw [if_neg (by omega),if_pos ⟨h1,hb⟩,if_neg (by rw [h]; decide)]
theorem ext_ext (s:ByteArray) (k:Nat) (h:1+k≤s.size):(s.extract 1 s.size).extract 0 k = s.extract 1 (1+k):=by
  rw [ByteArray.extract_extract]
  congr 1; omega
theorem ext_ext2 (s:ByteArray) (k:Nat) (h:1+k≤s.size):(s.extract 1 s.size).extract k (s.extract 1 s.size).size = s.extract (1+k) s.size:=by
  rw [ByteArray.extract_extract,ext_size _ _ _ (Nat.le_refl _)]
  congr 1; omega
theorem ptX_set0 (X Y X':Nat) (i:Bool):splice (ptL X Y i) 0 (natL X') = ptL X' Y i:=splice_mid (A:=[]) (B:=natL X) (D:=natL Y++[.bool i]) (by simp [ptL]) rfl (by rw [KE,KE]) (by simp [ptL])
theorem ptX_set9 (X Y Y':Nat) (i:Bool):splice (ptL X Y i) 9 (natL Y') = ptL X Y' i:=splice_mid (A:=natL X) (B:=natL Y) (D:=[.bool i]) (by simp [ptL]) (KE _) (by rw [KE,KE]) (by simp [ptL])
theorem ptX_zero:(vec .u64 9 (fun _=>0)++(vec .u64 9 (fun _=>0)++[Value.bool false]):List Value) = ptL 0 0 false:=by
  unfold ptL natL; rw [vec_zeros 9]
theorem c_nat_OfX (X:Nat) (s:ByteArray) (w:World) (h:s.size≤72) (hX:beVal s.data.toList = X):Calls Try.prog 90 ([.string s]:List Value).toArray w (fun e w'=>e = .returned (.tuple #[natV X,.int .i64 ((0:Nat):Int)])∧Below w.heap.size w w'):=hX ▸ c_nat_OfOK s w h
theorem c_liftX (Z:Nat×Nat×Bool) (V:Cv) (b f bd:Nat) (hok:V.Ok) (X odd:Nat) (w:World) (hb:(Item.blk b ⟨false,opL V f,129,(0,0)⟩).holds w) (hf:(Item.blk f ⟨false,fldL V.p bd,162,(0,0)⟩).holds w) (hbd:(Item.blk bd ⟨false,dvL V.p,212,(0,0)⟩).holds w) (hX:X<W9) (hodd:odd≤1) (hZ:liftT V X odd = Z):Calls Try.prog 91 ([.pointer (some ⟨b,0,none⟩),natV X,.int .i64 ((odd:Nat):Int)]:List Value).toArray w (fun e w'=>e = .returned (.tuple #[ptV Z.1 Z.2.1 false,.bool Z.2.2])∧Below w.heap.size w w'):=by
  subst hZ; exact c_lift V b f bd hok X odd w hb hf hbd hX hodd
theorem emp_t:((⟨#[]⟩:ByteArray).toList == (⟨#[]⟩:ByteArray).toList) = true:=by simp
theorem emp_f {s:ByteArray} (h:s.size≠0):(s.toList == (⟨#[]⟩:ByteArray).toList) = false:=by
  cases h1:(s.toList == (⟨#[]⟩:ByteArray).toList) with
  | false=>rfl
  | true =>
    rw [eq_str,decide_eq_true_eq] at h1
    have h2:s.data.size = 0:=by rw [← Array.length_toList,h1]; rfl
    exact absurd h2 h
theorem c_s_Get_emp (id:Int) (V:Cv) (w:World) (h:cvI id = some V):Calls Try.prog 41 ([.int .i64 id,.string ⟨#[]⟩]:List Value).toArray w (fun e w'=>e = .returned (.tuple #[ptV 0 0 false,.int .i64 ((2102:Nat):Int)])∧Below w.heap.size w w'):=by
  obtain ⟨hok,hid⟩:=cvI_ok h
  have hbb:=hok.bounds
  have hpW:V.p<W9:=KAX hbb.2.1
  have hnW:V.n<W9:=KAX hbb.2.2.2.2.2.2.1
  have hbl:=blen_w9 hnW
  have hnb:nby V.n≤72:=by (unfold nby; omega)
  have hnp:nby V.p≤72:=by have:=blen_w9 (KAX hbb.2.1); (unfold nby; omega)
  refine Kl (N:=102) (rs:=[.cell 4 35,.tmp 5]) [] Try.func41 rfl Try.ntmps41 Try.results41 (Nb rfl) trivial rfl ?_
  show LCode _ _ _ ⟨_,_⟩ _
  refine KB (KA ?_)
  refine oS (mk (KV zr_35) (fun b4=>?_))
  refine oP (KW (v:=.int .i64 ((0:Nat):Int)) rfl) ?_
  refine KC ?_
  refine KB (KA ?_)
  refine oM ?_
  refine oS (KAU (Post:=fun v its=>∃ b f bd,v = .pointer (some ⟨b,0,none⟩)∧its = [.blk b ⟨false,opL V f,129,(0,0)⟩,.blk f ⟨false,fldL V.p bd,162,(0,0)⟩,.blk bd ⟨false,dvL V.p,212,(0,0)⟩]) (first:=[]) rfl en_80 rfl (Nb rfl) (fun w1 hw hs=>(c_Open _ V w1 h).mono fun e w' ⟨b,f,bd,h1,h2,h3,h4,h5,h6,h7,h8⟩=>⟨_,_,⟨b,f,bd,rfl,rfl⟩,h1,KAY h8 (by intro x hx; simp at hx; rcases hx with rfl|rfl|rfl; exact h2; exact h3; exact h4) (by intro x hx; simp at hx; rcases hx with rfl|rfl|rfl <;> rfl) (by intro x hx k hk; simp at hx; rcases hx with rfl|rfl|rfl <;> simp [Item.fp] at hk <;> subst hk; exact .inl h5; exact .inl h6; exact .inl h7)⟩) ?_)
  rintro _ _ ⟨b,f,bd,rfl,rfl⟩
  refine oA ?_
  refine KC ?_
  refine KB ?_
  refine KB (KA ?_)
  refine oM ?_
  refine oP (KH (Det.eqp Try.underlying110 rfl rfl) (show _ = Value.bool false from rfl)) ?_
  refine KC ?_
  refine KQ rfl ?_
  refine KM ?_
  refine KB ?_
  refine KB (KA ?_)
  refine oM ?_
  refine oP (KH (Det.eqs rfl rfl) (congrArg Value.bool (emp_t))) ?_
  refine KC ?_
  refine Kf rfl ?_
  refine KB (KA ?_)
  refine oP (KH (Ky pl_35 zr_35 rfl rfl) pt_zero) ?_
  refine KT rfl (sA rfl rfl sz_35 (by exact Kd _ _ _) (hl:=by exact KO _ _ _) (h:=?_))
  refine oP (KW (v:=.int .i64 ((2102:Nat):Int)) rfl) ?_
  refine KC (KL ?_)
  refine ⟨[_,_],.cons ⟨_,_,_,rfl,(by repeat (first|exact Mh _|apply Mt)),by exact KG Try.underlying35 rfl sz_35⟩ (.cons rfl .nil),fun a' w' hr=>⟨?_,hr.fr.below⟩⟩
  skip
  rfl
theorem c_s_Get_s0 (id:Int) (V:Cv) (s:ByteArray) (X X' Y':Nat) (ok:Bool) (w:World) (h:cvI id = some V) (hsz:s.size = 1+nby V.p) (hb:b0 s = 2) (hX:beVal (s.extract 1 s.size).data.toList = X) (hXw:X<W9) (hl:liftT V X 0 = (X',Y',ok)):Calls Try.prog 41 ([.int .i64 id,.string s]:List Value).toArray w (fun e w'=>e = .returned (getV V s)∧Below w.heap.size w w'):=by
  obtain ⟨hok,hid⟩:=cvI_ok h
  have hbb:=hok.bounds
  have hpW:V.p<W9:=KAX hbb.2.1
  have hnW:V.n<W9:=KAX hbb.2.2.2.2.2.2.1
  have hbl:=blen_w9 hnW
  have hnb:nby V.n≤72:=by (unfold nby; omega)
  have hnp:nby V.p≤72:=by have:=blen_w9 (KAX hbb.2.1); (unfold nby; omega)
  have hs0:s.size≠0:=by omega
  refine Kl (N:=102) (rs:=[.cell 4 35,.tmp 5]) [] Try.func41 rfl Try.ntmps41 Try.results41 (Nb rfl) trivial rfl ?_
  show LCode _ _ _ ⟨_,_⟩ _
  refine KB (KA ?_)
  refine oS (mk (KV zr_35) (fun b4=>?_))
  refine oP (KW (v:=.int .i64 ((0:Nat):Int)) rfl) ?_
  refine KC ?_
  refine KB (KA ?_)
  refine oM ?_
  refine oS (KAU (Post:=fun v its=>∃ b f bd,v = .pointer (some ⟨b,0,none⟩)∧its = [.blk b ⟨false,opL V f,129,(0,0)⟩,.blk f ⟨false,fldL V.p bd,162,(0,0)⟩,.blk bd ⟨false,dvL V.p,212,(0,0)⟩]) (first:=[]) rfl en_80 rfl (Nb rfl) (fun w1 hw hs=>(c_Open _ V w1 h).mono fun e w' ⟨b,f,bd,h1,h2,h3,h4,h5,h6,h7,h8⟩=>⟨_,_,⟨b,f,bd,rfl,rfl⟩,h1,KAY h8 (by intro x hx; simp at hx; rcases hx with rfl|rfl|rfl; exact h2; exact h3; exact h4) (by intro x hx; simp at hx; rcases hx with rfl|rfl|rfl <;> rfl) (by intro x hx k hk; simp at hx; rcases hx with rfl|rfl|rfl <;> simp [Item.fp] at hk <;> subst hk; exact .inl h5; exact .inl h6; exact .inl h7)⟩) ?_)
  rintro _ _ ⟨b,f,bd,rfl,rfl⟩
  refine oA ?_
  refine KC ?_
  refine KB ?_
  refine KB (KA ?_)
  refine oM ?_
  refine oP (KH (Det.eqp Try.underlying110 rfl rfl) (show _ = Value.bool false from rfl)) ?_
  refine KC ?_
  refine KQ rfl ?_
  refine KM ?_
  refine KB ?_
  refine KB (KA ?_)
  refine oM ?_
  refine oP (KH (Det.eqs rfl rfl) (congrArg Value.bool (emp_f hs0))) ?_
  refine KC ?_
  refine KQ rfl ?_
  refine KM ?_
  refine KB ?_
  refine rD [] ?_
  refine aM 0 ?_
  refine aP 1 rfl (KH (KAF Try.underlying9 rfl rfl (by omega) (by omega)) (show _ = .int .u8 ((2:Nat):Int) from congrArg (fun n:Nat=>Value.int .u8 ((n:Nat):Int)) hb)) ?_
  refine aP 2 rfl (KAV Try.underlying5 Try.underlying3 rfl (by omega)) ?_
  refine aM 3 ?_
  refine aP 4 rfl (KH (Det.slStrL Try.underlying9 rfl rfl (by omega) (by omega)) (show _ = Value.string (s.extract 1 s.size) from rfl)) ?_
  refine aA 5 ?_
  refine aA 6 ?_
  refine aE ?_
  refine KB (KA ?_)
  refine oS (mk (KV zr_35) (fun b9=>?_))
  refine KC ?_
  refine KB (KA ?_)
  refine oA ?_
  refine KC ?_
  refine KB ?_
  refine LCode.block ?_
  refine KB ?_
  have hrs:(s.extract 1 s.size).size = nby V.p:=by rw [ext_size _ _ _ (Nat.le_refl _)]; omega
  refine KA ?_
  refine oM ?_
  refine oP (KD (v:=.bool true) rfl rfl (br_t (KAC (b:=2)) (rfl))) ?_
  refine oM ?_
  refine oK ?_
  refine oK ?_
  refine oP (Kh rfl rfl) ?_
  refine oM ?_
  refine oGM ?_
  refine oGP (Det.lens Try.underlying9 rfl) ?_
  refine oGM ?_
  refine oGP (KP rfl) ?_
  refine oGP (KF (o':=0) Try.underlying129 rfl rfl rfl KAa (by decide)) ?_
  refine oGP (KF (o':=57) Try.underlying126 rfl rfl rfl sz_3 (by decide)) ?_
  refine KAH rfl rfl (dL rfl (hv:=KK Try.underlying3 rfl (by exact cvC_gt_size _ _ _ _ _ _ _ _ _ _ _ _ _))) (Nb rfl) ?_
  refine oGP (KD (v:=.bool true) rfl rfl (br_t KAC (hrs))) ?_
  refine oP (Kh rfl rfl) ?_
  refine oA ?_
  refine KC ?_
  refine Kf rfl ?_
  refine KB ?_
  cases ok
  ·
    refine KA ?_
    refine oM ?_
    refine oS (cF rfl en_90 rfl (fun w hw=>c_nat_OfX X (s.extract 1 s.size) w (by omega) hX) ?_)
    refine oM ?_
    refine oP (Det.extract rfl rfl) ?_
    refine oP (Det.extract rfl rfl) ?_
    refine oS (mk (KV zr_33) (fun b11=>?_))
    refine KT rfl (sA rfl rfl sz_33 (by exact Kc _) (hl:=by exact KE _) (h:=?_))
    refine oA ?_
    refine KC ?_
    refine KA ?_
    refine oM ?_
    refine oD (dL rfl (hv:=by exact KG Try.underlying33 rfl sz_33)) ?_
    refine oM ?_
    refine oP (KD (v:=.int .i64 ((0:Nat):Int)) rfl rfl (by rfl)) ?_
    refine oS (cF rfl en_91 rfl (fun w hw=>c_liftX (X',Y',false) V b f bd hok X 0 w (mC hw) (mC hw) (mC hw) hXw (by decide) hl) ?_)
    refine oM ?_
    refine oP (Det.extract rfl rfl) ?_
    refine oP (Det.extract rfl rfl) ?_
    refine KT rfl (sA rfl rfl sz_35 (by exact Kd _ _ _) (hl:=by exact KO _ _ _) (h:=?_))
    refine oA ?_
    refine KC ?_
    refine KB ?_
    refine KB (KA ?_)
    refine oM ?_
    refine oP (KH (Det.not rfl) (show _ = Value.bool true from rfl)) ?_
    refine KC ?_
    refine Kf rfl ?_
    refine KB (KA ?_)
    refine oP (KH (Ky pl_35 zr_35 rfl rfl) pt_zero) ?_
    refine KT rfl (sA rfl rfl sz_35 (by exact Kd _ _ _) (hl:=by exact KO _ _ _) (h:=?_))
    refine oP (KW (v:=.int .i64 ((2101:Nat):Int)) rfl) ?_
    refine KC (KL ?_)
    refine ⟨[_,_],.cons ⟨_,_,_,rfl,(by repeat (first|exact Mh _|apply Mt)),by exact KG Try.underlying35 rfl sz_35⟩ (.cons rfl .nil),fun a' w' hr=>⟨?_,hr.fr.below⟩⟩
    have hg:getX V s = X:=by unfold getX; rw [← hsz]; exact hX
    rw [← hg] at hl
    rw [getV_eq (get_shortF hsz hb (by decide) hl)]
    rfl
  ·
    refine KA ?_
    refine oM ?_
    refine oS (cF rfl en_90 rfl (fun w hw=>c_nat_OfX X (s.extract 1 s.size) w (by omega) hX) ?_)
    refine oM ?_
    refine oP (Det.extract rfl rfl) ?_
    refine oP (Det.extract rfl rfl) ?_
    refine oS (mk (KV zr_33) (fun b11=>?_))
    refine KT rfl (sA rfl rfl sz_33 (by exact Kc _) (hl:=by exact KE _) (h:=?_))
    refine oA ?_
    refine KC ?_
    refine KA ?_
    refine oM ?_
    refine oD (dL rfl (hv:=by exact KG Try.underlying33 rfl sz_33)) ?_
    refine oM ?_
    refine oP (KD (v:=.int .i64 ((0:Nat):Int)) rfl rfl (by rfl)) ?_
    refine oS (cF rfl en_91 rfl (fun w hw=>c_liftX (X',Y',true) V b f bd hok X 0 w (mC hw) (mC hw) (mC hw) hXw (by decide) hl) ?_)
    refine oM ?_
    refine oP (Det.extract rfl rfl) ?_
    refine oP (Det.extract rfl rfl) ?_
    refine KT rfl (sA rfl rfl sz_35 (by exact Kd _ _ _) (hl:=by exact KO _ _ _) (h:=?_))
    refine oA ?_
    refine KC ?_
    refine KB ?_
    refine KB (KA ?_)
    refine oM ?_
    refine oP (KH (Det.not rfl) (show _ = Value.bool false from rfl)) ?_
    refine KC ?_
    refine KQ rfl ?_
    refine KM ?_
    refine KB (KA ?_)
    refine oD (dL rfl (hv:=by exact KG Try.underlying35 rfl sz_35)) ?_
    refine KT rfl (sA rfl rfl sz_35 (by exact Kd _ _ _) (hl:=by exact KO _ _ _) (h:=?_))
    refine oP (KW (v:=.int .i64 ((0:Nat):Int)) rfl) ?_
    refine KC (KL ?_)
    refine ⟨[_,_],.cons ⟨_,_,_,rfl,(by repeat (first|exact Mh _|apply Mt)),by exact KG Try.underlying35 rfl sz_35⟩ (.cons rfl .nil),fun a' w' hr=>⟨?_,hr.fr.below⟩⟩
    have hg:getX V s = X:=by unfold getX; rw [← hsz]; exact hX
    rw [← hg] at hl
    rw [getV_eq (get_short hsz hb (by decide) hl)]
    rfl
theorem c_s_Get_s1 (id:Int) (V:Cv) (s:ByteArray) (X X' Y':Nat) (ok:Bool) (w:World) (h:cvI id = some V) (hsz:s.size = 1+nby V.p) (hb:b0 s = 3) (hX:beVal (s.extract 1 s.size).data.toList = X) (hXw:X<W9) (hl:liftT V X 1 = (X',Y',ok)):Calls Try.prog 41 ([.int .i64 id,.string s]:List Value).toArray w (fun e w'=>e = .returned (getV V s)∧Below w.heap.size w w'):=by
  obtain ⟨hok,hid⟩:=cvI_ok h
  have hbb:=hok.bounds
  have hpW:V.p<W9:=KAX hbb.2.1
  have hnW:V.n<W9:=KAX hbb.2.2.2.2.2.2.1
  have hbl:=blen_w9 hnW
  have hnb:nby V.n≤72:=by (unfold nby; omega)
  have hnp:nby V.p≤72:=by have:=blen_w9 (KAX hbb.2.1); (unfold nby; omega)
  have hs0:s.size≠0:=by omega
  refine Kl (N:=102) (rs:=[.cell 4 35,.tmp 5]) [] Try.func41 rfl Try.ntmps41 Try.results41 (Nb rfl) trivial rfl ?_
  show LCode _ _ _ ⟨_,_⟩ _
  refine KB (KA ?_)
  refine oS (mk (KV zr_35) (fun b4=>?_))
  refine oP (KW (v:=.int .i64 ((0:Nat):Int)) rfl) ?_
  refine KC ?_
  refine KB (KA ?_)
  refine oM ?_
  refine oS (KAU (Post:=fun v its=>∃ b f bd,v = .pointer (some ⟨b,0,none⟩)∧its = [.blk b ⟨false,opL V f,129,(0,0)⟩,.blk f ⟨false,fldL V.p bd,162,(0,0)⟩,.blk bd ⟨false,dvL V.p,212,(0,0)⟩]) (first:=[]) rfl en_80 rfl (Nb rfl) (fun w1 hw hs=>(c_Open _ V w1 h).mono fun e w' ⟨b,f,bd,h1,h2,h3,h4,h5,h6,h7,h8⟩=>⟨_,_,⟨b,f,bd,rfl,rfl⟩,h1,KAY h8 (by intro x hx; simp at hx; rcases hx with rfl|rfl|rfl; exact h2; exact h3; exact h4) (by intro x hx; simp at hx; rcases hx with rfl|rfl|rfl <;> rfl) (by intro x hx k hk; simp at hx; rcases hx with rfl|rfl|rfl <;> simp [Item.fp] at hk <;> subst hk; exact .inl h5; exact .inl h6; exact .inl h7)⟩) ?_)
  rintro _ _ ⟨b,f,bd,rfl,rfl⟩
  refine oA ?_
  refine KC ?_
  refine KB ?_
  refine KB (KA ?_)
  refine oM ?_
  refine oP (KH (Det.eqp Try.underlying110 rfl rfl) (show _ = Value.bool false from rfl)) ?_
  refine KC ?_
  refine KQ rfl ?_
  refine KM ?_
  refine KB ?_
  refine KB (KA ?_)
  refine oM ?_
  refine oP (KH (Det.eqs rfl rfl) (congrArg Value.bool (emp_f hs0))) ?_
  refine KC ?_
  refine KQ rfl ?_
  refine KM ?_
  refine KB ?_
  refine rD [] ?_
  refine aM 0 ?_
  refine aP 1 rfl (KH (KAF Try.underlying9 rfl rfl (by omega) (by omega)) (show _ = .int .u8 ((3:Nat):Int) from congrArg (fun n:Nat=>Value.int .u8 ((n:Nat):Int)) hb)) ?_
  refine aP 2 rfl (KAV Try.underlying5 Try.underlying3 rfl (by omega)) ?_
  refine aM 3 ?_
  refine aP 4 rfl (KH (Det.slStrL Try.underlying9 rfl rfl (by omega) (by omega)) (show _ = Value.string (s.extract 1 s.size) from rfl)) ?_
  refine aA 5 ?_
  refine aA 6 ?_
  refine aE ?_
  refine KB (KA ?_)
  refine oS (mk (KV zr_35) (fun b9=>?_))
  refine KC ?_
  refine KB (KA ?_)
  refine oA ?_
  refine KC ?_
  refine KB ?_
  refine LCode.block ?_
  refine KB ?_
  have hrs:(s.extract 1 s.size).size = nby V.p:=by rw [ext_size _ _ _ (Nat.le_refl _)]; omega
  refine KA ?_
  refine oM ?_
  refine oP (KD (v:=.bool false) rfl rfl (br_f (KAC (b:=2)) (by decide))) ?_
  refine oM ?_
  refine oGM ?_
  refine oGP (KD (v:=.bool true) rfl rfl (br_t (KAC (b:=3)) (rfl))) ?_
  refine oP (Kb rfl rfl) ?_
  refine oM ?_
  refine oGM ?_
  refine oGP (Det.lens Try.underlying9 rfl) ?_
  refine oGM ?_
  refine oGP (KP rfl) ?_
  refine oGP (KF (o':=0) Try.underlying129 rfl rfl rfl KAa (by decide)) ?_
  refine oGP (KF (o':=57) Try.underlying126 rfl rfl rfl sz_3 (by decide)) ?_
  refine KAH rfl rfl (dL rfl (hv:=KK Try.underlying3 rfl (by exact cvC_gt_size _ _ _ _ _ _ _ _ _ _ _ _ _))) (Nb rfl) ?_
  refine oGP (KD (v:=.bool true) rfl rfl (br_t KAC (hrs))) ?_
  refine oP (Kh rfl rfl) ?_
  refine oA ?_
  refine KC ?_
  refine Kf rfl ?_
  refine KB ?_
  cases ok
  ·
    refine KA ?_
    refine oM ?_
    refine oS (cF rfl en_90 rfl (fun w hw=>c_nat_OfX X (s.extract 1 s.size) w (by omega) hX) ?_)
    refine oM ?_
    refine oP (Det.extract rfl rfl) ?_
    refine oP (Det.extract rfl rfl) ?_
    refine oS (mk (KV zr_33) (fun b11=>?_))
    refine KT rfl (sA rfl rfl sz_33 (by exact Kc _) (hl:=by exact KE _) (h:=?_))
    refine oA ?_
    refine KC ?_
    refine KA ?_
    refine oM ?_
    refine oD (dL rfl (hv:=by exact KG Try.underlying33 rfl sz_33)) ?_
    refine oM ?_
    refine oP (KD (v:=.int .i64 ((1:Nat):Int)) rfl rfl (by rfl)) ?_
    refine oS (cF rfl en_91 rfl (fun w hw=>c_liftX (X',Y',false) V b f bd hok X 1 w (mC hw) (mC hw) (mC hw) hXw (by decide) hl) ?_)
    refine oM ?_
    refine oP (Det.extract rfl rfl) ?_
    refine oP (Det.extract rfl rfl) ?_
    refine KT rfl (sA rfl rfl sz_35 (by exact Kd _ _ _) (hl:=by exact KO _ _ _) (h:=?_))
    refine oA ?_
    refine KC ?_
    refine KB ?_
    refine KB (KA ?_)
    refine oM ?_
    refine oP (KH (Det.not rfl) (show _ = Value.bool true from rfl)) ?_
    refine KC ?_
    refine Kf rfl ?_
    refine KB (KA ?_)
    refine oP (KH (Ky pl_35 zr_35 rfl rfl) pt_zero) ?_
    refine KT rfl (sA rfl rfl sz_35 (by exact Kd _ _ _) (hl:=by exact KO _ _ _) (h:=?_))
    refine oP (KW (v:=.int .i64 ((2101:Nat):Int)) rfl) ?_
    refine KC (KL ?_)
    refine ⟨[_,_],.cons ⟨_,_,_,rfl,(by repeat (first|exact Mh _|apply Mt)),by exact KG Try.underlying35 rfl sz_35⟩ (.cons rfl .nil),fun a' w' hr=>⟨?_,hr.fr.below⟩⟩
    have hg:getX V s = X:=by unfold getX; rw [← hsz]; exact hX
    rw [← hg] at hl
    rw [getV_eq (get_shortF hsz hb (by decide) hl)]
    rfl
  ·
    refine KA ?_
    refine oM ?_
    refine oS (cF rfl en_90 rfl (fun w hw=>c_nat_OfX X (s.extract 1 s.size) w (by omega) hX) ?_)
    refine oM ?_
    refine oP (Det.extract rfl rfl) ?_
    refine oP (Det.extract rfl rfl) ?_
    refine oS (mk (KV zr_33) (fun b11=>?_))
    refine KT rfl (sA rfl rfl sz_33 (by exact Kc _) (hl:=by exact KE _) (h:=?_))
    refine oA ?_
    refine KC ?_
    refine KA ?_
    refine oM ?_
    refine oD (dL rfl (hv:=by exact KG Try.underlying33 rfl sz_33)) ?_
    refine oM ?_
    refine oP (KD (v:=.int .i64 ((1:Nat):Int)) rfl rfl (by rfl)) ?_
    refine oS (cF rfl en_91 rfl (fun w hw=>c_liftX (X',Y',true) V b f bd hok X 1 w (mC hw) (mC hw) (mC hw) hXw (by decide) hl) ?_)
    refine oM ?_
    refine oP (Det.extract rfl rfl) ?_
    refine oP (Det.extract rfl rfl) ?_
    refine KT rfl (sA rfl rfl sz_35 (by exact Kd _ _ _) (hl:=by exact KO _ _ _) (h:=?_))
    refine oA ?_
    refine KC ?_
    refine KB ?_
    refine KB (KA ?_)
    refine oM ?_
    refine oP (KH (Det.not rfl) (show _ = Value.bool false from rfl)) ?_
    refine KC ?_
    refine KQ rfl ?_
    refine KM ?_
    refine KB (KA ?_)
    refine oD (dL rfl (hv:=by exact KG Try.underlying35 rfl sz_35)) ?_
    refine KT rfl (sA rfl rfl sz_35 (by exact Kd _ _ _) (hl:=by exact KO _ _ _) (h:=?_))
    refine oP (KW (v:=.int .i64 ((0:Nat):Int)) rfl) ?_
    refine KC (KL ?_)
    refine ⟨[_,_],.cons ⟨_,_,_,rfl,(by repeat (first|exact Mh _|apply Mt)),by exact KG Try.underlying35 rfl sz_35⟩ (.cons rfl .nil),fun a' w' hr=>⟨?_,hr.fr.below⟩⟩
    have hg:getX V s = X:=by unfold getX; rw [← hsz]; exact hX
    rw [← hg] at hl
    rw [getV_eq (get_short hsz hb (by decide) hl)]
    rfl
theorem c_s_Get_f2 (id:Int) (V:Cv) (s:ByteArray) (w:World) (h:cvI id = some V) (hs0:s.size≠0) (hs:s.size<9223372036854775808) (hb:b0 s = 2) (hsz:s.size≠1+nby V.p):Calls Try.prog 41 ([.int .i64 id,.string s]:List Value).toArray w (fun e w'=>e = .returned (.tuple #[ptV 0 0 false,.int .i64 ((2102:Nat):Int)])∧Below w.heap.size w w'):=by
  obtain ⟨hok,hid⟩:=cvI_ok h
  have hbb:=hok.bounds
  have hpW:V.p<W9:=KAX hbb.2.1
  have hnW:V.n<W9:=KAX hbb.2.2.2.2.2.2.1
  have hbl:=blen_w9 hnW
  have hnb:nby V.n≤72:=by (unfold nby; omega)
  have hnp:nby V.p≤72:=by have:=blen_w9 (KAX hbb.2.1); (unfold nby; omega)
  have hb256:=b0_lt s
  refine Kl (N:=102) (rs:=[.cell 4 35,.tmp 5]) [] Try.func41 rfl Try.ntmps41 Try.results41 (Nb rfl) trivial rfl ?_
  show LCode _ _ _ ⟨_,_⟩ _
  refine KB (KA ?_)
  refine oS (mk (KV zr_35) (fun b4=>?_))
  refine oP (KW (v:=.int .i64 ((0:Nat):Int)) rfl) ?_
  refine KC ?_
  refine KB (KA ?_)
  refine oM ?_
  refine oS (KAU (Post:=fun v its=>∃ b f bd,v = .pointer (some ⟨b,0,none⟩)∧its = [.blk b ⟨false,opL V f,129,(0,0)⟩,.blk f ⟨false,fldL V.p bd,162,(0,0)⟩,.blk bd ⟨false,dvL V.p,212,(0,0)⟩]) (first:=[]) rfl en_80 rfl (Nb rfl) (fun w1 hw hs=>(c_Open _ V w1 h).mono fun e w' ⟨b,f,bd,h1,h2,h3,h4,h5,h6,h7,h8⟩=>⟨_,_,⟨b,f,bd,rfl,rfl⟩,h1,KAY h8 (by intro x hx; simp at hx; rcases hx with rfl|rfl|rfl; exact h2; exact h3; exact h4) (by intro x hx; simp at hx; rcases hx with rfl|rfl|rfl <;> rfl) (by intro x hx k hk; simp at hx; rcases hx with rfl|rfl|rfl <;> simp [Item.fp] at hk <;> subst hk; exact .inl h5; exact .inl h6; exact .inl h7)⟩) ?_)
  rintro _ _ ⟨b,f,bd,rfl,rfl⟩
  refine oA ?_
  refine KC ?_
  refine KB ?_
  refine KB (KA ?_)
  refine oM ?_
  refine oP (KH (Det.eqp Try.underlying110 rfl rfl) (show _ = Value.bool false from rfl)) ?_
  refine KC ?_
  refine KQ rfl ?_
  refine KM ?_
  refine KB ?_
  refine KB (KA ?_)
  refine oM ?_
  refine oP (KH (Det.eqs rfl rfl) (congrArg Value.bool (emp_f hs0))) ?_
  refine KC ?_
  refine KQ rfl ?_
  refine KM ?_
  refine KB ?_
  refine rD [] ?_
  refine aM 0 ?_
  refine aP 1 rfl (KH (KAF Try.underlying9 rfl rfl (by omega) (by omega)) (show _ = .int .u8 ((2:Nat):Int) from congrArg (fun n:Nat=>Value.int .u8 ((n:Nat):Int)) hb)) ?_
  refine aP 2 rfl (KAV Try.underlying5 Try.underlying3 rfl (by omega)) ?_
  refine aM 3 ?_
  refine aP 4 rfl (KH (Det.slStrL Try.underlying9 rfl rfl (by omega) (by omega)) (show _ = Value.string (s.extract 1 s.size) from rfl)) ?_
  refine aA 5 ?_
  refine aA 6 ?_
  refine aE ?_
  refine KB (KA ?_)
  refine oS (mk (KV zr_35) (fun b9=>?_))
  refine KC ?_
  refine KB (KA ?_)
  refine oA ?_
  refine KC ?_
  refine KB ?_
  refine LCode.block ?_
  refine KB ?_
  have hrs:(s.extract 1 s.size).size = s.size-1:=by rw [ext_size _ _ _ (Nat.le_refl _)]
  refine KA ?_
  refine oM ?_
  refine oP (KD (v:=.bool true) rfl rfl (br_t (KAC (b:=2)) (rfl))) ?_
  refine oM ?_
  refine oK ?_
  refine oK ?_
  refine oP (Kh rfl rfl) ?_
  refine oM ?_
  refine oGM ?_
  refine oGP (Det.lens Try.underlying9 rfl) ?_
  refine oGM ?_
  refine oGP (KP rfl) ?_
  refine oGP (KF (o':=0) Try.underlying129 rfl rfl rfl KAa (by decide)) ?_
  refine oGP (KF (o':=57) Try.underlying126 rfl rfl rfl sz_3 (by decide)) ?_
  refine KAH rfl rfl (dL rfl (hv:=KK Try.underlying3 rfl (by exact cvC_gt_size _ _ _ _ _ _ _ _ _ _ _ _ _))) (Nb rfl) ?_
  refine oGP (KD (v:=.bool false) rfl rfl (br_f KAC ((by omega)))) ?_
  refine oP (Kh rfl rfl) ?_
  refine oA ?_
  refine KC ?_
  refine KQ rfl ?_
  refine KB (KA ?_)
  refine oM ?_
  refine oP (KD (v:=.bool false) rfl rfl (br_f (KAC (b:=4)) (by decide))) ?_
  refine oM ?_
  refine oK ?_
  refine oK ?_
  refine oK ?_
  refine oK ?_
  refine oK ?_
  refine oK ?_
  refine oK ?_
  refine oK ?_
  refine oK ?_
  refine oP (Kb rfl rfl) ?_
  refine oA ?_
  refine KC ?_
  refine KQ rfl ?_
  refine KB (KA ?_)
  refine oP (KH (Ky pl_35 zr_35 rfl rfl) pt_zero) ?_
  refine KT rfl (sA rfl rfl sz_35 (by exact Kd _ _ _) (hl:=by exact KO _ _ _) (h:=?_))
  refine oP (KW (v:=.int .i64 ((2102:Nat):Int)) rfl) ?_
  refine KC (KL ?_)
  refine ⟨[_,_],.cons ⟨_,_,_,rfl,(by repeat (first|exact Mh _|apply Mt)),by exact KG Try.underlying35 rfl sz_35⟩ (.cons rfl .nil),fun a' w' hr=>⟨?_,hr.fr.below⟩⟩
  skip
  rfl
theorem c_s_Get_f3 (id:Int) (V:Cv) (s:ByteArray) (w:World) (h:cvI id = some V) (hs0:s.size≠0) (hs:s.size<9223372036854775808) (hb:b0 s = 3) (hsz:s.size≠1+nby V.p):Calls Try.prog 41 ([.int .i64 id,.string s]:List Value).toArray w (fun e w'=>e = .returned (.tuple #[ptV 0 0 false,.int .i64 ((2102:Nat):Int)])∧Below w.heap.size w w'):=by
  obtain ⟨hok,hid⟩:=cvI_ok h
  have hbb:=hok.bounds
  have hpW:V.p<W9:=KAX hbb.2.1
  have hnW:V.n<W9:=KAX hbb.2.2.2.2.2.2.1
  have hbl:=blen_w9 hnW
  have hnb:nby V.n≤72:=by (unfold nby; omega)
  have hnp:nby V.p≤72:=by have:=blen_w9 (KAX hbb.2.1); (unfold nby; omega)
  have hb256:=b0_lt s
  refine Kl (N:=102) (rs:=[.cell 4 35,.tmp 5]) [] Try.func41 rfl Try.ntmps41 Try.results41 (Nb rfl) trivial rfl ?_
  show LCode _ _ _ ⟨_,_⟩ _
  refine KB (KA ?_)
  refine oS (mk (KV zr_35) (fun b4=>?_))
  refine oP (KW (v:=.int .i64 ((0:Nat):Int)) rfl) ?_
  refine KC ?_
  refine KB (KA ?_)
  refine oM ?_
  refine oS (KAU (Post:=fun v its=>∃ b f bd,v = .pointer (some ⟨b,0,none⟩)∧its = [.blk b ⟨false,opL V f,129,(0,0)⟩,.blk f ⟨false,fldL V.p bd,162,(0,0)⟩,.blk bd ⟨false,dvL V.p,212,(0,0)⟩]) (first:=[]) rfl en_80 rfl (Nb rfl) (fun w1 hw hs=>(c_Open _ V w1 h).mono fun e w' ⟨b,f,bd,h1,h2,h3,h4,h5,h6,h7,h8⟩=>⟨_,_,⟨b,f,bd,rfl,rfl⟩,h1,KAY h8 (by intro x hx; simp at hx; rcases hx with rfl|rfl|rfl; exact h2; exact h3; exact h4) (by intro x hx; simp at hx; rcases hx with rfl|rfl|rfl <;> rfl) (by intro x hx k hk; simp at hx; rcases hx with rfl|rfl|rfl <;> simp [Item.fp] at hk <;> subst hk; exact .inl h5; exact .inl h6; exact .inl h7)⟩) ?_)
  rintro _ _ ⟨b,f,bd,rfl,rfl⟩
  refine oA ?_
  refine KC ?_
  refine KB ?_
  refine KB (KA ?_)
  refine oM ?_
  refine oP (KH (Det.eqp Try.underlying110 rfl rfl) (show _ = Value.bool false from rfl)) ?_
  refine KC ?_
  refine KQ rfl ?_
  refine KM ?_
  refine KB ?_
  refine KB (KA ?_)
  refine oM ?_
  refine oP (KH (Det.eqs rfl rfl) (congrArg Value.bool (emp_f hs0))) ?_
  refine KC ?_
  refine KQ rfl ?_
  refine KM ?_
  refine KB ?_
  refine rD [] ?_
  refine aM 0 ?_
  refine aP 1 rfl (KH (KAF Try.underlying9 rfl rfl (by omega) (by omega)) (show _ = .int .u8 ((3:Nat):Int) from congrArg (fun n:Nat=>Value.int .u8 ((n:Nat):Int)) hb)) ?_
  refine aP 2 rfl (KAV Try.underlying5 Try.underlying3 rfl (by omega)) ?_
  refine aM 3 ?_
  refine aP 4 rfl (KH (Det.slStrL Try.underlying9 rfl rfl (by omega) (by omega)) (show _ = Value.string (s.extract 1 s.size) from rfl)) ?_
  refine aA 5 ?_
  refine aA 6 ?_
  refine aE ?_
  refine KB (KA ?_)
  refine oS (mk (KV zr_35) (fun b9=>?_))
  refine KC ?_
  refine KB (KA ?_)
  refine oA ?_
  refine KC ?_
  refine KB ?_
  refine LCode.block ?_
  refine KB ?_
  have hrs:(s.extract 1 s.size).size = s.size-1:=by rw [ext_size _ _ _ (Nat.le_refl _)]
  refine KA ?_
  refine oM ?_
  refine oP (KD (v:=.bool false) rfl rfl (br_f (KAC (b:=2)) (by decide))) ?_
  refine oM ?_
  refine oGM ?_
  refine oGP (KD (v:=.bool true) rfl rfl (br_t (KAC (b:=3)) (rfl))) ?_
  refine oP (Kb rfl rfl) ?_
  refine oM ?_
  refine oGM ?_
  refine oGP (Det.lens Try.underlying9 rfl) ?_
  refine oGM ?_
  refine oGP (KP rfl) ?_
  refine oGP (KF (o':=0) Try.underlying129 rfl rfl rfl KAa (by decide)) ?_
  refine oGP (KF (o':=57) Try.underlying126 rfl rfl rfl sz_3 (by decide)) ?_
  refine KAH rfl rfl (dL rfl (hv:=KK Try.underlying3 rfl (by exact cvC_gt_size _ _ _ _ _ _ _ _ _ _ _ _ _))) (Nb rfl) ?_
  refine oGP (KD (v:=.bool false) rfl rfl (br_f KAC ((by omega)))) ?_
  refine oP (Kh rfl rfl) ?_
  refine oA ?_
  refine KC ?_
  refine KQ rfl ?_
  refine KB (KA ?_)
  refine oM ?_
  refine oP (KD (v:=.bool false) rfl rfl (br_f (KAC (b:=4)) (by decide))) ?_
  refine oM ?_
  refine oK ?_
  refine oK ?_
  refine oK ?_
  refine oK ?_
  refine oK ?_
  refine oK ?_
  refine oK ?_
  refine oK ?_
  refine oK ?_
  refine oP (Kb rfl rfl) ?_
  refine oA ?_
  refine KC ?_
  refine KQ rfl ?_
  refine KB (KA ?_)
  refine oP (KH (Ky pl_35 zr_35 rfl rfl) pt_zero) ?_
  refine KT rfl (sA rfl rfl sz_35 (by exact Kd _ _ _) (hl:=by exact KO _ _ _) (h:=?_))
  refine oP (KW (v:=.int .i64 ((2102:Nat):Int)) rfl) ?_
  refine KC (KL ?_)
  refine ⟨[_,_],.cons ⟨_,_,_,rfl,(by repeat (first|exact Mh _|apply Mt)),by exact KG Try.underlying35 rfl sz_35⟩ (.cons rfl .nil),fun a' w' hr=>⟨?_,hr.fr.below⟩⟩
  skip
  rfl
theorem c_s_Get_f4 (id:Int) (V:Cv) (s:ByteArray) (w:World) (h:cvI id = some V) (hs0:s.size≠0) (hs:s.size<9223372036854775808) (hb:b0 s = 4) (hsz:s.size≠1+2*nby V.p):Calls Try.prog 41 ([.int .i64 id,.string s]:List Value).toArray w (fun e w'=>e = .returned (.tuple #[ptV 0 0 false,.int .i64 ((2102:Nat):Int)])∧Below w.heap.size w w'):=by
  obtain ⟨hok,hid⟩:=cvI_ok h
  have hbb:=hok.bounds
  have hpW:V.p<W9:=KAX hbb.2.1
  have hnW:V.n<W9:=KAX hbb.2.2.2.2.2.2.1
  have hbl:=blen_w9 hnW
  have hnb:nby V.n≤72:=by (unfold nby; omega)
  have hnp:nby V.p≤72:=by have:=blen_w9 (KAX hbb.2.1); (unfold nby; omega)
  have hb256:=b0_lt s
  refine Kl (N:=102) (rs:=[.cell 4 35,.tmp 5]) [] Try.func41 rfl Try.ntmps41 Try.results41 (Nb rfl) trivial rfl ?_
  show LCode _ _ _ ⟨_,_⟩ _
  refine KB (KA ?_)
  refine oS (mk (KV zr_35) (fun b4=>?_))
  refine oP (KW (v:=.int .i64 ((0:Nat):Int)) rfl) ?_
  refine KC ?_
  refine KB (KA ?_)
  refine oM ?_
  refine oS (KAU (Post:=fun v its=>∃ b f bd,v = .pointer (some ⟨b,0,none⟩)∧its = [.blk b ⟨false,opL V f,129,(0,0)⟩,.blk f ⟨false,fldL V.p bd,162,(0,0)⟩,.blk bd ⟨false,dvL V.p,212,(0,0)⟩]) (first:=[]) rfl en_80 rfl (Nb rfl) (fun w1 hw hs=>(c_Open _ V w1 h).mono fun e w' ⟨b,f,bd,h1,h2,h3,h4,h5,h6,h7,h8⟩=>⟨_,_,⟨b,f,bd,rfl,rfl⟩,h1,KAY h8 (by intro x hx; simp at hx; rcases hx with rfl|rfl|rfl; exact h2; exact h3; exact h4) (by intro x hx; simp at hx; rcases hx with rfl|rfl|rfl <;> rfl) (by intro x hx k hk; simp at hx; rcases hx with rfl|rfl|rfl <;> simp [Item.fp] at hk <;> subst hk; exact .inl h5; exact .inl h6; exact .inl h7)⟩) ?_)
  rintro _ _ ⟨b,f,bd,rfl,rfl⟩
  refine oA ?_
  refine KC ?_
  refine KB ?_
  refine KB (KA ?_)
  refine oM ?_
  refine oP (KH (Det.eqp Try.underlying110 rfl rfl) (show _ = Value.bool false from rfl)) ?_
  refine KC ?_
  refine KQ rfl ?_
  refine KM ?_
  refine KB ?_
  refine KB (KA ?_)
  refine oM ?_
  refine oP (KH (Det.eqs rfl rfl) (congrArg Value.bool (emp_f hs0))) ?_
  refine KC ?_
  refine KQ rfl ?_
  refine KM ?_
  refine KB ?_
  refine rD [] ?_
  refine aM 0 ?_
  refine aP 1 rfl (KH (KAF Try.underlying9 rfl rfl (by omega) (by omega)) (show _ = .int .u8 ((4:Nat):Int) from congrArg (fun n:Nat=>Value.int .u8 ((n:Nat):Int)) hb)) ?_
  refine aP 2 rfl (KAV Try.underlying5 Try.underlying3 rfl (by omega)) ?_
  refine aM 3 ?_
  refine aP 4 rfl (KH (Det.slStrL Try.underlying9 rfl rfl (by omega) (by omega)) (show _ = Value.string (s.extract 1 s.size) from rfl)) ?_
  refine aA 5 ?_
  refine aA 6 ?_
  refine aE ?_
  refine KB (KA ?_)
  refine oS (mk (KV zr_35) (fun b9=>?_))
  refine KC ?_
  refine KB (KA ?_)
  refine oA ?_
  refine KC ?_
  refine KB ?_
  refine LCode.block ?_
  refine KB ?_
  have hrs:(s.extract 1 s.size).size = s.size-1:=by rw [ext_size _ _ _ (Nat.le_refl _)]
  refine KA ?_
  refine oM ?_
  refine oP (KD (v:=.bool false) rfl rfl (br_f (KAC (b:=2)) (by decide))) ?_
  refine oM ?_
  refine oGM ?_
  refine oGP (KD (v:=.bool false) rfl rfl (br_f (KAC (b:=3)) (by decide))) ?_
  refine oP (Kb rfl rfl) ?_
  refine oM ?_
  refine oK ?_
  refine oK ?_
  refine oK ?_
  refine oK ?_
  refine oK ?_
  refine oK ?_
  refine oK ?_
  refine oK ?_
  refine oP (Kb rfl rfl) ?_
  refine oA ?_
  refine KC ?_
  refine KQ rfl ?_
  refine KB (KA ?_)
  refine oM ?_
  refine oP (KD (v:=.bool true) rfl rfl (br_t (KAC (b:=4)) (rfl))) ?_
  refine oM ?_
  refine oGM ?_
  refine oGP (Det.lens Try.underlying9 rfl) ?_
  refine oGM ?_
  refine oGP (KP rfl) ?_
  refine oGP (KF (o':=0) Try.underlying129 rfl rfl rfl KAa (by decide)) ?_
  refine oGP (KF (o':=57) Try.underlying126 rfl rfl rfl sz_3 (by decide)) ?_
  refine KAH rfl rfl (dL rfl (hv:=KK Try.underlying3 rfl (by exact cvC_gt_size _ _ _ _ _ _ _ _ _ _ _ _ _))) (Nb rfl) ?_
  refine oGP (KD rfl rfl (br_mul (a:=2) (by omega))) ?_
  refine oGP (KD (v:=.bool false) rfl rfl (br_f KAC ((by omega)))) ?_
  refine oP (Kh rfl rfl) ?_
  refine oA ?_
  refine KC ?_
  refine KQ rfl ?_
  refine KB (KA ?_)
  refine oP (KH (Ky pl_35 zr_35 rfl rfl) pt_zero) ?_
  refine KT rfl (sA rfl rfl sz_35 (by exact Kd _ _ _) (hl:=by exact KO _ _ _) (h:=?_))
  refine oP (KW (v:=.int .i64 ((2102:Nat):Int)) rfl) ?_
  refine KC (KL ?_)
  refine ⟨[_,_],.cons ⟨_,_,_,rfl,(by repeat (first|exact Mh _|apply Mt)),by exact KG Try.underlying35 rfl sz_35⟩ (.cons rfl .nil),fun a' w' hr=>⟨?_,hr.fr.below⟩⟩
  skip
  rfl
theorem c_s_Get_fo (id:Int) (V:Cv) (s:ByteArray) (w:World) (h:cvI id = some V) (hs0:s.size≠0) (hs:s.size<9223372036854775808) (hb2:b0 s≠2) (hb3:b0 s≠3) (hb4:b0 s≠4):Calls Try.prog 41 ([.int .i64 id,.string s]:List Value).toArray w (fun e w'=>e = .returned (.tuple #[ptV 0 0 false,.int .i64 ((2102:Nat):Int)])∧Below w.heap.size w w'):=by
  obtain ⟨hok,hid⟩:=cvI_ok h
  have hbb:=hok.bounds
  have hpW:V.p<W9:=KAX hbb.2.1
  have hnW:V.n<W9:=KAX hbb.2.2.2.2.2.2.1
  have hbl:=blen_w9 hnW
  have hnb:nby V.n≤72:=by (unfold nby; omega)
  have hnp:nby V.p≤72:=by have:=blen_w9 (KAX hbb.2.1); (unfold nby; omega)
  have hb256:=b0_lt s
  refine Kl (N:=102) (rs:=[.cell 4 35,.tmp 5]) [] Try.func41 rfl Try.ntmps41 Try.results41 (Nb rfl) trivial rfl ?_
  show LCode _ _ _ ⟨_,_⟩ _
  refine KB (KA ?_)
  refine oS (mk (KV zr_35) (fun b4=>?_))
  refine oP (KW (v:=.int .i64 ((0:Nat):Int)) rfl) ?_
  refine KC ?_
  refine KB (KA ?_)
  refine oM ?_
  refine oS (KAU (Post:=fun v its=>∃ b f bd,v = .pointer (some ⟨b,0,none⟩)∧its = [.blk b ⟨false,opL V f,129,(0,0)⟩,.blk f ⟨false,fldL V.p bd,162,(0,0)⟩,.blk bd ⟨false,dvL V.p,212,(0,0)⟩]) (first:=[]) rfl en_80 rfl (Nb rfl) (fun w1 hw hs=>(c_Open _ V w1 h).mono fun e w' ⟨b,f,bd,h1,h2,h3,h4,h5,h6,h7,h8⟩=>⟨_,_,⟨b,f,bd,rfl,rfl⟩,h1,KAY h8 (by intro x hx; simp at hx; rcases hx with rfl|rfl|rfl; exact h2; exact h3; exact h4) (by intro x hx; simp at hx; rcases hx with rfl|rfl|rfl <;> rfl) (by intro x hx k hk; simp at hx; rcases hx with rfl|rfl|rfl <;> simp [Item.fp] at hk <;> subst hk; exact .inl h5; exact .inl h6; exact .inl h7)⟩) ?_)
  rintro _ _ ⟨b,f,bd,rfl,rfl⟩
  refine oA ?_
  refine KC ?_
  refine KB ?_
  refine KB (KA ?_)
  refine oM ?_
  refine oP (KH (Det.eqp Try.underlying110 rfl rfl) (show _ = Value.bool false from rfl)) ?_
  refine KC ?_
  refine KQ rfl ?_
  refine KM ?_
  refine KB ?_
  refine KB (KA ?_)
  refine oM ?_
  refine oP (KH (Det.eqs rfl rfl) (congrArg Value.bool (emp_f hs0))) ?_
  refine KC ?_
  refine KQ rfl ?_
  refine KM ?_
  refine KB ?_
  refine rD [] ?_
  refine aM 0 ?_
  refine aP 1 rfl (KH (KAF Try.underlying9 rfl rfl (by omega) (by omega)) (show _ = .int .u8 (((b0 s):Nat):Int) from congrArg (fun n:Nat=>Value.int .u8 ((n:Nat):Int)) rfl)) ?_
  refine aP 2 rfl (KAV Try.underlying5 Try.underlying3 rfl (by omega)) ?_
  refine aM 3 ?_
  refine aP 4 rfl (KH (Det.slStrL Try.underlying9 rfl rfl (by omega) (by omega)) (show _ = Value.string (s.extract 1 s.size) from rfl)) ?_
  refine aA 5 ?_
  refine aA 6 ?_
  refine aE ?_
  refine KB (KA ?_)
  refine oS (mk (KV zr_35) (fun b9=>?_))
  refine KC ?_
  refine KB (KA ?_)
  refine oA ?_
  refine KC ?_
  refine KB ?_
  refine LCode.block ?_
  refine KB ?_
  have hrs:(s.extract 1 s.size).size = s.size-1:=by rw [ext_size _ _ _ (Nat.le_refl _)]
  refine KA ?_
  refine oM ?_
  refine oP (KD (v:=.bool false) rfl rfl (br_f (KAC (b:=2)) ((by omega)))) ?_
  refine oM ?_
  refine oGM ?_
  refine oGP (KD (v:=.bool false) rfl rfl (br_f (KAC (b:=3)) ((by omega)))) ?_
  refine oP (Kb rfl rfl) ?_
  refine oM ?_
  refine oK ?_
  refine oK ?_
  refine oK ?_
  refine oK ?_
  refine oK ?_
  refine oK ?_
  refine oK ?_
  refine oK ?_
  refine oP (Kb rfl rfl) ?_
  refine oA ?_
  refine KC ?_
  refine KQ rfl ?_
  refine KB (KA ?_)
  refine oM ?_
  refine oP (KD (v:=.bool false) rfl rfl (br_f (KAC (b:=4)) ((by omega)))) ?_
  refine oM ?_
  refine oK ?_
  refine oK ?_
  refine oK ?_
  refine oK ?_
  refine oK ?_
  refine oK ?_
  refine oK ?_
  refine oK ?_
  refine oK ?_
  refine oP (Kb rfl rfl) ?_
  refine oA ?_
  refine KC ?_
  refine KQ rfl ?_
  refine KB (KA ?_)
  refine oP (KH (Ky pl_35 zr_35 rfl rfl) pt_zero) ?_
  refine KT rfl (sA rfl rfl sz_35 (by exact Kd _ _ _) (hl:=by exact KO _ _ _) (h:=?_))
  refine oP (KW (v:=.int .i64 ((2102:Nat):Int)) rfl) ?_
  refine KC (KL ?_)
  refine ⟨[_,_],.cons ⟨_,_,_,rfl,(by repeat (first|exact Mh _|apply Mt)),by exact KG Try.underlying35 rfl sz_35⟩ (.cons rfl .nil),fun a' w' hr=>⟨?_,hr.fr.below⟩⟩
  skip
  rfl
theorem c_s_Get_l (id:Int) (V:Cv) (s:ByteArray) (X Y:Nat) (ok:Bool) (w:World) (h:cvI id = some V) (hsz:s.size = 1+2*nby V.p) (hb:b0 s = 4) (hX:beVal (s.extract 1 (1+nby V.p)).data.toList = X) (hY:beVal (s.extract (1+nby V.p) s.size).data.toList = Y) (hXw:X<W9) (hYw:Y<W9) (hl:onB V.p V.a V.b X Y false = ok):Calls Try.prog 41 ([.int .i64 id,.string s]:List Value).toArray w (fun e w'=>e = .returned (getV V s)∧Below w.heap.size w w'):=by
  obtain ⟨hok,hid⟩:=cvI_ok h
  have hbb:=hok.bounds
  have hpW:V.p<W9:=KAX hbb.2.1
  have hnW:V.n<W9:=KAX hbb.2.2.2.2.2.2.1
  have hbl:=blen_w9 hnW
  have hnb:nby V.n≤72:=by (unfold nby; omega)
  have hnp:nby V.p≤72:=by have:=blen_w9 (KAX hbb.2.1); (unfold nby; omega)
  have hs0:s.size≠0:=by omega
  refine Kl (N:=102) (rs:=[.cell 4 35,.tmp 5]) [] Try.func41 rfl Try.ntmps41 Try.results41 (Nb rfl) trivial rfl ?_
  show LCode _ _ _ ⟨_,_⟩ _
  refine KB (KA ?_)
  refine oS (mk (KV zr_35) (fun b4=>?_))
  refine oP (KW (v:=.int .i64 ((0:Nat):Int)) rfl) ?_
  refine KC ?_
  refine KB (KA ?_)
  refine oM ?_
  refine oS (KAU (Post:=fun v its=>∃ b f bd,v = .pointer (some ⟨b,0,none⟩)∧its = [.blk b ⟨false,opL V f,129,(0,0)⟩,.blk f ⟨false,fldL V.p bd,162,(0,0)⟩,.blk bd ⟨false,dvL V.p,212,(0,0)⟩]) (first:=[]) rfl en_80 rfl (Nb rfl) (fun w1 hw hs=>(c_Open _ V w1 h).mono fun e w' ⟨b,f,bd,h1,h2,h3,h4,h5,h6,h7,h8⟩=>⟨_,_,⟨b,f,bd,rfl,rfl⟩,h1,KAY h8 (by intro x hx; simp at hx; rcases hx with rfl|rfl|rfl; exact h2; exact h3; exact h4) (by intro x hx; simp at hx; rcases hx with rfl|rfl|rfl <;> rfl) (by intro x hx k hk; simp at hx; rcases hx with rfl|rfl|rfl <;> simp [Item.fp] at hk <;> subst hk; exact .inl h5; exact .inl h6; exact .inl h7)⟩) ?_)
  rintro _ _ ⟨b,f,bd,rfl,rfl⟩
  refine oA ?_
  refine KC ?_
  refine KB ?_
  refine KB (KA ?_)
  refine oM ?_
  refine oP (KH (Det.eqp Try.underlying110 rfl rfl) (show _ = Value.bool false from rfl)) ?_
  refine KC ?_
  refine KQ rfl ?_
  refine KM ?_
  refine KB ?_
  refine KB (KA ?_)
  refine oM ?_
  refine oP (KH (Det.eqs rfl rfl) (congrArg Value.bool (emp_f hs0))) ?_
  refine KC ?_
  refine KQ rfl ?_
  refine KM ?_
  refine KB ?_
  refine rD [] ?_
  refine aM 0 ?_
  refine aP 1 rfl (KH (KAF Try.underlying9 rfl rfl (by omega) (by omega)) (show _ = .int .u8 ((4:Nat):Int) from congrArg (fun n:Nat=>Value.int .u8 ((n:Nat):Int)) hb)) ?_
  refine aP 2 rfl (KAV Try.underlying5 Try.underlying3 rfl (by omega)) ?_
  refine aM 3 ?_
  refine aP 4 rfl (KH (Det.slStrL Try.underlying9 rfl rfl (by omega) (by omega)) (show _ = Value.string (s.extract 1 s.size) from rfl)) ?_
  refine aA 5 ?_
  refine aA 6 ?_
  refine aE ?_
  refine KB (KA ?_)
  refine oS (mk (KV zr_35) (fun b9=>?_))
  refine KC ?_
  refine KB (KA ?_)
  refine oA ?_
  refine KC ?_
  refine KB ?_
  refine LCode.block ?_
  refine KB ?_
  have hrs:(s.extract 1 s.size).size = s.size-1:=by rw [ext_size _ _ _ (Nat.le_refl _)]
  refine KA ?_
  refine oM ?_
  refine oP (KD (v:=.bool false) rfl rfl (br_f (KAC (b:=2)) (by decide))) ?_
  refine oM ?_
  refine oGM ?_
  refine oGP (KD (v:=.bool false) rfl rfl (br_f (KAC (b:=3)) (by decide))) ?_
  refine oP (Kb rfl rfl) ?_
  refine oM ?_
  refine oK ?_
  refine oK ?_
  refine oK ?_
  refine oK ?_
  refine oK ?_
  refine oK ?_
  refine oK ?_
  refine oK ?_
  refine oP (Kb rfl rfl) ?_
  refine oA ?_
  refine KC ?_
  refine KQ rfl ?_
  refine KB (KA ?_)
  refine oM ?_
  refine oP (KD (v:=.bool true) rfl rfl (br_t (KAC (b:=4)) (rfl))) ?_
  refine oM ?_
  refine oGM ?_
  refine oGP (Det.lens Try.underlying9 rfl) ?_
  refine oGM ?_
  refine oGP (KP rfl) ?_
  refine oGP (KF (o':=0) Try.underlying129 rfl rfl rfl KAa (by decide)) ?_
  refine oGP (KF (o':=57) Try.underlying126 rfl rfl rfl sz_3 (by decide)) ?_
  refine KAH rfl rfl (dL rfl (hv:=KK Try.underlying3 rfl (by exact cvC_gt_size _ _ _ _ _ _ _ _ _ _ _ _ _))) (Nb rfl) ?_
  refine oGP (KD rfl rfl (br_mul (a:=2) (by omega))) ?_
  refine oGP (KD (v:=.bool true) rfl rfl (br_t KAC ((by omega)))) ?_
  refine oP (Kh rfl rfl) ?_
  refine oA ?_
  refine KC ?_
  refine Kf rfl ?_
  refine KB ?_
  refine LCode.sub (Sub.cells (b:=b9) (cs':=ptL 0 0 false) (by repeat (first|exact Sh _|apply St_)) ptX_zero) ?_
  refine KA ?_
  refine oM ?_
  refine oM ?_
  refine oP (KP rfl) ?_
  refine oP (KF (o':=0) Try.underlying129 rfl rfl rfl KAa (by decide)) ?_
  refine oP (KF (o':=57) Try.underlying126 rfl rfl rfl sz_3 (by decide)) ?_
  refine oD (dL rfl (hv:=KK Try.underlying3 rfl (by exact cvC_gt_size _ _ _ _ _ _ _ _ _ _ _ _ _))) ?_
  refine oP (KH (Det.slStrH Try.underlying9 rfl rfl (by omega) (by omega)) (show _ = Value.string (s.extract 1 (1+nby V.p)) from by rw [Int.toNat_natCast,ext_ext s _ (by omega)])) ?_
  refine oS (cF rfl en_90 rfl (fun w hw=>c_nat_OfX X (s.extract 1 (1+nby V.p)) w (by rw [ext_size _ _ _ (by omega)]; omega) hX) ?_)
  refine oM ?_
  refine oP (Det.extract rfl rfl) ?_
  refine oP (Det.extract rfl rfl) ?_
  refine oP (KF (o':=0) Try.underlying35 rfl rfl rfl sz_33 (by decide)) ?_
  refine KT rfl (Kz rfl rfl rfl sz_33 (KE _) (Kc _) (by repeat (first|exact Sh _|apply St_)) (by simp only [KO]; decide) (ptX_set0 _ _ _ _) (by simp) ?_)
  refine KC ?_
  refine KB (KA ?_)
  refine oM ?_
  refine oM ?_
  refine oP (KP rfl) ?_
  refine oP (KF (o':=0) Try.underlying129 rfl rfl rfl KAa (by decide)) ?_
  refine oP (KF (o':=57) Try.underlying126 rfl rfl rfl sz_3 (by decide)) ?_
  refine oD (dL rfl (hv:=KK Try.underlying3 rfl (by exact cvC_gt_size _ _ _ _ _ _ _ _ _ _ _ _ _))) ?_
  refine oP (KH (Det.slStrL Try.underlying9 rfl rfl (by omega) (by omega)) (show _ = Value.string (s.extract (1+nby V.p) s.size) from by rw [Int.toNat_natCast,ext_ext2 s _ (by omega)])) ?_
  refine oS (cF rfl en_90 rfl (fun w hw=>c_nat_OfX Y (s.extract (1+nby V.p) s.size) w (by rw [ext_size _ _ _ (Nat.le_refl _)]; omega) hY) ?_)
  refine oM ?_
  refine oP (Det.extract rfl rfl) ?_
  refine oP (Det.extract rfl rfl) ?_
  refine oP (KF (o':=9) Try.underlying35 rfl rfl rfl sz_33 (by decide)) ?_
  refine KT rfl (Kz rfl rfl rfl sz_33 (KE _) (Kc _) (by repeat (first|exact Sh _|apply St_)) (by simp only [KO]; decide) (ptX_set9 _ _ _ _) (by simp) ?_)
  refine KC ?_
  cases ok
  ·
    refine KA ?_
    refine oM ?_
    refine oD (dL rfl (hv:=by exact KG Try.underlying35 rfl sz_35)) ?_
    refine oS (cF rfl en_81 rfl (fun w hw=>c_cOnV false V b f bd hok X Y false w (mC hw) (mC hw) (mC hw) hXw hYw hl) ?_)
    refine oA ?_
    refine KC ?_
    refine KB ?_
    refine KB (KA ?_)
    refine oM ?_
    refine oP (KH (Det.not rfl) (show _ = Value.bool true from rfl)) ?_
    refine KC ?_
    refine Kf rfl ?_
    refine KB (KA ?_)
    refine oP (KH (Ky pl_35 zr_35 rfl rfl) pt_zero) ?_
    refine KT rfl (sA rfl rfl sz_35 (by exact Kd _ _ _) (hl:=by exact KO _ _ _) (h:=?_))
    refine oP (KW (v:=.int .i64 ((2101:Nat):Int)) rfl) ?_
    refine KC (KL ?_)
    refine ⟨[_,_],.cons ⟨_,_,_,rfl,(by repeat (first|exact Mh _|apply Mt)),by exact KG Try.underlying35 rfl sz_35⟩ (.cons rfl .nil),fun a' w' hr=>⟨?_,hr.fr.below⟩⟩
    subst hX hY
    rw [getV_eq (get_longF hsz hb hl)]
    rfl
  ·
    refine KA ?_
    refine oM ?_
    refine oD (dL rfl (hv:=by exact KG Try.underlying35 rfl sz_35)) ?_
    refine oS (cF rfl en_81 rfl (fun w hw=>c_cOnV true V b f bd hok X Y false w (mC hw) (mC hw) (mC hw) hXw hYw hl) ?_)
    refine oA ?_
    refine KC ?_
    refine KB ?_
    refine KB (KA ?_)
    refine oM ?_
    refine oP (KH (Det.not rfl) (show _ = Value.bool false from rfl)) ?_
    refine KC ?_
    refine KQ rfl ?_
    refine KM ?_
    refine KB (KA ?_)
    refine oD (dL rfl (hv:=by exact KG Try.underlying35 rfl sz_35)) ?_
    refine KT rfl (sA rfl rfl sz_35 (by exact Kd _ _ _) (hl:=by exact KO _ _ _) (h:=?_))
    refine oP (KW (v:=.int .i64 ((0:Nat):Int)) rfl) ?_
    refine KC (KL ?_)
    refine ⟨[_,_],.cons ⟨_,_,_,rfl,(by repeat (first|exact Mh _|apply Mt)),by exact KG Try.underlying35 rfl sz_35⟩ (.cons rfl .nil),fun a' w' hr=>⟨?_,hr.fr.below⟩⟩
    subst hX hY
    rw [getV_eq (get_long hsz hb hl)]
    unfold getX getY
    rfl
end Go.Proofs.Ytlmiolnccgjjjaa
set_option linter.unusedVariables false
set_option linter.unusedSimpArgs false
set_option maxRecDepth 20000
namespace Go.Proofs.Ytlmiolnccgjjjaa
open Go Go.RowKit
theorem nby_posV {V:Cv} (hok:V.Ok):1≤nby V.p:=by
  have hb:=hok.bounds
  have:=lt_blen V.p
  unfold nby
  rcases Nat.eq_zero_or_pos (blen V.p) with h|h
  · rw [h] at this; omega
  · omega
end Go.Proofs.Ytlmiolnccgjjjaa
set_option linter.unusedVariables false
set_option linter.unusedSimpArgs false
set_option maxRecDepth 20000
namespace Go.Proofs.Ytlmiolnccgjjjaa
open Go Go.RowKit
theorem getX_w9 {V:Cv} (hnb:nby V.p≤72) {s:ByteArray} (h:1+nby V.p≤s.size):getX V s<W9:=beVal_w9 (by show (s.extract 1 (1+nby V.p)).size≤72; rw [ext_size _ _ _ h]; omega)
theorem getY_w9 {V:Cv} (hnb:nby V.p≤72) {s:ByteArray} (h:s.size = 1+2*nby V.p):getY V s<W9:=beVal_w9 (by show (s.extract (1+nby V.p) s.size).size≤72; rw [ext_size _ _ _ (Nat.le_refl _)]; omega)
theorem nbp_72 {V:Cv} (hok:V.Ok):nby V.p≤72:=by have:=blen_w9 (KAX hok.bounds.2.1); (unfold nby; omega)
theorem c_s_Get (id:Int) (V:Cv) (s:ByteArray) (w:World) (h:cvI id = some V) (hs:s.size<9223372036854775808):Calls Try.prog 41 ([.int .i64 id,.string s]:List Value).toArray w (fun e w'=>e = .returned (getV V s)∧Below w.heap.size w w'):=by
  obtain ⟨hok,-⟩:=cvI_ok h
  have hnb:=nbp_72 hok
  have hk1:=nby_posV hok
  by_cases h0:s.size = 0
  · have e : s = ⟨#[]⟩ := by
      obtain ⟨d⟩:=s
      have h1:d.size = 0:=h0
      rw [Array.size_eq_zero_iff.1 h1]
    rw [getV_eq (get_form (by omega) (by omega)),e]
    exact c_s_Get_emp id V w h
  · by_cases h2:b0 s = 2
    · by_cases h1:s.size = 1+nby V.p
      · have hx:beVal (s.extract 1 s.size).data.toList = getX V s:=by unfold getX; rw [← h1]
        exact c_s_Get_s0 id V s (getX V s) (liftT V (getX V s) 0).1 (liftT V (getX V s) 0).2.1 (liftT V (getX V s) 0).2.2 w h h1 h2 hx (getX_w9 hnb (by omega)) rfl
      · rw [getV_eq (get_form (by omega) (by omega))]
        exact c_s_Get_f2 id V s w h h0 hs h2 h1
    · by_cases h3:b0 s = 3
      · by_cases h1:s.size = 1+nby V.p
        · have hx:beVal (s.extract 1 s.size).data.toList = getX V s:=by unfold getX; rw [← h1]
          exact c_s_Get_s1 id V s (getX V s) (liftT V (getX V s) 1).1 (liftT V (getX V s) 1).2.1 (liftT V (getX V s) 1).2.2 w h h1 h3 hx (getX_w9 hnb (by omega)) rfl
        · rw [getV_eq (get_form (by omega) (by omega))]
          exact c_s_Get_f3 id V s w h h0 hs h3 h1
      · by_cases h4:b0 s = 4
        · by_cases h1:s.size = 1+2*nby V.p
          · exact c_s_Get_l id V s (getX V s) (getY V s) _ w h h1 h4 rfl rfl (getX_w9 hnb (by omega)) (getY_w9 hnb h1) rfl
          · rw [getV_eq (get_form (by omega) (by omega))]
            exact c_s_Get_f4 id V s w h h0 hs h4 h1
        · rw [getV_eq (get_form (by omega) (by omega))]
          exact c_s_Get_fo id V s w h h0 hs h2 h3 h4
end Go.Proofs.Ytlmiolnccgjjjaa
set_option linter.unusedVariables false
set_option linter.unusedSimpArgs false
set_option maxRecDepth 20000
namespace Go.Proofs.Ytlmiolnccgjjjaa
open Go Go.RowKit
abbrev TrRow:=Option (Nat×Nat×List Value)
def evsL (l:List Nat):List Value:=l.flatMap fun k=>[.int .i64 ((2:Nat):Int),.int .i64 ((k:Nat):Int)]
def trSl (r:TrRow) (n:Nat):Value:=match r with
  | none=>.slice none 0 0
  | some r=>.slice (some ⟨r.1,0,none⟩) n r.2.1
def trFp (b:Option Nat) (r:TrRow):List Nat:=match b with
  | none=>[]
  | some b=>match r with
    | none=>[b]
    | some r=>[b,r.1]
def trP (b:Option Nat) (r:TrRow) (l:List Nat) (w:World):Prop:=match b with
  | none=>True
  | some b=>w.heap[b]? = some (.cells [trSl r l.length].toArray 121 (0,0))∧match r with
    | none=>l = []
    | some r=>w.heap[r.1]? = some (.cells (evsL l++r.2.2).toArray 83 (0,0))∧(evsL l).length+r.2.2.length = r.2.1*2∧r.1≠b
def trI (b:Option Nat) (r:TrRow) (l:List Nat):Item:=.own (trFp b r) (trP b r l)
def Out (b:Option Nat) (r:TrRow) (x:Item):Prop:=∀ k,k∈trFp b r→k ∉ x.fp
theorem Out.nil (r:TrRow) (x:Item):Out none r x:=fun k hk=>by cases hk
def Outs (b:Option Nat) (r:TrRow):List Item→Prop
  | []=>True
  | x :: t=>Out b r x∧Outs b r t
theorem Outs.mem {b:Option Nat} {r:TrRow} {H:List Item} (h:Outs b r H):∀ x,x∈H→Out b r x:=by
  induction H with
  | nil=>intro x hx; cases hx
  | cons y t ih =>
    intro x hx
    rcases List.mem_cons.1 hx with rfl|hx
    · exact h.1
    · exact ih h.2 x hx
def TrR (w:World) (b:Option Nat) (r:TrRow) (l:List Nat) (v:Value) (e:Ending) (w':World):Prop :=
  ∃ r',e = .returned v∧(trI b r' l).holds w'∧(∀ k,k∈trFp b r'→w.heap.size≤k∨k∈trFp b r)∧Fr (fun k=>k∈trFp b r) w w'
theorem TrR.nil {w:World} {r:TrRow} {l:List Nat} {v:Value} {e:Ending} {w':World} (h:TrR w none r l v e w'):e = .returned v∧Below w.heap.size w w':=by
  obtain ⟨_,h1,_,_,h2⟩:=h
  exact ⟨h1,h2.os,h2.tape,h2.output,h2.size,fun k hk=>h2.block k hk (fun hk'=>by cases hk')⟩
theorem TrR.same {w:World} {b:Option Nat} {r:TrRow} {l:List Nat} {v:Value} {e:Ending} {w':World} (h:(trI b r l).holds w) (he:e = .returned v) (hb:Below w.heap.size w w'):TrR w b r l v e w' :=
  ⟨r,he,Item.holds_agree h (fun k hk=>hb.block k (Item.lt h k hk)) hb.size,fun k hk=>.inr hk,hb.os,hb.tape,hb.output,hb.size,fun k hk _=>hb.block k hk⟩
section
variable {P:Program} {C:Ctx} {ty:TypeId} {pos:String} {aft:Array Edge} {d:Nat} {K:St→Prop} {x:Operand} {v:Value}
end
section
variable {P:Program} {C:Ctx} {ty:TypeId} {pos:String} {aft:Array Edge} {d:Nat} {K:St→Prop} {x y:Operand} {t e:TypeId}
end
end Go.Proofs.Ytlmiolnccgjjjaa
set_option linter.unusedVariables false
set_option linter.unusedSimpArgs false
set_option maxRecDepth 20000
namespace Go.Proofs.Ytlmiolnccgjjjaa
open Go Go.RowKit
open Grp
theorem Brings.two {w w':World} {b c:Nat} {B D:Blk} (hb:Below w.heap.size w w') (h1:(Item.blk b B).holds w') (h2:(Item.blk c D).holds w') (n1:w.heap.size≤b) (n2:w.heap.size≤c) (hne:c≠b):Brings w [] [.blk b B,.blk c D] w':=by
  have key:∀ x,x∈[Item.blk b B,.blk c D]→∀ k,k∈x.fp→w.heap.size≤k:=fun x hx k hk=>by
    rcases List.mem_cons.1 hx with rfl|hx
    · obtain rfl:k = b:=by simpa [Item.fp] using hk
      exact n1
    · obtain rfl:x = _:=by simpa using hx
      obtain rfl:k = c:=by simpa [Item.fp] using hk
      exact n2
  refine ⟨hb,fun x hx=>?_,fun x hx k hk=>.inl (key x hx k hk),fun x hx _=>key x hx,List.pairwise_cons.2 ⟨fun y hy _ k hk hk'=>?_,List.pairwise_singleton _ _⟩⟩
  · rcases List.mem_cons.1 hx with rfl|hx
    · exact h1
    · obtain rfl:x = _:=by simpa using hx
      exact h2
  · obtain rfl:y = _:=by simpa using hy
    obtain rfl:k = b:=by simpa [Item.fp] using hk
    exact hne (by simpa [Item.fp] using hk':k = c).symm
section
variable {P:Program} {C:Ctx} {d:Option Tmp} {ty:TypeId} {pos:String} {aft:Array Edge} {g:Option (Nat×Bool)} {st:St} {x y:Operand} {t e:TypeId}
end
end Go.Proofs.Ytlmiolnccgjjjaa
set_option linter.unusedVariables false
set_option linter.unusedSimpArgs false
set_option maxRecDepth 20000
namespace Go.Proofs.Ytlmiolnccgjjjaa
open Go Go.RowKit
open Grp
theorem Brings.one {w w':World} {b:Nat} {B:Blk} (hb:Below w.heap.size w w') (h1:(Item.blk b B).holds w') (n1:w.heap.size≤b):Brings w [] [.blk b B] w':=by
  have key:∀ x,x∈[Item.blk b B]→∀ k,k∈x.fp→w.heap.size≤k:=fun x hx k hk=>by
    obtain rfl:x = _:=by simpa using hx
    obtain rfl:k = b:=by simpa [Item.fp] using hk
    exact n1
  exact ⟨hb, fun x hx => (by obtain rfl : x = _ := by simpa using hx
                             exact h1),fun x hx k hk=>.inl (key x hx k hk),fun x hx _=>key x hx,List.pairwise_singleton _ _⟩
end Go.Proofs.Ytlmiolnccgjjjaa
set_option linter.unusedVariables false
set_option linter.unusedSimpArgs false
set_option maxRecDepth 20000
namespace Go.Proofs.Ytlmiolnccgjjjaa
open Go Go.RowKit
theorem br_andI (x:Int) {m:Nat} (k:Nat) (hk:k≤62) (hm:m = 2^k-1):KAA .and .i64 x .i64 ((m:Nat):Int) = some (.int .i64 (((x%(2^k:Nat)).toNat:Nat):Int)):=by
  subst hm
  have hp:2^k≤4611686018427387904:=Nat.pow_le_pow_right (n:=2) (by decide) hk
  have hp0:0<2^k:=Nat.pow_pos (by decide)
  show some (Value.int .i64 (IntKind.i64.wrap ((BitVec.ofInt 64 x &&& BitVec.ofInt 64 ((2^k-1:Nat):Int)).toNat:Int))) = _
  have h1:(BitVec.ofInt 64 x &&& BitVec.ofInt 64 ((2^k-1:Nat):Int)).toNat = (x%(2^k:Nat)).toNat:=by
    rw [ofInt_nat,BitVec.toNat_and,BitVec.toNat_ofNat,Nat.mod_eq_of_lt (show 2^k-1<2^64 by omega),Nat.and_two_pow_sub_one_eq_mod]
    have h2:(BitVec.ofInt 64 x).toNat = (x%18446744073709551616).toNat:=by rw [BitVec.toNat_ofInt]; rfl
    rw [h2]
    have hd:((2^k:Nat):Int) ∣ 18446744073709551616:=⟨((2^(64-k):Nat):Int),by rw [← Int.natCast_mul,← Nat.pow_add,show k+(64-k) = 64 by omega]; rfl⟩
    have h3:=Int.emod_emod_of_dvd x hd
    have h4:0≤x%18446744073709551616:=Int.emod_nonneg _ (by decide)
    generalize x%18446744073709551616 = y at *
    rw [← h3]
    obtain ⟨n,rfl⟩:∃ n:Nat,y = n:=⟨y.toNat,by omega⟩
    rw [Int.toNat_natCast,← Int.natCast_emod,Int.toNat_natCast]
  have h5:=Int.emod_lt_of_pos x (show (0:Int)<((2^k:Nat):Int) by omega)
  have h6:=Int.emod_nonneg x (show ((2^k:Nat):Int)≠0 by omega)
  rw [h1,wrap_i64 (by omega) (by omega)]
open Grp
end Go.Proofs.Ytlmiolnccgjjjaa
set_option linter.unusedVariables false
set_option linter.unusedSimpArgs false
set_option maxRecDepth 20000
namespace Go.Proofs.Ytlmiolnccgjjjaa
open Go Go.RowKit
def pStr (V:Cv) (X Y:Nat) (i sh:Bool):ByteArray:=if (onB V.p V.a V.b X Y i && !i) = true then putS V X Y sh else ⟨#[]⟩
def pErr (V:Cv) (X Y:Nat) (i:Bool):Nat:=if (onB V.p V.a V.b X Y i && !i) = true then 0 else 2101
theorem putV_eq (V:Cv) (X Y:Nat) (i sh:Bool):putV V X Y i sh = .tuple #[.string (pStr V X Y i sh),.int .i64 ((pErr V X Y i:Nat):Int)]:=by
  unfold putV pStr pErr; split <;> rfl
theorem c_s_Put2 (id:Int) (V:Cv) (X Y:Nat) (i sh:Bool) (w:World) (h:cvI id = some V) (hX:X<W9) (hY:Y<W9):Calls Try.prog 40 ([.int .i64 id,ptV X Y i,.bool sh]:List Value).toArray w (fun e w'=>e = .returned (.tuple #[.string (pStr V X Y i sh),.int .i64 ((pErr V X Y i:Nat):Int)])∧Below w.heap.size w w'):=by
  have h1:=c_s_Put id V X Y i sh w h hX hY
  rwa [putV_eq] at h1
theorem c_s_PutE (s:ByteArray) (n:Nat) (id:Int) (V:Cv) (X Y:Nat) (i sh:Bool) (w:World) (h:cvI id = some V) (hX:X<W9) (hY:Y<W9) (hs:pStr V X Y i sh = s) (hn:pErr V X Y i = n):Calls Try.prog 40 ([.int .i64 id,ptV X Y i,.bool sh]:List Value).toArray w (fun e w'=>e = .returned (.tuple #[.string s,.int .i64 ((n:Nat):Int)])∧Below w.heap.size w w'):=by
  subst hs hn; exact c_s_Put2 id V X Y i sh w h hX hY
theorem c_s_GetE (X Y n:Nat) (id:Int) (V:Cv) (s:ByteArray) (w:World) (h:cvI id = some V) (hs:s.size<9223372036854775808) (hn:getT V s = (X,Y,n)):Calls Try.prog 41 ([.int .i64 id,.string s]:List Value).toArray w (fun e w'=>e = .returned (.tuple #[ptV X Y false,.int .i64 ((n:Nat):Int)])∧Below w.heap.size w w'):=by
  have h1:=c_s_Get id V s w h hs
  rwa [getV_eq hn] at h1
theorem getX_l (V:Cv) (s:ByteArray):getX V s = beVal ((s.data.toList.take (1+nby V.p)).drop 1):=by unfold getX; rw [ext_data]
theorem getY_l (V:Cv) (s:ByteArray):getY V s = beVal (s.data.toList.drop (1+nby V.p)):=by
  unfold getY; rw [ext_data]
  rw [show s.size = s.data.toList.length by rw [Array.length_toList]; rfl,List.take_length]
theorem size_l (s:ByteArray):s.size = s.data.toList.length:=by rw [Array.length_toList]; rfl
def gT (k:Nat) (V:Cv) (l:List UInt8):Nat×Nat×Nat :=
  if l.length = 1+k∧((l.getD 0 0).toNat = 2∨(l.getD 0 0).toNat = 3) then (if (liftT V (beVal ((l.take (1+k)).drop 1)) ((l.getD 0 0).toNat-2)).2.2 = true then ((liftT V (beVal ((l.take (1+k)).drop 1)) ((l.getD 0 0).toNat-2)).1,(liftT V (beVal ((l.take (1+k)).drop 1)) ((l.getD 0 0).toNat-2)).2.1,0) else (0,0,2101))
  else if l.length = 1+2*k∧(l.getD 0 0).toNat = 4 then (if onB V.p V.a V.b (beVal ((l.take (1+k)).drop 1)) (beVal (l.drop (1+k))) false = true then (beVal ((l.take (1+k)).drop 1),beVal (l.drop (1+k)),0) else (0,0,2101))
  else (0,0,2102)
theorem getT_l (V:Cv) (s:ByteArray):getT V s = gT (nby V.p) V s.data.toList:=by
  unfold getT gT b0
  rw [getX_l,getY_l,size_l]
theorem nby13:nby cv13.p = 1:=by decide +kernel
theorem aw_p:(pStr cv13 2 84 false false).data.toList = [4,2,84]∧pErr cv13 2 84 false = 0:=by
  have h1:(onB cv13.p cv13.a cv13.b 2 84 false && !false) = true:=by decide +kernel
  constructor
  · unfold pStr
    rw [if_pos h1]
    unfold putS coB
    rw [if_neg (by decide),ByteArray.toList_data_append,ByteArray.toList_data_append,nby13]
    decide +kernel
  · unfold pErr
    rw [if_pos h1]
theorem aw_g1:getT cv13 ⟨#[2,2]⟩ = (2,84,0):=by
  rw [getT_l,nby13]; decide +kernel
theorem aw_g2:getT cv13 ⟨#[4,2,85]⟩ = (0,0,2101):=by
  rw [getT_l,nby13]; decide +kernel
theorem aw_g3:getT cv13 ⟨#[]⟩ = (0,0,2102):=by
  rw [getT_l,nby13]; decide +kernel
theorem pErr_inf (V:Cv) (X Y:Nat):pErr V X Y true = 2101:=by
  unfold pErr; rw [Bool.not_true,Bool.and_false]; rfl
theorem pStr_inf (V:Cv) (X Y:Nat) (sh:Bool):pStr V X Y true sh = ⟨#[]⟩:=by
  unfold pStr; rw [Bool.not_true,Bool.and_false]; rfl
theorem aw_ps:∃ s:ByteArray,pStr cv13 2 84 false false = s∧s.data.toList = [4,2,84]:=⟨_,rfl,aw_p.1⟩
theorem c_awake21  (w:World)  : Calls Try.prog 42 ([]:List Value).toArray w (fun e w'=>e = .returned (.bool true)∧Below w.heap.size w w'):=by
  obtain ⟨s,hs,hs2⟩:=aw_ps
  refine Kl (N:=69) (rs:=[.tmp 0]) [] Try.func42 rfl Try.ntmps42 Try.results42 (Nb rfl) trivial rfl ?_
  show LCode _ _ _ ⟨_,_⟩ _
  refine KB (KA ?_)
  refine oA ?_
  refine KC ?_
  refine KB (KA ?_)
  refine oS (cF rfl en_47 rfl (fun w hw=>c_One 2 w (by decide)) ?_)
  refine oS (cF rfl en_47 rfl (fun w hw=>c_One 84 w (by decide)) ?_)
  refine oP (KH (Ky pl_35 zr_35 rfl (fill_ptI2 _ _)) rfl) ?_
  refine oS (cF rfl en_40 rfl (fun w hw=>c_s_PutE s 0 13 cv13 2 84 false false w cv13_is (u64_w9 (by decide)) (u64_w9 (by decide)) hs aw_p.2) ?_)
  refine oM ?_
  refine oP (Det.extract rfl rfl) ?_
  refine oP (Det.extract rfl rfl) ?_
  refine oA ?_
  refine oA ?_
  refine KC ?_
  refine KB (KA ?_)
  refine oS (cF rfl en_41 rfl (fun w hw=>c_s_GetE 2 84 0 13 cv13 ⟨#[2,2]⟩ w cv13_is (by decide) aw_g1) ?_)
  refine oM ?_
  refine oP (Det.extract rfl rfl) ?_
  refine oP (Det.extract rfl rfl) ?_
  refine oS (mk (KV zr_35) (fun b3=>?_))
  refine KT rfl (sA rfl rfl sz_35 (by exact Kd _ _ _) (hl:=by exact KO _ _ _) (h:=?_))
  refine oA ?_
  refine KC ?_
  refine KB (KA ?_)
  refine oS (cF rfl en_41 rfl (fun w hw=>c_s_GetE 0 0 2101 13 cv13 ⟨#[4,2,85]⟩ w cv13_is (by decide) aw_g2) ?_)
  refine oM ?_
  refine oP (Det.extract rfl rfl) ?_
  refine oP (Det.extract rfl rfl) ?_
  refine oS (mk (KV zr_35) (fun b5=>?_))
  refine KT rfl (sA rfl rfl sz_35 (by exact Kd _ _ _) (hl:=by exact KO _ _ _) (h:=?_))
  refine oA ?_
  refine KC ?_
  refine KB (KA ?_)
  refine oS (cF rfl en_41 rfl (fun w hw=>c_s_GetE 0 0 2102 13 cv13 ⟨#[]⟩ w cv13_is (by decide) aw_g3) ?_)
  refine oM ?_
  refine oP (Det.extract rfl rfl) ?_
  refine oP (Det.extract rfl rfl) ?_
  refine oS (mk (KV zr_35) (fun b7=>?_))
  refine KT rfl (sA rfl rfl sz_35 (by exact Kd _ _ _) (hl:=by exact KO _ _ _) (h:=?_))
  refine oA ?_
  refine KC ?_
  refine KB (KA ?_)
  refine oP (KH (Ky pl_35 zr_35 rfl fill_ptInf) rfl) ?_
  refine oS (cF rfl en_40 rfl (fun w hw=>c_s_PutE ⟨#[]⟩ 2101 13 cv13 0 0 true true w cv13_is zero_w9 zero_w9 (pStr_inf _ _ _ _) (pErr_inf _ _ _)) ?_)
  refine oM ?_
  refine oP (Det.extract rfl rfl) ?_
  refine oP (Det.extract rfl rfl) ?_
  refine oA ?_
  refine oA ?_
  refine KC ?_
  refine KB ?_
  refine rD [] ?_
  refine aM 0 ?_
  refine aP 1 rfl (KH (Det.eqs rfl rfl) (congrArg Value.bool (eq_str_t (hs2)))) ?_
  refine aM 2 ?_
  refine aGM 3 ?_
  refine aGO 4 rfl (cF rfl en_33 rfl (fun w hw=>c_Num _ w) ?_)
  refine aGP 5 rfl (KD (v:=.bool true) rfl rfl (br_t (KAC (b:=0)) (by first|rfl|assumption|omega|(simp; done)))) ?_
  refine aP 6 rfl (Kh rfl rfl) ?_
  refine aM 7 ?_
  refine aGD 8 rfl (dL rfl (hv:=by exact KG Try.underlying35 rfl sz_35)) ?_
  refine aGO 9 rfl (cF rfl en_47 rfl (fun w hw=>c_One 2 w (by decide)) ?_)
  refine aGO 10 rfl (cF rfl en_47 rfl (fun w hw=>c_One 84 w (by decide)) ?_)
  refine aGP 11 rfl (KH (Ky pl_35 zr_35 rfl (fill_ptI2 _ _)) rfl) ?_
  refine aGP 12 rfl (KH (Det.eqa (by kernel_rfl) (fun w=>eq_pt_t (u64_w9 (by decide)) (u64_w9 (by decide)) 10000 (by decide) w) rfl rfl) (show _ = Value.bool true by rfl)) ?_
  refine aP 13 rfl (Kh rfl rfl) ?_
  refine aM 14 ?_
  refine aGM 15 ?_
  refine aGO 16 rfl (cF rfl en_33 rfl (fun w hw=>c_Num _ w) ?_)
  refine aGP 17 rfl (KD (v:=.bool true) rfl rfl (br_t (KAC (b:=0)) (by first|rfl|assumption|omega|(simp; done)))) ?_
  refine aP 18 rfl (Kh rfl rfl) ?_
  refine aM 19 ?_
  refine aGM 20 ?_
  refine aGO 21 rfl (cF rfl en_33 rfl (fun w hw=>c_Num _ w) ?_)
  refine aGP 22 rfl (KD (v:=.bool true) rfl rfl (br_t (KAC (b:=2101)) (by first|rfl|assumption|omega|(simp; done)))) ?_
  refine aP 23 rfl (Kh rfl rfl) ?_
  refine aM 24 ?_
  refine aGM 25 ?_
  refine aGO 26 rfl (cF rfl en_33 rfl (fun w hw=>c_Num _ w) ?_)
  refine aGP 27 rfl (KD (v:=.bool true) rfl rfl (br_t (KAC (b:=2102)) (by first|rfl|assumption|omega|(simp; done)))) ?_
  refine aP 28 rfl (Kh rfl rfl) ?_
  refine aM 29 ?_
  refine aGM 30 ?_
  refine aGO 31 rfl (cF rfl en_33 rfl (fun w hw=>c_Num _ w) ?_)
  refine aGP 32 rfl (KD (v:=.bool true) rfl rfl (br_t (KAC (b:=2101)) (by first|rfl|assumption|omega|(simp; done)))) ?_
  refine aP 33 rfl (Kh rfl rfl) ?_
  refine aA 34 ?_
  refine aE ?_
  refine KL ?_
  refine ⟨[_],.cons rfl .nil,fun a w' hr=>⟨?_,hr.fr.below⟩⟩
  rfl
end Go.Proofs.Ytlmiolnccgjjjaa
set_option linter.unusedVariables false
set_option linter.unusedSimpArgs false
set_option maxRecDepth 20000
namespace Go.Proofs.Ytlmiolnccgjjjaa
open Go Go.RowKit
open Grp
theorem p_pow {V:Cv} {X:Nat} (h:X<V.p):X<256^nby V.p:=by
  have h1:=lt_blen V.p
  have h2:2^blen V.p≤2^(8*nby V.p):=Nat.pow_le_pow_right (by decide) (by unfold nby; omega)
  rw [Nat.pow_mul] at h2
  exact Nat.lt_trans h (Nat.lt_of_lt_of_le h1 h2)
theorem pfx_l (x:Nat):(pfx x).data.toList = [UInt8.ofNat x]:=rfl
theorem coB_l (V:Cv) (X:Nat):(coB V X).data.toList = beBytes (nby V.p) X:=by unfold coB strOf; rfl
theorem putS_s (V:Cv) (X Y:Nat):(putS V X Y true).data.toList = UInt8.ofNat (2+Y%2) :: beBytes (nby V.p) X:=by
  unfold putS; rw [if_pos rfl,ByteArray.toList_data_append,pfx_l,coB_l]; rfl
theorem putS_l (V:Cv) (X Y:Nat):(putS V X Y false).data.toList = 4 :: (beBytes (nby V.p) X++beBytes (nby V.p) Y):=by
  unfold putS; rw [if_neg (by decide),ByteArray.toList_data_append,ByteArray.toList_data_append,pfx_l,coB_l,coB_l]; rfl
theorem on_rt {V:Cv} {X Y:Nat} (h:onB V.p V.a V.b X Y false = true):Y*Y%V.p = rightN V.p V.a V.b X:=by
  unfold onB at h
  rw [if_neg (by decide)] at h
  simp only [Bool.and_eq_true,decide_eq_true_eq] at h
  exact h.2.2
theorem on_mk {V:Cv} {X Y:Nat} (hX:X<V.p) (hY:Y<V.p) (h:Y*Y%V.p = rightN V.p V.a V.b X):onB V.p V.a V.b X Y false = true:=by
  unfold onB
  rw [if_neg (by decide),decide_eq_true hX,decide_eq_true hY,decide_eq_true h]; rfl
theorem even_of {V:Cv} (hok:V.Ok) {X Y:Nat} (h:onB V.p V.a V.b X Y false = true):sqN V.p (rightN V.p V.a V.b X) = some (if Y%2 = 1 then V.p-Y else Y):=by
  obtain ⟨hX,hY⟩:=on_lt h
  have h1:=sqN_eq hok.fld (p_odd hok) (⟨Y,hY⟩:Fin V.p)
  rw [Fin.val_mul] at h1
  rw [← on_rt h]
  show sqN V.p (Y*Y%V.p) = _
  refine Eq.trans h1 (congrArg some ?_)
  unfold evenR
  by_cases h2:Y%2 = 1
  · rw [if_pos h2,if_pos h2,fin_neg_val _ (by show Y≠0; omega)]
  · rw [if_neg h2,if_neg h2]
theorem lift_put {V:Cv} (hok:V.Ok) {X Y:Nat} (h:onB V.p V.a V.b X Y false = true):liftT V X (Y%2) = (X,Y,true):=by
  have h1:=even_of hok h
  obtain ⟨hX,hY⟩:=on_lt h
  rcases Nat.mod_two_eq_zero_or_one Y with h2|h2
  · rw [if_neg (by omega)] at h1
    rw [h2]; exact lift_even hX h1
  · rw [if_pos h2] at h1
    rw [h2,lift_odd hX h1 (by omega),show V.p-(V.p-Y) = Y by omega]
theorem u8_toNat {n:Nat} (h:n<256):(UInt8.ofNat n).toNat = n:=by
  rw [UInt8.toNat_ofNat']; exact Nat.mod_eq_of_lt h
theorem getT_short {V:Cv} {s:ByteArray} {b:UInt8} {l:List UInt8} {o X Y:Nat} {ok:Bool} (hs:s.data.toList = b :: l) (hl:l.length = nby V.p) (hb:b.toNat = 2+o) (ho:o≤1) (hL:liftT V (beVal l) o = (X,Y,ok)):getT V s = if ok then (X,Y,0) else (0,0,2101):=by
  have h1:s.size = 1+nby V.p:=by rw [size_l,hs,List.length_cons,hl,Nat.add_comm]
  have h2:b0 s = 2+o:=by unfold b0; rw [hs]; exact hb
  have h3:getX V s = beVal l:=by
    rw [getX_l,hs,Nat.add_comm,List.take_succ_cons,List.drop_succ_cons,List.drop_zero,← hl,List.take_length]
  rw [← h3] at hL
  cases ok
  · exact get_shortF h1 h2 ho hL
  · exact get_short h1 h2 ho hL
theorem getT_long {V:Cv} {s:ByteArray} {l m:List UInt8} {ok:Bool} (hk:1≤nby V.p) (hs:s.data.toList = 4 :: (l++m)) (hl:l.length = nby V.p) (hm:m.length = nby V.p) (hL:onB V.p V.a V.b (beVal l) (beVal m) false = ok):getT V s = if ok then (beVal l,beVal m,0) else (0,0,2101):=by
  have h1:s.size = 1+2*nby V.p:=by rw [size_l,hs,List.length_cons,List.length_append,hl,hm]; omega
  have h2:b0 s = 4:=by unfold b0; rw [hs]; rfl
  have h3:getX V s = beVal l:=by
    rw [getX_l,hs,Nat.add_comm,List.take_succ_cons,List.drop_succ_cons,List.drop_zero,List.take_left' hl]
  have h4:getY V s = beVal m:=by
    rw [getY_l,hs,Nat.add_comm,List.drop_succ_cons,List.drop_left' hl]
  have e:getT V s = if onB V.p V.a V.b (getX V s) (getY V s) false = true then (getX V s,getY V s,0) else (0,0,2101):=by
    unfold getT
    rw [if_neg (by omega),if_pos ⟨h1,h2⟩]
  rw [e,h3,h4,hL]
theorem get_put {V:Cv} (hok:V.Ok) {X Y:Nat} (sh:Bool) (h:onB V.p V.a V.b X Y false = true):getT V (putS V X Y sh) = (X,Y,0):=by
  obtain ⟨hX,hY⟩:=on_lt h
  have eX:beVal (beBytes (nby V.p) X) = X:=by rw [beVal_bytes,Nat.mod_eq_of_lt (p_pow hX)]
  have eY:beVal (beBytes (nby V.p) Y) = Y:=by rw [beVal_bytes,Nat.mod_eq_of_lt (p_pow hY)]
  cases sh with
  | true =>
    refine (getT_short (o:=Y%2) (ok:=true) (X:=X) (Y:=Y) (putS_s V X Y) (KAJ _ _) (u8_toNat (by omega)) (by omega) ?_).trans rfl
    rw [eX]; exact lift_put hok h
  | false =>
    refine (getT_long (ok:=true) (nby_posV hok) (putS_l V X Y) (KAJ _ _) (KAJ _ _) ?_).trans ?_
    · rw [eX,eY]; exact h
    · rw [eX,eY]; rfl
theorem lift_ok {V:Cv} (hok:V.Ok) {X o X' Y':Nat} (ho:o≤1) (h:liftT V X o = (X',Y',true)):X' = X∧onB V.p V.a V.b X Y' false = true∧Y'%2 = o:=by
  have hpo:=p_odd hok
  by_cases hX:X<V.p
  · cases h1:sqN V.p (rightN V.p V.a V.b X) with
    | none=>rw [lift_no hX h1] at h; cases h
    | some r =>
      obtain ⟨r1,r2,r3⟩:=sqN_some h1
      rcases (show o = 0∨o = 1 by omega) with rfl|rfl
      · rw [lift_even hX h1] at h
        cases h
        exact ⟨rfl,on_mk hX r1 r2,r3⟩
      · by_cases h0:r = 0
        · subst h0
          rw [lift_zero hX h1] at h; cases h
        · rw [lift_odd hX h1 h0] at h
          cases h
          refine ⟨rfl,on_mk hX (by omega) ?_,by omega⟩
          have e:=congrArg Fin.val (neg_sq (⟨r,r1⟩:Fin V.p))
          rw [Fin.val_mul,Fin.val_mul,fin_neg_val _ (by show r≠0; exact h0)] at e
          exact Eq.trans e r2
  · rw [lift_far hX] at h; cases h
end Go.Proofs.Ytlmiolnccgjjjaa
set_option linter.unusedVariables false
set_option linter.unusedSimpArgs false
set_option maxRecDepth 20000
namespace Go.Proofs.Ytlmiolnccgjjjaa
open Go Go.RowKit
open Grp
theorem pStr_on {V:Cv} {X Y:Nat} (sh:Bool) (h:onB V.p V.a V.b X Y false = true):pStr V X Y false sh = putS V X Y sh∧pErr V X Y false = 0:=by
  unfold pStr pErr
  rw [if_pos (by rw [h]; rfl),if_pos (by rw [h]; rfl)]
  exact ⟨rfl,rfl⟩
theorem aff_on {V:Cv} {x y:Fin V.p} (h:On V.A V.B (.aff x y)):onB V.p V.a V.b x.val y.val false = true:=onB_on h
theorem putS_size {V:Cv} (hnb:nby V.p≤72) (X Y:Nat) (sh:Bool):(putS V X Y sh).size<9223372036854775808:=by
  rw [size_l]
  cases sh
  · rw [putS_l,List.length_cons,List.length_append,KAJ,KAJ]; omega
  · rw [putS_s,List.length_cons,KAJ]; omega
end Go.Proofs.Ytlmiolnccgjjjaa
set_option linter.unusedVariables false
set_option linter.unusedSimpArgs false
set_option maxRecDepth 20000
namespace Go.Proofs.Ytlmiolnccgjjjaa
open Go Go.RowKit
open Grp
def byF (s:ByteArray) (i:Nat):Nat:=(s.data.toList.getD i 0).toNat
theorem Rel.allocF {C : Ctx} {st : St} {a : Act} {w : World} (h : Rel C st a w) (cs : List Value) (e : TypeId) (fz : Nat × Nat) :
    Rel C ⟨st.T,.blk w.heap.size ⟨true,cs,e,fz⟩ :: st.H⟩ a (w.alloc (.cells cs.toArray e fz)):=by
  refine ⟨h.size,h.defers,h.tm,?_,?_,?_,?_⟩
  · intro x hx
    rcases List.mem_cons.1 hx with rfl|hx
    · exact heap_alloc_new _ _
    · exact holds_alloc (h.hp x hx) _
  · intro x hx hw k hk
    rcases List.mem_cons.1 hx with rfl|hx
    · simp [Item.fp] at hk; subst hk; exact .inl h.fr.size
    · exact h.own x hx hw k hk
  · refine List.pairwise_cons.2 ⟨fun y hy _ k hk hk'=>?_,h.dist⟩
    simp [Item.fp] at hk; subst hk
    exact Nat.lt_irrefl _ (Item.lt (h.hp y hy) _ hk')
  · exact ⟨h.fr.os,h.fr.tape,h.fr.output,by have:=h.fr.size; simp; omega,fun k hk hw=>(Below.heap_alloc _ _ _ (Nat.lt_of_lt_of_le hk h.fr.size)).trans (h.fr.block k hk hw)⟩
section
variable {P:Program} {C:Ctx} {ty:TypeId} {pos:String} {aft:Array Edge} {d:Nat} {K:St→Prop} {x:Operand} {t e sr:TypeId}
theorem LStepW.toBytes {T : List (Nat × Value)} {H : List Item} {s : ByteArray} {g : Option (Nat × Bool)} {u : TypeDesc} (hx : evT T x = some (.string s)) (hs : P.underlying sr = some u) (ht : P.underlying t = some (.slice e)) (he : P.underlying e = some (.int .u8)) (hd : d < C.N)
    (h:∀ b cap rest n,s.size+List.length rest = n→K ⟨(d,.slice (some ⟨b,0,none⟩) s.size cap) :: T,.blk b ⟨true,vec .u8 s.size (byF s)++rest,e,(n,n+1)⟩ :: H⟩):LStepW P C ⟨some d,.convert sr t x,ty,pos,aft,g⟩ ⟨T,H⟩ K:=by
  unfold LStepW
  intro a w hr Qr
  unfold Oper.wp
  have hrun:=Go.Lib.run_convert_string_bytes (P:=P) w sr t e s hs ht he
  have hl:(Go.Lib.bytesCells w e s).toList = vec .u8 s.size (byF s)++List.replicate (grownCap w s.size 0 e-s.size) (Value.int .u8 0):=by
    unfold Go.Lib.bytesCells vec byF
    rw [Array.toList_append,Array.toList_replicate]
    congr 1
    rw [Array.toList_map]
    apply List.ext_getElem
    · simp
    · intro i h1 h2
      simp at h1
      simp [List.getD,h1]
  have hw:Go.Lib.bytesWorld w e s = w.drew.alloc (.cells (Go.Lib.bytesCells w e s) e ((Go.Lib.bytesCells w e s).size,(Go.Lib.bytesCells w e s).size+1)):=by
    have hm:∀ (a:Array Obj) (x:Obj) (f:Obj→Obj),(a.push x).modify a.size f = a.push (f x):=by
      intro a x f
      apply Array.ext
      · simp
      · intro i h1 h2
        simp only [Array.getElem_modify,Array.getElem_push]
        by_cases h:a.size = i
        · subst h
          simp
        · have hi:i<a.size:=by simp at h1; omega
          simp [h,hi]
    unfold Go.Lib.bytesWorld World.freeze
    rw [if_neg (by decide)]
    show ({ w.drew.alloc (.cells (Go.Lib.bytesCells w e s) e) with heap:=(w.heap.push (.cells (Go.Lib.bytesCells w e s) e)).modify w.heap.size _ }:World) = _
    rw [hm]
    rfl
  have hex:(execOp a.eval ⟨some d,.convert sr t x,ty,pos,aft,g⟩).run P w = .ok (.value (.slice (some ⟨w.heap.size,0,none⟩) s.size (grownCap w s.size 0 e))) (Go.Lib.bytesWorld w e s):=by
    simp [execOp,hr.ev hx,hrun]
  rw [hex]
  have hK:=h w.heap.size (grownCap w s.size 0 e) (List.replicate (grownCap w s.size 0 e-s.size) (Value.int .u8 0)) (Go.Lib.bytesCells w e s).size (by
    rw [← Array.length_toList,hl,List.length_append,KJ])
  refine ⟨_,hK,?_⟩
  have hal:=hr.drew.allocF (vec .u8 s.size (byF s)++List.replicate (grownCap w s.size 0 e-s.size) (Value.int .u8 0)) e ((Go.Lib.bytesCells w e s).size,(Go.Lib.bytesCells w e s).size+1)
  have e1:(vec .u8 s.size (byF s)++List.replicate (grownCap w s.size 0 e-s.size) (Value.int .u8 0)).toArray = Go.Lib.bytesCells w e s:=by
    apply Array.ext'
    exact hl.symm
  rw [e1] at hal
  rw [hw]
  exact hal.put hd _
end
end Go.Proofs.Ytlmiolnccgjjjaa
set_option linter.unusedVariables false
set_option linter.unusedSimpArgs false
set_option maxRecDepth 20000
namespace Go.Proofs.Ytlmiolnccgjjjaa
open Go Go.RowKit
open Grp
def turnF (s:ByteArray) (v:Nat) (j:Nat):Nat:=if j = 0 then v else byF s j
def turnS (s:ByteArray) (v:Nat):ByteArray:=strOf ((List.range s.size).map fun i=>UInt8.ofNat (turnF s v i))
theorem turn_l {s:ByteArray} {b:UInt8} {l:List UInt8} (h:s.data.toList = b :: l) (v:Nat):(turnS s v).data.toList = UInt8.ofNat v :: l:=by
  have hs:s.size = l.length+1:=by rw [size_l,h]; rfl
  have e:(turnS s v).data.toList = (List.range s.size).map fun i=>UInt8.ofNat (turnF s v i):=by unfold turnS strOf; rfl
  rw [e,hs,List.range_succ_eq_map,List.map_cons,List.map_map]
  refine congr (congrArg List.cons rfl) ?_
  apply List.ext_getElem
  · simp
  · intro i h1 h2
    simp [turnF,byF,h,List.getD,h2]
theorem turn_size (s:ByteArray) (v:Nat):(turnS s v).size = s.size:=by
  rw [size_l]; unfold turnS strOf; simp
theorem vec_setR (n:Nat) (s:ByteArray) (v:Nat) (rest:List Value) (h:0<n):(vec .u8 n (byF s)++rest).set 0 (.int .u8 ((v:Nat):Int)) = vec .u8 n (turnF s v)++rest:=by
  rw [List.set_append_left _ _ (by rw [KJ]; exact h),KAG]; rfl
theorem vec_takeR (n:Nat) (f:Nat→Nat) (rest:List Value):((vec .u8 n f++rest).drop 0).take n = vec .u8 n f:=by
  rw [List.drop_zero,List.take_left' (KJ _ _ _)]
theorem byF_0 {s:ByteArray} {b:UInt8} {l:List UInt8} (h:s.data.toList = b :: l):byF s 0 = b.toNat:=by unfold byF; rw [h]; rfl
theorem turn_get {V:Cv} (hok:V.Ok) {X Y:Nat} (h:onB V.p V.a V.b X Y false = true) (hY:Y≠0):getT V (turnS (putS V X Y true) (5-(2+Y%2))) = (X,V.p-Y,0):=by
  obtain ⟨hX,hY2⟩:=on_lt h
  have hpo:=p_odd hok
  have hon:onB V.p V.a V.b X (V.p-Y) false = true:=by
    refine on_mk hX (by omega) ?_
    have e:=congrArg Fin.val (neg_sq (⟨Y,hY2⟩:Fin V.p))
    rw [Fin.val_mul,Fin.val_mul,fin_neg_val _ (by show Y≠0; exact hY)] at e
    exact Eq.trans e (on_rt h)
  refine (getT_short (o:=(V.p-Y)%2) (ok:=true) (X:=X) (Y:=V.p-Y) (turn_l (putS_s V X Y) _) (KAJ _ _) ?_ (by omega) ?_).trans rfl
  · rw [u8_toNat (by omega)]; omega
  · rw [beVal_bytes,Nat.mod_eq_of_lt (p_pow hX)]; exact lift_put hok hon
theorem both_l (V:Cv) (X Y:Nat):((putS V X Y false).extract 1 (putS V X Y true).size).data.toList = ((putS V X Y true).extract 1 (putS V X Y true).size).data.toList:=by
  rw [ext_data,ext_data,size_l (putS V X Y true),putS_l,putS_s,List.length_cons,KAJ,List.take_succ_cons,List.take_succ_cons,List.drop_succ_cons,List.drop_succ_cons,List.drop_zero,List.drop_zero,List.take_left' (KAJ _ _)]
  have e:(beBytes (nby V.p) X).take (nby V.p) = beBytes (nby V.p) X:=by
    rw [List.take_of_length_le (by rw [KAJ]; exact Nat.le_refl _)]
  exact e.symm
theorem neg_pt {V:Cv} {x y:Fin V.p} (h:y.val≠0):ptP (Pt.neg (.aff x y):Pt V.p) = ptV x.val (V.p-y.val) false:=by
  show ptV x.val (-y).val false = _
  have e:-y = 0-y:=by grind -lia
  rw [e,fin_neg_val y h]
theorem putS_size_s (V:Cv) (X Y:Nat):(putS V X Y true).size = 1+nby V.p:=by rw [size_l,putS_s,List.length_cons,KAJ,Nat.add_comm]
theorem putS_size_l (V:Cv) (X Y:Nat):(putS V X Y false).size = 1+2*nby V.p:=by rw [size_l,putS_l,List.length_cons,List.length_append,KAJ,KAJ]; omega
theorem eq_pt_neg {V:Cv} (hok:V.Ok) {x y:Fin V.p} (h:y.val≠0):EqD 4 Try.prog 35 (ptV x.val (V.p-y.val) false) (ptP (Pt.neg (.aff x y):Pt V.p)) true:=by
  have:=KAX hok.bounds.2.1
  rw [neg_pt h]; exact eq_pt_t (Nat.lt_trans x.isLt this) (by omega)
theorem cut_get {V:Cv} (hok:V.Ok) (X Y m:Nat) (h:m<1+2*nby V.p):getT V ((putS V X Y false).extract 0 m) = (0,0,2102):=by
  have hs:=putS_size_l V X Y
  have h1:((putS V X Y false).extract 0 m).size = m:=by rw [ext_size _ _ _ (by omega)]; rfl
  have hk:=nby_posV hok
  refine get_form (fun e=>?_) (fun e=>by omega)
  have h2:b0 ((putS V X Y false).extract 0 m) = 4:=by
    unfold b0
    rw [ext_data,putS_l]
    obtain ⟨j,hj⟩:∃ j,m = j+1:=⟨m-1,by omega⟩
    rw [hj,List.take_succ_cons]; rfl
  omega
def moreS (V:Cv) (X Y:Nat):ByteArray:=putS V X Y false++(⟨#[120]⟩:ByteArray)
theorem more_size (V:Cv) (X Y:Nat):(moreS V X Y).size = 2+2*nby V.p:=by
  unfold moreS
  rw [ByteArray.size_append,putS_size_l]
  show 1+2*nby V.p+1 = _
  omega
theorem more_get {V:Cv} (hok:V.Ok) (X Y:Nat):getT V (moreS V X Y) = (0,0,2102):=by
  have hk:=nby_posV hok
  have h1:=more_size V X Y
  exact get_form (fun e=>by omega) (fun e=>by omega)
theorem other_get {V:Cv} (hok:V.Ok) (X Y v:Nat) (hv:v<256) (h:v≠4):getT V (turnS (putS V X Y false) v) = (0,0,2102):=by
  have hs:=putS_size_l V X Y
  have hk:=nby_posV hok
  have h1:=turn_size (putS V X Y false) v
  have h2:b0 (turnS (putS V X Y false) v) = v:=by
    unfold b0
    rw [turn_l (putS_l V X Y)]
    exact u8_toNat hv
  exact get_form (fun e=>by omega) (fun e=>by omega)
theorem same_get {V:Cv} (hok:V.Ok) {X Y:Nat} (h:onB V.p V.a V.b X Y false = true):getT V (turnS (putS V X Y false) 4) = (X,Y,0):=by
  rw [← get_put hok false h,getT_l,getT_l,turn_l (putS_l V X Y),putS_l]; rfl
theorem c_Sec1Both (id:Int) (k:Nat) (w:World) (hk:k<18446744073709551616):Calls Try.prog 8 ([.int .i64 id,.int .u64 ((k:Nat):Int)]:List Value).toArray w (fun e w'=>e = .returned (.bool true)∧Below w.heap.size w w'):=by
  obtain ⟨V,h⟩:=cvI_idx id
  obtain ⟨hok,hid⟩:=cvI_ok h
  have h2:=cvI_id h
  obtain ⟨hb5,hb521,hba,hbb,hbx,hby,hbn,hbo,hbo2,hbb1,hbn1⟩:=hok.bounds
  have hsz:=hok.sz
  have hsp:=hsz.p
  have hsa:=hsz.a
  have hsb:=hsz.b
  have hp0:V.p≠0:=by omega
  have hpp:0<V.p:=by omega
  have hm17:∀ k,D.nw (k%V.p)≤17:=fun k=>Nat.le_trans (D.nw_mono (Nat.le_of_lt (Nat.mod_lt k hpp))) hsp
  have hpW:V.p<W9:=KAX hb521
  have hnW:V.n<W9:=KAX hbn
  have hxW:=Nat.lt_trans hbx hpW
  have hyW:=Nat.lt_trans hby hpW
  have hsn:=hsz.n
  have h17:∀ {A:Nat},A<V.p→D.nw A≤100000:=fun h=>Nat.le_trans (nw_521 (Nat.lt_trans h hb521)) (by decide)
  have hnp:=nbp_72 hok
  obtain ⟨P,hPe⟩:∃ P,pmul V.A V.G k = P:=⟨_,rfl⟩
  have hP:On V.A V.B P:=hPe ▸ hok.mul hok.on k
  have hdk:=nw_w9_dig (u64_w9 hk)
  refine Kl (N:=157) (rs:=[.tmp 4]) [] Try.func8 rfl Try.ntmps8 Try.results8 (Nb rfl) trivial rfl ?_
  show LCode _ _ _ ⟨_,_⟩ _
  refine KB (KA ?_)
  refine oA ?_
  refine KC ?_
  refine KB ?_
  refine KB (KA ?_)
  refine oS (cF rfl en_42 rfl (fun w hw=>c_awake21 w) ?_)
  refine oP (KH (Det.not rfl) (show _ = Value.bool false from rfl)) ?_
  refine KC ?_
  refine KQ rfl ?_
  refine KM ?_
  refine KB (KA ?_)
  refine oM ?_
  refine oP (KH (Det.conv Try.underlying3 Try.underlying29 rfl) (uidx_eq _)) ?_
  refine oP (KD rfl rfl (br_rem64 (b:=15) (by omega))) ?_
  refine oP (KAV Try.underlying29 Try.underlying3 rfl (by omega)) ?_
  refine oP (KD rfl rfl (Kq (a:=1) (by omega))) ?_
  refine oS (KAU (Post:=fun v its=>∃ Q,v = .tuple #[.agg (crvL Q V).toArray,.bool true]∧its = [crvI Q V]) (first:=[]) rfl en_29 rfl (Nb rfl) (fun w1 hw hs=>(c_r_Get _ V w1 h).mono fun e w' ⟨Q,h1,h2,h3,h4⟩=>⟨_,_,⟨Q,rfl,rfl⟩,h1,KAY h4 (by intro x hx; simp at hx; subst hx; exact h2) (by intro x hx; simp at hx; subst hx; rfl) (by intro x hx k hk; simp at hx; subst hx; exact .inl (h3 k hk))⟩) ?_)
  rintro _ _ ⟨Q,rfl,rfl⟩
  refine oM ?_
  refine oP (Det.extract rfl rfl) ?_
  refine oP (Det.extract rfl rfl) ?_
  refine oS (mk (KV zr_26) (fun b5=>?_))
  refine KT rfl (sA rfl rfl sz_26 (by repeat (first|exact KU|refine KR rfl ?_)) (hl:=by rfl) (h:=?_))
  refine oA ?_
  refine KC ?_
  refine KB ?_
  refine rD [9] ?_
  refine aD 0 rfl (dL rfl (hv:=by exact KG Try.underlying26 rfl sz_26)) ?_
  refine aM 1 ?_
  refine aD 4 rfl (dL rfl (hv:=by exact KG Try.underlying26 rfl sz_26)) ?_
  refine LAny.toP ?_
  refine KAQ 8 rfl (.inl zr_35) (Nb rfl) rfl rfl rfl ?_
  refine Ks 2 rfl rfl rfl (Nb rfl) (by kernel_rfl) rfl (KAE (first:=[]) rfl en_47 rfl (fun w hw=>c_One k w hk)) ?_
  rintro _ _ ⟨rfl,rfl⟩
  refine Ks 3 rfl rfl rfl (Nb rfl) (by kernel_rfl) rfl (LExt.callZ (first:=[]) rfl en_46 rfl (fun w hw hs=>(c_n_From (k) (u64_w9 hk) w).mono fun e w' h=>KAb (Old.nil _) hs h)) ?_
  rintro _ _ ⟨qk,rfl,rfl,hnk⟩
  refine Ks 5 rfl rfl rfl (Nb rfl) (by kernel_rfl) rfl (LExt.callZ (first:=[]) rfl en_31 rfl (fun w hw hs=>(c_r_GP Q V w (mC hw) hok).mono fun e w' h=>Num2R.q (Old.one (x:=crvI Q V) (by repeat (first|exact Mh _|apply Mt)) rfl) hs h)) ?_
  rintro _ _ ⟨qga,qgb,rfl,rfl,hnga,hngb⟩
  refine Ks 6 rfl rfl rfl (Nb rfl) (by kernel_rfl) rfl (LExt.callZ (first:=[]) rfl en_38 rfl (fun w hw hs=>(c_r_Times Q V qk (k) qga qgb (V.G) (P) w (mC hw) hok (mC hw) (by omega) (mC hw) (mC hw) (hok.on) (hPe)).mono fun e w' h=>Num2R.q (Old.pt (by repeat (first|exact Mh _|apply Mt)) (by repeat (first|exact Mh _|apply Mt)) (Old.nil _)) hs h)) ?_
  rintro _ _ ⟨qta,qtb,rfl,rfl,hnta,hntb⟩
  refine Ks 7 rfl rfl rfl (Nb rfl) (by kernel_rfl) rfl (KAE (first:=[]) rfl en_30 rfl (fun w hw=>c_r_OutP V qta qtb (P) w (mC hw) (mC hw))) ?_
  rintro _ _ ⟨rfl,rfl⟩
  refine pE (fun b7=>?_)
  refine KAc ?_
  refine aL 9 rfl (sA rfl rfl sz_35 (by exact Kd _ _ _) (hl:=by exact KO _ _ _) (h:=?_))
  refine aE ?_
  refine KB ?_
  refine KB ?_
  rcases P with _|⟨x,y⟩
  ·
    refine KA ?_
    refine oM ?_
    refine oP (KH (Det.not rfl) (show _ = Value.bool false from rfl)) ?_
    refine oM ?_
    refine oGP (KF (o':=18) Try.underlying35 rfl rfl rfl sz_4 (by decide)) ?_
    refine KAH rfl rfl (dL rfl (hv:=KK Try.underlying4 rfl (by exact pt_gt _ _ _))) (Nb rfl) ?_
    refine oP (Kb rfl rfl) ?_
    refine KC ?_
    refine Kf rfl ?_
    refine KB (KA ?_)
    refine oM ?_
    refine oA ?_
    refine KC (KL ?_)
    refine ⟨[_],.cons rfl .nil,fun a w' hr=>⟨?_,hr.fr.below⟩⟩
    rfl
  ·
    have hon:=aff_on hP
    obtain ⟨hxp,hyp⟩:=on_lt hon
    have hx9:=Nat.lt_trans hxp hpW
    have hy9:=Nat.lt_trans hyp hpW
    obtain ⟨e1,e2⟩:=pStr_on false hon
    obtain ⟨e3,e4⟩:=pStr_on true hon
    have hy0:=y_pos hok hP
    have hsa:=putS_size_l V x.val y.val
    have hsb:=putS_size_s V x.val y.val
    have hft:byF (putS V x.val y.val true) 0 = 2+y.val%2:=by rw [byF_0 (putS_s V x.val y.val),u8_toNat (by omega)]
    refine KA ?_
    refine oM ?_
    refine oP (KH (Det.not rfl) (show _ = Value.bool false from rfl)) ?_
    refine oM ?_
    refine oGP (KF (o':=18) Try.underlying35 rfl rfl rfl sz_4 (by decide)) ?_
    refine KAH rfl rfl (dL rfl (hv:=KK Try.underlying4 rfl (by exact pt_gt _ _ _))) (Nb rfl) ?_
    refine oP (Kb rfl rfl) ?_
    refine KC ?_
    refine KQ rfl ?_
    refine KM ?_
    refine KB (KA ?_)
    refine oP (KF (o':=0) Try.underlying26 rfl rfl rfl sz_3 (by decide)) ?_
    refine oD (dL rfl (hv:=KK Try.underlying3 rfl (by first|rfl|exact Ka _ _ _ (by omega)|exact KZ _ (by omega)|exact KY _ (by omega)|exact dv_m _ _ _ (by omega)))) ?_
    refine oD (dL rfl (hv:=by exact KG Try.underlying35 rfl sz_35)) ?_
    refine oS (cF rfl en_40 rfl (fun w hw=>c_s_PutE (putS V x.val y.val false) 0 V.id V x.val y.val false false w h2 hx9 hy9 e1 e2) ?_)
    refine oM ?_
    refine oP (Det.extract rfl rfl) ?_
    refine oP (Det.extract rfl rfl) ?_
    refine oA ?_
    refine oA ?_
    refine KC ?_
    refine KB (KA ?_)
    refine oP (KF (o':=0) Try.underlying26 rfl rfl rfl sz_3 (by decide)) ?_
    refine oD (dL rfl (hv:=KK Try.underlying3 rfl (by first|rfl|exact Ka _ _ _ (by omega)|exact KZ _ (by omega)|exact KY _ (by omega)|exact dv_m _ _ _ (by omega)))) ?_
    refine oD (dL rfl (hv:=by exact KG Try.underlying35 rfl sz_35)) ?_
    refine oS (cF rfl en_40 rfl (fun w hw=>c_s_PutE (putS V x.val y.val true) 0 V.id V x.val y.val false true w h2 hx9 hy9 e3 e4) ?_)
    refine oM ?_
    refine oP (Det.extract rfl rfl) ?_
    refine oP (Det.extract rfl rfl) ?_
    refine oA ?_
    refine oA ?_
    refine KC ?_
    refine KB ?_
    refine KB ?_
    refine rD [] ?_
    refine aM 0 ?_
    refine aO 1 rfl (cF rfl en_33 rfl (fun w hw=>c_Num _ w) ?_)
    refine aP 2 rfl (KD (v:=.bool false) rfl rfl (br_f (br_neq (b:=0)) (by decide))) ?_
    refine aM 3 ?_
    refine aGM 4 ?_
    refine aGO 5 rfl (cF rfl en_33 rfl (fun w hw=>c_Num _ w) ?_)
    refine aGP 6 rfl (KD (v:=.bool false) rfl rfl (br_f (br_neq (b:=0)) (by decide))) ?_
    refine aP 7 rfl (Kb rfl rfl) ?_
    refine aM 8 ?_
    refine aGM 9 ?_
    refine aGP 10 rfl (Det.lens Try.underlying9 rfl) ?_
    refine aGD 11 rfl (dL rfl (hv:=by exact KG Try.underlying26 rfl sz_26)) ?_
    refine aGO 12 rfl (cF rfl en_48 rfl (fun w hw=>c_r_Size Q V w (mC hw) hsz) ?_)
    refine aGP 13 rfl (KD rfl rfl (br_mul (a:=2) (by omega))) ?_
    refine aGP 14 rfl (KD rfl rfl (Kq (a:=1) (by omega))) ?_
    refine aGP 15 rfl (KD (v:=.bool false) rfl rfl (br_f br_neq (by omega))) ?_
    refine aP 16 rfl (Kb rfl rfl) ?_
    refine aM 17 ?_
    refine aGM 18 ?_
    refine aGP 19 rfl (Det.lens Try.underlying9 rfl) ?_
    refine aGD 20 rfl (dL rfl (hv:=by exact KG Try.underlying26 rfl sz_26)) ?_
    refine aGO 21 rfl (cF rfl en_48 rfl (fun w hw=>c_r_Size Q V w (mC hw) hsz) ?_)
    refine aGP 22 rfl (KD rfl rfl (Kq (a:=1) (by omega))) ?_
    refine aGP 23 rfl (KD (v:=.bool false) rfl rfl (br_f br_neq (by omega))) ?_
    refine aP 24 rfl (Kb rfl rfl) ?_
    refine aM 25 ?_
    refine aGM 26 ?_
    refine aGM 27 ?_
    refine aGP 28 rfl (Det.lens Try.underlying9 rfl) ?_
    refine aGP 29 rfl (KH (Det.slStrLH Try.underlying9 rfl rfl rfl (by omega) (by omega) (by omega)) (show _ = Value.string ((putS V x.val y.val false).extract 1 (putS V x.val y.val true).size) from by rw [Int.toNat_natCast]; rfl)) ?_
    refine aGM 30 ?_
    refine aGP 31 rfl (KH (Det.slStrL Try.underlying9 rfl rfl (by omega) (by omega)) (show _ = Value.string ((putS V x.val y.val true).extract 1 (putS V x.val y.val true).size) from rfl)) ?_
    refine aGP 32 rfl (KH (Det.nes rfl rfl) (congrArg Value.bool (by rw [eq_str_t (both_l V x.val y.val)]))) ?_
    refine aP 33 rfl (Kb rfl rfl) ?_
    refine aE ?_
    refine KQ rfl ?_
    refine KM ?_
    refine KB (KA ?_)
    refine oP (KF (o':=0) Try.underlying26 rfl rfl rfl sz_3 (by decide)) ?_
    refine oD (dL rfl (hv:=KK Try.underlying3 rfl (by first|rfl|exact Ka _ _ _ (by omega)|exact KZ _ (by omega)|exact KY _ (by omega)|exact dv_m _ _ _ (by omega)))) ?_
    refine oM ?_
    refine oS (cF rfl en_41 rfl (fun w hw=>c_s_GetE x.val y.val 0 V.id V (putS V x.val y.val false) w h2 (putS_size hnp _ _ _) (get_put hok false hon)) ?_)
    refine oM ?_
    refine oP (Det.extract rfl rfl) ?_
    refine oP (Det.extract rfl rfl) ?_
    refine oS (mk (KV zr_35) (fun b12=>?_))
    refine KT rfl (sA rfl rfl sz_35 (by exact Kd _ _ _) (hl:=by exact KO _ _ _) (h:=?_))
    refine oA ?_
    refine KC ?_
    refine KB (KA ?_)
    refine oP (KF (o':=0) Try.underlying26 rfl rfl rfl sz_3 (by decide)) ?_
    refine oD (dL rfl (hv:=KK Try.underlying3 rfl (by first|rfl|exact Ka _ _ _ (by omega)|exact KZ _ (by omega)|exact KY _ (by omega)|exact dv_m _ _ _ (by omega)))) ?_
    refine oM ?_
    refine oS (cF rfl en_41 rfl (fun w hw=>c_s_GetE x.val y.val 0 V.id V (putS V x.val y.val true) w h2 (putS_size hnp _ _ _) (get_put hok true hon)) ?_)
    refine oM ?_
    refine oP (Det.extract rfl rfl) ?_
    refine oP (Det.extract rfl rfl) ?_
    refine oS (mk (KV zr_35) (fun b14=>?_))
    refine KT rfl (sA rfl rfl sz_35 (by exact Kd _ _ _) (hl:=by exact KO _ _ _) (h:=?_))
    refine oA ?_
    refine KC ?_
    refine KB (KA ?_)
    refine oM ?_
    refine KT rfl (LStepW.toBytes (s:=putS V x.val y.val true) rfl Try.underlying9 Try.underlying66 Try.underlying5 (Nb rfl) ?_)
    intro tb tcap trest tn htn
    refine oA ?_
    refine KC ?_
    refine KB ?_
    have hgt:=turn_get hok hon hy0
    have hst:=turn_size (putS V x.val y.val true) (5-(2+y.val%2))
    refine KA ?_
    refine oM ?_
    refine oM ?_
    refine oP (Ki (i:=0) Try.underlying66 sz_5 rfl rfl (by omega)) ?_
    refine oD (Det.load (v:=.int .u8 ((2+y.val%2:Nat):Int)) rfl (by repeat (first|exact Mh _|apply Mt)) (by rw [← hft]; exact KK Try.underlying5 rfl (by rw [List.getElem?_append_left (by rw [KJ]; omega)]; exact Ka _ _ _ (by omega)))) ?_
    refine oP (KD (v:=.int .u8 ((5-(2+y.val%2):Nat):Int)) rfl rfl (br_sub8 (a:=5) (b:=2+y.val%2) (by omega) (by decide))) ?_
    refine oP (Ki (i:=0) Try.underlying66 sz_5 rfl rfl (by omega)) ?_
    refine KT rfl (Kg rfl rfl rfl sz_5 (by repeat (first|exact Sh _|apply St_)) (by rw [List.length_append,KJ]; omega) (vec_setR _ _ _ _ (by omega)) (by simp; omega) ?_)
    refine KC ?_
    refine KB (KA ?_)
    refine oP (KF (o':=0) Try.underlying26 rfl rfl rfl sz_3 (by decide)) ?_
    refine oD (dL rfl (hv:=KK Try.underlying3 rfl (by first|rfl|exact Ka _ _ _ (by omega)|exact KZ _ (by omega)|exact KY _ (by omega)|exact dv_m _ _ _ (by omega)))) ?_
    refine oM ?_
    refine oD (Det.bytesStr (f:=turnF (putS V x.val y.val true) (5-(2+y.val%2))) Try.underlying66 Try.underlying5 Try.underlying9 rfl (by repeat (first|exact Mh _|apply Mt)) (vec_takeR _ _ _)) ?_
    refine oS (cF rfl en_41 rfl (fun w hw=>c_s_GetE x.val (V.p-y.val) 0 V.id V (turnS (putS V x.val y.val true) (5-(2+y.val%2))) w h2 (by omega) hgt) ?_)
    refine oM ?_
    refine oP (Det.extract rfl rfl) ?_
    refine oP (Det.extract rfl rfl) ?_
    refine oS (mk (KV zr_35) (fun b17=>?_))
    refine KT rfl (sA rfl rfl sz_35 (by exact Kd _ _ _) (hl:=by exact KO _ _ _) (h:=?_))
    refine oA ?_
    refine KC ?_
    refine KB ?_
    refine rD [6] ?_
    refine aD 0 rfl (dL rfl (hv:=by exact KG Try.underlying26 rfl sz_26)) ?_
    refine aD 1 rfl (dL rfl (hv:=by exact KG Try.underlying35 rfl sz_35)) ?_
    refine LAny.toP ?_
    refine KAQ 5 rfl (.inl zr_35) (Nb rfl) rfl rfl rfl ?_
    refine Ks 2 rfl rfl rfl (Nb rfl) (by kernel_rfl) rfl (LExt.callZ (first:=[]) rfl en_44 rfl (fun w hw hs=>(c_r_InP V hok ((.aff x y:Pt V.p)) w).mono fun e w' h=>Num2R.q (Old.nil _) hs h)) ?_
    rintro _ _ ⟨qpa,qpb,rfl,rfl,hnpa,hnpb⟩
    refine Ks 3 rfl rfl rfl (Nb rfl) (by kernel_rfl) rfl (LExt.callZ (first:=[]) rfl en_49 rfl (fun w hw hs=>(c_r_Neg Q V qpa qpb (.aff x y:Pt V.p) w (mC hw) hok (mC hw) (mC hw) hP).mono fun e w' h=>Num2R.q (Old.pt (by repeat (first|exact Mh _|apply Mt)) (by repeat (first|exact Mh _|apply Mt)) (Old.nil _)) hs h)) ?_
    rintro _ _ ⟨qna,qnb,rfl,rfl,hnna,hnnb⟩
    refine Ks 4 rfl rfl rfl (Nb rfl) (by kernel_rfl) rfl (KAE (first:=[]) rfl en_30 rfl (fun w hw=>c_r_OutP V qna qnb ((.aff x y:Pt V.p).neg) w (mC hw) (mC hw))) ?_
    rintro _ _ ⟨rfl,rfl⟩
    refine pE (fun b19=>?_)
    refine KAc ?_
    refine aL 6 rfl (sA rfl rfl sz_35 (by exact Kd _ _ _) (hl:=by exact KO _ _ _) (h:=?_))
    refine aE ?_
    refine KB (KA ?_)
    refine oM ?_
    refine oS (cF rfl en_33 rfl (fun w hw=>c_Num _ w) ?_)
    refine oP (KD (v:=.bool true) rfl rfl (br_t (KAC (b:=0)) (by first|rfl|assumption|omega|(simp; done)))) ?_
    refine oM ?_
    refine oGM ?_
    refine oGS (cF rfl en_33 rfl (fun w hw=>c_Num _ w) ?_)
    refine oGP (KD (v:=.bool true) rfl rfl (br_t (KAC (b:=0)) (by first|rfl|assumption|omega|(simp; done)))) ?_
    refine oP (Kh rfl rfl) ?_
    refine oM ?_
    refine oGM ?_
    refine oGS (cF rfl en_33 rfl (fun w hw=>c_Num _ w) ?_)
    refine oGP (KD (v:=.bool true) rfl rfl (br_t (KAC (b:=0)) (by first|rfl|assumption|omega|(simp; done)))) ?_
    refine oP (Kh rfl rfl) ?_
    refine oM ?_
    refine KAH rfl rfl (dL rfl (hv:=by exact KG Try.underlying35 rfl sz_35)) (Nb rfl) ?_
    refine KAH rfl rfl (dL rfl (hv:=by exact KG Try.underlying35 rfl sz_35)) (Nb rfl) ?_
    refine oGP (KH (Det.eqa (by kernel_rfl) (fun w=>eq_pt_t hx9 hy9 10000 (by decide) w) rfl rfl) (show _ = Value.bool true by rfl)) ?_
    refine oP (Kh rfl rfl) ?_
    refine oM ?_
    refine KAH rfl rfl (dL rfl (hv:=by exact KG Try.underlying35 rfl sz_35)) (Nb rfl) ?_
    refine KAH rfl rfl (dL rfl (hv:=by exact KG Try.underlying35 rfl sz_35)) (Nb rfl) ?_
    refine oGP (KH (Det.eqa (by kernel_rfl) (fun w=>eq_pt_t hx9 hy9 10000 (by decide) w) rfl rfl) (show _ = Value.bool true by rfl)) ?_
    refine oP (Kh rfl rfl) ?_
    refine oM ?_
    refine KAH rfl rfl (dL rfl (hv:=by exact KG Try.underlying35 rfl sz_35)) (Nb rfl) ?_
    refine KAH rfl rfl (dL rfl (hv:=by exact KG Try.underlying35 rfl sz_35)) (Nb rfl) ?_
    refine oGP (KH (Det.eqa (by kernel_rfl) (fun w=>eq_pt_neg hok hy0 10000 (by decide) w) rfl rfl) (show _ = Value.bool true by rfl)) ?_
    refine oP (Kh rfl rfl) ?_
    refine oA ?_
    refine KC (KL ?_)
    refine ⟨[_],.cons rfl .nil,fun a w' hr=>⟨?_,hr.fr.below⟩⟩
    rfl
theorem c_Sec1Lengths (id:Int) (k:Nat) (cut first:Int) (w:World) (hk:k<18446744073709551616):Calls Try.prog 9 ([.int .i64 id,.int .u64 ((k:Nat):Int),.int .i64 cut,.int .i64 first]:List Value).toArray w (fun e w'=>e = .returned (.bool true)∧Below w.heap.size w w'):=by
  obtain ⟨V,h⟩:=cvI_idx id
  obtain ⟨hok,hid⟩:=cvI_ok h
  have h2:=cvI_id h
  obtain ⟨hb5,hb521,hba,hbb,hbx,hby,hbn,hbo,hbo2,hbb1,hbn1⟩:=hok.bounds
  have hsz:=hok.sz
  have hsp:=hsz.p
  have hsa:=hsz.a
  have hsb:=hsz.b
  have hp0:V.p≠0:=by omega
  have hpp:0<V.p:=by omega
  have hm17:∀ k,D.nw (k%V.p)≤17:=fun k=>Nat.le_trans (D.nw_mono (Nat.le_of_lt (Nat.mod_lt k hpp))) hsp
  have hpW:V.p<W9:=KAX hb521
  have hnW:V.n<W9:=KAX hbn
  have hxW:=Nat.lt_trans hbx hpW
  have hyW:=Nat.lt_trans hby hpW
  have hsn:=hsz.n
  have h17:∀ {A:Nat},A<V.p→D.nw A≤100000:=fun h=>Nat.le_trans (nw_521 (Nat.lt_trans h hb521)) (by decide)
  have hnp:=nbp_72 hok
  obtain ⟨P,hPe⟩:∃ P,pmul V.A V.G k = P:=⟨_,rfl⟩
  have hP:On V.A V.B P:=hPe ▸ hok.mul hok.on k
  have hdk:=nw_w9_dig (u64_w9 hk)
  refine Kl (N:=120) (rs:=[.tmp 8]) [] Try.func9 rfl Try.ntmps9 Try.results9 (Nb rfl) trivial rfl ?_
  show LCode _ _ _ ⟨_,_⟩ _
  refine KB (KA ?_)
  refine oA ?_
  refine KC ?_
  refine KB ?_
  refine KB (KA ?_)
  refine oS (cF rfl en_42 rfl (fun w hw=>c_awake21 w) ?_)
  refine oP (KH (Det.not rfl) (show _ = Value.bool false from rfl)) ?_
  refine KC ?_
  refine KQ rfl ?_
  refine KM ?_
  refine KB (KA ?_)
  refine oM ?_
  refine oP (KH (Det.conv Try.underlying3 Try.underlying29 rfl) (uidx_eq _)) ?_
  refine oP (KD rfl rfl (br_rem64 (b:=15) (by omega))) ?_
  refine oP (KAV Try.underlying29 Try.underlying3 rfl (by omega)) ?_
  refine oP (KD rfl rfl (Kq (a:=1) (by omega))) ?_
  refine oS (KAU (Post:=fun v its=>∃ Q,v = .tuple #[.agg (crvL Q V).toArray,.bool true]∧its = [crvI Q V]) (first:=[]) rfl en_29 rfl (Nb rfl) (fun w1 hw hs=>(c_r_Get _ V w1 h).mono fun e w' ⟨Q,h1,h2,h3,h4⟩=>⟨_,_,⟨Q,rfl,rfl⟩,h1,KAY h4 (by intro x hx; simp at hx; subst hx; exact h2) (by intro x hx; simp at hx; subst hx; rfl) (by intro x hx k hk; simp at hx; subst hx; exact .inl (h3 k hk))⟩) ?_)
  rintro _ _ ⟨Q,rfl,rfl⟩
  refine oM ?_
  refine oP (Det.extract rfl rfl) ?_
  refine oP (Det.extract rfl rfl) ?_
  refine oS (mk (KV zr_26) (fun b9=>?_))
  refine KT rfl (sA rfl rfl sz_26 (by repeat (first|exact KU|refine KR rfl ?_)) (hl:=by rfl) (h:=?_))
  refine oA ?_
  refine KC ?_
  refine KB ?_
  refine rD [9] ?_
  refine aD 0 rfl (dL rfl (hv:=by exact KG Try.underlying26 rfl sz_26)) ?_
  refine aM 1 ?_
  refine aD 4 rfl (dL rfl (hv:=by exact KG Try.underlying26 rfl sz_26)) ?_
  refine LAny.toP ?_
  refine KAQ 8 rfl (.inl zr_35) (Nb rfl) rfl rfl rfl ?_
  refine Ks 2 rfl rfl rfl (Nb rfl) (by kernel_rfl) rfl (KAE (first:=[]) rfl en_47 rfl (fun w hw=>c_One k w hk)) ?_
  rintro _ _ ⟨rfl,rfl⟩
  refine Ks 3 rfl rfl rfl (Nb rfl) (by kernel_rfl) rfl (LExt.callZ (first:=[]) rfl en_46 rfl (fun w hw hs=>(c_n_From (k) (u64_w9 hk) w).mono fun e w' h=>KAb (Old.nil _) hs h)) ?_
  rintro _ _ ⟨qk,rfl,rfl,hnk⟩
  refine Ks 5 rfl rfl rfl (Nb rfl) (by kernel_rfl) rfl (LExt.callZ (first:=[]) rfl en_31 rfl (fun w hw hs=>(c_r_GP Q V w (mC hw) hok).mono fun e w' h=>Num2R.q (Old.one (x:=crvI Q V) (by repeat (first|exact Mh _|apply Mt)) rfl) hs h)) ?_
  rintro _ _ ⟨qga,qgb,rfl,rfl,hnga,hngb⟩
  refine Ks 6 rfl rfl rfl (Nb rfl) (by kernel_rfl) rfl (LExt.callZ (first:=[]) rfl en_38 rfl (fun w hw hs=>(c_r_Times Q V qk (k) qga qgb (V.G) (P) w (mC hw) hok (mC hw) (by omega) (mC hw) (mC hw) (hok.on) (hPe)).mono fun e w' h=>Num2R.q (Old.pt (by repeat (first|exact Mh _|apply Mt)) (by repeat (first|exact Mh _|apply Mt)) (Old.nil _)) hs h)) ?_
  rintro _ _ ⟨qta,qtb,rfl,rfl,hnta,hntb⟩
  refine Ks 7 rfl rfl rfl (Nb rfl) (by kernel_rfl) rfl (KAE (first:=[]) rfl en_30 rfl (fun w hw=>c_r_OutP V qta qtb (P) w (mC hw) (mC hw))) ?_
  rintro _ _ ⟨rfl,rfl⟩
  refine pE (fun b11=>?_)
  refine KAc ?_
  refine aL 9 rfl (sA rfl rfl sz_35 (by exact Kd _ _ _) (hl:=by exact KO _ _ _) (h:=?_))
  refine aE ?_
  refine KB ?_
  refine KB ?_
  rcases P with _|⟨x,y⟩
  ·
    refine KA ?_
    refine oM ?_
    refine oP (KH (Det.not rfl) (show _ = Value.bool false from rfl)) ?_
    refine oM ?_
    refine oGP (KF (o':=18) Try.underlying35 rfl rfl rfl sz_4 (by decide)) ?_
    refine KAH rfl rfl (dL rfl (hv:=KK Try.underlying4 rfl (by exact pt_gt _ _ _))) (Nb rfl) ?_
    refine oP (Kb rfl rfl) ?_
    refine KC ?_
    refine Kf rfl ?_
    refine KB (KA ?_)
    refine oM ?_
    refine oA ?_
    refine KC (KL ?_)
    refine ⟨[_],.cons rfl .nil,fun a w' hr=>⟨?_,hr.fr.below⟩⟩
    rfl
  ·
    have hon:=aff_on hP
    obtain ⟨hxp,hyp⟩:=on_lt hon
    have hx9:=Nat.lt_trans hxp hpW
    have hy9:=Nat.lt_trans hyp hpW
    obtain ⟨e1,e2⟩:=pStr_on false hon
    have hsa:=putS_size_l V x.val y.val
    obtain ⟨m,hm⟩:∃ m,uidx cut%(1+2*nby V.p) = m:=⟨_,rfl⟩
    have hm2:m<1+2*nby V.p:=hm ▸ Nat.mod_lt _ (by omega)
    refine KA ?_
    refine oM ?_
    refine oP (KH (Det.not rfl) (show _ = Value.bool false from rfl)) ?_
    refine oM ?_
    refine oGP (KF (o':=18) Try.underlying35 rfl rfl rfl sz_4 (by decide)) ?_
    refine KAH rfl rfl (dL rfl (hv:=KK Try.underlying4 rfl (by exact pt_gt _ _ _))) (Nb rfl) ?_
    refine oP (Kb rfl rfl) ?_
    refine KC ?_
    refine KQ rfl ?_
    refine KM ?_
    refine KB (KA ?_)
    refine oP (KF (o':=0) Try.underlying26 rfl rfl rfl sz_3 (by decide)) ?_
    refine oD (dL rfl (hv:=KK Try.underlying3 rfl (by first|rfl|exact Ka _ _ _ (by omega)|exact KZ _ (by omega)|exact KY _ (by omega)|exact dv_m _ _ _ (by omega)))) ?_
    refine oD (dL rfl (hv:=by exact KG Try.underlying35 rfl sz_35)) ?_
    refine oS (cF rfl en_40 rfl (fun w hw=>c_s_PutE (putS V x.val y.val false) 0 V.id V x.val y.val false false w h2 hx9 hy9 e1 e2) ?_)
    refine oM ?_
    refine oP (Det.extract rfl rfl) ?_
    refine oP (Det.extract rfl rfl) ?_
    refine oA ?_
    refine oA ?_
    refine KC ?_
    refine KB ?_
    refine KB (KA ?_)
    refine oM ?_
    refine oP (KH (Det.eqs rfl rfl) (congrArg Value.bool (emp_f (by omega)))) ?_
    refine KC ?_
    refine KQ rfl ?_
    refine KM ?_
    refine KB ?_
    refine rD [16] ?_
    refine aP 0 rfl (KF (o':=0) Try.underlying26 rfl rfl rfl sz_3 (by decide)) ?_
    refine aD 1 rfl (dL rfl (hv:=KK Try.underlying3 rfl (by first|rfl|exact Ka _ _ _ (by omega)|exact KZ _ (by omega)|exact KY _ (by omega)|exact dv_m _ _ _ (by omega)))) ?_
    refine aM 2 ?_
    refine aM 3 ?_
    refine aP 4 rfl (KH (Det.conv Try.underlying3 Try.underlying29 rfl) (uidx_eq cut)) ?_
    refine aM 5 ?_
    refine aP 6 rfl (Det.lens Try.underlying9 rfl) ?_
    refine aP 7 rfl (KAB Try.underlying3 Try.underlying29 rfl (by omega)) ?_
    refine aP 8 rfl (KH (KD rfl rfl (br_rem64 (by omega))) (show _ = .int .u64 ((m:Nat):Int) from by rw [hsa,hm])) ?_
    refine aP 9 rfl (KAV Try.underlying29 Try.underlying3 rfl (by omega)) ?_
    refine aP 10 rfl (KH (Det.slStrH Try.underlying9 rfl rfl (by omega) (by omega)) (show _ = Value.string ((putS V x.val y.val false).extract 0 m) from by rw [Int.toNat_natCast])) ?_
    refine LAny.toP ?_
    refine KAQ 15 rfl (.inl zr_35) (Nb rfl) rfl rfl rfl ?_
    refine Ks 11 rfl rfl rfl (Nb rfl) (by kernel_rfl) rfl (KAE (first:=[]) rfl en_41 rfl (fun w hw=>c_s_GetE 0 0 2102 V.id V ((putS V x.val y.val false).extract 0 m) w h2 (by rw [ext_size _ _ _ (by omega)]; omega) (cut_get hok _ _ _ hm2))) ?_
    rintro _ _ ⟨rfl,rfl⟩
    refine pM 12 ?_
    refine pP 13 rfl (Det.extract rfl rfl) ?_
    refine pP 14 rfl (Det.extract rfl rfl) ?_
    refine pE (fun b14=>?_)
    refine KAc ?_
    refine aL 16 rfl (sA rfl rfl sz_35 (by exact Kd _ _ _) (hl:=by exact KO _ _ _) (h:=?_))
    refine aA 17 ?_
    refine aE ?_
    refine KB (KA ?_)
    refine oP (KF (o':=0) Try.underlying26 rfl rfl rfl sz_3 (by decide)) ?_
    refine oD (dL rfl (hv:=KK Try.underlying3 rfl (by first|rfl|exact Ka _ _ _ (by omega)|exact KZ _ (by omega)|exact KY _ (by omega)|exact dv_m _ _ _ (by omega)))) ?_
    refine oM ?_
    refine oP (KH (Det.cat rfl rfl (by rw [hsa]; show 1+2*nby V.p+1≤_; omega)) (show _ = Value.string (moreS V x.val y.val) from rfl)) ?_
    refine oS (cF rfl en_41 rfl (fun w hw=>c_s_GetE 0 0 2102 V.id V (moreS V x.val y.val) w h2 (by rw [more_size]; omega) (more_get hok _ _)) ?_)
    refine oM ?_
    refine oP (Det.extract rfl rfl) ?_
    refine oP (Det.extract rfl rfl) ?_
    refine oS (mk (KV zr_35) (fun b16=>?_))
    refine KT rfl (sA rfl rfl sz_35 (by exact Kd _ _ _) (hl:=by exact KO _ _ _) (h:=?_))
    refine oA ?_
    refine KC ?_
    refine KB (KA ?_)
    refine oM ?_
    refine KT rfl (LStepW.toBytes (s:=putS V x.val y.val false) rfl Try.underlying9 Try.underlying66 Try.underlying5 (Nb rfl) ?_)
    intro tb tcap trest tn htn
    refine oA ?_
    refine KC ?_
    refine KB (KA ?_)
    refine oM ?_
    refine oM ?_
    refine oP (KH (Det.conv Try.underlying3 Try.underlying5 rfl) (u8idx_eq first)) ?_
    refine oP (Ki (i:=0) Try.underlying66 sz_5 rfl rfl (by omega)) ?_
    refine KT rfl (Kg rfl rfl rfl sz_5 (by repeat (first|exact Sh _|apply St_)) (by rw [List.length_append,KJ]; omega) (vec_setR _ _ _ _ (by omega)) (by simp; omega) ?_)
    refine KC ?_
    refine KB ?_
    rcases Classical.em (u8idx first = 4) with hv|hv
    ·
      refine KA ?_
      refine oP (KF (o':=0) Try.underlying26 rfl rfl rfl sz_3 (by decide)) ?_
      refine oD (dL rfl (hv:=KK Try.underlying3 rfl (by first|rfl|exact Ka _ _ _ (by omega)|exact KZ _ (by omega)|exact KY _ (by omega)|exact dv_m _ _ _ (by omega)))) ?_
      refine oM ?_
      refine oD (Det.bytesStr (f:=turnF (putS V x.val y.val false) (u8idx first)) Try.underlying66 Try.underlying5 Try.underlying9 rfl (by repeat (first|exact Mh _|apply Mt)) (vec_takeR _ _ _)) ?_
      refine oS (cF rfl en_41 rfl (fun w hw=>c_s_GetE x.val y.val 0 V.id V (turnS (putS V x.val y.val false) (u8idx first)) w h2 (by have:=turn_size (putS V x.val y.val false) (u8idx first); omega) (by rw [hv]; exact same_get hok hon)) ?_)
      refine oM ?_
      refine oP (Det.extract rfl rfl) ?_
      refine oP (Det.extract rfl rfl) ?_
      refine oS (mk (KV zr_35) (fun b19=>?_))
      refine KT rfl (sA rfl rfl sz_35 (by exact Kd _ _ _) (hl:=by exact KO _ _ _) (h:=?_))
      refine oA ?_
      refine KC ?_
      refine KB (KA ?_)
      refine oM ?_
      refine oS (cF rfl en_33 rfl (fun w hw=>c_Num _ w) ?_)
      refine oP (KD (v:=.bool true) rfl rfl (br_t (KAC (b:=2102)) (rfl))) ?_
      refine oM ?_
      refine oGM ?_
      refine oGS (cF rfl en_33 rfl (fun w hw=>c_Num _ w) ?_)
      refine oGP (KD (v:=.bool true) rfl rfl (br_t (KAC (b:=2102)) (rfl))) ?_
      refine oP (Kh rfl rfl) ?_
      refine oM ?_
      refine oGM ?_
      refine oGS (cF rfl en_33 rfl (fun w hw=>c_Num _ w) ?_)
      refine oGP (KD (v:=.bool true) rfl rfl (br_t (KAC (b:=0)) (rfl))) ?_
      refine oGM ?_
      refine oGP (KH (Det.conv Try.underlying3 Try.underlying5 rfl) (u8idx_eq first)) ?_
      refine oGP (KD (v:=.bool true) rfl rfl (br_t (KAC (b:=4)) (hv))) ?_
      refine oGP (KH (Det.eqb Try.underlying4 rfl rfl) (show _ = Value.bool true by simp)) ?_
      refine oP (Kh rfl rfl) ?_
      refine oM ?_
      refine oGM ?_
      refine oGS (cF rfl en_33 rfl (fun w hw=>c_Num _ w) ?_)
      refine oGP (KD (v:=.bool true) rfl rfl (br_t (KAC (b:=0)) (rfl))) ?_
      refine oGM ?_
      refine oK ?_
      refine oK ?_
      refine oK ?_
      refine oGP (Kh rfl rfl) ?_
      refine oP (Kh rfl rfl) ?_
      refine oA ?_
      refine KC (KL ?_)
      refine ⟨[_],.cons rfl .nil,fun a w' hr=>⟨?_,hr.fr.below⟩⟩
      rfl
    ·
      refine KA ?_
      refine oP (KF (o':=0) Try.underlying26 rfl rfl rfl sz_3 (by decide)) ?_
      refine oD (dL rfl (hv:=KK Try.underlying3 rfl (by first|rfl|exact Ka _ _ _ (by omega)|exact KZ _ (by omega)|exact KY _ (by omega)|exact dv_m _ _ _ (by omega)))) ?_
      refine oM ?_
      refine oD (Det.bytesStr (f:=turnF (putS V x.val y.val false) (u8idx first)) Try.underlying66 Try.underlying5 Try.underlying9 rfl (by repeat (first|exact Mh _|apply Mt)) (vec_takeR _ _ _)) ?_
      refine oS (cF rfl en_41 rfl (fun w hw=>c_s_GetE 0 0 2102 V.id V (turnS (putS V x.val y.val false) (u8idx first)) w h2 (by have:=turn_size (putS V x.val y.val false) (u8idx first); omega) (other_get hok _ _ _ (u8idx_lt first) hv)) ?_)
      refine oM ?_
      refine oP (Det.extract rfl rfl) ?_
      refine oP (Det.extract rfl rfl) ?_
      refine oS (mk (KV zr_35) (fun b19=>?_))
      refine KT rfl (sA rfl rfl sz_35 (by exact Kd _ _ _) (hl:=by exact KO _ _ _) (h:=?_))
      refine oA ?_
      refine KC ?_
      refine KB (KA ?_)
      refine oM ?_
      refine oS (cF rfl en_33 rfl (fun w hw=>c_Num _ w) ?_)
      refine oP (KD (v:=.bool true) rfl rfl (br_t (KAC (b:=2102)) (rfl))) ?_
      refine oM ?_
      refine oGM ?_
      refine oGS (cF rfl en_33 rfl (fun w hw=>c_Num _ w) ?_)
      refine oGP (KD (v:=.bool true) rfl rfl (br_t (KAC (b:=2102)) (rfl))) ?_
      refine oP (Kh rfl rfl) ?_
      refine oM ?_
      refine oGM ?_
      refine oGS (cF rfl en_33 rfl (fun w hw=>c_Num _ w) ?_)
      refine oGP (KD (v:=.bool false) rfl rfl (br_f (KAC (b:=0)) (by decide))) ?_
      refine oGM ?_
      refine oGP (KH (Det.conv Try.underlying3 Try.underlying5 rfl) (u8idx_eq first)) ?_
      refine oGP (KD (v:=.bool false) rfl rfl (br_f (KAC (b:=4)) (hv))) ?_
      refine oGP (KH (Det.eqb Try.underlying4 rfl rfl) (show _ = Value.bool true by simp)) ?_
      refine oP (Kh rfl rfl) ?_
      refine oM ?_
      refine oGM ?_
      refine oGS (cF rfl en_33 rfl (fun w hw=>c_Num _ w) ?_)
      refine oGP (KD (v:=.bool false) rfl rfl (br_f (KAC (b:=0)) (by decide))) ?_
      refine oGM ?_
      refine oGM ?_
      refine oGS (cF rfl en_33 rfl (fun w hw=>c_Num _ w) ?_)
      refine oGP (KD (v:=.bool true) rfl rfl (br_t (KAC (b:=2102)) (rfl))) ?_
      refine oGP (Kb rfl rfl) ?_
      refine oP (Kh rfl rfl) ?_
      refine oA ?_
      refine KC (KL ?_)
      refine ⟨[_],.cons rfl .nil,fun a w' hr=>⟨?_,hr.fr.below⟩⟩
      rfl
end Go.Proofs.Ytlmiolnccgjjjaa
set_option maxRecDepth 100000
namespace Go.Proofs.Ytlmiolnccgjjjaa
open Go
def ioChars:List Char:=([104,97,114,110,101,115,115,32,51,100,97,51,56,97,97,97,101,50,102,56,55,53,98,101,100,56,56,57,99,51,57,97,102,97,100,99,99,98,102,50,102,97,48,49,100,55,56,97,101,50,48,102,97,99,53,57,102,57,56,48,52,102,53,99,98,98,56,100,52,97,97,98,32,99,117,116,32,97,116,32,99,117,114,118,101,116,47,99,117,114,118,101,116,108,97,119,49,54,46,84,97,98,108,101,83,105,122,101,115,32,99,117,114,118,101,116,47,99,117,114,118,101,116,108,97,119,49,54,46,84,97,98,108,101,78,105,108,32,99,117,114,118,101,116,47,99,117,114,118,101,116,108,97,119,50,49,46,83,101,99,49,115,32,99,117,114,118,101,116,47,99,117,114,118,101,116,108,97,119,50,49,46,83,101,99,49,66,97,99,107,32,99,117,114,118,101,116,47,99,117,114,118,101,116,108,97,119,50,49,46,83,101,99,49,84,105,110,121,32,99,117,114,118,101,116,47,99,117,114,118,101,116,108,97,119,50,49,46,83,101,99,49,66,111,116,104,32,99,117,114,118,101,116,47,99,117,114,118,101,116,108,97,119,50,49,46,83,101,99,49,76,101,110,103,116,104,115,32,99,117,114,118,101,116,47,99,117,114,118,101,116,108,97,119,50,49,46,83,101,99,49,87,104,111,108,101,32,99,117,114,118,101,116,47,99,117,114,118,101,116,108,97,119,50,49,46,83,101,99,49,71,114,101,97,116,32,99,117,114,118,101,116,47,99,117,114,118,101,116,108,97,119,49,54,46,84,97,98,108,101,115,32,99,117,114,118,101,116,47,99,117,114,118,101,116,108,97,119,49,57,46,66,97,115,101,115,32,99,117,114,118,101,116,47,99,117,114,118,101,116,108,97,119,49,57,46,66,97,115,101,78,105,108,32,99,117,114,118,101,116,47,99,117,114,118,101,116,108,97,119,49,54,46,84,97,98,108,101,66,108,105,110,100,32,99,117,114,118,101,116,47,99,117,114,118,101,116,108,97,119,49,54,46,84,97,98,108,101,83,117,109,115,32,99,117,114,118,101,116,47,99,117,114,118,101,116,108,97,119,49,56,46,77,117,108,116,115,32,99,117,114,118,101,116,47,99,117,114,118,101,116,108,97,119,49,56,46,77,117,108,116,69,110,100,115,32,99,117,114,118,101,116,47,99,117,114,118,101,116,108,97,119,49,56,46,77,117,108,116,84,119,105,99,101,32,99,117,114,118,101,116,47,99,117,114,118,101,116,108,97,119,49,56,46,77,117,108,116,84,105,110,121,32,99,117,114,118,101,116,47,99,117,114,118,101,116,108,97,119,49,57,46,66,97,115,101,84,117,114,110,115,32,99,117,114,118,101,116,47,99,117,114,118,101,116,108,97,119,49,56,46,77,117,108,116,66,108,105,110,100,32,99,117,114,118,101,116,47,99,117,114,118,101,116,108,97,119,49,57,46,66,97,115,101,83,116,101,112,115,32,99,117,114,118,101,116,47,99,117,114,118,101,116,108,97,119,49,57,46,66,97,115,101,66,108,105,110,100,32,99,117,114,118,101,116,47,99,117,114,118,101,116,108,97,119,49,56,46,77,117,108,116,65,100,100,115,32,99,117,114,118,101,116,47,99,117,114,118,101,116,108,97,119,50,48,46,68,117,97,108,65,108,111,110,101,32,99,117,114,118,101,116,47,99,117,114,118,101,116,108,97,119,50,53,46,69,99,100,104,65,103,114,101,101,115]:List Nat).map Char.ofNat
theorem io_lit:Try.prog.initOrder = String.ofList ioChars:=by kernel_rfl
theorem io_list:Try.prog.initOrder.toList = ioChars:=by rw [io_lit,String.toList_ofList]
def cutW:List Char:=([99,117,116]:List Nat).map Char.ofNat
def ioRest:List (List Char):=(wordsSigns ioChars).drop 3
theorem io_words:behindMainWord (wordsSigns ioChars) = cutW :: ioRest:=by kernel_rfl
theorem io_strip (r:List (List Char)):stripLifts liftWords (cutW :: r) = ([],cutW :: r):=by kernel_rfl
theorem no_later:Try.prog.laysLater = false:=by kernel_rfl
theorem no_reflect:Try.prog.bearsReflect = false:=by kernel_rfl
theorem door_fits:Try.prog.doorFits [] = true:=by kernel_rfl
theorem and2 {a b:Bool} (h:a = true) (k:b = true):(a && b) = true:=by rw [h,k]; rfl
theorem or_right {a b:Bool} (h:b = true):(a || b) = true:=by rw [h]; cases a <;> rfl
theorem cut_is : (cutW == "cut".toList) = true := by kernel_rfl
theorem cut_gc : (cutW == "gc".toList) = false := by kernel_rfl
theorem cut_spec : (cutW == "spec".toList) = false := by kernel_rfl
theorem cut_carried : (cutW == "carried".toList) = false := by kernel_rfl
theorem head_carried (r : List (List Char)) : ((cutW :: r).head? == some "carried".toList) = false := cut_carried
theorem enter_of (P:Program) {r:List (List Char)} (h:behindMainWord (wordsSigns P.initOrder.toList) = cutW :: r) (h1:P.laysLater = false) (h2:P.bearsReflect = false) (h3:P.doorFits [] = true):P.mayEnter = true:=by
  unfold Program.mayEnter
  rw [h]
  dsimp only
  refine or_right (and2 (and2 (and2 (and2 ?_ ?_) ?_) ?_) ?_)
  · rw [io_strip]; exact cut_is
  · rw [io_strip,h1]; rfl
  · rw [io_strip,h2]; rfl
  · rw [io_strip]; rfl
  · rw [io_strip]; exact h3
theorem lifts_of (P:Program) {r:List (List Char)} (h:behindMainWord (wordsSigns P.initOrder.toList) = cutW :: r):(false == P.liftsFinal) = true:=by
  have hl:P.headLifts = []:=by
    unfold Program.headLifts
    rw [h,io_strip]
    simp only [ite_self]
  unfold Program.liftsFinal
  rw [h,hl]
  dsimp only
  rw [head_carried,Bool.false_and]
  rfl
theorem make_of (P:Program) {r:List (List Char)} (h:behindMainWord (wordsSigns P.initOrder.toList) = cutW :: r):(P.make == some .cut) = true:=by
  have:P.make = some .cut:=by
    unfold Program.make
    rw [h]
    dsimp only
    rw [if_neg (by rw [cut_gc,cut_spec]; exact fun h=>by cases h),if_pos (by rw [cut_is]; rfl)]
  rw [this]; rfl
theorem io_all:behindMainWord (wordsSigns Try.prog.initOrder.toList) = cutW :: ioRest:=by rw [io_list,io_words]
theorem fact_enter:Try.prog.mayEnter = true:=enter_of _ io_all no_later no_reflect door_fits
theorem fact_lifts:(false == Try.prog.liftsFinal) = true:=lifts_of _ io_all
theorem fact_make:(Try.prog.make == some .cut) = true:=make_of _ io_all
theorem fact_laid:laidOutB Try.prog = true:=by kernel_rfl
theorem fact_maps:mapsRowed Try.prog = true:=by kernel_rfl
theorem fact_heard:Try.prog.stopsHeard = true:=by kernel_rfl
end Go.Proofs.Ytlmiolnccgjjjaa
set_option linter.unusedVariables false
set_option linter.unusedSimpArgs false
set_option maxRecDepth 20000
namespace Go.Proofs.Ytlmiolnccgjjjaa
open Go Go.RowKit
open Grp
def tinyR (V:Cv) (x:Nat):Nat:=(if (liftT V x 0).2.2 then 1 else 0)+(if (liftT V x 1).2.2 then 1 else 0)
def tinyC (V:Cv):Nat→Nat
  | 0=>0
  | x+1=>tinyC V x+tinyR V x
theorem tinyC_le (V:Cv):∀ x,tinyC V x≤2*x
  | 0=>Nat.le_refl _
  | x+1=>by
    have h:=tinyC_le V x
    have h2:tinyR V x≤2:=by unfold tinyR; split <;> split <;> omega
    show tinyC V x+tinyR V x≤_
    omega
theorem tin13:tinyC cv13 256 = cv13.n-1:=by decide +kernel
theorem tin14:tinyC cv14 256 = cv14.n-1:=by decide +kernel
theorem tin15:tinyC cv15 256 = cv15.n-1:=by decide +kernel
theorem cvI_tiny3 (x:Int):∃ V,cvI ((13+uidx x%3:Nat):Int) = some V∧V.p≤255∧nby V.p = 1∧V.n≤255∧1≤V.n∧D.nw V.n = 1∧cntC V.p V.a V.b 256 = V.n-1∧tinyC V 256 = V.n-1:=by
  have h:uidx x%3 = 0∨uidx x%3 = 1∨uidx x%3 = 2:=by omega
  rcases h with h|h|h <;> rw [h]
  · exact ⟨cv13,rfl,by decide,by decide +kernel,by decide,by decide,by decide +kernel,cnt13,tin13⟩
  · exact ⟨cv14,rfl,by decide,by decide +kernel,by decide,by decide,by decide +kernel,cnt14,tin14⟩
  · exact ⟨cv15,rfl,by decide,by decide +kernel,by decide,by decide,by decide +kernel,cnt15,tin15⟩
def threeF (a b c:Nat) (j:Nat):Nat:=if j = 0 then a else if j = 1 then b else c
def threeS (a b c:Nat):ByteArray:=strOf ((List.range 3).map fun i=>UInt8.ofNat (threeF a b c i))
def twoF (a b:Nat) (j:Nat):Nat:=if j = 0 then a else b
def twoS (a b:Nat):ByteArray:=strOf ((List.range 2).map fun i=>UInt8.ofNat (twoF a b i))
theorem two_l (a b:Nat):(twoS a b).data.toList = [UInt8.ofNat a,UInt8.ofNat b]:=rfl
theorem three_size (a b c:Nat):(threeS a b c).size<9223372036854775808:=by show 3<_; decide
theorem two_sizeB (a b:Nat):(twoS a b).size<9223372036854775808:=by show 2<_; decide
theorem be_one {x:Nat} (h:x<256):beVal [UInt8.ofNat x] = x:=by
  show (UInt8.ofNat x).toNat*256^([]:List UInt8).length+0 = x
  rw [u8_toNat h]; simp
theorem whole_get {V:Cv} (h1:nby V.p = 1) {x y:Nat} (hx:x<256) (hy:y<256):getT V (threeS 4 x y) = if onB V.p V.a V.b x y false then (x,y,0) else (0,0,2101):=by
  have e:=getT_long (V:=V) (s:=threeS 4 x y) (l:=[UInt8.ofNat x]) (m:=[UInt8.ofNat y]) (ok:=onB V.p V.a V.b x y false) (by omega) rfl (by rw [h1]; rfl) (by rw [h1]; rfl) (by rw [be_one hx,be_one hy])
  rw [be_one hx,be_one hy] at e
  exact e
theorem tiny_get {V:Cv} (h1:nby V.p = 1) {x o:Nat} (hx:x<256) (ho:o≤1):getT V (twoS (2+o) x) = if (liftT V x o).2.2 then ((liftT V x o).1,(liftT V x o).2.1,0) else (0,0,2101) :=
  getT_short (V:=V) (s:=twoS (2+o) x) (b:=UInt8.ofNat (2+o)) (l:=[UInt8.ofNat x]) (o:=o) (two_l _ _) (by rw [h1]; rfl) (u8_toNat (by omega)) ho (by rw [be_one hx])
theorem first_get {V:Cv} (h1:nby V.p = 1) {v:Nat} (hv:5≤v) (hv2:v<256):getT V (threeS v 2 84) = (0,0,2102):=by
  have h2:b0 (threeS v 2 84) = v:=u8_toNat hv2
  exact get_form (fun e=>by omega) (fun e=>by omega)
theorem limbX {x:Nat} (h:x≤255):limb x 0 = x:=by
  rw [limb_small (show x<18446744073709551616 by omega)]; rfl
theorem ptl_y0 (X Y:Nat) (i:Bool):(ptL X Y i)[9]? = some (.int .u64 ((limb Y 0:Nat):Int)):=by
  unfold ptL
  rw [List.getElem?_append_right (by rw [KE]; exact Nat.le_refl _),KE,List.getElem?_append_left (by rw [KE]; decide)]
  exact KZ Y (by decide)
theorem c_Sec1Whole (which:Int) (w:World)  : Calls Try.prog 10 ([.int .i64 which]:List Value).toArray w (fun e w'=>e = .returned (.bool true)∧Below w.heap.size w w'):=by
  obtain ⟨V,h,hp255,hnb1,hn255,hn1,hnw1,hcnt,htin⟩:=cvI_tiny3 which
  obtain ⟨hok,hid⟩:=cvI_ok h
  have h2:=cvI_id h
  have hsz:=hok.sz
  refine Kl (N:=67) (rs:=[.tmp 2]) [] Try.func10 rfl Try.ntmps10 Try.results10 (Nb rfl) trivial rfl ?_
  show LCode _ _ _ ⟨_,_⟩ _
  refine KB (KA ?_)
  refine oA ?_
  refine KC ?_
  refine KB ?_
  refine KB (KA ?_)
  refine oS (cF rfl en_42 rfl (fun w hw=>c_awake21 w) ?_)
  refine oP (KH (Det.not rfl) (show _ = Value.bool false from rfl)) ?_
  refine KC ?_
  refine KQ rfl ?_
  refine KM ?_
  refine KB (KA ?_)
  refine oM ?_
  refine oP (KH (Det.conv Try.underlying3 Try.underlying29 rfl) (uidx_eq which)) ?_
  refine oP (KD rfl rfl (br_rem64 (b:=3) (by omega))) ?_
  refine oP (KAV Try.underlying29 Try.underlying3 rfl (by omega)) ?_
  refine oP (KD rfl rfl (Kq (a:=13) (by omega))) ?_
  refine oS (KAU (Post:=fun v its=>∃ Q,v = .tuple #[.agg (crvL Q V).toArray,.bool true]∧its = [crvI Q V]) (first:=[]) rfl en_29 rfl (Nb rfl) (fun w1 hw hs=>(c_r_Get _ V w1 h).mono fun e w' ⟨Q,h1,h2,h3,h4⟩=>⟨_,_,⟨Q,rfl,rfl⟩,h1,KAY h4 (by intro x hx; simp at hx; subst hx; exact h2) (by intro x hx; simp at hx; subst hx; rfl) (by intro x hx k hk; simp at hx; subst hx; exact .inl (h3 k hk))⟩) ?_)
  rintro _ _ ⟨Q,rfl,rfl⟩
  refine oM ?_
  refine oP (Det.extract rfl rfl) ?_
  refine oP (Det.extract rfl rfl) ?_
  refine oS (mk (KV zr_26) (fun b3=>?_))
  refine KT rfl (sA rfl rfl sz_26 (by repeat (first|exact KU|refine KR rfl ?_)) (hl:=by rfl) (h:=?_))
  refine oA ?_
  refine KC ?_
  refine KB ?_
  refine KB (KA ?_)
  refine oM ?_
  refine oP (KH (Det.not rfl) (show _ = Value.bool false from rfl)) ?_
  refine KC ?_
  refine KQ rfl ?_
  refine KM ?_
  refine KB (KA ?_)
  refine oP (KF (o':=4) Try.underlying26 rfl rfl rfl sz_24 (by decide)) ?_
  refine oD (dL rfl (hv:=KK Try.underlying24 rfl (by first|rfl|exact Ka _ _ _ (by omega)|exact KZ _ (by omega)|exact KY _ (by omega)|exact dv_m _ _ _ (by omega)))) ?_
  refine oP (KAS (i:=0) Try.underlying24 sz_67 rfl rfl (by omega)) ?_
  refine oD (Det.loadF (n:=D.nw V.n) Try.underlying67 rfl rfl (fun w hw=>crvI_n (mC hw)) (by omega)) ?_
  refine oP (KH (KAB Try.underlying67 Try.underlying30 rfl (Nat.lt_trans (D.limb_lt _ _) (by decide))) (vi (b:=V.n) (one_digit hnw1))) ?_
  refine oA ?_
  refine KC ?_
  refine KB (KA ?_)
  refine oP (KW (v:=.int .u64 ((0:Nat):Int)) rfl) ?_
  refine KC ?_
  refine KB ?_
  refine KB (KA ?_)
  refine oP (KW (v:=.int .i64 ((0:Nat):Int)) rfl) ?_
  refine KC ?_
  refine LCode.block ?_
  refine Kp (α:=Nat×Nat) (fun x=>x.1≤256∧x.2 = cntC V.p V.a V.b x.1) (fun x=>⟨[(3,.pointer (some ⟨b3,0,none⟩)),(5,.int .u64 ((V.n:Nat):Int)),(6,.int .u64 ((x.2:Nat):Int)),(7,.int .i64 ((x.1:Nat):Int))],[.blk b3 ⟨true,crvL Q V,26,(0,0)⟩,crvI Q V]⟩) (fun x=>256-x.1) ((0,0)) (⟨by decide,rfl⟩) (Ko ⟨rfl,rfl,rfl,rfl,trivial⟩ (by repeat (first|exact Sel.nil _|refine Sel.cons (by repeat (first|exact Ph _|apply Pt_)) ?_))) ?_
  rintro x ⟨hx1,hx2⟩
  refine KB ?_
  refine KB (KA ?_)
  refine oM ?_
  refine oP (KD rfl rfl (KAe (b:=256))) ?_
  refine KC ?_
  first|refine KN rfl (fun h30=>?_) (fun h30=>?_)|refine KS rfl (fun h30=>?_) (fun h30=>?_)
  ·
    have h30:x.1<256:=h30
    have hmono:=cntC_mono V.p V.a V.b (show x.1+1≤256 by omega)
    have hun:cntC V.p V.a V.b (x.1+1) = cntC V.p V.a V.b x.1+rowC V.p V.a V.b x.1 256:=rfl
    have hx256:=h30
    refine KM ?_
    refine KB ?_
    refine LCode.block ?_
    refine KB (KA ?_)
    refine oP (KW (v:=.int .i64 ((0:Nat):Int)) rfl) ?_
    refine KC ?_
    refine LCode.block ?_
    refine Kp (α:=Nat×Nat) (fun z=>z.1≤256∧z.2 = cntC V.p V.a V.b x.1+rowC V.p V.a V.b x.1 z.1) (fun z=>⟨[(3,.pointer (some ⟨b3,0,none⟩)),(5,.int .u64 ((V.n:Nat):Int)),(6,.int .u64 ((z.2:Nat):Int)),(7,.int .i64 ((x.1:Nat):Int)),(8,.int .i64 ((z.1:Nat):Int))],[.blk b3 ⟨true,crvL Q V,26,(0,0)⟩,crvI Q V]⟩) (fun z=>256-z.1) ((0,x.2)) (⟨Nat.zero_le _,by dsimp only; rw [hx2]; rfl⟩) (Ko ⟨rfl,rfl,rfl,rfl,rfl,trivial⟩ (by repeat (first|exact Sel.nil _|refine Sel.cons (by repeat (first|exact Ph _|apply Pt_)) ?_))) ?_
    rintro z ⟨hz1,hz2⟩
    have hcl:=cntC_le V.p V.a V.b x.1
    refine KB ?_
    refine KB (KA ?_)
    refine oM ?_
    refine oP (KD rfl rfl (KAe (b:=256))) ?_
    refine KC ?_
    first|refine KN rfl (fun h34=>?_) (fun h34=>?_)|refine KS rfl (fun h34=>?_) (fun h34=>?_)
    ·
      have h34:z.1<256:=h34
      have hz256:=h34
      have hrl:=rowC_le V.p V.a V.b x.1 z.1
      have hun2:rowC V.p V.a V.b x.1 (z.1+1) = if onB V.p V.a V.b x.1 z.1 false = true then rowC V.p V.a V.b x.1 z.1+1 else rowC V.p V.a V.b x.1 z.1:=rfl
      refine KM ?_
      refine KB ?_
      refine LCode.block ?_
      refine KB ?_
      have hg:=whole_get hnb1 hx256 hz256
      rcases Bool.eq_false_or_eq_true (onB V.p V.a V.b x.1 z.1 false) with h44|h44
      rotate_left
      ·
        rw [if_neg (by rw [h44]; decide)] at hun2 hg
        refine KA ?_
        refine oP (KF (o':=0) Try.underlying26 rfl rfl rfl sz_3 (by decide)) ?_
        refine oD (dL rfl (hv:=KK Try.underlying3 rfl (by first|rfl|exact Ka _ _ _ (by omega)|exact KZ _ (by omega)|exact KY _ (by omega)|exact dv_m _ _ _ (by omega)))) ?_
        refine oM ?_
        refine oP (KH (Det.conv8 Try.underlying3 Try.underlying5 rfl) (vi (b:=x.1) (Nat.mod_eq_of_lt hx256))) ?_
        refine oM ?_
        refine oP (KH (Det.conv8 Try.underlying3 Try.underlying5 rfl) (vi (b:=z.1) (Nat.mod_eq_of_lt hz256))) ?_
        refine oS (mk (KAD Try.underlying66 inf_5 rfl rfl rfl rfl (by decide) rfl) (fun b44=>?_))
        refine oD (Det.bytesStr (f:=threeF 4 x.1 z.1) Try.underlying66 Try.underlying5 Try.underlying9 rfl (by repeat (first|exact Mh _|apply Mt)) (by rfl)) ?_
        refine oS (cF rfl en_41 rfl (fun w hw=>c_s_GetE 0 0 2101 V.id V (threeS 4 x.1 z.1) w h2 (three_size _ _ _) hg) ?_)
        refine oM ?_
        refine oP (Det.extract rfl rfl) ?_
        refine oP (Det.extract rfl rfl) ?_
        refine oS (mk (KV zr_35) (fun b9=>?_))
        refine KT rfl (sA rfl rfl sz_35 (by exact Kd _ _ _) (hl:=by exact KO _ _ _) (h:=?_))
        refine oA ?_
        refine KC ?_
        refine KB ?_
        refine KB (KA ?_)
        refine oM ?_
        refine oS (cF rfl en_33 rfl (fun w hw=>c_Num _ w) ?_)
        refine oP (KD (v:=.bool true) rfl rfl (br_t (br_neq (b:=0)) (by decide))) ?_
        refine KC ?_
        refine Kf rfl ?_
        refine Km ?_
        refine KA ?_
        refine oM ?_
        refine oP (KD rfl rfl (Kq (b:=1) (by omega))) ?_
        refine oA ?_
        refine KC ?_
        exact ⟨(z.1+1,z.2),⟨by dsimp only; omega,by dsimp only; omega⟩,by dsimp only; omega,Ko ⟨rfl,rfl,rfl,rfl,rfl,trivial⟩ (by repeat (first|exact Sel.nil _|refine Sel.cons (by repeat (first|exact Ph _|apply Pt_)) ?_))⟩
      ·
        rw [if_pos h44] at hun2 hg
        refine KA ?_
        refine oP (KF (o':=0) Try.underlying26 rfl rfl rfl sz_3 (by decide)) ?_
        refine oD (dL rfl (hv:=KK Try.underlying3 rfl (by first|rfl|exact Ka _ _ _ (by omega)|exact KZ _ (by omega)|exact KY _ (by omega)|exact dv_m _ _ _ (by omega)))) ?_
        refine oM ?_
        refine oP (KH (Det.conv8 Try.underlying3 Try.underlying5 rfl) (vi (b:=x.1) (Nat.mod_eq_of_lt hx256))) ?_
        refine oM ?_
        refine oP (KH (Det.conv8 Try.underlying3 Try.underlying5 rfl) (vi (b:=z.1) (Nat.mod_eq_of_lt hz256))) ?_
        refine oS (mk (KAD Try.underlying66 inf_5 rfl rfl rfl rfl (by decide) rfl) (fun b44=>?_))
        refine oD (Det.bytesStr (f:=threeF 4 x.1 z.1) Try.underlying66 Try.underlying5 Try.underlying9 rfl (by repeat (first|exact Mh _|apply Mt)) (by rfl)) ?_
        refine oS (cF rfl en_41 rfl (fun w hw=>c_s_GetE x.1 z.1 0 V.id V (threeS 4 x.1 z.1) w h2 (three_size _ _ _) hg) ?_)
        refine oM ?_
        refine oP (Det.extract rfl rfl) ?_
        refine oP (Det.extract rfl rfl) ?_
        refine oS (mk (KV zr_35) (fun b9=>?_))
        refine KT rfl (sA rfl rfl sz_35 (by exact Kd _ _ _) (hl:=by exact KO _ _ _) (h:=?_))
        refine oA ?_
        refine KC ?_
        refine KB ?_
        refine KB (KA ?_)
        refine oM ?_
        refine oS (cF rfl en_33 rfl (fun w hw=>c_Num _ w) ?_)
        refine oP (KD (v:=.bool false) rfl rfl (br_f (br_neq (b:=0)) (by decide))) ?_
        refine KC ?_
        refine KQ rfl ?_
        refine KM ?_
        refine KB (KA ?_)
        refine oM ?_
        refine oP (KH (KD rfl rfl (KAN (b:=1))) (vi (b:=z.2+1) (by omega))) ?_
        refine oA ?_
        refine KC ?_
        refine KB ?_
        refine rD [] ?_
        refine aD 0 rfl (dL rfl (hv:=by exact KG Try.underlying35 rfl sz_35)) ?_
        refine aM 1 ?_
        refine aP 2 rfl (KAB Try.underlying3 Try.underlying30 rfl (by first|omega|exact Nat.lt_trans (D.limb_lt _ _) (by decide))) ?_
        refine aM 4 ?_
        refine aP 5 rfl (KAB Try.underlying3 Try.underlying30 rfl (by first|omega|exact Nat.lt_trans (D.limb_lt _ _) (by decide))) ?_
        refine aO 3 rfl (cF rfl en_47 rfl (fun w hw=>c_One x.1 w (by omega)) ?_)
        refine aO 6 rfl (cF rfl en_47 rfl (fun w hw=>c_One z.1 w (by omega)) ?_)
        refine aP 7 rfl (KH (Ky pl_35 zr_35 rfl (fill_ptI2 _ _)) rfl) ?_
        refine aP 8 rfl (KH (Det.nea (by kernel_rfl) (fun w=>eq_pt_t (u64_w9 (by omega)) (u64_w9 (by omega)) 10000 (by decide) w) rfl rfl) (show _ = Value.bool false by rfl)) ?_
        refine aE ?_
        refine KQ rfl ?_
        refine KM ?_
        refine KA ?_
        refine oM ?_
        refine oP (KD rfl rfl (Kq (b:=1) (by omega))) ?_
        refine oA ?_
        refine KC ?_
        exact ⟨(z.1+1,z.2+1),⟨by dsimp only; omega,by dsimp only; omega⟩,by dsimp only; omega,Ko ⟨rfl,rfl,rfl,rfl,rfl,trivial⟩ (by repeat (first|exact Sel.nil _|refine Sel.cons (by repeat (first|exact Ph _|apply Pt_)) ?_))⟩
    ·
      have h34:¬ z.1<256:=h34
      refine Km ?_
      refine KA ?_
      refine oM ?_
      refine oP (KD rfl rfl (Kq (b:=1) (by omega))) ?_
      refine oA ?_
      refine KC ?_
      exact ⟨(x.1+1,z.2),⟨by dsimp only; omega,by dsimp only; rw [hz2,hun,show z.1 = 256 by omega]⟩,by dsimp only; omega,Ko ⟨rfl,rfl,rfl,rfl,trivial⟩ (by repeat (first|exact Sel.nil _|refine Sel.cons (by repeat (first|exact Ph _|apply Pt_)) ?_))⟩
  ·
    have h30:¬ x.1<256:=h30
    refine Km ?_
    refine KB ?_
    have hx256:x.1 = 256:=by omega
    rw [hx256,hcnt] at hx2
    refine KA ?_
    refine oM ?_
    refine oM ?_
    refine oP (KH (KD rfl rfl (br_sub64 (b:=1) (by decide))) (vi (b:=V.n-1) (by omega))) ?_
    refine oP (KD (v:=.bool true) rfl rfl (br_t KAC (by omega))) ?_
    refine oA ?_
    refine KC (KL ?_)
    refine ⟨[_],.cons rfl .nil,fun a w' hr=>⟨?_,hr.fr.below⟩⟩
    rfl
theorem lift_okX {V:Cv} (hok:V.Ok) {x o:Nat} (ho:o≤1) (h:(liftT V x o).2.2 = true):∃ y,liftT V x o = (x,y,true)∧y<V.p∧x<V.p∧y%2 = o:=by
  have e:liftT V x o = ((liftT V x o).1,(liftT V x o).2.1,true):=Prod.ext rfl (Prod.ext rfl h)
  obtain ⟨h1,h2,h3⟩:=lift_ok hok ho e
  obtain ⟨h4,h5⟩:=on_lt h2
  exact ⟨_,by rw [h1] at e; exact e,h5,h4,h3⟩
theorem br_and1 {a:Nat} (h:a<18446744073709551616):KAA .and .u64 a .u64 1 = some (.int .u64 ((a%2:Nat):Int)):=by
  have:=br_and64 (a:=a) (b:=1) h (by decide)
  rw [Nat.and_one_is_mod] at this
  exact this
def tinyP (V:Cv) (x k:Nat):Nat:=if k = 0 then 0 else if k = 1 then (if (liftT V x 0).2.2 then 1 else 0) else tinyR V x
theorem tinyP_le (V:Cv) (x k:Nat):tinyP V x k≤2:=by
  have h2:tinyR V x≤2:=by unfold tinyR; split <;> split <;> omega
  unfold tinyP
  split
  · omega
  · split
    · split <;> omega
    · exact h2
theorem tinyP_no (V:Cv) (x o:Nat) (ho:o = 0∨o = 1) (h:(liftT V x o).2.2 = false):tinyP V x (o+1) = tinyP V x o:=by
  rcases ho with rfl|rfl
  · show (if (liftT V x 0).2.2 = true then 1 else 0) = 0
    rw [h]; rfl
  · show tinyR V x = (if (liftT V x 0).2.2 = true then 1 else 0)
    unfold tinyR; rw [h]; rfl
theorem tinyP_ok (V:Cv) (x o:Nat) (ho:o = 0∨o = 1) (h:(liftT V x o).2.2 = true):tinyP V x (o+1) = tinyP V x o+1:=by
  rcases ho with rfl|rfl
  · show (if (liftT V x 0).2.2 = true then 1 else 0) = 0+1
    rw [h]; rfl
  · show tinyR V x = (if (liftT V x 0).2.2 = true then 1 else 0)+1
    unfold tinyR; rw [h]; rfl
theorem c_Sec1Tiny (which first:Int) (w:World)  : Calls Try.prog 7 ([.int .i64 which,.int .i64 first]:List Value).toArray w (fun e w'=>e = .returned (.bool true)∧Below w.heap.size w w'):=by
  obtain ⟨V,h,hp255,hnb1,hn255,hn1,hnw1,hcnt,htin⟩:=cvI_tiny3 which
  obtain ⟨hok,hid⟩:=cvI_ok h
  have h2:=cvI_id h
  have hsz:=hok.sz
  refine Kl (N:=94) (rs:=[.tmp 4]) [] Try.func7 rfl Try.ntmps7 Try.results7 (Nb rfl) trivial rfl ?_
  show LCode _ _ _ ⟨_,_⟩ _
  refine KB (KA ?_)
  refine oA ?_
  refine KC ?_
  refine KB ?_
  refine KB (KA ?_)
  refine oS (cF rfl en_42 rfl (fun w hw=>c_awake21 w) ?_)
  refine oP (KH (Det.not rfl) (show _ = Value.bool false from rfl)) ?_
  refine KC ?_
  refine KQ rfl ?_
  refine KM ?_
  refine KB (KA ?_)
  refine oM ?_
  refine oP (KH (Det.conv Try.underlying3 Try.underlying29 rfl) (uidx_eq which)) ?_
  refine oP (KD rfl rfl (br_rem64 (b:=3) (by omega))) ?_
  refine oP (KAV Try.underlying29 Try.underlying3 rfl (by omega)) ?_
  refine oP (KD rfl rfl (Kq (a:=13) (by omega))) ?_
  refine oS (KAU (Post:=fun v its=>∃ Q,v = .tuple #[.agg (crvL Q V).toArray,.bool true]∧its = [crvI Q V]) (first:=[]) rfl en_29 rfl (Nb rfl) (fun w1 hw hs=>(c_r_Get _ V w1 h).mono fun e w' ⟨Q,h1,h2,h3,h4⟩=>⟨_,_,⟨Q,rfl,rfl⟩,h1,KAY h4 (by intro x hx; simp at hx; subst hx; exact h2) (by intro x hx; simp at hx; subst hx; rfl) (by intro x hx k hk; simp at hx; subst hx; exact .inl (h3 k hk))⟩) ?_)
  rintro _ _ ⟨Q,rfl,rfl⟩
  refine oM ?_
  refine oP (Det.extract rfl rfl) ?_
  refine oP (Det.extract rfl rfl) ?_
  refine oS (mk (KV zr_26) (fun b5=>?_))
  refine KT rfl (sA rfl rfl sz_26 (by repeat (first|exact KU|refine KR rfl ?_)) (hl:=by rfl) (h:=?_))
  refine oA ?_
  refine KC ?_
  refine KB ?_
  refine KB (KA ?_)
  refine oM ?_
  refine oP (KH (Det.not rfl) (show _ = Value.bool false from rfl)) ?_
  refine KC ?_
  refine KQ rfl ?_
  refine KM ?_
  refine KB (KA ?_)
  refine oP (KW (v:=.int .i64 ((0:Nat):Int)) rfl) ?_
  refine KC ?_
  refine KB ?_
  refine KB (KA ?_)
  refine oP (KW (v:=.int .i64 ((0:Nat):Int)) rfl) ?_
  refine KC ?_
  refine LCode.block ?_
  refine Kp (α:=Nat×Nat) (fun x=>x.1≤256∧x.2 = tinyC V x.1) (fun x=>⟨[(1,.int .i64 first),(5,.pointer (some ⟨b5,0,none⟩)),(7,.int .i64 ((x.2:Nat):Int)),(8,.int .i64 ((x.1:Nat):Int))],[.blk b5 ⟨true,crvL Q V,26,(0,0)⟩,crvI Q V]⟩) (fun x=>256-x.1) ((0,0)) (⟨by decide,rfl⟩) (Ko ⟨rfl,rfl,rfl,rfl,trivial⟩ (by repeat (first|exact Sel.nil _|refine Sel.cons (by repeat (first|exact Ph _|apply Pt_)) ?_))) ?_
  rintro x ⟨hx1,hx2⟩
  refine KB ?_
  refine KB (KA ?_)
  refine oM ?_
  refine oP (KD rfl rfl (KAe (b:=256))) ?_
  refine KC ?_
  first|refine KN rfl (fun h30=>?_) (fun h30=>?_)|refine KS rfl (fun h30=>?_) (fun h30=>?_)
  ·
    have h30:x.1<256:=h30
    have hx256:=h30
    have htl:=tinyC_le V x.1
    have hun:tinyC V (x.1+1) = tinyC V x.1+tinyR V x.1:=rfl
    refine KM ?_
    refine KB ?_
    refine LCode.block ?_
    refine KB (KA ?_)
    refine oP (KW (v:=.int .i64 ((2:Nat):Int)) rfl) ?_
    refine KC ?_
    refine LCode.block ?_
    refine Kp (α:=Nat×Nat) (fun z=>2≤z.1∧z.1≤4∧z.2 = tinyC V x.1+tinyP V x.1 (z.1-2)) (fun z=>⟨[(1,.int .i64 first),(5,.pointer (some ⟨b5,0,none⟩)),(7,.int .i64 ((z.2:Nat):Int)),(8,.int .i64 ((x.1:Nat):Int)),(9,.int .i64 ((z.1:Nat):Int))],[.blk b5 ⟨true,crvL Q V,26,(0,0)⟩,crvI Q V]⟩) (fun z=>4-z.1) ((2,x.2)) (⟨by dsimp only; omega,by dsimp only; omega,by dsimp only; rw [hx2]; rfl⟩) (Ko ⟨rfl,rfl,rfl,rfl,rfl,trivial⟩ (by repeat (first|exact Sel.nil _|refine Sel.cons (by repeat (first|exact Ph _|apply Pt_)) ?_))) ?_
    rintro z ⟨hz0,hz1,hz2⟩
    have hpl:=tinyP_le V x.1 (z.1-2)
    refine KB ?_
    refine KB (KA ?_)
    refine oM ?_
    refine oP (KD rfl rfl (KAe (b:=4))) ?_
    refine KC ?_
    first|refine KN rfl (fun h34=>?_) (fun h34=>?_)|refine KS rfl (fun h34=>?_) (fun h34=>?_)
    ·
      have h34:z.1<4:=h34
      obtain ⟨o,ho⟩:∃ o,z.1 = 2+o:=⟨z.1-2,by omega⟩
      have ho01:o = 0∨o = 1:=by omega
      refine KM ?_
      refine KB ?_
      refine LCode.block ?_
      refine KB ?_
      have hg:=tiny_get hnb1 hx256 (show o≤1 by omega)
      rcases Bool.eq_false_or_eq_true (liftT V x.1 o).2.2 with hlo|hlo
      rotate_left
      ·
        rw [if_neg (by rw [hlo]; decide)] at hg
        refine KA ?_
        refine oP (KF (o':=0) Try.underlying26 rfl rfl rfl sz_3 (by decide)) ?_
        refine oD (dL rfl (hv:=KK Try.underlying3 rfl (by first|rfl|exact Ka _ _ _ (by omega)|exact KZ _ (by omega)|exact KY _ (by omega)|exact dv_m _ _ _ (by omega)))) ?_
        refine oP (Kt (v:=.int .i64 (((2+o):Nat):Int)) (by show some _ = some _; rw [ho])) ?_
        refine oP (KH (Det.conv8 Try.underlying3 Try.underlying5 rfl) (vi (b:=(2+o)) (Nat.mod_eq_of_lt (by omega)))) ?_
        refine oM ?_
        refine oP (KH (Det.conv8 Try.underlying3 Try.underlying5 rfl) (vi (b:=x.1) (Nat.mod_eq_of_lt hx256))) ?_
        refine oS (mk (KAD Try.underlying66 inf_5 rfl rfl rfl rfl (by decide) rfl) (fun b42=>?_))
        refine oD (Det.bytesStr (f:=twoF (2+o) x.1) Try.underlying66 Try.underlying5 Try.underlying9 rfl (by repeat (first|exact Mh _|apply Mt)) (by rfl)) ?_
        refine oS (cF rfl en_41 rfl (fun w hw=>c_s_GetE 0 0 2101 V.id V (twoS (2+o) x.1) w h2 (two_sizeB _ _) hg) ?_)
        refine oM ?_
        refine oP (Det.extract rfl rfl) ?_
        refine oP (Det.extract rfl rfl) ?_
        refine oS (mk (KV zr_35) (fun b10=>?_))
        refine KT rfl (sA rfl rfl sz_35 (by exact Kd _ _ _) (hl:=by exact KO _ _ _) (h:=?_))
        refine oA ?_
        refine KC ?_
        refine KB (KA ?_)
        refine oM ?_
        refine oS (cF rfl en_33 rfl (fun w hw=>c_Num _ w) ?_)
        refine oP (KD (v:=.bool false) rfl rfl (br_f (KAC (b:=0)) (by decide))) ?_
        refine KC ?_
        refine KQ rfl ?_
        refine KM ?_
        refine KA ?_
        refine oM ?_
        refine oP (KD rfl rfl (Kq (b:=1) (by omega))) ?_
        refine oA ?_
        refine KC ?_
        have hst:=tinyP_no V x.1 o ho01 hlo
        exact ⟨(z.1+1,z.2),⟨by dsimp only; omega,by dsimp only; omega,by dsimp only; rw [hz2,show z.1-2 = o by omega,show z.1+1-2 = o+1 by omega,hst]⟩,by dsimp only; omega,Ko ⟨rfl,rfl,rfl,rfl,rfl,trivial⟩ (by repeat (first|exact Sel.nil _|refine Sel.cons (by repeat (first|exact Ph _|apply Pt_)) ?_))⟩
      ·
        obtain ⟨y,hl,hyp,hxp,hy2⟩:=lift_okX hok (by omega) hlo
        rw [if_pos hlo,hl] at hg
        refine KA ?_
        refine oP (KF (o':=0) Try.underlying26 rfl rfl rfl sz_3 (by decide)) ?_
        refine oD (dL rfl (hv:=KK Try.underlying3 rfl (by first|rfl|exact Ka _ _ _ (by omega)|exact KZ _ (by omega)|exact KY _ (by omega)|exact dv_m _ _ _ (by omega)))) ?_
        refine oP (Kt (v:=.int .i64 (((2+o):Nat):Int)) (by show some _ = some _; rw [ho])) ?_
        refine oP (KH (Det.conv8 Try.underlying3 Try.underlying5 rfl) (vi (b:=(2+o)) (Nat.mod_eq_of_lt (by omega)))) ?_
        refine oM ?_
        refine oP (KH (Det.conv8 Try.underlying3 Try.underlying5 rfl) (vi (b:=x.1) (Nat.mod_eq_of_lt hx256))) ?_
        refine oS (mk (KAD Try.underlying66 inf_5 rfl rfl rfl rfl (by decide) rfl) (fun b42=>?_))
        refine oD (Det.bytesStr (f:=twoF (2+o) x.1) Try.underlying66 Try.underlying5 Try.underlying9 rfl (by repeat (first|exact Mh _|apply Mt)) (by rfl)) ?_
        refine oS (cF rfl en_41 rfl (fun w hw=>c_s_GetE x.1 y 0 V.id V (twoS (2+o) x.1) w h2 (two_sizeB _ _) hg) ?_)
        refine oM ?_
        refine oP (Det.extract rfl rfl) ?_
        refine oP (Det.extract rfl rfl) ?_
        refine oS (mk (KV zr_35) (fun b10=>?_))
        refine KT rfl (sA rfl rfl sz_35 (by exact Kd _ _ _) (hl:=by exact KO _ _ _) (h:=?_))
        refine oA ?_
        refine KC ?_
        refine KB (KA ?_)
        refine oM ?_
        refine oS (cF rfl en_33 rfl (fun w hw=>c_Num _ w) ?_)
        refine oP (KD (v:=.bool true) rfl rfl (br_t (KAC (b:=0)) (rfl))) ?_
        refine KC ?_
        refine Kf rfl ?_
        refine KB (KA ?_)
        refine oM ?_
        refine oP (KD rfl rfl (Kq (b:=1) (by omega))) ?_
        refine oA ?_
        refine KC ?_
        refine KB ?_
        refine rD [] ?_
        refine aP 0 rfl (KF (o':=0) Try.underlying35 rfl rfl rfl sz_33 (by decide)) ?_
        refine aD 1 rfl (dL rfl (hv:=by exact KAT Try.underlying33 rfl sz_33 rfl (KE _))) ?_
        refine aM 2 ?_
        refine aP 3 rfl (KAB Try.underlying3 Try.underlying30 rfl (by first|omega|exact Nat.lt_trans (D.limb_lt _ _) (by decide))) ?_
        refine aO 4 rfl (cF rfl en_47 rfl (fun w hw=>c_One x.1 w (by omega)) ?_)
        refine aP 5 rfl (KH (Det.nea (by kernel_rfl) (fun w=>eq_nat_t (u64_w9 (by omega)) rfl 10000 (by decide) w) rfl rfl) (show _ = Value.bool false by rfl)) ?_
        refine aM 6 ?_
        refine aGP 7 rfl (KF (o':=9) Try.underlying35 rfl rfl rfl sz_33 (by decide)) ?_
        refine aGP 8 rfl (KF (o':=9) Try.underlying33 rfl rfl rfl sz_31 (by decide)) ?_
        refine aGP 9 rfl (Det.indexA (i:=0) Try.underlying31 sz_30 rfl rfl (by decide)) ?_
        refine aGD 10 rfl (Det.load (v:=.int .u64 ((y:Nat):Int)) rfl (by repeat (first|exact Mh _|apply Mt)) (by exact KK Try.underlying30 rfl ((ptl_y0 _ _ _).trans (by rw [limbX (by omega)])))) ?_
        refine aGP 11 rfl (KD rfl rfl (br_and1 (by omega))) ?_
        refine aGP 12 rfl (Kt (v:=.int .i64 (((2+o):Nat):Int)) (by show some _ = some _; rw [ho])) ?_
        refine aGP 13 rfl (KD (v:=.int .i64 ((o:Nat):Int)) rfl rfl (by rcases ho01 with rfl|rfl <;> rfl)) ?_
        refine aGP 14 rfl (KAB Try.underlying3 Try.underlying30 rfl (by omega)) ?_
        refine aGP 15 rfl (KD (v:=.bool false) rfl rfl (br_f br_neq (by omega))) ?_
        refine aP 16 rfl (Kb rfl rfl) ?_
        refine aE ?_
        refine KQ rfl ?_
        refine KM ?_
        refine KA ?_
        refine oM ?_
        refine oP (KD rfl rfl (Kq (b:=1) (by omega))) ?_
        refine oA ?_
        refine KC ?_
        have hst:=tinyP_ok V x.1 o ho01 hlo
        exact ⟨(z.1+1,z.2+1),⟨by dsimp only; omega,by dsimp only; omega,by dsimp only; rw [hz2,show z.1-2 = o by omega,show z.1+1-2 = o+1 by omega,hst]; omega⟩,by dsimp only; omega,Ko ⟨rfl,rfl,rfl,rfl,rfl,trivial⟩ (by repeat (first|exact Sel.nil _|refine Sel.cons (by repeat (first|exact Ph _|apply Pt_)) ?_))⟩
    ·
      have h34:¬ z.1<4:=h34
      refine Km ?_
      refine KA ?_
      refine oM ?_
      refine oP (KD rfl rfl (Kq (b:=1) (by omega))) ?_
      refine oA ?_
      refine KC ?_
      exact ⟨(x.1+1,z.2),⟨by dsimp only; omega,by dsimp only; rw [hz2,hun,show z.1-2 = 2 by omega]; rfl⟩,by dsimp only; omega,Ko ⟨rfl,rfl,rfl,rfl,trivial⟩ (by repeat (first|exact Sel.nil _|refine Sel.cons (by repeat (first|exact Ph _|apply Pt_)) ?_))⟩
  ·
    have h30:¬ x.1<256:=h30
    refine Km ?_
    refine KB ?_
    have hx256:x.1 = 256:=by omega
    rw [hx256,htin] at hx2
    obtain ⟨f,hf⟩:∃ f,(first%(2^7:Nat)).toNat = f:=⟨_,rfl⟩
    have hf128:f<128:=by omega
    have hfg:=first_get hnb1 (v:=f+5) (by omega) (by omega)
    refine KA ?_
    refine oP (KF (o':=0) Try.underlying26 rfl rfl rfl sz_3 (by decide)) ?_
    refine oD (dL rfl (hv:=KK Try.underlying3 rfl (by first|rfl|exact Ka _ _ _ (by omega)|exact KZ _ (by omega)|exact KY _ (by omega)|exact dv_m _ _ _ (by omega)))) ?_
    refine oM ?_
    refine oP (KH (KD rfl rfl (br_andI first (m:=127) 7 (by decide) rfl)) (show _ = .int .i64 ((f:Nat):Int) from by rw [hf])) ?_
    refine oP (KD rfl rfl (Kq (b:=5) (by omega))) ?_
    refine oP (KH (Det.conv8 Try.underlying3 Try.underlying5 rfl) (vi (b:=(f+5)) (Nat.mod_eq_of_lt (by omega)))) ?_
    refine oS (mk (KAD Try.underlying66 inf_5 rfl rfl rfl rfl (by decide) rfl) (fun b76=>?_))
    refine oD (Det.bytesStr (f:=threeF (f+5) 2 84) Try.underlying66 Try.underlying5 Try.underlying9 rfl (by repeat (first|exact Mh _|apply Mt)) (by rfl)) ?_
    refine oS (cF rfl en_41 rfl (fun w hw=>c_s_GetE 0 0 2102 V.id V (threeS (f+5) 2 84) w h2 (three_size _ _ _) hfg) ?_)
    refine oM ?_
    refine oP (Det.extract rfl rfl) ?_
    refine oP (Det.extract rfl rfl) ?_
    refine oS (mk (KV zr_35) (fun b12=>?_))
    refine KT rfl (sA rfl rfl sz_35 (by exact Kd _ _ _) (hl:=by exact KO _ _ _) (h:=?_))
    refine oA ?_
    refine KC ?_
    refine KB (KA ?_)
    refine oM ?_
    refine oP (KF (o':=4) Try.underlying26 rfl rfl rfl sz_24 (by decide)) ?_
    refine oD (dL rfl (hv:=KK Try.underlying24 rfl (by first|rfl|exact Ka _ _ _ (by omega)|exact KZ _ (by omega)|exact KY _ (by omega)|exact dv_m _ _ _ (by omega)))) ?_
    refine oP (KAS (i:=0) Try.underlying24 sz_67 rfl rfl (by omega)) ?_
    refine oD (Det.loadF (n:=D.nw V.n) Try.underlying67 rfl rfl (fun w hw=>crvI_n (mC hw)) (by omega)) ?_
    refine oP (KH (KAV Try.underlying67 Try.underlying3 rfl (Nat.lt_trans (D.limb_lt _ _) (by decide))) (vi (b:=V.n) (one_digit hnw1))) ?_
    refine oP (KD rfl rfl (KAZ (b:=1) (by omega) (by omega))) ?_
    refine oP (KD (v:=.bool true) rfl rfl (br_t KAC (by omega))) ?_
    refine oM ?_
    refine oGM ?_
    refine oGS (cF rfl en_33 rfl (fun w hw=>c_Num _ w) ?_)
    refine oGP (KD (v:=.bool true) rfl rfl (br_t (KAC (b:=2102)) (rfl))) ?_
    refine oP (Kh rfl rfl) ?_
    refine oA ?_
    refine KC (KL ?_)
    refine ⟨[_],.cons rfl .nil,fun a w' hr=>⟨?_,hr.fr.below⟩⟩
    rfl
end Go.Proofs.Ytlmiolnccgjjjaa
