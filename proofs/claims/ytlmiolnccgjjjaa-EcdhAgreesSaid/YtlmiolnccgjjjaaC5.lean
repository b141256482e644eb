/- Part 5 of what the proof leans on: a symbolic execution of the model, walks of the program's functions, and the mathematics. No condition. -/
import Derived.WalkKit
import Derived.Orders
import Derived.Laws.StructEq
import Derived.WalkSpells
import Derived.OrdersHeld
import Derived.KernelRfl
import Derived.Laws.Externs
import Derived.Laws.Bits64
import Derived.Laws.MakeOwn
import Derived.Laws.BytesString
import Derived.Carry
import Derived.WideShapes
import GoSem.Claim
import Derived.Test.YtlmiolnccgjjjaaProg
import Derived.Laws.AppendOwn
import Derived.Test.YtlmiolnccgjjjaaRows
import Derived.ProofKit
import Derived.OpenShut
import Derived.Test.YtlmiolnccgjjjaaC4
set_option linter.unusedVariables false
set_option linter.unusedSimpArgs false
set_option maxRecDepth 20000
namespace Go.Proofs.Ytlmiolnccgjjjaa
open Go Go.RowKit
def b0 (s:ByteArray):Nat:=(s.data.toList.getD 0 0).toNat
theorem b0_lt (s:ByteArray):b0 s<256:=UInt8.toNat_lt _
def getX (V:Cv) (s:ByteArray):Nat:=beVal (s.extract 1 (1+nby V.p)).data.toList
def getY (V:Cv) (s:ByteArray):Nat:=beVal (s.extract (1+nby V.p) s.size).data.toList
def getT (V:Cv) (s:ByteArray):Nat×Nat×Nat :=
  if s.size = 1+nby V.p∧(b0 s = 2∨b0 s = 3) then (if (liftT V (getX V s) (b0 s-2)).2.2 = true then ((liftT V (getX V s) (b0 s-2)).1,(liftT V (getX V s) (b0 s-2)).2.1,0) else (0,0,2101))
  else if s.size = 1+2*nby V.p∧b0 s = 4 then (if onB V.p V.a V.b (getX V s) (getY V s) false = true then (getX V s,getY V s,0) else (0,0,2101))
  else (0,0,2102)
def getV (V:Cv) (s:ByteArray):Value:=.tuple #[ptV (getT V s).1 (getT V s).2.1 false,.int .i64 (((getT V s).2.2:Nat):Int)]
theorem getV_eq {V:Cv} {s:ByteArray} {X Y e:Nat} (h:getT V s = (X,Y,e)):getV V s = .tuple #[ptV X Y false,.int .i64 ((e:Nat):Int)]:=by unfold getV; rw [h]
theorem get_form {V:Cv} {s:ByteArray} (h1:¬ (s.size = 1+nby V.p∧(b0 s = 2∨b0 s = 3))) (h2:¬ (s.size = 1+2*nby V.p∧b0 s = 4)):getT V s = (0,0,2102):=by unfold getT; rw [if_neg h1,if_neg h2]
theorem get_short {V:Cv} {s:ByteArray} {o X Y:Nat} (h1:s.size = 1+nby V.p) (ho:b0 s = 2+o) (ho1:o≤1) (h:liftT V (getX V s) o = (X,Y,true)):getT V s = (X,Y,0):=by
  unfold getT
  rw [if_pos ⟨h1,by omega⟩,ho,Nat.add_sub_cancel_left,h]; rfl
theorem get_shortF {V:Cv} {s:ByteArray} {o X Y:Nat} (h1:s.size = 1+nby V.p) (ho:b0 s = 2+o) (ho1:o≤1) (h:liftT V (getX V s) o = (X,Y,false)):getT V s = (0,0,2101):=by
  unfold getT
  rw [if_pos ⟨h1,by omega⟩,ho,Nat.add_sub_cancel_left,h]; rfl
theorem get_long {V:Cv} {s:ByteArray} (h1:s.size = 1+2*nby V.p) (hb:b0 s = 4) (h:onB V.p V.a V.b (getX V s) (getY V s) false = true):getT V s = (getX V s,getY V s,0):=by
  unfold getT
  rw [if_neg (by omega),if_pos ⟨h1,hb⟩,if_pos h]
theorem get_longF {V:Cv} {s:ByteArray} (h1:s.size = 1+2*nby V.p) (hb:b0 s = 4) (h:onB V.p V.a V.b (getX V s) (getY V s) false = false):getT V s = (0,0,2101):=by
  unfold getT
  rw [if_neg (by omega),if_pos ⟨h1,hb⟩,if_neg (by rw [h]; decide)]
theorem ext_ext (s:ByteArray) (k:Nat) (h:1+k≤s.size):(s.extract 1 s.size).extract 0 k = s.extract 1 (1+k):=by
  rw [ByteArray.extract_extract]
  congr 1; omega
theorem ext_ext2 (s:ByteArray) (k:Nat) (h:1+k≤s.size):(s.extract 1 s.size).extract k (s.extract 1 s.size).size = s.extract (1+k) s.size:=by
  rw [ByteArray.extract_extract,ext_size _ _ _ (Nat.le_refl _)]
  congr 1; omega
theorem ptX_set0 (X Y X':Nat) (i:Bool):splice (ptL X Y i) 0 (natL X') = ptL X' Y i:=splice_mid (A:=[]) (B:=natL X) (D:=natL Y++[.bool i]) (by simp [ptL]) rfl (by rw [KD,KD]) (by simp [ptL])
theorem ptX_set9 (X Y Y':Nat) (i:Bool):splice (ptL X Y i) 9 (natL Y') = ptL X Y' i:=splice_mid (A:=natL X) (B:=natL Y) (D:=[.bool i]) (by simp [ptL]) (KD _) (by rw [KD,KD]) (by simp [ptL])
theorem ptX_zero:(vec .u64 9 (fun _=>0)++(vec .u64 9 (fun _=>0)++[Value.bool false]):List Value) = ptL 0 0 false:=by
  unfold ptL natL; rw [vec_zeros 9]
theorem c_nat_OfX (X:Nat) (s:ByteArray) (w:World) (h:s.size≤72) (hX:beVal s.data.toList = X):Calls Try.prog 90 ([.string s]:List Value).toArray w (fun e w'=>e = .returned (.tuple #[natV X,.int .i64 ((0:Nat):Int)])∧Below w.heap.size w w'):=hX ▸ c_nat_OfOK s w h
theorem c_liftX (Z:Nat×Nat×Bool) (V:Cv) (b f bd:Nat) (hok:V.Ok) (X odd:Nat) (w:World) (hb:(Item.blk b ⟨false,opL V f,129,(0,0)⟩).holds w) (hf:(Item.blk f ⟨false,fldL V.p bd,162,(0,0)⟩).holds w) (hbd:(Item.blk bd ⟨false,dvL V.p,212,(0,0)⟩).holds w) (hX:X<W9) (hodd:odd≤1) (hZ:liftT V X odd = Z):Calls Try.prog 91 ([.pointer (some ⟨b,0,none⟩),natV X,.int .i64 ((odd:Nat):Int)]:List Value).toArray w (fun e w'=>e = .returned (.tuple #[ptV Z.1 Z.2.1 false,.bool Z.2.2])∧Below w.heap.size w w'):=by
  subst hZ; exact c_lift V b f bd hok X odd w hb hf hbd hX hodd
theorem emp_t:((⟨#[]⟩:ByteArray).toList == (⟨#[]⟩:ByteArray).toList) = true:=by simp
theorem emp_f {s:ByteArray} (h:s.size≠0):(s.toList == (⟨#[]⟩:ByteArray).toList) = false:=by
  cases h1:(s.toList == (⟨#[]⟩:ByteArray).toList) with
  | false=>rfl
  | true =>
    rw [eq_str,decide_eq_true_eq] at h1
    have h2:s.data.size = 0:=by rw [← Array.length_toList,h1]; rfl
    exact absurd h2 h
theorem c_s_Get_emp (id:Int) (V:Cv) (w:World) (h:cvI id = some V):Calls Try.prog 41 ([.int .i64 id,.string ⟨#[]⟩]:List Value).toArray w (fun e w'=>e = .returned (.tuple #[ptV 0 0 false,.int .i64 ((2102:Nat):Int)])∧Below w.heap.size w w'):=by
  obtain ⟨hok,hid⟩:=cvI_ok h
  have hbb:=hok.bounds
  have hpW:V.p<W9:=KAF hbb.2.1
  have hnW:V.n<W9:=KAF hbb.2.2.2.2.2.2.1
  have hbl:=KAe hnW
  have hnb:nby V.n≤72:=by (unfold nby; omega)
  have hnp:nby V.p≤72:=by have:=KAe (KAF hbb.2.1); (unfold nby; omega)
  refine Kf (N:=102) (rs:=[.cell 4 35,.tmp 5]) [] Try.func41 rfl Try.ntmps41 Try.results41 (Nb rfl) trivial rfl ?_
  show LCode _ _ _ ⟨_,_⟩ _
  refine KB (KA ?_)
  refine oS (mk (KS zr_35) (fun b4=>?_))
  refine oP (KX (v:=.int .i64 ((0:Nat):Int)) rfl) ?_
  refine KC ?_
  refine KB (KA ?_)
  refine oM ?_
  refine oS (KAK (Post:=fun v its=>∃ b f bd,v = .pointer (some ⟨b,0,none⟩)∧its = [.blk b ⟨false,opL V f,129,(0,0)⟩,.blk f ⟨false,fldL V.p bd,162,(0,0)⟩,.blk bd ⟨false,dvL V.p,212,(0,0)⟩]) (first:=[]) rfl en_80 rfl (Nb rfl) (fun w1 hw hs=>(c_Open _ V w1 h).mono fun e w' ⟨b,f,bd,h1,h2,h3,h4,h5,h6,h7,h8⟩=>⟨_,_,⟨b,f,bd,rfl,rfl⟩,h1,KAN h8 (by intro x hx; simp at hx; rcases hx with rfl|rfl|rfl; exact h2; exact h3; exact h4) (by intro x hx; simp at hx; rcases hx with rfl|rfl|rfl <;> rfl) (by intro x hx k hk; simp at hx; rcases hx with rfl|rfl|rfl <;> simp [Item.fp] at hk <;> subst hk; exact .inl h5; exact .inl h6; exact .inl h7)⟩) ?_)
  rintro _ _ ⟨b,f,bd,rfl,rfl⟩
  refine oA ?_
  refine KC ?_
  refine KB ?_
  refine KB (KA ?_)
  refine oM ?_
  refine oP (KK (Det.eqp Try.underlying110 rfl rfl) (show _ = Value.bool false from rfl)) ?_
  refine KC ?_
  refine KQ rfl ?_
  refine KR ?_
  refine KB ?_
  refine KB (KA ?_)
  refine oM ?_
  refine oP (KK (Det.eqs rfl rfl) (congrArg Value.bool (emp_t))) ?_
  refine KC ?_
  refine Ke rfl ?_
  refine KB (KA ?_)
  refine oP (KK (Kw pl_35 zr_35 rfl rfl) pt_zero) ?_
  refine KU rfl (sA rfl rfl sz_35 (by exact Kb _ _ _) (hl:=by exact KJ _ _ _) (h:=?_))
  refine oP (KX (v:=.int .i64 ((2102:Nat):Int)) rfl) ?_
  refine KC (KO ?_)
  refine ⟨[_,_],.cons ⟨_,_,_,rfl,(by repeat (first|exact Mh _|apply Mt)),by exact KG Try.underlying35 rfl sz_35⟩ (.cons rfl .nil),fun a' w' hr=>⟨?_,hr.fr.below⟩⟩
  skip
  rfl
theorem c_s_Get_s0 (id:Int) (V:Cv) (s:ByteArray) (X X' Y':Nat) (ok:Bool) (w:World) (h:cvI id = some V) (hsz:s.size = 1+nby V.p) (hb:b0 s = 2) (hX:beVal (s.extract 1 s.size).data.toList = X) (hXw:X<W9) (hl:liftT V X 0 = (X',Y',ok)):Calls Try.prog 41 ([.int .i64 id,.string s]:List Value).toArray w (fun e w'=>e = .returned (getV V s)∧Below w.heap.size w w'):=by
  obtain ⟨hok,hid⟩:=cvI_ok h
  have hbb:=hok.bounds
  have hpW:V.p<W9:=KAF hbb.2.1
  have hnW:V.n<W9:=KAF hbb.2.2.2.2.2.2.1
  have hbl:=KAe hnW
  have hnb:nby V.n≤72:=by (unfold nby; omega)
  have hnp:nby V.p≤72:=by have:=KAe (KAF hbb.2.1); (unfold nby; omega)
  have hs0:s.size≠0:=by omega
  refine Kf (N:=102) (rs:=[.cell 4 35,.tmp 5]) [] Try.func41 rfl Try.ntmps41 Try.results41 (Nb rfl) trivial rfl ?_
  show LCode _ _ _ ⟨_,_⟩ _
  refine KB (KA ?_)
  refine oS (mk (KS zr_35) (fun b4=>?_))
  refine oP (KX (v:=.int .i64 ((0:Nat):Int)) rfl) ?_
  refine KC ?_
  refine KB (KA ?_)
  refine oM ?_
  refine oS (KAK (Post:=fun v its=>∃ b f bd,v = .pointer (some ⟨b,0,none⟩)∧its = [.blk b ⟨false,opL V f,129,(0,0)⟩,.blk f ⟨false,fldL V.p bd,162,(0,0)⟩,.blk bd ⟨false,dvL V.p,212,(0,0)⟩]) (first:=[]) rfl en_80 rfl (Nb rfl) (fun w1 hw hs=>(c_Open _ V w1 h).mono fun e w' ⟨b,f,bd,h1,h2,h3,h4,h5,h6,h7,h8⟩=>⟨_,_,⟨b,f,bd,rfl,rfl⟩,h1,KAN h8 (by intro x hx; simp at hx; rcases hx with rfl|rfl|rfl; exact h2; exact h3; exact h4) (by intro x hx; simp at hx; rcases hx with rfl|rfl|rfl <;> rfl) (by intro x hx k hk; simp at hx; rcases hx with rfl|rfl|rfl <;> simp [Item.fp] at hk <;> subst hk; exact .inl h5; exact .inl h6; exact .inl h7)⟩) ?_)
  rintro _ _ ⟨b,f,bd,rfl,rfl⟩
  refine oA ?_
  refine KC ?_
  refine KB ?_
  refine KB (KA ?_)
  refine oM ?_
  refine oP (KK (Det.eqp Try.underlying110 rfl rfl) (show _ = Value.bool false from rfl)) ?_
  refine KC ?_
  refine KQ rfl ?_
  refine KR ?_
  refine KB ?_
  refine KB (KA ?_)
  refine oM ?_
  refine oP (KK (Det.eqs rfl rfl) (congrArg Value.bool (emp_f hs0))) ?_
  refine KC ?_
  refine KQ rfl ?_
  refine KR ?_
  refine KB ?_
  refine rD [] ?_
  refine aM 0 ?_
  refine aP 1 rfl (KK (KAH Try.underlying9 rfl rfl (by omega) (by omega)) (show _ = .int .u8 ((2:Nat):Int) from congrArg (fun n:Nat=>Value.int .u8 ((n:Nat):Int)) hb)) ?_
  refine aP 2 rfl (Det.convi Try.underlying5 Try.underlying3 rfl (by omega)) ?_
  refine aM 3 ?_
  refine aP 4 rfl (KK (Det.slStrL Try.underlying9 rfl rfl (by omega) (by omega)) (show _ = Value.string (s.extract 1 s.size) from rfl)) ?_
  refine aA 5 ?_
  refine aA 6 ?_
  refine aE ?_
  refine KB (KA ?_)
  refine oS (mk (KS zr_35) (fun b9=>?_))
  refine KC ?_
  refine KB (KA ?_)
  refine oA ?_
  refine KC ?_
  refine KB ?_
  refine LCode.block ?_
  refine KB ?_
  have hrs:(s.extract 1 s.size).size = nby V.p:=by rw [ext_size _ _ _ (Nat.le_refl _)]; omega
  refine KA ?_
  refine oM ?_
  refine oP (KH (v:=.bool true) rfl rfl (br_t (KAR (b:=2)) (rfl))) ?_
  refine oM ?_
  refine oK ?_
  refine oK ?_
  refine oP (Kn rfl rfl) ?_
  refine oM ?_
  refine oGM ?_
  refine oGP (Det.lens Try.underlying9 rfl) ?_
  refine oGM ?_
  refine oGP (KP rfl) ?_
  refine oGP (KI (o':=0) Try.underlying129 rfl rfl rfl KAS (by decide)) ?_
  refine oGP (KI (o':=57) Try.underlying126 rfl rfl rfl sz_3 (by decide)) ?_
  refine KAa rfl rfl (dL rfl (hv:=KW Try.underlying3 rfl (by exact cvC_gt_size _ _ _ _ _ _ _ _ _ _ _ _ _))) (Nb rfl) ?_
  refine oGP (KH (v:=.bool true) rfl rfl (br_t KAR (hrs))) ?_
  refine oP (Kn rfl rfl) ?_
  refine oA ?_
  refine KC ?_
  refine Ke rfl ?_
  refine KB ?_
  cases ok
  ·
    refine KA ?_
    refine oM ?_
    refine oS (cF rfl en_90 rfl (fun w hw=>c_nat_OfX X (s.extract 1 s.size) w (by omega) hX) ?_)
    refine oM ?_
    refine oP (Det.extract rfl rfl) ?_
    refine oP (Det.extract rfl rfl) ?_
    refine oS (mk (KS zr_33) (fun b11=>?_))
    refine KU rfl (sA rfl rfl sz_33 (by exact KY _) (hl:=by exact KD _) (h:=?_))
    refine oA ?_
    refine KC ?_
    refine KA ?_
    refine oM ?_
    refine oD (dL rfl (hv:=by exact KG Try.underlying33 rfl sz_33)) ?_
    refine oM ?_
    refine oP (KH (v:=.int .i64 ((0:Nat):Int)) rfl rfl (by rfl)) ?_
    refine oS (cF rfl en_91 rfl (fun w hw=>c_liftX (X',Y',false) V b f bd hok X 0 w (mC hw) (mC hw) (mC hw) hXw (by decide) hl) ?_)
    refine oM ?_
    refine oP (Det.extract rfl rfl) ?_
    refine oP (Det.extract rfl rfl) ?_
    refine KU rfl (sA rfl rfl sz_35 (by exact Kb _ _ _) (hl:=by exact KJ _ _ _) (h:=?_))
    refine oA ?_
    refine KC ?_
    refine KB ?_
    refine KB (KA ?_)
    refine oM ?_
    refine oP (KK (Det.not rfl) (show _ = Value.bool true from rfl)) ?_
    refine KC ?_
    refine Ke rfl ?_
    refine KB (KA ?_)
    refine oP (KK (Kw pl_35 zr_35 rfl rfl) pt_zero) ?_
    refine KU rfl (sA rfl rfl sz_35 (by exact Kb _ _ _) (hl:=by exact KJ _ _ _) (h:=?_))
    refine oP (KX (v:=.int .i64 ((2101:Nat):Int)) rfl) ?_
    refine KC (KO ?_)
    refine ⟨[_,_],.cons ⟨_,_,_,rfl,(by repeat (first|exact Mh _|apply Mt)),by exact KG Try.underlying35 rfl sz_35⟩ (.cons rfl .nil),fun a' w' hr=>⟨?_,hr.fr.below⟩⟩
    have hg:getX V s = X:=by unfold getX; rw [← hsz]; exact hX
    rw [← hg] at hl
    rw [getV_eq (get_shortF hsz hb (by decide) hl)]
    rfl
  ·
    refine KA ?_
    refine oM ?_
    refine oS (cF rfl en_90 rfl (fun w hw=>c_nat_OfX X (s.extract 1 s.size) w (by omega) hX) ?_)
    refine oM ?_
    refine oP (Det.extract rfl rfl) ?_
    refine oP (Det.extract rfl rfl) ?_
    refine oS (mk (KS zr_33) (fun b11=>?_))
    refine KU rfl (sA rfl rfl sz_33 (by exact KY _) (hl:=by exact KD _) (h:=?_))
    refine oA ?_
    refine KC ?_
    refine KA ?_
    refine oM ?_
    refine oD (dL rfl (hv:=by exact KG Try.underlying33 rfl sz_33)) ?_
    refine oM ?_
    refine oP (KH (v:=.int .i64 ((0:Nat):Int)) rfl rfl (by rfl)) ?_
    refine oS (cF rfl en_91 rfl (fun w hw=>c_liftX (X',Y',true) V b f bd hok X 0 w (mC hw) (mC hw) (mC hw) hXw (by decide) hl) ?_)
    refine oM ?_
    refine oP (Det.extract rfl rfl) ?_
    refine oP (Det.extract rfl rfl) ?_
    refine KU rfl (sA rfl rfl sz_35 (by exact Kb _ _ _) (hl:=by exact KJ _ _ _) (h:=?_))
    refine oA ?_
    refine KC ?_
    refine KB ?_
    refine KB (KA ?_)
    refine oM ?_
    refine oP (KK (Det.not rfl) (show _ = Value.bool false from rfl)) ?_
    refine KC ?_
    refine KQ rfl ?_
    refine KR ?_
    refine KB (KA ?_)
    refine oD (dL rfl (hv:=by exact KG Try.underlying35 rfl sz_35)) ?_
    refine KU rfl (sA rfl rfl sz_35 (by exact Kb _ _ _) (hl:=by exact KJ _ _ _) (h:=?_))
    refine oP (KX (v:=.int .i64 ((0:Nat):Int)) rfl) ?_
    refine KC (KO ?_)
    refine ⟨[_,_],.cons ⟨_,_,_,rfl,(by repeat (first|exact Mh _|apply Mt)),by exact KG Try.underlying35 rfl sz_35⟩ (.cons rfl .nil),fun a' w' hr=>⟨?_,hr.fr.below⟩⟩
    have hg:getX V s = X:=by unfold getX; rw [← hsz]; exact hX
    rw [← hg] at hl
    rw [getV_eq (get_short hsz hb (by decide) hl)]
    rfl
theorem c_s_Get_s1 (id:Int) (V:Cv) (s:ByteArray) (X X' Y':Nat) (ok:Bool) (w:World) (h:cvI id = some V) (hsz:s.size = 1+nby V.p) (hb:b0 s = 3) (hX:beVal (s.extract 1 s.size).data.toList = X) (hXw:X<W9) (hl:liftT V X 1 = (X',Y',ok)):Calls Try.prog 41 ([.int .i64 id,.string s]:List Value).toArray w (fun e w'=>e = .returned (getV V s)∧Below w.heap.size w w'):=by
  obtain ⟨hok,hid⟩:=cvI_ok h
  have hbb:=hok.bounds
  have hpW:V.p<W9:=KAF hbb.2.1
  have hnW:V.n<W9:=KAF hbb.2.2.2.2.2.2.1
  have hbl:=KAe hnW
  have hnb:nby V.n≤72:=by (unfold nby; omega)
  have hnp:nby V.p≤72:=by have:=KAe (KAF hbb.2.1); (unfold nby; omega)
  have hs0:s.size≠0:=by omega
  refine Kf (N:=102) (rs:=[.cell 4 35,.tmp 5]) [] Try.func41 rfl Try.ntmps41 Try.results41 (Nb rfl) trivial rfl ?_
  show LCode _ _ _ ⟨_,_⟩ _
  refine KB (KA ?_)
  refine oS (mk (KS zr_35) (fun b4=>?_))
  refine oP (KX (v:=.int .i64 ((0:Nat):Int)) rfl) ?_
  refine KC ?_
  refine KB (KA ?_)
  refine oM ?_
  refine oS (KAK (Post:=fun v its=>∃ b f bd,v = .pointer (some ⟨b,0,none⟩)∧its = [.blk b ⟨false,opL V f,129,(0,0)⟩,.blk f ⟨false,fldL V.p bd,162,(0,0)⟩,.blk bd ⟨false,dvL V.p,212,(0,0)⟩]) (first:=[]) rfl en_80 rfl (Nb rfl) (fun w1 hw hs=>(c_Open _ V w1 h).mono fun e w' ⟨b,f,bd,h1,h2,h3,h4,h5,h6,h7,h8⟩=>⟨_,_,⟨b,f,bd,rfl,rfl⟩,h1,KAN h8 (by intro x hx; simp at hx; rcases hx with rfl|rfl|rfl; exact h2; exact h3; exact h4) (by intro x hx; simp at hx; rcases hx with rfl|rfl|rfl <;> rfl) (by intro x hx k hk; simp at hx; rcases hx with rfl|rfl|rfl <;> simp [Item.fp] at hk <;> subst hk; exact .inl h5; exact .inl h6; exact .inl h7)⟩) ?_)
  rintro _ _ ⟨b,f,bd,rfl,rfl⟩
  refine oA ?_
  refine KC ?_
  refine KB ?_
  refine KB (KA ?_)
  refine oM ?_
  refine oP (KK (Det.eqp Try.underlying110 rfl rfl) (show _ = Value.bool false from rfl)) ?_
  refine KC ?_
  refine KQ rfl ?_
  refine KR ?_
  refine KB ?_
  refine KB (KA ?_)
  refine oM ?_
  refine oP (KK (Det.eqs rfl rfl) (congrArg Value.bool (emp_f hs0))) ?_
  refine KC ?_
  refine KQ rfl ?_
  refine KR ?_
  refine KB ?_
  refine rD [] ?_
  refine aM 0 ?_
  refine aP 1 rfl (KK (KAH Try.underlying9 rfl rfl (by omega) (by omega)) (show _ = .int .u8 ((3:Nat):Int) from congrArg (fun n:Nat=>Value.int .u8 ((n:Nat):Int)) hb)) ?_
  refine aP 2 rfl (Det.convi Try.underlying5 Try.underlying3 rfl (by omega)) ?_
  refine aM 3 ?_
  refine aP 4 rfl (KK (Det.slStrL Try.underlying9 rfl rfl (by omega) (by omega)) (show _ = Value.string (s.extract 1 s.size) from rfl)) ?_
  refine aA 5 ?_
  refine aA 6 ?_
  refine aE ?_
  refine KB (KA ?_)
  refine oS (mk (KS zr_35) (fun b9=>?_))
  refine KC ?_
  refine KB (KA ?_)
  refine oA ?_
  refine KC ?_
  refine KB ?_
  refine LCode.block ?_
  refine KB ?_
  have hrs:(s.extract 1 s.size).size = nby V.p:=by rw [ext_size _ _ _ (Nat.le_refl _)]; omega
  refine KA ?_
  refine oM ?_
  refine oP (KH (v:=.bool false) rfl rfl (br_f (KAR (b:=2)) (by decide))) ?_
  refine oM ?_
  refine oGM ?_
  refine oGP (KH (v:=.bool true) rfl rfl (br_t (KAR (b:=3)) (rfl))) ?_
  refine oP (Ki rfl rfl) ?_
  refine oM ?_
  refine oGM ?_
  refine oGP (Det.lens Try.underlying9 rfl) ?_
  refine oGM ?_
  refine oGP (KP rfl) ?_
  refine oGP (KI (o':=0) Try.underlying129 rfl rfl rfl KAS (by decide)) ?_
  refine oGP (KI (o':=57) Try.underlying126 rfl rfl rfl sz_3 (by decide)) ?_
  refine KAa rfl rfl (dL rfl (hv:=KW Try.underlying3 rfl (by exact cvC_gt_size _ _ _ _ _ _ _ _ _ _ _ _ _))) (Nb rfl) ?_
  refine oGP (KH (v:=.bool true) rfl rfl (br_t KAR (hrs))) ?_
  refine oP (Kn rfl rfl) ?_
  refine oA ?_
  refine KC ?_
  refine Ke rfl ?_
  refine KB ?_
  cases ok
  ·
    refine KA ?_
    refine oM ?_
    refine oS (cF rfl en_90 rfl (fun w hw=>c_nat_OfX X (s.extract 1 s.size) w (by omega) hX) ?_)
    refine oM ?_
    refine oP (Det.extract rfl rfl) ?_
    refine oP (Det.extract rfl rfl) ?_
    refine oS (mk (KS zr_33) (fun b11=>?_))
    refine KU rfl (sA rfl rfl sz_33 (by exact KY _) (hl:=by exact KD _) (h:=?_))
    refine oA ?_
    refine KC ?_
    refine KA ?_
    refine oM ?_
    refine oD (dL rfl (hv:=by exact KG Try.underlying33 rfl sz_33)) ?_
    refine oM ?_
    refine oP (KH (v:=.int .i64 ((1:Nat):Int)) rfl rfl (by rfl)) ?_
    refine oS (cF rfl en_91 rfl (fun w hw=>c_liftX (X',Y',false) V b f bd hok X 1 w (mC hw) (mC hw) (mC hw) hXw (by decide) hl) ?_)
    refine oM ?_
    refine oP (Det.extract rfl rfl) ?_
    refine oP (Det.extract rfl rfl) ?_
    refine KU rfl (sA rfl rfl sz_35 (by exact Kb _ _ _) (hl:=by exact KJ _ _ _) (h:=?_))
    refine oA ?_
    refine KC ?_
    refine KB ?_
    refine KB (KA ?_)
    refine oM ?_
    refine oP (KK (Det.not rfl) (show _ = Value.bool true from rfl)) ?_
    refine KC ?_
    refine Ke rfl ?_
    refine KB (KA ?_)
    refine oP (KK (Kw pl_35 zr_35 rfl rfl) pt_zero) ?_
    refine KU rfl (sA rfl rfl sz_35 (by exact Kb _ _ _) (hl:=by exact KJ _ _ _) (h:=?_))
    refine oP (KX (v:=.int .i64 ((2101:Nat):Int)) rfl) ?_
    refine KC (KO ?_)
    refine ⟨[_,_],.cons ⟨_,_,_,rfl,(by repeat (first|exact Mh _|apply Mt)),by exact KG Try.underlying35 rfl sz_35⟩ (.cons rfl .nil),fun a' w' hr=>⟨?_,hr.fr.below⟩⟩
    have hg:getX V s = X:=by unfold getX; rw [← hsz]; exact hX
    rw [← hg] at hl
    rw [getV_eq (get_shortF hsz hb (by decide) hl)]
    rfl
  ·
    refine KA ?_
    refine oM ?_
    refine oS (cF rfl en_90 rfl (fun w hw=>c_nat_OfX X (s.extract 1 s.size) w (by omega) hX) ?_)
    refine oM ?_
    refine oP (Det.extract rfl rfl) ?_
    refine oP (Det.extract rfl rfl) ?_
    refine oS (mk (KS zr_33) (fun b11=>?_))
    refine KU rfl (sA rfl rfl sz_33 (by exact KY _) (hl:=by exact KD _) (h:=?_))
    refine oA ?_
    refine KC ?_
    refine KA ?_
    refine oM ?_
    refine oD (dL rfl (hv:=by exact KG Try.underlying33 rfl sz_33)) ?_
    refine oM ?_
    refine oP (KH (v:=.int .i64 ((1:Nat):Int)) rfl rfl (by rfl)) ?_
    refine oS (cF rfl en_91 rfl (fun w hw=>c_liftX (X',Y',true) V b f bd hok X 1 w (mC hw) (mC hw) (mC hw) hXw (by decide) hl) ?_)
    refine oM ?_
    refine oP (Det.extract rfl rfl) ?_
    refine oP (Det.extract rfl rfl) ?_
    refine KU rfl (sA rfl rfl sz_35 (by exact Kb _ _ _) (hl:=by exact KJ _ _ _) (h:=?_))
    refine oA ?_
    refine KC ?_
    refine KB ?_
    refine KB (KA ?_)
    refine oM ?_
    refine oP (KK (Det.not rfl) (show _ = Value.bool false from rfl)) ?_
    refine KC ?_
    refine KQ rfl ?_
    refine KR ?_
    refine KB (KA ?_)
    refine oD (dL rfl (hv:=by exact KG Try.underlying35 rfl sz_35)) ?_
    refine KU rfl (sA rfl rfl sz_35 (by exact Kb _ _ _) (hl:=by exact KJ _ _ _) (h:=?_))
    refine oP (KX (v:=.int .i64 ((0:Nat):Int)) rfl) ?_
    refine KC (KO ?_)
    refine ⟨[_,_],.cons ⟨_,_,_,rfl,(by repeat (first|exact Mh _|apply Mt)),by exact KG Try.underlying35 rfl sz_35⟩ (.cons rfl .nil),fun a' w' hr=>⟨?_,hr.fr.below⟩⟩
    have hg:getX V s = X:=by unfold getX; rw [← hsz]; exact hX
    rw [← hg] at hl
    rw [getV_eq (get_short hsz hb (by decide) hl)]
    rfl
theorem c_s_Get_f2 (id:Int) (V:Cv) (s:ByteArray) (w:World) (h:cvI id = some V) (hs0:s.size≠0) (hs:s.size<9223372036854775808) (hb:b0 s = 2) (hsz:s.size≠1+nby V.p):Calls Try.prog 41 ([.int .i64 id,.string s]:List Value).toArray w (fun e w'=>e = .returned (.tuple #[ptV 0 0 false,.int .i64 ((2102:Nat):Int)])∧Below w.heap.size w w'):=by
  obtain ⟨hok,hid⟩:=cvI_ok h
  have hbb:=hok.bounds
  have hpW:V.p<W9:=KAF hbb.2.1
  have hnW:V.n<W9:=KAF hbb.2.2.2.2.2.2.1
  have hbl:=KAe hnW
  have hnb:nby V.n≤72:=by (unfold nby; omega)
  have hnp:nby V.p≤72:=by have:=KAe (KAF hbb.2.1); (unfold nby; omega)
  have hb256:=b0_lt s
  refine Kf (N:=102) (rs:=[.cell 4 35,.tmp 5]) [] Try.func41 rfl Try.ntmps41 Try.results41 (Nb rfl) trivial rfl ?_
  show LCode _ _ _ ⟨_,_⟩ _
  refine KB (KA ?_)
  refine oS (mk (KS zr_35) (fun b4=>?_))
  refine oP (KX (v:=.int .i64 ((0:Nat):Int)) rfl) ?_
  refine KC ?_
  refine KB (KA ?_)
  refine oM ?_
  refine oS (KAK (Post:=fun v its=>∃ b f bd,v = .pointer (some ⟨b,0,none⟩)∧its = [.blk b ⟨false,opL V f,129,(0,0)⟩,.blk f ⟨false,fldL V.p bd,162,(0,0)⟩,.blk bd ⟨false,dvL V.p,212,(0,0)⟩]) (first:=[]) rfl en_80 rfl (Nb rfl) (fun w1 hw hs=>(c_Open _ V w1 h).mono fun e w' ⟨b,f,bd,h1,h2,h3,h4,h5,h6,h7,h8⟩=>⟨_,_,⟨b,f,bd,rfl,rfl⟩,h1,KAN h8 (by intro x hx; simp at hx; rcases hx with rfl|rfl|rfl; exact h2; exact h3; exact h4) (by intro x hx; simp at hx; rcases hx with rfl|rfl|rfl <;> rfl) (by intro x hx k hk; simp at hx; rcases hx with rfl|rfl|rfl <;> simp [Item.fp] at hk <;> subst hk; exact .inl h5; exact .inl h6; exact .inl h7)⟩) ?_)
  rintro _ _ ⟨b,f,bd,rfl,rfl⟩
  refine oA ?_
  refine KC ?_
  refine KB ?_
  refine KB (KA ?_)
  refine oM ?_
  refine oP (KK (Det.eqp Try.underlying110 rfl rfl) (show _ = Value.bool false from rfl)) ?_
  refine KC ?_
  refine KQ rfl ?_
  refine KR ?_
  refine KB ?_
  refine KB (KA ?_)
  refine oM ?_
  refine oP (KK (Det.eqs rfl rfl) (congrArg Value.bool (emp_f hs0))) ?_
  refine KC ?_
  refine KQ rfl ?_
  refine KR ?_
  refine KB ?_
  refine rD [] ?_
  refine aM 0 ?_
  refine aP 1 rfl (KK (KAH Try.underlying9 rfl rfl (by omega) (by omega)) (show _ = .int .u8 ((2:Nat):Int) from congrArg (fun n:Nat=>Value.int .u8 ((n:Nat):Int)) hb)) ?_
  refine aP 2 rfl (Det.convi Try.underlying5 Try.underlying3 rfl (by omega)) ?_
  refine aM 3 ?_
  refine aP 4 rfl (KK (Det.slStrL Try.underlying9 rfl rfl (by omega) (by omega)) (show _ = Value.string (s.extract 1 s.size) from rfl)) ?_
  refine aA 5 ?_
  refine aA 6 ?_
  refine aE ?_
  refine KB (KA ?_)
  refine oS (mk (KS zr_35) (fun b9=>?_))
  refine KC ?_
  refine KB (KA ?_)
  refine oA ?_
  refine KC ?_
  refine KB ?_
  refine LCode.block ?_
  refine KB ?_
  have hrs:(s.extract 1 s.size).size = s.size-1:=by rw [ext_size _ _ _ (Nat.le_refl _)]
  refine KA ?_
  refine oM ?_
  refine oP (KH (v:=.bool true) rfl rfl (br_t (KAR (b:=2)) (rfl))) ?_
  refine oM ?_
  refine oK ?_
  refine oK ?_
  refine oP (Kn rfl rfl) ?_
  refine oM ?_
  refine oGM ?_
  refine oGP (Det.lens Try.underlying9 rfl) ?_
  refine oGM ?_
  refine oGP (KP rfl) ?_
  refine oGP (KI (o':=0) Try.underlying129 rfl rfl rfl KAS (by decide)) ?_
  refine oGP (KI (o':=57) Try.underlying126 rfl rfl rfl sz_3 (by decide)) ?_
  refine KAa rfl rfl (dL rfl (hv:=KW Try.underlying3 rfl (by exact cvC_gt_size _ _ _ _ _ _ _ _ _ _ _ _ _))) (Nb rfl) ?_
  refine oGP (KH (v:=.bool false) rfl rfl (br_f KAR ((by omega)))) ?_
  refine oP (Kn rfl rfl) ?_
  refine oA ?_
  refine KC ?_
  refine KQ rfl ?_
  refine KB (KA ?_)
  refine oM ?_
  refine oP (KH (v:=.bool false) rfl rfl (br_f (KAR (b:=4)) (by decide))) ?_
  refine oM ?_
  refine oK ?_
  refine oK ?_
  refine oK ?_
  refine oK ?_
  refine oK ?_
  refine oK ?_
  refine oK ?_
  refine oK ?_
  refine oK ?_
  refine oP (Ki rfl rfl) ?_
  refine oA ?_
  refine KC ?_
  refine KQ rfl ?_
  refine KB (KA ?_)
  refine oP (KK (Kw pl_35 zr_35 rfl rfl) pt_zero) ?_
  refine KU rfl (sA rfl rfl sz_35 (by exact Kb _ _ _) (hl:=by exact KJ _ _ _) (h:=?_))
  refine oP (KX (v:=.int .i64 ((2102:Nat):Int)) rfl) ?_
  refine KC (KO ?_)
  refine ⟨[_,_],.cons ⟨_,_,_,rfl,(by repeat (first|exact Mh _|apply Mt)),by exact KG Try.underlying35 rfl sz_35⟩ (.cons rfl .nil),fun a' w' hr=>⟨?_,hr.fr.below⟩⟩
  skip
  rfl
theorem c_s_Get_f3 (id:Int) (V:Cv) (s:ByteArray) (w:World) (h:cvI id = some V) (hs0:s.size≠0) (hs:s.size<9223372036854775808) (hb:b0 s = 3) (hsz:s.size≠1+nby V.p):Calls Try.prog 41 ([.int .i64 id,.string s]:List Value).toArray w (fun e w'=>e = .returned (.tuple #[ptV 0 0 false,.int .i64 ((2102:Nat):Int)])∧Below w.heap.size w w'):=by
  obtain ⟨hok,hid⟩:=cvI_ok h
  have hbb:=hok.bounds
  have hpW:V.p<W9:=KAF hbb.2.1
  have hnW:V.n<W9:=KAF hbb.2.2.2.2.2.2.1
  have hbl:=KAe hnW
  have hnb:nby V.n≤72:=by (unfold nby; omega)
  have hnp:nby V.p≤72:=by have:=KAe (KAF hbb.2.1); (unfold nby; omega)
  have hb256:=b0_lt s
  refine Kf (N:=102) (rs:=[.cell 4 35,.tmp 5]) [] Try.func41 rfl Try.ntmps41 Try.results41 (Nb rfl) trivial rfl ?_
  show LCode _ _ _ ⟨_,_⟩ _
  refine KB (KA ?_)
  refine oS (mk (KS zr_35) (fun b4=>?_))
  refine oP (KX (v:=.int .i64 ((0:Nat):Int)) rfl) ?_
  refine KC ?_
  refine KB (KA ?_)
  refine oM ?_
  refine oS (KAK (Post:=fun v its=>∃ b f bd,v = .pointer (some ⟨b,0,none⟩)∧its = [.blk b ⟨false,opL V f,129,(0,0)⟩,.blk f ⟨false,fldL V.p bd,162,(0,0)⟩,.blk bd ⟨false,dvL V.p,212,(0,0)⟩]) (first:=[]) rfl en_80 rfl (Nb rfl) (fun w1 hw hs=>(c_Open _ V w1 h).mono fun e w' ⟨b,f,bd,h1,h2,h3,h4,h5,h6,h7,h8⟩=>⟨_,_,⟨b,f,bd,rfl,rfl⟩,h1,KAN h8 (by intro x hx; simp at hx; rcases hx with rfl|rfl|rfl; exact h2; exact h3; exact h4) (by intro x hx; simp at hx; rcases hx with rfl|rfl|rfl <;> rfl) (by intro x hx k hk; simp at hx; rcases hx with rfl|rfl|rfl <;> simp [Item.fp] at hk <;> subst hk; exact .inl h5; exact .inl h6; exact .inl h7)⟩) ?_)
  rintro _ _ ⟨b,f,bd,rfl,rfl⟩
  refine oA ?_
  refine KC ?_
  refine KB ?_
  refine KB (KA ?_)
  refine oM ?_
  refine oP (KK (Det.eqp Try.underlying110 rfl rfl) (show _ = Value.bool false from rfl)) ?_
  refine KC ?_
  refine KQ rfl ?_
  refine KR ?_
  refine KB ?_
  refine KB (KA ?_)
  refine oM ?_
  refine oP (KK (Det.eqs rfl rfl) (congrArg Value.bool (emp_f hs0))) ?_
  refine KC ?_
  refine KQ rfl ?_
  refine KR ?_
  refine KB ?_
  refine rD [] ?_
  refine aM 0 ?_
  refine aP 1 rfl (KK (KAH Try.underlying9 rfl rfl (by omega) (by omega)) (show _ = .int .u8 ((3:Nat):Int) from congrArg (fun n:Nat=>Value.int .u8 ((n:Nat):Int)) hb)) ?_
  refine aP 2 rfl (Det.convi Try.underlying5 Try.underlying3 rfl (by omega)) ?_
  refine aM 3 ?_
  refine aP 4 rfl (KK (Det.slStrL Try.underlying9 rfl rfl (by omega) (by omega)) (show _ = Value.string (s.extract 1 s.size) from rfl)) ?_
  refine aA 5 ?_
  refine aA 6 ?_
  refine aE ?_
  refine KB (KA ?_)
  refine oS (mk (KS zr_35) (fun b9=>?_))
  refine KC ?_
  refine KB (KA ?_)
  refine oA ?_
  refine KC ?_
  refine KB ?_
  refine LCode.block ?_
  refine KB ?_
  have hrs:(s.extract 1 s.size).size = s.size-1:=by rw [ext_size _ _ _ (Nat.le_refl _)]
  refine KA ?_
  refine oM ?_
  refine oP (KH (v:=.bool false) rfl rfl (br_f (KAR (b:=2)) (by decide))) ?_
  refine oM ?_
  refine oGM ?_
  refine oGP (KH (v:=.bool true) rfl rfl (br_t (KAR (b:=3)) (rfl))) ?_
  refine oP (Ki rfl rfl) ?_
  refine oM ?_
  refine oGM ?_
  refine oGP (Det.lens Try.underlying9 rfl) ?_
  refine oGM ?_
  refine oGP (KP rfl) ?_
  refine oGP (KI (o':=0) Try.underlying129 rfl rfl rfl KAS (by decide)) ?_
  refine oGP (KI (o':=57) Try.underlying126 rfl rfl rfl sz_3 (by decide)) ?_
  refine KAa rfl rfl (dL rfl (hv:=KW Try.underlying3 rfl (by exact cvC_gt_size _ _ _ _ _ _ _ _ _ _ _ _ _))) (Nb rfl) ?_
  refine oGP (KH (v:=.bool false) rfl rfl (br_f KAR ((by omega)))) ?_
  refine oP (Kn rfl rfl) ?_
  refine oA ?_
  refine KC ?_
  refine KQ rfl ?_
  refine KB (KA ?_)
  refine oM ?_
  refine oP (KH (v:=.bool false) rfl rfl (br_f (KAR (b:=4)) (by decide))) ?_
  refine oM ?_
  refine oK ?_
  refine oK ?_
  refine oK ?_
  refine oK ?_
  refine oK ?_
  refine oK ?_
  refine oK ?_
  refine oK ?_
  refine oK ?_
  refine oP (Ki rfl rfl) ?_
  refine oA ?_
  refine KC ?_
  refine KQ rfl ?_
  refine KB (KA ?_)
  refine oP (KK (Kw pl_35 zr_35 rfl rfl) pt_zero) ?_
  refine KU rfl (sA rfl rfl sz_35 (by exact Kb _ _ _) (hl:=by exact KJ _ _ _) (h:=?_))
  refine oP (KX (v:=.int .i64 ((2102:Nat):Int)) rfl) ?_
  refine KC (KO ?_)
  refine ⟨[_,_],.cons ⟨_,_,_,rfl,(by repeat (first|exact Mh _|apply Mt)),by exact KG Try.underlying35 rfl sz_35⟩ (.cons rfl .nil),fun a' w' hr=>⟨?_,hr.fr.below⟩⟩
  skip
  rfl
theorem c_s_Get_f4 (id:Int) (V:Cv) (s:ByteArray) (w:World) (h:cvI id = some V) (hs0:s.size≠0) (hs:s.size<9223372036854775808) (hb:b0 s = 4) (hsz:s.size≠1+2*nby V.p):Calls Try.prog 41 ([.int .i64 id,.string s]:List Value).toArray w (fun e w'=>e = .returned (.tuple #[ptV 0 0 false,.int .i64 ((2102:Nat):Int)])∧Below w.heap.size w w'):=by
  obtain ⟨hok,hid⟩:=cvI_ok h
  have hbb:=hok.bounds
  have hpW:V.p<W9:=KAF hbb.2.1
  have hnW:V.n<W9:=KAF hbb.2.2.2.2.2.2.1
  have hbl:=KAe hnW
  have hnb:nby V.n≤72:=by (unfold nby; omega)
  have hnp:nby V.p≤72:=by have:=KAe (KAF hbb.2.1); (unfold nby; omega)
  have hb256:=b0_lt s
  refine Kf (N:=102) (rs:=[.cell 4 35,.tmp 5]) [] Try.func41 rfl Try.ntmps41 Try.results41 (Nb rfl) trivial rfl ?_
  show LCode _ _ _ ⟨_,_⟩ _
  refine KB (KA ?_)
  refine oS (mk (KS zr_35) (fun b4=>?_))
  refine oP (KX (v:=.int .i64 ((0:Nat):Int)) rfl) ?_
  refine KC ?_
  refine KB (KA ?_)
  refine oM ?_
  refine oS (KAK (Post:=fun v its=>∃ b f bd,v = .pointer (some ⟨b,0,none⟩)∧its = [.blk b ⟨false,opL V f,129,(0,0)⟩,.blk f ⟨false,fldL V.p bd,162,(0,0)⟩,.blk bd ⟨false,dvL V.p,212,(0,0)⟩]) (first:=[]) rfl en_80 rfl (Nb rfl) (fun w1 hw hs=>(c_Open _ V w1 h).mono fun e w' ⟨b,f,bd,h1,h2,h3,h4,h5,h6,h7,h8⟩=>⟨_,_,⟨b,f,bd,rfl,rfl⟩,h1,KAN h8 (by intro x hx; simp at hx; rcases hx with rfl|rfl|rfl; exact h2; exact h3; exact h4) (by intro x hx; simp at hx; rcases hx with rfl|rfl|rfl <;> rfl) (by intro x hx k hk; simp at hx; rcases hx with rfl|rfl|rfl <;> simp [Item.fp] at hk <;> subst hk; exact .inl h5; exact .inl h6; exact .inl h7)⟩) ?_)
  rintro _ _ ⟨b,f,bd,rfl,rfl⟩
  refine oA ?_
  refine KC ?_
  refine KB ?_
  refine KB (KA ?_)
  refine oM ?_
  refine oP (KK (Det.eqp Try.underlying110 rfl rfl) (show _ = Value.bool false from rfl)) ?_
  refine KC ?_
  refine KQ rfl ?_
  refine KR ?_
  refine KB ?_
  refine KB (KA ?_)
  refine oM ?_
  refine oP (KK (Det.eqs rfl rfl) (congrArg Value.bool (emp_f hs0))) ?_
  refine KC ?_
  refine KQ rfl ?_
  refine KR ?_
  refine KB ?_
  refine rD [] ?_
  refine aM 0 ?_
  refine aP 1 rfl (KK (KAH Try.underlying9 rfl rfl (by omega) (by omega)) (show _ = .int .u8 ((4:Nat):Int) from congrArg (fun n:Nat=>Value.int .u8 ((n:Nat):Int)) hb)) ?_
  refine aP 2 rfl (Det.convi Try.underlying5 Try.underlying3 rfl (by omega)) ?_
  refine aM 3 ?_
  refine aP 4 rfl (KK (Det.slStrL Try.underlying9 rfl rfl (by omega) (by omega)) (show _ = Value.string (s.extract 1 s.size) from rfl)) ?_
  refine aA 5 ?_
  refine aA 6 ?_
  refine aE ?_
  refine KB (KA ?_)
  refine oS (mk (KS zr_35) (fun b9=>?_))
  refine KC ?_
  refine KB (KA ?_)
  refine oA ?_
  refine KC ?_
  refine KB ?_
  refine LCode.block ?_
  refine KB ?_
  have hrs:(s.extract 1 s.size).size = s.size-1:=by rw [ext_size _ _ _ (Nat.le_refl _)]
  refine KA ?_
  refine oM ?_
  refine oP (KH (v:=.bool false) rfl rfl (br_f (KAR (b:=2)) (by decide))) ?_
  refine oM ?_
  refine oGM ?_
  refine oGP (KH (v:=.bool false) rfl rfl (br_f (KAR (b:=3)) (by decide))) ?_
  refine oP (Ki rfl rfl) ?_
  refine oM ?_
  refine oK ?_
  refine oK ?_
  refine oK ?_
  refine oK ?_
  refine oK ?_
  refine oK ?_
  refine oK ?_
  refine oK ?_
  refine oP (Ki rfl rfl) ?_
  refine oA ?_
  refine KC ?_
  refine KQ rfl ?_
  refine KB (KA ?_)
  refine oM ?_
  refine oP (KH (v:=.bool true) rfl rfl (br_t (KAR (b:=4)) (rfl))) ?_
  refine oM ?_
  refine oGM ?_
  refine oGP (Det.lens Try.underlying9 rfl) ?_
  refine oGM ?_
  refine oGP (KP rfl) ?_
  refine oGP (KI (o':=0) Try.underlying129 rfl rfl rfl KAS (by decide)) ?_
  refine oGP (KI (o':=57) Try.underlying126 rfl rfl rfl sz_3 (by decide)) ?_
  refine KAa rfl rfl (dL rfl (hv:=KW Try.underlying3 rfl (by exact cvC_gt_size _ _ _ _ _ _ _ _ _ _ _ _ _))) (Nb rfl) ?_
  refine oGP (KH rfl rfl (br_mul (a:=2) (by omega))) ?_
  refine oGP (KH (v:=.bool false) rfl rfl (br_f KAR ((by omega)))) ?_
  refine oP (Kn rfl rfl) ?_
  refine oA ?_
  refine KC ?_
  refine KQ rfl ?_
  refine KB (KA ?_)
  refine oP (KK (Kw pl_35 zr_35 rfl rfl) pt_zero) ?_
  refine KU rfl (sA rfl rfl sz_35 (by exact Kb _ _ _) (hl:=by exact KJ _ _ _) (h:=?_))
  refine oP (KX (v:=.int .i64 ((2102:Nat):Int)) rfl) ?_
  refine KC (KO ?_)
  refine ⟨[_,_],.cons ⟨_,_,_,rfl,(by repeat (first|exact Mh _|apply Mt)),by exact KG Try.underlying35 rfl sz_35⟩ (.cons rfl .nil),fun a' w' hr=>⟨?_,hr.fr.below⟩⟩
  skip
  rfl
theorem c_s_Get_fo (id:Int) (V:Cv) (s:ByteArray) (w:World) (h:cvI id = some V) (hs0:s.size≠0) (hs:s.size<9223372036854775808) (hb2:b0 s≠2) (hb3:b0 s≠3) (hb4:b0 s≠4):Calls Try.prog 41 ([.int .i64 id,.string s]:List Value).toArray w (fun e w'=>e = .returned (.tuple #[ptV 0 0 false,.int .i64 ((2102:Nat):Int)])∧Below w.heap.size w w'):=by
  obtain ⟨hok,hid⟩:=cvI_ok h
  have hbb:=hok.bounds
  have hpW:V.p<W9:=KAF hbb.2.1
  have hnW:V.n<W9:=KAF hbb.2.2.2.2.2.2.1
  have hbl:=KAe hnW
  have hnb:nby V.n≤72:=by (unfold nby; omega)
  have hnp:nby V.p≤72:=by have:=KAe (KAF hbb.2.1); (unfold nby; omega)
  have hb256:=b0_lt s
  refine Kf (N:=102) (rs:=[.cell 4 35,.tmp 5]) [] Try.func41 rfl Try.ntmps41 Try.results41 (Nb rfl) trivial rfl ?_
  show LCode _ _ _ ⟨_,_⟩ _
  refine KB (KA ?_)
  refine oS (mk (KS zr_35) (fun b4=>?_))
  refine oP (KX (v:=.int .i64 ((0:Nat):Int)) rfl) ?_
  refine KC ?_
  refine KB (KA ?_)
  refine oM ?_
  refine oS (KAK (Post:=fun v its=>∃ b f bd,v = .pointer (some ⟨b,0,none⟩)∧its = [.blk b ⟨false,opL V f,129,(0,0)⟩,.blk f ⟨false,fldL V.p bd,162,(0,0)⟩,.blk bd ⟨false,dvL V.p,212,(0,0)⟩]) (first:=[]) rfl en_80 rfl (Nb rfl) (fun w1 hw hs=>(c_Open _ V w1 h).mono fun e w' ⟨b,f,bd,h1,h2,h3,h4,h5,h6,h7,h8⟩=>⟨_,_,⟨b,f,bd,rfl,rfl⟩,h1,KAN h8 (by intro x hx; simp at hx; rcases hx with rfl|rfl|rfl; exact h2; exact h3; exact h4) (by intro x hx; simp at hx; rcases hx with rfl|rfl|rfl <;> rfl) (by intro x hx k hk; simp at hx; rcases hx with rfl|rfl|rfl <;> simp [Item.fp] at hk <;> subst hk; exact .inl h5; exact .inl h6; exact .inl h7)⟩) ?_)
  rintro _ _ ⟨b,f,bd,rfl,rfl⟩
  refine oA ?_
  refine KC ?_
  refine KB ?_
  refine KB (KA ?_)
  refine oM ?_
  refine oP (KK (Det.eqp Try.underlying110 rfl rfl) (show _ = Value.bool false from rfl)) ?_
  refine KC ?_
  refine KQ rfl ?_
  refine KR ?_
  refine KB ?_
  refine KB (KA ?_)
  refine oM ?_
  refine oP (KK (Det.eqs rfl rfl) (congrArg Value.bool (emp_f hs0))) ?_
  refine KC ?_
  refine KQ rfl ?_
  refine KR ?_
  refine KB ?_
  refine rD [] ?_
  refine aM 0 ?_
  refine aP 1 rfl (KK (KAH Try.underlying9 rfl rfl (by omega) (by omega)) (show _ = .int .u8 (((b0 s):Nat):Int) from congrArg (fun n:Nat=>Value.int .u8 ((n:Nat):Int)) rfl)) ?_
  refine aP 2 rfl (Det.convi Try.underlying5 Try.underlying3 rfl (by omega)) ?_
  refine aM 3 ?_
  refine aP 4 rfl (KK (Det.slStrL Try.underlying9 rfl rfl (by omega) (by omega)) (show _ = Value.string (s.extract 1 s.size) from rfl)) ?_
  refine aA 5 ?_
  refine aA 6 ?_
  refine aE ?_
  refine KB (KA ?_)
  refine oS (mk (KS zr_35) (fun b9=>?_))
  refine KC ?_
  refine KB (KA ?_)
  refine oA ?_
  refine KC ?_
  refine KB ?_
  refine LCode.block ?_
  refine KB ?_
  have hrs:(s.extract 1 s.size).size = s.size-1:=by rw [ext_size _ _ _ (Nat.le_refl _)]
  refine KA ?_
  refine oM ?_
  refine oP (KH (v:=.bool false) rfl rfl (br_f (KAR (b:=2)) ((by omega)))) ?_
  refine oM ?_
  refine oGM ?_
  refine oGP (KH (v:=.bool false) rfl rfl (br_f (KAR (b:=3)) ((by omega)))) ?_
  refine oP (Ki rfl rfl) ?_
  refine oM ?_
  refine oK ?_
  refine oK ?_
  refine oK ?_
  refine oK ?_
  refine oK ?_
  refine oK ?_
  refine oK ?_
  refine oK ?_
  refine oP (Ki rfl rfl) ?_
  refine oA ?_
  refine KC ?_
  refine KQ rfl ?_
  refine KB (KA ?_)
  refine oM ?_
  refine oP (KH (v:=.bool false) rfl rfl (br_f (KAR (b:=4)) ((by omega)))) ?_
  refine oM ?_
  refine oK ?_
  refine oK ?_
  refine oK ?_
  refine oK ?_
  refine oK ?_
  refine oK ?_
  refine oK ?_
  refine oK ?_
  refine oK ?_
  refine oP (Ki rfl rfl) ?_
  refine oA ?_
  refine KC ?_
  refine KQ rfl ?_
  refine KB (KA ?_)
  refine oP (KK (Kw pl_35 zr_35 rfl rfl) pt_zero) ?_
  refine KU rfl (sA rfl rfl sz_35 (by exact Kb _ _ _) (hl:=by exact KJ _ _ _) (h:=?_))
  refine oP (KX (v:=.int .i64 ((2102:Nat):Int)) rfl) ?_
  refine KC (KO ?_)
  refine ⟨[_,_],.cons ⟨_,_,_,rfl,(by repeat (first|exact Mh _|apply Mt)),by exact KG Try.underlying35 rfl sz_35⟩ (.cons rfl .nil),fun a' w' hr=>⟨?_,hr.fr.below⟩⟩
  skip
  rfl
theorem c_s_Get_l (id:Int) (V:Cv) (s:ByteArray) (X Y:Nat) (ok:Bool) (w:World) (h:cvI id = some V) (hsz:s.size = 1+2*nby V.p) (hb:b0 s = 4) (hX:beVal (s.extract 1 (1+nby V.p)).data.toList = X) (hY:beVal (s.extract (1+nby V.p) s.size).data.toList = Y) (hXw:X<W9) (hYw:Y<W9) (hl:onB V.p V.a V.b X Y false = ok):Calls Try.prog 41 ([.int .i64 id,.string s]:List Value).toArray w (fun e w'=>e = .returned (getV V s)∧Below w.heap.size w w'):=by
  obtain ⟨hok,hid⟩:=cvI_ok h
  have hbb:=hok.bounds
  have hpW:V.p<W9:=KAF hbb.2.1
  have hnW:V.n<W9:=KAF hbb.2.2.2.2.2.2.1
  have hbl:=KAe hnW
  have hnb:nby V.n≤72:=by (unfold nby; omega)
  have hnp:nby V.p≤72:=by have:=KAe (KAF hbb.2.1); (unfold nby; omega)
  have hs0:s.size≠0:=by omega
  refine Kf (N:=102) (rs:=[.cell 4 35,.tmp 5]) [] Try.func41 rfl Try.ntmps41 Try.results41 (Nb rfl) trivial rfl ?_
  show LCode _ _ _ ⟨_,_⟩ _
  refine KB (KA ?_)
  refine oS (mk (KS zr_35) (fun b4=>?_))
  refine oP (KX (v:=.int .i64 ((0:Nat):Int)) rfl) ?_
  refine KC ?_
  refine KB (KA ?_)
  refine oM ?_
  refine oS (KAK (Post:=fun v its=>∃ b f bd,v = .pointer (some ⟨b,0,none⟩)∧its = [.blk b ⟨false,opL V f,129,(0,0)⟩,.blk f ⟨false,fldL V.p bd,162,(0,0)⟩,.blk bd ⟨false,dvL V.p,212,(0,0)⟩]) (first:=[]) rfl en_80 rfl (Nb rfl) (fun w1 hw hs=>(c_Open _ V w1 h).mono fun e w' ⟨b,f,bd,h1,h2,h3,h4,h5,h6,h7,h8⟩=>⟨_,_,⟨b,f,bd,rfl,rfl⟩,h1,KAN h8 (by intro x hx; simp at hx; rcases hx with rfl|rfl|rfl; exact h2; exact h3; exact h4) (by intro x hx; simp at hx; rcases hx with rfl|rfl|rfl <;> rfl) (by intro x hx k hk; simp at hx; rcases hx with rfl|rfl|rfl <;> simp [Item.fp] at hk <;> subst hk; exact .inl h5; exact .inl h6; exact .inl h7)⟩) ?_)
  rintro _ _ ⟨b,f,bd,rfl,rfl⟩
  refine oA ?_
  refine KC ?_
  refine KB ?_
  refine KB (KA ?_)
  refine oM ?_
  refine oP (KK (Det.eqp Try.underlying110 rfl rfl) (show _ = Value.bool false from rfl)) ?_
  refine KC ?_
  refine KQ rfl ?_
  refine KR ?_
  refine KB ?_
  refine KB (KA ?_)
  refine oM ?_
  refine oP (KK (Det.eqs rfl rfl) (congrArg Value.bool (emp_f hs0))) ?_
  refine KC ?_
  refine KQ rfl ?_
  refine KR ?_
  refine KB ?_
  refine rD [] ?_
  refine aM 0 ?_
  refine aP 1 rfl (KK (KAH Try.underlying9 rfl rfl (by omega) (by omega)) (show _ = .int .u8 ((4:Nat):Int) from congrArg (fun n:Nat=>Value.int .u8 ((n:Nat):Int)) hb)) ?_
  refine aP 2 rfl (Det.convi Try.underlying5 Try.underlying3 rfl (by omega)) ?_
  refine aM 3 ?_
  refine aP 4 rfl (KK (Det.slStrL Try.underlying9 rfl rfl (by omega) (by omega)) (show _ = Value.string (s.extract 1 s.size) from rfl)) ?_
  refine aA 5 ?_
  refine aA 6 ?_
  refine aE ?_
  refine KB (KA ?_)
  refine oS (mk (KS zr_35) (fun b9=>?_))
  refine KC ?_
  refine KB (KA ?_)
  refine oA ?_
  refine KC ?_
  refine KB ?_
  refine LCode.block ?_
  refine KB ?_
  have hrs:(s.extract 1 s.size).size = s.size-1:=by rw [ext_size _ _ _ (Nat.le_refl _)]
  refine KA ?_
  refine oM ?_
  refine oP (KH (v:=.bool false) rfl rfl (br_f (KAR (b:=2)) (by decide))) ?_
  refine oM ?_
  refine oGM ?_
  refine oGP (KH (v:=.bool false) rfl rfl (br_f (KAR (b:=3)) (by decide))) ?_
  refine oP (Ki rfl rfl) ?_
  refine oM ?_
  refine oK ?_
  refine oK ?_
  refine oK ?_
  refine oK ?_
  refine oK ?_
  refine oK ?_
  refine oK ?_
  refine oK ?_
  refine oP (Ki rfl rfl) ?_
  refine oA ?_
  refine KC ?_
  refine KQ rfl ?_
  refine KB (KA ?_)
  refine oM ?_
  refine oP (KH (v:=.bool true) rfl rfl (br_t (KAR (b:=4)) (rfl))) ?_
  refine oM ?_
  refine oGM ?_
  refine oGP (Det.lens Try.underlying9 rfl) ?_
  refine oGM ?_
  refine oGP (KP rfl) ?_
  refine oGP (KI (o':=0) Try.underlying129 rfl rfl rfl KAS (by decide)) ?_
  refine oGP (KI (o':=57) Try.underlying126 rfl rfl rfl sz_3 (by decide)) ?_
  refine KAa rfl rfl (dL rfl (hv:=KW Try.underlying3 rfl (by exact cvC_gt_size _ _ _ _ _ _ _ _ _ _ _ _ _))) (Nb rfl) ?_
  refine oGP (KH rfl rfl (br_mul (a:=2) (by omega))) ?_
  refine oGP (KH (v:=.bool true) rfl rfl (br_t KAR ((by omega)))) ?_
  refine oP (Kn rfl rfl) ?_
  refine oA ?_
  refine KC ?_
  refine Ke rfl ?_
  refine KB ?_
  refine LCode.sub (Sub.cells (b:=b9) (cs':=ptL 0 0 false) (by repeat (first|exact Sh _|apply St_)) ptX_zero) ?_
  refine KA ?_
  refine oM ?_
  refine oM ?_
  refine oP (KP rfl) ?_
  refine oP (KI (o':=0) Try.underlying129 rfl rfl rfl KAS (by decide)) ?_
  refine oP (KI (o':=57) Try.underlying126 rfl rfl rfl sz_3 (by decide)) ?_
  refine oD (dL rfl (hv:=KW Try.underlying3 rfl (by exact cvC_gt_size _ _ _ _ _ _ _ _ _ _ _ _ _))) ?_
  refine oP (KK (Det.slStrH Try.underlying9 rfl rfl (by omega) (by omega)) (show _ = Value.string (s.extract 1 (1+nby V.p)) from by rw [Int.toNat_natCast,ext_ext s _ (by omega)])) ?_
  refine oS (cF rfl en_90 rfl (fun w hw=>c_nat_OfX X (s.extract 1 (1+nby V.p)) w (by rw [ext_size _ _ _ (by omega)]; omega) hX) ?_)
  refine oM ?_
  refine oP (Det.extract rfl rfl) ?_
  refine oP (Det.extract rfl rfl) ?_
  refine oP (KI (o':=0) Try.underlying35 rfl rfl rfl sz_33 (by decide)) ?_
  refine KU rfl (KAA rfl rfl rfl sz_33 (KD _) (KY _) (by repeat (first|exact Sh _|apply St_)) (by simp only [KJ]; decide) (ptX_set0 _ _ _ _) (by simp) ?_)
  refine KC ?_
  refine KB (KA ?_)
  refine oM ?_
  refine oM ?_
  refine oP (KP rfl) ?_
  refine oP (KI (o':=0) Try.underlying129 rfl rfl rfl KAS (by decide)) ?_
  refine oP (KI (o':=57) Try.underlying126 rfl rfl rfl sz_3 (by decide)) ?_
  refine oD (dL rfl (hv:=KW Try.underlying3 rfl (by exact cvC_gt_size _ _ _ _ _ _ _ _ _ _ _ _ _))) ?_
  refine oP (KK (Det.slStrL Try.underlying9 rfl rfl (by omega) (by omega)) (show _ = Value.string (s.extract (1+nby V.p) s.size) from by rw [Int.toNat_natCast,ext_ext2 s _ (by omega)])) ?_
  refine oS (cF rfl en_90 rfl (fun w hw=>c_nat_OfX Y (s.extract (1+nby V.p) s.size) w (by rw [ext_size _ _ _ (Nat.le_refl _)]; omega) hY) ?_)
  refine oM ?_
  refine oP (Det.extract rfl rfl) ?_
  refine oP (Det.extract rfl rfl) ?_
  refine oP (KI (o':=9) Try.underlying35 rfl rfl rfl sz_33 (by decide)) ?_
  refine KU rfl (KAA rfl rfl rfl sz_33 (KD _) (KY _) (by repeat (first|exact Sh _|apply St_)) (by simp only [KJ]; decide) (ptX_set9 _ _ _ _) (by simp) ?_)
  refine KC ?_
  cases ok
  ·
    refine KA ?_
    refine oM ?_
    refine oD (dL rfl (hv:=by exact KG Try.underlying35 rfl sz_35)) ?_
    refine oS (cF rfl en_81 rfl (fun w hw=>c_cOnV false V b f bd hok X Y false w (mC hw) (mC hw) (mC hw) hXw hYw hl) ?_)
    refine oA ?_
    refine KC ?_
    refine KB ?_
    refine KB (KA ?_)
    refine oM ?_
    refine oP (KK (Det.not rfl) (show _ = Value.bool true from rfl)) ?_
    refine KC ?_
    refine Ke rfl ?_
    refine KB (KA ?_)
    refine oP (KK (Kw pl_35 zr_35 rfl rfl) pt_zero) ?_
    refine KU rfl (sA rfl rfl sz_35 (by exact Kb _ _ _) (hl:=by exact KJ _ _ _) (h:=?_))
    refine oP (KX (v:=.int .i64 ((2101:Nat):Int)) rfl) ?_
    refine KC (KO ?_)
    refine ⟨[_,_],.cons ⟨_,_,_,rfl,(by repeat (first|exact Mh _|apply Mt)),by exact KG Try.underlying35 rfl sz_35⟩ (.cons rfl .nil),fun a' w' hr=>⟨?_,hr.fr.below⟩⟩
    subst hX hY
    rw [getV_eq (get_longF hsz hb hl)]
    rfl
  ·
    refine KA ?_
    refine oM ?_
    refine oD (dL rfl (hv:=by exact KG Try.underlying35 rfl sz_35)) ?_
    refine oS (cF rfl en_81 rfl (fun w hw=>c_cOnV true V b f bd hok X Y false w (mC hw) (mC hw) (mC hw) hXw hYw hl) ?_)
    refine oA ?_
    refine KC ?_
    refine KB ?_
    refine KB (KA ?_)
    refine oM ?_
    refine oP (KK (Det.not rfl) (show _ = Value.bool false from rfl)) ?_
    refine KC ?_
    refine KQ rfl ?_
    refine KR ?_
    refine KB (KA ?_)
    refine oD (dL rfl (hv:=by exact KG Try.underlying35 rfl sz_35)) ?_
    refine KU rfl (sA rfl rfl sz_35 (by exact Kb _ _ _) (hl:=by exact KJ _ _ _) (h:=?_))
    refine oP (KX (v:=.int .i64 ((0:Nat):Int)) rfl) ?_
    refine KC (KO ?_)
    refine ⟨[_,_],.cons ⟨_,_,_,rfl,(by repeat (first|exact Mh _|apply Mt)),by exact KG Try.underlying35 rfl sz_35⟩ (.cons rfl .nil),fun a' w' hr=>⟨?_,hr.fr.below⟩⟩
    subst hX hY
    rw [getV_eq (get_long hsz hb hl)]
    unfold getX getY
    rfl
end Go.Proofs.Ytlmiolnccgjjjaa
set_option linter.unusedVariables false
set_option linter.unusedSimpArgs false
set_option maxRecDepth 20000
namespace Go.Proofs.Ytlmiolnccgjjjaa
open Go Go.RowKit
theorem nby_posV {V:Cv} (hok:V.Ok):1≤nby V.p:=by
  have hb:=hok.bounds
  have:=lt_blen V.p
  unfold nby
  rcases Nat.eq_zero_or_pos (blen V.p) with h|h
  · rw [h] at this; omega
  · omega
end Go.Proofs.Ytlmiolnccgjjjaa
set_option linter.unusedVariables false
set_option linter.unusedSimpArgs false
set_option maxRecDepth 20000
namespace Go.Proofs.Ytlmiolnccgjjjaa
open Go Go.RowKit
theorem getX_w9 {V:Cv} (hnb:nby V.p≤72) {s:ByteArray} (h:1+nby V.p≤s.size):getX V s<W9:=beVal_w9 (by show (s.extract 1 (1+nby V.p)).size≤72; rw [ext_size _ _ _ h]; omega)
theorem getY_w9 {V:Cv} (hnb:nby V.p≤72) {s:ByteArray} (h:s.size = 1+2*nby V.p):getY V s<W9:=beVal_w9 (by show (s.extract (1+nby V.p) s.size).size≤72; rw [ext_size _ _ _ (Nat.le_refl _)]; omega)
theorem nbp_72 {V:Cv} (hok:V.Ok):nby V.p≤72:=by have:=KAe (KAF hok.bounds.2.1); (unfold nby; omega)
theorem c_s_Get (id:Int) (V:Cv) (s:ByteArray) (w:World) (h:cvI id = some V) (hs:s.size<9223372036854775808):Calls Try.prog 41 ([.int .i64 id,.string s]:List Value).toArray w (fun e w'=>e = .returned (getV V s)∧Below w.heap.size w w'):=by
  obtain ⟨hok,-⟩:=cvI_ok h
  have hnb:=nbp_72 hok
  have hk1:=nby_posV hok
  by_cases h0:s.size = 0
  · have e : s = ⟨#[]⟩ := by
      obtain ⟨d⟩:=s
      have h1:d.size = 0:=h0
      rw [Array.size_eq_zero_iff.1 h1]
    rw [getV_eq (get_form (by omega) (by omega)),e]
    exact c_s_Get_emp id V w h
  · by_cases h2:b0 s = 2
    · by_cases h1:s.size = 1+nby V.p
      · have hx:beVal (s.extract 1 s.size).data.toList = getX V s:=by unfold getX; rw [← h1]
        exact c_s_Get_s0 id V s (getX V s) (liftT V (getX V s) 0).1 (liftT V (getX V s) 0).2.1 (liftT V (getX V s) 0).2.2 w h h1 h2 hx (getX_w9 hnb (by omega)) rfl
      · rw [getV_eq (get_form (by omega) (by omega))]
        exact c_s_Get_f2 id V s w h h0 hs h2 h1
    · by_cases h3:b0 s = 3
      · by_cases h1:s.size = 1+nby V.p
        · have hx:beVal (s.extract 1 s.size).data.toList = getX V s:=by unfold getX; rw [← h1]
          exact c_s_Get_s1 id V s (getX V s) (liftT V (getX V s) 1).1 (liftT V (getX V s) 1).2.1 (liftT V (getX V s) 1).2.2 w h h1 h3 hx (getX_w9 hnb (by omega)) rfl
        · rw [getV_eq (get_form (by omega) (by omega))]
          exact c_s_Get_f3 id V s w h h0 hs h3 h1
      · by_cases h4:b0 s = 4
        · by_cases h1:s.size = 1+2*nby V.p
          · exact c_s_Get_l id V s (getX V s) (getY V s) _ w h h1 h4 rfl rfl (getX_w9 hnb (by omega)) (getY_w9 hnb h1) rfl
          · rw [getV_eq (get_form (by omega) (by omega))]
            exact c_s_Get_f4 id V s w h h0 hs h4 h1
        · rw [getV_eq (get_form (by omega) (by omega))]
          exact c_s_Get_fo id V s w h h0 hs h2 h3 h4
end Go.Proofs.Ytlmiolnccgjjjaa
set_option linter.unusedVariables false
set_option linter.unusedSimpArgs false
set_option maxRecDepth 20000
namespace Go.Proofs.Ytlmiolnccgjjjaa
open Go Go.RowKit
theorem Rel.setOwn {C : Ctx} {st : St} {a : Act} {w w' : World} (h : Rel C st a w) {x x' : Item} {R : List Item} (hp : Pick x st.H R) (hx : x.wr = true) (hx' : x'.holds w')
    (hnew:∀ k,k∈x'.fp→w.heap.size≤k∨k∈x.fp) (hf:Fr (fun k=>k∈x.fp) w w'):Rel C ⟨st.T,x' :: R⟩ a w':=by
  have hpm:=hp.perm
  have hdist:(x :: R).Pairwise Apart:=(hpm.pairwise_iff (fun h=>Apart.symm h)).1 h.dist
  obtain ⟨hXR,hR⟩:=List.pairwise_cons.1 hdist
  have inR:∀ y,y∈R→y∈st.H:=fun y hy=>hpm.mem_iff.2 (.tail _ hy)
  have inX:x∈st.H:=hpm.mem_iff.2 (.head _)
  refine ⟨h.size,h.defers,h.tm,fun y hy=>?_,fun y hy hw k hk=>?_,?_,?_⟩
  · rcases List.mem_cons.1 hy with rfl|hy
    · exact hx'
    · have hold:=h.hp y (inR y hy)
      exact Item.holds_agree hold (fun k hk=>hf.block k (Item.lt hold k hk) (fun hkx=>hXR y hy (.inl hx) k hkx hk)) hf.size
  · rcases List.mem_cons.1 hy with rfl|hy
    · rcases hnew k hk with h1|h1
      · exact .inl (Nat.le_trans h.fr.size h1)
      · exact h.own x inX hx k h1
    · exact h.own y (inR y hy) hw k hk
  · refine List.pairwise_cons.2 ⟨fun y hy _ k hk hk'=>?_,hR⟩
    rcases hnew k hk with h1|h1
    · have:=Item.lt (h.hp y (inR y hy)) k hk'
      omega
    · exact hXR y hy (.inl hx) k h1 hk'
  · refine ⟨hf.os.trans h.fr.os,hf.tape.trans h.fr.tape,hf.output.trans h.fr.output,Nat.le_trans h.fr.size hf.size,fun k hk1 hk2=>?_⟩
    refine (hf.block k (Nat.lt_of_lt_of_le hk1 h.fr.size) (fun hkx=>?_)).trans (h.fr.block k hk1 hk2)
    rcases h.own x inX hx k hkx with h1|h1
    · omega
    · exact hk2 h1
abbrev TrRow:=Option (Nat×Nat×List Value)
def trV (b:Option Nat):Value:=.pointer (b.map fun b=>⟨b,0,none⟩)
def evsL (l:List Nat):List Value:=l.flatMap fun k=>[.int .i64 ((2:Nat):Int),.int .i64 ((k:Nat):Int)]
theorem evsL_length (l:List Nat):(evsL l).length = l.length*2:=by
  induction l with
  | nil=>rfl
  | cons k l ih =>
    show ([Value.int .i64 ((2:Nat):Int),.int .i64 ((k:Nat):Int)]++evsL l).length = _
    rw [List.length_append,ih,List.length_cons]; show 2+l.length*2 = (l.length+1)*2; omega
theorem evsL_snoc (l:List Nat) (k:Nat):evsL (l++[k]) = evsL l++[.int .i64 ((2:Nat):Int),.int .i64 ((k:Nat):Int)]:=by simp [evsL]
def trSl (r:TrRow) (n:Nat):Value:=match r with
  | none=>.slice none 0 0
  | some r=>.slice (some ⟨r.1,0,none⟩) n r.2.1
def trFp (b:Option Nat) (r:TrRow):List Nat:=match b with
  | none=>[]
  | some b=>match r with
    | none=>[b]
    | some r=>[b,r.1]
def trP (b:Option Nat) (r:TrRow) (l:List Nat) (w:World):Prop:=match b with
  | none=>True
  | some b=>w.heap[b]? = some (.cells [trSl r l.length].toArray 121 (0,0))∧match r with
    | none=>l = []
    | some r=>w.heap[r.1]? = some (.cells (evsL l++r.2.2).toArray 83 (0,0))∧(evsL l).length+r.2.2.length = r.2.1*2∧r.1≠b
def trI (b:Option Nat) (r:TrRow) (l:List Nat):Item:=.own (trFp b r) (trP b r l)
theorem trI_P {b:Option Nat} {r:TrRow} {l:List Nat} {w:World} (h:(trI b r l).holds w):trP b r l w:=h.2 w (Agree.refl _ _)
theorem trI_of {b:Option Nat} {r:TrRow} {l:List Nat} {w:World} (h:trP b r l w):(trI b r l).holds w:=by
  rcases b with _|b
  · exact ⟨fun k hk=>(by cases hk),fun _ _=>trivial⟩
  · rcases r with _|r
    · obtain ⟨h1,h2⟩:=h
      refine ⟨fun k hk=>?_,fun w' ha=>⟨(ha b (.head _)).trans h1,h2⟩⟩
      have:k = b:=by simpa [trFp] using hk
      subst this; exact lt_of_get h1
    · obtain ⟨h1,h2,h3,h4⟩:=h
      refine ⟨fun k hk=>?_,fun w' ha=>⟨(ha b (.head _)).trans h1,(ha r.1 (.tail _ (.head _))).trans h2,h3,h4⟩⟩
      have:k = b∨k = r.1:=by simpa [trFp] using hk
      rcases this with rfl|rfl
      · exact lt_of_get h1
      · exact lt_of_get h2
theorem trI_nil (l:List Nat) (w:World):(trI none none l).holds w:=trI_of trivial
def Out (b:Option Nat) (r:TrRow) (x:Item):Prop:=∀ k,k∈trFp b r→k ∉ x.fp
theorem Out.nil (r:TrRow) (x:Item):Out none r x:=fun k hk=>by cases hk
def Outs (b:Option Nat) (r:TrRow):List Item→Prop
  | []=>True
  | x :: t=>Out b r x∧Outs b r t
theorem Outs.mem {b:Option Nat} {r:TrRow} {H:List Item} (h:Outs b r H):∀ x,x∈H→Out b r x:=by
  induction H with
  | nil=>intro x hx; cases hx
  | cons y t ih =>
    intro x hx
    rcases List.mem_cons.1 hx with rfl|hx
    · exact h.1
    · exact ih h.2 x hx
def TrR (w:World) (b:Option Nat) (r:TrRow) (l:List Nat) (v:Value) (e:Ending) (w':World):Prop :=
  ∃ r',e = .returned v∧(trI b r' l).holds w'∧(∀ k,k∈trFp b r'→w.heap.size≤k∨k∈trFp b r)∧Fr (fun k=>k∈trFp b r) w w'
theorem TrR.nil {w:World} {r:TrRow} {l:List Nat} {v:Value} {e:Ending} {w':World} (h:TrR w none r l v e w'):e = .returned v∧Below w.heap.size w w':=by
  obtain ⟨_,h1,_,_,h2⟩:=h
  exact ⟨h1,h2.os,h2.tape,h2.output,h2.size,fun k hk=>h2.block k hk (fun hk'=>by cases hk')⟩
theorem TrR.same {w:World} {b:Option Nat} {r:TrRow} {l:List Nat} {v:Value} {e:Ending} {w':World} (h:(trI b r l).holds w) (he:e = .returned v) (hb:Below w.heap.size w w'):TrR w b r l v e w' :=
  ⟨r,he,Item.holds_agree h (fun k hk=>hb.block k (Item.lt h k hk)) hb.size,fun k hk=>.inr hk,hb.os,hb.tape,hb.output,hb.size,fun k hk _=>hb.block k hk⟩
section
variable {P:Program} {C:Ctx} {ty:TypeId} {pos:String} {aft:Array Edge} {d:Nat} {K:St→Prop} {x:Operand} {v:Value}
theorem LStepW.callT {T : List (Nat × Value)} {H R : List Item} {f : FuncId} {xs : List Operand} {vs first : List Value} {ats : Array TypeId} {g : Option (Nat × Bool)} {b : Option Nat} {r : TrRow} {l l' : List Nat} (hf : evT T x = some (.func (.func f) first.toArray #[])) (he : Ku P f) (ha : evL T xs = some vs) (hd : d < C.N)
    (hp:Pick (trI b r l) H R)
    (hc:∀ w,(∀ x,x∈H→x.holds w)→(∀ y,y∈R→Out b r y)→Calls P f (first++vs).toArray w (TrR w b r l' v))
    (h:∀ r',K ⟨(d,v) :: T,trI b r' l' :: R⟩):LStepW P C ⟨some d,.call { callee:=.value x,args:=xs.toArray,argTypes:=ats },ty,pos,aft,g⟩ ⟨T,H⟩ K:=by
  unfold LStepW
  intro a w hr Qr
  obtain ⟨fn,h1,h2,h3⟩:=he
  have hdist:(trI b r l :: R).Pairwise Apart:=(hp.perm.pairwise_iff (fun h=>Apart.symm h)).1 hr.dist
  refine wp_callee (vs:=first++vs) ?_ (hc w hr.hp (fun y hy k hk=>(List.pairwise_cons.1 hdist).1 y hy (.inl rfl) k hk)) ?_
  · have:=hr.evs ha
    simp [execOp,resolve,hr.ev hf,Deferred.ofValue,invoke,run_call h1 h2 h3,this]
  · rintro e' w' ⟨r',rfl,hits,hnew,hfr⟩
    exact ⟨v,rfl,_,h r',(hr.setOwn hp rfl hits hnew hfr).put hd v⟩
end
theorem calls_tr {P : Program} {f : FuncId} {fn : Func} {c : Code} {vs : List Value} {w : World} (b : Option Nat) (r : TrRow) (l : List Nat) (H : List Item) {rs : List ResultVar} {N : Nat} {R : Ending → World → Prop} (hf : P.funcs[f]? = some fn) (hb : fn.body = some c) (hn : fn.ntmps = N) (hs : fn.results = rs.toArray)
    (hlen:vs.length≤N) (h0:(trI b r l).holds w) (hH:Hold w H) (hro:H.all (fun x=>!x.wr) = true) (hne:Outs b r H)
    (h:LCode P ⟨w,fun k=>k∈trFp b r,N⟩ c ⟨argT 0 vs,trI b r l :: H⟩ (LEnd P ⟨w,fun k=>k∈trFp b r,N⟩ rs fun v _ w'=>R (.returned v) w')):Calls P f vs.toArray w R:=by
  have hr:∀ x,x∈H→x.wr = false:=by
    intro x hx
    have:=List.all_eq_true.1 hro x hx
    simpa using this
  refine calls_walk hf hb hn hs hlen ?_ ?_ ?_ h
  · intro x hx
    rcases List.mem_cons.1 hx with rfl|hx
    · exact h0
    · exact hH.mem x hx
  · intro x hx hw k hk
    rcases List.mem_cons.1 hx with rfl|hx
    · exact hk
    · rw [hr x hx] at hw; cases hw
  · exact List.pairwise_cons.2 ⟨fun y hy _ k hk hk'=>hne.mem y hy k hk hk',List.pairwise_of_forall_mem_list (fun x hx y hy hw=>(by rw [hr x hx,hr y hy] at hw; rcases hw with hw|hw <;> cases hw))⟩
theorem Rel.tr {w:World} {b:Option Nat} {r r':TrRow} {l:List Nat} {N:Nat} {st:St} {a:Act} {w':World} {v:Value} (h:Rel ⟨w,fun k=>k∈trFp b r,N⟩ st a w') (hm:trI b r' l∈st.H):TrR w b r l v (.returned v) w' :=
  ⟨r',rfl,h.hp _ hm,fun k hk=>h.own _ hm rfl k hk,h.fr⟩
theorem calls_wM {P : Program} {f : FuncId} {fn : Func} {c : Code} {vs : List Value} {w : World} (X : List Item) (W : Nat → Prop) {rs : List ResultVar} {N : Nat} {R : Ending → World → Prop} (hf : P.funcs[f]? = some fn) (hb : fn.body = some c) (hn : fn.ntmps = N) (hs : fn.results = rs.toArray)
    (hlen:vs.length≤N) (hX:Hold w X) (hd:X.Pairwise Apart) (hW:∀ x,x∈X→x.wr = true→∀ k,k∈x.fp→W k)
    (h:LCode P ⟨w,W,N⟩ c ⟨argT 0 vs,X⟩ (LEnd P ⟨w,W,N⟩ rs fun v _ w'=>R (.returned v) w')):Calls P f vs.toArray w R :=
  calls_walk hf hb hn hs hlen hX.mem hW hd h
theorem apart_two {H:List Item} (h:H.Pairwise Apart) {b c:Nat} {B D:Blk} (hx:Item.blk b B∈H) (hy:Item.blk c D∈H) (hw:B.wr = true) (hne:B.elem≠D.elem):c≠b:=by
  rintro rfl
  have hne':Item.blk c B≠Item.blk c D:=fun e=>by injection e with _ e; exact hne (congrArg Blk.elem e)
  have key:∀ (l:List Item),l.Pairwise Apart→Item.blk c B∈l→Item.blk c D∈l→False:=by
    intro l hl h1 h2
    induction l with
    | nil=>cases h1
    | cons q l ih =>
      obtain ⟨g1,g2⟩:=List.pairwise_cons.1 hl
      rcases List.mem_cons.1 h1 with e1|k1 <;> rcases List.mem_cons.1 h2 with e2|k2
      · exact hne' (e1.trans e2.symm)
      · subst e1; exact g1 (.blk c D) k2 (.inl hw) c (.head _) (.head _)
      · subst e2; exact g1 (.blk c B) k1 (.inr hw) c (.head _) (.head _)
      · exact ih g2 k1 k2
  exact key H h hx hy
section
variable {P:Program} {C:Ctx} {ty:TypeId} {pos:String} {aft:Array Edge} {d:Nat} {K:St→Prop} {x y:Operand} {t e:TypeId}
theorem LStepW.appendSM {s : Nat} {T : List (Nat × Value)} {H H0 : List Item} {b a0 c0 n cap m bytes : Nat} {zv : Value} {xs rest news cs more : List Value} {wr : Bool} {ea : TypeId} {fz : Nat × Nat} {g : Option (Nat × Bool)} (hx : evT T x = some (.slice (some ⟨b, 0, none⟩) n cap)) (hy : evT T y = some (.slice (some ⟨a0, 0, none⟩) m c0))
    (ht:P.underlying t = some (.slice e)) (hi:infOf P e = some (zv,s,bytes)) (hz0:zv.cells.size = s) (hp:Pick (.blk b ⟨true,xs++rest,e,(0,0)⟩) H H0) (hm:Item.blk a0 ⟨wr,cs,ea,fz⟩∈H0) (hcs:cs = news++more) (hxl:xs.length = n*s) (hcl:xs.length+rest.length = cap*s) (hml:news.length = m*s) (ho:AllOne news)
    (hn:(n+m)*bytes≤140737488355328) (hn2:n+m≤1000000000) (hd:d<C.N)
    (h:∀ b' cap' rest',xs.length+news.length+rest'.length = cap'*s→K ⟨(d,.slice (some ⟨b',0,none⟩) (n+m) cap') :: T,.blk b' ⟨true,(xs++news)++rest',e,(0,0)⟩ :: H0⟩):LStepW P C ⟨some d,.call { callee:=.builtin .append,args:=#[x,y],argTypes:=#[t,t] },ty,pos,aft,g⟩ ⟨T,H⟩ K:=by
  unfold LStepW
  intro a w hr Qr
  obtain ⟨i,hi1,hi3,hi2,hi4⟩:=inf_spec hi
  have hpm:=hp.perm
  have hin:Item.blk b ⟨true,xs++rest,e,(0,0)⟩∈H:=hpm.mem_iff.2 (.head _)
  have hb:w.heap[b]? = some (.cells (xs++rest).toArray e (0,0)):=hr.hp _ hin
  have ha:w.heap[a0]? = some (.cells cs.toArray ea fz):=hr.hp _ (hpm.mem_iff.2 (.tail _ hm))
  subst hcs
  have hpos:=hr.own _ hin rfl b (by simp [Item.fp])
  have hdd:(Item.blk b ⟨true,xs++rest,e,(0,0)⟩ :: H0).Pairwise Apart:=(List.Perm.pairwise_iff (fun h=>Apart.symm h) hpm).1 hr.dist
  obtain ⟨hd1,hd2⟩:=List.pairwise_cons.1 hdd
  have hmm:∀ x,x∈H0→x∈H:=fun x hx=>hpm.mem_iff.2 (.tail _ hx)
  have hnews:∀ j u,news[j]? = some u→w.cell? ((⟨a0,0,none⟩:Addr).add j) = some u:=fun j u hj=>by
    have hadd:(⟨a0,0,none⟩:Addr).add j = ⟨a0,0+j,none⟩:=by unfold Addr.add; split <;> simp_all
    rw [hadd,cellOf ha,Nat.zero_add,List.getElem?_append_left (by rcases Nat.lt_or_ge j news.length with h'|h'; exact h'; rw [List.getElem?_eq_none h'] at hj; cases hj)]; exact hj
  have hsel:Rel C ⟨T,H0⟩ a w:=⟨hr.size,hr.defers,hr.tm,fun x hx=>hr.hp x (hmm x hx),fun x hx=>hr.own x (hmm x hx),hd2,hr.fr⟩
  unfold Oper.wp
  by_cases hroom:n+m≤cap
  · have hrr:=run_append_room (P:=P) w t ty e i ht hi1 b n cap (xs++rest).toArray hb ⟨a0,0,none⟩ m c0 news (by rw [hi2]; exact hml) hnews (fun u hu=>by have:=ho u hu; cases u <;> simp_all [one,Value.oneCell']) hroom (by have hs2:=Nat.mul_le_mul_right s hroom; rw [Nat.add_mul] at hs2; simp [hi2]; omega)
    rw [exec_append (hr.ev hx) (hr.ev hy) hrr]
    have e1:((xs++rest).toArray.toList.take (n*i.size)++news++(xs++rest).toArray.toList.drop (n*i.size+news.length)) = (xs++news)++rest.drop (m*s):=by
      rw [hi2,hml,← hxl]
      simp
    rw [e1]
    have hK:=h b cap (rest.drop (m*s)) (by have hs2:=Nat.mul_le_mul_right s hroom; rw [Nat.add_mul] at hs2; simp; omega)
    refine ⟨_,hK,?_⟩
    have hnew:(w.setRow b ((xs++news)++rest.drop (m*s)).toArray).heap[b]? = some (.cells ((xs++news)++rest.drop (m*s)).toArray e (0,0)):=setRow_heap w b _ _ e _ hb
    have hoth:∀ k,k≠b→(w.setRow b ((xs++news)++rest.drop (m*s)).toArray).heap[k]? = w.heap[k]?:=fun k hk=>setRow_other w b k _ hk
    have hr2:Rel C ⟨T,.blk b ⟨true,xs++rest,e,(0,0)⟩ :: H0⟩ a w:=⟨hr.size,hr.defers,hr.tm,fun x hx=>hr.hp x (hpm.mem_iff.2 hx),fun x hx=>hr.own x (hpm.mem_iff.2 hx),hdd,hr.fr⟩
    exact (hr2.setBlk (B':=⟨true,(xs++news)++rest.drop (m*s),e,(0,0)⟩) (SetAt.head _) rfl hnew hoth (by simp [World.setRow]) rfl rfl rfl).put hd _
  · have hrr := run_append_grow (P := P) w t ty e i zv ht hi1 hi3 ⟨b, 0, none⟩ n cap xs (by rw [hi2]; exact hxl) (fun j u hj => by
      have hadd:(⟨b,0,none⟩:Addr).add j = ⟨b,0+j,none⟩:=by unfold Addr.add; split <;> simp_all
      rw [hadd,cellOf hb,Nat.zero_add]
      rcases Nat.lt_or_ge j xs.length with h'|h'
      · rw [List.getElem?_append_left h']; exact hj
      · rw [List.getElem?_eq_none h'] at hj; cases hj) ⟨a0,0,none⟩ m c0 news (by rw [hi2]; exact hml) hnews (by omega) (by omega) (growslice_fits (by omega) (by rw [hi4]; exact hn))
    rw [exec_append (hr.ev hx) (hr.ev hy) hrr]
    have hge:=grownCap_ge w (n+m) cap e
    have hK:=h w.heap.size (grownCap w (n+m) cap e) (Builtin.zeroCells zv.cells (grownCap w (n+m) cap e-(n+m))).toList (by
      have hzz:=size_zeroCells zv.cells (grownCap w (n+m) cap e-(n+m))
      rw [hz0] at hzz
      rw [← Array.length_toList,Nat.sub_mul,Nat.add_mul] at hzz
      have hs2:=Nat.mul_le_mul_right s hge
      rw [Nat.add_mul] at hs2
      omega)
    refine ⟨_,hK,?_⟩
    have hal:=hsel.drew.alloc ((xs++news)++(Builtin.zeroCells zv.cells (grownCap w (n+m) cap e-(n+m))).toList) e
    have hcs:((xs++news)++(Builtin.zeroCells zv.cells (grownCap w (n+m) cap e-(n+m))).toList).toArray = xs.toArray++news.toArray++Builtin.zeroCells zv.cells (grownCap w (n+m) cap e-(n+m)):=by
      apply Array.ext'
      simp
    rw [hcs] at hal
    exact hal.put hd _
theorem LStepW.appendS {s : Nat} {T : List (Nat × Value)} {H H0 : List Item} {b a0 c0 n cap m bytes : Nat} {zv : Value} {xs rest news : List Value} {wr : Bool} {ea : TypeId} {fz : Nat × Nat} {g : Option (Nat × Bool)} (hx : evT T x = some (.slice (some ⟨b, 0, none⟩) n cap)) (hy : evT T y = some (.slice (some ⟨a0, 0, none⟩) m c0))
    (ht:P.underlying t = some (.slice e)) (hi:infOf P e = some (zv,s,bytes)) (hz0:zv.cells.size = s) (hp:Pick (.blk b ⟨true,xs++rest,e,(0,0)⟩) H H0) (hm:Item.blk a0 ⟨wr,news,ea,fz⟩∈H0) (hxl:xs.length = n*s) (hcl:xs.length+rest.length = cap*s) (hml:news.length = m*s) (ho:AllOne news)
    (hn:(n+m)*bytes≤140737488355328) (hn2:n+m≤1000000000) (hd:d<C.N)
    (h:∀ b' cap' rest',xs.length+news.length+rest'.length = cap'*s→K ⟨(d,.slice (some ⟨b',0,none⟩) (n+m) cap') :: T,.blk b' ⟨true,(xs++news)++rest',e,(0,0)⟩ :: H0⟩):LStepW P C ⟨some d,.call { callee:=.builtin .append,args:=#[x,y],argTypes:=#[t,t] },ty,pos,aft,g⟩ ⟨T,H⟩ K :=
  LStepW.appendSM (cs:=news) (more:=[]) hx hy ht hi hz0 hp hm (List.append_nil _).symm hxl hcl hml ho hn hn2 hd h
theorem LStepW.appendNilS {s : Nat} {T : List (Nat × Value)} {H : List Item} {a0 c0 m bytes : Nat} {zv : Value} {news : List Value} {wr : Bool} {ea : TypeId} {fz : Nat × Nat} {g : Option (Nat × Bool)} (hx : evT T x = some (.slice none 0 0)) (hy : evT T y = some (.slice (some ⟨a0, 0, none⟩) m c0))
    (ht:P.underlying t = some (.slice e)) (hi:infOf P e = some (zv,s,bytes)) (hz0:zv.cells.size = s) (hm:Item.blk a0 ⟨wr,news,ea,fz⟩∈H) (hml:news.length = m*s) (h0:0<m)
    (hn:m*bytes≤140737488355328) (hn2:m≤1000000000) (hd:d<C.N)
    (h:∀ b' cap' rest',news.length+rest'.length = cap'*s→K ⟨(d,.slice (some ⟨b',0,none⟩) m cap') :: T,.blk b' ⟨true,news++rest',e,(0,0)⟩ :: H⟩):LStepW P C ⟨some d,.call { callee:=.builtin .append,args:=#[x,y],argTypes:=#[t,t] },ty,pos,aft,g⟩ ⟨T,H⟩ K:=by
  unfold LStepW
  intro a w hr Qr
  obtain ⟨i,hi1,hi3,hi2,hi4⟩:=inf_spec hi
  have ha:w.heap[a0]? = some (.cells news.toArray ea fz):=hr.hp _ hm
  have hnews:∀ j u,news[j]? = some u→w.cell? ((⟨a0,0,none⟩:Addr).add j) = some u:=fun j u hj=>by
    have hadd:(⟨a0,0,none⟩:Addr).add j = ⟨a0,0+j,none⟩:=by unfold Addr.add; split <;> simp_all
    rw [hadd,cellOf ha,Nat.zero_add]; exact hj
  unfold Oper.wp
  have hrr:=run_append_nil (P:=P) w t ty e i zv ht hi1 hi3 ⟨a0,0,none⟩ m c0 news (by rw [hi2]; exact hml) hnews h0 (by omega) (by rw [hi4]; omega)
  rw [exec_append (hr.ev hx) (hr.ev hy) hrr]
  have hge:=grownCap_ge w m 0 e
  have hK:=h w.heap.size (grownCap w m 0 e) (Builtin.zeroCells zv.cells (grownCap w m 0 e-m)).toList (by
    have hzz:=size_zeroCells zv.cells (grownCap w m 0 e-m)
    rw [hz0] at hzz
    rw [← Array.length_toList,Nat.sub_mul] at hzz
    have hs2:=Nat.mul_le_mul_right s hge
    omega)
  refine ⟨_,hK,?_⟩
  have hal:=hr.drew.alloc (news++(Builtin.zeroCells zv.cells (grownCap w m 0 e-m)).toList) e
  have hcs:(news++(Builtin.zeroCells zv.cells (grownCap w m 0 e-m)).toList).toArray = news.toArray++Builtin.zeroCells zv.cells (grownCap w m 0 e-m):=by
    apply Array.ext'
    simp
  rw [hcs] at hal
  exact hal.put hd _
end
end Go.Proofs.Ytlmiolnccgjjjaa
set_option linter.unusedVariables false
set_option linter.unusedSimpArgs false
set_option maxRecDepth 20000
namespace Go.Proofs.Ytlmiolnccgjjjaa
open Go Go.RowKit
theorem inf_ev:infOf Try.prog 83 = some (.agg ([.int .i64 ((0:Nat):Int),.int .i64 ((0:Nat):Int)]:List Value).toArray,2,16):=by kernel_rfl
theorem fill_ev (k:Nat):fillL ((List.range 1).map fun i=>(i*2,2)) [Value.int .i64 ((0:Nat):Int),.int .i64 ((0:Nat):Int)] [(0,.agg ([.int .i64 ((2:Nat):Int),.int .i64 ((k:Nat):Int)]:List Value).toArray)] = some [.int .i64 ((2:Nat):Int),.int .i64 ((k:Nat):Int)]:=fillL_whole rfl rfl
theorem row_ev:((Array.range (1*2)).map fun i=>(Value.agg ([.int .i64 ((0:Nat):Int),.int .i64 ((0:Nat):Int)]:List Value).toArray).cells[i%(Value.agg ([.int .i64 ((0:Nat):Int),.int .i64 ((0:Nat):Int)]:List Value).toArray).cells.size]!) = ([.int .i64 ((0:Nat):Int),.int .i64 ((0:Nat):Int)]:List Value).toArray:=by kernel_rfl
theorem c_trIndex0 (k:Nat) (w:World)  : Calls Try.prog 83 ([trV none,.int .i64 ((k:Nat):Int)]:List Value).toArray w (fun e w'=>e = .returned (.int .i64 ((1:Nat):Int))∧Below w.heap.size w w'):=by
  refine Kf (N:=18) (rs:=[.tmp 4]) [] Try.func83 rfl Try.ntmps83 Try.results83 (Nb rfl) trivial rfl ?_
  show LCode _ _ _ ⟨_,_⟩ _
  refine KB (KA ?_)
  refine oP (KX (v:=.int .i64 ((0:Nat):Int)) rfl) ?_
  refine KC ?_
  refine KB ?_
  refine KB (KA ?_)
  refine oM ?_
  refine oP (KK (Det.eqp Try.underlying49 rfl rfl) (show _ = Value.bool true from rfl)) ?_
  refine KC ?_
  refine Ke rfl ?_
  refine KB (KA ?_)
  refine oP (KX (v:=.int .i64 ((1:Nat):Int)) rfl) ?_
  refine KC (KO ?_)
  refine ⟨[_],.cons rfl .nil,fun a w' hr=>⟨?_,hr.fr.below⟩⟩
  rfl
theorem c_trIndex1 (b k:Nat) (w:World) (hb:trP (some b) none [] w):Calls Try.prog 83 ([trV (some b),.int .i64 ((k:Nat):Int)]:List Value).toArray w (fun e w'=>TrR w (some b) none [k] (.int .i64 ((0:Nat):Int)) e w'):=by
  refine calls_wM (N:=18) (rs:=[.tmp 4]) [.blk b ⟨true,[.slice none 0 0],121,(0,0)⟩] (fun j=>j∈trFp (some b) none) Try.func83 rfl Try.ntmps83 Try.results83 (Nb rfl) ⟨hb.1,trivial⟩ (List.pairwise_singleton _ _) (fun x hx _ j hj=>by
    obtain rfl:x = _:=by simpa using hx
    exact hj) ?_
  show LCode _ _ _ ⟨_,_⟩ _
  refine KB (KA ?_)
  refine oP (KX (v:=.int .i64 ((0:Nat):Int)) rfl) ?_
  refine KC ?_
  refine KB ?_
  refine KB (KA ?_)
  refine oM ?_
  refine oP (KK (Det.eqp Try.underlying49 rfl rfl) (show _ = Value.bool false from rfl)) ?_
  refine KC ?_
  refine KQ rfl ?_
  refine KR ?_
  refine KB (KA ?_)
  refine oM ?_
  refine oM ?_
  refine oP (KP rfl) ?_
  refine oP (KI (o':=0) Try.underlying121 rfl rfl rfl sz_81 (by decide)) ?_
  refine oD (dL rfl (hv:=KW Try.underlying81 rfl (by first|rfl|exact Kr _ _ _ (by omega)|exact Kt _ (by omega)|exact Kz _ (by omega)|exact dv_m _ _ _ (by omega)))) ?_
  refine oM ?_
  refine oP (KK (Kw pl_83 zr_83 rfl rfl) (show _ = Value.agg ([.int .i64 ((2:Nat):Int),.int .i64 ((k:Nat):Int)]:List Value).toArray from rfl)) ?_
  refine oS (mk (Makes.row (vs:=[(0,.agg ([.int .i64 ((2:Nat):Int),.int .i64 ((k:Nat):Int)]:List Value).toArray)]) Try.underlying81 inf_ev (by decide) row_ev rfl (fill_ev k) (fun h=>by cases h)) (fun b14=>?_))
  refine KU rfl (LStepW.appendNilS (s:=2) (news:=[.int .i64 ((2:Nat):Int),.int .i64 ((k:Nat):Int)]) rfl rfl Try.underlying81 inf_ev rfl (by repeat (first|exact Mh _|apply Mt)) rfl (by decide) (by decide) (by decide) (Nb rfl) ?_)
  intro b1 cap1 rest1 hc1
  refine oP (KP rfl) ?_
  refine oP (KI (o':=0) Try.underlying121 rfl rfl rfl sz_81 (by decide)) ?_
  refine KU rfl (Kg rfl rfl rfl sz_81 (by repeat (first|exact Sh _|apply St_)) (by first|(simp only [KF,KD,KE,Kq]; omega)|(simp; done)|(simp; omega)) (by first|exact KAE _ _ _ _ _|exact KAJ _ _ _ _ (by omega)|exact KAI _ _ _ _|rfl) (by simp) ?_)
  refine KC ?_
  refine KB (KA ?_)
  refine oP (KX (v:=.int .i64 ((0:Nat):Int)) rfl) ?_
  refine KC (KO ?_)
  refine ⟨[_],.cons rfl .nil,fun a w' hr=>?_⟩
  have g1:=hr.hp (Item.blk b ⟨true,[.slice (some ⟨b1,0,none⟩) 1 cap1],121,(0,0)⟩) (by repeat (first|exact Mh _|apply Mt))
  have g2:=hr.hp (Item.blk b1 ⟨true,[.int .i64 ((2:Nat):Int),.int .i64 ((k:Nat):Int)]++rest1,83,(0,0)⟩) (by repeat (first|exact Mh _|apply Mt))
  have o1:=hr.own (Item.blk b ⟨true,[.slice (some ⟨b1,0,none⟩) 1 cap1],121,(0,0)⟩) (by repeat (first|exact Mh _|apply Mt)) rfl
  have o2:=hr.own (Item.blk b1 ⟨true,[.int .i64 ((2:Nat):Int),.int .i64 ((k:Nat):Int)]++rest1,83,(0,0)⟩) (by repeat (first|exact Mh _|apply Mt)) rfl
  have hap:b1≠b:=apart_two hr.dist (b:=b) (B:=⟨true,[.slice (some ⟨b1,0,none⟩) 1 cap1],121,(0,0)⟩) (c:=b1) (D:=⟨true,[.int .i64 ((2:Nat):Int),.int .i64 ((k:Nat):Int)]++rest1,83,(0,0)⟩) (by repeat (first|exact Mh _|apply Mt)) (by repeat (first|exact Mh _|apply Mt)) rfl (fun e=>absurd (show (121:Nat) = 83 from e) (by decide))
  exact ⟨some (b1,cap1,rest1),rfl,trI_of ⟨g1,g2,hc1,hap⟩,fun j hj=>(by
    have hj':j = b∨j = b1:=by simpa [trFp] using hj
    rcases hj' with rfl|rfl
    · exact o1 j (.head _)
    · exact o2 j (.head _)),hr.fr⟩
theorem c_trIndex2 (b r cap:Nat) (rest:List Value) (l:List Nat) (k:Nat) (w:World) (hb:trP (some b) (some (r,cap,rest)) l w) (hl:l.length≤100000000):Calls Try.prog 83 ([trV (some b),.int .i64 ((k:Nat):Int)]:List Value).toArray w (fun e w'=>TrR w (some b) (some (r,cap,rest)) (l++[k]) (.int .i64 ((0:Nat):Int)) e w'):=by
  refine calls_wM (N:=18) (rs:=[.tmp 4]) [.blk b ⟨true,[.slice (some ⟨r,0,none⟩) l.length cap],121,(0,0)⟩,.blk r ⟨true,evsL l++rest,83,(0,0)⟩] (fun j=>j∈trFp (some b) (some (r,cap,rest))) Try.func83 rfl Try.ntmps83 Try.results83 (Nb rfl) ⟨hb.1,hb.2.1,trivial⟩ (List.pairwise_cons.2 ⟨fun y hy _ j hj hj'=>by
    obtain rfl:y = _:=by simpa using hy
    obtain rfl:j = b:=by simpa [Item.fp] using hj
    exact hb.2.2.2 (by simpa [Item.fp] using hj':j = r).symm,List.pairwise_singleton _ _⟩) (fun x hx _ j hj=>by
    rcases List.mem_cons.1 hx with rfl|hx
    · obtain rfl:j = b:=by simpa [Item.fp] using hj
      exact .head _
    · obtain rfl:x = _:=by simpa using hx
      obtain rfl:j = r:=by simpa [Item.fp] using hj
      exact .tail _ (.head _)) ?_
  show LCode _ _ _ ⟨_,_⟩ _
  refine KB (KA ?_)
  refine oP (KX (v:=.int .i64 ((0:Nat):Int)) rfl) ?_
  refine KC ?_
  refine KB ?_
  refine KB (KA ?_)
  refine oM ?_
  refine oP (KK (Det.eqp Try.underlying49 rfl rfl) (show _ = Value.bool false from rfl)) ?_
  refine KC ?_
  refine KQ rfl ?_
  refine KR ?_
  refine KB (KA ?_)
  refine oM ?_
  refine oM ?_
  refine oP (KP rfl) ?_
  refine oP (KI (o':=0) Try.underlying121 rfl rfl rfl sz_81 (by decide)) ?_
  refine oD (dL rfl (hv:=KW Try.underlying81 rfl (by first|rfl|exact Kr _ _ _ (by omega)|exact Kt _ (by omega)|exact Kz _ (by omega)|exact dv_m _ _ _ (by omega)))) ?_
  refine oM ?_
  refine oP (KK (Kw pl_83 zr_83 rfl rfl) (show _ = Value.agg ([.int .i64 ((2:Nat):Int),.int .i64 ((k:Nat):Int)]:List Value).toArray from rfl)) ?_
  refine oS (mk (Makes.row (vs:=[(0,.agg ([.int .i64 ((2:Nat):Int),.int .i64 ((k:Nat):Int)]:List Value).toArray)]) Try.underlying81 inf_ev (by decide) row_ev rfl (fill_ev k) (fun h=>by cases h)) (fun b14=>?_))
  refine KU rfl (LStepW.appendS (s:=2) (m:=1) (xs:=evsL l) (rest:=rest) (news:=[.int .i64 ((2:Nat):Int),.int .i64 ((k:Nat):Int)]) rfl rfl Try.underlying81 inf_ev rfl (by repeat (first|exact Pick.head _|apply Pick.tail)) (by repeat (first|exact Mh _|apply Mt)) (evsL_length l) (by have:=hb.2.2.1; exact this) rfl (KL rfl (KL rfl KN)) (by omega) (by omega) (Nb rfl) ?_)
  intro b1 cap1 rest1 hc1
  refine oP (KP rfl) ?_
  refine oP (KI (o':=0) Try.underlying121 rfl rfl rfl sz_81 (by decide)) ?_
  refine KU rfl (Kg rfl rfl rfl sz_81 (by repeat (first|exact Sh _|apply St_)) (by first|(simp only [KF,KD,KE,Kq]; omega)|(simp; done)|(simp; omega)) (by first|exact KAE _ _ _ _ _|exact KAJ _ _ _ _ (by omega)|exact KAI _ _ _ _|rfl) (by simp) ?_)
  refine KC ?_
  refine KB (KA ?_)
  refine oP (KX (v:=.int .i64 ((0:Nat):Int)) rfl) ?_
  refine KC (KO ?_)
  have hc2:(evsL (l++[k])).length+rest1.length = cap1*2:=by rw [evsL_snoc,List.length_append]; exact hc1
  have hsl:(l++[k]).length = l.length+1:=by simp
  refine ⟨[_],.cons rfl .nil,fun a w' hr=>?_⟩
  have g1:=hr.hp (Item.blk b ⟨true,[.slice (some ⟨b1,0,none⟩) (l.length+1) cap1],121,(0,0)⟩) (by repeat (first|exact Mh _|apply Mt))
  have g2:=hr.hp (Item.blk b1 ⟨true,(evsL l++[.int .i64 ((2:Nat):Int),.int .i64 ((k:Nat):Int)])++rest1,83,(0,0)⟩) (by repeat (first|exact Mh _|apply Mt))
  have o1:=hr.own (Item.blk b ⟨true,[.slice (some ⟨b1,0,none⟩) (l.length+1) cap1],121,(0,0)⟩) (by repeat (first|exact Mh _|apply Mt)) rfl
  have o2:=hr.own (Item.blk b1 ⟨true,(evsL l++[.int .i64 ((2:Nat):Int),.int .i64 ((k:Nat):Int)])++rest1,83,(0,0)⟩) (by repeat (first|exact Mh _|apply Mt)) rfl
  have hap:b1≠b:=apart_two hr.dist (b:=b) (B:=⟨true,[.slice (some ⟨b1,0,none⟩) (l.length+1) cap1],121,(0,0)⟩) (c:=b1) (D:=⟨true,(evsL l++[.int .i64 ((2:Nat):Int),.int .i64 ((k:Nat):Int)])++rest1,83,(0,0)⟩) (by repeat (first|exact Mh _|apply Mt)) (by repeat (first|exact Mh _|apply Mt)) rfl (fun e=>absurd (show (121:Nat) = 83 from e) (by decide))
  rw [← evsL_snoc] at g2
  rw [← hsl] at g1
  exact ⟨some (b1,cap1,rest1),rfl,trI_of ⟨g1,g2,hc2,hap⟩,fun j hj=>(by
    have hj':j = b∨j = b1:=by simpa [trFp] using hj
    rcases hj' with rfl|rfl
    · exact o1 j (.head _)
    · exact o2 j (.head _)),hr.fr⟩
def trE (b:Option Nat):Int:=match b with
  | none=>1
  | some _=>0
theorem c_trIndex (b:Option Nat) (r:TrRow) (l:List Nat) (k:Nat) (w:World) (h:(trI b r l).holds w) (hl:l.length≤100000000):Calls Try.prog 83 ([trV b,.int .i64 ((k:Nat):Int)]:List Value).toArray w (TrR w b r (l++[k]) (.int .i64 (trE b))):=by
  rcases b with _|b
  · exact (c_trIndex0 k w).mono fun e w' ⟨h1,h2⟩=>TrR.same (trI_of trivial) h1 h2
  · have hp:=trI_P h
    rcases r with _|⟨r,cap,rest⟩
    · obtain rfl:=hp.2
      exact c_trIndex1 b k w hp
    · exact c_trIndex2 b r cap rest l k w hp hl
end Go.Proofs.Ytlmiolnccgjjjaa
set_option linter.unusedVariables false
set_option linter.unusedSimpArgs false
set_option maxRecDepth 20000
namespace Go.Proofs.Ytlmiolnccgjjjaa
open Go Go.RowKit
theorem neg64 {x:Nat} (h0:x≠0) (hx:x<18446744073709551616):Value.int .u64 (IntKind.u64.wrap (0-(x:Int))) = .int .u64 ((18446744073709551616-x:Nat):Int):=by
  rw [wrap_u64,show (0-(x:Int))%18446744073709551616 = ((18446744073709551616-x:Nat):Int) by omega]
theorem cpl64 {y:Nat} (hy:y<18446744073709551616):Value.int .u64 (IntKind.u64.wrap (BitVec.ofInt IntKind.u64.bits IntKind.u64.max ^^^ BitVec.ofInt IntKind.u64.bits (y:Int)).toNat) = .int .u64 ((18446744073709551615-y:Nat):Int):=by
  have e3:(BitVec.ofInt IntKind.u64.bits IntKind.u64.max ^^^ BitVec.ofInt IntKind.u64.bits (y:Int)).toNat = 18446744073709551615-y:=by
    show (BitVec.ofInt 64 18446744073709551615 ^^^ BitVec.ofInt 64 (y:Int)).toNat = _
    rw [show BitVec.ofInt 64 18446744073709551615 = BitVec.allOnes 64 by decide,BitVec.ofInt_natCast,BitVec.allOnes_xor,BitVec.toNat_not,BitVec.toNat_ofNat,Nat.mod_eq_of_lt (show y<2^64 from hy)]
  rw [e3,wrap_u64_nat,Nat.mod_eq_of_lt (by omega)]
theorem or_top {x:Nat} (h0:x≠0) (hx:x<18446744073709551616):9223372036854775808≤x ||| (18446744073709551616-x):=by
  have h1:=(Nat.left_le_or:x≤x ||| (18446744073709551616-x))
  have h2:=(Nat.right_le_or:18446744073709551616-x≤x ||| (18446744073709551616-x))
  omega
theorem xor_zero {a b:Nat}:a ^^^ b = 0↔a = b:=by
  constructor
  · intro h
    have:=congrArg (· ^^^ b) h
    simpa [Nat.xor_assoc] using this
  · rintro rfl; exact Nat.xor_self _
theorem c_spread (b:Nat) (w:World) (hb:b≤1):Calls Try.prog 146 ([.int .u64 ((b:Nat):Int)]:List Value).toArray w (fun e w'=>e = .returned (.int .u64 ((if b = 0 then 0 else 18446744073709551615:Nat):Int))∧Below w.heap.size w w'):=by
  refine Kf (N:=6) (rs:=[.tmp 2]) [] Try.func146 rfl Try.ntmps146 Try.results146 (Nb rfl) trivial rfl ?_
  show LCode _ _ _ ⟨_,_⟩ _
  refine KB (KA ?_)
  refine oP (KX (v:=.int .u64 ((0:Nat):Int)) rfl) ?_
  refine KC ?_
  refine KB ?_
  rcases (show b = 0∨b = 1 by omega) with rfl|rfl
  ·
    refine KA ?_
    refine oM ?_
    refine oP (KH rfl rfl (br_and64 (b:=1) (by decide) (by decide))) ?_
    refine oP (Det.neg rfl) ?_
    refine oA ?_
    refine KC (KO ?_)
    refine ⟨[_],.cons rfl .nil,fun a w' hr=>⟨?_,hr.fr.below⟩⟩
    rfl
  ·
    refine KA ?_
    refine oM ?_
    refine oP (KH rfl rfl (br_and64 (b:=1) (by decide) (by decide))) ?_
    refine oP (Det.neg rfl) ?_
    refine oA ?_
    refine KC (KO ?_)
    refine ⟨[_],.cons rfl .nil,fun a w' hr=>⟨?_,hr.fr.below⟩⟩
    rfl
theorem c_mZero (x:Nat) (w:World) (hx:x<18446744073709551616):Calls Try.prog 126 ([.int .u64 ((x:Nat):Int)]:List Value).toArray w (fun e w'=>e = .returned (.int .u64 ((if x = 0 then 18446744073709551615 else 0:Nat):Int))∧Below w.heap.size w w'):=by
  refine Kf (N:=10) (rs:=[.tmp 2]) [] Try.func126 rfl Try.ntmps126 Try.results126 (Nb rfl) trivial rfl ?_
  show LCode _ _ _ ⟨_,_⟩ _
  refine KB (KA ?_)
  refine oP (KX (v:=.int .u64 ((0:Nat):Int)) rfl) ?_
  refine KC ?_
  refine KB ?_
  by_cases h0:x = 0
  ·
    subst h0
    refine KA ?_
    refine oM ?_
    refine oM ?_
    refine oP (Det.neg rfl) ?_
    refine oP (KH rfl rfl (br_or64 (b:=0) (by decide) (by decide))) ?_
    refine oP (Det.cpl rfl rfl) ?_
    refine oP (KH (v:=.int .u64 ((1:Nat):Int)) rfl rfl (by kernel_rfl)) ?_
    refine oS (cF rfl en_146 rfl (fun w hw=>c_spread 1 w (by decide)) ?_)
    refine oA ?_
    refine KC (KO ?_)
    refine ⟨[_],.cons rfl .nil,fun a w' hr=>⟨rfl,hr.fr.below⟩⟩
  ·
    have ht:=or_top h0 hx
    have hlt:x ||| (18446744073709551616-x)<18446744073709551616:=Nat.or_lt_two_pow (n:=64) hx (by omega)
    refine KA ?_
    refine oM ?_
    refine oM ?_
    refine oP (KK (Det.neg rfl) (neg64 h0 hx)) ?_
    refine oP (KH rfl rfl (br_or64 hx (by omega))) ?_
    refine oP (KK (Det.cpl rfl rfl) (cpl64 hlt)) ?_
    refine oP (KK (KH rfl rfl (KAQ (b:=63) (by omega))) (vi (b:=0) (Nat.div_eq_of_lt (by omega)))) ?_
    refine oS (cF rfl en_146 rfl (fun w hw=>c_spread 0 w (by decide)) ?_)
    refine oA ?_
    refine KC (KO ?_)
    refine ⟨[_],.cons rfl .nil,fun a w' hr=>⟨?_,hr.fr.below⟩⟩
    rw [if_neg h0]
    rfl
theorem c_mEqual (a b:Nat) (w:World) (ha:a<18446744073709551616) (hb:b<18446744073709551616):Calls Try.prog 84 ([.int .u64 ((a:Nat):Int),.int .u64 ((b:Nat):Int)]:List Value).toArray w (fun e w'=>e = .returned (.int .u64 ((if a = b then 18446744073709551615 else 0:Nat):Int))∧Below w.heap.size w w'):=by
  refine Kf (N:=9) (rs:=[.tmp 4]) [] Try.func84 rfl Try.ntmps84 Try.results84 (Nb rfl) trivial rfl ?_
  show LCode _ _ _ ⟨_,_⟩ _
  refine KB (KA ?_)
  refine oP (KX (v:=.int .u64 ((0:Nat):Int)) rfl) ?_
  refine KC ?_
  refine KB (KA ?_)
  refine oM ?_
  refine oM ?_
  refine oP (KH rfl rfl (br_xor64 ha hb)) ?_
  refine oS (cF rfl en_126 rfl (fun w hw=>c_mZero (a ^^^ b) w (Nat.xor_lt_two_pow (n:=64) ha hb)) ?_)
  refine oA ?_
  refine KC (KO ?_)
  refine ⟨[_],.cons rfl .nil,fun a_ w' hr=>⟨?_,hr.fr.below⟩⟩
  show Ending.returned (.int .u64 ((if a ^^^ b = 0 then 18446744073709551615 else 0:Nat):Int)) = _
  by_cases h:a = b
  · rw [if_pos h,if_pos (xor_zero.2 h)]
  · rw [if_neg h,if_neg (fun e=>h (xor_zero.1 e))]
theorem andNot_0 {b:Nat} (hb:b<18446744073709551616):KAB .andNot .u64 (b:Int) .u64 ((0:Nat):Int) = some (.int .u64 (b:Int)):=by
  simp only [KAB,if_true]
  have e:(BitVec.ofInt 64 (b:Int) &&& ~~~BitVec.ofInt 64 0).toNat = b:=by
    rw [show ~~~BitVec.ofInt 64 0 = BitVec.allOnes 64 by decide,BitVec.and_allOnes,BitVec.ofInt_natCast,BitVec.toNat_ofNat,Nat.mod_eq_of_lt (show b<2^64 from hb)]
  show some (Value.int .u64 (IntKind.u64.wrap ((BitVec.ofInt 64 (b:Int) &&& ~~~BitVec.ofInt 64 0).toNat:Int))) = _
  rw [e,wrap_u64_nat,Nat.mod_eq_of_lt hb]
theorem andNot_m {b:Nat}:KAB .andNot .u64 (b:Int) .u64 ((18446744073709551615:Nat):Int) = some (.int .u64 ((0:Nat):Int)):=by
  simp only [KAB,if_true]
  have e:(BitVec.ofInt 64 (b:Int) &&& ~~~BitVec.ofInt 64 18446744073709551615).toNat = 0:=by
    rw [show ~~~BitVec.ofInt 64 18446744073709551615 = 0#64 by decide,BitVec.and_zero]; rfl
  show some (Value.int .u64 (IntKind.u64.wrap ((BitVec.ofInt 64 (b:Int) &&& ~~~BitVec.ofInt 64 18446744073709551615).toNat:Int))) = _
  rw [e]; rfl
theorem and_max {a:Nat} (ha:a<18446744073709551616):a &&& 18446744073709551615 = a:=by
  rw [show 18446744073709551615 = 2^64-1 from rfl,Nat.and_two_pow_sub_one_eq_mod]
  exact Nat.mod_eq_of_lt ha
theorem c_word (m a b:Nat) (w:World) (hm:m = 0∨m = 18446744073709551615) (ha:a<18446744073709551616) (hb:b<18446744073709551616):Calls Try.prog 128 ([.agg ([.int .u64 ((m:Nat):Int)]:List Value).toArray,.int .u64 ((a:Nat):Int),.int .u64 ((b:Nat):Int)]:List Value).toArray w (fun e w'=>e = .returned (.int .u64 ((if m = 0 then b else a:Nat):Int))∧Below w.heap.size w w'):=by
  refine Kf (N:=16) (rs:=[.tmp 6]) [] Try.func128 rfl Try.ntmps128 Try.results128 (Nb rfl) trivial rfl ?_
  show LCode _ _ _ ⟨_,_⟩ _
  refine KB (KA ?_)
  refine oS (mB (fun b3=>?_))
  refine oP (KX (v:=.int .u64 ((0:Nat):Int)) rfl) ?_
  refine KC ?_
  refine KB ?_
  rcases hm with rfl|rfl
  ·
    refine KA ?_
    refine oM ?_
    refine oP (KI (o':=0) Try.underlying180 rfl rfl rfl sz_30 (by decide)) ?_
    refine oD (dL rfl (hv:=KW Try.underlying30 rfl (by first|rfl|exact Kr _ _ _ (by omega)|exact Kt _ (by omega)|exact Kz _ (by omega)|exact dv_m _ _ _ (by omega)))) ?_
    refine oP (KK (KH rfl rfl (br_and64 (b:=0) ha (by decide))) (vi (b:=0) (Nat.and_zero _))) ?_
    refine oM ?_
    refine oP (KI (o':=0) Try.underlying180 rfl rfl rfl sz_30 (by decide)) ?_
    refine oD (dL rfl (hv:=KW Try.underlying30 rfl (by first|rfl|exact Kr _ _ _ (by omega)|exact Kt _ (by omega)|exact Kz _ (by omega)|exact dv_m _ _ _ (by omega)))) ?_
    refine oP (KH rfl rfl (andNot_0 hb)) ?_
    refine oP (KK (KH rfl rfl (br_or64 (a:=0) (by decide) hb)) (vi (b:=b) (Nat.zero_or _))) ?_
    refine oA ?_
    refine KC (KO ?_)
    refine ⟨[_],.cons rfl .nil,fun a w' hr=>⟨?_,hr.fr.below⟩⟩
    rfl
  ·
    refine KA ?_
    refine oM ?_
    refine oP (KI (o':=0) Try.underlying180 rfl rfl rfl sz_30 (by decide)) ?_
    refine oD (dL rfl (hv:=KW Try.underlying30 rfl (by first|rfl|exact Kr _ _ _ (by omega)|exact Kt _ (by omega)|exact Kz _ (by omega)|exact dv_m _ _ _ (by omega)))) ?_
    refine oP (KK (KH rfl rfl (br_and64 (b:=18446744073709551615) ha (by decide))) (vi (b:=a) (and_max ha))) ?_
    refine oM ?_
    refine oP (KI (o':=0) Try.underlying180 rfl rfl rfl sz_30 (by decide)) ?_
    refine oD (dL rfl (hv:=KW Try.underlying30 rfl (by first|rfl|exact Kr _ _ _ (by omega)|exact Kt _ (by omega)|exact Kz _ (by omega)|exact dv_m _ _ _ (by omega)))) ?_
    refine oP (KH rfl rfl andNot_m) ?_
    refine oP (KK (KH rfl rfl (br_or64 (b:=0) ha (by decide))) (vi (b:=a) (Nat.or_zero _))) ?_
    refine oA ?_
    refine KC (KO ?_)
    refine ⟨[_],.cons rfl .nil,fun a w' hr=>⟨?_,hr.fr.below⟩⟩
    rfl
theorem c_wordL (m A B R x:Nat) (w:World) (hm:m = 0∨m = 18446744073709551615) (hR:R = if m = 0 then B else A):Calls Try.prog 128 ([.agg ([.int .u64 ((m:Nat):Int)]:List Value).toArray,.int .u64 ((limb A x:Nat):Int),.int .u64 ((limb B x:Nat):Int)]:List Value).toArray w (fun e w'=>e = .returned (.int .u64 ((limb R x:Nat):Int))∧Below w.heap.size w w'):=by
  have h:=c_word m (limb A x) (limb B x) w hm (limb_lt _ _) (limb_lt _ _)
  rw [show limb R x = if m = 0 then limb B x else limb A x by rw [hR]; split <;> rfl]
  exact h
theorem mix_get {R A x:Nat} (h:x<9):(vec .u64 9 (fun k=>if k<x then limb R k else limb A k))[x]? = some (.int .u64 ((limb A x:Nat):Int)):=by
  rw [Kr _ _ _ h,if_neg (Nat.lt_irrefl x)]
theorem mix_step (R A x:Nat):vec .u64 9 (fun j=>if j = x then limb R x else (if j<x then limb R j else limb A j)) = vec .u64 9 (fun k=>if k<x+1 then limb R k else limb A k):=Ky fun k _=>by
  by_cases e:k = x
  · subst e; rw [if_pos rfl,if_pos (Nat.lt_succ_self _)]
  · rw [if_neg e]
    by_cases l:k<x
    · rw [if_pos l,if_pos (by omega)]
    · rw [if_neg l,if_neg (by omega)]
theorem c_mNat (m A B R:Nat) (w:World) (hm:m = 0∨m = 18446744073709551615) (hR:R = if m = 0 then B else A):Calls Try.prog 127 ([.func (.func 128) #[.agg ([.int .u64 ((m:Nat):Int)]:List Value).toArray] #[],natV A,natV B]:List Value).toArray w (fun e w'=>e = .returned (natV R)∧Below w.heap.size w w'):=by
  refine Kf (N:=26) (rs:=[.cell 6 33]) [] Try.func127 rfl Try.ntmps127 Try.results127 (Nb rfl) trivial rfl ?_
  show LCode _ _ _ ⟨_,_⟩ _
  refine KB (KA ?_)
  refine oS (mB (fun b4=>?_))
  refine oS (mB (fun b5=>?_))
  refine oS (mk (KS zr_33) (fun b6=>?_))
  refine KC ?_
  refine KB ?_
  refine KB (KA ?_)
  refine oP (Kx (v:=.int .i64 ((0:Nat):Int)) rfl) ?_
  refine KC ?_
  refine LCode.block ?_
  refine Kp (α:=Nat) (fun x=>x≤9) (fun x=>⟨[(0,.func (.func 128) #[.agg ([.int .u64 ((m:Nat):Int)]:List Value).toArray] #[]),(4,.pointer (some ⟨b4,0,none⟩)),(5,.pointer (some ⟨b5,0,none⟩)),(6,.pointer (some ⟨b6,0,none⟩)),(8,.int .i64 ((x:Nat):Int))],[.blk b6 ⟨true,vec .u64 9 (fun _=>0),33,(0,0)⟩,.blk b5 ⟨true,natL B,33,(0,0)⟩,.blk b4 ⟨true,vec .u64 9 (fun k=>if k<x then limb R k else limb A k),33,(0,0)⟩]⟩) (fun x=>9-x) (0) (Nat.zero_le _) (KAG (Sub.cells (b:=b4) (cs':=vec .u64 9 (fun k=>if k<0 then limb R k else limb A k)) (by repeat (first|exact Sh _|apply St_)) (Ky fun k _=>(if_neg (Nat.not_lt_zero k)).symm)) (Kj ⟨rfl,rfl,rfl,rfl,rfl,trivial⟩ (by repeat (first|exact Sel.nil _|refine Sel.cons (by repeat (first|exact Ph _|apply Pt_)) ?_)))) ?_
  intro x hx
  refine KB (KA ?_)
  refine oP (KH rfl rfl (KAZ (b:=9))) ?_
  refine KC ?_
  refine KB ?_
  first|refine KV rfl (fun h9=>?_) (fun h9=>?_)|refine KZ rfl (fun h9=>?_) (fun h9=>?_)
  ·
    have h9:x<9:=h9
    refine KR ?_
    refine KB ?_
    refine LCode.block ?_
    refine KB (KA ?_)
    refine oM ?_
    refine oA ?_
    refine KC ?_
    refine rD [13] ?_
    refine aM 0 ?_
    refine aM 1 ?_
    refine aM 2 ?_
    refine aP 3 rfl (KI (o':=0) Try.underlying33 rfl rfl rfl sz_31 (by decide)) ?_
    refine aP 4 rfl (Kh Try.underlying31 sz_30 rfl rfl (by omega)) ?_
    refine aD 5 rfl (dL rfl (hv:=KW Try.underlying30 rfl (by exact mix_get (by omega)))) ?_
    refine aM 6 ?_
    refine aP 7 rfl (KI (o':=0) Try.underlying33 rfl rfl rfl sz_31 (by decide)) ?_
    refine aP 8 rfl (Kh Try.underlying31 sz_30 rfl rfl (by omega)) ?_
    refine aD 9 rfl (dL rfl (hv:=KW Try.underlying30 rfl (by first|rfl|exact Kr _ _ _ (by omega)|exact Kt _ (by omega)|exact Kz _ (by omega)|exact dv_m _ _ _ (by omega)))) ?_
    refine aP 11 rfl (KI (o':=0) Try.underlying33 rfl rfl rfl sz_31 (by decide)) ?_
    refine aO 10 rfl (KAL (first:=[.agg ([.int .u64 ((m:Nat):Int)]:List Value).toArray]) rfl en_128 rfl (Nb rfl) (fun w hw=>c_wordL m A B R x w hm hR) ?_)
    refine aP 12 rfl (Kh Try.underlying31 sz_30 rfl rfl (by omega)) ?_
    refine aL 13 rfl (Kg rfl rfl rfl sz_30 (by repeat (first|exact Sh _|apply St_)) (by first|(simp only [KF,KD,KE,Kq]; omega)|(simp; done)|(simp; omega)) (by first|exact KAE _ _ _ _ _|exact KAJ _ _ _ _ (by omega)|exact KAI _ _ _ _|rfl) (by simp) ?_)
    refine aE ?_
    refine KA ?_
    refine oP (KH rfl rfl (Kv (b:=1) (by omega))) ?_
    refine oM ?_
    refine KC ?_
    refine ⟨x+1,by omega,by omega,KAG (Sub.cells (b:=b4) (cs':=vec .u64 9 (fun k=>if k<x+1 then limb R k else limb A k)) (by repeat (first|exact Sh _|apply St_)) (mix_step R A x)) (Kj ⟨rfl,rfl,rfl,rfl,rfl,trivial⟩ (by repeat (first|exact Sel.nil _|refine Sel.cons (by repeat (first|exact Ph _|apply Pt_)) ?_)))⟩
  ·
    have h9:¬ x<9:=h9
    refine Kl ?_
    refine KB ?_
    obtain rfl:x = 9:=by omega
    refine LCode.sub (Sub.cells (b:=b4) (cs':=natL R) (by repeat (first|exact Sh _|apply St_)) (Ky fun k hk=>by rw [if_pos hk])) ?_
    refine KA ?_
    refine oD (dL rfl (hv:=by exact KG Try.underlying33 rfl sz_33)) ?_
    refine KU rfl (sA rfl rfl sz_33 (by repeat (first|exact KY _|exact Kc _ _ _|exact Ka _|exact Kb _ _ _|exact Kd _ _ _|exact KN|refine KL rfl ?_|refine KM ?_ ?_)) (hl:=by first|exact KD _|exact KF _ _ _|exact KE _|exact KJ _ _ _|exact KT _ _ _|rfl|simp [KF,KD,KE]) (h:=?_))
    refine KC (KO ?_)
    refine ⟨[_],.cons ⟨_,_,_,rfl,(by repeat (first|exact Mh _|apply Mt)),by exact KG Try.underlying33 rfl sz_33⟩ .nil,fun a w' hr=>⟨?_,hr.fr.below⟩⟩
    rfl
theorem c_mSelect (m A B R:Nat) (w:World) (hm:m = 0∨m = 18446744073709551615) (hR:R = if m = 0 then B else A):Calls Try.prog 85 ([.int .u64 ((m:Nat):Int),natV A,natV B]:List Value).toArray w (fun e w'=>e = .returned (natV R)∧Below w.heap.size w w'):=by
  refine Kf (N:=13) (rs:=[.cell 6 33]) [] Try.func85 rfl Try.ntmps85 Try.results85 (Nb rfl) trivial rfl ?_
  show LCode _ _ _ ⟨_,_⟩ _
  refine KB (KA ?_)
  refine oS (mB (fun b4=>?_))
  refine oS (mB (fun b5=>?_))
  refine oS (mk (KS zr_33) (fun b6=>?_))
  refine KC ?_
  refine KB (KA ?_)
  refine oM ?_
  refine oP (KK (Kw pl_180 zr_180 rfl rfl) (show _ = Value.agg ([.int .u64 ((m:Nat):Int)]:List Value).toArray from rfl)) ?_
  refine oP (Det.makeFunc1 rfl) ?_
  refine oD (dL rfl (hv:=by exact KG Try.underlying33 rfl sz_33)) ?_
  refine oD (dL rfl (hv:=by exact KG Try.underlying33 rfl sz_33)) ?_
  refine oS (cF rfl en_127 rfl (fun w hw=>c_mNat m A B R w hm hR) ?_)
  refine KU rfl (sA rfl rfl sz_33 (by repeat (first|exact KY _|exact Kc _ _ _|exact Ka _|exact Kb _ _ _|exact Kd _ _ _|exact KN|refine KL rfl ?_|refine KM ?_ ?_)) (hl:=by first|exact KD _|exact KF _ _ _|exact KE _|exact KJ _ _ _|exact KT _ _ _|rfl|simp [KF,KD,KE]) (h:=?_))
  refine KC (KO ?_)
  refine ⟨[_],.cons ⟨_,_,_,rfl,(by repeat (first|exact Mh _|apply Mt)),by exact KG Try.underlying33 rfl sz_33⟩ .nil,fun a w' hr=>⟨?_,hr.fr.below⟩⟩
  rfl
end Go.Proofs.Ytlmiolnccgjjjaa
set_option linter.unusedVariables false
set_option linter.unusedSimpArgs false
set_option maxRecDepth 20000
namespace Go.Proofs.Ytlmiolnccgjjjaa
open Go Go.RowKit
open Grp
section
variable {P:Program} {C:Ctx} {d:Nat} {ty:TypeId} {pos:String} {aft:Array Edge} {K:St→Prop} {x:Operand} {v:Value}
end
theorem pt_set1 (X Y Y':Nat) (i:Bool):splice (ptL X Y i) 9 (natL Y') = ptL X Y' i:=splice_mid (A:=natL X) (B:=natL Y) (D:=[.bool i]) (by simp [ptL]) (KD _) (by rw [KD,KD]) (by simp [ptL])
end Go.Proofs.Ytlmiolnccgjjjaa
set_option linter.unusedVariables false
set_option linter.unusedSimpArgs false
set_option maxRecDepth 20000
namespace Go.Proofs.Ytlmiolnccgjjjaa
open Go Go.RowKit
open Grp
def ptPL {p:Nat} (P:Pt p):List Value:=ptL (xv P) (yv P) (iv P)
theorem ptPL_length {p:Nat} (P:Pt p):(ptPL P).length = 19:=KJ _ _ _
theorem ptPL_one {p:Nat} (P:Pt p):AllOne (ptPL P):=Kb _ _ _
def tabL {p:Nat} (E:Nat→Pt p):Nat→List Value
  | 0=>[]
  | n+1=>tabL E n++ptPL (E n)
theorem tabL_length {p:Nat} (E:Nat→Pt p):∀ n,(tabL E n).length = n*19
  | 0=>rfl
  | n+1=>by show (tabL E n++ptPL (E n)).length = _; rw [List.length_append,tabL_length E n,ptPL_length]; omega
theorem tabL_at {p:Nat} (E:Nat→Pt p) {k:Nat}:∀ {n},k<n→∃ post,tabL E n = tabL E k++(ptPL (E k)++post)
  | 0,h=>by omega
  | n+1,h=>by
    by_cases e:k = n
    · subst e; exact ⟨[],by rw [List.append_nil]; rfl⟩
    · obtain ⟨post,hp⟩:=tabL_at E (show k<n by omega)
      exact ⟨post++ptPL (E n),by show tabL E n++ptPL (E n) = _; rw [hp]; simp only [List.append_assoc]⟩
theorem tab_load {p:Nat} {wr:Bool} {e:TypeId} {fz:Nat×Nat} (E:Nat→Pt p) {k n:Nat} (h:k<n) (rest:List Value):LoadV Try.prog 35 ⟨wr,tabL E n++rest,e,fz⟩ (0+k*19) (ptP (E k)):=by
  obtain ⟨post,hp⟩:=tabL_at E h
  exact LoadV.mid (pre:=tabL E k) (cs:=ptPL (E k)) (post:=post++rest) Try.underlying35 rfl sz_35 (by show tabL E n++rest = _; rw [hp]; simp only [List.append_assoc]) (by rw [tabL_length]; omega) (ptPL_length _)
theorem inf_pt:infOf Try.prog 35 = some (.agg (vec .u64 9 (fun _=>0)++(vec .u64 9 (fun _=>0)++[Value.bool false]):List Value).toArray,19,152):=by kernel_rfl
theorem fill_ptR {p:Nat} (P:Pt p):fillL ((List.range 1).map fun i=>(i*19,19)) (vec .u64 9 (fun _=>0)++(vec .u64 9 (fun _=>0)++[Value.bool false])) [(0,.agg (ptPL P).toArray)] = some (ptPL P):=fillL_whole (by simp [KF]) (ptPL_length P)
theorem row_pt:((Array.range (1*19)).map fun i=>(Value.agg (vec .u64 9 (fun _=>0)++(vec .u64 9 (fun _=>0)++[Value.bool false]):List Value).toArray).cells[i%(Value.agg (vec .u64 9 (fun _=>0)++(vec .u64 9 (fun _=>0)++[Value.bool false]):List Value).toArray).cells.size]!) = (vec .u64 9 (fun _=>0)++(vec .u64 9 (fun _=>0)++[Value.bool false]):List Value).toArray:=by kernel_rfl
noncomputable abbrev mulE (V:Cv) (P:Pt V.p):Nat→Pt V.p:=fun j=>pmul V.A P j
structure TabS (p:Nat) where
  k:Nat
  T:Fin p×Fin p×Fin p
  br:Nat
  cap:Nat
  rest:List Value
theorem Brings.two {w w':World} {b c:Nat} {B D:Blk} (hb:Below w.heap.size w w') (h1:(Item.blk b B).holds w') (h2:(Item.blk c D).holds w') (n1:w.heap.size≤b) (n2:w.heap.size≤c) (hne:c≠b):Brings w [] [.blk b B,.blk c D] w':=by
  have key:∀ x,x∈[Item.blk b B,.blk c D]→∀ k,k∈x.fp→w.heap.size≤k:=fun x hx k hk=>by
    rcases List.mem_cons.1 hx with rfl|hx
    · obtain rfl:k = b:=by simpa [Item.fp] using hk
      exact n1
    · obtain rfl:x = _:=by simpa using hx
      obtain rfl:k = c:=by simpa [Item.fp] using hk
      exact n2
  refine ⟨hb,fun x hx=>?_,fun x hx k hk=>.inl (key x hx k hk),fun x hx _=>key x hx,List.pairwise_cons.2 ⟨fun y hy _ k hk hk'=>?_,List.pairwise_singleton _ _⟩⟩
  · rcases List.mem_cons.1 hx with rfl|hx
    · exact h1
    · obtain rfl:x = _:=by simpa using hx
      exact h2
  · obtain rfl:y = _:=by simpa using hy
    obtain rfl:k = b:=by simpa [Item.fp] using hk
    exact hne (by simpa [Item.fp] using hk':k = c).symm
theorem bringsC {P:Program} {f:FuncId} {a:Array Value} {w:World} {Q:Value→List Item→Prop} (h:Calls P f a w (fun e w'=>∃ v its,Q v its∧e = .returned v∧Brings w [] its w')) (H:List Item):Calls P f a w (fun e w'=>∃ v its,Q v its∧e = .returned v∧Brings w H its w') :=
  h.mono fun e w' ⟨v,its,h1,h2,h3⟩=>⟨v,its,h1,h2,h3.more (fun x hx=>by cases hx)⟩
theorem c_tabOf (V:Cv) (b f bd:Nat) (hok:V.Ok) (P:Pt V.p) (hP:On V.A V.B P) (n:Nat) (hn0:1≤n) (hn:n≤16) (w:World) (hb:(Item.blk b ⟨false,opL V f,129,(0,0)⟩).holds w) (hf:(Item.blk f ⟨false,fldL V.p bd,162,(0,0)⟩).holds w) (hbd:(Item.blk bd ⟨false,dvL V.p,212,(0,0)⟩).holds w):Calls Try.prog 82 ([.pointer (some ⟨b,0,none⟩),ptP P,.int .i64 ((n:Nat):Int)]:List Value).toArray w (fun e w'=>∃ v its,(fun v its=>∃ bt br cap rest,v = .pointer (some ⟨bt,0,none⟩)∧its = [.blk bt ⟨true,[.slice (some ⟨br,0,none⟩) n cap],116,(0,0)⟩,.blk br ⟨true,tabL (mulE V P) n++rest,35,(0,0)⟩]) v its∧e = .returned v∧Brings w [] its w'):=by
  refine Kf (N:=36) (rs:=[.tmp 6]) [.blk b ⟨false,opL V f,129,(0,0)⟩,.blk f ⟨false,fldL V.p bd,162,(0,0)⟩,.blk bd ⟨false,dvL V.p,212,(0,0)⟩] Try.func82 rfl Try.ntmps82 Try.results82 (Nb rfl) ⟨hb,hf,hbd,trivial⟩ rfl ?_
  show LCode _ _ _ ⟨_,_⟩ _
  refine KB (KA ?_)
  refine oS (mB (fun b4=>?_))
  refine oA ?_
  refine KC ?_
  refine KB (KA ?_)
  refine oP (Kw pl_116 zr_116 rfl rfl) ?_
  refine oS (mB (fun b11=>?_))
  refine oA ?_
  refine KC ?_
  refine KB (KA ?_)
  refine oD (dL rfl (hv:=by exact KG Try.underlying35 rfl sz_35)) ?_
  refine oS (cF rfl en_122 rfl (fun w hw=>c_Triple V hok P w) ?_)
  refine oS (cF rfl en_123 rfl (fun w hw=>c_NoneF hok w) ?_)
  refine oS (mk (KS zr_172) (fun b8=>?_))
  refine oS (mk (KS zr_172) (fun b9=>?_))
  refine KU rfl (sA rfl rfl sz_172 (by exact pjFL_one _) (hl:=by exact pjFL_length _) (h:=?_))
  refine KU rfl (sA rfl rfl sz_172 (by exact pjFL_one _) (hl:=by exact pjFL_length _) (h:=?_))
  refine KC ?_
  refine KB ?_
  refine KB (KA ?_)
  refine oM ?_
  refine oP (Kx (v:=.int .i64 ((0:Nat):Int)) rfl) ?_
  refine KC ?_
  refine LCode.block ?_
  refine Kp (α:=Option (TabS V.p)) (fun x=>match x with|none=>True|some y=>1≤y.k∧y.k≤n∧RepT V y.T (pmul V.A P y.k)∧(tabL (mulE V P) y.k).length+y.rest.length = y.cap*19) (fun x=>match x with|none=>⟨[(0,.pointer (some ⟨b,0,none⟩)),(7,.pointer (some ⟨b11,0,none⟩)),(8,.pointer (some ⟨b8,0,none⟩)),(9,.pointer (some ⟨b9,0,none⟩)),(15,.int .i64 ((n:Nat):Int)),(16,.int .i64 ((0:Nat):Int))],[.blk b11 ⟨true,[.slice none 0 0],116,(0,0)⟩,.blk b9 ⟨true,pjFL (tripF (.inf:Pt V.p)),172,(0,0)⟩,.blk b8 ⟨true,pjFL (tripF P),172,(0,0)⟩,.blk b ⟨false,opL V f,129,(0,0)⟩,.blk f ⟨false,fldL V.p bd,162,(0,0)⟩,.blk bd ⟨false,dvL V.p,212,(0,0)⟩]⟩|some y=>⟨[(0,.pointer (some ⟨b,0,none⟩)),(7,.pointer (some ⟨b11,0,none⟩)),(8,.pointer (some ⟨b8,0,none⟩)),(9,.pointer (some ⟨b9,0,none⟩)),(15,.int .i64 ((n:Nat):Int)),(16,.int .i64 ((y.k:Nat):Int))],[.blk b11 ⟨true,[.slice (some ⟨y.br,0,none⟩) y.k y.cap],116,(0,0)⟩,.blk y.br ⟨true,tabL (mulE V P) y.k++y.rest,35,(0,0)⟩,.blk b9 ⟨true,pjFL y.T,172,(0,0)⟩,.blk b8 ⟨true,pjFL (tripF P),172,(0,0)⟩,.blk b ⟨false,opL V f,129,(0,0)⟩,.blk f ⟨false,fldL V.p bd,162,(0,0)⟩,.blk bd ⟨false,dvL V.p,212,(0,0)⟩]⟩) (fun x=>match x with|none=>n+1|some y=>n-y.k) (none) (trivial) (Kj ⟨rfl,rfl,rfl,rfl,rfl,rfl,trivial⟩ (by repeat (first|exact Sel.nil _|refine Sel.cons (by repeat (first|exact Ph _|apply Pt_)) ?_))) ?_
  intro x hx
  refine KB ?_
  rcases x with _|⟨k,T,br,cap,rest⟩
  ·
    refine KA ?_
    refine oP (KH (v:=.bool true) rfl rfl (br_t KAZ (by omega))) ?_
    refine KC ?_
    refine KB ?_
    refine Ke rfl ?_
    refine KR ?_
    refine KB ?_
    refine LCode.block ?_
    refine KB ?_
    refine rD [9,12] ?_
    refine aM 0 ?_
    refine aM 1 ?_
    refine aP 2 rfl (KP rfl) ?_
    refine aP 3 rfl (KI (o':=0) Try.underlying116 rfl rfl rfl sz_114 (by decide)) ?_
    refine aD 4 rfl (dL rfl (hv:=KW Try.underlying114 rfl (by first|rfl|exact Kr _ _ _ (by omega)|exact Kt _ (by omega)|exact Kz _ (by omega)|exact dv_m _ _ _ (by omega)))) ?_
    refine aM 5 ?_
    refine aO 6 rfl (LStep.det (dL rfl (hv:=by exact KG Try.underlying172 rfl sz_172)) (Nb rfl) ?_)
    refine aO 7 rfl (cF rfl en_124 rfl (fun w hw=>c_PlainT V b f bd hok (tripF (.inf:Pt V.p)) (mulE V P 0) w (mC hw) (mC hw) (mC hw) (RepT.trip hok trivial)) ?_)
    refine aO 8 rfl (mk (Makes.row (vs:=[(0,.agg (ptPL (mulE V P 0)).toArray)]) Try.underlying114 inf_pt (by decide) row_pt rfl (fill_ptR (mulE V P 0)) (fun h=>by cases h)) (fun b26=>?_))
    refine aL 9 rfl (LStepW.appendNilS (s:=19) (news:=ptPL (mulE V P 0)) rfl rfl Try.underlying114 inf_pt rfl (by repeat (first|exact Mh _|apply Mt)) (ptPL_length _) (by decide) (by decide) (by decide) (Nb rfl) ?_)
    intro b1 cap1 rest1 hc1
    refine aP 10 rfl (KP rfl) ?_
    refine aP 11 rfl (KI (o':=0) Try.underlying116 rfl rfl rfl sz_114 (by decide)) ?_
    refine aL 12 rfl (Kg rfl rfl rfl sz_114 (by repeat (first|exact Sh _|apply St_)) (by first|(simp only [KF,KD,KE,Kq]; omega)|(simp; done)|(simp; omega)) (by first|exact KAE _ _ _ _ _|exact KAJ _ _ _ _ (by omega)|exact KAI _ _ _ _|rfl) (by simp) ?_)
    refine aE ?_
    refine KA ?_
    refine oM ?_
    refine oD (dL rfl (hv:=by exact KG Try.underlying172 rfl sz_172)) ?_
    refine oD (dL rfl (hv:=by exact KG Try.underlying172 rfl sz_172)) ?_
    refine oS (cF rfl en_125 rfl (fun w hw=>c_SumT V b f bd hok (tripF (.inf:Pt V.p)) (tripF P) w (mC hw) (mC hw) (mC hw)) ?_)
    refine KU rfl (sA rfl rfl sz_172 (by exact pjFL_one _) (hl:=by exact pjFL_length _) (h:=?_))
    refine KC ?_
    refine KA ?_
    refine oP (KH rfl rfl (Kv (b:=1) (by omega))) ?_
    refine oM ?_
    refine KC ?_
    exact ⟨some ⟨0+1,sumT V (tripF (.inf:Pt V.p)) (tripF P),b1,cap1,rest1⟩,⟨Nat.le_add_left _ _,by show 0+1≤n; omega,RepT.sum hok (RepT.trip hok trivial) (RepT.trip hok hP),by rw [ptPL_length] at hc1; show (tabL (mulE V P) (0+1)).length+rest1.length = cap1*19; rw [tabL_length]; omega⟩,by show n-(0+1)<n+1; omega,KAG (Sub.cells (b:=b1) (cs':=tabL (mulE V P) (0+1)++rest1) (by repeat (first|exact Sh _|apply St_)) (by rfl)) (Kj ⟨rfl,rfl,rfl,rfl,rfl,rfl,trivial⟩ (by repeat (first|exact Sel.nil _|refine Sel.cons (by repeat (first|exact Ph _|apply Pt_)) ?_)))⟩
  ·
    obtain ⟨hk1,hkn,hT,hcap⟩:=hx
    dsimp only at hk1 hkn hT hcap
    refine KA ?_
    refine oP (KH rfl rfl (KAZ)) ?_
    refine KC ?_
    refine KB ?_
    first|refine KV rfl (fun h17=>?_) (fun h17=>?_)|refine KZ rfl (fun h17=>?_) (fun h17=>?_)
    ·
      have h17:k<n:=h17
      refine KR ?_
      refine KB ?_
      refine LCode.block ?_
      refine KB ?_
      refine rD [9,12] ?_
      refine aM 0 ?_
      refine aM 1 ?_
      refine aP 2 rfl (KP rfl) ?_
      refine aP 3 rfl (KI (o':=0) Try.underlying116 rfl rfl rfl sz_114 (by decide)) ?_
      refine aD 4 rfl (dL rfl (hv:=KW Try.underlying114 rfl (by first|rfl|exact Kr _ _ _ (by omega)|exact Kt _ (by omega)|exact Kz _ (by omega)|exact dv_m _ _ _ (by omega)))) ?_
      refine aM 5 ?_
      refine aO 6 rfl (LStep.det (dL rfl (hv:=by exact KG Try.underlying172 rfl sz_172)) (Nb rfl) ?_)
      refine aO 7 rfl (cF rfl en_124 rfl (fun w hw=>c_PlainT V b f bd hok (T) (mulE V P k) w (mC hw) (mC hw) (mC hw) (hT)) ?_)
      refine aO 8 rfl (mk (Makes.row (vs:=[(0,.agg (ptPL (mulE V P k)).toArray)]) Try.underlying114 inf_pt (by decide) row_pt rfl (fill_ptR (mulE V P k)) (fun h=>by cases h)) (fun b26=>?_))
      refine aL 9 rfl (LStepW.appendS (s:=19) (m:=1) (xs:=tabL (mulE V P) k) (rest:=rest) (news:=ptPL (mulE V P k)) rfl rfl Try.underlying114 inf_pt rfl (by repeat (first|exact Pick.head _|apply Pick.tail)) (by repeat (first|exact Mh _|apply Mt)) (tabL_length _ _) hcap (ptPL_length _) (ptPL_one _) (by omega) (by omega) (Nb rfl) ?_)
      intro b1 cap1 rest1 hc1
      refine aP 10 rfl (KP rfl) ?_
      refine aP 11 rfl (KI (o':=0) Try.underlying116 rfl rfl rfl sz_114 (by decide)) ?_
      refine aL 12 rfl (Kg rfl rfl rfl sz_114 (by repeat (first|exact Sh _|apply St_)) (by first|(simp only [KF,KD,KE,Kq]; omega)|(simp; done)|(simp; omega)) (by first|exact KAE _ _ _ _ _|exact KAJ _ _ _ _ (by omega)|exact KAI _ _ _ _|rfl) (by simp) ?_)
      refine aE ?_
      refine KA ?_
      refine oM ?_
      refine oD (dL rfl (hv:=by exact KG Try.underlying172 rfl sz_172)) ?_
      refine oD (dL rfl (hv:=by exact KG Try.underlying172 rfl sz_172)) ?_
      refine oS (cF rfl en_125 rfl (fun w hw=>c_SumT V b f bd hok (T) (tripF P) w (mC hw) (mC hw) (mC hw)) ?_)
      refine KU rfl (sA rfl rfl sz_172 (by exact pjFL_one _) (hl:=by exact pjFL_length _) (h:=?_))
      refine KC ?_
      refine KA ?_
      refine oP (KH rfl rfl (Kv (b:=1) (by omega))) ?_
      refine oM ?_
      refine KC ?_
      exact ⟨some ⟨k+1,sumT V T (tripF P),b1,cap1,rest1⟩,⟨Nat.le_add_left _ _,by show k+1≤n; omega,RepT.sum hok hT (RepT.trip hok hP),by rw [tabL_length,ptPL_length] at hc1; show (tabL (mulE V P) (k+1)).length+rest1.length = cap1*19; rw [tabL_length]; omega⟩,by show n-(k+1)<n-k; omega,KAG (Sub.cells (b:=b1) (cs':=tabL (mulE V P) (k+1)++rest1) (by repeat (first|exact Sh _|apply St_)) (by rfl)) (Kj ⟨rfl,rfl,rfl,rfl,rfl,rfl,trivial⟩ (by repeat (first|exact Sel.nil _|refine Sel.cons (by repeat (first|exact Ph _|apply Pt_)) ?_)))⟩
    ·
      have h17:¬ k<n:=h17
      refine Kl ?_
      refine KB (KA ?_)
      refine oM ?_
      refine oA ?_
      refine KC (KO ?_)
      obtain rfl:k = n:=by omega
      exact ⟨[_],.cons rfl .nil,fun a w' hr=>⟨_,_,⟨b11,br,cap,rest,rfl,rfl⟩,rfl,Brings.two hr.fr.below (hr.hp (.blk b11 ⟨true,_,_,_⟩) (by repeat (first|exact Mh _|apply Mt))) (hr.hp (.blk br ⟨true,_,_,_⟩) (by repeat (first|exact Mh _|apply Mt))) (hr.new (b:=b11) (B:=⟨true,_,_,_⟩) (by repeat (first|exact Mh _|apply Mt)) rfl) (hr.new (b:=br) (B:=⟨true,_,_,_⟩) (by repeat (first|exact Mh _|apply Mt)) rfl) (apart_two hr.dist (b:=b11) (B:=⟨true,_,116,_⟩) (c:=br) (D:=⟨true,_,35,_⟩) (by repeat (first|exact Mh _|apply Mt)) (by repeat (first|exact Mh _|apply Mt)) rfl (fun e=>absurd (show (116:Nat) = 35 from e) (by decide)))⟩⟩
def pk (i A:Nat):Nat→Nat
  | 0=>0
  | k+1=>if k = i then A else pk i A k
theorem pk_low {i A:Nat}:∀ {k},k≤i→pk i A k = 0
  | 0,_=>rfl
  | k+1,h=>by
    show (if k = i then A else pk i A k) = 0
    rw [if_neg (by omega)]; exact pk_low (by omega)
theorem pk_last {i A:Nat}:∀ {k},i<k→pk i A k = A
  | 0,h=>by omega
  | k+1,h=>by
    show (if k = i then A else pk i A k) = A
    by_cases e:k = i
    · rw [if_pos e]
    · rw [if_neg e]; exact pk_last (by omega)
theorem pk_m (i k:Nat):(if k = i then 18446744073709551615 else 0) = 0∨(if k = i then 18446744073709551615 else 0) = 18446744073709551615:=by
  by_cases e:k = i
  · exact .inr (if_pos e)
  · exact .inl (if_neg e)
theorem pk_next (F:Nat→Nat) (i k:Nat):pk i (F i) (k+1) = if (if k = i then 18446744073709551615 else 0) = 0 then pk i (F i) k else F k:=by
  show (if k = i then F i else pk i (F i) k) = _
  by_cases e:k = i
  · rw [if_pos e,if_pos e,if_neg (by decide),e]
  · rw [if_neg e,if_neg e,if_pos rfl]
theorem pk_or {i A z k:Nat} (hz:k = i→z = A) (h1:z≤1):pk i A k ||| (z &&& if k = i then 18446744073709551615 else 0) = pk i A (k+1):=by
  show _ = (if k = i then A else pk i A k)
  by_cases e:k = i
  · rw [if_pos e,if_pos e,pk_low (by omega),Nat.zero_or,and_max (by omega)]; exact hz e
  · rw [if_neg e,if_neg e,Nat.and_zero,Nat.or_zero]
theorem pk_lt {i A:Nat} (h:A≤1):∀ k,pk i A k≤1
  | 0=>Nat.zero_le _
  | k+1=>by
    show (if k = i then A else pk i A k)≤1
    split
    · exact h
    · exact pk_lt h k
def ib {p:Nat} (P:Pt p):Nat:=if iv P = true then 1 else 0
theorem ib_le {p:Nat} (P:Pt p):ib P≤1:=by unfold ib; split <;> omega
theorem ib_eq {p:Nat} (P:Pt p):decide (ib P = 1) = iv P:=by unfold ib; cases iv P <;> rfl
section
variable {P:Program} {C:Ctx} {d:Option Tmp} {ty:TypeId} {pos:String} {aft:Array Edge} {g:Option (Nat×Bool)} {st:St} {x y:Operand} {t e:TypeId}
theorem Det.indexSN {s i : Nat} {k : IntKind} {b o l c : Nat} (ht : P.underlying t = some (.slice e)) (he : szOf P e = some s) (hx : evT st.T x = some (.slice (some ⟨b, o, none⟩) l c)) (hy : evT st.T y = some (.int k (i : Int))) (h1 : i < l) :
    Slots P C ⟨d,.indexAddr t x y,ty,pos,aft,g⟩ st (.pointer (some ⟨b,o+i*s,none⟩)):=by
  have:=Det.indexSl (P:=P) (C:=C) (d:=d) (ty:=ty) (pos:=pos) (aft:=aft) (g:=g) (st:=st) ht he hx hy (by omega) (by omega)
  rwa [Int.toNat_natCast] at this
end
theorem pt_zeroK (i A B:Nat):(vec .u64 9 (fun _=>0)++(vec .u64 9 (fun _=>0)++[Value.bool false]):List Value) = ptL (pk i A 0) (pk i B 0) false:=by
  show _ = ptL 0 0 false
  unfold ptL natL; rw [vec_zeros 9]
theorem pt_set0 (X Y X':Nat) (i:Bool):splice (ptL X Y i) 0 (natL X') = ptL X' Y i:=splice_mid (A:=[]) (B:=natL X) (D:=natL Y++[.bool i]) (by simp [ptL]) rfl (by rw [KD,KD]) (by simp [ptL])
theorem pt_set2 (X Y:Nat) (i j:Bool):(ptL X Y i).set 18 (.bool j) = ptL X Y j:=by
  unfold ptL
  rw [List.set_append_right _ _ (by rw [KD]; decide),KD,List.set_append_right _ _ (by rw [KD]; decide),KD]; rfl
theorem c_tabPick (b:Option Nat) (r:TrRow) (l:List Nat) (bt br cap:Nat) (rest:List Value) {wr1 wr2:Bool} (V:Cv) (hok:V.Ok) (E:Nat→Pt V.p) (n i:Nat) (hi:i<n) (hn:n≤16) (w:World) (h0:(trI b r l).holds w) (h1:(Item.blk bt ⟨wr1,[.slice (some ⟨br,0,none⟩) n cap],116,(0,0)⟩).holds w) (h2:(Item.blk br ⟨wr2,tabL (E) n++rest,35,(0,0)⟩).holds w) (n1:Out b r (Item.blk bt ⟨wr1,[.slice (some ⟨br,0,none⟩) n cap],116,(0,0)⟩)) (n2:Out b r (Item.blk br ⟨wr2,tabL (E) n++rest,35,(0,0)⟩)) (hl:l.length≤90000000):Calls Try.prog 34 ([.pointer (some ⟨bt,0,none⟩),trV b,.int .i64 ((i:Nat):Int)]:List Value).toArray w (fun e w'=>TrR w b r (l++List.range n) (.tuple #[ptP (E i),.int .i64 ((0:Nat):Int)]) e w'):=by
  refine calls_tr (N:=75) (rs:=[.cell 6 35,.tmp 7]) b r l [.blk bt ⟨false,[.slice (some ⟨br,0,none⟩) n cap],116,(0,0)⟩,.blk br ⟨false,tabL (E) n++rest,35,(0,0)⟩] Try.func34 rfl Try.ntmps34 Try.results34 (Nb rfl) h0 ⟨h1,h2,trivial⟩ rfl ⟨n1,n2,trivial⟩ ?_
  show LCode _ _ _ ⟨_,_⟩ _
  refine KB (KA ?_)
  refine oS (mk (KS zr_35) (fun b6=>?_))
  refine oP (KX (v:=.int .i64 ((0:Nat):Int)) rfl) ?_
  refine KC ?_
  refine KB ?_
  refine LCode.block ?_
  refine KB (KA ?_)
  refine oM ?_
  refine oP (KK (Det.eqp Try.underlying40 rfl rfl) (show _ = Value.bool false from rfl)) ?_
  refine oA ?_
  refine KC ?_
  refine KQ rfl ?_
  refine KB (KA ?_)
  refine oM ?_
  refine oP (KH (v:=.bool false) rfl rfl (br_f (KAZ (b:=0)) (Nat.not_lt_zero _))) ?_
  refine oM ?_
  refine oGM ?_
  refine oGM ?_
  refine oGP (KP rfl) ?_
  refine oGP (KI (o':=0) Try.underlying116 rfl rfl rfl sz_114 (by decide)) ?_
  refine KAa rfl rfl (dL rfl (hv:=KW Try.underlying114 rfl (by first|rfl|exact Kr _ _ _ (by omega)|exact Kt _ (by omega)|exact Kz _ (by omega)|exact dv_m _ _ _ (by omega)))) (Nb rfl) ?_
  refine oGP (KAW Try.underlying114 rfl) ?_
  refine oGP (KH (v:=.bool false) rfl rfl (br_f br_geq (by omega))) ?_
  refine oP (Ki rfl rfl) ?_
  refine oA ?_
  refine KC ?_
  refine KQ rfl ?_
  refine KR ?_
  refine KB (KA ?_)
  refine oS (mk (KS zr_35) (fun b8=>?_))
  refine KC ?_
  refine KB (KA ?_)
  refine oP (KX (v:=.int .u64 ((0:Nat):Int)) rfl) ?_
  refine KC ?_
  refine KB ?_
  refine KB (KA ?_)
  refine oM ?_
  refine oP (KP rfl) ?_
  refine oP (KI (o':=0) Try.underlying116 rfl rfl rfl sz_114 (by decide)) ?_
  refine oD (dL rfl (hv:=KW Try.underlying114 rfl (by first|rfl|exact Kr _ _ _ (by omega)|exact Kt _ (by omega)|exact Kz _ (by omega)|exact dv_m _ _ _ (by omega)))) ?_
  refine oP (KAW Try.underlying114 rfl) ?_
  refine oP (Kx (v:=.int .i64 ((0:Nat):Int)) rfl) ?_
  refine KC ?_
  refine LCode.block ?_
  refine Kp (α:=Nat×TrRow) (fun x=>x.1≤n) (fun x=>⟨[(0,.pointer (some ⟨bt,0,none⟩)),(1,trV b),(2,.int .i64 ((i:Nat):Int)),(6,.pointer (some ⟨b6,0,none⟩)),(8,.pointer (some ⟨b8,0,none⟩)),(9,.int .u64 ((pk i (ib (E i)) x.1:Nat):Int)),(34,.slice (some ⟨br,0,none⟩) n cap),(35,.int .i64 ((n:Nat):Int)),(36,.int .i64 ((x.1:Nat):Int))],[trI b x.2 (l++List.range x.1),.blk b8 ⟨true,ptL (pk i (xv (E i)) x.1) (pk i (yv (E i)) x.1) false,35,(0,0)⟩,.blk b6 ⟨true,vec .u64 9 (fun _=>0)++(vec .u64 9 (fun _=>0)++[Value.bool false]),35,(0,0)⟩,.blk bt ⟨false,[.slice (some ⟨br,0,none⟩) n cap],116,(0,0)⟩,.blk br ⟨false,tabL (E) n++rest,35,(0,0)⟩]⟩) (fun x=>n-x.1) ((0,r)) (Nat.zero_le _) (KAG (Sub.cells (b:=b8) (cs':=ptL (pk i (xv (E i)) 0) (pk i (yv (E i)) 0) false) (by repeat (first|exact Sh _|apply St_)) (pt_zeroK _ _ _)) (by dsimp only [List.range_zero]; rw [List.append_nil]; exact Kj ⟨rfl,rfl,rfl,rfl,rfl,rfl,rfl,rfl,rfl,trivial⟩ (by repeat (first|exact Sel.nil _|refine Sel.cons (by repeat (first|exact Ph _|apply Pt_)) ?_)))) ?_
  intro x hx
  refine KB (KA ?_)
  refine oP (KH rfl rfl (KAZ)) ?_
  refine KC ?_
  refine KB ?_
  first|refine KV rfl (fun h37=>?_) (fun h37=>?_)|refine KZ rfl (fun h37=>?_) (fun h37=>?_)
  ·
    have h37:x.1<n:=h37
    refine KR ?_
    refine KB ?_
    refine LCode.block ?_
    refine KB (KA ?_)
    refine oM ?_
    refine oP (Det.indexSN Try.underlying114 sz_35 rfl rfl (by omega)) ?_
    refine oD (dL rfl (hv:=by exact tab_load E h37 rest)) ?_
    refine oS (mk (KS zr_35) (fun b11=>?_))
    refine oA ?_
    refine KU rfl (sA rfl rfl sz_35 (by exact Kb _ _ _) (hl:=by exact KJ _ _ _) (h:=?_))
    refine KC ?_
    refine KB (KA ?_)
    refine oM ?_
    refine oM ?_
    refine KU rfl (LStepW.callT (first:=[]) (r:=x.2) (l:=l++List.range x.1) (l':=l++List.range (x.1+1)) rfl en_83 rfl (Nb rfl) (by repeat (first|exact Pick.head _|apply Pick.tail)) (fun w hw hn=>by rw [List.range_succ,← List.append_assoc]; exact c_trIndex b x.2 _ x.1 w (mC hw) (by rw [List.length_append,List.length_range]; omega)) ?_)
    intro r1
    refine KC ?_
    refine KB (KA ?_)
    refine oM ?_
    refine oP (KAO Try.underlying3 Try.underlying30 rfl (by first|omega|exact Nat.lt_trans (D.limb_lt _ _) (by decide))) ?_
    refine oM ?_
    refine oP (KAO Try.underlying3 Try.underlying30 rfl (by first|omega|exact Nat.lt_trans (D.limb_lt _ _) (by decide))) ?_
    refine oS (cF rfl en_84 rfl (fun w hw=>c_mEqual x.1 i w (by omega) (by omega)) ?_)
    refine oA ?_
    refine KC ?_
    refine KB ?_
    refine rD [13,15] ?_
    refine aM 0 ?_
    refine aP 1 rfl (KI (o':=0) Try.underlying35 rfl rfl rfl sz_33 (by decide)) ?_
    refine aD 2 rfl (dL rfl (hv:=by exact KAC Try.underlying33 rfl sz_33 rfl (KD _))) ?_
    refine aP 3 rfl (KI (o':=0) Try.underlying35 rfl rfl rfl sz_33 (by decide)) ?_
    refine aD 4 rfl (dL rfl (hv:=by exact KAC Try.underlying33 rfl sz_33 rfl (KD _))) ?_
    refine aM 6 ?_
    refine aP 7 rfl (KI (o':=9) Try.underlying35 rfl rfl rfl sz_33 (by decide)) ?_
    refine aP 9 rfl (KI (o':=9) Try.underlying35 rfl rfl rfl sz_33 (by decide)) ?_
    refine aD 10 rfl (dL rfl (hv:=by exact pt_ld1 _ _ _ _ _ _)) ?_
    refine KAb [11,13,14,15] 8 rfl (by kernel_rfl) (Nb rfl) (dL rfl (hv:=by exact pt_ld1 _ _ _ _ _ _)) ?_
    refine aO 5 rfl (cF rfl en_85 rfl (fun w hw=>c_mSelect (if x.1 = i then 18446744073709551615 else 0) (xv (E x.1)) (pk i (xv (E i)) x.1) (pk i (xv (E i)) (x.1+1)) w (pk_m _ _) (pk_next (fun j=>xv (E j)) i x.1)) ?_)
    refine aP 12 rfl (KI (o':=0) Try.underlying35 rfl rfl rfl sz_33 (by decide)) ?_
    refine aO 11 rfl (cF rfl en_85 rfl (fun w hw=>c_mSelect (if x.1 = i then 18446744073709551615 else 0) (yv (E x.1)) (pk i (yv (E i)) x.1) (pk i (yv (E i)) (x.1+1)) w (pk_m _ _) (pk_next (fun j=>yv (E j)) i x.1)) ?_)
    refine aL 13 rfl (KAA rfl rfl rfl sz_33 (KD _) (KY _) (by repeat (first|exact Sh _|apply St_)) (by simp only [KJ]; decide) (pt_set0 _ _ _ _) (by simp) ?_)
    refine aP 14 rfl (KI (o':=9) Try.underlying35 rfl rfl rfl sz_33 (by decide)) ?_
    refine aL 15 rfl (KAA rfl rfl rfl sz_33 (KD _) (KY _) (by repeat (first|exact Sh _|apply St_)) (by simp only [KJ]; decide) (pt_set1 _ _ _ _) (by simp) ?_)
    refine aE ?_
    refine KB (KA ?_)
    refine oP (KX (v:=.int .u64 ((0:Nat):Int)) rfl) ?_
    refine KC ?_
    refine KB ?_
    refine KB ?_
    cases hiv:iv (E x.1)
    ·
      refine KA ?_
      refine oP (KI (o':=18) Try.underlying35 rfl rfl rfl sz_4 (by decide)) ?_
      refine oD (dL rfl (hv:=KW Try.underlying4 rfl (by exact pt_gt _ _ _))) ?_
      refine KC ?_
      refine KQ rfl ?_
      refine KR ?_
      refine KA ?_
      refine oM ?_
      refine oM ?_
      refine oM ?_
      refine oP (KH rfl rfl (br_and64 (a:=0) (b:=(if x.1 = i then 18446744073709551615 else 0)) (by decide) (by split <;> decide))) ?_
      refine oP (KK (KH rfl rfl (br_or64 (a:=pk i (ib (E i)) x.1) (b:=0 &&& (if x.1 = i then 18446744073709551615 else 0)) (Nat.lt_of_le_of_lt (pk_lt (ib_le _) _) (by decide)) (Nat.lt_of_le_of_lt Nat.and_le_left (by decide)))) (vi (b:=pk i (ib (E i)) (x.1+1)) (pk_or (fun e=>by rw [← e]; unfold ib; rw [hiv]; rfl) (by decide)))) ?_
      refine oA ?_
      refine KC ?_
      refine KA ?_
      refine oP (KH rfl rfl (Kv (b:=1) (by omega))) ?_
      refine oM ?_
      refine KC ?_
      exact ⟨(x.1+1,r1),by dsimp only; omega,by dsimp only; omega,Kj ⟨rfl,rfl,rfl,rfl,rfl,rfl,rfl,rfl,rfl,trivial⟩ (by repeat (first|exact Sel.nil _|refine Sel.cons (by repeat (first|exact Ph _|apply Pt_)) ?_))⟩
    ·
      refine KA ?_
      refine oP (KI (o':=18) Try.underlying35 rfl rfl rfl sz_4 (by decide)) ?_
      refine oD (dL rfl (hv:=KW Try.underlying4 rfl (by exact pt_gt _ _ _))) ?_
      refine KC ?_
      refine Ke rfl ?_
      refine KA ?_
      refine oP (KX (v:=.int .u64 ((1:Nat):Int)) rfl) ?_
      refine KC ?_
      refine KA ?_
      refine oM ?_
      refine oM ?_
      refine oM ?_
      refine oP (KH rfl rfl (br_and64 (a:=1) (b:=(if x.1 = i then 18446744073709551615 else 0)) (by decide) (by split <;> decide))) ?_
      refine oP (KK (KH rfl rfl (br_or64 (a:=pk i (ib (E i)) x.1) (b:=1 &&& (if x.1 = i then 18446744073709551615 else 0)) (Nat.lt_of_le_of_lt (pk_lt (ib_le _) _) (by decide)) (Nat.lt_of_le_of_lt Nat.and_le_left (by decide)))) (vi (b:=pk i (ib (E i)) (x.1+1)) (pk_or (fun e=>by rw [← e]; unfold ib; rw [hiv]; rfl) (by decide)))) ?_
      refine oA ?_
      refine KC ?_
      refine KA ?_
      refine oP (KH rfl rfl (Kv (b:=1) (by omega))) ?_
      refine oM ?_
      refine KC ?_
      exact ⟨(x.1+1,r1),by dsimp only; omega,by dsimp only; omega,Kj ⟨rfl,rfl,rfl,rfl,rfl,rfl,rfl,rfl,rfl,trivial⟩ (by repeat (first|exact Sel.nil _|refine Sel.cons (by repeat (first|exact Ph _|apply Pt_)) ?_))⟩
  ·
    have h37:¬ x.1<n:=h37
    refine Kl ?_
    refine KB ?_
    have hx1n:x.1 = n:=by omega
    rw [hx1n,pk_last hi,pk_last hi,pk_last hi]
    refine KA ?_
    refine oM ?_
    refine oP (KK (KH rfl rfl (KAR (b:=1))) (congrArg Value.bool (ib_eq (E i)))) ?_
    refine oP (KI (o':=18) Try.underlying35 rfl rfl rfl sz_4 (by decide)) ?_
    refine KU rfl (Kg rfl rfl rfl sz_4 (by repeat (first|exact Sh _|apply St_)) (by rw [KJ]; decide) (by exact pt_set2 _ _ _ _) (by simp) ?_)
    refine KC ?_
    refine KB (KA ?_)
    refine oD (dL rfl (hv:=by exact KG Try.underlying35 rfl sz_35)) ?_
    refine KU rfl (sA rfl rfl sz_35 (by exact Kb _ _ _) (hl:=by exact KJ _ _ _) (h:=?_))
    refine oP (KX (v:=.int .i64 ((0:Nat):Int)) rfl) ?_
    refine KC (KO ?_)
    exact ⟨[_,_],.cons ⟨_,_,_,rfl,(by repeat (first|exact Mh _|apply Mt)),by exact KG Try.underlying35 rfl sz_35⟩ (.cons rfl .nil),fun a w' hr=>hr.tr (by repeat (first|exact Mh _|apply Mt))⟩
end Go.Proofs.Ytlmiolnccgjjjaa
set_option linter.unusedVariables false
set_option linter.unusedSimpArgs false
set_option maxRecDepth 20000
namespace Go.Proofs.Ytlmiolnccgjjjaa
open Go Go.RowKit
open Grp
def dg (K m i:Nat):Nat:=K/2^((m-1-i)*4)%16
theorem dg_lt (K m i:Nat):dg K m i<16:=Nat.mod_lt _ (by decide)
theorem and15 (A:Nat):limb A 0 &&& 15 = A%16:=by
  rw [show 15 = 2^4-1 from rfl,Nat.and_two_pow_sub_one_eq_mod]
  unfold limb
  rw [Nat.mul_zero,Nat.pow_zero,Nat.div_one,show (2:Nat)^4 = 16 from rfl]
  omega
theorem vec_snoc {k:IntKind} {f:Nat→Nat} {n x:Nat} (h:x = f n) (rest:List Value):(vec k n f++[Value.int k ((x:Nat):Int)])++rest = vec k (n+1) f++rest:=by
  subst h
  congr 1
  simp [vec,List.range_succ]
theorem vec_first {k:IntKind} {f:Nat→Nat} {x:Nat} (h:x = f 0) (rest:List Value):[Value.int k ((x:Nat):Int)]++rest = vec k (0+1) f++rest:=by
  subst h; rfl
structure DigS where
  j:Nat
  bd:Nat
  cap:Nat
  rest:List Value
theorem dig_cases (x:Option DigS) (m:Nat):x = none∨(∃ j bd cap rest,x = some ⟨j,bd,cap,rest⟩∧j<m)∨(∃ j bd cap rest,x = some ⟨j,bd,cap,rest⟩∧m≤j):=by
  rcases x with _|⟨j,bd,cap,rest⟩
  · exact .inl rfl
  · rcases Nat.lt_or_ge j m with h|h
    · exact .inr (.inl ⟨j,bd,cap,rest,rfl,h⟩)
    · exact .inr (.inr ⟨j,bd,cap,rest,rfl,h⟩)
theorem Brings.one {w w':World} {b:Nat} {B:Blk} (hb:Below w.heap.size w w') (h1:(Item.blk b B).holds w') (n1:w.heap.size≤b):Brings w [] [.blk b B] w':=by
  have key:∀ x,x∈[Item.blk b B]→∀ k,k∈x.fp→w.heap.size≤k:=fun x hx k hk=>by
    obtain rfl:x = _:=by simpa using hx
    obtain rfl:k = b:=by simpa [Item.fp] using hk
    exact n1
  exact ⟨hb, fun x hx => (by obtain rfl : x = _ := by simpa using hx
                             exact h1),fun x hx k hk=>.inl (key x hx k hk),fun x hx _=>key x hx,List.pairwise_singleton _ _⟩
theorem c_wide4  (w:World)  : Calls Try.prog 152 ([.int .i64 ((4:Nat):Int)]:List Value).toArray w (fun e w'=>e = .returned (.bool true)∧Below w.heap.size w w'):=by
  refine Kf (N:=9) (rs:=[.tmp 2]) [] Try.func152 rfl Try.ntmps152 Try.results152 (Nb rfl) trivial rfl ?_
  show LCode _ _ _ ⟨_,_⟩ _
  refine KB (KA ?_)
  refine oA ?_
  refine KC ?_
  refine KB (KA ?_)
  refine oM ?_
  refine oP (KH (v:=.bool true) rfl rfl (br_t (br_geq (b:=1)) (by decide))) ?_
  refine oM ?_
  refine oGM ?_
  refine oGP (KH (v:=.bool true) rfl rfl (br_t (br_leq (b:=6)) (by decide))) ?_
  refine oP (Kn rfl rfl) ?_
  refine oA ?_
  refine KC (KO ?_)
  refine ⟨[_],.cons rfl .nil,fun a w' hr=>⟨?_,hr.fr.below⟩⟩
  rfl
theorem c_Digits (K B m:Nat) (hK:K<W9) (hB:1≤B) (hB2:B≤576) (hKB:blen K≤B) (hm:(B+3)/4 = m) (w:World)  : Calls Try.prog 137 ([natV K,.int .i64 ((B:Nat):Int),.int .i64 ((4:Nat):Int)]:List Value).toArray w (fun e w'=>∃ v its,(fun v its=>∃ bd cap rest,v = .tuple #[.slice (some ⟨bd,0,none⟩) m cap,.int .i64 ((0:Nat):Int)]∧its = [.blk bd ⟨true,vec .i64 (m) (dg K m)++rest,3,(0,0)⟩]) v its∧e = .returned v∧Brings w [] its w'):=by
  refine Kf (N:=61) (rs:=[.tmp 6,.tmp 7]) [] Try.func137 rfl Try.ntmps137 Try.results137 (Nb rfl) trivial rfl ?_
  show LCode _ _ _ ⟨_,_⟩ _
  refine KB (KA ?_)
  refine oS (mB (fun b3=>?_))
  refine oA ?_
  refine oP (KX (v:=.int .i64 ((0:Nat):Int)) rfl) ?_
  refine KC ?_
  refine KB ?_
  refine KB (KA ?_)
  refine oM ?_
  refine oS (cF rfl en_152 rfl (fun w hw=>c_wide4 w) ?_)
  refine oP (KK (Det.not rfl) (show _ = Value.bool false from rfl)) ?_
  refine oM ?_
  refine oGM ?_
  refine oGP (KH (v:=.bool false) rfl rfl (br_f (KAZ (b:=1)) (by omega))) ?_
  refine oP (Ki rfl rfl) ?_
  refine oM ?_
  refine oGM ?_
  refine oGP (KH (v:=.bool false) rfl rfl (br_f (br_gtr (b:=576)) (by omega))) ?_
  refine oP (Ki rfl rfl) ?_
  refine oM ?_
  refine KAa rfl rfl (dL rfl (hv:=by exact KG Try.underlying33 rfl sz_33)) (Nb rfl) ?_
  refine oGS (cF rfl en_117 rfl (fun w hw=>c_nat_Bits K hK w) ?_)
  refine oGM ?_
  refine oGP (KH (v:=.bool false) rfl rfl (br_f br_gtr (by omega))) ?_
  refine oP (Ki rfl rfl) ?_
  refine KC ?_
  refine KQ rfl ?_
  refine KR ?_
  refine KB (KA ?_)
  refine oA ?_
  refine KC ?_
  refine KB ?_
  refine KB (KA ?_)
  refine oM ?_
  refine oM ?_
  refine oP (KH rfl rfl (Kv (by omega))) ?_
  refine oP (KH rfl rfl (KAY (b:=1) (by omega) (by omega))) ?_
  refine oM ?_
  refine oP (KK (KH rfl rfl (br_quo (b:=4) (by omega) (by omega))) (vi (b:=m) (by omega))) ?_
  refine oP (KH (v:=.int .i64 (((m:Nat):Int)-1)) rfl rfl (br_subI (by omega) (by omega))) ?_
  refine oA ?_
  refine KC ?_
  refine LCode.block ?_
  refine Kp (α:=Option DigS) (fun x=>match x with|none=>True|some y=>1≤y.j∧y.j≤m∧y.j+y.rest.length = y.cap) (fun x=>match x with|none=>⟨[(1,.int .i64 ((B:Nat):Int)),(2,.int .i64 ((4:Nat):Int)),(3,.pointer (some ⟨b3,0,none⟩)),(8,.slice none 0 0),(9,.int .i64 (((m:Nat):Int)-1))],[.blk b3 ⟨true,natL K,33,(0,0)⟩]⟩|some y=>⟨[(1,.int .i64 ((B:Nat):Int)),(2,.int .i64 ((4:Nat):Int)),(3,.pointer (some ⟨b3,0,none⟩)),(8,.slice (some ⟨y.bd,0,none⟩) y.j y.cap),(9,.int .i64 (((m-y.j:Nat):Int)-1))],[.blk y.bd ⟨true,vec .i64 (y.j) (dg K m)++y.rest,3,(0,0)⟩,.blk b3 ⟨true,natL K,33,(0,0)⟩]⟩) (fun x=>match x with|none=>m+1|some y=>m-y.j) (none) (trivial) (Kj ⟨rfl,rfl,rfl,rfl,rfl,trivial⟩ (by repeat (first|exact Sel.nil _|refine Sel.cons (by repeat (first|exact Ph _|apply Pt_)) ?_))) ?_
  intro x hx
  refine KB ?_
  refine KB ?_
  rcases dig_cases x m with rfl|⟨j,bd,cap,rest,rfl,hjm⟩|⟨j,bd,cap,rest,rfl,hjm⟩
  ·
    obtain ⟨z,hz⟩:∃ z,m = z+1:=⟨m-1,by omega⟩
    refine KA ?_
    refine oM ?_
    refine oP (KH (v:=.bool true) rfl rfl (by simp [KAB]; omega)) ?_
    refine KC ?_
    refine Ke rfl ?_
    refine KR ?_
    refine KB ?_
    refine LCode.block ?_
    refine KB (KA ?_)
    refine oD (dL rfl (hv:=by exact KG Try.underlying33 rfl sz_33)) ?_
    refine oP (Kx (v:=.int .i64 ((z:Nat):Int)) (by show some _ = some _; congr 2; omega)) ?_
    refine oM ?_
    refine oP (KH rfl rfl (br_mul (by omega))) ?_
    refine oP (KK (Det.min rfl rfl) (show _ = Value.int .i64 ((z*4:Nat):Int) by rw [if_neg (by omega)])) ?_
    refine oS (cF rfl en_153 rfl (fun w hw=>c_nat_Shr K (z*4) hK (by omega) w) ?_)
    refine oM ?_
    refine oP (Det.extract rfl rfl) ?_
    refine oP (Det.extract rfl rfl) ?_
    refine oS (mk (KS zr_33) (fun b10=>?_))
    refine KU rfl (sA rfl rfl sz_33 (by repeat (first|exact KY _|exact Kc _ _ _|exact Ka _|exact Kb _ _ _|exact Kd _ _ _|exact KN|refine KL rfl ?_|refine KM ?_ ?_)) (hl:=by first|exact KD _|exact KF _ _ _|exact KE _|exact KJ _ _ _|exact KT _ _ _|rfl|simp [KF,KD,KE]) (h:=?_))
    refine oA ?_
    refine KC ?_
    refine rD [10] ?_
    refine aM 0 ?_
    refine aP 1 rfl (KI (o':=0) Try.underlying33 rfl rfl rfl sz_31 (by decide)) ?_
    refine aP 2 rfl (Kh (i:=0) Try.underlying31 sz_30 rfl rfl (by decide)) ?_
    refine aM 4 ?_
    refine aP 5 rfl (KK (KH rfl rfl (br_shl64 (a:=1) (b:=4))) (vi (b:=16) (by decide))) ?_
    refine aP 6 rfl (KK (KH rfl rfl (KAd (a:=16) (b:=1) (by decide))) (vi (b:=15) (by decide))) ?_
    refine aO 3 rfl (LStep.det (dL rfl (hv:=KW Try.underlying30 rfl (by exact Kt _ (by decide)))) (Nb rfl) ?_)
    refine aP 7 rfl (KK (KH rfl rfl (br_and64 (b:=15) (limb_lt _ _) (by decide))) (vi (b:=K/2^(z*4)%16) (and15 _))) ?_
    refine aP 8 rfl (Det.convi Try.underlying30 Try.underlying3 rfl (by omega)) ?_
    refine aO 9 rfl (mk (KAM Try.underlying79 inf_3 rfl rfl rfl rfl (by decide) rfl) (fun b58=>?_))
    refine aL 10 rfl (LStepW.appendNil (news:=[.int .i64 ((K/2^(z*4)%16:Nat):Int)]) rfl rfl Try.underlying79 inf_3 rfl (by repeat (first|exact Mh _|apply Mt)) rfl (by decide) (by decide) (by decide) (Nb rfl) ?_)
    intro b1 cap1 rest1 hc1
    refine aA 11 ?_
    refine aE ?_
    refine KA ?_
    refine oP (Kx (v:=.int .i64 ((z:Nat):Int)) (by show some _ = some _; congr 2; omega)) ?_
    refine oP (KH (v:=.int .i64 (((z:Nat):Int)-1)) rfl rfl (br_subI (by omega) (by omega))) ?_
    refine oA ?_
    refine KC ?_
    obtain rfl:m-(0+1) = z:=by omega
    exact ⟨some ⟨0+1,b1,cap1,rest1⟩,⟨Nat.le_refl _,by show 0+1≤m; omega,by show 0+1+rest1.length = cap1; have h1:=hc1; simp at h1; omega⟩,by show m-(0+1)<m+1; omega,KAG (Sub.cells (b:=b1) (cs':=vec .i64 (0+1) (dg K m)++rest1) (by repeat (first|exact Sh _|apply St_)) (vec_first rfl _)) (Kj ⟨rfl,rfl,rfl,rfl,rfl,trivial⟩ (by repeat (first|exact Sel.nil _|refine Sel.cons (by repeat (first|exact Ph _|apply Pt_)) ?_)))⟩
  ·
    obtain ⟨hj1,hjn,hcap⟩:=hx
    dsimp only at hj1 hjn hcap
    dsimp only
    obtain ⟨z,hz⟩:∃ z,m-j = z+1:=⟨m-j-1,by omega⟩
    refine KA ?_
    refine oM ?_
    refine oP (KH (v:=.bool true) rfl rfl (by simp [KAB]; omega)) ?_
    refine KC ?_
    refine Ke rfl ?_
    refine KR ?_
    refine KB ?_
    refine LCode.block ?_
    refine KB (KA ?_)
    refine oD (dL rfl (hv:=by exact KG Try.underlying33 rfl sz_33)) ?_
    refine oP (Kx (v:=.int .i64 ((z:Nat):Int)) (by show some _ = some _; congr 2; omega)) ?_
    refine oM ?_
    refine oP (KH rfl rfl (br_mul (by omega))) ?_
    refine oP (KK (Det.min rfl rfl) (show _ = Value.int .i64 ((z*4:Nat):Int) by rw [if_neg (by omega)])) ?_
    refine oS (cF rfl en_153 rfl (fun w hw=>c_nat_Shr K (z*4) hK (by omega) w) ?_)
    refine oM ?_
    refine oP (Det.extract rfl rfl) ?_
    refine oP (Det.extract rfl rfl) ?_
    refine oS (mk (KS zr_33) (fun b10=>?_))
    refine KU rfl (sA rfl rfl sz_33 (by repeat (first|exact KY _|exact Kc _ _ _|exact Ka _|exact Kb _ _ _|exact Kd _ _ _|exact KN|refine KL rfl ?_|refine KM ?_ ?_)) (hl:=by first|exact KD _|exact KF _ _ _|exact KE _|exact KJ _ _ _|exact KT _ _ _|rfl|simp [KF,KD,KE]) (h:=?_))
    refine oA ?_
    refine KC ?_
    refine rD [10] ?_
    refine aM 0 ?_
    refine aP 1 rfl (KI (o':=0) Try.underlying33 rfl rfl rfl sz_31 (by decide)) ?_
    refine aP 2 rfl (Kh (i:=0) Try.underlying31 sz_30 rfl rfl (by decide)) ?_
    refine aM 4 ?_
    refine aP 5 rfl (KK (KH rfl rfl (br_shl64 (a:=1) (b:=4))) (vi (b:=16) (by decide))) ?_
    refine aP 6 rfl (KK (KH rfl rfl (KAd (a:=16) (b:=1) (by decide))) (vi (b:=15) (by decide))) ?_
    refine aO 3 rfl (LStep.det (dL rfl (hv:=KW Try.underlying30 rfl (by exact Kt _ (by decide)))) (Nb rfl) ?_)
    refine aP 7 rfl (KK (KH rfl rfl (br_and64 (b:=15) (limb_lt _ _) (by decide))) (vi (b:=K/2^(z*4)%16) (and15 _))) ?_
    refine aP 8 rfl (Det.convi Try.underlying30 Try.underlying3 rfl (by omega)) ?_
    refine aO 9 rfl (mk (KAM Try.underlying79 inf_3 rfl rfl rfl rfl (by decide) rfl) (fun b58=>?_))
    refine aL 10 rfl (LStepW.append (xs:=vec .i64 j (dg K m)) (rest:=rest) (news:=[.int .i64 ((K/2^(z*4)%16:Nat):Int)]) rfl rfl Try.underlying79 inf_3 rfl (by repeat (first|exact Pick.head _|apply Pick.tail)) (by repeat (first|exact Mh _|apply Mt)) (KF _ _ _) (by rw [KF]; exact hcap) rfl (KL rfl KN) (by omega) (by omega) (Nb rfl) ?_)
    intro b1 cap1 rest1 hc1
    refine aA 11 ?_
    refine aE ?_
    refine KA ?_
    refine oP (Kx (v:=.int .i64 ((z:Nat):Int)) (by show some _ = some _; congr 2; omega)) ?_
    refine oP (KH (v:=.int .i64 (((z:Nat):Int)-1)) rfl rfl (br_subI (by omega) (by omega))) ?_
    refine oA ?_
    refine KC ?_
    obtain rfl:m-(j+1) = z:=by omega
    exact ⟨some ⟨j+1,b1,cap1,rest1⟩,⟨by show 1≤j+1; omega,by show j+1≤m; omega,by show j+1+rest1.length = cap1; have h1:=hc1; rw [KF] at h1; exact h1⟩,by show m-(j+1)<m-j; omega,KAG (Sub.cells (b:=b1) (cs':=vec .i64 (j+1) (dg K m)++rest1) (by repeat (first|exact Sh _|apply St_)) (vec_snoc (by unfold dg; rw [show m-1-j = m-(j+1) by omega]) _)) (Kj ⟨rfl,rfl,rfl,rfl,rfl,trivial⟩ (by repeat (first|exact Sel.nil _|refine Sel.cons (by repeat (first|exact Ph _|apply Pt_)) ?_)))⟩
  ·
    obtain ⟨hj1,hjn,hcap⟩:=hx
    dsimp only at hj1 hjn hcap
    dsimp only
    refine KA ?_
    refine oM ?_
    refine oP (KH (v:=.bool false) rfl rfl (by simp [KAB]; omega)) ?_
    refine KC ?_
    refine KQ rfl ?_
    refine Kl ?_
    refine KB (KA ?_)
    refine oM ?_
    refine oA ?_
    refine oP (KX (v:=.int .i64 ((0:Nat):Int)) rfl) ?_
    refine KC (KO ?_)
    obtain rfl:j = m:=by omega
    exact ⟨[_,_],.cons rfl (.cons rfl .nil),fun a w' hr=>⟨_,_,⟨bd,cap,rest,rfl,rfl⟩,rfl,Brings.one hr.fr.below (hr.hp (.blk bd ⟨true,_,_,_⟩) (by repeat (first|exact Mh _|apply Mt))) (hr.new (b:=bd) (B:=⟨true,_,_,_⟩) (by repeat (first|exact Mh _|apply Mt)) rfl)⟩⟩
def evN:Nat→List Nat
  | 0=>[]
  | n+1=>evN n++List.range 16
theorem evN_length:∀ n,(evN n).length = n*16
  | 0=>rfl
  | n+1=>by show (evN n++List.range 16).length = _; rw [List.length_append,evN_length n,List.length_range]; omega
structure MulS (p:Nat) where
  i:Nat
  T:Fin p×Fin p×Fin p
  r:TrRow
theorem mul_top {V:Cv} (hok:V.Ok) {P:Pt V.p} {K m:Nat} (hK:K<V.n) (hm:(blen V.n+3)/4 = m):RepT V (tripF (.inf:Pt V.p)) (pmul V.A P (K/2^((m-0)*4))):=by
  have h1:=lt_blen V.n
  have h2:2^blen V.n≤2^((m-0)*4):=Nat.pow_le_pow_right (by decide) (by omega)
  rw [Nat.div_eq_of_lt (Nat.lt_of_lt_of_le (Nat.lt_trans hK h1) h2)]
  exact RepT.trip hok trivial
theorem mul_twice {V:Cv} (hok:V.Ok) {P:Pt V.p} (hP:On V.A V.B P) {q j:Nat} {T:Fin V.p×Fin V.p×Fin V.p} (h:RepT V T (pmul V.A P (q*2^j))):RepT V (sumT V T T) (pmul V.A P (q*2^(j+1))):=by
  have:=RepT.sum hok h h
  rwa [← pmul_add hok.crv hP,← Nat.mul_two,Nat.mul_assoc,← Nat.pow_succ] at this
theorem mul_digit {V:Cv} (hok:V.Ok) {P:Pt V.p} (hP:On V.A V.B P) {K m i:Nat} (hi:i<m) {T:Fin V.p×Fin V.p×Fin V.p} (h:RepT V T (pmul V.A P (K/2^((m-i)*4)*2^4))):RepT V (sumT V T (tripF (mulE V P (dg K m i)))) (pmul V.A P (K/2^((m-(i+1))*4))):=by
  have:=RepT.sum hok h (RepT.trip hok (hok.mul hP (dg K m i)))
  rw [← pmul_add hok.crv hP] at this
  have e:K/2^((m-i)*4)*2^4+dg K m i = K/2^((m-(i+1))*4):=by
    unfold dg
    rw [show m-1-i = m-(i+1) by omega,show (m-i)*4 = (m-(i+1))*4+4 by omega,Nat.pow_add,← Nat.div_div_eq_div_mul,show (2:Nat)^4 = 16 from rfl]
    generalize K/2^((m-(i+1))*4) = N
    omega
  rwa [e] at this
theorem mul_all {V:Cv} {P:Pt V.p} {K m i:Nat} {T:Fin V.p×Fin V.p×Fin V.p} (hi:i = m) (h:RepT V T (pmul V.A P (K/2^((m-i)*4)))):RepT V T (pmul V.A P K):=by
  subst hi
  rwa [Nat.sub_self,Nat.zero_mul,Nat.pow_zero,Nat.div_one] at h
theorem dig_get {K m i:Nat} {rest:List Value} (h:i<m):(vec .i64 m (dg K m)++rest)[i+0]? = some (.int .i64 ((dg K m i:Nat):Int)):=by
  rw [Nat.add_zero,List.getElem?_append_left (by rw [KF]; exact h)]
  exact Kr _ _ _ h
theorem c_mTimes (tb:Option Nat) (tr:TrRow) (l:List Nat) (V:Cv) (b f bd:Nat) (hok:V.Ok) (K m:Nat) (P:Pt V.p) (bt br cap:Nat) (rest:List Value) {wr1 wr2:Bool} (hP:On V.A V.B P) (hK:K<V.n) (hm:(blen V.n+3)/4 = m) (w:World) (h0:(trI tb tr l).holds w) (hl:l.length≤80000000) (hb:(Item.blk b ⟨false,opL V f,129,(0,0)⟩).holds w) (hf:(Item.blk f ⟨false,fldL V.p bd,162,(0,0)⟩).holds w) (hbd:(Item.blk bd ⟨false,dvL V.p,212,(0,0)⟩).holds w) (h1:(Item.blk bt ⟨wr1,[.slice (some ⟨br,0,none⟩) 16 cap],116,(0,0)⟩).holds w) (h2:(Item.blk br ⟨wr2,tabL (mulE V (P)) 16++rest,35,(0,0)⟩).holds w) (o0:Out tb tr (Item.blk b ⟨false,opL V f,129,(0,0)⟩)) (o1:Out tb tr (Item.blk f ⟨false,fldL V.p bd,162,(0,0)⟩)) (o2:Out tb tr (Item.blk bd ⟨false,dvL V.p,212,(0,0)⟩)) (n1:Out tb tr (Item.blk bt ⟨wr1,[.slice (some ⟨br,0,none⟩) 16 cap],116,(0,0)⟩)) (n2:Out tb tr (Item.blk br ⟨wr2,tabL (mulE V (P)) 16++rest,35,(0,0)⟩)):Calls Try.prog 103 ([trV tb,.pointer (some ⟨b,0,none⟩),natV K,.pointer (some ⟨bt,0,none⟩)]:List Value).toArray w (fun e w'=>TrR w tb tr (l++evN m) (ptP (pmul V.A P K)) e w'):=by
  have hbb:=hok.bounds
  have hnW:V.n<W9:=KAF hbb.2.2.2.2.2.2.1
  have hbl:=KAe hnW
  have hK9:=Nat.lt_trans hK hnW
  have hkb:blen K≤blen V.n:=blen_le (Nat.lt_trans hK (lt_blen _))
  have hbl1:1≤blen V.n:=Nat.pos_of_ne_zero (blen_ne (by omega))
  refine calls_tr (N:=56) (rs:=[.cell 8 35]) tb tr l [.blk b ⟨false,opL V f,129,(0,0)⟩,.blk f ⟨false,fldL V.p bd,162,(0,0)⟩,.blk bd ⟨false,dvL V.p,212,(0,0)⟩,.blk bt ⟨false,[.slice (some ⟨br,0,none⟩) 16 cap],116,(0,0)⟩,.blk br ⟨false,tabL (mulE V (P)) 16++rest,35,(0,0)⟩] Try.func103 rfl Try.ntmps103 Try.results103 (Nb rfl) h0 ⟨hb,hf,hbd,h1,h2,trivial⟩ rfl ⟨o0,o1,o2,n1,n2,trivial⟩ ?_
  show LCode _ _ _ ⟨_,_⟩ _
  refine KB (KA ?_)
  refine oS (mB (fun b6=>?_))
  refine oS (mk (KS zr_35) (fun b8=>?_))
  refine KC ?_
  refine KB ?_
  refine rD [] ?_
  refine aD 0 rfl (dL rfl (hv:=by exact KG Try.underlying33 rfl sz_33)) ?_
  refine aM 1 ?_
  refine aP 2 rfl (KP rfl) ?_
  refine aP 3 rfl (KI (o':=0) Try.underlying129 rfl rfl rfl KAS (by decide)) ?_
  refine aP 4 rfl (KI (o':=56) Try.underlying126 rfl rfl rfl sz_3 (by decide)) ?_
  refine aD 5 rfl (dL rfl (hv:=KW Try.underlying3 rfl (by exact cvC_gt_bits _ _ _ _ _ _ _ _ _ _ _ _ _))) ?_
  refine aO 6 rfl (cC rfl en_137 rfl (fun w hw=>bringsC (c_Digits K (blen V.n) m hK9 hbl1 (by omega) hkb hm w) _) ?_)
  rintro _ _ ⟨ds,dcap,drest,rfl,rfl⟩
  refine aM 7 ?_
  refine aP 8 rfl (Det.extract rfl rfl) ?_
  refine aP 9 rfl (Det.extract rfl rfl) ?_
  refine aA 10 ?_
  refine aA 11 ?_
  refine aE ?_
  refine KB (KA ?_)
  refine oS (cF rfl en_123 rfl (fun w hw=>c_NoneF hok w) ?_)
  refine oS (mk (KS zr_172) (fun b11=>?_))
  refine KU rfl (sA rfl rfl sz_172 (by exact pjFL_one _) (hl:=by exact pjFL_length _) (h:=?_))
  refine KC ?_
  refine KB ?_
  refine KB (KA ?_)
  refine oM ?_
  refine oP (KAW Try.underlying79 rfl) ?_
  refine oP (Kx (v:=.int .i64 ((0:Nat):Int)) rfl) ?_
  refine KC ?_
  refine LCode.block ?_
  refine Kp (α:=MulS V.p) (fun x=>x.i≤m∧RepT V x.T (pmul V.A P (K/2^((m-x.i)*4)))) (fun x=>⟨[(0,trV tb),(1,.pointer (some ⟨b,0,none⟩)),(3,.pointer (some ⟨bt,0,none⟩)),(8,.pointer (some ⟨b8,0,none⟩)),(11,.pointer (some ⟨b11,0,none⟩)),(27,.slice (some ⟨ds,0,none⟩) m dcap),(28,.int .i64 ((m:Nat):Int)),(29,.int .i64 ((x.i:Nat):Int))],[trI tb (x.r) (l++evN x.i),.blk b11 ⟨true,pjFL x.T,172,(0,0)⟩,.blk b8 ⟨true,vec .u64 9 (fun _=>0)++(vec .u64 9 (fun _=>0)++[Value.bool false]),35,(0,0)⟩,.blk ds ⟨true,vec .i64 (m) (dg K m)++drest,3,(0,0)⟩,.blk b ⟨false,opL V f,129,(0,0)⟩,.blk f ⟨false,fldL V.p bd,162,(0,0)⟩,.blk bd ⟨false,dvL V.p,212,(0,0)⟩,.blk bt ⟨false,[.slice (some ⟨br,0,none⟩) 16 cap],116,(0,0)⟩,.blk br ⟨false,tabL (mulE V (P)) 16++rest,35,(0,0)⟩]⟩) (fun x=>m-x.i) (⟨0,tripF (.inf:Pt V.p),tr⟩) (⟨Nat.zero_le _,mul_top hok hK hm⟩) (by dsimp only [evN]; rw [List.append_nil]; exact Kj ⟨rfl,rfl,rfl,rfl,rfl,rfl,rfl,rfl,trivial⟩ (by repeat (first|exact Sel.nil _|refine Sel.cons (by repeat (first|exact Ph _|apply Pt_)) ?_))) ?_
  rintro x ⟨hx1,hx2⟩
  refine KB (KA ?_)
  refine oP (KH rfl rfl (KAZ)) ?_
  refine KC ?_
  refine KB ?_
  first|refine KV rfl (fun h30=>?_) (fun h30=>?_)|refine KZ rfl (fun h30=>?_) (fun h30=>?_)
  ·
    have h30:x.i<m:=h30
    refine KR ?_
    refine KB ?_
    refine LCode.block ?_
    refine KB (KA ?_)
    refine oP (Det.indexS Try.underlying79 sz_3 rfl rfl (by omega)) ?_
    refine oD (dL rfl (hv:=KW Try.underlying3 rfl (by exact dig_get (by omega)))) ?_
    refine oA ?_
    refine KC ?_
    refine KB ?_
    refine KB (KA ?_)
    refine oP (Kx (v:=.int .i64 ((0:Nat):Int)) rfl) ?_
    refine KC ?_
    refine LCode.block ?_
    refine Kp (α:=Nat×(Fin V.p×Fin V.p×Fin V.p)) (fun y=>y.1≤4∧RepT V y.2 (pmul V.A P (K/2^((m-x.i)*4)*2^y.1))) (fun y=>⟨[(13,.int .i64 ((dg K m x.i:Nat):Int)),(33,.int .i64 ((y.1:Nat):Int)),(0,trV tb),(1,.pointer (some ⟨b,0,none⟩)),(3,.pointer (some ⟨bt,0,none⟩)),(8,.pointer (some ⟨b8,0,none⟩)),(11,.pointer (some ⟨b11,0,none⟩)),(27,.slice (some ⟨ds,0,none⟩) m dcap),(28,.int .i64 ((m:Nat):Int)),(29,.int .i64 ((x.i:Nat):Int))],[trI tb (x.r) (l++evN x.i),.blk b11 ⟨true,pjFL y.2,172,(0,0)⟩,.blk b8 ⟨true,vec .u64 9 (fun _=>0)++(vec .u64 9 (fun _=>0)++[Value.bool false]),35,(0,0)⟩,.blk ds ⟨true,vec .i64 (m) (dg K m)++drest,3,(0,0)⟩,.blk b ⟨false,opL V f,129,(0,0)⟩,.blk f ⟨false,fldL V.p bd,162,(0,0)⟩,.blk bd ⟨false,dvL V.p,212,(0,0)⟩,.blk bt ⟨false,[.slice (some ⟨br,0,none⟩) 16 cap],116,(0,0)⟩,.blk br ⟨false,tabL (mulE V (P)) 16++rest,35,(0,0)⟩]⟩) (fun y=>4-y.1) ((0,x.T)) (⟨Nat.zero_le _,by dsimp only; rw [Nat.pow_zero,Nat.mul_one]; exact hx2⟩) (Kj ⟨rfl,rfl,rfl,rfl,rfl,rfl,rfl,rfl,rfl,rfl,trivial⟩ (by repeat (first|exact Sel.nil _|refine Sel.cons (by repeat (first|exact Ph _|apply Pt_)) ?_))) ?_
    rintro y ⟨hy1,hy2⟩
    refine KB (KA ?_)
    refine oP (KH rfl rfl (KAZ (b:=4))) ?_
    refine KC ?_
    refine KB ?_
    first|refine KV rfl (fun h34=>?_) (fun h34=>?_)|refine KZ rfl (fun h34=>?_) (fun h34=>?_)
    ·
      have h34:y.1<4:=h34
      refine KR ?_
      refine KB ?_
      refine LCode.block ?_
      refine KA ?_
      refine oM ?_
      refine oD (dL rfl (hv:=by exact KG Try.underlying172 rfl sz_172)) ?_
      refine oD (dL rfl (hv:=by exact KG Try.underlying172 rfl sz_172)) ?_
      refine oS (cF rfl en_125 rfl (fun w hw=>c_SumT V b f bd hok (y.2) (y.2) w (mC hw) (mC hw) (mC hw)) ?_)
      refine KU rfl (sA rfl rfl sz_172 (by exact pjFL_one _) (hl:=by exact pjFL_length _) (h:=?_))
      refine KC ?_
      refine KA ?_
      refine oP (KH rfl rfl (Kv (b:=1) (by omega))) ?_
      refine oM ?_
      refine KC ?_
      exact ⟨(y.1+1,sumT V y.2 y.2),⟨by dsimp only; omega,mul_twice hok hP hy2⟩,by dsimp only; omega,Kj ⟨rfl,rfl,rfl,rfl,rfl,rfl,rfl,rfl,rfl,rfl,trivial⟩ (by repeat (first|exact Sel.nil _|refine Sel.cons (by repeat (first|exact Ph _|apply Pt_)) ?_))⟩
    ·
      have h34:¬ y.1<4:=h34
      refine Kl ?_
      refine KB ?_
      obtain ⟨j,T⟩:=y
      obtain rfl:j = 4:=by omega
      refine KA ?_
      refine oM ?_
      refine oM ?_
      refine oM ?_
      refine KU rfl (LStepW.callT (first:=[]) (r:=x.r) (l:=l++evN x.i) (l':=l++evN (x.i+1)) rfl en_34 rfl (Nb rfl) (by repeat (first|exact Pick.head _|apply Pick.tail)) (fun w hw hn=>by rw [show l++evN (x.i+1) = (l++evN x.i)++List.range 16 from (List.append_assoc _ _ _).symm]; exact c_tabPick tb x.r _ bt br cap rest V hok (mulE V (P)) 16 (dg K m x.i) (dg_lt _ _ _) (by decide) w (mC hw) (mC hw) (mC hw) (hn _ (by repeat (first|exact Mh _|apply Mt))) (hn _ (by repeat (first|exact Mh _|apply Mt))) (by rw [List.length_append,evN_length]; omega)) ?_)
      intro r1
      refine oM ?_
      refine oP (Det.extract rfl rfl) ?_
      refine oP (Det.extract rfl rfl) ?_
      refine oS (mk (KS zr_35) (fun b14=>?_))
      refine KU rfl (sA rfl rfl sz_35 (by repeat (first|exact KY _|exact Kc _ _ _|exact Ka _|exact Kb _ _ _|exact Kd _ _ _|exact KN|refine KL rfl ?_|refine KM ?_ ?_)) (hl:=by exact KJ _ _ _) (h:=?_))
      refine oA ?_
      refine KC ?_
      refine rD [5] ?_
      refine aM 0 ?_
      refine aD 1 rfl (dL rfl (hv:=by exact KG Try.underlying172 rfl sz_172)) ?_
      refine aD 2 rfl (dL rfl (hv:=by exact KG Try.underlying35 rfl sz_35)) ?_
      refine aO 3 rfl (cF rfl en_122 rfl (fun w hw=>c_Triple V hok (mulE V (P) (dg K m x.i)) w) ?_)
      refine aO 4 rfl (cF rfl en_125 rfl (fun w hw=>c_SumT V b f bd hok (T) (tripF (mulE V (P) (dg K m x.i))) w (mC hw) (mC hw) (mC hw)) ?_)
      refine aL 5 rfl (sA rfl rfl sz_172 (by exact pjFL_one _) (hl:=by exact pjFL_length _) (h:=?_))
      refine aE ?_
      refine KA ?_
      refine oP (KH rfl rfl (Kv (b:=1) (by omega))) ?_
      refine oM ?_
      refine KC ?_
      exact ⟨⟨x.i+1,sumT V T (tripF (mulE V (P) (dg K m x.i))),r1⟩,⟨by dsimp only; omega,mul_digit hok hP h30 hy2⟩,by dsimp only; omega,Kj ⟨rfl,rfl,rfl,rfl,rfl,rfl,rfl,rfl,trivial⟩ (by repeat (first|exact Sel.nil _|refine Sel.cons (by repeat (first|exact Ph _|apply Pt_)) ?_))⟩
  ·
    have h30:¬ x.i<m:=h30
    refine Kl ?_
    refine KB ?_
    have hxm:x.i = m:=by omega
    refine KA ?_
    refine oM ?_
    refine oD (dL rfl (hv:=by exact KG Try.underlying172 rfl sz_172)) ?_
    refine oS (cF rfl en_124 rfl (fun w hw=>c_PlainT V b f bd hok (x.T) (pmul V.A P K) w (mC hw) (mC hw) (mC hw) (mul_all hxm hx2)) ?_)
    refine KU rfl (sA rfl rfl sz_35 (by repeat (first|exact KY _|exact Kc _ _ _|exact Ka _|exact Kb _ _ _|exact Kd _ _ _|exact KN|refine KL rfl ?_|refine KM ?_ ?_)) (hl:=by simp [KJ,KF]) (h:=?_))
    refine KC (KO ?_)
    exact ⟨[_],.cons ⟨_,_,_,rfl,(by repeat (first|exact Mh _|apply Mt)),by exact KG Try.underlying35 rfl sz_35⟩ .nil,fun a w' hr=>by
      have hq:=hr.tr (v:=ptP (pmul V.A P K)) (r':=x.r) (l:=l++evN x.i) (by repeat (first|exact Mh _|apply Mt))
      rwa [hxm] at hq⟩
end Go.Proofs.Ytlmiolnccgjjjaa
set_option linter.unusedVariables false
set_option linter.unusedSimpArgs false
set_option maxRecDepth 20000
namespace Go.Proofs.Ytlmiolnccgjjjaa
open Go Go.RowKit
open Grp
theorem c_mMul (tb:Option Nat) (tr:TrRow) (l:List Nat) (id:Int) (V:Cv) (K:Nat) (P:Pt V.p) (m:Nat) (hm:(blen V.n+3)/4 = m) (w:World) (h:cvI id = some V) (hP:On V.A V.B P) (hK:K<V.n) (h0:(trI tb tr l).holds w) (hl:l.length≤80000000):Calls Try.prog 63 ([trV tb,.int .i64 id,natV K,ptP P]:List Value).toArray w (fun e w'=>TrR w tb tr (l++evN m) (.tuple #[ptP (pmul V.A P K),.int .i64 ((0:Nat):Int)]) e w'):=by
  obtain ⟨hok,hid⟩:=cvI_ok h
  have hbb:=hok.bounds
  have hpW:V.p<W9:=KAF hbb.2.1
  have hnW:V.n<W9:=KAF hbb.2.2.2.2.2.2.1
  have hbl:=KAe hnW
  have hnb:nby V.n≤72:=by (unfold nby; omega)
  refine calls_tr (N:=40) (rs:=[.cell 8 35,.tmp 9]) tb tr l [] Try.func63 rfl Try.ntmps63 Try.results63 (Nb rfl) h0 trivial rfl trivial ?_
  show LCode _ _ _ ⟨_,_⟩ _
  refine KB (KA ?_)
  refine oS (mB (fun b6=>?_))
  refine oS (mB (fun b7=>?_))
  refine oS (mk (KS zr_35) (fun b8=>?_))
  refine oP (KX (v:=.int .i64 ((0:Nat):Int)) rfl) ?_
  refine KC ?_
  refine KB (KA ?_)
  refine oM ?_
  refine oS (KAK (Post:=fun v its=>∃ b f bd,v = .pointer (some ⟨b,0,none⟩)∧its = [.blk b ⟨false,opL V f,129,(0,0)⟩,.blk f ⟨false,fldL V.p bd,162,(0,0)⟩,.blk bd ⟨false,dvL V.p,212,(0,0)⟩]) (first:=[]) rfl en_80 rfl (Nb rfl) (fun w1 hw hs=>(c_Open _ V w1 h).mono fun e w' ⟨b,f,bd,h1,h2,h3,h4,h5,h6,h7,h8⟩=>⟨_,_,⟨b,f,bd,rfl,rfl⟩,h1,KAN h8 (by intro x hx; simp at hx; rcases hx with rfl|rfl|rfl; exact h2; exact h3; exact h4) (by intro x hx; simp at hx; rcases hx with rfl|rfl|rfl <;> rfl) (by intro x hx k hk; simp at hx; rcases hx with rfl|rfl|rfl <;> simp [Item.fp] at hk <;> subst hk; exact .inl h5; exact .inl h6; exact .inl h7)⟩) ?_)
  rintro _ _ ⟨b,f,bd,rfl,rfl⟩
  refine oA ?_
  refine KC ?_
  refine KB ?_
  refine LCode.block ?_
  refine KB (KA ?_)
  refine oM ?_
  refine oP (KK (Det.eqp Try.underlying110 rfl rfl) (show _ = Value.bool false from rfl)) ?_
  refine oA ?_
  refine KC ?_
  refine KQ rfl ?_
  refine KB (KA ?_)
  refine oM ?_
  refine oD (dL rfl (hv:=by exact KG Try.underlying35 rfl sz_35)) ?_
  refine oS (cF rfl en_81 rfl (fun w hw=>c_cOnP V b f bd hok (P) w (mC hw) (mC hw) (mC hw) hP) ?_)
  refine oP (KK (Det.not rfl) (show _ = Value.bool false from rfl)) ?_
  refine oA ?_
  refine KC ?_
  refine KQ rfl ?_
  refine KB ?_
  refine rD [] ?_
  refine aD 0 rfl (dL rfl (hv:=by exact KG Try.underlying33 rfl sz_33)) ?_
  refine aM 1 ?_
  refine aP 2 rfl (KP rfl) ?_
  refine aP 3 rfl (KI (o':=0) Try.underlying129 rfl rfl rfl KAS (by decide)) ?_
  refine aP 4 rfl (KI (o':=28) Try.underlying126 rfl rfl rfl sz_33 (by decide)) ?_
  refine aD 5 rfl (dL rfl (hv:=by exact cvC_ld_n _ _ _ _ _ _ _ _ _ _ _ _ _ _ _ _)) ?_
  refine aO 6 rfl (cF rfl en_97 rfl (fun w hw=>c_nat_Cmp K V.n (Nat.lt_trans hK hnW) hnW w) ?_)
  refine aP 7 rfl (KH (v:=.bool false) rfl rfl (br_f cmp_geq (Nat.not_le_of_gt hK))) ?_
  refine aA 8 ?_
  refine aE ?_
  refine KQ rfl ?_
  refine KR ?_
  refine KB ?_
  refine rD [6,7] ?_
  refine aM 0 ?_
  refine aM 1 ?_
  refine aD 2 rfl (dL rfl (hv:=by exact KG Try.underlying33 rfl sz_33)) ?_
  refine aM 3 ?_
  refine aO 4 rfl (LStep.det (dL rfl (hv:=by exact KG Try.underlying35 rfl sz_35)) (Nb rfl) ?_)
  refine aO 5 rfl (cC rfl en_82 rfl (fun w hw=>bringsC (c_tabOf V b f bd hok (P) hP 16 (by decide) (by decide) w (mC hw) (mC hw) (mC hw)) _) ?_)
  rintro _ _ ⟨bt,br,cap,rest,rfl,rfl⟩
  refine aL 6 rfl (LStepW.callT (first:=[]) (r:=tr) (l:=l) (l':=l++evN m) rfl en_103 rfl (Nb rfl) (by repeat (first|exact Pick.head _|apply Pick.tail)) (fun w hw hn=>c_mTimes tb tr l V b f bd hok K m (P) bt br cap rest hP hK hm w (mC hw) hl (mC hw) (mC hw) (mC hw) (mC hw) (mC hw) (hn _ (by repeat (first|exact Mh _|apply Mt))) (hn _ (by repeat (first|exact Mh _|apply Mt))) (hn _ (by repeat (first|exact Mh _|apply Mt))) (hn _ (by repeat (first|exact Mh _|apply Mt))) (hn _ (by repeat (first|exact Mh _|apply Mt)))) ?_)
  intro r1
  refine aL 7 rfl (sA rfl rfl sz_35 (by exact Kb _ _ _) (hl:=by simp [KJ,KF]) (h:=?_))
  refine aP 8 rfl (KX (v:=.int .i64 ((0:Nat):Int)) rfl) ?_
  refine aE ?_
  refine KO ?_
  exact ⟨[_,_],.cons ⟨_,_,_,rfl,(by repeat (first|exact Mh _|apply Mt)),by exact KG Try.underlying35 rfl sz_35⟩ (.cons rfl .nil),fun a w' hr=>hr.tr (by repeat (first|exact Mh _|apply Mt))⟩
theorem c_bTimes (tb:Option Nat) (tr:TrRow) (l:List Nat) (V:Cv) (b f bd:Nat) (hok:V.Ok) (K:Nat) (hK:K<V.n) (m:Nat) (hm:(blen V.n+3)/4 = m) (w:World) (h0:(trI tb tr l).holds w) (hl:l.length≤80000000) (hb:(Item.blk b ⟨false,opL V f,129,(0,0)⟩).holds w) (hf:(Item.blk f ⟨false,fldL V.p bd,162,(0,0)⟩).holds w) (hbd:(Item.blk bd ⟨false,dvL V.p,212,(0,0)⟩).holds w) (o0:Out tb tr (Item.blk b ⟨false,opL V f,129,(0,0)⟩)) (o1:Out tb tr (Item.blk f ⟨false,fldL V.p bd,162,(0,0)⟩)) (o2:Out tb tr (Item.blk bd ⟨false,dvL V.p,212,(0,0)⟩)):Calls Try.prog 98 ([trV tb,.pointer (some ⟨b,0,none⟩),natV K]:List Value).toArray w (fun e w'=>TrR w tb tr (l++evN m) (ptP (pmul V.A V.G K)) e w'):=by
  refine calls_tr (N:=18) (rs:=[.cell 6 35]) tb tr l [.blk b ⟨false,opL V f,129,(0,0)⟩,.blk f ⟨false,fldL V.p bd,162,(0,0)⟩,.blk bd ⟨false,dvL V.p,212,(0,0)⟩] Try.func98 rfl Try.ntmps98 Try.results98 (Nb rfl) h0 ⟨hb,hf,hbd,trivial⟩ rfl ⟨o0,o1,o2,trivial⟩ ?_
  show LCode _ _ _ ⟨_,_⟩ _
  refine KB (KA ?_)
  refine oS (mB (fun b5=>?_))
  refine oS (mk (KS zr_35) (fun b6=>?_))
  refine KC ?_
  refine KB ?_
  refine rD [10,11] ?_
  refine aM 0 ?_
  refine aM 1 ?_
  refine aD 2 rfl (dL rfl (hv:=by exact KG Try.underlying33 rfl sz_33)) ?_
  refine aM 3 ?_
  refine aM 4 ?_
  refine aP 5 rfl (KP rfl) ?_
  refine aP 6 rfl (KI (o':=0) Try.underlying129 rfl rfl rfl KAS (by decide)) ?_
  refine aP 7 rfl (KI (o':=37) Try.underlying126 rfl rfl rfl sz_35 (by decide)) ?_
  refine aO 8 rfl (LStep.det (Det.cast (dL rfl (hv:=by exact cvC_ld_g _ _ _ _ _ _ _ _ _ _ _ _ _ _ _ _)) (g_val hok)) (Nb rfl) ?_)
  refine aO 9 rfl (cC rfl en_82 rfl (fun w hw=>bringsC (c_tabOf V b f bd hok (V.G) hok.on 16 (by decide) (by decide) w (mC hw) (mC hw) (mC hw)) _) ?_)
  rintro _ _ ⟨bt,br,cap,rest,rfl,rfl⟩
  refine aL 10 rfl (LStepW.callT (first:=[]) (r:=tr) (l:=l) (l':=l++evN m) rfl en_103 rfl (Nb rfl) (by repeat (first|exact Pick.head _|apply Pick.tail)) (fun w hw hn=>c_mTimes tb tr l V b f bd hok K m (V.G) bt br cap rest hok.on hK hm w (mC hw) hl (mC hw) (mC hw) (mC hw) (mC hw) (mC hw) (hn _ (by repeat (first|exact Mh _|apply Mt))) (hn _ (by repeat (first|exact Mh _|apply Mt))) (hn _ (by repeat (first|exact Mh _|apply Mt))) (hn _ (by repeat (first|exact Mh _|apply Mt))) (hn _ (by repeat (first|exact Mh _|apply Mt)))) ?_)
  intro r1
  refine aL 11 rfl (sA rfl rfl sz_35 (by exact Kb _ _ _) (hl:=by simp [KJ,KF]) (h:=?_))
  refine aE ?_
  refine KO ?_
  exact ⟨[_],.cons ⟨_,_,_,rfl,(by repeat (first|exact Mh _|apply Mt)),by exact KG Try.underlying35 rfl sz_35⟩ .nil,fun a w' hr=>hr.tr (by repeat (first|exact Mh _|apply Mt))⟩
end Go.Proofs.Ytlmiolnccgjjjaa
set_option linter.unusedVariables false
set_option linter.unusedSimpArgs false
set_option maxRecDepth 20000
namespace Go.Proofs.Ytlmiolnccgjjjaa
open Go Go.RowKit
def pStr (V:Cv) (X Y:Nat) (i sh:Bool):ByteArray:=if (onB V.p V.a V.b X Y i && !i) = true then putS V X Y sh else ⟨#[]⟩
def pErr (V:Cv) (X Y:Nat) (i:Bool):Nat:=if (onB V.p V.a V.b X Y i && !i) = true then 0 else 2101
theorem putV_eq (V:Cv) (X Y:Nat) (i sh:Bool):putV V X Y i sh = .tuple #[.string (pStr V X Y i sh),.int .i64 ((pErr V X Y i:Nat):Int)]:=by
  unfold putV pStr pErr; split <;> rfl
theorem c_s_Put2 (id:Int) (V:Cv) (X Y:Nat) (i sh:Bool) (w:World) (h:cvI id = some V) (hX:X<W9) (hY:Y<W9):Calls Try.prog 40 ([.int .i64 id,ptV X Y i,.bool sh]:List Value).toArray w (fun e w'=>e = .returned (.tuple #[.string (pStr V X Y i sh),.int .i64 ((pErr V X Y i:Nat):Int)])∧Below w.heap.size w w'):=by
  have h1:=c_s_Put id V X Y i sh w h hX hY
  rwa [putV_eq] at h1
theorem c_s_PutE (s:ByteArray) (n:Nat) (id:Int) (V:Cv) (X Y:Nat) (i sh:Bool) (w:World) (h:cvI id = some V) (hX:X<W9) (hY:Y<W9) (hs:pStr V X Y i sh = s) (hn:pErr V X Y i = n):Calls Try.prog 40 ([.int .i64 id,ptV X Y i,.bool sh]:List Value).toArray w (fun e w'=>e = .returned (.tuple #[.string s,.int .i64 ((n:Nat):Int)])∧Below w.heap.size w w'):=by
  subst hs hn; exact c_s_Put2 id V X Y i sh w h hX hY
theorem c_s_GetE (X Y n:Nat) (id:Int) (V:Cv) (s:ByteArray) (w:World) (h:cvI id = some V) (hs:s.size<9223372036854775808) (hn:getT V s = (X,Y,n)):Calls Try.prog 41 ([.int .i64 id,.string s]:List Value).toArray w (fun e w'=>e = .returned (.tuple #[ptV X Y false,.int .i64 ((n:Nat):Int)])∧Below w.heap.size w w'):=by
  have h1:=c_s_Get id V s w h hs
  rwa [getV_eq hn] at h1
theorem getX_l (V:Cv) (s:ByteArray):getX V s = beVal ((s.data.toList.take (1+nby V.p)).drop 1):=by unfold getX; rw [ext_data]
theorem getY_l (V:Cv) (s:ByteArray):getY V s = beVal (s.data.toList.drop (1+nby V.p)):=by
  unfold getY; rw [ext_data]
  rw [show s.size = s.data.toList.length by rw [Array.length_toList]; rfl,List.take_length]
theorem size_l (s:ByteArray):s.size = s.data.toList.length:=by rw [Array.length_toList]; rfl
def gT (k:Nat) (V:Cv) (l:List UInt8):Nat×Nat×Nat :=
  if l.length = 1+k∧((l.getD 0 0).toNat = 2∨(l.getD 0 0).toNat = 3) then (if (liftT V (beVal ((l.take (1+k)).drop 1)) ((l.getD 0 0).toNat-2)).2.2 = true then ((liftT V (beVal ((l.take (1+k)).drop 1)) ((l.getD 0 0).toNat-2)).1,(liftT V (beVal ((l.take (1+k)).drop 1)) ((l.getD 0 0).toNat-2)).2.1,0) else (0,0,2101))
  else if l.length = 1+2*k∧(l.getD 0 0).toNat = 4 then (if onB V.p V.a V.b (beVal ((l.take (1+k)).drop 1)) (beVal (l.drop (1+k))) false = true then (beVal ((l.take (1+k)).drop 1),beVal (l.drop (1+k)),0) else (0,0,2101))
  else (0,0,2102)
theorem getT_l (V:Cv) (s:ByteArray):getT V s = gT (nby V.p) V s.data.toList:=by
  unfold getT gT b0
  rw [getX_l,getY_l,size_l]
theorem nby13:nby cv13.p = 1:=by decide +kernel
end Go.Proofs.Ytlmiolnccgjjjaa
set_option linter.unusedVariables false
set_option linter.unusedSimpArgs false
set_option maxRecDepth 20000
namespace Go.Proofs.Ytlmiolnccgjjjaa
open Go Go.RowKit
open Grp
theorem p_pow {V:Cv} {X:Nat} (h:X<V.p):X<256^nby V.p:=by
  have h1:=lt_blen V.p
  have h2:2^blen V.p≤2^(8*nby V.p):=Nat.pow_le_pow_right (by decide) (by unfold nby; omega)
  rw [Nat.pow_mul] at h2
  exact Nat.lt_trans h (Nat.lt_of_lt_of_le h1 h2)
theorem pfx_l (x:Nat):(pfx x).data.toList = [UInt8.ofNat x]:=rfl
theorem coB_l (V:Cv) (X:Nat):(coB V X).data.toList = beBytes (nby V.p) X:=by unfold coB strOf; rfl
theorem putS_s (V:Cv) (X Y:Nat):(putS V X Y true).data.toList = UInt8.ofNat (2+Y%2) :: beBytes (nby V.p) X:=by
  unfold putS; rw [if_pos rfl,ByteArray.toList_data_append,pfx_l,coB_l]; rfl
theorem putS_l (V:Cv) (X Y:Nat):(putS V X Y false).data.toList = 4 :: (beBytes (nby V.p) X++beBytes (nby V.p) Y):=by
  unfold putS; rw [if_neg (by decide),ByteArray.toList_data_append,ByteArray.toList_data_append,pfx_l,coB_l,coB_l]; rfl
theorem on_rt {V:Cv} {X Y:Nat} (h:onB V.p V.a V.b X Y false = true):Y*Y%V.p = rightN V.p V.a V.b X:=by
  unfold onB at h
  rw [if_neg (by decide)] at h
  simp only [Bool.and_eq_true,decide_eq_true_eq] at h
  exact h.2.2
theorem even_of {V:Cv} (hok:V.Ok) {X Y:Nat} (h:onB V.p V.a V.b X Y false = true):sqN V.p (rightN V.p V.a V.b X) = some (if Y%2 = 1 then V.p-Y else Y):=by
  obtain ⟨hX,hY⟩:=on_lt h
  have h1:=sqN_eq hok.fld (p_odd hok) (⟨Y,hY⟩:Fin V.p)
  rw [Fin.val_mul] at h1
  rw [← on_rt h]
  show sqN V.p (Y*Y%V.p) = _
  refine Eq.trans h1 (congrArg some ?_)
  unfold evenR
  by_cases h2:Y%2 = 1
  · rw [if_pos h2,if_pos h2,fin_neg_val _ (by show Y≠0; omega)]
  · rw [if_neg h2,if_neg h2]
theorem lift_put {V:Cv} (hok:V.Ok) {X Y:Nat} (h:onB V.p V.a V.b X Y false = true):liftT V X (Y%2) = (X,Y,true):=by
  have h1:=even_of hok h
  obtain ⟨hX,hY⟩:=on_lt h
  rcases Nat.mod_two_eq_zero_or_one Y with h2|h2
  · rw [if_neg (by omega)] at h1
    rw [h2]; exact lift_even hX h1
  · rw [if_pos h2] at h1
    rw [h2,lift_odd hX h1 (by omega),show V.p-(V.p-Y) = Y by omega]
theorem u8_toNat {n:Nat} (h:n<256):(UInt8.ofNat n).toNat = n:=by
  rw [UInt8.toNat_ofNat']; exact Nat.mod_eq_of_lt h
theorem getT_short {V:Cv} {s:ByteArray} {b:UInt8} {l:List UInt8} {o X Y:Nat} {ok:Bool} (hs:s.data.toList = b :: l) (hl:l.length = nby V.p) (hb:b.toNat = 2+o) (ho:o≤1) (hL:liftT V (beVal l) o = (X,Y,ok)):getT V s = if ok then (X,Y,0) else (0,0,2101):=by
  have h1:s.size = 1+nby V.p:=by rw [size_l,hs,List.length_cons,hl,Nat.add_comm]
  have h2:b0 s = 2+o:=by unfold b0; rw [hs]; exact hb
  have h3:getX V s = beVal l:=by
    rw [getX_l,hs,Nat.add_comm,List.take_succ_cons,List.drop_succ_cons,List.drop_zero,← hl,List.take_length]
  rw [← h3] at hL
  cases ok
  · exact get_shortF h1 h2 ho hL
  · exact get_short h1 h2 ho hL
theorem getT_long {V:Cv} {s:ByteArray} {l m:List UInt8} {ok:Bool} (hk:1≤nby V.p) (hs:s.data.toList = 4 :: (l++m)) (hl:l.length = nby V.p) (hm:m.length = nby V.p) (hL:onB V.p V.a V.b (beVal l) (beVal m) false = ok):getT V s = if ok then (beVal l,beVal m,0) else (0,0,2101):=by
  have h1:s.size = 1+2*nby V.p:=by rw [size_l,hs,List.length_cons,List.length_append,hl,hm]; omega
  have h2:b0 s = 4:=by unfold b0; rw [hs]; rfl
  have h3:getX V s = beVal l:=by
    rw [getX_l,hs,Nat.add_comm,List.take_succ_cons,List.drop_succ_cons,List.drop_zero,List.take_left' hl]
  have h4:getY V s = beVal m:=by
    rw [getY_l,hs,Nat.add_comm,List.drop_succ_cons,List.drop_left' hl]
  have e:getT V s = if onB V.p V.a V.b (getX V s) (getY V s) false = true then (getX V s,getY V s,0) else (0,0,2101):=by
    unfold getT
    rw [if_neg (by omega),if_pos ⟨h1,h2⟩]
  rw [e,h3,h4,hL]
theorem get_put {V:Cv} (hok:V.Ok) {X Y:Nat} (sh:Bool) (h:onB V.p V.a V.b X Y false = true):getT V (putS V X Y sh) = (X,Y,0):=by
  obtain ⟨hX,hY⟩:=on_lt h
  have eX:beVal (beBytes (nby V.p) X) = X:=by rw [beVal_bytes,Nat.mod_eq_of_lt (p_pow hX)]
  have eY:beVal (beBytes (nby V.p) Y) = Y:=by rw [beVal_bytes,Nat.mod_eq_of_lt (p_pow hY)]
  cases sh with
  | true =>
    refine (getT_short (o:=Y%2) (ok:=true) (X:=X) (Y:=Y) (putS_s V X Y) (beBytes_length _ _) (u8_toNat (by omega)) (by omega) ?_).trans rfl
    rw [eX]; exact lift_put hok h
  | false =>
    refine (getT_long (ok:=true) (nby_posV hok) (putS_l V X Y) (beBytes_length _ _) (beBytes_length _ _) ?_).trans ?_
    · rw [eX,eY]; exact h
    · rw [eX,eY]; rfl
end Go.Proofs.Ytlmiolnccgjjjaa
set_option linter.unusedVariables false
set_option linter.unusedSimpArgs false
set_option maxRecDepth 20000
namespace Go.Proofs.Ytlmiolnccgjjjaa
open Go Go.RowKit
open Grp
theorem pStr_on {V:Cv} {X Y:Nat} (sh:Bool) (h:onB V.p V.a V.b X Y false = true):pStr V X Y false sh = putS V X Y sh∧pErr V X Y false = 0:=by
  unfold pStr pErr
  rw [if_pos (by rw [h]; rfl),if_pos (by rw [h]; rfl)]
  exact ⟨rfl,rfl⟩
theorem aff_on {V:Cv} {x y:Fin V.p} (h:On V.A V.B (.aff x y)):onB V.p V.a V.b x.val y.val false = true:=onB_on h
theorem putS_size {V:Cv} (hnb:nby V.p≤72) (X Y:Nat) (sh:Bool):(putS V X Y sh).size<9223372036854775808:=by
  rw [size_l]
  cases sh
  · rw [putS_l,List.length_cons,List.length_append,beBytes_length,beBytes_length]; omega
  · rw [putS_s,List.length_cons,beBytes_length]; omega
end Go.Proofs.Ytlmiolnccgjjjaa
set_option linter.unusedVariables false
set_option linter.unusedSimpArgs false
set_option maxRecDepth 20000
namespace Go.Proofs.Ytlmiolnccgjjjaa
open Go Go.RowKit
open Grp
theorem c_bTimesN (V:Cv) (b f bd:Nat) (hok:V.Ok) (K:Nat) (R:Pt V.p) (w:World) (hK:K<V.n) (hR:pmul V.A V.G K = R) (hb:(Item.blk b ⟨false,opL V f,129,(0,0)⟩).holds w) (hf:(Item.blk f ⟨false,fldL V.p bd,162,(0,0)⟩).holds w) (hbd:(Item.blk bd ⟨false,dvL V.p,212,(0,0)⟩).holds w):Calls Try.prog 98 ([.pointer none,.pointer (some ⟨b,0,none⟩),natV K]:List Value).toArray w (fun e w'=>e = .returned (ptP R)∧Below w.heap.size w w') :=
  hR ▸ (c_bTimes none none [] V b f bd hok K hK _ rfl w (trI_nil _ _) (Nat.zero_le _) hb hf hbd (Out.nil _ _) (Out.nil _ _) (Out.nil _ _)).mono fun e w' h=>TrR.nil h
theorem c_cKeyT (V:Cv) (b f X:Nat) (w:World) (hb:(Item.blk b ⟨false,opL V f,129,(0,0)⟩).holds w) (hX:X<W9) (hnW:V.n<W9) (h0:X≠0) (hn:X<V.n):Calls Try.prog 138 ([.pointer (some ⟨b,0,none⟩),natV X]:List Value).toArray w (fun e w'=>e = .returned (.bool true)∧Below w.heap.size w w'):=by
  refine Kf (N:=18) (rs:=[.tmp 4]) [.blk b ⟨false,opL V f,129,(0,0)⟩] Try.func138 rfl Try.ntmps138 Try.results138 (Nb rfl) ⟨hb,trivial⟩ rfl ?_
  show LCode _ _ _ ⟨_,_⟩ _
  refine KB (KA ?_)
  refine oS (mB (fun b3=>?_))
  refine oA ?_
  refine KC ?_
  refine KB ?_
  refine rD [] ?_
  refine aD 0 rfl (dL rfl (hv:=by exact KG Try.underlying33 rfl sz_33)) ?_
  refine aP 1 rfl (KK (Kw pl_33 zr_33 rfl rfl) (show _ = natV 0 by unfold natV natL; rw [← vec_zeros 9])) ?_
  refine aP 2 rfl (KK (Det.nea (by kernel_rfl) (fun w=>eq_nat X 0 hX zero_w9 10000 (by decide) w) rfl rfl) (show _ = Value.bool true by rw [decide_eq_false h0]; rfl)) ?_
  refine aM 3 ?_
  refine aGD 4 rfl (dL rfl (hv:=by exact KG Try.underlying33 rfl sz_33)) ?_
  refine aGM 5 ?_
  refine aGP 6 rfl (KP rfl) ?_
  refine aGP 7 rfl (KI (o':=0) Try.underlying129 rfl rfl rfl KAS (by decide)) ?_
  refine aGP 8 rfl (KI (o':=28) Try.underlying126 rfl rfl rfl sz_33 (by decide)) ?_
  refine aGD 9 rfl (dL rfl (hv:=by exact cvC_ld_n _ _ _ _ _ _ _ _ _ _ _ _ _ _ _ _)) ?_
  refine aGO 10 rfl (cF rfl en_97 rfl (fun w hw=>c_nat_Cmp X V.n hX hnW w) ?_)
  refine aGP 11 rfl (KH (v:=.bool true) rfl rfl (br_t cmp_lt (hn))) ?_
  refine aP 12 rfl (Kn rfl rfl) ?_
  refine aA 13 ?_
  refine aE ?_
  refine KO ?_
  refine ⟨[_],.cons rfl .nil,fun a w' hr=>⟨?_,hr.fr.below⟩⟩
  rfl
theorem c_cKeyZ (V:Cv) (b f:Nat) (w:World) (hb:(Item.blk b ⟨false,opL V f,129,(0,0)⟩).holds w):Calls Try.prog 138 ([.pointer (some ⟨b,0,none⟩),natV 0]:List Value).toArray w (fun e w'=>e = .returned (.bool false)∧Below w.heap.size w w'):=by
  refine Kf (N:=18) (rs:=[.tmp 4]) [.blk b ⟨false,opL V f,129,(0,0)⟩] Try.func138 rfl Try.ntmps138 Try.results138 (Nb rfl) ⟨hb,trivial⟩ rfl ?_
  show LCode _ _ _ ⟨_,_⟩ _
  refine KB (KA ?_)
  refine oS (mB (fun b3=>?_))
  refine oA ?_
  refine KC ?_
  refine KB ?_
  refine rD [] ?_
  refine aD 0 rfl (dL rfl (hv:=by exact KG Try.underlying33 rfl sz_33)) ?_
  refine aP 1 rfl (KK (Kw pl_33 zr_33 rfl rfl) (show _ = natV 0 by unfold natV natL; rw [← vec_zeros 9])) ?_
  refine aP 2 rfl (KK (Det.nea (by kernel_rfl) (fun w=>eq_nat 0 0 zero_w9 zero_w9 10000 (by decide) w) rfl rfl) (show _ = Value.bool false by rw [decide_eq_true rfl]; rfl)) ?_
  refine aM 3 ?_
  refine aK 4 ?_
  refine aK 5 ?_
  refine aK 6 ?_
  refine aK 7 ?_
  refine aK 8 ?_
  refine aK 9 ?_
  refine aK 10 ?_
  refine aK 11 ?_
  refine aP 12 rfl (Ki rfl rfl) ?_
  refine aA 13 ?_
  refine aE ?_
  refine KO ?_
  refine ⟨[_],.cons rfl .nil,fun a w' hr=>⟨?_,hr.fr.below⟩⟩
  rfl
theorem c_cKeyF (V:Cv) (b f X:Nat) (w:World) (hb:(Item.blk b ⟨false,opL V f,129,(0,0)⟩).holds w) (hX:X<W9) (hnW:V.n<W9) (h0:X≠0) (hn:V.n≤X):Calls Try.prog 138 ([.pointer (some ⟨b,0,none⟩),natV X]:List Value).toArray w (fun e w'=>e = .returned (.bool false)∧Below w.heap.size w w'):=by
  refine Kf (N:=18) (rs:=[.tmp 4]) [.blk b ⟨false,opL V f,129,(0,0)⟩] Try.func138 rfl Try.ntmps138 Try.results138 (Nb rfl) ⟨hb,trivial⟩ rfl ?_
  show LCode _ _ _ ⟨_,_⟩ _
  refine KB (KA ?_)
  refine oS (mB (fun b3=>?_))
  refine oA ?_
  refine KC ?_
  refine KB ?_
  refine rD [] ?_
  refine aD 0 rfl (dL rfl (hv:=by exact KG Try.underlying33 rfl sz_33)) ?_
  refine aP 1 rfl (KK (Kw pl_33 zr_33 rfl rfl) (show _ = natV 0 by unfold natV natL; rw [← vec_zeros 9])) ?_
  refine aP 2 rfl (KK (Det.nea (by kernel_rfl) (fun w=>eq_nat X 0 hX zero_w9 10000 (by decide) w) rfl rfl) (show _ = Value.bool true by rw [decide_eq_false h0]; rfl)) ?_
  refine aM 3 ?_
  refine aGD 4 rfl (dL rfl (hv:=by exact KG Try.underlying33 rfl sz_33)) ?_
  refine aGM 5 ?_
  refine aGP 6 rfl (KP rfl) ?_
  refine aGP 7 rfl (KI (o':=0) Try.underlying129 rfl rfl rfl KAS (by decide)) ?_
  refine aGP 8 rfl (KI (o':=28) Try.underlying126 rfl rfl rfl sz_33 (by decide)) ?_
  refine aGD 9 rfl (dL rfl (hv:=by exact cvC_ld_n _ _ _ _ _ _ _ _ _ _ _ _ _ _ _ _)) ?_
  refine aGO 10 rfl (cF rfl en_97 rfl (fun w hw=>c_nat_Cmp X V.n hX hnW w) ?_)
  refine aGP 11 rfl (KH (v:=.bool false) rfl rfl (br_f cmp_lt (Nat.not_lt_of_le hn))) ?_
  refine aP 12 rfl (Kn rfl rfl) ?_
  refine aA 13 ?_
  refine aE ?_
  refine KO ?_
  refine ⟨[_],.cons rfl .nil,fun a w' hr=>⟨?_,hr.fr.below⟩⟩
  rfl
theorem c_kCheckT (id:Int) (V:Cv) (K:Nat) (w:World) (h:cvI id = some V) (h0:K≠0) (hn:K<V.n):Calls Try.prog 109 ([.int .i64 id,natV K]:List Value).toArray w (fun e w'=>e = .returned (.int .i64 ((0:Nat):Int))∧Below w.heap.size w w'):=by
  obtain ⟨hok,hid⟩:=cvI_ok h
  have hbb:=hok.bounds
  have hpW:V.p<W9:=KAF hbb.2.1
  have hnW:V.n<W9:=KAF hbb.2.2.2.2.2.2.1
  have hbl:=KAe hnW
  have hnb:nby V.n≤72:=by (unfold nby; omega)
  refine Kf (N:=16) (rs:=[.tmp 4]) [] Try.func109 rfl Try.ntmps109 Try.results109 (Nb rfl) trivial rfl ?_
  show LCode _ _ _ ⟨_,_⟩ _
  refine KB (KA ?_)
  refine oS (mB (fun b3=>?_))
  refine oP (KX (v:=.int .i64 ((0:Nat):Int)) rfl) ?_
  refine KC ?_
  refine KB (KA ?_)
  refine oM ?_
  refine oS (KAK (Post:=fun v its=>∃ b f bd,v = .pointer (some ⟨b,0,none⟩)∧its = [.blk b ⟨false,opL V f,129,(0,0)⟩,.blk f ⟨false,fldL V.p bd,162,(0,0)⟩,.blk bd ⟨false,dvL V.p,212,(0,0)⟩]) (first:=[]) rfl en_80 rfl (Nb rfl) (fun w1 hw hs=>(c_Open _ V w1 h).mono fun e w' ⟨b,f,bd,h1,h2,h3,h4,h5,h6,h7,h8⟩=>⟨_,_,⟨b,f,bd,rfl,rfl⟩,h1,KAN h8 (by intro x hx; simp at hx; rcases hx with rfl|rfl|rfl; exact h2; exact h3; exact h4) (by intro x hx; simp at hx; rcases hx with rfl|rfl|rfl <;> rfl) (by intro x hx k hk; simp at hx; rcases hx with rfl|rfl|rfl <;> simp [Item.fp] at hk <;> subst hk; exact .inl h5; exact .inl h6; exact .inl h7)⟩) ?_)
  rintro _ _ ⟨b,f,bd,rfl,rfl⟩
  refine oA ?_
  refine KC ?_
  refine KB ?_
  refine LCode.block ?_
  refine KB (KA ?_)
  refine oM ?_
  refine oP (KK (Det.eqp Try.underlying110 rfl rfl) (show _ = Value.bool false from rfl)) ?_
  refine oA ?_
  refine KC ?_
  refine KQ rfl ?_
  refine KB (KA ?_)
  refine oM ?_
  refine oD (dL rfl (hv:=by exact KG Try.underlying33 rfl sz_33)) ?_
  refine oS (cF rfl en_138 rfl (fun w hw=>c_cKeyT V b f K w (mC hw) (Nat.lt_trans hn hnW) hnW h0 hn) ?_)
  refine oP (KK (Det.not rfl) (show _ = Value.bool false from rfl)) ?_
  refine oA ?_
  refine KC ?_
  refine KQ rfl ?_
  refine KR ?_
  refine KB (KA ?_)
  refine oP (KX (v:=.int .i64 ((0:Nat):Int)) rfl) ?_
  refine KC (KO ?_)
  refine ⟨[_],.cons rfl .nil,fun a w' hr=>⟨?_,hr.fr.below⟩⟩
  rfl
theorem c_kCheckZ (id:Int) (V:Cv) (w:World) (h:cvI id = some V):Calls Try.prog 109 ([.int .i64 id,natV 0]:List Value).toArray w (fun e w'=>e = .returned (.int .i64 ((2401:Nat):Int))∧Below w.heap.size w w'):=by
  obtain ⟨hok,hid⟩:=cvI_ok h
  have hbb:=hok.bounds
  have hpW:V.p<W9:=KAF hbb.2.1
  have hnW:V.n<W9:=KAF hbb.2.2.2.2.2.2.1
  have hbl:=KAe hnW
  have hnb:nby V.n≤72:=by (unfold nby; omega)
  refine Kf (N:=16) (rs:=[.tmp 4]) [] Try.func109 rfl Try.ntmps109 Try.results109 (Nb rfl) trivial rfl ?_
  show LCode _ _ _ ⟨_,_⟩ _
  refine KB (KA ?_)
  refine oS (mB (fun b3=>?_))
  refine oP (KX (v:=.int .i64 ((0:Nat):Int)) rfl) ?_
  refine KC ?_
  refine KB (KA ?_)
  refine oM ?_
  refine oS (KAK (Post:=fun v its=>∃ b f bd,v = .pointer (some ⟨b,0,none⟩)∧its = [.blk b ⟨false,opL V f,129,(0,0)⟩,.blk f ⟨false,fldL V.p bd,162,(0,0)⟩,.blk bd ⟨false,dvL V.p,212,(0,0)⟩]) (first:=[]) rfl en_80 rfl (Nb rfl) (fun w1 hw hs=>(c_Open _ V w1 h).mono fun e w' ⟨b,f,bd,h1,h2,h3,h4,h5,h6,h7,h8⟩=>⟨_,_,⟨b,f,bd,rfl,rfl⟩,h1,KAN h8 (by intro x hx; simp at hx; rcases hx with rfl|rfl|rfl; exact h2; exact h3; exact h4) (by intro x hx; simp at hx; rcases hx with rfl|rfl|rfl <;> rfl) (by intro x hx k hk; simp at hx; rcases hx with rfl|rfl|rfl <;> simp [Item.fp] at hk <;> subst hk; exact .inl h5; exact .inl h6; exact .inl h7)⟩) ?_)
  rintro _ _ ⟨b,f,bd,rfl,rfl⟩
  refine oA ?_
  refine KC ?_
  refine KB ?_
  refine LCode.block ?_
  refine KB (KA ?_)
  refine oM ?_
  refine oP (KK (Det.eqp Try.underlying110 rfl rfl) (show _ = Value.bool false from rfl)) ?_
  refine oA ?_
  refine KC ?_
  refine KQ rfl ?_
  refine KB (KA ?_)
  refine oM ?_
  refine oD (dL rfl (hv:=by exact KG Try.underlying33 rfl sz_33)) ?_
  refine oS (cF rfl en_138 rfl (fun w hw=>c_cKeyZ V b f w (mC hw)) ?_)
  refine oP (KK (Det.not rfl) (show _ = Value.bool true from rfl)) ?_
  refine oA ?_
  refine KC ?_
  refine Ke rfl ?_
  refine KB (KA ?_)
  refine oP (KX (v:=.int .i64 ((2401:Nat):Int)) rfl) ?_
  refine KC (KO ?_)
  refine ⟨[_],.cons rfl .nil,fun a w' hr=>⟨?_,hr.fr.below⟩⟩
  rfl
theorem c_kCheckF (id:Int) (V:Cv) (K:Nat) (w:World) (h:cvI id = some V) (hX:K<W9) (h0:K≠0) (hn:V.n≤K):Calls Try.prog 109 ([.int .i64 id,natV K]:List Value).toArray w (fun e w'=>e = .returned (.int .i64 ((2401:Nat):Int))∧Below w.heap.size w w'):=by
  obtain ⟨hok,hid⟩:=cvI_ok h
  have hbb:=hok.bounds
  have hpW:V.p<W9:=KAF hbb.2.1
  have hnW:V.n<W9:=KAF hbb.2.2.2.2.2.2.1
  have hbl:=KAe hnW
  have hnb:nby V.n≤72:=by (unfold nby; omega)
  refine Kf (N:=16) (rs:=[.tmp 4]) [] Try.func109 rfl Try.ntmps109 Try.results109 (Nb rfl) trivial rfl ?_
  show LCode _ _ _ ⟨_,_⟩ _
  refine KB (KA ?_)
  refine oS (mB (fun b3=>?_))
  refine oP (KX (v:=.int .i64 ((0:Nat):Int)) rfl) ?_
  refine KC ?_
  refine KB (KA ?_)
  refine oM ?_
  refine oS (KAK (Post:=fun v its=>∃ b f bd,v = .pointer (some ⟨b,0,none⟩)∧its = [.blk b ⟨false,opL V f,129,(0,0)⟩,.blk f ⟨false,fldL V.p bd,162,(0,0)⟩,.blk bd ⟨false,dvL V.p,212,(0,0)⟩]) (first:=[]) rfl en_80 rfl (Nb rfl) (fun w1 hw hs=>(c_Open _ V w1 h).mono fun e w' ⟨b,f,bd,h1,h2,h3,h4,h5,h6,h7,h8⟩=>⟨_,_,⟨b,f,bd,rfl,rfl⟩,h1,KAN h8 (by intro x hx; simp at hx; rcases hx with rfl|rfl|rfl; exact h2; exact h3; exact h4) (by intro x hx; simp at hx; rcases hx with rfl|rfl|rfl <;> rfl) (by intro x hx k hk; simp at hx; rcases hx with rfl|rfl|rfl <;> simp [Item.fp] at hk <;> subst hk; exact .inl h5; exact .inl h6; exact .inl h7)⟩) ?_)
  rintro _ _ ⟨b,f,bd,rfl,rfl⟩
  refine oA ?_
  refine KC ?_
  refine KB ?_
  refine LCode.block ?_
  refine KB (KA ?_)
  refine oM ?_
  refine oP (KK (Det.eqp Try.underlying110 rfl rfl) (show _ = Value.bool false from rfl)) ?_
  refine oA ?_
  refine KC ?_
  refine KQ rfl ?_
  refine KB (KA ?_)
  refine oM ?_
  refine oD (dL rfl (hv:=by exact KG Try.underlying33 rfl sz_33)) ?_
  refine oS (cF rfl en_138 rfl (fun w hw=>c_cKeyF V b f K w (mC hw) hX hnW h0 hn) ?_)
  refine oP (KK (Det.not rfl) (show _ = Value.bool true from rfl)) ?_
  refine oA ?_
  refine KC ?_
  refine Ke rfl ?_
  refine KB (KA ?_)
  refine oP (KX (v:=.int .i64 ((2401:Nat):Int)) rfl) ?_
  refine KC (KO ?_)
  refine ⟨[_],.cons rfl .nil,fun a w' hr=>⟨?_,hr.fr.below⟩⟩
  rfl
theorem c_kPublic (id:Int) (V:Cv) (K:Nat) (R:Pt V.p) (w:World) (h:cvI id = some V) (h0:K≠0) (hn:K<V.n) (hR:pmul V.A V.G K = R):Calls Try.prog 76 ([.pointer none,.int .i64 id,natV K]:List Value).toArray w (fun e w'=>e = .returned (.tuple #[ptP R,.int .i64 ((0:Nat):Int)])∧Below w.heap.size w w'):=by
  obtain ⟨hok,hid⟩:=cvI_ok h
  have hbb:=hok.bounds
  have hpW:V.p<W9:=KAF hbb.2.1
  have hnW:V.n<W9:=KAF hbb.2.2.2.2.2.2.1
  have hbl:=KAe hnW
  have hnb:nby V.n≤72:=by (unfold nby; omega)
  refine Kf (N:=21) (rs:=[.cell 6 35,.tmp 7]) [] Try.func76 rfl Try.ntmps76 Try.results76 (Nb rfl) trivial rfl ?_
  show LCode _ _ _ ⟨_,_⟩ _
  refine KB (KA ?_)
  refine oS (mB (fun b5=>?_))
  refine oS (mk (KS zr_35) (fun b6=>?_))
  refine oP (KX (v:=.int .i64 ((0:Nat):Int)) rfl) ?_
  refine KC ?_
  refine KB ?_
  refine KB (KA ?_)
  refine oM ?_
  refine oD (dL rfl (hv:=by exact KG Try.underlying33 rfl sz_33)) ?_
  refine oS (cF rfl en_109 rfl (fun w hw=>c_kCheckT id V K w h h0 hn) ?_)
  refine oA ?_
  refine KC ?_
  refine KB (KA ?_)
  refine oM ?_
  refine oP (KH (v:=.bool false) rfl rfl (br_f (br_neq (b:=0)) (by decide))) ?_
  refine KC ?_
  refine KQ rfl ?_
  refine KR ?_
  refine KB ?_
  refine rD [5] ?_
  refine aM 0 ?_
  refine aM 1 ?_
  refine aD 3 rfl (dL rfl (hv:=by exact KG Try.underlying33 rfl sz_33)) ?_
  refine aO 2 rfl (KAK (Post:=fun v its=>∃ b f bd,v = .pointer (some ⟨b,0,none⟩)∧its = [.blk b ⟨false,opL V f,129,(0,0)⟩,.blk f ⟨false,fldL V.p bd,162,(0,0)⟩,.blk bd ⟨false,dvL V.p,212,(0,0)⟩]) (first:=[]) rfl en_80 rfl (Nb rfl) (fun w1 hw hs=>(c_Open _ V w1 h).mono fun e w' ⟨b,f,bd,h1,h2,h3,h4,h5,h6,h7,h8⟩=>⟨_,_,⟨b,f,bd,rfl,rfl⟩,h1,KAN h8 (by intro x hx; simp at hx; rcases hx with rfl|rfl|rfl; exact h2; exact h3; exact h4) (by intro x hx; simp at hx; rcases hx with rfl|rfl|rfl <;> rfl) (by intro x hx k hk; simp at hx; rcases hx with rfl|rfl|rfl <;> simp [Item.fp] at hk <;> subst hk; exact .inl h5; exact .inl h6; exact .inl h7)⟩) ?_)
  rintro _ _ ⟨b,f,bd,rfl,rfl⟩
  refine aO 4 rfl (cF rfl en_98 rfl (fun w hw=>c_bTimesN V b f bd hok K R w hn hR (mC hw) (mC hw) (mC hw)) ?_)
  refine aL 5 rfl (sA rfl rfl sz_35 (by exact Kb _ _ _) (hl:=by exact KJ _ _ _) (h:=?_))
  refine aP 6 rfl (KX (v:=.int .i64 ((0:Nat):Int)) rfl) ?_
  refine aE ?_
  refine KO ?_
  refine ⟨[_,_],.cons ⟨_,_,_,rfl,(by repeat (first|exact Mh _|apply Mt)),by exact KG Try.underlying35 rfl sz_35⟩ (.cons rfl .nil),fun a w' hr=>⟨?_,hr.fr.below⟩⟩
  rfl
theorem c_eShared_none (tb:Option Nat) (id:Int) (K:Nat) (s:ByteArray) (w:World) (h:cvI id = none):Calls Try.prog 77 ([trV tb,.int .i64 id,natV K,.string s]:List Value).toArray w (fun e w'=>e = .returned (.tuple #[.string ⟨#[]⟩,.int .i64 ((2500:Nat):Int)])∧Below w.heap.size w w'):=by
  refine Kf (N:=55) (rs:=[.tmp 8,.tmp 9]) [] Try.func77 rfl Try.ntmps77 Try.results77 (Nb rfl) trivial rfl ?_
  show LCode _ _ _ ⟨_,_⟩ _
  refine KB (KA ?_)
  refine oS (mB (fun b6=>?_))
  refine oA ?_
  refine oP (KX (v:=.int .i64 ((0:Nat):Int)) rfl) ?_
  refine KC ?_
  refine KB (KA ?_)
  refine oM ?_
  refine oS (cF rfl en_80 rfl (fun w hw=>c_Open_none id w h) ?_)
  refine oA ?_
  refine KC ?_
  refine KB ?_
  refine LCode.block ?_
  refine KB (KA ?_)
  refine oM ?_
  refine oP (KK (Det.eqp Try.underlying110 rfl rfl) (show _ = Value.bool true from rfl)) ?_
  refine oA ?_
  refine KC ?_
  refine Ke rfl ?_
  refine KB (KA ?_)
  refine oA ?_
  refine oP (KX (v:=.int .i64 ((2500:Nat):Int)) rfl) ?_
  refine KC (KO ?_)
  refine ⟨[_,_],.cons rfl (.cons rfl .nil),fun a w' hr=>⟨?_,hr.fr.below⟩⟩
  rfl
theorem c_eShared_key (tb:Option Nat) (id:Int) (V:Cv) (K:Nat) (s:ByteArray) (w:World) (h:cvI id = some V) (hX:K<W9) (hk:K = 0∨V.n≤K):Calls Try.prog 77 ([trV tb,.int .i64 id,natV K,.string s]:List Value).toArray w (fun e w'=>e = .returned (.tuple #[.string ⟨#[]⟩,.int .i64 ((2501:Nat):Int)])∧Below w.heap.size w w'):=by
  obtain ⟨hok,hid⟩:=cvI_ok h
  have hbb:=hok.bounds
  have hpW:V.p<W9:=KAF hbb.2.1
  have hnW:V.n<W9:=KAF hbb.2.2.2.2.2.2.1
  have hbl:=KAe hnW
  have hnb:nby V.n≤72:=by (unfold nby; omega)
  refine Kf (N:=55) (rs:=[.tmp 8,.tmp 9]) [] Try.func77 rfl Try.ntmps77 Try.results77 (Nb rfl) trivial rfl ?_
  show LCode _ _ _ ⟨_,_⟩ _
  refine KB (KA ?_)
  refine oS (mB (fun b6=>?_))
  refine oA ?_
  refine oP (KX (v:=.int .i64 ((0:Nat):Int)) rfl) ?_
  refine KC ?_
  refine KB (KA ?_)
  refine oM ?_
  refine oS (KAK (Post:=fun v its=>∃ b f bd,v = .pointer (some ⟨b,0,none⟩)∧its = [.blk b ⟨false,opL V f,129,(0,0)⟩,.blk f ⟨false,fldL V.p bd,162,(0,0)⟩,.blk bd ⟨false,dvL V.p,212,(0,0)⟩]) (first:=[]) rfl en_80 rfl (Nb rfl) (fun w1 hw hs=>(c_Open _ V w1 h).mono fun e w' ⟨b,f,bd,h1,h2,h3,h4,h5,h6,h7,h8⟩=>⟨_,_,⟨b,f,bd,rfl,rfl⟩,h1,KAN h8 (by intro x hx; simp at hx; rcases hx with rfl|rfl|rfl; exact h2; exact h3; exact h4) (by intro x hx; simp at hx; rcases hx with rfl|rfl|rfl <;> rfl) (by intro x hx k hk; simp at hx; rcases hx with rfl|rfl|rfl <;> simp [Item.fp] at hk <;> subst hk; exact .inl h5; exact .inl h6; exact .inl h7)⟩) ?_)
  rintro _ _ ⟨b,f,bd,rfl,rfl⟩
  refine oA ?_
  refine KC ?_
  refine KB ?_
  refine LCode.block ?_
  refine KB (KA ?_)
  refine oM ?_
  refine oP (KK (Det.eqp Try.underlying110 rfl rfl) (show _ = Value.bool false from rfl)) ?_
  refine oA ?_
  refine KC ?_
  refine KQ rfl ?_
  refine KB ?_
  rcases (show K = 0∨K≠0 by omega) with rfl|h0
  ·
    refine KA ?_
    refine oM ?_
    refine oD (dL rfl (hv:=by exact KG Try.underlying33 rfl sz_33)) ?_
    refine oS (cF rfl en_109 rfl (fun w hw=>c_kCheckZ id V w h) ?_)
    refine oP (KH (v:=.bool true) rfl rfl (br_t (br_neq (b:=0)) (by decide))) ?_
    refine oA ?_
    refine KC ?_
    refine Ke rfl ?_
    refine KB (KA ?_)
    refine oA ?_
    refine oP (KX (v:=.int .i64 ((2501:Nat):Int)) rfl) ?_
    refine KC (KO ?_)
    refine ⟨[_,_],.cons rfl (.cons rfl .nil),fun a w' hr=>⟨?_,hr.fr.below⟩⟩
    rfl
  ·
    refine KA ?_
    refine oM ?_
    refine oD (dL rfl (hv:=by exact KG Try.underlying33 rfl sz_33)) ?_
    refine oS (cF rfl en_109 rfl (fun w hw=>c_kCheckF id V K w h hX h0 (by omega)) ?_)
    refine oP (KH (v:=.bool true) rfl rfl (br_t (br_neq (b:=0)) (by decide))) ?_
    refine oA ?_
    refine KC ?_
    refine Ke rfl ?_
    refine KB (KA ?_)
    refine oA ?_
    refine oP (KX (v:=.int .i64 ((2501:Nat):Int)) rfl) ?_
    refine KC (KO ?_)
    refine ⟨[_,_],.cons rfl (.cons rfl .nil),fun a w' hr=>⟨?_,hr.fr.below⟩⟩
    rfl
theorem c_eShared_pt (tb:Option Nat) (id:Int) (V:Cv) (K:Nat) (s:ByteArray) (X Y e:Nat) (w:World) (h:cvI id = some V) (h0:K≠0) (hn:K<V.n) (hs:s.size<9223372036854775808) (hg:getT V s = (X,Y,e)) (he:e≠0):Calls Try.prog 77 ([trV tb,.int .i64 id,natV K,.string s]:List Value).toArray w (fun e w'=>e = .returned (.tuple #[.string ⟨#[]⟩,.int .i64 ((2502:Nat):Int)])∧Below w.heap.size w w'):=by
  obtain ⟨hok,hid⟩:=cvI_ok h
  have hbb:=hok.bounds
  have hpW:V.p<W9:=KAF hbb.2.1
  have hnW:V.n<W9:=KAF hbb.2.2.2.2.2.2.1
  have hbl:=KAe hnW
  have hnb:nby V.n≤72:=by (unfold nby; omega)
  refine Kf (N:=55) (rs:=[.tmp 8,.tmp 9]) [] Try.func77 rfl Try.ntmps77 Try.results77 (Nb rfl) trivial rfl ?_
  show LCode _ _ _ ⟨_,_⟩ _
  refine KB (KA ?_)
  refine oS (mB (fun b6=>?_))
  refine oA ?_
  refine oP (KX (v:=.int .i64 ((0:Nat):Int)) rfl) ?_
  refine KC ?_
  refine KB (KA ?_)
  refine oM ?_
  refine oS (KAK (Post:=fun v its=>∃ b f bd,v = .pointer (some ⟨b,0,none⟩)∧its = [.blk b ⟨false,opL V f,129,(0,0)⟩,.blk f ⟨false,fldL V.p bd,162,(0,0)⟩,.blk bd ⟨false,dvL V.p,212,(0,0)⟩]) (first:=[]) rfl en_80 rfl (Nb rfl) (fun w1 hw hs=>(c_Open _ V w1 h).mono fun e w' ⟨b,f,bd,h1,h2,h3,h4,h5,h6,h7,h8⟩=>⟨_,_,⟨b,f,bd,rfl,rfl⟩,h1,KAN h8 (by intro x hx; simp at hx; rcases hx with rfl|rfl|rfl; exact h2; exact h3; exact h4) (by intro x hx; simp at hx; rcases hx with rfl|rfl|rfl <;> rfl) (by intro x hx k hk; simp at hx; rcases hx with rfl|rfl|rfl <;> simp [Item.fp] at hk <;> subst hk; exact .inl h5; exact .inl h6; exact .inl h7)⟩) ?_)
  rintro _ _ ⟨b,f,bd,rfl,rfl⟩
  refine oA ?_
  refine KC ?_
  refine KB ?_
  refine LCode.block ?_
  refine KB (KA ?_)
  refine oM ?_
  refine oP (KK (Det.eqp Try.underlying110 rfl rfl) (show _ = Value.bool false from rfl)) ?_
  refine oA ?_
  refine KC ?_
  refine KQ rfl ?_
  refine KB (KA ?_)
  refine oM ?_
  refine oD (dL rfl (hv:=by exact KG Try.underlying33 rfl sz_33)) ?_
  refine oS (cF rfl en_109 rfl (fun w hw=>c_kCheckT id V K w h h0 hn) ?_)
  refine oP (KH (v:=.bool false) rfl rfl (br_f (br_neq (b:=0)) (by decide))) ?_
  refine oA ?_
  refine KC ?_
  refine KQ rfl ?_
  refine KR ?_
  refine KB (KA ?_)
  refine oM ?_
  refine oM ?_
  refine oS (cF rfl en_41 rfl (fun w hw=>c_s_GetE X Y e id V s w h hs hg) ?_)
  refine oM ?_
  refine oP (Det.extract rfl rfl) ?_
  refine oP (Det.extract rfl rfl) ?_
  refine oS (mk (KS zr_35) (fun b11=>?_))
  refine KU rfl (sA rfl rfl sz_35 (by exact Kb _ _ _) (hl:=by exact KJ _ _ _) (h:=?_))
  refine oA ?_
  refine KC ?_
  refine KB ?_
  refine KB (KA ?_)
  refine oM ?_
  refine oP (KH (v:=.bool true) rfl rfl (br_t (br_neq (b:=0)) ((by omega)))) ?_
  refine KC ?_
  refine Ke rfl ?_
  refine KB (KA ?_)
  refine oA ?_
  refine oP (KX (v:=.int .i64 ((2502:Nat):Int)) rfl) ?_
  refine KC (KO ?_)
  refine ⟨[_,_],.cons rfl (.cons rfl .nil),fun a w' hr=>⟨?_,hr.fr.below⟩⟩
  rfl
theorem c_eShared (tb:Option Nat) (tr:TrRow) (l:List Nat) (id:Int) (V:Cv) (K:Nat) (s:ByteArray) (x y:Fin V.p) (m:Nat) (hm:(blen V.n+3)/4 = m) (w:World) (h:cvI id = some V) (hk0:K≠0) (hn:K<V.n) (hs:s.size<9223372036854775808) (hg:getT V s = (x.val,y.val,0)) (hP:On V.A V.B (.aff x y)) (h0:(trI tb tr l).holds w) (hl:l.length≤80000000):Calls Try.prog 77 ([trV tb,.int .i64 id,natV K,.string s]:List Value).toArray w (fun e w'=>TrR w tb tr (l++evN m) (.tuple #[.string (coB V (xv (pmul V.A (.aff x y:Pt V.p) K))),.int .i64 ((0:Nat):Int)]) e w'):=by
  obtain ⟨hok,hid⟩:=cvI_ok h
  have hbb:=hok.bounds
  have hpW:V.p<W9:=KAF hbb.2.1
  have hnW:V.n<W9:=KAF hbb.2.2.2.2.2.2.1
  have hbl:=KAe hnW
  have hnb:nby V.n≤72:=by (unfold nby; omega)
  have hnp:=nbp_72 hok
  refine calls_tr (N:=55) (rs:=[.tmp 8,.tmp 9]) tb tr l [] Try.func77 rfl Try.ntmps77 Try.results77 (Nb rfl) h0 trivial rfl trivial ?_
  show LCode _ _ _ ⟨_,_⟩ _
  refine KB (KA ?_)
  refine oS (mB (fun b6=>?_))
  refine oA ?_
  refine oP (KX (v:=.int .i64 ((0:Nat):Int)) rfl) ?_
  refine KC ?_
  refine KB (KA ?_)
  refine oM ?_
  refine oS (KAK (Post:=fun v its=>∃ b f bd,v = .pointer (some ⟨b,0,none⟩)∧its = [.blk b ⟨false,opL V f,129,(0,0)⟩,.blk f ⟨false,fldL V.p bd,162,(0,0)⟩,.blk bd ⟨false,dvL V.p,212,(0,0)⟩]) (first:=[]) rfl en_80 rfl (Nb rfl) (fun w1 hw hs=>(c_Open _ V w1 h).mono fun e w' ⟨b,f,bd,h1,h2,h3,h4,h5,h6,h7,h8⟩=>⟨_,_,⟨b,f,bd,rfl,rfl⟩,h1,KAN h8 (by intro x hx; simp at hx; rcases hx with rfl|rfl|rfl; exact h2; exact h3; exact h4) (by intro x hx; simp at hx; rcases hx with rfl|rfl|rfl <;> rfl) (by intro x hx k hk; simp at hx; rcases hx with rfl|rfl|rfl <;> simp [Item.fp] at hk <;> subst hk; exact .inl h5; exact .inl h6; exact .inl h7)⟩) ?_)
  rintro _ _ ⟨b,f,bd,rfl,rfl⟩
  refine oA ?_
  refine KC ?_
  refine KB ?_
  refine LCode.block ?_
  refine KB (KA ?_)
  refine oM ?_
  refine oP (KK (Det.eqp Try.underlying110 rfl rfl) (show _ = Value.bool false from rfl)) ?_
  refine oA ?_
  refine KC ?_
  refine KQ rfl ?_
  refine KB (KA ?_)
  refine oM ?_
  refine oD (dL rfl (hv:=by exact KG Try.underlying33 rfl sz_33)) ?_
  refine oS (cF rfl en_109 rfl (fun w hw=>c_kCheckT id V K w h hk0 hn) ?_)
  refine oP (KH (v:=.bool false) rfl rfl (br_f (br_neq (b:=0)) (by decide))) ?_
  refine oA ?_
  refine KC ?_
  refine KQ rfl ?_
  refine KR ?_
  refine KB (KA ?_)
  refine oM ?_
  refine oM ?_
  refine oS (cF rfl en_41 rfl (fun w hw=>c_s_GetE x.val y.val 0 id V s w h hs hg) ?_)
  refine oM ?_
  refine oP (Det.extract rfl rfl) ?_
  refine oP (Det.extract rfl rfl) ?_
  refine oS (mk (KS zr_35) (fun b11=>?_))
  refine KU rfl (sA rfl rfl sz_35 (by exact Kb _ _ _) (hl:=by simp [KJ,KF]) (h:=?_))
  refine oA ?_
  refine KC ?_
  refine KB ?_
  refine KB (KA ?_)
  refine oM ?_
  refine oP (KH (v:=.bool false) rfl rfl (br_f (br_neq (b:=0)) (by decide))) ?_
  refine KC ?_
  refine KQ rfl ?_
  refine KR ?_
  refine KB (KA ?_)
  refine oM ?_
  refine oM ?_
  refine oD (dL rfl (hv:=by exact KG Try.underlying33 rfl sz_33)) ?_
  refine oD (dL rfl (hv:=by exact KG Try.underlying35 rfl sz_35)) ?_
  refine KU rfl (LStepW.callT (first:=[]) (r:=tr) (l:=l) (l':=l++evN m) rfl en_63 rfl (Nb rfl) (by repeat (first|exact Pick.head _|apply Pick.tail)) (fun w hw hn0=>c_mMul tb tr l id V K (.aff x y) m hm w h hP hn (mC hw) hl) ?_)
  intro r1
  refine oM ?_
  refine oP (Det.extract rfl rfl) ?_
  refine oP (Det.extract rfl rfl) ?_
  refine oS (mk (KS zr_35) (fun b13=>?_))
  refine KU rfl (sA rfl rfl sz_35 (by exact Kb _ _ _) (hl:=by simp [KJ,KF]) (h:=?_))
  refine oA ?_
  refine KC ?_
  refine KB ?_
  refine rD [] ?_
  refine aP 0 rfl (KI (o':=0) Try.underlying35 rfl rfl rfl sz_33 (by decide)) ?_
  refine aD 1 rfl (dL rfl (hv:=by exact KAC Try.underlying33 rfl sz_33 rfl (KD _))) ?_
  refine aM 2 ?_
  refine aP 3 rfl (KP rfl) ?_
  refine aP 4 rfl (KI (o':=0) Try.underlying129 rfl rfl rfl KAS (by decide)) ?_
  refine aP 5 rfl (KI (o':=57) Try.underlying126 rfl rfl rfl sz_3 (by decide)) ?_
  refine aD 6 rfl (dL rfl (hv:=KW Try.underlying3 rfl (by exact cvC_gt_size _ _ _ _ _ _ _ _ _ _ _ _ _))) ?_
  refine aO 7 rfl (cF rfl en_88 rfl (fun w hw=>c_nat_BytesOK (xv (pmul V.A (.aff x y:Pt V.p) K)) (nby V.p) w (Nat.lt_trans (xv_lt _) hpW) hnp (nby_le (xv_lt _))) ?_)
  refine aM 8 ?_
  refine aP 9 rfl (Det.extract rfl rfl) ?_
  refine aP 10 rfl (Det.extract rfl rfl) ?_
  refine aA 11 ?_
  refine aA 12 ?_
  refine aE ?_
  refine KB (KA ?_)
  refine oM ?_
  refine oA ?_
  refine oP (KX (v:=.int .i64 ((0:Nat):Int)) rfl) ?_
  refine KC (KO ?_)
  exact ⟨[_,_],.cons rfl (.cons rfl .nil),fun a w' hr=>hr.tr (by repeat (first|exact Mh _|apply Mt))⟩
theorem c_eSharedN (R:ByteArray) (id:Int) (V:Cv) (K:Nat) (s:ByteArray) (x y:Fin V.p) (w:World) (h:cvI id = some V) (h0:K≠0) (hn:K<V.n) (hs:s.size<9223372036854775808) (hg:getT V s = (x.val,y.val,0)) (hP:On V.A V.B (.aff x y)) (hR:coB V (xv (pmul V.A (.aff x y:Pt V.p) K)) = R):Calls Try.prog 77 ([.pointer none,.int .i64 id,natV K,.string s]:List Value).toArray w (fun e w'=>e = .returned (.tuple #[.string R,.int .i64 ((0:Nat):Int)])∧Below w.heap.size w w') :=
  hR ▸ (c_eShared none none [] id V K s x y _ rfl w h h0 hn hs hg hP (trI_nil _ _) (Nat.zero_le _)).mono fun e w' h=>TrR.nil h
end Go.Proofs.Ytlmiolnccgjjjaa
set_option linter.unusedVariables false
set_option linter.unusedSimpArgs false
set_option maxRecDepth 20000
namespace Go.Proofs.Ytlmiolnccgjjjaa
open Go Go.RowKit
open Grp
def keyN (V:Cv) (A:Nat):Nat:=A%(V.n-1)+1
theorem keyN_lt {V:Cv} (hok:V.Ok) (A:Nat):keyN V A≠0∧keyN V A<V.n:=by
  have hb:=hok.bounds
  have:=Nat.mod_lt A (show 0<V.n-1 by omega)
  unfold keyN; omega
theorem pmul_aff {V:Cv} (hok:V.Ok) {k:Nat} (h0:k≠0) (hn:k<V.n):∃ x y,pmul V.A V.G k = .aff x y:=by
  cases h:pmul V.A V.G k with
  | inf =>
    have:=pmul_order hok.crv hok.on hok.order (fun e=>by unfold Cv.G at e; cases e) hok.ord h
    exact absurd (Nat.le_of_dvd (Nat.pos_of_ne_zero h0) this) (by omega)
  | aff x y=>exact ⟨x,y,rfl⟩
theorem aw25_g:getT cv13 ⟨#[4,2,84]⟩ = ((c cv13.p cv13.x).val,(c cv13.p cv13.y).val,0):=by
  rw [getT_l,nby13]; decide +kernel
theorem aw25_0:getT cv13 ⟨#[0]⟩ = (0,0,2102):=by
  rw [getT_l,nby13]; decide +kernel
theorem aw25_r (hok:cv13.Ok):(coB cv13 (xv (pmul cv13.A (.aff (c cv13.p cv13.x) (c cv13.p cv13.y)) 1))).data.toList = [2]:=by
  have e:pmul cv13.A (.aff (c cv13.p cv13.x) (c cv13.p cv13.y)) 1 = (.aff (c cv13.p cv13.x) (c cv13.p cv13.y):Pt cv13.p):=by
    show padd cv13.A .inf _ = _
    exact hok.inf_add hok.on
  rw [e,coB_l,nby13]
  show beBytes 1 (c cv13.p cv13.x).val = [2]
  decide +kernel
theorem coB_sz (V:Cv) (X:Nat):(coB V X).size = nby V.p:=coB_size V X
theorem c_some (Q:CQ) (V:Cv) (A:Nat) (w:World) (hc:(crvI Q V).holds w) (hok:V.Ok) (hA:A<W9):Calls Try.prog 75 ([.agg (crvL Q V).toArray,natV A]:List Value).toArray w (fun e w'=>e = .returned (natV (keyN V A))∧Below w.heap.size w w'):=by
  have hbb:=hok.bounds
  have hsn:=hok.sz.n
  have hdA:=nw_w9_dig hA
  have hd1:=nw_one
  have hdm:=D.nw_mono (Nat.mod_le A (V.n-1))
  refine Kf (N:=17) (rs:=[.cell 4 33]) [crvI Q V] Try.func75 rfl Try.ntmps75 Try.results75 (Nb rfl) ⟨hc,trivial⟩ rfl ?_
  show LCode _ _ _ ⟨_,_⟩ _
  refine KB (KA ?_)
  refine oS (mB (fun b2=>?_))
  refine oS (mB (fun b3=>?_))
  refine oS (mk (KS zr_33) (fun b4=>?_))
  refine KC ?_
  refine KB ?_
  refine rD [] ?_
  refine aD 0 rfl (dL rfl (hv:=by exact KG Try.underlying33 rfl sz_33)) ?_
  refine aP 2 rfl (KI (o':=4) Try.underlying26 rfl rfl rfl sz_24 (by decide)) ?_
  refine aD 3 rfl (dL rfl (hv:=KW Try.underlying24 rfl (by first|rfl|exact Kr _ _ _ (by omega)|exact Kt _ (by omega)|exact Kz _ (by omega)|exact dv_m _ _ _ (by omega)))) ?_
  refine LAny.twoX 1 4 rfl rfl rfl rfl (by kernel_rfl) (.inr (cZ rfl en_46 rfl (fun w hw hs=>(c_n_From A hA w).mono fun e w' h=>NumR.q (Old.nil _) hs h) ?_)) (.inr (mk (KAM Try.underlying24 inf_67 rfl rfl rfl rfl (by decide) rfl) (fun b10=>?_)))
  ·
    rintro _ _ ⟨qa,rfl,rfl,hna⟩
    refine aO 4 rfl (mk (KAM Try.underlying24 inf_67 rfl rfl rfl rfl (by decide) rfl) (fun b10=>?_))
    refine aO 5 rfl (cZ rfl en_65 rfl (fun w hw hs=>(c_n_Sub Q.n ⟨false,b10,1⟩ V.n 1 w (crvI_n (mC hw)) (n1_blk (mC hw) (by decide)) (by omega) (by omega)).mono fun e w' h=>NumR.q (Old.nil _) hs h) ?_)
    rintro _ _ ⟨qs,rfl,rfl,hns⟩
    refine aO 6 rfl (cZ rfl en_60 rfl (fun w hw hs=>(c_n_Mod qa qs A (V.n-1) (by omega) w (mC hw) (mC hw) (by omega)).mono fun e w' h=>NumR.q (Old.one (x:=numT qa A) (by repeat (first|exact Mh _|apply Mt)) rfl) hs h) ?_)
    rintro _ _ ⟨qm,rfl,rfl,hnm⟩
    refine aA 7 ?_
    refine aE ?_
    refine KB (KA ?_)
    refine oM ?_
    refine oS (mk (KAM Try.underlying24 inf_67 rfl rfl rfl rfl (by decide) rfl) (fun b14=>?_))
    refine oS (cZ rfl en_50 rfl (fun w hw hs=>(c_n_Add qm ⟨false,b14,1⟩ (A%(V.n-1)) 1 w (mC hw) (n1_blk (mC hw) (by decide)) (by omega) (by omega)).mono fun e w' h=>NumR.q (Old.nil _) hs h) ?_)
    rintro _ _ ⟨qr,rfl,rfl,hnr⟩
    refine oS (cF rfl en_52 rfl (fun w hw=>c_n_Nat qr (A%(V.n-1)+1) (D.nw (A%(V.n-1)+1)) w (mC hw)) ?_)
    refine KU rfl (sA rfl rfl sz_33 (by exact KY _) (hl:=by exact KD _) (h:=?_))
    refine KC (KO ?_)
    refine ⟨[_],.cons ⟨_,_,_,rfl,(by repeat (first|exact Mh _|apply Mt)),by exact KG Try.underlying33 rfl sz_33⟩ .nil,fun a w' hr=>⟨?_,hr.fr.below⟩⟩
    rfl
  ·
    refine aO 1 rfl (cZ rfl en_46 rfl (fun w hw hs=>(c_n_From A hA w).mono fun e w' h=>NumR.q (Old.nil _) hs h) ?_)
    rintro _ _ ⟨qa,rfl,rfl,hna⟩
    refine aO 5 rfl (cZ rfl en_65 rfl (fun w hw hs=>(c_n_Sub Q.n ⟨false,b10,1⟩ V.n 1 w (crvI_n (mC hw)) (n1_blk (mC hw) (by decide)) (by omega) (by omega)).mono fun e w' h=>NumR.q (Old.nil _) hs h) ?_)
    rintro _ _ ⟨qs,rfl,rfl,hns⟩
    refine aO 6 rfl (cZ rfl en_60 rfl (fun w hw hs=>(c_n_Mod qa qs A (V.n-1) (by omega) w (mC hw) (mC hw) (by omega)).mono fun e w' h=>NumR.q (Old.one (x:=numT qa A) (by repeat (first|exact Mh _|apply Mt)) rfl) hs h) ?_)
    rintro _ _ ⟨qm,rfl,rfl,hnm⟩
    refine aA 7 ?_
    refine aE ?_
    refine KB (KA ?_)
    refine oM ?_
    refine oS (mk (KAM Try.underlying24 inf_67 rfl rfl rfl rfl (by decide) rfl) (fun b14=>?_))
    refine oS (cZ rfl en_50 rfl (fun w hw hs=>(c_n_Add qm ⟨false,b14,1⟩ (A%(V.n-1)) 1 w (mC hw) (n1_blk (mC hw) (by decide)) (by omega) (by omega)).mono fun e w' h=>NumR.q (Old.nil _) hs h) ?_)
    rintro _ _ ⟨qr,rfl,rfl,hnr⟩
    refine oS (cF rfl en_52 rfl (fun w hw=>c_n_Nat qr (A%(V.n-1)+1) (D.nw (A%(V.n-1)+1)) w (mC hw)) ?_)
    refine KU rfl (sA rfl rfl sz_33 (by exact KY _) (hl:=by exact KD _) (h:=?_))
    refine KC (KO ?_)
    refine ⟨[_],.cons ⟨_,_,_,rfl,(by repeat (first|exact Mh _|apply Mt)),by exact KG Try.underlying33 rfl sz_33⟩ .nil,fun a w' hr=>⟨?_,hr.fr.below⟩⟩
    rfl
theorem c_awake25  (w:World)  : Calls Try.prog 74 ([]:List Value).toArray w (fun e w'=>e = .returned (.bool true)∧Below w.heap.size w w'):=by
  obtain ⟨hok,-⟩:=cvI_ok cv13_is
  obtain ⟨R,hR,hR2⟩:∃ R,coB cv13 (xv (pmul cv13.A (.aff (c cv13.p cv13.x) (c cv13.p cv13.y)) 1)) = R∧R.data.toList = [2]:=⟨_,rfl,aw25_r hok⟩
  refine Kf (N:=51) (rs:=[.tmp 0]) [] Try.func74 rfl Try.ntmps74 Try.results74 (Nb rfl) trivial rfl ?_
  show LCode _ _ _ ⟨_,_⟩ _
  refine KB (KA ?_)
  refine oA ?_
  refine KC ?_
  refine KB (KA ?_)
  refine oS (cF rfl en_47 rfl (fun w hw=>c_One 1 w (by decide)) ?_)
  refine oS (cF rfl en_77 rfl (fun w hw=>c_eSharedN R 13 cv13 1 ⟨#[4,2,84]⟩ _ _ w cv13_is (by decide) (by decide) (by decide) aw25_g hok.on hR) ?_)
  refine oM ?_
  refine oP (Det.extract rfl rfl) ?_
  refine oP (Det.extract rfl rfl) ?_
  refine oA ?_
  refine oA ?_
  refine KC ?_
  refine KB (KA ?_)
  refine oS (cF rfl en_47 rfl (fun w hw=>c_One 0 w (by decide)) ?_)
  refine oS (cF rfl en_77 rfl (fun w hw=>c_eShared_key none 13 cv13 0 ⟨#[4,2,84]⟩ w cv13_is zero_w9 (.inl rfl)) ?_)
  refine oM ?_
  refine oP (Det.extract rfl rfl) ?_
  refine oP (Det.extract rfl rfl) ?_
  refine oA ?_
  refine oA ?_
  refine KC ?_
  refine KB (KA ?_)
  refine oS (cF rfl en_47 rfl (fun w hw=>c_One 1 w (by decide)) ?_)
  refine oS (cF rfl en_77 rfl (fun w hw=>c_eShared_pt none 13 cv13 1 ⟨#[0]⟩ 0 0 2102 w cv13_is (by decide) (by decide) (by decide) aw25_0 (by decide)) ?_)
  refine oM ?_
  refine oP (Det.extract rfl rfl) ?_
  refine oP (Det.extract rfl rfl) ?_
  refine oA ?_
  refine oA ?_
  refine KC ?_
  refine KB (KA ?_)
  refine oS (cF rfl en_47 rfl (fun w hw=>c_One 1 w (by decide)) ?_)
  refine oS (cF rfl en_77 rfl (fun w hw=>c_eShared_none none 0 1 ⟨#[0]⟩ w rfl) ?_)
  refine oM ?_
  refine oP (Det.extract rfl rfl) ?_
  refine oP (Det.extract rfl rfl) ?_
  refine oA ?_
  refine oA ?_
  refine KC ?_
  refine KB (KA ?_)
  refine oM ?_
  refine oP (KK (Det.eqs rfl rfl) (congrArg Value.bool (eq_str_t (hR2)))) ?_
  refine oM ?_
  refine oGM ?_
  refine oGS (cF rfl en_33 rfl (fun w hw=>c_Num _ w) ?_)
  refine oGP (KH (v:=.bool true) rfl rfl (br_t (KAR (b:=0)) (by first|rfl|assumption|omega|(simp; done)))) ?_
  refine oP (Kn rfl rfl) ?_
  refine oM ?_
  refine oGM ?_
  refine oGS (cF rfl en_33 rfl (fun w hw=>c_Num _ w) ?_)
  refine oGP (KH (v:=.bool true) rfl rfl (br_t (KAR (b:=2501)) (by first|rfl|assumption|omega|(simp; done)))) ?_
  refine oP (Kn rfl rfl) ?_
  refine oM ?_
  refine oGM ?_
  refine oGS (cF rfl en_33 rfl (fun w hw=>c_Num _ w) ?_)
  refine oGP (KH (v:=.bool true) rfl rfl (br_t (KAR (b:=2502)) (by first|rfl|assumption|omega|(simp; done)))) ?_
  refine oP (Kn rfl rfl) ?_
  refine oM ?_
  refine oGM ?_
  refine oGS (cF rfl en_33 rfl (fun w hw=>c_Num _ w) ?_)
  refine oGP (KH (v:=.bool true) rfl rfl (br_t (KAR (b:=2500)) (by first|rfl|assumption|omega|(simp; done)))) ?_
  refine oP (Kn rfl rfl) ?_
  refine oA ?_
  refine KC (KO ?_)
  refine ⟨[_],.cons rfl .nil,fun a w' hr=>⟨?_,hr.fr.below⟩⟩
  rfl
theorem c_EcdhAgrees (id:Int) (A B:Nat) (sh:Bool) (w:World) (hA9:A<W9) (hB9:B<W9):Calls Try.prog 27 ([.int .i64 id,natV A,natV B,.bool sh]:List Value).toArray w (fun e w'=>e = .returned (.bool true)∧Below w.heap.size w w'):=by
  obtain ⟨V,h⟩:=cvI_idx id
  obtain ⟨hok,hid⟩:=cvI_ok h
  have h2:=cvI_id h
  obtain ⟨hb5,hb521,hba,hbb,hbx,hby,hbn,hbo,hbo2,hbb1,hbn1⟩:=hok.bounds
  have hsz:=hok.sz
  have hsp:=hsz.p
  have hsa:=hsz.a
  have hsb:=hsz.b
  have hp0:V.p≠0:=by omega
  have hpp:0<V.p:=by omega
  have hm17:∀ k,D.nw (k%V.p)≤17:=fun k=>Nat.le_trans (D.nw_mono (Nat.le_of_lt (Nat.mod_lt k hpp))) hsp
  have hpW:V.p<W9:=KAF hb521
  have hnW:V.n<W9:=KAF hbn
  have hxW:=Nat.lt_trans hbx hpW
  have hyW:=Nat.lt_trans hby hpW
  have hsn:=hsz.n
  have h17:∀ {A:Nat},A<V.p→D.nw A≤100000:=fun h=>Nat.le_trans (nw_521 (Nat.lt_trans h hb521)) (by decide)
  have hnp:=nbp_72 hok
  have k1:=keyN_lt hok A
  have k2:=keyN_lt hok B
  obtain ⟨x1,y1,e1⟩:=pmul_aff hok k1.1 k1.2
  obtain ⟨x2,y2,e2⟩:=pmul_aff hok k2.1 k2.2
  have o1:On V.A V.B (.aff x1 y1):=e1 ▸ hok.mul hok.on _
  have o2:On V.A V.B (.aff x2 y2):=e2 ▸ hok.mul hok.on _
  have n1:=aff_on o1
  have n2:=aff_on o2
  obtain ⟨f1,f2⟩:=pStr_on sh n1
  obtain ⟨f3,f4⟩:=pStr_on (!sh) n2
  obtain ⟨R,r1⟩:∃ R,coB V (xv (pmul V.A (.aff x2 y2) (keyN V A))) = R:=⟨_,rfl⟩
  have r2:coB V (xv (pmul V.A (.aff x1 y1) (keyN V B))) = R:=by
    rw [← r1,← e1,← e2,← pmul_mul hok.crv hok.on,← pmul_mul hok.crv hok.on,Nat.mul_comm]
  have rsz:R.size = nby V.p:=by rw [← r1]; exact coB_sz _ _
  refine Kf (N:=121) (rs:=[.tmp 8]) [] Try.func27 rfl Try.ntmps27 Try.results27 (Nb rfl) trivial rfl ?_
  show LCode _ _ _ ⟨_,_⟩ _
  refine KB (KA ?_)
  refine oS (mB (fun b5=>?_))
  refine oS (mB (fun b6=>?_))
  refine oA ?_
  refine KC ?_
  refine KB ?_
  refine KB (KA ?_)
  refine oS (cF rfl en_74 rfl (fun w hw=>c_awake25 w) ?_)
  refine oP (KK (Det.not rfl) (show _ = Value.bool false from rfl)) ?_
  refine KC ?_
  refine KQ rfl ?_
  refine KR ?_
  refine KB (KA ?_)
  refine oM ?_
  refine oP (KK (Det.conv Try.underlying3 Try.underlying29 rfl) (uidx_eq _)) ?_
  refine oP (KH rfl rfl (br_rem64 (b:=15) (by omega))) ?_
  refine oP (Det.convi Try.underlying29 Try.underlying3 rfl (by omega)) ?_
  refine oP (KH rfl rfl (Kv (a:=1) (by omega))) ?_
  refine oS (KAK (Post:=fun v its=>∃ Q,v = .tuple #[.agg (crvL Q V).toArray,.bool true]∧its = [crvI Q V]) (first:=[]) rfl en_29 rfl (Nb rfl) (fun w1 hw hs=>(c_r_Get _ V w1 h).mono fun e w' ⟨Q,h1,h2,h3,h4⟩=>⟨_,_,⟨Q,rfl,rfl⟩,h1,KAN h4 (by intro x hx; simp at hx; subst hx; exact h2) (by intro x hx; simp at hx; subst hx; rfl) (by intro x hx k hk; simp at hx; subst hx; exact .inl (h3 k hk))⟩) ?_)
  rintro _ _ ⟨Q,rfl,rfl⟩
  refine oM ?_
  refine oP (Det.extract rfl rfl) ?_
  refine oP (Det.extract rfl rfl) ?_
  refine oS (mk (KS zr_26) (fun b9=>?_))
  refine KU rfl (sA rfl rfl sz_26 (by repeat (first|exact KN|refine KL rfl ?_)) (hl:=by rfl) (h:=?_))
  refine oA ?_
  refine KC ?_
  refine KB ?_
  refine KB (KA ?_)
  refine oM ?_
  refine oP (KK (Det.not rfl) (show _ = Value.bool false from rfl)) ?_
  refine KC ?_
  refine KQ rfl ?_
  refine KR ?_
  refine KB ?_
  refine rD [8,9] ?_
  refine aD 0 rfl (dL rfl (hv:=by exact KG Try.underlying26 rfl sz_26)) ?_
  refine aD 1 rfl (dL rfl (hv:=by exact KG Try.underlying33 rfl sz_33)) ?_
  refine KAb [5,8,9] 3 rfl (by kernel_rfl) (Nb rfl) (dL rfl (hv:=by exact KG Try.underlying26 rfl sz_26)) ?_
  refine KAb [5,8,9] 4 rfl (by kernel_rfl) (Nb rfl) (dL rfl (hv:=by exact KG Try.underlying33 rfl sz_33)) ?_
  refine LAny.toP ?_
  refine KAD 6 rfl (.inl zr_33) (Nb rfl) rfl rfl rfl ?_
  refine KAD 7 rfl (.inl zr_33) (Nb rfl) rfl rfl rfl ?_
  refine Ko 2 rfl rfl rfl (Nb rfl) (by kernel_rfl) rfl (Ks (first:=[]) rfl en_75 rfl (fun w hw=>c_some Q V A w (mC hw) hok hA9)) ?_
  rintro _ _ ⟨rfl,rfl⟩
  refine Ko 5 rfl rfl rfl (Nb rfl) (by kernel_rfl) rfl (Ks (first:=[]) rfl en_75 rfl (fun w hw=>c_some Q V B w (mC hw) hok hB9)) ?_
  rintro _ _ ⟨rfl,rfl⟩
  refine pE (fun b12=>?_)
  refine pE (fun b11=>?_)
  refine KAP ?_
  refine aL 8 rfl (sA rfl rfl sz_33 (by exact KY _) (hl:=by exact KD _) (h:=?_))
  refine aL 9 rfl (sA rfl rfl sz_33 (by exact KY _) (hl:=by exact KD _) (h:=?_))
  refine aE ?_
  refine KB (KA ?_)
  refine oP (KI (o':=0) Try.underlying26 rfl rfl rfl sz_3 (by decide)) ?_
  refine oD (dL rfl (hv:=KW Try.underlying3 rfl (by first|rfl|exact Kr _ _ _ (by omega)|exact Kt _ (by omega)|exact Kz _ (by omega)|exact dv_m _ _ _ (by omega)))) ?_
  refine oD (dL rfl (hv:=by exact KG Try.underlying33 rfl sz_33)) ?_
  refine oS (cF rfl en_76 rfl (fun w hw=>c_kPublic V.id V (keyN V A) (.aff x1 y1) w h2 k1.1 k1.2 e1) ?_)
  refine oM ?_
  refine oP (Det.extract rfl rfl) ?_
  refine oP (Det.extract rfl rfl) ?_
  refine oS (mk (KS zr_35) (fun b13=>?_))
  refine KU rfl (sA rfl rfl sz_35 (by exact Kb _ _ _) (hl:=by exact KJ _ _ _) (h:=?_))
  refine oA ?_
  refine KC ?_
  refine KB (KA ?_)
  refine oP (KI (o':=0) Try.underlying26 rfl rfl rfl sz_3 (by decide)) ?_
  refine oD (dL rfl (hv:=KW Try.underlying3 rfl (by first|rfl|exact Kr _ _ _ (by omega)|exact Kt _ (by omega)|exact Kz _ (by omega)|exact dv_m _ _ _ (by omega)))) ?_
  refine oD (dL rfl (hv:=by exact KG Try.underlying33 rfl sz_33)) ?_
  refine oS (cF rfl en_76 rfl (fun w hw=>c_kPublic V.id V (keyN V B) (.aff x2 y2) w h2 k2.1 k2.2 e2) ?_)
  refine oM ?_
  refine oP (Det.extract rfl rfl) ?_
  refine oP (Det.extract rfl rfl) ?_
  refine oS (mk (KS zr_35) (fun b15=>?_))
  refine KU rfl (sA rfl rfl sz_35 (by exact Kb _ _ _) (hl:=by exact KJ _ _ _) (h:=?_))
  refine oA ?_
  refine KC ?_
  refine KB (KA ?_)
  refine oP (KI (o':=0) Try.underlying26 rfl rfl rfl sz_3 (by decide)) ?_
  refine oD (dL rfl (hv:=KW Try.underlying3 rfl (by first|rfl|exact Kr _ _ _ (by omega)|exact Kt _ (by omega)|exact Kz _ (by omega)|exact dv_m _ _ _ (by omega)))) ?_
  refine oD (dL rfl (hv:=by exact KG Try.underlying35 rfl sz_35)) ?_
  refine oM ?_
  refine oS (cF rfl en_40 rfl (fun w hw=>c_s_PutE (putS V x1.val y1.val sh) 0 V.id V x1.val y1.val false sh w h2 (Nat.lt_trans x1.isLt hpW) (Nat.lt_trans y1.isLt hpW) f1 f2) ?_)
  refine oM ?_
  refine oP (Det.extract rfl rfl) ?_
  refine oP (Det.extract rfl rfl) ?_
  refine oA ?_
  refine oA ?_
  refine KC ?_
  refine KB (KA ?_)
  refine oP (KI (o':=0) Try.underlying26 rfl rfl rfl sz_3 (by decide)) ?_
  refine oD (dL rfl (hv:=KW Try.underlying3 rfl (by first|rfl|exact Kr _ _ _ (by omega)|exact Kt _ (by omega)|exact Kz _ (by omega)|exact dv_m _ _ _ (by omega)))) ?_
  refine oD (dL rfl (hv:=by exact KG Try.underlying35 rfl sz_35)) ?_
  refine oM ?_
  refine oP (Det.not rfl) ?_
  refine oS (cF rfl en_40 rfl (fun w hw=>c_s_PutE (putS V x2.val y2.val (!sh)) 0 V.id V x2.val y2.val false (!sh) w h2 (Nat.lt_trans x2.isLt hpW) (Nat.lt_trans y2.isLt hpW) f3 f4) ?_)
  refine oM ?_
  refine oP (Det.extract rfl rfl) ?_
  refine oP (Det.extract rfl rfl) ?_
  refine oA ?_
  refine oA ?_
  refine KC ?_
  refine KB (KA ?_)
  refine oP (KI (o':=0) Try.underlying26 rfl rfl rfl sz_3 (by decide)) ?_
  refine oD (dL rfl (hv:=KW Try.underlying3 rfl (by first|rfl|exact Kr _ _ _ (by omega)|exact Kt _ (by omega)|exact Kz _ (by omega)|exact dv_m _ _ _ (by omega)))) ?_
  refine oD (dL rfl (hv:=by exact KG Try.underlying33 rfl sz_33)) ?_
  refine oM ?_
  refine oS (cF rfl en_77 rfl (fun w hw=>c_eSharedN R V.id V (keyN V A) (putS V x2.val y2.val (!sh)) x2 y2 w h2 k1.1 k1.2 (putS_size hnp _ _ _) (get_put hok _ n2) o2 r1) ?_)
  refine oM ?_
  refine oP (Det.extract rfl rfl) ?_
  refine oP (Det.extract rfl rfl) ?_
  refine oA ?_
  refine oA ?_
  refine KC ?_
  refine KB (KA ?_)
  refine oP (KI (o':=0) Try.underlying26 rfl rfl rfl sz_3 (by decide)) ?_
  refine oD (dL rfl (hv:=KW Try.underlying3 rfl (by first|rfl|exact Kr _ _ _ (by omega)|exact Kt _ (by omega)|exact Kz _ (by omega)|exact dv_m _ _ _ (by omega)))) ?_
  refine oD (dL rfl (hv:=by exact KG Try.underlying33 rfl sz_33)) ?_
  refine oM ?_
  refine oS (cF rfl en_77 rfl (fun w hw=>c_eSharedN R V.id V (keyN V B) (putS V x1.val y1.val sh) x1 y1 w h2 k2.1 k2.2 (putS_size hnp _ _ _) (get_put hok _ n1) o1 r2) ?_)
  refine oM ?_
  refine oP (Det.extract rfl rfl) ?_
  refine oP (Det.extract rfl rfl) ?_
  refine oA ?_
  refine oA ?_
  refine KC ?_
  refine KB (KA ?_)
  refine oM ?_
  refine oS (cF rfl en_33 rfl (fun w hw=>c_Num _ w) ?_)
  refine oP (KH (v:=.bool true) rfl rfl (br_t (KAR (b:=0)) (by first|rfl|assumption|omega|(simp; done)))) ?_
  refine oM ?_
  refine oGM ?_
  refine oGS (cF rfl en_33 rfl (fun w hw=>c_Num _ w) ?_)
  refine oGP (KH (v:=.bool true) rfl rfl (br_t (KAR (b:=0)) (by first|rfl|assumption|omega|(simp; done)))) ?_
  refine oP (Kn rfl rfl) ?_
  refine oM ?_
  refine oGM ?_
  refine oGS (cF rfl en_33 rfl (fun w hw=>c_Num _ w) ?_)
  refine oGP (KH (v:=.bool true) rfl rfl (br_t (KAR (b:=0)) (by first|rfl|assumption|omega|(simp; done)))) ?_
  refine oP (Kn rfl rfl) ?_
  refine oM ?_
  refine oGM ?_
  refine oGS (cF rfl en_33 rfl (fun w hw=>c_Num _ w) ?_)
  refine oGP (KH (v:=.bool true) rfl rfl (br_t (KAR (b:=0)) (by first|rfl|assumption|omega|(simp; done)))) ?_
  refine oP (Kn rfl rfl) ?_
  refine oM ?_
  refine oGM ?_
  refine oGM ?_
  refine oGP (KK (Det.eqs rfl rfl) (congrArg Value.bool (eq_str_t (rfl)))) ?_
  refine oP (Kn rfl rfl) ?_
  refine oM ?_
  refine oGM ?_
  refine oGP (Det.lens Try.underlying9 rfl) ?_
  refine KAa rfl rfl (dL rfl (hv:=by exact KG Try.underlying26 rfl sz_26)) (Nb rfl) ?_
  refine oGS (cF rfl en_48 rfl (fun w hw=>c_r_Size Q V w (mC hw) hsz) ?_)
  refine oGP (KH (v:=.bool true) rfl rfl (br_t KAR (rsz))) ?_
  refine oP (Kn rfl rfl) ?_
  refine oA ?_
  refine KC (KO ?_)
  refine ⟨[_],.cons rfl .nil,fun a w' hr=>⟨?_,hr.fr.below⟩⟩
  rfl
end Go.Proofs.Ytlmiolnccgjjjaa
set_option maxRecDepth 100000
namespace Go.Proofs.Ytlmiolnccgjjjaa
open Go
def ioChars:List Char:=([104,97,114,110,101,115,115,32,51,100,97,51,56,97,97,97,101,50,102,56,55,53,98,101,100,56,56,57,99,51,57,97,102,97,100,99,99,98,102,50,102,97,48,49,100,55,56,97,101,50,48,102,97,99,53,57,102,57,56,48,52,102,53,99,98,98,56,100,52,97,97,98,32,99,117,116,32,97,116,32,99,117,114,118,101,116,47,99,117,114,118,101,116,108,97,119,49,54,46,84,97,98,108,101,83,105,122,101,115,32,99,117,114,118,101,116,47,99,117,114,118,101,116,108,97,119,49,54,46,84,97,98,108,101,78,105,108,32,99,117,114,118,101,116,47,99,117,114,118,101,116,108,97,119,50,49,46,83,101,99,49,115,32,99,117,114,118,101,116,47,99,117,114,118,101,116,108,97,119,50,49,46,83,101,99,49,66,97,99,107,32,99,117,114,118,101,116,47,99,117,114,118,101,116,108,97,119,50,49,46,83,101,99,49,84,105,110,121,32,99,117,114,118,101,116,47,99,117,114,118,101,116,108,97,119,50,49,46,83,101,99,49,66,111,116,104,32,99,117,114,118,101,116,47,99,117,114,118,101,116,108,97,119,50,49,46,83,101,99,49,76,101,110,103,116,104,115,32,99,117,114,118,101,116,47,99,117,114,118,101,116,108,97,119,50,49,46,83,101,99,49,87,104,111,108,101,32,99,117,114,118,101,116,47,99,117,114,118,101,116,108,97,119,50,49,46,83,101,99,49,71,114,101,97,116,32,99,117,114,118,101,116,47,99,117,114,118,101,116,108,97,119,49,54,46,84,97,98,108,101,115,32,99,117,114,118,101,116,47,99,117,114,118,101,116,108,97,119,49,57,46,66,97,115,101,115,32,99,117,114,118,101,116,47,99,117,114,118,101,116,108,97,119,49,57,46,66,97,115,101,78,105,108,32,99,117,114,118,101,116,47,99,117,114,118,101,116,108,97,119,49,54,46,84,97,98,108,101,66,108,105,110,100,32,99,117,114,118,101,116,47,99,117,114,118,101,116,108,97,119,49,54,46,84,97,98,108,101,83,117,109,115,32,99,117,114,118,101,116,47,99,117,114,118,101,116,108,97,119,49,56,46,77,117,108,116,115,32,99,117,114,118,101,116,47,99,117,114,118,101,116,108,97,119,49,56,46,77,117,108,116,69,110,100,115,32,99,117,114,118,101,116,47,99,117,114,118,101,116,108,97,119,49,56,46,77,117,108,116,84,119,105,99,101,32,99,117,114,118,101,116,47,99,117,114,118,101,116,108,97,119,49,56,46,77,117,108,116,84,105,110,121,32,99,117,114,118,101,116,47,99,117,114,118,101,116,108,97,119,49,57,46,66,97,115,101,84,117,114,110,115,32,99,117,114,118,101,116,47,99,117,114,118,101,116,108,97,119,49,56,46,77,117,108,116,66,108,105,110,100,32,99,117,114,118,101,116,47,99,117,114,118,101,116,108,97,119,49,57,46,66,97,115,101,83,116,101,112,115,32,99,117,114,118,101,116,47,99,117,114,118,101,116,108,97,119,49,57,46,66,97,115,101,66,108,105,110,100,32,99,117,114,118,101,116,47,99,117,114,118,101,116,108,97,119,49,56,46,77,117,108,116,65,100,100,115,32,99,117,114,118,101,116,47,99,117,114,118,101,116,108,97,119,50,48,46,68,117,97,108,65,108,111,110,101,32,99,117,114,118,101,116,47,99,117,114,118,101,116,108,97,119,50,53,46,69,99,100,104,65,103,114,101,101,115]:List Nat).map Char.ofNat
theorem io_lit:Try.prog.initOrder = String.ofList ioChars:=by kernel_rfl
theorem io_list:Try.prog.initOrder.toList = ioChars:=by rw [io_lit,String.toList_ofList]
def cutW:List Char:=([99,117,116]:List Nat).map Char.ofNat
def ioRest:List (List Char):=(wordsSigns ioChars).drop 3
theorem io_words:behindMainWord (wordsSigns ioChars) = cutW :: ioRest:=by kernel_rfl
theorem io_strip (r:List (List Char)):stripLifts liftWords (cutW :: r) = ([],cutW :: r):=by kernel_rfl
theorem no_later:Try.prog.laysLater = false:=by kernel_rfl
theorem no_reflect:Try.prog.bearsReflect = false:=by kernel_rfl
theorem door_fits:Try.prog.doorFits [] = true:=by kernel_rfl
theorem and2 {a b:Bool} (h:a = true) (k:b = true):(a && b) = true:=by rw [h,k]; rfl
theorem or_right {a b:Bool} (h:b = true):(a || b) = true:=by rw [h]; cases a <;> rfl
theorem cut_is : (cutW == "cut".toList) = true := by kernel_rfl
theorem cut_gc : (cutW == "gc".toList) = false := by kernel_rfl
theorem cut_spec : (cutW == "spec".toList) = false := by kernel_rfl
theorem cut_carried : (cutW == "carried".toList) = false := by kernel_rfl
theorem head_carried (r : List (List Char)) : ((cutW :: r).head? == some "carried".toList) = false := cut_carried
theorem enter_of (P:Program) {r:List (List Char)} (h:behindMainWord (wordsSigns P.initOrder.toList) = cutW :: r) (h1:P.laysLater = false) (h2:P.bearsReflect = false) (h3:P.doorFits [] = true):P.mayEnter = true:=by
  unfold Program.mayEnter
  rw [h]
  dsimp only
  refine or_right (and2 (and2 (and2 (and2 ?_ ?_) ?_) ?_) ?_)
  · rw [io_strip]; exact cut_is
  · rw [io_strip,h1]; rfl
  · rw [io_strip,h2]; rfl
  · rw [io_strip]; rfl
  · rw [io_strip]; exact h3
theorem lifts_of (P:Program) {r:List (List Char)} (h:behindMainWord (wordsSigns P.initOrder.toList) = cutW :: r):(false == P.liftsFinal) = true:=by
  have hl:P.headLifts = []:=by
    unfold Program.headLifts
    rw [h,io_strip]
    simp only [ite_self]
  unfold Program.liftsFinal
  rw [h,hl]
  dsimp only
  rw [head_carried,Bool.false_and]
  rfl
theorem make_of (P:Program) {r:List (List Char)} (h:behindMainWord (wordsSigns P.initOrder.toList) = cutW :: r):(P.make == some .cut) = true:=by
  have:P.make = some .cut:=by
    unfold Program.make
    rw [h]
    dsimp only
    rw [if_neg (by rw [cut_gc,cut_spec]; exact fun h=>by cases h),if_pos (by rw [cut_is]; rfl)]
  rw [this]; rfl
theorem io_all:behindMainWord (wordsSigns Try.prog.initOrder.toList) = cutW :: ioRest:=by rw [io_list,io_words]
theorem fact_enter:Try.prog.mayEnter = true:=enter_of _ io_all no_later no_reflect door_fits
theorem fact_lifts:(false == Try.prog.liftsFinal) = true:=lifts_of _ io_all
theorem fact_make:(Try.prog.make == some .cut) = true:=make_of _ io_all
theorem fact_laid:laidOutB Try.prog = true:=by kernel_rfl
theorem fact_maps:mapsRowed Try.prog = true:=by kernel_rfl
theorem fact_heard:Try.prog.stopsHeard = true:=by kernel_rfl
end Go.Proofs.Ytlmiolnccgjjjaa
