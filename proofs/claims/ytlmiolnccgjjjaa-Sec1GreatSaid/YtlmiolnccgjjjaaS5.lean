/- Part 5 of what the proof leans on: a symbolic execution of the model, walks of the program's functions, and the mathematics. No condition. -/
import Derived.WalkKit
import Derived.Orders
import Derived.Laws.StructEq
import Derived.WalkSpells
import Derived.OrdersHeld
import Derived.KernelRfl
import Derived.Laws.Externs
import Derived.Laws.Bits64
import Derived.Laws.MakeOwn
import Derived.Laws.BytesString
import Derived.Carry
import Derived.WideShapes
import GoSem.Claim
import Derived.Test.YtlmiolnccgjjjaaProg
import Derived.Laws.AppendOwn
import Derived.Test.YtlmiolnccgjjjaaRows
import Derived.ProofKit
import Derived.OpenShut
import Derived.Test.YtlmiolnccgjjjaaS4
set_option linter.unusedVariables false
set_option linter.unusedSimpArgs false
set_option maxRecDepth 20000
namespace Go.Proofs.Ytlmiolnccgjjjaa
open Go Go.RowKit
open Grp
theorem pow_bitM (a e i m:Nat):(if e/2^i%2 = 1 then (a^(e/2^(i+1))%m*(a^(e/2^(i+1))%m)%m*(a%m))%m else (a^(e/2^(i+1))%m*(a^(e/2^(i+1))%m))%m) = a^(e/2^i)%m:=by
  rw [← pow_bit a e i m]
  split
  · exact Nat.mul_mod_mod _ _ _
  · rfl
theorem c_n_PowMod (q r p:NV) (A E m:Nat) (w:World) (hq:(numT q A).holds w) (hr:(numT r E).holds w) (hp:(numT p m).holds w) (hm0:m≠0) (hA:D.nw A≤1000) (hE:D.nw E≤1000) (hm:D.nw m≤1000):Calls Try.prog 131 ([numV q A,numV r E,numV p m]:List Value).toArray w (fun e w'=>NumR w ([]) (A^E%m) (fun v=>v) e w'):=by
  have hmp:0<m:=Nat.pos_of_ne_zero hm0
  have nwm:∀ z,D.nw (z%m)≤100000:=fun z=>Nat.le_trans (D.nw_mono (Nat.le_of_lt (Nat.mod_lt z hmp))) (by omega)
  have hbk:=blen_nw E
  have htop:(A^(E/2^blen E)%m) = 1%m:=by rw [Nat.div_eq_of_lt (lt_blen E),Nat.pow_zero]
  have hn1:=nw_one
  refine Ke (N:=36) (rs:=[.tmp 6]) [numT q A,numT r E,numT p m] Try.func131 rfl Try.ntmps131 Try.results131 (Nb rfl) ⟨hq,hr,hp,trivial⟩ rfl ?_
  show LCode _ _ _ ⟨_,_⟩ _
  refine KB (KA ?_)
  refine oA ?_
  refine KC ?_
  refine KB (KA ?_)
  refine oS (mk (KAJ Try.underlying24 inf_67 rfl rfl rfl rfl (by decide) rfl) (fun b10=>?_))
  refine LOps.sub (Sub.cells (b:=b10) (cs':=vec .u32 1 (D.limb 1)) (by repeat (first|exact Sh _|apply St_)) (vec_one_digit (by decide))) ?_
  refine LOps.toNum (b:=b10) (n:=1) (A:=1) (c:=1) (by repeat (first|exact Pick.head _|apply Pick.tail)) (by decide) (fun hb10=>?_)
  refine oM ?_
  refine oS (cZ rfl en_60 rfl (fun w hw hs=>(c_n_Mod ⟨false,b10,1⟩ p (1) m hm0 w (mC hw) (mC hw) (by omega)).mono fun e w' h=>Ky (Old.one (x:=numT ⟨false,b10,1⟩ (1)) (by repeat (first|exact Mh _|apply Mt)) rfl) hs h) ?_)
  rintro _ _ ⟨q12,rfl,rfl,hn12⟩
  refine oA ?_
  refine KC ?_
  refine KB (KA ?_)
  refine oM ?_
  refine oM ?_
  refine oS (cZ rfl en_60 rfl (fun w hw hs=>(c_n_Mod q p (A) m hm0 w (mC hw) (mC hw) (by omega)).mono fun e w' h=>Ky (Old.one (x:=numT q (A)) (by repeat (first|exact Mh _|apply Mt)) rfl) hs h) ?_)
  rintro _ _ ⟨q15,rfl,rfl,hn15⟩
  refine oA ?_
  refine KC ?_
  refine KB ?_
  refine KB (KA ?_)
  refine oM ?_
  refine oS (cF rfl en_70 rfl (fun w hw=>c_n_Bits r E w (mC hw) (by omega)) ?_)
  refine oP (KD (v:=.int .i64 (((blen E:Nat):Int)-1)) rfl rfl (br_subI (by omega) (by omega))) ?_
  refine oA ?_
  refine KC ?_
  refine LCode.block ?_
  refine Kr (α:=Nat×NV) (fun x=>x.1≤blen E∧NFr w.heap.size [] x.2 (D.nw (A^(E/2^x.1)%m))) (fun x=>⟨[(1,numV r E),(2,numV p m),(7,numV x.2 (A^(E/2^x.1)%m)),(8,numV q15 (A%m)),(9,.int .i64 (((x.1:Nat):Int)-1))],[numT x.2 (A^(E/2^x.1)%m),numT q15 (A%m),numT r E,numT p m]⟩) (fun x=>x.1) ((blen E,q12)) (⟨Nat.le_refl _,by dsimp only; rw [htop]; exact NFr.old hn12 (NFr.blk _ (hb10.elim id (fun h=>h.elim)))⟩) (by dsimp only; rw [htop]; exact Kp ⟨rfl,rfl,rfl,rfl,rfl,trivial⟩ (by repeat (first|exact Sel.nil _|refine Sel.cons (by repeat (first|exact Ph _|apply Pt_)) ?_))) ?_
  rintro x ⟨hx1,hx2⟩
  refine KB ?_
  refine KB ?_
  rcases Nat.eq_zero_or_pos x.1 with h0|h0
  ·
    refine KA ?_
    refine oM ?_
    refine oP (KD (v:=.bool false) rfl rfl (by rw [h0]; rfl)) ?_
    refine KC ?_
    refine KM rfl ?_
    refine Kj ?_
    refine KB (KA ?_)
    refine oM ?_
    refine oA ?_
    refine KC (KL ?_)
    have e0:(A^(E/2^x.1)%m) = A^E%m:=by rw [h0,Nat.pow_zero,Nat.div_one]
    rw [e0] at hx2
    refine ⟨[_],.cons rfl .nil,fun a w' hr=>?_⟩
    rw [e0] at hr ⊢
    exact hr.numQ (by repeat (first|exact Mh _|apply Mt)) hx2
  ·
    obtain ⟨y,hy⟩:∃ y,x.1 = y+1:=⟨x.1-1,by omega⟩
    rw [hy] at hx2 ⊢
    refine KA ?_
    refine oM ?_
    refine oP (KD (v:=.bool true) rfl rfl (by simp [KAF] <;> omega)) ?_
    refine KC ?_
    refine Ka rfl ?_
    refine KN ?_
    refine KB ?_
    refine LCode.block ?_
    refine KB (KA ?_)
    refine oM ?_
    refine oM ?_
    refine oM ?_
    refine oS (cZ rfl en_67 rfl (fun w hw hs=>(c_n_MulMod x.2 x.2 p (A^(E/2^(y+1))%m) (A^(E/2^(y+1))%m) m hm0 w (mC hw) (mC hw) (mC hw) (nwm _) (nwm _)).mono fun e w' h=>Ky (Old.nil _) hs h) ?_)
    rintro _ _ ⟨q26,rfl,rfl,hn26⟩
    refine oA ?_
    refine KC ?_
    refine KB (KA ?_)
    refine oM ?_
    refine oP (Kz (v:=.int .i64 ((y:Nat):Int)) (by show some _ = some _; congr 2; omega)) ?_
    refine oS (cF rfl en_86 rfl (fun w hw=>c_n_Bit r E (D.nw E) y w (mC hw) (by omega)) ?_)
    refine oP (KD rfl rfl (KAC (b:=1))) ?_
    refine KC ?_
    first|refine KP rfl (fun hbit=>?_) (fun hbit=>?_)|refine KV rfl (fun hbit=>?_) (fun hbit=>?_)
    ·
      have hbit:E/2^y%2 = 1:=hbit
      have hpb:=pow_bitM A E y m
      rw [if_pos hbit] at hpb
      refine KA ?_
      refine oM ?_
      refine oM ?_
      refine oM ?_
      refine oS (cZ rfl en_67 rfl (fun w hw hs=>(c_n_MulMod q26 q15 p ((A^(E/2^(y+1))%m)*(A^(E/2^(y+1))%m)%m) (A%m) m hm0 w (mC hw) (mC hw) (mC hw) (nwm _) (nwm _)).mono fun e w' h=>Ky (Old.nil _) hs h) ?_)
      rintro _ _ ⟨q34,rfl,rfl,hn34⟩
      refine oA ?_
      refine KC ?_
      refine KA ?_
      refine oP (Kz (v:=.int .i64 ((y:Nat):Int)) (by show some _ = some _; congr 2; omega)) ?_
      refine oP (KD (v:=.int .i64 (((y:Nat):Int)-1)) rfl rfl (br_subI (by omega) (by omega))) ?_
      refine oA ?_
      refine KC ?_
      rw [hpb] at hn34 ⊢
      exact ⟨(y,q34),⟨by dsimp only; omega,hn34⟩,by dsimp only; omega,Kp ⟨rfl,rfl,rfl,rfl,rfl,trivial⟩ (by repeat (first|exact Sel.nil _|refine Sel.cons (by repeat (first|exact Ph _|apply Pt_)) ?_))⟩
    ·
      have hbit:¬ E/2^y%2 = 1:=hbit
      have hpb:=pow_bitM A E y m
      rw [if_neg hbit] at hpb
      refine KN ?_
      refine KA ?_
      refine oP (Kz (v:=.int .i64 ((y:Nat):Int)) (by show some _ = some _; congr 2; omega)) ?_
      refine oP (KD (v:=.int .i64 (((y:Nat):Int)-1)) rfl rfl (br_subI (by omega) (by omega))) ?_
      refine oA ?_
      refine KC ?_
      rw [hpb] at hn26 ⊢
      exact ⟨(y,q26),⟨by dsimp only; omega,hn26⟩,by dsimp only; omega,Kp ⟨rfl,rfl,rfl,rfl,rfl,trivial⟩ (by repeat (first|exact Sel.nil _|refine Sel.cons (by repeat (first|exact Ph _|apply Pt_)) ?_))⟩
theorem apart_of {x y:Item}:∀ {H:List Item},H.Pairwise Apart→x∈H→y∈H→x.wr = false→Apart x y
  | z :: H,hd,hx,hy,hw=>by
    obtain ⟨h1,h2⟩:=List.pairwise_cons.1 hd
    rcases List.mem_cons.1 hx with rfl|hx' <;> rcases List.mem_cons.1 hy with rfl|hy'
    · intro h; rw [hw] at h; rcases h with h|h <;> cases h
    · exact h1 y hy'
    · exact (h1 x hx').symm
    · exact apart_of h2 hx' hy' hw
theorem LCode.dup {P:Program} {C:Ctx} {co:Code} {Q:Exit→St→Prop} {T:List (Nat×Value)} {H:List Item} {x:Item} (m:x∈H) (hx:x.wr = false) (h:LCode P C co ⟨T,x :: H⟩ Q):LCode P C co ⟨T,H⟩ Q:=by
  unfold LCode at *
  intro a w hr
  refine h a w ⟨hr.size,hr.defers,hr.tm,?_,?_,List.pairwise_cons.2 ⟨?_,hr.dist⟩,hr.fr⟩
  · intro y hy
    rcases List.mem_cons.1 hy with rfl|hy
    · exact hr.hp _ m
    · exact hr.hp y hy
  · intro y hy hw
    rcases List.mem_cons.1 hy with rfl|hy
    · rw [hx] at hw; cases hw
    · exact hr.own y hy hw
  · intro y hy
    exact apart_of hr.dist m hy hx
theorem numV_two (b:Nat):some (Value.slice (some ⟨b,0,none⟩) 1 1) = some (numV ⟨false,b,1⟩ 2):=by
  unfold numV slV pz
  rw [show D.nw 2 = 1 by decide]
  rfl
def sqR (p a:Nat):Nat:=(sqN p a).getD 0
def sqB (p a:Nat):Bool:=(sqN p a).isSome
theorem sq_none {p a:Nat} (h:sqN p a = none):sqR p a = 0∧sqB p a = false:=by unfold sqR sqB; rw [h]; exact ⟨rfl,rfl⟩
theorem sq_some {p a r:Nat} (h:sqN p a = some r):sqR p a = r∧sqB p a = true:=by unfold sqR sqB; rw [h]; exact ⟨rfl,rfl⟩
structure RtS (p:Nat) where
  rx:Fin p
  rc:Fin p
  rt:Fin p
  m:Nat
  qx:NV
  qc:NV
  qt:NV
theorem c_n_PowModF {V:Cv} (q r p:NV) (X:Fin V.p) (E:Nat) (w:World) (hok:V.Ok) (hq:(numT q X.val).holds w) (hr:(numT r E).holds w) (hp:(numT p V.p).holds w) (hE:E≤V.p):Calls Try.prog 131 ([numV q X.val,numV r E,numV p V.p]:List Value).toArray w (fun e w'=>NumR w [] (fpow X E).val (fun v=>v) e w'):=by
  have hb:=hok.bounds
  have h17:=nw_521 hb.2.1
  have h1:=D.nw_mono (Nat.le_of_lt X.isLt)
  have h2:=D.nw_mono hE
  rw [fpow_val]
  exact c_n_PowMod q r p X.val E V.p w hq hr hp (by omega) (by omega) (by omega) (by omega)
theorem c_n_PowModZ {V:Cv} (q r p:NV) (z:Nat) (E:Nat) (w:World) (hok:V.Ok) (hz:z<V.p) (hq:(numT q z).holds w) (hr:(numT r E).holds w) (hp:(numT p V.p).holds w) (hE:E≤V.p):Calls Try.prog 131 ([numV q z,numV r E,numV p V.p]:List Value).toArray w (fun e w'=>NumR w [] (fpow (c V.p z) E).val (fun v=>v) e w'):=by
  have e:(c V.p z).val = z:=Nat.mod_eq_of_lt hz
  have h:=c_n_PowModF q r p (c V.p z) E w hok (by rw [e]; exact hq) hr hp hE
  rwa [e] at h
theorem c_n_MulModG {V:Cv} (q r p:NV) (a b:Fin V.p) (hp0:V.p≠0) (w:World) (hq:(numT q a.val).holds w) (hr:(numT r b.val).holds w) (hp:(numT p V.p).holds w) (hA:D.nw a.val≤100000) (hB:D.nw b.val≤100000):Calls Try.prog 67 ([numV q a.val,numV r b.val,numV p V.p]:List Value).toArray w (fun e w'=>NumR w [] (a*b).val (fun v=>v) e w'):=by
  rw [Fin.val_mul]; exact c_n_MulMod q r p a.val b.val V.p hp0 w hq hr hp hA hB
theorem half_step {o s:Nat} (h:o%2 = 0):o/2^1*2^(s+1) = o*2^s:=by
  rw [Nat.pow_succ 2 s,Nat.mul_comm (2^s) 2,← Nat.mul_assoc,Nat.pow_one]
  congr 1; omega
theorem c_ne_zero {p:Nat} [NeZero p] {z:Nat} (h1:2≤z) (h2:z<p):c p z≠0:=fun h=>by
  have:=congrArg Fin.val h
  have e:(c p z).val = z:=Nat.mod_eq_of_lt h2
  rw [e] at this
  rw [this] at h1
  rw [Fin.val_zero] at h1
  omega
theorem c_n_Sqrt (V:Cv) (qa qp:NV) (a:Fin V.p) (w:World) (hok:V.Ok) (hq:(numT qa a.val).holds w) (hp:(numT qp V.p).holds w):Calls Try.prog 93 ([numV qa a.val,numV qp V.p]:List Value).toArray w (fun e w'=>NumR w ([]) (sqR V.p a.val) (fun v=>.tuple #[v,.bool (sqB V.p a.val)]) e w'):=by
  have hbb:=hok.bounds
  have hpW:V.p<W9:=KAO hbb.2.1
  have hz:=hok.zbounds
  have hnw:=nw_521 hbb.2.1
  have hp0:V.p≠0:=by omega
  have h17:∀ x:Fin V.p,D.nw x.val≤100000:=fun x=>Nat.le_trans (D.nw_mono (Nat.le_of_lt x.isLt)) (by omega)
  have hm6:∀ x:Fin V.p,D.nw x.val≤1000000:=fun x=>Nat.le_trans (h17 x) (by decide)
  have hn1:=nw_one
  have hpm:=D.nw_mono (Nat.sub_le V.p 1)
  have hH:(V.p-1)/2^1≤V.p:=by omega
  refine Ke (N:=117) (rs:=[.tmp 4,.tmp 5]) [numT qa a.val,numT qp V.p] Try.func93 rfl Try.ntmps93 Try.results93 (Nb rfl) ⟨hq,hp,trivial⟩ rfl ?_
  show LCode _ _ _ ⟨_,_⟩ _
  refine KB (KA ?_)
  refine oA ?_
  refine oA ?_
  refine KC ?_
  refine KB ?_
  refine KB (KA ?_)
  refine oM ?_
  refine oP (KAN Try.underlying24 rfl) ?_
  refine oP (KD rfl rfl (KAC (b:=0))) ?_
  refine KC ?_
  first|refine KP rfl (fun h20=>?_) (fun h20=>?_)|refine KV rfl (fun h20=>?_) (fun h20=>?_)
  ·
    have h20:a.val = 0:=nw_eq_zero.1 (by have:=h20; omega)
    refine KB (KA ?_)
    refine oA ?_
    refine oA ?_
    refine KC (KL ?_)
    obtain ⟨e1,e2⟩:=sq_some (sqN_zero (p:=V.p) (by omega))
    refine ⟨[_,_],.cons rfl (.cons rfl .nil),fun a' w' hr=>?_⟩
    rw [h20,e1,e2]
    exact hr.numNil (mk:=fun v=>.tuple #[v,.bool true])
  ·
    have h20:a≠0:=fun h=>h20 (by rw [h,Fin.val_zero]; exact nw_zero)
    refine KN ?_
    refine KB (KA ?_)
    refine oS (mk (KAJ Try.underlying24 inf_67 rfl rfl rfl rfl (by decide) rfl) (fun b21=>?_))
    refine oA ?_
    refine LOps.sub (Sub.cells (b:=b21) (cs':=vec .u32 1 (D.limb 1)) (by repeat (first|exact Sh _|apply St_)) (vec_one_digit (by decide))) ?_
    refine LOps.toNum (b:=b21) (n:=1) (A:=1) (c:=1) (by repeat (first|exact Pick.head _|apply Pick.tail)) (by decide) (fun hb21=>?_)
    refine KC ?_
    refine KB (KA ?_)
    refine oM ?_
    refine oM ?_
    refine oS (cZ rfl en_65 rfl (fun w hw hs=>(c_n_Sub qp ⟨false,b21,1⟩ V.p 1 w (mC hw) (mC hw) (by omega) (by omega)).mono fun e w' h=>Ky (Old.nil _) hs h) ?_)
    rintro _ _ ⟨q24,rfl,rfl,hn24⟩
    refine oS (cZ rfl en_111 rfl (fun w hw hs=>(c_n_Shr q24 (V.p-1) (D.nw (V.p-1)) 1 w (mC hw) (by omega) (by decide)).mono fun e w' h=>Ky (Old.nil _) hs h) ?_)
    rintro _ _ ⟨q25,rfl,rfl,hn25⟩
    refine oA ?_
    refine KC ?_
    refine KB ?_
    refine KB (KA ?_)
    refine oM ?_
    refine oM ?_
    refine oM ?_
    refine oS (cZ rfl en_131 rfl (fun w hw hs=>(c_n_PowModF qa q25 qp a ((V.p-1)/2^1) w hok (mC hw) (mC hw) (mC hw) hH).mono fun e w' h=>Ky (Old.nil _) hs h) ?_)
    rintro _ _ ⟨q29,rfl,rfl,hn29⟩
    refine oM ?_
    refine oS (cF rfl en_59 rfl (fun w hw=>c_n_Cmp q29 ⟨false,b21,1⟩ (fpow a ((V.p-1)/2^1)).val 1 w (mC hw) (mC hw) (hm6 _)) ?_)
    refine oP (KD rfl rfl cmp_neq) ?_
    refine KC ?_
    first|refine KP rfl (fun h32=>?_) (fun h32=>?_)|refine KV rfl (fun h32=>?_) (fun h32=>?_)
    ·
      have h32:fpow a ((V.p-1)/2)≠1:=fun h=>h32 ((ne_iff1 hok).2 h)
      refine KB (KA ?_)
      refine oA ?_
      refine oA ?_
      refine KC (KL ?_)
      obtain ⟨e1,e2⟩:=sq_none (sqN_no hok h20 h32)
      refine ⟨[_,_],.cons rfl (.cons rfl .nil),fun a' w' hr=>?_⟩
      rw [e1,e2]
      exact hr.numNil (mk:=fun v=>.tuple #[v,.bool false])
    ·
      have h32:fpow a ((V.p-1)/2) = 1:=(ne_iff1 hok).1 (Decidable.not_not.1 h32)
      refine KN ?_
      refine KB (KA ?_)
      refine oM ?_
      refine oM ?_
      refine oS (cZ rfl en_65 rfl (fun w hw hs=>(c_n_Sub qp ⟨false,b21,1⟩ V.p 1 w (mC hw) (mC hw) (by omega) (by omega)).mono fun e w' h=>Ky (Old.nil _) hs h) ?_)
      rintro _ _ ⟨q35,rfl,rfl,hn35⟩
      refine oA ?_
      refine KC ?_
      refine KB (KA ?_)
      refine oP (KW (v:=.int .i64 ((0:Nat):Int)) rfl) ?_
      refine KC ?_
      refine KB ?_
      refine LCode.block ?_
      refine Kr (α:=Nat×Nat×NV) (fun x=>x.1*2^x.2.1 = V.p-1∧0<x.1) (fun x=>⟨[(0,numV qa a.val),(1,numV qp V.p),(6,numV ⟨false,b21,1⟩ 1),(7,numV q25 ((V.p-1)/2^1)),(8,numV x.2.2 x.1),(9,.int .i64 ((x.2.1:Nat):Int))],[numT x.2.2 x.1,numT q25 ((V.p-1)/2^1),numT ⟨false,b21,1⟩ 1,numT qa a.val,numT qp V.p]⟩) (fun x=>x.1) ((V.p-1,0,q35)) (⟨by dsimp only; omega,by dsimp only; omega⟩) (Kp ⟨rfl,rfl,rfl,rfl,rfl,rfl,trivial⟩ (by repeat (first|exact Sel.nil _|refine Sel.cons (by repeat (first|exact Ph _|apply Pt_)) ?_))) ?_
      rintro o ⟨ho1,ho2⟩
      refine KB ?_
      refine KB ?_
      have ho3:o.1≤V.p-1:=by
        have h2:o.1*1≤o.1*2^o.2.1:=Nat.mul_le_mul_left _ Nat.one_le_two_pow
        omega
      have ho4:o.2.1<576:=two_lt ((Nat.mul_comm _ _).trans ho1) ho2 (by omega)
      have ho5:=D.nw_mono ho3
      refine KA ?_
      refine oM ?_
      refine oS (cF rfl en_86 rfl (fun w hw=>c_n_Bit o.2.2 o.1 (D.nw o.1) 0 w (mC hw) (by omega)) ?_)
      refine oP (KD rfl rfl (KAC (b:=0))) ?_
      refine KC ?_
      first|refine KP rfl (fun h38=>?_) (fun h38=>?_)|refine KV rfl (fun h38=>?_) (fun h38=>?_)
      ·
        have h38:o.1/2^0%2 = 0:=h38
        rw [Nat.pow_zero,Nat.div_one] at h38
        refine KN ?_
        refine LCode.block ?_
        refine KB (KA ?_)
        refine oM ?_
        refine oS (cZ rfl en_111 rfl (fun w hw hs=>(c_n_Shr o.2.2 o.1 (D.nw o.1) 1 w (mC hw) (by omega) (by decide)).mono fun e w' h=>Ky (Old.nil _) hs h) ?_)
        rintro _ _ ⟨q40,rfl,rfl,hn40⟩
        refine oA ?_
        refine KC ?_
        refine KA ?_
        refine oM ?_
        refine oP (KD rfl rfl (Km (b:=1) (by omega))) ?_
        refine oA ?_
        refine KC ?_
        exact ⟨(o.1/2^1,o.2.1+1,q40),⟨(half_step h38).trans ho1,by dsimp only; omega⟩,by dsimp only; omega,Kp ⟨rfl,rfl,rfl,rfl,rfl,rfl,trivial⟩ (by repeat (first|exact Sel.nil _|refine Sel.cons (by repeat (first|exact Ph _|apply Pt_)) ?_))⟩
      ·
        have h38:¬ o.1/2^0%2 = 0:=h38
        rw [Nat.pow_zero,Nat.div_one] at h38
        refine Kj ?_
        refine KB (KA ?_)
        refine oS (mk (KAJ Try.underlying24 inf_67 rfl rfl rfl rfl (by decide) rfl) (fun b43=>?_))
        refine oA ?_
        refine LOps.sub (Sub.cells (b:=b43) (cs':=vec .u32 1 (D.limb 2)) (by repeat (first|exact Sh _|apply St_)) (vec_one_digit (by decide))) ?_
        refine LOps.toNum (b:=b43) (n:=1) (A:=2) (c:=1) (by repeat (first|exact Pick.head _|apply Pick.tail)) (by decide) (fun hb43=>?_)
        refine KC ?_
        refine KB ?_
        refine LCode.block ?_
        refine Kr (α:=Nat×NV) (fun x=>2≤x.1∧x.1≤V.z) (fun x=>⟨[(0,numV qa a.val),(1,numV qp V.p),(6,numV ⟨false,b21,1⟩ 1),(7,numV q25 ((V.p-1)/2^1)),(8,numV o.2.2 o.1),(9,.int .i64 ((o.2.1:Nat):Int)),(10,numV x.2 x.1)],[numT x.2 x.1,numT o.2.2 o.1,numT q25 ((V.p-1)/2^1),numT ⟨false,b21,1⟩ 1,numT qa a.val,numT qp V.p]⟩) (fun x=>V.z-x.1) ((2,⟨false,b43,1⟩)) (⟨Nat.le_refl _,hz.1⟩) (Kp ⟨rfl,rfl,rfl,rfl,rfl,rfl,numV_two b43,trivial⟩ (by repeat (first|exact Sel.nil _|refine Sel.cons (by repeat (first|exact Ph _|apply Pt_)) ?_))) ?_
        rintro z ⟨hz1,hz2⟩
        refine KB ?_
        refine KB ?_
        have hz4:z.1<V.p:=by omega
        have hz5:=D.nw_mono (Nat.le_of_lt hz4)
        refine KA ?_
        refine oM ?_
        refine oM ?_
        refine oM ?_
        refine oS (cZ rfl en_131 rfl (fun w hw hs=>(c_n_PowModZ z.2 q25 qp z.1 ((V.p-1)/2^1) w hok hz4 (mC hw) (mC hw) (mC hw) hH).mono fun e w' h=>Ky (Old.nil _) hs h) ?_)
        rintro _ _ ⟨q47,rfl,rfl,hn47⟩
        refine oM ?_
        refine oS (cF rfl en_59 rfl (fun w hw=>c_n_Cmp q47 ⟨false,b21,1⟩ (fpow (c V.p z.1) ((V.p-1)/2^1)).val 1 w (mC hw) (mC hw) (hm6 _)) ?_)
        refine oP (KD rfl rfl cmp_eql) ?_
        refine KC ?_
        first|refine KP rfl (fun h50=>?_) (fun h50=>?_)|refine KV rfl (fun h50=>?_) (fun h50=>?_)
        ·
          refine KN ?_
          refine LCode.block ?_
          have hzz:z.1≠V.z:=fun h=>by
            have h1:=hok.none
            rw [← h] at h1
            have h2:=congrArg Fin.val h1
            rw [neg_one_val (by omega)] at h2
            have h3:(fpow (c V.p z.1) ((V.p-1)/2)).val = 1:=h50
            omega
          refine KA ?_
          refine oM ?_
          refine oM ?_
          refine oS (cZ rfl en_50 rfl (fun w hw hs=>(c_n_Add z.2 ⟨false,b21,1⟩ z.1 1 w (mC hw) (mC hw) (by omega) (by omega)).mono fun e w' h=>Ky (Old.nil _) hs h) ?_)
          rintro _ _ ⟨q53,rfl,rfl,hn53⟩
          refine oA ?_
          refine KC ?_
          exact ⟨(z.1+1,q53),⟨by dsimp only; omega,by dsimp only; omega⟩,by dsimp only; omega,Kp ⟨rfl,rfl,rfl,rfl,rfl,rfl,rfl,trivial⟩ (by repeat (first|exact Sel.nil _|refine Sel.cons (by repeat (first|exact Ph _|apply Pt_)) ?_))⟩
        ·
          refine Kj ?_
          refine KB ?_
          have hz3:fpow (c V.p z.1) ((V.p-1)/2) = -1:=(half_power hok.fld (by omega) (p_odd hok) (c_ne_zero hz1 hz4)).resolve_left fun h=>h50 ((ne_iff1 hok).2 h)
          obtain ⟨hs1,hs2⟩:=half_of ho1 (p_odd hok) (by omega) (by omega)
          have hup:o.1+1≤V.p:=by omega
          have hup2:=D.nw_mono hup
          refine KA ?_
          refine oM ?_
          refine oM ?_
          refine oM ?_
          refine oS (cZ rfl en_131 rfl (fun w hw hs=>(c_n_PowModZ z.2 o.2.2 qp z.1 o.1 w hok hz4 (mC hw) (mC hw) (mC hw) (by omega)).mono fun e w' h=>Ky (Old.nil _) hs h) ?_)
          rintro _ _ ⟨q57,rfl,rfl,hn57⟩
          refine oA ?_
          refine KC ?_
          refine KB (KA ?_)
          refine oM ?_
          refine oM ?_
          refine oM ?_
          refine oS (cZ rfl en_50 rfl (fun w hw hs=>(c_n_Add o.2.2 ⟨false,b21,1⟩ o.1 1 w (mC hw) (mC hw) (by omega) (by omega)).mono fun e w' h=>Ky (Old.nil _) hs h) ?_)
          rintro _ _ ⟨q61,rfl,rfl,hn61⟩
          refine oS (cZ rfl en_111 rfl (fun w hw hs=>(c_n_Shr q61 (o.1+1) (D.nw (o.1+1)) 1 w (mC hw) (by omega) (by decide)).mono fun e w' h=>Ky (Old.nil _) hs h) ?_)
          rintro _ _ ⟨q62,rfl,rfl,hn62⟩
          refine oM ?_
          refine oS (cZ rfl en_131 rfl (fun w hw hs=>(c_n_PowModF qa q62 qp a ((o.1+1)/2^1) w hok (mC hw) (mC hw) (mC hw) (by omega)).mono fun e w' h=>Ky (Old.nil _) hs h) ?_)
          rintro _ _ ⟨q64,rfl,rfl,hn64⟩
          refine oA ?_
          refine KC ?_
          refine KB (KA ?_)
          refine oM ?_
          refine oM ?_
          refine oM ?_
          refine oS (cZ rfl en_131 rfl (fun w hw hs=>(c_n_PowModF qa o.2.2 qp a o.1 w hok (mC hw) (mC hw) (mC hw) (by omega)).mono fun e w' h=>Ky (Old.nil _) hs h) ?_)
          rintro _ _ ⟨q68,rfl,rfl,hn68⟩
          refine oA ?_
          refine KC ?_
          refine KB ?_
          refine LCode.block ?_
          refine Kr (α:=RtS V.p) (fun x=>TS a x.rx x.rc x.rt x.m∧x.m<576∧NFr w.heap.size [] x.qx (D.nw x.rx.val)) (fun x=>⟨[(1,numV qp V.p),(6,numV ⟨false,b21,1⟩ 1),(9,.int .i64 ((x.m:Nat):Int)),(11,numV x.qc x.rc.val),(12,numV x.qx x.rx.val),(13,numV x.qt x.rt.val)],[numT x.qc x.rc.val,numT x.qx x.rx.val,numT x.qt x.rt.val,numT ⟨false,b21,1⟩ 1,numT qp V.p]⟩) (fun x=>x.m) (⟨fpow a ((o.1+1)/2^1),fpow (c V.p z.1) o.1,fpow a o.1,o.2.1,q64,q57,q68⟩) (⟨TS.init hs1 (by omega) (by rw [hs2]; exact hz3) (by rw [hs2]; exact h32),ho4,hn64⟩) (Kp ⟨rfl,rfl,rfl,rfl,rfl,rfl,trivial⟩ (by repeat (first|exact Sel.nil _|refine Sel.cons (by repeat (first|exact Ph _|apply Pt_)) ?_))) ?_
          rintro y ⟨hy1,hy2,hy3⟩
          refine KB ?_
          refine KB (KA ?_)
          refine oM ?_
          refine oM ?_
          refine oS (cF rfl en_59 rfl (fun w hw=>c_n_Cmp y.qt ⟨false,b21,1⟩ y.rt.val 1 w (mC hw) (mC hw) (hm6 _)) ?_)
          refine oP (KD rfl rfl cmp_neq) ?_
          refine KC ?_
          first|refine KP rfl (fun h80=>?_) (fun h80=>?_)|refine KV rfl (fun h80=>?_) (fun h80=>?_)
          ·
            have h80:y.rt≠1:=fun h=>h80 ((ne_iff1 hok).2 h)
            refine KN ?_
            refine LCode.block ?_
            refine KB (KA ?_)
            refine oP (KW (v:=.int .i64 ((0:Nat):Int)) rfl) ?_
            refine KC ?_
            refine KB ?_
            refine KB ?_
            refine LCode.dup (x:=numT y.qt y.rt.val) (by repeat (first|exact Mh _|apply Mt)) rfl ?_
            refine KA ?_
            refine oM ?_
            refine oA ?_
            refine KC ?_
            refine LCode.block ?_
            refine Kr (α:=Nat×NV) (fun x=>∀ j,j<x.1→fpow y.rt (2^j)≠1) (fun x=>⟨[(1,numV qp V.p),(6,numV ⟨false,b21,1⟩ 1),(9,.int .i64 ((y.m:Nat):Int)),(11,numV y.qc y.rc.val),(12,numV y.qx y.rx.val),(13,numV y.qt y.rt.val),(14,.int .i64 ((x.1:Nat):Int)),(15,numV x.2 (fpow y.rt (2^x.1)).val)],[numT x.2 (fpow y.rt (2^x.1)).val,numT y.qc y.rc.val,numT y.qx y.rx.val,numT y.qt y.rt.val,numT ⟨false,b21,1⟩ 1,numT qp V.p]⟩) (fun x=>y.m-x.1) ((0,y.qt)) (fun j hj=>absurd hj (Nat.not_lt_zero _)) (by dsimp only; rw [Nat.pow_zero,fpow_one]; exact Kp ⟨rfl,rfl,rfl,rfl,rfl,rfl,rfl,rfl,trivial⟩ (by repeat (first|exact Sel.nil _|refine Sel.cons (by repeat (first|exact Ph _|apply Pt_)) ?_))) ?_
            rintro k hk
            refine KB ?_
            refine KB ?_
            have hkm0:=TS.less hok.fld.dom hy1 hk
            refine KA ?_
            refine oM ?_
            refine oM ?_
            refine oS (cF rfl en_59 rfl (fun w hw=>c_n_Cmp k.2 ⟨false,b21,1⟩ (fpow y.rt (2^k.1)).val 1 w (mC hw) (mC hw) (hm6 _)) ?_)
            refine oP (KD rfl rfl cmp_neq) ?_
            refine KC ?_
            first|refine KP rfl (fun h84=>?_) (fun h84=>?_)|refine KV rfl (fun h84=>?_) (fun h84=>?_)
            ·
              have h84:fpow y.rt (2^k.1)≠1:=fun h=>h84 ((ne_iff1 hok).2 h)
              refine KN ?_
              refine KB ?_
              refine LCode.block ?_
              refine KA ?_
              refine oM ?_
              refine oP (KD rfl rfl (Km (b:=1) (by omega))) ?_
              refine oA ?_
              refine KC ?_
              refine KA ?_
              refine oM ?_
              refine oM ?_
              refine oM ?_
              refine oS (cZ rfl en_67 rfl (fun w hw hs=>(c_n_MulModG k.2 k.2 qp (fpow y.rt (2^k.1)) (fpow y.rt (2^k.1)) hp0 w (mC hw) (mC hw) (mC hw) (h17 _) (h17 _)).mono fun e w' h=>Ky (Old.nil _) hs h) ?_)
              rintro _ _ ⟨q81,rfl,rfl,hn81⟩
              refine oA ?_
              refine KC ?_
              have hk':∀ j,j<k.1+1→fpow y.rt (2^j)≠1:=fun j hj=>by
                rcases Nat.lt_or_eq_of_le (Nat.le_of_lt_succ hj) with h|rfl
                · exact hk j h
                · exact h84
              have hkm:=TS.less hok.fld.dom hy1 hk'
              rw [fpow_succ2] at hn81 ⊢
              exact ⟨(k.1+1,q81),hk',by dsimp only; omega,Kp ⟨rfl,rfl,rfl,rfl,rfl,rfl,rfl,rfl,trivial⟩ (by repeat (first|exact Sel.nil _|refine Sel.cons (by repeat (first|exact Ph _|apply Pt_)) ?_))⟩
            ·
              have h84:fpow y.rt (2^k.1) = 1:=(ne_iff1 hok).1 (Decidable.not_not.1 h84)
              refine Kj ?_
              refine KB ?_
              obtain ⟨hn1,hn2,-⟩:=TS.next hok.fld.dom hy1 h80 hk h84
              refine LCode.dup (x:=numT y.qc y.rc.val) (by repeat (first|exact Mh _|apply Mt)) rfl ?_
              refine KA ?_
              refine oM ?_
              refine oA ?_
              refine KC ?_
              refine KB ?_
              refine KB (KA ?_)
              refine oP (KW (v:=.int .i64 ((0:Nat):Int)) rfl) ?_
              refine KC ?_
              refine LCode.block ?_
              refine Kr (α:=Nat×NV) (fun x=>x.1≤y.m-k.1-1) (fun x=>⟨[(1,numV qp V.p),(6,numV ⟨false,b21,1⟩ 1),(9,.int .i64 ((y.m:Nat):Int)),(11,numV y.qc y.rc.val),(12,numV y.qx y.rx.val),(13,numV y.qt y.rt.val),(14,.int .i64 ((k.1:Nat):Int)),(16,numV x.2 (fpow y.rc (2^x.1)).val),(17,.int .i64 ((x.1:Nat):Int))],[numT x.2 (fpow y.rc (2^x.1)).val,numT y.qc y.rc.val,numT y.qx y.rx.val,numT y.qt y.rt.val,numT ⟨false,b21,1⟩ 1,numT qp V.p]⟩) (fun x=>y.m-k.1-1-x.1) ((0,y.qc)) (Nat.zero_le _) (by dsimp only; rw [Nat.pow_zero,fpow_one]; exact Kp ⟨rfl,rfl,rfl,rfl,rfl,rfl,rfl,rfl,rfl,trivial⟩ (by repeat (first|exact Sel.nil _|refine Sel.cons (by repeat (first|exact Ph _|apply Pt_)) ?_))) ?_
              rintro i hi
              refine KB ?_
              refine KB (KA ?_)
              refine oM ?_
              refine oM ?_
              refine oM ?_
              refine oP (KD (v:=.int .i64 (((y.m-k.1):Nat):Int)) rfl rfl ((br_subI (by omega) (by omega)).trans (by congr 2; omega))) ?_
              refine oP (KD (v:=.int .i64 (((y.m-k.1-1):Nat):Int)) rfl rfl ((br_subI (by omega) (by omega)).trans (by congr 2; omega))) ?_
              refine oP (KD rfl rfl (KAl)) ?_
              refine KC ?_
              first|refine KP rfl (fun h90=>?_) (fun h90=>?_)|refine KV rfl (fun h90=>?_) (fun h90=>?_)
              ·
                refine KN ?_
                refine KB ?_
                refine LCode.block ?_
                refine KA ?_
                refine oM ?_
                refine oM ?_
                refine oM ?_
                refine oS (cZ rfl en_67 rfl (fun w hw hs=>(c_n_MulModG i.2 i.2 qp (fpow y.rc (2^i.1)) (fpow y.rc (2^i.1)) hp0 w (mC hw) (mC hw) (mC hw) (h17 _) (h17 _)).mono fun e w' h=>Ky (Old.nil _) hs h) ?_)
                rintro _ _ ⟨q96,rfl,rfl,hn96⟩
                refine oA ?_
                refine KC ?_
                refine KA ?_
                refine oM ?_
                refine oP (KD rfl rfl (Km (b:=1) (by omega))) ?_
                refine oA ?_
                refine KC ?_
                rw [fpow_succ2] at hn96 ⊢
                exact ⟨(i.1+1,q96),by dsimp only; omega,by dsimp only; omega,Kp ⟨rfl,rfl,rfl,rfl,rfl,rfl,rfl,rfl,rfl,trivial⟩ (by repeat (first|exact Sel.nil _|refine Sel.cons (by repeat (first|exact Ph _|apply Pt_)) ?_))⟩
              ·
                refine Kj ?_
                refine KB ?_
                obtain ⟨ik,iq⟩:=i
                obtain rfl:ik = y.m-k.1-1:=by dsimp only at hi h90; omega
                dsimp only
                refine KA ?_
                refine oM ?_
                refine oA ?_
                refine KC ?_
                refine KB (KA ?_)
                refine oM ?_
                refine oM ?_
                refine oM ?_
                refine oS (cZ rfl en_67 rfl (fun w hw hs=>(c_n_MulModG iq iq qp (fpow y.rc (2^(y.m-k.1-1))) (fpow y.rc (2^(y.m-k.1-1))) hp0 w (mC hw) (mC hw) (mC hw) (h17 _) (h17 _)).mono fun e w' h=>Ky (Old.nil _) hs h) ?_)
                rintro _ _ ⟨q101,rfl,rfl,hn101⟩
                refine oA ?_
                refine KC ?_
                refine KB (KA ?_)
                refine oM ?_
                refine oM ?_
                refine oM ?_
                refine oS (cZ rfl en_67 rfl (fun w hw hs=>(c_n_MulModG y.qt q101 qp y.rt ((fpow y.rc (2^(y.m-k.1-1)))*(fpow y.rc (2^(y.m-k.1-1)))) hp0 w (mC hw) (mC hw) (mC hw) (h17 _) (h17 _)).mono fun e w' h=>Ky (Old.nil _) hs h) ?_)
                rintro _ _ ⟨q105,rfl,rfl,hn105⟩
                refine oA ?_
                refine KC ?_
                refine KA ?_
                refine oM ?_
                refine oM ?_
                refine oM ?_
                refine oS (cZ rfl en_67 rfl (fun w hw hs=>(c_n_MulModG y.qx iq qp y.rx (fpow y.rc (2^(y.m-k.1-1))) hp0 w (mC hw) (mC hw) (mC hw) (h17 _) (h17 _)).mono fun e w' h=>Ky (Old.nil _) hs h) ?_)
                rintro _ _ ⟨q109,rfl,rfl,hn109⟩
                refine oA ?_
                refine KC ?_
                obtain ⟨hn1,hn2,hn3⟩:=TS.next hok.fld.dom hy1 h80 hk h84
                exact ⟨⟨y.rx*(fpow y.rc (2^(y.m-k.1-1))),(fpow y.rc (2^(y.m-k.1-1)))*(fpow y.rc (2^(y.m-k.1-1))),y.rt*((fpow y.rc (2^(y.m-k.1-1)))*(fpow y.rc (2^(y.m-k.1-1)))),k.1,q109,q101,q105⟩,⟨hn3,by dsimp only; omega,hn109⟩,by dsimp only; omega,Kp ⟨rfl,rfl,rfl,rfl,rfl,rfl,trivial⟩ (by repeat (first|exact Sel.nil _|refine Sel.cons (by repeat (first|exact Ph _|apply Pt_)) ?_))⟩
          ·
            have h80:y.rt = 1:=(ne_iff1 hok).1 (Decidable.not_not.1 h80)
            refine Kj ?_
            refine KB ?_
            refine KB (KA ?_)
            refine oM ?_
            refine oS (cF rfl en_86 rfl (fun w hw=>c_n_Bit y.qx y.rx.val (D.nw y.rx.val) 0 w (mC hw) (by omega)) ?_)
            refine oP (KD rfl rfl (KAC (b:=1))) ?_
            refine KC ?_
            first|refine KP rfl (fun h112=>?_) (fun h112=>?_)|refine KV rfl (fun h112=>?_) (fun h112=>?_)
            ·
              have h112:y.rx.val/2^0%2 = 1:=h112
              rw [Nat.pow_zero,Nat.div_one] at h112
              refine KA ?_
              refine oM ?_
              refine oM ?_
              refine oS (cZ rfl en_65 rfl (fun w hw hs=>(c_n_Sub qp y.qx V.p y.rx.val w (mC hw) (mC hw) (Nat.le_of_lt y.rx.isLt) (by omega)).mono fun e w' h=>Ky (Old.nil _) hs h) ?_)
              rintro _ _ ⟨q115,rfl,rfl,hn115⟩
              refine oA ?_
              refine KC ?_
              refine KB (KA ?_)
              refine oM ?_
              refine oA ?_
              refine oA ?_
              refine KC (KL ?_)
              have hd:=hy1.done h80
              have he:=sqN_eq hok.fld (p_odd hok) y.rx
              rw [hd,evenR,if_pos h112,fin_neg_val y.rx (by omega)] at he
              obtain ⟨e1,e2⟩:=sq_some he
              refine ⟨[_,_],.cons rfl (.cons rfl .nil),fun a' w' hr=>?_⟩
              rw [e1,e2]
              exact hr.numQ (mk:=fun v=>.tuple #[v,.bool true]) (by repeat (first|exact Mh _|apply Mt)) hn115
            ·
              have h112:¬ y.rx.val/2^0%2 = 1:=h112
              rw [Nat.pow_zero,Nat.div_one] at h112
              refine KN ?_
              refine KB (KA ?_)
              refine oM ?_
              refine oA ?_
              refine oA ?_
              refine KC (KL ?_)
              have hd:=hy1.done h80
              have he:=sqN_eq hok.fld (p_odd hok) y.rx
              rw [hd,evenR,if_neg h112] at he
              obtain ⟨e1,e2⟩:=sq_some he
              refine ⟨[_,_],.cons rfl (.cons rfl .nil),fun a' w' hr=>?_⟩
              rw [e1,e2]
              exact hr.numQ (mk:=fun v=>.tuple #[v,.bool true]) (by repeat (first|exact Mh _|apply Mt)) hy3
end Go.Proofs.Ytlmiolnccgjjjaa
set_option linter.unusedVariables false
set_option linter.unusedSimpArgs false
set_option maxRecDepth 20000
namespace Go.Proofs.Ytlmiolnccgjjjaa
open Go Go.RowKit
def pfx (x:Nat):ByteArray:=strOf ((List.range 1).map fun i=>UInt8.ofNat ((fun _=>x) i))
def coB (V:Cv) (X:Nat):ByteArray:=strOf (beBytes (nby V.p) X)
def putS (V:Cv) (X Y:Nat) (sh:Bool):ByteArray:=if sh then pfx (2+Y%2)++coB V X else pfx 4++coB V X++coB V Y
def putV (V:Cv) (X Y:Nat) (i sh:Bool):Value:=if (onB V.p V.a V.b X Y i && !i) = true then .tuple #[.string (putS V X Y sh),.int .i64 ((0:Nat):Int)] else .tuple #[.string ⟨#[]⟩,.int .i64 ((2101:Nat):Int)]
theorem putV_off {V:Cv} {X Y:Nat} {i:Bool} (sh:Bool) (h:onB V.p V.a V.b X Y i = false):putV V X Y i sh = .tuple #[.string ⟨#[]⟩,.int .i64 ((2101:Nat):Int)]:=by unfold putV; rw [h]; rfl
theorem putV_inf (V:Cv) (X Y:Nat) (sh:Bool):putV V X Y true sh = .tuple #[.string ⟨#[]⟩,.int .i64 ((2101:Nat):Int)]:=by unfold putV; rw [Bool.not_true,Bool.and_false]; rfl
theorem putV_on {V:Cv} {X Y:Nat} (sh:Bool) (h:onB V.p V.a V.b X Y false = true):putV V X Y false sh = .tuple #[.string (putS V X Y sh),.int .i64 ((0:Nat):Int)]:=by unfold putV; rw [h]; rfl
theorem pfx_mod (y:Nat):pfx ((2+y/2^0%2)%256) = pfx (2+y%2):=by
  rw [Nat.pow_zero,Nat.div_one,Nat.mod_eq_of_lt (by omega)]
theorem on_lt {V:Cv} {X Y:Nat} (h:onB V.p V.a V.b X Y false = true):X<V.p∧Y<V.p:=by
  unfold onB at h
  rw [if_neg (by decide)] at h
  simp only [Bool.and_eq_true,decide_eq_true_eq] at h
  exact ⟨h.1,h.2.1⟩
theorem c_r_OnV (v:Bool) (Q:CQ) (V:Cv) (q r:NV) (X Y:Nat) (i:Bool) (w:World) (hc:(crvI Q V).holds w) (hok:V.Ok) (hq:(numT q X).holds w) (hr:(numT r Y).holds w) (hX:D.nw X≤1000) (hY:D.nw Y≤1000) (h:onB V.p V.a V.b X Y i = v):Calls Try.prog 54 ([.agg (crvL Q V).toArray,rpV (numV q X) (numV r Y) i]:List Value).toArray w (fun e w'=>e = .returned (.bool v)∧Below w.heap.size w w'):=h ▸ c_r_On Q V q r X Y i w hc hok hq hr hX hY
theorem c_cOnV (v:Bool) (V:Cv) (b f bd:Nat) (hok:V.Ok) (X Y:Nat) (i:Bool) (w:World) (hb:(Item.blk b ⟨false,opL V f,129,(0,0)⟩).holds w) (hf:(Item.blk f ⟨false,fldL V.p bd,162,(0,0)⟩).holds w) (hbd:(Item.blk bd ⟨false,dvL V.p,212,(0,0)⟩).holds w) (hX:X<W9) (hY:Y<W9) (h:onB V.p V.a V.b X Y i = v):Calls Try.prog 81 ([.pointer (some ⟨b,0,none⟩),ptV X Y i]:List Value).toArray w (fun e w'=>e = .returned (.bool v)∧Below w.heap.size w w'):=h ▸ c_cOn V b f bd hok X Y i w hb hf hbd hX hY
theorem c_r_Put (Q:CQ) (V:Cv) (q r:NV) (X Y:Nat) (i sh:Bool) (w:World) (hc:(crvI Q V).holds w) (hok:V.Ok) (hq:(numT q X).holds w) (hr:(numT r Y).holds w) (hX:D.nw X≤1000) (hY:D.nw Y≤1000):Calls Try.prog 43 ([.agg (crvL Q V).toArray,rpV (numV q X) (numV r Y) i,.bool sh]:List Value).toArray w (fun e w'=>e = .returned (putV V X Y i sh)∧Below w.heap.size w w'):=by
  have hbb:=hok.bounds
  have hsz:=hok.sz
  have hnb:nby V.p≤72:=by have:=KAW (KAO hbb.2.1); (unfold nby; omega)
  refine Ke (N:=50) (rs:=[.tmp 6,.tmp 7]) [crvI Q V,numT q X,numT r Y] Try.func43 rfl Try.ntmps43 Try.results43 (Nb rfl) ⟨hc,hq,hr,trivial⟩ rfl ?_
  show LCode _ _ _ ⟨_,_⟩ _
  refine KB (KA ?_)
  refine oS (mB (fun b3=>?_))
  refine oS (mB (fun b4=>?_))
  refine oA ?_
  refine oP (KW (v:=.int .i64 ((0:Nat):Int)) rfl) ?_
  refine KC ?_
  refine KB ?_
  refine KB ?_
  rcases (show onB V.p V.a V.b X Y i = false∨(onB V.p V.a V.b X Y i = true∧i = true)∨(onB V.p V.a V.b X Y i = true∧i = false) by cases onB V.p V.a V.b X Y i <;> cases i <;> simp) with h1|⟨h1,rfl⟩|⟨h1,rfl⟩
  ·
    refine KA ?_
    refine oD (dL rfl (hv:=by exact KG Try.underlying26 rfl sz_26)) ?_
    refine oD (dL rfl (hv:=by exact KG Try.underlying38 rfl sz_38)) ?_
    refine oS (cF rfl en_54 rfl (fun w hw=>c_r_OnV false Q V q r X Y i w (mC hw) hok (mC hw) (mC hw) hX hY h1) ?_)
    refine oP (KH (KAG rfl) (show _ = Value.bool true from rfl)) ?_
    refine oM ?_
    refine oK ?_
    refine oK ?_
    refine oP (Kc rfl rfl) ?_
    refine KC ?_
    refine Ka rfl ?_
    refine KB (KA ?_)
    refine oA ?_
    refine oP (KW (v:=.int .i64 ((2101:Nat):Int)) rfl) ?_
    refine KC (KL ?_)
    refine ⟨[_,_],.cons rfl (.cons rfl .nil),fun a w' hr=>⟨?_,hr.fr.below⟩⟩
    rw [putV_off sh h1]
    rfl
  ·
    refine KA ?_
    refine oD (dL rfl (hv:=by exact KG Try.underlying26 rfl sz_26)) ?_
    refine oD (dL rfl (hv:=by exact KG Try.underlying38 rfl sz_38)) ?_
    refine oS (cF rfl en_54 rfl (fun w hw=>c_r_OnV true Q V q r X Y true w (mC hw) hok (mC hw) (mC hw) hX hY h1) ?_)
    refine oP (KH (KAG rfl) (show _ = Value.bool false from rfl)) ?_
    refine oM ?_
    refine oGP (KE (o':=2) Try.underlying38 rfl rfl rfl sz_4 (by decide)) ?_
    refine KAM rfl rfl (dL rfl (hv:=KJ Try.underlying4 rfl (by first|rfl|exact Kb _ _ _ (by omega)|exact KY _ (by omega)|exact KX _ (by omega)|exact dv_m _ _ _ (by omega)))) (Nb rfl) ?_
    refine oP (KZ rfl rfl) ?_
    refine KC ?_
    refine Ka rfl ?_
    refine KB (KA ?_)
    refine oA ?_
    refine oP (KW (v:=.int .i64 ((2101:Nat):Int)) rfl) ?_
    refine KC (KL ?_)
    refine ⟨[_,_],.cons rfl (.cons rfl .nil),fun a w' hr=>⟨?_,hr.fr.below⟩⟩
    rw [putV_inf]
    rfl
  ·
    refine KA ?_
    refine oD (dL rfl (hv:=by exact KG Try.underlying26 rfl sz_26)) ?_
    refine oD (dL rfl (hv:=by exact KG Try.underlying38 rfl sz_38)) ?_
    refine oS (cF rfl en_54 rfl (fun w hw=>c_r_OnV true Q V q r X Y false w (mC hw) hok (mC hw) (mC hw) hX hY h1) ?_)
    refine oP (KH (KAG rfl) (show _ = Value.bool false from rfl)) ?_
    refine oM ?_
    refine oGP (KE (o':=2) Try.underlying38 rfl rfl rfl sz_4 (by decide)) ?_
    refine KAM rfl rfl (dL rfl (hv:=KJ Try.underlying4 rfl (by first|rfl|exact Kb _ _ _ (by omega)|exact KY _ (by omega)|exact KX _ (by omega)|exact dv_m _ _ _ (by omega)))) (Nb rfl) ?_
    refine oP (KZ rfl rfl) ?_
    refine KC ?_
    refine KM rfl ?_
    refine KN ?_
    refine KB ?_
    obtain ⟨hXp,hYp⟩:=on_lt h1
    refine rD [] ?_
    refine aP 0 rfl (KE (o':=0) Try.underlying38 rfl rfl rfl sz_24 (by decide)) ?_
    refine aD 1 rfl (dL rfl (hv:=KJ Try.underlying24 rfl (by first|rfl|exact Kb _ _ _ (by omega)|exact KY _ (by omega)|exact KX _ (by omega)|exact dv_m _ _ _ (by omega)))) ?_
    refine aD 2 rfl (dL rfl (hv:=by exact KG Try.underlying26 rfl sz_26)) ?_
    refine aO 3 rfl (cF rfl en_48 rfl (fun w hw=>KAn Q V w (mC hw) hsz) ?_)
    refine aO 4 rfl (cF rfl en_51 rfl (fun w hw=>c_n_BytesOK q X (nby V.p) w (mC hw) (by omega) hnb (nby_le hXp)) ?_)
    refine aM 5 ?_
    refine aP 6 rfl (Det.extract rfl rfl) ?_
    refine aP 7 rfl (Det.extract rfl rfl) ?_
    refine aA 8 ?_
    refine aA 9 ?_
    refine aE ?_
    refine KB ?_
    refine rD [] ?_
    refine aP 0 rfl (KE (o':=1) Try.underlying38 rfl rfl rfl sz_24 (by decide)) ?_
    refine aD 1 rfl (dL rfl (hv:=KJ Try.underlying24 rfl (by first|rfl|exact Kb _ _ _ (by omega)|exact KY _ (by omega)|exact KX _ (by omega)|exact dv_m _ _ _ (by omega)))) ?_
    refine aD 2 rfl (dL rfl (hv:=by exact KG Try.underlying26 rfl sz_26)) ?_
    refine aO 3 rfl (cF rfl en_48 rfl (fun w hw=>KAn Q V w (mC hw) hsz) ?_)
    refine aO 4 rfl (cF rfl en_51 rfl (fun w hw=>c_n_BytesOK r Y (nby V.p) w (mC hw) (by omega) hnb (nby_le hYp)) ?_)
    refine aM 5 ?_
    refine aP 6 rfl (Det.extract rfl rfl) ?_
    refine aP 7 rfl (Det.extract rfl rfl) ?_
    refine aA 8 ?_
    refine aA 9 ?_
    refine aE ?_
    refine KB ?_
    refine KB (KA ?_)
    refine oM ?_
    refine KC ?_
    first|refine KP rfl (fun hsh=>?_) (fun hsh=>?_)|refine KV rfl (fun hsh=>?_) (fun hsh=>?_)
    ·
      subst hsh
      refine KB (KA ?_)
      refine oP (KE (o':=1) Try.underlying38 rfl rfl rfl sz_24 (by decide)) ?_
      refine oD (dL rfl (hv:=KJ Try.underlying24 rfl (by first|rfl|exact Kb _ _ _ (by omega)|exact KY _ (by omega)|exact KX _ (by omega)|exact dv_m _ _ _ (by omega)))) ?_
      refine oS (cF rfl en_86 rfl (fun w hw=>c_n_Bit r Y (D.nw Y) 0 w (mC hw) (by omega)) ?_)
      refine oP (KD rfl rfl (Km (a:=2) (by omega))) ?_
      refine oP (Det.conv8 Try.underlying3 Try.underlying5 rfl) ?_
      refine oS (mk (KAJ Try.underlying66 inf_5 rfl rfl rfl rfl (by decide) rfl) (fun b42=>?_))
      refine oD (Det.bytesStr (f:=fun _=>(2+Y/2^0%2)%256) Try.underlying66 Try.underlying5 Try.underlying9 rfl (by repeat (first|exact Mh _|apply Mt)) (by rfl)) ?_
      refine oM ?_
      refine oP (Det.cat rfl rfl (by have h2:=str_size (nby V.p) X; have h3:=str_size (nby V.p) Y; have h4:∀ x,(strOf ((List.range 1).map fun i=>UInt8.ofNat ((fun _=>x) i))).size = 1:=fun _=>rfl; have h5:(⟨#[4]⟩:ByteArray).size = 1:=rfl; try simp only [ByteArray.size_append,h4,h2,h3,h5]; omega)) ?_
      refine oA ?_
      refine oP (KW (v:=.int .i64 ((0:Nat):Int)) rfl) ?_
      refine KC (KL ?_)
      refine ⟨[_,_],.cons rfl (.cons rfl .nil),fun a w' hr=>⟨?_,hr.fr.below⟩⟩
      rw [putV_on _ h1,putS,if_pos rfl,← pfx_mod]
      rfl
    ·
      subst hsh
      refine KN ?_
      refine KB (KA ?_)
      refine oM ?_
      refine oP (Det.cat rfl rfl (by have h2:=str_size (nby V.p) X; have h3:=str_size (nby V.p) Y; have h4:∀ x,(strOf ((List.range 1).map fun i=>UInt8.ofNat ((fun _=>x) i))).size = 1:=fun _=>rfl; have h5:(⟨#[4]⟩:ByteArray).size = 1:=rfl; try simp only [ByteArray.size_append,h4,h2,h3,h5]; omega)) ?_
      refine oM ?_
      refine oP (Det.cat rfl rfl (by have h2:=str_size (nby V.p) X; have h3:=str_size (nby V.p) Y; have h4:∀ x,(strOf ((List.range 1).map fun i=>UInt8.ofNat ((fun _=>x) i))).size = 1:=fun _=>rfl; have h5:(⟨#[4]⟩:ByteArray).size = 1:=rfl; try simp only [ByteArray.size_append,h4,h2,h3,h5]; omega)) ?_
      refine oA ?_
      refine oP (KW (v:=.int .i64 ((0:Nat):Int)) rfl) ?_
      refine KC (KL ?_)
      refine ⟨[_,_],.cons rfl (.cons rfl .nil),fun a w' hr=>⟨?_,hr.fr.below⟩⟩
      rw [putV_on _ h1,putS,if_neg (by decide)]
      rfl
theorem c_s_Put_none (id:Int) (X Y:Nat) (i sh:Bool) (w:World) (h:cvI id = none):Calls Try.prog 40 ([.int .i64 id,ptV X Y i,.bool sh]:List Value).toArray w (fun e w'=>e = .returned (.tuple #[.string ⟨#[]⟩,.int .i64 ((2100:Nat):Int)])∧Below w.heap.size w w'):=by
  refine Ke (N:=65) (rs:=[.tmp 6,.tmp 7]) [] Try.func40 rfl Try.ntmps40 Try.results40 (Nb rfl) trivial rfl ?_
  show LCode _ _ _ ⟨_,_⟩ _
  refine KB (KA ?_)
  refine oS (mB (fun b4=>?_))
  refine oA ?_
  refine oP (KW (v:=.int .i64 ((0:Nat):Int)) rfl) ?_
  refine KC ?_
  refine KB (KA ?_)
  refine oM ?_
  refine oS (cF rfl en_80 rfl (fun w hw=>c_Open_none id w h) ?_)
  refine oA ?_
  refine KC ?_
  refine KB ?_
  refine LCode.block ?_
  refine KB (KA ?_)
  refine oM ?_
  refine oP (KH (Det.eqp Try.underlying110 rfl rfl) (show _ = Value.bool true from rfl)) ?_
  refine oA ?_
  refine KC ?_
  refine Ka rfl ?_
  refine KB (KA ?_)
  refine oA ?_
  refine oP (KW (v:=.int .i64 ((2100:Nat):Int)) rfl) ?_
  refine KC (KL ?_)
  refine ⟨[_,_],.cons rfl (.cons rfl .nil),fun a w' hr=>⟨?_,hr.fr.below⟩⟩
  rfl
theorem c_s_Put (id:Int) (V:Cv) (X Y:Nat) (i sh:Bool) (w:World) (h:cvI id = some V) (hX:X<W9) (hY:Y<W9):Calls Try.prog 40 ([.int .i64 id,ptV X Y i,.bool sh]:List Value).toArray w (fun e w'=>e = .returned (putV V X Y i sh)∧Below w.heap.size w w'):=by
  obtain ⟨hok,hid⟩:=cvI_ok h
  have hbb:=hok.bounds
  have hpW:V.p<W9:=KAO hbb.2.1
  have hnW:V.n<W9:=KAO hbb.2.2.2.2.2.2.1
  have hbl:=KAW hnW
  have hnb:nby V.n≤72:=by (unfold nby; omega)
  have hnp:nby V.p≤72:=by have:=KAW (KAO hbb.2.1); (unfold nby; omega)
  refine Ke (N:=65) (rs:=[.tmp 6,.tmp 7]) [] Try.func40 rfl Try.ntmps40 Try.results40 (Nb rfl) trivial rfl ?_
  show LCode _ _ _ ⟨_,_⟩ _
  refine KB (KA ?_)
  refine oS (mB (fun b4=>?_))
  refine oA ?_
  refine oP (KW (v:=.int .i64 ((0:Nat):Int)) rfl) ?_
  refine KC ?_
  refine KB (KA ?_)
  refine oM ?_
  refine oS (KAZ (Post:=fun v its=>∃ b f bd,v = .pointer (some ⟨b,0,none⟩)∧its = [.blk b ⟨false,opL V f,129,(0,0)⟩,.blk f ⟨false,fldL V.p bd,162,(0,0)⟩,.blk bd ⟨false,dvL V.p,212,(0,0)⟩]) (first:=[]) rfl en_80 rfl (Nb rfl) (fun w1 hw hs=>(c_Open _ V w1 h).mono fun e w' ⟨b,f,bd,h1,h2,h3,h4,h5,h6,h7,h8⟩=>⟨_,_,⟨b,f,bd,rfl,rfl⟩,h1,KAf h8 (by intro x hx; simp at hx; rcases hx with rfl|rfl|rfl; exact h2; exact h3; exact h4) (by intro x hx; simp at hx; rcases hx with rfl|rfl|rfl <;> rfl) (by intro x hx k hk; simp at hx; rcases hx with rfl|rfl|rfl <;> simp [Item.fp] at hk <;> subst hk; exact .inl h5; exact .inl h6; exact .inl h7)⟩) ?_)
  rintro _ _ ⟨b,f,bd,rfl,rfl⟩
  refine oA ?_
  refine KC ?_
  refine KB ?_
  refine LCode.block ?_
  refine KB (KA ?_)
  refine oM ?_
  refine oP (KH (Det.eqp Try.underlying110 rfl rfl) (show _ = Value.bool false from rfl)) ?_
  refine oA ?_
  refine KC ?_
  refine KM rfl ?_
  refine KB ?_
  rcases (show i = true∨(i = false∧onB V.p V.a V.b X Y false = false)∨(i = false∧onB V.p V.a V.b X Y false = true) by cases i <;> cases onB V.p V.a V.b X Y false <;> simp) with rfl|⟨rfl,h1⟩|⟨rfl,h1⟩
  ·
    refine KA ?_
    refine oP (KE (o':=18) Try.underlying35 rfl rfl rfl sz_4 (by decide)) ?_
    refine oD (dL rfl (hv:=KJ Try.underlying4 rfl (by exact pt_gt _ _ _))) ?_
    refine oM ?_
    refine oK ?_
    refine oK ?_
    refine oK ?_
    refine oK ?_
    refine oP (Kc rfl rfl) ?_
    refine oA ?_
    refine KC ?_
    refine Ka rfl ?_
    refine KB (KA ?_)
    refine oA ?_
    refine oP (KW (v:=.int .i64 ((2101:Nat):Int)) rfl) ?_
    refine KC (KL ?_)
    refine ⟨[_,_],.cons rfl (.cons rfl .nil),fun a w' hr=>⟨?_,hr.fr.below⟩⟩
    rw [putV_inf]
    rfl
  ·
    refine KA ?_
    refine oP (KE (o':=18) Try.underlying35 rfl rfl rfl sz_4 (by decide)) ?_
    refine oD (dL rfl (hv:=KJ Try.underlying4 rfl (by exact pt_gt _ _ _))) ?_
    refine oM ?_
    refine oGM ?_
    refine KAM rfl rfl (dL rfl (hv:=by exact KG Try.underlying35 rfl sz_35)) (Nb rfl) ?_
    refine oGS (cF rfl en_81 rfl (fun w hw=>c_cOnV false V b f bd hok X Y false w (mC hw) (mC hw) (mC hw) hX hY h1) ?_)
    refine oGP (KH (KAG rfl) (show _ = Value.bool true from rfl)) ?_
    refine oP (KZ rfl rfl) ?_
    refine oA ?_
    refine KC ?_
    refine Ka rfl ?_
    refine KB (KA ?_)
    refine oA ?_
    refine oP (KW (v:=.int .i64 ((2101:Nat):Int)) rfl) ?_
    refine KC (KL ?_)
    refine ⟨[_,_],.cons rfl (.cons rfl .nil),fun a w' hr=>⟨?_,hr.fr.below⟩⟩
    rw [putV_off sh h1]
    rfl
  ·
    refine KA ?_
    refine oP (KE (o':=18) Try.underlying35 rfl rfl rfl sz_4 (by decide)) ?_
    refine oD (dL rfl (hv:=KJ Try.underlying4 rfl (by exact pt_gt _ _ _))) ?_
    refine oM ?_
    refine oGM ?_
    refine KAM rfl rfl (dL rfl (hv:=by exact KG Try.underlying35 rfl sz_35)) (Nb rfl) ?_
    refine oGS (cF rfl en_81 rfl (fun w hw=>c_cOnV true V b f bd hok X Y false w (mC hw) (mC hw) (mC hw) hX hY h1) ?_)
    refine oGP (KH (KAG rfl) (show _ = Value.bool false from rfl)) ?_
    refine oP (KZ rfl rfl) ?_
    refine oA ?_
    refine KC ?_
    refine KM rfl ?_
    refine KN ?_
    refine KB ?_
    obtain ⟨hXp,hYp⟩:=on_lt h1
    refine rD [] ?_
    refine aP 0 rfl (KE (o':=0) Try.underlying35 rfl rfl rfl sz_33 (by decide)) ?_
    refine aD 1 rfl (dL rfl (hv:=by exact KAd Try.underlying33 rfl sz_33 rfl (KF _))) ?_
    refine aM 2 ?_
    refine aP 3 rfl (KR rfl) ?_
    refine aP 4 rfl (KE (o':=0) Try.underlying129 rfl rfl rfl KAj (by decide)) ?_
    refine aP 5 rfl (KE (o':=57) Try.underlying126 rfl rfl rfl sz_3 (by decide)) ?_
    refine aD 6 rfl (dL rfl (hv:=KJ Try.underlying3 rfl (by exact cvC_gt_size _ _ _ _ _ _ _ _ _ _ _ _ _))) ?_
    refine aO 7 rfl (cF rfl en_88 rfl (fun w hw=>c_nat_BytesOK X (nby V.p) w (by omega) hnp (nby_le hXp)) ?_)
    refine aM 8 ?_
    refine aP 9 rfl (Det.extract rfl rfl) ?_
    refine aP 10 rfl (Det.extract rfl rfl) ?_
    refine aA 11 ?_
    refine aA 12 ?_
    refine aE ?_
    refine KB ?_
    refine KB (KA ?_)
    refine oM ?_
    refine KC ?_
    first|refine KP rfl (fun hsh=>?_) (fun hsh=>?_)|refine KV rfl (fun hsh=>?_) (fun hsh=>?_)
    ·
      subst hsh
      refine KB (KA ?_)
      refine oP (KE (o':=9) Try.underlying35 rfl rfl rfl sz_33 (by decide)) ?_
      refine oD (dL rfl (hv:=by exact pt_ld1 _ _ _ _ _ _)) ?_
      refine oS (cF rfl en_89 rfl (fun w hw=>c_nat_Bit Y 0 hY (by decide) w) ?_)
      refine oP (KD rfl rfl (Km (a:=2) (by omega))) ?_
      refine oP (Det.conv8 Try.underlying3 Try.underlying5 rfl) ?_
      refine oS (mk (KAJ Try.underlying66 inf_5 rfl rfl rfl rfl (by decide) rfl) (fun b44=>?_))
      refine oD (Det.bytesStr (f:=fun _=>(2+Y/2^0%2)%256) Try.underlying66 Try.underlying5 Try.underlying9 rfl (by repeat (first|exact Mh _|apply Mt)) (by rfl)) ?_
      refine oM ?_
      refine oP (Det.cat rfl rfl (by have h2:=str_size (nby V.p) X; have h3:=str_size (nby V.p) Y; have h4:∀ x,(strOf ((List.range 1).map fun i=>UInt8.ofNat ((fun _=>x) i))).size = 1:=fun _=>rfl; have h5:(⟨#[4]⟩:ByteArray).size = 1:=rfl; try simp only [ByteArray.size_append,h4,h2,h3,h5]; omega)) ?_
      refine oA ?_
      refine oP (KW (v:=.int .i64 ((0:Nat):Int)) rfl) ?_
      refine KC (KL ?_)
      refine ⟨[_,_],.cons rfl (.cons rfl .nil),fun a w' hr=>⟨?_,hr.fr.below⟩⟩
      rw [putV_on _ h1,putS,if_pos rfl,← pfx_mod]
      rfl
    ·
      subst hsh
      refine KN ?_
      refine KB ?_
      refine rD [] ?_
      refine aP 0 rfl (KE (o':=9) Try.underlying35 rfl rfl rfl sz_33 (by decide)) ?_
      refine aD 1 rfl (dL rfl (hv:=by exact pt_ld1 _ _ _ _ _ _)) ?_
      refine aM 2 ?_
      refine aP 3 rfl (KR rfl) ?_
      refine aP 4 rfl (KE (o':=0) Try.underlying129 rfl rfl rfl KAj (by decide)) ?_
      refine aP 5 rfl (KE (o':=57) Try.underlying126 rfl rfl rfl sz_3 (by decide)) ?_
      refine aD 6 rfl (dL rfl (hv:=KJ Try.underlying3 rfl (by exact cvC_gt_size _ _ _ _ _ _ _ _ _ _ _ _ _))) ?_
      refine aO 7 rfl (cF rfl en_88 rfl (fun w hw=>c_nat_BytesOK Y (nby V.p) w (by omega) hnp (nby_le hYp)) ?_)
      refine aM 8 ?_
      refine aP 9 rfl (Det.extract rfl rfl) ?_
      refine aP 10 rfl (Det.extract rfl rfl) ?_
      refine aA 11 ?_
      refine aA 12 ?_
      refine aE ?_
      refine KB (KA ?_)
      refine oS (mk (KAJ Try.underlying66 inf_5 rfl rfl rfl rfl (by decide) rfl) (fun b59=>?_))
      refine oD (Det.bytesStr (f:=fun _=>4) Try.underlying66 Try.underlying5 Try.underlying9 rfl (by repeat (first|exact Mh _|apply Mt)) (by rfl)) ?_
      refine oM ?_
      refine oP (Det.cat rfl rfl (by have h2:=str_size (nby V.p) X; have h3:=str_size (nby V.p) Y; have h4:∀ x,(strOf ((List.range 1).map fun i=>UInt8.ofNat ((fun _=>x) i))).size = 1:=fun _=>rfl; have h5:(⟨#[4]⟩:ByteArray).size = 1:=rfl; try simp only [ByteArray.size_append,h4,h2,h3,h5]; omega)) ?_
      refine oM ?_
      refine oP (Det.cat rfl rfl (by have h2:=str_size (nby V.p) X; have h3:=str_size (nby V.p) Y; have h4:∀ x,(strOf ((List.range 1).map fun i=>UInt8.ofNat ((fun _=>x) i))).size = 1:=fun _=>rfl; have h5:(⟨#[4]⟩:ByteArray).size = 1:=rfl; try simp only [ByteArray.size_append,h4,h2,h3,h5]; omega)) ?_
      refine oA ?_
      refine oP (KW (v:=.int .i64 ((0:Nat):Int)) rfl) ?_
      refine KC (KL ?_)
      refine ⟨[_,_],.cons rfl (.cons rfl .nil),fun a w' hr=>⟨?_,hr.fr.below⟩⟩
      rw [putV_on _ h1,putS,if_neg (by decide)]
      rfl
def liftT (V:Cv) (X odd:Nat):Nat×Nat×Bool:=if X<V.p then (match sqN V.p (rightN V.p V.a V.b X) with
  | none=>(0,0,false)
  | some r=>if odd = 0 then (X,r,true) else if r = 0 then (X,0,false) else (X,V.p-r,true)) else (0,0,false)
theorem lift_far {V:Cv} {X odd:Nat} (h:¬ X<V.p):liftT V X odd = (0,0,false):=if_neg h
theorem lift_no {V:Cv} {X odd:Nat} (h:X<V.p) (h1:sqN V.p (rightN V.p V.a V.b X) = none):liftT V X odd = (0,0,false):=by unfold liftT; rw [if_pos h,h1]
theorem lift_even {V:Cv} {X r:Nat} (h:X<V.p) (h1:sqN V.p (rightN V.p V.a V.b X) = some r):liftT V X 0 = (X,r,true):=by unfold liftT; rw [if_pos h,h1]; rfl
theorem lift_zero {V:Cv} {X:Nat} (h:X<V.p) (h1:sqN V.p (rightN V.p V.a V.b X) = some 0):liftT V X 1 = (X,0,false):=by unfold liftT; rw [if_pos h,h1]; rfl
theorem lift_odd {V:Cv} {X r:Nat} (h:X<V.p) (h1:sqN V.p (rightN V.p V.a V.b X) = some r) (h0:r≠0):liftT V X 1 = (X,V.p-r,true):=by unfold liftT; rw [if_pos h,h1]; simp [h0]
theorem c_RightN (R X:Nat) (V:Cv) (b f bd:Nat) (hok:V.Ok) (w:World) (hb:(Item.blk b ⟨false,opL V f,129,(0,0)⟩).holds w) (hf:(Item.blk f ⟨false,fldL V.p bd,162,(0,0)⟩).holds w) (hbd:(Item.blk bd ⟨false,dvL V.p,212,(0,0)⟩).holds w) (hX:X<V.p) (hR:rightN V.p V.a V.b X = R):Calls Try.prog 121 ([.pointer (some ⟨b,0,none⟩),natV X]:List Value).toArray w (fun e w'=>e = .returned (natV R)∧Below w.heap.size w w'):=by
  have h1:=c_Right V b f bd hok ⟨X,hX⟩ w hb hf hbd
  rw [← right_val hok] at h1
  rw [← hR]
  exact h1
theorem right_ltV {V:Cv} (hok:V.Ok) (X:Nat):rightN V.p V.a V.b X<V.p:=Nat.mod_lt _ (by have:=hok.bounds; omega)
theorem c_F_SqrtN (V:Cv) (f bd:Nat) (hok:V.Ok) (R:Nat) (w:World) (hf:(Item.blk f ⟨false,fldL V.p bd,162,(0,0)⟩).holds w) (hbd:(Item.blk bd ⟨false,dvL V.p,212,(0,0)⟩).holds w) (hR:R<V.p) (h:sqN V.p R = none):Calls Try.prog 129 ([.pointer (some ⟨f,0,none⟩),natV R]:List Value).toArray w (fun e w'=>e = .returned (.tuple #[natV 0,.bool false])∧Below w.heap.size w w'):=by
  have h1:=c_F_Sqrt V f bd hok ⟨R,hR⟩ w hf hbd
  rw [sqV_none h] at h1
  exact h1
theorem c_F_SqrtS (r:Nat) (V:Cv) (f bd:Nat) (hok:V.Ok) (R:Nat) (w:World) (hf:(Item.blk f ⟨false,fldL V.p bd,162,(0,0)⟩).holds w) (hbd:(Item.blk bd ⟨false,dvL V.p,212,(0,0)⟩).holds w) (hR:R<V.p) (h:sqN V.p R = some r):Calls Try.prog 129 ([.pointer (some ⟨f,0,none⟩),natV R]:List Value).toArray w (fun e w'=>e = .returned (.tuple #[natV r,.bool true])∧Below w.heap.size w w'):=by
  have h1:=c_F_Sqrt V f bd hok ⟨R,hR⟩ w hf hbd
  rw [sqV_some h] at h1
  exact h1
theorem c_bit0 (v A:Nat) (w:World) (hA:A<W9) (h:A%2 = v):Calls Try.prog 89 ([natV A,.int .i64 0]:List Value).toArray w (fun e w'=>e = .returned (.int .i64 ((v:Nat):Int))∧Below w.heap.size w w'):=by
  have h1:=c_nat_Bit A 0 hA (by decide) w
  rw [Nat.pow_zero,Nat.div_one,h] at h1
  exact h1
theorem c_f_neg (V:Cv) (hok:V.Ok) (f bd r:Nat) (w:World) (hf:(Item.blk f ⟨false,fldL V.p bd,162,(0,0)⟩).holds w) (h0:r≠0) (h:r<V.p):Calls Try.prog 130 ([.pointer (some ⟨f,0,none⟩),natV 0,natV r]:List Value).toArray w (fun e w'=>e = .returned (natV (V.p-r))∧Below w.heap.size w w'):=by
  have h1:=c_f_Sub V f bd 0 r w hf hok.bounds.2.1 (by omega) h
  rwa [Nat.zero_add,Nat.mod_eq_of_lt (by omega)] at h1
theorem c_f_neg0 (V:Cv) (hok:V.Ok) (f bd:Nat) (w:World) (hf:(Item.blk f ⟨false,fldL V.p bd,162,(0,0)⟩).holds w):Calls Try.prog 130 ([.pointer (some ⟨f,0,none⟩),natV 0,natV 0]:List Value).toArray w (fun e w'=>e = .returned (natV 0)∧Below w.heap.size w w'):=by
  have hb:=hok.bounds
  have h1:=c_f_Sub V f bd 0 0 w hf hb.2.1 (by omega) (by omega)
  rwa [Nat.zero_add,Nat.sub_zero,Nat.mod_self] at h1
theorem fill_ptI2 (X Y:Nat):fillL [(0,9),(9,9),(18,1)] (vec .u64 9 (fun _=>0)++(vec .u64 9 (fun _=>0)++[Value.bool false])) [(0,natV X),(1,natV Y)] = some (ptL X Y false):=by
  refine KAk (A:=[]) (B:=vec .u64 9 (fun _=>0)) (D:=vec .u64 9 (fun _=>0)++[Value.bool false]) (cs:=natL X) rfl rfl (KF _) rfl rfl (KK _ _ _) ?_
  refine (KAk (A:=natL X) (B:=vec .u64 9 (fun _=>0)) (D:=[Value.bool false]) (cs:=natL Y) rfl rfl (KF _) (by simp) (KF _) (KK _ _ _) rfl).trans ?_
  simp [ptL]
theorem c_lift (V:Cv) (b f bd:Nat) (hok:V.Ok) (X odd:Nat) (w:World) (hb:(Item.blk b ⟨false,opL V f,129,(0,0)⟩).holds w) (hf:(Item.blk f ⟨false,fldL V.p bd,162,(0,0)⟩).holds w) (hbd:(Item.blk bd ⟨false,dvL V.p,212,(0,0)⟩).holds w) (hX:X<W9) (hodd:odd≤1):Calls Try.prog 91 ([.pointer (some ⟨b,0,none⟩),natV X,.int .i64 ((odd:Nat):Int)]:List Value).toArray w (fun e w'=>e = .returned (.tuple #[ptV (liftT V X odd).1 (liftT V X odd).2.1 false,.bool (liftT V X odd).2.2])∧Below w.heap.size w w'):=by
  have hbb:=hok.bounds
  have hpW:V.p<W9:=KAO hbb.2.1
  have hpo:=p_odd hok
  refine Ke (N:=50) (rs:=[.cell 6 35,.tmp 7]) [.blk b ⟨false,opL V f,129,(0,0)⟩,.blk f ⟨false,fldL V.p bd,162,(0,0)⟩,.blk bd ⟨false,dvL V.p,212,(0,0)⟩] Try.func91 rfl Try.ntmps91 Try.results91 (Nb rfl) ⟨hb,hf,hbd,trivial⟩ rfl ?_
  show LCode _ _ _ ⟨_,_⟩ _
  refine KB (KA ?_)
  refine oS (mB (fun b4=>?_))
  refine oS (mk (KU zr_35) (fun b6=>?_))
  refine oA ?_
  refine KC ?_
  refine KB ?_
  refine KB ?_
  rcases (show (¬ X<V.p)∨X<V.p by omega) with h1|hXp
  ·
    refine rD [] ?_
    refine aM 0 ?_
    refine aP 1 rfl (KR rfl) ?_
    refine aP 2 rfl (KE (o':=59) Try.underlying129 rfl rfl rfl sz_127 (by decide)) ?_
    refine aD 3 rfl (dL rfl (hv:=KJ Try.underlying127 rfl (by exact cvC_gt_F _ _ _ _ _ _ _ _ _ _ _ _ _))) ?_
    refine aD 4 rfl (dL rfl (hv:=by exact KG Try.underlying33 rfl sz_33)) ?_
    refine aO 5 rfl (cF rfl en_119 rfl (fun w hw=>c_HasF V f bd X w (mC hw) hX hpW h1) ?_)
    refine aP 6 rfl (KH (KAG rfl) (show _ = Value.bool true from rfl)) ?_
    refine aE ?_
    refine Ka rfl ?_
    refine KB (KA ?_)
    refine oP (KH (Ko pl_35 zr_35 rfl rfl) pt_zero) ?_
    refine KQ rfl (sA rfl rfl sz_35 (by exact Ki _ _ _) (hl:=by exact KS _ _ _) (h:=?_))
    refine oA ?_
    refine KC (KL ?_)
    refine ⟨[_,_],.cons ⟨_,_,_,rfl,(by repeat (first|exact Mh _|apply Mt)),by exact KG Try.underlying35 rfl sz_35⟩ (.cons rfl .nil),fun a' w' hr=>⟨?_,hr.fr.below⟩⟩
    rw [lift_far h1]
    rfl
  ·
    refine rD [] ?_
    refine aM 0 ?_
    refine aP 1 rfl (KR rfl) ?_
    refine aP 2 rfl (KE (o':=59) Try.underlying129 rfl rfl rfl sz_127 (by decide)) ?_
    refine aD 3 rfl (dL rfl (hv:=KJ Try.underlying127 rfl (by exact cvC_gt_F _ _ _ _ _ _ _ _ _ _ _ _ _))) ?_
    refine aD 4 rfl (dL rfl (hv:=by exact KG Try.underlying33 rfl sz_33)) ?_
    refine aO 5 rfl (cF rfl en_119 rfl (fun w hw=>c_HasT V f bd X w (mC hw) hX hpW hXp) ?_)
    refine aP 6 rfl (KH (KAG rfl) (show _ = Value.bool false from rfl)) ?_
    refine aE ?_
    refine KM rfl ?_
    refine KN ?_
    refine KB ?_
    obtain ⟨R,hR⟩:∃ R,rightN V.p V.a V.b X = R:=⟨_,rfl⟩
    have hRp:R<V.p:=hR ▸ right_ltV hok X
    rcases h1:sqN V.p R with _|r
    ·
      refine rD [12] ?_
      refine aM 0 ?_
      refine aP 1 rfl (KR rfl) ?_
      refine aP 2 rfl (KE (o':=59) Try.underlying129 rfl rfl rfl sz_127 (by decide)) ?_
      refine aD 3 rfl (dL rfl (hv:=KJ Try.underlying127 rfl (by exact cvC_gt_F _ _ _ _ _ _ _ _ _ _ _ _ _))) ?_
      refine aM 4 ?_
      refine aD 5 rfl (dL rfl (hv:=by exact KG Try.underlying33 rfl sz_33)) ?_
      refine LAny.toP ?_
      refine KAe 11 rfl (.inl zr_33) (Nb rfl) rfl rfl rfl ?_
      refine KAD 6 rfl rfl rfl (Nb rfl) (by kernel_rfl) rfl (KAS (first:=[]) rfl en_121 rfl (fun w hw=>c_RightN R X V b f bd hok w (mC hw) (mC hw) (mC hw) hXp hR)) ?_
      rintro _ _ ⟨rfl,rfl⟩
      refine KAD 7 rfl rfl rfl (Nb rfl) (by kernel_rfl) rfl (KAS (first:=[]) rfl en_129 rfl (fun w hw=>c_F_SqrtN V f bd hok R w (mC hw) (mC hw) hRp h1)) ?_
      rintro _ _ ⟨rfl,rfl⟩
      refine pM 8 ?_
      refine pP 9 rfl (Det.extract rfl rfl) ?_
      refine pP 10 rfl (Det.extract rfl rfl) ?_
      refine pE (fun b8=>?_)
      refine LAnyP.toAny ?_
      refine aL 12 rfl (sA rfl rfl sz_33 (by exact Kf _) (hl:=by exact KF _) (h:=?_))
      refine aA 13 ?_
      refine aE ?_
      refine KB ?_
      refine KB (KA ?_)
      refine oM ?_
      refine oP (KH (KAG rfl) (show _ = Value.bool true from rfl)) ?_
      refine KC ?_
      refine Ka rfl ?_
      refine KB (KA ?_)
      refine oP (KH (Ko pl_35 zr_35 rfl rfl) pt_zero) ?_
      refine KQ rfl (sA rfl rfl sz_35 (by exact Ki _ _ _) (hl:=by exact KS _ _ _) (h:=?_))
      refine oA ?_
      refine KC (KL ?_)
      refine ⟨[_,_],.cons ⟨_,_,_,rfl,(by repeat (first|exact Mh _|apply Mt)),by exact KG Try.underlying35 rfl sz_35⟩ (.cons rfl .nil),fun a' w' hr=>⟨?_,hr.fr.below⟩⟩
      rw [← hR] at h1
      rw [lift_no hXp h1]
      rfl
    ·
      refine rD [12] ?_
      refine aM 0 ?_
      refine aP 1 rfl (KR rfl) ?_
      refine aP 2 rfl (KE (o':=59) Try.underlying129 rfl rfl rfl sz_127 (by decide)) ?_
      refine aD 3 rfl (dL rfl (hv:=KJ Try.underlying127 rfl (by exact cvC_gt_F _ _ _ _ _ _ _ _ _ _ _ _ _))) ?_
      refine aM 4 ?_
      refine aD 5 rfl (dL rfl (hv:=by exact KG Try.underlying33 rfl sz_33)) ?_
      refine LAny.toP ?_
      refine KAe 11 rfl (.inl zr_33) (Nb rfl) rfl rfl rfl ?_
      refine KAD 6 rfl rfl rfl (Nb rfl) (by kernel_rfl) rfl (KAS (first:=[]) rfl en_121 rfl (fun w hw=>c_RightN R X V b f bd hok w (mC hw) (mC hw) (mC hw) hXp hR)) ?_
      rintro _ _ ⟨rfl,rfl⟩
      refine KAD 7 rfl rfl rfl (Nb rfl) (by kernel_rfl) rfl (KAS (first:=[]) rfl en_129 rfl (fun w hw=>c_F_SqrtS r V f bd hok R w (mC hw) (mC hw) hRp h1)) ?_
      rintro _ _ ⟨rfl,rfl⟩
      refine pM 8 ?_
      refine pP 9 rfl (Det.extract rfl rfl) ?_
      refine pP 10 rfl (Det.extract rfl rfl) ?_
      refine pE (fun b8=>?_)
      refine LAnyP.toAny ?_
      refine aL 12 rfl (sA rfl rfl sz_33 (by exact Kf _) (hl:=by exact KF _) (h:=?_))
      refine aA 13 ?_
      refine aE ?_
      refine KB ?_
      refine KB (KA ?_)
      refine oM ?_
      refine oP (KH (KAG rfl) (show _ = Value.bool false from rfl)) ?_
      refine KC ?_
      refine KM rfl ?_
      refine KN ?_
      refine KB ?_
      refine KB ?_
      obtain ⟨hr1,hr2,hr3⟩:=sqN_some h1
      rcases (show odd = 0∨(odd = 1∧r = 0)∨(odd = 1∧r≠0) by omega) with rfl|⟨rfl,rfl⟩|⟨rfl,hr0⟩
      ·
        refine KA ?_
        refine oD (dL rfl (hv:=by exact KG Try.underlying33 rfl sz_33)) ?_
        refine oS (cF rfl en_89 rfl (fun w hw=>c_bit0 0 r w (by omega) hr3) ?_)
        refine oM ?_
        refine oP (KD (v:=.bool false) rfl rfl (by rfl)) ?_
        refine KC ?_
        refine KM rfl ?_
        refine KN ?_
        refine KB ?_
        refine rD [7] ?_
        refine aD 0 rfl (dL rfl (hv:=by exact KG Try.underlying33 rfl sz_33)) ?_
        refine aD 1 rfl (dL rfl (hv:=by exact KG Try.underlying33 rfl sz_33)) ?_
        refine aP 2 rfl (KH (Ko pl_35 zr_35 rfl (fill_ptI2 _ _)) rfl) ?_
        refine aM 5 ?_
        refine aO 3 rfl (LStep.det (dL rfl (hv:=by exact KG Try.underlying33 rfl sz_33)) (Nb rfl) ?_)
        refine aO 4 rfl (cF rfl en_89 rfl (fun w hw=>c_bit0 0 r w (by omega) hr3) ?_)
        refine aP 6 rfl (KD (v:=.bool true) rfl rfl (by rfl)) ?_
        refine aL 7 rfl (sA rfl rfl sz_35 (by exact Ki _ _ _) (hl:=by exact KS _ _ _) (h:=?_))
        refine aA 8 ?_
        refine aE ?_
        refine KL ?_
        refine ⟨[_,_],.cons ⟨_,_,_,rfl,(by repeat (first|exact Mh _|apply Mt)),by exact KG Try.underlying35 rfl sz_35⟩ (.cons rfl .nil),fun a' w' hr=>⟨?_,hr.fr.below⟩⟩
        rw [← hR] at h1
        rw [lift_even hXp h1]
        rfl
      ·
        refine KA ?_
        refine oD (dL rfl (hv:=by exact KG Try.underlying33 rfl sz_33)) ?_
        refine oS (cF rfl en_89 rfl (fun w hw=>c_bit0 0 0 w (by omega) rfl) ?_)
        refine oM ?_
        refine oP (KD (v:=.bool true) rfl rfl (by rfl)) ?_
        refine KC ?_
        refine Ka rfl ?_
        refine rD [7] ?_
        refine aM 0 ?_
        refine aP 1 rfl (KR rfl) ?_
        refine aP 2 rfl (KE (o':=59) Try.underlying129 rfl rfl rfl sz_127 (by decide)) ?_
        refine aD 3 rfl (dL rfl (hv:=KJ Try.underlying127 rfl (by exact cvC_gt_F _ _ _ _ _ _ _ _ _ _ _ _ _))) ?_
        refine aP 4 rfl (KH (Ko pl_33 zr_33 rfl rfl) (show _ = natV 0 by unfold natV natL; rw [← vec_zeros 9])) ?_
        refine aD 5 rfl (dL rfl (hv:=by exact KG Try.underlying33 rfl sz_33)) ?_
        refine aO 6 rfl (cF rfl en_130 rfl (fun w hw=>c_f_neg0 V hok f bd w (mC hw)) ?_)
        refine aL 7 rfl (sA rfl rfl sz_33 (by exact Kf _) (hl:=by exact KF _) (h:=?_))
        refine aE ?_
        refine KB ?_
        refine rD [7] ?_
        refine aD 0 rfl (dL rfl (hv:=by exact KG Try.underlying33 rfl sz_33)) ?_
        refine aD 1 rfl (dL rfl (hv:=by exact KG Try.underlying33 rfl sz_33)) ?_
        refine aP 2 rfl (KH (Ko pl_35 zr_35 rfl (fill_ptI2 _ _)) rfl) ?_
        refine aM 5 ?_
        refine aO 3 rfl (LStep.det (dL rfl (hv:=by exact KG Try.underlying33 rfl sz_33)) (Nb rfl) ?_)
        refine aO 4 rfl (cF rfl en_89 rfl (fun w hw=>c_bit0 0 0 w (by omega) rfl) ?_)
        refine aP 6 rfl (KD (v:=.bool false) rfl rfl (by rfl)) ?_
        refine aL 7 rfl (sA rfl rfl sz_35 (by exact Ki _ _ _) (hl:=by exact KS _ _ _) (h:=?_))
        refine aA 8 ?_
        refine aE ?_
        refine KL ?_
        refine ⟨[_,_],.cons ⟨_,_,_,rfl,(by repeat (first|exact Mh _|apply Mt)),by exact KG Try.underlying35 rfl sz_35⟩ (.cons rfl .nil),fun a' w' hr=>⟨?_,hr.fr.below⟩⟩
        rw [← hR] at h1
        rw [lift_zero hXp h1]
        rfl
      ·
        refine KA ?_
        refine oD (dL rfl (hv:=by exact KG Try.underlying33 rfl sz_33)) ?_
        refine oS (cF rfl en_89 rfl (fun w hw=>c_bit0 0 r w (by omega) hr3) ?_)
        refine oM ?_
        refine oP (KD (v:=.bool true) rfl rfl (by rfl)) ?_
        refine KC ?_
        refine Ka rfl ?_
        refine rD [7] ?_
        refine aM 0 ?_
        refine aP 1 rfl (KR rfl) ?_
        refine aP 2 rfl (KE (o':=59) Try.underlying129 rfl rfl rfl sz_127 (by decide)) ?_
        refine aD 3 rfl (dL rfl (hv:=KJ Try.underlying127 rfl (by exact cvC_gt_F _ _ _ _ _ _ _ _ _ _ _ _ _))) ?_
        refine aP 4 rfl (KH (Ko pl_33 zr_33 rfl rfl) (show _ = natV 0 by unfold natV natL; rw [← vec_zeros 9])) ?_
        refine aD 5 rfl (dL rfl (hv:=by exact KG Try.underlying33 rfl sz_33)) ?_
        refine aO 6 rfl (cF rfl en_130 rfl (fun w hw=>c_f_neg V hok f bd r w (mC hw) hr0 hr1) ?_)
        refine aL 7 rfl (sA rfl rfl sz_33 (by exact Kf _) (hl:=by exact KF _) (h:=?_))
        refine aE ?_
        refine KB ?_
        refine rD [7] ?_
        refine aD 0 rfl (dL rfl (hv:=by exact KG Try.underlying33 rfl sz_33)) ?_
        refine aD 1 rfl (dL rfl (hv:=by exact KG Try.underlying33 rfl sz_33)) ?_
        refine aP 2 rfl (KH (Ko pl_35 zr_35 rfl (fill_ptI2 _ _)) rfl) ?_
        refine aM 5 ?_
        refine aO 3 rfl (LStep.det (dL rfl (hv:=by exact KG Try.underlying33 rfl sz_33)) (Nb rfl) ?_)
        refine aO 4 rfl (cF rfl en_89 rfl (fun w hw=>c_bit0 1 (V.p-r) w (by omega) (by omega)) ?_)
        refine aP 6 rfl (KD (v:=.bool true) rfl rfl (by rfl)) ?_
        refine aL 7 rfl (sA rfl rfl sz_35 (by exact Ki _ _ _) (hl:=by exact KS _ _ _) (h:=?_))
        refine aA 8 ?_
        refine aE ?_
        refine KL ?_
        refine ⟨[_,_],.cons ⟨_,_,_,rfl,(by repeat (first|exact Mh _|apply Mt)),by exact KG Try.underlying35 rfl sz_35⟩ (.cons rfl .nil),fun a' w' hr=>⟨?_,hr.fr.below⟩⟩
        rw [← hR] at h1
        rw [lift_odd hXp h1 hr0]
        rfl
end Go.Proofs.Ytlmiolnccgjjjaa
set_option linter.unusedVariables false
set_option linter.unusedSimpArgs false
set_option maxRecDepth 20000
namespace Go.Proofs.Ytlmiolnccgjjjaa
open Go Go.RowKit
def b0 (s:ByteArray):Nat:=(s.data.toList.getD 0 0).toNat
theorem b0_lt (s:ByteArray):b0 s<256:=UInt8.toNat_lt _
def getX (V:Cv) (s:ByteArray):Nat:=beVal (s.extract 1 (1+nby V.p)).data.toList
def getY (V:Cv) (s:ByteArray):Nat:=beVal (s.extract (1+nby V.p) s.size).data.toList
def getT (V:Cv) (s:ByteArray):Nat×Nat×Nat :=
  if s.size = 1+nby V.p∧(b0 s = 2∨b0 s = 3) then (if (liftT V (getX V s) (b0 s-2)).2.2 = true then ((liftT V (getX V s) (b0 s-2)).1,(liftT V (getX V s) (b0 s-2)).2.1,0) else (0,0,2101))
  else if s.size = 1+2*nby V.p∧b0 s = 4 then (if onB V.p V.a V.b (getX V s) (getY V s) false = true then (getX V s,getY V s,0) else (0,0,2101))
  else (0,0,2102)
def getV (V:Cv) (s:ByteArray):Value:=.tuple #[ptV (getT V s).1 (getT V s).2.1 false,.int .i64 (((getT V s).2.2:Nat):Int)]
theorem getV_eq {V:Cv} {s:ByteArray} {X Y e:Nat} (h:getT V s = (X,Y,e)):getV V s = .tuple #[ptV X Y false,.int .i64 ((e:Nat):Int)]:=by unfold getV; rw [h]
theorem get_form {V:Cv} {s:ByteArray} (h1:¬ (s.size = 1+nby V.p∧(b0 s = 2∨b0 s = 3))) (h2:¬ (s.size = 1+2*nby V.p∧b0 s = 4)):getT V s = (0,0,2102):=by unfold getT; rw [if_neg h1,if_neg h2]
theorem get_short {V:Cv} {s:ByteArray} {o X Y:Nat} (h1:s.size = 1+nby V.p) (ho:b0 s = 2+o) (ho1:o≤1) (h:liftT V (getX V s) o = (X,Y,true)):getT V s = (X,Y,0):=by
  unfold getT
  rw [if_pos ⟨h1,by omega⟩,ho,Nat.add_sub_cancel_left,h]; rfl
theorem get_shortF {V:Cv} {s:ByteArray} {o X Y:Nat} (h1:s.size = 1+nby V.p) (ho:b0 s = 2+o) (ho1:o≤1) (h:liftT V (getX V s) o = (X,Y,false)):getT V s = (0,0,2101):=by
  unfold getT
  rw [if_pos ⟨h1,by omega⟩,ho,Nat.add_sub_cancel_left,h]; rfl
theorem get_long {V:Cv} {s:ByteArray} (h1:s.size = 1+2*nby V.p) (hb:b0 s = 4) (h:onB V.p V.a V.b (getX V s) (getY V s) false = true):getT V s = (getX V s,getY V s,0):=by
  unfold getT
  rw [if_neg (by omega),if_pos ⟨h1,hb⟩,if_pos h]
theorem get_longF {V:Cv} {s:ByteArray} (h1:s.size = 1+2*nby V.p) (hb:b0 s = 4) (h:onB V.p V.a V.b (getX V s) (getY V s) false = false):getT V s = (0,0,2101):=by
  unfold getT
  rw [if_neg (by omega),if_pos ⟨h1,hb⟩,if_neg (by rw [h]; decide)]
theorem ext_ext (s:ByteArray) (k:Nat) (h:1+k≤s.size):(s.extract 1 s.size).extract 0 k = s.extract 1 (1+k):=by
  rw [ByteArray.extract_extract]
  congr 1; omega
theorem ext_ext2 (s:ByteArray) (k:Nat) (h:1+k≤s.size):(s.extract 1 s.size).extract k (s.extract 1 s.size).size = s.extract (1+k) s.size:=by
  rw [ByteArray.extract_extract,KAm _ _ _ (Nat.le_refl _)]
  congr 1; omega
theorem ptX_set0 (X Y X':Nat) (i:Bool):splice (ptL X Y i) 0 (natL X') = ptL X' Y i:=splice_mid (A:=[]) (B:=natL X) (D:=natL Y++[.bool i]) (by simp [ptL]) rfl (by rw [KF,KF]) (by simp [ptL])
theorem ptX_set9 (X Y Y':Nat) (i:Bool):splice (ptL X Y i) 9 (natL Y') = ptL X Y' i:=splice_mid (A:=natL X) (B:=natL Y) (D:=[.bool i]) (by simp [ptL]) (KF _) (by rw [KF,KF]) (by simp [ptL])
theorem ptX_zero:(vec .u64 9 (fun _=>0)++(vec .u64 9 (fun _=>0)++[Value.bool false]):List Value) = ptL 0 0 false:=by
  unfold ptL natL; rw [vec_zeros 9]
theorem c_nat_OfX (X:Nat) (s:ByteArray) (w:World) (h:s.size≤72) (hX:beVal s.data.toList = X):Calls Try.prog 90 ([.string s]:List Value).toArray w (fun e w'=>e = .returned (.tuple #[natV X,.int .i64 ((0:Nat):Int)])∧Below w.heap.size w w'):=hX ▸ c_nat_OfOK s w h
theorem c_liftX (Z:Nat×Nat×Bool) (V:Cv) (b f bd:Nat) (hok:V.Ok) (X odd:Nat) (w:World) (hb:(Item.blk b ⟨false,opL V f,129,(0,0)⟩).holds w) (hf:(Item.blk f ⟨false,fldL V.p bd,162,(0,0)⟩).holds w) (hbd:(Item.blk bd ⟨false,dvL V.p,212,(0,0)⟩).holds w) (hX:X<W9) (hodd:odd≤1) (hZ:liftT V X odd = Z):Calls Try.prog 91 ([.pointer (some ⟨b,0,none⟩),natV X,.int .i64 ((odd:Nat):Int)]:List Value).toArray w (fun e w'=>e = .returned (.tuple #[ptV Z.1 Z.2.1 false,.bool Z.2.2])∧Below w.heap.size w w'):=by
  subst hZ; exact c_lift V b f bd hok X odd w hb hf hbd hX hodd
theorem c_s_Get_none (id:Int) (s:ByteArray) (w:World) (h:cvI id = none):Calls Try.prog 41 ([.int .i64 id,.string s]:List Value).toArray w (fun e w'=>e = .returned (.tuple #[ptV 0 0 false,.int .i64 ((2100:Nat):Int)])∧Below w.heap.size w w'):=by
  refine Ke (N:=102) (rs:=[.cell 4 35,.tmp 5]) [] Try.func41 rfl Try.ntmps41 Try.results41 (Nb rfl) trivial rfl ?_
  show LCode _ _ _ ⟨_,_⟩ _
  refine KB (KA ?_)
  refine oS (mk (KU zr_35) (fun b4=>?_))
  refine oP (KW (v:=.int .i64 ((0:Nat):Int)) rfl) ?_
  refine KC ?_
  refine KB (KA ?_)
  refine oM ?_
  refine oS (cF rfl en_80 rfl (fun w hw=>c_Open_none id w h) ?_)
  refine oA ?_
  refine KC ?_
  refine KB ?_
  refine KB (KA ?_)
  refine oM ?_
  refine oP (KH (Det.eqp Try.underlying110 rfl rfl) (show _ = Value.bool true from rfl)) ?_
  refine KC ?_
  refine Ka rfl ?_
  refine KB (KA ?_)
  refine oP (KH (Ko pl_35 zr_35 rfl rfl) pt_zero) ?_
  refine KQ rfl (sA rfl rfl sz_35 (by exact Ki _ _ _) (hl:=by exact KS _ _ _) (h:=?_))
  refine oP (KW (v:=.int .i64 ((2100:Nat):Int)) rfl) ?_
  refine KC (KL ?_)
  refine ⟨[_,_],.cons ⟨_,_,_,rfl,(by repeat (first|exact Mh _|apply Mt)),by exact KG Try.underlying35 rfl sz_35⟩ (.cons rfl .nil),fun a' w' hr=>⟨?_,hr.fr.below⟩⟩
  skip
  rfl
theorem emp_t:((⟨#[]⟩:ByteArray).toList == (⟨#[]⟩:ByteArray).toList) = true:=by simp
theorem emp_f {s:ByteArray} (h:s.size≠0):(s.toList == (⟨#[]⟩:ByteArray).toList) = false:=by
  cases h1:(s.toList == (⟨#[]⟩:ByteArray).toList) with
  | false=>rfl
  | true =>
    rw [eq_str,decide_eq_true_eq] at h1
    have h2:s.data.size = 0:=by rw [← Array.length_toList,h1]; rfl
    exact absurd h2 h
theorem c_s_Get_emp (id:Int) (V:Cv) (w:World) (h:cvI id = some V):Calls Try.prog 41 ([.int .i64 id,.string ⟨#[]⟩]:List Value).toArray w (fun e w'=>e = .returned (.tuple #[ptV 0 0 false,.int .i64 ((2102:Nat):Int)])∧Below w.heap.size w w'):=by
  obtain ⟨hok,hid⟩:=cvI_ok h
  have hbb:=hok.bounds
  have hpW:V.p<W9:=KAO hbb.2.1
  have hnW:V.n<W9:=KAO hbb.2.2.2.2.2.2.1
  have hbl:=KAW hnW
  have hnb:nby V.n≤72:=by (unfold nby; omega)
  have hnp:nby V.p≤72:=by have:=KAW (KAO hbb.2.1); (unfold nby; omega)
  refine Ke (N:=102) (rs:=[.cell 4 35,.tmp 5]) [] Try.func41 rfl Try.ntmps41 Try.results41 (Nb rfl) trivial rfl ?_
  show LCode _ _ _ ⟨_,_⟩ _
  refine KB (KA ?_)
  refine oS (mk (KU zr_35) (fun b4=>?_))
  refine oP (KW (v:=.int .i64 ((0:Nat):Int)) rfl) ?_
  refine KC ?_
  refine KB (KA ?_)
  refine oM ?_
  refine oS (KAZ (Post:=fun v its=>∃ b f bd,v = .pointer (some ⟨b,0,none⟩)∧its = [.blk b ⟨false,opL V f,129,(0,0)⟩,.blk f ⟨false,fldL V.p bd,162,(0,0)⟩,.blk bd ⟨false,dvL V.p,212,(0,0)⟩]) (first:=[]) rfl en_80 rfl (Nb rfl) (fun w1 hw hs=>(c_Open _ V w1 h).mono fun e w' ⟨b,f,bd,h1,h2,h3,h4,h5,h6,h7,h8⟩=>⟨_,_,⟨b,f,bd,rfl,rfl⟩,h1,KAf h8 (by intro x hx; simp at hx; rcases hx with rfl|rfl|rfl; exact h2; exact h3; exact h4) (by intro x hx; simp at hx; rcases hx with rfl|rfl|rfl <;> rfl) (by intro x hx k hk; simp at hx; rcases hx with rfl|rfl|rfl <;> simp [Item.fp] at hk <;> subst hk; exact .inl h5; exact .inl h6; exact .inl h7)⟩) ?_)
  rintro _ _ ⟨b,f,bd,rfl,rfl⟩
  refine oA ?_
  refine KC ?_
  refine KB ?_
  refine KB (KA ?_)
  refine oM ?_
  refine oP (KH (Det.eqp Try.underlying110 rfl rfl) (show _ = Value.bool false from rfl)) ?_
  refine KC ?_
  refine KM rfl ?_
  refine KN ?_
  refine KB ?_
  refine KB (KA ?_)
  refine oM ?_
  refine oP (KH (Det.eqs rfl rfl) (congrArg Value.bool (emp_t))) ?_
  refine KC ?_
  refine Ka rfl ?_
  refine KB (KA ?_)
  refine oP (KH (Ko pl_35 zr_35 rfl rfl) pt_zero) ?_
  refine KQ rfl (sA rfl rfl sz_35 (by exact Ki _ _ _) (hl:=by exact KS _ _ _) (h:=?_))
  refine oP (KW (v:=.int .i64 ((2102:Nat):Int)) rfl) ?_
  refine KC (KL ?_)
  refine ⟨[_,_],.cons ⟨_,_,_,rfl,(by repeat (first|exact Mh _|apply Mt)),by exact KG Try.underlying35 rfl sz_35⟩ (.cons rfl .nil),fun a' w' hr=>⟨?_,hr.fr.below⟩⟩
  skip
  rfl
theorem c_s_Get_s0 (id:Int) (V:Cv) (s:ByteArray) (X X' Y':Nat) (ok:Bool) (w:World) (h:cvI id = some V) (hsz:s.size = 1+nby V.p) (hb:b0 s = 2) (hX:beVal (s.extract 1 s.size).data.toList = X) (hXw:X<W9) (hl:liftT V X 0 = (X',Y',ok)):Calls Try.prog 41 ([.int .i64 id,.string s]:List Value).toArray w (fun e w'=>e = .returned (getV V s)∧Below w.heap.size w w'):=by
  obtain ⟨hok,hid⟩:=cvI_ok h
  have hbb:=hok.bounds
  have hpW:V.p<W9:=KAO hbb.2.1
  have hnW:V.n<W9:=KAO hbb.2.2.2.2.2.2.1
  have hbl:=KAW hnW
  have hnb:nby V.n≤72:=by (unfold nby; omega)
  have hnp:nby V.p≤72:=by have:=KAW (KAO hbb.2.1); (unfold nby; omega)
  have hs0:s.size≠0:=by omega
  refine Ke (N:=102) (rs:=[.cell 4 35,.tmp 5]) [] Try.func41 rfl Try.ntmps41 Try.results41 (Nb rfl) trivial rfl ?_
  show LCode _ _ _ ⟨_,_⟩ _
  refine KB (KA ?_)
  refine oS (mk (KU zr_35) (fun b4=>?_))
  refine oP (KW (v:=.int .i64 ((0:Nat):Int)) rfl) ?_
  refine KC ?_
  refine KB (KA ?_)
  refine oM ?_
  refine oS (KAZ (Post:=fun v its=>∃ b f bd,v = .pointer (some ⟨b,0,none⟩)∧its = [.blk b ⟨false,opL V f,129,(0,0)⟩,.blk f ⟨false,fldL V.p bd,162,(0,0)⟩,.blk bd ⟨false,dvL V.p,212,(0,0)⟩]) (first:=[]) rfl en_80 rfl (Nb rfl) (fun w1 hw hs=>(c_Open _ V w1 h).mono fun e w' ⟨b,f,bd,h1,h2,h3,h4,h5,h6,h7,h8⟩=>⟨_,_,⟨b,f,bd,rfl,rfl⟩,h1,KAf h8 (by intro x hx; simp at hx; rcases hx with rfl|rfl|rfl; exact h2; exact h3; exact h4) (by intro x hx; simp at hx; rcases hx with rfl|rfl|rfl <;> rfl) (by intro x hx k hk; simp at hx; rcases hx with rfl|rfl|rfl <;> simp [Item.fp] at hk <;> subst hk; exact .inl h5; exact .inl h6; exact .inl h7)⟩) ?_)
  rintro _ _ ⟨b,f,bd,rfl,rfl⟩
  refine oA ?_
  refine KC ?_
  refine KB ?_
  refine KB (KA ?_)
  refine oM ?_
  refine oP (KH (Det.eqp Try.underlying110 rfl rfl) (show _ = Value.bool false from rfl)) ?_
  refine KC ?_
  refine KM rfl ?_
  refine KN ?_
  refine KB ?_
  refine KB (KA ?_)
  refine oM ?_
  refine oP (KH (Det.eqs rfl rfl) (congrArg Value.bool (emp_f hs0))) ?_
  refine KC ?_
  refine KM rfl ?_
  refine KN ?_
  refine KB ?_
  refine rD [] ?_
  refine aM 0 ?_
  refine aP 1 rfl (KH (Ks Try.underlying9 rfl rfl (by omega) (by omega)) (show _ = .int .u8 ((2:Nat):Int) from congrArg (fun n:Nat=>Value.int .u8 ((n:Nat):Int)) hb)) ?_
  refine aP 2 rfl (KAc Try.underlying5 Try.underlying3 rfl (by omega)) ?_
  refine aM 3 ?_
  refine aP 4 rfl (KH (Det.slStrL Try.underlying9 rfl rfl (by omega) (by omega)) (show _ = Value.string (s.extract 1 s.size) from rfl)) ?_
  refine aA 5 ?_
  refine aA 6 ?_
  refine aE ?_
  refine KB (KA ?_)
  refine oS (mk (KU zr_35) (fun b9=>?_))
  refine KC ?_
  refine KB (KA ?_)
  refine oA ?_
  refine KC ?_
  refine KB ?_
  refine LCode.block ?_
  refine KB ?_
  have hrs:(s.extract 1 s.size).size = nby V.p:=by rw [KAm _ _ _ (Nat.le_refl _)]; omega
  refine KA ?_
  refine oM ?_
  refine oP (KD (v:=.bool true) rfl rfl (br_t (KAC (b:=2)) (rfl))) ?_
  refine oM ?_
  refine oK ?_
  refine oK ?_
  refine oP (Kc rfl rfl) ?_
  refine oM ?_
  refine oGM ?_
  refine oGP (KAH Try.underlying9 rfl) ?_
  refine oGM ?_
  refine oGP (KR rfl) ?_
  refine oGP (KE (o':=0) Try.underlying129 rfl rfl rfl KAj (by decide)) ?_
  refine oGP (KE (o':=57) Try.underlying126 rfl rfl rfl sz_3 (by decide)) ?_
  refine KAM rfl rfl (dL rfl (hv:=KJ Try.underlying3 rfl (by exact cvC_gt_size _ _ _ _ _ _ _ _ _ _ _ _ _))) (Nb rfl) ?_
  refine oGP (KD (v:=.bool true) rfl rfl (br_t KAC (hrs))) ?_
  refine oP (Kc rfl rfl) ?_
  refine oA ?_
  refine KC ?_
  refine Ka rfl ?_
  refine KB ?_
  cases ok
  ·
    refine KA ?_
    refine oM ?_
    refine oS (cF rfl en_90 rfl (fun w hw=>c_nat_OfX X (s.extract 1 s.size) w (by omega) hX) ?_)
    refine oM ?_
    refine oP (Det.extract rfl rfl) ?_
    refine oP (Det.extract rfl rfl) ?_
    refine oS (mk (KU zr_33) (fun b11=>?_))
    refine KQ rfl (sA rfl rfl sz_33 (by exact Kf _) (hl:=by exact KF _) (h:=?_))
    refine oA ?_
    refine KC ?_
    refine KA ?_
    refine oM ?_
    refine oD (dL rfl (hv:=by exact KG Try.underlying33 rfl sz_33)) ?_
    refine oM ?_
    refine oP (KD (v:=.int .i64 ((0:Nat):Int)) rfl rfl (by rfl)) ?_
    refine oS (cF rfl en_91 rfl (fun w hw=>c_liftX (X',Y',false) V b f bd hok X 0 w (mC hw) (mC hw) (mC hw) hXw (by decide) hl) ?_)
    refine oM ?_
    refine oP (Det.extract rfl rfl) ?_
    refine oP (Det.extract rfl rfl) ?_
    refine KQ rfl (sA rfl rfl sz_35 (by exact Ki _ _ _) (hl:=by exact KS _ _ _) (h:=?_))
    refine oA ?_
    refine KC ?_
    refine KB ?_
    refine KB (KA ?_)
    refine oM ?_
    refine oP (KH (KAG rfl) (show _ = Value.bool true from rfl)) ?_
    refine KC ?_
    refine Ka rfl ?_
    refine KB (KA ?_)
    refine oP (KH (Ko pl_35 zr_35 rfl rfl) pt_zero) ?_
    refine KQ rfl (sA rfl rfl sz_35 (by exact Ki _ _ _) (hl:=by exact KS _ _ _) (h:=?_))
    refine oP (KW (v:=.int .i64 ((2101:Nat):Int)) rfl) ?_
    refine KC (KL ?_)
    refine ⟨[_,_],.cons ⟨_,_,_,rfl,(by repeat (first|exact Mh _|apply Mt)),by exact KG Try.underlying35 rfl sz_35⟩ (.cons rfl .nil),fun a' w' hr=>⟨?_,hr.fr.below⟩⟩
    have hg:getX V s = X:=by unfold getX; rw [← hsz]; exact hX
    rw [← hg] at hl
    rw [getV_eq (get_shortF hsz hb (by decide) hl)]
    rfl
  ·
    refine KA ?_
    refine oM ?_
    refine oS (cF rfl en_90 rfl (fun w hw=>c_nat_OfX X (s.extract 1 s.size) w (by omega) hX) ?_)
    refine oM ?_
    refine oP (Det.extract rfl rfl) ?_
    refine oP (Det.extract rfl rfl) ?_
    refine oS (mk (KU zr_33) (fun b11=>?_))
    refine KQ rfl (sA rfl rfl sz_33 (by exact Kf _) (hl:=by exact KF _) (h:=?_))
    refine oA ?_
    refine KC ?_
    refine KA ?_
    refine oM ?_
    refine oD (dL rfl (hv:=by exact KG Try.underlying33 rfl sz_33)) ?_
    refine oM ?_
    refine oP (KD (v:=.int .i64 ((0:Nat):Int)) rfl rfl (by rfl)) ?_
    refine oS (cF rfl en_91 rfl (fun w hw=>c_liftX (X',Y',true) V b f bd hok X 0 w (mC hw) (mC hw) (mC hw) hXw (by decide) hl) ?_)
    refine oM ?_
    refine oP (Det.extract rfl rfl) ?_
    refine oP (Det.extract rfl rfl) ?_
    refine KQ rfl (sA rfl rfl sz_35 (by exact Ki _ _ _) (hl:=by exact KS _ _ _) (h:=?_))
    refine oA ?_
    refine KC ?_
    refine KB ?_
    refine KB (KA ?_)
    refine oM ?_
    refine oP (KH (KAG rfl) (show _ = Value.bool false from rfl)) ?_
    refine KC ?_
    refine KM rfl ?_
    refine KN ?_
    refine KB (KA ?_)
    refine oD (dL rfl (hv:=by exact KG Try.underlying35 rfl sz_35)) ?_
    refine KQ rfl (sA rfl rfl sz_35 (by exact Ki _ _ _) (hl:=by exact KS _ _ _) (h:=?_))
    refine oP (KW (v:=.int .i64 ((0:Nat):Int)) rfl) ?_
    refine KC (KL ?_)
    refine ⟨[_,_],.cons ⟨_,_,_,rfl,(by repeat (first|exact Mh _|apply Mt)),by exact KG Try.underlying35 rfl sz_35⟩ (.cons rfl .nil),fun a' w' hr=>⟨?_,hr.fr.below⟩⟩
    have hg:getX V s = X:=by unfold getX; rw [← hsz]; exact hX
    rw [← hg] at hl
    rw [getV_eq (get_short hsz hb (by decide) hl)]
    rfl
theorem c_s_Get_s1 (id:Int) (V:Cv) (s:ByteArray) (X X' Y':Nat) (ok:Bool) (w:World) (h:cvI id = some V) (hsz:s.size = 1+nby V.p) (hb:b0 s = 3) (hX:beVal (s.extract 1 s.size).data.toList = X) (hXw:X<W9) (hl:liftT V X 1 = (X',Y',ok)):Calls Try.prog 41 ([.int .i64 id,.string s]:List Value).toArray w (fun e w'=>e = .returned (getV V s)∧Below w.heap.size w w'):=by
  obtain ⟨hok,hid⟩:=cvI_ok h
  have hbb:=hok.bounds
  have hpW:V.p<W9:=KAO hbb.2.1
  have hnW:V.n<W9:=KAO hbb.2.2.2.2.2.2.1
  have hbl:=KAW hnW
  have hnb:nby V.n≤72:=by (unfold nby; omega)
  have hnp:nby V.p≤72:=by have:=KAW (KAO hbb.2.1); (unfold nby; omega)
  have hs0:s.size≠0:=by omega
  refine Ke (N:=102) (rs:=[.cell 4 35,.tmp 5]) [] Try.func41 rfl Try.ntmps41 Try.results41 (Nb rfl) trivial rfl ?_
  show LCode _ _ _ ⟨_,_⟩ _
  refine KB (KA ?_)
  refine oS (mk (KU zr_35) (fun b4=>?_))
  refine oP (KW (v:=.int .i64 ((0:Nat):Int)) rfl) ?_
  refine KC ?_
  refine KB (KA ?_)
  refine oM ?_
  refine oS (KAZ (Post:=fun v its=>∃ b f bd,v = .pointer (some ⟨b,0,none⟩)∧its = [.blk b ⟨false,opL V f,129,(0,0)⟩,.blk f ⟨false,fldL V.p bd,162,(0,0)⟩,.blk bd ⟨false,dvL V.p,212,(0,0)⟩]) (first:=[]) rfl en_80 rfl (Nb rfl) (fun w1 hw hs=>(c_Open _ V w1 h).mono fun e w' ⟨b,f,bd,h1,h2,h3,h4,h5,h6,h7,h8⟩=>⟨_,_,⟨b,f,bd,rfl,rfl⟩,h1,KAf h8 (by intro x hx; simp at hx; rcases hx with rfl|rfl|rfl; exact h2; exact h3; exact h4) (by intro x hx; simp at hx; rcases hx with rfl|rfl|rfl <;> rfl) (by intro x hx k hk; simp at hx; rcases hx with rfl|rfl|rfl <;> simp [Item.fp] at hk <;> subst hk; exact .inl h5; exact .inl h6; exact .inl h7)⟩) ?_)
  rintro _ _ ⟨b,f,bd,rfl,rfl⟩
  refine oA ?_
  refine KC ?_
  refine KB ?_
  refine KB (KA ?_)
  refine oM ?_
  refine oP (KH (Det.eqp Try.underlying110 rfl rfl) (show _ = Value.bool false from rfl)) ?_
  refine KC ?_
  refine KM rfl ?_
  refine KN ?_
  refine KB ?_
  refine KB (KA ?_)
  refine oM ?_
  refine oP (KH (Det.eqs rfl rfl) (congrArg Value.bool (emp_f hs0))) ?_
  refine KC ?_
  refine KM rfl ?_
  refine KN ?_
  refine KB ?_
  refine rD [] ?_
  refine aM 0 ?_
  refine aP 1 rfl (KH (Ks Try.underlying9 rfl rfl (by omega) (by omega)) (show _ = .int .u8 ((3:Nat):Int) from congrArg (fun n:Nat=>Value.int .u8 ((n:Nat):Int)) hb)) ?_
  refine aP 2 rfl (KAc Try.underlying5 Try.underlying3 rfl (by omega)) ?_
  refine aM 3 ?_
  refine aP 4 rfl (KH (Det.slStrL Try.underlying9 rfl rfl (by omega) (by omega)) (show _ = Value.string (s.extract 1 s.size) from rfl)) ?_
  refine aA 5 ?_
  refine aA 6 ?_
  refine aE ?_
  refine KB (KA ?_)
  refine oS (mk (KU zr_35) (fun b9=>?_))
  refine KC ?_
  refine KB (KA ?_)
  refine oA ?_
  refine KC ?_
  refine KB ?_
  refine LCode.block ?_
  refine KB ?_
  have hrs:(s.extract 1 s.size).size = nby V.p:=by rw [KAm _ _ _ (Nat.le_refl _)]; omega
  refine KA ?_
  refine oM ?_
  refine oP (KD (v:=.bool false) rfl rfl (br_f (KAC (b:=2)) (by decide))) ?_
  refine oM ?_
  refine oGM ?_
  refine oGP (KD (v:=.bool true) rfl rfl (br_t (KAC (b:=3)) (rfl))) ?_
  refine oP (KZ rfl rfl) ?_
  refine oM ?_
  refine oGM ?_
  refine oGP (KAH Try.underlying9 rfl) ?_
  refine oGM ?_
  refine oGP (KR rfl) ?_
  refine oGP (KE (o':=0) Try.underlying129 rfl rfl rfl KAj (by decide)) ?_
  refine oGP (KE (o':=57) Try.underlying126 rfl rfl rfl sz_3 (by decide)) ?_
  refine KAM rfl rfl (dL rfl (hv:=KJ Try.underlying3 rfl (by exact cvC_gt_size _ _ _ _ _ _ _ _ _ _ _ _ _))) (Nb rfl) ?_
  refine oGP (KD (v:=.bool true) rfl rfl (br_t KAC (hrs))) ?_
  refine oP (Kc rfl rfl) ?_
  refine oA ?_
  refine KC ?_
  refine Ka rfl ?_
  refine KB ?_
  cases ok
  ·
    refine KA ?_
    refine oM ?_
    refine oS (cF rfl en_90 rfl (fun w hw=>c_nat_OfX X (s.extract 1 s.size) w (by omega) hX) ?_)
    refine oM ?_
    refine oP (Det.extract rfl rfl) ?_
    refine oP (Det.extract rfl rfl) ?_
    refine oS (mk (KU zr_33) (fun b11=>?_))
    refine KQ rfl (sA rfl rfl sz_33 (by exact Kf _) (hl:=by exact KF _) (h:=?_))
    refine oA ?_
    refine KC ?_
    refine KA ?_
    refine oM ?_
    refine oD (dL rfl (hv:=by exact KG Try.underlying33 rfl sz_33)) ?_
    refine oM ?_
    refine oP (KD (v:=.int .i64 ((1:Nat):Int)) rfl rfl (by rfl)) ?_
    refine oS (cF rfl en_91 rfl (fun w hw=>c_liftX (X',Y',false) V b f bd hok X 1 w (mC hw) (mC hw) (mC hw) hXw (by decide) hl) ?_)
    refine oM ?_
    refine oP (Det.extract rfl rfl) ?_
    refine oP (Det.extract rfl rfl) ?_
    refine KQ rfl (sA rfl rfl sz_35 (by exact Ki _ _ _) (hl:=by exact KS _ _ _) (h:=?_))
    refine oA ?_
    refine KC ?_
    refine KB ?_
    refine KB (KA ?_)
    refine oM ?_
    refine oP (KH (KAG rfl) (show _ = Value.bool true from rfl)) ?_
    refine KC ?_
    refine Ka rfl ?_
    refine KB (KA ?_)
    refine oP (KH (Ko pl_35 zr_35 rfl rfl) pt_zero) ?_
    refine KQ rfl (sA rfl rfl sz_35 (by exact Ki _ _ _) (hl:=by exact KS _ _ _) (h:=?_))
    refine oP (KW (v:=.int .i64 ((2101:Nat):Int)) rfl) ?_
    refine KC (KL ?_)
    refine ⟨[_,_],.cons ⟨_,_,_,rfl,(by repeat (first|exact Mh _|apply Mt)),by exact KG Try.underlying35 rfl sz_35⟩ (.cons rfl .nil),fun a' w' hr=>⟨?_,hr.fr.below⟩⟩
    have hg:getX V s = X:=by unfold getX; rw [← hsz]; exact hX
    rw [← hg] at hl
    rw [getV_eq (get_shortF hsz hb (by decide) hl)]
    rfl
  ·
    refine KA ?_
    refine oM ?_
    refine oS (cF rfl en_90 rfl (fun w hw=>c_nat_OfX X (s.extract 1 s.size) w (by omega) hX) ?_)
    refine oM ?_
    refine oP (Det.extract rfl rfl) ?_
    refine oP (Det.extract rfl rfl) ?_
    refine oS (mk (KU zr_33) (fun b11=>?_))
    refine KQ rfl (sA rfl rfl sz_33 (by exact Kf _) (hl:=by exact KF _) (h:=?_))
    refine oA ?_
    refine KC ?_
    refine KA ?_
    refine oM ?_
    refine oD (dL rfl (hv:=by exact KG Try.underlying33 rfl sz_33)) ?_
    refine oM ?_
    refine oP (KD (v:=.int .i64 ((1:Nat):Int)) rfl rfl (by rfl)) ?_
    refine oS (cF rfl en_91 rfl (fun w hw=>c_liftX (X',Y',true) V b f bd hok X 1 w (mC hw) (mC hw) (mC hw) hXw (by decide) hl) ?_)
    refine oM ?_
    refine oP (Det.extract rfl rfl) ?_
    refine oP (Det.extract rfl rfl) ?_
    refine KQ rfl (sA rfl rfl sz_35 (by exact Ki _ _ _) (hl:=by exact KS _ _ _) (h:=?_))
    refine oA ?_
    refine KC ?_
    refine KB ?_
    refine KB (KA ?_)
    refine oM ?_
    refine oP (KH (KAG rfl) (show _ = Value.bool false from rfl)) ?_
    refine KC ?_
    refine KM rfl ?_
    refine KN ?_
    refine KB (KA ?_)
    refine oD (dL rfl (hv:=by exact KG Try.underlying35 rfl sz_35)) ?_
    refine KQ rfl (sA rfl rfl sz_35 (by exact Ki _ _ _) (hl:=by exact KS _ _ _) (h:=?_))
    refine oP (KW (v:=.int .i64 ((0:Nat):Int)) rfl) ?_
    refine KC (KL ?_)
    refine ⟨[_,_],.cons ⟨_,_,_,rfl,(by repeat (first|exact Mh _|apply Mt)),by exact KG Try.underlying35 rfl sz_35⟩ (.cons rfl .nil),fun a' w' hr=>⟨?_,hr.fr.below⟩⟩
    have hg:getX V s = X:=by unfold getX; rw [← hsz]; exact hX
    rw [← hg] at hl
    rw [getV_eq (get_short hsz hb (by decide) hl)]
    rfl
theorem c_s_Get_f2 (id:Int) (V:Cv) (s:ByteArray) (w:World) (h:cvI id = some V) (hs0:s.size≠0) (hs:s.size<9223372036854775808) (hb:b0 s = 2) (hsz:s.size≠1+nby V.p):Calls Try.prog 41 ([.int .i64 id,.string s]:List Value).toArray w (fun e w'=>e = .returned (.tuple #[ptV 0 0 false,.int .i64 ((2102:Nat):Int)])∧Below w.heap.size w w'):=by
  obtain ⟨hok,hid⟩:=cvI_ok h
  have hbb:=hok.bounds
  have hpW:V.p<W9:=KAO hbb.2.1
  have hnW:V.n<W9:=KAO hbb.2.2.2.2.2.2.1
  have hbl:=KAW hnW
  have hnb:nby V.n≤72:=by (unfold nby; omega)
  have hnp:nby V.p≤72:=by have:=KAW (KAO hbb.2.1); (unfold nby; omega)
  have hb256:=b0_lt s
  refine Ke (N:=102) (rs:=[.cell 4 35,.tmp 5]) [] Try.func41 rfl Try.ntmps41 Try.results41 (Nb rfl) trivial rfl ?_
  show LCode _ _ _ ⟨_,_⟩ _
  refine KB (KA ?_)
  refine oS (mk (KU zr_35) (fun b4=>?_))
  refine oP (KW (v:=.int .i64 ((0:Nat):Int)) rfl) ?_
  refine KC ?_
  refine KB (KA ?_)
  refine oM ?_
  refine oS (KAZ (Post:=fun v its=>∃ b f bd,v = .pointer (some ⟨b,0,none⟩)∧its = [.blk b ⟨false,opL V f,129,(0,0)⟩,.blk f ⟨false,fldL V.p bd,162,(0,0)⟩,.blk bd ⟨false,dvL V.p,212,(0,0)⟩]) (first:=[]) rfl en_80 rfl (Nb rfl) (fun w1 hw hs=>(c_Open _ V w1 h).mono fun e w' ⟨b,f,bd,h1,h2,h3,h4,h5,h6,h7,h8⟩=>⟨_,_,⟨b,f,bd,rfl,rfl⟩,h1,KAf h8 (by intro x hx; simp at hx; rcases hx with rfl|rfl|rfl; exact h2; exact h3; exact h4) (by intro x hx; simp at hx; rcases hx with rfl|rfl|rfl <;> rfl) (by intro x hx k hk; simp at hx; rcases hx with rfl|rfl|rfl <;> simp [Item.fp] at hk <;> subst hk; exact .inl h5; exact .inl h6; exact .inl h7)⟩) ?_)
  rintro _ _ ⟨b,f,bd,rfl,rfl⟩
  refine oA ?_
  refine KC ?_
  refine KB ?_
  refine KB (KA ?_)
  refine oM ?_
  refine oP (KH (Det.eqp Try.underlying110 rfl rfl) (show _ = Value.bool false from rfl)) ?_
  refine KC ?_
  refine KM rfl ?_
  refine KN ?_
  refine KB ?_
  refine KB (KA ?_)
  refine oM ?_
  refine oP (KH (Det.eqs rfl rfl) (congrArg Value.bool (emp_f hs0))) ?_
  refine KC ?_
  refine KM rfl ?_
  refine KN ?_
  refine KB ?_
  refine rD [] ?_
  refine aM 0 ?_
  refine aP 1 rfl (KH (Ks Try.underlying9 rfl rfl (by omega) (by omega)) (show _ = .int .u8 ((2:Nat):Int) from congrArg (fun n:Nat=>Value.int .u8 ((n:Nat):Int)) hb)) ?_
  refine aP 2 rfl (KAc Try.underlying5 Try.underlying3 rfl (by omega)) ?_
  refine aM 3 ?_
  refine aP 4 rfl (KH (Det.slStrL Try.underlying9 rfl rfl (by omega) (by omega)) (show _ = Value.string (s.extract 1 s.size) from rfl)) ?_
  refine aA 5 ?_
  refine aA 6 ?_
  refine aE ?_
  refine KB (KA ?_)
  refine oS (mk (KU zr_35) (fun b9=>?_))
  refine KC ?_
  refine KB (KA ?_)
  refine oA ?_
  refine KC ?_
  refine KB ?_
  refine LCode.block ?_
  refine KB ?_
  have hrs:(s.extract 1 s.size).size = s.size-1:=by rw [KAm _ _ _ (Nat.le_refl _)]
  refine KA ?_
  refine oM ?_
  refine oP (KD (v:=.bool true) rfl rfl (br_t (KAC (b:=2)) (rfl))) ?_
  refine oM ?_
  refine oK ?_
  refine oK ?_
  refine oP (Kc rfl rfl) ?_
  refine oM ?_
  refine oGM ?_
  refine oGP (KAH Try.underlying9 rfl) ?_
  refine oGM ?_
  refine oGP (KR rfl) ?_
  refine oGP (KE (o':=0) Try.underlying129 rfl rfl rfl KAj (by decide)) ?_
  refine oGP (KE (o':=57) Try.underlying126 rfl rfl rfl sz_3 (by decide)) ?_
  refine KAM rfl rfl (dL rfl (hv:=KJ Try.underlying3 rfl (by exact cvC_gt_size _ _ _ _ _ _ _ _ _ _ _ _ _))) (Nb rfl) ?_
  refine oGP (KD (v:=.bool false) rfl rfl (br_f KAC ((by omega)))) ?_
  refine oP (Kc rfl rfl) ?_
  refine oA ?_
  refine KC ?_
  refine KM rfl ?_
  refine KB (KA ?_)
  refine oM ?_
  refine oP (KD (v:=.bool false) rfl rfl (br_f (KAC (b:=4)) (by decide))) ?_
  refine oM ?_
  refine oK ?_
  refine oK ?_
  refine oK ?_
  refine oK ?_
  refine oK ?_
  refine oK ?_
  refine oK ?_
  refine oK ?_
  refine oK ?_
  refine oP (KZ rfl rfl) ?_
  refine oA ?_
  refine KC ?_
  refine KM rfl ?_
  refine KB (KA ?_)
  refine oP (KH (Ko pl_35 zr_35 rfl rfl) pt_zero) ?_
  refine KQ rfl (sA rfl rfl sz_35 (by exact Ki _ _ _) (hl:=by exact KS _ _ _) (h:=?_))
  refine oP (KW (v:=.int .i64 ((2102:Nat):Int)) rfl) ?_
  refine KC (KL ?_)
  refine ⟨[_,_],.cons ⟨_,_,_,rfl,(by repeat (first|exact Mh _|apply Mt)),by exact KG Try.underlying35 rfl sz_35⟩ (.cons rfl .nil),fun a' w' hr=>⟨?_,hr.fr.below⟩⟩
  skip
  rfl
theorem c_s_Get_f3 (id:Int) (V:Cv) (s:ByteArray) (w:World) (h:cvI id = some V) (hs0:s.size≠0) (hs:s.size<9223372036854775808) (hb:b0 s = 3) (hsz:s.size≠1+nby V.p):Calls Try.prog 41 ([.int .i64 id,.string s]:List Value).toArray w (fun e w'=>e = .returned (.tuple #[ptV 0 0 false,.int .i64 ((2102:Nat):Int)])∧Below w.heap.size w w'):=by
  obtain ⟨hok,hid⟩:=cvI_ok h
  have hbb:=hok.bounds
  have hpW:V.p<W9:=KAO hbb.2.1
  have hnW:V.n<W9:=KAO hbb.2.2.2.2.2.2.1
  have hbl:=KAW hnW
  have hnb:nby V.n≤72:=by (unfold nby; omega)
  have hnp:nby V.p≤72:=by have:=KAW (KAO hbb.2.1); (unfold nby; omega)
  have hb256:=b0_lt s
  refine Ke (N:=102) (rs:=[.cell 4 35,.tmp 5]) [] Try.func41 rfl Try.ntmps41 Try.results41 (Nb rfl) trivial rfl ?_
  show LCode _ _ _ ⟨_,_⟩ _
  refine KB (KA ?_)
  refine oS (mk (KU zr_35) (fun b4=>?_))
  refine oP (KW (v:=.int .i64 ((0:Nat):Int)) rfl) ?_
  refine KC ?_
  refine KB (KA ?_)
  refine oM ?_
  refine oS (KAZ (Post:=fun v its=>∃ b f bd,v = .pointer (some ⟨b,0,none⟩)∧its = [.blk b ⟨false,opL V f,129,(0,0)⟩,.blk f ⟨false,fldL V.p bd,162,(0,0)⟩,.blk bd ⟨false,dvL V.p,212,(0,0)⟩]) (first:=[]) rfl en_80 rfl (Nb rfl) (fun w1 hw hs=>(c_Open _ V w1 h).mono fun e w' ⟨b,f,bd,h1,h2,h3,h4,h5,h6,h7,h8⟩=>⟨_,_,⟨b,f,bd,rfl,rfl⟩,h1,KAf h8 (by intro x hx; simp at hx; rcases hx with rfl|rfl|rfl; exact h2; exact h3; exact h4) (by intro x hx; simp at hx; rcases hx with rfl|rfl|rfl <;> rfl) (by intro x hx k hk; simp at hx; rcases hx with rfl|rfl|rfl <;> simp [Item.fp] at hk <;> subst hk; exact .inl h5; exact .inl h6; exact .inl h7)⟩) ?_)
  rintro _ _ ⟨b,f,bd,rfl,rfl⟩
  refine oA ?_
  refine KC ?_
  refine KB ?_
  refine KB (KA ?_)
  refine oM ?_
  refine oP (KH (Det.eqp Try.underlying110 rfl rfl) (show _ = Value.bool false from rfl)) ?_
  refine KC ?_
  refine KM rfl ?_
  refine KN ?_
  refine KB ?_
  refine KB (KA ?_)
  refine oM ?_
  refine oP (KH (Det.eqs rfl rfl) (congrArg Value.bool (emp_f hs0))) ?_
  refine KC ?_
  refine KM rfl ?_
  refine KN ?_
  refine KB ?_
  refine rD [] ?_
  refine aM 0 ?_
  refine aP 1 rfl (KH (Ks Try.underlying9 rfl rfl (by omega) (by omega)) (show _ = .int .u8 ((3:Nat):Int) from congrArg (fun n:Nat=>Value.int .u8 ((n:Nat):Int)) hb)) ?_
  refine aP 2 rfl (KAc Try.underlying5 Try.underlying3 rfl (by omega)) ?_
  refine aM 3 ?_
  refine aP 4 rfl (KH (Det.slStrL Try.underlying9 rfl rfl (by omega) (by omega)) (show _ = Value.string (s.extract 1 s.size) from rfl)) ?_
  refine aA 5 ?_
  refine aA 6 ?_
  refine aE ?_
  refine KB (KA ?_)
  refine oS (mk (KU zr_35) (fun b9=>?_))
  refine KC ?_
  refine KB (KA ?_)
  refine oA ?_
  refine KC ?_
  refine KB ?_
  refine LCode.block ?_
  refine KB ?_
  have hrs:(s.extract 1 s.size).size = s.size-1:=by rw [KAm _ _ _ (Nat.le_refl _)]
  refine KA ?_
  refine oM ?_
  refine oP (KD (v:=.bool false) rfl rfl (br_f (KAC (b:=2)) (by decide))) ?_
  refine oM ?_
  refine oGM ?_
  refine oGP (KD (v:=.bool true) rfl rfl (br_t (KAC (b:=3)) (rfl))) ?_
  refine oP (KZ rfl rfl) ?_
  refine oM ?_
  refine oGM ?_
  refine oGP (KAH Try.underlying9 rfl) ?_
  refine oGM ?_
  refine oGP (KR rfl) ?_
  refine oGP (KE (o':=0) Try.underlying129 rfl rfl rfl KAj (by decide)) ?_
  refine oGP (KE (o':=57) Try.underlying126 rfl rfl rfl sz_3 (by decide)) ?_
  refine KAM rfl rfl (dL rfl (hv:=KJ Try.underlying3 rfl (by exact cvC_gt_size _ _ _ _ _ _ _ _ _ _ _ _ _))) (Nb rfl) ?_
  refine oGP (KD (v:=.bool false) rfl rfl (br_f KAC ((by omega)))) ?_
  refine oP (Kc rfl rfl) ?_
  refine oA ?_
  refine KC ?_
  refine KM rfl ?_
  refine KB (KA ?_)
  refine oM ?_
  refine oP (KD (v:=.bool false) rfl rfl (br_f (KAC (b:=4)) (by decide))) ?_
  refine oM ?_
  refine oK ?_
  refine oK ?_
  refine oK ?_
  refine oK ?_
  refine oK ?_
  refine oK ?_
  refine oK ?_
  refine oK ?_
  refine oK ?_
  refine oP (KZ rfl rfl) ?_
  refine oA ?_
  refine KC ?_
  refine KM rfl ?_
  refine KB (KA ?_)
  refine oP (KH (Ko pl_35 zr_35 rfl rfl) pt_zero) ?_
  refine KQ rfl (sA rfl rfl sz_35 (by exact Ki _ _ _) (hl:=by exact KS _ _ _) (h:=?_))
  refine oP (KW (v:=.int .i64 ((2102:Nat):Int)) rfl) ?_
  refine KC (KL ?_)
  refine ⟨[_,_],.cons ⟨_,_,_,rfl,(by repeat (first|exact Mh _|apply Mt)),by exact KG Try.underlying35 rfl sz_35⟩ (.cons rfl .nil),fun a' w' hr=>⟨?_,hr.fr.below⟩⟩
  skip
  rfl
theorem c_s_Get_f4 (id:Int) (V:Cv) (s:ByteArray) (w:World) (h:cvI id = some V) (hs0:s.size≠0) (hs:s.size<9223372036854775808) (hb:b0 s = 4) (hsz:s.size≠1+2*nby V.p):Calls Try.prog 41 ([.int .i64 id,.string s]:List Value).toArray w (fun e w'=>e = .returned (.tuple #[ptV 0 0 false,.int .i64 ((2102:Nat):Int)])∧Below w.heap.size w w'):=by
  obtain ⟨hok,hid⟩:=cvI_ok h
  have hbb:=hok.bounds
  have hpW:V.p<W9:=KAO hbb.2.1
  have hnW:V.n<W9:=KAO hbb.2.2.2.2.2.2.1
  have hbl:=KAW hnW
  have hnb:nby V.n≤72:=by (unfold nby; omega)
  have hnp:nby V.p≤72:=by have:=KAW (KAO hbb.2.1); (unfold nby; omega)
  have hb256:=b0_lt s
  refine Ke (N:=102) (rs:=[.cell 4 35,.tmp 5]) [] Try.func41 rfl Try.ntmps41 Try.results41 (Nb rfl) trivial rfl ?_
  show LCode _ _ _ ⟨_,_⟩ _
  refine KB (KA ?_)
  refine oS (mk (KU zr_35) (fun b4=>?_))
  refine oP (KW (v:=.int .i64 ((0:Nat):Int)) rfl) ?_
  refine KC ?_
  refine KB (KA ?_)
  refine oM ?_
  refine oS (KAZ (Post:=fun v its=>∃ b f bd,v = .pointer (some ⟨b,0,none⟩)∧its = [.blk b ⟨false,opL V f,129,(0,0)⟩,.blk f ⟨false,fldL V.p bd,162,(0,0)⟩,.blk bd ⟨false,dvL V.p,212,(0,0)⟩]) (first:=[]) rfl en_80 rfl (Nb rfl) (fun w1 hw hs=>(c_Open _ V w1 h).mono fun e w' ⟨b,f,bd,h1,h2,h3,h4,h5,h6,h7,h8⟩=>⟨_,_,⟨b,f,bd,rfl,rfl⟩,h1,KAf h8 (by intro x hx; simp at hx; rcases hx with rfl|rfl|rfl; exact h2; exact h3; exact h4) (by intro x hx; simp at hx; rcases hx with rfl|rfl|rfl <;> rfl) (by intro x hx k hk; simp at hx; rcases hx with rfl|rfl|rfl <;> simp [Item.fp] at hk <;> subst hk; exact .inl h5; exact .inl h6; exact .inl h7)⟩) ?_)
  rintro _ _ ⟨b,f,bd,rfl,rfl⟩
  refine oA ?_
  refine KC ?_
  refine KB ?_
  refine KB (KA ?_)
  refine oM ?_
  refine oP (KH (Det.eqp Try.underlying110 rfl rfl) (show _ = Value.bool false from rfl)) ?_
  refine KC ?_
  refine KM rfl ?_
  refine KN ?_
  refine KB ?_
  refine KB (KA ?_)
  refine oM ?_
  refine oP (KH (Det.eqs rfl rfl) (congrArg Value.bool (emp_f hs0))) ?_
  refine KC ?_
  refine KM rfl ?_
  refine KN ?_
  refine KB ?_
  refine rD [] ?_
  refine aM 0 ?_
  refine aP 1 rfl (KH (Ks Try.underlying9 rfl rfl (by omega) (by omega)) (show _ = .int .u8 ((4:Nat):Int) from congrArg (fun n:Nat=>Value.int .u8 ((n:Nat):Int)) hb)) ?_
  refine aP 2 rfl (KAc Try.underlying5 Try.underlying3 rfl (by omega)) ?_
  refine aM 3 ?_
  refine aP 4 rfl (KH (Det.slStrL Try.underlying9 rfl rfl (by omega) (by omega)) (show _ = Value.string (s.extract 1 s.size) from rfl)) ?_
  refine aA 5 ?_
  refine aA 6 ?_
  refine aE ?_
  refine KB (KA ?_)
  refine oS (mk (KU zr_35) (fun b9=>?_))
  refine KC ?_
  refine KB (KA ?_)
  refine oA ?_
  refine KC ?_
  refine KB ?_
  refine LCode.block ?_
  refine KB ?_
  have hrs:(s.extract 1 s.size).size = s.size-1:=by rw [KAm _ _ _ (Nat.le_refl _)]
  refine KA ?_
  refine oM ?_
  refine oP (KD (v:=.bool false) rfl rfl (br_f (KAC (b:=2)) (by decide))) ?_
  refine oM ?_
  refine oGM ?_
  refine oGP (KD (v:=.bool false) rfl rfl (br_f (KAC (b:=3)) (by decide))) ?_
  refine oP (KZ rfl rfl) ?_
  refine oM ?_
  refine oK ?_
  refine oK ?_
  refine oK ?_
  refine oK ?_
  refine oK ?_
  refine oK ?_
  refine oK ?_
  refine oK ?_
  refine oP (KZ rfl rfl) ?_
  refine oA ?_
  refine KC ?_
  refine KM rfl ?_
  refine KB (KA ?_)
  refine oM ?_
  refine oP (KD (v:=.bool true) rfl rfl (br_t (KAC (b:=4)) (rfl))) ?_
  refine oM ?_
  refine oGM ?_
  refine oGP (KAH Try.underlying9 rfl) ?_
  refine oGM ?_
  refine oGP (KR rfl) ?_
  refine oGP (KE (o':=0) Try.underlying129 rfl rfl rfl KAj (by decide)) ?_
  refine oGP (KE (o':=57) Try.underlying126 rfl rfl rfl sz_3 (by decide)) ?_
  refine KAM rfl rfl (dL rfl (hv:=KJ Try.underlying3 rfl (by exact cvC_gt_size _ _ _ _ _ _ _ _ _ _ _ _ _))) (Nb rfl) ?_
  refine oGP (KD rfl rfl (br_mul (a:=2) (by omega))) ?_
  refine oGP (KD (v:=.bool false) rfl rfl (br_f KAC ((by omega)))) ?_
  refine oP (Kc rfl rfl) ?_
  refine oA ?_
  refine KC ?_
  refine KM rfl ?_
  refine KB (KA ?_)
  refine oP (KH (Ko pl_35 zr_35 rfl rfl) pt_zero) ?_
  refine KQ rfl (sA rfl rfl sz_35 (by exact Ki _ _ _) (hl:=by exact KS _ _ _) (h:=?_))
  refine oP (KW (v:=.int .i64 ((2102:Nat):Int)) rfl) ?_
  refine KC (KL ?_)
  refine ⟨[_,_],.cons ⟨_,_,_,rfl,(by repeat (first|exact Mh _|apply Mt)),by exact KG Try.underlying35 rfl sz_35⟩ (.cons rfl .nil),fun a' w' hr=>⟨?_,hr.fr.below⟩⟩
  skip
  rfl
theorem c_s_Get_fo (id:Int) (V:Cv) (s:ByteArray) (w:World) (h:cvI id = some V) (hs0:s.size≠0) (hs:s.size<9223372036854775808) (hb2:b0 s≠2) (hb3:b0 s≠3) (hb4:b0 s≠4):Calls Try.prog 41 ([.int .i64 id,.string s]:List Value).toArray w (fun e w'=>e = .returned (.tuple #[ptV 0 0 false,.int .i64 ((2102:Nat):Int)])∧Below w.heap.size w w'):=by
  obtain ⟨hok,hid⟩:=cvI_ok h
  have hbb:=hok.bounds
  have hpW:V.p<W9:=KAO hbb.2.1
  have hnW:V.n<W9:=KAO hbb.2.2.2.2.2.2.1
  have hbl:=KAW hnW
  have hnb:nby V.n≤72:=by (unfold nby; omega)
  have hnp:nby V.p≤72:=by have:=KAW (KAO hbb.2.1); (unfold nby; omega)
  have hb256:=b0_lt s
  refine Ke (N:=102) (rs:=[.cell 4 35,.tmp 5]) [] Try.func41 rfl Try.ntmps41 Try.results41 (Nb rfl) trivial rfl ?_
  show LCode _ _ _ ⟨_,_⟩ _
  refine KB (KA ?_)
  refine oS (mk (KU zr_35) (fun b4=>?_))
  refine oP (KW (v:=.int .i64 ((0:Nat):Int)) rfl) ?_
  refine KC ?_
  refine KB (KA ?_)
  refine oM ?_
  refine oS (KAZ (Post:=fun v its=>∃ b f bd,v = .pointer (some ⟨b,0,none⟩)∧its = [.blk b ⟨false,opL V f,129,(0,0)⟩,.blk f ⟨false,fldL V.p bd,162,(0,0)⟩,.blk bd ⟨false,dvL V.p,212,(0,0)⟩]) (first:=[]) rfl en_80 rfl (Nb rfl) (fun w1 hw hs=>(c_Open _ V w1 h).mono fun e w' ⟨b,f,bd,h1,h2,h3,h4,h5,h6,h7,h8⟩=>⟨_,_,⟨b,f,bd,rfl,rfl⟩,h1,KAf h8 (by intro x hx; simp at hx; rcases hx with rfl|rfl|rfl; exact h2; exact h3; exact h4) (by intro x hx; simp at hx; rcases hx with rfl|rfl|rfl <;> rfl) (by intro x hx k hk; simp at hx; rcases hx with rfl|rfl|rfl <;> simp [Item.fp] at hk <;> subst hk; exact .inl h5; exact .inl h6; exact .inl h7)⟩) ?_)
  rintro _ _ ⟨b,f,bd,rfl,rfl⟩
  refine oA ?_
  refine KC ?_
  refine KB ?_
  refine KB (KA ?_)
  refine oM ?_
  refine oP (KH (Det.eqp Try.underlying110 rfl rfl) (show _ = Value.bool false from rfl)) ?_
  refine KC ?_
  refine KM rfl ?_
  refine KN ?_
  refine KB ?_
  refine KB (KA ?_)
  refine oM ?_
  refine oP (KH (Det.eqs rfl rfl) (congrArg Value.bool (emp_f hs0))) ?_
  refine KC ?_
  refine KM rfl ?_
  refine KN ?_
  refine KB ?_
  refine rD [] ?_
  refine aM 0 ?_
  refine aP 1 rfl (KH (Ks Try.underlying9 rfl rfl (by omega) (by omega)) (show _ = .int .u8 (((b0 s):Nat):Int) from congrArg (fun n:Nat=>Value.int .u8 ((n:Nat):Int)) rfl)) ?_
  refine aP 2 rfl (KAc Try.underlying5 Try.underlying3 rfl (by omega)) ?_
  refine aM 3 ?_
  refine aP 4 rfl (KH (Det.slStrL Try.underlying9 rfl rfl (by omega) (by omega)) (show _ = Value.string (s.extract 1 s.size) from rfl)) ?_
  refine aA 5 ?_
  refine aA 6 ?_
  refine aE ?_
  refine KB (KA ?_)
  refine oS (mk (KU zr_35) (fun b9=>?_))
  refine KC ?_
  refine KB (KA ?_)
  refine oA ?_
  refine KC ?_
  refine KB ?_
  refine LCode.block ?_
  refine KB ?_
  have hrs:(s.extract 1 s.size).size = s.size-1:=by rw [KAm _ _ _ (Nat.le_refl _)]
  refine KA ?_
  refine oM ?_
  refine oP (KD (v:=.bool false) rfl rfl (br_f (KAC (b:=2)) ((by omega)))) ?_
  refine oM ?_
  refine oGM ?_
  refine oGP (KD (v:=.bool false) rfl rfl (br_f (KAC (b:=3)) ((by omega)))) ?_
  refine oP (KZ rfl rfl) ?_
  refine oM ?_
  refine oK ?_
  refine oK ?_
  refine oK ?_
  refine oK ?_
  refine oK ?_
  refine oK ?_
  refine oK ?_
  refine oK ?_
  refine oP (KZ rfl rfl) ?_
  refine oA ?_
  refine KC ?_
  refine KM rfl ?_
  refine KB (KA ?_)
  refine oM ?_
  refine oP (KD (v:=.bool false) rfl rfl (br_f (KAC (b:=4)) ((by omega)))) ?_
  refine oM ?_
  refine oK ?_
  refine oK ?_
  refine oK ?_
  refine oK ?_
  refine oK ?_
  refine oK ?_
  refine oK ?_
  refine oK ?_
  refine oK ?_
  refine oP (KZ rfl rfl) ?_
  refine oA ?_
  refine KC ?_
  refine KM rfl ?_
  refine KB (KA ?_)
  refine oP (KH (Ko pl_35 zr_35 rfl rfl) pt_zero) ?_
  refine KQ rfl (sA rfl rfl sz_35 (by exact Ki _ _ _) (hl:=by exact KS _ _ _) (h:=?_))
  refine oP (KW (v:=.int .i64 ((2102:Nat):Int)) rfl) ?_
  refine KC (KL ?_)
  refine ⟨[_,_],.cons ⟨_,_,_,rfl,(by repeat (first|exact Mh _|apply Mt)),by exact KG Try.underlying35 rfl sz_35⟩ (.cons rfl .nil),fun a' w' hr=>⟨?_,hr.fr.below⟩⟩
  skip
  rfl
theorem c_s_Get_l (id:Int) (V:Cv) (s:ByteArray) (X Y:Nat) (ok:Bool) (w:World) (h:cvI id = some V) (hsz:s.size = 1+2*nby V.p) (hb:b0 s = 4) (hX:beVal (s.extract 1 (1+nby V.p)).data.toList = X) (hY:beVal (s.extract (1+nby V.p) s.size).data.toList = Y) (hXw:X<W9) (hYw:Y<W9) (hl:onB V.p V.a V.b X Y false = ok):Calls Try.prog 41 ([.int .i64 id,.string s]:List Value).toArray w (fun e w'=>e = .returned (getV V s)∧Below w.heap.size w w'):=by
  obtain ⟨hok,hid⟩:=cvI_ok h
  have hbb:=hok.bounds
  have hpW:V.p<W9:=KAO hbb.2.1
  have hnW:V.n<W9:=KAO hbb.2.2.2.2.2.2.1
  have hbl:=KAW hnW
  have hnb:nby V.n≤72:=by (unfold nby; omega)
  have hnp:nby V.p≤72:=by have:=KAW (KAO hbb.2.1); (unfold nby; omega)
  have hs0:s.size≠0:=by omega
  refine Ke (N:=102) (rs:=[.cell 4 35,.tmp 5]) [] Try.func41 rfl Try.ntmps41 Try.results41 (Nb rfl) trivial rfl ?_
  show LCode _ _ _ ⟨_,_⟩ _
  refine KB (KA ?_)
  refine oS (mk (KU zr_35) (fun b4=>?_))
  refine oP (KW (v:=.int .i64 ((0:Nat):Int)) rfl) ?_
  refine KC ?_
  refine KB (KA ?_)
  refine oM ?_
  refine oS (KAZ (Post:=fun v its=>∃ b f bd,v = .pointer (some ⟨b,0,none⟩)∧its = [.blk b ⟨false,opL V f,129,(0,0)⟩,.blk f ⟨false,fldL V.p bd,162,(0,0)⟩,.blk bd ⟨false,dvL V.p,212,(0,0)⟩]) (first:=[]) rfl en_80 rfl (Nb rfl) (fun w1 hw hs=>(c_Open _ V w1 h).mono fun e w' ⟨b,f,bd,h1,h2,h3,h4,h5,h6,h7,h8⟩=>⟨_,_,⟨b,f,bd,rfl,rfl⟩,h1,KAf h8 (by intro x hx; simp at hx; rcases hx with rfl|rfl|rfl; exact h2; exact h3; exact h4) (by intro x hx; simp at hx; rcases hx with rfl|rfl|rfl <;> rfl) (by intro x hx k hk; simp at hx; rcases hx with rfl|rfl|rfl <;> simp [Item.fp] at hk <;> subst hk; exact .inl h5; exact .inl h6; exact .inl h7)⟩) ?_)
  rintro _ _ ⟨b,f,bd,rfl,rfl⟩
  refine oA ?_
  refine KC ?_
  refine KB ?_
  refine KB (KA ?_)
  refine oM ?_
  refine oP (KH (Det.eqp Try.underlying110 rfl rfl) (show _ = Value.bool false from rfl)) ?_
  refine KC ?_
  refine KM rfl ?_
  refine KN ?_
  refine KB ?_
  refine KB (KA ?_)
  refine oM ?_
  refine oP (KH (Det.eqs rfl rfl) (congrArg Value.bool (emp_f hs0))) ?_
  refine KC ?_
  refine KM rfl ?_
  refine KN ?_
  refine KB ?_
  refine rD [] ?_
  refine aM 0 ?_
  refine aP 1 rfl (KH (Ks Try.underlying9 rfl rfl (by omega) (by omega)) (show _ = .int .u8 ((4:Nat):Int) from congrArg (fun n:Nat=>Value.int .u8 ((n:Nat):Int)) hb)) ?_
  refine aP 2 rfl (KAc Try.underlying5 Try.underlying3 rfl (by omega)) ?_
  refine aM 3 ?_
  refine aP 4 rfl (KH (Det.slStrL Try.underlying9 rfl rfl (by omega) (by omega)) (show _ = Value.string (s.extract 1 s.size) from rfl)) ?_
  refine aA 5 ?_
  refine aA 6 ?_
  refine aE ?_
  refine KB (KA ?_)
  refine oS (mk (KU zr_35) (fun b9=>?_))
  refine KC ?_
  refine KB (KA ?_)
  refine oA ?_
  refine KC ?_
  refine KB ?_
  refine LCode.block ?_
  refine KB ?_
  have hrs:(s.extract 1 s.size).size = s.size-1:=by rw [KAm _ _ _ (Nat.le_refl _)]
  refine KA ?_
  refine oM ?_
  refine oP (KD (v:=.bool false) rfl rfl (br_f (KAC (b:=2)) (by decide))) ?_
  refine oM ?_
  refine oGM ?_
  refine oGP (KD (v:=.bool false) rfl rfl (br_f (KAC (b:=3)) (by decide))) ?_
  refine oP (KZ rfl rfl) ?_
  refine oM ?_
  refine oK ?_
  refine oK ?_
  refine oK ?_
  refine oK ?_
  refine oK ?_
  refine oK ?_
  refine oK ?_
  refine oK ?_
  refine oP (KZ rfl rfl) ?_
  refine oA ?_
  refine KC ?_
  refine KM rfl ?_
  refine KB (KA ?_)
  refine oM ?_
  refine oP (KD (v:=.bool true) rfl rfl (br_t (KAC (b:=4)) (rfl))) ?_
  refine oM ?_
  refine oGM ?_
  refine oGP (KAH Try.underlying9 rfl) ?_
  refine oGM ?_
  refine oGP (KR rfl) ?_
  refine oGP (KE (o':=0) Try.underlying129 rfl rfl rfl KAj (by decide)) ?_
  refine oGP (KE (o':=57) Try.underlying126 rfl rfl rfl sz_3 (by decide)) ?_
  refine KAM rfl rfl (dL rfl (hv:=KJ Try.underlying3 rfl (by exact cvC_gt_size _ _ _ _ _ _ _ _ _ _ _ _ _))) (Nb rfl) ?_
  refine oGP (KD rfl rfl (br_mul (a:=2) (by omega))) ?_
  refine oGP (KD (v:=.bool true) rfl rfl (br_t KAC ((by omega)))) ?_
  refine oP (Kc rfl rfl) ?_
  refine oA ?_
  refine KC ?_
  refine Ka rfl ?_
  refine KB ?_
  refine LCode.sub (Sub.cells (b:=b9) (cs':=ptL 0 0 false) (by repeat (first|exact Sh _|apply St_)) ptX_zero) ?_
  refine KA ?_
  refine oM ?_
  refine oM ?_
  refine oP (KR rfl) ?_
  refine oP (KE (o':=0) Try.underlying129 rfl rfl rfl KAj (by decide)) ?_
  refine oP (KE (o':=57) Try.underlying126 rfl rfl rfl sz_3 (by decide)) ?_
  refine oD (dL rfl (hv:=KJ Try.underlying3 rfl (by exact cvC_gt_size _ _ _ _ _ _ _ _ _ _ _ _ _))) ?_
  refine oP (KH (Det.slStrH Try.underlying9 rfl rfl (by omega) (by omega)) (show _ = Value.string (s.extract 1 (1+nby V.p)) from by rw [Int.toNat_natCast,ext_ext s _ (by omega)])) ?_
  refine oS (cF rfl en_90 rfl (fun w hw=>c_nat_OfX X (s.extract 1 (1+nby V.p)) w (by rw [KAm _ _ _ (by omega)]; omega) hX) ?_)
  refine oM ?_
  refine oP (Det.extract rfl rfl) ?_
  refine oP (Det.extract rfl rfl) ?_
  refine oP (KE (o':=0) Try.underlying35 rfl rfl rfl sz_33 (by decide)) ?_
  refine KQ rfl (KAE rfl rfl rfl sz_33 (KF _) (Kf _) (by repeat (first|exact Sh _|apply St_)) (by simp only [KS]; decide) (ptX_set0 _ _ _ _) (by simp) ?_)
  refine KC ?_
  refine KB (KA ?_)
  refine oM ?_
  refine oM ?_
  refine oP (KR rfl) ?_
  refine oP (KE (o':=0) Try.underlying129 rfl rfl rfl KAj (by decide)) ?_
  refine oP (KE (o':=57) Try.underlying126 rfl rfl rfl sz_3 (by decide)) ?_
  refine oD (dL rfl (hv:=KJ Try.underlying3 rfl (by exact cvC_gt_size _ _ _ _ _ _ _ _ _ _ _ _ _))) ?_
  refine oP (KH (Det.slStrL Try.underlying9 rfl rfl (by omega) (by omega)) (show _ = Value.string (s.extract (1+nby V.p) s.size) from by rw [Int.toNat_natCast,ext_ext2 s _ (by omega)])) ?_
  refine oS (cF rfl en_90 rfl (fun w hw=>c_nat_OfX Y (s.extract (1+nby V.p) s.size) w (by rw [KAm _ _ _ (Nat.le_refl _)]; omega) hY) ?_)
  refine oM ?_
  refine oP (Det.extract rfl rfl) ?_
  refine oP (Det.extract rfl rfl) ?_
  refine oP (KE (o':=9) Try.underlying35 rfl rfl rfl sz_33 (by decide)) ?_
  refine KQ rfl (KAE rfl rfl rfl sz_33 (KF _) (Kf _) (by repeat (first|exact Sh _|apply St_)) (by simp only [KS]; decide) (ptX_set9 _ _ _ _) (by simp) ?_)
  refine KC ?_
  cases ok
  ·
    refine KA ?_
    refine oM ?_
    refine oD (dL rfl (hv:=by exact KG Try.underlying35 rfl sz_35)) ?_
    refine oS (cF rfl en_81 rfl (fun w hw=>c_cOnV false V b f bd hok X Y false w (mC hw) (mC hw) (mC hw) hXw hYw hl) ?_)
    refine oA ?_
    refine KC ?_
    refine KB ?_
    refine KB (KA ?_)
    refine oM ?_
    refine oP (KH (KAG rfl) (show _ = Value.bool true from rfl)) ?_
    refine KC ?_
    refine Ka rfl ?_
    refine KB (KA ?_)
    refine oP (KH (Ko pl_35 zr_35 rfl rfl) pt_zero) ?_
    refine KQ rfl (sA rfl rfl sz_35 (by exact Ki _ _ _) (hl:=by exact KS _ _ _) (h:=?_))
    refine oP (KW (v:=.int .i64 ((2101:Nat):Int)) rfl) ?_
    refine KC (KL ?_)
    refine ⟨[_,_],.cons ⟨_,_,_,rfl,(by repeat (first|exact Mh _|apply Mt)),by exact KG Try.underlying35 rfl sz_35⟩ (.cons rfl .nil),fun a' w' hr=>⟨?_,hr.fr.below⟩⟩
    subst hX hY
    rw [getV_eq (get_longF hsz hb hl)]
    rfl
  ·
    refine KA ?_
    refine oM ?_
    refine oD (dL rfl (hv:=by exact KG Try.underlying35 rfl sz_35)) ?_
    refine oS (cF rfl en_81 rfl (fun w hw=>c_cOnV true V b f bd hok X Y false w (mC hw) (mC hw) (mC hw) hXw hYw hl) ?_)
    refine oA ?_
    refine KC ?_
    refine KB ?_
    refine KB (KA ?_)
    refine oM ?_
    refine oP (KH (KAG rfl) (show _ = Value.bool false from rfl)) ?_
    refine KC ?_
    refine KM rfl ?_
    refine KN ?_
    refine KB (KA ?_)
    refine oD (dL rfl (hv:=by exact KG Try.underlying35 rfl sz_35)) ?_
    refine KQ rfl (sA rfl rfl sz_35 (by exact Ki _ _ _) (hl:=by exact KS _ _ _) (h:=?_))
    refine oP (KW (v:=.int .i64 ((0:Nat):Int)) rfl) ?_
    refine KC (KL ?_)
    refine ⟨[_,_],.cons ⟨_,_,_,rfl,(by repeat (first|exact Mh _|apply Mt)),by exact KG Try.underlying35 rfl sz_35⟩ (.cons rfl .nil),fun a' w' hr=>⟨?_,hr.fr.below⟩⟩
    subst hX hY
    rw [getV_eq (get_long hsz hb hl)]
    unfold getX getY
    rfl
end Go.Proofs.Ytlmiolnccgjjjaa
set_option linter.unusedVariables false
set_option linter.unusedSimpArgs false
set_option maxRecDepth 20000
namespace Go.Proofs.Ytlmiolnccgjjjaa
open Go Go.RowKit
theorem c_n_ReadX (X:Nat) (s:ByteArray) (w:World) (hs:s.size≤1000000) (hX:beVal s.data.toList = X):Calls Try.prog 92 ([.string s]:List Value).toArray w (fun e w'=>NumR w [] X (fun v=>v) e w'):=hX ▸ c_n_Read s w hs
theorem c_n_SqrtR (r:Nat) (ok:Bool) (V:Cv) (qa qp:NV) (R:Nat) (w:World) (hok:V.Ok) (hq:(numT qa R).holds w) (hp:(numT qp V.p).holds w) (hR:R<V.p) (h1:sqR V.p R = r) (h2:sqB V.p R = ok):Calls Try.prog 93 ([numV qa R,numV qp V.p]:List Value).toArray w (fun e w'=>NumR w [] r (fun v=>.tuple #[v,.bool ok]) e w'):=by
  subst h1 h2; exact c_n_Sqrt V qa qp ⟨R,hR⟩ w hok hq hp
theorem c_r_rightR (R:Nat) (Q:CQ) (V:Cv) (q:NV) (X:Nat) (w:World) (hc:(crvI Q V).holds w) (hok:V.Ok) (hq:(numT q X).holds w) (hX:X<V.p) (hR:rightN V.p V.a V.b X = R):Calls Try.prog 94 ([.agg (crvL Q V).toArray,numV q X]:List Value).toArray w (fun e w'=>NumR w [] R (fun v=>v) e w'):=hR ▸ c_r_right Q V q X w hc hok hq hX
theorem c_n_bit0 (v A:Nat) (q:NV) (w:World) (hq:(numT q A).holds w) (h:A%2 = v):Calls Try.prog 86 ([numV q A,.int .i64 0]:List Value).toArray w (fun e w'=>e = .returned (.int .i64 ((v:Nat):Int))∧Below w.heap.size w w'):=by
  have h1:=c_n_Bit q A (D.nw A) 0 w hq (by decide)
  rw [Nat.pow_zero,Nat.div_one,h] at h1
  exact h1
theorem nby_posV {V:Cv} (hok:V.Ok):1≤nby V.p:=by
  have hb:=hok.bounds
  have:=lt_blen V.p
  unfold nby
  rcases Nat.eq_zero_or_pos (blen V.p) with h|h
  · rw [h] at this; omega
  · omega
theorem rp_nilF:rpL (.slice none 0 0) (.slice none 0 0) false = rpL (numV ⟨true,0,0⟩ 0) (numV ⟨true,0,0⟩ 0) false:=by rw [← Option.some.inj numV_nil]
theorem c_r_Pt_f1 (Q:CQ) (V:Cv) (s:ByteArray) (w:World) (hc:(crvI Q V).holds w) (hok:V.Ok) (hs:s.size<9223372036854775808) (h1:s.size≠1+2*nby V.p) (h2:s.size≠1+nby V.p):Calls Try.prog 45 ([.agg (crvL Q V).toArray,.string s]:List Value).toArray w (fun e w'=>Num2R w [] 0 0 (fun u v=>.tuple #[rpV u v false,.int .i64 ((2102:Nat):Int)]) e w'):=by
  have hbb:=hok.bounds
  have hsz:=hok.sz
  have hnb:nby V.p≤72:=by have:=KAW (KAO hbb.2.1); (unfold nby; omega)
  have hk1:=nby_posV hok
  have hb256:=b0_lt s
  refine Ke (N:=103) (rs:=[.cell 4 38,.tmp 5]) [crvI Q V] Try.func45 rfl Try.ntmps45 Try.results45 (Nb rfl) ⟨hc,trivial⟩ rfl ?_
  show LCode _ _ _ ⟨_,_⟩ _
  refine KB (KA ?_)
  refine oS (mB (fun b2=>?_))
  refine oS (mk (KU zr_38) (fun b4=>?_))
  refine oP (KW (v:=.int .i64 ((0:Nat):Int)) rfl) ?_
  refine KC ?_
  refine KB (KA ?_)
  refine oD (dL rfl (hv:=by exact KG Try.underlying26 rfl sz_26)) ?_
  refine oS (cF rfl en_48 rfl (fun w hw=>KAn Q V w (mC hw) hsz) ?_)
  refine oA ?_
  refine KC ?_
  refine KB (KA ?_)
  refine oM ?_
  refine oP (KAH Try.underlying9 rfl) ?_
  refine oM ?_
  refine oP (KD rfl rfl (br_mul (a:=2) (by omega))) ?_
  refine oP (KD rfl rfl (Km (a:=1) (by omega))) ?_
  refine oP (KD (v:=.bool false) rfl rfl (br_f KAC (by omega))) ?_
  refine oM ?_
  refine oK ?_
  refine oK ?_
  refine oK ?_
  refine oP (KZ rfl rfl) ?_
  refine oA ?_
  refine KC ?_
  refine KB ?_
  refine KB (KA ?_)
  refine oM ?_
  refine oP (KH (KAG rfl) (show _ = Value.bool true from rfl)) ?_
  refine oM ?_
  refine oGM ?_
  refine oGP (KAH Try.underlying9 rfl) ?_
  refine oGM ?_
  refine oGP (KD rfl rfl (Km (a:=1) (by omega))) ?_
  refine oGP (KD (v:=.bool true) rfl rfl (br_t br_neq (by omega))) ?_
  refine oGM ?_
  refine oK ?_
  refine oK ?_
  refine oK ?_
  refine oK ?_
  refine Kt rfl rfl (Nb rfl) ?_
  refine Kt rfl rfl (Nb rfl) ?_
  refine Kt rfl rfl (Nb rfl) ?_
  refine oK ?_
  refine oGP (Kc rfl rfl) ?_
  refine oP (Kc rfl rfl) ?_
  refine KC ?_
  refine Ka rfl ?_
  refine KB (KA ?_)
  refine oP (KH (Ko pl_38 zr_38 rfl rfl) (show _ = rpV (.slice none 0 0) (.slice none 0 0) (false) from rfl)) ?_
  refine KQ rfl (sA rfl rfl sz_38 (by repeat (first|exact KT|refine KO rfl ?_)) (hl:=by first|rfl|(show _<3; decide)) (h:=?_))
  refine oP (KW (v:=.int .i64 ((2102:Nat):Int)) rfl) ?_
  refine KC (KL ?_)
  refine ⟨[_,_],.cons ⟨_,_,_,rfl,(by repeat (first|exact Mh _|apply Mt)),by exact KG Try.underlying38 rfl sz_38⟩ (.cons rfl .nil),fun a' w' hr=>⟨⟨true,0,0⟩,⟨true,0,0⟩,congrArg (fun l:List Value=>Ending.returned (.tuple #[.agg l.toArray,.int .i64 ((2102:Nat):Int)])) rp_nilF,Kw _,KAg _ _,Kw _,KAg _ _,hr.fr.below⟩⟩
theorem c_r_Pt_f2 (Q:CQ) (V:Cv) (s:ByteArray) (w:World) (hc:(crvI Q V).holds w) (hok:V.Ok) (hs:s.size<9223372036854775808) (h1:s.size = 1+2*nby V.p) (h2:b0 s≠4):Calls Try.prog 45 ([.agg (crvL Q V).toArray,.string s]:List Value).toArray w (fun e w'=>Num2R w [] 0 0 (fun u v=>.tuple #[rpV u v false,.int .i64 ((2102:Nat):Int)]) e w'):=by
  have hbb:=hok.bounds
  have hsz:=hok.sz
  have hnb:nby V.p≤72:=by have:=KAW (KAO hbb.2.1); (unfold nby; omega)
  have hk1:=nby_posV hok
  have hb256:=b0_lt s
  refine Ke (N:=103) (rs:=[.cell 4 38,.tmp 5]) [crvI Q V] Try.func45 rfl Try.ntmps45 Try.results45 (Nb rfl) ⟨hc,trivial⟩ rfl ?_
  show LCode _ _ _ ⟨_,_⟩ _
  refine KB (KA ?_)
  refine oS (mB (fun b2=>?_))
  refine oS (mk (KU zr_38) (fun b4=>?_))
  refine oP (KW (v:=.int .i64 ((0:Nat):Int)) rfl) ?_
  refine KC ?_
  refine KB (KA ?_)
  refine oD (dL rfl (hv:=by exact KG Try.underlying26 rfl sz_26)) ?_
  refine oS (cF rfl en_48 rfl (fun w hw=>KAn Q V w (mC hw) hsz) ?_)
  refine oA ?_
  refine KC ?_
  refine KB (KA ?_)
  refine oM ?_
  refine oP (KAH Try.underlying9 rfl) ?_
  refine oM ?_
  refine oP (KD rfl rfl (br_mul (a:=2) (by omega))) ?_
  refine oP (KD rfl rfl (Km (a:=1) (by omega))) ?_
  refine oP (KD (v:=.bool true) rfl rfl (br_t KAC (by omega))) ?_
  refine oM ?_
  refine oGM ?_
  refine oGP (KH (Ks Try.underlying9 rfl rfl (by omega) (by omega)) (show _ = .int .u8 (((b0 s):Nat):Int) from congrArg (fun n:Nat=>Value.int .u8 ((n:Nat):Int)) rfl)) ?_
  refine oGP (KD (v:=.bool false) rfl rfl (br_f (KAC (b:=4)) (by omega))) ?_
  refine oP (Kc rfl rfl) ?_
  refine oA ?_
  refine KC ?_
  refine KB ?_
  refine KB (KA ?_)
  refine oM ?_
  refine oP (KH (KAG rfl) (show _ = Value.bool true from rfl)) ?_
  refine oM ?_
  refine oGM ?_
  refine oGP (KAH Try.underlying9 rfl) ?_
  refine oGM ?_
  refine oGP (KD rfl rfl (Km (a:=1) (by omega))) ?_
  refine oGP (KD (v:=.bool true) rfl rfl (br_t br_neq (by omega))) ?_
  refine oGM ?_
  refine oK ?_
  refine oK ?_
  refine oK ?_
  refine oK ?_
  refine Kt rfl rfl (Nb rfl) ?_
  refine Kt rfl rfl (Nb rfl) ?_
  refine Kt rfl rfl (Nb rfl) ?_
  refine oK ?_
  refine oGP (Kc rfl rfl) ?_
  refine oP (Kc rfl rfl) ?_
  refine KC ?_
  refine Ka rfl ?_
  refine KB (KA ?_)
  refine oP (KH (Ko pl_38 zr_38 rfl rfl) (show _ = rpV (.slice none 0 0) (.slice none 0 0) (false) from rfl)) ?_
  refine KQ rfl (sA rfl rfl sz_38 (by repeat (first|exact KT|refine KO rfl ?_)) (hl:=by first|rfl|(show _<3; decide)) (h:=?_))
  refine oP (KW (v:=.int .i64 ((2102:Nat):Int)) rfl) ?_
  refine KC (KL ?_)
  refine ⟨[_,_],.cons ⟨_,_,_,rfl,(by repeat (first|exact Mh _|apply Mt)),by exact KG Try.underlying38 rfl sz_38⟩ (.cons rfl .nil),fun a' w' hr=>⟨⟨true,0,0⟩,⟨true,0,0⟩,congrArg (fun l:List Value=>Ending.returned (.tuple #[.agg l.toArray,.int .i64 ((2102:Nat):Int)])) rp_nilF,Kw _,KAg _ _,Kw _,KAg _ _,hr.fr.below⟩⟩
theorem c_r_Pt_f3 (Q:CQ) (V:Cv) (s:ByteArray) (w:World) (hc:(crvI Q V).holds w) (hok:V.Ok) (hs:s.size<9223372036854775808) (h1:s.size = 1+nby V.p) (h2:b0 s≠2) (h3:b0 s≠3):Calls Try.prog 45 ([.agg (crvL Q V).toArray,.string s]:List Value).toArray w (fun e w'=>Num2R w [] 0 0 (fun u v=>.tuple #[rpV u v false,.int .i64 ((2102:Nat):Int)]) e w'):=by
  have hbb:=hok.bounds
  have hsz:=hok.sz
  have hnb:nby V.p≤72:=by have:=KAW (KAO hbb.2.1); (unfold nby; omega)
  have hk1:=nby_posV hok
  have hb256:=b0_lt s
  refine Ke (N:=103) (rs:=[.cell 4 38,.tmp 5]) [crvI Q V] Try.func45 rfl Try.ntmps45 Try.results45 (Nb rfl) ⟨hc,trivial⟩ rfl ?_
  show LCode _ _ _ ⟨_,_⟩ _
  refine KB (KA ?_)
  refine oS (mB (fun b2=>?_))
  refine oS (mk (KU zr_38) (fun b4=>?_))
  refine oP (KW (v:=.int .i64 ((0:Nat):Int)) rfl) ?_
  refine KC ?_
  refine KB (KA ?_)
  refine oD (dL rfl (hv:=by exact KG Try.underlying26 rfl sz_26)) ?_
  refine oS (cF rfl en_48 rfl (fun w hw=>KAn Q V w (mC hw) hsz) ?_)
  refine oA ?_
  refine KC ?_
  refine KB (KA ?_)
  refine oM ?_
  refine oP (KAH Try.underlying9 rfl) ?_
  refine oM ?_
  refine oP (KD rfl rfl (br_mul (a:=2) (by omega))) ?_
  refine oP (KD rfl rfl (Km (a:=1) (by omega))) ?_
  refine oP (KD (v:=.bool false) rfl rfl (br_f KAC (by omega))) ?_
  refine oM ?_
  refine oK ?_
  refine oK ?_
  refine oK ?_
  refine oP (KZ rfl rfl) ?_
  refine oA ?_
  refine KC ?_
  refine KB ?_
  refine KB (KA ?_)
  refine oM ?_
  refine oP (KH (KAG rfl) (show _ = Value.bool true from rfl)) ?_
  refine oM ?_
  refine oGM ?_
  refine oGP (KAH Try.underlying9 rfl) ?_
  refine oGM ?_
  refine oGP (KD rfl rfl (Km (a:=1) (by omega))) ?_
  refine oGP (KD (v:=.bool false) rfl rfl (br_f br_neq (by omega))) ?_
  refine oGM ?_
  refine oGM ?_
  refine oGP (KH (Ks Try.underlying9 rfl rfl (by omega) (by omega)) (show _ = .int .u8 (((b0 s):Nat):Int) from congrArg (fun n:Nat=>Value.int .u8 ((n:Nat):Int)) rfl)) ?_
  refine oGP (KD (v:=.bool true) rfl rfl (br_t (br_neq (b:=2)) (by omega))) ?_
  refine oGM ?_
  refine oGM ?_
  refine oGP (KH (Ks Try.underlying9 rfl rfl (by omega) (by omega)) (show _ = .int .u8 (((b0 s):Nat):Int) from congrArg (fun n:Nat=>Value.int .u8 ((n:Nat):Int)) rfl)) ?_
  refine oGP (KD (v:=.bool true) rfl rfl (br_t (br_neq (b:=3)) (by omega))) ?_
  refine oGP (Kc rfl rfl) ?_
  refine oGP (KZ rfl rfl) ?_
  refine oP (Kc rfl rfl) ?_
  refine KC ?_
  refine Ka rfl ?_
  refine KB (KA ?_)
  refine oP (KH (Ko pl_38 zr_38 rfl rfl) (show _ = rpV (.slice none 0 0) (.slice none 0 0) (false) from rfl)) ?_
  refine KQ rfl (sA rfl rfl sz_38 (by repeat (first|exact KT|refine KO rfl ?_)) (hl:=by first|rfl|(show _<3; decide)) (h:=?_))
  refine oP (KW (v:=.int .i64 ((2102:Nat):Int)) rfl) ?_
  refine KC (KL ?_)
  refine ⟨[_,_],.cons ⟨_,_,_,rfl,(by repeat (first|exact Mh _|apply Mt)),by exact KG Try.underlying38 rfl sz_38⟩ (.cons rfl .nil),fun a' w' hr=>⟨⟨true,0,0⟩,⟨true,0,0⟩,congrArg (fun l:List Value=>Ending.returned (.tuple #[.agg l.toArray,.int .i64 ((2102:Nat):Int)])) rp_nilF,Kw _,KAg _ _,Kw _,KAg _ _,hr.fr.below⟩⟩
theorem c_r_Pt_xl (Q:CQ) (V:Cv) (s:ByteArray) (X:Nat) (w:World) (hc:(crvI Q V).holds w) (hok:V.Ok) (hs:s.size<9223372036854775808) (h1:s.size = 1+2*nby V.p) (hb:b0 s = 4) (hX:beVal (s.extract 1 (1+nby V.p)).data.toList = X) (hXw:X<W9) (hXp:¬ X<V.p):Calls Try.prog 45 ([.agg (crvL Q V).toArray,.string s]:List Value).toArray w (fun e w'=>Num2R w [] 0 0 (fun u v=>.tuple #[rpV u v false,.int .i64 ((2101:Nat):Int)]) e w'):=by
  have hbb:=hok.bounds
  have hsz:=hok.sz
  have hnb:nby V.p≤72:=by have:=KAW (KAO hbb.2.1); (unfold nby; omega)
  have hk1:=nby_posV hok
  have hb256:=b0_lt s
  have hXd:D.nw X≤1000000:=by have:=KAb hXw; omega
  refine Ke (N:=103) (rs:=[.cell 4 38,.tmp 5]) [crvI Q V] Try.func45 rfl Try.ntmps45 Try.results45 (Nb rfl) ⟨hc,trivial⟩ rfl ?_
  show LCode _ _ _ ⟨_,_⟩ _
  refine KB (KA ?_)
  refine oS (mB (fun b2=>?_))
  refine oS (mk (KU zr_38) (fun b4=>?_))
  refine oP (KW (v:=.int .i64 ((0:Nat):Int)) rfl) ?_
  refine KC ?_
  refine KB (KA ?_)
  refine oD (dL rfl (hv:=by exact KG Try.underlying26 rfl sz_26)) ?_
  refine oS (cF rfl en_48 rfl (fun w hw=>KAn Q V w (mC hw) hsz) ?_)
  refine oA ?_
  refine KC ?_
  refine KB (KA ?_)
  refine oM ?_
  refine oP (KAH Try.underlying9 rfl) ?_
  refine oM ?_
  refine oP (KD rfl rfl (br_mul (a:=2) (by omega))) ?_
  refine oP (KD rfl rfl (Km (a:=1) (by omega))) ?_
  refine oP (KD (v:=.bool true) rfl rfl (br_t KAC (by omega))) ?_
  refine oM ?_
  refine oGM ?_
  refine oGP (KH (Ks Try.underlying9 rfl rfl (by omega) (by omega)) (show _ = .int .u8 ((4:Nat):Int) from congrArg (fun n:Nat=>Value.int .u8 ((n:Nat):Int)) hb)) ?_
  refine oGP (KD (v:=.bool true) rfl rfl (br_t (KAC (b:=4)) (rfl))) ?_
  refine oP (Kc rfl rfl) ?_
  refine oA ?_
  refine KC ?_
  refine KB ?_
  refine KB (KA ?_)
  refine oM ?_
  refine oP (KH (KAG rfl) (show _ = Value.bool false from rfl)) ?_
  refine oM ?_
  refine oK ?_
  refine oK ?_
  refine oK ?_
  refine oK ?_
  refine oK ?_
  refine oK ?_
  refine Kt rfl rfl (Nb rfl) ?_
  refine Kt rfl rfl (Nb rfl) ?_
  refine Kt rfl rfl (Nb rfl) ?_
  refine Kt rfl rfl (Nb rfl) ?_
  refine Kt rfl rfl (Nb rfl) ?_
  refine Kt rfl rfl (Nb rfl) ?_
  refine Kt rfl rfl (Nb rfl) ?_
  refine Kt rfl rfl (Nb rfl) ?_
  refine oK ?_
  refine oP (KZ rfl rfl) ?_
  refine KC ?_
  refine KM rfl ?_
  refine KN ?_
  refine KB (KA ?_)
  refine oM ?_
  refine oM ?_
  refine oP (KD rfl rfl (Km (a:=1) (by omega))) ?_
  refine oP (KH (Det.slStrLH Try.underlying9 rfl rfl rfl (by omega) (by omega) (by omega)) (show _ = Value.string (s.extract 1 (1+nby V.p)) from by rw [Int.toNat_natCast]; rfl)) ?_
  refine oS (cZ rfl en_92 rfl (fun w hw hs=>(c_n_ReadX X (s.extract 1 (1+nby V.p)) w (by rw [KAm _ _ _ (by omega)]; omega) hX).mono fun e w' h=>Ky (Old.nil _) hs h) ?_)
  rintro _ _ ⟨q48,rfl,rfl,hn48⟩
  refine oP (KH (Ko pl_38 zr_38 rfl rfl) (show _ = rpV (numV q48 X) (.slice none 0 0) (false) from rfl)) ?_
  refine oS (mk (KU zr_38) (fun b8=>?_))
  refine KQ rfl (sA rfl rfl sz_38 (by repeat (first|exact KT|refine KO rfl ?_)) (hl:=by first|rfl|(show _<3; decide)) (h:=?_))
  refine KC ?_
  refine KB ?_
  refine KB (KA ?_)
  refine oP (KE (o':=0) Try.underlying38 rfl rfl rfl sz_24 (by decide)) ?_
  refine oD (dL rfl (hv:=KJ Try.underlying24 rfl (by first|rfl|exact Kb _ _ _ (by omega)|exact KY _ (by omega)|exact KX _ (by omega)|exact dv_m _ _ _ (by omega)))) ?_
  refine oP (KE (o':=1) Try.underlying26 rfl rfl rfl sz_24 (by decide)) ?_
  refine oD (dL rfl (hv:=KJ Try.underlying24 rfl (by first|rfl|exact Kb _ _ _ (by omega)|exact KY _ (by omega)|exact KX _ (by omega)|exact dv_m _ _ _ (by omega)))) ?_
  refine oS (cF rfl en_59 rfl (fun w hw=>c_n_Cmp q48 Q.p X V.p w (mC hw) (KAh (mC hw)) hXd) ?_)
  refine oP (KD (v:=.bool true) rfl rfl (br_t cmp_geq (Nat.le_of_not_lt hXp))) ?_
  refine KC ?_
  refine Ka rfl ?_
  refine KB (KA ?_)
  refine oP (KH (Ko pl_38 zr_38 rfl rfl) (show _ = rpV (.slice none 0 0) (.slice none 0 0) (false) from rfl)) ?_
  refine KQ rfl (sA rfl rfl sz_38 (by repeat (first|exact KT|refine KO rfl ?_)) (hl:=by first|rfl|(show _<3; decide)) (h:=?_))
  refine oP (KW (v:=.int .i64 ((2101:Nat):Int)) rfl) ?_
  refine KC (KL ?_)
  refine ⟨[_,_],.cons ⟨_,_,_,rfl,(by repeat (first|exact Mh _|apply Mt)),by exact KG Try.underlying38 rfl sz_38⟩ (.cons rfl .nil),fun a' w' hr=>⟨⟨true,0,0⟩,⟨true,0,0⟩,congrArg (fun l:List Value=>Ending.returned (.tuple #[.agg l.toArray,.int .i64 ((2101:Nat):Int)])) rp_nilF,Kw _,KAg _ _,Kw _,KAg _ _,hr.fr.below⟩⟩
theorem c_r_Pt_x0 (Q:CQ) (V:Cv) (s:ByteArray) (X:Nat) (w:World) (hc:(crvI Q V).holds w) (hok:V.Ok) (hs:s.size<9223372036854775808) (h1:s.size = 1+nby V.p) (hb:b0 s = 2) (hX:beVal (s.extract 1 (1+nby V.p)).data.toList = X) (hXw:X<W9) (hXp:¬ X<V.p):Calls Try.prog 45 ([.agg (crvL Q V).toArray,.string s]:List Value).toArray w (fun e w'=>Num2R w [] 0 0 (fun u v=>.tuple #[rpV u v false,.int .i64 ((2101:Nat):Int)]) e w'):=by
  have hbb:=hok.bounds
  have hsz:=hok.sz
  have hnb:nby V.p≤72:=by have:=KAW (KAO hbb.2.1); (unfold nby; omega)
  have hk1:=nby_posV hok
  have hb256:=b0_lt s
  have hXd:D.nw X≤1000000:=by have:=KAb hXw; omega
  refine Ke (N:=103) (rs:=[.cell 4 38,.tmp 5]) [crvI Q V] Try.func45 rfl Try.ntmps45 Try.results45 (Nb rfl) ⟨hc,trivial⟩ rfl ?_
  show LCode _ _ _ ⟨_,_⟩ _
  refine KB (KA ?_)
  refine oS (mB (fun b2=>?_))
  refine oS (mk (KU zr_38) (fun b4=>?_))
  refine oP (KW (v:=.int .i64 ((0:Nat):Int)) rfl) ?_
  refine KC ?_
  refine KB (KA ?_)
  refine oD (dL rfl (hv:=by exact KG Try.underlying26 rfl sz_26)) ?_
  refine oS (cF rfl en_48 rfl (fun w hw=>KAn Q V w (mC hw) hsz) ?_)
  refine oA ?_
  refine KC ?_
  refine KB (KA ?_)
  refine oM ?_
  refine oP (KAH Try.underlying9 rfl) ?_
  refine oM ?_
  refine oP (KD rfl rfl (br_mul (a:=2) (by omega))) ?_
  refine oP (KD rfl rfl (Km (a:=1) (by omega))) ?_
  refine oP (KD (v:=.bool false) rfl rfl (br_f KAC (by omega))) ?_
  refine oM ?_
  refine oK ?_
  refine oK ?_
  refine oK ?_
  refine oP (KZ rfl rfl) ?_
  refine oA ?_
  refine KC ?_
  refine KB ?_
  refine KB (KA ?_)
  refine oM ?_
  refine oP (KH (KAG rfl) (show _ = Value.bool true from rfl)) ?_
  refine oM ?_
  refine oGM ?_
  refine oGP (KAH Try.underlying9 rfl) ?_
  refine oGM ?_
  refine oGP (KD rfl rfl (Km (a:=1) (by omega))) ?_
  refine oGP (KD (v:=.bool false) rfl rfl (br_f br_neq (by omega))) ?_
  refine oGM ?_
  refine oGM ?_
  refine oGP (KH (Ks Try.underlying9 rfl rfl (by omega) (by omega)) (show _ = .int .u8 ((2:Nat):Int) from congrArg (fun n:Nat=>Value.int .u8 ((n:Nat):Int)) hb)) ?_
  refine oGP (KD (v:=.bool false) rfl rfl (br_f (br_neq (b:=2)) (by decide))) ?_
  refine oGM ?_
  refine oK ?_
  refine oK ?_
  refine oK ?_
  refine oGP (KZ rfl rfl) ?_
  refine oGP (KZ rfl rfl) ?_
  refine oP (Kc rfl rfl) ?_
  refine KC ?_
  refine KM rfl ?_
  refine KN ?_
  refine KB (KA ?_)
  refine oM ?_
  refine oM ?_
  refine oP (KD rfl rfl (Km (a:=1) (by omega))) ?_
  refine oP (KH (Det.slStrLH Try.underlying9 rfl rfl rfl (by omega) (by omega) (by omega)) (show _ = Value.string (s.extract 1 (1+nby V.p)) from by rw [Int.toNat_natCast]; rfl)) ?_
  refine oS (cZ rfl en_92 rfl (fun w hw hs=>(c_n_ReadX X (s.extract 1 (1+nby V.p)) w (by rw [KAm _ _ _ (by omega)]; omega) hX).mono fun e w' h=>Ky (Old.nil _) hs h) ?_)
  rintro _ _ ⟨q48,rfl,rfl,hn48⟩
  refine oP (KH (Ko pl_38 zr_38 rfl rfl) (show _ = rpV (numV q48 X) (.slice none 0 0) (false) from rfl)) ?_
  refine oS (mk (KU zr_38) (fun b8=>?_))
  refine KQ rfl (sA rfl rfl sz_38 (by repeat (first|exact KT|refine KO rfl ?_)) (hl:=by first|rfl|(show _<3; decide)) (h:=?_))
  refine KC ?_
  refine KB ?_
  refine KB (KA ?_)
  refine oP (KE (o':=0) Try.underlying38 rfl rfl rfl sz_24 (by decide)) ?_
  refine oD (dL rfl (hv:=KJ Try.underlying24 rfl (by first|rfl|exact Kb _ _ _ (by omega)|exact KY _ (by omega)|exact KX _ (by omega)|exact dv_m _ _ _ (by omega)))) ?_
  refine oP (KE (o':=1) Try.underlying26 rfl rfl rfl sz_24 (by decide)) ?_
  refine oD (dL rfl (hv:=KJ Try.underlying24 rfl (by first|rfl|exact Kb _ _ _ (by omega)|exact KY _ (by omega)|exact KX _ (by omega)|exact dv_m _ _ _ (by omega)))) ?_
  refine oS (cF rfl en_59 rfl (fun w hw=>c_n_Cmp q48 Q.p X V.p w (mC hw) (KAh (mC hw)) hXd) ?_)
  refine oP (KD (v:=.bool true) rfl rfl (br_t cmp_geq (Nat.le_of_not_lt hXp))) ?_
  refine KC ?_
  refine Ka rfl ?_
  refine KB (KA ?_)
  refine oP (KH (Ko pl_38 zr_38 rfl rfl) (show _ = rpV (.slice none 0 0) (.slice none 0 0) (false) from rfl)) ?_
  refine KQ rfl (sA rfl rfl sz_38 (by repeat (first|exact KT|refine KO rfl ?_)) (hl:=by first|rfl|(show _<3; decide)) (h:=?_))
  refine oP (KW (v:=.int .i64 ((2101:Nat):Int)) rfl) ?_
  refine KC (KL ?_)
  refine ⟨[_,_],.cons ⟨_,_,_,rfl,(by repeat (first|exact Mh _|apply Mt)),by exact KG Try.underlying38 rfl sz_38⟩ (.cons rfl .nil),fun a' w' hr=>⟨⟨true,0,0⟩,⟨true,0,0⟩,congrArg (fun l:List Value=>Ending.returned (.tuple #[.agg l.toArray,.int .i64 ((2101:Nat):Int)])) rp_nilF,Kw _,KAg _ _,Kw _,KAg _ _,hr.fr.below⟩⟩
theorem c_r_Pt_x1 (Q:CQ) (V:Cv) (s:ByteArray) (X:Nat) (w:World) (hc:(crvI Q V).holds w) (hok:V.Ok) (hs:s.size<9223372036854775808) (h1:s.size = 1+nby V.p) (hb:b0 s = 3) (hX:beVal (s.extract 1 (1+nby V.p)).data.toList = X) (hXw:X<W9) (hXp:¬ X<V.p):Calls Try.prog 45 ([.agg (crvL Q V).toArray,.string s]:List Value).toArray w (fun e w'=>Num2R w [] 0 0 (fun u v=>.tuple #[rpV u v false,.int .i64 ((2101:Nat):Int)]) e w'):=by
  have hbb:=hok.bounds
  have hsz:=hok.sz
  have hnb:nby V.p≤72:=by have:=KAW (KAO hbb.2.1); (unfold nby; omega)
  have hk1:=nby_posV hok
  have hb256:=b0_lt s
  have hXd:D.nw X≤1000000:=by have:=KAb hXw; omega
  refine Ke (N:=103) (rs:=[.cell 4 38,.tmp 5]) [crvI Q V] Try.func45 rfl Try.ntmps45 Try.results45 (Nb rfl) ⟨hc,trivial⟩ rfl ?_
  show LCode _ _ _ ⟨_,_⟩ _
  refine KB (KA ?_)
  refine oS (mB (fun b2=>?_))
  refine oS (mk (KU zr_38) (fun b4=>?_))
  refine oP (KW (v:=.int .i64 ((0:Nat):Int)) rfl) ?_
  refine KC ?_
  refine KB (KA ?_)
  refine oD (dL rfl (hv:=by exact KG Try.underlying26 rfl sz_26)) ?_
  refine oS (cF rfl en_48 rfl (fun w hw=>KAn Q V w (mC hw) hsz) ?_)
  refine oA ?_
  refine KC ?_
  refine KB (KA ?_)
  refine oM ?_
  refine oP (KAH Try.underlying9 rfl) ?_
  refine oM ?_
  refine oP (KD rfl rfl (br_mul (a:=2) (by omega))) ?_
  refine oP (KD rfl rfl (Km (a:=1) (by omega))) ?_
  refine oP (KD (v:=.bool false) rfl rfl (br_f KAC (by omega))) ?_
  refine oM ?_
  refine oK ?_
  refine oK ?_
  refine oK ?_
  refine oP (KZ rfl rfl) ?_
  refine oA ?_
  refine KC ?_
  refine KB ?_
  refine KB (KA ?_)
  refine oM ?_
  refine oP (KH (KAG rfl) (show _ = Value.bool true from rfl)) ?_
  refine oM ?_
  refine oGM ?_
  refine oGP (KAH Try.underlying9 rfl) ?_
  refine oGM ?_
  refine oGP (KD rfl rfl (Km (a:=1) (by omega))) ?_
  refine oGP (KD (v:=.bool false) rfl rfl (br_f br_neq (by omega))) ?_
  refine oGM ?_
  refine oGM ?_
  refine oGP (KH (Ks Try.underlying9 rfl rfl (by omega) (by omega)) (show _ = .int .u8 ((3:Nat):Int) from congrArg (fun n:Nat=>Value.int .u8 ((n:Nat):Int)) hb)) ?_
  refine oGP (KD (v:=.bool true) rfl rfl (br_t (br_neq (b:=2)) (by decide))) ?_
  refine oGM ?_
  refine oGM ?_
  refine oGP (KH (Ks Try.underlying9 rfl rfl (by omega) (by omega)) (show _ = .int .u8 ((3:Nat):Int) from congrArg (fun n:Nat=>Value.int .u8 ((n:Nat):Int)) hb)) ?_
  refine oGP (KD (v:=.bool false) rfl rfl (br_f (br_neq (b:=3)) (by decide))) ?_
  refine oGP (Kc rfl rfl) ?_
  refine oGP (KZ rfl rfl) ?_
  refine oP (Kc rfl rfl) ?_
  refine KC ?_
  refine KM rfl ?_
  refine KN ?_
  refine KB (KA ?_)
  refine oM ?_
  refine oM ?_
  refine oP (KD rfl rfl (Km (a:=1) (by omega))) ?_
  refine oP (KH (Det.slStrLH Try.underlying9 rfl rfl rfl (by omega) (by omega) (by omega)) (show _ = Value.string (s.extract 1 (1+nby V.p)) from by rw [Int.toNat_natCast]; rfl)) ?_
  refine oS (cZ rfl en_92 rfl (fun w hw hs=>(c_n_ReadX X (s.extract 1 (1+nby V.p)) w (by rw [KAm _ _ _ (by omega)]; omega) hX).mono fun e w' h=>Ky (Old.nil _) hs h) ?_)
  rintro _ _ ⟨q48,rfl,rfl,hn48⟩
  refine oP (KH (Ko pl_38 zr_38 rfl rfl) (show _ = rpV (numV q48 X) (.slice none 0 0) (false) from rfl)) ?_
  refine oS (mk (KU zr_38) (fun b8=>?_))
  refine KQ rfl (sA rfl rfl sz_38 (by repeat (first|exact KT|refine KO rfl ?_)) (hl:=by first|rfl|(show _<3; decide)) (h:=?_))
  refine KC ?_
  refine KB ?_
  refine KB (KA ?_)
  refine oP (KE (o':=0) Try.underlying38 rfl rfl rfl sz_24 (by decide)) ?_
  refine oD (dL rfl (hv:=KJ Try.underlying24 rfl (by first|rfl|exact Kb _ _ _ (by omega)|exact KY _ (by omega)|exact KX _ (by omega)|exact dv_m _ _ _ (by omega)))) ?_
  refine oP (KE (o':=1) Try.underlying26 rfl rfl rfl sz_24 (by decide)) ?_
  refine oD (dL rfl (hv:=KJ Try.underlying24 rfl (by first|rfl|exact Kb _ _ _ (by omega)|exact KY _ (by omega)|exact KX _ (by omega)|exact dv_m _ _ _ (by omega)))) ?_
  refine oS (cF rfl en_59 rfl (fun w hw=>c_n_Cmp q48 Q.p X V.p w (mC hw) (KAh (mC hw)) hXd) ?_)
  refine oP (KD (v:=.bool true) rfl rfl (br_t cmp_geq (Nat.le_of_not_lt hXp))) ?_
  refine KC ?_
  refine Ka rfl ?_
  refine KB (KA ?_)
  refine oP (KH (Ko pl_38 zr_38 rfl rfl) (show _ = rpV (.slice none 0 0) (.slice none 0 0) (false) from rfl)) ?_
  refine KQ rfl (sA rfl rfl sz_38 (by repeat (first|exact KT|refine KO rfl ?_)) (hl:=by first|rfl|(show _<3; decide)) (h:=?_))
  refine oP (KW (v:=.int .i64 ((2101:Nat):Int)) rfl) ?_
  refine KC (KL ?_)
  refine ⟨[_,_],.cons ⟨_,_,_,rfl,(by repeat (first|exact Mh _|apply Mt)),by exact KG Try.underlying38 rfl sz_38⟩ (.cons rfl .nil),fun a' w' hr=>⟨⟨true,0,0⟩,⟨true,0,0⟩,congrArg (fun l:List Value=>Ending.returned (.tuple #[.agg l.toArray,.int .i64 ((2101:Nat):Int)])) rp_nilF,Kw _,KAg _ _,Kw _,KAg _ _,hr.fr.below⟩⟩
theorem c_r_Pt_l0 (Q:CQ) (V:Cv) (s:ByteArray) (X Y:Nat) (w:World) (hc:(crvI Q V).holds w) (hok:V.Ok) (hs:s.size<9223372036854775808) (h1:s.size = 1+2*nby V.p) (hb:b0 s = 4) (hX:beVal (s.extract 1 (1+nby V.p)).data.toList = X) (hXw:X<W9) (hY:beVal (s.extract (1+nby V.p) s.size).data.toList = Y) (hYw:Y<W9) (hXp:X<V.p) (hon:onB V.p V.a V.b X Y false = false):Calls Try.prog 45 ([.agg (crvL Q V).toArray,.string s]:List Value).toArray w (fun e w'=>Num2R w [] 0 0 (fun u v=>.tuple #[rpV u v false,.int .i64 ((2101:Nat):Int)]) e w'):=by
  have hbb:=hok.bounds
  have hsz:=hok.sz
  have hnb:nby V.p≤72:=by have:=KAW (KAO hbb.2.1); (unfold nby; omega)
  have hk1:=nby_posV hok
  have hb256:=b0_lt s
  have hXd:D.nw X≤1000000:=by have:=KAb hXw; omega
  have hYd:D.nw Y≤1000:=by have:=KAb hYw; omega
  have hXd2:D.nw X≤1000:=by have:=KAb hXw; omega
  refine Ke (N:=103) (rs:=[.cell 4 38,.tmp 5]) [crvI Q V] Try.func45 rfl Try.ntmps45 Try.results45 (Nb rfl) ⟨hc,trivial⟩ rfl ?_
  show LCode _ _ _ ⟨_,_⟩ _
  refine KB (KA ?_)
  refine oS (mB (fun b2=>?_))
  refine oS (mk (KU zr_38) (fun b4=>?_))
  refine oP (KW (v:=.int .i64 ((0:Nat):Int)) rfl) ?_
  refine KC ?_
  refine KB (KA ?_)
  refine oD (dL rfl (hv:=by exact KG Try.underlying26 rfl sz_26)) ?_
  refine oS (cF rfl en_48 rfl (fun w hw=>KAn Q V w (mC hw) hsz) ?_)
  refine oA ?_
  refine KC ?_
  refine KB (KA ?_)
  refine oM ?_
  refine oP (KAH Try.underlying9 rfl) ?_
  refine oM ?_
  refine oP (KD rfl rfl (br_mul (a:=2) (by omega))) ?_
  refine oP (KD rfl rfl (Km (a:=1) (by omega))) ?_
  refine oP (KD (v:=.bool true) rfl rfl (br_t KAC (by omega))) ?_
  refine oM ?_
  refine oGM ?_
  refine oGP (KH (Ks Try.underlying9 rfl rfl (by omega) (by omega)) (show _ = .int .u8 ((4:Nat):Int) from congrArg (fun n:Nat=>Value.int .u8 ((n:Nat):Int)) hb)) ?_
  refine oGP (KD (v:=.bool true) rfl rfl (br_t (KAC (b:=4)) (rfl))) ?_
  refine oP (Kc rfl rfl) ?_
  refine oA ?_
  refine KC ?_
  refine KB ?_
  refine KB (KA ?_)
  refine oM ?_
  refine oP (KH (KAG rfl) (show _ = Value.bool false from rfl)) ?_
  refine oM ?_
  refine oK ?_
  refine oK ?_
  refine oK ?_
  refine oK ?_
  refine oK ?_
  refine oK ?_
  refine Kt rfl rfl (Nb rfl) ?_
  refine Kt rfl rfl (Nb rfl) ?_
  refine Kt rfl rfl (Nb rfl) ?_
  refine Kt rfl rfl (Nb rfl) ?_
  refine Kt rfl rfl (Nb rfl) ?_
  refine Kt rfl rfl (Nb rfl) ?_
  refine Kt rfl rfl (Nb rfl) ?_
  refine Kt rfl rfl (Nb rfl) ?_
  refine oK ?_
  refine oP (KZ rfl rfl) ?_
  refine KC ?_
  refine KM rfl ?_
  refine KN ?_
  refine KB (KA ?_)
  refine oM ?_
  refine oM ?_
  refine oP (KD rfl rfl (Km (a:=1) (by omega))) ?_
  refine oP (KH (Det.slStrLH Try.underlying9 rfl rfl rfl (by omega) (by omega) (by omega)) (show _ = Value.string (s.extract 1 (1+nby V.p)) from by rw [Int.toNat_natCast]; rfl)) ?_
  refine oS (cZ rfl en_92 rfl (fun w hw hs=>(c_n_ReadX X (s.extract 1 (1+nby V.p)) w (by rw [KAm _ _ _ (by omega)]; omega) hX).mono fun e w' h=>Ky (Old.nil _) hs h) ?_)
  rintro _ _ ⟨q48,rfl,rfl,hn48⟩
  refine oP (KH (Ko pl_38 zr_38 rfl rfl) (show _ = rpV (numV q48 X) (.slice none 0 0) (false) from rfl)) ?_
  refine oS (mk (KU zr_38) (fun b8=>?_))
  refine KQ rfl (sA rfl rfl sz_38 (by repeat (first|exact KT|refine KO rfl ?_)) (hl:=by first|rfl|(show _<3; decide)) (h:=?_))
  refine KC ?_
  refine KB ?_
  refine KB (KA ?_)
  refine oP (KE (o':=0) Try.underlying38 rfl rfl rfl sz_24 (by decide)) ?_
  refine oD (dL rfl (hv:=KJ Try.underlying24 rfl (by first|rfl|exact Kb _ _ _ (by omega)|exact KY _ (by omega)|exact KX _ (by omega)|exact dv_m _ _ _ (by omega)))) ?_
  refine oP (KE (o':=1) Try.underlying26 rfl rfl rfl sz_24 (by decide)) ?_
  refine oD (dL rfl (hv:=KJ Try.underlying24 rfl (by first|rfl|exact Kb _ _ _ (by omega)|exact KY _ (by omega)|exact KX _ (by omega)|exact dv_m _ _ _ (by omega)))) ?_
  refine oS (cF rfl en_59 rfl (fun w hw=>c_n_Cmp q48 Q.p X V.p w (mC hw) (KAh (mC hw)) hXd) ?_)
  refine oP (KD (v:=.bool false) rfl rfl (br_f cmp_geq (Nat.not_le_of_gt hXp))) ?_
  refine KC ?_
  refine KM rfl ?_
  refine KN ?_
  refine KB ?_
  refine KB (KA ?_)
  refine oM ?_
  refine KC ?_
  refine Ka rfl ?_
  refine KB (KA ?_)
  refine oM ?_
  refine oM ?_
  refine oP (KD rfl rfl (Km (a:=1) (by omega))) ?_
  refine oP (KH (Det.slStrL Try.underlying9 rfl rfl (by omega) (by omega)) (show _ = Value.string (s.extract (1+nby V.p) s.size) from by rw [Int.toNat_natCast])) ?_
  refine oS (cZ rfl en_92 rfl (fun w hw hs=>(c_n_ReadX Y (s.extract (1+nby V.p) s.size) w (by rw [KAm _ _ _ (Nat.le_refl _)]; omega) hY).mono fun e w' h=>Ky (Old.nil _) hs h) ?_)
  rintro _ _ ⟨q62,rfl,rfl,hn62⟩
  refine oP (KE (o':=1) Try.underlying38 rfl rfl rfl sz_24 (by decide)) ?_
  refine KQ rfl (Kg rfl rfl rfl sz_24 (by repeat (first|exact Sh _|apply St_)) (by first|rfl|(show _<3; decide)) (by first|exact KAI _ _ _ _ _|exact KAL _ _ _ _ (by omega)|exact KAK _ _ _ _|rfl) (by simp) ?_)
  refine KC ?_
  refine KB ?_
  refine KB (KA ?_)
  refine oD (dL rfl (hv:=by exact KG Try.underlying26 rfl sz_26)) ?_
  refine oD (dL rfl (hv:=by exact KG Try.underlying38 rfl sz_38)) ?_
  refine oS (cF rfl en_54 rfl (fun w hw=>c_r_OnV false Q V q48 q62 X Y false w (mC hw) hok (mC hw) (mC hw) hXd2 hYd hon) ?_)
  refine oP (KH (KAG rfl) (show _ = Value.bool true from rfl)) ?_
  refine KC ?_
  refine Ka rfl ?_
  refine KB (KA ?_)
  refine oP (KH (Ko pl_38 zr_38 rfl rfl) (show _ = rpV (.slice none 0 0) (.slice none 0 0) (false) from rfl)) ?_
  refine KQ rfl (sA rfl rfl sz_38 (by repeat (first|exact KT|refine KO rfl ?_)) (hl:=by first|rfl|(show _<3; decide)) (h:=?_))
  refine oP (KW (v:=.int .i64 ((2101:Nat):Int)) rfl) ?_
  refine KC (KL ?_)
  refine ⟨[_,_],.cons ⟨_,_,_,rfl,(by repeat (first|exact Mh _|apply Mt)),by exact KG Try.underlying38 rfl sz_38⟩ (.cons rfl .nil),fun a' w' hr=>⟨⟨true,0,0⟩,⟨true,0,0⟩,congrArg (fun l:List Value=>Ending.returned (.tuple #[.agg l.toArray,.int .i64 ((2101:Nat):Int)])) rp_nilF,Kw _,KAg _ _,Kw _,KAg _ _,hr.fr.below⟩⟩
theorem c_r_Pt_l1 (Q:CQ) (V:Cv) (s:ByteArray) (X Y:Nat) (w:World) (hc:(crvI Q V).holds w) (hok:V.Ok) (hs:s.size<9223372036854775808) (h1:s.size = 1+2*nby V.p) (hb:b0 s = 4) (hX:beVal (s.extract 1 (1+nby V.p)).data.toList = X) (hXw:X<W9) (hY:beVal (s.extract (1+nby V.p) s.size).data.toList = Y) (hYw:Y<W9) (hXp:X<V.p) (hon:onB V.p V.a V.b X Y false = true):Calls Try.prog 45 ([.agg (crvL Q V).toArray,.string s]:List Value).toArray w (fun e w'=>Num2R w [] X Y (fun u v=>.tuple #[rpV u v false,.int .i64 ((0:Nat):Int)]) e w'):=by
  have hbb:=hok.bounds
  have hsz:=hok.sz
  have hnb:nby V.p≤72:=by have:=KAW (KAO hbb.2.1); (unfold nby; omega)
  have hk1:=nby_posV hok
  have hb256:=b0_lt s
  have hXd:D.nw X≤1000000:=by have:=KAb hXw; omega
  have hYd:D.nw Y≤1000:=by have:=KAb hYw; omega
  have hXd2:D.nw X≤1000:=by have:=KAb hXw; omega
  refine Ke (N:=103) (rs:=[.cell 4 38,.tmp 5]) [crvI Q V] Try.func45 rfl Try.ntmps45 Try.results45 (Nb rfl) ⟨hc,trivial⟩ rfl ?_
  show LCode _ _ _ ⟨_,_⟩ _
  refine KB (KA ?_)
  refine oS (mB (fun b2=>?_))
  refine oS (mk (KU zr_38) (fun b4=>?_))
  refine oP (KW (v:=.int .i64 ((0:Nat):Int)) rfl) ?_
  refine KC ?_
  refine KB (KA ?_)
  refine oD (dL rfl (hv:=by exact KG Try.underlying26 rfl sz_26)) ?_
  refine oS (cF rfl en_48 rfl (fun w hw=>KAn Q V w (mC hw) hsz) ?_)
  refine oA ?_
  refine KC ?_
  refine KB (KA ?_)
  refine oM ?_
  refine oP (KAH Try.underlying9 rfl) ?_
  refine oM ?_
  refine oP (KD rfl rfl (br_mul (a:=2) (by omega))) ?_
  refine oP (KD rfl rfl (Km (a:=1) (by omega))) ?_
  refine oP (KD (v:=.bool true) rfl rfl (br_t KAC (by omega))) ?_
  refine oM ?_
  refine oGM ?_
  refine oGP (KH (Ks Try.underlying9 rfl rfl (by omega) (by omega)) (show _ = .int .u8 ((4:Nat):Int) from congrArg (fun n:Nat=>Value.int .u8 ((n:Nat):Int)) hb)) ?_
  refine oGP (KD (v:=.bool true) rfl rfl (br_t (KAC (b:=4)) (rfl))) ?_
  refine oP (Kc rfl rfl) ?_
  refine oA ?_
  refine KC ?_
  refine KB ?_
  refine KB (KA ?_)
  refine oM ?_
  refine oP (KH (KAG rfl) (show _ = Value.bool false from rfl)) ?_
  refine oM ?_
  refine oK ?_
  refine oK ?_
  refine oK ?_
  refine oK ?_
  refine oK ?_
  refine oK ?_
  refine Kt rfl rfl (Nb rfl) ?_
  refine Kt rfl rfl (Nb rfl) ?_
  refine Kt rfl rfl (Nb rfl) ?_
  refine Kt rfl rfl (Nb rfl) ?_
  refine Kt rfl rfl (Nb rfl) ?_
  refine Kt rfl rfl (Nb rfl) ?_
  refine Kt rfl rfl (Nb rfl) ?_
  refine Kt rfl rfl (Nb rfl) ?_
  refine oK ?_
  refine oP (KZ rfl rfl) ?_
  refine KC ?_
  refine KM rfl ?_
  refine KN ?_
  refine KB (KA ?_)
  refine oM ?_
  refine oM ?_
  refine oP (KD rfl rfl (Km (a:=1) (by omega))) ?_
  refine oP (KH (Det.slStrLH Try.underlying9 rfl rfl rfl (by omega) (by omega) (by omega)) (show _ = Value.string (s.extract 1 (1+nby V.p)) from by rw [Int.toNat_natCast]; rfl)) ?_
  refine oS (cZ rfl en_92 rfl (fun w hw hs=>(c_n_ReadX X (s.extract 1 (1+nby V.p)) w (by rw [KAm _ _ _ (by omega)]; omega) hX).mono fun e w' h=>Ky (Old.nil _) hs h) ?_)
  rintro _ _ ⟨q48,rfl,rfl,hn48⟩
  refine oP (KH (Ko pl_38 zr_38 rfl rfl) (show _ = rpV (numV q48 X) (.slice none 0 0) (false) from rfl)) ?_
  refine oS (mk (KU zr_38) (fun b8=>?_))
  refine KQ rfl (sA rfl rfl sz_38 (by repeat (first|exact KT|refine KO rfl ?_)) (hl:=by first|rfl|(show _<3; decide)) (h:=?_))
  refine KC ?_
  refine KB ?_
  refine KB (KA ?_)
  refine oP (KE (o':=0) Try.underlying38 rfl rfl rfl sz_24 (by decide)) ?_
  refine oD (dL rfl (hv:=KJ Try.underlying24 rfl (by first|rfl|exact Kb _ _ _ (by omega)|exact KY _ (by omega)|exact KX _ (by omega)|exact dv_m _ _ _ (by omega)))) ?_
  refine oP (KE (o':=1) Try.underlying26 rfl rfl rfl sz_24 (by decide)) ?_
  refine oD (dL rfl (hv:=KJ Try.underlying24 rfl (by first|rfl|exact Kb _ _ _ (by omega)|exact KY _ (by omega)|exact KX _ (by omega)|exact dv_m _ _ _ (by omega)))) ?_
  refine oS (cF rfl en_59 rfl (fun w hw=>c_n_Cmp q48 Q.p X V.p w (mC hw) (KAh (mC hw)) hXd) ?_)
  refine oP (KD (v:=.bool false) rfl rfl (br_f cmp_geq (Nat.not_le_of_gt hXp))) ?_
  refine KC ?_
  refine KM rfl ?_
  refine KN ?_
  refine KB ?_
  refine KB (KA ?_)
  refine oM ?_
  refine KC ?_
  refine Ka rfl ?_
  refine KB (KA ?_)
  refine oM ?_
  refine oM ?_
  refine oP (KD rfl rfl (Km (a:=1) (by omega))) ?_
  refine oP (KH (Det.slStrL Try.underlying9 rfl rfl (by omega) (by omega)) (show _ = Value.string (s.extract (1+nby V.p) s.size) from by rw [Int.toNat_natCast])) ?_
  refine oS (cZ rfl en_92 rfl (fun w hw hs=>(c_n_ReadX Y (s.extract (1+nby V.p) s.size) w (by rw [KAm _ _ _ (Nat.le_refl _)]; omega) hY).mono fun e w' h=>Ky (Old.nil _) hs h) ?_)
  rintro _ _ ⟨q62,rfl,rfl,hn62⟩
  refine oP (KE (o':=1) Try.underlying38 rfl rfl rfl sz_24 (by decide)) ?_
  refine KQ rfl (Kg rfl rfl rfl sz_24 (by repeat (first|exact Sh _|apply St_)) (by first|rfl|(show _<3; decide)) (by first|exact KAI _ _ _ _ _|exact KAL _ _ _ _ (by omega)|exact KAK _ _ _ _|rfl) (by simp) ?_)
  refine KC ?_
  refine KB ?_
  refine KB (KA ?_)
  refine oD (dL rfl (hv:=by exact KG Try.underlying26 rfl sz_26)) ?_
  refine oD (dL rfl (hv:=by exact KG Try.underlying38 rfl sz_38)) ?_
  refine oS (cF rfl en_54 rfl (fun w hw=>c_r_OnV true Q V q48 q62 X Y false w (mC hw) hok (mC hw) (mC hw) hXd2 hYd hon) ?_)
  refine oP (KH (KAG rfl) (show _ = Value.bool false from rfl)) ?_
  refine KC ?_
  refine KM rfl ?_
  refine KN ?_
  refine KB (KA ?_)
  refine oD (dL rfl (hv:=by exact KG Try.underlying38 rfl sz_38)) ?_
  refine KQ rfl (sA rfl rfl sz_38 (by repeat (first|exact KT|refine KO rfl ?_)) (hl:=by first|rfl|(show _<3; decide)) (h:=?_))
  refine oP (KW (v:=.int .i64 ((0:Nat):Int)) rfl) ?_
  refine KC (KL ?_)
  refine ⟨[_,_],.cons ⟨_,_,_,rfl,(by repeat (first|exact Mh _|apply Mt)),by exact KG Try.underlying38 rfl sz_38⟩ (.cons rfl .nil),fun a' w' hr=>hr.num2Q (q:=q48) (r:=q62) (mk:=fun u v=>.tuple #[rpV u v false,.int .i64 ((0:Nat):Int)]) (by repeat (first|exact Mh _|apply Mt)) hn48 (by repeat (first|exact Mh _|apply Mt)) hn62⟩
theorem c_r_Pt_n0 (Q:CQ) (V:Cv) (s:ByteArray) (X R:Nat) (w:World) (hc:(crvI Q V).holds w) (hok:V.Ok) (hs:s.size<9223372036854775808) (h1:s.size = 1+nby V.p) (hb:b0 s = 2) (hX:beVal (s.extract 1 (1+nby V.p)).data.toList = X) (hXw:X<W9) (hXp:X<V.p) (hR:rightN V.p V.a V.b X = R) (hRp:R<V.p) (hs1:sqR V.p R = 0) (hs2:sqB V.p R = false):Calls Try.prog 45 ([.agg (crvL Q V).toArray,.string s]:List Value).toArray w (fun e w'=>Num2R w [] 0 0 (fun u v=>.tuple #[rpV u v false,.int .i64 ((2101:Nat):Int)]) e w'):=by
  have hbb:=hok.bounds
  have hsz:=hok.sz
  have hnb:nby V.p≤72:=by have:=KAW (KAO hbb.2.1); (unfold nby; omega)
  have hk1:=nby_posV hok
  have hb256:=b0_lt s
  have hXd:D.nw X≤1000000:=by have:=KAb hXw; omega
  have hsp:=hsz.p
  refine Ke (N:=103) (rs:=[.cell 4 38,.tmp 5]) [crvI Q V] Try.func45 rfl Try.ntmps45 Try.results45 (Nb rfl) ⟨hc,trivial⟩ rfl ?_
  show LCode _ _ _ ⟨_,_⟩ _
  refine KB (KA ?_)
  refine oS (mB (fun b2=>?_))
  refine oS (mk (KU zr_38) (fun b4=>?_))
  refine oP (KW (v:=.int .i64 ((0:Nat):Int)) rfl) ?_
  refine KC ?_
  refine KB (KA ?_)
  refine oD (dL rfl (hv:=by exact KG Try.underlying26 rfl sz_26)) ?_
  refine oS (cF rfl en_48 rfl (fun w hw=>KAn Q V w (mC hw) hsz) ?_)
  refine oA ?_
  refine KC ?_
  refine KB (KA ?_)
  refine oM ?_
  refine oP (KAH Try.underlying9 rfl) ?_
  refine oM ?_
  refine oP (KD rfl rfl (br_mul (a:=2) (by omega))) ?_
  refine oP (KD rfl rfl (Km (a:=1) (by omega))) ?_
  refine oP (KD (v:=.bool false) rfl rfl (br_f KAC (by omega))) ?_
  refine oM ?_
  refine oK ?_
  refine oK ?_
  refine oK ?_
  refine oP (KZ rfl rfl) ?_
  refine oA ?_
  refine KC ?_
  refine KB ?_
  refine KB (KA ?_)
  refine oM ?_
  refine oP (KH (KAG rfl) (show _ = Value.bool true from rfl)) ?_
  refine oM ?_
  refine oGM ?_
  refine oGP (KAH Try.underlying9 rfl) ?_
  refine oGM ?_
  refine oGP (KD rfl rfl (Km (a:=1) (by omega))) ?_
  refine oGP (KD (v:=.bool false) rfl rfl (br_f br_neq (by omega))) ?_
  refine oGM ?_
  refine oGM ?_
  refine oGP (KH (Ks Try.underlying9 rfl rfl (by omega) (by omega)) (show _ = .int .u8 ((2:Nat):Int) from congrArg (fun n:Nat=>Value.int .u8 ((n:Nat):Int)) hb)) ?_
  refine oGP (KD (v:=.bool false) rfl rfl (br_f (br_neq (b:=2)) (by decide))) ?_
  refine oGM ?_
  refine oK ?_
  refine oK ?_
  refine oK ?_
  refine oGP (KZ rfl rfl) ?_
  refine oGP (KZ rfl rfl) ?_
  refine oP (Kc rfl rfl) ?_
  refine KC ?_
  refine KM rfl ?_
  refine KN ?_
  refine KB (KA ?_)
  refine oM ?_
  refine oM ?_
  refine oP (KD rfl rfl (Km (a:=1) (by omega))) ?_
  refine oP (KH (Det.slStrLH Try.underlying9 rfl rfl rfl (by omega) (by omega) (by omega)) (show _ = Value.string (s.extract 1 (1+nby V.p)) from by rw [Int.toNat_natCast]; rfl)) ?_
  refine oS (cZ rfl en_92 rfl (fun w hw hs=>(c_n_ReadX X (s.extract 1 (1+nby V.p)) w (by rw [KAm _ _ _ (by omega)]; omega) hX).mono fun e w' h=>Ky (Old.nil _) hs h) ?_)
  rintro _ _ ⟨q48,rfl,rfl,hn48⟩
  refine oP (KH (Ko pl_38 zr_38 rfl rfl) (show _ = rpV (numV q48 X) (.slice none 0 0) (false) from rfl)) ?_
  refine oS (mk (KU zr_38) (fun b8=>?_))
  refine KQ rfl (sA rfl rfl sz_38 (by repeat (first|exact KT|refine KO rfl ?_)) (hl:=by first|rfl|(show _<3; decide)) (h:=?_))
  refine KC ?_
  refine KB ?_
  refine KB (KA ?_)
  refine oP (KE (o':=0) Try.underlying38 rfl rfl rfl sz_24 (by decide)) ?_
  refine oD (dL rfl (hv:=KJ Try.underlying24 rfl (by first|rfl|exact Kb _ _ _ (by omega)|exact KY _ (by omega)|exact KX _ (by omega)|exact dv_m _ _ _ (by omega)))) ?_
  refine oP (KE (o':=1) Try.underlying26 rfl rfl rfl sz_24 (by decide)) ?_
  refine oD (dL rfl (hv:=KJ Try.underlying24 rfl (by first|rfl|exact Kb _ _ _ (by omega)|exact KY _ (by omega)|exact KX _ (by omega)|exact dv_m _ _ _ (by omega)))) ?_
  refine oS (cF rfl en_59 rfl (fun w hw=>c_n_Cmp q48 Q.p X V.p w (mC hw) (KAh (mC hw)) hXd) ?_)
  refine oP (KD (v:=.bool false) rfl rfl (br_f cmp_geq (Nat.not_le_of_gt hXp))) ?_
  refine KC ?_
  refine KM rfl ?_
  refine KN ?_
  refine KB ?_
  refine KB (KA ?_)
  refine oM ?_
  refine KC ?_
  refine KM rfl ?_
  refine KN ?_
  refine KB ?_
  refine rD [] ?_
  refine aD 0 rfl (dL rfl (hv:=by exact KG Try.underlying26 rfl sz_26)) ?_
  refine aP 1 rfl (KE (o':=0) Try.underlying38 rfl rfl rfl sz_24 (by decide)) ?_
  refine aD 2 rfl (dL rfl (hv:=KJ Try.underlying24 rfl (by first|rfl|exact Kb _ _ _ (by omega)|exact KY _ (by omega)|exact KX _ (by omega)|exact dv_m _ _ _ (by omega)))) ?_
  refine aP 4 rfl (KE (o':=1) Try.underlying26 rfl rfl rfl sz_24 (by decide)) ?_
  refine aD 5 rfl (dL rfl (hv:=KJ Try.underlying24 rfl (by first|rfl|exact Kb _ _ _ (by omega)|exact KY _ (by omega)|exact KX _ (by omega)|exact dv_m _ _ _ (by omega)))) ?_
  refine aO 3 rfl (cZ rfl en_94 rfl (fun w hw hs=>(c_r_rightR R Q V q48 X w (mC hw) hok (mC hw) hXp hR).mono fun e w' h=>Ky (Old.nil _) hs h) ?_)
  rintro _ _ ⟨q74,rfl,rfl,hn74⟩
  refine aO 6 rfl (cZ rfl en_93 rfl (fun w hw hs=>(c_n_SqrtR 0 false V q74 Q.p R w hok (mC hw) (KAh (mC hw)) hRp hs1 hs2).mono fun e w' h=>Ky (Old.nil _) hs h) ?_)
  rintro _ _ ⟨q77,rfl,rfl,hn77⟩
  refine aM 7 ?_
  refine aP 8 rfl (Det.extract rfl rfl) ?_
  refine aP 9 rfl (Det.extract rfl rfl) ?_
  refine aA 10 ?_
  refine aA 11 ?_
  refine aE ?_
  refine KB ?_
  refine KB ?_
  refine rD [] ?_
  refine aM 0 ?_
  refine aM 1 ?_
  refine aK 2 ?_
  refine aK 3 ?_
  refine aK 4 ?_
  refine aK 5 ?_
  refine aK 6 ?_
  refine aK 7 ?_
  refine aK 8 ?_
  refine aP 9 rfl (KZ rfl rfl) ?_
  refine aE ?_
  refine KM rfl ?_
  refine KN ?_
  refine KB ?_
  refine KB (KA ?_)
  refine oM ?_
  refine oP (KH (KAG rfl) (show _ = Value.bool true from rfl)) ?_
  refine KC ?_
  refine Ka rfl ?_
  refine KB (KA ?_)
  refine oP (KH (Ko pl_38 zr_38 rfl rfl) (show _ = rpV (.slice none 0 0) (.slice none 0 0) (false) from rfl)) ?_
  refine KQ rfl (sA rfl rfl sz_38 (by repeat (first|exact KT|refine KO rfl ?_)) (hl:=by first|rfl|(show _<3; decide)) (h:=?_))
  refine oP (KW (v:=.int .i64 ((2101:Nat):Int)) rfl) ?_
  refine KC (KL ?_)
  refine ⟨[_,_],.cons ⟨_,_,_,rfl,(by repeat (first|exact Mh _|apply Mt)),by exact KG Try.underlying38 rfl sz_38⟩ (.cons rfl .nil),fun a' w' hr=>⟨⟨true,0,0⟩,⟨true,0,0⟩,congrArg (fun l:List Value=>Ending.returned (.tuple #[.agg l.toArray,.int .i64 ((2101:Nat):Int)])) rp_nilF,Kw _,KAg _ _,Kw _,KAg _ _,hr.fr.below⟩⟩
theorem c_r_Pt_n1 (Q:CQ) (V:Cv) (s:ByteArray) (X R:Nat) (w:World) (hc:(crvI Q V).holds w) (hok:V.Ok) (hs:s.size<9223372036854775808) (h1:s.size = 1+nby V.p) (hb:b0 s = 3) (hX:beVal (s.extract 1 (1+nby V.p)).data.toList = X) (hXw:X<W9) (hXp:X<V.p) (hR:rightN V.p V.a V.b X = R) (hRp:R<V.p) (hs1:sqR V.p R = 0) (hs2:sqB V.p R = false):Calls Try.prog 45 ([.agg (crvL Q V).toArray,.string s]:List Value).toArray w (fun e w'=>Num2R w [] 0 0 (fun u v=>.tuple #[rpV u v false,.int .i64 ((2101:Nat):Int)]) e w'):=by
  have hbb:=hok.bounds
  have hsz:=hok.sz
  have hnb:nby V.p≤72:=by have:=KAW (KAO hbb.2.1); (unfold nby; omega)
  have hk1:=nby_posV hok
  have hb256:=b0_lt s
  have hXd:D.nw X≤1000000:=by have:=KAb hXw; omega
  have hsp:=hsz.p
  refine Ke (N:=103) (rs:=[.cell 4 38,.tmp 5]) [crvI Q V] Try.func45 rfl Try.ntmps45 Try.results45 (Nb rfl) ⟨hc,trivial⟩ rfl ?_
  show LCode _ _ _ ⟨_,_⟩ _
  refine KB (KA ?_)
  refine oS (mB (fun b2=>?_))
  refine oS (mk (KU zr_38) (fun b4=>?_))
  refine oP (KW (v:=.int .i64 ((0:Nat):Int)) rfl) ?_
  refine KC ?_
  refine KB (KA ?_)
  refine oD (dL rfl (hv:=by exact KG Try.underlying26 rfl sz_26)) ?_
  refine oS (cF rfl en_48 rfl (fun w hw=>KAn Q V w (mC hw) hsz) ?_)
  refine oA ?_
  refine KC ?_
  refine KB (KA ?_)
  refine oM ?_
  refine oP (KAH Try.underlying9 rfl) ?_
  refine oM ?_
  refine oP (KD rfl rfl (br_mul (a:=2) (by omega))) ?_
  refine oP (KD rfl rfl (Km (a:=1) (by omega))) ?_
  refine oP (KD (v:=.bool false) rfl rfl (br_f KAC (by omega))) ?_
  refine oM ?_
  refine oK ?_
  refine oK ?_
  refine oK ?_
  refine oP (KZ rfl rfl) ?_
  refine oA ?_
  refine KC ?_
  refine KB ?_
  refine KB (KA ?_)
  refine oM ?_
  refine oP (KH (KAG rfl) (show _ = Value.bool true from rfl)) ?_
  refine oM ?_
  refine oGM ?_
  refine oGP (KAH Try.underlying9 rfl) ?_
  refine oGM ?_
  refine oGP (KD rfl rfl (Km (a:=1) (by omega))) ?_
  refine oGP (KD (v:=.bool false) rfl rfl (br_f br_neq (by omega))) ?_
  refine oGM ?_
  refine oGM ?_
  refine oGP (KH (Ks Try.underlying9 rfl rfl (by omega) (by omega)) (show _ = .int .u8 ((3:Nat):Int) from congrArg (fun n:Nat=>Value.int .u8 ((n:Nat):Int)) hb)) ?_
  refine oGP (KD (v:=.bool true) rfl rfl (br_t (br_neq (b:=2)) (by decide))) ?_
  refine oGM ?_
  refine oGM ?_
  refine oGP (KH (Ks Try.underlying9 rfl rfl (by omega) (by omega)) (show _ = .int .u8 ((3:Nat):Int) from congrArg (fun n:Nat=>Value.int .u8 ((n:Nat):Int)) hb)) ?_
  refine oGP (KD (v:=.bool false) rfl rfl (br_f (br_neq (b:=3)) (by decide))) ?_
  refine oGP (Kc rfl rfl) ?_
  refine oGP (KZ rfl rfl) ?_
  refine oP (Kc rfl rfl) ?_
  refine KC ?_
  refine KM rfl ?_
  refine KN ?_
  refine KB (KA ?_)
  refine oM ?_
  refine oM ?_
  refine oP (KD rfl rfl (Km (a:=1) (by omega))) ?_
  refine oP (KH (Det.slStrLH Try.underlying9 rfl rfl rfl (by omega) (by omega) (by omega)) (show _ = Value.string (s.extract 1 (1+nby V.p)) from by rw [Int.toNat_natCast]; rfl)) ?_
  refine oS (cZ rfl en_92 rfl (fun w hw hs=>(c_n_ReadX X (s.extract 1 (1+nby V.p)) w (by rw [KAm _ _ _ (by omega)]; omega) hX).mono fun e w' h=>Ky (Old.nil _) hs h) ?_)
  rintro _ _ ⟨q48,rfl,rfl,hn48⟩
  refine oP (KH (Ko pl_38 zr_38 rfl rfl) (show _ = rpV (numV q48 X) (.slice none 0 0) (false) from rfl)) ?_
  refine oS (mk (KU zr_38) (fun b8=>?_))
  refine KQ rfl (sA rfl rfl sz_38 (by repeat (first|exact KT|refine KO rfl ?_)) (hl:=by first|rfl|(show _<3; decide)) (h:=?_))
  refine KC ?_
  refine KB ?_
  refine KB (KA ?_)
  refine oP (KE (o':=0) Try.underlying38 rfl rfl rfl sz_24 (by decide)) ?_
  refine oD (dL rfl (hv:=KJ Try.underlying24 rfl (by first|rfl|exact Kb _ _ _ (by omega)|exact KY _ (by omega)|exact KX _ (by omega)|exact dv_m _ _ _ (by omega)))) ?_
  refine oP (KE (o':=1) Try.underlying26 rfl rfl rfl sz_24 (by decide)) ?_
  refine oD (dL rfl (hv:=KJ Try.underlying24 rfl (by first|rfl|exact Kb _ _ _ (by omega)|exact KY _ (by omega)|exact KX _ (by omega)|exact dv_m _ _ _ (by omega)))) ?_
  refine oS (cF rfl en_59 rfl (fun w hw=>c_n_Cmp q48 Q.p X V.p w (mC hw) (KAh (mC hw)) hXd) ?_)
  refine oP (KD (v:=.bool false) rfl rfl (br_f cmp_geq (Nat.not_le_of_gt hXp))) ?_
  refine KC ?_
  refine KM rfl ?_
  refine KN ?_
  refine KB ?_
  refine KB (KA ?_)
  refine oM ?_
  refine KC ?_
  refine KM rfl ?_
  refine KN ?_
  refine KB ?_
  refine rD [] ?_
  refine aD 0 rfl (dL rfl (hv:=by exact KG Try.underlying26 rfl sz_26)) ?_
  refine aP 1 rfl (KE (o':=0) Try.underlying38 rfl rfl rfl sz_24 (by decide)) ?_
  refine aD 2 rfl (dL rfl (hv:=KJ Try.underlying24 rfl (by first|rfl|exact Kb _ _ _ (by omega)|exact KY _ (by omega)|exact KX _ (by omega)|exact dv_m _ _ _ (by omega)))) ?_
  refine aP 4 rfl (KE (o':=1) Try.underlying26 rfl rfl rfl sz_24 (by decide)) ?_
  refine aD 5 rfl (dL rfl (hv:=KJ Try.underlying24 rfl (by first|rfl|exact Kb _ _ _ (by omega)|exact KY _ (by omega)|exact KX _ (by omega)|exact dv_m _ _ _ (by omega)))) ?_
  refine aO 3 rfl (cZ rfl en_94 rfl (fun w hw hs=>(c_r_rightR R Q V q48 X w (mC hw) hok (mC hw) hXp hR).mono fun e w' h=>Ky (Old.nil _) hs h) ?_)
  rintro _ _ ⟨q74,rfl,rfl,hn74⟩
  refine aO 6 rfl (cZ rfl en_93 rfl (fun w hw hs=>(c_n_SqrtR 0 false V q74 Q.p R w hok (mC hw) (KAh (mC hw)) hRp hs1 hs2).mono fun e w' h=>Ky (Old.nil _) hs h) ?_)
  rintro _ _ ⟨q77,rfl,rfl,hn77⟩
  refine aM 7 ?_
  refine aP 8 rfl (Det.extract rfl rfl) ?_
  refine aP 9 rfl (Det.extract rfl rfl) ?_
  refine aA 10 ?_
  refine aA 11 ?_
  refine aE ?_
  refine KB ?_
  refine KB ?_
  refine rD [] ?_
  refine aM 0 ?_
  refine aM 1 ?_
  refine aK 2 ?_
  refine aK 3 ?_
  refine aK 4 ?_
  refine aK 5 ?_
  refine aK 6 ?_
  refine aK 7 ?_
  refine aK 8 ?_
  refine aP 9 rfl (KZ rfl rfl) ?_
  refine aE ?_
  refine KM rfl ?_
  refine KN ?_
  refine KB ?_
  refine KB (KA ?_)
  refine oM ?_
  refine oP (KH (KAG rfl) (show _ = Value.bool true from rfl)) ?_
  refine KC ?_
  refine Ka rfl ?_
  refine KB (KA ?_)
  refine oP (KH (Ko pl_38 zr_38 rfl rfl) (show _ = rpV (.slice none 0 0) (.slice none 0 0) (false) from rfl)) ?_
  refine KQ rfl (sA rfl rfl sz_38 (by repeat (first|exact KT|refine KO rfl ?_)) (hl:=by first|rfl|(show _<3; decide)) (h:=?_))
  refine oP (KW (v:=.int .i64 ((2101:Nat):Int)) rfl) ?_
  refine KC (KL ?_)
  refine ⟨[_,_],.cons ⟨_,_,_,rfl,(by repeat (first|exact Mh _|apply Mt)),by exact KG Try.underlying38 rfl sz_38⟩ (.cons rfl .nil),fun a' w' hr=>⟨⟨true,0,0⟩,⟨true,0,0⟩,congrArg (fun l:List Value=>Ending.returned (.tuple #[.agg l.toArray,.int .i64 ((2101:Nat):Int)])) rp_nilF,Kw _,KAg _ _,Kw _,KAg _ _,hr.fr.below⟩⟩
theorem c_r_Pt_e0 (Q:CQ) (V:Cv) (s:ByteArray) (X R r:Nat) (w:World) (hc:(crvI Q V).holds w) (hok:V.Ok) (hs:s.size<9223372036854775808) (h1:s.size = 1+nby V.p) (hb:b0 s = 2) (hX:beVal (s.extract 1 (1+nby V.p)).data.toList = X) (hXw:X<W9) (hXp:X<V.p) (hR:rightN V.p V.a V.b X = R) (hRp:R<V.p) (hs1:sqR V.p R = r) (hs2:sqB V.p R = true) (hr:r%2 = 0):Calls Try.prog 45 ([.agg (crvL Q V).toArray,.string s]:List Value).toArray w (fun e w'=>Num2R w [] X r (fun u v=>.tuple #[rpV u v false,.int .i64 ((0:Nat):Int)]) e w'):=by
  have hbb:=hok.bounds
  have hsz:=hok.sz
  have hnb:nby V.p≤72:=by have:=KAW (KAO hbb.2.1); (unfold nby; omega)
  have hk1:=nby_posV hok
  have hb256:=b0_lt s
  have hXd:D.nw X≤1000000:=by have:=KAb hXw; omega
  have hsp:=hsz.p
  refine Ke (N:=103) (rs:=[.cell 4 38,.tmp 5]) [crvI Q V] Try.func45 rfl Try.ntmps45 Try.results45 (Nb rfl) ⟨hc,trivial⟩ rfl ?_
  show LCode _ _ _ ⟨_,_⟩ _
  refine KB (KA ?_)
  refine oS (mB (fun b2=>?_))
  refine oS (mk (KU zr_38) (fun b4=>?_))
  refine oP (KW (v:=.int .i64 ((0:Nat):Int)) rfl) ?_
  refine KC ?_
  refine KB (KA ?_)
  refine oD (dL rfl (hv:=by exact KG Try.underlying26 rfl sz_26)) ?_
  refine oS (cF rfl en_48 rfl (fun w hw=>KAn Q V w (mC hw) hsz) ?_)
  refine oA ?_
  refine KC ?_
  refine KB (KA ?_)
  refine oM ?_
  refine oP (KAH Try.underlying9 rfl) ?_
  refine oM ?_
  refine oP (KD rfl rfl (br_mul (a:=2) (by omega))) ?_
  refine oP (KD rfl rfl (Km (a:=1) (by omega))) ?_
  refine oP (KD (v:=.bool false) rfl rfl (br_f KAC (by omega))) ?_
  refine oM ?_
  refine oK ?_
  refine oK ?_
  refine oK ?_
  refine oP (KZ rfl rfl) ?_
  refine oA ?_
  refine KC ?_
  refine KB ?_
  refine KB (KA ?_)
  refine oM ?_
  refine oP (KH (KAG rfl) (show _ = Value.bool true from rfl)) ?_
  refine oM ?_
  refine oGM ?_
  refine oGP (KAH Try.underlying9 rfl) ?_
  refine oGM ?_
  refine oGP (KD rfl rfl (Km (a:=1) (by omega))) ?_
  refine oGP (KD (v:=.bool false) rfl rfl (br_f br_neq (by omega))) ?_
  refine oGM ?_
  refine oGM ?_
  refine oGP (KH (Ks Try.underlying9 rfl rfl (by omega) (by omega)) (show _ = .int .u8 ((2:Nat):Int) from congrArg (fun n:Nat=>Value.int .u8 ((n:Nat):Int)) hb)) ?_
  refine oGP (KD (v:=.bool false) rfl rfl (br_f (br_neq (b:=2)) (by decide))) ?_
  refine oGM ?_
  refine oK ?_
  refine oK ?_
  refine oK ?_
  refine oGP (KZ rfl rfl) ?_
  refine oGP (KZ rfl rfl) ?_
  refine oP (Kc rfl rfl) ?_
  refine KC ?_
  refine KM rfl ?_
  refine KN ?_
  refine KB (KA ?_)
  refine oM ?_
  refine oM ?_
  refine oP (KD rfl rfl (Km (a:=1) (by omega))) ?_
  refine oP (KH (Det.slStrLH Try.underlying9 rfl rfl rfl (by omega) (by omega) (by omega)) (show _ = Value.string (s.extract 1 (1+nby V.p)) from by rw [Int.toNat_natCast]; rfl)) ?_
  refine oS (cZ rfl en_92 rfl (fun w hw hs=>(c_n_ReadX X (s.extract 1 (1+nby V.p)) w (by rw [KAm _ _ _ (by omega)]; omega) hX).mono fun e w' h=>Ky (Old.nil _) hs h) ?_)
  rintro _ _ ⟨q48,rfl,rfl,hn48⟩
  refine oP (KH (Ko pl_38 zr_38 rfl rfl) (show _ = rpV (numV q48 X) (.slice none 0 0) (false) from rfl)) ?_
  refine oS (mk (KU zr_38) (fun b8=>?_))
  refine KQ rfl (sA rfl rfl sz_38 (by repeat (first|exact KT|refine KO rfl ?_)) (hl:=by first|rfl|(show _<3; decide)) (h:=?_))
  refine KC ?_
  refine KB ?_
  refine KB (KA ?_)
  refine oP (KE (o':=0) Try.underlying38 rfl rfl rfl sz_24 (by decide)) ?_
  refine oD (dL rfl (hv:=KJ Try.underlying24 rfl (by first|rfl|exact Kb _ _ _ (by omega)|exact KY _ (by omega)|exact KX _ (by omega)|exact dv_m _ _ _ (by omega)))) ?_
  refine oP (KE (o':=1) Try.underlying26 rfl rfl rfl sz_24 (by decide)) ?_
  refine oD (dL rfl (hv:=KJ Try.underlying24 rfl (by first|rfl|exact Kb _ _ _ (by omega)|exact KY _ (by omega)|exact KX _ (by omega)|exact dv_m _ _ _ (by omega)))) ?_
  refine oS (cF rfl en_59 rfl (fun w hw=>c_n_Cmp q48 Q.p X V.p w (mC hw) (KAh (mC hw)) hXd) ?_)
  refine oP (KD (v:=.bool false) rfl rfl (br_f cmp_geq (Nat.not_le_of_gt hXp))) ?_
  refine KC ?_
  refine KM rfl ?_
  refine KN ?_
  refine KB ?_
  refine KB (KA ?_)
  refine oM ?_
  refine KC ?_
  refine KM rfl ?_
  refine KN ?_
  refine KB ?_
  refine rD [] ?_
  refine aD 0 rfl (dL rfl (hv:=by exact KG Try.underlying26 rfl sz_26)) ?_
  refine aP 1 rfl (KE (o':=0) Try.underlying38 rfl rfl rfl sz_24 (by decide)) ?_
  refine aD 2 rfl (dL rfl (hv:=KJ Try.underlying24 rfl (by first|rfl|exact Kb _ _ _ (by omega)|exact KY _ (by omega)|exact KX _ (by omega)|exact dv_m _ _ _ (by omega)))) ?_
  refine aP 4 rfl (KE (o':=1) Try.underlying26 rfl rfl rfl sz_24 (by decide)) ?_
  refine aD 5 rfl (dL rfl (hv:=KJ Try.underlying24 rfl (by first|rfl|exact Kb _ _ _ (by omega)|exact KY _ (by omega)|exact KX _ (by omega)|exact dv_m _ _ _ (by omega)))) ?_
  refine aO 3 rfl (cZ rfl en_94 rfl (fun w hw hs=>(c_r_rightR R Q V q48 X w (mC hw) hok (mC hw) hXp hR).mono fun e w' h=>Ky (Old.nil _) hs h) ?_)
  rintro _ _ ⟨q74,rfl,rfl,hn74⟩
  refine aO 6 rfl (cZ rfl en_93 rfl (fun w hw hs=>(c_n_SqrtR r true V q74 Q.p R w hok (mC hw) (KAh (mC hw)) hRp hs1 hs2).mono fun e w' h=>Ky (Old.nil _) hs h) ?_)
  rintro _ _ ⟨q77,rfl,rfl,hn77⟩
  refine aM 7 ?_
  refine aP 8 rfl (Det.extract rfl rfl) ?_
  refine aP 9 rfl (Det.extract rfl rfl) ?_
  refine aA 10 ?_
  refine aA 11 ?_
  refine aE ?_
  refine KB ?_
  refine KB ?_
  refine rD [] ?_
  refine aM 0 ?_
  refine aM 1 ?_
  refine aGM 2 ?_
  refine aGM 4 ?_
  refine aGP 5 rfl (KH (Ks Try.underlying9 rfl rfl (by omega) (by omega)) (show _ = .int .u8 ((2:Nat):Int) from congrArg (fun n:Nat=>Value.int .u8 ((n:Nat):Int)) hb)) ?_
  refine aGP 6 rfl (KAc Try.underlying5 Try.underlying3 rfl (by omega)) ?_
  refine aGP 7 rfl (KD (v:=.int .i64 ((0:Nat):Int)) rfl rfl (by rfl)) ?_
  refine aGO 3 rfl (cF rfl en_86 rfl (fun w hw=>c_n_bit0 0 r q77 w (mC hw) hr) ?_)
  refine aGP 8 rfl (KD (v:=.bool false) rfl rfl (br_f br_neq (by decide))) ?_
  refine aP 9 rfl (Kc rfl rfl) ?_
  refine aE ?_
  refine KM rfl ?_
  refine KN ?_
  refine KB ?_
  refine KB (KA ?_)
  refine oM ?_
  refine oP (KH (KAG rfl) (show _ = Value.bool false from rfl)) ?_
  refine KC ?_
  refine KM rfl ?_
  refine KN ?_
  refine KB (KA ?_)
  refine oM ?_
  refine oP (KE (o':=1) Try.underlying38 rfl rfl rfl sz_24 (by decide)) ?_
  refine KQ rfl (Kg rfl rfl rfl sz_24 (by repeat (first|exact Sh _|apply St_)) (by first|rfl|(show _<3; decide)) (by first|exact KAI _ _ _ _ _|exact KAL _ _ _ _ (by omega)|exact KAK _ _ _ _|rfl) (by simp) ?_)
  refine KC ?_
  refine KB (KA ?_)
  refine oD (dL rfl (hv:=by exact KG Try.underlying38 rfl sz_38)) ?_
  refine KQ rfl (sA rfl rfl sz_38 (by repeat (first|exact KT|refine KO rfl ?_)) (hl:=by first|rfl|(show _<3; decide)) (h:=?_))
  refine oP (KW (v:=.int .i64 ((0:Nat):Int)) rfl) ?_
  refine KC (KL ?_)
  refine ⟨[_,_],.cons ⟨_,_,_,rfl,(by repeat (first|exact Mh _|apply Mt)),by exact KG Try.underlying38 rfl sz_38⟩ (.cons rfl .nil),fun a' w' hr=>hr.num2Q (q:=q48) (r:=q77) (mk:=fun u v=>.tuple #[rpV u v false,.int .i64 ((0:Nat):Int)]) (by repeat (first|exact Mh _|apply Mt)) hn48 (by repeat (first|exact Mh _|apply Mt)) hn77⟩
theorem c_r_Pt_z1 (Q:CQ) (V:Cv) (s:ByteArray) (X R:Nat) (w:World) (hc:(crvI Q V).holds w) (hok:V.Ok) (hs:s.size<9223372036854775808) (h1:s.size = 1+nby V.p) (hb:b0 s = 3) (hX:beVal (s.extract 1 (1+nby V.p)).data.toList = X) (hXw:X<W9) (hXp:X<V.p) (hR:rightN V.p V.a V.b X = R) (hRp:R<V.p) (hs1:sqR V.p R = 0) (hs2:sqB V.p R = true):Calls Try.prog 45 ([.agg (crvL Q V).toArray,.string s]:List Value).toArray w (fun e w'=>Num2R w [] 0 0 (fun u v=>.tuple #[rpV u v false,.int .i64 ((2101:Nat):Int)]) e w'):=by
  have hbb:=hok.bounds
  have hsz:=hok.sz
  have hnb:nby V.p≤72:=by have:=KAW (KAO hbb.2.1); (unfold nby; omega)
  have hk1:=nby_posV hok
  have hb256:=b0_lt s
  have hXd:D.nw X≤1000000:=by have:=KAb hXw; omega
  have hsp:=hsz.p
  refine Ke (N:=103) (rs:=[.cell 4 38,.tmp 5]) [crvI Q V] Try.func45 rfl Try.ntmps45 Try.results45 (Nb rfl) ⟨hc,trivial⟩ rfl ?_
  show LCode _ _ _ ⟨_,_⟩ _
  refine KB (KA ?_)
  refine oS (mB (fun b2=>?_))
  refine oS (mk (KU zr_38) (fun b4=>?_))
  refine oP (KW (v:=.int .i64 ((0:Nat):Int)) rfl) ?_
  refine KC ?_
  refine KB (KA ?_)
  refine oD (dL rfl (hv:=by exact KG Try.underlying26 rfl sz_26)) ?_
  refine oS (cF rfl en_48 rfl (fun w hw=>KAn Q V w (mC hw) hsz) ?_)
  refine oA ?_
  refine KC ?_
  refine KB (KA ?_)
  refine oM ?_
  refine oP (KAH Try.underlying9 rfl) ?_
  refine oM ?_
  refine oP (KD rfl rfl (br_mul (a:=2) (by omega))) ?_
  refine oP (KD rfl rfl (Km (a:=1) (by omega))) ?_
  refine oP (KD (v:=.bool false) rfl rfl (br_f KAC (by omega))) ?_
  refine oM ?_
  refine oK ?_
  refine oK ?_
  refine oK ?_
  refine oP (KZ rfl rfl) ?_
  refine oA ?_
  refine KC ?_
  refine KB ?_
  refine KB (KA ?_)
  refine oM ?_
  refine oP (KH (KAG rfl) (show _ = Value.bool true from rfl)) ?_
  refine oM ?_
  refine oGM ?_
  refine oGP (KAH Try.underlying9 rfl) ?_
  refine oGM ?_
  refine oGP (KD rfl rfl (Km (a:=1) (by omega))) ?_
  refine oGP (KD (v:=.bool false) rfl rfl (br_f br_neq (by omega))) ?_
  refine oGM ?_
  refine oGM ?_
  refine oGP (KH (Ks Try.underlying9 rfl rfl (by omega) (by omega)) (show _ = .int .u8 ((3:Nat):Int) from congrArg (fun n:Nat=>Value.int .u8 ((n:Nat):Int)) hb)) ?_
  refine oGP (KD (v:=.bool true) rfl rfl (br_t (br_neq (b:=2)) (by decide))) ?_
  refine oGM ?_
  refine oGM ?_
  refine oGP (KH (Ks Try.underlying9 rfl rfl (by omega) (by omega)) (show _ = .int .u8 ((3:Nat):Int) from congrArg (fun n:Nat=>Value.int .u8 ((n:Nat):Int)) hb)) ?_
  refine oGP (KD (v:=.bool false) rfl rfl (br_f (br_neq (b:=3)) (by decide))) ?_
  refine oGP (Kc rfl rfl) ?_
  refine oGP (KZ rfl rfl) ?_
  refine oP (Kc rfl rfl) ?_
  refine KC ?_
  refine KM rfl ?_
  refine KN ?_
  refine KB (KA ?_)
  refine oM ?_
  refine oM ?_
  refine oP (KD rfl rfl (Km (a:=1) (by omega))) ?_
  refine oP (KH (Det.slStrLH Try.underlying9 rfl rfl rfl (by omega) (by omega) (by omega)) (show _ = Value.string (s.extract 1 (1+nby V.p)) from by rw [Int.toNat_natCast]; rfl)) ?_
  refine oS (cZ rfl en_92 rfl (fun w hw hs=>(c_n_ReadX X (s.extract 1 (1+nby V.p)) w (by rw [KAm _ _ _ (by omega)]; omega) hX).mono fun e w' h=>Ky (Old.nil _) hs h) ?_)
  rintro _ _ ⟨q48,rfl,rfl,hn48⟩
  refine oP (KH (Ko pl_38 zr_38 rfl rfl) (show _ = rpV (numV q48 X) (.slice none 0 0) (false) from rfl)) ?_
  refine oS (mk (KU zr_38) (fun b8=>?_))
  refine KQ rfl (sA rfl rfl sz_38 (by repeat (first|exact KT|refine KO rfl ?_)) (hl:=by first|rfl|(show _<3; decide)) (h:=?_))
  refine KC ?_
  refine KB ?_
  refine KB (KA ?_)
  refine oP (KE (o':=0) Try.underlying38 rfl rfl rfl sz_24 (by decide)) ?_
  refine oD (dL rfl (hv:=KJ Try.underlying24 rfl (by first|rfl|exact Kb _ _ _ (by omega)|exact KY _ (by omega)|exact KX _ (by omega)|exact dv_m _ _ _ (by omega)))) ?_
  refine oP (KE (o':=1) Try.underlying26 rfl rfl rfl sz_24 (by decide)) ?_
  refine oD (dL rfl (hv:=KJ Try.underlying24 rfl (by first|rfl|exact Kb _ _ _ (by omega)|exact KY _ (by omega)|exact KX _ (by omega)|exact dv_m _ _ _ (by omega)))) ?_
  refine oS (cF rfl en_59 rfl (fun w hw=>c_n_Cmp q48 Q.p X V.p w (mC hw) (KAh (mC hw)) hXd) ?_)
  refine oP (KD (v:=.bool false) rfl rfl (br_f cmp_geq (Nat.not_le_of_gt hXp))) ?_
  refine KC ?_
  refine KM rfl ?_
  refine KN ?_
  refine KB ?_
  refine KB (KA ?_)
  refine oM ?_
  refine KC ?_
  refine KM rfl ?_
  refine KN ?_
  refine KB ?_
  refine rD [] ?_
  refine aD 0 rfl (dL rfl (hv:=by exact KG Try.underlying26 rfl sz_26)) ?_
  refine aP 1 rfl (KE (o':=0) Try.underlying38 rfl rfl rfl sz_24 (by decide)) ?_
  refine aD 2 rfl (dL rfl (hv:=KJ Try.underlying24 rfl (by first|rfl|exact Kb _ _ _ (by omega)|exact KY _ (by omega)|exact KX _ (by omega)|exact dv_m _ _ _ (by omega)))) ?_
  refine aP 4 rfl (KE (o':=1) Try.underlying26 rfl rfl rfl sz_24 (by decide)) ?_
  refine aD 5 rfl (dL rfl (hv:=KJ Try.underlying24 rfl (by first|rfl|exact Kb _ _ _ (by omega)|exact KY _ (by omega)|exact KX _ (by omega)|exact dv_m _ _ _ (by omega)))) ?_
  refine aO 3 rfl (cZ rfl en_94 rfl (fun w hw hs=>(c_r_rightR R Q V q48 X w (mC hw) hok (mC hw) hXp hR).mono fun e w' h=>Ky (Old.nil _) hs h) ?_)
  rintro _ _ ⟨q74,rfl,rfl,hn74⟩
  refine aO 6 rfl (cZ rfl en_93 rfl (fun w hw hs=>(c_n_SqrtR 0 true V q74 Q.p R w hok (mC hw) (KAh (mC hw)) hRp hs1 hs2).mono fun e w' h=>Ky (Old.nil _) hs h) ?_)
  rintro _ _ ⟨q77,rfl,rfl,hn77⟩
  refine aM 7 ?_
  refine aP 8 rfl (Det.extract rfl rfl) ?_
  refine aP 9 rfl (Det.extract rfl rfl) ?_
  refine aA 10 ?_
  refine aA 11 ?_
  refine aE ?_
  refine KB ?_
  refine KB ?_
  refine rD [] ?_
  refine aM 0 ?_
  refine aM 1 ?_
  refine aGM 2 ?_
  refine aGM 4 ?_
  refine aGP 5 rfl (KH (Ks Try.underlying9 rfl rfl (by omega) (by omega)) (show _ = .int .u8 ((3:Nat):Int) from congrArg (fun n:Nat=>Value.int .u8 ((n:Nat):Int)) hb)) ?_
  refine aGP 6 rfl (KAc Try.underlying5 Try.underlying3 rfl (by omega)) ?_
  refine aGP 7 rfl (KD (v:=.int .i64 ((1:Nat):Int)) rfl rfl (by rfl)) ?_
  refine aGO 3 rfl (cF rfl en_86 rfl (fun w hw=>c_n_bit0 0 0 q77 w (mC hw) rfl) ?_)
  refine aGP 8 rfl (KD (v:=.bool true) rfl rfl (br_t br_neq (by decide))) ?_
  refine aP 9 rfl (Kc rfl rfl) ?_
  refine aE ?_
  refine Ka rfl ?_
  refine KB (KA ?_)
  refine oM ?_
  refine oP (KAN Try.underlying24 rfl) ?_
  refine oP (KD (v:=.bool true) rfl rfl (br_t (KAC (b:=0)) (nw_eq_zero.2 rfl))) ?_
  refine KC ?_
  refine Ka rfl ?_
  refine KA ?_
  refine oA ?_
  refine KC ?_
  refine KB ?_
  refine KB (KA ?_)
  refine oM ?_
  refine oP (KH (KAG rfl) (show _ = Value.bool true from rfl)) ?_
  refine KC ?_
  refine Ka rfl ?_
  refine KB (KA ?_)
  refine oP (KH (Ko pl_38 zr_38 rfl rfl) (show _ = rpV (.slice none 0 0) (.slice none 0 0) (false) from rfl)) ?_
  refine KQ rfl (sA rfl rfl sz_38 (by repeat (first|exact KT|refine KO rfl ?_)) (hl:=by first|rfl|(show _<3; decide)) (h:=?_))
  refine oP (KW (v:=.int .i64 ((2101:Nat):Int)) rfl) ?_
  refine KC (KL ?_)
  refine ⟨[_,_],.cons ⟨_,_,_,rfl,(by repeat (first|exact Mh _|apply Mt)),by exact KG Try.underlying38 rfl sz_38⟩ (.cons rfl .nil),fun a' w' hr=>⟨⟨true,0,0⟩,⟨true,0,0⟩,congrArg (fun l:List Value=>Ending.returned (.tuple #[.agg l.toArray,.int .i64 ((2101:Nat):Int)])) rp_nilF,Kw _,KAg _ _,Kw _,KAg _ _,hr.fr.below⟩⟩
theorem c_r_Pt_e1 (Q:CQ) (V:Cv) (s:ByteArray) (X R r:Nat) (w:World) (hc:(crvI Q V).holds w) (hok:V.Ok) (hs:s.size<9223372036854775808) (h1:s.size = 1+nby V.p) (hb:b0 s = 3) (hX:beVal (s.extract 1 (1+nby V.p)).data.toList = X) (hXw:X<W9) (hXp:X<V.p) (hR:rightN V.p V.a V.b X = R) (hRp:R<V.p) (hs1:sqR V.p R = r) (hs2:sqB V.p R = true) (hr:r%2 = 0) (hr0:r≠0) (hrp:r<V.p):Calls Try.prog 45 ([.agg (crvL Q V).toArray,.string s]:List Value).toArray w (fun e w'=>Num2R w [] X (V.p-r) (fun u v=>.tuple #[rpV u v false,.int .i64 ((0:Nat):Int)]) e w'):=by
  have hbb:=hok.bounds
  have hsz:=hok.sz
  have hnb:nby V.p≤72:=by have:=KAW (KAO hbb.2.1); (unfold nby; omega)
  have hk1:=nby_posV hok
  have hb256:=b0_lt s
  have hXd:D.nw X≤1000000:=by have:=KAb hXw; omega
  have hsp:=hsz.p
  refine Ke (N:=103) (rs:=[.cell 4 38,.tmp 5]) [crvI Q V] Try.func45 rfl Try.ntmps45 Try.results45 (Nb rfl) ⟨hc,trivial⟩ rfl ?_
  show LCode _ _ _ ⟨_,_⟩ _
  refine KB (KA ?_)
  refine oS (mB (fun b2=>?_))
  refine oS (mk (KU zr_38) (fun b4=>?_))
  refine oP (KW (v:=.int .i64 ((0:Nat):Int)) rfl) ?_
  refine KC ?_
  refine KB (KA ?_)
  refine oD (dL rfl (hv:=by exact KG Try.underlying26 rfl sz_26)) ?_
  refine oS (cF rfl en_48 rfl (fun w hw=>KAn Q V w (mC hw) hsz) ?_)
  refine oA ?_
  refine KC ?_
  refine KB (KA ?_)
  refine oM ?_
  refine oP (KAH Try.underlying9 rfl) ?_
  refine oM ?_
  refine oP (KD rfl rfl (br_mul (a:=2) (by omega))) ?_
  refine oP (KD rfl rfl (Km (a:=1) (by omega))) ?_
  refine oP (KD (v:=.bool false) rfl rfl (br_f KAC (by omega))) ?_
  refine oM ?_
  refine oK ?_
  refine oK ?_
  refine oK ?_
  refine oP (KZ rfl rfl) ?_
  refine oA ?_
  refine KC ?_
  refine KB ?_
  refine KB (KA ?_)
  refine oM ?_
  refine oP (KH (KAG rfl) (show _ = Value.bool true from rfl)) ?_
  refine oM ?_
  refine oGM ?_
  refine oGP (KAH Try.underlying9 rfl) ?_
  refine oGM ?_
  refine oGP (KD rfl rfl (Km (a:=1) (by omega))) ?_
  refine oGP (KD (v:=.bool false) rfl rfl (br_f br_neq (by omega))) ?_
  refine oGM ?_
  refine oGM ?_
  refine oGP (KH (Ks Try.underlying9 rfl rfl (by omega) (by omega)) (show _ = .int .u8 ((3:Nat):Int) from congrArg (fun n:Nat=>Value.int .u8 ((n:Nat):Int)) hb)) ?_
  refine oGP (KD (v:=.bool true) rfl rfl (br_t (br_neq (b:=2)) (by decide))) ?_
  refine oGM ?_
  refine oGM ?_
  refine oGP (KH (Ks Try.underlying9 rfl rfl (by omega) (by omega)) (show _ = .int .u8 ((3:Nat):Int) from congrArg (fun n:Nat=>Value.int .u8 ((n:Nat):Int)) hb)) ?_
  refine oGP (KD (v:=.bool false) rfl rfl (br_f (br_neq (b:=3)) (by decide))) ?_
  refine oGP (Kc rfl rfl) ?_
  refine oGP (KZ rfl rfl) ?_
  refine oP (Kc rfl rfl) ?_
  refine KC ?_
  refine KM rfl ?_
  refine KN ?_
  refine KB (KA ?_)
  refine oM ?_
  refine oM ?_
  refine oP (KD rfl rfl (Km (a:=1) (by omega))) ?_
  refine oP (KH (Det.slStrLH Try.underlying9 rfl rfl rfl (by omega) (by omega) (by omega)) (show _ = Value.string (s.extract 1 (1+nby V.p)) from by rw [Int.toNat_natCast]; rfl)) ?_
  refine oS (cZ rfl en_92 rfl (fun w hw hs=>(c_n_ReadX X (s.extract 1 (1+nby V.p)) w (by rw [KAm _ _ _ (by omega)]; omega) hX).mono fun e w' h=>Ky (Old.nil _) hs h) ?_)
  rintro _ _ ⟨q48,rfl,rfl,hn48⟩
  refine oP (KH (Ko pl_38 zr_38 rfl rfl) (show _ = rpV (numV q48 X) (.slice none 0 0) (false) from rfl)) ?_
  refine oS (mk (KU zr_38) (fun b8=>?_))
  refine KQ rfl (sA rfl rfl sz_38 (by repeat (first|exact KT|refine KO rfl ?_)) (hl:=by first|rfl|(show _<3; decide)) (h:=?_))
  refine KC ?_
  refine KB ?_
  refine KB (KA ?_)
  refine oP (KE (o':=0) Try.underlying38 rfl rfl rfl sz_24 (by decide)) ?_
  refine oD (dL rfl (hv:=KJ Try.underlying24 rfl (by first|rfl|exact Kb _ _ _ (by omega)|exact KY _ (by omega)|exact KX _ (by omega)|exact dv_m _ _ _ (by omega)))) ?_
  refine oP (KE (o':=1) Try.underlying26 rfl rfl rfl sz_24 (by decide)) ?_
  refine oD (dL rfl (hv:=KJ Try.underlying24 rfl (by first|rfl|exact Kb _ _ _ (by omega)|exact KY _ (by omega)|exact KX _ (by omega)|exact dv_m _ _ _ (by omega)))) ?_
  refine oS (cF rfl en_59 rfl (fun w hw=>c_n_Cmp q48 Q.p X V.p w (mC hw) (KAh (mC hw)) hXd) ?_)
  refine oP (KD (v:=.bool false) rfl rfl (br_f cmp_geq (Nat.not_le_of_gt hXp))) ?_
  refine KC ?_
  refine KM rfl ?_
  refine KN ?_
  refine KB ?_
  refine KB (KA ?_)
  refine oM ?_
  refine KC ?_
  refine KM rfl ?_
  refine KN ?_
  refine KB ?_
  refine rD [] ?_
  refine aD 0 rfl (dL rfl (hv:=by exact KG Try.underlying26 rfl sz_26)) ?_
  refine aP 1 rfl (KE (o':=0) Try.underlying38 rfl rfl rfl sz_24 (by decide)) ?_
  refine aD 2 rfl (dL rfl (hv:=KJ Try.underlying24 rfl (by first|rfl|exact Kb _ _ _ (by omega)|exact KY _ (by omega)|exact KX _ (by omega)|exact dv_m _ _ _ (by omega)))) ?_
  refine aP 4 rfl (KE (o':=1) Try.underlying26 rfl rfl rfl sz_24 (by decide)) ?_
  refine aD 5 rfl (dL rfl (hv:=KJ Try.underlying24 rfl (by first|rfl|exact Kb _ _ _ (by omega)|exact KY _ (by omega)|exact KX _ (by omega)|exact dv_m _ _ _ (by omega)))) ?_
  refine aO 3 rfl (cZ rfl en_94 rfl (fun w hw hs=>(c_r_rightR R Q V q48 X w (mC hw) hok (mC hw) hXp hR).mono fun e w' h=>Ky (Old.nil _) hs h) ?_)
  rintro _ _ ⟨q74,rfl,rfl,hn74⟩
  refine aO 6 rfl (cZ rfl en_93 rfl (fun w hw hs=>(c_n_SqrtR r true V q74 Q.p R w hok (mC hw) (KAh (mC hw)) hRp hs1 hs2).mono fun e w' h=>Ky (Old.nil _) hs h) ?_)
  rintro _ _ ⟨q77,rfl,rfl,hn77⟩
  refine aM 7 ?_
  refine aP 8 rfl (Det.extract rfl rfl) ?_
  refine aP 9 rfl (Det.extract rfl rfl) ?_
  refine aA 10 ?_
  refine aA 11 ?_
  refine aE ?_
  refine KB ?_
  refine KB ?_
  refine rD [] ?_
  refine aM 0 ?_
  refine aM 1 ?_
  refine aGM 2 ?_
  refine aGM 4 ?_
  refine aGP 5 rfl (KH (Ks Try.underlying9 rfl rfl (by omega) (by omega)) (show _ = .int .u8 ((3:Nat):Int) from congrArg (fun n:Nat=>Value.int .u8 ((n:Nat):Int)) hb)) ?_
  refine aGP 6 rfl (KAc Try.underlying5 Try.underlying3 rfl (by omega)) ?_
  refine aGP 7 rfl (KD (v:=.int .i64 ((1:Nat):Int)) rfl rfl (by rfl)) ?_
  refine aGO 3 rfl (cF rfl en_86 rfl (fun w hw=>c_n_bit0 0 r q77 w (mC hw) hr) ?_)
  refine aGP 8 rfl (KD (v:=.bool true) rfl rfl (br_t br_neq (by decide))) ?_
  refine aP 9 rfl (Kc rfl rfl) ?_
  refine aE ?_
  refine Ka rfl ?_
  refine KB (KA ?_)
  refine oM ?_
  refine oP (KAN Try.underlying24 rfl) ?_
  refine oP (KD (v:=.bool false) rfl rfl (br_f (KAC (b:=0)) (fun e=>hr0 (nw_eq_zero.1 e)))) ?_
  refine KC ?_
  refine KM rfl ?_
  refine KA ?_
  refine oP (KE (o':=1) Try.underlying26 rfl rfl rfl sz_24 (by decide)) ?_
  refine oD (dL rfl (hv:=KJ Try.underlying24 rfl (by first|rfl|exact Kb _ _ _ (by omega)|exact KY _ (by omega)|exact KX _ (by omega)|exact dv_m _ _ _ (by omega)))) ?_
  refine oM ?_
  refine oS (cZ rfl en_65 rfl (fun w hw hs=>(c_n_Sub Q.p q77 V.p r w (KAh (mC hw)) (mC hw) (Nat.le_of_lt hrp) (by omega)).mono fun e w' h=>Ky (Old.nil _) hs h) ?_)
  rintro _ _ ⟨q96,rfl,rfl,hn96⟩
  refine oA ?_
  refine KC ?_
  refine KB ?_
  refine KB (KA ?_)
  refine oM ?_
  refine oP (KH (KAG rfl) (show _ = Value.bool false from rfl)) ?_
  refine KC ?_
  refine KM rfl ?_
  refine KN ?_
  refine KB (KA ?_)
  refine oM ?_
  refine oP (KE (o':=1) Try.underlying38 rfl rfl rfl sz_24 (by decide)) ?_
  refine KQ rfl (Kg rfl rfl rfl sz_24 (by repeat (first|exact Sh _|apply St_)) (by first|rfl|(show _<3; decide)) (by first|exact KAI _ _ _ _ _|exact KAL _ _ _ _ (by omega)|exact KAK _ _ _ _|rfl) (by simp) ?_)
  refine KC ?_
  refine KB (KA ?_)
  refine oD (dL rfl (hv:=by exact KG Try.underlying38 rfl sz_38)) ?_
  refine KQ rfl (sA rfl rfl sz_38 (by repeat (first|exact KT|refine KO rfl ?_)) (hl:=by first|rfl|(show _<3; decide)) (h:=?_))
  refine oP (KW (v:=.int .i64 ((0:Nat):Int)) rfl) ?_
  refine KC (KL ?_)
  refine ⟨[_,_],.cons ⟨_,_,_,rfl,(by repeat (first|exact Mh _|apply Mt)),by exact KG Try.underlying38 rfl sz_38⟩ (.cons rfl .nil),fun a' w' hr=>hr.num2Q (q:=q48) (r:=q96) (mk:=fun u v=>.tuple #[rpV u v false,.int .i64 ((0:Nat):Int)]) (by repeat (first|exact Mh _|apply Mt)) hn48 (by repeat (first|exact Mh _|apply Mt)) hn96⟩
end Go.Proofs.Ytlmiolnccgjjjaa
set_option linter.unusedVariables false
set_option linter.unusedSimpArgs false
set_option maxRecDepth 20000
namespace Go.Proofs.Ytlmiolnccgjjjaa
open Go Go.RowKit
theorem getX_w9 {V:Cv} (hnb:nby V.p≤72) {s:ByteArray} (h:1+nby V.p≤s.size):getX V s<W9:=beVal_w9 (by show (s.extract 1 (1+nby V.p)).size≤72; rw [KAm _ _ _ h]; omega)
theorem getY_w9 {V:Cv} (hnb:nby V.p≤72) {s:ByteArray} (h:s.size = 1+2*nby V.p):getY V s<W9:=beVal_w9 (by show (s.extract (1+nby V.p) s.size).size≤72; rw [KAm _ _ _ (Nat.le_refl _)]; omega)
theorem nbp_72 {V:Cv} (hok:V.Ok):nby V.p≤72:=by have:=KAW (KAO hok.bounds.2.1); (unfold nby; omega)
theorem c_s_Get (id:Int) (V:Cv) (s:ByteArray) (w:World) (h:cvI id = some V) (hs:s.size<9223372036854775808):Calls Try.prog 41 ([.int .i64 id,.string s]:List Value).toArray w (fun e w'=>e = .returned (getV V s)∧Below w.heap.size w w'):=by
  obtain ⟨hok,-⟩:=cvI_ok h
  have hnb:=nbp_72 hok
  have hk1:=nby_posV hok
  by_cases h0:s.size = 0
  · have e : s = ⟨#[]⟩ := by
      obtain ⟨d⟩:=s
      have h1:d.size = 0:=h0
      rw [Array.size_eq_zero_iff.1 h1]
    rw [getV_eq (get_form (by omega) (by omega)),e]
    exact c_s_Get_emp id V w h
  · by_cases h2:b0 s = 2
    · by_cases h1:s.size = 1+nby V.p
      · have hx:beVal (s.extract 1 s.size).data.toList = getX V s:=by unfold getX; rw [← h1]
        exact c_s_Get_s0 id V s (getX V s) (liftT V (getX V s) 0).1 (liftT V (getX V s) 0).2.1 (liftT V (getX V s) 0).2.2 w h h1 h2 hx (getX_w9 hnb (by omega)) rfl
      · rw [getV_eq (get_form (by omega) (by omega))]
        exact c_s_Get_f2 id V s w h h0 hs h2 h1
    · by_cases h3:b0 s = 3
      · by_cases h1:s.size = 1+nby V.p
        · have hx:beVal (s.extract 1 s.size).data.toList = getX V s:=by unfold getX; rw [← h1]
          exact c_s_Get_s1 id V s (getX V s) (liftT V (getX V s) 1).1 (liftT V (getX V s) 1).2.1 (liftT V (getX V s) 1).2.2 w h h1 h3 hx (getX_w9 hnb (by omega)) rfl
        · rw [getV_eq (get_form (by omega) (by omega))]
          exact c_s_Get_f3 id V s w h h0 hs h3 h1
      · by_cases h4:b0 s = 4
        · by_cases h1:s.size = 1+2*nby V.p
          · exact c_s_Get_l id V s (getX V s) (getY V s) _ w h h1 h4 rfl rfl (getX_w9 hnb (by omega)) (getY_w9 hnb h1) rfl
          · rw [getV_eq (get_form (by omega) (by omega))]
            exact c_s_Get_f4 id V s w h h0 hs h4 h1
        · rw [getV_eq (get_form (by omega) (by omega))]
          exact c_s_Get_fo id V s w h h0 hs h2 h3 h4
theorem c_r_Point (Z:Nat×Nat×Nat) (Q:CQ) (V:Cv) (s:ByteArray) (w:World) (hc:(crvI Q V).holds w) (hok:V.Ok) (hs:s.size<9223372036854775808) (hZ:getT V s = Z):Calls Try.prog 45 ([.agg (crvL Q V).toArray,.string s]:List Value).toArray w (fun e w'=>Num2R w [] Z.1 Z.2.1 (fun u v=>.tuple #[rpV u v false,.int .i64 ((Z.2.2:Nat):Int)]) e w'):=by
  have hnb:=nbp_72 hok
  have hk1:=nby_posV hok
  by_cases hl:s.size = 1+2*nby V.p
  · by_cases h4:b0 s = 4
    · have hX:=getX_w9 (V:=V) hnb (s:=s) (by omega)
      by_cases hXp:getX V s<V.p
      · cases hon:onB V.p V.a V.b (getX V s) (getY V s) false with
        | false =>
          rw [get_longF hl h4 hon] at hZ; subst hZ
          exact c_r_Pt_l0 Q V s (getX V s) (getY V s) w hc hok hs hl h4 rfl hX rfl (getY_w9 hnb hl) hXp hon
        | true =>
          rw [get_long hl h4 hon] at hZ; subst hZ
          exact c_r_Pt_l1 Q V s (getX V s) (getY V s) w hc hok hs hl h4 rfl hX rfl (getY_w9 hnb hl) hXp hon
      · rw [get_longF hl h4 (on_x' hXp)] at hZ; subst hZ
        exact c_r_Pt_xl Q V s (getX V s) w hc hok hs hl h4 rfl hX hXp
    · rw [get_form (by omega) (by omega)] at hZ; subst hZ
      exact c_r_Pt_f2 Q V s w hc hok hs hl h4
  · by_cases h1:s.size = 1+nby V.p
    · have hX:=getX_w9 (V:=V) hnb (s:=s) (by omega)
      have hRp:=right_ltV hok (getX V s)
      by_cases h2:b0 s = 2
      · by_cases hXp:getX V s<V.p
        · cases hq:sqN V.p (rightN V.p V.a V.b (getX V s)) with
          | none =>
            obtain ⟨e1,e2⟩:=sq_none hq
            rw [get_shortF (o:=0) h1 h2 (by decide) (lift_no hXp hq)] at hZ; subst hZ
            exact c_r_Pt_n0 Q V s (getX V s) _ w hc hok hs h1 h2 rfl hX hXp rfl hRp e1 e2
          | some r =>
            obtain ⟨e1,e2⟩:=sq_some hq
            rw [get_short (o:=0) h1 h2 (by decide) (lift_even hXp hq)] at hZ; subst hZ
            exact c_r_Pt_e0 Q V s (getX V s) _ r w hc hok hs h1 h2 rfl hX hXp rfl hRp e1 e2 (sqN_some hq).2.2
        · rw [get_shortF (o:=0) h1 h2 (by decide) (lift_far hXp)] at hZ; subst hZ
          exact c_r_Pt_x0 Q V s (getX V s) w hc hok hs h1 h2 rfl hX hXp
      · by_cases h3:b0 s = 3
        · by_cases hXp:getX V s<V.p
          · cases hq:sqN V.p (rightN V.p V.a V.b (getX V s)) with
            | none =>
              obtain ⟨e1,e2⟩:=sq_none hq
              rw [get_shortF (o:=1) h1 h3 (by decide) (lift_no hXp hq)] at hZ; subst hZ
              exact c_r_Pt_n1 Q V s (getX V s) _ w hc hok hs h1 h3 rfl hX hXp rfl hRp e1 e2
            | some r =>
              obtain ⟨e1,e2⟩:=sq_some hq
              obtain ⟨r1,r2,r3⟩:=sqN_some hq
              by_cases hr0:r = 0
              · subst hr0
                rw [get_shortF (o:=1) h1 h3 (by decide) (lift_zero hXp hq)] at hZ; subst hZ
                exact c_r_Pt_z1 Q V s (getX V s) _ w hc hok hs h1 h3 rfl hX hXp rfl hRp e1 e2
              · rw [get_short (o:=1) h1 h3 (by decide) (lift_odd hXp hq hr0)] at hZ; subst hZ
                exact c_r_Pt_e1 Q V s (getX V s) _ r w hc hok hs h1 h3 rfl hX hXp rfl hRp e1 e2 r3 hr0 r1
          · rw [get_shortF (o:=1) h1 h3 (by decide) (lift_far hXp)] at hZ; subst hZ
            exact c_r_Pt_x1 Q V s (getX V s) w hc hok hs h1 h3 rfl hX hXp
        · rw [get_form (by omega) (by omega)] at hZ; subst hZ
          exact c_r_Pt_f3 Q V s w hc hok hs h1 h2 h3
    · rw [get_form (by omega) (by omega)] at hZ; subst hZ
      exact c_r_Pt_f1 Q V s w hc hok hs hl h1
end Go.Proofs.Ytlmiolnccgjjjaa
set_option linter.unusedVariables false
set_option linter.unusedSimpArgs false
set_option maxRecDepth 20000
namespace Go.Proofs.Ytlmiolnccgjjjaa
open Go Go.RowKit
abbrev TrRow:=Option (Nat×Nat×List Value)
def evsL (l:List Nat):List Value:=l.flatMap fun k=>[.int .i64 ((2:Nat):Int),.int .i64 ((k:Nat):Int)]
def trSl (r:TrRow) (n:Nat):Value:=match r with
  | none=>.slice none 0 0
  | some r=>.slice (some ⟨r.1,0,none⟩) n r.2.1
def trFp (b:Option Nat) (r:TrRow):List Nat:=match b with
  | none=>[]
  | some b=>match r with
    | none=>[b]
    | some r=>[b,r.1]
def trP (b:Option Nat) (r:TrRow) (l:List Nat) (w:World):Prop:=match b with
  | none=>True
  | some b=>w.heap[b]? = some (.cells [trSl r l.length].toArray 121 (0,0))∧match r with
    | none=>l = []
    | some r=>w.heap[r.1]? = some (.cells (evsL l++r.2.2).toArray 83 (0,0))∧(evsL l).length+r.2.2.length = r.2.1*2∧r.1≠b
def trI (b:Option Nat) (r:TrRow) (l:List Nat):Item:=.own (trFp b r) (trP b r l)
def Out (b:Option Nat) (r:TrRow) (x:Item):Prop:=∀ k,k∈trFp b r→k ∉ x.fp
theorem Out.nil (r:TrRow) (x:Item):Out none r x:=fun k hk=>by cases hk
def Outs (b:Option Nat) (r:TrRow):List Item→Prop
  | []=>True
  | x :: t=>Out b r x∧Outs b r t
theorem Outs.mem {b:Option Nat} {r:TrRow} {H:List Item} (h:Outs b r H):∀ x,x∈H→Out b r x:=by
  induction H with
  | nil=>intro x hx; cases hx
  | cons y t ih =>
    intro x hx
    rcases List.mem_cons.1 hx with rfl|hx
    · exact h.1
    · exact ih h.2 x hx
def TrR (w:World) (b:Option Nat) (r:TrRow) (l:List Nat) (v:Value) (e:Ending) (w':World):Prop :=
  ∃ r',e = .returned v∧(trI b r' l).holds w'∧(∀ k,k∈trFp b r'→w.heap.size≤k∨k∈trFp b r)∧Fr (fun k=>k∈trFp b r) w w'
theorem TrR.nil {w:World} {r:TrRow} {l:List Nat} {v:Value} {e:Ending} {w':World} (h:TrR w none r l v e w'):e = .returned v∧Below w.heap.size w w':=by
  obtain ⟨_,h1,_,_,h2⟩:=h
  exact ⟨h1,h2.os,h2.tape,h2.output,h2.size,fun k hk=>h2.block k hk (fun hk'=>by cases hk')⟩
theorem TrR.same {w:World} {b:Option Nat} {r:TrRow} {l:List Nat} {v:Value} {e:Ending} {w':World} (h:(trI b r l).holds w) (he:e = .returned v) (hb:Below w.heap.size w w'):TrR w b r l v e w' :=
  ⟨r,he,Item.holds_agree h (fun k hk=>hb.block k (Item.lt h k hk)) hb.size,fun k hk=>.inr hk,hb.os,hb.tape,hb.output,hb.size,fun k hk _=>hb.block k hk⟩
section
variable {P:Program} {C:Ctx} {ty:TypeId} {pos:String} {aft:Array Edge} {d:Nat} {K:St→Prop} {x:Operand} {v:Value}
end
section
variable {P:Program} {C:Ctx} {ty:TypeId} {pos:String} {aft:Array Edge} {d:Nat} {K:St→Prop} {x y:Operand} {t e:TypeId}
end
end Go.Proofs.Ytlmiolnccgjjjaa
set_option linter.unusedVariables false
set_option linter.unusedSimpArgs false
set_option maxRecDepth 20000
namespace Go.Proofs.Ytlmiolnccgjjjaa
open Go Go.RowKit
open Grp
theorem Brings.two {w w':World} {b c:Nat} {B D:Blk} (hb:Below w.heap.size w w') (h1:(Item.blk b B).holds w') (h2:(Item.blk c D).holds w') (n1:w.heap.size≤b) (n2:w.heap.size≤c) (hne:c≠b):Brings w [] [.blk b B,.blk c D] w':=by
  have key:∀ x,x∈[Item.blk b B,.blk c D]→∀ k,k∈x.fp→w.heap.size≤k:=fun x hx k hk=>by
    rcases List.mem_cons.1 hx with rfl|hx
    · obtain rfl:k = b:=by simpa [Item.fp] using hk
      exact n1
    · obtain rfl:x = _:=by simpa using hx
      obtain rfl:k = c:=by simpa [Item.fp] using hk
      exact n2
  refine ⟨hb,fun x hx=>?_,fun x hx k hk=>.inl (key x hx k hk),fun x hx _=>key x hx,List.pairwise_cons.2 ⟨fun y hy _ k hk hk'=>?_,List.pairwise_singleton _ _⟩⟩
  · rcases List.mem_cons.1 hx with rfl|hx
    · exact h1
    · obtain rfl:x = _:=by simpa using hx
      exact h2
  · obtain rfl:y = _:=by simpa using hy
    obtain rfl:k = b:=by simpa [Item.fp] using hk
    exact hne (by simpa [Item.fp] using hk':k = c).symm
section
variable {P:Program} {C:Ctx} {d:Option Tmp} {ty:TypeId} {pos:String} {aft:Array Edge} {g:Option (Nat×Bool)} {st:St} {x y:Operand} {t e:TypeId}
end
end Go.Proofs.Ytlmiolnccgjjjaa
set_option linter.unusedVariables false
set_option linter.unusedSimpArgs false
set_option maxRecDepth 20000
namespace Go.Proofs.Ytlmiolnccgjjjaa
open Go Go.RowKit
open Grp
theorem Brings.one {w w':World} {b:Nat} {B:Blk} (hb:Below w.heap.size w w') (h1:(Item.blk b B).holds w') (n1:w.heap.size≤b):Brings w [] [.blk b B] w':=by
  have key:∀ x,x∈[Item.blk b B]→∀ k,k∈x.fp→w.heap.size≤k:=fun x hx k hk=>by
    obtain rfl:x = _:=by simpa using hx
    obtain rfl:k = b:=by simpa [Item.fp] using hk
    exact n1
  exact ⟨hb, fun x hx => (by obtain rfl : x = _ := by simpa using hx
                             exact h1),fun x hx k hk=>.inl (key x hx k hk),fun x hx _=>key x hx,List.pairwise_singleton _ _⟩
end Go.Proofs.Ytlmiolnccgjjjaa
set_option linter.unusedVariables false
set_option linter.unusedSimpArgs false
set_option maxRecDepth 20000
namespace Go.Proofs.Ytlmiolnccgjjjaa
open Go Go.RowKit
def pStr (V:Cv) (X Y:Nat) (i sh:Bool):ByteArray:=if (onB V.p V.a V.b X Y i && !i) = true then putS V X Y sh else ⟨#[]⟩
def pErr (V:Cv) (X Y:Nat) (i:Bool):Nat:=if (onB V.p V.a V.b X Y i && !i) = true then 0 else 2101
theorem putV_eq (V:Cv) (X Y:Nat) (i sh:Bool):putV V X Y i sh = .tuple #[.string (pStr V X Y i sh),.int .i64 ((pErr V X Y i:Nat):Int)]:=by
  unfold putV pStr pErr; split <;> rfl
theorem c_s_Put2 (id:Int) (V:Cv) (X Y:Nat) (i sh:Bool) (w:World) (h:cvI id = some V) (hX:X<W9) (hY:Y<W9):Calls Try.prog 40 ([.int .i64 id,ptV X Y i,.bool sh]:List Value).toArray w (fun e w'=>e = .returned (.tuple #[.string (pStr V X Y i sh),.int .i64 ((pErr V X Y i:Nat):Int)])∧Below w.heap.size w w'):=by
  have h1:=c_s_Put id V X Y i sh w h hX hY
  rwa [putV_eq] at h1
theorem c_s_PutE (s:ByteArray) (n:Nat) (id:Int) (V:Cv) (X Y:Nat) (i sh:Bool) (w:World) (h:cvI id = some V) (hX:X<W9) (hY:Y<W9) (hs:pStr V X Y i sh = s) (hn:pErr V X Y i = n):Calls Try.prog 40 ([.int .i64 id,ptV X Y i,.bool sh]:List Value).toArray w (fun e w'=>e = .returned (.tuple #[.string s,.int .i64 ((n:Nat):Int)])∧Below w.heap.size w w'):=by
  subst hs hn; exact c_s_Put2 id V X Y i sh w h hX hY
theorem c_s_GetE (X Y n:Nat) (id:Int) (V:Cv) (s:ByteArray) (w:World) (h:cvI id = some V) (hs:s.size<9223372036854775808) (hn:getT V s = (X,Y,n)):Calls Try.prog 41 ([.int .i64 id,.string s]:List Value).toArray w (fun e w'=>e = .returned (.tuple #[ptV X Y false,.int .i64 ((n:Nat):Int)])∧Below w.heap.size w w'):=by
  have h1:=c_s_Get id V s w h hs
  rwa [getV_eq hn] at h1
theorem c_r_Put2 (Q:CQ) (V:Cv) (q r:NV) (X Y:Nat) (i sh:Bool) (w:World) (hc:(crvI Q V).holds w) (hok:V.Ok) (hq:(numT q X).holds w) (hr:(numT r Y).holds w) (hX:D.nw X≤1000) (hY:D.nw Y≤1000):Calls Try.prog 43 ([.agg (crvL Q V).toArray,rpV (numV q X) (numV r Y) i,.bool sh]:List Value).toArray w (fun e w'=>e = .returned (.tuple #[.string (pStr V X Y i sh),.int .i64 ((pErr V X Y i:Nat):Int)])∧Below w.heap.size w w'):=by
  have h1:=c_r_Put Q V q r X Y i sh w hc hok hq hr hX hY
  rwa [putV_eq] at h1
theorem getX_l (V:Cv) (s:ByteArray):getX V s = beVal ((s.data.toList.take (1+nby V.p)).drop 1):=by unfold getX; rw [ext_data]
theorem getY_l (V:Cv) (s:ByteArray):getY V s = beVal (s.data.toList.drop (1+nby V.p)):=by
  unfold getY; rw [ext_data]
  rw [show s.size = s.data.toList.length by rw [Array.length_toList]; rfl,List.take_length]
theorem size_l (s:ByteArray):s.size = s.data.toList.length:=by rw [Array.length_toList]; rfl
def gT (k:Nat) (V:Cv) (l:List UInt8):Nat×Nat×Nat :=
  if l.length = 1+k∧((l.getD 0 0).toNat = 2∨(l.getD 0 0).toNat = 3) then (if (liftT V (beVal ((l.take (1+k)).drop 1)) ((l.getD 0 0).toNat-2)).2.2 = true then ((liftT V (beVal ((l.take (1+k)).drop 1)) ((l.getD 0 0).toNat-2)).1,(liftT V (beVal ((l.take (1+k)).drop 1)) ((l.getD 0 0).toNat-2)).2.1,0) else (0,0,2101))
  else if l.length = 1+2*k∧(l.getD 0 0).toNat = 4 then (if onB V.p V.a V.b (beVal ((l.take (1+k)).drop 1)) (beVal (l.drop (1+k))) false = true then (beVal ((l.take (1+k)).drop 1),beVal (l.drop (1+k)),0) else (0,0,2101))
  else (0,0,2102)
theorem getT_l (V:Cv) (s:ByteArray):getT V s = gT (nby V.p) V s.data.toList:=by
  unfold getT gT b0
  rw [getX_l,getY_l,size_l]
theorem nby13:nby cv13.p = 1:=by decide +kernel
theorem aw_p:(pStr cv13 2 84 false false).data.toList = [4,2,84]∧pErr cv13 2 84 false = 0:=by
  have h1:(onB cv13.p cv13.a cv13.b 2 84 false && !false) = true:=by decide +kernel
  constructor
  · unfold pStr
    rw [if_pos h1]
    unfold putS coB
    rw [if_neg (by decide),ByteArray.toList_data_append,ByteArray.toList_data_append,nby13]
    decide +kernel
  · unfold pErr
    rw [if_pos h1]
theorem aw_g1:getT cv13 ⟨#[2,2]⟩ = (2,84,0):=by
  rw [getT_l,nby13]; decide +kernel
theorem aw_g2:getT cv13 ⟨#[4,2,85]⟩ = (0,0,2101):=by
  rw [getT_l,nby13]; decide +kernel
theorem aw_g3:getT cv13 ⟨#[]⟩ = (0,0,2102):=by
  rw [getT_l,nby13]; decide +kernel
theorem pErr_inf (V:Cv) (X Y:Nat):pErr V X Y true = 2101:=by
  unfold pErr; rw [Bool.not_true,Bool.and_false]; rfl
theorem pStr_inf (V:Cv) (X Y:Nat) (sh:Bool):pStr V X Y true sh = ⟨#[]⟩:=by
  unfold pStr; rw [Bool.not_true,Bool.and_false]; rfl
theorem gT_lt {V:Cv} (hok:V.Ok) (s:ByteArray):(getT V s).1<W9∧(getT V s).2.1<W9:=by
  have hb:=hok.bounds
  have hp:=KAO hb.2.1
  have hz:0<W9:=zero_w9
  unfold getT
  split
  · split
    · rename_i h1 h2
      unfold liftT at h2 ⊢
      split at h2
      · rename_i hx
        rw [if_pos hx]
        split at h2
        · cases h2
        · rename_i r hr
          obtain ⟨r1,r2,r3⟩:=sqN_some hr
          split
          · exact ⟨by dsimp only; omega,by dsimp only; omega⟩
          · split
            · exact ⟨by dsimp only; omega,hz⟩
            · exact ⟨by dsimp only; omega,by dsimp only; omega⟩
      · cases h2
    · exact ⟨hz,hz⟩
  · split
    · split
      · rename_i h
        obtain ⟨h1,h2⟩:=on_lt h
        exact ⟨by dsimp only; omega,by dsimp only; omega⟩
      · exact ⟨hz,hz⟩
    · exact ⟨hz,hz⟩
theorem aw_ps:∃ s:ByteArray,pStr cv13 2 84 false false = s∧s.data.toList = [4,2,84]:=⟨_,rfl,aw_p.1⟩
theorem c_awake21  (w:World)  : Calls Try.prog 42 ([]:List Value).toArray w (fun e w'=>e = .returned (.bool true)∧Below w.heap.size w w'):=by
  obtain ⟨s,hs,hs2⟩:=aw_ps
  refine Ke (N:=69) (rs:=[.tmp 0]) [] Try.func42 rfl Try.ntmps42 Try.results42 (Nb rfl) trivial rfl ?_
  show LCode _ _ _ ⟨_,_⟩ _
  refine KB (KA ?_)
  refine oA ?_
  refine KC ?_
  refine KB (KA ?_)
  refine oS (cF rfl en_47 rfl (fun w hw=>c_One 2 w (by decide)) ?_)
  refine oS (cF rfl en_47 rfl (fun w hw=>c_One 84 w (by decide)) ?_)
  refine oP (KH (Ko pl_35 zr_35 rfl (fill_ptI2 _ _)) rfl) ?_
  refine oS (cF rfl en_40 rfl (fun w hw=>c_s_PutE s 0 13 cv13 2 84 false false w cv13_is (u64_w9 (by decide)) (u64_w9 (by decide)) hs aw_p.2) ?_)
  refine oM ?_
  refine oP (Det.extract rfl rfl) ?_
  refine oP (Det.extract rfl rfl) ?_
  refine oA ?_
  refine oA ?_
  refine KC ?_
  refine KB (KA ?_)
  refine oS (cF rfl en_41 rfl (fun w hw=>c_s_GetE 2 84 0 13 cv13 ⟨#[2,2]⟩ w cv13_is (by decide) aw_g1) ?_)
  refine oM ?_
  refine oP (Det.extract rfl rfl) ?_
  refine oP (Det.extract rfl rfl) ?_
  refine oS (mk (KU zr_35) (fun b3=>?_))
  refine KQ rfl (sA rfl rfl sz_35 (by exact Ki _ _ _) (hl:=by exact KS _ _ _) (h:=?_))
  refine oA ?_
  refine KC ?_
  refine KB (KA ?_)
  refine oS (cF rfl en_41 rfl (fun w hw=>c_s_GetE 0 0 2101 13 cv13 ⟨#[4,2,85]⟩ w cv13_is (by decide) aw_g2) ?_)
  refine oM ?_
  refine oP (Det.extract rfl rfl) ?_
  refine oP (Det.extract rfl rfl) ?_
  refine oS (mk (KU zr_35) (fun b5=>?_))
  refine KQ rfl (sA rfl rfl sz_35 (by exact Ki _ _ _) (hl:=by exact KS _ _ _) (h:=?_))
  refine oA ?_
  refine KC ?_
  refine KB (KA ?_)
  refine oS (cF rfl en_41 rfl (fun w hw=>c_s_GetE 0 0 2102 13 cv13 ⟨#[]⟩ w cv13_is (by decide) aw_g3) ?_)
  refine oM ?_
  refine oP (Det.extract rfl rfl) ?_
  refine oP (Det.extract rfl rfl) ?_
  refine oS (mk (KU zr_35) (fun b7=>?_))
  refine KQ rfl (sA rfl rfl sz_35 (by exact Ki _ _ _) (hl:=by exact KS _ _ _) (h:=?_))
  refine oA ?_
  refine KC ?_
  refine KB (KA ?_)
  refine oP (KH (Ko pl_35 zr_35 rfl fill_ptInf) rfl) ?_
  refine oS (cF rfl en_40 rfl (fun w hw=>c_s_PutE ⟨#[]⟩ 2101 13 cv13 0 0 true true w cv13_is zero_w9 zero_w9 (pStr_inf _ _ _ _) (pErr_inf _ _ _)) ?_)
  refine oM ?_
  refine oP (Det.extract rfl rfl) ?_
  refine oP (Det.extract rfl rfl) ?_
  refine oA ?_
  refine oA ?_
  refine KC ?_
  refine KB ?_
  refine rD [] ?_
  refine aM 0 ?_
  refine aP 1 rfl (KH (Det.eqs rfl rfl) (congrArg Value.bool (eq_str_t (hs2)))) ?_
  refine aM 2 ?_
  refine aGM 3 ?_
  refine aGO 4 rfl (cF rfl en_33 rfl (fun w hw=>c_Num _ w) ?_)
  refine aGP 5 rfl (KD (v:=.bool true) rfl rfl (br_t (KAC (b:=0)) (by first|rfl|assumption|omega|(simp; done)))) ?_
  refine aP 6 rfl (Kc rfl rfl) ?_
  refine aM 7 ?_
  refine aGD 8 rfl (dL rfl (hv:=by exact KG Try.underlying35 rfl sz_35)) ?_
  refine aGO 9 rfl (cF rfl en_47 rfl (fun w hw=>c_One 2 w (by decide)) ?_)
  refine aGO 10 rfl (cF rfl en_47 rfl (fun w hw=>c_One 84 w (by decide)) ?_)
  refine aGP 11 rfl (KH (Ko pl_35 zr_35 rfl (fill_ptI2 _ _)) rfl) ?_
  refine aGP 12 rfl (KH (Det.eqa (by kernel_rfl) (fun w=>eq_pt_t (u64_w9 (by decide)) (u64_w9 (by decide)) 10000 (by decide) w) rfl rfl) (show _ = Value.bool true by rfl)) ?_
  refine aP 13 rfl (Kc rfl rfl) ?_
  refine aM 14 ?_
  refine aGM 15 ?_
  refine aGO 16 rfl (cF rfl en_33 rfl (fun w hw=>c_Num _ w) ?_)
  refine aGP 17 rfl (KD (v:=.bool true) rfl rfl (br_t (KAC (b:=0)) (by first|rfl|assumption|omega|(simp; done)))) ?_
  refine aP 18 rfl (Kc rfl rfl) ?_
  refine aM 19 ?_
  refine aGM 20 ?_
  refine aGO 21 rfl (cF rfl en_33 rfl (fun w hw=>c_Num _ w) ?_)
  refine aGP 22 rfl (KD (v:=.bool true) rfl rfl (br_t (KAC (b:=2101)) (by first|rfl|assumption|omega|(simp; done)))) ?_
  refine aP 23 rfl (Kc rfl rfl) ?_
  refine aM 24 ?_
  refine aGM 25 ?_
  refine aGO 26 rfl (cF rfl en_33 rfl (fun w hw=>c_Num _ w) ?_)
  refine aGP 27 rfl (KD (v:=.bool true) rfl rfl (br_t (KAC (b:=2102)) (by first|rfl|assumption|omega|(simp; done)))) ?_
  refine aP 28 rfl (Kc rfl rfl) ?_
  refine aM 29 ?_
  refine aGM 30 ?_
  refine aGO 31 rfl (cF rfl en_33 rfl (fun w hw=>c_Num _ w) ?_)
  refine aGP 32 rfl (KD (v:=.bool true) rfl rfl (br_t (KAC (b:=2101)) (by first|rfl|assumption|omega|(simp; done)))) ?_
  refine aP 33 rfl (Kc rfl rfl) ?_
  refine aA 34 ?_
  refine aE ?_
  refine KL ?_
  refine ⟨[_],.cons rfl .nil,fun a w' hr=>⟨?_,hr.fr.below⟩⟩
  rfl
theorem c_Sec1s_none (id:Int) (X Y:Nat) (i sh:Bool) (s:ByteArray) (w:World) (h:cvI id = none):Calls Try.prog 5 ([.int .i64 id,ptV X Y i,.bool sh,.string s]:List Value).toArray w (fun e w'=>e = .returned (.bool true)∧Below w.heap.size w w'):=by
  refine Ke (N:=97) (rs:=[.tmp 8]) [] Try.func5 rfl Try.ntmps5 Try.results5 (Nb rfl) trivial rfl ?_
  show LCode _ _ _ ⟨_,_⟩ _
  refine KB (KA ?_)
  refine oS (mB (fun b5=>?_))
  refine oA ?_
  refine KC ?_
  refine KB (KA ?_)
  refine oM ?_
  refine oS (cF rfl en_29 rfl (fun w hw=>c_r_Get_none _ w h) ?_)
  refine oM ?_
  refine oP (Det.extract rfl rfl) ?_
  refine oP (Det.extract rfl rfl) ?_
  refine oS (mk (KU zr_26) (fun b9=>?_))
  refine KQ rfl (sA rfl rfl sz_26 (by repeat (first|exact KT|refine KO rfl ?_)) (hl:=by rfl) (h:=?_))
  refine oA ?_
  refine KC ?_
  refine KB (KA ?_)
  refine oM ?_
  refine oD (dL rfl (hv:=by exact KG Try.underlying35 rfl sz_35)) ?_
  refine oM ?_
  refine oS (cF rfl en_40 rfl (fun w hw=>c_s_Put_none id X Y i sh w h) ?_)
  refine oM ?_
  refine oP (Det.extract rfl rfl) ?_
  refine oP (Det.extract rfl rfl) ?_
  refine oA ?_
  refine oA ?_
  refine KC ?_
  refine KB (KA ?_)
  refine oM ?_
  refine oM ?_
  refine oS (cF rfl en_41 rfl (fun w hw=>c_s_Get_none id s w h) ?_)
  refine oM ?_
  refine oP (Det.extract rfl rfl) ?_
  refine oP (Det.extract rfl rfl) ?_
  refine oS (mk (KU zr_35) (fun b13=>?_))
  refine KQ rfl (sA rfl rfl sz_35 (by exact Ki _ _ _) (hl:=by exact KS _ _ _) (h:=?_))
  refine oA ?_
  refine KC ?_
  refine KB ?_
  refine KB (KA ?_)
  refine oM ?_
  refine oP (KH (KAG rfl) (show _ = Value.bool true from rfl)) ?_
  refine KC ?_
  refine Ka rfl ?_
  refine KB (KA ?_)
  refine oM ?_
  refine oS (cF rfl en_33 rfl (fun w hw=>c_Num _ w) ?_)
  refine oP (KD (v:=.bool true) rfl rfl (br_t (KAC (b:=2100)) (by first|rfl|assumption|omega|(simp; done)))) ?_
  refine oM ?_
  refine oGM ?_
  refine oGS (cF rfl en_33 rfl (fun w hw=>c_Num _ w) ?_)
  refine oGP (KD (v:=.bool true) rfl rfl (br_t (KAC (b:=2100)) (by first|rfl|assumption|omega|(simp; done)))) ?_
  refine oP (Kc rfl rfl) ?_
  refine oM ?_
  refine oGM ?_
  refine oGP (KH (Det.eqs rfl rfl) (congrArg Value.bool (eq_str_t (rfl)))) ?_
  refine oP (Kc rfl rfl) ?_
  refine oM ?_
  refine KAM rfl rfl (dL rfl (hv:=by exact KG Try.underlying35 rfl sz_35)) (Nb rfl) ?_
  refine oGP (KH (Ko pl_35 zr_35 rfl rfl) (show _ = ptV 0 0 false from pt_zero)) ?_
  refine oGP (KH (Det.eqa (by kernel_rfl) (fun w=>eq_pt_t zero_w9 zero_w9 10000 (by decide) w) rfl rfl) (show _ = Value.bool true by rfl)) ?_
  refine oP (Kc rfl rfl) ?_
  refine oM ?_
  refine oGS (cF rfl en_42 rfl (fun w hw=>c_awake21 w) ?_)
  refine oP (Kc rfl rfl) ?_
  refine oA ?_
  refine KC (KL ?_)
  refine ⟨[_],.cons rfl .nil,fun a w' hr=>⟨?_,hr.fr.below⟩⟩
  rfl
theorem c_Sec1s_some (id:Int) (X Y:Nat) (i sh:Bool) (s:ByteArray) (V:Cv) (w:World) (h:cvI id = some V) (hX:X<W9) (hY:Y<W9) (hsl:s.size<9223372036854775808):Calls Try.prog 5 ([.int .i64 id,ptV X Y i,.bool sh,.string s]:List Value).toArray w (fun e w'=>e = .returned (.bool true)∧Below w.heap.size w w'):=by
  obtain ⟨hok,hid⟩:=cvI_ok h
  have hdx:=KAb hX
  have hdy:=KAb hY
  have hg:=gT_lt hok s
  refine Ke (N:=97) (rs:=[.tmp 8]) [] Try.func5 rfl Try.ntmps5 Try.results5 (Nb rfl) trivial rfl ?_
  show LCode _ _ _ ⟨_,_⟩ _
  refine KB (KA ?_)
  refine oS (mB (fun b5=>?_))
  refine oA ?_
  refine KC ?_
  refine KB (KA ?_)
  refine oM ?_
  refine oS (KAZ (Post:=fun v its=>∃ Q,v = .tuple #[.agg (crvL Q V).toArray,.bool true]∧its = [crvI Q V]) (first:=[]) rfl en_29 rfl (Nb rfl) (fun w1 hw hs=>(c_r_Get _ V w1 h).mono fun e w' ⟨Q,h1,h2,h3,h4⟩=>⟨_,_,⟨Q,rfl,rfl⟩,h1,KAf h4 (by intro x hx; simp at hx; subst hx; exact h2) (by intro x hx; simp at hx; subst hx; rfl) (by intro x hx k hk; simp at hx; subst hx; exact .inl (h3 k hk))⟩) ?_)
  rintro _ _ ⟨Q,rfl,rfl⟩
  refine oM ?_
  refine oP (Det.extract rfl rfl) ?_
  refine oP (Det.extract rfl rfl) ?_
  refine oS (mk (KU zr_26) (fun b9=>?_))
  refine KQ rfl (sA rfl rfl sz_26 (by repeat (first|exact KT|refine KO rfl ?_)) (hl:=by rfl) (h:=?_))
  refine oA ?_
  refine KC ?_
  refine KB (KA ?_)
  refine oM ?_
  refine oD (dL rfl (hv:=by exact KG Try.underlying35 rfl sz_35)) ?_
  refine oM ?_
  refine oS (cF rfl en_40 rfl (fun w hw=>c_s_Put2 id V X Y i sh w h hX hY) ?_)
  refine oM ?_
  refine oP (Det.extract rfl rfl) ?_
  refine oP (Det.extract rfl rfl) ?_
  refine oA ?_
  refine oA ?_
  refine KC ?_
  refine KB (KA ?_)
  refine oM ?_
  refine oM ?_
  refine oS (cF rfl en_41 rfl (fun w hw=>c_s_Get id V s w h hsl) ?_)
  refine oM ?_
  refine oP (Det.extract rfl rfl) ?_
  refine oP (Det.extract rfl rfl) ?_
  refine oS (mk (KU zr_35) (fun b13=>?_))
  refine KQ rfl (sA rfl rfl sz_35 (by exact Ki _ _ _) (hl:=by exact KS _ _ _) (h:=?_))
  refine oA ?_
  refine KC ?_
  refine KB ?_
  refine KB (KA ?_)
  refine oM ?_
  refine oP (KH (KAG rfl) (show _ = Value.bool false from rfl)) ?_
  refine KC ?_
  refine KM rfl ?_
  refine KN ?_
  refine KB ?_
  refine rD [] ?_
  refine aD 0 rfl (dL rfl (hv:=by exact KG Try.underlying26 rfl sz_26)) ?_
  refine aD 1 rfl (dL rfl (hv:=by exact KG Try.underlying35 rfl sz_35)) ?_
  refine aM 3 ?_
  refine aO 2 rfl (cZ rfl en_44 rfl (fun w hw hs=>(c_r_In X Y i w hX hY).mono fun e w' h=>Num2R.q (Old.nil _) hs h) ?_)
  rintro _ _ ⟨qpa,qpb,rfl,rfl,hnpa,hnpb⟩
  refine aO 4 rfl (cF rfl en_43 rfl (fun w hw=>c_r_Put2 Q V qpa qpb X Y i sh w (mC hw) hok (mC hw) (mC hw) (by omega) (by omega)) ?_)
  refine aM 5 ?_
  refine aP 6 rfl (Det.extract rfl rfl) ?_
  refine aP 7 rfl (Det.extract rfl rfl) ?_
  refine aA 8 ?_
  refine aA 9 ?_
  refine aE ?_
  refine KB (KA ?_)
  refine oD (dL rfl (hv:=by exact KG Try.underlying26 rfl sz_26)) ?_
  refine oM ?_
  refine oS (cZ rfl en_45 rfl (fun w hw hs=>(c_r_Point (getT V s) Q V s w (mC hw) hok hsl rfl).mono fun e w' h=>Num2R.q (Old.nil _) hs h) ?_)
  rintro _ _ ⟨qya,qyb,rfl,rfl,hnya,hnyb⟩
  refine oM ?_
  refine oP (Det.extract rfl rfl) ?_
  refine oP (Det.extract rfl rfl) ?_
  refine oS (mk (KU zr_38) (fun b17=>?_))
  refine KQ rfl (sA rfl rfl sz_38 (by repeat (first|exact KT|refine KO rfl ?_)) (hl:=by rfl) (h:=?_))
  refine oA ?_
  refine KC ?_
  refine KB ?_
  refine rD [] ?_
  refine aM 0 ?_
  refine aM 1 ?_
  refine aP 2 rfl (KH (Det.eqs rfl rfl) (congrArg Value.bool (eq_str_t (rfl)))) ?_
  refine aM 3 ?_
  refine aGM 4 ?_
  refine aGM 6 ?_
  refine aGO 5 rfl (cF rfl en_33 rfl (fun w hw=>c_Num _ w) ?_)
  refine aGP 7 rfl (KD (v:=.bool true) rfl rfl (br_t KAC (rfl))) ?_
  refine aP 8 rfl (Kc rfl rfl) ?_
  refine aM 9 ?_
  refine aGD 10 rfl (dL rfl (hv:=by exact KG Try.underlying35 rfl sz_35)) ?_
  refine aGD 11 rfl (dL rfl (hv:=by exact KG Try.underlying38 rfl sz_38)) ?_
  refine aGO 12 rfl (cF rfl en_30 rfl (fun w hw=>c_r_Out qya qyb (getT V s).1 (getT V s).2.1 false w (mC hw) (mC hw)) ?_)
  refine aGP 13 rfl (KH (Det.eqa (by kernel_rfl) (fun w=>eq_pt_t hg.1 hg.2 10000 (by decide) w) rfl rfl) (show _ = Value.bool true by rfl)) ?_
  refine aP 14 rfl (Kc rfl rfl) ?_
  refine aM 15 ?_
  refine aGM 16 ?_
  refine aGM 18 ?_
  refine aGO 17 rfl (cF rfl en_33 rfl (fun w hw=>c_Num _ w) ?_)
  refine aGP 19 rfl (KD (v:=.bool true) rfl rfl (br_t KAC (rfl))) ?_
  refine aP 20 rfl (Kc rfl rfl) ?_
  refine aM 21 ?_
  refine aGO 22 rfl (cF rfl en_42 rfl (fun w hw=>c_awake21 w) ?_)
  refine aP 23 rfl (Kc rfl rfl) ?_
  refine aA 24 ?_
  refine aE ?_
  refine KL ?_
  refine ⟨[_],.cons rfl .nil,fun a w' hr=>⟨?_,hr.fr.below⟩⟩
  rfl
theorem c_Sec1s (id:Int) (X Y:Nat) (i sh:Bool) (s:ByteArray) (w:World) (hX:X<W9) (hY:Y<W9) (hs:s.size<9223372036854775808):Calls Try.prog 5 ([.int .i64 id,ptV X Y i,.bool sh,.string s]:List Value).toArray w (fun e w'=>e = .returned (.bool true)∧Below w.heap.size w w'):=by
  cases h:cvI id with
  | none=>exact c_Sec1s_none id X Y i sh s w h
  | some V=>exact c_Sec1s_some id X Y i sh s V w h hX hY hs
end Go.Proofs.Ytlmiolnccgjjjaa
set_option maxRecDepth 100000
namespace Go.Proofs.Ytlmiolnccgjjjaa
open Go
def ioChars:List Char:=([104,97,114,110,101,115,115,32,51,100,97,51,56,97,97,97,101,50,102,56,55,53,98,101,100,56,56,57,99,51,57,97,102,97,100,99,99,98,102,50,102,97,48,49,100,55,56,97,101,50,48,102,97,99,53,57,102,57,56,48,52,102,53,99,98,98,56,100,52,97,97,98,32,99,117,116,32,97,116,32,99,117,114,118,101,116,47,99,117,114,118,101,116,108,97,119,49,54,46,84,97,98,108,101,83,105,122,101,115,32,99,117,114,118,101,116,47,99,117,114,118,101,116,108,97,119,49,54,46,84,97,98,108,101,78,105,108,32,99,117,114,118,101,116,47,99,117,114,118,101,116,108,97,119,50,49,46,83,101,99,49,115,32,99,117,114,118,101,116,47,99,117,114,118,101,116,108,97,119,50,49,46,83,101,99,49,66,97,99,107,32,99,117,114,118,101,116,47,99,117,114,118,101,116,108,97,119,50,49,46,83,101,99,49,84,105,110,121,32,99,117,114,118,101,116,47,99,117,114,118,101,116,108,97,119,50,49,46,83,101,99,49,66,111,116,104,32,99,117,114,118,101,116,47,99,117,114,118,101,116,108,97,119,50,49,46,83,101,99,49,76,101,110,103,116,104,115,32,99,117,114,118,101,116,47,99,117,114,118,101,116,108,97,119,50,49,46,83,101,99,49,87,104,111,108,101,32,99,117,114,118,101,116,47,99,117,114,118,101,116,108,97,119,50,49,46,83,101,99,49,71,114,101,97,116,32,99,117,114,118,101,116,47,99,117,114,118,101,116,108,97,119,49,54,46,84,97,98,108,101,115,32,99,117,114,118,101,116,47,99,117,114,118,101,116,108,97,119,49,57,46,66,97,115,101,115,32,99,117,114,118,101,116,47,99,117,114,118,101,116,108,97,119,49,57,46,66,97,115,101,78,105,108,32,99,117,114,118,101,116,47,99,117,114,118,101,116,108,97,119,49,54,46,84,97,98,108,101,66,108,105,110,100,32,99,117,114,118,101,116,47,99,117,114,118,101,116,108,97,119,49,54,46,84,97,98,108,101,83,117,109,115,32,99,117,114,118,101,116,47,99,117,114,118,101,116,108,97,119,49,56,46,77,117,108,116,115,32,99,117,114,118,101,116,47,99,117,114,118,101,116,108,97,119,49,56,46,77,117,108,116,69,110,100,115,32,99,117,114,118,101,116,47,99,117,114,118,101,116,108,97,119,49,56,46,77,117,108,116,84,119,105,99,101,32,99,117,114,118,101,116,47,99,117,114,118,101,116,108,97,119,49,56,46,77,117,108,116,84,105,110,121,32,99,117,114,118,101,116,47,99,117,114,118,101,116,108,97,119,49,57,46,66,97,115,101,84,117,114,110,115,32,99,117,114,118,101,116,47,99,117,114,118,101,116,108,97,119,49,56,46,77,117,108,116,66,108,105,110,100,32,99,117,114,118,101,116,47,99,117,114,118,101,116,108,97,119,49,57,46,66,97,115,101,83,116,101,112,115,32,99,117,114,118,101,116,47,99,117,114,118,101,116,108,97,119,49,57,46,66,97,115,101,66,108,105,110,100,32,99,117,114,118,101,116,47,99,117,114,118,101,116,108,97,119,49,56,46,77,117,108,116,65,100,100,115,32,99,117,114,118,101,116,47,99,117,114,118,101,116,108,97,119,50,48,46,68,117,97,108,65,108,111,110,101,32,99,117,114,118,101,116,47,99,117,114,118,101,116,108,97,119,50,53,46,69,99,100,104,65,103,114,101,101,115]:List Nat).map Char.ofNat
theorem io_lit:Try.prog.initOrder = String.ofList ioChars:=by kernel_rfl
theorem io_list:Try.prog.initOrder.toList = ioChars:=by rw [io_lit,String.toList_ofList]
def cutW:List Char:=([99,117,116]:List Nat).map Char.ofNat
def ioRest:List (List Char):=(wordsSigns ioChars).drop 3
theorem io_words:behindMainWord (wordsSigns ioChars) = cutW :: ioRest:=by kernel_rfl
theorem io_strip (r:List (List Char)):stripLifts liftWords (cutW :: r) = ([],cutW :: r):=by kernel_rfl
theorem no_later:Try.prog.laysLater = false:=by kernel_rfl
theorem no_reflect:Try.prog.bearsReflect = false:=by kernel_rfl
theorem door_fits:Try.prog.doorFits [] = true:=by kernel_rfl
theorem and2 {a b:Bool} (h:a = true) (k:b = true):(a && b) = true:=by rw [h,k]; rfl
theorem or_right {a b:Bool} (h:b = true):(a || b) = true:=by rw [h]; cases a <;> rfl
theorem cut_is : (cutW == "cut".toList) = true := by kernel_rfl
theorem cut_gc : (cutW == "gc".toList) = false := by kernel_rfl
theorem cut_spec : (cutW == "spec".toList) = false := by kernel_rfl
theorem cut_carried : (cutW == "carried".toList) = false := by kernel_rfl
theorem head_carried (r : List (List Char)) : ((cutW :: r).head? == some "carried".toList) = false := cut_carried
theorem enter_of (P:Program) {r:List (List Char)} (h:behindMainWord (wordsSigns P.initOrder.toList) = cutW :: r) (h1:P.laysLater = false) (h2:P.bearsReflect = false) (h3:P.doorFits [] = true):P.mayEnter = true:=by
  unfold Program.mayEnter
  rw [h]
  dsimp only
  refine or_right (and2 (and2 (and2 (and2 ?_ ?_) ?_) ?_) ?_)
  · rw [io_strip]; exact cut_is
  · rw [io_strip,h1]; rfl
  · rw [io_strip,h2]; rfl
  · rw [io_strip]; rfl
  · rw [io_strip]; exact h3
theorem lifts_of (P:Program) {r:List (List Char)} (h:behindMainWord (wordsSigns P.initOrder.toList) = cutW :: r):(false == P.liftsFinal) = true:=by
  have hl:P.headLifts = []:=by
    unfold Program.headLifts
    rw [h,io_strip]
    simp only [ite_self]
  unfold Program.liftsFinal
  rw [h,hl]
  dsimp only
  rw [head_carried,Bool.false_and]
  rfl
theorem make_of (P:Program) {r:List (List Char)} (h:behindMainWord (wordsSigns P.initOrder.toList) = cutW :: r):(P.make == some .cut) = true:=by
  have:P.make = some .cut:=by
    unfold Program.make
    rw [h]
    dsimp only
    rw [if_neg (by rw [cut_gc,cut_spec]; exact fun h=>by cases h),if_pos (by rw [cut_is]; rfl)]
  rw [this]; rfl
theorem io_all:behindMainWord (wordsSigns Try.prog.initOrder.toList) = cutW :: ioRest:=by rw [io_list,io_words]
theorem fact_enter:Try.prog.mayEnter = true:=enter_of _ io_all no_later no_reflect door_fits
theorem fact_lifts:(false == Try.prog.liftsFinal) = true:=lifts_of _ io_all
theorem fact_make:(Try.prog.make == some .cut) = true:=make_of _ io_all
theorem fact_laid:laidOutB Try.prog = true:=by kernel_rfl
theorem fact_maps:mapsRowed Try.prog = true:=by kernel_rfl
theorem fact_heard:Try.prog.stopsHeard = true:=by kernel_rfl
end Go.Proofs.Ytlmiolnccgjjjaa
set_option linter.unusedVariables false
set_option linter.unusedSimpArgs false
set_option maxRecDepth 20000
namespace Go.Proofs.Ytlmiolnccgjjjaa
open Go Go.RowKit
open Grp
theorem p_pow {V:Cv} {X:Nat} (h:X<V.p):X<256^nby V.p:=by
  have h1:=lt_blen V.p
  have h2:2^blen V.p≤2^(8*nby V.p):=Nat.pow_le_pow_right (by decide) (by unfold nby; omega)
  rw [Nat.pow_mul] at h2
  exact Nat.lt_trans h (Nat.lt_of_lt_of_le h1 h2)
theorem pfx_l (x:Nat):(pfx x).data.toList = [UInt8.ofNat x]:=rfl
theorem coB_l (V:Cv) (X:Nat):(coB V X).data.toList = beBytes (nby V.p) X:=by unfold coB strOf; rfl
theorem putS_s (V:Cv) (X Y:Nat):(putS V X Y true).data.toList = UInt8.ofNat (2+Y%2) :: beBytes (nby V.p) X:=by
  unfold putS; rw [if_pos rfl,ByteArray.toList_data_append,pfx_l,coB_l]; rfl
theorem putS_l (V:Cv) (X Y:Nat):(putS V X Y false).data.toList = 4 :: (beBytes (nby V.p) X++beBytes (nby V.p) Y):=by
  unfold putS; rw [if_neg (by decide),ByteArray.toList_data_append,ByteArray.toList_data_append,pfx_l,coB_l,coB_l]; rfl
theorem on_rt {V:Cv} {X Y:Nat} (h:onB V.p V.a V.b X Y false = true):Y*Y%V.p = rightN V.p V.a V.b X:=by
  unfold onB at h
  rw [if_neg (by decide)] at h
  simp only [Bool.and_eq_true,decide_eq_true_eq] at h
  exact h.2.2
theorem on_mk {V:Cv} {X Y:Nat} (hX:X<V.p) (hY:Y<V.p) (h:Y*Y%V.p = rightN V.p V.a V.b X):onB V.p V.a V.b X Y false = true:=by
  unfold onB
  rw [if_neg (by decide),decide_eq_true hX,decide_eq_true hY,decide_eq_true h]; rfl
theorem even_of {V:Cv} (hok:V.Ok) {X Y:Nat} (h:onB V.p V.a V.b X Y false = true):sqN V.p (rightN V.p V.a V.b X) = some (if Y%2 = 1 then V.p-Y else Y):=by
  obtain ⟨hX,hY⟩:=on_lt h
  have h1:=sqN_eq hok.fld (p_odd hok) (⟨Y,hY⟩:Fin V.p)
  rw [Fin.val_mul] at h1
  rw [← on_rt h]
  show sqN V.p (Y*Y%V.p) = _
  refine Eq.trans h1 (congrArg some ?_)
  unfold evenR
  by_cases h2:Y%2 = 1
  · rw [if_pos h2,if_pos h2,fin_neg_val _ (by show Y≠0; omega)]
  · rw [if_neg h2,if_neg h2]
theorem lift_put {V:Cv} (hok:V.Ok) {X Y:Nat} (h:onB V.p V.a V.b X Y false = true):liftT V X (Y%2) = (X,Y,true):=by
  have h1:=even_of hok h
  obtain ⟨hX,hY⟩:=on_lt h
  rcases Nat.mod_two_eq_zero_or_one Y with h2|h2
  · rw [if_neg (by omega)] at h1
    rw [h2]; exact lift_even hX h1
  · rw [if_pos h2] at h1
    rw [h2,lift_odd hX h1 (by omega),show V.p-(V.p-Y) = Y by omega]
theorem u8_toNat {n:Nat} (h:n<256):(UInt8.ofNat n).toNat = n:=by
  rw [UInt8.toNat_ofNat']; exact Nat.mod_eq_of_lt h
theorem getT_short {V:Cv} {s:ByteArray} {b:UInt8} {l:List UInt8} {o X Y:Nat} {ok:Bool} (hs:s.data.toList = b :: l) (hl:l.length = nby V.p) (hb:b.toNat = 2+o) (ho:o≤1) (hL:liftT V (beVal l) o = (X,Y,ok)):getT V s = if ok then (X,Y,0) else (0,0,2101):=by
  have h1:s.size = 1+nby V.p:=by rw [size_l,hs,List.length_cons,hl,Nat.add_comm]
  have h2:b0 s = 2+o:=by unfold b0; rw [hs]; exact hb
  have h3:getX V s = beVal l:=by
    rw [getX_l,hs,Nat.add_comm,List.take_succ_cons,List.drop_succ_cons,List.drop_zero,← hl,List.take_length]
  rw [← h3] at hL
  cases ok
  · exact get_shortF h1 h2 ho hL
  · exact get_short h1 h2 ho hL
theorem getT_long {V:Cv} {s:ByteArray} {l m:List UInt8} {ok:Bool} (hk:1≤nby V.p) (hs:s.data.toList = 4 :: (l++m)) (hl:l.length = nby V.p) (hm:m.length = nby V.p) (hL:onB V.p V.a V.b (beVal l) (beVal m) false = ok):getT V s = if ok then (beVal l,beVal m,0) else (0,0,2101):=by
  have h1:s.size = 1+2*nby V.p:=by rw [size_l,hs,List.length_cons,List.length_append,hl,hm]; omega
  have h2:b0 s = 4:=by unfold b0; rw [hs]; rfl
  have h3:getX V s = beVal l:=by
    rw [getX_l,hs,Nat.add_comm,List.take_succ_cons,List.drop_succ_cons,List.drop_zero,List.take_left' hl]
  have h4:getY V s = beVal m:=by
    rw [getY_l,hs,Nat.add_comm,List.drop_succ_cons,List.drop_left' hl]
  have e:getT V s = if onB V.p V.a V.b (getX V s) (getY V s) false = true then (getX V s,getY V s,0) else (0,0,2101):=by
    unfold getT
    rw [if_neg (by omega),if_pos ⟨h1,h2⟩]
  rw [e,h3,h4,hL]
theorem get_put {V:Cv} (hok:V.Ok) {X Y:Nat} (sh:Bool) (h:onB V.p V.a V.b X Y false = true):getT V (putS V X Y sh) = (X,Y,0):=by
  obtain ⟨hX,hY⟩:=on_lt h
  have eX:beVal (beBytes (nby V.p) X) = X:=by rw [beVal_bytes,Nat.mod_eq_of_lt (p_pow hX)]
  have eY:beVal (beBytes (nby V.p) Y) = Y:=by rw [beVal_bytes,Nat.mod_eq_of_lt (p_pow hY)]
  cases sh with
  | true =>
    refine (getT_short (o:=Y%2) (ok:=true) (X:=X) (Y:=Y) (putS_s V X Y) (KAV _ _) (u8_toNat (by omega)) (by omega) ?_).trans rfl
    rw [eX]; exact lift_put hok h
  | false =>
    refine (getT_long (ok:=true) (nby_posV hok) (putS_l V X Y) (KAV _ _) (KAV _ _) ?_).trans ?_
    · rw [eX,eY]; exact h
    · rw [eX,eY]; rfl
theorem lift_ok {V:Cv} (hok:V.Ok) {X o X' Y':Nat} (ho:o≤1) (h:liftT V X o = (X',Y',true)):X' = X∧onB V.p V.a V.b X Y' false = true∧Y'%2 = o:=by
  have hpo:=p_odd hok
  by_cases hX:X<V.p
  · cases h1:sqN V.p (rightN V.p V.a V.b X) with
    | none=>rw [lift_no hX h1] at h; cases h
    | some r =>
      obtain ⟨r1,r2,r3⟩:=sqN_some h1
      rcases (show o = 0∨o = 1 by omega) with rfl|rfl
      · rw [lift_even hX h1] at h
        cases h
        exact ⟨rfl,on_mk hX r1 r2,r3⟩
      · by_cases h0:r = 0
        · subst h0
          rw [lift_zero hX h1] at h; cases h
        · rw [lift_odd hX h1 h0] at h
          cases h
          refine ⟨rfl,on_mk hX (by omega) ?_,by omega⟩
          have e:=congrArg Fin.val (neg_sq (⟨r,r1⟩:Fin V.p))
          rw [Fin.val_mul,Fin.val_mul,fin_neg_val _ (by show r≠0; exact h0)] at e
          exact Eq.trans e r2
  · rw [lift_far hX] at h; cases h
theorem put_get {V:Cv} (hok:V.Ok) {s:ByteArray} {X Y:Nat} (h:getT V s = (X,Y,0)):onB V.p V.a V.b X Y false = true∧(putS V X Y (decide (s.size = 1+nby V.p))).data.toList = s.data.toList:=by
  have hk:=nby_posV hok
  have hsz:=size_l s
  by_cases h1:s.size = 1+nby V.p∧(b0 s = 2∨b0 s = 3)
  · obtain ⟨o, ho, ho1⟩ : ∃ o, b0 s = 2 + o ∧ o ≤ 1 := by
      rcases h1.2 with h2|h2
      · exact ⟨0,h2,by decide⟩
      · exact ⟨1,h2,by decide⟩
    obtain ⟨b,l,hl⟩:∃ b l,s.data.toList = b :: l:=by
      cases hq:s.data.toList with
      | nil=>rw [hq] at hsz; rw [List.length_nil] at hsz; omega
      | cons b l=>exact ⟨b,l,rfl⟩
    rw [hl,List.length_cons] at hsz
    have hb:b.toNat = 2+o:=by unfold b0 at ho; rw [hl] at ho; exact ho
    have h3:=getT_short (V:=V) (o:=o) (ok:=(liftT V (beVal l) o).2.2) hl (by omega) hb ho1 rfl
    rw [h] at h3
    cases h4:(liftT V (beVal l) o).2.2 with
    | false=>rw [h4] at h3; cases h3
    | true =>
      rw [h4] at h3
      have h5:liftT V (beVal l) o = (X,Y,true):=by
        have e1:=congrArg Prod.fst h3
        have e2:=congrArg (fun z=>z.2.1) h3
        dsimp only at e1 e2
        rw [e1,e2]
        exact Prod.ext rfl (Prod.ext rfl h4)
      obtain ⟨e1,e2,e3⟩:=lift_ok hok ho1 h5
      subst e1
      refine ⟨e2,?_⟩
      rw [decide_eq_true h1.1,putS_s,hl,e3,← hb,← (show l.length = nby V.p by omega),beBytes_val]
      rw [UInt8.ofNat_toNat]
  · by_cases h2:s.size = 1+2*nby V.p∧b0 s = 4
    · obtain ⟨b, l, hl⟩ : ∃ b l, s.data.toList = b :: l := by
        cases hq:s.data.toList with
        | nil=>rw [hq] at hsz; rw [List.length_nil] at hsz; omega
        | cons b l=>exact ⟨b,l,rfl⟩
      rw [hl,List.length_cons] at hsz
      have hb:b.toNat = 4:=by have:=h2.2; unfold b0 at this; rw [hl] at this; exact this
      have hb4:b = 4:=UInt8.toNat_inj.1 hb
      subst hb4
      have hl2:s.data.toList = 4 :: (l.take (nby V.p)++l.drop (nby V.p)):=by rw [List.take_append_drop,hl]
      have h3:=getT_long (V:=V) (ok:=onB V.p V.a V.b (beVal (l.take (nby V.p))) (beVal (l.drop (nby V.p))) false) hk hl2 (by rw [List.length_take]; omega) (by rw [List.length_drop]; omega) rfl
      rw [h] at h3
      cases h4:onB V.p V.a V.b (beVal (l.take (nby V.p))) (beVal (l.drop (nby V.p))) false with
      | false=>rw [h4] at h3; cases h3
      | true =>
        rw [h4] at h3
        have e1:=congrArg Prod.fst h3
        have e2:=congrArg (fun z=>z.2.1) h3
        dsimp only at e1 e2
        rw [e1,e2]
        refine ⟨h4,?_⟩
        have e3:beBytes (nby V.p) (beVal (l.take (nby V.p))) = l.take (nby V.p):=by
          have:=beBytes_val (l.take (nby V.p))
          rwa [show (l.take (nby V.p)).length = nby V.p by rw [List.length_take]; omega] at this
        have e4:beBytes (nby V.p) (beVal (l.drop (nby V.p))) = l.drop (nby V.p):=by
          have:=beBytes_val (l.drop (nby V.p))
          rwa [show (l.drop (nby V.p)).length = nby V.p by rw [List.length_drop]; omega] at this
        rw [decide_eq_false (by omega),putS_l,hl2,if_pos rfl,e3,e4]
    · rw [get_form h1 h2] at h; cases h
theorem get_err {V:Cv} {s:ByteArray} (h:(getT V s).2.2≠0):(getT V s).1 = 0∧(getT V s).2.1 = 0:=by
  have e:(getT V s).2.2 = 0∨getT V s = (0,0,2101)∨getT V s = (0,0,2102):=by
    unfold getT
    split
    · split
      · exact .inl rfl
      · exact .inr (.inl rfl)
    · split
      · split
        · exact .inl rfl
        · exact .inr (.inl rfl)
      · exact .inr (.inr rfl)
  rcases e with e|e|e
  · exact absurd e h
  · rw [e]; exact ⟨rfl,rfl⟩
  · rw [e]; exact ⟨rfl,rfl⟩
end Go.Proofs.Ytlmiolnccgjjjaa
set_option linter.unusedVariables false
set_option linter.unusedSimpArgs false
set_option maxRecDepth 20000
namespace Go.Proofs.Ytlmiolnccgjjjaa
open Go Go.RowKit
open Grp
theorem pStr_on {V:Cv} {X Y:Nat} (sh:Bool) (h:onB V.p V.a V.b X Y false = true):pStr V X Y false sh = putS V X Y sh∧pErr V X Y false = 0:=by
  unfold pStr pErr
  rw [if_pos (by rw [h]; rfl),if_pos (by rw [h]; rfl)]
  exact ⟨rfl,rfl⟩
theorem aff_on {V:Cv} {x y:Fin V.p} (h:On V.A V.B (.aff x y)):onB V.p V.a V.b x.val y.val false = true:=onB_on h
theorem putS_size {V:Cv} (hnb:nby V.p≤72) (X Y:Nat) (sh:Bool):(putS V X Y sh).size<9223372036854775808:=by
  rw [size_l]
  cases sh
  · rw [putS_l,List.length_cons,List.length_append,KAV,KAV]; omega
  · rw [putS_s,List.length_cons,KAV]; omega
theorem c_Sec1Back (id:Int) (k:Nat) (sh:Bool) (s:ByteArray) (w:World) (hk:k<18446744073709551616) (hsl:s.size<9223372036854775808):Calls Try.prog 6 ([.int .i64 id,.int .u64 ((k:Nat):Int),.bool sh,.string s]:List Value).toArray w (fun e w'=>e = .returned (.bool true)∧Below w.heap.size w w'):=by
  obtain ⟨V,h⟩:=cvI_idx id
  obtain ⟨hok,hid⟩:=cvI_ok h
  have h2:=cvI_id h
  obtain ⟨hb5,hb521,hba,hbb,hbx,hby,hbn,hbo,hbo2,hbb1,hbn1⟩:=hok.bounds
  have hsz:=hok.sz
  have hsp:=hsz.p
  have hsa:=hsz.a
  have hsb:=hsz.b
  have hp0:V.p≠0:=by omega
  have hpp:0<V.p:=by omega
  have hm17:∀ k,D.nw (k%V.p)≤17:=fun k=>Nat.le_trans (D.nw_mono (Nat.le_of_lt (Nat.mod_lt k hpp))) hsp
  have hpW:V.p<W9:=KAO hb521
  have hnW:V.n<W9:=KAO hbn
  have hxW:=Nat.lt_trans hbx hpW
  have hyW:=Nat.lt_trans hby hpW
  have hsn:=hsz.n
  have h17:∀ {A:Nat},A<V.p→D.nw A≤100000:=fun h=>Nat.le_trans (nw_521 (Nat.lt_trans h hb521)) (by decide)
  have hnp:=nbp_72 hok
  obtain ⟨P,hPe⟩:∃ P,pmul V.A V.G k = P:=⟨_,rfl⟩
  have hP:On V.A V.B P:=hPe ▸ hok.mul hok.on k
  have hdk:=KAb (u64_w9 hk)
  refine Ke (N:=108) (rs:=[.tmp 8]) [] Try.func6 rfl Try.ntmps6 Try.results6 (Nb rfl) trivial rfl ?_
  show LCode _ _ _ ⟨_,_⟩ _
  refine KB (KA ?_)
  refine oA ?_
  refine KC ?_
  refine KB ?_
  refine KB (KA ?_)
  refine oS (cF rfl en_42 rfl (fun w hw=>c_awake21 w) ?_)
  refine oP (KH (KAG rfl) (show _ = Value.bool false from rfl)) ?_
  refine KC ?_
  refine KM rfl ?_
  refine KN ?_
  refine KB (KA ?_)
  refine oM ?_
  refine oP (KH (Det.conv Try.underlying3 Try.underlying29 rfl) (uidx_eq _)) ?_
  refine oP (KD rfl rfl (br_rem64 (b:=15) (by omega))) ?_
  refine oP (KAc Try.underlying29 Try.underlying3 rfl (by omega)) ?_
  refine oP (KD rfl rfl (Km (a:=1) (by omega))) ?_
  refine oS (KAZ (Post:=fun v its=>∃ Q,v = .tuple #[.agg (crvL Q V).toArray,.bool true]∧its = [crvI Q V]) (first:=[]) rfl en_29 rfl (Nb rfl) (fun w1 hw hs=>(c_r_Get _ V w1 h).mono fun e w' ⟨Q,h1,h2,h3,h4⟩=>⟨_,_,⟨Q,rfl,rfl⟩,h1,KAf h4 (by intro x hx; simp at hx; subst hx; exact h2) (by intro x hx; simp at hx; subst hx; rfl) (by intro x hx k hk; simp at hx; subst hx; exact .inl (h3 k hk))⟩) ?_)
  rintro _ _ ⟨Q,rfl,rfl⟩
  refine oM ?_
  refine oP (Det.extract rfl rfl) ?_
  refine oP (Det.extract rfl rfl) ?_
  refine oS (mk (KU zr_26) (fun b9=>?_))
  refine KQ rfl (sA rfl rfl sz_26 (by repeat (first|exact KT|refine KO rfl ?_)) (hl:=by rfl) (h:=?_))
  refine oA ?_
  refine KC ?_
  refine KB ?_
  refine KB (KA ?_)
  refine oM ?_
  refine oP (KH (KAG rfl) (show _ = Value.bool false from rfl)) ?_
  refine KC ?_
  refine KM rfl ?_
  refine KN ?_
  refine KB ?_
  refine rD [9] ?_
  refine aD 0 rfl (dL rfl (hv:=by exact KG Try.underlying26 rfl sz_26)) ?_
  refine aM 1 ?_
  refine aD 4 rfl (dL rfl (hv:=by exact KG Try.underlying26 rfl sz_26)) ?_
  refine LAny.toP ?_
  refine KAe 8 rfl (.inl zr_35) (Nb rfl) rfl rfl rfl ?_
  refine KAD 2 rfl rfl rfl (Nb rfl) (by kernel_rfl) rfl (KAS (first:=[]) rfl en_47 rfl (fun w hw=>c_One k w hk)) ?_
  rintro _ _ ⟨rfl,rfl⟩
  refine KAD 3 rfl rfl rfl (Nb rfl) (by kernel_rfl) rfl (LExt.callZ (first:=[]) rfl en_46 rfl (fun w hw hs=>(c_n_From (k) (u64_w9 hk) w).mono fun e w' h=>Ky (Old.nil _) hs h)) ?_
  rintro _ _ ⟨qk,rfl,rfl,hnk⟩
  refine KAD 5 rfl rfl rfl (Nb rfl) (by kernel_rfl) rfl (LExt.callZ (first:=[]) rfl en_31 rfl (fun w hw hs=>(c_r_GP Q V w (mC hw) hok).mono fun e w' h=>Num2R.q (Old.one (x:=crvI Q V) (by repeat (first|exact Mh _|apply Mt)) rfl) hs h)) ?_
  rintro _ _ ⟨qga,qgb,rfl,rfl,hnga,hngb⟩
  refine KAD 6 rfl rfl rfl (Nb rfl) (by kernel_rfl) rfl (LExt.callZ (first:=[]) rfl en_38 rfl (fun w hw hs=>(c_r_Times Q V qk (k) qga qgb (V.G) (P) w (mC hw) hok (mC hw) (by omega) (mC hw) (mC hw) (hok.on) (hPe)).mono fun e w' h=>Num2R.q (Old.pt (by repeat (first|exact Mh _|apply Mt)) (by repeat (first|exact Mh _|apply Mt)) (Old.nil _)) hs h)) ?_
  rintro _ _ ⟨qta,qtb,rfl,rfl,hnta,hntb⟩
  refine KAD 7 rfl rfl rfl (Nb rfl) (by kernel_rfl) rfl (KAS (first:=[]) rfl en_30 rfl (fun w hw=>c_r_OutP V qta qtb (P) w (mC hw) (mC hw))) ?_
  rintro _ _ ⟨rfl,rfl⟩
  refine pE (fun b11=>?_)
  refine LAnyP.toAny ?_
  refine aL 9 rfl (sA rfl rfl sz_35 (by exact Ki _ _ _) (hl:=by exact KS _ _ _) (h:=?_))
  refine aE ?_
  refine KB ?_
  rcases P with _|⟨x,y⟩
  ·
    refine KA ?_
    refine oP (KE (o':=0) Try.underlying26 rfl rfl rfl sz_3 (by decide)) ?_
    refine oD (dL rfl (hv:=KJ Try.underlying3 rfl (by first|rfl|exact Kb _ _ _ (by omega)|exact KY _ (by omega)|exact KX _ (by omega)|exact dv_m _ _ _ (by omega)))) ?_
    refine oD (dL rfl (hv:=by exact KG Try.underlying35 rfl sz_35)) ?_
    refine oM ?_
    refine oS (cF rfl en_40 rfl (fun w hw=>c_s_PutE ⟨#[]⟩ 2101 V.id V 0 0 true sh w h2 zero_w9 zero_w9 (pStr_inf _ _ _ _) (pErr_inf _ _ _)) ?_)
    refine oM ?_
    refine oP (Det.extract rfl rfl) ?_
    refine oP (Det.extract rfl rfl) ?_
    refine oA ?_
    refine oA ?_
    refine KC ?_
    refine KB ?_
    refine KB (KA ?_)
    refine oP (KE (o':=18) Try.underlying35 rfl rfl rfl sz_4 (by decide)) ?_
    refine oD (dL rfl (hv:=KJ Try.underlying4 rfl (by exact pt_gt _ _ _))) ?_
    refine KC ?_
    refine Ka rfl ?_
    refine KB (KA ?_)
    refine oM ?_
    refine oS (cF rfl en_33 rfl (fun w hw=>c_Num _ w) ?_)
    refine oP (KD (v:=.bool true) rfl rfl (br_t (KAC (b:=2101)) (by first|rfl|assumption|omega|(simp; done)))) ?_
    refine oA ?_
    refine KC (KL ?_)
    refine ⟨[_],.cons rfl .nil,fun a w' hr=>⟨?_,hr.fr.below⟩⟩
    rfl
  ·
    have hon:=aff_on hP
    obtain ⟨hxp,hyp⟩:=on_lt hon
    have hx9:=Nat.lt_trans hxp hpW
    have hy9:=Nat.lt_trans hyp hpW
    obtain ⟨e1,e2⟩:=pStr_on sh hon
    have hga:=get_put hok sh hon
    have has:=putS_size hnp x.val y.val sh
    obtain ⟨aa,ha⟩:∃ aa,putS V x.val y.val sh = aa:=⟨_,rfl⟩
    rw [ha] at e1 hga has
    refine KA ?_
    refine oP (KE (o':=0) Try.underlying26 rfl rfl rfl sz_3 (by decide)) ?_
    refine oD (dL rfl (hv:=KJ Try.underlying3 rfl (by first|rfl|exact Kb _ _ _ (by omega)|exact KY _ (by omega)|exact KX _ (by omega)|exact dv_m _ _ _ (by omega)))) ?_
    refine oD (dL rfl (hv:=by exact KG Try.underlying35 rfl sz_35)) ?_
    refine oM ?_
    refine oS (cF rfl en_40 rfl (fun w hw=>c_s_PutE aa 0 V.id V x.val y.val false sh w h2 hx9 hy9 e1 e2) ?_)
    refine oM ?_
    refine oP (Det.extract rfl rfl) ?_
    refine oP (Det.extract rfl rfl) ?_
    refine oA ?_
    refine oA ?_
    refine KC ?_
    refine KB ?_
    refine KB (KA ?_)
    refine oP (KE (o':=18) Try.underlying35 rfl rfl rfl sz_4 (by decide)) ?_
    refine oD (dL rfl (hv:=KJ Try.underlying4 rfl (by exact pt_gt _ _ _))) ?_
    refine KC ?_
    refine KM rfl ?_
    refine KN ?_
    refine KB (KA ?_)
    refine oP (KE (o':=0) Try.underlying26 rfl rfl rfl sz_3 (by decide)) ?_
    refine oD (dL rfl (hv:=KJ Try.underlying3 rfl (by first|rfl|exact Kb _ _ _ (by omega)|exact KY _ (by omega)|exact KX _ (by omega)|exact dv_m _ _ _ (by omega)))) ?_
    refine oM ?_
    refine oS (cF rfl en_41 rfl (fun w hw=>c_s_GetE x.val y.val 0 V.id V aa w h2 has hga) ?_)
    refine oM ?_
    refine oP (Det.extract rfl rfl) ?_
    refine oP (Det.extract rfl rfl) ?_
    refine oS (mk (KU zr_35) (fun b14=>?_))
    refine KQ rfl (sA rfl rfl sz_35 (by exact Ki _ _ _) (hl:=by exact KS _ _ _) (h:=?_))
    refine oA ?_
    refine KC ?_
    refine KB ?_
    refine KB (KA ?_)
    refine oM ?_
    refine oS (cF rfl en_33 rfl (fun w hw=>c_Num _ w) ?_)
    refine oP (KD (v:=.bool false) rfl rfl (br_f (br_neq (b:=0)) (by decide))) ?_
    refine oM ?_
    refine oGM ?_
    refine oGS (cF rfl en_33 rfl (fun w hw=>c_Num _ w) ?_)
    refine oGP (KD (v:=.bool false) rfl rfl (br_f (br_neq (b:=0)) (by decide))) ?_
    refine oP (KZ rfl rfl) ?_
    refine oM ?_
    refine KAM rfl rfl (dL rfl (hv:=by exact KG Try.underlying35 rfl sz_35)) (Nb rfl) ?_
    refine KAM rfl rfl (dL rfl (hv:=by exact KG Try.underlying35 rfl sz_35)) (Nb rfl) ?_
    refine oGP (KH (Det.nea (by kernel_rfl) (fun w=>eq_pt_t hx9 hy9 10000 (by decide) w) rfl rfl) (show _ = Value.bool false by rfl)) ?_
    refine oP (KZ rfl rfl) ?_
    refine KC ?_
    refine KM rfl ?_
    refine KN ?_
    refine KB ?_
    rcases hz:getT V s with ⟨X,Y,n⟩
    rcases Nat.eq_zero_or_pos n with rfl|hn
    ·
      obtain ⟨ho2,hb2⟩:=put_get hok hz
      obtain ⟨hX,hY⟩:=on_lt ho2
      obtain ⟨e3,e4⟩:=pStr_on (decide (s.size = 1+nby V.p)) ho2
      obtain ⟨bb,hbb⟩:∃ bb,putS V X Y (decide (s.size = 1+nby V.p)) = bb:=⟨_,rfl⟩
      rw [hbb] at e3 hb2
      refine KA ?_
      refine oP (KE (o':=0) Try.underlying26 rfl rfl rfl sz_3 (by decide)) ?_
      refine oD (dL rfl (hv:=KJ Try.underlying3 rfl (by first|rfl|exact Kb _ _ _ (by omega)|exact KY _ (by omega)|exact KX _ (by omega)|exact dv_m _ _ _ (by omega)))) ?_
      refine oM ?_
      refine oS (cF rfl en_41 rfl (fun w hw=>c_s_GetE X Y 0 V.id V s w h2 hsl hz) ?_)
      refine oM ?_
      refine oP (Det.extract rfl rfl) ?_
      refine oP (Det.extract rfl rfl) ?_
      refine oS (mk (KU zr_35) (fun b16=>?_))
      refine KQ rfl (sA rfl rfl sz_35 (by exact Ki _ _ _) (hl:=by exact KS _ _ _) (h:=?_))
      refine oA ?_
      refine KC ?_
      refine KB ?_
      refine KB (KA ?_)
      refine oM ?_
      refine oS (cF rfl en_33 rfl (fun w hw=>c_Num _ w) ?_)
      refine oP (KD (v:=.bool false) rfl rfl (br_f (br_neq (b:=0)) (by decide))) ?_
      refine KC ?_
      refine KM rfl ?_
      refine KN ?_
      refine KB ?_
      refine rD [] ?_
      refine aP 0 rfl (KE (o':=0) Try.underlying26 rfl rfl rfl sz_3 (by decide)) ?_
      refine aD 1 rfl (dL rfl (hv:=KJ Try.underlying3 rfl (by first|rfl|exact Kb _ _ _ (by omega)|exact KY _ (by omega)|exact KX _ (by omega)|exact dv_m _ _ _ (by omega)))) ?_
      refine aD 2 rfl (dL rfl (hv:=by exact KG Try.underlying35 rfl sz_35)) ?_
      refine aM 3 ?_
      refine aP 4 rfl (KAH Try.underlying9 rfl) ?_
      refine aD 5 rfl (dL rfl (hv:=by exact KG Try.underlying26 rfl sz_26)) ?_
      refine aO 6 rfl (cF rfl en_48 rfl (fun w hw=>KAn Q V w (mC hw) hsz) ?_)
      refine aP 7 rfl (KD rfl rfl (Km (a:=1) (by omega))) ?_
      refine aP 8 rfl (KD (v:=.bool (decide (s.size = 1+nby V.p))) rfl rfl KAC) ?_
      refine aO 9 rfl (cF rfl en_40 rfl (fun w hw=>c_s_PutE bb 0 V.id V X Y false (decide (s.size = 1+nby V.p)) w h2 (Nat.lt_trans hX hpW) (Nat.lt_trans hY hpW) e3 e4) ?_)
      refine aM 10 ?_
      refine aP 11 rfl (Det.extract rfl rfl) ?_
      refine aP 12 rfl (Det.extract rfl rfl) ?_
      refine aA 13 ?_
      refine aA 14 ?_
      refine aE ?_
      refine KB (KA ?_)
      refine oM ?_
      refine oS (cF rfl en_33 rfl (fun w hw=>c_Num _ w) ?_)
      refine oP (KD (v:=.bool true) rfl rfl (br_t (KAC (b:=0)) (rfl))) ?_
      refine oM ?_
      refine oGM ?_
      refine oGM ?_
      refine oGP (KH (Det.eqs rfl rfl) (congrArg Value.bool (eq_str_t (hb2)))) ?_
      refine oP (Kc rfl rfl) ?_
      refine oA ?_
      refine KC (KL ?_)
      refine ⟨[_],.cons rfl .nil,fun a w' hr=>⟨?_,hr.fr.below⟩⟩
      rfl
    ·
      obtain ⟨rfl,rfl⟩:X = 0∧Y = 0:=by have:=get_err (V:=V) (s:=s) (by rw [hz]; dsimp only; omega); rw [hz] at this; exact this
      refine KA ?_
      refine oP (KE (o':=0) Try.underlying26 rfl rfl rfl sz_3 (by decide)) ?_
      refine oD (dL rfl (hv:=KJ Try.underlying3 rfl (by first|rfl|exact Kb _ _ _ (by omega)|exact KY _ (by omega)|exact KX _ (by omega)|exact dv_m _ _ _ (by omega)))) ?_
      refine oM ?_
      refine oS (cF rfl en_41 rfl (fun w hw=>c_s_GetE 0 0 n V.id V s w h2 hsl hz) ?_)
      refine oM ?_
      refine oP (Det.extract rfl rfl) ?_
      refine oP (Det.extract rfl rfl) ?_
      refine oS (mk (KU zr_35) (fun b16=>?_))
      refine KQ rfl (sA rfl rfl sz_35 (by exact Ki _ _ _) (hl:=by exact KS _ _ _) (h:=?_))
      refine oA ?_
      refine KC ?_
      refine KB ?_
      refine KB (KA ?_)
      refine oM ?_
      refine oS (cF rfl en_33 rfl (fun w hw=>c_Num _ w) ?_)
      refine oP (KD (v:=.bool true) rfl rfl (br_t (br_neq (b:=0)) ((by omega)))) ?_
      refine KC ?_
      refine Ka rfl ?_
      refine KB (KA ?_)
      refine oD (dL rfl (hv:=by exact KG Try.underlying35 rfl sz_35)) ?_
      refine oP (KH (Ko pl_35 zr_35 rfl rfl) (show _ = ptV 0 0 false from pt_zero)) ?_
      refine oP (KH (Det.eqa (by kernel_rfl) (fun w=>eq_pt_t zero_w9 zero_w9 10000 (by decide) w) rfl rfl) (show _ = Value.bool true by rfl)) ?_
      refine oA ?_
      refine KC (KL ?_)
      refine ⟨[_],.cons rfl .nil,fun a w' hr=>⟨?_,hr.fr.below⟩⟩
      rfl
end Go.Proofs.Ytlmiolnccgjjjaa
set_option linter.unusedVariables false
set_option linter.unusedSimpArgs false
set_option maxRecDepth 20000
namespace Go.Proofs.Ytlmiolnccgjjjaa
open Go Go.RowKit
open Grp
theorem c_n_BytesNo (q:NV) (A n:Nat) (w:World) (hq:(numT q A).holds w) (hA:D.nw A≤1000000) (hn:n≤72) (hf:8*n<blen A):Calls Try.prog 51 ([numV q A,.int .i64 ((n:Nat):Int)]:List Value).toArray w (fun e w'=>e = .returned (.tuple #[.string ⟨#[]⟩,.bool false])∧Below w.heap.size w w'):=by
  have h:=c_n_Bytes q A n w hq hA hn
  rwa [if_pos hf] at h
theorem blen_pow {A n:Nat} (h:¬ 8*n<blen A):A<256^n:=by
  have h1:=lt_blen A
  have h2:2^blen A≤2^(8*n):=Nat.pow_le_pow_right (by decide) (by omega)
  rw [Nat.pow_mul] at h2
  exact Nat.lt_of_lt_of_le h1 h2
def greatS (V:Cv) (A B:Nat):ByteArray:=⟨#[4]⟩++strOf (beBytes (nby V.p) A)++strOf (beBytes (nby V.p) B)
theorem great_l (V:Cv) (A B:Nat):(greatS V A B).data.toList = 4 :: (beBytes (nby V.p) A++beBytes (nby V.p) B):=by
  unfold greatS strOf
  rw [ByteArray.toList_data_append,ByteArray.toList_data_append]; rfl
theorem great_size {V:Cv} (hnb:nby V.p≤72) (A B:Nat):(greatS V A B).size<9223372036854775808:=by
  rw [size_l,great_l,List.length_cons,List.length_append,KAV,KAV]; omega
theorem great_get {V:Cv} (hok:V.Ok) {A B:Nat} (hA:A<256^nby V.p) (hB:B<256^nby V.p) (h:onB V.p V.a V.b A B false = false):getT V (greatS V A B) = (0,0,2101):=by
  refine (getT_long (ok:=false) (nby_posV hok) (great_l V A B) (KAV _ _) (KAV _ _) ?_).trans rfl
  rw [beVal_bytes,beVal_bytes,Nat.mod_eq_of_lt hA,Nat.mod_eq_of_lt hB]; exact h
theorem pErr_off {V:Cv} {X Y:Nat} (sh:Bool) (h:onB V.p V.a V.b X Y false = false):pStr V X Y false sh = ⟨#[]⟩∧pErr V X Y false = 2101:=by
  unfold pStr pErr
  rw [if_neg (by rw [h]; decide),if_neg (by rw [h]; decide)]
  exact ⟨rfl,rfl⟩
theorem two_p9 {p:Nat} (h:p<P521) {x:Nat} (hx:x<p):x+p<W9:=by have:=w9_half h; omega
theorem c_Sec1Great (id:Int) (k:Nat) (yb:Bool) (w:World) (hk:k<18446744073709551616):Calls Try.prog 11 ([.int .i64 id,.int .u64 ((k:Nat):Int),.bool yb]:List Value).toArray w (fun e w'=>e = .returned (.bool true)∧Below w.heap.size w w'):=by
  obtain ⟨V,h⟩:=cvI_idx id
  obtain ⟨hok,hid⟩:=cvI_ok h
  have h2:=cvI_id h
  obtain ⟨hb5,hb521,hba,hbb,hbx,hby,hbn,hbo,hbo2,hbb1,hbn1⟩:=hok.bounds
  have hsz:=hok.sz
  have hsp:=hsz.p
  have hsa:=hsz.a
  have hsb:=hsz.b
  have hp0:V.p≠0:=by omega
  have hpp:0<V.p:=by omega
  have hm17:∀ k,D.nw (k%V.p)≤17:=fun k=>Nat.le_trans (D.nw_mono (Nat.le_of_lt (Nat.mod_lt k hpp))) hsp
  have hpW:V.p<W9:=KAO hb521
  have hnW:V.n<W9:=KAO hbn
  have hxW:=Nat.lt_trans hbx hpW
  have hyW:=Nat.lt_trans hby hpW
  have hsn:=hsz.n
  have h17:∀ {A:Nat},A<V.p→D.nw A≤100000:=fun h=>Nat.le_trans (nw_521 (Nat.lt_trans h hb521)) (by decide)
  have hnp:=nbp_72 hok
  obtain ⟨P,hPe⟩:∃ P,pmul V.A V.G k = P:=⟨_,rfl⟩
  have hP:On V.A V.B P:=hPe ▸ hok.mul hok.on k
  have hdk:=KAb (u64_w9 hk)
  have h6:∀ {A:Nat},A<V.p→D.nw A≤1000000:=fun h=>Nat.le_trans (h17 h) (by decide)
  have hpd:D.nw V.p≤1000000:=Nat.le_trans hsz.p (by decide)
  refine Ke (N:=123) (rs:=[.tmp 6]) [] Try.func11 rfl Try.ntmps11 Try.results11 (Nb rfl) trivial rfl ?_
  show LCode _ _ _ ⟨_,_⟩ _
  refine KB (KA ?_)
  refine oA ?_
  refine KC ?_
  refine KB ?_
  refine KB (KA ?_)
  refine oS (cF rfl en_42 rfl (fun w hw=>c_awake21 w) ?_)
  refine oP (KH (KAG rfl) (show _ = Value.bool false from rfl)) ?_
  refine KC ?_
  refine KM rfl ?_
  refine KN ?_
  refine KB (KA ?_)
  refine oM ?_
  refine oP (KH (Det.conv Try.underlying3 Try.underlying29 rfl) (uidx_eq _)) ?_
  refine oP (KD rfl rfl (br_rem64 (b:=15) (by omega))) ?_
  refine oP (KAc Try.underlying29 Try.underlying3 rfl (by omega)) ?_
  refine oP (KD rfl rfl (Km (a:=1) (by omega))) ?_
  refine oS (KAZ (Post:=fun v its=>∃ Q,v = .tuple #[.agg (crvL Q V).toArray,.bool true]∧its = [crvI Q V]) (first:=[]) rfl en_29 rfl (Nb rfl) (fun w1 hw hs=>(c_r_Get _ V w1 h).mono fun e w' ⟨Q,h1,h2,h3,h4⟩=>⟨_,_,⟨Q,rfl,rfl⟩,h1,KAf h4 (by intro x hx; simp at hx; subst hx; exact h2) (by intro x hx; simp at hx; subst hx; rfl) (by intro x hx k hk; simp at hx; subst hx; exact .inl (h3 k hk))⟩) ?_)
  rintro _ _ ⟨Q,rfl,rfl⟩
  refine oM ?_
  refine oP (Det.extract rfl rfl) ?_
  refine oP (Det.extract rfl rfl) ?_
  refine oS (mk (KU zr_26) (fun b7=>?_))
  refine KQ rfl (sA rfl rfl sz_26 (by repeat (first|exact KT|refine KO rfl ?_)) (hl:=by rfl) (h:=?_))
  refine oA ?_
  refine KC ?_
  refine KB ?_
  refine rD [8] ?_
  refine aD 0 rfl (dL rfl (hv:=by exact KG Try.underlying26 rfl sz_26)) ?_
  refine aM 1 ?_
  refine aD 4 rfl (dL rfl (hv:=by exact KG Try.underlying26 rfl sz_26)) ?_
  refine LAny.toP ?_
  refine KAe 7 rfl (.inl zr_38) (Nb rfl) rfl rfl rfl ?_
  refine KAD 2 rfl rfl rfl (Nb rfl) (by kernel_rfl) rfl (KAS (first:=[]) rfl en_47 rfl (fun w hw=>c_One k w hk)) ?_
  rintro _ _ ⟨rfl,rfl⟩
  refine KAD 3 rfl rfl rfl (Nb rfl) (by kernel_rfl) rfl (LExt.callZ (first:=[]) rfl en_46 rfl (fun w hw hs=>(c_n_From (k) (u64_w9 hk) w).mono fun e w' h=>Ky (Old.nil _) hs h)) ?_
  rintro _ _ ⟨qk,rfl,rfl,hnk⟩
  refine KAD 5 rfl rfl rfl (Nb rfl) (by kernel_rfl) rfl (LExt.callZ (first:=[]) rfl en_31 rfl (fun w hw hs=>(c_r_GP Q V w (mC hw) hok).mono fun e w' h=>Num2R.q (Old.one (x:=crvI Q V) (by repeat (first|exact Mh _|apply Mt)) rfl) hs h)) ?_
  rintro _ _ ⟨qga,qgb,rfl,rfl,hnga,hngb⟩
  refine KAD 6 rfl rfl rfl (Nb rfl) (by kernel_rfl) rfl (LExt.callZ (first:=[]) rfl en_38 rfl (fun w hw hs=>(c_r_Times Q V qk (k) qga qgb (V.G) (P) w (mC hw) hok (mC hw) (by omega) (mC hw) (mC hw) (hok.on) (hPe)).mono fun e w' h=>Num2R.q (Old.pt (by repeat (first|exact Mh _|apply Mt)) (by repeat (first|exact Mh _|apply Mt)) (Old.nil _)) hs h)) ?_
  rintro _ _ ⟨qta,qtb,rfl,rfl,hnta,hntb⟩
  refine pE (fun b9=>?_)
  refine LAnyP.toAny ?_
  refine aL 8 rfl (sA rfl rfl sz_38 (by repeat (first|exact KT|refine KO rfl ?_)) (hl:=by rfl) (h:=?_))
  refine aE ?_
  refine KB ?_
  refine KB ?_
  rcases P with _|⟨x,y⟩
  ·
    refine KA ?_
    refine oM ?_
    refine oP (KH (KAG rfl) (show _ = Value.bool false from rfl)) ?_
    refine oM ?_
    refine oGP (KE (o':=2) Try.underlying38 rfl rfl rfl sz_4 (by decide)) ?_
    refine KAM rfl rfl (dL rfl (hv:=KJ Try.underlying4 rfl (by first|rfl|exact Kb _ _ _ (by omega)|exact KY _ (by omega)|exact KX _ (by omega)|exact dv_m _ _ _ (by omega)))) (Nb rfl) ?_
    refine oP (KZ rfl rfl) ?_
    refine KC ?_
    refine Ka rfl ?_
    refine KB (KA ?_)
    refine oM ?_
    refine oA ?_
    refine KC (KL ?_)
    refine ⟨[_],.cons rfl .nil,fun a w' hr=>⟨?_,hr.fr.below⟩⟩
    rfl
  ·
    have hon:=aff_on hP
    obtain ⟨hxp,hyp⟩:=on_lt hon
    have hx9:=Nat.lt_trans hxp hpW
    have hy9:=Nat.lt_trans hyp hpW
    refine KA ?_
    refine oM ?_
    refine oP (KH (KAG rfl) (show _ = Value.bool false from rfl)) ?_
    refine oM ?_
    refine oGP (KE (o':=2) Try.underlying38 rfl rfl rfl sz_4 (by decide)) ?_
    refine KAM rfl rfl (dL rfl (hv:=KJ Try.underlying4 rfl (by first|rfl|exact Kb _ _ _ (by omega)|exact KY _ (by omega)|exact KX _ (by omega)|exact dv_m _ _ _ (by omega)))) (Nb rfl) ?_
    refine oP (KZ rfl rfl) ?_
    refine KC ?_
    refine KM rfl ?_
    refine KN ?_
    refine KB ?_
    refine rD [] ?_
    refine aP 0 rfl (KE (o':=0) Try.underlying38 rfl rfl rfl sz_24 (by decide)) ?_
    refine aD 1 rfl (dL rfl (hv:=KJ Try.underlying24 rfl (by first|rfl|exact Kb _ _ _ (by omega)|exact KY _ (by omega)|exact KX _ (by omega)|exact dv_m _ _ _ (by omega)))) ?_
    refine aP 2 rfl (KE (o':=1) Try.underlying38 rfl rfl rfl sz_24 (by decide)) ?_
    refine aD 3 rfl (dL rfl (hv:=KJ Try.underlying24 rfl (by first|rfl|exact Kb _ _ _ (by omega)|exact KY _ (by omega)|exact KX _ (by omega)|exact dv_m _ _ _ (by omega)))) ?_
    refine aA 4 ?_
    refine aA 5 ?_
    refine aE ?_
    refine KB ?_
    refine KB ?_
    cases yb
    ·
      refine KA ?_
      refine oM ?_
      refine KC ?_
      refine KM rfl ?_
      refine KA ?_
      refine oM ?_
      refine oP (KE (o':=1) Try.underlying26 rfl rfl rfl sz_24 (by decide)) ?_
      refine oD (dL rfl (hv:=KJ Try.underlying24 rfl (by first|rfl|exact Kb _ _ _ (by omega)|exact KY _ (by omega)|exact KX _ (by omega)|exact dv_m _ _ _ (by omega)))) ?_
      refine oS (cZ rfl en_50 rfl (fun w hw hs=>(c_n_Add qta Q.p x.val V.p w (mC hw) (KAh (mC hw)) (h6 hxp) hpd).mono fun e w' h=>Ky (Old.nil _) hs h) ?_)
      rintro _ _ ⟨q57,rfl,rfl,hn57⟩
      refine oA ?_
      refine KC ?_
      refine KB ?_
      have hfy:=nby_le hyp
      have hoff:onB V.p V.a V.b (x.val+V.p) y.val false = false:=on_x' (by omega)
      have hA9:(x.val+V.p)<W9:=two_p9 hb521 hxp
      have hB9:y.val<W9:=hy9
      have hdA:=KAb hA9
      have hdB:=KAb hB9
      rcases Classical.em (¬ 8*nby V.p<blen (x.val+V.p)) with hfx|hno
      rotate_left
      have hfx:8*nby V.p<blen (x.val+V.p):=Classical.not_not.1 hno
      ·
        refine KA ?_
        refine oM ?_
        refine oD (dL rfl (hv:=by exact KG Try.underlying26 rfl sz_26)) ?_
        refine oS (cF rfl en_48 rfl (fun w hw=>KAn Q V w (mC hw) hsz) ?_)
        refine oS (cF rfl en_51 rfl (fun w hw=>c_n_BytesNo q57 (x.val+V.p) (nby V.p) w (mC hw) (by omega) hnp hfx) ?_)
        refine oM ?_
        refine oP (Det.extract rfl rfl) ?_
        refine oP (Det.extract rfl rfl) ?_
        refine oA ?_
        refine oA ?_
        refine KC ?_
        refine KB (KA ?_)
        refine oM ?_
        refine oD (dL rfl (hv:=by exact KG Try.underlying26 rfl sz_26)) ?_
        refine oS (cF rfl en_48 rfl (fun w hw=>KAn Q V w (mC hw) hsz) ?_)
        refine oS (cF rfl en_51 rfl (fun w hw=>c_n_BytesOK qtb y.val (nby V.p) w (mC hw) (by omega) hnp hfy) ?_)
        refine oM ?_
        refine oP (Det.extract rfl rfl) ?_
        refine oP (Det.extract rfl rfl) ?_
        refine oA ?_
        refine oA ?_
        refine KC ?_
        refine KB ?_
        refine KB (KA ?_)
        refine oM ?_
        refine oP (KH (KAG rfl) (show _ = Value.bool true from rfl)) ?_
        refine oM ?_
        refine oK ?_
        refine oK ?_
        refine oP (Kc rfl rfl) ?_
        refine KC ?_
        refine Ka rfl ?_
        refine KB (KA ?_)
        refine oA ?_
        refine KC (KL ?_)
        refine ⟨[_],.cons rfl .nil,fun a w' hr=>⟨?_,hr.fr.below⟩⟩
        rfl
      ·
        refine KA ?_
        refine oM ?_
        refine oD (dL rfl (hv:=by exact KG Try.underlying26 rfl sz_26)) ?_
        refine oS (cF rfl en_48 rfl (fun w hw=>KAn Q V w (mC hw) hsz) ?_)
        refine oS (cF rfl en_51 rfl (fun w hw=>c_n_BytesOK q57 (x.val+V.p) (nby V.p) w (mC hw) (by omega) hnp hfx) ?_)
        refine oM ?_
        refine oP (Det.extract rfl rfl) ?_
        refine oP (Det.extract rfl rfl) ?_
        refine oA ?_
        refine oA ?_
        refine KC ?_
        refine KB (KA ?_)
        refine oM ?_
        refine oD (dL rfl (hv:=by exact KG Try.underlying26 rfl sz_26)) ?_
        refine oS (cF rfl en_48 rfl (fun w hw=>KAn Q V w (mC hw) hsz) ?_)
        refine oS (cF rfl en_51 rfl (fun w hw=>c_n_BytesOK qtb y.val (nby V.p) w (mC hw) (by omega) hnp hfy) ?_)
        refine oM ?_
        refine oP (Det.extract rfl rfl) ?_
        refine oP (Det.extract rfl rfl) ?_
        refine oA ?_
        refine oA ?_
        refine KC ?_
        refine KB ?_
        refine KB (KA ?_)
        refine oM ?_
        refine oP (KH (KAG rfl) (show _ = Value.bool false from rfl)) ?_
        refine oM ?_
        refine oGM ?_
        refine oGP (KH (KAG rfl) (show _ = Value.bool false from rfl)) ?_
        refine oP (KZ rfl rfl) ?_
        refine KC ?_
        refine KM rfl ?_
        refine KN ?_
        refine KB ?_
        have hgt:=great_get hok (blen_pow hfx) (blen_pow hfy) hoff
        refine KA ?_
        refine oP (KE (o':=0) Try.underlying26 rfl rfl rfl sz_3 (by decide)) ?_
        refine oD (dL rfl (hv:=KJ Try.underlying3 rfl (by first|rfl|exact Kb _ _ _ (by omega)|exact KY _ (by omega)|exact KX _ (by omega)|exact dv_m _ _ _ (by omega)))) ?_
        refine oM ?_
        refine oP (Det.cat rfl rfl (by have h2:=str_size (nby V.p) (x.val+V.p); have h3:=str_size (nby V.p) y.val; have h5:(⟨#[4]⟩:ByteArray).size = 1:=rfl; try simp only [ByteArray.size_append,h2,h3,h5]; omega)) ?_
        refine oM ?_
        refine oP (Det.cat rfl rfl (by have h2:=str_size (nby V.p) (x.val+V.p); have h3:=str_size (nby V.p) y.val; have h5:(⟨#[4]⟩:ByteArray).size = 1:=rfl; try simp only [ByteArray.size_append,h2,h3,h5]; omega)) ?_
        refine oS (cF rfl en_41 rfl (fun w hw=>c_s_GetE 0 0 2101 V.id V (greatS V (x.val+V.p) y.val) w h2 (great_size hnp _ _) hgt) ?_)
        refine oM ?_
        refine oP (Det.extract rfl rfl) ?_
        refine oP (Det.extract rfl rfl) ?_
        refine oS (mk (KU zr_35) (fun b16=>?_))
        refine KQ rfl (sA rfl rfl sz_35 (by exact Ki _ _ _) (hl:=by exact KS _ _ _) (h:=?_))
        refine oA ?_
        refine KC ?_
        refine KB ?_
        refine rD [] ?_
        refine aP 0 rfl (KE (o':=0) Try.underlying26 rfl rfl rfl sz_3 (by decide)) ?_
        refine aD 1 rfl (dL rfl (hv:=KJ Try.underlying3 rfl (by first|rfl|exact Kb _ _ _ (by omega)|exact KY _ (by omega)|exact KX _ (by omega)|exact dv_m _ _ _ (by omega)))) ?_
        refine aM 2 ?_
        refine aM 4 ?_
        refine aO 3 rfl (cF rfl en_52 rfl (fun w hw=>c_n_Nat q57 ((x.val+V.p)) (D.nw ((x.val+V.p))) w (mC hw)) ?_)
        refine aO 5 rfl (cF rfl en_52 rfl (fun w hw=>c_n_Nat qtb (y.val) (D.nw (y.val)) w (mC hw)) ?_)
        refine aP 6 rfl (KH (Ko pl_35 zr_35 rfl (fill_ptI2 _ _)) rfl) ?_
        refine aO 7 rfl (cF rfl en_40 rfl (fun w hw=>c_s_PutE ⟨#[]⟩ 2101 V.id V (x.val+V.p) y.val false false w h2 hA9 hB9 (pErr_off false hoff).1 (pErr_off false hoff).2) ?_)
        refine aM 8 ?_
        refine aP 9 rfl (Det.extract rfl rfl) ?_
        refine aP 10 rfl (Det.extract rfl rfl) ?_
        refine aA 11 ?_
        refine aA 12 ?_
        refine aE ?_
        refine KB ?_
        refine rD [] ?_
        refine aM 0 ?_
        refine aO 1 rfl (cF rfl en_33 rfl (fun w hw=>c_Num _ w) ?_)
        refine aP 2 rfl (KD (v:=.bool true) rfl rfl (br_t (KAC (b:=2101)) (by first|rfl|assumption|omega|(simp; done)))) ?_
        refine aM 3 ?_
        refine aGD 4 rfl (dL rfl (hv:=by exact KG Try.underlying35 rfl sz_35)) ?_
        refine aGP 5 rfl (KH (Ko pl_35 zr_35 rfl rfl) (show _ = ptV 0 0 false from pt_zero)) ?_
        refine aGP 6 rfl (KH (Det.eqa (by kernel_rfl) (fun w=>eq_pt_t zero_w9 zero_w9 10000 (by decide) w) rfl rfl) (show _ = Value.bool true by rfl)) ?_
        refine aP 7 rfl (Kc rfl rfl) ?_
        refine aM 8 ?_
        refine aGM 9 ?_
        refine aGO 10 rfl (cF rfl en_33 rfl (fun w hw=>c_Num _ w) ?_)
        refine aGP 11 rfl (KD (v:=.bool true) rfl rfl (br_t (KAC (b:=2101)) (by first|rfl|assumption|omega|(simp; done)))) ?_
        refine aP 12 rfl (Kc rfl rfl) ?_
        refine aM 13 ?_
        refine aGP 14 rfl (KE (o':=0) Try.underlying26 rfl rfl rfl sz_3 (by decide)) ?_
        refine aGD 15 rfl (dL rfl (hv:=KJ Try.underlying3 rfl (by first|rfl|exact Kb _ _ _ (by omega)|exact KY _ (by omega)|exact KX _ (by omega)|exact dv_m _ _ _ (by omega)))) ?_
        refine aGM 16 ?_
        refine aGM 18 ?_
        refine aGO 17 rfl (cF rfl en_52 rfl (fun w hw=>c_n_Nat q57 ((x.val+V.p)) (D.nw ((x.val+V.p))) w (mC hw)) ?_)
        refine aGO 19 rfl (cF rfl en_52 rfl (fun w hw=>c_n_Nat qtb (y.val) (D.nw (y.val)) w (mC hw)) ?_)
        refine aGP 20 rfl (KH (Ko pl_35 zr_35 rfl (fill_ptI2 _ _)) rfl) ?_
        refine aGO 21 rfl (cF rfl en_53 rfl (fun w hw=>c_curveOnB V.id V (x.val+V.p) y.val false false w h2 hA9 hB9 hoff) ?_)
        refine aGP 22 rfl (KH (KAG rfl) (show _ = Value.bool true from rfl)) ?_
        refine aP 23 rfl (Kc rfl rfl) ?_
        refine aA 24 ?_
        refine aE ?_
        refine KL ?_
        refine ⟨[_],.cons rfl .nil,fun a w' hr=>⟨?_,hr.fr.below⟩⟩
        rfl
    ·
      refine KA ?_
      refine oM ?_
      refine KC ?_
      refine Ka rfl ?_
      refine KA ?_
      refine oM ?_
      refine oP (KE (o':=1) Try.underlying26 rfl rfl rfl sz_24 (by decide)) ?_
      refine oD (dL rfl (hv:=KJ Try.underlying24 rfl (by first|rfl|exact Kb _ _ _ (by omega)|exact KY _ (by omega)|exact KX _ (by omega)|exact dv_m _ _ _ (by omega)))) ?_
      refine oS (cZ rfl en_50 rfl (fun w hw hs=>(c_n_Add qtb Q.p y.val V.p w (mC hw) (KAh (mC hw)) (h6 hyp) hpd).mono fun e w' h=>Ky (Old.nil _) hs h) ?_)
      rintro _ _ ⟨q53,rfl,rfl,hn53⟩
      refine oA ?_
      refine KC ?_
      refine KB ?_
      have hfx:=nby_le hxp
      have hoff:onB V.p V.a V.b x.val (y.val+V.p) false = false:=on_yy' (by omega)
      have hA9:x.val<W9:=hx9
      have hB9:(y.val+V.p)<W9:=two_p9 hb521 hyp
      have hdA:=KAb hA9
      have hdB:=KAb hB9
      rcases Classical.em (¬ 8*nby V.p<blen (y.val+V.p)) with hfy|hno
      rotate_left
      have hfy:8*nby V.p<blen (y.val+V.p):=Classical.not_not.1 hno
      ·
        refine KA ?_
        refine oM ?_
        refine oD (dL rfl (hv:=by exact KG Try.underlying26 rfl sz_26)) ?_
        refine oS (cF rfl en_48 rfl (fun w hw=>KAn Q V w (mC hw) hsz) ?_)
        refine oS (cF rfl en_51 rfl (fun w hw=>c_n_BytesOK qta x.val (nby V.p) w (mC hw) (by omega) hnp hfx) ?_)
        refine oM ?_
        refine oP (Det.extract rfl rfl) ?_
        refine oP (Det.extract rfl rfl) ?_
        refine oA ?_
        refine oA ?_
        refine KC ?_
        refine KB (KA ?_)
        refine oM ?_
        refine oD (dL rfl (hv:=by exact KG Try.underlying26 rfl sz_26)) ?_
        refine oS (cF rfl en_48 rfl (fun w hw=>KAn Q V w (mC hw) hsz) ?_)
        refine oS (cF rfl en_51 rfl (fun w hw=>c_n_BytesNo q53 (y.val+V.p) (nby V.p) w (mC hw) (by omega) hnp hfy) ?_)
        refine oM ?_
        refine oP (Det.extract rfl rfl) ?_
        refine oP (Det.extract rfl rfl) ?_
        refine oA ?_
        refine oA ?_
        refine KC ?_
        refine KB ?_
        refine KB (KA ?_)
        refine oM ?_
        refine oP (KH (KAG rfl) (show _ = Value.bool false from rfl)) ?_
        refine oM ?_
        refine oGM ?_
        refine oGP (KH (KAG rfl) (show _ = Value.bool true from rfl)) ?_
        refine oP (KZ rfl rfl) ?_
        refine KC ?_
        refine Ka rfl ?_
        refine KB (KA ?_)
        refine oA ?_
        refine KC (KL ?_)
        refine ⟨[_],.cons rfl .nil,fun a w' hr=>⟨?_,hr.fr.below⟩⟩
        rfl
      ·
        refine KA ?_
        refine oM ?_
        refine oD (dL rfl (hv:=by exact KG Try.underlying26 rfl sz_26)) ?_
        refine oS (cF rfl en_48 rfl (fun w hw=>KAn Q V w (mC hw) hsz) ?_)
        refine oS (cF rfl en_51 rfl (fun w hw=>c_n_BytesOK qta x.val (nby V.p) w (mC hw) (by omega) hnp hfx) ?_)
        refine oM ?_
        refine oP (Det.extract rfl rfl) ?_
        refine oP (Det.extract rfl rfl) ?_
        refine oA ?_
        refine oA ?_
        refine KC ?_
        refine KB (KA ?_)
        refine oM ?_
        refine oD (dL rfl (hv:=by exact KG Try.underlying26 rfl sz_26)) ?_
        refine oS (cF rfl en_48 rfl (fun w hw=>KAn Q V w (mC hw) hsz) ?_)
        refine oS (cF rfl en_51 rfl (fun w hw=>c_n_BytesOK q53 (y.val+V.p) (nby V.p) w (mC hw) (by omega) hnp hfy) ?_)
        refine oM ?_
        refine oP (Det.extract rfl rfl) ?_
        refine oP (Det.extract rfl rfl) ?_
        refine oA ?_
        refine oA ?_
        refine KC ?_
        refine KB ?_
        refine KB (KA ?_)
        refine oM ?_
        refine oP (KH (KAG rfl) (show _ = Value.bool false from rfl)) ?_
        refine oM ?_
        refine oGM ?_
        refine oGP (KH (KAG rfl) (show _ = Value.bool false from rfl)) ?_
        refine oP (KZ rfl rfl) ?_
        refine KC ?_
        refine KM rfl ?_
        refine KN ?_
        refine KB ?_
        have hgt:=great_get hok (blen_pow hfx) (blen_pow hfy) hoff
        refine KA ?_
        refine oP (KE (o':=0) Try.underlying26 rfl rfl rfl sz_3 (by decide)) ?_
        refine oD (dL rfl (hv:=KJ Try.underlying3 rfl (by first|rfl|exact Kb _ _ _ (by omega)|exact KY _ (by omega)|exact KX _ (by omega)|exact dv_m _ _ _ (by omega)))) ?_
        refine oM ?_
        refine oP (Det.cat rfl rfl (by have h2:=str_size (nby V.p) x.val; have h3:=str_size (nby V.p) (y.val+V.p); have h5:(⟨#[4]⟩:ByteArray).size = 1:=rfl; try simp only [ByteArray.size_append,h2,h3,h5]; omega)) ?_
        refine oM ?_
        refine oP (Det.cat rfl rfl (by have h2:=str_size (nby V.p) x.val; have h3:=str_size (nby V.p) (y.val+V.p); have h5:(⟨#[4]⟩:ByteArray).size = 1:=rfl; try simp only [ByteArray.size_append,h2,h3,h5]; omega)) ?_
        refine oS (cF rfl en_41 rfl (fun w hw=>c_s_GetE 0 0 2101 V.id V (greatS V x.val (y.val+V.p)) w h2 (great_size hnp _ _) hgt) ?_)
        refine oM ?_
        refine oP (Det.extract rfl rfl) ?_
        refine oP (Det.extract rfl rfl) ?_
        refine oS (mk (KU zr_35) (fun b16=>?_))
        refine KQ rfl (sA rfl rfl sz_35 (by exact Ki _ _ _) (hl:=by exact KS _ _ _) (h:=?_))
        refine oA ?_
        refine KC ?_
        refine KB ?_
        refine rD [] ?_
        refine aP 0 rfl (KE (o':=0) Try.underlying26 rfl rfl rfl sz_3 (by decide)) ?_
        refine aD 1 rfl (dL rfl (hv:=KJ Try.underlying3 rfl (by first|rfl|exact Kb _ _ _ (by omega)|exact KY _ (by omega)|exact KX _ (by omega)|exact dv_m _ _ _ (by omega)))) ?_
        refine aM 2 ?_
        refine aM 4 ?_
        refine aO 3 rfl (cF rfl en_52 rfl (fun w hw=>c_n_Nat qta (x.val) (D.nw (x.val)) w (mC hw)) ?_)
        refine aO 5 rfl (cF rfl en_52 rfl (fun w hw=>c_n_Nat q53 ((y.val+V.p)) (D.nw ((y.val+V.p))) w (mC hw)) ?_)
        refine aP 6 rfl (KH (Ko pl_35 zr_35 rfl (fill_ptI2 _ _)) rfl) ?_
        refine aO 7 rfl (cF rfl en_40 rfl (fun w hw=>c_s_PutE ⟨#[]⟩ 2101 V.id V x.val (y.val+V.p) false false w h2 hA9 hB9 (pErr_off false hoff).1 (pErr_off false hoff).2) ?_)
        refine aM 8 ?_
        refine aP 9 rfl (Det.extract rfl rfl) ?_
        refine aP 10 rfl (Det.extract rfl rfl) ?_
        refine aA 11 ?_
        refine aA 12 ?_
        refine aE ?_
        refine KB ?_
        refine rD [] ?_
        refine aM 0 ?_
        refine aO 1 rfl (cF rfl en_33 rfl (fun w hw=>c_Num _ w) ?_)
        refine aP 2 rfl (KD (v:=.bool true) rfl rfl (br_t (KAC (b:=2101)) (by first|rfl|assumption|omega|(simp; done)))) ?_
        refine aM 3 ?_
        refine aGD 4 rfl (dL rfl (hv:=by exact KG Try.underlying35 rfl sz_35)) ?_
        refine aGP 5 rfl (KH (Ko pl_35 zr_35 rfl rfl) (show _ = ptV 0 0 false from pt_zero)) ?_
        refine aGP 6 rfl (KH (Det.eqa (by kernel_rfl) (fun w=>eq_pt_t zero_w9 zero_w9 10000 (by decide) w) rfl rfl) (show _ = Value.bool true by rfl)) ?_
        refine aP 7 rfl (Kc rfl rfl) ?_
        refine aM 8 ?_
        refine aGM 9 ?_
        refine aGO 10 rfl (cF rfl en_33 rfl (fun w hw=>c_Num _ w) ?_)
        refine aGP 11 rfl (KD (v:=.bool true) rfl rfl (br_t (KAC (b:=2101)) (by first|rfl|assumption|omega|(simp; done)))) ?_
        refine aP 12 rfl (Kc rfl rfl) ?_
        refine aM 13 ?_
        refine aGP 14 rfl (KE (o':=0) Try.underlying26 rfl rfl rfl sz_3 (by decide)) ?_
        refine aGD 15 rfl (dL rfl (hv:=KJ Try.underlying3 rfl (by first|rfl|exact Kb _ _ _ (by omega)|exact KY _ (by omega)|exact KX _ (by omega)|exact dv_m _ _ _ (by omega)))) ?_
        refine aGM 16 ?_
        refine aGM 18 ?_
        refine aGO 17 rfl (cF rfl en_52 rfl (fun w hw=>c_n_Nat qta (x.val) (D.nw (x.val)) w (mC hw)) ?_)
        refine aGO 19 rfl (cF rfl en_52 rfl (fun w hw=>c_n_Nat q53 ((y.val+V.p)) (D.nw ((y.val+V.p))) w (mC hw)) ?_)
        refine aGP 20 rfl (KH (Ko pl_35 zr_35 rfl (fill_ptI2 _ _)) rfl) ?_
        refine aGO 21 rfl (cF rfl en_53 rfl (fun w hw=>c_curveOnB V.id V x.val (y.val+V.p) false false w h2 hA9 hB9 hoff) ?_)
        refine aGP 22 rfl (KH (KAG rfl) (show _ = Value.bool true from rfl)) ?_
        refine aP 23 rfl (Kc rfl rfl) ?_
        refine aA 24 ?_
        refine aE ?_
        refine KL ?_
        refine ⟨[_],.cons rfl .nil,fun a w' hr=>⟨?_,hr.fr.below⟩⟩
        rfl
end Go.Proofs.Ytlmiolnccgjjjaa
