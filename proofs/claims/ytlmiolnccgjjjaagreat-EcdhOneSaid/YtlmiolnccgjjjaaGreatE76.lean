/- Part 6 of what the proof leans on: a symbolic execution of the model, walks of the program's functions, and the mathematics. No condition. -/
import Derived.WalkKit
import Derived.Orders
import Derived.Laws.StructEq
import Derived.WalkSpells
import Derived.OrdersHeld
import Derived.KernelRfl
import Derived.Laws.Externs
import Derived.Laws.Bits64
import Derived.Laws.MakeOwn
import Derived.Laws.BytesString
import Derived.Carry
import Derived.WideShapes
import GoSem.Claim
import Derived.Test.YtlmiolnccgjjjaaGreatProg
import Derived.Laws.AppendOwn
import Derived.Test.YtlmiolnccgjjjaaGreatRows
import Derived.ProofKit
import Derived.OpenShut
import Derived.Test.YtlmiolnccgjjjaaGreatE75
set_option linter.unusedVariables false
set_option linter.unusedSimpArgs false
set_option maxRecDepth 20000
namespace Go.Proofs.YtlmiolnccgjjjaaGreat
open Go Go.RowKit
open Grp
def dg (K m i:Nat):Nat:=K/2^((m-1-i)*4)%16
theorem dg_lt (K m i:Nat):dg K m i<16:=Nat.mod_lt _ dc
theorem and15 (A:Nat):limb A 0 &&& 15 = A%16:=by
  rw [show 15 = 2^4-1 from rfl,Nat.and_two_pow_sub_one_eq_mod]
  unfold limb
  rw [Nat.mul_zero,Nat.pow_zero,Nat.div_one,show (2:Nat)^4 = 16 from rfl]
  omega
theorem vec_snoc {k:IntKind} {f:Nat→Nat} {n x:Nat} (h:x = f n) (rest:List Value):(vec k n f++[Value.int k ((x:Nat):Int)])++rest = vec k (n+1) f++rest:=by
  subst h
  congr 1
  simp [vec,List.range_succ]
theorem vec_first {k:IntKind} {f:Nat→Nat} {x:Nat} (h:x = f 0) (rest:List Value):[Value.int k ((x:Nat):Int)]++rest = vec k (0+1) f++rest:=by
  subst h; rfl
structure DigS where
  j:Nat
  bd:Nat
  cap:Nat
  rest:List Value
theorem dig_cases (x:Option DigS) (m:Nat):x = none∨(∃ j bd cap rest,x = some ⟨j,bd,cap,rest⟩∧j<m)∨(∃ j bd cap rest,x = some ⟨j,bd,cap,rest⟩∧m≤j):=by
  rcases x with _|⟨j,bd,cap,rest⟩
  · exact .inl rfl
  · rcases Nat.lt_or_ge j m with h|h
    · exact .inr (.inl ⟨j,bd,cap,rest,rfl,h⟩)
    · exact .inr (.inr ⟨j,bd,cap,rest,rfl,h⟩)
theorem Brings.one {w w':World} {b:Nat} {B:Blk} (hb:Below w.heap.size w w') (h1:(Item.blk b B).holds w') (n1:w.heap.size≤b):Brings w [] [.blk b B] w':=by
  have key:∀ x,x∈[Item.blk b B]→∀ k,k∈x.fp→w.heap.size≤k:=fun x hx k hk=>by
    obtain rfl:x = _:=by simpa using hx
    obtain rfl:k = b:=by simpa [Item.fp] using hk
    exact n1
  exact ⟨hb, fun x hx => (by obtain rfl : x = _ := by simpa using hx
                             exact h1),fun x hx k hk=>.inl (key x hx k hk),fun x hx _=>key x hx,List.pairwise_singleton _ _⟩
theorem c_wide4  (w:World)  : Calls Tryz.prog 101 ([.int .i64 ((4:Nat):Int)]:List Value).toArray w (fun e w'=>e = .returned (.bool true)∧Below w.heap.size w w'):=by
  refine Ka (N:=9) (rs:=[.tmp 2]) [] Tryz.func101 rfl Tryz.ntmps101 Tryz.results101 (Nb rfl) trivial rfl ?_
  show LCode _ _ _ ⟨_,_⟩ _
  refine KB (KA ?_)
  refine oA ?_
  refine KC ?_
  refine KB (KA ?_)
  refine oM ?_
  refine oP (KD (v:=.bool true) rfl rfl (br_t (br_geq (b:=1)) dc)) ?_
  refine oM ?_
  refine oGM ?_
  refine oGP (KD (v:=.bool true) rfl rfl (br_t (br_leq (b:=6)) dc)) ?_
  refine oP (KY rfl rfl) ?_
  refine oA ?_
  refine KC (KK ?_)
  refine ⟨[_],.cons rfl .nil,fun a w' hr=>⟨?_,hr.fr.below⟩⟩
  rfl
theorem c_Digits (K B m:Nat) (hK:K<W9) (hB:1≤B) (hB2:B≤576) (hKB:blen K≤B) (hm:(B+3)/4 = m) (w:World)  : Calls Tryz.prog 88 ([natV K,.int .i64 ((B:Nat):Int),.int .i64 ((4:Nat):Int)]:List Value).toArray w (fun e w'=>∃ v its,(fun v its=>∃ bd cap rest,v = .tuple #[.slice (some ⟨bd,0,none⟩) m cap,.int .i64 ((0:Nat):Int)]∧its = [.blk bd ⟨true,vec .i64 (m) (dg K m)++rest,3,(0,0)⟩]) v its∧e = .returned v∧Brings w [] its w'):=by
  refine Ka (N:=61) (rs:=[.tmp 6,.tmp 7]) [] Tryz.func88 rfl Tryz.ntmps88 Tryz.results88 (Nb rfl) trivial rfl ?_
  show LCode _ _ _ ⟨_,_⟩ _
  refine KB (KA ?_)
  refine oS (mB (fun b3=>?_))
  refine oA ?_
  refine oP (KQ (v:=.int .i64 ((0:Nat):Int)) rfl) ?_
  refine KC ?_
  refine KB ?_
  refine KB (KA ?_)
  refine oM ?_
  refine oS (cF rfl en_101 rfl (fun w hw=>c_wide4 w) ?_)
  refine oP (KG (KAN rfl) (show _ = Value.bool false from rfl)) ?_
  refine oM ?_
  refine oGM ?_
  refine oGP (KD (v:=.bool false) rfl rfl (br_f (KAY (b:=1)) om)) ?_
  refine oP (KV rfl rfl) ?_
  refine oM ?_
  refine oGM ?_
  refine oGP (KD (v:=.bool false) rfl rfl (br_f (br_gtr (b:=576)) om)) ?_
  refine oP (KV rfl rfl) ?_
  refine oM ?_
  refine KAS rfl rfl (dL rfl (hv:=by exact KE Tryz.underlying25 rfl sz_25)) (Nb rfl) ?_
  refine oGS (cF rfl en_62 rfl (fun w hw=>c_nat_Bits K hK w) ?_)
  refine oGM ?_
  refine oGP (KD (v:=.bool false) rfl rfl (br_f br_gtr om)) ?_
  refine oP (KV rfl rfl) ?_
  refine KC ?_
  refine KI rfl ?_
  refine KL ?_
  refine KB (KA ?_)
  refine oA ?_
  refine KC ?_
  refine KB ?_
  refine KB (KA ?_)
  refine oM ?_
  refine oM ?_
  refine oP (KD rfl rfl (Kj om)) ?_
  refine oP (KD rfl rfl (KAa (b:=1) om om)) ?_
  refine oM ?_
  refine oP (KG (KD rfl rfl (br_quo (b:=4) om om)) (vi (b:=m) om)) ?_
  refine oP (KD (v:=.int .i64 (((m:Nat):Int)-1)) rfl rfl (br_subI om om)) ?_
  refine oA ?_
  refine KC ?_
  refine LCode.block ?_
  refine Km (α:=Option DigS) (fun x=>match x with|none=>True|some y=>1≤y.j∧y.j≤m∧y.j+y.rest.length = y.cap) (fun x=>match x with|none=>⟨[(1,.int .i64 ((B:Nat):Int)),(2,.int .i64 ((4:Nat):Int)),(3,.pointer (some ⟨b3,0,none⟩)),(8,.slice none 0 0),(9,.int .i64 (((m:Nat):Int)-1))],[.blk b3 ⟨true,natL K,25,(0,0)⟩]⟩|some y=>⟨[(1,.int .i64 ((B:Nat):Int)),(2,.int .i64 ((4:Nat):Int)),(3,.pointer (some ⟨b3,0,none⟩)),(8,.slice (some ⟨y.bd,0,none⟩) y.j y.cap),(9,.int .i64 (((m-y.j:Nat):Int)-1))],[.blk y.bd ⟨true,vec .i64 (y.j) (dg K m)++y.rest,3,(0,0)⟩,.blk b3 ⟨true,natL K,25,(0,0)⟩]⟩) (fun x=>match x with|none=>m+1|some y=>m-y.j) (none) (trivial) (Kf ⟨rfl,rfl,rfl,rfl,rfl,trivial⟩ mS) ?_
  intro x hx
  refine KB ?_
  refine KB ?_
  rcases dig_cases x m with rfl|⟨j,bd,cap,rest,rfl,hjm⟩|⟨j,bd,cap,rest,rfl,hjm⟩
  ·
    obtain ⟨z,hz⟩:∃ z,m = z+1:=⟨m-1,by omega⟩
    refine KA ?_
    refine oM ?_
    refine oP (KD (v:=.bool true) rfl rfl (by simp [Kz]; omega)) ?_
    refine KC ?_
    refine KT rfl ?_
    refine KL ?_
    refine KB ?_
    refine LCode.block ?_
    refine KB (KA ?_)
    refine oD (dL rfl (hv:=by exact KE Tryz.underlying25 rfl sz_25)) ?_
    refine oP (Ks (v:=.int .i64 ((z:Nat):Int)) (by show some _ = some _; congr 2; omega)) ?_
    refine oM ?_
    refine oP (KD rfl rfl (br_mul om)) ?_
    refine oP (KG (Det.min rfl rfl) (show _ = Value.int .i64 ((z*4:Nat):Int) by rw [if_neg om])) ?_
    refine oS (cF rfl en_102 rfl (fun w hw=>c_nat_Shr K (z*4) hK om w) ?_)
    refine oM ?_
    refine oP (Det.extract rfl rfl) ?_
    refine oP (Det.extract rfl rfl) ?_
    refine oS (mk (KN zr_25) (fun b10=>?_))
    refine KO rfl (sA rfl rfl sz_25 mO (hl:=mL) (h:=?_))
    refine oA ?_
    refine KC ?_
    refine rD [10] ?_
    refine aM 0 ?_
    refine aP 1 rfl (KF (o':=0) Tryz.underlying25 rfl rfl rfl sz_23 dc) ?_
    refine aP 2 rfl (Kh (i:=0) Tryz.underlying23 sz_22 rfl rfl dc) ?_
    refine aM 4 ?_
    refine aP 5 rfl (KG (KD rfl rfl (br_shl64 (a:=1) (b:=4))) (vi (b:=16) dc)) ?_
    refine aP 6 rfl (KG (KD rfl rfl (KAi (a:=16) (b:=1) dc)) (vi (b:=15) dc)) ?_
    refine aO 3 rfl (LStep.det (dL rfl (hv:=KJ Tryz.underlying22 rfl (by exact KU _ dc))) (Nb rfl) ?_)
    refine aP 7 rfl (KG (KD rfl rfl (KAe (b:=15) (limb_lt _ _) dc)) (vi (b:=K/2^(z*4)%16) (and15 _))) ?_
    refine aP 8 rfl (KAb Tryz.underlying22 Tryz.underlying3 rfl om) ?_
    refine aO 9 rfl (mk (KAI Tryz.underlying58 inf_3 rfl rfl rfl rfl dc rfl) (fun b58=>?_))
    refine aL 10 rfl (LStepW.appendNil (news:=[.int .i64 ((K/2^(z*4)%16:Nat):Int)]) rfl rfl Tryz.underlying58 inf_3 rfl mM rfl dc dc dc (Nb rfl) ?_)
    intro b1 cap1 rest1 hc1
    refine aA 11 ?_
    refine aE ?_
    refine KA ?_
    refine oP (Ks (v:=.int .i64 ((z:Nat):Int)) (by show some _ = some _; congr 2; omega)) ?_
    refine oP (KD (v:=.int .i64 (((z:Nat):Int)-1)) rfl rfl (br_subI om om)) ?_
    refine oA ?_
    refine KC ?_
    obtain rfl:m-(0+1) = z:=by omega
    exact ⟨some ⟨0+1,b1,cap1,rest1⟩,⟨Nat.le_refl _,by show 0+1≤m; omega,by show 0+1+rest1.length = cap1; have h1:=hc1; simp at h1; omega⟩,by show m-(0+1)<m+1; omega,KAG (Sub.cells (b:=b1) (cs':=vec .i64 (0+1) (dg K m)++rest1) (by repeat (first|exact Sh _|apply St_)) (vec_first rfl _)) (Kf ⟨rfl,rfl,rfl,rfl,rfl,trivial⟩ mS)⟩
  ·
    obtain ⟨hj1,hjn,hcap⟩:=hx
    dsimp only at hj1 hjn hcap
    dsimp only
    obtain ⟨z,hz⟩:∃ z,m-j = z+1:=⟨m-j-1,by omega⟩
    refine KA ?_
    refine oM ?_
    refine oP (KD (v:=.bool true) rfl rfl (by simp [Kz]; omega)) ?_
    refine KC ?_
    refine KT rfl ?_
    refine KL ?_
    refine KB ?_
    refine LCode.block ?_
    refine KB (KA ?_)
    refine oD (dL rfl (hv:=by exact KE Tryz.underlying25 rfl sz_25)) ?_
    refine oP (Ks (v:=.int .i64 ((z:Nat):Int)) (by show some _ = some _; congr 2; omega)) ?_
    refine oM ?_
    refine oP (KD rfl rfl (br_mul om)) ?_
    refine oP (KG (Det.min rfl rfl) (show _ = Value.int .i64 ((z*4:Nat):Int) by rw [if_neg om])) ?_
    refine oS (cF rfl en_102 rfl (fun w hw=>c_nat_Shr K (z*4) hK om w) ?_)
    refine oM ?_
    refine oP (Det.extract rfl rfl) ?_
    refine oP (Det.extract rfl rfl) ?_
    refine oS (mk (KN zr_25) (fun b10=>?_))
    refine KO rfl (sA rfl rfl sz_25 mO (hl:=mL) (h:=?_))
    refine oA ?_
    refine KC ?_
    refine rD [10] ?_
    refine aM 0 ?_
    refine aP 1 rfl (KF (o':=0) Tryz.underlying25 rfl rfl rfl sz_23 dc) ?_
    refine aP 2 rfl (Kh (i:=0) Tryz.underlying23 sz_22 rfl rfl dc) ?_
    refine aM 4 ?_
    refine aP 5 rfl (KG (KD rfl rfl (br_shl64 (a:=1) (b:=4))) (vi (b:=16) dc)) ?_
    refine aP 6 rfl (KG (KD rfl rfl (KAi (a:=16) (b:=1) dc)) (vi (b:=15) dc)) ?_
    refine aO 3 rfl (LStep.det (dL rfl (hv:=KJ Tryz.underlying22 rfl (by exact KU _ dc))) (Nb rfl) ?_)
    refine aP 7 rfl (KG (KD rfl rfl (KAe (b:=15) (limb_lt _ _) dc)) (vi (b:=K/2^(z*4)%16) (and15 _))) ?_
    refine aP 8 rfl (KAb Tryz.underlying22 Tryz.underlying3 rfl om) ?_
    refine aO 9 rfl (mk (KAI Tryz.underlying58 inf_3 rfl rfl rfl rfl dc rfl) (fun b58=>?_))
    refine aL 10 rfl (LStepW.append (xs:=vec .i64 j (dg K m)) (rest:=rest) (news:=[.int .i64 ((K/2^(z*4)%16:Nat):Int)]) rfl rfl Tryz.underlying58 inf_3 rfl mP mM (KW _ _ _) (by rw [KW]; exact hcap) rfl (KZ rfl Kc) om om (Nb rfl) ?_)
    intro b1 cap1 rest1 hc1
    refine aA 11 ?_
    refine aE ?_
    refine KA ?_
    refine oP (Ks (v:=.int .i64 ((z:Nat):Int)) (by show some _ = some _; congr 2; omega)) ?_
    refine oP (KD (v:=.int .i64 (((z:Nat):Int)-1)) rfl rfl (br_subI om om)) ?_
    refine oA ?_
    refine KC ?_
    obtain rfl:m-(j+1) = z:=by omega
    exact ⟨some ⟨j+1,b1,cap1,rest1⟩,⟨by show 1≤j+1; omega,by show j+1≤m; omega,by show j+1+rest1.length = cap1; have h1:=hc1; rw [KW] at h1; exact h1⟩,by show m-(j+1)<m-j; omega,KAG (Sub.cells (b:=b1) (cs':=vec .i64 (j+1) (dg K m)++rest1) (by repeat (first|exact Sh _|apply St_)) (vec_snoc (by unfold dg; rw [show m-1-j = m-(j+1) by omega]) _)) (Kf ⟨rfl,rfl,rfl,rfl,rfl,trivial⟩ mS)⟩
  ·
    obtain ⟨hj1,hjn,hcap⟩:=hx
    dsimp only at hj1 hjn hcap
    dsimp only
    refine KA ?_
    refine oM ?_
    refine oP (KD (v:=.bool false) rfl rfl (by simp [Kz]; omega)) ?_
    refine KC ?_
    refine KI rfl ?_
    refine Kg ?_
    refine KB (KA ?_)
    refine oM ?_
    refine oA ?_
    refine oP (KQ (v:=.int .i64 ((0:Nat):Int)) rfl) ?_
    refine KC (KK ?_)
    obtain rfl:j = m:=by omega
    exact ⟨[_,_],.cons rfl (.cons rfl .nil),fun a w' hr=>⟨_,_,⟨bd,cap,rest,rfl,rfl⟩,rfl,Brings.one hr.fr.below (hr.hp (.blk bd ⟨true,_,_,_⟩) mM) (hr.new (b:=bd) (B:=⟨true,_,_,_⟩) mM rfl)⟩⟩
def evN:Nat→List Nat
  | 0=>[]
  | n+1=>evN n++List.range 16
theorem evN_length:∀ n,(evN n).length = n*16
  | 0=>rfl
  | n+1=>by show (evN n++List.range 16).length = _; rw [List.length_append,evN_length n,List.length_range]; omega
structure MulS (p:Nat) where
  i:Nat
  T:Fin p×Fin p×Fin p
  r:TrRow
theorem mul_top {V:Cv} (hok:V.Ok) {P:Pt V.p} {K m:Nat} (hK:K<V.n) (hm:(blen V.n+3)/4 = m):RepT V (tripF (.inf:Pt V.p)) (pmul V.A P (K/2^((m-0)*4))):=by
  have h1:=lt_blen V.n
  have h2:2^blen V.n≤2^((m-0)*4):=Nat.pow_le_pow_right dc om
  rw [Nat.div_eq_of_lt (Nat.lt_of_lt_of_le (Nat.lt_trans hK h1) h2)]
  exact RepT.trip hok trivial
theorem mul_twice {V:Cv} (hok:V.Ok) {P:Pt V.p} (hP:On V.A V.B P) {q j:Nat} {T:Fin V.p×Fin V.p×Fin V.p} (h:RepT V T (pmul V.A P (q*2^j))):RepT V (sumT V T T) (pmul V.A P (q*2^(j+1))):=by
  have:=RepT.sum hok h h
  rwa [← pmul_add hok.crv hP,← Nat.mul_two,Nat.mul_assoc,← Nat.pow_succ] at this
theorem mul_digit {V:Cv} (hok:V.Ok) {P:Pt V.p} (hP:On V.A V.B P) {K m i:Nat} (hi:i<m) {T:Fin V.p×Fin V.p×Fin V.p} (h:RepT V T (pmul V.A P (K/2^((m-i)*4)*2^4))):RepT V (sumT V T (tripF (mulE V P (dg K m i)))) (pmul V.A P (K/2^((m-(i+1))*4))):=by
  have:=RepT.sum hok h (RepT.trip hok (hok.mul hP (dg K m i)))
  rw [← pmul_add hok.crv hP] at this
  have e:K/2^((m-i)*4)*2^4+dg K m i = K/2^((m-(i+1))*4):=by
    unfold dg
    rw [show m-1-i = m-(i+1) by omega,show (m-i)*4 = (m-(i+1))*4+4 by omega,Nat.pow_add,← Nat.div_div_eq_div_mul,show (2:Nat)^4 = 16 from rfl]
    generalize K/2^((m-(i+1))*4) = N
    omega
  rwa [e] at this
theorem mul_all {V:Cv} {P:Pt V.p} {K m i:Nat} {T:Fin V.p×Fin V.p×Fin V.p} (hi:i = m) (h:RepT V T (pmul V.A P (K/2^((m-i)*4)))):RepT V T (pmul V.A P K):=by
  subst hi
  rwa [Nat.sub_self,Nat.zero_mul,Nat.pow_zero,Nat.div_one] at h
theorem dig_get {K m i:Nat} {rest:List Value} (h:i<m):(vec .i64 m (dg K m)++rest)[i+0]? = some (.int .i64 ((dg K m i:Nat):Int)):=by
  rw [Nat.add_zero,List.getElem?_append_left (by rw [KW]; exact h)]
  exact KX _ _ _ h
theorem c_mTimes (tb:Option Nat) (tr:TrRow) (l:List Nat) (V:Cv) (b f bd:Nat) (hok:V.Ok) (K m:Nat) (P:Pt V.p) (bt br cap:Nat) (rest:List Value) {wr1 wr2:Bool} (hP:On V.A V.B P) (hK:K<V.n) (hm:(blen V.n+3)/4 = m) (w:World) (h0:(trI tb tr l).holds w) (hl:l.length≤80000000) (hb:(Item.blk b ⟨false,opL V f,92,(0,0)⟩).holds w) (hf:(Item.blk f ⟨false,fldL V.p bd,116,(0,0)⟩).holds w) (hbd:(Item.blk bd ⟨false,dvL V.p,167,(0,0)⟩).holds w) (h1:(Item.blk bt ⟨wr1,[.slice (some ⟨br,0,none⟩) 16 cap],156,(0,0)⟩).holds w) (h2:(Item.blk br ⟨wr2,tabL (mulE V (P)) 16++rest,83,(0,0)⟩).holds w) (o0:Out tb tr (Item.blk b ⟨false,opL V f,92,(0,0)⟩)) (o1:Out tb tr (Item.blk f ⟨false,fldL V.p bd,116,(0,0)⟩)) (o2:Out tb tr (Item.blk bd ⟨false,dvL V.p,167,(0,0)⟩)) (n1:Out tb tr (Item.blk bt ⟨wr1,[.slice (some ⟨br,0,none⟩) 16 cap],156,(0,0)⟩)) (n2:Out tb tr (Item.blk br ⟨wr2,tabL (mulE V (P)) 16++rest,83,(0,0)⟩)):Calls Tryz.prog 69 ([trV tb,.pointer (some ⟨b,0,none⟩),natV K,.pointer (some ⟨bt,0,none⟩)]:List Value).toArray w (fun e w'=>TrR w tb tr (l++evN m) (ptP (pmul V.A P K)) e w'):=by
  have hbb:=hok.bounds
  have hnW:V.n<W9:=KAB hbb.2.2.2.2.2.2.1
  have hbl:=KAQ hnW
  have hK9:=Nat.lt_trans hK hnW
  have hkb:blen K≤blen V.n:=blen_le (Nat.lt_trans hK (lt_blen _))
  have hbl1:1≤blen V.n:=Nat.pos_of_ne_zero (blen_ne om)
  refine calls_tr (N:=56) (rs:=[.cell 8 83]) tb tr l [.blk b ⟨false,opL V f,92,(0,0)⟩,.blk f ⟨false,fldL V.p bd,116,(0,0)⟩,.blk bd ⟨false,dvL V.p,167,(0,0)⟩,.blk bt ⟨false,[.slice (some ⟨br,0,none⟩) 16 cap],156,(0,0)⟩,.blk br ⟨false,tabL (mulE V (P)) 16++rest,83,(0,0)⟩] Tryz.func69 rfl Tryz.ntmps69 Tryz.results69 (Nb rfl) h0 ⟨hb,hf,hbd,h1,h2,trivial⟩ rfl ⟨o0,o1,o2,n1,n2,trivial⟩ ?_
  show LCode _ _ _ ⟨_,_⟩ _
  refine KB (KA ?_)
  refine oS (mB (fun b6=>?_))
  refine oS (mk (KN zr_83) (fun b8=>?_))
  refine KC ?_
  refine KB ?_
  refine rD [] ?_
  refine aD 0 rfl (dL rfl (hv:=by exact KE Tryz.underlying25 rfl sz_25)) ?_
  refine aM 1 ?_
  refine aP 2 rfl (KM rfl) ?_
  refine aP 3 rfl (KF (o':=0) Tryz.underlying92 rfl rfl rfl sz_89 dc) ?_
  refine aP 4 rfl (KF (o':=56) Tryz.underlying89 rfl rfl rfl sz_3 dc) ?_
  refine aD 5 rfl (dL rfl (hv:=KJ Tryz.underlying3 rfl (by exact cvC_gt_bits _ _ _ _ _ _ _ _ _ _ _ _ _))) ?_
  refine aO 6 rfl (cC rfl en_88 rfl (fun w hw=>bringsC (c_Digits K (blen V.n) m hK9 hbl1 om hkb hm w) _) ?_)
  rintro _ _ ⟨ds,dcap,drest,rfl,rfl⟩
  refine aM 7 ?_
  refine aP 8 rfl (Det.extract rfl rfl) ?_
  refine aP 9 rfl (Det.extract rfl rfl) ?_
  refine aA 10 ?_
  refine aA 11 ?_
  refine aE ?_
  refine KB (KA ?_)
  refine oS (cF rfl en_89 rfl (fun w hw=>c_NoneF hok w) ?_)
  refine oS (mk (KN zr_148) (fun b11=>?_))
  refine KO rfl (sA rfl rfl sz_148 (by exact pjFL_one _) (hl:=by exact pjFL_length _) (h:=?_))
  refine KC ?_
  refine KB ?_
  refine KB (KA ?_)
  refine oM ?_
  refine oP (KAK Tryz.underlying58 rfl) ?_
  refine oP (Ks (v:=.int .i64 ((0:Nat):Int)) rfl) ?_
  refine KC ?_
  refine LCode.block ?_
  refine Km (α:=MulS V.p) (fun x=>x.i≤m∧RepT V x.T (pmul V.A P (K/2^((m-x.i)*4)))) (fun x=>⟨[(0,trV tb),(1,.pointer (some ⟨b,0,none⟩)),(3,.pointer (some ⟨bt,0,none⟩)),(8,.pointer (some ⟨b8,0,none⟩)),(11,.pointer (some ⟨b11,0,none⟩)),(27,.slice (some ⟨ds,0,none⟩) m dcap),(28,.int .i64 ((m:Nat):Int)),(29,.int .i64 ((x.i:Nat):Int))],[trI tb (x.r) (l++evN x.i),.blk b11 ⟨true,pjFL x.T,148,(0,0)⟩,.blk b8 ⟨true,vec .u64 9 (fun _=>0)++(vec .u64 9 (fun _=>0)++[Value.bool false]),83,(0,0)⟩,.blk ds ⟨true,vec .i64 (m) (dg K m)++drest,3,(0,0)⟩,.blk b ⟨false,opL V f,92,(0,0)⟩,.blk f ⟨false,fldL V.p bd,116,(0,0)⟩,.blk bd ⟨false,dvL V.p,167,(0,0)⟩,.blk bt ⟨false,[.slice (some ⟨br,0,none⟩) 16 cap],156,(0,0)⟩,.blk br ⟨false,tabL (mulE V (P)) 16++rest,83,(0,0)⟩]⟩) (fun x=>m-x.i) (⟨0,tripF (.inf:Pt V.p),tr⟩) (⟨Nat.zero_le _,mul_top hok hK hm⟩) (by dsimp only [evN]; rw [List.append_nil]; exact Kf ⟨rfl,rfl,rfl,rfl,rfl,rfl,rfl,rfl,trivial⟩ mS) ?_
  rintro x ⟨hx1,hx2⟩
  refine KB (KA ?_)
  refine oP (KD rfl rfl (KAY)) ?_
  refine KC ?_
  refine KB ?_
  first|refine KP rfl (fun h30=>?_) (fun h30=>?_)|refine KR rfl (fun h30=>?_) (fun h30=>?_)
  ·
    have h30:x.i<m:=h30
    refine KL ?_
    refine KB ?_
    refine LCode.block ?_
    refine KB (KA ?_)
    refine oP (Det.indexS Tryz.underlying58 sz_3 rfl rfl om) ?_
    refine oD (dL rfl (hv:=KJ Tryz.underlying3 rfl (by exact dig_get om))) ?_
    refine oA ?_
    refine KC ?_
    refine KB ?_
    refine KB (KA ?_)
    refine oP (Ks (v:=.int .i64 ((0:Nat):Int)) rfl) ?_
    refine KC ?_
    refine LCode.block ?_
    refine Km (α:=Nat×(Fin V.p×Fin V.p×Fin V.p)) (fun y=>y.1≤4∧RepT V y.2 (pmul V.A P (K/2^((m-x.i)*4)*2^y.1))) (fun y=>⟨[(13,.int .i64 ((dg K m x.i:Nat):Int)),(33,.int .i64 ((y.1:Nat):Int)),(0,trV tb),(1,.pointer (some ⟨b,0,none⟩)),(3,.pointer (some ⟨bt,0,none⟩)),(8,.pointer (some ⟨b8,0,none⟩)),(11,.pointer (some ⟨b11,0,none⟩)),(27,.slice (some ⟨ds,0,none⟩) m dcap),(28,.int .i64 ((m:Nat):Int)),(29,.int .i64 ((x.i:Nat):Int))],[trI tb (x.r) (l++evN x.i),.blk b11 ⟨true,pjFL y.2,148,(0,0)⟩,.blk b8 ⟨true,vec .u64 9 (fun _=>0)++(vec .u64 9 (fun _=>0)++[Value.bool false]),83,(0,0)⟩,.blk ds ⟨true,vec .i64 (m) (dg K m)++drest,3,(0,0)⟩,.blk b ⟨false,opL V f,92,(0,0)⟩,.blk f ⟨false,fldL V.p bd,116,(0,0)⟩,.blk bd ⟨false,dvL V.p,167,(0,0)⟩,.blk bt ⟨false,[.slice (some ⟨br,0,none⟩) 16 cap],156,(0,0)⟩,.blk br ⟨false,tabL (mulE V (P)) 16++rest,83,(0,0)⟩]⟩) (fun y=>4-y.1) ((0,x.T)) (⟨Nat.zero_le _,by dsimp only; rw [Nat.pow_zero,Nat.mul_one]; exact hx2⟩) (Kf ⟨rfl,rfl,rfl,rfl,rfl,rfl,rfl,rfl,rfl,rfl,trivial⟩ mS) ?_
    rintro y ⟨hy1,hy2⟩
    refine KB (KA ?_)
    refine oP (KD rfl rfl (KAY (b:=4))) ?_
    refine KC ?_
    refine KB ?_
    first|refine KP rfl (fun h34=>?_) (fun h34=>?_)|refine KR rfl (fun h34=>?_) (fun h34=>?_)
    ·
      have h34:y.1<4:=h34
      refine KL ?_
      refine KB ?_
      refine LCode.block ?_
      refine KA ?_
      refine oM ?_
      refine oD (dL rfl (hv:=by exact KE Tryz.underlying148 rfl sz_148)) ?_
      refine oD (dL rfl (hv:=by exact KE Tryz.underlying148 rfl sz_148)) ?_
      refine oS (cF rfl en_90 rfl (fun w hw=>c_SumT V b f bd hok (y.2) (y.2) w (mC hw) (mC hw) (mC hw)) ?_)
      refine KO rfl (sA rfl rfl sz_148 (by exact pjFL_one _) (hl:=by exact pjFL_length _) (h:=?_))
      refine KC ?_
      refine KA ?_
      refine oP (KD rfl rfl (Kj (b:=1) om)) ?_
      refine oM ?_
      refine KC ?_
      exact ⟨(y.1+1,sumT V y.2 y.2),⟨by dsimp only; omega,mul_twice hok hP hy2⟩,by dsimp only; omega,Kf ⟨rfl,rfl,rfl,rfl,rfl,rfl,rfl,rfl,rfl,rfl,trivial⟩ mS⟩
    ·
      have h34:¬ y.1<4:=h34
      refine Kg ?_
      refine KB ?_
      obtain ⟨j,T⟩:=y
      obtain rfl:j = 4:=by omega
      refine KA ?_
      refine oM ?_
      refine oM ?_
      refine oM ?_
      refine KO rfl (LStepW.callT (first:=[]) (r:=x.r) (l:=l++evN x.i) (l':=l++evN (x.i+1)) rfl en_91 rfl (Nb rfl) mP (fun w hw hn=>by rw [show l++evN (x.i+1) = (l++evN x.i)++List.range 16 from (List.append_assoc _ _ _).symm]; exact c_tabPick tb x.r _ bt br cap rest V hok (mulE V (P)) 16 (dg K m x.i) (dg_lt _ _ _) dc w (mC hw) (mC hw) (mC hw) (hn _ mM) (hn _ mM) (by rw [List.length_append,evN_length]; omega)) ?_)
      intro r1
      refine oM ?_
      refine oP (Det.extract rfl rfl) ?_
      refine oP (Det.extract rfl rfl) ?_
      refine oS (mk (KN zr_83) (fun b14=>?_))
      refine KO rfl (sA rfl rfl sz_83 mO (hl:=by exact Kb _ _ _) (h:=?_))
      refine oA ?_
      refine KC ?_
      refine rD [5] ?_
      refine aM 0 ?_
      refine aD 1 rfl (dL rfl (hv:=by exact KE Tryz.underlying148 rfl sz_148)) ?_
      refine aD 2 rfl (dL rfl (hv:=by exact KE Tryz.underlying83 rfl sz_83)) ?_
      refine aO 3 rfl (cF rfl en_92 rfl (fun w hw=>c_Triple V hok (mulE V (P) (dg K m x.i)) w) ?_)
      refine aO 4 rfl (cF rfl en_90 rfl (fun w hw=>c_SumT V b f bd hok (T) (tripF (mulE V (P) (dg K m x.i))) w (mC hw) (mC hw) (mC hw)) ?_)
      refine aL 5 rfl (sA rfl rfl sz_148 (by exact pjFL_one _) (hl:=by exact pjFL_length _) (h:=?_))
      refine aE ?_
      refine KA ?_
      refine oP (KD rfl rfl (Kj (b:=1) om)) ?_
      refine oM ?_
      refine KC ?_
      exact ⟨⟨x.i+1,sumT V T (tripF (mulE V (P) (dg K m x.i))),r1⟩,⟨by dsimp only; omega,mul_digit hok hP h30 hy2⟩,by dsimp only; omega,Kf ⟨rfl,rfl,rfl,rfl,rfl,rfl,rfl,rfl,trivial⟩ mS⟩
  ·
    have h30:¬ x.i<m:=h30
    refine Kg ?_
    refine KB ?_
    have hxm:x.i = m:=by omega
    refine KA ?_
    refine oM ?_
    refine oD (dL rfl (hv:=by exact KE Tryz.underlying148 rfl sz_148)) ?_
    refine oS (cF rfl en_93 rfl (fun w hw=>c_PlainT V b f bd hok (x.T) (pmul V.A P K) w (mC hw) (mC hw) (mC hw) (mul_all hxm hx2)) ?_)
    refine KO rfl (sA rfl rfl sz_83 mO (hl:=by simp [Kb,KW]) (h:=?_))
    refine KC (KK ?_)
    exact ⟨[_],.cons ⟨_,_,_,rfl,mM,by exact KE Tryz.underlying83 rfl sz_83⟩ .nil,fun a w' hr=>by
      have hq:=hr.tr (v:=ptP (pmul V.A P K)) (r':=x.r) (l:=l++evN x.i) mM
      rwa [hxm] at hq⟩
end Go.Proofs.YtlmiolnccgjjjaaGreat
set_option linter.unusedVariables false
set_option linter.unusedSimpArgs false
set_option maxRecDepth 20000
namespace Go.Proofs.YtlmiolnccgjjjaaGreat
open Go Go.RowKit
open Grp
theorem c_mMul (tb:Option Nat) (tr:TrRow) (l:List Nat) (id:Int) (V:Cv) (K:Nat) (P:Pt V.p) (m:Nat) (hm:(blen V.n+3)/4 = m) (w:World) (h:cvI id = some V) (hP:On V.A V.B P) (hK:K<V.n) (h0:(trI tb tr l).holds w) (hl:l.length≤80000000):Calls Tryz.prog 42 ([trV tb,.int .i64 id,natV K,ptP P]:List Value).toArray w (fun e w'=>TrR w tb tr (l++evN m) (.tuple #[ptP (pmul V.A P K),.int .i64 ((0:Nat):Int)]) e w'):=by
  obtain ⟨hok,hid⟩:=cvI_ok h
  have hbb:=hok.bounds
  have hpW:V.p<W9:=KAB hbb.2.1
  have hnW:V.n<W9:=KAB hbb.2.2.2.2.2.2.1
  have hbl:=KAQ hnW
  have hnb:nby V.n≤72:=by (unfold nby; omega)
  refine calls_tr (N:=40) (rs:=[.cell 8 83,.tmp 9]) tb tr l [] Tryz.func42 rfl Tryz.ntmps42 Tryz.results42 (Nb rfl) h0 trivial rfl trivial ?_
  show LCode _ _ _ ⟨_,_⟩ _
  refine KB (KA ?_)
  refine oS (mB (fun b6=>?_))
  refine oS (mB (fun b7=>?_))
  refine oS (mk (KN zr_83) (fun b8=>?_))
  refine oP (KQ (v:=.int .i64 ((0:Nat):Int)) rfl) ?_
  refine KC ?_
  refine KB (KA ?_)
  refine oM ?_
  refine oS (KAR (Post:=fun v its=>∃ b f bd,v = .pointer (some ⟨b,0,none⟩)∧its = [.blk b ⟨false,opL V f,92,(0,0)⟩,.blk f ⟨false,fldL V.p bd,116,(0,0)⟩,.blk bd ⟨false,dvL V.p,167,(0,0)⟩]) (first:=[]) rfl en_39 rfl (Nb rfl) (fun w1 hw hs=>(c_Open _ V w1 h).mono fun e w' ⟨b,f,bd,h1,h2,h3,h4,h5,h6,h7,h8⟩=>⟨_,_,⟨b,f,bd,rfl,rfl⟩,h1,KAV h8 (by intro x hx; simp at hx; rcases hx with rfl|rfl|rfl; exact h2; exact h3; exact h4) (by intro x hx; simp at hx; rcases hx with rfl|rfl|rfl <;> rfl) (by intro x hx k hk; simp at hx; rcases hx with rfl|rfl|rfl <;> simp [Item.fp] at hk <;> subst hk; exact .inl h5; exact .inl h6; exact .inl h7)⟩) ?_)
  rintro _ _ ⟨b,f,bd,rfl,rfl⟩
  refine oA ?_
  refine KC ?_
  refine KB ?_
  refine LCode.block ?_
  refine KB (KA ?_)
  refine oM ?_
  refine oP (KG (Det.eqp Tryz.underlying79 rfl rfl) (show _ = Value.bool false from rfl)) ?_
  refine oA ?_
  refine KC ?_
  refine KI rfl ?_
  refine KB (KA ?_)
  refine oM ?_
  refine oD (dL rfl (hv:=by exact KE Tryz.underlying83 rfl sz_83)) ?_
  refine oS (cF rfl en_67 rfl (fun w hw=>c_cOnP V b f bd hok (P) w (mC hw) (mC hw) (mC hw) hP) ?_)
  refine oP (KG (KAN rfl) (show _ = Value.bool false from rfl)) ?_
  refine oA ?_
  refine KC ?_
  refine KI rfl ?_
  refine KB ?_
  refine rD [] ?_
  refine aD 0 rfl (dL rfl (hv:=by exact KE Tryz.underlying25 rfl sz_25)) ?_
  refine aM 1 ?_
  refine aP 2 rfl (KM rfl) ?_
  refine aP 3 rfl (KF (o':=0) Tryz.underlying92 rfl rfl rfl sz_89 dc) ?_
  refine aP 4 rfl (KF (o':=28) Tryz.underlying89 rfl rfl rfl sz_25 dc) ?_
  refine aD 5 rfl (dL rfl (hv:=by exact cvC_ld_n _ _ _ _ _ _ _ _ _ _ _ _ _ _ _ _)) ?_
  refine aO 6 rfl (cF rfl en_68 rfl (fun w hw=>c_nat_Cmp K V.n (Nat.lt_trans hK hnW) hnW w) ?_)
  refine aP 7 rfl (KD (v:=.bool false) rfl rfl (br_f cmp_geq (Nat.not_le_of_gt hK))) ?_
  refine aA 8 ?_
  refine aE ?_
  refine KI rfl ?_
  refine KL ?_
  refine KB ?_
  refine rD [6,7] ?_
  refine aM 0 ?_
  refine aM 1 ?_
  refine aD 2 rfl (dL rfl (hv:=by exact KE Tryz.underlying25 rfl sz_25)) ?_
  refine aM 3 ?_
  refine aO 4 rfl (LStep.det (dL rfl (hv:=by exact KE Tryz.underlying83 rfl sz_83)) (Nb rfl) ?_)
  refine aO 5 rfl (cC rfl en_70 rfl (fun w hw=>bringsC (c_tabOf V b f bd hok (P) hP 16 dc dc w (mC hw) (mC hw) (mC hw)) _) ?_)
  rintro _ _ ⟨bt,br,cap,rest,rfl,rfl⟩
  refine aL 6 rfl (LStepW.callT (first:=[]) (r:=tr) (l:=l) (l':=l++evN m) rfl en_69 rfl (Nb rfl) mP (fun w hw hn=>c_mTimes tb tr l V b f bd hok K m (P) bt br cap rest hP hK hm w (mC hw) hl (mC hw) (mC hw) (mC hw) (mC hw) (mC hw) (hn _ mM) (hn _ mM) (hn _ mM) (hn _ mM) (hn _ mM)) ?_)
  intro r1
  refine aL 7 rfl (sA rfl rfl sz_83 (by exact KAJ _ _ _) (hl:=by simp [Kb,KW]) (h:=?_))
  refine aP 8 rfl (KQ (v:=.int .i64 ((0:Nat):Int)) rfl) ?_
  refine aE ?_
  refine KK ?_
  exact ⟨[_,_],.cons ⟨_,_,_,rfl,mM,by exact KE Tryz.underlying83 rfl sz_83⟩ (.cons rfl .nil),fun a w' hr=>hr.tr mM⟩
end Go.Proofs.YtlmiolnccgjjjaaGreat
set_option linter.unusedVariables false
set_option linter.unusedSimpArgs false
set_option maxRecDepth 20000
namespace Go.Proofs.YtlmiolnccgjjjaaGreat
open Go Go.RowKit
def pStr (V:Cv) (X Y:Nat) (i sh:Bool):ByteArray:=if (onB V.p V.a V.b X Y i && !i) = true then putS V X Y sh else ⟨#[]⟩
def pErr (V:Cv) (X Y:Nat) (i:Bool):Nat:=if (onB V.p V.a V.b X Y i && !i) = true then 0 else 2101
theorem putV_eq (V:Cv) (X Y:Nat) (i sh:Bool):putV V X Y i sh = .tuple #[.string (pStr V X Y i sh),.int .i64 ((pErr V X Y i:Nat):Int)]:=by
  unfold putV pStr pErr; split <;> rfl
theorem c_s_GetE (X Y n:Nat) (id:Int) (V:Cv) (s:ByteArray) (w:World) (h:cvI id = some V) (hs:s.size<9223372036854775808) (hn:getT V s = (X,Y,n)):Calls Tryz.prog 41 ([.int .i64 id,.string s]:List Value).toArray w (fun e w'=>e = .returned (.tuple #[ptV X Y false,.int .i64 ((n:Nat):Int)])∧Below w.heap.size w w'):=by
  have h1:=c_s_Get id V s w h hs
  rwa [getV_eq hn] at h1
theorem c_r_Put2 (Q:CQ) (V:Cv) (q r:NV) (X Y:Nat) (i sh:Bool) (w:World) (hc:(crvI Q V).holds w) (hok:V.Ok) (hq:(numT q X).holds w) (hr:(numT r Y).holds w) (hX:D.nw X≤1000) (hY:D.nw Y≤1000):Calls Tryz.prog 17 ([.agg (crvL Q V).toArray,rpV (numV q X) (numV r Y) i,.bool sh]:List Value).toArray w (fun e w'=>e = .returned (.tuple #[.string (pStr V X Y i sh),.int .i64 ((pErr V X Y i:Nat):Int)])∧Below w.heap.size w w'):=by
  have h1:=c_r_Put Q V q r X Y i sh w hc hok hq hr hX hY
  rwa [putV_eq] at h1
theorem getX_l (V:Cv) (s:ByteArray):getX V s = beVal ((s.data.toList.take (1+nby V.p)).drop 1):=by unfold getX; rw [ext_data]
theorem getY_l (V:Cv) (s:ByteArray):getY V s = beVal (s.data.toList.drop (1+nby V.p)):=by
  unfold getY; rw [ext_data]
  rw [show s.size = s.data.toList.length by rw [Array.length_toList]; rfl,List.take_length]
theorem size_l (s:ByteArray):s.size = s.data.toList.length:=by rw [Array.length_toList]; rfl
def gT (k:Nat) (V:Cv) (l:List UInt8):Nat×Nat×Nat :=
  if l.length = 1+k∧((l.getD 0 0).toNat = 2∨(l.getD 0 0).toNat = 3) then (if (liftT V (beVal ((l.take (1+k)).drop 1)) ((l.getD 0 0).toNat-2)).2.2 = true then ((liftT V (beVal ((l.take (1+k)).drop 1)) ((l.getD 0 0).toNat-2)).1,(liftT V (beVal ((l.take (1+k)).drop 1)) ((l.getD 0 0).toNat-2)).2.1,0) else (0,0,2101))
  else if l.length = 1+2*k∧(l.getD 0 0).toNat = 4 then (if onB V.p V.a V.b (beVal ((l.take (1+k)).drop 1)) (beVal (l.drop (1+k))) false = true then (beVal ((l.take (1+k)).drop 1),beVal (l.drop (1+k)),0) else (0,0,2101))
  else (0,0,2102)
theorem getT_l (V:Cv) (s:ByteArray):getT V s = gT (nby V.p) V s.data.toList:=by
  unfold getT gT b0
  rw [getX_l,getY_l,size_l]
theorem nby13:nby cv13.p = 1:=by decide +kernel
end Go.Proofs.YtlmiolnccgjjjaaGreat
set_option linter.unusedVariables false
set_option linter.unusedSimpArgs false
set_option maxRecDepth 20000
namespace Go.Proofs.YtlmiolnccgjjjaaGreat
open Go Go.RowKit
open Grp
theorem p_pow {V:Cv} {X:Nat} (h:X<V.p):X<256^nby V.p:=by
  have h1:=lt_blen V.p
  have h2:2^blen V.p≤2^(8*nby V.p):=Nat.pow_le_pow_right dc (by unfold nby; omega)
  rw [Nat.pow_mul] at h2
  exact Nat.lt_trans h (Nat.lt_of_lt_of_le h1 h2)
theorem pfx_l (x:Nat):(pfx x).data.toList = [UInt8.ofNat x]:=rfl
theorem coB_l (V:Cv) (X:Nat):(coB V X).data.toList = beBytes (nby V.p) X:=by unfold coB strOf; rfl
theorem putS_s (V:Cv) (X Y:Nat):(putS V X Y true).data.toList = UInt8.ofNat (2+Y%2) :: beBytes (nby V.p) X:=by
  unfold putS; rw [if_pos rfl,ByteArray.toList_data_append,pfx_l,coB_l]; rfl
theorem putS_l (V:Cv) (X Y:Nat):(putS V X Y false).data.toList = 4 :: (beBytes (nby V.p) X++beBytes (nby V.p) Y):=by
  unfold putS; rw [if_neg dc,ByteArray.toList_data_append,ByteArray.toList_data_append,pfx_l,coB_l,coB_l]; rfl
theorem on_rt {V:Cv} {X Y:Nat} (h:onB V.p V.a V.b X Y false = true):Y*Y%V.p = rightN V.p V.a V.b X:=by
  unfold onB at h
  rw [if_neg dc] at h
  simp only [Bool.and_eq_true,decide_eq_true_eq] at h
  exact h.2.2
theorem on_mk {V:Cv} {X Y:Nat} (hX:X<V.p) (hY:Y<V.p) (h:Y*Y%V.p = rightN V.p V.a V.b X):onB V.p V.a V.b X Y false = true:=by
  unfold onB
  rw [if_neg dc,decide_eq_true hX,decide_eq_true hY,decide_eq_true h]; rfl
theorem even_of {V:Cv} (hok:V.Ok) {X Y:Nat} (h:onB V.p V.a V.b X Y false = true):sqN V.p (rightN V.p V.a V.b X) = some (if Y%2 = 1 then V.p-Y else Y):=by
  obtain ⟨hX,hY⟩:=on_lt h
  have h1:=sqN_eq hok.fld (p_odd hok) (⟨Y,hY⟩:Fin V.p)
  rw [Fin.val_mul] at h1
  rw [← on_rt h]
  show sqN V.p (Y*Y%V.p) = _
  refine Eq.trans h1 (congrArg some ?_)
  unfold evenR
  by_cases h2:Y%2 = 1
  · rw [if_pos h2,if_pos h2,fin_neg_val _ (by show Y≠0; omega)]
  · rw [if_neg h2,if_neg h2]
theorem lift_put {V:Cv} (hok:V.Ok) {X Y:Nat} (h:onB V.p V.a V.b X Y false = true):liftT V X (Y%2) = (X,Y,true):=by
  have h1:=even_of hok h
  obtain ⟨hX,hY⟩:=on_lt h
  rcases Nat.mod_two_eq_zero_or_one Y with h2|h2
  · rw [if_neg om] at h1
    rw [h2]; exact lift_even hX h1
  · rw [if_pos h2] at h1
    rw [h2,lift_odd hX h1 om,show V.p-(V.p-Y) = Y by omega]
theorem u8_toNat {n:Nat} (h:n<256):(UInt8.ofNat n).toNat = n:=by
  rw [UInt8.toNat_ofNat']; exact Nat.mod_eq_of_lt h
theorem getT_short {V:Cv} {s:ByteArray} {b:UInt8} {l:List UInt8} {o X Y:Nat} {ok:Bool} (hs:s.data.toList = b :: l) (hl:l.length = nby V.p) (hb:b.toNat = 2+o) (ho:o≤1) (hL:liftT V (beVal l) o = (X,Y,ok)):getT V s = if ok then (X,Y,0) else (0,0,2101):=by
  have h1:s.size = 1+nby V.p:=by rw [size_l,hs,List.length_cons,hl,Nat.add_comm]
  have h2:b0 s = 2+o:=by unfold b0; rw [hs]; exact hb
  have h3:getX V s = beVal l:=by
    rw [getX_l,hs,Nat.add_comm,List.take_succ_cons,List.drop_succ_cons,List.drop_zero,← hl,List.take_length]
  rw [← h3] at hL
  cases ok
  · exact get_shortF h1 h2 ho hL
  · exact get_short h1 h2 ho hL
theorem getT_long {V:Cv} {s:ByteArray} {l m:List UInt8} {ok:Bool} (hk:1≤nby V.p) (hs:s.data.toList = 4 :: (l++m)) (hl:l.length = nby V.p) (hm:m.length = nby V.p) (hL:onB V.p V.a V.b (beVal l) (beVal m) false = ok):getT V s = if ok then (beVal l,beVal m,0) else (0,0,2101):=by
  have h1:s.size = 1+2*nby V.p:=by rw [size_l,hs,List.length_cons,List.length_append,hl,hm]; omega
  have h2:b0 s = 4:=by unfold b0; rw [hs]; rfl
  have h3:getX V s = beVal l:=by
    rw [getX_l,hs,Nat.add_comm,List.take_succ_cons,List.drop_succ_cons,List.drop_zero,List.take_left' hl]
  have h4:getY V s = beVal m:=by
    rw [getY_l,hs,Nat.add_comm,List.drop_succ_cons,List.drop_left' hl]
  have e:getT V s = if onB V.p V.a V.b (getX V s) (getY V s) false = true then (getX V s,getY V s,0) else (0,0,2101):=by
    unfold getT
    rw [if_neg om,if_pos ⟨h1,h2⟩]
  rw [e,h3,h4,hL]
theorem get_put {V:Cv} (hok:V.Ok) {X Y:Nat} (sh:Bool) (h:onB V.p V.a V.b X Y false = true):getT V (putS V X Y sh) = (X,Y,0):=by
  obtain ⟨hX,hY⟩:=on_lt h
  have eX:beVal (beBytes (nby V.p) X) = X:=by rw [beVal_bytes,Nat.mod_eq_of_lt (p_pow hX)]
  have eY:beVal (beBytes (nby V.p) Y) = Y:=by rw [beVal_bytes,Nat.mod_eq_of_lt (p_pow hY)]
  cases sh with
  | true =>
    refine (getT_short (o:=Y%2) (ok:=true) (X:=X) (Y:=Y) (putS_s V X Y) (beBytes_length _ _) (u8_toNat om) om ?_).trans rfl
    rw [eX]; exact lift_put hok h
  | false =>
    refine (getT_long (ok:=true) (nby_posV hok) (putS_l V X Y) (beBytes_length _ _) (beBytes_length _ _) ?_).trans ?_
    · rw [eX,eY]; exact h
    · rw [eX,eY]; rfl
theorem lift_ok {V:Cv} (hok:V.Ok) {X o X' Y':Nat} (ho:o≤1) (h:liftT V X o = (X',Y',true)):X' = X∧onB V.p V.a V.b X Y' false = true∧Y'%2 = o:=by
  have hpo:=p_odd hok
  by_cases hX:X<V.p
  · cases h1:sqN V.p (rightN V.p V.a V.b X) with
    | none=>rw [lift_no hX h1] at h; cases h
    | some r =>
      obtain ⟨r1,r2,r3⟩:=sqN_some h1
      rcases (show o = 0∨o = 1 by omega) with rfl|rfl
      · rw [lift_even hX h1] at h
        cases h
        exact ⟨rfl,on_mk hX r1 r2,r3⟩
      · by_cases h0:r = 0
        · subst h0
          rw [lift_zero hX h1] at h; cases h
        · rw [lift_odd hX h1 h0] at h
          cases h
          refine ⟨rfl,on_mk hX om ?_,by omega⟩
          have e:=congrArg Fin.val (neg_sq (⟨r,r1⟩:Fin V.p))
          rw [Fin.val_mul,Fin.val_mul,fin_neg_val _ (by show r≠0; exact h0)] at e
          exact Eq.trans e r2
  · rw [lift_far hX] at h; cases h
theorem put_get {V:Cv} (hok:V.Ok) {s:ByteArray} {X Y:Nat} (h:getT V s = (X,Y,0)):onB V.p V.a V.b X Y false = true∧(putS V X Y (decide (s.size = 1+nby V.p))).data.toList = s.data.toList:=by
  have hk:=nby_posV hok
  have hsz:=size_l s
  by_cases h1:s.size = 1+nby V.p∧(b0 s = 2∨b0 s = 3)
  · obtain ⟨o, ho, ho1⟩ : ∃ o, b0 s = 2 + o ∧ o ≤ 1 := by
      rcases h1.2 with h2|h2
      · exact ⟨0,h2,by decide⟩
      · exact ⟨1,h2,by decide⟩
    obtain ⟨b,l,hl⟩:∃ b l,s.data.toList = b :: l:=by
      cases hq:s.data.toList with
      | nil=>rw [hq] at hsz; rw [List.length_nil] at hsz; omega
      | cons b l=>exact ⟨b,l,rfl⟩
    rw [hl,List.length_cons] at hsz
    have hb:b.toNat = 2+o:=by unfold b0 at ho; rw [hl] at ho; exact ho
    have h3:=getT_short (V:=V) (o:=o) (ok:=(liftT V (beVal l) o).2.2) hl om hb ho1 rfl
    rw [h] at h3
    cases h4:(liftT V (beVal l) o).2.2 with
    | false=>rw [h4] at h3; cases h3
    | true =>
      rw [h4] at h3
      have h5:liftT V (beVal l) o = (X,Y,true):=by
        have e1:=congrArg Prod.fst h3
        have e2:=congrArg (fun z=>z.2.1) h3
        dsimp only at e1 e2
        rw [e1,e2]
        exact Prod.ext rfl (Prod.ext rfl h4)
      obtain ⟨e1,e2,e3⟩:=lift_ok hok ho1 h5
      subst e1
      refine ⟨e2,?_⟩
      rw [decide_eq_true h1.1,putS_s,hl,e3,← hb,← (show l.length = nby V.p by omega),beBytes_val]
      rw [UInt8.ofNat_toNat]
  · by_cases h2:s.size = 1+2*nby V.p∧b0 s = 4
    · obtain ⟨b, l, hl⟩ : ∃ b l, s.data.toList = b :: l := by
        cases hq:s.data.toList with
        | nil=>rw [hq] at hsz; rw [List.length_nil] at hsz; omega
        | cons b l=>exact ⟨b,l,rfl⟩
      rw [hl,List.length_cons] at hsz
      have hb:b.toNat = 4:=by have:=h2.2; unfold b0 at this; rw [hl] at this; exact this
      have hb4:b = 4:=UInt8.toNat_inj.1 hb
      subst hb4
      have hl2:s.data.toList = 4 :: (l.take (nby V.p)++l.drop (nby V.p)):=by rw [List.take_append_drop,hl]
      have h3:=getT_long (V:=V) (ok:=onB V.p V.a V.b (beVal (l.take (nby V.p))) (beVal (l.drop (nby V.p))) false) hk hl2 (by rw [List.length_take]; omega) (by rw [List.length_drop]; omega) rfl
      rw [h] at h3
      cases h4:onB V.p V.a V.b (beVal (l.take (nby V.p))) (beVal (l.drop (nby V.p))) false with
      | false=>rw [h4] at h3; cases h3
      | true =>
        rw [h4] at h3
        have e1:=congrArg Prod.fst h3
        have e2:=congrArg (fun z=>z.2.1) h3
        dsimp only at e1 e2
        rw [e1,e2]
        refine ⟨h4,?_⟩
        have e3:beBytes (nby V.p) (beVal (l.take (nby V.p))) = l.take (nby V.p):=by
          have:=beBytes_val (l.take (nby V.p))
          rwa [show (l.take (nby V.p)).length = nby V.p by rw [List.length_take]; omega] at this
        have e4:beBytes (nby V.p) (beVal (l.drop (nby V.p))) = l.drop (nby V.p):=by
          have:=beBytes_val (l.drop (nby V.p))
          rwa [show (l.drop (nby V.p)).length = nby V.p by rw [List.length_drop]; omega] at this
        rw [decide_eq_false om,putS_l,hl2,if_pos rfl,e3,e4]
    · rw [get_form h1 h2] at h; cases h
end Go.Proofs.YtlmiolnccgjjjaaGreat
set_option linter.unusedVariables false
set_option linter.unusedSimpArgs false
set_option maxRecDepth 20000
namespace Go.Proofs.YtlmiolnccgjjjaaGreat
open Go Go.RowKit
open Grp
theorem pStr_on {V:Cv} {X Y:Nat} (sh:Bool) (h:onB V.p V.a V.b X Y false = true):pStr V X Y false sh = putS V X Y sh∧pErr V X Y false = 0:=by
  unfold pStr pErr
  rw [if_pos (by rw [h]; rfl),if_pos (by rw [h]; rfl)]
  exact ⟨rfl,rfl⟩
theorem aff_on {V:Cv} {x y:Fin V.p} (h:On V.A V.B (.aff x y)):onB V.p V.a V.b x.val y.val false = true:=onB_on h
theorem putS_size {V:Cv} (hnb:nby V.p≤72) (X Y:Nat) (sh:Bool):(putS V X Y sh).size<9223372036854775808:=by
  rw [size_l]
  cases sh
  · rw [putS_l,List.length_cons,List.length_append,beBytes_length,beBytes_length]; omega
  · rw [putS_s,List.length_cons,beBytes_length]; omega
end Go.Proofs.YtlmiolnccgjjjaaGreat
set_option linter.unusedVariables false
set_option linter.unusedSimpArgs false
set_option maxRecDepth 20000
namespace Go.Proofs.YtlmiolnccgjjjaaGreat
open Go Go.RowKit
open Grp
theorem c_cKeyT (V:Cv) (b f X:Nat) (w:World) (hb:(Item.blk b ⟨false,opL V f,92,(0,0)⟩).holds w) (hX:X<W9) (hnW:V.n<W9) (h0:X≠0) (hn:X<V.n):Calls Tryz.prog 64 ([.pointer (some ⟨b,0,none⟩),natV X]:List Value).toArray w (fun e w'=>e = .returned (.bool true)∧Below w.heap.size w w'):=by
  refine Ka (N:=18) (rs:=[.tmp 4]) [.blk b ⟨false,opL V f,92,(0,0)⟩] Tryz.func64 rfl Tryz.ntmps64 Tryz.results64 (Nb rfl) ⟨hb,trivial⟩ rfl ?_
  show LCode _ _ _ ⟨_,_⟩ _
  refine KB (KA ?_)
  refine oS (mB (fun b3=>?_))
  refine oA ?_
  refine KC ?_
  refine KB ?_
  refine rD [] ?_
  refine aD 0 rfl (dL rfl (hv:=by exact KE Tryz.underlying25 rfl sz_25)) ?_
  refine aP 1 rfl (KG (Ki pl_25 zr_25 rfl rfl) (show _ = natV 0 by unfold natV natL; rw [← vec_zeros 9])) ?_
  refine aP 2 rfl (KG (Det.nea (by kernel_rfl) (fun w=>eq_nat X 0 hX zero_w9 10000 dc w) rfl rfl) (show _ = Value.bool true by rw [decide_eq_false h0]; rfl)) ?_
  refine aM 3 ?_
  refine aGD 4 rfl (dL rfl (hv:=by exact KE Tryz.underlying25 rfl sz_25)) ?_
  refine aGM 5 ?_
  refine aGP 6 rfl (KM rfl) ?_
  refine aGP 7 rfl (KF (o':=0) Tryz.underlying92 rfl rfl rfl sz_89 dc) ?_
  refine aGP 8 rfl (KF (o':=28) Tryz.underlying89 rfl rfl rfl sz_25 dc) ?_
  refine aGD 9 rfl (dL rfl (hv:=by exact cvC_ld_n _ _ _ _ _ _ _ _ _ _ _ _ _ _ _ _)) ?_
  refine aGO 10 rfl (cF rfl en_68 rfl (fun w hw=>c_nat_Cmp X V.n hX hnW w) ?_)
  refine aGP 11 rfl (KD (v:=.bool true) rfl rfl (br_t cmp_lt (hn))) ?_
  refine aP 12 rfl (KY rfl rfl) ?_
  refine aA 13 ?_
  refine aE ?_
  refine KK ?_
  refine ⟨[_],.cons rfl .nil,fun a w' hr=>⟨?_,hr.fr.below⟩⟩
  rfl
theorem c_cKeyZ (V:Cv) (b f:Nat) (w:World) (hb:(Item.blk b ⟨false,opL V f,92,(0,0)⟩).holds w):Calls Tryz.prog 64 ([.pointer (some ⟨b,0,none⟩),natV 0]:List Value).toArray w (fun e w'=>e = .returned (.bool false)∧Below w.heap.size w w'):=by
  refine Ka (N:=18) (rs:=[.tmp 4]) [.blk b ⟨false,opL V f,92,(0,0)⟩] Tryz.func64 rfl Tryz.ntmps64 Tryz.results64 (Nb rfl) ⟨hb,trivial⟩ rfl ?_
  show LCode _ _ _ ⟨_,_⟩ _
  refine KB (KA ?_)
  refine oS (mB (fun b3=>?_))
  refine oA ?_
  refine KC ?_
  refine KB ?_
  refine rD [] ?_
  refine aD 0 rfl (dL rfl (hv:=by exact KE Tryz.underlying25 rfl sz_25)) ?_
  refine aP 1 rfl (KG (Ki pl_25 zr_25 rfl rfl) (show _ = natV 0 by unfold natV natL; rw [← vec_zeros 9])) ?_
  refine aP 2 rfl (KG (Det.nea (by kernel_rfl) (fun w=>eq_nat 0 0 zero_w9 zero_w9 10000 dc w) rfl rfl) (show _ = Value.bool false by rw [decide_eq_true rfl]; rfl)) ?_
  refine aM 3 ?_
  refine aK 4 ?_
  refine aK 5 ?_
  refine aK 6 ?_
  refine aK 7 ?_
  refine aK 8 ?_
  refine aK 9 ?_
  refine aK 10 ?_
  refine aK 11 ?_
  refine aP 12 rfl (KV rfl rfl) ?_
  refine aA 13 ?_
  refine aE ?_
  refine KK ?_
  refine ⟨[_],.cons rfl .nil,fun a w' hr=>⟨?_,hr.fr.below⟩⟩
  rfl
theorem c_cKeyF (V:Cv) (b f X:Nat) (w:World) (hb:(Item.blk b ⟨false,opL V f,92,(0,0)⟩).holds w) (hX:X<W9) (hnW:V.n<W9) (h0:X≠0) (hn:V.n≤X):Calls Tryz.prog 64 ([.pointer (some ⟨b,0,none⟩),natV X]:List Value).toArray w (fun e w'=>e = .returned (.bool false)∧Below w.heap.size w w'):=by
  refine Ka (N:=18) (rs:=[.tmp 4]) [.blk b ⟨false,opL V f,92,(0,0)⟩] Tryz.func64 rfl Tryz.ntmps64 Tryz.results64 (Nb rfl) ⟨hb,trivial⟩ rfl ?_
  show LCode _ _ _ ⟨_,_⟩ _
  refine KB (KA ?_)
  refine oS (mB (fun b3=>?_))
  refine oA ?_
  refine KC ?_
  refine KB ?_
  refine rD [] ?_
  refine aD 0 rfl (dL rfl (hv:=by exact KE Tryz.underlying25 rfl sz_25)) ?_
  refine aP 1 rfl (KG (Ki pl_25 zr_25 rfl rfl) (show _ = natV 0 by unfold natV natL; rw [← vec_zeros 9])) ?_
  refine aP 2 rfl (KG (Det.nea (by kernel_rfl) (fun w=>eq_nat X 0 hX zero_w9 10000 dc w) rfl rfl) (show _ = Value.bool true by rw [decide_eq_false h0]; rfl)) ?_
  refine aM 3 ?_
  refine aGD 4 rfl (dL rfl (hv:=by exact KE Tryz.underlying25 rfl sz_25)) ?_
  refine aGM 5 ?_
  refine aGP 6 rfl (KM rfl) ?_
  refine aGP 7 rfl (KF (o':=0) Tryz.underlying92 rfl rfl rfl sz_89 dc) ?_
  refine aGP 8 rfl (KF (o':=28) Tryz.underlying89 rfl rfl rfl sz_25 dc) ?_
  refine aGD 9 rfl (dL rfl (hv:=by exact cvC_ld_n _ _ _ _ _ _ _ _ _ _ _ _ _ _ _ _)) ?_
  refine aGO 10 rfl (cF rfl en_68 rfl (fun w hw=>c_nat_Cmp X V.n hX hnW w) ?_)
  refine aGP 11 rfl (KD (v:=.bool false) rfl rfl (br_f cmp_lt (Nat.not_lt_of_le hn))) ?_
  refine aP 12 rfl (KY rfl rfl) ?_
  refine aA 13 ?_
  refine aE ?_
  refine KK ?_
  refine ⟨[_],.cons rfl .nil,fun a w' hr=>⟨?_,hr.fr.below⟩⟩
  rfl
theorem c_kCheckT (id:Int) (V:Cv) (K:Nat) (w:World) (h:cvI id = some V) (h0:K≠0) (hn:K<V.n):Calls Tryz.prog 40 ([.int .i64 id,natV K]:List Value).toArray w (fun e w'=>e = .returned (.int .i64 ((0:Nat):Int))∧Below w.heap.size w w'):=by
  obtain ⟨hok,hid⟩:=cvI_ok h
  have hbb:=hok.bounds
  have hpW:V.p<W9:=KAB hbb.2.1
  have hnW:V.n<W9:=KAB hbb.2.2.2.2.2.2.1
  have hbl:=KAQ hnW
  have hnb:nby V.n≤72:=by (unfold nby; omega)
  refine Ka (N:=16) (rs:=[.tmp 4]) [] Tryz.func40 rfl Tryz.ntmps40 Tryz.results40 (Nb rfl) trivial rfl ?_
  show LCode _ _ _ ⟨_,_⟩ _
  refine KB (KA ?_)
  refine oS (mB (fun b3=>?_))
  refine oP (KQ (v:=.int .i64 ((0:Nat):Int)) rfl) ?_
  refine KC ?_
  refine KB (KA ?_)
  refine oM ?_
  refine oS (KAR (Post:=fun v its=>∃ b f bd,v = .pointer (some ⟨b,0,none⟩)∧its = [.blk b ⟨false,opL V f,92,(0,0)⟩,.blk f ⟨false,fldL V.p bd,116,(0,0)⟩,.blk bd ⟨false,dvL V.p,167,(0,0)⟩]) (first:=[]) rfl en_39 rfl (Nb rfl) (fun w1 hw hs=>(c_Open _ V w1 h).mono fun e w' ⟨b,f,bd,h1,h2,h3,h4,h5,h6,h7,h8⟩=>⟨_,_,⟨b,f,bd,rfl,rfl⟩,h1,KAV h8 (by intro x hx; simp at hx; rcases hx with rfl|rfl|rfl; exact h2; exact h3; exact h4) (by intro x hx; simp at hx; rcases hx with rfl|rfl|rfl <;> rfl) (by intro x hx k hk; simp at hx; rcases hx with rfl|rfl|rfl <;> simp [Item.fp] at hk <;> subst hk; exact .inl h5; exact .inl h6; exact .inl h7)⟩) ?_)
  rintro _ _ ⟨b,f,bd,rfl,rfl⟩
  refine oA ?_
  refine KC ?_
  refine KB ?_
  refine LCode.block ?_
  refine KB (KA ?_)
  refine oM ?_
  refine oP (KG (Det.eqp Tryz.underlying79 rfl rfl) (show _ = Value.bool false from rfl)) ?_
  refine oA ?_
  refine KC ?_
  refine KI rfl ?_
  refine KB (KA ?_)
  refine oM ?_
  refine oD (dL rfl (hv:=by exact KE Tryz.underlying25 rfl sz_25)) ?_
  refine oS (cF rfl en_64 rfl (fun w hw=>c_cKeyT V b f K w (mC hw) (Nat.lt_trans hn hnW) hnW h0 hn) ?_)
  refine oP (KG (KAN rfl) (show _ = Value.bool false from rfl)) ?_
  refine oA ?_
  refine KC ?_
  refine KI rfl ?_
  refine KL ?_
  refine KB (KA ?_)
  refine oP (KQ (v:=.int .i64 ((0:Nat):Int)) rfl) ?_
  refine KC (KK ?_)
  refine ⟨[_],.cons rfl .nil,fun a w' hr=>⟨?_,hr.fr.below⟩⟩
  rfl
theorem c_kCheckZ (id:Int) (V:Cv) (w:World) (h:cvI id = some V):Calls Tryz.prog 40 ([.int .i64 id,natV 0]:List Value).toArray w (fun e w'=>e = .returned (.int .i64 ((2401:Nat):Int))∧Below w.heap.size w w'):=by
  obtain ⟨hok,hid⟩:=cvI_ok h
  have hbb:=hok.bounds
  have hpW:V.p<W9:=KAB hbb.2.1
  have hnW:V.n<W9:=KAB hbb.2.2.2.2.2.2.1
  have hbl:=KAQ hnW
  have hnb:nby V.n≤72:=by (unfold nby; omega)
  refine Ka (N:=16) (rs:=[.tmp 4]) [] Tryz.func40 rfl Tryz.ntmps40 Tryz.results40 (Nb rfl) trivial rfl ?_
  show LCode _ _ _ ⟨_,_⟩ _
  refine KB (KA ?_)
  refine oS (mB (fun b3=>?_))
  refine oP (KQ (v:=.int .i64 ((0:Nat):Int)) rfl) ?_
  refine KC ?_
  refine KB (KA ?_)
  refine oM ?_
  refine oS (KAR (Post:=fun v its=>∃ b f bd,v = .pointer (some ⟨b,0,none⟩)∧its = [.blk b ⟨false,opL V f,92,(0,0)⟩,.blk f ⟨false,fldL V.p bd,116,(0,0)⟩,.blk bd ⟨false,dvL V.p,167,(0,0)⟩]) (first:=[]) rfl en_39 rfl (Nb rfl) (fun w1 hw hs=>(c_Open _ V w1 h).mono fun e w' ⟨b,f,bd,h1,h2,h3,h4,h5,h6,h7,h8⟩=>⟨_,_,⟨b,f,bd,rfl,rfl⟩,h1,KAV h8 (by intro x hx; simp at hx; rcases hx with rfl|rfl|rfl; exact h2; exact h3; exact h4) (by intro x hx; simp at hx; rcases hx with rfl|rfl|rfl <;> rfl) (by intro x hx k hk; simp at hx; rcases hx with rfl|rfl|rfl <;> simp [Item.fp] at hk <;> subst hk; exact .inl h5; exact .inl h6; exact .inl h7)⟩) ?_)
  rintro _ _ ⟨b,f,bd,rfl,rfl⟩
  refine oA ?_
  refine KC ?_
  refine KB ?_
  refine LCode.block ?_
  refine KB (KA ?_)
  refine oM ?_
  refine oP (KG (Det.eqp Tryz.underlying79 rfl rfl) (show _ = Value.bool false from rfl)) ?_
  refine oA ?_
  refine KC ?_
  refine KI rfl ?_
  refine KB (KA ?_)
  refine oM ?_
  refine oD (dL rfl (hv:=by exact KE Tryz.underlying25 rfl sz_25)) ?_
  refine oS (cF rfl en_64 rfl (fun w hw=>c_cKeyZ V b f w (mC hw)) ?_)
  refine oP (KG (KAN rfl) (show _ = Value.bool true from rfl)) ?_
  refine oA ?_
  refine KC ?_
  refine KT rfl ?_
  refine KB (KA ?_)
  refine oP (KQ (v:=.int .i64 ((2401:Nat):Int)) rfl) ?_
  refine KC (KK ?_)
  refine ⟨[_],.cons rfl .nil,fun a w' hr=>⟨?_,hr.fr.below⟩⟩
  rfl
theorem c_kCheckF (id:Int) (V:Cv) (K:Nat) (w:World) (h:cvI id = some V) (hX:K<W9) (h0:K≠0) (hn:V.n≤K):Calls Tryz.prog 40 ([.int .i64 id,natV K]:List Value).toArray w (fun e w'=>e = .returned (.int .i64 ((2401:Nat):Int))∧Below w.heap.size w w'):=by
  obtain ⟨hok,hid⟩:=cvI_ok h
  have hbb:=hok.bounds
  have hpW:V.p<W9:=KAB hbb.2.1
  have hnW:V.n<W9:=KAB hbb.2.2.2.2.2.2.1
  have hbl:=KAQ hnW
  have hnb:nby V.n≤72:=by (unfold nby; omega)
  refine Ka (N:=16) (rs:=[.tmp 4]) [] Tryz.func40 rfl Tryz.ntmps40 Tryz.results40 (Nb rfl) trivial rfl ?_
  show LCode _ _ _ ⟨_,_⟩ _
  refine KB (KA ?_)
  refine oS (mB (fun b3=>?_))
  refine oP (KQ (v:=.int .i64 ((0:Nat):Int)) rfl) ?_
  refine KC ?_
  refine KB (KA ?_)
  refine oM ?_
  refine oS (KAR (Post:=fun v its=>∃ b f bd,v = .pointer (some ⟨b,0,none⟩)∧its = [.blk b ⟨false,opL V f,92,(0,0)⟩,.blk f ⟨false,fldL V.p bd,116,(0,0)⟩,.blk bd ⟨false,dvL V.p,167,(0,0)⟩]) (first:=[]) rfl en_39 rfl (Nb rfl) (fun w1 hw hs=>(c_Open _ V w1 h).mono fun e w' ⟨b,f,bd,h1,h2,h3,h4,h5,h6,h7,h8⟩=>⟨_,_,⟨b,f,bd,rfl,rfl⟩,h1,KAV h8 (by intro x hx; simp at hx; rcases hx with rfl|rfl|rfl; exact h2; exact h3; exact h4) (by intro x hx; simp at hx; rcases hx with rfl|rfl|rfl <;> rfl) (by intro x hx k hk; simp at hx; rcases hx with rfl|rfl|rfl <;> simp [Item.fp] at hk <;> subst hk; exact .inl h5; exact .inl h6; exact .inl h7)⟩) ?_)
  rintro _ _ ⟨b,f,bd,rfl,rfl⟩
  refine oA ?_
  refine KC ?_
  refine KB ?_
  refine LCode.block ?_
  refine KB (KA ?_)
  refine oM ?_
  refine oP (KG (Det.eqp Tryz.underlying79 rfl rfl) (show _ = Value.bool false from rfl)) ?_
  refine oA ?_
  refine KC ?_
  refine KI rfl ?_
  refine KB (KA ?_)
  refine oM ?_
  refine oD (dL rfl (hv:=by exact KE Tryz.underlying25 rfl sz_25)) ?_
  refine oS (cF rfl en_64 rfl (fun w hw=>c_cKeyF V b f K w (mC hw) hX hnW h0 hn) ?_)
  refine oP (KG (KAN rfl) (show _ = Value.bool true from rfl)) ?_
  refine oA ?_
  refine KC ?_
  refine KT rfl ?_
  refine KB (KA ?_)
  refine oP (KQ (v:=.int .i64 ((2401:Nat):Int)) rfl) ?_
  refine KC (KK ?_)
  refine ⟨[_],.cons rfl .nil,fun a w' hr=>⟨?_,hr.fr.below⟩⟩
  rfl
theorem c_eShared_none (tb:Option Nat) (id:Int) (K:Nat) (s:ByteArray) (w:World) (h:cvI id = none):Calls Tryz.prog 19 ([trV tb,.int .i64 id,natV K,.string s]:List Value).toArray w (fun e w'=>e = .returned (.tuple #[.string ⟨#[]⟩,.int .i64 ((2500:Nat):Int)])∧Below w.heap.size w w'):=by
  refine Ka (N:=55) (rs:=[.tmp 8,.tmp 9]) [] Tryz.func19 rfl Tryz.ntmps19 Tryz.results19 (Nb rfl) trivial rfl ?_
  show LCode _ _ _ ⟨_,_⟩ _
  refine KB (KA ?_)
  refine oS (mB (fun b6=>?_))
  refine oA ?_
  refine oP (KQ (v:=.int .i64 ((0:Nat):Int)) rfl) ?_
  refine KC ?_
  refine KB (KA ?_)
  refine oM ?_
  refine oS (cF rfl en_39 rfl (fun w hw=>c_Open_none id w h) ?_)
  refine oA ?_
  refine KC ?_
  refine KB ?_
  refine LCode.block ?_
  refine KB (KA ?_)
  refine oM ?_
  refine oP (KG (Det.eqp Tryz.underlying79 rfl rfl) (show _ = Value.bool true from rfl)) ?_
  refine oA ?_
  refine KC ?_
  refine KT rfl ?_
  refine KB (KA ?_)
  refine oA ?_
  refine oP (KQ (v:=.int .i64 ((2500:Nat):Int)) rfl) ?_
  refine KC (KK ?_)
  refine ⟨[_,_],.cons rfl (.cons rfl .nil),fun a w' hr=>⟨?_,hr.fr.below⟩⟩
  rfl
theorem c_eShared_key (tb:Option Nat) (id:Int) (V:Cv) (K:Nat) (s:ByteArray) (w:World) (h:cvI id = some V) (hX:K<W9) (hk:K = 0∨V.n≤K):Calls Tryz.prog 19 ([trV tb,.int .i64 id,natV K,.string s]:List Value).toArray w (fun e w'=>e = .returned (.tuple #[.string ⟨#[]⟩,.int .i64 ((2501:Nat):Int)])∧Below w.heap.size w w'):=by
  obtain ⟨hok,hid⟩:=cvI_ok h
  have hbb:=hok.bounds
  have hpW:V.p<W9:=KAB hbb.2.1
  have hnW:V.n<W9:=KAB hbb.2.2.2.2.2.2.1
  have hbl:=KAQ hnW
  have hnb:nby V.n≤72:=by (unfold nby; omega)
  refine Ka (N:=55) (rs:=[.tmp 8,.tmp 9]) [] Tryz.func19 rfl Tryz.ntmps19 Tryz.results19 (Nb rfl) trivial rfl ?_
  show LCode _ _ _ ⟨_,_⟩ _
  refine KB (KA ?_)
  refine oS (mB (fun b6=>?_))
  refine oA ?_
  refine oP (KQ (v:=.int .i64 ((0:Nat):Int)) rfl) ?_
  refine KC ?_
  refine KB (KA ?_)
  refine oM ?_
  refine oS (KAR (Post:=fun v its=>∃ b f bd,v = .pointer (some ⟨b,0,none⟩)∧its = [.blk b ⟨false,opL V f,92,(0,0)⟩,.blk f ⟨false,fldL V.p bd,116,(0,0)⟩,.blk bd ⟨false,dvL V.p,167,(0,0)⟩]) (first:=[]) rfl en_39 rfl (Nb rfl) (fun w1 hw hs=>(c_Open _ V w1 h).mono fun e w' ⟨b,f,bd,h1,h2,h3,h4,h5,h6,h7,h8⟩=>⟨_,_,⟨b,f,bd,rfl,rfl⟩,h1,KAV h8 (by intro x hx; simp at hx; rcases hx with rfl|rfl|rfl; exact h2; exact h3; exact h4) (by intro x hx; simp at hx; rcases hx with rfl|rfl|rfl <;> rfl) (by intro x hx k hk; simp at hx; rcases hx with rfl|rfl|rfl <;> simp [Item.fp] at hk <;> subst hk; exact .inl h5; exact .inl h6; exact .inl h7)⟩) ?_)
  rintro _ _ ⟨b,f,bd,rfl,rfl⟩
  refine oA ?_
  refine KC ?_
  refine KB ?_
  refine LCode.block ?_
  refine KB (KA ?_)
  refine oM ?_
  refine oP (KG (Det.eqp Tryz.underlying79 rfl rfl) (show _ = Value.bool false from rfl)) ?_
  refine oA ?_
  refine KC ?_
  refine KI rfl ?_
  refine KB ?_
  rcases (show K = 0∨K≠0 by omega) with rfl|h0
  ·
    refine KA ?_
    refine oM ?_
    refine oD (dL rfl (hv:=by exact KE Tryz.underlying25 rfl sz_25)) ?_
    refine oS (cF rfl en_40 rfl (fun w hw=>c_kCheckZ id V w h) ?_)
    refine oP (KD (v:=.bool true) rfl rfl (br_t (br_neq (b:=0)) dc)) ?_
    refine oA ?_
    refine KC ?_
    refine KT rfl ?_
    refine KB (KA ?_)
    refine oA ?_
    refine oP (KQ (v:=.int .i64 ((2501:Nat):Int)) rfl) ?_
    refine KC (KK ?_)
    refine ⟨[_,_],.cons rfl (.cons rfl .nil),fun a w' hr=>⟨?_,hr.fr.below⟩⟩
    rfl
  ·
    refine KA ?_
    refine oM ?_
    refine oD (dL rfl (hv:=by exact KE Tryz.underlying25 rfl sz_25)) ?_
    refine oS (cF rfl en_40 rfl (fun w hw=>c_kCheckF id V K w h hX h0 om) ?_)
    refine oP (KD (v:=.bool true) rfl rfl (br_t (br_neq (b:=0)) dc)) ?_
    refine oA ?_
    refine KC ?_
    refine KT rfl ?_
    refine KB (KA ?_)
    refine oA ?_
    refine oP (KQ (v:=.int .i64 ((2501:Nat):Int)) rfl) ?_
    refine KC (KK ?_)
    refine ⟨[_,_],.cons rfl (.cons rfl .nil),fun a w' hr=>⟨?_,hr.fr.below⟩⟩
    rfl
theorem c_eShared_pt (tb:Option Nat) (id:Int) (V:Cv) (K:Nat) (s:ByteArray) (X Y e:Nat) (w:World) (h:cvI id = some V) (h0:K≠0) (hn:K<V.n) (hs:s.size<9223372036854775808) (hg:getT V s = (X,Y,e)) (he:e≠0):Calls Tryz.prog 19 ([trV tb,.int .i64 id,natV K,.string s]:List Value).toArray w (fun e w'=>e = .returned (.tuple #[.string ⟨#[]⟩,.int .i64 ((2502:Nat):Int)])∧Below w.heap.size w w'):=by
  obtain ⟨hok,hid⟩:=cvI_ok h
  have hbb:=hok.bounds
  have hpW:V.p<W9:=KAB hbb.2.1
  have hnW:V.n<W9:=KAB hbb.2.2.2.2.2.2.1
  have hbl:=KAQ hnW
  have hnb:nby V.n≤72:=by (unfold nby; omega)
  refine Ka (N:=55) (rs:=[.tmp 8,.tmp 9]) [] Tryz.func19 rfl Tryz.ntmps19 Tryz.results19 (Nb rfl) trivial rfl ?_
  show LCode _ _ _ ⟨_,_⟩ _
  refine KB (KA ?_)
  refine oS (mB (fun b6=>?_))
  refine oA ?_
  refine oP (KQ (v:=.int .i64 ((0:Nat):Int)) rfl) ?_
  refine KC ?_
  refine KB (KA ?_)
  refine oM ?_
  refine oS (KAR (Post:=fun v its=>∃ b f bd,v = .pointer (some ⟨b,0,none⟩)∧its = [.blk b ⟨false,opL V f,92,(0,0)⟩,.blk f ⟨false,fldL V.p bd,116,(0,0)⟩,.blk bd ⟨false,dvL V.p,167,(0,0)⟩]) (first:=[]) rfl en_39 rfl (Nb rfl) (fun w1 hw hs=>(c_Open _ V w1 h).mono fun e w' ⟨b,f,bd,h1,h2,h3,h4,h5,h6,h7,h8⟩=>⟨_,_,⟨b,f,bd,rfl,rfl⟩,h1,KAV h8 (by intro x hx; simp at hx; rcases hx with rfl|rfl|rfl; exact h2; exact h3; exact h4) (by intro x hx; simp at hx; rcases hx with rfl|rfl|rfl <;> rfl) (by intro x hx k hk; simp at hx; rcases hx with rfl|rfl|rfl <;> simp [Item.fp] at hk <;> subst hk; exact .inl h5; exact .inl h6; exact .inl h7)⟩) ?_)
  rintro _ _ ⟨b,f,bd,rfl,rfl⟩
  refine oA ?_
  refine KC ?_
  refine KB ?_
  refine LCode.block ?_
  refine KB (KA ?_)
  refine oM ?_
  refine oP (KG (Det.eqp Tryz.underlying79 rfl rfl) (show _ = Value.bool false from rfl)) ?_
  refine oA ?_
  refine KC ?_
  refine KI rfl ?_
  refine KB (KA ?_)
  refine oM ?_
  refine oD (dL rfl (hv:=by exact KE Tryz.underlying25 rfl sz_25)) ?_
  refine oS (cF rfl en_40 rfl (fun w hw=>c_kCheckT id V K w h h0 hn) ?_)
  refine oP (KD (v:=.bool false) rfl rfl (br_f (br_neq (b:=0)) dc)) ?_
  refine oA ?_
  refine KC ?_
  refine KI rfl ?_
  refine KL ?_
  refine KB (KA ?_)
  refine oM ?_
  refine oM ?_
  refine oS (cF rfl en_41 rfl (fun w hw=>c_s_GetE X Y e id V s w h hs hg) ?_)
  refine oM ?_
  refine oP (Det.extract rfl rfl) ?_
  refine oP (Det.extract rfl rfl) ?_
  refine oS (mk (KN zr_83) (fun b11=>?_))
  refine KO rfl (sA rfl rfl sz_83 (by exact KAJ _ _ _) (hl:=by exact Kb _ _ _) (h:=?_))
  refine oA ?_
  refine KC ?_
  refine KB ?_
  refine KB (KA ?_)
  refine oM ?_
  refine oP (KD (v:=.bool true) rfl rfl (br_t (br_neq (b:=0)) (om))) ?_
  refine KC ?_
  refine KT rfl ?_
  refine KB (KA ?_)
  refine oA ?_
  refine oP (KQ (v:=.int .i64 ((2502:Nat):Int)) rfl) ?_
  refine KC (KK ?_)
  refine ⟨[_,_],.cons rfl (.cons rfl .nil),fun a w' hr=>⟨?_,hr.fr.below⟩⟩
  rfl
theorem c_eShared (tb:Option Nat) (tr:TrRow) (l:List Nat) (id:Int) (V:Cv) (K:Nat) (s:ByteArray) (x y:Fin V.p) (m:Nat) (hm:(blen V.n+3)/4 = m) (w:World) (h:cvI id = some V) (hk0:K≠0) (hn:K<V.n) (hs:s.size<9223372036854775808) (hg:getT V s = (x.val,y.val,0)) (hP:On V.A V.B (.aff x y)) (h0:(trI tb tr l).holds w) (hl:l.length≤80000000):Calls Tryz.prog 19 ([trV tb,.int .i64 id,natV K,.string s]:List Value).toArray w (fun e w'=>TrR w tb tr (l++evN m) (.tuple #[.string (coB V (xv (pmul V.A (.aff x y:Pt V.p) K))),.int .i64 ((0:Nat):Int)]) e w'):=by
  obtain ⟨hok,hid⟩:=cvI_ok h
  have hbb:=hok.bounds
  have hpW:V.p<W9:=KAB hbb.2.1
  have hnW:V.n<W9:=KAB hbb.2.2.2.2.2.2.1
  have hbl:=KAQ hnW
  have hnb:nby V.n≤72:=by (unfold nby; omega)
  have hnp:=nbp_72 hok
  refine calls_tr (N:=55) (rs:=[.tmp 8,.tmp 9]) tb tr l [] Tryz.func19 rfl Tryz.ntmps19 Tryz.results19 (Nb rfl) h0 trivial rfl trivial ?_
  show LCode _ _ _ ⟨_,_⟩ _
  refine KB (KA ?_)
  refine oS (mB (fun b6=>?_))
  refine oA ?_
  refine oP (KQ (v:=.int .i64 ((0:Nat):Int)) rfl) ?_
  refine KC ?_
  refine KB (KA ?_)
  refine oM ?_
  refine oS (KAR (Post:=fun v its=>∃ b f bd,v = .pointer (some ⟨b,0,none⟩)∧its = [.blk b ⟨false,opL V f,92,(0,0)⟩,.blk f ⟨false,fldL V.p bd,116,(0,0)⟩,.blk bd ⟨false,dvL V.p,167,(0,0)⟩]) (first:=[]) rfl en_39 rfl (Nb rfl) (fun w1 hw hs=>(c_Open _ V w1 h).mono fun e w' ⟨b,f,bd,h1,h2,h3,h4,h5,h6,h7,h8⟩=>⟨_,_,⟨b,f,bd,rfl,rfl⟩,h1,KAV h8 (by intro x hx; simp at hx; rcases hx with rfl|rfl|rfl; exact h2; exact h3; exact h4) (by intro x hx; simp at hx; rcases hx with rfl|rfl|rfl <;> rfl) (by intro x hx k hk; simp at hx; rcases hx with rfl|rfl|rfl <;> simp [Item.fp] at hk <;> subst hk; exact .inl h5; exact .inl h6; exact .inl h7)⟩) ?_)
  rintro _ _ ⟨b,f,bd,rfl,rfl⟩
  refine oA ?_
  refine KC ?_
  refine KB ?_
  refine LCode.block ?_
  refine KB (KA ?_)
  refine oM ?_
  refine oP (KG (Det.eqp Tryz.underlying79 rfl rfl) (show _ = Value.bool false from rfl)) ?_
  refine oA ?_
  refine KC ?_
  refine KI rfl ?_
  refine KB (KA ?_)
  refine oM ?_
  refine oD (dL rfl (hv:=by exact KE Tryz.underlying25 rfl sz_25)) ?_
  refine oS (cF rfl en_40 rfl (fun w hw=>c_kCheckT id V K w h hk0 hn) ?_)
  refine oP (KD (v:=.bool false) rfl rfl (br_f (br_neq (b:=0)) dc)) ?_
  refine oA ?_
  refine KC ?_
  refine KI rfl ?_
  refine KL ?_
  refine KB (KA ?_)
  refine oM ?_
  refine oM ?_
  refine oS (cF rfl en_41 rfl (fun w hw=>c_s_GetE x.val y.val 0 id V s w h hs hg) ?_)
  refine oM ?_
  refine oP (Det.extract rfl rfl) ?_
  refine oP (Det.extract rfl rfl) ?_
  refine oS (mk (KN zr_83) (fun b11=>?_))
  refine KO rfl (sA rfl rfl sz_83 (by exact KAJ _ _ _) (hl:=by simp [Kb,KW]) (h:=?_))
  refine oA ?_
  refine KC ?_
  refine KB ?_
  refine KB (KA ?_)
  refine oM ?_
  refine oP (KD (v:=.bool false) rfl rfl (br_f (br_neq (b:=0)) dc)) ?_
  refine KC ?_
  refine KI rfl ?_
  refine KL ?_
  refine KB (KA ?_)
  refine oM ?_
  refine oM ?_
  refine oD (dL rfl (hv:=by exact KE Tryz.underlying25 rfl sz_25)) ?_
  refine oD (dL rfl (hv:=by exact KE Tryz.underlying83 rfl sz_83)) ?_
  refine KO rfl (LStepW.callT (first:=[]) (r:=tr) (l:=l) (l':=l++evN m) rfl en_42 rfl (Nb rfl) mP (fun w hw hn0=>c_mMul tb tr l id V K (.aff x y) m hm w h hP hn (mC hw) hl) ?_)
  intro r1
  refine oM ?_
  refine oP (Det.extract rfl rfl) ?_
  refine oP (Det.extract rfl rfl) ?_
  refine oS (mk (KN zr_83) (fun b13=>?_))
  refine KO rfl (sA rfl rfl sz_83 (by exact KAJ _ _ _) (hl:=by simp [Kb,KW]) (h:=?_))
  refine oA ?_
  refine KC ?_
  refine KB ?_
  refine rD [] ?_
  refine aP 0 rfl (KF (o':=0) Tryz.underlying83 rfl rfl rfl sz_25 dc) ?_
  refine aD 1 rfl (dL rfl (hv:=by exact KAD Tryz.underlying25 rfl sz_25 rfl (KH _))) ?_
  refine aM 2 ?_
  refine aP 3 rfl (KM rfl) ?_
  refine aP 4 rfl (KF (o':=0) Tryz.underlying92 rfl rfl rfl sz_89 dc) ?_
  refine aP 5 rfl (KF (o':=57) Tryz.underlying89 rfl rfl rfl sz_3 dc) ?_
  refine aD 6 rfl (dL rfl (hv:=KJ Tryz.underlying3 rfl (by exact cvC_gt_size _ _ _ _ _ _ _ _ _ _ _ _ _))) ?_
  refine aO 7 rfl (cF rfl en_43 rfl (fun w hw=>c_nat_BytesOK (xv (pmul V.A (.aff x y:Pt V.p) K)) (nby V.p) w (Nat.lt_trans (xv_lt _) hpW) hnp (nby_le (xv_lt _))) ?_)
  refine aM 8 ?_
  refine aP 9 rfl (Det.extract rfl rfl) ?_
  refine aP 10 rfl (Det.extract rfl rfl) ?_
  refine aA 11 ?_
  refine aA 12 ?_
  refine aE ?_
  refine KB (KA ?_)
  refine oM ?_
  refine oA ?_
  refine oP (KQ (v:=.int .i64 ((0:Nat):Int)) rfl) ?_
  refine KC (KK ?_)
  exact ⟨[_,_],.cons rfl (.cons rfl .nil),fun a w' hr=>hr.tr mM⟩
theorem c_eSharedN (R:ByteArray) (id:Int) (V:Cv) (K:Nat) (s:ByteArray) (x y:Fin V.p) (w:World) (h:cvI id = some V) (h0:K≠0) (hn:K<V.n) (hs:s.size<9223372036854775808) (hg:getT V s = (x.val,y.val,0)) (hP:On V.A V.B (.aff x y)) (hR:coB V (xv (pmul V.A (.aff x y:Pt V.p) K)) = R):Calls Tryz.prog 19 ([.pointer none,.int .i64 id,natV K,.string s]:List Value).toArray w (fun e w'=>e = .returned (.tuple #[.string R,.int .i64 ((0:Nat):Int)])∧Below w.heap.size w w') :=
  hR ▸ (c_eShared none none [] id V K s x y _ rfl w h h0 hn hs hg hP (trI_nil _ _) (Nat.zero_le _)).mono fun e w' h=>TrR.nil h
end Go.Proofs.YtlmiolnccgjjjaaGreat
set_option linter.unusedVariables false
set_option linter.unusedSimpArgs false
set_option maxRecDepth 20000
namespace Go.Proofs.YtlmiolnccgjjjaaGreat
open Go Go.RowKit
open Grp
theorem aw25_g:getT cv13 ⟨#[4,2,84]⟩ = ((c cv13.p cv13.x).val,(c cv13.p cv13.y).val,0):=by
  rw [getT_l,nby13]; decide +kernel
theorem aw25_0:getT cv13 ⟨#[0]⟩ = (0,0,2102):=by
  rw [getT_l,nby13]; decide +kernel
theorem aw25_r (hok:cv13.Ok):(coB cv13 (xv (pmul cv13.A (.aff (c cv13.p cv13.x) (c cv13.p cv13.y)) 1))).data.toList = [2]:=by
  have e:pmul cv13.A (.aff (c cv13.p cv13.x) (c cv13.p cv13.y)) 1 = (.aff (c cv13.p cv13.x) (c cv13.p cv13.y):Pt cv13.p):=by
    show padd cv13.A .inf _ = _
    exact hok.inf_add hok.on
  rw [e,coB_l,nby13]
  show beBytes 1 (c cv13.p cv13.x).val = [2]
  decide +kernel
theorem c_awake25  (w:World)  : Calls Tryz.prog 8 ([]:List Value).toArray w (fun e w'=>e = .returned (.bool true)∧Below w.heap.size w w'):=by
  obtain ⟨hok,-⟩:=cvI_ok cv13_is
  obtain ⟨R,hR,hR2⟩:∃ R,coB cv13 (xv (pmul cv13.A (.aff (c cv13.p cv13.x) (c cv13.p cv13.y)) 1)) = R∧R.data.toList = [2]:=⟨_,rfl,aw25_r hok⟩
  refine Ka (N:=51) (rs:=[.tmp 0]) [] Tryz.func8 rfl Tryz.ntmps8 Tryz.results8 (Nb rfl) trivial rfl ?_
  show LCode _ _ _ ⟨_,_⟩ _
  refine KB (KA ?_)
  refine oA ?_
  refine KC ?_
  refine KB (KA ?_)
  refine oS (cF rfl en_12 rfl (fun w hw=>c_One 1 w dc) ?_)
  refine oS (cF rfl en_19 rfl (fun w hw=>c_eSharedN R 13 cv13 1 ⟨#[4,2,84]⟩ _ _ w cv13_is dc dc dc aw25_g hok.on hR) ?_)
  refine oM ?_
  refine oP (Det.extract rfl rfl) ?_
  refine oP (Det.extract rfl rfl) ?_
  refine oA ?_
  refine oA ?_
  refine KC ?_
  refine KB (KA ?_)
  refine oS (cF rfl en_12 rfl (fun w hw=>c_One 0 w dc) ?_)
  refine oS (cF rfl en_19 rfl (fun w hw=>c_eShared_key none 13 cv13 0 ⟨#[4,2,84]⟩ w cv13_is zero_w9 (.inl rfl)) ?_)
  refine oM ?_
  refine oP (Det.extract rfl rfl) ?_
  refine oP (Det.extract rfl rfl) ?_
  refine oA ?_
  refine oA ?_
  refine KC ?_
  refine KB (KA ?_)
  refine oS (cF rfl en_12 rfl (fun w hw=>c_One 1 w dc) ?_)
  refine oS (cF rfl en_19 rfl (fun w hw=>c_eShared_pt none 13 cv13 1 ⟨#[0]⟩ 0 0 2102 w cv13_is dc dc dc aw25_0 dc) ?_)
  refine oM ?_
  refine oP (Det.extract rfl rfl) ?_
  refine oP (Det.extract rfl rfl) ?_
  refine oA ?_
  refine oA ?_
  refine KC ?_
  refine KB (KA ?_)
  refine oS (cF rfl en_12 rfl (fun w hw=>c_One 1 w dc) ?_)
  refine oS (cF rfl en_19 rfl (fun w hw=>c_eShared_none none 0 1 ⟨#[0]⟩ w rfl) ?_)
  refine oM ?_
  refine oP (Det.extract rfl rfl) ?_
  refine oP (Det.extract rfl rfl) ?_
  refine oA ?_
  refine oA ?_
  refine KC ?_
  refine KB (KA ?_)
  refine oM ?_
  refine oP (KG (Det.eqs rfl rfl) (congrArg Value.bool (eq_str_t (hR2)))) ?_
  refine oM ?_
  refine oGM ?_
  refine oGS (cF rfl en_20 rfl (fun w hw=>c_Num _ w) ?_)
  refine oGP (KD (v:=.bool true) rfl rfl (br_t (Ky (b:=0)) (by first|rfl|assumption|omega|(simp; done)))) ?_
  refine oP (KY rfl rfl) ?_
  refine oM ?_
  refine oGM ?_
  refine oGS (cF rfl en_20 rfl (fun w hw=>c_Num _ w) ?_)
  refine oGP (KD (v:=.bool true) rfl rfl (br_t (Ky (b:=2501)) (by first|rfl|assumption|omega|(simp; done)))) ?_
  refine oP (KY rfl rfl) ?_
  refine oM ?_
  refine oGM ?_
  refine oGS (cF rfl en_20 rfl (fun w hw=>c_Num _ w) ?_)
  refine oGP (KD (v:=.bool true) rfl rfl (br_t (Ky (b:=2502)) (by first|rfl|assumption|omega|(simp; done)))) ?_
  refine oP (KY rfl rfl) ?_
  refine oM ?_
  refine oGM ?_
  refine oGS (cF rfl en_20 rfl (fun w hw=>c_Num _ w) ?_)
  refine oGP (KD (v:=.bool true) rfl rfl (br_t (Ky (b:=2500)) (by first|rfl|assumption|omega|(simp; done)))) ?_
  refine oP (KY rfl rfl) ?_
  refine oA ?_
  refine KC (KK ?_)
  refine ⟨[_],.cons rfl .nil,fun a w' hr=>⟨?_,hr.fr.below⟩⟩
  rfl
end Go.Proofs.YtlmiolnccgjjjaaGreat
set_option linter.unusedVariables false
set_option linter.unusedSimpArgs false
set_option maxRecDepth 20000
namespace Go.Proofs.YtlmiolnccgjjjaaGreat
open Go Go.RowKit
open Grp
theorem c_r_PutE (s:ByteArray) (n:Nat) (Q:CQ) (V:Cv) (q r:NV) (X Y:Nat) (i sh:Bool) (w:World) (hc:(crvI Q V).holds w) (hok:V.Ok) (hq:(numT q X).holds w) (hr:(numT r Y).holds w) (hX:D.nw X≤1000) (hY:D.nw Y≤1000) (hs:pStr V X Y i sh = s) (hn:pErr V X Y i = n):Calls Tryz.prog 17 ([.agg (crvL Q V).toArray,rpV (numV q X) (numV r Y) i,.bool sh]:List Value).toArray w (fun e w'=>e = .returned (.tuple #[.string s,.int .i64 ((n:Nat):Int)])∧Below w.heap.size w w'):=by
  subst hs hn; exact c_r_Put2 Q V q r X Y i sh w hc hok hq hr hX hY
theorem pm_one {V:Cv} (hok:V.Ok) {P:Pt V.p} (hP:On V.A V.B P):pmul V.A P 1 = P:=by
  show padd V.A .inf P = P
  exact hok.inf_add hP
theorem get_three (V:Cv) (s:ByteArray):(getT V s).2.2 = 0∨getT V s = (0,0,2101)∨getT V s = (0,0,2102):=by
  unfold getT
  split
  · split
    · exact .inl rfl
    · exact .inr (.inl rfl)
  · split
    · split
      · exact .inl rfl
      · exact .inr (.inl rfl)
    · exact .inr (.inr rfl)
theorem on_aff {V:Cv} (hok:V.Ok) {X Y:Nat} (h:onB V.p V.a V.b X Y false = true):∃ x y:Fin V.p,x.val = X∧y.val = Y∧On V.A V.B (.aff x y):=by
  obtain ⟨P,hP,h1,h2,h3⟩:=onB_pt (p:=V.p) h
  cases P with
  | inf=>cases h3
  | aff x y=>exact ⟨x,y,h1,h2,hP⟩
theorem zero_get {V:Cv} (hok:V.Ok):getT V ⟨#[0]⟩ = (0,0,2102):=by
  have h2:b0 ⟨#[0]⟩ = 0:=rfl
  exact get_form (fun e=>by omega) (fun e=>by omega)
theorem get_dec {V:Cv} (hok:V.Ok) (s:ByteArray):(∃ x y:Fin V.p,getT V s = (x.val,y.val,0)∧On V.A V.B (.aff x y))∨(∃ n,getT V s = (0,0,n)∧n≠0):=by
  rcases get_three V s with h|h|h
  · left
    have e:getT V s = ((getT V s).1,(getT V s).2.1,0):=Prod.ext rfl (Prod.ext rfl h)
    obtain ⟨h1,-⟩:=put_get hok e
    obtain ⟨x,y,hx,hy,ho⟩:=on_aff hok h1
    exact ⟨x,y,by rw [hx,hy]; exact e,ho⟩
  · exact .inr ⟨_,h,by decide⟩
  · exact .inr ⟨_,h,by decide⟩
theorem c_EcdhOne (id:Int) (k:Nat) (bad:ByteArray) (w:World) (hk:k<18446744073709551616) (hsl:bad.size<9223372036854775808):Calls Tryz.prog 4 ([.int .i64 id,.int .u64 ((k:Nat):Int),.string bad]:List Value).toArray w (fun e w'=>e = .returned (.bool true)∧Below w.heap.size w w'):=by
  obtain ⟨V,h⟩:=cvI_idx id
  obtain ⟨hok,hid⟩:=cvI_ok h
  have h2:=cvI_id h
  obtain ⟨hb5,hb521,hba,hbb,hbx,hby,hbn,hbo,hbo2,hbb1,hbn1⟩:=hok.bounds
  have hsz:=hok.sz
  have hsp:=hsz.p
  have hsa:=hsz.a
  have hsb:=hsz.b
  have hp0:V.p≠0:=by omega
  have hpp:0<V.p:=by omega
  have hm17:∀ k,D.nw (k%V.p)≤17:=fun k=>Nat.le_trans (D.nw_mono (Nat.le_of_lt (Nat.mod_lt k hpp))) hsp
  have hpW:V.p<W9:=KAB hb521
  have hnW:V.n<W9:=KAB hbn
  have hxW:=Nat.lt_trans hbx hpW
  have hyW:=Nat.lt_trans hby hpW
  have hsn:=hsz.n
  have h17:∀ {A:Nat},A<V.p→D.nw A≤100000:=fun h=>Nat.le_trans (nw_521 (Nat.lt_trans h hb521)) dc
  have hnp:=nbp_72 hok
  obtain ⟨P,hPe⟩:∃ P,pmul V.A V.G k = P:=⟨_,rfl⟩
  have hP:On V.A V.B P:=hPe ▸ hok.mul hok.on k
  have hdk:=nw_w9_dig (u64_w9 hk)
  have h1k:∀ {A:Nat},A<V.p→D.nw A≤1000:=fun h=>Nat.le_trans (nw_521 (Nat.lt_trans h hb521)) dc
  refine Ka (N:=134) (rs:=[.tmp 6]) [] Tryz.func4 rfl Tryz.ntmps4 Tryz.results4 (Nb rfl) trivial rfl ?_
  show LCode _ _ _ ⟨_,_⟩ _
  refine KB (KA ?_)
  refine oA ?_
  refine KC ?_
  refine KB ?_
  refine KB (KA ?_)
  refine oS (cF rfl en_8 rfl (fun w hw=>c_awake25 w) ?_)
  refine oP (KG (KAN rfl) (show _ = Value.bool false from rfl)) ?_
  refine KC ?_
  refine KI rfl ?_
  refine KL ?_
  refine KB (KA ?_)
  refine oM ?_
  refine oP (KG (Det.conv Tryz.underlying3 Tryz.underlying33 rfl) (uidx_eq _)) ?_
  refine oP (KD rfl rfl (br_rem64 (b:=15) om)) ?_
  refine oP (KAb Tryz.underlying33 Tryz.underlying3 rfl om) ?_
  refine oP (KD rfl rfl (Kj (a:=1) om)) ?_
  refine oS (KAR (Post:=fun v its=>∃ Q,v = .tuple #[.agg (crvL Q V).toArray,.bool true]∧its = [crvI Q V]) (first:=[]) rfl en_9 rfl (Nb rfl) (fun w1 hw hs=>(c_r_Get _ V w1 h).mono fun e w' ⟨Q,h1,h2,h3,h4⟩=>⟨_,_,⟨Q,rfl,rfl⟩,h1,KAV h4 (by intro x hx; simp at hx; subst hx; exact h2) (by intro x hx; simp at hx; subst hx; rfl) (by intro x hx k hk; simp at hx; subst hx; exact .inl (h3 k hk))⟩) ?_)
  rintro _ _ ⟨Q,rfl,rfl⟩
  refine oM ?_
  refine oP (Det.extract rfl rfl) ?_
  refine oP (Det.extract rfl rfl) ?_
  refine oS (mk (KN zr_30) (fun b7=>?_))
  refine KO rfl (sA rfl rfl sz_30 (by repeat (first|exact Kc|refine KZ rfl ?_)) (hl:=by rfl) (h:=?_))
  refine oA ?_
  refine KC ?_
  refine KB ?_
  refine rD [8] ?_
  refine aD 0 rfl (dL rfl (hv:=by exact KE Tryz.underlying30 rfl sz_30)) ?_
  refine aM 1 ?_
  refine aD 4 rfl (dL rfl (hv:=by exact KE Tryz.underlying30 rfl sz_30)) ?_
  refine LAny.toP ?_
  refine KAE 7 rfl (.inl zr_35) (Nb rfl) rfl rfl rfl ?_
  refine Kn 2 rfl rfl rfl (Nb rfl) (by kernel_rfl) rfl (Kr (first:=[]) rfl en_12 rfl (fun w hw=>c_One k w hk)) ?_
  rintro _ _ ⟨rfl,rfl⟩
  refine Kn 3 rfl rfl rfl (Nb rfl) (by kernel_rfl) rfl (LExt.callZ (first:=[]) rfl en_11 rfl (fun w hw hs=>(c_n_From (k) (u64_w9 hk) w).mono fun e w' h=>Kw (Old.nil _) hs h)) ?_
  rintro _ _ ⟨qk,rfl,rfl,hnk⟩
  refine Kn 5 rfl rfl rfl (Nb rfl) (by kernel_rfl) rfl (LExt.callZ (first:=[]) rfl en_13 rfl (fun w hw hs=>(c_r_GP Q V w (mC hw) hok).mono fun e w' h=>Num2R.q (Old.one (x:=crvI Q V) mM rfl) hs h)) ?_
  rintro _ _ ⟨qga,qgb,rfl,rfl,hnga,hngb⟩
  refine Kn 6 rfl rfl rfl (Nb rfl) (by kernel_rfl) rfl (LExt.callZ (first:=[]) rfl en_10 rfl (fun w hw hs=>(c_r_Times Q V qk (k) qga qgb (V.G) (P) w (mC hw) hok (mC hw) om (mC hw) (mC hw) (hok.on) (hPe)).mono fun e w' h=>Num2R.q (Old.pt mM mM (Old.nil _)) hs h)) ?_
  rintro _ _ ⟨qta,qtb,rfl,rfl,hnta,hntb⟩
  refine pE (fun b9=>?_)
  refine KAT ?_
  refine aL 8 rfl (sA rfl rfl sz_35 (by repeat (first|exact Kc|refine KZ rfl ?_)) (hl:=by rfl) (h:=?_))
  refine aE ?_
  refine KB ?_
  refine KB ?_
  rcases P with _|⟨x,y⟩
  ·
    refine KA ?_
    refine oM ?_
    refine oP (KG (KAN rfl) (show _ = Value.bool false from rfl)) ?_
    refine oM ?_
    refine oGP (KF (o':=2) Tryz.underlying35 rfl rfl rfl sz_4 dc) ?_
    refine KAS rfl rfl (dL rfl (hv:=KJ Tryz.underlying4 rfl (by first|rfl|exact KX _ _ _ om|exact KU _ om|exact KS _ om|exact dv_m _ _ _ om))) (Nb rfl) ?_
    refine oP (KV rfl rfl) ?_
    refine KC ?_
    refine KT rfl ?_
    refine KB (KA ?_)
    refine oM ?_
    refine oA ?_
    refine KC (KK ?_)
    refine ⟨[_],.cons rfl .nil,fun a w' hr=>⟨?_,hr.fr.below⟩⟩
    rfl
  ·
    have hon:=aff_on hP
    obtain ⟨hxp,hyp⟩:=on_lt hon
    have hx9:=Nat.lt_trans hxp hpW
    have hy9:=Nat.lt_trans hyp hpW
    have r1:coB V (xv (pmul V.A (.aff x y) 1)) = coB V x.val:=by rw [pm_one hok hP]; rfl
    refine KA ?_
    refine oM ?_
    refine oP (KG (KAN rfl) (show _ = Value.bool false from rfl)) ?_
    refine oM ?_
    refine oGP (KF (o':=2) Tryz.underlying35 rfl rfl rfl sz_4 dc) ?_
    refine KAS rfl rfl (dL rfl (hv:=KJ Tryz.underlying4 rfl (by first|rfl|exact KX _ _ _ om|exact KU _ om|exact KS _ om|exact dv_m _ _ _ om))) (Nb rfl) ?_
    refine oP (KV rfl rfl) ?_
    refine KC ?_
    refine KI rfl ?_
    refine KL ?_
    refine KB (KA ?_)
    refine oD (dL rfl (hv:=by exact KE Tryz.underlying30 rfl sz_30)) ?_
    refine oD (dL rfl (hv:=by exact KE Tryz.underlying35 rfl sz_35)) ?_
    refine oS (cF rfl en_17 rfl (fun w hw=>c_r_PutE (putS V x.val y.val true) 0 Q V qta qtb x.val y.val false true w (mC hw) hok (mC hw) (mC hw) (h1k x.isLt) (h1k y.isLt) (pStr_on true hon).1 (pStr_on true hon).2) ?_)
    refine oM ?_
    refine oP (Det.extract rfl rfl) ?_
    refine oP (Det.extract rfl rfl) ?_
    refine oA ?_
    refine oA ?_
    refine KC ?_
    refine KB ?_
    refine rD [] ?_
    refine aP 0 rfl (KF (o':=0) Tryz.underlying30 rfl rfl rfl sz_3 dc) ?_
    refine aD 1 rfl (dL rfl (hv:=KJ Tryz.underlying3 rfl (by first|rfl|exact KX _ _ _ om|exact KU _ om|exact KS _ om|exact dv_m _ _ _ om))) ?_
    refine aM 3 ?_
    refine aO 2 rfl (cF rfl en_12 rfl (fun w hw=>c_One 1 w dc) ?_)
    refine aO 4 rfl (cF rfl en_19 rfl (fun w hw=>c_eSharedN (coB V x.val) V.id V (1) (putS V x.val y.val true) x y w h2 dc om (putS_size hnp _ _ _) (get_put hok _ hon) hP r1) ?_)
    refine aM 5 ?_
    refine aP 6 rfl (Det.extract rfl rfl) ?_
    refine aP 7 rfl (Det.extract rfl rfl) ?_
    refine aA 8 ?_
    refine aA 9 ?_
    refine aE ?_
    refine KB ?_
    refine rD [] ?_
    refine aP 0 rfl (KF (o':=0) Tryz.underlying35 rfl rfl rfl sz_28 dc) ?_
    refine aD 1 rfl (dL rfl (hv:=KJ Tryz.underlying28 rfl (by first|rfl|exact KX _ _ _ om|exact KU _ om|exact KS _ om|exact dv_m _ _ _ om))) ?_
    refine aD 2 rfl (dL rfl (hv:=by exact KE Tryz.underlying30 rfl sz_30)) ?_
    refine aO 3 rfl (cF rfl en_21 rfl (fun w hw=>c_r_Size Q V w (mC hw) hsz) ?_)
    refine aO 4 rfl (cF rfl en_22 rfl (fun w hw=>c_n_BytesOK qta x.val (nby V.p) w (mC hw) (Nat.le_trans (h1k x.isLt) dc) hnp (nby_le x.isLt)) ?_)
    refine aM 5 ?_
    refine aP 6 rfl (Det.extract rfl rfl) ?_
    refine aP 7 rfl (Det.extract rfl rfl) ?_
    refine aA 8 ?_
    refine aA 9 ?_
    refine aE ?_
    refine KB ?_
    rcases get_dec hok bad with ⟨bx,by_,hz,hbo⟩|⟨n,hz,hn0⟩
    ·
      refine KA ?_
      refine oD (dL rfl (hv:=by exact KE Tryz.underlying30 rfl sz_30)) ?_
      refine oM ?_
      refine oS (cZ rfl en_23 rfl (fun w hw hs=>(c_r_Point (bx.val,by_.val,0) Q V bad w (mC hw) hok hsl hz).mono fun e w' h=>Num2R.q (Old.nil _) hs h) ?_)
      rintro _ _ ⟨qza,qzb,rfl,rfl,hnza,hnzb⟩
      refine oM ?_
      refine oP (Det.extract rfl rfl) ?_
      refine oP (Det.extract rfl rfl) ?_
      refine oS (mk (KN zr_35) (fun b16=>?_))
      refine KO rfl (sA rfl rfl sz_35 (by repeat (first|exact Kc|refine KZ rfl ?_)) (hl:=by rfl) (h:=?_))
      refine oA ?_
      refine KC ?_
      refine KB ?_
      refine rD [] ?_
      refine aP 0 rfl (KF (o':=0) Tryz.underlying30 rfl rfl rfl sz_3 dc) ?_
      refine aD 1 rfl (dL rfl (hv:=KJ Tryz.underlying3 rfl (by first|rfl|exact KX _ _ _ om|exact KU _ om|exact KS _ om|exact dv_m _ _ _ om))) ?_
      refine aM 3 ?_
      refine aO 2 rfl (cF rfl en_12 rfl (fun w hw=>c_One 1 w dc) ?_)
      refine aO 4 rfl (cF rfl en_19 rfl (fun w hw=>c_eSharedN (coB V (xv (pmul V.A (.aff bx by_) 1))) V.id V (1) (bad) bx by_ w h2 dc om hsl hz hbo rfl) ?_)
      refine aM 5 ?_
      refine aP 6 rfl (Det.extract rfl rfl) ?_
      refine aP 7 rfl (Det.extract rfl rfl) ?_
      refine aA 8 ?_
      refine aA 9 ?_
      refine aE ?_
      refine KB (KA ?_)
      refine oP (KF (o':=0) Tryz.underlying30 rfl rfl rfl sz_3 dc) ?_
      refine oD (dL rfl (hv:=KJ Tryz.underlying3 rfl (by first|rfl|exact KX _ _ _ om|exact KU _ om|exact KS _ om|exact dv_m _ _ _ om))) ?_
      refine oP (KG (Ki pl_25 zr_25 rfl rfl) (show _ = natV 0 by unfold natV natL; rw [← vec_zeros 9])) ?_
      refine oM ?_
      refine oS (cF rfl en_19 rfl (fun w hw=>c_eShared_key none V.id V 0 bad w h2 zero_w9 (.inl rfl)) ?_)
      refine oM ?_
      refine oP (Det.extract rfl rfl) ?_
      refine oP (Det.extract rfl rfl) ?_
      refine oA ?_
      refine oA ?_
      refine KC ?_
      refine KB ?_
      refine rD [] ?_
      refine aP 0 rfl (KF (o':=0) Tryz.underlying30 rfl rfl rfl sz_3 dc) ?_
      refine aD 1 rfl (dL rfl (hv:=KJ Tryz.underlying3 rfl (by first|rfl|exact KX _ _ _ om|exact KU _ om|exact KS _ om|exact dv_m _ _ _ om))) ?_
      refine aO 2 rfl (cF rfl en_12 rfl (fun w hw=>c_One 1 w dc) ?_)
      refine aO 3 rfl (cF rfl en_19 rfl (fun w hw=>c_eShared_pt none V.id V 1 ⟨#[0]⟩ 0 0 2102 w h2 dc om dc (zero_get hok) dc) ?_)
      refine aM 4 ?_
      refine aP 5 rfl (Det.extract rfl rfl) ?_
      refine aP 6 rfl (Det.extract rfl rfl) ?_
      refine aA 7 ?_
      refine aA 8 ?_
      refine aE ?_
      refine KB (KA ?_)
      refine oM ?_
      refine oS (cF rfl en_20 rfl (fun w hw=>c_Num _ w) ?_)
      refine oP (KD (v:=.bool true) rfl rfl (br_t (Ky (b:=0)) (by first|rfl|assumption|omega|(simp; done)))) ?_
      refine oM ?_
      refine oGM ?_
      refine oGM ?_
      refine oGP (KG (Det.eqs rfl rfl) (congrArg Value.bool (eq_str_t (rfl)))) ?_
      refine oP (KY rfl rfl) ?_
      refine oM ?_
      refine oGM ?_
      refine oGS (cF rfl en_20 rfl (fun w hw=>c_Num _ w) ?_)
      refine oGP (KD (v:=.bool false) rfl rfl (br_f (Ky (b:=2502)) dc)) ?_
      refine oGM ?_
      refine oGP (KD (v:=.bool false) rfl rfl (br_f (br_neq (b:=0)) (fun h=>h rfl))) ?_
      refine oGP (KG (Det.eqb Tryz.underlying4 rfl rfl) (show _ = Value.bool true by simp)) ?_
      refine oP (KY rfl rfl) ?_
      refine oM ?_
      refine oGM ?_
      refine oGP (KD (v:=.bool true) rfl rfl (br_t (Ky (b:=0)) (rfl))) ?_
      refine oGM ?_
      refine oK ?_
      refine oK ?_
      refine oGP (KY rfl rfl) ?_
      refine oP (KY rfl rfl) ?_
      refine oM ?_
      refine oGM ?_
      refine oGS (cF rfl en_20 rfl (fun w hw=>c_Num _ w) ?_)
      refine oGP (KD (v:=.bool true) rfl rfl (br_t (Ky (b:=2501)) (by first|rfl|assumption|omega|(simp; done)))) ?_
      refine oP (KY rfl rfl) ?_
      refine oM ?_
      refine oGM ?_
      refine oGS (cF rfl en_20 rfl (fun w hw=>c_Num _ w) ?_)
      refine oGP (KD (v:=.bool true) rfl rfl (br_t (Ky (b:=2502)) (by first|rfl|assumption|omega|(simp; done)))) ?_
      refine oP (KY rfl rfl) ?_
      refine oA ?_
      refine KC (KK ?_)
      refine ⟨[_],.cons rfl .nil,fun a w' hr=>⟨?_,hr.fr.below⟩⟩
      rfl
    ·
      refine KA ?_
      refine oD (dL rfl (hv:=by exact KE Tryz.underlying30 rfl sz_30)) ?_
      refine oM ?_
      refine oS (cZ rfl en_23 rfl (fun w hw hs=>(c_r_Point (0,0,n) Q V bad w (mC hw) hok hsl hz).mono fun e w' h=>Num2R.q (Old.nil _) hs h) ?_)
      rintro _ _ ⟨qza,qzb,rfl,rfl,hnza,hnzb⟩
      refine oM ?_
      refine oP (Det.extract rfl rfl) ?_
      refine oP (Det.extract rfl rfl) ?_
      refine oS (mk (KN zr_35) (fun b16=>?_))
      refine KO rfl (sA rfl rfl sz_35 (by repeat (first|exact Kc|refine KZ rfl ?_)) (hl:=by rfl) (h:=?_))
      refine oA ?_
      refine KC ?_
      refine KB ?_
      refine rD [] ?_
      refine aP 0 rfl (KF (o':=0) Tryz.underlying30 rfl rfl rfl sz_3 dc) ?_
      refine aD 1 rfl (dL rfl (hv:=KJ Tryz.underlying3 rfl (by first|rfl|exact KX _ _ _ om|exact KU _ om|exact KS _ om|exact dv_m _ _ _ om))) ?_
      refine aM 3 ?_
      refine aO 2 rfl (cF rfl en_12 rfl (fun w hw=>c_One 1 w dc) ?_)
      refine aO 4 rfl (cF rfl en_19 rfl (fun w hw=>c_eShared_pt none V.id V 1 bad 0 0 n w h2 dc om hsl hz hn0) ?_)
      refine aM 5 ?_
      refine aP 6 rfl (Det.extract rfl rfl) ?_
      refine aP 7 rfl (Det.extract rfl rfl) ?_
      refine aA 8 ?_
      refine aA 9 ?_
      refine aE ?_
      refine KB (KA ?_)
      refine oP (KF (o':=0) Tryz.underlying30 rfl rfl rfl sz_3 dc) ?_
      refine oD (dL rfl (hv:=KJ Tryz.underlying3 rfl (by first|rfl|exact KX _ _ _ om|exact KU _ om|exact KS _ om|exact dv_m _ _ _ om))) ?_
      refine oP (KG (Ki pl_25 zr_25 rfl rfl) (show _ = natV 0 by unfold natV natL; rw [← vec_zeros 9])) ?_
      refine oM ?_
      refine oS (cF rfl en_19 rfl (fun w hw=>c_eShared_key none V.id V 0 bad w h2 zero_w9 (.inl rfl)) ?_)
      refine oM ?_
      refine oP (Det.extract rfl rfl) ?_
      refine oP (Det.extract rfl rfl) ?_
      refine oA ?_
      refine oA ?_
      refine KC ?_
      refine KB ?_
      refine rD [] ?_
      refine aP 0 rfl (KF (o':=0) Tryz.underlying30 rfl rfl rfl sz_3 dc) ?_
      refine aD 1 rfl (dL rfl (hv:=KJ Tryz.underlying3 rfl (by first|rfl|exact KX _ _ _ om|exact KU _ om|exact KS _ om|exact dv_m _ _ _ om))) ?_
      refine aO 2 rfl (cF rfl en_12 rfl (fun w hw=>c_One 1 w dc) ?_)
      refine aO 3 rfl (cF rfl en_19 rfl (fun w hw=>c_eShared_pt none V.id V 1 ⟨#[0]⟩ 0 0 2102 w h2 dc om dc (zero_get hok) dc) ?_)
      refine aM 4 ?_
      refine aP 5 rfl (Det.extract rfl rfl) ?_
      refine aP 6 rfl (Det.extract rfl rfl) ?_
      refine aA 7 ?_
      refine aA 8 ?_
      refine aE ?_
      refine KB (KA ?_)
      refine oM ?_
      refine oS (cF rfl en_20 rfl (fun w hw=>c_Num _ w) ?_)
      refine oP (KD (v:=.bool true) rfl rfl (br_t (Ky (b:=0)) (by first|rfl|assumption|omega|(simp; done)))) ?_
      refine oM ?_
      refine oGM ?_
      refine oGM ?_
      refine oGP (KG (Det.eqs rfl rfl) (congrArg Value.bool (eq_str_t (rfl)))) ?_
      refine oP (KY rfl rfl) ?_
      refine oM ?_
      refine oGM ?_
      refine oGS (cF rfl en_20 rfl (fun w hw=>c_Num _ w) ?_)
      refine oGP (KD (v:=.bool true) rfl rfl (br_t (Ky (b:=2502)) (rfl))) ?_
      refine oGM ?_
      refine oGP (KD (v:=.bool true) rfl rfl (br_t (br_neq (b:=0)) om)) ?_
      refine oGP (KG (Det.eqb Tryz.underlying4 rfl rfl) (show _ = Value.bool true by simp)) ?_
      refine oP (KY rfl rfl) ?_
      refine oM ?_
      refine oGM ?_
      refine oGP (KD (v:=.bool false) rfl rfl (br_f (Ky (b:=0)) om)) ?_
      refine oGM ?_
      refine oGM ?_
      refine oGP (KG (Det.eqs rfl rfl) (congrArg Value.bool (eq_str_t (rfl)))) ?_
      refine oGP (KV rfl rfl) ?_
      refine oP (KY rfl rfl) ?_
      refine oM ?_
      refine oGM ?_
      refine oGS (cF rfl en_20 rfl (fun w hw=>c_Num _ w) ?_)
      refine oGP (KD (v:=.bool true) rfl rfl (br_t (Ky (b:=2501)) (by first|rfl|assumption|omega|(simp; done)))) ?_
      refine oP (KY rfl rfl) ?_
      refine oM ?_
      refine oGM ?_
      refine oGS (cF rfl en_20 rfl (fun w hw=>c_Num _ w) ?_)
      refine oGP (KD (v:=.bool true) rfl rfl (br_t (Ky (b:=2502)) (by first|rfl|assumption|omega|(simp; done)))) ?_
      refine oP (KY rfl rfl) ?_
      refine oA ?_
      refine KC (KK ?_)
      refine ⟨[_],.cons rfl .nil,fun a w' hr=>⟨?_,hr.fr.below⟩⟩
      rfl
end Go.Proofs.YtlmiolnccgjjjaaGreat
set_option maxRecDepth 100000
namespace Go.Proofs.YtlmiolnccgjjjaaGreat
open Go
def ioChars:List Char:=([104,97,114,110,101,115,115,32,52,50,50,53,51,49,101,49,49,48,50,102,100,99,52,51,99,102,49,102,99,102,54,100,51,97,53,50,97,50,98,98,55,56,56,99,55,56,48,52,102,54,48,54,99,55,54,55,101,100,97,52,97,49,52,101,56,57,49,50,48,52,57,54,32,99,117,116,32,97,116,32,99,117,114,118,101,116,47,99,117,114,118,101,116,108,97,119,50,53,46,69,99,100,104,84,117,114,110,101,100,32,99,117,114,118,101,116,47,99,117,114,118,101,116,108,97,119,50,53,46,69,99,100,104,79,110,101,32,99,117,114,118,101,116,47,99,117,114,118,101,116,108,97,119,50,53,46,69,99,100,104,84,105,110,121,32,99,117,114,118,101,116,47,99,117,114,118,101,116,108,97,119,50,53,46,69,99,100,104,115,32,99,117,114,118,101,116,47,99,117,114,118,101,116,108,97,119,50,53,46,69,99,100,104,66,108,105,110,100]:List Nat).map Char.ofNat
theorem io_lit:Tryz.prog.initOrder = String.ofList ioChars:=by kernel_rfl
theorem io_list:Tryz.prog.initOrder.toList = ioChars:=by rw [io_lit,String.toList_ofList]
def cutW:List Char:=([99,117,116]:List Nat).map Char.ofNat
def ioRest:List (List Char):=(wordsSigns ioChars).drop 3
theorem io_words:behindMainWord (wordsSigns ioChars) = cutW :: ioRest:=by kernel_rfl
theorem io_strip (r:List (List Char)):stripLifts liftWords (cutW :: r) = ([],cutW :: r):=by kernel_rfl
theorem no_later:Tryz.prog.laysLater = false:=by kernel_rfl
theorem no_reflect:Tryz.prog.bearsReflect = false:=by kernel_rfl
theorem door_fits:Tryz.prog.doorFits [] = true:=by kernel_rfl
theorem and2 {a b:Bool} (h:a = true) (k:b = true):(a && b) = true:=by rw [h,k]; rfl
theorem or_right {a b:Bool} (h:b = true):(a || b) = true:=by rw [h]; cases a <;> rfl
theorem cut_is : (cutW == "cut".toList) = true := by kernel_rfl
theorem cut_gc : (cutW == "gc".toList) = false := by kernel_rfl
theorem cut_spec : (cutW == "spec".toList) = false := by kernel_rfl
theorem cut_carried : (cutW == "carried".toList) = false := by kernel_rfl
theorem head_carried (r : List (List Char)) : ((cutW :: r).head? == some "carried".toList) = false := cut_carried
theorem enter_of (P:Program) {r:List (List Char)} (h:behindMainWord (wordsSigns P.initOrder.toList) = cutW :: r) (h1:P.laysLater = false) (h2:P.bearsReflect = false) (h3:P.doorFits [] = true):P.mayEnter = true:=by
  unfold Program.mayEnter
  rw [h]
  dsimp only
  refine or_right (and2 (and2 (and2 (and2 ?_ ?_) ?_) ?_) ?_)
  · rw [io_strip]; exact cut_is
  · rw [io_strip,h1]; rfl
  · rw [io_strip,h2]; rfl
  · rw [io_strip]; rfl
  · rw [io_strip]; exact h3
theorem lifts_of (P:Program) {r:List (List Char)} (h:behindMainWord (wordsSigns P.initOrder.toList) = cutW :: r):(false == P.liftsFinal) = true:=by
  have hl:P.headLifts = []:=by
    unfold Program.headLifts
    rw [h,io_strip]
    simp only [ite_self]
  unfold Program.liftsFinal
  rw [h,hl]
  dsimp only
  rw [head_carried,Bool.false_and]
  rfl
theorem make_of (P:Program) {r:List (List Char)} (h:behindMainWord (wordsSigns P.initOrder.toList) = cutW :: r):(P.make == some .cut) = true:=by
  have:P.make = some .cut:=by
    unfold Program.make
    rw [h]
    dsimp only
    rw [if_neg (by rw [cut_gc,cut_spec]; exact fun h=>by cases h),if_pos (by rw [cut_is]; rfl)]
  rw [this]; rfl
theorem io_all:behindMainWord (wordsSigns Tryz.prog.initOrder.toList) = cutW :: ioRest:=by rw [io_list,io_words]
theorem fact_enter:Tryz.prog.mayEnter = true:=enter_of _ io_all no_later no_reflect door_fits
theorem fact_lifts:(false == Tryz.prog.liftsFinal) = true:=lifts_of _ io_all
theorem fact_make:(Tryz.prog.make == some .cut) = true:=make_of _ io_all
theorem fact_laid:laidOutB Tryz.prog = true:=by kernel_rfl
theorem fact_maps:mapsRowed Tryz.prog = true:=by kernel_rfl
theorem fact_heard:Tryz.prog.stopsHeard = true:=by kernel_rfl
end Go.Proofs.YtlmiolnccgjjjaaGreat
